/-
  Texts that the proof needs, joined: part 3.
-/
import Derived.Test.YtjomdboiibakiaaGreatDoorUnB
import Derived.Conc.DeferLaws
import Derived.Conc.AtomicLaws2
import Derived.Conc.SmallLaws
import Derived.Laws.LoneSync
import Derived.Conc.EventLaws
set_option linter.unusedSimpArgs false
set_option linter.unusedVariables false
set_option maxHeartbeats 4000000
namespace Go.Sl
open Go.Proofs.Tryz
section
open Go.Conc
def fJ(P:bR){α:Type}:Sem α->Option α
 |.pure a=>some a
 |.program k=>fJ P (k P)
 |_=>none
theorem lF{P:bR}{α:Type}{s:Sem α}{v:α}(h:fJ P s=some v)(w:World)(es:Array Event):s.runT P w es=(.ok v w,es):=by
 induction s generalizing es with
 |pure a=>obtain rfl:=bY h;rfl
 |program k ih=>exact ih P h es
 |_=>cases h
theorem O2{P:bR}{α β:Type}{s:Sem α}{f:α->Sem β}{a:α}(h:fJ P s=some a):fJ P (s.bind f)=fJ P (f a):=by
 induction s with
 |pure b=>obtain rfl:=bY h;rfl
 |program k ih=>exact ih P h
 |_=>cases h
theorem br{P:bR}{α β:Type}{s:Sem α}{f:α->Sem β}{a:α}{b:β}(h:fJ P s=some a)(k:fJ P (f a)=some b):fJ P (s >>= f)=some b:=(O2 h).trans k
structure Mt(P:bR)(ao:Bool)(Z:World->Prop)(W:Nat->aQ->Prop):Prop where
 s:∀ (q:Nat) (g g':aQ),g.status=.running->(∀ w,Z w->stepG P ao g w=.go g' w #[])->W q g'->W (q+1) g
 mono:∀ (q m:Nat) (g:aQ),W q g->q<=m->W m g
section
variable{P:bR}{ao:Bool}{Z:World->Prop}{W:Nat->aQ->Prop}{q:Nat}
variable{fn:bM}{kd:Kd}{n:Nat}{e:Nat->Value}{ds:List dW}{k:List Item}{cs:List Frame}
theorem Mt.fZ(M:Mt P ao Z W):∀ (m:Nat) (k:List Item),W q (gr fn kd n e ds (ctl m k) cs)->W (q+m) (gr fn kd n e ds k cs)
 |0,_,h=>h
 |m+1,k,h=>by
  unfold ctl at h;split at h
  ·exact M.s _ _ _ rfl (λw _=>by simp[gr,aV,stepG,stepG.exec]) (M.fZ m _ h)
  ·exact M.s _ _ _ rfl (λw _=>by simp[gr,aV,stepG,stepG.exec]) (M.fZ m _ h)
  ·exact M.s _ _ _ rfl (λw _=>by simp[gr,aV,stepG,stepG.exec]) (M.fZ m _ h)
  ·rename_i c k';split at h
   ·rename_i hc;have:=fA hc;simp only at this;rw[this];exact M.s _ _ _ rfl (λw _=>by simp[gr,aV,stepG,stepG.exec]) (M.fZ m _ h)
   ·rename_i hc;obtain⟨l,e⟩:=fA hc;rw[e];exact M.s _ _ _ rfl (λw _=>by simp[gr,aV,stepG,stepG.exec]) (M.fZ m _ h)
   ·rename_i hc;have:=fA hc;simp only at this;rw[this];exact M.s _ _ _ rfl (λw _=>by simp[gr,aV,stepG,stepG.exec]) (M.fZ m _ h)
   ·rename_i hc;have:=fA hc;simp only at this;rw[this];exact M.s _ _ _ rfl (λw _=>by simp[gr,aV,stepG,stepG.exec]) (M.fZ m _ h)
   ·rename_i hc;have:=fA hc;simp only at this;rw[this];exact M.s _ _ _ rfl (λw _=>by simp[gr,aV,stepG,stepG.exec]) (M.fZ m _ h)
   ·rename_i hc;split at h
    ·rename_i k'' hx;have:=fA hc;simp only at this;rw[this];exact M.s _ _ _ rfl (λw _=>by simp[gr,aV,stepG,stepG.exec,hx]) (M.fZ m _ h)
    ·exact M.mono _ _ _ h ak
   ·exact M.mono _ _ _ h ak
  ·exact M.mono _ _ _ h ak
theorem Mt.go(M:Mt P ao Z W){k':List Item}(h:W q (gr fn kd n e ds k' cs))(hk:ctl 60 k=k':=by rfl):W (q+60) (gr fn kd n e ds k cs):=M.fZ 60 k (hk▸h)
theorem Mt.cond(M:Mt P ao Z W){c:cU}{x y:Code}{t:Bool}(hc:ev n e c=.bool t)(h:W q (gr fn kd n e ds (.code (if t then x else y)::k) cs)):W (q+1) (gr fn kd n e ds (.code (.cond c x y)::k) cs):=
 M.s _ _ _ rfl (λw _=>by have:=uF fn kd n e ds (.code (.cond c x y)::k);simp only[aV]at this;simp[gr,aV,stepG,stepG.exec,this,hc]) h
theorem Mt.KY(M:Mt P ao Z W){c:Code}{k':List Item}(h:W q (gr fn kd n e ds k' cs))(hc:ck c=.cond:=by rfl)(hv:ev n e (cC c)=.bool true:=by rfl)(hk:ctl 60 (.code (cT c)::k)=k':=by rfl):W (q+60+1) (gr fn kd n e ds (.code c::k) cs):=by have:=fA hc;simp only at this;rw[this];exact M.cond hv (M.fZ 60 _ (hk▸h))
theorem Mt.CA(M:Mt P ao Z W){c:Code}{k':List Item}(h:W q (gr fn kd n e ds k' cs))(hc:ck c=.cond:=by rfl)(hv:ev n e (cC c)=.bool false:=by rfl)(hk:ctl 60 (.code (cE c)::k)=k':=by rfl):W (q+60+1) (gr fn kd n e ds (.code c::k) cs):=by have:=fA hc;simp only at this;rw[this];exact M.cond hv (M.fZ 60 _ (hk▸h))
theorem Mt.rg(M:Mt P ao Z W){c:Code}(l:List Nat)(h:W q (gr fn kd n e ds (.inRegion (cO c) l::k) cs))(hc:ck c=.region:=by rfl)(hl:List.range (cO c).size=l:=by rfl):W (q+1) (gr fn kd n e ds (.code c::k) cs):=by have:=fA hc;simp only at this;rw[this];exact M.s _ _ _ rfl (λw _=>by simp[gr,aV,stepG,stepG.exec]) (hl▸h)
theorem Mt.lp(M:Mt P ao Z W){c:Code}(h:W q (gr fn kd n e ds (.code (cB c):: .inLoop (cB c)::k) cs))(hc:ck c=.loop:=by rfl):W (q+1) (gr fn kd n e ds (.code c::k) cs):=by have:=fA hc;simp only at this;rw[this];exact M.s _ _ _ rfl (λw _=>by simp[gr,aV,stepG,stepG.exec]) h
theorem Mt.Wg(M:Mt P ao Z W){c:Code}(h:W q (gr fn kd n e ds (.code c:: .inLoop c::k) cs)):W (q+1) (gr fn kd n e ds (.inLoop c::k) cs):=
 M.s _ _ _ rfl (λw _=>by simp[gr,aV,stepG,stepG.exec]) h
variable{ops:Array Oper}{i:Nat}{aa:List Nat}{dst:Option Nat}{t:Nat}{ty:aR}{pos:String}{af:Array Edge}{gd:Option (Nat×Bool)}{x y z:cU}{v u:Value}
theorem stepG_op{o:Oper}(ho:aZ ops i=some o)(hw:aN ops n e o.guard=true)(w:World):stepG P ao (gr fn kd n e ds (.inRegion ops (i::aa)::k) cs) w=stepG.apply P true (aV fn kd n e ds (.inRegion ops (i::aa)::k)) cs none (execOp (ev n e) o) w:=by rw[<- dw]at ho;rw[<- eh]at hw;have he:=uF fn kd n e ds (.inRegion ops (i::aa)::k);simp only[aV]at he;simp[gr,aV,stepG,stepG.exec,stepG.oper,Frame.oper?,ho,hw,he]
theorem Be{o:Oper}(ho:aZ ops i=some o)(hw:aN ops n e o.guard=true)(hy:fJ P (execOp (ev n e) o)=some (.value v))(w:World):stepG P ao (gr fn kd n e ds (.inRegion ops (i::aa)::k) cs) w=.go (gr fn kd n (di e o.dst v) ds (.inRegion ops aa::k) cs) w #[]:=by rw[stepG_op ho hw];have r:=lF hy w #[];have yr:=kd.early;simp only[stepG.apply,r,eQ];rw[ct (by rw[dw];exact ho)];simp[aV,GStep.after,gr,seen_none,yr]
theorem K8{o:Oper}{x:dW}(ho:aZ ops i=some o)(hw:aN ops n e o.guard=true)(hy:fJ P (execOp (ev n e) o)=some (.defer x))(w:World):stepG P ao (gr fn kd n e ds (.inRegion ops (i::aa)::k) cs) w=.go (gr fn kd n (di e o.dst undef) (x::ds) (.inRegion ops aa::k) cs) w #[]:=by rw[stepG_op ho hw];have r:=lF hy w #[];have yr:=kd.early;have hf:=ct (fn:=fn) (kd:=kd) (n:=n) (e:=e) (ds:=x::ds) (k:=k) (aa:=aa) (o:=o) (by rw[dw];exact ho) undef;simp only[aV]at hf;simp only[stepG.apply,r,eQ,aV];rw[hf];simp[aV,yr,GStep.after,gr,seen_none]
theorem Bf{o:Oper}{f:bM}{args:Array Value}(ho:aZ ops i=some o)(hw:aN ops n e o.guard=true)(hy:fJ P (execOp (ev n e) o)=some (.enter f args))(w:World):stepG P ao (gr fn kd n e ds (.inRegion ops (i::aa)::k) cs) w=.go (iL P f args .pR (aV fn kd n e ds (.inRegion ops (i::aa)::k)::cs)) w #[]:=by rw[stepG_op ho hw];have r:=lF hy w #[];have yr:=kd.early;simp only[stepG.apply,r,eQ];simp[aV,yr,GStep.after,iL,seen_none];rfl
theorem stepG_comm{o:Oper}{cases:Array CommCase}{sh:CommShape}{bl:Bool}(ho:aZ ops i=some o)(hw:aN ops n e o.guard=true)(hy:fJ P (execOp (ev n e) o)=some (.comm cases bl sh))(w:World):stepG P ao (gr fn kd n e ds (.inRegion ops (i::aa)::k) cs) w=.comm (gr fn kd n e ds (.inRegion ops (i::aa)::k) cs) cases bl sh w #[]:=by rw[stepG_op ho hw];have r:=lF hy w #[];have yr:=kd.early;simp only[stepG.apply,r,eQ];simp[aV,yr,GStep.after,gr,seen_none]
def child(P:bR)(d:dW):aQ:={frame:={(default:Frame)with fn:=P.funcs.size,defers:=[d],mode:=.panicking [goexitEntry]},callers:=[],status:=.running,dying:=none}
theorem ET{o:Oper}{x:dW}(ho:aZ ops i=some o)(hw:aN ops n e o.guard=true)(hy:fJ P (execOp (ev n e) o)=some (.spawn x))(hx:∃ f cap,x.target=.fn f cap)(w:World):stepG P ao (gr fn kd n e ds (.inRegion ops (i::aa)::k) cs) w=.spawn (gr fn kd n (di e o.dst undef) ds (.inRegion ops aa::k) cs) (child P x) w #[]:=by rw[stepG_op ho hw];have r:=lF hy w #[];have yr:=kd.early;simp only[stepG.apply,r,eQ];rw[ct (by rw[dw];exact ho)];obtain⟨tg,ar⟩:=x;obtain⟨f,cap,rfl⟩:∃ f cap,tg=.fn f cap:=hx;simp[aV,yr,GStep.after,gr,seen_none,child]
theorem Mt.op(M:Mt P ao Z W){o:Oper}(ho:aZ ops i=some o)(hw:aN ops n e o.guard=true)(hy:fJ P (execOp (ev n e) o)=some (.value v))(h:W q (gr fn kd n (di e o.dst v) ds (.inRegion ops aa::k) cs)):W (q+1) (gr fn kd n e ds (.inRegion ops (i::aa)::k) cs):=
 M.s _ _ _ rfl (λw _=>Be ho hw hy w) h
theorem Mt.no(M:Mt P ao Z W){op:Op}(ho:aZ ops i=some ⟨dst,op,ty,pos,af,gd⟩)(h:W q (gr fn kd n (di e dst undef) ds (.inRegion ops aa::k) cs))(hw:aN ops n e gd=false:=by rfl):W (q+1) (gr fn kd n e ds (.inRegion ops (i::aa)::k) cs):=by
 refine M.s _ _ _ rfl (λw _=>?_) h;rw[<- dw]at ho;have nV:Region.wanted (⟨dst,op,ty,pos,af,gd⟩:Oper) (yielded ops (tm n e))=false:=by rw[eh];exact hw
 have hf:=ct (fn:=fn) (kd:=kd) (n:=n) (e:=e) (ds:=ds) (k:=k) (aa:=aa) ho undef;simp only[aV]at hf;simp only[gr,aV,stepG,stepG.exec,ho,lJ,kt,nV,gR,eY,hf]
theorem Mt.mv(M:Mt P ao Z W)(ho:aZ ops i=some ⟨some t,.move x,ty,pos,af,gd⟩)(h:W q (gr fn kd n (put e t v) ds (.inRegion ops aa::k) cs))(hx:ev n e x=v:=by conv=>{lhs;whnf})(hw:aN ops n e gd=true:=by rfl):W (q+1) (gr fn kd n e ds (.inRegion ops (i::aa)::k) cs):=
 M.op ho hw (by unfold execOp;simp only[hx];rfl) h
theorem Mt.lh(M:Mt P ao Z W)(ho:aZ ops i=some ⟨some t,.assign x,ty,pos,af,gd⟩)(h:W q (gr fn kd n (put e t v) ds (.inRegion ops aa::k) cs))(hx:ev n e x=v:=by conv=>{lhs;whnf})(hw:aN ops n e gd=true:=by rfl):W (q+1) (gr fn kd n e ds (.inRegion ops (i::aa)::k) cs):=
 M.op ho hw (by unfold execOp;simp only[hx];rfl) h
theorem Mt.nc(M:Mt P ao Z W){a:Addr}(ho:aZ ops i=some ⟨some t,.nilCheck x,ty,pos,af,gd⟩)(h:W q (gr fn kd n (put e t (.pointer (some a))) ds (.inRegion ops aa::k) cs))(hx:ev n e x=.pointer (some a):=by rfl)(hw:aN ops n e gd=true:=by rfl):W (q+1) (gr fn kd n e ds (.inRegion ops (i::aa)::k) cs):=
 M.op ho hw (by unfold execOp;simp only[hx];rfl) h
theorem fx{t:aR}{u:TypeDesc}(h:P.underlying t=some u):fJ P (underlying t)=some u:=by unfold underlying;refine br (a:=P) rfl ?_;simp only[h];rfl
theorem m5{t:aR}{i:TypeInfo}(h:P.info? t=some i):fJ P (typeInfo t)=some i:=by unfold typeInfo;refine br (a:=P) rfl ?_;simp only[h];rfl
theorem EU{t:aR}{z:Nat}(h:∃ i,P.info? t=some i/\i.size=z):fJ P (sizeOf t)=some z:=by obtain⟨i,h,rfl⟩:=h;unfold sizeOf;exact br (m5 h) rfl
theorem qR{t:aR}{v:Value}(h:∃ i,P.info? t=some i/\i.zero=some v):fJ P (zeroValue t)=some v:=by obtain⟨i,h,hz⟩:=h;unfold zeroValue;refine br (m5 h) ?_;rw[hz];rfl
theorem Mt.fa(M:Mt P ao Z W){s f o b off:Nat}[c:Fl P s f o](ho:aZ ops i=some ⟨some t,.fieldAddr s x f,ty,pos,af,gd⟩)(h:W q (gr fn kd n (put e t (.pointer (some ⟨b,off+o,none⟩))) ds (.inRegion ops aa::k) cs))
  (hx:ev n e x=.pointer (some ⟨b,off,none⟩):=by rfl) (hw:aN ops n e gd=true:=by rfl):W (q+1) (gr fn kd n e ds (.inRegion ops (i::aa)::k) cs):=
 M.op ho hw (by obtain⟨fs,fl,z,h1,h2,rfl,⟨inf,h4,h5⟩,h6⟩:=c.h;unfold execOp;simp only[hx,Instr.fieldAt];refine br (a:=.pointer (some ⟨b,off+fl.offset,none⟩)) (br (fx h1) ?_) rfl;simp only[h2,Instr.sureAddr];refine br (a:=(⟨b,off,none⟩:Addr)) rfl ?_;unfold fieldPlace;refine br (a:=⟨b,off+fl.offset,none⟩) ?_ rfl;refine br (EU ⟨inf,h4,h5⟩) ?_;rw[aq h6,gS];rfl) h
theorem Mt.ext(M:Mt P ao Z W){vs:Array Value}{ix:Nat}(ho:aZ ops i=some ⟨some t,.extract x ix,ty,pos,af,gd⟩)(h:W q (gr fn kd n (put e t v) ds (.inRegion ops aa::k) cs))
  (hx:ev n e x=.tuple vs:=by rfl) (hv:vs[ix]? =some v:=by rfl) (hw:aN ops n e gd=true:=by rfl):W (q+1) (gr fn kd n e ds (.inRegion ops (i::aa)::k) cs):=
 M.op ho hw (by unfold execOp;simp only[hx,Instr.extract,hv];rfl) h
theorem Mt.cv(M:Mt P ao Z W){k1 k2:IntKind}{s1 s2:aR}{p r:Int}[c1:Ik P s1 k1][c2:Ik P s2 k2](ho:aZ ops i=some ⟨some t,.convert s1 s2 x,ty,pos,af,gd⟩)(h:W q (gr fn kd n (put e t (.int k2 r)) ds (.inRegion ops aa::k) cs))
  (hx:ev n e x=.int k1 p:=by rfl) (hr:k2.wrap p=r:=by rfl) (hw:aN ops n e gd=true:=by rfl):W (q+1) (gr fn kd n e ds (.inRegion ops (i::aa)::k) cs):=
 M.op ho hw (by unfold execOp;simp only[hx];refine br (a:=.int k2 r) ?_ rfl;unfold convert;refine br (fx c1.h) (br (fx c2.h) ?_);simp only[Conv.intToInt,hr];rfl) h
theorem Mt.bo(M:Mt P ao Z W){op:BinOp}{tt t2:aR}{k1 k2:IntKind}{p r:Int}(ho:aZ ops i=some ⟨some t,.binOp op tt x y t2,ty,pos,af,gd⟩)(h:W q (gr fn kd n (put e t v) ds (.inRegion ops aa::k) cs))
  (hx:ev n e x=.int k1 p:=by rfl) (hy:ev n e y=.int k2 r:=by rfl) (hv:fJ P (binOp op tt (.int k1 p) (.int k2 r))=some v:=by rfl) (hw:aN ops n e gd=true:=by rfl):W (q+1) (gr fn kd n e ds (.inRegion ops (i::aa)::k) cs):=
 M.op ho hw (by unfold execOp;simp only[hx,hy];refine br (a:=v) ?_ rfl;refine br (a:=()) ?_ hv;unfold eqGuard;cases op<;>rfl) h
theorem Mt.pk(M:Mt P ao Z W){b:Bool}(ho:aZ ops i=some ⟨some t,.pick x y z,ty,pos,af,gd⟩)(h:W q (gr fn kd n (put e t v) ds (.inRegion ops aa::k) cs))(hx:ev n e x=.bool b:=by rfl)(hy:(if b then ev n e y else ev n e z)=v:=by conv=>{lhs;whnf})(hw:aN ops n e gd=true:=by rfl):W (q+1) (gr fn kd n e ds (.inRegion ops (i::aa)::k) cs):=
 M.op ho hw (by unfold execOp;simp only[hx];cases b<;>(subst hy;rfl)) h
theorem Mt.Sy(M:Mt P ao Z W){s1 s2 t1:aR}{z:Nat}{ad:Addr}[c1:Pt P s1 t1][c2:Up P s2][c3:Cz P t1 z](hZ:∀ w,Z w->∃ v,w.cell? ad=some v)(ho:aZ ops i=some ⟨some t,.convert s1 s2 x,ty,pos,af,gd⟩)(h:W q (gr fn kd n (put e t (.pointer (some ad))) ds (.inRegion ops aa::k) cs))
  (hz:z≠0:=by decide) (hx:ev n e x=.pointer (some ad):=by rfl) (hw:aN ops n e gd=true:=by rfl):W (q+1) (gr fn kd n e ds (.inRegion ops (i::aa)::k) cs):=by
 refine M.s _ _ _ rfl (λw nV=>?_) h;obtain⟨v,hv⟩:=hZ w nV;obtain⟨inf,hi,OK⟩:=c3.h;have hsz:(P.info? t1).map (λi=>decide (i.size=0))=some false:=by rw[hi];simp[OK,hz]
 rw[stepG_op ho hw];have key:(execOp (ev n e) ⟨some t,.convert s1 s2 x,ty,pos,af,gd⟩).runT P w #[]=(.ok (.value (.pointer (some ad))) w,#[]):=by have k2:(convert s1 s2 (.pointer (some ad))).runT P w #[]=(.ok (.pointer (some ad)) w,#[]):=Prod.ext ((Sem.runT_fst P _ w #[]).trans (run_convert_to_unsafe c1.h c2.h hsz hv)) (events_convert_to_unsafe c1.h c2.h hsz hv #[]);unfold execOp;simp only[hx];show((convert s1 s2 (.pointer (some ad))).bind λv=>Sem.pure (Next.value v)).runT P w #[]=_;rw[Sem.runT_bind',k2];rfl
 have yr:=kd.early;simp only[stepG.apply,key,eQ];rw[ct (by rw[dw];exact ho)];simp[aV,GStep.after,gr,yr,di,seen_none]
theorem kM{f:bM}{fu:Func}{c:Code}{nf:Nat}[b:Body P f fu c nf](args:Array Value):fJ P (callFunc f args)=some (.enter f args):=by unfold callFunc;refine br (a:=P) rfl ?_;rw[b.func];simp only[b.name,b.body,Option.isNone_some,gR,eY];rfl
theorem Mt.Sz(M:Mt P ao Z W){f:bM}{fu:Func}{c:Code}{nf:Nat}[b:Body P f fu c nf]{fo:cU}{args:Array cU}{ga:Array aR}{vl:List Value}(ho:aZ ops i=some ⟨dst,.call ⟨.value fo,args,ga⟩,ty,pos,af,gd⟩)
  (h:W q (gr f .pR nf (yp vl.toArray) [] [.code c] (aV fn kd n e ds (.inRegion ops (i::aa)::k)::cs)))
  (hw:aN ops n e gd=true:=by rfl) (hf:ev n e fo=.func (.func f) #[] #[]:=by rfl) (hv:args.toList.map (ev n e)=vl:=by rfl) (hn:Nat.ble vl.length nf=true:=by rfl):W (q+1) (gr fn kd n e ds (.inRegion ops (i::aa)::k) cs):=by
 have tC:args.map (ev n e)=vl.toArray:=by rw[<- hv,<- qv,ts]
 refine M.s _ _ _ rfl (λw _=>Bf (f:=f) (args:=vl.toArray) ho hw (by
  unfold execOp;simp only;refine br (a:=⟨.fn (.func f) #[],vl.toArray⟩) ?_ ?_
  ·unfold resolve;simp only[hf,Deferred.ofValue,tC,Ab];rfl
  ·show fJ P (callFunc f (vl.toArray++#[]))=_;rw[w9];exact kM _) w) ?_
 have:=mG (P:=P) (kd:=.pR) (args:=vl.toArray) (cs:=aV fn kd n e ds (.inRegion ops (i::aa)::k)::cs) b.func b.body (by rw[b.tmps];exact xa (by simpa using hn));rw[this,b.tmps];exact h
theorem Mt.oF(M:Mt P ao Z W){f:bM}{fo:cU}{args:Array cU}{ga:Array aR}{vl:List Value}(ho:aZ ops i=some ⟨dst,.defer ⟨.value fo,args,ga⟩,ty,pos,af,gd⟩)
  (h:W q (gr fn kd n (di e dst undef) (⟨.fn (.func f) #[],vl.toArray⟩::ds) (.inRegion ops aa::k) cs))
  (hw:aN ops n e gd=true:=by rfl) (hf:ev n e fo=.func (.func f) #[] #[]:=by rfl) (hv:args.toList.map (ev n e)=vl:=by rfl):W (q+1) (gr fn kd n e ds (.inRegion ops (i::aa)::k) cs):=by
 have tC:args.map (ev n e)=vl.toArray:=by rw[<- hv,<- qv,ts]
 refine M.s _ _ _ rfl (λw _=>K8 (x:=⟨.fn (.func f) #[],vl.toArray⟩) ho hw (by unfold execOp;simp only;refine br (a:=⟨.fn (.func f) #[],vl.toArray⟩) ?_ rfl;unfold resolve;simp only[hf,Deferred.ofValue,tC,Ab];rfl) w) h
theorem Mt.ret(M:Mt P ao Z W)(h:W q (qF fn kd n e ds (.code .ret::k) cs)):W (q+1) (gr fn kd n e ds (.code .ret::k) cs):=
 M.s _ _ _ rfl (λw _=>by simp[gr,qF,qe,aV,stepG,stepG.exec]) h
theorem Mt.fin(M:Mt P ao Z W)(h:W q (qF fn kd n e ds [] cs)):W (q+1) (gr fn kd n e ds [] cs):=
 M.s _ _ _ rfl (λw _=>by simp[gr,qF,qe,aV,stepG,stepG.exec]) h
theorem qS{fu:Func}{v:Value}(h:sj fu n e=some v):fJ P (results fu (tm n e))=some v:=by
 have key:results fu (tm n e)=(pure v:Sem Value):=by
  unfold sj at h;have hl:fu.results=fu.results.toList.toArray:=by simp
  generalize fu.results.toList=l at h hl;split at h<;>first|(cases h;done)|skip
  all_goals(simp only[x6]at h;subst h)
  all_goals simp[results,hl,<- pe, -Array.getD_eq_getD_getElem?]
 rw[key];rfl
theorem Mt.home(M:Mt P ao Z W){fu:Func}{cc:Code}{n':Nat}[b:Body P fn fu cc n']{kR:List Item}{c:Frame}{v:Value}(h:W q (e8 c cs v))(hv:sj fu n e=some v:=by rfl):W (q+1) (qF fn .pR n e [] kR (c::cs)):=
 M.s _ _ _ rfl (λw _=>by have r:=lF (qS (P:=P) hv) w #[];simp only[qF,qe,aV,stepG,unwind,b.func,r,doReturn,Kd.k];simp[GStep.after,e8,seen_none]) h
theorem Mt.JY(M:Mt P ao Z W){fu:Func}{cc:Code}{n':Nat}[b:Body P fn fu cc n']{kR:List Item}{c:Frame}{v:Value}(h:W q (wI c cs))(hv:sj fu n e=some v:=by rfl)(hc:c.mode=.returning\/c.mode=.panicking [goexitEntry]:=by first|exact .inl rfl|exact .inr rfl):W (q+1) (qF fn .oF n e [] kR (c::cs)):=
 M.s _ _ _ rfl (λw _=>by have r:=lF (qS (P:=P) hv) w #[];simp only[qF,qe,aV,stepG,unwind,b.func,r,doReturn,Kd.k];rcases hc with hc|hc<;>simp[GStep.after,wI,seen_none,hc,goexitEntry]) h
theorem Mt.dcall(M:Mt P ao Z W){f:bM}{fu:Func}{c:Code}{nf:Nat}[b:Body P f fu c nf]{cap args:Array Value}{todo:List Item}(h:W q (gr f .oF nf (yp (args++cap)) [] [.code c] (qe fn kd n e ds todo::cs)))(hn:Nat.ble (args++cap).size nf=true:=by rfl):W (q+1) (qF fn kd n e (⟨.fn (.func f) cap,args⟩::ds) todo cs):=by have e1:=mG (P:=P) (kd:=.oF) (args:=args++cap) (cs:=qe fn kd n e ds todo::cs) b.func b.body (by rw[b.tmps];exact xa hn);refine M.s _ _ (iL P f (args++cap) .oF (qe fn kd n e ds todo::cs)) rfl (λw _=>?_) (by rw[e1,b.tmps];exact h);have r:=lF (kM (P:=P) (f:=f) (args++cap)) w #[];simp only[qF,qe,aV,stepG,unwind,callDeferred,invoke,r];simp[GStep.after,iL,Kd.k,seen_none]
def base(P:bR)(ds:List dW):Frame:={(default:Frame)with fn:=P.funcs.size,defers:=ds,mode:=.panicking [goexitEntry]}
theorem Mt.child(M:Mt P ao Z W){f:bM}{fu:Func}{c:Code}{nf:Nat}[b:Body P f fu c nf]{cap args:Array Value}(h:W q (gr f .oF nf (yp (args++cap)) [] [.code c] [base P []]))(hn:Nat.ble (args++cap).size nf=true:=by rfl):W (q+1) (child P ⟨.fn (.func f) cap,args⟩):=by have e1:=mG (P:=P) (kd:=.oF) (args:=args++cap) (cs:=[base P []]) b.func b.body (by rw[b.tmps];exact xa hn);refine M.s _ _ (iL P f (args++cap) .oF [base P []]) rfl (λw _=>?_) (by rw[e1,b.tmps];exact h);have r:=lF (kM (P:=P) (f:=f) (args++cap)) w #[];simp only[Sl.child,stepG,unwind,callDeferred,invoke,r];simp[GStep.after,iL,Kd.k,seen_none,base]
theorem K9{d:Nat}(hd:d=0):QuitsD P 1 d (wI (base P []) []):=by refine .inr ⟨rfl,{frame:=base P [],callers:=[],status:=.finished,dying:=none},#[],by simp,λw=>?_,⟨rfl,by rw[deafBehind_nil];exact hd⟩⟩;have h0:(default:Frame).todo=[]:=rfl;simp[wI,base,stepG,unwind,Frame.catches,h0,goexitEntry]
end
theorem QuitsD.EV{P:bR}:∀ {n m d:Nat} {g:aQ},QuitsD P n d g->n<=m->QuitsD P m d g
 |0,0,_,_,h,_=>h
 |0,m+1,_,_,h,_=>.inl h
 |n+1,0,_,_,_,hm=>absurd hm ak
 |n+1,m+1,_,_,h,hm=>h.imp id λ⟨h1,g',es,h2,h3,h4⟩=>⟨h1,g',es,h2,h3,QuitsD.EV h4 ak⟩
theorem Cl.mono{P:bR}{G:qo}:∀ {n m:Nat} {x:St} {g:aQ},Cl P G n x g->n<=m->Cl P G m x g
 |0,_,_,_,h,_=>h.elim
 |n+1,0,_,_,_,hm=>absurd hm ak
 |n+1,m+1,x,g,h,hm=>by
  obtain⟨hs,h⟩:=h;refine⟨hs,?_⟩;rcases h with⟨g',h1,h2⟩|h
  ·exact .inl ⟨g',h1,Cl.mono h2 ak⟩
  ·refine .inr ?_;cases x with
   |rel=>obtain⟨g',h1,h2⟩:=h;exact⟨g',h1,Cl.mono h2 ak⟩
   |xJ=>obtain⟨g',h1,h2⟩:=h;exact⟨g',h1,Cl.mono h2 ak⟩
   |add=>obtain⟨g',h1,h2,h3⟩:=h;exact⟨g',h1,Cl.mono h2 ak,λv wt a b c=>QuitsD.EV (h3 v wt a b c) ak⟩
   |ld=>obtain⟨g',h1,h2⟩:=h;exact⟨g',h1,Cl.mono h2 ak⟩
   |M5=>obtain⟨g',h1,h2⟩:=h;exact⟨g',h1,Cl.mono h2 ak⟩
   |Hj=>obtain⟨h0,g',h1,h2⟩:=h;exact⟨h0,g',h1,QuitsD.EV h2 ak⟩
theorem Mt.JZ{P:bR}{d:Nat}:Mt P false (λ_=>True) λq g=>QuitsD P q d g:=⟨λq g g' hs h k=>.inr ⟨hs,g',#[],by simp,λw=>h w trivial,by rw[deafBehind_nil];exact k⟩,λ_ _ _ h hm=>QuitsD.EV h hm⟩
theorem Mt.cl{P:bR}{G:qo}{x:St}:Mt P false (Gs G) λq g=>Cl P G q x g:=⟨λq g g' hs h k=>⟨hs,.inl ⟨g',h,k⟩⟩,λ_ _ _ h hm=>Cl.mono h hm⟩
theorem Mt.mw{P:bR}{G:qo}{Fin:aQ->Prop}{x:MS}:Mt P true (Gs G) λ_ g=>MW P G Fin x g:=⟨λ_ g g' hs h q=>.mute hs h q,λ_ _ _ h _=>h⟩
theorem Mt.way{P:bR}{ao:Bool}{s:dH}:Mt P ao s.K λq g=>Way P ao s q g:=⟨λq g g' hs h k=>.inr ⟨hs,λw hw=>⟨g',#[],w.drawn,h w hw,by simp,k⟩⟩,λ_ _ _ h hm=>Way.mono h hm⟩
def bs(fn:bM)(kd:Kd):Frame:={(default:Frame)with fn:=fn,kind:=kd.k}
section
variable{P:bR}{ao:Bool}{fn:bM}{kd:Kd}{n:Nat}{e:Nat->Value}{ds:List dW}{k:List Item}{cs:List Frame}
variable{ops:Array Oper}{i:Nat}{aa:List Nat}{dst:Option Nat}{t:Nat}{ty:aR}{pos:String}{af:Array Edge}{gd:Option (Nat×Bool)}{x y z:cU}
variable{f:bM}{fu:Func}{args:Array cU}{ga:Array aR}
theorem jT(todo:List Item):gr fn kd n e ds todo cs=G ((bs fn kd).at ⟨tm n e,ds⟩ todo) cs:=rfl
theorem lG(v:Value):(Act.put ⟨tm n e,ds⟩ dst v)=⟨tm n (di e dst v),ds⟩:=by
 unfold Act.put di;cases dst with
 |none=>rfl
 |some d=>simp only[OG]
theorem iw(x:cU):Act.eval ⟨tm n e,ds⟩ x=ev n e x:=by
 cases x with
 |tmp t=>simp only[Act.eval,ev,pe]
 |_=>rfl
theorem jU:(bs fn kd).kind≠ .early:=by cases kd<;>(intro h;cases h)
theorem yI(m:Mark)[b:ew P f fu (λ_=>do mark m;pure Extern.Race.none_)](ho:aZ ops i=some ⟨dst,.call ⟨.value (.func f),args,ga⟩,ty,pos,af,gd⟩)(hw:aN ops n e gd=true)(hm:∀ g,m≠ .extern g)(w:World):
  stepG P ao (gr fn kd n e ds (.inRegion ops (i::aa)::k) cs) w=.go (gr fn kd n (di e dst (.tuple #[])) ds (.inRegion ops aa::k) cs) w #[zY m]:=by
 rw[jT,jT,<- lG];exact stepG_mark0 m hm (o:=⟨dst,.call ⟨.value (.func f),args,ga⟩,ty,pos,af,gd⟩) (by rw[dw];exact ho) (by rw[eh];exact hw) jU rfl b.func b.name b.body b.nx b.fd
theorem yJ(mk:Addr->Mark)[b:ew P f fu (Extern.Race.marked mk)]{ad:Addr}(ho:aZ ops i=some ⟨dst,.call ⟨.value (.func f),args,ga⟩,ty,pos,af,gd⟩)(hw:aN ops n e gd=true)(hm:∀ ad g,mk ad≠ .extern g)(hx:(args.toList.map (ev n e))[0]? =some (.pointer (some ad)))(w:World):
  stepG P ao (gr fn kd n e ds (.inRegion ops (i::aa)::k) cs) w=.go (gr fn kd n (di e dst (.tuple #[])) ds (.inRegion ops aa::k) cs) w #[zY (mk ad)]:=by
 rw[jT,jT,<- lG];refine stepG_markAt mk hm (o:=⟨dst,.call ⟨.value (.func f),args,ga⟩,ty,pos,af,gd⟩) (by rw[dw];exact ho) (by rw[eh];exact hw) jU rfl b.func b.name b.body b.nx b.fd ?_;have:(args.map (Act.eval ⟨tm n e,ds⟩))=(args.toList.map (ev n e)).toArray:=by rw[show Act.eval ⟨tm n e,ds⟩=ev n e from funext iw,<- qv,ts]
 rw[this];simpa using hx
theorem yK{kk:IntKind}[b:ew P f fu (Extern.Atomic.loadT (.int kk))]{ad:Addr}{v:Int}(ho:aZ ops i=some ⟨dst,.call ⟨.value (.func f),#[x],ga⟩,ty,pos,af,gd⟩)(hw:aN ops n e gd=true)(hx:ev n e x=.pointer (some ad)){w:World}(hc:w.cell? ad=some (.int kk v)):
  stepG P ao (gr fn kd n e ds (.inRegion ops (i::aa)::k) cs) w=.go (gr fn kd n (di e dst (.int kk v)) ds (.inRegion ops aa::k) cs) w #[ar ad]:=by
 rw[jT,jT,<- lG];exact stepG_load_atomic (o:=⟨dst,.call ⟨.value (.func f),#[x],ga⟩,ty,pos,af,gd⟩) (by rw[dw];exact ho) (by rw[eh];exact hw) jU rfl b.func b.name b.body b.nx kk b.fd (by rw[iw];exact hx) hc
theorem O3{kk:IntKind}[b:ew P f fu Extern.Atomic.storeT]{ad:Addr}{v:Int}{u:Value}(ho:aZ ops i=some ⟨dst,.call ⟨.value (.func f),#[x,y],ga⟩,ty,pos,af,gd⟩)(hw:aN ops n e gd=true)(hx:ev n e x=.pointer (some ad))(hy:ev n e y=.int kk v){w:World}(hc:w.cell? ad=some u)(hz:w.frozen? ad=false):
  stepG P ao (gr fn kd n e ds (.inRegion ops (i::aa)::k) cs) w=.go (gr fn kd n (di e dst (.tuple #[])) ds (.inRegion ops aa::k) cs) (w.setCell ad (.int kk v)) #[aw ad]:=by
 rw[jT,jT,<- lG];exact stepG_store_atomic (o:=⟨dst,.call ⟨.value (.func f),#[x,y],ga⟩,ty,pos,af,gd⟩) (by rw[dw];exact ho) (by rw[eh];exact hw) jU rfl b.func b.name b.body b.nx b.fd (by rw[iw];exact hx) (by rw[iw];exact hy) hc hz
theorem O4{kk:IntKind}[b:ew P f fu (Extern.Atomic.update (Op.intArith .add) kk true)]{ad:Addr}{v d:Int}(ho:aZ ops i=some ⟨dst,.call ⟨.value (.func f),#[x,y],ga⟩,ty,pos,af,gd⟩)(hw:aN ops n e gd=true)(hx:ev n e x=.pointer (some ad))(hy:ev n e y=.int kk d){w:World}(hc:w.cell? ad=some (.int kk v))(hz:w.frozen? ad=false):
  stepG P ao (gr fn kd n e ds (.inRegion ops (i::aa)::k) cs) w=.go (gr fn kd n (di e dst (.int kk (kk.wrap (v+d)))) ds (.inRegion ops aa::k) cs) (w.setCell ad (.int kk (kk.wrap (v+d)))) #[ar ad,aw ad]:=by
 rw[jT,jT,<- lG];exact stepG_add_atomic (o:=⟨dst,.call ⟨.value (.func f),#[x,y],ga⟩,ty,pos,af,gd⟩) (by rw[dw];exact ho) (by rw[eh];exact hw) jU rfl b.func b.name b.body b.nx kk b.fd (by rw[iw];exact hx) (by rw[iw];exact hy) hc hz
theorem O5{kk:IntKind}[b:ew P f fu (Extern.Atomic.casT (.int kk))]{ad:Addr}{v d:Int}(ho:aZ ops i=some ⟨dst,.call ⟨.value (.func f),#[x,y,z],ga⟩,ty,pos,af,gd⟩)(hw:aN ops n e gd=true)(hx:ev n e x=.pointer (some ad))(hy:ev n e y=.int kk v)(OK:ev n e z=.int kk d){w:World}(hc:w.cell? ad=some (.int kk v))(hz:w.frozen? ad=false):
  stepG P ao (gr fn kd n e ds (.inRegion ops (i::aa)::k) cs) w=.go (gr fn kd n (di e dst (.bool true)) ds (.inRegion ops aa::k) cs) (w.setCell ad (.int kk d)) #[ar ad,aw ad]:=by
 rw[jT,jT,<- lG];exact stepG_cas_hit (o:=⟨dst,.call ⟨.value (.func f),#[x,y,z],ga⟩,ty,pos,af,gd⟩) (by rw[dw];exact ho) (by rw[eh];exact hw) jU rfl b.func b.name b.body b.nx kk b.fd (by rw[iw];exact hx) (by rw[iw];exact hy) (by rw[iw];exact OK) hc hz
theorem O6{kk:IntKind}[b:ew P f fu (Extern.Atomic.casT (.int kk))]{ad:Addr}{v old d:Int}(ho:aZ ops i=some ⟨dst,.call ⟨.value (.func f),#[x,y,z],ga⟩,ty,pos,af,gd⟩)(hw:aN ops n e gd=true)(hx:ev n e x=.pointer (some ad))(hy:ev n e y=.int kk old)(OK:ev n e z=.int kk d){w:World}(hc:w.cell? ad=some (.int kk v))(hz:w.frozen? ad=false)(eL:¬ v=old):
  stepG P ao (gr fn kd n e ds (.inRegion ops (i::aa)::k) cs) w=.go (gr fn kd n (di e dst (.bool false)) ds (.inRegion ops aa::k) cs) w #[ar ad]:=by
 rw[jT,jT,<- lG];exact stepG_cas_miss (o:=⟨dst,.call ⟨.value (.func f),#[x,y,z],ga⟩,ty,pos,af,gd⟩) (by rw[dw];exact ho) (by rw[eh];exact hw) jU rfl b.func b.name b.body b.nx kk b.fd (by rw[iw];exact hx) (by rw[iw];exact hy) (by rw[iw];exact OK) hc hz eL
theorem yL:args.map (Act.eval ⟨tm n e,ds⟩)=(args.toList.map (ev n e)).toArray:=by rw[show Act.eval ⟨tm n e,ds⟩=ev n e from funext iw,<- qv,ts]
theorem O7[b:ew P f fu Extern.Sync.semacquire]{ad:Addr}{v:Int}(ho:aZ ops i=some ⟨dst,.call ⟨.value (.func f),args,ga⟩,ty,pos,af,gd⟩)(hw:aN ops n e gd=true)(hx:(args.toList.map (ev n e))[0]? =some (.pointer (some ad))){w:World}(hc:w.cell? ad=some (.int .u32 v))(h0:v≠0)(hz:w.frozen? ad=false):
  stepG P ao (gr fn kd n e ds (.inRegion ops (i::aa)::k) cs) w=.go (gr fn kd n (di e dst (.tuple #[])) ds (.inRegion ops aa::k) cs) (w.setCell ad (.int .u32 (v-1))) (semEvents ad):=by
 rw[jT,jT,<- lG];exact stepG_semacquire (o:=⟨dst,.call ⟨.value (.func f),args,ga⟩,ty,pos,af,gd⟩) (by rw[dw];exact ho) (by rw[eh];exact hw) jU rfl b.func b.name b.body b.nx b.fd (by rw[yL];simpa using hx) hc h0 hz
theorem O8[b:ew P f fu Extern.Sync.semacquire]{ad:Addr}(ho:aZ ops i=some ⟨dst,.call ⟨.value (.func f),args,ga⟩,ty,pos,af,gd⟩)(hw:aN ops n e gd=true)(hx:(args.toList.map (ev n e))[0]? =some (.pointer (some ad))){w:World}(hc:w.cell? ad=some (.int .u32 0)):
  stepG P ao (gr fn kd n e ds (.inRegion ops (i::aa)::k) cs) w=.go {gr fn kd n e ds (.inRegion ops (i::aa)::k) cs with status:=.blocked} w #[]:=by
 rw[jT];exact stepG_semacquire_wait (o:=⟨dst,.call ⟨.value (.func f),args,ga⟩,ty,pos,af,gd⟩) (by rw[dw];exact ho) (by rw[eh];exact hw) rfl b.func b.name b.body b.nx b.fd (by rw[yL];simpa using hx) hc
theorem O9[b:ew P f fu Extern.Sync.semrelease]{ad:Addr}{v:Int}(ho:aZ ops i=some ⟨dst,.call ⟨.value (.func f),args,ga⟩,ty,pos,af,gd⟩)(hw:aN ops n e gd=true)(hx:(args.toList.map (ev n e))[0]? =some (.pointer (some ad))){w:World}(hc:w.cell? ad=some (.int .u32 v))(hz:w.frozen? ad=false):
  stepG P ao (gr fn kd n e ds (.inRegion ops (i::aa)::k) cs) w=.go (gr fn kd n (di e dst (.tuple #[])) ds (.inRegion ops aa::k) cs) (w.setCell ad (.int .u32 (IntKind.u32.wrap (v+1)))) (semEvents ad):=by
 rw[jT,jT,<- lG];exact stepG_semrelease (o:=⟨dst,.call ⟨.value (.func f),args,ga⟩,ty,pos,af,gd⟩) (by rw[dw];exact ho) (by rw[eh];exact hw) jU rfl b.func b.name b.body b.nx b.fd (by rw[yL];simpa using hx) hc hz
theorem EW{α β:Type}{s:Sem α}{g:α->Sem β}{a:α}(h:fJ P s=some a)(w:World)(es:Array Event):(s >>= g).runT P w es=(g a).runT P w es:=by
 show(s.bind g).runT P w es=_
 induction s generalizing es with
 |pure b=>obtain rfl:=bY h;rfl
 |program k ih=>exact ih P h es
 |_=>cases h
theorem EX{fn:bM}{es:Array Event}{e:Event}(h:e∈seen P fn es):e∈es:=by rw[seen_def]at h;have:=seen_fold_sub _ es.toList _ #[] e h;simpa using this
theorem EY{tt:aR}{v:Value}{ad:Addr}[a:Ag P tt false](ho:aZ ops i=some ⟨some t,.load tt x,ty,pos,af,gd⟩)(hw:aN ops n e gd=true)(hx:ev n e x=.pointer (some ad)){w:World}(hc:w.cell? ad=some v):
  stepG P ao (gr fn kd n e ds (.inRegion ops (i::aa)::k) cs) w=.go (gr fn kd n (put e t v) ds (.inRegion ops aa::k) cs) w (seen P fn #[⟨.cell ad,false,false⟩]):=by
 rw[stepG_op ho hw];obtain⟨u,hu,hb⟩:=a.h;have adS:fJ P (isAgg tt)=some false:=by unfold isAgg;refine br (fx hu) ?_;cases u<;>first|rfl|(cases hb)
 have key:(execOp (ev n e) ⟨some t,.load tt x,ty,pos,af,gd⟩).runT P w #[]=(.ok (.value v) w,#[⟨.cell ad,false,false⟩]):=by
  unfold execOp;simp only[hx,Instr.loadAt,Instr.sureAddr];have h1:(loadVar tt ad).runT P w #[]=(.ok v w,#[⟨.cell ad,false,false⟩]):=by unfold loadVar;rw[EW adS];simp only[gR,eY,load,Sem.runT,hc];rfl
  show((loadVar tt ad).bind λz=>Sem.pure (Next.value z)).runT P w #[]=_;rw[Sem.runT_bind',h1];rfl
 have yr:=kd.early;simp only[stepG.apply,key,eQ];rw[ct (by rw[dw];exact ho)];simp[aV,GStep.after,gr,yr,di]
end
section
variable{P:bR}{ao:Bool}{s:dH}{fn:bM}{kd:Kd}{n:Nat}{e:Nat->Value}{ds:List dW}{k:List Item}{cs:List Frame}
variable{ops:Array Oper}{i:Nat}{aa:List Nat}{dst:Option Nat}{t:Nat}{ty:aR}{pos:String}{af:Array Edge}{gd:Option (Nat×Bool)}{x y z:cU}
abbrev aan(P:bR)(ao:Bool)(s:dH)(g:aQ):Prop:=∃ n,Way P ao s n g
theorem Pa{q:Nat}{tt:aR}{v:Value}{ad:Addr}[a:Ag P tt false](ho:aZ ops i=some ⟨some t,.load tt x,ty,pos,af,gd⟩)(h:Way P ao s q (gr fn kd n (put e t v) ds (.inRegion ops aa::k) cs))(hm:(ad,v)∈s.mem)(hx:ev n e x=.pointer (some ad):=by rfl)(hw:aN ops n e gd=true:=by rfl):Way P ao s (q+1) (gr fn kd n e ds (.inRegion ops (i::aa)::k) cs):=by refine .inr ⟨rfl,λw hK=>⟨_,_,w.drawn,EY ho hw hx (hK _ hm),λe he=>?_,h⟩⟩;have:=EX he;simp only[pc,gq,mK,fX]at this;exact⟨ad,this,(ad,v),hm,rfl⟩
theorem Wv{m:Nat}{c:Code}(q:∀ t,Way P ao s m (gr fn kd n e ds (.inRegion (cO c) (Region.schedule (P.follows .mixedOrders) (cO c) t)::k) cs))(hc:ck c=.draw:=by rfl):Way P ao s (m+1) (gr fn kd n e ds (.code c::k) cs):=by have:=fA hc;simp only at this;rw[this];refine .inr ⟨rfl,λw hK=>⟨_,#[],w.drawn+1,?_,by simp,q (w.tape w.drawn (.order fn (cI c)))⟩⟩;simp[gr,aV,stepG,stepG.exec,choose,Sem.run,Question.forced,Question.cut];rfl
theorem Ww{o:Oper}(ho:aZ ops i=some o)(hr:s.uA (gr fn kd n e ds (.inRegion ops (i::aa)::k) cs))(hy:fJ P (execOp (ev n e) o)=some (.comm s.cases true s.shape))(hw:aN ops n e o.guard=true):Way P ao s 0 (gr fn kd n e ds (.inRegion ops (i::aa)::k) cs):=
 ⟨_,hr,rfl,rfl,rfl,rfl,#[],by simp,λw _=>stepG_comm ho hw hy w⟩
end
end
section
open Go.Conc
theorem aB.less{P:bR}{ao:Bool}{B B':j9}(hb:BLe B B'){f:bM}{args:Array Value}{A:List HP}{Q:Value->List HP->Prop}(h:aB P ao B' f args A Q):aB P ao B f args A Q:=
 λR C kd d F c cs aJ hr=>h R (C.less hb) kd d F c cs aJ hr
theorem rR{fn:bM}{kd:Kd}{n:Nat}{e:Nat->Value}{ds:List dW}{k:List Item}{cs:List Frame}{ops:Array Oper}{i:Nat}{aa:List Nat}{o:Oper}(ho:aZ ops i=some o)(v:Value):
  Conc.served (gr fn kd n e ds (.inRegion ops (i::aa)::k) cs) v=gr fn kd n (di e o.dst v) ds (.inRegion ops aa::k) cs:=by
 unfold Conc.served gr;simp only;rw[ct (by rw[dw];exact ho)]
structure yM(rd:Nat->aR->Nat->Bool)(s:dH)(H:Array Obj):Prop where
 chans:∀ c,s.has c->∃ k,H[c]? =some (.chan 0 #[] false k k false)
 mem:∀ p∈s.mem,p.1.spot=none/\∃ c ty,H[p.1.block]? =some (.cells c ty (0,0))/\c[p.1.off]? =some p.2/\rd p.1.block ty p.1.off=true
variable{P:bR}{Post:Value->World->Prop}{X:tH}{σ:Gh}{h:Nat}{os:Os}{out:Array (Nat×ByteArray)}{d:Nat}{As aO:List HP}
variable{fn:bM}{kd:Kd}{n:Nat}{e:Nat->Value}{ds:List dW}{k:List Item}{cs:List Frame}
variable{ops:Array Oper}{i:Nat}{aa:List Nat}{dst:Option Nat}{t:Nat}{ty:aR}{pos:String}{af:Array Edge}{gd:Option (Nat×Bool)}{x y:cU}
theorem Pb{rd:Nat->aR->Nat->Bool}{s:dH}{w:World}(hw:s.Wf)(hs:yM rd s w.heap)(ui:∀ l,s.rd l->¬ σ.sh l):nY σ s w:=
 ⟨hw,hs.chans,λp hp=>by obtain⟨h1,c,ty,h2,h3,_⟩:=hs.mem p hp;exact Cv h2 h1 h3,ui⟩
theorem J0{rd:Nat->aR->Nat->Bool}{s:dH}{H:Array Obj}(ha:∀ p∈s.mem,∀ c ty,H[p.1.block]? =some (.cells c ty (0,0))->X.sh ty p.1.off=false)(hs:yM rd s H)(go:GO X σ H):∀ l,s.rd l->¬ σ.sh l:=by rintro l ⟨p,hp,rfl⟩ hl;obtain⟨a,ea,c,ty,h1,h2,_⟩:=go.qA _ hl;obtain rfl:=Loc.cell.inj ea;rw[ha p hp c ty h1]at h2;cases h2
theorem aD.go{x:dW}{o:Oper}(s:dH)(ho:aZ ops i=some o)(hw:aN ops n e o.guard=true)(hy:fJ P (execOp (ev n e) o)=some (.spawn x))(hx:∃ f cap,x.target=.fn f cap)(V1:s.Wf)
  (hs:∀ H,Sat As (hp H)->yM (X.rd 1) s H) (ha:∀ H,Sat As (hp H)->∀ p∈s.mem,∀ c ty,H[p.1.block]? =some (.cells c ty (0,0))->X.sh ty p.1.off=false) (mQ:aan P false s (child P x)) (hn:σ.n≠0) (hnh:σ.n≠h)
  (k':At (aD P Post X (σ.oB s) h os out) 0 As (gr fn kd n (di e o.dst undef) ds (.inRegion ops aa::k) cs)):
  At (aD P Post X σ h os out) 0 As (gr fn kd n e ds (.inRegion ops (i::aa)::k) cs):=λH st hole go w HF qp hu=>by
 subst HF;obtain⟨m,mQ⟩:=mQ;have hS:=hs _ st;refine wH.hire s m #[] rfl (λw₁ q=>ET ho hw hy hx w₁) (λw₁ q=>⟨fI _,λ_ _ h _=>h,λ_ _ _ _ _ h=>h,by simp⟩) rfl (Pb V1 hS (J0 (ha _ st) hS go)) mQ ?_;refine k' _ st ?_ ⟨λj s' hj=>?_,λj s' c hj hc=>?_,λj s' p hj hp=>?_,go.qA,go.bot⟩ w rfl qp hu
 ·show Go.ConcN.upd σ.aU σ.n (some s) h=none;rw[Go.ConcN.upd_ne _ _ (i3 hnh)];exact hole
 ·have hj:Go.ConcN.upd σ.aU σ.n (some s) j=some s':=hj;show j<σ.n+1;by_cases ej:j=σ.n
  ·omega
  ·rw[Go.ConcN.upd_ne _ _ ej]at hj;have:=go.lt j s' hj;omega
 ·have hj:Go.ConcN.upd σ.aU σ.n (some s) j=some s':=hj;by_cases ej:j=σ.n
  ·subst ej;rw[Go.ConcN.upd_same]at hj;obtain rfl:=bY hj;obtain⟨kq,hq⟩:=hS.chans c hc;exact(gQ.1 hq).1
  ·rw[Go.ConcN.upd_ne _ _ ej]at hj;exact go.cl j s' c hj hc
 ·have hj:Go.ConcN.upd σ.aU σ.n (some s) j=some s':=hj;by_cases ej:j=σ.n
  ·subst ej;rw[Go.ConcN.upd_same]at hj;obtain rfl:=bY hj;obtain⟨h1,c,ty,h2,_,h4⟩:=hS.mem p hp;exact⟨h1,c,ty,h2,by unfold tH.rd at h4⊢;rw[aq hn];rwa[aq (by decide)]at h4⟩
  ·rw[Go.ConcN.upd_ne _ _ ej]at hj;exact go.still j s' p hj hp
theorem aD.give{o:Oper}(dI:h<σ.n)(j c kk kc:Nat)(s sH:dH)(v z z':Value)(ho:aZ ops i=some o)(hw:aN ops n e o.guard=true)(hy:fJ P (execOp (ev n e) o)=some (.comm #[scase c v z'] true .send))
  (hj:σ.aU j=some s) (hk:s.cases[kk]? =some (rcase c z)) (lN:∀ i s',σ.aU i=some s'->s'.has c->i=j)
  (hc:qG c (.chan 0 #[] false kc kc false) (.chan 0 #[] false (kc+1) (kc+1) false) As aO)
  (V1:sH.Wf) (hs:∀ H,Sat As (hp H)->yM (X.rd h) sH H) (wD:∀ H,Sat aO (hp H)->yM (X.rd h) sH H) (ha:∀ H,Sat As (hp H)->∀ p∈sH.mem,∀ c ty,H[p.1.block]? =some (.cells c ty (0,0))->X.sh ty p.1.off=false)
  (mQ:aan P (h==0) sH (gr fn kd n (di e o.dst undef) ds (.inRegion ops aa::k) cs))
  (k':∀ r,s.uA r->At (aD P Post X (σ.given h j sH) j os out) 0 aO (Conc.served r (commResult s.cases s.shape kk v true))):
  At (aD P Post X σ h os out) 0 As (gr fn kd n e ds (.inRegion ops (i::aa)::k) cs):=λH st hole go w HF qp hu=>by
 subst HF;obtain⟨m,mQ⟩:=mQ;have hS:=hs _ st;have SA:=hc.has.get st;have KP:j≠h:=λz=>by rw[z,hole]at hj;cases hj
 have JU:Sat aO (hp (w.setChan c 0 #[] false (kc+1) (kc+1) false).heap):=by
  have:=hc.set st;have e1:(w.setChan c 0 #[] false (kc+1) (kc+1) false).heap=w.heap.setIfInBounds c (.chan 0 #[] false (kc+1) (kc+1) false):=by
   have Pc:w.heap[c]? =some (.chan 0 #[] false kc kc false):=SA;have dI:=(gQ.1 Pc).1;apply se;intro b;by_cases eb:c=b
   ·subst eb;rw[heap_setChan_self w Pc,j4 dI]
   ·rw[heap_setChan_ne w _ _ _ _ _ _ eb,gC eb]
  rw[e1];exact this
 have qT:∀ (b:Nat) (cc:Array Value) (tt:aR),w.heap[b]? =some (.cells cc tt (0,0))->(w.setChan c 0 #[] false (kc+1) (kc+1) false).heap[b]? =some (.cells cc tt (0,0)):=λb cc tt hb=>by
  have Pc:w.heap[c]? =some (.chan 0 #[] false kc kc false):=SA;have eb:c≠b:=λz=>by rw[z,hb]at Pc;cases Pc
  rw[heap_setChan_ne w _ _ _ _ _ _ eb];exact hb
 refine wH.give j c kk kc m s sH v z z' #[] rfl hj hk lN (λw₁ q=>stepG_comm ho hw hy w₁) (λw₁ q=>⟨fI _,λ_ _ h _=>h,λ_ _ _ _ _ h=>h,by simp⟩) rfl SA (Pb V1 hS (J0 (ha _ st) hS go)) ?_ (λr hr=>?_)
 ·rw[rR ho];exact mQ
 ·refine k' r hr _ JU ?_ ⟨λi' s' hi=>?_,λi' s' c' hi kx=>?_,λi' s' p hi hp=>?_,λl hl=>?_,by have:=go.bot;simpa[World.setChan,Gh.given]using this⟩ _ rfl qp hu
  ·show Go.ConcN.upd (Go.ConcN.upd σ.aU j none) h (some sH) j=none;rw[Go.ConcN.upd_ne _ _ KP,Go.ConcN.upd_same]
  ·have hi:Go.ConcN.upd (Go.ConcN.upd σ.aU j none) h (some sH) i'=some s':=hi;by_cases ei:i'=h
   ·subst ei;exact dI
   ·rw[Go.ConcN.upd_ne _ _ ei]at hi;by_cases ej:i'=j
    ·subst ej;rw[Go.ConcN.upd_same]at hi;cases hi
    ·rw[Go.ConcN.upd_ne _ _ ej]at hi;exact go.lt i' s' hi
  ·have hi:Go.ConcN.upd (Go.ConcN.upd σ.aU j none) h (some sH) i'=some s':=hi;have hsz:(w.setChan c 0 #[] false (kc+1) (kc+1) false).heap.size=w.heap.size:=by simp[World.setChan]
   rw[hsz];by_cases ei:i'=h
   ·subst ei;rw[Go.ConcN.upd_same]at hi;obtain rfl:=bY hi;obtain⟨kq,hq⟩:=hS.chans c' kx;exact(gQ.1 hq).1
   ·rw[Go.ConcN.upd_ne _ _ ei]at hi;by_cases ej:i'=j
    ·subst ej;rw[Go.ConcN.upd_same]at hi;cases hi
    ·rw[Go.ConcN.upd_ne _ _ ej]at hi;exact go.cl i' s' c' hi kx
  ·have hi:Go.ConcN.upd (Go.ConcN.upd σ.aU j none) h (some sH) i'=some s':=hi;by_cases ei:i'=h
   ·subst ei;rw[Go.ConcN.upd_same]at hi;obtain rfl:=bY hi;obtain⟨h1,c1,La,h2,_,h4⟩:=(wD _ JU).mem p hp;exact⟨h1,c1,La,h2,h4⟩
   ·rw[Go.ConcN.upd_ne _ _ ei]at hi;by_cases ej:i'=j
    ·subst ej;rw[Go.ConcN.upd_same]at hi;cases hi
    ·rw[Go.ConcN.upd_ne _ _ ej]at hi;obtain⟨h1,c1,La,h2,h3⟩:=go.still i' s' p hi hp;exact⟨h1,c1,La,qT _ _ _ h2,h3⟩
  ·obtain⟨a,ea,c1,La,h1,h2⟩:=go.qA l hl;exact⟨a,ea,c1,La,qT _ _ _ h1,h2⟩
theorem yN{H:Array Obj}{x o:Obj}{r:Nat}(h:H[r]? =some o):(H.push x)[r]? =some o:=by obtain⟨h1,h2⟩:=gQ.1 h;rw[VP h1,h2]
def Gh.Au(σ:Gh)(b:Nat)(os:List Nat):Gh:={σ with sh:=λl=>σ.sh l\/∃ o∈os,l=.cell ⟨b,o,none⟩}
theorem aD.bx{tt:aR}{v0:Value}{c:Array Value}(o9:List Nat)(ho:aZ ops i=some ⟨some t,.box tt x,ty,pos,af,gd⟩)(hx:ev n e x=v0)(hc:v0.cells=c)(ui:∀ o∈o9,X.sh tt o=true)(hw:aN ops n e gd=true)
  (k':∀ b,At (aD P Post X (σ.Au b o9) h os out) d (bX b (.cells c tt (0,0))::As) (gr fn kd n (put e t (.pointer (some ⟨b,0,none⟩))) ds (.inRegion ops aa::k) cs)):
  At (aD P Post X σ h os out) d As (gr fn kd n e ds (.inRegion ops (i::aa)::k) cs):=λH st hole go w HF qp hu=>by
 subst HF;refine wH.qA (σ.Au w.heap.size o9).sh (λl hl=>.inl hl) (λl hl hn=>?_) ?_
 ·rcases hl with hl|⟨o,_,rfl⟩
  ·exact absurd hl hn
  ·exact⟨_,rfl,fI _⟩
 ·have sG:∀ w₁,stepG P (h==0) (gr fn kd n e ds (.inRegion ops (i::aa)::k) cs) w₁=.go (gr fn kd n (put e t (.pointer (some ⟨w₁.heap.size,0,none⟩))) ds (.inRegion ops aa::k) cs) {w₁ with heap:=w₁.heap.push (.cells c tt (0,0))} #[]:=λw₁=>by
   rw[stepG_op ho hw];have key:(execOp (ev n e) ⟨some t,.box tt x,ty,pos,af,gd⟩).runT P w₁ #[]=(.ok (.value (.pointer (some ⟨w₁.heap.size,0,none⟩))) {w₁ with heap:=w₁.heap.push (.cells c tt (0,0))},#[]):=by unfold execOp;simp only[hx,Instr.box];subst hc;rfl
   have yr:=kd.early;simp only[stepG.apply,key,eQ];rw[ct (by rw[dw];exact ho)];simp[aV,GStep.after,gr,yr,di,seen_none]
  refine wH.own (λw₁=>gr fn kd n (put e t (.pointer (some ⟨w₁.heap.size,0,none⟩))) ds (.inRegion ops aa::k) cs) (λw₁=>{w₁ with heap:=w₁.heap.push (.cells c tt (0,0))}) (λ_=>#[]) rfl (λw₁ _=>sG w₁) (λw₁ q=>?_) (λw₁ q=>?_)
  ·have hp:∀ (r:Nat) (o:Obj),w₁.heap[r]? =some o->(w₁.heap.push (.cells c tt (0,0)))[r]? =some o:=λr o hr=>yN hr;refine⟨by simp,λr o hr _=>hp r o hr,λi' s p _ _ qT=>?_,by simp⟩;unfold World.cell? at qT⊢;cases hb:w₁.heap[p.1.block]? with
   |none=>rw[hb]at qT;cases qT
   |some o=>rw[hb]at qT;simp only[hp _ _ hb];exact qT
  ·have e1:w₁.heap=w.heap:=q.hp;show wH P Post (σ.Au w.heap.size o9) h (deafBehind d #[]) _ _;rw[deafBehind_nil,e1];refine k' w.heap.size _ (st.push _) hole ⟨go.lt,λi' s' c' hi kx=>by have:=go.cl i' s' c' hi kx;simp;omega,λi' s p hi hp=>?_,λl hl=>?_,by have:=go.bot;simp only[KI];exact Eo this⟩ _ rfl (q.os.trans qp) (q.out.trans hu)
   ·obtain⟨h1,c1,La,h2,h3⟩:=go.still i' s p hi hp;exact⟨h1,c1,La,yN h2,h3⟩
   ·rcases hl with hl|⟨o,hm,rfl⟩
    ·obtain⟨a,ea,c1,La,h1,h2⟩:=go.qA l hl;exact⟨a,ea,c1,La,yN h1,h2⟩
    ·exact⟨_,rfl,c,tt,by simp,ui o hm,go.bot⟩
variable{Wx:List HP}
variable{ga:Array aR}
theorem EZ{ao:Bool}{c kc:Nat}(ho:aZ ops i=some ⟨dst,.call ⟨.builtin .close,#[x],ga⟩,ty,pos,af,gd⟩)(hw:aN ops n e gd=true)(hx:ev n e x=.chan (some c))(tv:(P.funcs[fn]?).any (·.norace)=false){w:World}(hc:w.heap[c]? =some (.chan 0 #[] false kc kc false)):
  stepG P ao (gr fn kd n e ds (.inRegion ops (i::aa)::k) cs) w=.go (gr fn kd n (di e dst (.tuple #[])) ds (.inRegion ops aa::k) cs) (w.setChan c 0 #[] true kc kc false) (closeEvents c):=by
 rw[stepG_op ho hw];have key:(execOp (ev n e) ⟨dst,.call ⟨.builtin .close,#[x],ga⟩,ty,pos,af,gd⟩).runT P w #[]=(.ok (.value (.tuple #[])) (w.setChan c 0 #[] true kc kc false),closeEvents c):=by
  have h1:fJ P (resolve (ev n e) ⟨.builtin .close,#[x],ga⟩ ty)=some ⟨.builtin .close ga ty (#[x].map λa=>a matches .const _),#[.chan (some c)]⟩:=by unfold resolve;simp only[Af,iJ,ml,hx];rfl
  show((resolve (ev n e) ⟨.builtin .close,#[x],ga⟩ ty) >>= λd=>invoke d.target d.args).runT P w #[]=_;rw[EW h1];show((Builtin.close_ ga ty #[.chan (some c)]).bind λv=>Sem.pure (Next.value v)).runT P w #[]=_;have adT:(Builtin.close_ ga ty #[.chan (some c)]).runT P w #[]=(.ok (.tuple #[]) (w.setChan c 0 #[] true kc kc false),closeEvents c):=Prod.ext ((Sem.runT_fst P _ w #[]).trans (Go.run_close_open ga ty hc)) (Go.events_close_open (es:=#[]) ga ty hc);rw[Sem.runT_bind',adT];rfl
 have yr:=kd.early;have uQ:seen P fn (closeEvents c)=closeEvents c:=seen_eq tv (λe he f=>by simp only[closeEvents,pc,gq,mK,fX]at he;rcases he with rfl|rfl<;>(intro z;cases z))
 simp only[stepG.apply,key,eQ];rw[ct (by rw[dw];exact ho)];simp[aV,GStep.after,gr,yr,uQ]
theorem aD.shut(L:List Nat)(G:qo)(c kc:Nat)(Fin:aQ->Prop)(ho:aZ ops i=some ⟨dst,.call ⟨.builtin .close,#[x],ga⟩,ty,pos,af,gd⟩)(hw:aN ops n e gd=true)(hx:ev n e x=.chan (some c))(tv:(P.funcs[fn]?).any (·.norace)=false)
  (nd:L.Nodup) (len:L.length<=4) (hL:∀ i∈L,∃ s cw z0 z1,σ.aU i=some s/\s.cases=#[rcase cw z0,rcase c z1]/\cw≠c/\∃ N,∀ r,s.uA r->Cl P G N .rel (Conc.served r (commResult s.cases s.shape 1 z1 false)))
  (lN:∀ i s,σ.aU i=some s->s.has c->i∈L) (ok:G.Ok) (e1:G.cs[G.o1]? =some (lX L.length 0)) (e2:G.cs[G.o2]? =some (sJ 0)) (yn:σ.sh (.cell G.st)) (G1:σ.sh (.cell G.sm))
  (hc:qG c (.chan 0 #[] false kc kc false) (.chan 0 #[] true kc kc false) As aO) (hb:qG G.blk (.cells G.cs G.ty (0,0)) (.cells (G.row (lX 0 0) (sJ 0)) G.ty (0,0)) aO Wx)
  (hm:MW P G Fin (.xJ L.length) (gr fn kd n (di e dst (.tuple #[])) ds (.inRegion ops aa::k) cs))
  (k':∀ a,Fin a->At (aD P Post X (σ.fY L) 0 os out) 0 Wx a):
  At (aD P Post X σ 0 os out) 0 As (gr fn kd n e ds (.inRegion ops (i::aa)::k) cs):=λH st hole go w HF qp hu=>by
 subst HF;have SA:w.heap[c]? =some (.chan 0 #[] false kc kc false):=hc.has.get st;have JU:Sat aO (hp (w.setChan c 0 #[] true kc kc false).heap):=hc.set st;have hbw:(w.setChan c 0 #[] true kc kc false).heap[G.blk]? =some (.cells G.cs G.ty (0,0)):=hb.has.get JU;have hbc:c≠G.blk:=λz=>by rw[<- z,heap_setChan_self w SA]at hbw;cases hbw
 have aap:w.heap[G.blk]? =some (.cells G.cs G.ty (0,0)):=by rw[heap_setChan_ne w _ _ _ _ _ _ hbc]at hbw;exact hbw
 obtain⟨N0,hN⟩:∃ N0,∀ i∈L,∃ s cw z0 z1,σ.aU i=some s/\s.cases=#[rcase cw z0,rcase c z1]/\cw≠c/\∀ r,s.uA r->Cl P G N0 .rel (Conc.served r (commResult s.cases s.shape 1 z1 false)):=by
  clear k' nd len lN e1 hm
  induction L with
  |nil=>exact⟨0,by simp⟩
  |cons j L ih=>
   obtain⟨N1,h1⟩:=ih (λi hi=>hL i (gu _ hi));obtain⟨s,cw,z0,z1,a1,a2,a3,N2,a4⟩:=hL j (iI ..);refine⟨max N1 N2,λi hi=>?_⟩;rcases gq.1 hi with rfl|hi
   ·exact⟨s,cw,z0,z1,a1,a2,a3,λr hr=>(a4 r hr).mono (Nat.le_max_right ..)⟩
   ·obtain⟨s,cw,z0,z1,a1,a2,a3,a4⟩:=h1 i hi;exact⟨s,cw,z0,z1,a1,a2,a3,λr hr=>(a4 r hr).mono (Nat.le_max_left ..)⟩
 refine wH.shut L G c kc N0 Fin rfl SA (λw₁ q=>EZ ho hw hx tv (by rw[q.hp];exact SA)) ?_ rfl nd len hN lN ok aap e1 e2 yn G1 hm (λYW Ox hf Z1=>?_)
 ·rw[<- dw]at ho;simp[mayWake,gr,aV,ho]
 ·have hh:Ox.heap=(w.setChan c 0 #[] true kc kc false).heap.setIfInBounds G.blk (.cells (G.row (lX 0 0) (sJ 0)) G.ty (0,0)):=Z1.hp;have adU:Sat Wx (hp Ox.heap):=by rw[hh];exact hb.set JU
  have qT:∀ (b:Nat) (cc:Array Value) (tt:aR),w.heap[b]? =some (.cells cc tt (0,0))->∃ cc',Ox.heap[b]? =some (.cells cc' tt (0,0)):=λb cc tt nZ=>by
   have eb:c≠b:=λz=>by rw[z,nZ]at SA;cases SA
   rw[hh];by_cases e3:b=G.blk
   ·subst e3;rw[aap]at nZ;cases nZ;exact⟨_,j4 (by have:=(gQ.1 hbw).1;exact this)⟩
   ·exact⟨cc,by rw[gC (i3 e3),heap_setChan_ne w _ _ _ _ _ _ eb];exact nZ⟩
  refine k' YW hf _ adU ?_ ⟨λi' s' hi=>?_,λi' s' c' hi kx=>?_,λi' s' p hi hp=>?_,λl hl=>?_,?_⟩ Ox rfl (Z1.os.trans qp) (Z1.out.trans hu)
  ·show(if 0∈L then none else σ.aU 0)=none;split
   ·rfl
   ·exact hole
  ·have hi:(if i'∈L then none else σ.aU i')=some s':=hi;split at hi
   ·cases hi
   ·exact go.lt i' s' hi
  ·have hi:(if i'∈L then none else σ.aU i')=some s':=hi;split at hi
   ·cases hi
   ·have:=go.cl i' s' c' hi kx;rw[hh];simpa[World.setChan]using this
  ·have hi:(if i'∈L then none else σ.aU i')=some s':=hi;split at hi
   ·cases hi
   ·obtain⟨h1,c1,La,h2,h3⟩:=go.still i' s' p hi hp;obtain⟨c2,h4⟩:=qT _ _ _ h2;exact⟨h1,c2,La,h4,h3⟩
  ·obtain⟨a,ea,c1,La,h1,h2⟩:=go.qA l hl;obtain⟨c2,h4⟩:=qT _ _ _ h1;exact⟨a,ea,c2,La,h4,h2⟩
  ·rw[hh,KH];have:=go.bot;simpa[World.setChan,Gh.fY]using this
theorem aD.done{fu:Func}{cc:Code}{n':Nat}[b:Body P fn fu cc n']{kR:List Item}{v:Value}(hv:sj fu n e=some v)(hi:P.inits.idxOf? fn=none)(hn:∀ i,σ.aU i=none)(hp:∀ w:World,Sat As (hp w.heap)->w.os=os->w.output=out->Post v w):
  At (aD P Post X σ 0 os out) 0 As (qF fn .pR n e [] kR []):=λH st hole go w HF qp hu=>by
 subst HF;refine wH.done v rfl (λw₁ q=>?_) hn (λw₁ q=>hp w₁ (by rw[q.hp];exact st) (q.os.trans qp) (q.out.trans hu));have r:=lF (qS (P:=P) hv) w₁ #[];simp only[qF,qe,aV,stepG,unwind,b.func,r,doReturn,Kd.k];simp[GStep.after,seen_none,hi]
def CH(σ:Gh)(b:Nat):Prop:=∀ i s p,σ.aU i=some s->p∈s.mem->p.1.block≠b
theorem CH.blk{σ:Gh}{b:Nat}(h:CH σ b):σ.blk b=false:=by
 cases e:σ.blk b with
 |false=>rfl
 |true=>
  unfold Gh.blk at e;obtain⟨i,_,h2⟩:=nC.1 e;cases es:σ.aU i with
  |none=>rw[es]at h2;cases h2
  |some s=>
   rw[es]at h2;obtain⟨p,hp,hb⟩:=nC.1 h2;exact absurd (by simpa using hb) (h i s p es hp)
theorem CH.rd{X:tH}{σ:Gh}{b:Nat}(h:CH σ b)(ty:aR)(o:Nat):(X.bw σ).rd b ty o=false:=by show(X.mkd ty o&&σ.blk b)=false;rw[h.blk,NL]
theorem GO.aaq{X:tH}{σ:Gh}{H:Array Obj}(g:GO X σ H){b:Nat}(hb:H.size<=b):CH σ b:=λi s p e hp z=>by obtain⟨_,c,ty,h2,_⟩:=g.still i s p e hp;have:=(gQ.1 h2).1;omega
variable{F:List HP}
theorem aD.al{tt:aR}{z:Value}{c:Array Value}[cz:Zv P tt z](ho:aZ ops i=some ⟨some t,.alloc tt,ty,pos,af,gd⟩)(h:∀ b,CH σ b->At (aD P Post X σ 0 os out) d (bX b (.cells c tt (0,0))::As) (gr fn kd n (put e t (.pointer (some ⟨b,0,none⟩))) ds (.inRegion ops aa::k) cs))
  (hc:z.cells=c:=by first|(simp only[Value.cells];done)|(simp only[Value.cells];rfl)|rfl) (hw:aN ops n e gd=true:=by rfl):At (aD P Post X σ 0 os out) d As (gr fn kd n e ds (.inRegion ops (i::aa)::k) cs):=λH st hole go w HF qp hu=>by
 have C:ab P true (X.bw σ) (aD P Post X σ 0 os out):=aD.dM;refine C.op (H:=H) (d:=d) (fn:=fn) (kd:=kd) (n:=n) (e:=e) (ds:=ds) (k:=k) (cs:=cs) (ops:=ops) (i:=i) (aa:=aa) (by rw[dw];exact ho) (by rw[eh];exact hw) ?_ hole go w HF qp hu;unfold execOp;simp only[Instr.alloc];subst hc;refine ah (ah (nG _ H d _ ?_));exact h _ (go.aaq (fI _)) _ (st.push _)
theorem aD.ap{α:Type}{f:α->List Value}{z:Nat}[rf:fM f z]{el tt t3 OP bz:Nat}{zv:Value}{m l:List α}{s:ax}{yv:Value}{x y:cU}[cE:El P tt el][Z4:El P t3 OP][Cz P el z][cB:Bz P el bz][Zv P el zv]
  (ho:aZ ops i=some ⟨some t,.call ⟨.builtin .append,#[x,y],#[tt,t3]⟩,ty,pos,af,gd⟩) (hf:Fo (aW f z el s l) As F) (V6:∀ b,s.a=some ⟨b,0,none⟩->CH σ b) (ui:∀ j,X.sh el j=false)
  (hsrc:∀ H,Sat (aW f z el s l::F) (hp H)->lj (X.bw σ) H z m.length yv (flat f m)) (h:∀ s',s'.len=l.length+m.length->(∀ b,s'.a=some ⟨b,0,none⟩->CH σ b)->At (aD P Post X σ 0 os out) d (aW f z el s' (l++m)::F) (gr fn kd n (put e t s'.v) ds (.inRegion ops aa::k) cs))
  (hsz:(l.length+m.length)*bz<=140737488355328) (OQ:zv.cells.size=z) (zU:bz≠0) (hx:ev n e x=s.v) (hy:ev n e y=yv) (hw:aN ops n e gd=true:=by rfl):At (aD P Post X σ 0 os out) d As (gr fn kd n e ds (.inRegion ops (i::aa)::k) cs):=λH st hole go w HF qp hu=>by
 have C:ab P true (X.bw σ) (aD P Post X σ 0 os out):=aD.dM;refine C.op (H:=H) (d:=d) (fn:=fn) (kd:=kd) (n:=n) (e:=e) (ds:=ds) (k:=k) (cs:=cs) (ops:=ops) (i:=i) (aa:=aa) (by rw[dw];exact ho) (by rw[eh];exact hw) ?_ hole go w HF qp hu;have JU:=st.perm hf.perm;unfold execOp;simp only[resolve];refine ah (aA ?_);simp only[Af,iJ,ml,hx,hy];unfold invoke builtin;refine ah ?_;refine yu rf.len rf.one OQ (λb j hs=>(V6 b hs).rd _ _) (λj=>ui j) zU hsz JU (hsrc H JU) λs'' H' hl ha hs=>aA ?_;refine h s'' hl (λb hb=>?_) _ hs;rcases ha with ha|ha
 ·exact V6 b (ha▸hb)
 ·rw[hb]at ha;obtain rfl:b=H.size:=by simpa using ha
  exact go.aaq (fI _)
def bD(P:bR)(X:tH)(f:bM)(args:Array Value)(σ:Gh)(A:List HP)(Q:Value->Gh->List HP->Prop):Prop:=
 ∀ (Post:Value->World->Prop) (os:Os) (out:Array (Nat×ByteArray)) (kd:Kd) (F:List HP) (c:Frame) (cs:List Frame),uH kd c->(∀ v σ' aO,Q v σ' aO->At (aD P Post X σ' 0 os out) 0 (aO++F) (after kd c cs v))->At (aD P Post X σ 0 os out) 0 (A++F) (iL P f args kd (c::cs))
theorem bD.of{f:bM}{fu:Func}{c:Code}{nf:Nat}[b:Body P f fu c nf]{args:Array Value}{A:List HP}{Q:Value->Gh->List HP->Prop}
  (h:∀ (Post:Value->World->Prop) (os:Os) (out:Array (Nat×ByteArray)) (kd:Kd) (F:List HP) (c':Frame) (cs:List Frame),ab P true (X.bw σ) (aD P Post X σ 0 os out)->uH kd c'->(∀ v σ' aO,Q v σ' aO->At (aD P Post X σ' 0 os out) 0 (aO++F) (after kd c' cs v))->At (aD P Post X σ 0 os out) 0 (A++F) (gr f kd nf (yp args) [] [.code c] (c'::cs)))
  (hn:Nat.ble args.size nf=true:=by rfl):bD P X f args σ A Q:=λPost os out kd F c' cs aJ hr=>by
 rw[mG b.func b.body (by rw[b.tmps];exact xa hn),b.tmps];exact h Post os out kd F c' cs aD.dM aJ hr
theorem aB.g{f:bM}{args:Array Value}{A:List HP}{Q:Value->List HP->Prop}(h:aB P true (X.bw σ) f args A Q):bD P X f args σ A (λv σ' aO=>σ'=σ/\Q v aO):=
 λPost os out kd F c cs aJ hr=>h _ aD.dM kd 0 F c cs aJ λv aO q=>hr v σ aO ⟨rfl,q⟩
theorem bD.post{f:bM}{args:Array Value}{A:List HP}{Q Q':Value->Gh->List HP->Prop}(h:bD P X f args σ A Q)(hq:∀ v σ' aO,Q v σ' aO->Q' v σ' aO):bD P X f args σ A Q':=
 λPost os out kd F c cs aJ hr=>h Post os out kd F c cs aJ λv σ' aO q=>hr v σ' aO (hq v σ' aO q)
theorem aD.cl{f:bM}{fu:Func}{c:Code}{nf:Nat}[b:Body P f fu c nf]{fo:cU}{args:Array cU}{ga:Array aR}{a1 a2:Array Value}{vl:List Value}{A:List HP}{Q:Value->Gh->List HP->Prop}(hs:bD P X f (a1++vl.toArray++a2) σ A Q)
  (h:∀ v σ' aO,Q v σ' aO->At (aD P Post X σ' 0 os out) 0 (aO++F) (gr fn kd n (di e dst v) ds (.inRegion ops aa::k) cs))
  (ho:aZ ops i=some ⟨dst,.call ⟨.value fo,args,ga⟩,ty,pos,af,gd⟩:=by rfl) (hv:args.toList.map (ev n e)=vl:=by rfl) (hf:ev n e fo=.func (.func f) a1 a2:=by rfl)
  (hr:dJ A As F:=by exact dJ.au) (hw:aN ops n e gd=true:=by rfl):At (aD P Post X σ 0 os out) 0 As (gr fn kd n e ds (.inRegion ops (i::aa)::k) cs):=by
 refine At.perm hr.perm ?_;have tC:args.map (ev n e)=vl.toArray:=by rw[<- hv,<- qv,ts]
 have C:ab P true (X.bw σ) (aD P Post X σ 0 os out):=aD.dM;intro H st;refine C.still (g':=iL P f (a1++vl.toArray++a2) .pR (aV fn kd n e ds (.inRegion ops (i::aa)::k)::cs)) rfl (λw=>Bf (f:=f) (args:=a1++vl.toArray++a2) ho hw (by
  unfold execOp;simp only;refine br (a:=⟨.fn (.func f) a2,a1++vl.toArray⟩) ?_ ?_
  ·unfold resolve;simp only[hf,Deferred.ofValue,tC];rfl
  ·exact kM _) w) ?_
 refine hs Post os out .pR F _ cs trivial (λv σ' aO q=>?_) H st;show At _ 0 _ (e8 _ cs v);rw[oH ho];exact h v σ' aO q
theorem Pd{c:Code}{Y:Type}(S:Y->Gh)(L:Y->List (Nat×Value))(I:Y->List HP)(Ok:Y->Prop)(m:Y->Nat)(x0:Y)(hS:σ=S x0)(he:jP e (L x0))(lE:Ok x0)
  (step:∀ x e,Ok x->(∀ y e' aO,Ok y->m y<m x->jP e' (L y)->bZ aO (I y)->At (aD P Post X (S y) 0 os out) 0 aO (gr fn kd n e' ds (.inLoop (cB c)::k) cs))->At (aD P Post X (S x) 0 os out) 0 (I x) (gr fn kd n (qH e (L x)) ds (.code (cB c):: .inLoop (cB c)::k) cs))
  (hI:bZ As (I x0):=by exact bZ.au) (hc:ck c=.loop:=by rfl):At (aD P Post X σ 0 os out) 0 As (gr fn kd n e ds (.code c::k) cs):=by
 subst hS;have key:∀ (N:Nat) (x:Y) (e:Nat->Value) (As:List HP),m x=N->jP e (L x)->Ok x->bZ As (I x)->At (aD P Post X (S x) 0 os out) 0 As (gr fn kd n e ds (.inLoop (cB c)::k) cs):=by
  intro N
  induction N using Nat.strongRecOn with
  |ind N ih=>
   intro x e As hm he lE hr;have C:ab P true (X.bw (S x)) (aD P Post X (S x) 0 os out):=aD.dM;refine At.jR hr (C.Wg ?_);rw[<- j0 he];exact step x e lE λy e' aO hy dI xj Rp=>ih (m y) ak y e' aO rfl xj hy Rp
 have C:ab P true (X.bw (S x0)) (aD P Post X (S x0) 0 os out):=aD.dM;refine At.jR hI (C.lp ?_ hc);rw[<- j0 he];exact step x0 e lE λy e' aO hy dI xj Rp=>key _ y e' aO rfl xj hy Rp
theorem HH{c:Code}{Y:Type}{S:Y->Gh}{L:Y->List (Nat×Value)}{I:Y->List HP}{Ok:Y->Prop}{m:Y->Nat}{x0:Y}{body:Code}(ih:∀ y e' aO,Ok y->m y<m x0->jP e' (L y)->bZ aO (I y)->At (aD P Post X (S y) 0 os out) 0 aO (gr fn kd n e' ds (.inLoop body::k) cs))(y:Y)(hS:σ=S y)(hy:Ok y)(hm:m y<m x0)
  (he:jP e (L y):=by repeat(first|exact trivial|refine And.intro rfl ?_)) (hr:bZ As (I y):=by exact bZ.au):At (aD P Post X σ 0 os out) 0 As (gr fn kd n e ds (.inLoop body::k) cs):=by
 subst hS;exact ih y e As hy hm he hr
theorem aD.a8{fu:Func}{cc:Code}{n':Nat}[b:Body P fn fu cc n']{c:Frame}{v:Value}{x:Code}{Q:Value->Gh->List HP->Prop}{A:List HP}(aJ:uH kd c)(ai:∀ v σ' aO,Q v σ' aO->At (aD P Post X σ' 0 os out) 0 (aO++F) (after kd c cs v))(q:Q v σ A)(hv:sj fu n e=some v:=by rfl)(hx:ck x=.ret:=by rfl)
  (hr:dJ A As F:=by exact dJ.au):At (aD P Post X σ 0 os out) 0 As (gr fn kd n e [] (.code x::k) (c::cs)):=by
 have C:ab P true (X.bw σ) (aD P Post X σ 0 os out):=aD.dM;exact At.perm hr.perm (C.OI aJ (ai v σ A q) hv hx)
theorem aD.cQ{fu:Func}{cc:Code}{n':Nat}[b:Body P fn fu cc n']{c:Frame}{v:Value}{Q:Value->Gh->List HP->Prop}{A:List HP}(aJ:uH kd c)(ai:∀ v σ' aO,Q v σ' aO->At (aD P Post X σ' 0 os out) 0 (aO++F) (after kd c cs v))(q:Q v σ A)(hv:sj fu n e=some v:=by rfl)
  (hr:dJ A As F:=by exact dJ.au):At (aD P Post X σ 0 os out) 0 As (gr fn kd n e [] [] (c::cs)):=by
 have C:ab P true (X.bw σ) (aD P Post X σ 0 os out):=aD.dM;exact At.perm hr.perm (C.Wh aJ (ai v σ A q) hv)
end
structure kh where
 tm:Int
 ord:Int
 tx:Int
 again:Bool
instance:Inhabited kh:=⟨⟨0,0,0,false⟩⟩
def kh.qq(a:kh):dR:=⟨a.tm,a.again,a.tx⟩
def l6(a b:kh):Prop:=a.tm<b.tm\/(a.tm=b.tm/\a.ord<b.ord)
abbrev gA(l:List kh)(k:Nat):kh:=l[k]?.getD default
theorem j5{l:List kh}{k:Nat}(h:k<l.length):gA l k=l[k]:=by simp[gA,h]
def CJ(l:List kh)(i j:Nat):List kh:=(l.set i (gA l j)).set j (gA l i)
theorem xO(l:List kh)(i j:Nat):(CJ l i j).length=l.length:=by simp[CJ]
theorem yO{l:List kh}{i j:Nat}(hi:i<l.length)(hj:j<l.length):(CJ l i j).Perm l:=by unfold CJ;rw[j5 hi,j5 hj];exact List.set_set_perm hi hj
theorem xP{l:List kh}{i j:Nat}(hi:i<l.length)(hj:j<l.length)(k:Nat):gA (CJ l i j) k=if k=j then gA l i else if k=i then gA l j else gA l k:=by
 unfold gA CJ;rw[yb];by_cases h1:j=k
 ·subst h1;simp[hj]
 ·rw[aq h1,aq (i3 h1),yb];by_cases h2:i=k
  ·subst h2;simp[hi]
  ·rw[aq h2,aq (i3 h2)]
def uj(l:List kh)(i j:Nat):Prop:=¬ l6 (gA l i) (gA l j)
def gW(l:List kh)(n:Nat):Prop:=∀ k,0<k->k<n->uj l k ((k-1)/2)
def n6(l:List kh)(j:Nat):Prop:=(∀ k,0<k->k<l.length->k≠j->uj l k ((k-1)/2))/\(0<j->∀ k,0<k->k<l.length->(k-1)/2=j->uj l k ((j-1)/2))
def qU(l:List kh)(n i:Nat):Prop:=(∀ k,0<k->k<n->(k-1)/2≠i->uj l k ((k-1)/2))/\(0<i->∀ k,0<k->k<n->(k-1)/2=i->uj l k ((i-1)/2))
theorem n6.fin{l:List kh}{j:Nat}(h:n6 l j)(hj:j=(j-1)/2\/uj l j ((j-1)/2)):gW l l.length:=λk h0 hk=>by
 by_cases e:k=j
 ·subst e;rcases hj with hj|hj
  ·omega
  ·exact hj
 ·exact h.1 k h0 hk e
theorem n6.push{l:List kh}(h:gW l l.length)(a:kh):n6 (l++[a]) l.length:=by
 have hg:∀ k,k<l.length->gA (l++[a]) k=gA l k:=λk hk=>by unfold gA;rw[NA hk]
 refine⟨λk h0 hk eL=>?_,λh0 k h1 hk e=>?_⟩
 ·have hk:k<l.length:=by simp at hk;omega
  unfold uj;rw[hg k hk,hg _ ak];exact h k h0 hk
 ·simp at hk;omega
theorem n6.step{l:List kh}{i j:Nat}(h:n6 l j)(hj:j<l.length)(hi:i=(j-1)/2)(eL:i≠j)(hl:l6 (gA l j) (gA l i)):n6 (CJ l i j) i:=by
 have G0:i<j:=ak;have U3:i<l.length:=ak;have hs:=xP U3 hj;refine⟨λk h0 hk HI=>?_,λh0 k h1 hk e=>?_⟩
 ·rw[xO]at hk;unfold uj;rw[hs,hs,aq HI];by_cases e1:k=j
  ·subst e1;rw[aK rfl,<- hi,aq eL,aK rfl];unfold l6 at hl⊢;omega
  ·rw[aq e1];by_cases e2:(k-1)/2=j
   ·rw[aK e2];have:=h.2 ak k h0 hk e2;rw[<- hi]at this;exact this
   ·rw[aq e2];by_cases e3:(k-1)/2=i
    ·rw[aK e3];have:=h.1 k h0 hk e1;rw[e3]at this;unfold uj l6 at this;unfold l6 at hl⊢;omega
    ·rw[aq e3];exact h.1 k h0 hk e1
 ·rw[xO]at hk;unfold uj;have e4:(i-1)/2<i:=ak;rw[hs,hs,aq (show(i-1)/2≠j by omega),aq (show(i-1)/2≠i by omega)];have h2:=h.1 i h0 U3 eL;unfold uj at h2;by_cases e1:k=j
  ·rw[aK e1];exact h2
  ·rw[aq e1,aq (show k≠i by omega)];have h3:=h.1 k h1 hk e1;rw[e]at h3;unfold uj l6 at h3;unfold l6 at h2⊢;omega
theorem qU.fin{l:List kh}{n i:Nat}(h:qU l n i)(hc:∀ k,0<k->k<n->(k-1)/2=i->uj l k i):gW l n:=λk h0 hk=>by
 by_cases e:(k-1)/2=i
 ·rw[e];exact hc k h0 hk e
 ·exact h.1 k h0 hk e
theorem qU.step{l:List kh}{n i j:Nat}(h:qU l n i)(hn:n<=l.length)(hj:j<n)(h0j:0<j)(hi:i=(j-1)/2)(Am:∀ k,0<k->k<n->(k-1)/2=i->uj l k j)(hl:l6 (gA l j) (gA l i)):qU (CJ l i j) n j:=by
 have G0:i<j:=ak;have U3:i<l.length:=ak;have G5:j<l.length:=ak;have hs:=xP U3 G5;refine⟨λk h0 hk hkj=>?_,λh0 k h1 hk e=>?_⟩
 ·unfold uj;rw[hs,hs,aq hkj];by_cases e1:k=j
  ·subst e1;rw[aK rfl,<- hi,aK rfl];unfold l6 at hl⊢;omega
  ·rw[aq e1];by_cases e2:k=i
   ·subst e2;rw[aK rfl,aq (show(k-1)/2≠k by omega)];have:=h.2 h0 j h0j hj hi.symm;exact this
   ·rw[aq e2];by_cases e3:(k-1)/2=i
    ·rw[aK e3];exact Am k h0 hk e3
    ·rw[aq e3];exact h.1 k h0 hk e3
 ·unfold uj;rw[hs,hs,aq (show k≠j by omega),aq (show k≠i by omega),<- hi,aq (show i≠j by omega),aK rfl];have:=h.1 k h1 hk ak;rw[e]at this;exact this
theorem gW.least{l:List kh}{n:Nat}(h:gW l n):∀ k,k<n->uj l k 0:=by
 intro k
 induction k using Nat.strongRecOn with
 |ind k ih=>
  intro hk;by_cases h0:k=0
  ·subst h0;unfold uj l6;omega
  ·have h1:=h k ak hk;have h2:=ih ((k-1)/2) ak ak;unfold uj l6 at h1 h2⊢;omega
theorem gW.out{l:List kh}{n:Nat}(h:gW l (n+1))(hn:n<l.length):qU (CJ l 0 n) n 0:=by have hs:=xP (l:=l) (i:=0) (j:=n) ak hn;refine⟨λk h0 hk hp=>?_,λh0=>by omega⟩;unfold uj;rw[hs,hs,aq (show k≠n by omega),aq (show k≠0 by omega),aq (show(k-1)/2≠n by omega),aq hp];exact h k h0 ak
theorem gW.take{l:List kh}{n:Nat}(h:gW l n):gW (l.take n) n:=λk h0 hk=>by
 have hg:∀ q,q<n->gA (l.take n) q=gA l q:=λq hq=>by unfold gA;rw[Us hq]
 unfold uj;rw[hg k hk,hg _ ak];exact h k h0 hk
theorem Bg{c:Int}{m:dR}{q:Nat}:∀ (L:List dR) (i:Nat),(∀ t∈L,m.tm<=t.tm)->jS c L i (some (q,m))=some (q,m)
 |[],_,_=>rfl
 |t::l,i,h=>by
  have h1:=h t (iI ..);have:decide (t.tm<m.tm)=false:=by simp;omega
  simp only[jS,this,NL,gR,eY];exact Bg l _ λt ht=>h t (gu _ ht)
def SB(c:Int)(t:dR)(acc:Option (Nat×dR)):Bool:=decide (t.tm<=c)&&(match acc with|none=>true|some (_,u)=>decide (t.tm<u.tm))
theorem Bh(c:Int)(t:dR)(l:List dR)(i:Nat)(acc:Option (Nat×dR)):jS c (t::l) i acc=jS c l (i+1) (if SB c t acc then some (i,t)else acc):=rfl
theorem yP{c:Int}{m:dR}(hm:m.tm<=c):∀ (L:List dR) (k i:Nat) (acc:Option (Nat×dR)),L[k]? =some m->(∀ t∈L,m.tm<=t.tm)->(∀ j t,j<k->L[j]? =some t->m.tm<t.tm)->(∀ q u,acc=some (q,u)->m.tm<u.tm)->jS c L i acc=some (i+k,m)
 |[],k,i,acc,h,_,_,_=>by simp at h
 |t::l,0,i,acc,h,je,dI,Hy=>by
  obtain rfl:t=m:=by simpa using h
  have:SB c t acc=true:=by
   unfold SB;cases acc with
   |none=>simp[hm]
   |some p=>obtain⟨q,u⟩:=p;have:=Hy q u rfl;simp[hm,this]
  rw[Bh,aK this];exact Bg l _ λt' ht=>je t' (gu _ ht)
 |t::l,k+1,i,acc,h,je,dI,Hy=>by
  have ht:=dI 0 t ak rfl;rw[Bh,show i+(k+1)=i+1+k by omega];refine yP hm l k (i+1) _ (by simpa using h) (λt' ht'=>je t' (gu _ ht')) (λj t' hj hl=>dI (j+1) t' ak (by simpa using hl)) λq u e=>?_;by_cases hq:SB c t acc=true
  ·rw[aK hq]at e;cases e;exact ht
  ·rw[aq hq]at e;exact Hy q u e
theorem Bi{c:Int}:∀ (L:List dR) (i:Nat),(∀ t∈L,c<t.tm)->jS c L i none=none
 |[],_,_=>rfl
 |t::l,i,h=>by
  have h1:=h t (iI ..);have:decide (t.tm<=c)=false:=by simp;omega
  simp only[jS,this,AQ,gR,eY];exact Bi l _ λt ht=>h t (gu _ ht)
structure oQ(T:List kh)(order:Int)(l:List kh):Prop where
 perm:l.Perm T
 heap:gW l l.length
 inc:T.Pairwise λa b=>a.ord<b.ord
 le:∀ a∈T,a.ord<=order
theorem oQ.zero(order:Int):oQ [] order []:=⟨.refl _,λk h0 hk=>by simp at hk,.nil,λa h=>by cases h⟩
theorem oQ.push{T l l':List kh}{order:Int}(h:oQ T order l){a:kh}(ha:a.ord=order+1)(hp:l'.Perm (l++[a]))(hh:gW l' l'.length):oQ (T++[a]) (order+1) l':=
 ⟨hp.trans (h.perm.append_right _),hh,List.pairwise_append.2 ⟨h.inc,by simp,λx hx y hy=>by obtain rfl:=dN.1 hy;have:=h.le x hx;omega⟩,λx hx=>by
  rcases cg.1 hx with hx|hx
  ·have:=h.le x hx;omega
  ·obtain rfl:=dN.1 hx;omega⟩
theorem oQ.aas{T l:List kh}{order c:Int}(h:oQ T order l)(hl:l=[]\/c<(gA l 0).tm):jS c (T.map (·.qq)) 0 none=none:=by
 refine Bi _ _ λt ht=>?_;obtain⟨a,ha,rfl⟩:=bL.1 ht;have ha:=h.perm.mem_iff.2 ha;rcases hl with rfl|hl
 ·cases ha
 ·obtain⟨k,hk,rfl⟩:=ye.1 ha;have:=h.heap.least k hk;unfold uj l6 at this;rw[j5 hk]at this;show c<l[k].tm;omega
theorem oQ.pop{T l l':List kh}{order c:Int}{m:kh}(h:oQ T order l)(h0:l[0]? =some m)(hc:m.tm<=c)(hp:l.Perm (m::l'))(hh:gW l' l'.length):
  ∃ k,T[k]? =some m/\jS c (T.map (·.qq)) 0 none=some (k,m.qq)/\oQ (T.eraseIdx k) order l':=by
 have hm:m∈T:=h.perm.mem_iff.1 (eS h0);obtain⟨k,hk,rfl⟩:=ye.1 hm;have Am:∀ a∈T,¬ l6 a T[k]:=λa ha=>by
  obtain⟨q,hq,rfl⟩:=ye.1 (h.perm.mem_iff.2 ha);have:=h.heap.least q hq;unfold uj at this;rw[j5 hq]at this;have e:gA l 0=T[k]:=by unfold gA;rw[h0];rfl
  rwa[e]at this
 refine⟨k,fp hk,?_,?_⟩
 ·have:=yP (c:=c) (m:=T[k].qq) hc (T.map (·.qq)) k 0 none (by simp[hk]) (λt ht=>by
   obtain⟨a,ha,rfl⟩:=bL.1 ht;have:=Am a ha;unfold l6 at this;show T[k].tm<=a.tm;omega) (λj t hj ht=>by
   rw[kB]at ht;have G5:j<T.length:=ak;rw[fp G5]at ht;obtain rfl:=bY ht;have h1:=Am T[j] (bC _);have h2:T[j].ord<T[k].ord:=ya.1 h.inc j k G5 hk hj;unfold l6 at h1;show T[k].tm<T[j].tm;omega) (λq u e=>by cases e)
  simpa using this
 ·have U0:T.Perm (T[k]::T.eraseIdx k):=by
   have e1:T=T.take k++T[k]::T.drop (k+1):=by conv=>lhs;rw[<- wz k T,i7 hk]
   rw[yc]
   conv=>lhs;rw[e1]
   exact Jk
  refine⟨?_,hh,h.inc.sublist (jM _ _),λa ha=>h.le a (List.mem_of_mem_eraseIdx ha)⟩;exact(List.perm_cons T[k]).1 (hp.symm.trans (h.perm.trans U0))
section
open Go.Conc
section
variable{P:bR}{ao:Bool}{s:dH}{fn:bM}{kd:Kd}{n:Nat}{e:Nat->Value}{ds:List dW}{k:List Item}{cs:List Frame}
variable{ops:Array Oper}{i:Nat}{aa:List Nat}{t:Nat}{ty:aR}{pos:String}{af:Array Edge}{gd:Option (Nat×Bool)}{x:cU}{v:Value}{m:Nat}
theorem Pe{o:Oper}(ho:aZ ops i=some o)(hw:aN ops n e o.guard=true)(hy:fJ P (execOp (ev n e) o)=some (.value v))(q:Way P ao s m (gr fn kd n (di e o.dst v) ds (.inRegion ops aa::k) cs)):Way P ao s (m+1) (gr fn kd n e ds (.inRegion ops (i::aa)::k) cs):=
 .inr ⟨rfl,λw _=>⟨_,#[],w.drawn,Be ho hw hy w,by simp,q⟩⟩
theorem Pf(ho:aZ ops i=some ⟨some t,.move x,ty,pos,af,gd⟩)(q:Way P ao s m (gr fn kd n (put e t v) ds (.inRegion ops aa::k) cs))(hx:ev n e x=v:=by conv=>{lhs;whnf})(hw:aN ops n e gd=true:=by rfl):Way P ao s (m+1) (gr fn kd n e ds (.inRegion ops (i::aa)::k) cs):=
 Pe ho hw (by unfold execOp;simp only[hx];rfl) q
theorem J1{a:Addr}(ho:aZ ops i=some ⟨some t,.nilCheck x,ty,pos,af,gd⟩)(q:Way P ao s m (gr fn kd n (put e t (.pointer (some a))) ds (.inRegion ops aa::k) cs))(hx:ev n e x=.pointer (some a):=by rfl)(hw:aN ops n e gd=true:=by rfl):Way P ao s (m+1) (gr fn kd n e ds (.inRegion ops (i::aa)::k) cs):=
 Pe ho hw (by unfold execOp;simp only[hx];rfl) q
theorem J2{s' f o b off:Nat}[c:Fl P s' f o](ho:aZ ops i=some ⟨some t,.fieldAddr s' x f,ty,pos,af,gd⟩)(q:Way P ao s m (gr fn kd n (put e t (.pointer (some ⟨b,off+o,none⟩))) ds (.inRegion ops aa::k) cs))(hx:ev n e x=.pointer (some ⟨b,off,none⟩):=by rfl)(hw:aN ops n e gd=true:=by rfl):Way P ao s (m+1) (gr fn kd n e ds (.inRegion ops (i::aa)::k) cs):=
 Pe ho hw (by obtain⟨fs,fl,z,h1,h2,rfl,⟨inf,h4,h5⟩,h6⟩:=c.h;unfold execOp;simp only[hx,Instr.fieldAt];refine br (a:=.pointer (some ⟨b,off+fl.offset,none⟩)) (br (fx h1) ?_) rfl;simp only[h2,Instr.sureAddr];refine br (a:=(⟨b,off,none⟩:Addr)) rfl ?_;unfold fieldPlace;refine br (a:=⟨b,off+fl.offset,none⟩) ?_ rfl;refine br (EU ⟨inf,h4,h5⟩) ?_;rw[aq h6,gS];rfl) q
theorem E0{tt:aR}{ad:Addr}[a:Ag P tt false](hm:(ad,v)∈s.mem)(ho:aZ ops i=some ⟨some t,.load tt x,ty,pos,af,gd⟩)(q:Way P ao s m (gr fn kd n (put e t v) ds (.inRegion ops aa::k) cs))(hx:ev n e x=.pointer (some ad):=by rfl)(hw:aN ops n e gd=true:=by rfl):Way P ao s (m+1) (gr fn kd n e ds (.inRegion ops (i::aa)::k) cs):=by refine .inr ⟨rfl,λw hK=>⟨_,_,w.drawn,EY ho hw hx (hK _ hm),λe he=>?_,q⟩⟩;have:=EX he;simp only[pc,gq,mK,fX]at this;exact⟨ad,this,(ad,v),hm,rfl⟩
end
structure Bj(ops:Array Oper)(e0:Nat->Value)(D:List (Nat×Nat))(S:List SE)(L:Nat->Prop)(e:Nat->Value):Prop where
 v1:∀ x∈S,L x.i->e x.t=x.v
 v2:∀ s,G3 D s=none->e s=e0 s
 v3:∀ s w,G3 D s=some w->¬ L w->e s=e0 s
 cl:∀ w,L w->∀ j∈A9 ops w,L j
section
variable{P:bR}{ao:Bool}{s:dH}{fn:bM}{kd:Kd}{n:Nat}{ds:List dW}{ops:Array Oper}{k:List Item}{cs:List Frame}{e0:Nat->Value}{D:List (Nat×Nat)}{T is:List Nat}{S:List SE}
theorem Bj.env{L:Nat->Prop}{e:Nat->Value}(h:Bj ops e0 D S L e){i:Nat}(hi:¬ L i)(hr:∀ j∈A9 ops i,L j){S':List SE}(hS:∀ x∈S',x∈S):mz e0 D ops i S' e=e:=by
 funext s
 unfold mz;cases h1:Wo S' (A9 ops i) s with
 |some v=>
  obtain⟨x,hx,rfl,rfl,hp⟩:=JN h1;exact(h.v1 x (hS x hx) (hr _ hp)).symm
 |none=>
  simp only;cases h2:G3 D s with
  |none=>exact(h.v2 s h2).symm
  |some w=>
   simp only;split
   ·rename_i hc;have OS:i∈A9 ops w:=by simpa using hc
    exact(h.v3 s w h2 λhl=>hi (h.cl w hl i OS)).symm
   ·rfl
structure SC(P:bR)(ao:Bool)(s:dH)(fn:bM)(kd:Kd)(n:Nat)(ds:List dW)(ops:Array Oper)(k:List Item)(cs:List Frame)(e0:Nat->Value)(D:List (Nat×Nat))(is:List Nat)(S:List SE):Prop where
 all:∀ i∈is,∃ x∈S,x.i=i
 sub:∀ x∈S,x.i∈is
 uq:∀ x∈S,∀ y∈S,x.i=y.i->x=y
 lk:∀ x∈S,iF ops x.i=some x.t
 ob:∀ x∈S,∃ Sx,(∀ y∈Sx,y∈S)/\∀ m e aa,Way P ao s m (gr fn kd n (put (mz e0 D ops x.i Sx e) x.t x.v) ds (.inRegion ops aa::k) cs)->Way P ao s (m+1) (gr fn kd n (mz e0 D ops x.i Sx e) ds (.inRegion ops (x.i::aa)::k) cs)
def Lb(listed:Array Bool)(i:Nat):Prop:=listed[i]?.getD false=true
def pX(ops:Array Oper)(e0:Nat->Value)(D:List (Nat×Nat))(S:List SE)(r:Nat)(e:Nat->Value)(aa:List Nat):Prop:=
 ∃ md fuel t,∃ listed:Array Bool,listed.size=ops.size/\vO (λi=>listed[i]?.getD false) ops.size=fuel+1/\Bj ops e0 D S (Lb listed) e/\¬ Lb listed r/\(∀ j∈A9 ops r,Lb listed j)/\aa=Region.linearise.go md ops fuel t (listed.setIfInBounds r true) []
theorem J3{md:Region.Mode}(rg:Bb ops D T is)(sw:SC P ao s fn kd n ds ops k cs e0 D is S){r:Nat}(hr:r∈T)(hT:∀ t∈T,t≠r->reach ops 8 t r=true)
  {m0:Nat} (E1:∀ e aa,pX ops e0 D S r e aa->Way P ao s m0 (gr fn kd n e ds (.inRegion ops (r::aa)::k) cs)):
  ∀ (fuel t:Nat) (listed:Array Bool) (e:Nat->Value),listed.size=ops.size->vO (λi=>listed[i]?.getD false) ops.size=fuel->Bj ops e0 D S (Lb listed) e->¬ Lb listed r->
   Way P ao s (fuel+m0) (gr fn kd n e ds (.inRegion ops (Region.linearise.go md ops fuel t listed [])::k) cs):=by
 intro fuel
 induction fuel with
 |zero=>
  intro t listed e hsz hu st tv;exact absurd (qJ hu r (rg.Tlt r hr)) tv
 |succ fuel ih=>
  intro t listed e hsz hu st tv;have qc:∀ i,i∈((List.range ops.size).filter λi=> !listed.getD i true&&((ops[i]?).map (·.after.all λe=> !Region.binds md e||listed.getD e.on false)).getD false)↔i<ops.size/\listed[i]?.getD false=false/\∀ j∈tF md ops i,listed[j]?.getD false=true:=by
   intro i;simp only[iU,mM,j8,Ek];constructor
   ·rintro⟨h1,h2,h3⟩;refine⟨h1,?_,(rO h1).1 h3⟩;have:i<listed.size:=ak;simpa[Array.getD_eq_getD_getElem?,this]using h2
   ·rintro⟨h1,h2,h3⟩;refine⟨h1,?_,(rO h1).2 h3⟩;have:i<listed.size:=ak;simpa[Array.getD_eq_getD_getElem?,this]using h2
  simp only[Region.linearise.go];generalize hG:((List.range ops.size).filter λi=> !listed.getD i true&&((ops[i]?).map (·.after.all λe=> !Region.binds md e||listed.getD e.on false)).getD false)=rs at qc;obtain⟨i1,xm,K5,_⟩:=iM (f:=λi=>listed[i]?.getD false) (m:=ops.size) (by rw[hu];omega);obtain⟨i0,EB,Sq,Hx⟩:=rg.prog md (λi=>listed[i]?.getD false) ⟨i1,xm,K5⟩;have eL:rs.length≠0:=by have:i0∈rs:=(qc i0).2 ⟨EB,Sq,Hx⟩;intro z;rw[Ad]at z;rw[z]at this;cases this
  have OT:t%rs.length<rs.length:=En _ ak;rw[fp OT];simp only;generalize cG:rs[t%rs.length]=i;have eT:i∈rs:=by rw[<- cG];exact bC OT
  obtain⟨dI,xG,Wp⟩:=(qc i).1 eT;have i9:∀ j∈A9 ops i,listed[j]?.getD false=true:=λj hj=>Wp j (xM hj);have Hy:Region.linearise.go md ops fuel (t/rs.length) (listed.setIfInBounds i true) [i]=i::Region.linearise.go md ops fuel (t/rs.length) (listed.setIfInBounds i true) []:=nJ md ops fuel (t/rs.length) (listed.setIfInBounds i true) i;rw[Hy];have tw:(listed.setIfInBounds i true).size=ops.size:=by simpa using hsz
  have Ai:i<listed.size:=ak;have oM:=xN (listed:=listed) Ai;have Hz:¬ (listed[i]?.getD false=true):=by rw[xG];simp
  by_cases hir:i=r
  ·subst hir;exact(E1 e _ ⟨md,fuel,_,listed,hsz,hu,st,tv,i9,rfl⟩).mono ak
  ·have JQ:vO (λj=>(listed.setIfInBounds i true)[j]?.getD false) ops.size=fuel:=by have:=(uM (f:=λj=>listed[j]?.getD false) (f':=λj=>(listed.setIfInBounds i true)[j]?.getD false) (i:=i) xG (by simp[oM]) (λj hj=>by simp[oM,hj]) (m:=ops.size)).1 dI;rw[hu]at this;omega
   have hL:∀ j,((listed.setIfInBounds i true)[j]?.getD false=true)↔(j=i\/listed[j]?.getD false=true):=λj=>by rw[oM];by_cases e:j=i<;>simp[e]
   have jE:i∈is:=by
    rcases rg.Z8 i dI with h|h
    ·exact h
    ·exfalso;have h1:=hT i h hir;rcases ly (f:=7) h1 with h2|⟨m,hm,h2⟩
     ·exact hir h2
     ·exact tv (gI st.cl 7 m r h2 (i9 m hm))
   obtain⟨x,hx,rfl⟩:=sw.all i jE;obtain⟨Sx,hSx,ob⟩:=sw.ob x hx;have HA:=sw.lk x hx;have K6:=st.env Hz i9 (S':=Sx) hSx;have key:=ob (fuel+m0) e (Region.linearise.go md ops fuel (t/rs.length) (listed.setIfInBounds x.i true) []);rw[K6]at key;rw[show fuel+1+m0=fuel+m0+1 by omega];refine key (ih _ _ _ tw JQ ⟨λy hy Wr=>?_,λs h2=>?_,λs w h2 hw=>?_,λw hw j hj=>?_⟩ λz=>?_)
   ·by_cases OU:y.i=x.i
    ·have YQ:y=x:=sw.uq y hy x hx OU;subst YQ;simp[put]
    ·have Ws:listed[y.i]?.getD false=true:=((hL _).1 Wr).resolve_left OU;have hyt:y.t≠x.t:=λe=>OU (uP rg (sw.lk y hy) (e▸HA));simp only[put,aq hyt];exact st.v1 y hy Ws
   ·have:s≠x.t:=λe=>by subst e;rw[rg.d2 _ _ HA]at h2;cases h2
    simp only[put,aq this];exact st.v2 s h2
   ·have:s≠x.t:=λe=>by subst e;rw[rg.d2 _ _ HA]at h2;exact hw ((hL w).2 (.inl (bY h2).symm))
    simp only[put,aq this];exact st.v3 s w h2 λh=>hw ((hL w).2 (.inr h))
   ·have hw:(listed.setIfInBounds x.i true)[w]?.getD false=true:=hw;show(listed.setIfInBounds x.i true)[j]?.getD false=true;rw[hL]at hw⊢;rcases hw with rfl|hw
    ·exact .inr (i9 j hj)
    ·exact .inr (st.cl w hw j hj)
   ·rcases(hL r).1 z with h|h
    ·exact hir h.symm
    ·exact tv h
theorem CL:∀ (N m:Nat),vO (λi=>(Array.replicate N false)[i]?.getD false) m=m
 |N,0=>rfl
 |N,m+1=>by unfold vO;rw[CL N m,mV];rfl
theorem yQ{c:Code}(D:List (Nat×Nat))(is T:List Nat)(r:Nat)(S:List SE)(sw:SC P ao s fn kd n ds (cO c) k cs e0 D is S)(m0:Nat)(E1:∀ e aa,pX (cO c) e0 D S r e aa->Way P ao s m0 (gr fn kd n e ds (.inRegion (cO c) (r::aa)::k) cs))
  (hr:r∈T:=by decide) (hT:(T.all λt=>t==r||reach (cO c) 8 t r)=true:=by decide+kernel) (hc:ck c=.draw:=by rfl) (hg:sO (cO c) D T is=true:=by decide+kernel):Way P ao s ((cO c).size+m0+1) (gr fn kd n e0 ds (.code c::k) cs):=by
 have rg:=uO hg;refine Wv (λt=>?_) hc;have st:Bj (cO c) e0 D S (Lb (Array.replicate (cO c).size false)) e0:=⟨λx _ h=>absurd h (by unfold Lb;rw[mV];simp),λ_ _=>rfl,λ_ _ _ _=>rfl,λw h=>absurd h (by unfold Lb;rw[mV];simp)⟩;have hT':∀ t∈T,t≠r->reach (cO c) 8 t r=true:=λt ht eL=>by have:=k9.1 hT t ht;simpa[eL]using this
 unfold Region.schedule;split
 ·unfold Region.linearise;exact J3 rg sw hr hT' E1 _ _ _ _ (by simp) (CL _ _) st (by unfold Lb;rw[mV];simp)
 ·unfold Region.linearise;exact J3 rg sw hr hT' E1 _ _ _ _ (by simp) (CL _ _) st (by unfold Lb;rw[mV];simp)
theorem Lc{c:Code}(D:List (Nat×Nat))(is T:List Nat)(r:Nat)(S:List SE)(sw:SC P ao s fn kd n ds (cO c) k cs e0 D is S)(E1:∀ e aa,pX (cO c) e0 D S r e aa->N8 P ao s (gr fn kd n e ds (.inRegion (cO c) (r::aa)::k) cs))
  (hr:r∈T:=by decide) (hT:(T.all λt=>t==r||reach (cO c) 8 t r)=true:=by decide+kernel) (hc:ck c=.draw:=by rfl) (hg:sO (cO c) D T is=true:=by decide+kernel) (HJ:Nat.ble (cO c).size 39=true:=by rfl):Way P ao s 40 (gr fn kd n e0 ds (.code c::k) cs):=by
 have HJ:=xa HJ;exact Way.mono (yQ D is T r S sw 0 E1 hr hT hc hg) ak
theorem pX.aa{r:Nat}{e:Nat->Value}{aa:List Nat}(h:pX ops e0 D S r e aa)(ha:((List.range ops.size).all λi=>i==r||reach ops 8 r i)=true):aa=[]:=by
 obtain⟨md,fuel,t,listed,hsz,hu,st,tv,i9,rfl⟩:=h;have hl:∀ i,i<ops.size->i≠r->Lb listed i:=λi hi eL=>by
  have:=k9.1 ha i (mM.2 hi);have h1:reach ops 8 r i=true:=by simpa[eL]using this
  rcases ly (f:=7) h1 with h2|⟨m,hm,h2⟩
  ·exact absurd h2.symm eL
  ·exact gI st.cl 7 m i h2 (i9 m hm)
 have h0:vO (λi=>(listed.setIfInBounds r true)[i]?.getD false) ops.size=0:=by
  obtain⟨i1,xm,K5,_⟩|h:=Classical.em (∃ i,i<ops.size/\(listed.setIfInBounds r true)[i]?.getD false=false/\True)
  ·exfalso;have dI:i1<listed.size:=ak;by_cases e:i1=r
   ·subst e;simp[dI]at K5
   ·rw[gC (i3 e)]at K5;have:=hl i1 xm e;unfold Lb at this;rw[this]at K5;cases K5
  ·rcases Nu (vO (λi=>(listed.setIfInBounds r true)[i]?.getD false) ops.size)with h1|h1
   ·exact h1
   ·obtain⟨i1,xm,K5,_⟩:=iM (f:=λi=>(listed.setIfInBounds r true)[i]?.getD false) (NH.1 h1);exact absurd ⟨i1,xm,K5,trivial⟩ h
 by_cases Cn:r<ops.size
 ·have Ai:r<listed.size:=ak;have oM:=xN (listed:=listed) Ai;have xG:listed[r]?.getD false=false:=by
   cases e:listed[r]?.getD false with
   |false=>rfl
   |true=>exact absurd e tv
  have:=(uM (f:=λj=>listed[j]?.getD false) (f':=λj=>(listed.setIfInBounds r true)[j]?.getD false) (i:=r) xG (by simp[oM]) (λj hj=>by simp[oM,hj]) (m:=ops.size)).1 Cn;have hf:fuel=0:=ak;subst hf;rfl
 ·exfalso;have:vO (λi=>listed[i]?.getD false) ops.size=0:=by
   rcases Nu (vO (λi=>listed[i]?.getD false) ops.size)with h1|h1
   ·exact h1
   ·obtain⟨i1,xm,K5,_⟩:=iM (f:=λi=>listed[i]?.getD false) (NH.1 h1);have h2:=hl i1 xm ak;unfold Lb at h2;rw[h2]at K5;cases K5
  omega
theorem pX.listed{r:Nat}{e:Nat->Value}{aa:List Nat}(h:pX ops e0 D S r e aa)(ha:((List.range ops.size).all λi=>i==r||reach ops 8 r i)=true):∃ L:Nat->Prop,Bj ops e0 D S L e/\¬ L r/\∀ i,i<ops.size->i≠r->L i:=by
 obtain⟨md,fuel,t,listed,hsz,hu,st,tv,i9,rfl⟩:=h;refine⟨_,st,tv,λi hi eL=>?_⟩;have:=k9.1 ha i (mM.2 hi);have h1:reach ops 8 r i=true:=by simpa[eL]using this
 rcases ly (f:=7) h1 with h2|⟨m,hm,h2⟩
 ·exact absurd h2.symm eL
 ·exact gI st.cl 7 m i h2 (i9 m hm)
theorem Pg:∀ {S:List SE} {s:Nat},(∀ x∈S,x.t≠s)->M9 S s=none
 |[],_,_=>rfl
 |x::S,s,h=>by unfold M9;rw[aq (h x (iI ..))];exact Pg λy hy=>h y (gu _ hy)
theorem J4:∀ {S:List SE} {s:Nat} {v:Value},(∃ x∈S,x.t=s)->(∀ x∈S,x.t=s->x.v=v)->M9 S s=some v
 |[],_,_,h,_=>by obtain⟨x,hx,_⟩:=h;cases hx
 |x::S,s,v,h,hv=>by
  unfold M9;by_cases e:x.t=s
  ·rw[aK e,hv x (iI ..) e]
  ·rw[aq e];refine J4 ?_ λy hy=>hv y (gu _ hy);obtain⟨y,hy,ey⟩:=h;rcases gq.1 hy with rfl|hy
   ·exact absurd ey e
   ·exact⟨y,hy,ey⟩
theorem pX.full{r:Nat}{e:Nat->Value}{aa:List Nat}(rg:Bb ops D T is)(hr:r∈T)(hT:T=[r])(all:∀ i∈is,∃ x∈S,x.i=i)(sub:∀ x∈S,x.i∈is)(uq:∀ x∈S,∀ y∈S,x.i=y.i->x=y)(lk:∀ x∈S,iF ops x.i=some x.t)
  (h:pX ops e0 D S r e aa) (ha:((List.range ops.size).all λi=>i==r||reach ops 8 r i)=true):e=pS e0 S:=by
 obtain⟨L,st,tv,hl⟩:=h.listed ha;have dI:∀ x∈S,x.i<ops.size/\x.i≠r:=λx hx=>⟨(rg.Z9 x.i (sub x hx)).2,λz=>(rg.Z9 x.i (sub x hx)).1 (by rw[z];exact hr)⟩;have h0:∀ s,(∀ x∈S,x.t≠s)->e s=e0 s:=λs hs=>by
  cases hd:G3 D s with
  |none=>exact st.v2 s hd
  |some w=>
   refine st.v3 s w hd λhw=>?_;have hds:=rg.d1 s w hd;rcases rg.Z8 w (mU hds)with h1|h1
   ·obtain⟨x,hx,rfl⟩:=all w h1;have:=lk x hx;rw[hds]at this;exact hs x hx (bY this).symm
   ·rw[hT]at h1;obtain rfl:=dN.1 h1;exact tv hw
 funext s
 unfold pS;by_cases hs:∃ x∈S,x.t=s
 ·obtain⟨x,hx,rfl⟩:=hs;rw[J4 (v:=x.v) ⟨x,hx,rfl⟩ λy hy ey=>by have:=uq y hy x hx (uP rg (lk y hy) (ey▸lk x hx));rw[this]]
  exact st.v1 x hx (hl x.i (dI x hx).1 (dI x hx).2)
 ·have wD:∀ x∈S,x.t≠s:=λx hx z=>hs ⟨x,hx,z⟩;rw[Pg wD];exact h0 s wD
theorem HK{q:Nat}{c:Code}(D:List (Nat×Nat))(is:List Nat)(r:Nat)(S:List SE)(sw:SC P ao s fn kd n ds (cO c) k cs e0 D is S)(h:Way P ao s q (gr fn kd n (pS e0 S) ds (.inRegion (cO c) [r]::k) cs))
  (ha:((List.range (cO c).size).all λi=>i==r||reach (cO c) 8 r i)=true:=by decide+kernel) (hc:ck c=.draw:=by rfl) (hg:sO (cO c) D [r] is=true:=by decide+kernel) (HJ:Nat.ble (cO c).size 39=true:=by rfl):Way P ao s (q+40) (gr fn kd n e0 ds (.code c::k) cs):=by
 have HJ:=xa HJ;refine Way.mono (n:=(cO c).size+q+1) ?_ ak;refine yQ D is [r] r S sw q (λe aa dt=>?_) (dN.2 rfl) (by simp) hc hg;rw[dt.aa ha,dt.full (T:=[r]) (uO hg) (dN.2 rfl) rfl sw.all sw.sub sw.uq sw.lk ha];exact h
end
section
variable{R:Nat->aQ->Array Obj->Prop}{d:Nat}{fn:bM}{kd:Kd}{n:Nat}{ds:List dW}{ops:Array Oper}{k:List Item}{cs:List Frame}{e0:Nat->Value}{D:List (Nat×Nat)}{W As:List HP}{T is:List Nat}{a:Nat}{S:List SE}
theorem resume{T2:List Nat}{r t0:Nat}{v:Value}(hg:sO ops D (r::T2) is=true)(all:∀ i∈is,∃ x∈S,x.i=i)(sub:∀ x∈S,x.i∈is)(uq:∀ x∈S,∀ y∈S,x.i=y.i->x=y)(lk:∀ x∈S,iF ops x.i=some x.t)
  (ob:∀ x∈S,∃ Sx,(∀ y∈Sx,y∈⟨r,t0,v,false⟩::S)/\Y2 R d fn kd n ds ops k cs e0 D W Sx x) (hl:∀ x∈S,x.ld=true->((r::T2).filter λt=> !reach ops 8 t x.i).length<=a) (ha:1<=a) (hW:Ext As W)
  (hT:∀ t∈T2,reach ops 8 t r=true) (hd:iF ops r=some t0) (ch:Ch R d fn kd n ds ops k cs e0 D W T2.length S T2 (a-1) [⟨r,t0,v,false⟩] As)
  {e:Nat->Value} {aa:List Nat} (h:pX ops e0 D S r e aa):At R d As (gr fn kd n (put e t0 v) ds (.inRegion ops aa::k) cs):=by
 obtain⟨md,fuel,t,listed,hsz,hu,st,tv,i9,rfl⟩:=h;have rg:=uO hg;have dI:r<ops.size:=mU hd;have Ai:r<listed.size:=ak;have oM:=xN (listed:=listed) Ai;have xG:listed[r]?.getD false=false:=by
  cases e:listed[r]?.getD false with
  |false=>rfl
  |true=>exact absurd e tv
 have hL:∀ j,((listed.setIfInBounds r true)[j]?.getD false=true)↔(j=r\/listed[j]?.getD false=true):=λj=>by rw[oM];by_cases e:j=r<;>simp[e]
 have JQ:vO (λj=>(listed.setIfInBounds r true)[j]?.getD false) ops.size=fuel:=by have:=(uM (f:=λj=>listed[j]?.getD false) (f':=λj=>(listed.setIfInBounds r true)[j]?.getD false) (i:=r) xG (by simp[oM]) (λj hj=>by simp[oM,hj]) (m:=ops.size)).1 dI;rw[hu]at this;omega
 have hnT:=rP rg.nd;have aat:r∉T2:=(sf.1 hnT).1;have aau:∀ x∈S,x.i≠r:=λx hx z=>(rg.Z9 x.i (sub x hx)).1 (by rw[z];exact iI ..);refine vP (T:=r::T2) (is:=is) (a:=a) (W:=W) (lr:=As) (e0:=e0) (D:=D) rg fuel t (listed.setIfInBounds r true) (put e t0 v) S [⟨r,t0,v,false⟩] [r] T2 [] As (by simpa using hsz) JQ ⟨λx hx hLx=>?_,λs hs=>?_,λs w hs hw=>?_,λw hw j hj=>?_,?_,λu hu=>?_,λu hu z=>?_,λx hx=>?_,λu hu s hs=>?_,λx hx=>?_,λx hx=>?_,λi hi=>?_,hl,uq,ch,λ_=>hW⟩
 ·rcases cg.1 hx with hx|hx
  ·obtain rfl:=dN.1 hx;simp[put]
  ·have hxt:x.t≠t0:=λz=>aau x hx (uP rg (lk x hx) (z▸hd));simp only[put,aq hxt];exact st.v1 x hx (((hL _).1 hLx).resolve_left (aau x hx))
 ·have:s≠t0:=λz=>by subst z;rw[rg.d2 _ _ hd]at hs;cases hs
  simp only[put,aq this];exact st.v2 s hs
 ·have:s≠t0:=λz=>by subst z;rw[rg.d2 _ _ hd]at hs;exact hw ((hL w).2 (.inl (bY hs).symm))
  simp only[put,aq this];exact st.v3 s w hs λz=>hw ((hL w).2 (.inr z))
 ·rw[hL]at hw⊢;rcases hw with rfl|hw
  ·exact .inr (i9 j hj)
  ·exact .inr (st.cl w hw j hj)
 ·simp
 ·obtain rfl:=dN.1 hu;exact(hL u).2 (.inl rfl)
 ·rcases(hL u).1 z with rfl|h
  ·exact aat hu
  ·rcases ly (f:=7) (hT u hu)with h2|⟨m,hm,h2⟩
   ·exact aat (h2▸hu)
   ·exact tv (gI st.cl 7 m r h2 (st.cl u h m hm))
 ·rcases cg.1 hx with hx|hx
  ·obtain rfl:=dN.1 hx;exact hd
  ·exact lk x hx
 ·obtain rfl:=dN.1 hu;rw[hd]at hs;exact⟨_,dN.2 rfl,bY hs⟩
 ·obtain rfl:=dN.1 hx;exact dN.2 rfl
 ·obtain⟨Sx,h1,h2⟩:=ob x hx;exact⟨.inl (sub x hx),Sx,h1,h2⟩
 ·exact all i (hi.resolve_right (by simp))
end
end
section
open Go.Conc
theorem dz{P:bR}{B:j9}{α:Type}{s:Sem α}{v:α}{H:Array Obj}{d:Nat}{Q:α->Array Obj->Nat->Prop}(h:fJ P s=some v)(q:Q v H d):dC P B s H d Q:=by
 induction s with
 |pure a=>obtain rfl:=bY h;exact q
 |program k ih=>exact ih P h
 |_=>cases h
variable{P:bR}{ao:Bool}{B:j9}{R:Nat->aQ->Array Obj->Prop}{d:Nat}{As aO F:List HP}
variable{fn:bM}{kd:Kd}{n:Nat}{e:Nat->Value}{ds:List dW}{k:List Item}{cs:List Frame}
variable{ops:Array Oper}{i:Nat}{aa:List Nat}{dst:Option Nat}{t:Nat}{ty:aR}{pos:String}{af:Array Edge}{gd:Option (Nat×Bool)}{x y z:cU}{v:Value}
theorem ab.v0(C:ab P ao B R){op:Op}(ho:aZ ops i=some ⟨some t,op,ty,pos,af,gd⟩)(h:Nx R d As fn kd n e ds ops aa k cs t v)(hv:fJ P (execOp (ev n e) ⟨some t,op,ty,pos,af,gd⟩)=some (.value v))(hw:aN ops n e gd=true:=by rfl):
  Nw R d As fn kd n e ds ops i aa k cs:=
 C.gen ho hw λH s=>dz hv ⟨As,s,h⟩
theorem ab.ta(C:ab P ao B R){xt tt:aR}{ok:Bool}{u:TypeDesc}(hu:P.underlying tt=some u)(Ry:(match u with|.interface _=>true|_=>false)=false)(ho:aZ ops i=some ⟨some t,.typeAssert x xt tt ok,ty,pos,af,gd⟩)
  (h:Nx R d As fn kd n e ds ops aa k cs t (if ok then .tuple #[v,.bool true]else v)) (hx:ev n e x=.iface tt v:=by rfl) (hw:aN ops n e gd=true:=by rfl):
  Nw R d As fn kd n e ds ops i aa k cs:=
 C.v0 ho h (by unfold execOp;simp only[hx];refine br (a:=if ok then .tuple #[v,.bool true]else v) ?_ rfl;unfold Instr.typeAssert;refine br (fx hu) ?_;cases u<;>first|(cases Ry;done)|(simp only[eQ];rfl)) hw
theorem ab.taN(C:ab P ao B R){xt tt t0:aR}{u:TypeDesc}{zv:Value}(hu:P.underlying tt=some u)(Ry:(match u with|.interface _=>true|_=>false)=false)(hz:∃ i,P.info? tt=some i/\i.zero=some zv)(ho:aZ ops i=some ⟨some t,.typeAssert x xt tt true,ty,pos,af,gd⟩)
  (h:Nx R d As fn kd n e ds ops aa k cs t (.tuple #[zv,.bool false])) (hx:ev n e x=.iface t0 v:=by rfl) (eL:t0≠tt:=by decide) (hw:aN ops n e gd=true:=by rfl):
  Nw R d As fn kd n e ds ops i aa k cs:=
 C.v0 ho h (by unfold execOp;simp only[hx];refine br (a:=.tuple #[zv,.bool false]) ?_ rfl;unfold Instr.typeAssert;refine br (fx hu) ?_;cases u<;>first|(cases Ry;done)|(simp only[aq eL,eQ];exact br (qR hz) rfl)) hw
theorem ab.en(C:ab P ao B R){o:Oper}{f:bM}{args:Array Value}{A:List HP}{Q:Value->List HP->Prop}(hs:aB P ao B f args A Q)(he:fJ P (execOp (ev n e) o)=some (.enter f args))
  (h:∀ v aO,Q v aO->At R d (aO++F) (gr fn kd n (di e o.dst v) ds (.inRegion ops aa::k) cs)) (ho:aZ ops i=some o:=by rfl)
  (hr:dJ A As F:=by exact dJ.au) (hw:aN ops n e o.guard=true:=by rfl):Nw R d As fn kd n e ds ops i aa k cs:=by
 refine At.perm hr.perm (C.gen ho hw λH s=>dz he ⟨A++F,s,?_⟩);exact hs R C .pR d F _ cs trivial λv aO q=>by show At R d (aO++F) (e8 _ cs v);rw[oH ho];exact h v aO q
theorem ab.x0(C:ab P ao B R){f:bM}{fu:Func}{ex:Array Value->Sem Value}[b:ew P f fu ex]{fo:cU}{args:Array cU}{ga:Array aR}{vl:List Value}(hx:fJ P (ex vl.toArray)=some v)
  (ho:aZ ops i=some ⟨dst,.call ⟨.value fo,args,ga⟩,ty,pos,af,gd⟩) (h:At R d As (gr fn kd n (di e dst v) ds (.inRegion ops aa::k) cs)) (hf:ev n e fo=.func (.func f) #[] #[]:=by rfl) (hv:args.toList.map (ev n e)=vl:=by rfl) (hw:aN ops n e gd=true:=by rfl):
  Nw R d As fn kd n e ds ops i aa k cs:=
 C.xt (vl:=vl) (λH s=>dz hx ⟨As,s,h⟩) ho hw hf hv
theorem Wy{tt el:aR}{dir:ChanDir}{inf:TypeInfo}(hu:P.underlying tt=some (.chan dir el))(hi:P.info? el=some inf){H:Array Obj}{Q:Next->Array Obj->Nat->Prop}(q:Q (.value (.chan (some H.size))) (H.push (.chan 0 #[] false 0 0 false)) d)
  (hx:ev n e x=.int .i64 0) {o:Oper} (cx:o.op=.makeChan tt x):dC P B (execOp (ev n e) o) H d Q:=by
 unfold execOp;simp only[cx,hx];refine ah ?_;unfold Instr.makeChan;refine ah (dz (v:=(0:Int)) rfl ?_);refine ah (dz (fx hu) ?_);refine ah ?_;simp only[Int.lt_irrefl,false_or];refine dz (m5 hi) ?_;have h1:¬ ((0:Int)>IntKind.i64.max):=by decide
 have h2:¬ ((inf.bytes:Int)*0>2^48-112):=by simp
 simp only[h1,h2,or_self,eY];show dC P B (newObj (.chan 0 #[] false 0 0 false) >>= λr=>_) H d _;exact q
theorem ab.dfx(C:ab P ao B R){f:bM}{fu:Func}{ex:Array Value->Sem Value}[b:ew P f fu ex]{cap uG:Array Value}{Wz:List dW}{todo:List Item}{kd:Kd}
  (h:∀ H,Sat As (hp H)->dC P B (ex (uG++cap)) H d λv H' d'=>∃ aO,Sat aO (hp H')/\At R d' aO (qF fn kd n e Wz todo cs)):At R d As (qF fn kd n e (⟨.fn (.func f) cap,uG⟩::Wz) todo cs):=λH s=>by
 refine C.step d _ H rfl λw nV=>?_;have h0:dC P B (invoke (.fn (.func f) cap) uG) H d λy H' d'=>∃ v,y=.value v/\R d' (qF fn kd n e Wz todo cs) H':=by unfold invoke callFunc;refine ah ?_;show dC P B _ H d _;simp only[program,dC];rw[b.func];simp only[b.name,b.body,eQ,gR,eY];refine ah ?_;simp only[mark,dC,kF,n0,mN];simp only[b.nx,b.fd];refine ah (oD (λv H' d' q=>?_) (h H s));obtain⟨aO,s',q⟩:=q;exact aA ⟨v,rfl,q H' s'⟩
 obtain⟨y,w',es,d',r1,r2,r3,r4,r5,r6,v,rfl,r7⟩:=oE (w:=w) #[] nV h0;obtain⟨s1,s2⟩:=oG (P:=P) (d:=d) (fn:=fn) r5;rw[r6]at s2;refine⟨_,w',seen P fn es,?_,r2,r3,r4,s1,by rw[s2];exact r7⟩;simp only[w9,Ab]at r1;simp only[qF,qe,aV,stepG,unwind,callDeferred,r1];simp[GStep.after,Kd.k]
variable{Post:Value->World->Prop}{X:tH}{σ:Gh}{os:Os}{out:Array (Nat×ByteArray)}
theorem aD.mc{tt el:aR}{dir:ChanDir}{inf:TypeInfo}(hu:P.underlying tt=some (.chan dir el))(hi:P.info? el=some inf)(ho:aZ ops i=some ⟨some t,.makeChan tt x,ty,pos,af,gd⟩)
  (h:∀ b,(∀ i s,σ.aU i=some s->¬ s.has b)->At (aD P Post X σ 0 os out) d (bX b (.chan 0 #[] false 0 0 false)::As) (gr fn kd n (put e t (.chan (some b))) ds (.inRegion ops aa::k) cs))
  (hx:ev n e x=.int .i64 0:=by rfl) (hw:aN ops n e gd=true:=by rfl):At (aD P Post X σ 0 os out) d As (gr fn kd n e ds (.inRegion ops (i::aa)::k) cs):=λH st hole go w HF qp JQ=>by
 have C:ab P true (X.bw σ) (aD P Post X σ 0 os out):=aD.dM;refine C.op (H:=H) (d:=d) (fn:=fn) (kd:=kd) (n:=n) (e:=e) (ds:=ds) (k:=k) (cs:=cs) (ops:=ops) (i:=i) (aa:=aa) (by rw[dw];exact ho) (by rw[eh];exact hw) ?_ hole go w HF qp JQ;refine Wy hu hi ?_ hx rfl;refine h _ (λi' s' e' hc=>?_) _ (st.push _);have:=go.cl i' s' _ e' hc;omega
theorem aD.oF{f:bM}{cap uG:Array Value}{Wz:List dW}{todo:List Item}{kd:Kd}{A:List HP}{Q:Value->Gh->List HP->Prop}{fu:Func}{cc:Code}{nf:Nat}[b:Body P f fu cc nf](hs:bD P X f (uG++cap) σ A Q)
  (h:∀ v σ' aO,Q v σ' aO->At (aD P Post X σ' 0 os out) 0 (aO++F) (qF fn kd n e Wz todo cs)) (hr:dJ A As F:=by exact dJ.au):At (aD P Post X σ 0 os out) 0 As (qF fn kd n e (⟨.fn (.func f) cap,uG⟩::Wz) todo cs):=by
 refine At.perm hr.perm ?_;have C:ab P true (X.bw σ) (aD P Post X σ 0 os out):=aD.dM;intro H st;refine C.Sh (f:=f) (args:=uG) (.inr ⟨cap,rfl⟩) ?_;refine nF (P:=P) (f:=f) (uG++cap) _ H 0 _ ?_;refine⟨f,_,rfl,?_⟩;exact hs Post os out .oF F (qe fn kd n e Wz todo) cs rfl (λv σ' aO q=>h v σ' aO q) H st
theorem xQ{H:Array Obj}{b o:Nat}{c:Array Value}{el:aR}{Q:Bool->Array Obj->Nat->Prop}(h1:hp H b=some (.cells c el (0,0)))(q:Q false H d):dC P B (frozen ⟨b,o,none⟩) H d Q:=by have K0:H[b]? =some (.cells c el (0,0)):=h1;simp only[frozen,dC,xL,K0];simpa using q
theorem E2{H:Array Obj}{b o:Nat}{c:Array Value}{el:aR}{Q:Bool->Array Obj->Nat->Prop}(h1:hp H b=some (.cells c el (0,0)))(q:Q false H d):dC P B (stringish ⟨b,o,none⟩) H d Q:=by unfold stringish;refine ah (xQ h1 ?_);simp only[gR,eY];refine ah ?_;have K0:H[b]? =some (.cells c el (0,0)):=h1;simp only[shape,dC,tD,K0];exact xQ h1 q
theorem Ph{H:Array Obj}{b1 o1 b2 o2:Nat}{c1 c2:Array Value}{e1 e2:aR}{Q:Bool->Array Obj->Nat->Prop}(h1:hp H b1=some (.cells c1 e1 (0,0)))(h2:hp H b2=some (.cells c2 e2 (0,0)))
  (q:Q (decide (b1=b2/\o1=o2)) H d):dC P B (sameAddr ⟨b1,o1,none⟩ ⟨b2,o2,none⟩) H d Q:=by
 unfold sameAddr;by_cases hb:b1=b2
 ·subst hb;simp only[beq_self_eq_true,eQ];refine ah (aA ?_);have:((⟨b1,o1,none⟩:Addr)==⟨b1,o2,none⟩)=decide (b1=b1/\o1=o2):=by rw[Bool.eq_iff_iff];simp
  first|exact aA (by rw[this];exact q)|(simp only[this];exact q)
 ·have hbb:(b1==b2)=false:=by simpa using hb
  simp only[hbb,gR,eY];refine ah (xQ h1 ?_);refine ah (xQ h2 ?_);simp only[Bool.and_self,gR,eY];refine ah (ah ?_);refine pz h1 ?_;refine aA ?_;refine ah (ah ?_);refine pz h2 ?_;refine aA ?_;refine ah ?_;unfold mayBeOne;refine ah (E2 h1 ?_);refine ah (E2 h2 ?_);refine ah (ah ?_);have K0:H[b1]? =some (.cells c1 e1 (0,0)):=h1;have M8:H[b2]? =some (.cells c2 e2 (0,0)):=h2;simp only[shape,dC,tD,K0];refine aA ?_;refine ah (ah ?_);simp only[shape,dC,tD,M8];refine aA ?_;simp only[AQ,Bool.or_self];refine aA ?_;have:decide (b1=b2/\o1=o2)=false:=by simp[hb]
  rw[this]at q;exact q
theorem SD{H:Array Obj}{b1 o1 b2 o2:Nat}{c1 c2:Array Value}{e1 e2 tt tx tp:aR}{sz:Nat}{ms:Array (String×aR)}{inf:TypeInfo}{Q:Bool->Array Obj->Nat->Prop}(hu:P.underlying tt=some (.interface ms))(hi:P.info? tx=some inf)(hc:inf.comparable=true)[c:Pt P tx tp][cz:Cz P tp sz](hz:sz≠0)
  (h1:hp H b1=some (.cells c1 e1 (0,0))) (h2:hp H b2=some (.cells c2 e2 (0,0))) (q:Q (decide (b1=b2/\o1=o2)) H d):dC P B (Op.equal tt (.iface tx (.pointer (some ⟨b1,o1,none⟩))) (.iface tx (.pointer (some ⟨b2,o2,none⟩)))) H d Q:=by
 unfold Op.equal;show dC P B (Op.equalIn (9998+1+1) _ _ _) H d Q;unfold Op.equalIn;refine ah (dz (fx hu) ?_);simp only[ne_eq,KM,eY];refine ah (dz (m5 hi) ?_);simp only[hc,AR,gR,eY];unfold Op.equalIn;refine ah (dz (fx c.h) ?_);simp only;refine ah (ik B H d _ ?_);simp only[ne_eq,hz,not_false_eq_true,eQ];exact Ph h1 h2 q
theorem SF{H:Array Obj}{tt tx ty:aR}{u w:Value}{ms:Array (String×aR)}{Q:Bool->Array Obj->Nat->Prop}(hu:P.underlying tt=some (.interface ms))(eL:tx≠ty)(q:Q false H d):dC P B (Op.equal tt (.iface tx u) (.iface ty w)) H d Q:=by unfold Op.equal;show dC P B (Op.equalIn (9998+1+1) _ _ _) H d Q;unfold Op.equalIn;refine ah (dz (fx hu) ?_);simp only[ne_eq,eL,not_false_eq_true,eQ];exact aA q
def isEq:BinOp->Option Bool
 |.eql=>some true
 |.neq=>some false
 |_=>none
theorem J5{H:Array Obj}{op:BinOp}{r:Bool}{tt tx ty:aR}{u w:Value}{Q:Value->Array Obj->Nat->Prop}(cx:isEq op=some r)(h:dC P B (Op.equal tt (.iface tx u) (.iface ty w)) H d λz H' d'=>Q (.bool (z==r)) H' d'):dC P B (do eqGuard op tt x y (.iface tx u) (.iface ty w);binOp op tt (.iface tx u) (.iface ty w)) H d Q:=by
 cases op<;>first|(cases cx;done)|skip
 ·obtain rfl:=bY cx;refine ah (dz (v:=()) ?_ ?_)
  ·unfold eqGuard;rfl
  ·show dC P B (Op.equal _ _ _ >>= λz=>pure (.bool z)) H d Q;refine ah (oD (λz H' d' hz=>?_) h);refine aA (?_);simpa using hz
 ·obtain rfl:=bY cx;refine ah (dz (v:=()) ?_ ?_)
  ·unfold eqGuard;rfl
  ·show dC P B (Op.equal _ _ _ >>= λz=>pure (.bool (!z))) H d Q;refine ah (oD (λz H' d' hz=>?_) h);refine aA (?_);simpa using hz
theorem ab.SG(C:ab P ao B R){op:BinOp}{r:Bool}{b1 o1 b2 o2:Nat}{c1 c2:Array Value}{e1 e2 tt t2 tx tp:aR}{sz:Nat}{ms:Array (String×aR)}{inf:TypeInfo}(hu:P.underlying tt=some (.interface ms))(hi:P.info? tx=some inf)(hc:inf.comparable=true)[c:Pt P tx tp][cz:Cz P tp sz]
  (ho:aZ ops i=some ⟨some t,.binOp op tt x y t2,ty,pos,af,gd⟩) (h:At R d As (gr fn kd n (put e t (.bool (decide (b1=b2/\o1=o2)==r))) ds (.inRegion ops aa::k) cs)) (h1:∀ H,Sat As (hp H)->hp H b1=some (.cells c1 e1 (0,0))) (h2:∀ H,Sat As (hp H)->hp H b2=some (.cells c2 e2 (0,0)))
  (cx:isEq op=some r:=by rfl) (hx:ev n e x=.iface tx (.pointer (some ⟨b1,o1,none⟩)):=by rfl) (hy:ev n e y=.iface tx (.pointer (some ⟨b2,o2,none⟩)):=by rfl) (hz:sz≠0:=by decide) (hw:aN ops n e gd=true:=by rfl):Nw R d As fn kd n e ds ops i aa k cs:=
 C.gen ho hw λH s=>by unfold execOp;simp only[hx,hy];exact ah (J5 cx (SD hu hi hc hz (h1 H s) (h2 H s) ⟨As,s,h⟩))
theorem ab.eqN(C:ab P ao B R){op:BinOp}{r:Bool}{tt t2 tx UR:aR}{u w:Value}{ms:Array (String×aR)}(hu:P.underlying tt=some (.interface ms))(ho:aZ ops i=some ⟨some t,.binOp op tt x y t2,ty,pos,af,gd⟩)(h:Nx R d As fn kd n e ds ops aa k cs t (.bool (false==r)))
  (cx:isEq op=some r:=by rfl) (hx:ev n e x=.iface tx u:=by rfl) (hy:ev n e y=.iface UR w:=by rfl) (eL:tx≠UR:=by decide) (hw:aN ops n e gd=true:=by rfl):Nw R d As fn kd n e ds ops i aa k cs:=
 C.gen ho hw λH s=>by unfold execOp;simp only[hx,hy];exact ah (J5 cx (SF hu eL ⟨As,s,h⟩))
theorem ab.SH(C:ab P ao B R){op:BinOp}{r:Bool}{tt t2 tx:aR}{u:Value}{ms:Array (String×aR)}(hu:P.underlying tt=some (.interface ms))(ho:aZ ops i=some ⟨some t,.binOp op tt x y t2,ty,pos,af,gd⟩)(h:Nx R d As fn kd n e ds ops aa k cs t (.bool (false==r)))
  (cx:isEq op=some r:=by rfl) (hx:ev n e x=.iface tx u:=by rfl) (hy:ev n e y=.nilIface:=by rfl) (hw:aN ops n e gd=true:=by rfl):Nw R d As fn kd n e ds ops i aa k cs:=
 C.v0 ho h (by
  unfold execOp;simp only[hx,hy];refine br (a:=.bool (false==r)) ?_ rfl;have h0:fJ P (Op.equal tt (.iface tx u) .nilIface)=some false:=by unfold Op.equal;show fJ P (Op.equalIn (9998+1+1) _ _ _)=_;unfold Op.equalIn;exact br (fx hu) rfl
  cases op<;>first|(cases cx;done)|skip
  ·obtain rfl:=bY cx;refine br (a:=()) (by unfold eqGuard;rfl) ?_;exact br h0 rfl
  ·obtain rfl:=bY cx;refine br (a:=()) (by unfold eqGuard;rfl) ?_;exact br h0 rfl) hw
def isK:cU->Bool
 |.const _=>true
 |_=>false
theorem ab.WA(C:ab P ao B R){op:BinOp}{r:Bool}{tt t2:aR}{ms:Array (String×aR)}(hu:P.underlying tt=some (.interface ms))(ho:aZ ops i=some ⟨some t,.binOp op tt x y t2,ty,pos,af,gd⟩)(h:Nx R d As fn kd n e ds ops aa k cs t (.bool (true==r)))
  (hl:(isK x||isK y)=true:=by rfl) (cx:isEq op=some r:=by rfl) (hx:ev n e x=.nilIface:=by rfl) (hy:ev n e y=.nilIface:=by rfl) (hw:aN ops n e gd=true:=by rfl):Nw R d As fn kd n e ds ops i aa k cs:=
 C.v0 ho h (by
  unfold execOp;simp only[hx,hy];refine br (a:=.bool (true==r)) ?_ rfl;have h0:fJ P (Op.equal tt .nilIface .nilIface)=some true:=by unfold Op.equal;show fJ P (Op.equalIn (9998+1+1) _ _ _)=_;unfold Op.equalIn;exact br (fx hu) rfl
  cases op<;>first|(cases cx;done)|skip
  ·obtain rfl:=bY cx;refine br (a:=()) (by cases x<;>cases y<;>first|rfl|(cases hl;done)) ?_;exact br h0 rfl
  ·obtain rfl:=bY cx;refine br (a:=()) (by cases x<;>cases y<;>first|rfl|(cases hl;done)) ?_;exact br h0 rfl) hw
theorem ab.U4(C:ab P ao B R){op:BinOp}{r:Bool}{tt t2 el:aR}[cE:El P tt el]{a:Option Addr}{len cap:Nat}(ho:aZ ops i=some ⟨some t,.binOp op tt x y t2,ty,pos,af,gd⟩)(h:Nx R d As fn kd n e ds ops aa k cs t (.bool (a.isNone==r)))
  (cx:isEq op=some r:=by rfl) (hx:ev n e x=.slice a len cap:=by rfl) (hy:ev n e y=.slice none 0 0:=by rfl) (hw:aN ops n e gd=true:=by rfl):Nw R d As fn kd n e ds ops i aa k cs:=
 C.v0 ho h (by
  unfold execOp;simp only[hx,hy];refine br (a:=.bool (a.isNone==r)) ?_ rfl;have h0:fJ P (Op.equal tt (.slice a len cap) (.slice none 0 0))=some a.isNone:=by unfold Op.equal;show fJ P (Op.equalIn (9998+1+1) _ _ _)=_;unfold Op.equalIn;refine br (fx cE.h) ?_;cases a<;>rfl
  cases op<;>first|(cases cx;done)|skip
  ·obtain rfl:=bY cx;refine br (a:=()) (by unfold eqGuard;rfl) ?_;refine br h0 ?_;cases a<;>rfl
  ·obtain rfl:=bY cx;refine br (a:=()) (by unfold eqGuard;rfl) ?_;refine br h0 ?_;cases a<;>rfl) hw
theorem ab.bs0(C:ab P ao B R){α:Type}(f:α->List Value){tt el z:Nat}[cE:El P tt el][Cz P el z](ho:aZ ops i=some ⟨some t,.buildSlice tt 0 #[],ty,pos,af,gd⟩)
  (h:∀ b,At R d (aW f z el ⟨some ⟨b,0,none⟩,0,0⟩ []::As) (gr fn kd n (put e t (ax.v ⟨some ⟨b,0,none⟩,0,0⟩)) ds (.inRegion ops aa::k) cs)) (hw:aN ops n e gd=true:=by rfl):Nw R d As fn kd n e ds ops i aa k cs:=
 C.gen ho hw λH s=>by
  unfold execOp;simp only[Instr.buildSlice];refine ah (ah (dE cE.h B H d _ ?_));refine ah (ik B H d _ ?_);simp only[KN,eQ];rw[aq ak];refine ah ?_;refine aA ?_;have e2:(Array.map (λx:Nat×cU=>(x.fst,ev n e x.snd)) #[]).toList=[]:=by simp
  rw[e2];show dC P B (newRow el _ >>= λa=>pure (Value.slice (some a) 0 0)) H d _;refine ah ?_;unfold newRow;refine ah ?_;show dC P B (.new _ _) H d _;simp only[dC];show dC P B (pure _) _ d _;refine aA (aA ⟨_,(s.push _).imp (λhh x=>?_),h _⟩);refine .inr ⟨_,[],rfl,by simp,by simp,?_⟩;have e1:Array.map (λx=>(#[]:Array Value)[x%(#[]:Array Value).size]!) (Array.range 0)=gv f [] []:=by simp[gv,flat]
  rw[<- e1];exact x
theorem ab.vA(C:ab P ao B R){tt el b off:Nat}{c:Array Value}{fr:Nat×Nat}{I:HL}{L:List HP}[Ag P tt false](hf:Fo (a9 I) As L)(hI:I b=some (.cells c el fr))(hs:B.sh el off=false)(ho:aZ ops i=some ⟨some t,.load tt x,ty,pos,af,gd⟩)(h:Nx R d As fn kd n e ds ops aa k cs t v)
  (hx:ev n e x=.pointer (some ⟨b,off,none⟩):=by rfl) (hc:c[off]? =some v:=by rfl) (hw:aN ops n e gd=true:=by rfl):Nw R d As fn kd n e ds ops i aa k cs:=
 C.gen ho hw λH st=>by have hg:hp H b=some (.cells c el fr):=(st.perm hf.perm).pf hI;unfold execOp;simp only[hx,Instr.loadAt,Instr.sureAddr];exact ah (ah (aA (gG hg hc hs ⟨As,st,h⟩)))
variable{Z:World->Prop}{W:Nat->aQ->Prop}{q:Nat}
variable{f:bM}{fu:Func}{args:Array cU}{ga:Array aR}
theorem Mt.xk(M:Mt P ao Z W){v:Value}[b:ew P f fu (λ_=>pure v)](ho:aZ ops i=some ⟨dst,.call ⟨.value (.func f),args,ga⟩,ty,pos,af,gd⟩)(h:W q (gr fn kd n (di e dst v) ds (.inRegion ops aa::k) cs))(hw:aN ops n e gd=true:=by rfl):W (q+1) (gr fn kd n e ds (.inRegion ops (i::aa)::k) cs):=
 M.s _ _ _ rfl (λw _=>by rw[jT,jT,<- lG];exact stepG_entry (o:=⟨dst,.call ⟨.value (.func f),args,ga⟩,ty,pos,af,gd⟩) (by rw[dw];exact ho) (by rw[eh];exact hw) jU rfl b.func b.name b.body b.nx b.fd (by simp) (by simp) (by simp)) h
theorem Bl(m:Mark)[b:ew P f fu (λ_=>do mark m;pure Extern.Race.none_)]{av:Array Value}{todo:List Item}(hm:∀ g,m≠ .extern g)(w:World):
  stepG P ao (qF fn kd n e (⟨.fn (.func f) #[],av⟩::ds) todo cs) w=.go (qF fn kd n e ds todo cs) w #[zY m]:=
 stepG_unwind_entry (b:=bs fn kd) (a:=⟨tm n e,⟨.fn (.func f) #[],av⟩::ds⟩) (todo:=todo) (cs:=cs) (ds:=ds) (f:=f) (args:=av) (v:=.tuple #[]) rfl b.func b.name b.body b.nx b.fd (by simp[Extern.Race.none_]) (by simp) (by intro x hx;simp at hx;subst hx;exact⟨rfl,λg h=>hm g (by cases h;rfl)⟩)
variable{G:qo}
theorem WB{g g':aQ}(hs:g.status=.running)(h:∀ w,stepG P false g w=.go g' w #[zY (.releaseMerge G.st)])(k:Cl P G q .xJ g'):Cl P G (q+1) .rel g:=⟨hs,.inr ⟨g',h,k⟩⟩
theorem WC{g g':aQ}(hs:g.status=.running)(h:∀ w,stepG P false g w=.go g' w #[zY .disable])(k:Cl P G q .add g'):Cl P G (q+1) .xJ g:=⟨hs,.inr ⟨g',h,k⟩⟩
theorem WD{g:aQ}(g':Nat->Nat->aQ)(hs:g.status=.running)(h:∀ w v wt,v<=3->wt<=1->w.cell? G.st=some (lX (v+1) wt)->w.frozen? G.st=false->stepG P false g w=.go (g' v wt) (w.setCell G.st (lX v wt)) #[ar G.st,aw G.st])
  (k1:Cl P G q .ld (g' 0 1)) (k2:∀ v wt,v<=3->wt<=1->¬ (v=0/\wt=1)->QuitsD P q 1 (g' v wt)):Cl P G (q+1) .add g:=⟨hs,.inr ⟨g',h,k1,k2⟩⟩
theorem SI[b:ew P f fu (Extern.Atomic.update (Op.intArith .add) .u64 true)](ho:aZ ops i=some ⟨dst,.call ⟨.value (.func f),#[x,y],ga⟩,ty,pos,af,gd⟩)(k1:Cl P G q .ld (gr fn kd n (di e dst (lX 0 1)) ds (.inRegion ops aa::k) cs))
  (k2:∀ v wt,v<=3->wt<=1->¬ (v=0/\wt=1)->QuitsD P q 1 (gr fn kd n (di e dst (lX v wt)) ds (.inRegion ops aa::k) cs)) (hx:ev n e x=.pointer (some G.st):=by rfl) (hy:ev n e y=.int .u64 18446744069414584320:=by rfl) (hw:aN ops n e gd=true:=by rfl):Cl P G (q+1) .add (gr fn kd n e ds (.inRegion ops (i::aa)::k) cs):=by
 refine WD (λv wt=>gr fn kd n (di e dst (lX v wt)) ds (.inRegion ops aa::k) cs) rfl (λw v wt hv nV hc hz=>?_) k1 k2;have:=O4 (P:=P) (f:=f) (ao:=false) (fn:=fn) (kd:=kd) (ds:=ds) (k:=k) (cs:=cs) (aa:=aa) (kk:=.u64) (v:=((v+1:Nat):Int)*KQ+wt) (d:=18446744069414584320) ho hw hx hy hc hz;have e1:IntKind.u64.wrap (((v+1:Nat):Int)*KQ+wt+18446744069414584320)=(v:Int)*KQ+wt:=by
  have:(2^IntKind.u64.bits:Int)=18446744073709551616:=by decide
  simp only[IntKind.wrap,KQ,this];rw[aq (by simp[IntKind.signed])];omega
 rw[e1]at this;exact this
theorem aav{g g':aQ}(hs:g.status=.running)(h:∀ w,w.cell? G.st=some (lX 0 1)->stepG P false g w=.go g' w #[ar G.st])(k:Cl P G q .M5 g'):Cl P G (q+1) .ld g:=⟨hs,.inr ⟨g',h,k⟩⟩
theorem WE{g g':aQ}(hs:g.status=.running)(h:∀ w,w.cell? G.st=some (lX 0 1)->w.frozen? G.st=false->stepG P false g w=.go g' (w.setCell G.st (lX 0 0)) #[aw G.st])(k:Cl P G q .Hj g'):Cl P G (q+1) .M5 g:=⟨hs,.inr ⟨g',h,k⟩⟩
theorem WH{g g':aQ}(hs:g.status=.running)(hm:mayWake P g=true)(h:∀ w,w.cell? G.sm=some (sJ 0)->w.frozen? G.sm=false->stepG P false g w=.go g' (w.setCell G.sm (sJ 1)) (semEvents G.sm))(k:QuitsD P q 1 g'):Cl P G (q+1) .Hj g:=⟨hs,.inr ⟨hm,g',h,k⟩⟩
theorem Pj{ex:Array Value->Sem Value}[b:ew P f fu ex](ho:aZ ops i=some ⟨dst,.call ⟨.value (.func f),args,ga⟩,ty,pos,af,gd⟩):mayWake P (gr fn kd n e ds (.inRegion ops (i::aa)::k) cs)=true:=by
 have qp:ops[i]? =some ⟨dst,.call ⟨.value (.func f),args,ga⟩,ty,pos,af,gd⟩:=by rw[dw];exact ho
 have h1:(P.funcs[f]?).any (·.body.isSome)=false:=by
  rw[b.func];have:=b.body;cases hb:fu.body with
  |none=>simp[hb]
  |some c=>rw[hb]at this;cases this
 unfold mayWake;simp only[gr,aV,qp,lJ];simp[Frame.eval,h1]
theorem Bm{g g':aQ}(hs:g.status=.running)(h:∀ w,stepG P false g w=.go g' w #[zY .enable])(k:QuitsD P q 0 g'):QuitsD P (q+1) 1 g:=.inr ⟨hs,g',_,λe he=>by simp at he;subst he;rfl,h,k⟩
theorem Bn:QuitsD P (q+1) 0 (wI (base P []) []):=QuitsD.EV (K9 rfl) ak
variable{Fin:aQ->Prop}
theorem WJ{v v':Nat}(h:v'<v):((v':Int)*KQ+(0:Nat))≠((v:Int)*KQ+(0:Nat)):=by unfold KQ;omega
theorem WK[b:ew P f fu (λ_=>do mark .disable;pure Extern.Race.none_)]{c:Nat}(ho:aZ ops i=some ⟨dst,.call ⟨.value (.func f),args,ga⟩,ty,pos,af,gd⟩)(h:MW P G Fin (.head c) (gr fn kd n (di e dst (.tuple #[])) ds (.inRegion ops aa::k) cs))(hw:aN ops n e gd=true:=by rfl):MW P G Fin (.xJ c) (gr fn kd n e ds (.inRegion ops (i::aa)::k) cs):=
 .xJ rfl (λw=>yI .disable ho hw (by intro g;simp) w) h
theorem SJ[b:ew P f fu (Extern.Atomic.loadT (.int .u64))]{c:Nat}(ho:aZ ops i=some ⟨dst,.call ⟨.value (.func f),#[x],ga⟩,ty,pos,af,gd⟩)(k0:MW P G Fin .Ol (gr fn kd n (di e dst (lX 0 0)) ds (.inRegion ops aa::k) cs))(k1:∀ v,1<=v->v<=c->MW P G Fin (.Sd v) (gr fn kd n (di e dst (lX v 0)) ds (.inRegion ops aa::k) cs))
  (hx:ev n e x=.pointer (some G.st):=by rfl) (hw:aN ops n e gd=true:=by rfl):MW P G Fin (.head c) (gr fn kd n e ds (.inRegion ops (i::aa)::k) cs):=
 .load (λv=>gr fn kd n (di e dst (lX v 0)) ds (.inRegion ops aa::k) cs) rfl (λw v _ hc=>yK ho hw hx hc) k0 k1
theorem WL[b:ew P f fu (Extern.Atomic.casT (.int .u64))]{v:Nat}(ho:aZ ops i=some ⟨dst,.call ⟨.value (.func f),#[x,y,z],ga⟩,ty,pos,af,gd⟩)(k1:MW P G Fin .mh (gr fn kd n (di e dst (.bool true)) ds (.inRegion ops aa::k) cs))(k2:MW P G Fin (.head (v-1)) (gr fn kd n (di e dst (.bool false)) ds (.inRegion ops aa::k) cs))
  (hx:ev n e x=.pointer (some G.st):=by rfl) (hy:ev n e y=lX v 0:=by rfl) (hz:ev n e z=lX v 1:=by rfl) (hw:aN ops n e gd=true:=by rfl):MW P G Fin (.Sd v) (gr fn kd n e ds (.inRegion ops (i::aa)::k) cs):=
 .Sd rfl (λw hc hf=>O5 ho hw hx hy hz hc hf) (λw v' hv hc hf=>O6 ho hw hx hy hz hc hf (WJ hv)) k1 k2
theorem SK[b:ew P f fu (Extern.Race.marked .write)](ho:aZ ops i=some ⟨dst,.call ⟨.value (.func f),args,ga⟩,ty,pos,af,gd⟩)(h:MW P G Fin .mh (gr fn kd n (di e dst (.tuple #[])) ds (.inRegion ops aa::k) cs))(hx:(args.toList.map (ev n e))[0]? =some (.pointer (some G.sm)):=by rfl)(hw:aN ops n e gd=true:=by rfl):MW P G Fin .mh (gr fn kd n e ds (.inRegion ops (i::aa)::k) cs):=
 .said rfl (λw=>yJ .write ho hw (by intro ad g;simp) hx w) h
theorem WM[b:ew P f fu Extern.Sync.semacquire](ho:aZ ops i=some ⟨dst,.call ⟨.value (.func f),args,ga⟩,ty,pos,af,gd⟩)(h:MW P G Fin .last (gr fn kd n (di e dst (.tuple #[])) ds (.inRegion ops aa::k) cs))(hx:(args.toList.map (ev n e))[0]? =some (.pointer (some G.sm)):=by rfl)(hw:aN ops n e gd=true:=by rfl):MW P G Fin .mh (gr fn kd n e ds (.inRegion ops (i::aa)::k) cs):=
 .Hj rfl rfl (λw hc=>O8 ho hw hx hc) (λw hc hz=>O7 ho hw hx hc (by decide) hz) h
theorem SL[b:ew P f fu (Extern.Atomic.loadT (.int .u64))](ho:aZ ops i=some ⟨dst,.call ⟨.value (.func f),#[x],ga⟩,ty,pos,af,gd⟩)(h:MW P G Fin .Ol (gr fn kd n (di e dst (lX 0 0)) ds (.inRegion ops aa::k) cs))(hx:ev n e x=.pointer (some G.st):=by rfl)(hw:aN ops n e gd=true:=by rfl):MW P G Fin .last (gr fn kd n e ds (.inRegion ops (i::aa)::k) cs):=
 .last rfl (λw hc=>yK ho hw hx hc) h
theorem Pk[b:ew P f fu (λ_=>do mark .enable;pure Extern.Race.none_)](ho:aZ ops i=some ⟨dst,.call ⟨.value (.func f),args,ga⟩,ty,pos,af,gd⟩)(h:MW P G Fin .acq (gr fn kd n (di e dst (.tuple #[])) ds (.inRegion ops aa::k) cs))(hw:aN ops n e gd=true:=by rfl):MW P G Fin .Ol (gr fn kd n e ds (.inRegion ops (i::aa)::k) cs):=
 .Ol rfl (λw=>yI .enable ho hw (by intro g;simp) w) h
theorem Pl[b:ew P f fu (Extern.Race.marked .acquire)](ho:aZ ops i=some ⟨dst,.call ⟨.value (.func f),args,ga⟩,ty,pos,af,gd⟩)(h:Fin (gr fn kd n (di e dst (.tuple #[])) ds (.inRegion ops aa::k) cs))(hx:(args.toList.map (ev n e))[0]? =some (.pointer (some G.st)):=by rfl)(hw:aN ops n e gd=true:=by rfl):MW P G Fin .acq (gr fn kd n e ds (.inRegion ops (i::aa)::k) cs):=
 .acq rfl (λw=>yJ .acquire ho hw (by intro ad g;simp) hx w) h
theorem ab.df(C:ab P ao B R){f:bM}{a1 a2:Array Value}{fo:cU}{args:Array cU}{ga:Array aR}{vl:List Value}(ho:aZ ops i=some ⟨dst,.defer ⟨.value fo,args,ga⟩,ty,pos,af,gd⟩)
  (h:At R d As (gr fn kd n (di e dst undef) (⟨.fn (.func f) a2,a1++vl.toArray⟩::ds) (.inRegion ops aa::k) cs)) (hf:ev n e fo=.func (.func f) a1 a2:=by rfl) (hv:args.toList.map (ev n e)=vl:=by rfl) (hw:aN ops n e gd=true:=by rfl):Nw R d As fn kd n e ds ops i aa k cs:=
 C.gen ho hw λH s=>by
  have tC:args.map (ev n e)=vl.toArray:=by rw[<- hv,<- qv,ts]
  refine dz (v:=Next.defer ⟨.fn (.func f) a2,a1++vl.toArray⟩) ?_ ?_
  rotate_left
  ·exact⟨As,s,h⟩
  unfold execOp;simp only;refine br (a:=⟨.fn (.func f) a2,a1++vl.toArray⟩) ?_ rfl;unfold resolve;simp only[hf,Deferred.ofValue,tC];rfl
theorem ab.E3(C:ab P ao B R)(h:At R d As (qF fn kd n e ds (.code .ret::k) cs)):At R d As (gr fn kd n e ds (.code .ret::k) cs):=λH s=>C.ret (h H s)
theorem ab.fnA(C:ab P ao B R)(h:At R d As (qF fn kd n e ds [] cs)):At R d As (gr fn kd n e ds [] cs):=λH s=>C.fin (h H s)
theorem ab.aaw(C:ab P ao B R){f:bM}{fu:Func}[x:ew P f fu (λ_=>do mark .enable;pure Extern.Race.none_)]{av:Array Value}{todo:List Item}(h:At R (d-1) As (qF fn kd n e ds todo cs)):At R d As (qF fn kd n e (⟨.fn (.func f) #[],av⟩::ds) todo cs):=
 C.dfx (f:=f) λH s=>by show dC P B (mark .enable >>= λ_=>pure Extern.Race.none_) H d _;refine ah ?_;simp only[mark,dC,kF,n0,mN];exact aA ⟨As,s,h⟩
theorem ab.SM(C:ab P ao B R){fu:Func}{cc:Code}{n':Nat}[b:Body P fn fu cc n']{slot t0 bb z:Nat}{el:aR}{xs:Array Value}[Ag P t0 true][Cz P t0 z]{c:Frame}{w:Code}{Q:Value->List HP->Prop}{A:List HP}(hr:fu.results=#[.cell slot t0])(aJ:uH kd c)(ai:∀ v aO,Q v aO->At R d (aO++F) (after kd c cs v))(q:Q (.agg xs) A)
  (he:ev n e (.tmp slot)=.pointer (some ⟨bb,0,none⟩):=by rfl) (hh:Kn As bb (.cells xs el (0,0)):=by apply Has.kn;(repeat(first|with_reducible exact Has.head|with_reducible apply Has.tail));done) (hsz:xs.size=z:=by rfl) (hs:∀ j,B.sh el j=false:=by intro j;rfl) (hx:ck w=.ret:=by rfl)
  (hA:bZ As (A++F):=by exact bZ.au):At R d As (gr fn kd n e [] (.code w::k) (c::cs)):=λH s=>by
 have zz:=fA hx;simp only at zz;subst zz;have hg:=hh _ s;have key:∀ {Q':Value->Array Obj->Nat->Prop},Q' (.agg xs) H d->dC P B (results fu (tm n e)) H d Q':=λq'=>by
  unfold results;rw[hr,Jl];simp only[Ny,R4,Jm,bind_assoc,pure_bind,pe];have xj:(if slot<n then e slot else undef)=.pointer (some ⟨bb,0,none⟩):=he;rw[xj];refine ah (dz (v:=(⟨bb,0,none⟩:Addr)) rfl ?_);refine ah (my hg ak hs ?_);have e1:xs.extract 0 (0+z)=xs:=by rw[mL,<- hsz];simp
  rw[e1];exact q'
 have Av:R d (after kd c cs (.agg xs)) H:=At.jR hA (ai _ A q) H s;refine C.ret ?_;cases kd with
 |pR=>exact C.back b.func (key Av)
 |oF=>exact C.Cx aJ b.func (key Av)
theorem Sat.Pm{A:HP}{b x:Nat}{o:Obj}{L:List HP}{h:HL}(ha:∀ h,A h->∃ o',h b=some o')(s:Sat (A::bX x o::L) h):b≠x:=λe=>by
 subst e;obtain⟨h1,a,_,h2,p,s2,_⟩:=s;obtain⟨o',ho⟩:=ha _ a;have M8:h2 b=some o:=by have p:h2=one b o:=p;rw[p];simp[one]
 have:=s2 b o M8;unfold Sl.less at this;rw[ho]at this;simp at this
theorem At.apart{b x:Nat}{o o':Obj}{g:aQ}{L:List HP}(hf:dJ [bX b o',bX x o] As L)(h:b≠x->At R d As g):At R d As g:=λH st=>
 h (Sat.Pm (λh e=>⟨o',by have e:h=one b o':=e;rw[e];simp[one]⟩) (st.perm hf.perm)) H st
theorem At.CM{α:Type}{f:α->List Value}{z:Nat}{el:aR}{s:ax}{l:List α}{x:Nat}{o:Obj}{g:aQ}{L:List HP}(hf:dJ [aW f z el s l,bX x o] As L)(h:(∀ b,s.a=some ⟨b,0,none⟩->b≠x)->At R d As g):At R d As g:=λH st=>
 h (λb hb=>Sat.Pm (λh e=>by
  rcases e with⟨rfl,_⟩|⟨b',pad,e,_,_,hp⟩
  ·cases hb
  ·rw[e]at hb;obtain rfl:b'=b:=by simpa using hb
   have hp:h=one b' _:=hp;exact⟨_,by rw[hp];simp[one];rfl⟩) (st.perm hf.perm)) H st
variable{e0:Nat->Value}{D:List (Nat×Nat)}{W:List HP}{S:List SE}
theorem Ch.nx{f:Nat}{T' l:List Nat}{a:Nat}{K:List SE}{As:List HP}(hc:CD ops T'=l)(h:∀ t∈l,Nd R d fn kd n ds ops k cs e0 D W S (λK As=>Ch R d fn kd n ds ops k cs e0 D W f S (T'.erase t) (a-1) K As) t a K As):Ch R d fn kd n ds ops k cs e0 D W (f+1) S T' a K As:=.inl λt ht=>h t (hc▸ht)
theorem fK{α:Type}{φ:α->Prop}{a:α}(h1:φ a):∀ t∈[a],φ t:=by simpa using h1
theorem yR{α:Type}{φ:α->Prop}{a b:α}(h1:φ a)(h2:φ b):∀ t∈[a,b],φ t:=by simpa using⟨h1,h2⟩
theorem fa3{α:Type}{φ:α->Prop}{a b c:α}(h1:φ a)(h2:φ b)(h3:φ c):∀ t∈[a,b,c],φ t:=by simpa using⟨h1,h2,h3⟩
theorem fa4{α:Type}{φ:α->Prop}{a b c d:α}(h1:φ a)(h2:φ b)(h3:φ c)(h4:φ d):∀ t∈[a,b,c,d],φ t:=by simpa using⟨h1,h2,h3,h4⟩
theorem aD.k5{f:bM}{fu:Func}{c:Code}{nf:Nat}[b:Body P f fu c nf]{fo:cU}{args:Array cU}{ga:Array aR}{vl:List Value}{A:List HP}{Q:Value->Gh->List HP->Prop}(hs:bD P X f vl.toArray σ A Q)
  (h:∀ v σ' aO,Q v σ' aO->At (aD P Post X σ' 0 os out) 0 (aO++F) (gr fn kd n (di e dst v) ds (.inRegion ops aa::k) cs))
  (ho:aZ ops i=some ⟨dst,.call ⟨.value fo,args,ga⟩,ty,pos,af,gd⟩:=by rfl) (hv:args.toList.map (ev n e)=vl:=by rfl) (hf:ev n e fo=.func (.func f) #[] #[]:=by rfl)
  (hr:dJ A As F:=by exact dJ.au) (hw:aN ops n e gd=true:=by rfl):At (aD P Post X σ 0 os out) 0 As (gr fn kd n e ds (.inRegion ops (i::aa)::k) cs):=
 aD.cl (a1:=#[]) (a2:=#[]) (vl:=vl) (by simpa using hs) h ho hv hf hr hw
theorem aD.db{fu:Func}{cc:Code}{n':Nat}[b:Body P fn fu cc n']{c:Frame}{v:Value}{x:Code}{Q:Value->Gh->List HP->Prop}{A:List HP}(aJ:uH kd c)(ai:∀ v σ' aO,Q v σ' aO->At (aD P Post X σ' 0 os out) 0 (aO++F) (after kd c cs v))(q:Q v σ A)(hv:sj fu n e=some v:=by rfl)(hx:ck x=.ret:=by rfl)
  (hr:bZ As (A++F):=by exact bZ.au):At (aD P Post X σ 0 os out) 0 As (gr fn kd n e [] (.code x::k) (c::cs)):=by
 have C:ab P true (X.bw σ) (aD P Post X σ 0 os out):=aD.dM;exact C.OI aJ (At.jR hr (ai v σ A q)) hv hx
theorem Ch.nk{R:Nat->aQ->Array Obj->Prop}{d:Nat}{fn:bM}{kd:Kd}{n:Nat}{ds:List dW}{ops:Array Oper}{k:List Item}{cs:List Frame}{e0:Nat->Value}{D:List (Nat×Nat)}{W:List HP}{S:List SE}{f:Nat}{T':List Nat}(l:List Nat){a:Nat}{K:List SE}{As:List HP}(h:∀ t∈l,Nd R d fn kd n ds ops k cs e0 D W S (λK As=>Ch R d fn kd n ds ops k cs e0 D W f S (T'.erase t) (a-1) K As) t a K As)(hc:CD ops T'=l:=by decide+kernel):Ch R d fn kd n ds ops k cs e0 D W (f+1) S T' a K As:=Ch.nx hc h
variable{L:List HP}{g:aQ}{V:Type}{f:Int×V->HP}{m:List (Int×V)}{k:Int}{v:V}
theorem yS{X:Type}{l:List X}{n:Nat}{x:X}(h:l[n]? =some x):∃ hn:n<l.length,l[n]=x:=jC.1 h
theorem Bo(hg:aC m k=some v)(hf:Fo (all (m.map f)) As L)(h:At R d (f (k,v)::all ((dQ m k).map f)::L) g):At R d As g:=by
 cases hi:qf k m 0 with
 |none=>rw[(jk hi).1]at hg;cases hg
 |some nv=>
  obtain⟨j,w⟩:=nv;obtain⟨n, -,h1,h2,h3,h4⟩:=jj hi;rw[h2]at hg;obtain rfl:=bY hg;obtain⟨hn,he⟩:=yS h1;refine kJ hn hf ?_;rw[he,<- h4];exact h
theorem E4(v:V)(hr:dJ [f (k,v),all ((dQ m k).map f)] As L)(h:At R d (all ((bA m k v).map f)::L) g):At R d As g:=by
 cases hi:qf k m 0 with
 |none=>
  obtain⟨h1,h2,h3,h4⟩:=jk hi;rw[h2]at h;rw[h3]at hr;exact rQ (k,v) hr h
 |some nv=>
  obtain⟨j,w⟩:=nv;obtain⟨n, -,h1,h2,h3,h4⟩:=jj hi;obtain⟨hn,he⟩:=yS h1;rw[h3]at h;rw[h4]at hr;exact mX hn (k,v) hr h
theorem Bp(hg:aC m k=none):dQ m k=m:=by
 cases hi:qf k m 0 with
 |none=>exact(jk hi).2.2.1
 |some nv=>
  obtain⟨j,w⟩:=nv;obtain⟨n, -,h1,h2,h3,h4⟩:=jj hi;rw[h2]at hg;cases hg
theorem dY{p:Int×V}:∀ {m:List (Int×V)},p∈bA m k v->p=(k,v)\/p∈m:=by
 intro m hp;cases hi:qf k m 0 with
 |none=>
  rw[(jk hi).2.1,cg,dN]at hp;exact hp.symm
 |some nv=>
  obtain⟨j,w⟩:=nv;obtain⟨n, -,h1,h2,h3,h4⟩:=jj hi;rw[h3]at hp;exact(fT hp).symm
theorem uR{p:Int×V}{m:List (Int×V)}(hp:p∈dQ m k):p∈m:=uL.subset hp
theorem kN{W:Type}(w:V->W)(m:List (Int×V)):(bA m k v).map (λp=>(p.1,w p.2))=bA (m.map λp=>(p.1,w p.2)) k (w v):=(oJ w k v m).symm
theorem E5{W:Type}(w:V->W)(m:List (Int×V)):(dQ m k).map (λp=>(p.1,w p.2))=dQ (m.map λp=>(p.1,w p.2)) k:=(uK w k m).symm
theorem uS{W:Type}(w:V->W)(m:List (Int×V)):aC (m.map λp=>(p.1,w p.2)) k=(aC m k).map w:=mS w k m
theorem CN{α:Type}{f:α->List Value}{z:Nat}[rf:fM f z]{el:aR}{s:ax}{l:List α}{n:Nat}(hn:n<=l.length)(h:HL)(x:aW f z el s l h):aW f z el ⟨s.a,n,s.cap⟩ (l.take n) h:=by
 rcases x with⟨rfl,rfl⟩|⟨b,pad,e,h1,h2,h3⟩
 ·have:n=0:=by simpa using hn
  subst this;exact .inl ⟨rfl,rfl⟩
 ·have hl:(l.take n).length=n:=by rw[iz];omega
  refine .inr ⟨b,flat f (l.drop n)++pad,?_,?_,?_,?_⟩
  ·rw[hl,e]
  ·rw[hl,ji,eU rf.len,uw];have:n*z+(l.length-n)*z=l.length*z:=by rw[<- qb];congr 1;omega
   dsimp only;omega
  ·rw[hl];dsimp only;omega
  ·have e1:gv f (l.take n) (flat f (l.drop n)++pad)=gv f l pad:=by unfold gv;rw[<- qw,<- jQ,wz]
   rw[e1];exact h3
def CO(sz:Nat):Array Value->List (Nat×Value)->Array Value
 |c,[]=>c
 |c,(i,v)::l=>CO sz (wr c (i*sz) v.cells.toList) l
def xR(sz m:Nat):List (Nat×Value)->Bool
 |[]=>true
 |(i,v)::l=>(v.cells.size==sz&&decide (i*sz+sz<=m))&&xR sz m l
theorem E6(sz:Nat):∀ (l:List (Nat×Value)) (c:Array Value),xR sz c.size l=true->Instr.fill (λi=>some (i*sz,sz)) c l=some (CO sz c l)
 |[],c,_=>rfl
 |(i,v)::l,c,h=>by
  unfold xR at h;simp only[j8,Ej,nD]at h;obtain⟨h1,h2⟩:=h;unfold Instr.fill CO;dsimp only;have hn:¬ ((decide (v.cells.size≠sz)||decide (i*sz+v.cells.size>c.size))=true):=by rw[h1.1];have:=h1.2;simp;omega
  rw[aq hn];have hf:Array.foldl (λcs (x:Value×Nat)=>match x with|(c,j)=>cs.setIfInBounds (i*sz+j) c) c v.cells.zipIdx=wr c (i*sz) v.cells.toList:=by rw[<- VW,VX];exact CC (i*sz) v.cells.toList 0 _
  rw[hf];exact E6 sz l (wr c (i*sz) v.cells.toList) (by rw[uJ];exact h2)
theorem gF{V:Type}{k:Int}{v:V}{l:List (Int×V)}(h:aC l k=some v):bA l k v=l:=by
 cases hi:qf k l 0 with
 |none=>rw[(jk hi).1]at h;cases h
 |some nv=>
  obtain⟨j,w⟩:=nv;obtain⟨n, -,h1,h2,h3,h4⟩:=jj hi;rw[h2]at h;obtain rfl:=bY h;obtain⟨hn,he⟩:=yS h1;rw[h3,<- he,l9]
theorem rS{V:Type}{kk:IntKind}{g:V->Value}{b:Nat}{l:List (Int×V)}{k:Int}{u u1:V}(hg:aC l k=some u)(h:g u1=g u):cW kk g b (bA l k u1)=cW kk g b l:=by
 have e:kH g (bA l k u1)=kH g l:=by rw[<- oJ,h];exact gF (by rw[mS,hg];rfl)
 unfold cW;rw[e]
variable{k:List Item}
variable{v:Value}{b:Nat}{tt key el:aR}{kk:IntKind}{g:V->Value}{l:List (Int×V)}{q:Int}
theorem ab.E7(C:ab P ao B R){zv:Value}[cM:Mp P tt key el][Ik P key kk][Zv P el zv](hg:((aC l q).map g).getD zv=v)(ho:aZ ops i=some ⟨some t,.lookup tt x y false,ty,pos,af,gd⟩)
  (h:Nx R d As fn kd n e ds ops aa k cs t v)
  (hx:ev n e x=.map (some b):=by rfl) (hy:ev n e y=.int kk q:=by rfl) (hf:UW (cW kk g b l) As:=by first|(apply Fo.K4;(repeat(first|with_reducible exact Fo.head|with_reducible apply Fo.tail));done)|(apply Ext.K4;assumption;(repeat(first|with_reducible exact Fo.head|with_reducible apply Fo.tail));done)) (hw:aN ops n e gd=true:=by rfl):Nw R d As fn kd n e ds ops i aa k cs:=
 C.Y0 (co:=false) ho (by rw[hg];exact h) hx hy hf hw
theorem ab.Ld(C:ab P ao B R){op:BinOp}{r:Bool}{tt t2 el:aR}[cE:Pt P tt el]{a:Option Addr}(ho:aZ ops i=some ⟨some t,.binOp op tt x y t2,ty,pos,af,gd⟩)(h:Nx R d As fn kd n e ds ops aa k cs t (.bool (a.isNone==r)))
  (cx:isEq op=some r:=by rfl) (hx:ev n e x=.pointer a:=by rfl) (hy:ev n e y=.pointer none:=by rfl) (hw:aN ops n e gd=true:=by rfl):Nw R d As fn kd n e ds ops i aa k cs:=
 C.v0 ho h (by
  unfold execOp;simp only[hx,hy];refine br (a:=.bool (a.isNone==r)) ?_ rfl;have h0:fJ P (Op.equal tt (.pointer a) (.pointer none))=some a.isNone:=by unfold Op.equal;show fJ P (Op.equalIn (9998+1+1) _ _ _)=_;unfold Op.equalIn;refine br (fx cE.h) ?_;cases a<;>rfl
  cases op<;>first|(cases cx;done)|skip
  ·obtain rfl:=bY cx;refine br (a:=()) (by unfold eqGuard;rfl) ?_;refine br h0 ?_;cases a<;>rfl
  ·obtain rfl:=bY cx;refine br (a:=()) (by unfold eqGuard;rfl) ?_;refine br h0 ?_;cases a<;>rfl) hw
theorem ab.U5(C:ab P ao B R){off:Nat}{c:Array Value}{z:Bool}[Ag P tt false](ho:aZ ops i=some ⟨some t,.load tt x,ty,pos,af,gd⟩)(h1:z=true->Nx R d As fn kd n e ds ops aa k cs t (.bool true))(h2:z=false->Nx R d As fn kd n e ds ops aa k cs t (.bool false))
  (hx:ev n e x=.pointer (some ⟨b,off,none⟩):=by rfl) (hh:Kn As b (.cells c el (0,0)):=by first|(apply Has.kn;(repeat(first|with_reducible exact Has.head|with_reducible apply Has.tail));done)|(apply Ext.kn;assumption;(repeat(first|with_reducible exact Has.head|with_reducible apply Has.tail));done)) {v0:Value} (hc:c[off]? =some v0:=by rfl) (n4:v0=.bool z:=by first|((conv=>{lhs;whnf});done)|rfl) (hs:B.sh el off=false:=by rfl) (hw:aN ops n e gd=true:=by rfl):Nw R d As fn kd n e ds ops i aa k cs:=by
 cases z with
 |true=>exact C.ld ho (h1 rfl) hx hh hc n4 hs hw
 |false=>exact C.ld ho (h2 rfl) hx hh hc n4 hs hw
theorem ab.bda(C:ab P ao B R){zs xs:Array Value}{parts:Array (Nat×cU)}{pv:List (Nat×Value)}{N sz:Nat}[cz:Zv P tt (.agg zs)](hu:P.underlying tt=some (.array N el))[Cz P el sz](ho:aZ ops i=some ⟨some t,.build tt parts,ty,pos,af,gd⟩)(h:Nx R d As fn kd n e ds ops aa k cs t (.agg xs))
  (hp:PV n e parts.toList pv:=by repeat(first|exact PV.nil|(apply PV.cons;focus (conv=>{lhs;whnf})))) (lE:xR sz zs.size pv=true:=by rfl) (Wk:CO sz zs pv=xs:=by rfl) (hw:aN ops n e gd=true:=by rfl):Nw R d As fn kd n e ds ops i aa k cs:=
 C.val ho hw (λB H d Q q'=>by unfold execOp;simp only[Instr.build];refine ah (ah (nG B H d _ (ah (dE hu B H d _ ?_))));simp only[Value.cells];refine ah (ik B H d _ ?_);rw[qv,hp.eq,E6 sz pv zs lE,Wk];exact q') h
theorem ab.iaA(C:ab P ao B R){N sz off:Nat}{j:Int}{o:Nat}(hu:P.underlying tt=some (.array N el))[Cz P el sz](ho:aZ ops i=some ⟨some t,.indexAddr tt x y,ty,pos,af,gd⟩)(h:Nx R d As fn kd n e ds ops aa k cs t (.pointer (some ⟨b,o,none⟩)))
  (hx:ev n e x=.pointer (some ⟨b,off,none⟩):=by rfl) (hy:ev n e y=.int kk j:=by rfl) (hj:0<=j/\j<N:=by constructor<;>omega) (hoff:off+j.toNat*sz=o:=by rfl) (hw:aN ops n e gd=true:=by rfl):Nw R d As fn kd n e ds ops i aa k cs:=
 C.val ho hw (λB H d Q q=>by
  unfold execOp;simp only[hx,hy,Instr.indexAt,asIntOf];refine ah (ah (aA ?_));refine ah (dE hu B H d _ ?_);refine ah (ah (aA ?_))
  try refine aA ?_
  refine ah (dE hu B H d _ ?_);simp only;rw[aK hj];refine ah (ik B H d _ (aA ?_));rw[gS,hoff];exact q) h
theorem Bq(a b:List cy)(k n:Int):aY (a++b) k n=aY a k n++aY b k n:=by simp[aY]
theorem E8(n k:Int):∀ (ops:List cy) (m:List (Int×List cy)),aC (ops.foldl (λm o=>bA m (ie o.k n) ((aC m (ie o.k n)).getD []++[o])) m) k=
  if aY ops k n=[]then aC m k else some ((aC m k).getD []++aY ops k n)
 |[],m=>by simp[aY]
 |o::l,m=>by
  rw[ks,E8 n k l,fF];by_cases h:ie o.k n=k
  ·subst h;have hp:aY (o::l) (ie o.k n) n=o::aY l (ie o.k n) n:=by simp[aY]
   rw[hp];by_cases h2:aY l (ie o.k n) n=[]
   ·simp[h2]
   ·simp[h2]
  ·have h':¬ k=ie o.k n:=λe=>h e.symm;have hp:aY (o::l) k n=aY l k n:=by simp[aY,h]
   rw[hp];simp[h']
theorem Br(ops:List cy)(n k:Int):aC (dB ops n) k=if aY ops k n=[]then none else some (aY ops k n):=by unfold dB;rw[E8];simp[aC]
theorem HM(ops:List cy)(n k:Int):(aC (dB ops n) k).getD []=aY ops k n:=by
 rw[Br];split
 ·rename_i h;simp[h]
 ·rfl
theorem qV(n:Int):∀ (ops:List cy) (m:List (Int×List cy)),(m.map (·.1)).Nodup->((ops.foldl (λm o=>bA m (ie o.k n) ((aC m (ie o.k n)).getD []++[o])) m).map (·.1)).Nodup
 |[],m,h=>h
 |o::l,m,h=>qV n l _ (e9 h)
theorem E9(ops:List cy)(n:Int):((dB ops n).map (·.1)).Nodup:=qV n ops [] (by simp)
theorem rT(ops:List cy)(n k:Int):k∈(dB ops n).map (·.1)↔cr ops k n=true:=by
 have h:=getM_none (k:=k) (l:=dB ops n);rw[Br]at h;unfold cr;by_cases h2:aY ops k n=[]
 ·simp only[h2,eQ,List.isEmpty_nil,AR,gR,iff_false]at h⊢;exact h.1 trivial
 ·simp only[h2,eY,reduceCtorEq,false_iff]at h;have:(aY ops k n).isEmpty=false:=by simpa using h2
  rw[this];simp only[Cm,iff_true];exact Ep.1 h
theorem SN(s:dZ)(ops:List cy)(f:dZ->Int->List cy->dZ):qO s ops f=(upto s.n).foldl (λz k=>if(aY ops k s.n).isEmpty then z else f z k (aY ops k s.n)) s:=by unfold qO;simp only[HM]
theorem vQ(log more:List RecR)(kind tx:Int):∀ i,i<=log.length->findD (log++more) kind tx i=findD log kind tx i
 |0,_=>rfl
 |i+1,h=>by unfold findD;rw[vQ log more kind tx i ak,NA ak]
theorem fe(log:List RecR)(r:RecR)(kind tx:Int):bF (log++[r]) kind tx=if isRec kind tx r then some log.length else bF log kind tx:=by unfold bF;rw[ji,lL,findD];rw[vQ log [r] kind tx _ (fI _)];simp
theorem Fa{log:List RecR}{kind tx:Int}:∀ {n i:Nat},findD log kind tx n=some i->i<n/\∃ r,log[i]? =some r/\r.kind=kind/\r.tx=tx
 |0,i,h=>by cases h
 |n+1,i,h=>by
  unfold findD at h;split at h
  ·rename_i hh;obtain rfl:=bY h;refine⟨ak,?_⟩;cases e:log[n]? with
   |none=>rw[e]at hh;simp at hh
   |some r=>rw[e]at hh;exact⟨r,rfl,by simpa[isRec]using hh⟩
  ·obtain⟨h1,h2⟩:=Fa h;exact⟨ak,h2⟩
theorem dO{log:List RecR}{kind tx:Int}{i:Nat}(h:bF log kind tx=some i):i<log.length/\∃ r,log[i]? =some r/\r.kind=kind/\r.tx=tx:=Fa h
theorem tI{log:List RecR}{kind tx:Int}:∀ {n:Nat},findD log kind tx n=none↔∀ i r,i<n->log[i]? =some r->¬ (r.kind=kind/\r.tx=tx)
 |0=>by simp[findD]
 |n+1=>by
  unfold findD;constructor
  ·intro h i r hi hr;split at h
   ·cases h
   ·rename_i hh;rcases mO.1 hi with h1|rfl
    ·exact tI.1 h i r h1 hr
    ·rw[hr]at hh;simpa[isRec]using hh
  ·intro h;split
   ·rename_i hh;cases e:log[n]? with
    |none=>rw[e]at hh;simp at hh
    |some r=>rw[e]at hh;exact absurd (by simpa[isRec]using hh) (h n r ak e)
   ·exact tI.2 λi r hi=>h i r ak
theorem yT{log:List RecR}{kind tx:Int}:bF log kind tx=none↔∀ r∈log,¬ (r.kind=kind/\r.tx=tx):=by
 unfold bF;rw[tI];constructor
 ·intro h r hr;obtain⟨i,hi⟩:=ov hr;exact h i r (jC.1 hi).1 hi
 ·intro h i r _ hr;exact h r (eS hr)
theorem Fb(log:List RecR)(r:RecR)(tx:Int):bJ (log++[r]) tx=if isRec 3 tx r then none else if isRec 1 tx r then(if(bF log 3 tx).isSome then none else some log.length)else bJ log tx:=by
 unfold bJ;rw[fe,fe];by_cases h3:isRec 3 tx r=true
 ·simp[h3]
 ·by_cases h1:isRec 1 tx r=true
  ·simp[h3,h1]
  ·simp[h3,h1]
theorem eF{log:List RecR}{tx:Int}{i:Nat}(h:bJ log tx=some i):bF log 3 tx=none/\bF log 1 tx=some i:=by
 unfold bJ at h;split at h
 ·cases h
 ·rename_i hh;exact⟨by simpa using hh,h⟩
structure KL(E:List a7)(P:dZ)(L:List gz)(V:List Int):Prop where
 bB:∀ tx,aC P.bB tx=(bJ (E.map a7.bk) tx).bind λi=>((E.map a7.bk)[i]?).map λr=>⟨i,r.home,r.ops⟩
 pn:(P.bB.map (·.1)).Nodup
 done:∀ tx,aC P.done tx=(bF (E.map a7.bk) 3 tx).bind λi=>((E.map a7.bk)[i]?).map λr=>⟨i,r.yes⟩
 cf:∀ tx,aC P.cf tx=(bF (E.map a7.bk) 2 tx).bind λi=>((E.map a7.bk)[i]?).map λr=>⟨i,r.yes⟩
 lock:∀ k,aC P.aH k=(L.find? λh=>h.key==k).map (·.tx)
 pl:(P.aH.map (·.1)).Nodup
 ln:(L.map (·.key)).Nodup
 lk:∀ h∈L,∃ i r,bJ (E.map a7.bk) h.tx=some i/\(E.map a7.bk)[i]? =some r/\∃ o∈r.ops,o.k=h.key
 lo:∀ tx i r,bJ (E.map a7.bk) tx=some i->(E.map a7.bk)[i]? =some r->∀ o∈r.ops,⟨o.k,tx⟩∈L
 bH:∀ k,97<=k->k<=122->(aC P.values k).getD 0=V[(k-97).toNat]?.getD 0
 Aw:V.length=26
 vn:(P.values.map (·.1)).Nodup
 vk:∀ p∈P.values,97<=p.1/\p.1<=122
theorem KL.aS{E:List a7}{P P':dZ}{L:List gz}{V:List Int}(H:KL E P L V)(e:(P'.bB,P'.done,P'.cf,P'.aH,P'.values)=(P.bB,P.done,P.cf,P.aH,P.values):=by rfl):KL E P' L V:=by simp only[Ei]at e;obtain⟨e1,e2,e3,e4,e5⟩:=e;exact⟨by rw[e1];exact H.bB,by rw[e1];exact H.pn,by rw[e2];exact H.done,by rw[e3];exact H.cf,by rw[e4];exact H.lock,by rw[e4];exact H.pl,H.ln,H.lk,H.lo,by rw[e5];exact H.bH,H.Aw,by rw[e5];exact H.vn,by rw[e5];exact H.vk⟩
theorem oR{L:List gz}(hn:(L.map (·.key)).Nodup){k tx:Int}:(L.find? λh=>h.key==k).map (·.tx)=some tx↔(⟨k,tx⟩:gz)∈L:=by
 induction L with
 |nil=>simp
 |cons h L ih=>
  rw[iJ,sf]at hn;rw[AT];by_cases e:h.key=k
  ·have hb:(h.key==k)=true:=by simpa using e
   rw[hb];simp only[lJ,x6,gq];constructor
   ·rintro rfl;subst e;exact .inl rfl
   ·rintro(rfl|hm)
    ·rfl
    ·exact absurd (bL.2 ⟨_,hm,rfl⟩) (e▸hn.1)
  ·have hb:(h.key==k)=false:=by simpa using e
   rw[hb];simp only[ih hn.2,gq];constructor
   ·exact .inr
   ·rintro(rfl|hm)
    ·exact absurd rfl e
    ·exact hm
theorem rU{L:List gz}{k:Int}:(L.find? λh=>h.key==k).map (·.tx)=none↔∀ h∈L,h.key≠k:=by simp[Jo]
theorem KL.start(P:dZ):KL [] (iP P) [] il:=by have h0:∀ kind tx,bF ([]:List RecR) kind tx=none:=λ_ _=>rfl;have h1:∀ tx,bJ ([]:List RecR) tx=none:=λ_=>rfl;refine⟨λtx=>by simp[h1,iP,aC],by simp[iP],λtx=>by simp[h0,iP,aC],λtx=>by simp[h0,iP,aC],λk=>by simp[iP,aC],by simp[iP],by simp,by simp,λtx i r h=>by simp[h1]at h,λk h1 h2=>?_,rfl,by simp[iP],by simp[iP]⟩;simp only[iP,aC,NM,il];rw[List.getElem?_replicate];split<;>rfl
variable{E:List a7}{P:dZ}{L:List gz}{V:List Int}
theorem oS(e:a7)(i:Nat):((E++[e]).map a7.bk)[i]? =if i=E.length then some e.bk else(E.map a7.bk)[i]? :=by
 rw[eI,List.getElem?_append];simp only[dd,iJ,ml];split
 ·rename_i h;rw[aq ak]
 ·rename_i h;split
  ·rename_i h2;subst h2;simp
  ·rename_i h2;rw[wA (by simp;omega),wA (by simp;omega)]
theorem uT(tx k:Int):∀ (ops:List cy) (l:List (Int×Int)),aC (ops.foldl (λl o=>bA l o.k tx) l) k=if ops.any (λo=>o.k==k)then some tx else aC l k
 |[],l=>by simp
 |o::ops,l=>by
  rw[ks,uT tx k ops,fF];by_cases h:o.k=k
  ·subst h;simp
  ·have h':¬ k=o.k:=λe=>h e.symm;simp[h,h']
theorem qW(tx:Int):∀ (ops:List cy) (l:List (Int×Int)),(l.map (·.1)).Nodup->((ops.foldl (λl o=>bA l o.k tx) l).map (·.1)).Nodup
 |[],l,h=>h
 |o::ops,l,h=>qW tx ops _ (e9 h)
theorem uU(k:Int):∀ (ops:List cy) (l:List (Int×Int)),(l.map (·.1)).Nodup->aC (ops.foldl (λl o=>dQ l o.k) l) k=if ops.any (λo=>o.k==k)then none else aC l k
 |[],l,_=>by simp
 |o::ops,l,h=>by
  rw[ks,uU k ops _ (mT h),vM h];by_cases h:o.k=k
  ·subst h;simp
  ·have h':¬ k=o.k:=λe=>h e.symm;simp[h,h']
theorem qX:∀ (ops:List cy) (l:List (Int×Int)),(l.map (·.1)).Nodup->((ops.foldl (λl o=>dQ l o.k) l).map (·.1)).Nodup
 |[],l,h=>h
 |o::ops,l,h=>qX ops _ (mT h)
theorem Fc(L:List gz)(M:List gz)(k:Int):((L++M).find? λh=>h.key==k).map (·.tx)=((L.find? λh=>h.key==k).map (·.tx)).or ((M.find? λh=>h.key==k).map (·.tx)):=by rw[NN];cases L.find? λh=>h.key==k<;>simp
theorem wK(tx k:Int):∀ ops:List cy,((ops.map λo=>(⟨o.k,tx⟩:gz)).find? λh=>h.key==k).map (·.tx)=if ops.any (λo=>o.k==k)then some tx else none
 |[]=>rfl
 |o::ops=>by
  have:=wK tx k ops;rw[iJ,AT];by_cases h:o.k=k
  ·subst h;simp
  ·have hb:(o.k==k)=false:=by simpa using h
   simp only[hb,List.any_cons,Bool.false_or];exact this
theorem KL.eK(H:KL E P L V){tx home:Int}{ops:List cy}(h1:bF (E.map a7.bk) 1 tx=none)(h3:bF (E.map a7.bk) 3 tx=none)(hf:∀ o∈ops,aC P.aH o.k=none)(hn:(ops.map (·.k)).Nodup):
  KL (E++[.eK tx home ops]) (sP P tx home ops E.length) (jl L tx ops) V:=by
 have hr:bJ (E.map a7.bk) tx=none:=by unfold bJ;rw[h3];simpa using h1
 have sq:(E++[a7.eK tx home ops]).map a7.bk=E.map a7.bk++[(a7.eK tx home ops).bk]:=by simp
 have kO:∀ t,bJ ((E++[a7.eK tx home ops]).map a7.bk) t=if t=tx then some E.length else bJ (E.map a7.bk) t:=λt=>by
  rw[sq,Fb];by_cases e:t=tx
  ·subst e;simp[isRec,a7.bk,eA,h3]
  ·have:¬ tx=t:=λz=>e z.symm;simp[isRec,a7.bk,eA,e,this]
 have dI:∀ t i,bJ (E.map a7.bk) t=some i->i<E.length:=λt i h=>by have:=(dO (eF h).2).1;simpa using this
 have nK:∀ kind t,kind≠1->bF ((E++[a7.eK tx home ops]).map a7.bk) kind t=bF (E.map a7.bk) kind t:=λkind t hk=>by
  rw[sq,fe];have:isRec kind t (a7.eK tx home ops).bk=false:=by simp[isRec,a7.bk,eA];intro z;exact absurd z.symm hk
  simp[this]
 have iA:∀ kind t,(bF (E.map a7.bk) kind t).bind (λi=>(((E++[a7.eK tx home ops]).map a7.bk)[i]?).map λr=>(⟨i,r.yes⟩:gV))=(bF (E.map a7.bk) kind t).bind (λi=>((E.map a7.bk)[i]?).map λr=>⟨i,r.yes⟩):=λkind t=>by
  cases h:bF (E.map a7.bk) kind t with
  |none=>rfl
  |some i=>
   have:=(dO h).1;simp only[dd]at this;simp only[nU,oS,aq (uu this)]
 refine⟨λt=>?_,e9 H.pn,λt=>?_,λt=>?_,λk=>?_,qW _ _ _ H.pl,?_,λh hh=>?_,λt i r xH hi o ho=>?_,H.bH,H.Aw,H.vn,H.vk⟩
 ·show aC (bA P.bB tx _) t=_;rw[fF,kO];by_cases e:t=tx
  ·rw[aK e,aK e];simp only[nU,oS,eQ,lJ];rfl
  ·rw[aq e,aq e,H.bB];cases h:bJ (E.map a7.bk) t with
   |none=>rfl
   |some i=>simp only[nU,oS,aq (uu (dI t i h))]
 ·show aC P.done t=_;rw[nK 3 t (by decide),iA,H.done]
 ·show aC P.cf t=_;rw[nK 2 t (by decide),iA,H.cf]
 ·show aC (ops.foldl _ P.aH) k=_;rw[uT];unfold jl;rw[Fc,wK,<- H.lock];by_cases ha:ops.any (λo=>o.k==k)=true
  ·obtain⟨o,ho,hk⟩:=nC.1 ha;have Sa:o.k=k:=by simpa using hk
   have:=hf o ho;rw[Sa]at this;simp[ha,this]
  ·simp[ha]
 ·unfold jl;rw[eI];refine iC.2 ⟨H.ln,by simpa[wB]using hn,λa ha b hb e=>?_⟩;subst e;obtain⟨h,hh,rfl⟩:=bL.1 ha;simp only[ux,bL,Function.comp_apply]at hb;obtain⟨o,ho,lE⟩:=hb;have h2:=hf o ho;rw[H.lock,rU]at h2;exact h2 h hh lE.symm
 ·unfold jl at hh;rcases cg.1 hh with hh|hh
  ·obtain⟨i,r,h1,h2,h3⟩:=H.lk h hh;have eL:h.tx≠tx:=λe=>by rw[e,hr]at h1;cases h1
   exact⟨i,r,by rw[kO,aq eL];exact h1,by rw[oS,aq (uu (dI _ _ h1))];exact h2,h3⟩
  ·obtain⟨o,ho,rfl⟩:=bL.1 hh;exact⟨E.length,_,by rw[kO,aK rfl],by rw[oS,aK rfl],o,ho,rfl⟩
 ·unfold jl;rw[kO]at xH;by_cases e:t=tx
  ·rw[aK e]at xH;obtain rfl:=bY xH;rw[oS,aK rfl]at hi;obtain rfl:=bY hi;subst e;exact jN _ (bL.2 ⟨o,ho,rfl⟩)
  ·rw[aq e]at xH;rw[oS,aq (uu (dI _ _ xH))]at hi;exact kC _ (H.lo t i r xH hi o ho)
theorem KL.dec(H:KL E P L V){tx:Int}{yes:Bool}{reads:List Int}:KL (E++[.dec tx yes reads]) {P with cf:=bA P.cf tx ⟨E.length,yes⟩} L V:=by
 have sq:(E++[a7.dec tx yes reads]).map a7.bk=E.map a7.bk++[(a7.dec tx yes reads).bk]:=by simp
 have nK:∀ kind t,bF ((E++[a7.dec tx yes reads]).map a7.bk) kind t=if kind=2/\t=tx then some E.length else bF (E.map a7.bk) kind t:=λkind t=>by
  rw[sq,fe];by_cases e:kind=2/\t=tx
  ·obtain⟨rfl,rfl⟩:=e;simp[isRec,a7.bk,eA]
  ·have:isRec kind t (a7.dec tx yes reads).bk=false:=by simp[isRec,a7.bk,eA];intro z y;exact e ⟨z.symm,y.symm⟩
   simp[this,e]
 have kO:∀ t,bJ ((E++[a7.dec tx yes reads]).map a7.bk) t=bJ (E.map a7.bk) t:=λt=>by unfold bJ;rw[nK,nK];simp
 have dI:∀ t i,bJ (E.map a7.bk) t=some i->i<E.length:=λt i h=>by have:=(dO (eF h).2).1;simpa using this
 have iA:∀ kind t,(bF (E.map a7.bk) kind t).bind (λi=>(((E++[a7.dec tx yes reads]).map a7.bk)[i]?).map λr=>(⟨i,r.yes⟩:gV))=(bF (E.map a7.bk) kind t).bind (λi=>((E.map a7.bk)[i]?).map λr=>⟨i,r.yes⟩):=λkind t=>by
  cases h:bF (E.map a7.bk) kind t with
  |none=>rfl
  |some i=>
   have:=(dO h).1;simp only[dd]at this;simp only[nU,oS,aq (uu this)]
 refine⟨λt=>?_,H.pn,λt=>?_,λt=>?_,H.lock,H.pl,H.ln,λh hh=>?_,λt i r xH hi o ho=>?_,H.bH,H.Aw,H.vn,H.vk⟩
 ·show aC P.bB t=_;rw[kO,H.bB];cases h:bJ (E.map a7.bk) t with
  |none=>rfl
  |some i=>simp only[nU,oS,aq (uu (dI t i h))]
 ·show aC P.done t=_;rw[nK,aq (by simp),iA,H.done]
 ·show aC (bA P.cf tx _) t=_;rw[fF,nK];by_cases e:t=tx
  ·rw[aK e,aK ⟨rfl,e⟩];simp only[nU,oS,eQ,lJ];rfl
  ·rw[aq e,aq (λz=>e z.2),iA,H.cf]
 ·obtain⟨i,r,h1,h2,h3⟩:=H.lk h hh;exact⟨i,r,by rw[kO];exact h1,by rw[oS,aq (uu (dI _ _ h1))];exact h2,h3⟩
 ·rw[kO]at xH;rw[oS,aq (uu (dI _ _ xH))]at hi;exact H.lo t i r xH hi o ho
theorem lH(yes:Bool):∀ (ops:List cy) (l:List (Int×Int)) (v:List Int),v.length=26->(∀ o∈ops,97<=o.k/\o.k<=122)->(∀ k,97<=k->k<=122->(aC l k).getD 0=v[(k-97).toNat]?.getD 0)->
  ∀ k,97<=k->k<=122->(aC (ops.foldl (λv o=>if yes&&o.w then bA v o.k o.v else v) l) k).getD 0=(if yes then eH v ops else v)[(k-97).toNat]?.getD 0
 |[],l,v,hv,ho,h,k,h1,h2=>by cases yes<;>exact h k h1 h2
 |o::ops,l,v,hv,ho,h,k,h1,h2=>by
  have lE:=ho o (iI ..);cases hy:yes with
  |false=>
   have:=lH false ops l v hv (λo h=>ho o (gu _ h)) h k h1 h2;simpa using this
  |true=>
   cases hw:o.w with
   |false=>
    have:=lH true ops l v hv (λo h=>ho o (gu _ h)) h k h1 h2;simpa[eH,hw]using this
   |true=>
    have:=lH true ops (bA l o.k o.v) (v.set (o.k-97).toNat o.v) (by simpa using hv) (λo h=>ho o (gu _ h)) (λk h1 h2=>by
     rw[fF,yb];by_cases e:k=o.k
     ·subst e;rename_i h1 h2;have dI:(o.k-97).toNat<v.length:=ak;rw[aK rfl,aK rfl,aK dI]
     ·have:¬ (o.k-97).toNat=(k-97).toNat:=ak;rw[aq e,aq this];exact h k h1 h2) k h1 h2
    simpa[eH,hw]using this
theorem tJ:∀ (ops:List cy) (v:List Int),(eH v ops).length=v.length
 |[],v=>rfl
 |o::ops,v=>by have:=tJ ops (if o.w then v.set (o.k-97).toNat o.v else v);simp only[eH,ks]at this⊢;rw[this];split<;>simp
theorem pY(yes:Bool):∀ (ops:List cy) (l:List (Int×Int)),(l.map (·.1)).Nodup->((ops.foldl (λv o=>if yes&&o.w then bA v o.k o.v else v) l).map (·.1)).Nodup
 |[],l,h=>h
 |o::ops,l,h=>pY yes ops _ (by
   show((if(yes&&o.w)=true then bA l o.k o.v else l).map (·.1)).Nodup;split
   ·exact e9 h
   ·exact h)
theorem sR(yes:Bool):∀ (ops:List cy) (l:List (Int×Int)),(∀ o∈ops,97<=o.k/\o.k<=122)->(∀ p∈l,97<=p.1/\p.1<=122)->∀ p∈(ops.foldl (λv o=>if yes&&o.w then bA v o.k o.v else v) l),97<=p.1/\p.1<=122
 |[],l,_,h=>h
 |o::ops,l,ho,h=>sR yes ops _ (λo h=>ho o (gu _ h)) (λp hp=>by
   have hp:p∈(if(yes&&o.w)=true then bA l o.k o.v else l):=hp;split at hp
   ·rcases dY hp with rfl|hp
    ·exact ho o (iI ..)
    ·exact h p hp
   ·exact h p hp)
theorem KL.kg(H:KL E P L V){tx:Int}{yes:Bool}(h3:bF (E.map a7.bk) 3 tx=none)(hk:∀ i r,bJ (E.map a7.bk) tx=some i->(E.map a7.bk)[i]? =some r->∀ o∈r.ops,97<=o.k/\o.k<=122){V':List Int}
  (hV:V'=match bJ (E.map a7.bk) tx with|some i=>if yes then eH V (((E.map a7.bk)[i]?).getD eA).ops else V|none=>V):
  KL (E++[.kg tx yes]) (py P tx yes E.length) (iV L tx) V':=by
 have sq:(E++[a7.kg tx yes]).map a7.bk=E.map a7.bk++[(a7.kg tx yes).bk]:=by simp
 have nK:∀ kind t,bF ((E++[a7.kg tx yes]).map a7.bk) kind t=if kind=3/\t=tx then some E.length else bF (E.map a7.bk) kind t:=λkind t=>by
  rw[sq,fe];by_cases e:kind=3/\t=tx
  ·obtain⟨rfl,rfl⟩:=e;simp[isRec,a7.bk,eA]
  ·have:isRec kind t (a7.kg tx yes).bk=false:=by simp[isRec,a7.bk,eA];intro z y;exact e ⟨z.symm,y.symm⟩
   simp[this,e]
 have kO:∀ t,bJ ((E++[a7.kg tx yes]).map a7.bk) t=if t=tx then none else bJ (E.map a7.bk) t:=λt=>by
  unfold bJ;rw[nK,nK];by_cases e:t=tx
  ·simp[e]
  ·simp[e]
 have dI:∀ t i,bJ (E.map a7.bk) t=some i->i<E.length:=λt i h=>by have:=(dO (eF h).2).1;simpa using this
 have iA:∀ kind t,(bF (E.map a7.bk) kind t).bind (λi=>(((E++[a7.kg tx yes]).map a7.bk)[i]?).map λr=>(⟨i,r.yes⟩:gV))=(bF (E.map a7.bk) kind t).bind (λi=>((E.map a7.bk)[i]?).map λr=>⟨i,r.yes⟩):=λkind t=>by
  cases h:bF (E.map a7.bk) kind t with
  |none=>rfl
  |some i=>
   have:=(dO h).1;simp only[dd]at this;simp only[nU,oS,aq (uu this)]
 have cJ:∃ ops,((aC P.bB tx).map (·.ops)).getD []=ops/\((bJ (E.map a7.bk) tx=none/\ops=[])\/∃ i r,bJ (E.map a7.bk) tx=some i/\(E.map a7.bk)[i]? =some r/\ops=r.ops):=by
  refine⟨_,rfl,?_⟩;rw[H.bB];cases h:bJ (E.map a7.bk) tx with
  |none=>exact .inl ⟨rfl,rfl⟩
  |some i=>
   obtain⟨_,r,hr,_⟩:=dO (eF h).2;exact .inr ⟨i,r,rfl,hr,by simp only[nU,hr,lJ,kt]⟩
 obtain⟨ops,cx,oA⟩:=cJ;have lE:∀ o∈ops,97<=o.k/\o.k<=122:=λo ho=>by
  rcases oA with⟨_,rfl⟩|⟨i,r,h1,h2,rfl⟩
  ·cases ho
  ·exact hk i r h1 h2 o ho
 have hVe:V'=if yes then eH V ops else V:=by
  rw[hV];rcases oA with⟨h1,rfl⟩|⟨i,r,h1,h2,rfl⟩
  ·rw[h1];cases yes<;>simp[eH]
  ·rw[h1];simp[h2]
 have U6:∀ k,ops.any (λo=>o.k==k)=true↔(⟨k,tx⟩:gz)∈L:=λk=>by
  rcases oA with⟨h1,rfl⟩|⟨i,r,h1,h2,rfl⟩
  ·constructor
   ·intro h;simp at h
   ·intro h;obtain⟨i,r,h2,_⟩:=H.lk _ h;simp only at h2;rw[h1]at h2;cases h2
  ·constructor
   ·intro h;obtain⟨o,ho,e⟩:=nC.1 h;have e':o.k=k:=by simpa using e
    exact e'▸H.lo tx i r h1 h2 o ho
   ·intro h;obtain⟨i',r',h3,h4,o,ho,e⟩:=H.lk _ h;simp only at h3 e;rw[h1]at h3;obtain rfl:=bY h3;rw[h2]at h4;obtain rfl:=bY h4;exact nC.2 ⟨o,ho,by simpa using e⟩
 have U7:((iV L tx).map (·.key)).Nodup:=H.ln.sublist ((Jp ..).map _);refine⟨λt=>?_,mT H.pn,λt=>?_,λt=>?_,λk=>?_,qX _ _ H.pl,U7,λh hh=>?_,λt i r xH hi o ho=>?_,λk h1 h2=>?_,?_,pY _ _ _ H.vn,?_⟩
 ·show aC (dQ P.bB tx) t=_;rw[vM H.pn,kO];by_cases e:t=tx
  ·simp[e]
  ·rw[aq e,aq e,H.bB];cases h:bJ (E.map a7.bk) t with
   |none=>rfl
   |some i=>simp only[nU,oS,aq (uu (dI t i h))]
 ·show aC (bA P.done tx _) t=_;rw[fF,nK];by_cases e:t=tx
  ·rw[aK e,aK ⟨rfl,e⟩];simp only[nU,oS,eQ,lJ];rfl
  ·rw[aq e,aq (λz=>e z.2),iA,H.done]
 ·show aC P.cf t=_;rw[nK,aq (by simp),iA,H.cf]
 ·show aC (List.foldl (λl o=>dQ l o.k) P.aH (((aC P.bB tx).map (·.ops)).getD [])) k=_;rw[cx,uU _ _ _ H.pl];by_cases ha:ops.any (λo=>o.k==k)=true
  ·rw[aK ha];have hm:=(U6 k).1 ha
   symm
   rw[rU];intro h hh e;obtain⟨h1,h2⟩:=iU.1 hh;have e1:=(oR H.ln).2 hm;have e2:=(oR H.ln (k:=k) (tx:=h.tx)).2 (by rw[<- e];exact h1);rw[e1]at e2;have:=bY e2;simp[this]at h2
  ·rw[aq ha,H.lock];cases hL:(L.find? λh=>h.key==k).map (·.tx)with
   |none=>
    symm;rw[rU]
    intro h hh;exact rU.1 hL h (iU.1 hh).1
   |some t=>
    symm
    rw[oR U7];have hm:=(oR H.ln).1 hL;refine iU.2 ⟨hm,?_⟩;have:t≠tx:=λe=>ha ((U6 k).2 (e▸hm));simpa using this
 ·obtain⟨h1,h2⟩:=iU.1 hh;have eL:h.tx≠tx:=by simpa using h2
  obtain⟨i,r,h3,h4,h5⟩:=H.lk h h1;exact⟨i,r,by rw[kO,aq eL];exact h3,by rw[oS,aq (uu (dI _ _ h3))];exact h4,h5⟩
 ·rw[kO]at xH;by_cases e:t=tx
  ·rw[aK e]at xH;cases xH
  ·rw[aq e]at xH;rw[oS,aq (uu (dI _ _ xH))]at hi;exact iU.2 ⟨H.lo t i r xH hi o ho,by simpa using e⟩
 ·show(aC (List.foldl _ P.values (((aC P.bB tx).map (·.ops)).getD [])) k).getD 0=_;rw[cx,hVe];exact lH yes ops P.values V H.Aw lE H.bH k h1 h2
 ·rw[hVe];split
  ·rw[tJ,H.Aw]
  ·exact H.Aw
 ·show∀ p∈List.foldl _ P.values (((aC P.bB tx).map (·.ops)).getD []),_;rw[cx];exact sR yes ops P.values lE H.vk
end
section
def opsOf(T:List (List cy))(tx:Int):Option (List cy):=if tx<0 then none else T[tx.toNat]?
def J6(l:List cy):Nat:=(l.filter λo=> !o.w).length
def jq(T:List (List cy))(n:Int)(m:MsgR):Prop:=∃ ops,opsOf T m.tx=some ops/\
 ((m.kind=1/\m.aV= -1/\m.to=gf ops n/\m.ops=ops)\/
 (m.kind=2/\m.aV=gf ops n/\cr ops m.to n=true/\m.ops=aY ops m.to n)\/
 (m.kind=3/\m.to=gf ops n/\cr ops m.aV n=true/\(m.yes=true->m.reads.length=J6 (aY ops m.aV n))/\m.ops=[])\/
 (m.kind=4/\m.aV=gf ops n/\cr ops m.to n=true/\m.ops=[])\/
 (m.kind=5/\m.to=gf ops n/\cr ops m.aV n=true/\m.ops=[])\/
 (m.kind=6/\m.to=gf ops n/\cr ops m.aV n=true/\m.ops=[])\/
 (m.kind=7/\m.to= -1/\m.ops=[]))
inductive gK(T:List (List cy))(n me:Int):List a7->Prop
 |nil:gK T n me []
 |eK {E:List a7} {tx:Int} {ops:List cy}:gK T n me E->opsOf T tx=some ops->cr ops me n=true->bF (E.map a7.bk) 1 tx=none->bF (E.map a7.bk) 3 tx=none->
   (∀ t i r,bJ (E.map a7.bk) t=some i->(E.map a7.bk)[i]? =some r->∀ o∈r.ops,∀ o'∈aY ops me n,o.k≠o'.k)->gK T n me (E++[.eK tx (gf ops n) (aY ops me n)])
 |dec {E:List a7} {tx:Int} {yes:Bool} {reads:List Int}:gK T n me E->(opsOf T tx).isSome=true->gK T n me (E++[.dec tx yes reads])
 |kg {E:List a7} {tx:Int} {yes:Bool}:gK T n me E->(opsOf T tx).isSome=true->bF (E.map a7.bk) 3 tx=none->gK T n me (E++[.kg tx yes])
def z4(T:List (List cy)):Prop:=(∀ ops∈T,fb ops)/\T.length<=60
theorem mH{T:List (List cy)}{tx:Int}{ops:List cy}(more:List (List cy))(h:opsOf T tx=some ops):opsOf (T++more) tx=some ops:=by
 unfold opsOf at h⊢;split at h
 ·cases h
 ·rename_i hh;rw[aq hh,NA (jC.1 h).1];exact h
theorem oT{T:List (List cy)}{tx:Int}{ops:List cy}(h:opsOf T tx=some ops):0<=tx/\tx.toNat<T.length/\ops∈T:=by
 unfold opsOf at h;split at h
 ·cases h
 ·exact⟨ak,(jC.1 h).1,eS h⟩
theorem jq.app{T:List (List cy)}{n:Int}{m:MsgR}(more:List (List cy))(h:jq T n m):jq (T++more) n m:=by obtain⟨ops,h1,h2⟩:=h;exact⟨ops,mH more h1,h2⟩
theorem gK.app{T:List (List cy)}{n me:Int}{E:List a7}(more:List (List cy))(h:gK T n me E):gK (T++more) n me E:=by
 induction h with
 |nil=>exact .nil
 |eK _ h1 h2 h3 h4 h5 ih=>exact .eK ih (mH more h1) h2 h3 h4 h5
 |dec _ h1 ih=>
  obtain⟨o,ho⟩:=ur.1 h1;exact .dec ih (by rw[mH more ho];rfl)
 |kg _ h1 h2 ih=>
  obtain⟨o,ho⟩:=ur.1 h1;exact .kg ih (by rw[mH more ho];rfl) h2
theorem gK.init{T:List (List cy)}{n me:Int}{E:List a7}(h:gK T n me E):∀ k,gK T n me (E.take k):=by
 induction h with
 |nil=>intro k;simpa using gK.nil
 |@eK E tx ops h1 h2 h3 h4 h5 h6 ih=>
  intro k;rcases oq E.length k with h|h
  ·rw[g5 (by simp;omega)];exact .eK h1 h2 h3 h4 h5 h6
  ·rw[NO h];exact ih k
 |@dec E tx yes reads h1 h2 ih=>
  intro k;rcases oq E.length k with h|h
  ·rw[g5 (by simp;omega)];exact .dec h1 h2
  ·rw[NO h];exact ih k
 |@kg E tx yes h1 h2 h3 ih=>
  intro k;rcases oq E.length k with h|h
  ·rw[g5 (by simp;omega)];exact .kg h1 h2 h3
  ·rw[NO h];exact ih k
theorem gK.U8{T:List (List cy)}{n me:Int}{E:List a7}(h:gK T n me E):∀ (i:Nat) (r:RecR),(E.map a7.bk)[i]? =some r->(∃ ops,opsOf T r.tx=some ops/\(r.kind=1->cr ops me n=true/\r.ops=aY ops me n/\r.home=gf ops n)):=by
 induction h with
 |nil=>intro i r hr;simp at hr
 |@eK E tx ops h1 h2 h3 h4 h5 h6 ih=>
  intro i r hr;rw[oS]at hr;split at hr
  ·obtain rfl:=bY hr;exact⟨ops,h2,λ_=>⟨h3,rfl,rfl⟩⟩
  ·exact ih i r hr
 |@dec E tx yes reads h1 h2 ih=>
  intro i r hr;rw[oS]at hr;split at hr
  ·obtain rfl:=bY hr;obtain⟨o,ho⟩:=ur.1 h2;exact⟨o,ho,λh=>by simp[a7.bk]at h⟩
  ·exact ih i r hr
 |@kg E tx yes h1 h2 h3 ih=>
  intro i r hr;rw[oS]at hr;split at hr
  ·obtain rfl:=bY hr;obtain⟨o,ho⟩:=ur.1 h2;exact⟨o,ho,λh=>by simp[a7.bk]at h⟩
  ·exact ih i r hr
theorem gK.ready{T:List (List cy)}{n me:Int}{E:List a7}(h:gK T n me E){tx:Int}{i:Nat}{r:RecR}(hr:bJ (E.map a7.bk) tx=some i)(hi:(E.map a7.bk)[i]? =some r):
  ∃ ops,opsOf T tx=some ops/\cr ops me n=true/\r.ops=aY ops me n/\r.home=gf ops n/\r.tx=tx/\r.kind=1:=by
 obtain⟨_,r',h1,h2,h3⟩:=dO (eF hr).2;rw[hi]at h1;obtain rfl:=bY h1;obtain⟨ops,h4,h5⟩:=h.U8 i r hi;rw[h3]at h4;exact⟨ops,h4,(h5 h2).1,(h5 h2).2.1,(h5 h2).2.2,h3,h2⟩
theorem uV{ops:List cy}{k n:Int}:(aY ops k n).Sublist ops:=Jp
theorem fb.key{ops:List cy}(h:fb ops){k n:Int}:∀ o∈aY ops k n,97<=o.k/\o.k<=122:=λo ho=>by have:=h.1 o (uV.mem ho);exact⟨this.1,this.2.1⟩
theorem fb.nod{ops:List cy}(h:fb ops){k n:Int}:((aY ops k n).map (·.k)).Nodup:=h.2.1.sublist (uV.map _)
theorem z4.of{T:List (List cy)}(h:z4 T){tx:Int}{ops:List cy}(ho:opsOf T tx=some ops):fb ops:=h.1 ops (oT ho).2.2
structure UA(n:Int)(a:lR)(b:gU):Prop where
 ops:a.ops=b.ops
 dec:a.dec=b.dec
 yes:a.yes=b.yes
 aT:∀ k,aC a.aT k=(bP b k).map (·.reads)
 vn:(a.aT.map (·.1)).Nodup
 an:(a.bK.map (·.1)).Nodup
 bK:∀ k,(aC a.bK k).isSome=b.bK.contains k
 ap:∀ p∈a.bK,0<p.2
 vt:∀ p∈a.aT,cr b.ops p.1 n=true/\p.2.length=J6 (aY b.ops p.1 n)
 at':∀ p∈a.bK,cr b.ops p.1 n=true
structure kP(T:List (List cy))(n me:Int)(p:Int×lR)(u:gU):Prop where
 tx:p.1=u.tx
 ua:UA n p.2 u
 ops:opsOf T u.tx=some u.ops
 home:gf u.ops n=me
inductive F2{A B:Type}(r:A->B->Prop):List A->List B->Prop
 |nil:F2 r [] []
 |cons {a:A} {b:B} {l:List A} {m:List B}:r a b->F2 r l m->F2 r (a::l) (b::m)
structure dP(T:List (List cy))(n:Int)(P:dZ)(R:ShR):Prop where
 me:P.me=R.me
 mb:0<=R.me/\R.me<n
 n1:P.n=n
 n2:R.n=n
 up:P.up=R.up
 log:P.log.map a7.bk=R.log
 CP:gK T n R.me P.log
 aX:P.aX=R.aX
 gl:0<=R.aX/\R.aX<=R.log.length
 timers:P.timers=R.timers
 clock:P.clock=R.clock
 waits:P.waits=R.waits
 out:P.out=R.out
 wo:∀ m∈R.waits,jq T n m
 oo:∀ m∈R.out,jq T n m
 tt:∀ t∈R.timers,(opsOf T t.tx).isSome=true
 kl:R.up=true->KL P.log P R.aH R.bH
 un:R.up=true->(P.cq.map (·.1)).Nodup
 cq:R.up=true->F2 (kP T n R.me) P.cq R.under
 ud:R.up=true->∀ u∈R.under,u.dec=true->(bF R.log 2 u.tx).isSome=true
 dn:R.up=false->P.values=[]/\P.aH=[]/\R.bH=il/\R.aH=[]/\R.waits=[]/\R.under=[]
theorem F2.mono{A B:Type}{r r':A->B->Prop}(f:∀ a b,r a b->r' a b){l:List A}{m:List B}(h:F2 r l m):F2 r' l m:=by
 induction h with
 |nil=>exact .nil
 |cons h _ ih=>exact .cons (f _ _ h) ih
section
variable{T:List (List cy)}{n me:Int}
theorem oU{l:List (Int×lR)}{m:List gU}(h:F2 (kP T n me) l m)(tx:Int):
  (aC l tx=none/\cX m tx=none)\/∃ i a u,aC l tx=some a/\cX m tx=some i/\m[i]? =some u/\u.tx=tx/\kP T n me (tx,a) u:=by
 induction h with
 |nil=>exact .inl ⟨rfl,rfl⟩
 |@cons p u l m hp h ih=>
  have hc:cX (u::m) tx=if u.tx==tx then some 0 else(cX m tx).map (· +1):=by unfold cX;rw[AU]
  by_cases e:u.tx=tx
  ·refine .inr ⟨0,p.2,u,?_,by rw[hc];simp[e],rfl,e,?_⟩
   ·unfold aC;rw[aK (hp.tx.trans e)]
   ·rw[<- e,<- hp.tx];exact hp
  ·have e2:¬ p.1=tx:=λz=>e (hp.tx.symm.trans z);have hb:(u.tx==tx)=false:=by simpa using e
   rcases ih with⟨h1,h2⟩|⟨i,a,v,h1,h2,h3,h4,h5⟩
   ·exact .inl ⟨by unfold aC;rw[aq e2];exact h1,by rw[hc,hb,h2];rfl⟩
   ·exact .inr ⟨i+1,a,v,by unfold aC;rw[aq e2];exact h1,by rw[hc,hb,h2];rfl,by simpa using h3,h4,h5⟩
theorem CR{l:List (Int×lR)}{m:List gU}(h:F2 (kP T n me) l m){tx:Int}{i:Nat}{a:lR}{v:gU}(hi:cX m tx=some i)(hv:kP T n me (tx,a) v):F2 (kP T n me) (bA l tx a) (m.set i v):=by
 induction h generalizing i with
 |nil=>cases hi
 |@cons p u l m hp h ih=>
  have hc:cX (u::m) tx=if u.tx==tx then some 0 else(cX m tx).map (· +1):=by unfold cX;rw[AU]
  rw[hc]at hi;by_cases e:u.tx=tx
  ·have hb:(u.tx==tx)=true:=by simpa using e
   rw[hb]at hi;obtain rfl:=bY hi;unfold bA;rw[aK (hp.tx.trans e),vD];exact .cons hv h
  ·have hb:(u.tx==tx)=false:=by simpa using e
   rw[hb]at hi;obtain⟨j,hj,rfl⟩:=M2.1 hi;unfold bA;rw[aq λz=>e (hp.tx.symm.trans z),xb];exact .cons hp (ih hj)
theorem SO{l:List (Int×lR)}{m:List gU}(h:F2 (kP T n me) l m){tx:Int}{a:lR}{v:gU}(hi:cX m tx=none)(hv:kP T n me (tx,a) v):F2 (kP T n me) (bA l tx a) (m++[v]):=by
 induction h with
 |nil=>exact .cons hv .nil
 |@cons p u l m hp h ih=>
  have hc:cX (u::m) tx=if u.tx==tx then some 0 else(cX m tx).map (· +1):=by unfold cX;rw[AU]
  rw[hc]at hi;by_cases e:u.tx=tx
  ·have hb:(u.tx==tx)=true:=by simpa using e
   rw[hb]at hi;cases hi
  ·have hb:(u.tx==tx)=false:=by simpa using e
   rw[hb]at hi;unfold bA;rw[aq λz=>e (hp.tx.symm.trans z)];exact .cons hp (ih (by simpa using hi))
theorem SP{l:List (Int×lR)}{m:List gU}(h:F2 (kP T n me) l m){tx:Int}{i:Nat}(hi:cX m tx=some i):F2 (kP T n me) (dQ l tx) (m.eraseIdx i):=by
 induction h generalizing i with
 |nil=>cases hi
 |@cons p u l m hp h ih=>
  have hc:cX (u::m) tx=if u.tx==tx then some 0 else(cX m tx).map (· +1):=by unfold cX;rw[AU]
  rw[hc]at hi;by_cases e:u.tx=tx
  ·have hb:(u.tx==tx)=true:=by simpa using e
   rw[hb]at hi;obtain rfl:=bY hi;unfold dQ;rw[aK (hp.tx.trans e)];exact h
  ·have hb:(u.tx==tx)=false:=by simpa using e
   rw[hb]at hi;obtain⟨j,hj,rfl⟩:=M2.1 hi;unfold dQ;rw[aq λz=>e (hp.tx.symm.trans z),ND];exact .cons hp (ih hj)
theorem J7{V:Type}(k:Int)(v:V):∀ l:List (Int×V),(aC l k).isSome=true->dQ (bA l k v) k=dQ l k
 |[],h=>by cases h
 |p::l,h=>by
  unfold aC at h;unfold bA;by_cases e:p.1=k
  ·rw[aK e]
   conv=>lhs;unfold dQ
   conv=>rhs;unfold dQ
   simp[e]
  ·rw[aq e]at h⊢
   conv=>lhs;unfold dQ
   conv=>rhs;unfold dQ
   rw[aq e,aq e,J7 k v l h]
end
theorem wL{ops:List cy}{n:Int}(h:ops≠[]):cr ops (gf ops n) n=true:=by
 cases ops with
 |nil=>exact absurd rfl h
 |cons o l=>simp[cr,aY,gf]
theorem CS{k n:Int}(hk:97<=k)(hn:0<n):0<=ie k n/\ie k n<n:=by unfold ie;exact⟨Int.tmod_nonneg _ ak,Int.tmod_lt_of_pos _ hn⟩
theorem lS{ops:List cy}{k n:Int}(hr:fb ops)(hn:0<n)(h:cr ops k n=true):0<=k/\k<n:=by
 unfold cr at h;have eL:aY ops k n≠[]:=λe=>by rw[e]at h;simp at h
 obtain⟨o,ho⟩:=Ut _ eL;have h1:o∈ops:=uV.mem ho;have h2:ie o.k n=k:=by simpa[aY,h1]using ho
 rw[<- h2];exact CS (hr.1 o h1).1 hn
theorem kQ{n k:Int}:k∈upto n↔0<=k/\k<n:=by
 unfold upto;rw[bL];constructor
 ·rintro⟨a,ha,rfl⟩;have:=mM.1 ha;have h2:Int.ofNat a=(a:Int):=rfl;omega
 ·rintro⟨h1,h2⟩;exact⟨k.toNat,mM.2 ak,by show((k.toNat:Nat):Int)=k;omega⟩
theorem vR{n:Int}{ops:List cy}{p:Int->Bool}(hr:fb ops)(hn:0<n):mY n ops p=true↔∀ k,cr ops k n=true->p k=true:=by
 unfold mY;rw[k9];constructor
 ·intro h k hk;have:=h k (kQ.2 (lS hr hn hk));simpa[hk]using this
 ·intro h k _;cases hk:cr ops k n with
  |false=>simp
  |true=>simp[h k hk]
theorem lI{a b:List Int}(ha:a.Nodup)(h:∀ x∈a,x∈b):a.length<=b.length:=by
 induction a generalizing b with
 |nil=>simp
 |cons x a ih=>
  rw[sf]at ha;have hx:=h x (iI ..);have:=ih (b:=b.erase x) ha.2 λy hy=>(List.mem_erase_of_ne (λe:y=x=>ha.1 (by rw[<- e];exact hy))).2 (h y (gu _ hy));rw[List.length_erase_of_mem hx]at this;have:0<b.length:=List.length_pos_of_mem hx;simp;omega
theorem Ax{a b:List Int}(ha:a.Nodup)(h:∀ x∈a,x∈b)(hl:b.length<=a.length):∀ x∈b,x∈a:=by
 intro x hx;refine NP λhn=>?_;have:=lI (a:=x::a) (sf.2 ⟨hn,ha⟩) (b:=b) λy hy=>by
  rcases gq.1 hy with rfl|hy
  ·exact hx
  ·exact h y hy
 simp at this;omega
theorem tK{V:Type}{n:Int}{ops:List cy}{l:List (Int×V)}(hn:(l.map (·.1)).Nodup)(ht:∀ p∈l,cr ops p.1 n=true):(dB ops n).length<=l.length↔∀ k,cr ops k n=true->(aC l k).isSome=true:=by
 have gD:∀ x∈l.map (·.1),x∈(dB ops n).map (·.1):=λx hx=>by obtain⟨p,hp,rfl⟩:=bL.1 hx;exact(rT ops n p.1).2 (ht p hp)
 constructor
 ·intro h k hk;have:=Ax hn gD (by simpa using h) k ((rT ops n k).2 hk);cases hg:aC l k with
  |none=>exact absurd this (getM_none.1 hg)
  |some v=>rfl
 ·intro h;have:=lI (E9 ops n) (b:=l.map (·.1)) λx hx=>by have:=h x ((rT ops n x).1 hx);refine NP λhc=>?_;rw[getM_none.2 hc]at this;cases this
  simpa using this
theorem Le{V:Type}{n:Int}{ops:List cy}{l:List (Int×V)}(hn:(l.map (·.1)).Nodup)(ht:∀ p∈l,cr ops p.1 n=true):l.length=(dB ops n).length↔∀ k,cr ops k n=true->(aC l k).isSome=true:=by
 rw[<- tK hn ht];have gD:l.length<=(dB ops n).length:=by
  have:=lI hn (b:=(dB ops n).map (·.1)) λx hx=>by obtain⟨p,hp,rfl⟩:=bL.1 hx;exact(rT ops n p.1).2 (ht p hp)
  simpa using this
 omega
end
section
open Go.Conc
variable{P:bR}{ao:Bool}{B:j9}{R:Nat->aQ->Array Obj->Prop}{d:Nat}{As aO F:List HP}
variable{fn:bM}{kd:Kd}{n:Nat}{e:Nat->Value}{ds:List dW}{k:List Item}{cs:List Frame}
variable{ops:Array Oper}{i:Nat}{aa:List Nat}{dst:Option Nat}{t:Nat}{ty:aR}{pos:String}{af:Array Edge}{gd:Option (Nat×Bool)}{x y z:cU}{v:Value}
theorem ab.xi(C:ab P ao B R){f:bM}{fu:Func}{ex:Array Value->Sem Value}[b:ew P f fu ex]{recv:cU}{name:String}{args:Array cU}{ga:Array aR}{vl:List Value}{t0:aR}{v0 rv:Value}(hm:fJ P (method (P.types.size+Made.depth) t0 v0 name)=some (f,rv))
  (h:∀ H,Sat As (hp H)->dC P B (ex (#[rv]++vl.toArray)) H d λv H' d'=>∃ aO,Sat aO (hp H')/\At R d' aO (gr fn kd n (di e dst v) ds (.inRegion ops aa::k) cs))
  (ho:aZ ops i=some ⟨dst,.call ⟨.invoke recv name,args,ga⟩,ty,pos,af,gd⟩:=by rfl) (hr:ev n e recv=.iface t0 v0:=by rfl) (hv:args.toList.map (ev n e)=vl:=by rfl) (hw:aN ops n e gd=true:=by rfl):Nw R d As fn kd n e ds ops i aa k cs:=by
 refine C.gen ho hw λH s=>?_;unfold execOp;simp only;refine ah ?_;have tC:args.map (ev n e)=vl.toArray:=by rw[<- hv,<- qv,ts]
 simp only[resolve,hr,tC];refine aA ?_;show dC P B (invoke (.fn (.method name) #[]) (#[.iface t0 v0]++vl.toArray)) H d _;unfold invoke;have e1:(#[Value.iface t0 v0]++vl.toArray)[0]? =some (.iface t0 v0):=by simp
 have e2:(#[Value.iface t0 v0]++vl.toArray).extract 1 (#[Value.iface t0 v0]++vl.toArray).size=vl.toArray:=by simp
 simp only[e1,e2];unfold callMethod;simp only;refine ah (dz (v:=P) rfl ?_);refine ah (dz hm ?_);simp only;unfold callFunc;refine ah ?_;show dC P B _ H d _;simp only[program,dC];rw[b.func];simp only[b.name,b.body,eQ,gR,eY];refine ah ?_;simp only[mark,dC,kF,n0,mN];simp only[b.nx,b.fd];refine ah (oD (λv H' d' q=>?_) (h H s));obtain⟨aO,s',q⟩:=q;exact aA ⟨aO,s',q⟩
theorem ab.Y6(C:ab P ao B R){f:bM}{fu:Func}{ex:Array Value->Sem Value}[b:ew P f fu ex]{recv:cU}{name:String}{args:Array cU}{ga:Array aR}{vl:List Value}{t0:aR}{v0 rv:Value}(hm:fJ P (method (P.types.size+Made.depth) t0 v0 name)=some (f,rv))(hx:fJ P (ex (#[rv]++vl.toArray))=some v)
  (h:At R d As (gr fn kd n (di e dst v) ds (.inRegion ops aa::k) cs)) (ho:aZ ops i=some ⟨dst,.call ⟨.invoke recv name,args,ga⟩,ty,pos,af,gd⟩:=by rfl) (hr:ev n e recv=.iface t0 v0:=by rfl) (hv:args.toList.map (ev n e)=vl:=by rfl) (hw:aN ops n e gd=true:=by rfl):Nw R d As fn kd n e ds ops i aa k cs:=
 C.xi hm (λH s=>dz hx ⟨As,s,h⟩) ho hr hv hw
theorem ab.Y7(C:ab P ao B R){f:bM}{fu:Func}{c:Code}{nf:Nat}[b:Body P f fu c nf]{recv:cU}{name:String}{args:Array cU}{ga:Array aR}{vl:List Value}{t0:aR}{v0 rv:Value}{A:List HP}{Q:Value->List HP->Prop}(hm:fJ P (method (P.types.size+Made.depth) t0 v0 name)=some (f,rv))(hs:aB P ao B f (rv::vl).toArray A Q)
  (h:∀ v aO,Q v aO->At R d (aO++F) (gr fn kd n (di e dst v) ds (.inRegion ops aa::k) cs)) (ho:aZ ops i=some ⟨dst,.call ⟨.invoke recv name,args,ga⟩,ty,pos,af,gd⟩:=by rfl) (hr:ev n e recv=.iface t0 v0:=by rfl) (hv:args.toList.map (ev n e)=vl:=by rfl)
  (hA:dJ A As F:=by exact dJ.au) (hw:aN ops n e gd=true:=by rfl):Nw R d As fn kd n e ds ops i aa k cs:=by
 have tC:args.map (ev n e)=vl.toArray:=by rw[<- hv,<- qv,ts]
 refine C.en (o:=⟨dst,.call ⟨.invoke recv name,args,ga⟩,ty,pos,af,gd⟩) hs ?_ h ho hA hw;unfold execOp;simp only;refine br (a:=⟨.fn (.method name) #[],#[.iface t0 v0]++vl.toArray⟩) ?_ ?_
 ·unfold resolve;simp only[hr,tC];rfl
 ·show fJ P (invoke (.fn (.method name) #[]) (#[.iface t0 v0]++vl.toArray))=_;unfold invoke;have e1:(#[Value.iface t0 v0]++vl.toArray)[0]? =some (.iface t0 v0):=by simp
  have e2:(#[Value.iface t0 v0]++vl.toArray).extract 1 (#[Value.iface t0 v0]++vl.toArray).size=vl.toArray:=by simp
  simp only[e1,e2];unfold callMethod;simp only;refine br (a:=P) rfl (br hm ?_);have e3:#[rv]++vl.toArray=(rv::vl).toArray:=by simp
  simp only[e3];exact kM _
theorem ab.taI(C:ab P ao B R){xt tt t0:aR}{Pn:Array (String×aR)}{inf:TypeInfo}{zv:Value}{mm:String}{vv:Value}(hu:P.underlying tt=some (.interface Pn))(hi:P.info? t0=some inf)(hmm:Instr.missingMethod Pn inf.methods=some mm)(hz:∃ i,P.info? tt=some i/\i.zero=some zv)(ho:aZ ops i=some ⟨some t,.typeAssert x xt tt true,ty,pos,af,gd⟩)
  (h:Nx R d As fn kd n e ds ops aa k cs t (.tuple #[zv,.bool false])) (hx:ev n e x=.iface t0 vv:=by rfl) (hw:aN ops n e gd=true:=by rfl):Nw R d As fn kd n e ds ops i aa k cs:=
 C.v0 ho h (by unfold execOp;simp only[hx];refine br (a:=.tuple #[zv,.bool false]) ?_ rfl;unfold Instr.typeAssert;refine br (fx hu) ?_;simp only;refine br (m5 hi) ?_;simp only[hmm,eQ];exact br (qR hz) rfl) hw
theorem ab.taY(C:ab P ao B R){xt tt t0:aR}{Pn:Array (String×aR)}{inf:TypeInfo}{vv:Value}(hu:P.underlying tt=some (.interface Pn))(hi:P.info? t0=some inf)(hmm:Instr.missingMethod Pn inf.methods=none)(ho:aZ ops i=some ⟨some t,.typeAssert x xt tt true,ty,pos,af,gd⟩)
  (h:Nx R d As fn kd n e ds ops aa k cs t (.tuple #[.iface t0 vv,.bool true])) (hx:ev n e x=.iface t0 vv:=by rfl) (hw:aN ops n e gd=true:=by rfl):Nw R d As fn kd n e ds ops i aa k cs:=
 C.v0 ho h (by unfold execOp;simp only[hx];refine br (a:=.tuple #[.iface t0 vv,.bool true]) ?_ rfl;unfold Instr.typeAssert;refine br (fx hu) ?_;simp only;refine br (m5 hi) ?_;simp only[hmm,eQ];rfl) hw
theorem ab.U9(C:ab P ao B R){f:bM}{fu:Func}{c:Code}{nf:Nat}[b:Body P f fu c nf]{recv:cU}{name:String}{args:Array cU}{ga:Array aR}{vl:List Value}{t0:aR}{v0 rv:Value}{A:List HP}{Q:Value->List HP->Prop}(hm:∀ H d (Q:bM×Value->Array Obj->Nat->Prop),Sat As (hp H)->Q (f,rv) H d->dC P B (method (P.types.size+Made.depth) t0 v0 name) H d Q)(hs:aB P ao B f (rv::vl).toArray A Q)
  (h:∀ v aO,Q v aO->At R d (aO++F) (gr fn kd n (di e dst v) ds (.inRegion ops aa::k) cs)) (ho:aZ ops i=some ⟨dst,.call ⟨.invoke recv name,args,ga⟩,ty,pos,af,gd⟩:=by rfl) (hr:ev n e recv=.iface t0 v0:=by rfl) (hv:args.toList.map (ev n e)=vl:=by rfl)
  (hA:dJ A As F:=by exact dJ.au) (hw:aN ops n e gd=true:=by rfl):Nw R d As fn kd n e ds ops i aa k cs:=by
 refine C.gen ho hw λH s=>?_;unfold execOp;simp only;refine ah ?_;have tC:args.map (ev n e)=vl.toArray:=by rw[<- hv,<- qv,ts]
 simp only[resolve,hr,tC];refine aA ?_;show dC P B (invoke (.fn (.method name) #[]) (#[.iface t0 v0]++vl.toArray)) H d _;unfold invoke;have e1:(#[Value.iface t0 v0]++vl.toArray)[0]? =some (.iface t0 v0):=by simp
 have e2:(#[Value.iface t0 v0]++vl.toArray).extract 1 (#[Value.iface t0 v0]++vl.toArray).size=vl.toArray:=by simp
 simp only[e1,e2];unfold callMethod;simp only;refine ah (dz (v:=P) rfl ?_);refine ah (hm H d _ s ?_);simp only;refine nF (P:=P) _ B H d _ ⟨A++F,s.perm hA.perm,?_⟩;have e3:#[rv]++vl.toArray=(rv::vl).toArray:=by simp
 rw[e3];exact hs R C .pR d F _ cs trivial λv aO q=>by show At R d (aO++F) (e8 _ cs v);rw[oH ho];exact h v aO q
theorem Lf{f:bM}{t0 elem:aR}{name:String}{inf:TypeInfo}{m:Go.Method}{b off fuel:Nat}{c:Array Value}{T:aR}{rv:Value}{H:Array Obj}{d:Nat}{Q:bM×Value->Array Obj->Nat->Prop}(hi:P.info? t0=some inf)(hf:inf.methods.find? (·.name==name)=some m)(hp0:m.path=#[])(hfu:m.func=some (f,false))(hu:P.underlying t0=some (.pointer elem))[Ag P elem false](hh:hp H b=some (.cells c T (0,0)))(hc:c[off]? =some rv)(hs:B.sh T off=false)(q:Q (f,rv) H d):dC P B (method (fuel+1) t0 (.pointer (some ⟨b,off,none⟩)) name) H d Q:=by unfold method;refine ah (dz (m5 hi) ?_);simp only[hf,hp0,hfu];refine ah (dz (v:=(t0,Place.val (.pointer (some ⟨b,off,none⟩)))) rfl ?_);simp only;refine ah ?_;unfold receiverAt;refine ah (dz (fx hu) ?_);simp only;refine ah (dz (v:=Value.pointer (some ⟨b,off,none⟩)) rfl ?_);refine ah (dz (v:=Value.pointer (some ⟨b,off,none⟩)) rfl ?_);refine ah (dz (v:=(⟨b,off,none⟩:Addr)) rfl ?_);exact gG hh hc hs (aA q)
theorem At.aaA{R:Nat->aQ->Array Obj->Prop}{d:Nat}{As L:List HP}{g:aQ}{α:Type}{f:α->List Value}{z:Nat}{el:aR}{s:ax}{l:List α}(hf:Fo (aW f z el s l) As L)(h1:s=Go.Sl.aG->l=[]->At R d As g)(h2:s.a=some ⟨s.b,0,none⟩->s.len=l.length->At R d As g):At R d As g:=λH st=>by
 obtain⟨hh,x,hs,hr⟩:=st.perm hf.perm;rcases x with⟨rfl,rfl⟩|⟨b,pad,e, -, -, -⟩
 ·exact h1 rfl rfl H st
 ·have e1:s.b=b:=by rw[e];rfl
  exact h2 (by rw[e1,e]) (by rw[e]) H st
variable{L:List HP}
variable{tt t2:aR}{kk:IntKind}{p q r:Int}
theorem ab.mx(C:ab P ao B R)(ho:aZ ops i=some ⟨some t,.call ⟨.builtin .max,#[x,y],#[tt,t2]⟩,ty,pos,af,gd⟩)(h:Nx R d As fn kd n e ds ops aa k cs t (.int kk r))
  (hx:ev n e x=.int kk p:=by rfl) (hy:ev n e y=.int kk q:=by rfl) (hr:max p q=r:=by rfl) (hw:aN ops n e gd=true:=by rfl):Nw R d As fn kd n e ds ops i aa k cs:=
 C.val ho hw (λB H d Q q'=>by
  unfold execOp;simp only[resolve];refine ah (aA ?_);simp only[Af,iJ,ml,hx,hy];unfold invoke builtin;refine ah ?_;have e1:(if q>p then q else p)=r:=by rw[<- hr,Int.max_def];split<;>split<;>omega
  show dC P B (Builtin.max_ _ _ #[.int kk p,.int kk q]) H d _;unfold Builtin.max_;simp only[List.foldlM,Builtin.max2,e1];refine ah (aA ?_);exact aA q') h
theorem ab.mn(C:ab P ao B R)(ho:aZ ops i=some ⟨some t,.call ⟨.builtin .min,#[x,y],#[tt,t2]⟩,ty,pos,af,gd⟩)(h:Nx R d As fn kd n e ds ops aa k cs t (.int kk r))
  (hx:ev n e x=.int kk p:=by rfl) (hy:ev n e y=.int kk q:=by rfl) (hr:min p q=r:=by rfl) (hw:aN ops n e gd=true:=by rfl):Nw R d As fn kd n e ds ops i aa k cs:=
 C.val ho hw (λB H d Q q'=>by
  unfold execOp;simp only[resolve];refine ah (aA ?_);simp only[Af,iJ,ml,hx,hy];unfold invoke builtin;refine ah ?_;have e1:(if q<p then q else p)=r:=by rw[<- hr,Int.min_def];split<;>split<;>omega
  show dC P B (Builtin.min_ _ _ #[.int kk p,.int kk q]) H d _;unfold Builtin.min_;simp only[List.foldlM,Builtin.min2,e1];refine ah (aA ?_);exact aA q') h
theorem Fe{α:Type}{f:α->List Value}{z:Nat}[rf:fM f z]{el:aR}{s:ax}{l:List α}{As L:List HP}{H:Array Obj}{B:j9}(hf:Fo (aW f z el s l) As L)(st:Sat As (hp H))(hs:∀ j,B.sh el j=false)(k:Nat)(hk:k<l.length)(h3:s.a=some ⟨s.b,0,none⟩):
  lj B H z (l.take k).length (.slice s.a k s.cap) (flat f (l.take k)):=by
 have e1:(l.take k).length=k:=by rw[iz];omega
 rw[e1];have h:=dF.K7 (B:=B) (f:=f) (el:=el) (s:=s) (l:=l) (.own hf) st hs 0 k ak s.cap s.a (λ_=>by rw[h3,KN]) (λ_=>.inr ⟨0,h3,by intro z;rw[z]at hk;simp at hk,ak⟩)
 rwa[Ac]at h
theorem Ff{α:Type}{f:α->List Value}{z:Nat}[rf:fM f z]{el:aR}{s:ax}{l:List α}{As L:List HP}{H:Array Obj}{B:j9}(hf:Fo (aW f z el s l) As L)(st:Sat As (hp H))(hs:∀ j,B.sh el j=false)(k:Nat)(hk:k<l.length)(h5:l.length<=s.cap):
  lj B H z (l.drop (k+1)).length (.slice (some (if s.cap=k+1 then⟨s.b,0,none⟩else⟨s.b,0+(k+1)*z,none⟩)) (l.length-(k+1)) (s.cap-(k+1))) (flat f (l.drop (k+1))):=by
 have e1:(l.drop (k+1)).length=l.length-(k+1):=by rw[uw]
 rw[e1];have h:=dF.K7 (B:=B) (f:=f) (el:=el) (s:=s) (l:=l) (.own hf) st hs (k+1) (l.length-(k+1)) ak (s.cap-(k+1)) (some (if s.cap=k+1 then⟨s.b,0,none⟩else⟨s.b,0+(k+1)*z,none⟩)) (λhm=>by rw[aq ak];simp) (λ_=>.inr (by
  by_cases hc:s.cap=k+1
  ·exact⟨0,by rw[aK hc],by intro z;rw[z]at hk;simp at hk,ak⟩
  ·exact⟨(k+1)*z,by rw[aq hc];simp,by intro z;rw[z]at hk;simp at hk,tu z ak⟩))
 rwa[g5 (by rw[uw];exact fI _)]at h
def Po(kk:IntKind)(es:Array MapEntry)(seen:Array Nat)(clock last:Nat):List Int->Prop
 |[]=>True
 |k::_=>last=clock/\∃ e∈es.toList,seen.back?=some e.born/\e.key=.int kk k
def HN{V:Type}(kk:IntKind)(g:V->Value)(mb ib:Nat)(l:List (Int×V))(pa:List Int):HP:=λh=>
 ∃ es clock since seen last,vN kk es clock (kH g l)/\(∀ e∈es.toList,e.born<since)/\since<=last/\since<=clock/\(∀ e∈es.toList,(seen.contains e.born=true↔∃ k∈pa,e.key=.int kk k))/\Po kk es seen clock last pa/\all [bX mb (.map es clock),bX ib (.mapIter (some mb) since seen last)] h
variable{u:Value}{b off:Nat}{c:Array Value}{el key:aR}
variable{V:Type}{g:V->Value}{l:List (Int×V)}
theorem ab.rn(C:ab P ao B R)[cM:Mp P tt key el](ho:aZ ops i=some ⟨some t,.range tt x,ty,pos,af,gd⟩)(h:∀ ib,Nx R d (HN kk g b ib l []::L) fn kd n e ds ops aa k cs t (.pointer (some ⟨ib,0,none⟩)))
  (hx:ev n e x=.map (some b):=by rfl) (hf:Fo (cW kk g b l) As L:=by exact Fo.au) (hw:aN ops n e gd=true:=by rfl):Nw R d As fn kd n e ds ops i aa k cs:=
 C.gen ho hw λH s=>by
  have s':=s.perm hf.perm;obtain⟨hh,⟨es,clock,mr,vJ⟩,gD,hr⟩:=s';have iA:hp H b=some (.map es clock):=by subst vJ;exact gD b _ (by simp[one])
  have s2:Sat (bX b (.map es clock)::L) (hp H):=⟨hh,vJ,gD,hr⟩;unfold execOp;simp only[hx];refine ah ?_;unfold Instr.range;refine ah (dE cM.h B H d _ ?_);refine ah (gT iA rfl ?_);refine ah (aA (ah ?_));show dC P B (.new _ _) H d _;simp only[dC];show dC P B (pure _) _ d _;refine aA ⟨_,?_,h H.size⟩;have s3:=s2.push (.mapIter (some b) clock #[] clock);refine Sat.imp (λh hh=>⟨es,clock,clock,#[],clock,mr,λe he=>mr.lt e he,fI _,fI _,λe he=>by simp,trivial,hh⟩) (Sat.fR (l:=[bX b (.map es clock),bX H.size (.mapIter (some b) clock #[] clock)]) s3.swap)
theorem Va{X:Type}{a:Array X}(h:a.isEmpty=false):0<a.size:=by
 rcases Nu a.size with h0|h0
 ·simp[Array.isEmpty,h0]at h
 ·exact h0
theorem Pp{mb ib:Nat}{pa:List Int}{As:List HP}{H:Array Obj}{tt:aR}{Q:Value->Array Obj->Nat->Prop}(s:Sat (HN kk g mb ib l pa::As) (hp H))
  (q1:∀ k v H',(k,v)∈l->k∉pa->Sat (HN kk g mb ib l (k::pa)::As) (hp H')->Q (.tuple #[.bool true,.int kk k,g v]) H' d) (q2:(∀ p∈l,p.1∈pa)->Q (.tuple #[.bool false]) H d):dC P B (Instr.next (.pointer (some ⟨ib,0,none⟩)) false tt) H d Q:=by
 obtain⟨es,clock,since,seen,last,mr,hb,D5,Jz,uQ,aaB,s⟩:∃ es clock since seen last,vN kk es clock (kH g l)/\(∀ e∈es.toList,e.born<since)/\since<=last/\since<=clock/\(∀ e∈es.toList,(seen.contains e.born=true↔∃ k∈pa,e.key=.int kk k))/\Po kk es seen clock last pa/\Sat (all [bX mb (.map es clock),bX ib (.mapIter (some mb) since seen last)]::As) (hp H):=by obtain⟨h1,⟨es,clock,since,seen,last,mr,a1,a2,a3,a4,a6,a5⟩,h2,h3⟩:=s;exact⟨es,clock,since,seen,last,mr,a1,a2,a3,a4,a6,h1,a5,h2,h3⟩
 have s:=s.flat;have hm:hp H mb=some (.map es clock):=s.get;have hi:hp H ib=some (.mapIter (some mb) since seen last):=s.swap.get;unfold Instr.next;simp only;refine ah (gT hi rfl ?_);simp only;refine ah (gT hm rfl ?_);have pQ:(!seen.isEmpty&& !es.isEmpty&&es.all λx=>decide (x.born>=last))=false:=by
  cases he:es.isEmpty with
  |true=>simp
  |false=>
   have h0:=Va he;have:(es.all λx=>decide (x.born>=last))=false:=by rw[Array.all_eq_false];refine⟨0,h0,?_⟩;have:=hb es[0] (by simp);simp;omega
   rw[this];simp
 simp only[pQ,gR,eY];generalize hL:es.filter (λe=> !seen.contains e.born)=left;have J8:∀ e,e∈left↔e∈es/\¬ (seen.contains e.born=true):=λe=>by rw[<- hL];simp
 have hold:left.filter (λx=>decide (x.born<since))=left:=by rw[Array.filter_eq_self];intro e he;have:=hb e (Ck.2 ((J8 e).1 he).1);simp;omega
 have xc:left.filter (λx=>decide (x.born>=since))=#[]:=by rw[Array.filter_eq_empty_iff];intro e he;have:=hb e (Ck.2 ((J8 e).1 he).1);simp;omega
 rw[hold,xc,w9];refine ah ?_;show dC P B (.choose _ _) H d _;have hkv:∀ e∈es.toList,∃ k v,(k,v)∈l/\e.key=.int kk k/\e.val=g v:=λe he=>by
  have:(e.key,e.val)∈D8 kk (kH g l):=by rw[<- mr.kv];exact sC (f:=λe:MapEntry=>(e.key,e.val)) he
  obtain⟨p,D6,z3⟩:=bL.1 this;obtain⟨p',RA,Na⟩:=bL.1 D6;subst Na;obtain⟨h1,h2⟩:=x7 z3;exact⟨p'.1,p'.2,RA,h1.symm,h2.symm⟩
 have hvk:∀ p∈l,∃ e∈es.toList,e.key=.int kk p.1:=λp hp=>by
  have:(Value.int kk p.1,g p.2)∈es.toList.map (λe=>(e.key,e.val)):=by rw[mr.kv];exact bL.2 ⟨(p.1,g p.2),bL.2 ⟨p,hp,rfl⟩,rfl⟩
  obtain⟨e,h1,h2⟩:=bL.1 this;exact⟨e,h1,(x7 h2).1⟩
 cases WN:left.isEmpty with
 |true=>
  have hl0:left=#[]:=by simpa using WN
  have je:∀ p∈l,p.1∈pa:=λp hp=>by
   obtain⟨e,he,hk⟩:=hvk p hp;have:seen.contains e.born=true:=by refine NP λhc=>?_;have:=(J8 e).2 ⟨Ck.1 he,hc⟩;rw[hl0]at this;simp at this
   obtain⟨k,zZ,G6⟩:=(uQ e he).1 this;rw[hk]at G6;injection G6 with _ h2
   rw[h2];exact zZ
  simp only[dC,Question.forced,hl0];simp only[eQ,Array.map_empty,w9];exact q2 je
 |false=>
  simp only[gR,eY];have lP:∀ e1∈es.toList,∀ e2∈es.toList,e1.key=e2.key->e1=e2:=λe1 h1 e2 h2 hk=>by
   obtain⟨i1,xm⟩:=ov h1;obtain⟨i2,Ap⟩:=ov h2;have g1:((D8 kk (kH g l)).map (·.1))[i1]? =some e1.key:=by rw[<- mr.kv];simp[xm]
   have g2:((D8 kk (kH g l)).map (·.1))[i2]? =some e1.key:=by rw[<- mr.kv,hk];simp[Ap]
   have hn:((D8 kk (kH g l)).map (·.1)).Nodup:=by
    have hmm:(D8 kk (kH g l)).map (·.1)=((kH g l).map (·.1)).map (Value.int kk):=by simp[D8]
    rw[hmm];exact List.Pairwise.map _ (λa b h z=>h (by injection z)) mr.nd
   have:=yw hn g1 g2;subst this;rw[xm]at Ap;exact bY Ap
  have YZ:∀ e1∈es.toList,∀ e2∈es.toList,e1.born=e2.born->e1=e2:=λe1 h1 e2 h2 hk=>by obtain⟨i1,xm⟩:=ov h1;obtain⟨i2,Ap⟩:=ov h2;have:=yw mr.bn (i:=i1) (j:=i2) (x:=e1.born) (by simp[xm]) (by simp[Ap,hk]);subst this;rw[xm]at Ap;exact bY Ap
  have EN:∀ j,j<left.size->dC P B (match(#[]++left.map some)[j]? with
    |some (some e)=>do
     setObj ib (.mapIter (some mb) since (seen.push e.born) clock)
     pure (.tuple #[.bool true,e.key,e.val])
    |some none=>(pure (.tuple #[.bool false]):Sem Value)
    |none=>stuck "Next: no such candidate") H d Q:=λj hj=>by
   have hg:(#[]++left.map some)[j]? =some (some left[j]):=by simp[hj]
   rw[hg];have eT:left[j]∈left:=Array.getElem_mem hj;obtain⟨he,hns⟩:=(J8 _).1 eT;have xj:=Ck.2 he;obtain⟨k,v,yU,hk,hv⟩:=hkv _ xj;have s2:=(s.swap).set (o':=.mapIter (some mb) since (seen.push left[j].born) clock);refine ah (lv hi rfl rfl (aA ?_));rw[hk,hv];refine q1 k v _ yU (λadY=>hns ((uQ _ xj).2 ⟨k,adY,hk⟩)) ?_;refine Sat.imp (λh hh=>⟨es,clock,since,seen.push left[j].born,clock,mr,hb,Jz,Jz,λe hee=>?_,⟨rfl,left[j],xj,by simp,hk⟩,hh⟩) (Sat.fR (l:=[bX mb (.map es clock),bX ib (.mapIter (some mb) since (seen.push left[j].born) clock)]) s2.swap);have Ob:(seen.push left[j].born).contains e.born=true↔seen.contains e.born=true\/e.born=left[j].born:=by simp[Array.mem_push]
   rw[Ob,uQ e hee];constructor
   ·rintro(⟨k',h1,h2⟩|h1)
    ·exact⟨k',gu _ h1,h2⟩
    ·have:=YZ e hee _ xj h1;exact⟨k,iI ..,by rw[this];exact hk⟩
   ·rintro⟨k',h1,h2⟩;rcases gq.1 h1 with rfl|h1
    ·exact .inr (by rw[lP e hee _ xj (h2.trans hk.symm)])
    ·exact .inl ⟨k',h1,h2⟩
  have hls:=Va WN;simp only[dC];split
  ·refine EN 0 hls
  ·intro n;have:Question.cut (.mapNext (#[]++left.map some).size) n=n%(#[]++left.map some).size:=rfl;rw[this];refine EN _ ?_;have hsz:(#[]++left.map some).size=left.size:=by simp
   rw[hsz];exact En _ hls
theorem ab.nx(C:ab P ao B R){ib:Nat}{pa:List Int}(ho:aZ ops i=some ⟨some t,.next x false,ty,pos,af,gd⟩)
  (h1:∀ j w,(j,w)∈l->j∉pa->Nx R d (HN kk g b ib l (j::pa)::L) fn kd n e ds ops aa k cs t (.tuple #[.bool true,.int kk j,g w])) (h2:(∀ p∈l,p.1∈pa)->Nx R d (HN kk g b ib l pa::L) fn kd n e ds ops aa k cs t (.tuple #[.bool false]))
  (hx:ev n e x=.pointer (some ⟨ib,0,none⟩):=by rfl) (hf:Fo (HN kk g b ib l pa) As L:=by exact Fo.au) (hw:aN ops n e gd=true:=by rfl):Nw R d As fn kd n e ds ops i aa k cs:=
 C.gen ho hw λH s=>by unfold execOp;simp only[hx];exact ah (Pp (s.perm hf.perm) (λj w H' m nv s'=>⟨_,s',h1 j w m nv⟩) λje=>⟨_,s.perm hf.perm,h2 je⟩)
theorem ab.muI(C:ab P ao B R){w:V}{ib:Nat}{pa:List Int}[cM:Mp P tt key el][Ik P key kk](hk:(aC l q).isSome=true)(ho:aZ ops i=some ⟨none,.mapUpdate tt x y z,ty,pos,af,gd⟩)(h:At R d (HN kk g b ib (bA l q w) pa::L) (gr fn kd n e ds (.inRegion ops aa::k) cs))
  (hx:ev n e x=.map (some b):=by rfl) (hy:ev n e y=.int kk q:=by rfl) (hf:Fo (HN kk g b ib l pa) As L:=by exact Fo.au) (hz:ev n e z=g w:=by rfl) (hw:aN ops n e gd=true:=by rfl):Nw R d As fn kd n e ds ops i aa k cs:=
 C.gen ho hw λH s=>by
  have s':=s.perm hf.perm;obtain⟨es,clock,since,seen,last,mr,hb,D5,Jz,uQ,aaB,s2⟩:∃ es clock since seen last,vN kk es clock (kH g l)/\(∀ e∈es.toList,e.born<since)/\since<=last/\since<=clock/\(∀ e∈es.toList,(seen.contains e.born=true↔∃ k∈pa,e.key=.int kk k))/\Po kk es seen clock last pa/\Sat (all [bX b (.map es clock),bX ib (.mapIter (some b) since seen last)]::L) (hp H):=by obtain⟨h1,⟨es,clock,since,seen,last,mr,a1,a2,a3,a4,a6,a5⟩,h2,h3⟩:=s';exact⟨es,clock,since,seen,last,mr,a1,a2,a3,a4,a6,h1,a5,h2,h3⟩
  have s2:=s2.flat;have iA:hp H b=some (.map es clock):=s2.get;unfold execOp;simp only[hx,hy,hz];refine ah ?_;unfold Instr.mapUpdate;refine ah (dE cM.h B H d _ ?_);refine ah (gT iA rfl ?_);refine ah (nI B H d _ ?_);refine ah (pr mr.kv B H d _ ?_);cases hi:qf q (kH g l) 0 with
  |none=>
   have:=(jk hi).1;rw[mS,Option.map_eq_none_iff]at this;rw[this]at hk;cases hk
  |some jv=>
   obtain⟨j,v0⟩:=jv;obtain⟨m,rfl,hn,_,sK,_⟩:=jj hi;obtain⟨e0,he,hke,_⟩:=Ht mr.kv hn;simp only[mL,EL,he,lJ,kt,hke];refine ah (JM B H d _ ?_);refine lv iA rfl rfl ⟨_,?_,h⟩;refine Sat.imp (λh hh=>⟨_,clock,since,seen,last,?_,?_,D5,Jz,?_,?_,hh⟩) (Sat.fR (l:=[bX b _,bX ib (.mapIter (some b) since seen last)]) (s2.set))
   ·rw[<- oJ];exact mr.modify hn (sK _) _ λe' xj=>⟨rfl,rfl,rfl⟩
   ·intro e' xj;have hl:(es.modify m λe=>{e with key:=.int kk q,val:=g w}).toList=es.toList.modify m λe=>{e with key:=.int kk q,val:=g w}:=by simp
    rw[hl]at xj;obtain⟨i,cG⟩:=ov xj;rw[AO]at cG;obtain⟨e2,h2,h3⟩:=M2.1 cG;have:=hb e2 (eS h2);split at h3<;>(subst h3;exact this)
   ·intro e' xj;have hl:(es.modify m λe=>{e with key:=.int kk q,val:=g w}).toList=es.toList.modify m λe=>{e with key:=.int kk q,val:=g w}:=by simp
    rw[hl]at xj;obtain⟨i,cG⟩:=ov xj;rw[AO]at cG;obtain⟨e2,h2,h3⟩:=M2.1 cG;have:=uQ e2 (eS h2);split at h3
    ·rename_i Vb;subst h3;subst Vb;rw[he]at h2;obtain rfl:=bY h2;rw[hke]at this;exact this
    ·subst h3;exact this
   ·cases pa with
    |nil=>trivial
    |cons k0 pa=>
     obtain⟨h1,e1,he1,h2,h3⟩:=aaB;refine⟨h1,?_⟩;have hl:(es.modify m λe=>{e with key:=.int kk q,val:=g w}).toList=es.toList.modify m λe=>{e with key:=.int kk q,val:=g w}:=by simp
     obtain⟨i,cG⟩:=ov he1;by_cases Vb:m=i
     ·subst Vb;rw[he]at cG;obtain rfl:=bY cG;refine⟨{e0 with key:=.int kk q,val:=g w},?_,h2,by rw[<- h3,hke]⟩;rw[hl];exact eS (i:=m) (by rw[AO,he];simp)
     ·refine⟨e1,?_,h2,h3⟩;rw[hl];exact eS (i:=i) (by rw[AO,cG];simp[Vb])
theorem At.CU{ib:Nat}{pa:List Int}{gx:aQ}(hf:Fo (HN kk g b ib l pa) As L)(h:At R d (cW kk g b l::L) gx):At R d As gx:=λH s=>by have s':=s.perm hf.perm;obtain⟨h1,⟨es,clock,since,seen,last,mr,a1,a2,a3,a4,a6,a5⟩,h2,h3⟩:=s';have s2:Sat (all [bX b (.map es clock),bX ib (.mapIter (some b) since seen last)]::L) (hp H):=⟨h1,a5,h2,h3⟩;exact h H ((s2.flat.swap.drop).imp λh hh=>⟨es,clock,mr,hh⟩)
theorem ab.ent(C:ab P ao B R){ib:Nat}{j:Int}{w:V}{pa:List Int}(hg:aC l j=some w)(ho:aZ ops i=some ⟨some t,.entry x,ty,pos,af,gd⟩)(h:Nx R d As fn kd n e ds ops aa k cs t (.tuple #[.int kk j,g w]))
  (hf:Fo (HN kk g b ib l (j::pa)) As L) (hx:ev n e x=.pointer (some ⟨ib,0,none⟩):=by rfl) (hw:aN ops n e gd=true:=by rfl):Nw R d As fn kd n e ds ops i aa k cs:=
 C.gen ho hw λH s=>by
  have s':=s.perm hf.perm;obtain⟨h1,⟨es,clock,since,seen,last,mr,a1,a2,a3,a4,⟨rfl,e0,he0,zU,RB⟩,a5⟩,h2,h3⟩:=s';have s2:Sat ([bX b (.map es last),bX ib (.mapIter (some b) since seen last)]++L) (hp H):=Sat.flat ⟨h1,a5,h2,h3⟩;have hm:hp H b=some (.map es last):=s2.get;have hi:hp H ib=some (.mapIter (some b) since seen last):=s2.swap.get;unfold execOp;simp only[hx];refine ah ?_;unfold Instr.entry;simp only;refine ah (gT hi rfl ?_);simp only[zU];refine ah (gT hm rfl ?_);simp only[bne_self_eq_false,gR,eY];have nK:es.find? (λe=>e.born==e0.born)=some e0:=by
   have hl:es.toList.find? (λe=>e.born==e0.born)=some e0:=by
    cases Sq:es.toList.find? (λe=>e.born==e0.born)with
    |none=>
     have:=Jo.1 Sq e0 he0;simp at this
    |some e1=>
     have h1:=NQ Sq;have h2:=AV Sq;obtain⟨i1,xm⟩:=ov h2;obtain⟨i2,Ap⟩:=ov he0;have hbe:e1.born=e0.born:=by simpa using h1
     have:=yw mr.bn (i:=i1) (j:=i2) (x:=e0.born) (by simp[xm,hbe]) (by simp[Ap]);subst this;rw[xm]at Ap;exact congrArg some (bY Ap)
   rw[<- hl];simp
  rw[nK];have yV:e0.val=g w:=by
   have:(e0.key,e0.val)∈D8 kk (kH g l):=by rw[<- mr.kv];exact sC (f:=λe:MapEntry=>(e.key,e.val)) he0
   obtain⟨p,D6,z3⟩:=bL.1 this;obtain⟨zZ,G6⟩:=x7 z3;have hpj:p.1=j:=by rw[RB]at zZ;injection zZ
   have hgm:=ed mr.nd (show(j,p.2)∈kH g l by rw[<- hpj];exact D6);rw[mS,hg]at hgm;rw[<- G6];exact(bY hgm).symm
  simp only[RB,yV];exact aA (aA ⟨As,s,h⟩)
end
end Go.Sl
