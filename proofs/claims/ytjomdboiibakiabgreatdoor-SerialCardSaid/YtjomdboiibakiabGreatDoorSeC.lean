/-
  Texts that the proof needs, joined: part 3.
-/
import Derived.Test.YtjomdboiibakiabGreatDoorSeB
import Derived.Conc.DeferLaws
import Derived.Conc.AtomicLaws2
import Derived.Conc.SmallLaws
import Derived.Laws.LoneSync
import Derived.Conc.EventLaws
set_option linter.unusedSimpArgs false
set_option linter.unusedVariables false
set_option maxHeartbeats 4000000
namespace Go.Sl
open Go.Proofs.Tryz
section
open Go.Conc
def fW(P:bL){α:Type}:Sem α->Option α
 |.pure a=>some a
 |.program k=>fW P (k P)
 |_=>none
theorem lW{P:bL}{α:Type}{s:Sem α}{v:α}(h:fW P s=some v)(w:World)(es:Array Event):s.runT P w es=(.ok v w,es):=by
 induction s generalizing es with
 |pure a=>obtain rfl:=bR h;rfl
 |program k ih=>exact ih P h es
 |_=>cases h
theorem Pg{P:bL}{α β:Type}{s:Sem α}{f:α->Sem β}{a:α}(h:fW P s=some a):fW P (s.bind f)=fW P (f a):=by
 induction s with
 |pure b=>obtain rfl:=bR h;rfl
 |program k ih=>exact ih P h
 |_=>cases h
theorem bC{P:bL}{α β:Type}{s:Sem α}{f:α->Sem β}{a:α}{b:β}(h:fW P s=some a)(k:fW P (f a)=some b):fW P (s >>= f)=some b:=(Pg h).trans k
structure Mt(P:bL)(ao:Bool)(Z:World->Prop)(W:Nat->aM->Prop):Prop where
 s:∀ (q:Nat) (g g':aM),g.status=.running->(∀ w,Z w->stepG P ao g w=.go g' w #[])->W q g'->W (q+1) g
 mono:∀ (q m:Nat) (g:aM),W q g->q<=m->W m g
section
variable{P:bL}{ao:Bool}{Z:World->Prop}{W:Nat->aM->Prop}{q:Nat}
variable{fn:bJ}{kd:Kd}{n:Nat}{e:Nat->Value}{ds:List eo}{k:List Item}{cs:List Frame}
theorem Mt.gw(M:Mt P ao Z W):∀ (m:Nat) (k:List Item),W q (gr fn kd n e ds (ctl m k) cs)->W (q+m) (gr fn kd n e ds k cs)
 |0,_,h=>h
 |m+1,k,h=>by
  unfold ctl at h;split at h
  ·exact M.s _ _ _ rfl (λw _=>by simp[gr,bq,stepG,stepG.exec]) (M.gw m _ h)
  ·exact M.s _ _ _ rfl (λw _=>by simp[gr,bq,stepG,stepG.exec]) (M.gw m _ h)
  ·exact M.s _ _ _ rfl (λw _=>by simp[gr,bq,stepG,stepG.exec]) (M.gw m _ h)
  ·rename_i c k';split at h
   ·rename_i hc;have:=fN hc;simp only at this;rw[this];exact M.s _ _ _ rfl (λw _=>by simp[gr,bq,stepG,stepG.exec]) (M.gw m _ h)
   ·rename_i hc;obtain⟨l,e⟩:=fN hc;rw[e];exact M.s _ _ _ rfl (λw _=>by simp[gr,bq,stepG,stepG.exec]) (M.gw m _ h)
   ·rename_i hc;have:=fN hc;simp only at this;rw[this];exact M.s _ _ _ rfl (λw _=>by simp[gr,bq,stepG,stepG.exec]) (M.gw m _ h)
   ·rename_i hc;have:=fN hc;simp only at this;rw[this];exact M.s _ _ _ rfl (λw _=>by simp[gr,bq,stepG,stepG.exec]) (M.gw m _ h)
   ·rename_i hc;have:=fN hc;simp only at this;rw[this];exact M.s _ _ _ rfl (λw _=>by simp[gr,bq,stepG,stepG.exec]) (M.gw m _ h)
   ·rename_i hc;split at h
    ·rename_i k'' hx;have:=fN hc;simp only at this;rw[this];exact M.s _ _ _ rfl (λw _=>by simp[gr,bq,stepG,stepG.exec,hx]) (M.gw m _ h)
    ·exact M.mono _ _ _ h ai
   ·exact M.mono _ _ _ h ai
  ·exact M.mono _ _ _ h ai
theorem Mt.go(M:Mt P ao Z W){k':List Item}(h:W q (gr fn kd n e ds k' cs))(hk:ctl 60 k=k':=by rfl):W (q+60) (gr fn kd n e ds k cs):=M.gw 60 k (hk▸h)
theorem Mt.cond(M:Mt P ao Z W){c:cZ}{x y:Code}{t:Bool}(hc:ev n e c=.bool t)(h:W q (gr fn kd n e ds (.code (if t then x else y)::k) cs)):W (q+1) (gr fn kd n e ds (.code (.cond c x y)::k) cs):=
 M.s _ _ _ rfl (λw _=>by have:=uQ fn kd n e ds (.code (.cond c x y)::k);simp only[bq]at this;simp[gr,bq,stepG,stepG.exec,this,hc]) h
theorem Mt.Lv(M:Mt P ao Z W){c:Code}{k':List Item}(h:W q (gr fn kd n e ds k' cs))(hc:ck c=.cond:=by rfl)(hv:ev n e (cC c)=.bool true:=by rfl)(hk:ctl 60 (.code (cT c)::k)=k':=by rfl):W (q+60+1) (gr fn kd n e ds (.code c::k) cs):=by have:=fN hc;simp only at this;rw[this];exact M.cond hv (M.gw 60 _ (hk▸h))
theorem Mt.C7(M:Mt P ao Z W){c:Code}{k':List Item}(h:W q (gr fn kd n e ds k' cs))(hc:ck c=.cond:=by rfl)(hv:ev n e (cC c)=.bool false:=by rfl)(hk:ctl 60 (.code (cE c)::k)=k':=by rfl):W (q+60+1) (gr fn kd n e ds (.code c::k) cs):=by have:=fN hc;simp only at this;rw[this];exact M.cond hv (M.gw 60 _ (hk▸h))
theorem Mt.rg(M:Mt P ao Z W){c:Code}(l:List Nat)(h:W q (gr fn kd n e ds (.inRegion (cO c) l::k) cs))(hc:ck c=.region:=by rfl)(hl:List.range (cO c).size=l:=by rfl):W (q+1) (gr fn kd n e ds (.code c::k) cs):=by have:=fN hc;simp only at this;rw[this];exact M.s _ _ _ rfl (λw _=>by simp[gr,bq,stepG,stepG.exec]) (hl▸h)
theorem Mt.lp(M:Mt P ao Z W){c:Code}(h:W q (gr fn kd n e ds (.code (cB c):: .inLoop (cB c)::k) cs))(hc:ck c=.loop:=by rfl):W (q+1) (gr fn kd n e ds (.code c::k) cs):=by have:=fN hc;simp only at this;rw[this];exact M.s _ _ _ rfl (λw _=>by simp[gr,bq,stepG,stepG.exec]) h
theorem Mt.Wu(M:Mt P ao Z W){c:Code}(h:W q (gr fn kd n e ds (.code c:: .inLoop c::k) cs)):W (q+1) (gr fn kd n e ds (.inLoop c::k) cs):=
 M.s _ _ _ rfl (λw _=>by simp[gr,bq,stepG,stepG.exec]) h
variable{ops:Array Oper}{i:Nat}{aa:List Nat}{dst:Option Nat}{t:Nat}{ty:aO}{pos:String}{af:Array Edge}{gd:Option (Nat×Bool)}{x y z:cZ}{v u:Value}
theorem stepG_op{o:Oper}(ho:aZ ops i=some o)(hw:aL ops n e o.guard=true)(w:World):stepG P ao (gr fn kd n e ds (.inRegion ops (i::aa)::k) cs) w=stepG.apply P true (bq fn kd n e ds (.inRegion ops (i::aa)::k)) cs none (execOp (ev n e) o) w:=by rw[<- dv]at ho;rw[<- eH]at hw;have he:=uQ fn kd n e ds (.inRegion ops (i::aa)::k);simp only[bq]at he;simp[gr,bq,stepG,stepG.exec,stepG.oper,Frame.oper?,ho,hw,he]
theorem BJ{o:Oper}(ho:aZ ops i=some o)(hw:aL ops n e o.guard=true)(hy:fW P (execOp (ev n e) o)=some (.value v))(w:World):stepG P ao (gr fn kd n e ds (.inRegion ops (i::aa)::k) cs) w=.go (gr fn kd n (dm e o.dst v) ds (.inRegion ops aa::k) cs) w #[]:=by rw[stepG_op ho hw];have r:=lW hy w #[];have AG:=kd.early;simp only[stepG.apply,r,eN];rw[cf (by rw[dv];exact ho)];simp[bq,GStep.after,gr,seen_none,AG]
theorem LF{o:Oper}{x:eo}(ho:aZ ops i=some o)(hw:aL ops n e o.guard=true)(hy:fW P (execOp (ev n e) o)=some (.defer x))(w:World):stepG P ao (gr fn kd n e ds (.inRegion ops (i::aa)::k) cs) w=.go (gr fn kd n (dm e o.dst undef) (x::ds) (.inRegion ops aa::k) cs) w #[]:=by rw[stepG_op ho hw];have r:=lW hy w #[];have AG:=kd.early;have hf:=cf (fn:=fn) (kd:=kd) (n:=n) (e:=e) (ds:=x::ds) (k:=k) (aa:=aa) (o:=o) (by rw[dv];exact ho) undef;simp only[bq]at hf;simp only[stepG.apply,r,eN,bq];rw[hf];simp[bq,AG,GStep.after,gr,seen_none]
theorem BK{o:Oper}{f:bJ}{args:Array Value}(ho:aZ ops i=some o)(hw:aL ops n e o.guard=true)(hy:fW P (execOp (ev n e) o)=some (.enter f args))(w:World):stepG P ao (gr fn kd n e ds (.inRegion ops (i::aa)::k) cs) w=.go (iS P f args .qL (bq fn kd n e ds (.inRegion ops (i::aa)::k)::cs)) w #[]:=by rw[stepG_op ho hw];have r:=lW hy w #[];have AG:=kd.early;simp only[stepG.apply,r,eN];simp[bq,AG,GStep.after,iS,seen_none];rfl
theorem stepG_comm{o:Oper}{cases:Array CommCase}{sh:CommShape}{bl:Bool}(ho:aZ ops i=some o)(hw:aL ops n e o.guard=true)(hy:fW P (execOp (ev n e) o)=some (.comm cases bl sh))(w:World):stepG P ao (gr fn kd n e ds (.inRegion ops (i::aa)::k) cs) w=.comm (gr fn kd n e ds (.inRegion ops (i::aa)::k) cs) cases bl sh w #[]:=by rw[stepG_op ho hw];have r:=lW hy w #[];have AG:=kd.early;simp only[stepG.apply,r,eN];simp[bq,AG,GStep.after,gr,seen_none]
def child(P:bL)(d:eo):aM:={frame:={(default:Frame)with fn:=P.funcs.size,defers:=[d],mode:=.panicking [goexitEntry]},callers:=[],status:=.running,dying:=none}
theorem E2{o:Oper}{x:eo}(ho:aZ ops i=some o)(hw:aL ops n e o.guard=true)(hy:fW P (execOp (ev n e) o)=some (.spawn x))(hx:∃ f cap,x.target=.fn f cap)(w:World):stepG P ao (gr fn kd n e ds (.inRegion ops (i::aa)::k) cs) w=.spawn (gr fn kd n (dm e o.dst undef) ds (.inRegion ops aa::k) cs) (child P x) w #[]:=by rw[stepG_op ho hw];have r:=lW hy w #[];have AG:=kd.early;simp only[stepG.apply,r,eN];rw[cf (by rw[dv];exact ho)];obtain⟨tg,ar⟩:=x;obtain⟨f,cap,rfl⟩:∃ f cap,tg=.fn f cap:=hx;simp[bq,AG,GStep.after,gr,seen_none,child]
theorem Mt.op(M:Mt P ao Z W){o:Oper}(ho:aZ ops i=some o)(hw:aL ops n e o.guard=true)(hy:fW P (execOp (ev n e) o)=some (.value v))(h:W q (gr fn kd n (dm e o.dst v) ds (.inRegion ops aa::k) cs)):W (q+1) (gr fn kd n e ds (.inRegion ops (i::aa)::k) cs):=
 M.s _ _ _ rfl (λw _=>BJ ho hw hy w) h
theorem Mt.no(M:Mt P ao Z W){op:Op}(ho:aZ ops i=some ⟨dst,op,ty,pos,af,gd⟩)(h:W q (gr fn kd n (dm e dst undef) ds (.inRegion ops aa::k) cs))(hw:aL ops n e gd=false:=by rfl):W (q+1) (gr fn kd n e ds (.inRegion ops (i::aa)::k) cs):=by
 refine M.s _ _ _ rfl (λw _=>?_) h;rw[<- dv]at ho;have np:Region.wanted (⟨dst,op,ty,pos,af,gd⟩:Oper) (yielded ops (tm n e))=false:=by rw[eH];exact hw
 have hf:=cf (fn:=fn) (kd:=kd) (n:=n) (e:=e) (ds:=ds) (k:=k) (aa:=aa) ho undef;simp only[bq]at hf;simp only[gr,bq,stepG,stepG.exec,ho,jR,iA,np,gn,eR,hf]
theorem Mt.mv(M:Mt P ao Z W)(ho:aZ ops i=some ⟨some t,.move x,ty,pos,af,gd⟩)(h:W q (gr fn kd n (put e t v) ds (.inRegion ops aa::k) cs))(hx:ev n e x=v:=by conv=>{lhs;whnf})(hw:aL ops n e gd=true:=by rfl):W (q+1) (gr fn kd n e ds (.inRegion ops (i::aa)::k) cs):=
 M.op ho hw (by unfold execOp;simp only[hx];rfl) h
theorem Mt.oR(M:Mt P ao Z W)(ho:aZ ops i=some ⟨some t,.assign x,ty,pos,af,gd⟩)(h:W q (gr fn kd n (put e t v) ds (.inRegion ops aa::k) cs))(hx:ev n e x=v:=by conv=>{lhs;whnf})(hw:aL ops n e gd=true:=by rfl):W (q+1) (gr fn kd n e ds (.inRegion ops (i::aa)::k) cs):=
 M.op ho hw (by unfold execOp;simp only[hx];rfl) h
theorem Mt.nc(M:Mt P ao Z W){a:Addr}(ho:aZ ops i=some ⟨some t,.nilCheck x,ty,pos,af,gd⟩)(h:W q (gr fn kd n (put e t (.pointer (some a))) ds (.inRegion ops aa::k) cs))(hx:ev n e x=.pointer (some a):=by rfl)(hw:aL ops n e gd=true:=by rfl):W (q+1) (gr fn kd n e ds (.inRegion ops (i::aa)::k) cs):=
 M.op ho hw (by unfold execOp;simp only[hx];rfl) h
theorem fL{t:aO}{u:TypeDesc}(h:P.underlying t=some u):fW P (underlying t)=some u:=by unfold underlying;refine bC (a:=P) rfl ?_;simp only[h];rfl
theorem nD{t:aO}{i:TypeInfo}(h:P.info? t=some i):fW P (typeInfo t)=some i:=by unfold typeInfo;refine bC (a:=P) rfl ?_;simp only[h];rfl
theorem E3{t:aO}{z:Nat}(h:∃ i,P.info? t=some i/\i.size=z):fW P (sizeOf t)=some z:=by obtain⟨i,h,rfl⟩:=h;unfold sizeOf;exact bC (nD h) rfl
theorem rA{t:aO}{v:Value}(h:∃ i,P.info? t=some i/\i.zero=some v):fW P (zeroValue t)=some v:=by obtain⟨i,h,hz⟩:=h;unfold zeroValue;refine bC (nD h) ?_;rw[hz];rfl
theorem Mt.fa(M:Mt P ao Z W){s f o b off:Nat}[c:Fl P s f o](ho:aZ ops i=some ⟨some t,.fieldAddr s x f,ty,pos,af,gd⟩)(h:W q (gr fn kd n (put e t (.pointer (some ⟨b,off+o,none⟩))) ds (.inRegion ops aa::k) cs))
  (hx:ev n e x=.pointer (some ⟨b,off,none⟩):=by rfl) (hw:aL ops n e gd=true:=by rfl):W (q+1) (gr fn kd n e ds (.inRegion ops (i::aa)::k) cs):=
 M.op ho hw (by obtain⟨fs,fl,z,h1,h2,rfl,⟨inf,h4,h5⟩,h6⟩:=c.h;unfold execOp;simp only[hx,Instr.fieldAt];refine bC (a:=.pointer (some ⟨b,off+fl.offset,none⟩)) (bC (fL h1) ?_) rfl;simp only[h2,Instr.sureAddr];refine bC (a:=(⟨b,off,none⟩:Addr)) rfl ?_;unfold fieldPlace;refine bC (a:=⟨b,off+fl.offset,none⟩) ?_ rfl;refine bC (E3 ⟨inf,h4,h5⟩) ?_;rw[ax h6,gY];rfl) h
theorem Mt.ext(M:Mt P ao Z W){vs:Array Value}{ix:Nat}(ho:aZ ops i=some ⟨some t,.extract x ix,ty,pos,af,gd⟩)(h:W q (gr fn kd n (put e t v) ds (.inRegion ops aa::k) cs))
  (hx:ev n e x=.tuple vs:=by rfl) (hv:vs[ix]? =some v:=by rfl) (hw:aL ops n e gd=true:=by rfl):W (q+1) (gr fn kd n e ds (.inRegion ops (i::aa)::k) cs):=
 M.op ho hw (by unfold execOp;simp only[hx,Instr.extract,hv];rfl) h
theorem Mt.cv(M:Mt P ao Z W){k1 k2:IntKind}{s1 s2:aO}{p r:Int}[c1:Ik P s1 k1][c2:Ik P s2 k2](ho:aZ ops i=some ⟨some t,.convert s1 s2 x,ty,pos,af,gd⟩)(h:W q (gr fn kd n (put e t (.int k2 r)) ds (.inRegion ops aa::k) cs))
  (hx:ev n e x=.int k1 p:=by rfl) (hr:k2.wrap p=r:=by rfl) (hw:aL ops n e gd=true:=by rfl):W (q+1) (gr fn kd n e ds (.inRegion ops (i::aa)::k) cs):=
 M.op ho hw (by unfold execOp;simp only[hx];refine bC (a:=.int k2 r) ?_ rfl;unfold convert;refine bC (fL c1.h) (bC (fL c2.h) ?_);simp only[Conv.intToInt,hr];rfl) h
theorem Mt.bo(M:Mt P ao Z W){op:BinOp}{tt t2:aO}{k1 k2:IntKind}{p r:Int}(ho:aZ ops i=some ⟨some t,.binOp op tt x y t2,ty,pos,af,gd⟩)(h:W q (gr fn kd n (put e t v) ds (.inRegion ops aa::k) cs))
  (hx:ev n e x=.int k1 p:=by rfl) (hy:ev n e y=.int k2 r:=by rfl) (hv:fW P (binOp op tt (.int k1 p) (.int k2 r))=some v:=by rfl) (hw:aL ops n e gd=true:=by rfl):W (q+1) (gr fn kd n e ds (.inRegion ops (i::aa)::k) cs):=
 M.op ho hw (by unfold execOp;simp only[hx,hy];refine bC (a:=v) ?_ rfl;refine bC (a:=()) ?_ hv;unfold eqGuard;cases op<;>rfl) h
theorem Mt.pk(M:Mt P ao Z W){b:Bool}(ho:aZ ops i=some ⟨some t,.pick x y z,ty,pos,af,gd⟩)(h:W q (gr fn kd n (put e t v) ds (.inRegion ops aa::k) cs))(hx:ev n e x=.bool b:=by rfl)(hy:(if b then ev n e y else ev n e z)=v:=by conv=>{lhs;whnf})(hw:aL ops n e gd=true:=by rfl):W (q+1) (gr fn kd n e ds (.inRegion ops (i::aa)::k) cs):=
 M.op ho hw (by unfold execOp;simp only[hx];cases b<;>(subst hy;rfl)) h
theorem Mt.SP(M:Mt P ao Z W){s1 s2 t1:aO}{z:Nat}{ad:Addr}[c1:Pt P s1 t1][c2:Up P s2][c3:Cz P t1 z](hZ:∀ w,Z w->∃ v,w.cell? ad=some v)(ho:aZ ops i=some ⟨some t,.convert s1 s2 x,ty,pos,af,gd⟩)(h:W q (gr fn kd n (put e t (.pointer (some ad))) ds (.inRegion ops aa::k) cs))
  (hz:z≠0:=by decide) (hx:ev n e x=.pointer (some ad):=by rfl) (hw:aL ops n e gd=true:=by rfl):W (q+1) (gr fn kd n e ds (.inRegion ops (i::aa)::k) cs):=by
 refine M.s _ _ _ rfl (λw np=>?_) h;obtain⟨v,hv⟩:=hZ w np;obtain⟨inf,hi,OY⟩:=c3.h;have hsz:(P.info? t1).map (λi=>decide (i.size=0))=some false:=by rw[hi];simp[OY,hz]
 rw[stepG_op ho hw];have key:(execOp (ev n e) ⟨some t,.convert s1 s2 x,ty,pos,af,gd⟩).runT P w #[]=(.ok (.value (.pointer (some ad))) w,#[]):=by have k2:(convert s1 s2 (.pointer (some ad))).runT P w #[]=(.ok (.pointer (some ad)) w,#[]):=Prod.ext ((Sem.runT_fst P _ w #[]).trans (run_convert_to_unsafe c1.h c2.h hsz hv)) (events_convert_to_unsafe c1.h c2.h hsz hv #[]);unfold execOp;simp only[hx];show((convert s1 s2 (.pointer (some ad))).bind λv=>Sem.pure (Next.value v)).runT P w #[]=_;rw[Sem.runT_bind',k2];rfl
 have AG:=kd.early;simp only[stepG.apply,key,eN];rw[cf (by rw[dv];exact ho)];simp[bq,GStep.after,gr,AG,dm,seen_none]
theorem kX{f:bJ}{fu:Func}{c:Code}{nf:Nat}[b:Body P f fu c nf](args:Array Value):fW P (callFunc f args)=some (.enter f args):=by unfold callFunc;refine bC (a:=P) rfl ?_;rw[b.func];simp only[b.name,b.body,Option.isNone_some,gn,eR];rfl
theorem Mt.SQ(M:Mt P ao Z W){f:bJ}{fu:Func}{c:Code}{nf:Nat}[b:Body P f fu c nf]{fo:cZ}{args:Array cZ}{gy:Array aO}{vl:List Value}(ho:aZ ops i=some ⟨dst,.call ⟨.value fo,args,gy⟩,ty,pos,af,gd⟩)
  (h:W q (gr f .qL nf (yT vl.toArray) [] [.code c] (bq fn kd n e ds (.inRegion ops (i::aa)::k)::cs)))
  (hw:aL ops n e gd=true:=by rfl) (hf:ev n e fo=.func (.func f) #[] #[]:=by rfl) (hv:args.toList.map (ev n e)=vl:=by rfl) (hn:Nat.ble vl.length nf=true:=by rfl):W (q+1) (gr fn kd n e ds (.inRegion ops (i::aa)::k) cs):=by
 have qK:args.map (ev n e)=vl.toArray:=by rw[<- hv,<- qZ,tC]
 refine M.s _ _ _ rfl (λw _=>BK (f:=f) (args:=vl.toArray) ho hw (by
  unfold execOp;simp only;refine bC (a:=⟨.fn (.func f) #[],vl.toArray⟩) ?_ ?_
  ·unfold resolve;simp only[hf,Deferred.ofValue,qK,AL];rfl
  ·show fW P (callFunc f (vl.toArray++#[]))=_;rw[xC];exact kX _) w) ?_
 have:=m8 (P:=P) (kd:=.qL) (args:=vl.toArray) (cs:=bq fn kd n e ds (.inRegion ops (i::aa)::k)::cs) b.func b.body (by rw[b.tmps];exact xD (by simpa using hn));rw[this,b.tmps];exact h
theorem Mt.pR(M:Mt P ao Z W){f:bJ}{fo:cZ}{args:Array cZ}{gy:Array aO}{vl:List Value}(ho:aZ ops i=some ⟨dst,.defer ⟨.value fo,args,gy⟩,ty,pos,af,gd⟩)
  (h:W q (gr fn kd n (dm e dst undef) (⟨.fn (.func f) #[],vl.toArray⟩::ds) (.inRegion ops aa::k) cs))
  (hw:aL ops n e gd=true:=by rfl) (hf:ev n e fo=.func (.func f) #[] #[]:=by rfl) (hv:args.toList.map (ev n e)=vl:=by rfl):W (q+1) (gr fn kd n e ds (.inRegion ops (i::aa)::k) cs):=by
 have qK:args.map (ev n e)=vl.toArray:=by rw[<- hv,<- qZ,tC]
 refine M.s _ _ _ rfl (λw _=>LF (x:=⟨.fn (.func f) #[],vl.toArray⟩) ho hw (by unfold execOp;simp only;refine bC (a:=⟨.fn (.func f) #[],vl.toArray⟩) ?_ rfl;unfold resolve;simp only[hf,Deferred.ofValue,qK,AL];rfl) w) h
theorem Mt.ret(M:Mt P ao Z W)(h:W q (re fn kd n e ds (.code .ret::k) cs)):W (q+1) (gr fn kd n e ds (.code .ret::k) cs):=
 M.s _ _ _ rfl (λw _=>by simp[gr,re,qM,bq,stepG,stepG.exec]) h
theorem Mt.fin(M:Mt P ao Z W)(h:W q (re fn kd n e ds [] cs)):W (q+1) (gr fn kd n e ds [] cs):=
 M.s _ _ _ rfl (λw _=>by simp[gr,re,qM,bq,stepG,stepG.exec]) h
theorem rB{fu:Func}{v:Value}(h:tK fu n e=some v):fW P (results fu (tm n e))=some v:=by
 have key:results fu (tm n e)=(pure v:Sem Value):=by
  unfold tK at h;have hl:fu.results=fu.results.toList.toArray:=by simp
  generalize fu.results.toList=l at h hl;split at h<;>first|(cases h;done)|skip
  all_goals(simp only[wP]at h;subst h)
  all_goals simp[results,hl,<- uP, -Array.getD_eq_getD_getElem?]
 rw[key];rfl
theorem Mt.home(M:Mt P ao Z W){fu:Func}{cc:Code}{n':Nat}[b:Body P fn fu cc n']{kR:List Item}{c:Frame}{v:Value}(h:W q (fy c cs v))(hv:tK fu n e=some v:=by rfl):W (q+1) (re fn .qL n e [] kR (c::cs)):=
 M.s _ _ _ rfl (λw _=>by have r:=lW (rB (P:=P) hv) w #[];simp only[re,qM,bq,stepG,unwind,b.func,r,doReturn,Kd.k];simp[GStep.after,fy,seen_none]) h
theorem Mt.Kc(M:Mt P ao Z W){fu:Func}{cc:Code}{n':Nat}[b:Body P fn fu cc n']{kR:List Item}{c:Frame}{v:Value}(h:W q (w5 c cs))(hv:tK fu n e=some v:=by rfl)(hc:c.mode=.returning\/c.mode=.panicking [goexitEntry]:=by first|exact .inl rfl|exact .inr rfl):W (q+1) (re fn .pR n e [] kR (c::cs)):=
 M.s _ _ _ rfl (λw _=>by have r:=lW (rB (P:=P) hv) w #[];simp only[re,qM,bq,stepG,unwind,b.func,r,doReturn,Kd.k];rcases hc with hc|hc<;>simp[GStep.after,w5,seen_none,hc,goexitEntry]) h
theorem Mt.dcall(M:Mt P ao Z W){f:bJ}{fu:Func}{c:Code}{nf:Nat}[b:Body P f fu c nf]{cap args:Array Value}{todo:List Item}(h:W q (gr f .pR nf (yT (args++cap)) [] [.code c] (qM fn kd n e ds todo::cs)))(hn:Nat.ble (args++cap).size nf=true:=by rfl):W (q+1) (re fn kd n e (⟨.fn (.func f) cap,args⟩::ds) todo cs):=by have e1:=m8 (P:=P) (kd:=.pR) (args:=args++cap) (cs:=qM fn kd n e ds todo::cs) b.func b.body (by rw[b.tmps];exact xD hn);refine M.s _ _ (iS P f (args++cap) .pR (qM fn kd n e ds todo::cs)) rfl (λw _=>?_) (by rw[e1,b.tmps];exact h);have r:=lW (kX (P:=P) (f:=f) (args++cap)) w #[];simp only[re,qM,bq,stepG,unwind,callDeferred,invoke,r];simp[GStep.after,iS,Kd.k,seen_none]
def base(P:bL)(ds:List eo):Frame:={(default:Frame)with fn:=P.funcs.size,defers:=ds,mode:=.panicking [goexitEntry]}
theorem Mt.child(M:Mt P ao Z W){f:bJ}{fu:Func}{c:Code}{nf:Nat}[b:Body P f fu c nf]{cap args:Array Value}(h:W q (gr f .pR nf (yT (args++cap)) [] [.code c] [base P []]))(hn:Nat.ble (args++cap).size nf=true:=by rfl):W (q+1) (child P ⟨.fn (.func f) cap,args⟩):=by have e1:=m8 (P:=P) (kd:=.pR) (args:=args++cap) (cs:=[base P []]) b.func b.body (by rw[b.tmps];exact xD hn);refine M.s _ _ (iS P f (args++cap) .pR [base P []]) rfl (λw _=>?_) (by rw[e1,b.tmps];exact h);have r:=lW (kX (P:=P) (f:=f) (args++cap)) w #[];simp only[Sl.child,stepG,unwind,callDeferred,invoke,r];simp[GStep.after,iS,Kd.k,seen_none,base]
theorem LG{d:Nat}(hd:d=0):QuitsD P 1 d (w5 (base P []) []):=by refine .inr ⟨rfl,{frame:=base P [],callers:=[],status:=.finished,dying:=none},#[],by simp,λw=>?_,⟨rfl,by rw[deafBehind_nil];exact hd⟩⟩;have h0:(default:Frame).todo=[]:=rfl;simp[w5,base,stepG,unwind,Frame.catches,h0,goexitEntry]
end
theorem QuitsD.E4{P:bL}:∀ {n m d:Nat} {g:aM},QuitsD P n d g->n<=m->QuitsD P m d g
 |0,0,_,_,h,_=>h
 |0,m+1,_,_,h,_=>.inl h
 |n+1,0,_,_,_,hm=>absurd hm ai
 |n+1,m+1,_,_,h,hm=>h.imp id λ⟨h1,g',es,h2,h3,h4⟩=>⟨h1,g',es,h2,h3,QuitsD.E4 h4 ai⟩
theorem Cl.mono{P:bL}{G:qT}:∀ {n m:Nat} {x:St} {g:aM},Cl P G n x g->n<=m->Cl P G m x g
 |0,_,_,_,h,_=>h.elim
 |n+1,0,_,_,_,hm=>absurd hm ai
 |n+1,m+1,x,g,h,hm=>by
  obtain⟨hs,h⟩:=h;refine⟨hs,?_⟩;rcases h with⟨g',h1,h2⟩|h
  ·exact .inl ⟨g',h1,Cl.mono h2 ai⟩
  ·refine .inr ?_;cases x with
   |rel=>obtain⟨g',h1,h2⟩:=h;exact⟨g',h1,Cl.mono h2 ai⟩
   |yb=>obtain⟨g',h1,h2⟩:=h;exact⟨g',h1,Cl.mono h2 ai⟩
   |add=>obtain⟨g',h1,h2,h3⟩:=h;exact⟨g',h1,Cl.mono h2 ai,λv wt a b c=>QuitsD.E4 (h3 v wt a b c) ai⟩
   |ld=>obtain⟨g',h1,h2⟩:=h;exact⟨g',h1,Cl.mono h2 ai⟩
   |Nt=>obtain⟨g',h1,h2⟩:=h;exact⟨g',h1,Cl.mono h2 ai⟩
   |Hk=>obtain⟨h0,g',h1,h2⟩:=h;exact⟨h0,g',h1,QuitsD.E4 h2 ai⟩
theorem Mt.quits{P:bL}{d:Nat}:Mt P false (λ_=>True) λq g=>QuitsD P q d g:=⟨λq g g' hs h k=>.inr ⟨hs,g',#[],by simp,λw=>h w trivial,by rw[deafBehind_nil];exact k⟩,λ_ _ _ h hm=>QuitsD.E4 h hm⟩
theorem Mt.cl{P:bL}{G:qT}{x:St}:Mt P false (Gs G) λq g=>Cl P G q x g:=⟨λq g g' hs h k=>⟨hs,.inl ⟨g',h,k⟩⟩,λ_ _ _ h hm=>Cl.mono h hm⟩
theorem Mt.mw{P:bL}{G:qT}{Fin:aM->Prop}{x:MS}:Mt P true (Gs G) λ_ g=>MW P G Fin x g:=⟨λ_ g g' hs h q=>.mute hs h q,λ_ _ _ h _=>h⟩
theorem Mt.way{P:bL}{ao:Bool}{s:dH}:Mt P ao s.K λq g=>Way P ao s q g:=⟨λq g g' hs h k=>.inr ⟨hs,λw hw=>⟨g',#[],w.drawn,h w hw,by simp,k⟩⟩,λ_ _ _ h hm=>Way.mono h hm⟩
def bs(fn:bJ)(kd:Kd):Frame:={(default:Frame)with fn:=fn,kind:=kd.k}
section
variable{P:bL}{ao:Bool}{fn:bJ}{kd:Kd}{n:Nat}{e:Nat->Value}{ds:List eo}{k:List Item}{cs:List Frame}
variable{ops:Array Oper}{i:Nat}{aa:List Nat}{dst:Option Nat}{t:Nat}{ty:aO}{pos:String}{af:Array Edge}{gd:Option (Nat×Bool)}{x y z:cZ}
variable{f:bJ}{fu:Func}{args:Array cZ}{gy:Array aO}
theorem jY(todo:List Item):gr fn kd n e ds todo cs=G ((bs fn kd).at ⟨tm n e,ds⟩ todo) cs:=rfl
theorem lX(v:Value):(Act.put ⟨tm n e,ds⟩ dst v)=⟨tm n (dm e dst v),ds⟩:=by
 unfold Act.put dm;cases dst with
 |none=>rfl
 |some d=>simp only[OU]
theorem iG(x:cZ):Act.eval ⟨tm n e,ds⟩ x=ev n e x:=by
 cases x with
 |tmp t=>simp only[Act.eval,ev,uP]
 |_=>rfl
theorem jZ:(bs fn kd).kind≠ .early:=by cases kd<;>(intro h;cases h)
theorem zb(m:Mark)[b:eM P f fu (λ_=>do mark m;pure Extern.Race.none_)](ho:aZ ops i=some ⟨dst,.call ⟨.value (.func f),args,gy⟩,ty,pos,af,gd⟩)(hw:aL ops n e gd=true)(hm:∀ g,m≠ .extern g)(w:World):
  stepG P ao (gr fn kd n e ds (.inRegion ops (i::aa)::k) cs) w=.go (gr fn kd n (dm e dst (.tuple #[])) ds (.inRegion ops aa::k) cs) w #[AE m]:=by
 rw[jY,jY,<- lX];exact stepG_mark0 m hm (o:=⟨dst,.call ⟨.value (.func f),args,gy⟩,ty,pos,af,gd⟩) (by rw[dv];exact ho) (by rw[eH];exact hw) jZ rfl b.func b.name b.body b.nx b.fd
theorem zd(mk:Addr->Mark)[b:eM P f fu (Extern.Race.marked mk)]{ad:Addr}(ho:aZ ops i=some ⟨dst,.call ⟨.value (.func f),args,gy⟩,ty,pos,af,gd⟩)(hw:aL ops n e gd=true)(hm:∀ ad g,mk ad≠ .extern g)(hx:(args.toList.map (ev n e))[0]? =some (.pointer (some ad)))(w:World):
  stepG P ao (gr fn kd n e ds (.inRegion ops (i::aa)::k) cs) w=.go (gr fn kd n (dm e dst (.tuple #[])) ds (.inRegion ops aa::k) cs) w #[AE (mk ad)]:=by
 rw[jY,jY,<- lX];refine stepG_markAt mk hm (o:=⟨dst,.call ⟨.value (.func f),args,gy⟩,ty,pos,af,gd⟩) (by rw[dv];exact ho) (by rw[eH];exact hw) jZ rfl b.func b.name b.body b.nx b.fd ?_;have:(args.map (Act.eval ⟨tm n e,ds⟩))=(args.toList.map (ev n e)).toArray:=by rw[show Act.eval ⟨tm n e,ds⟩=ev n e from funext iG,<- qZ,tC]
 rw[this];simpa using hx
theorem ze{kk:IntKind}[b:eM P f fu (Extern.Atomic.loadT (.int kk))]{ad:Addr}{v:Int}(ho:aZ ops i=some ⟨dst,.call ⟨.value (.func f),#[x],gy⟩,ty,pos,af,gd⟩)(hw:aL ops n e gd=true)(hx:ev n e x=.pointer (some ad)){w:World}(hc:w.cell? ad=some (.int kk v)):
  stepG P ao (gr fn kd n e ds (.inRegion ops (i::aa)::k) cs) w=.go (gr fn kd n (dm e dst (.int kk v)) ds (.inRegion ops aa::k) cs) w #[ar ad]:=by
 rw[jY,jY,<- lX];exact stepG_load_atomic (o:=⟨dst,.call ⟨.value (.func f),#[x],gy⟩,ty,pos,af,gd⟩) (by rw[dv];exact ho) (by rw[eH];exact hw) jZ rfl b.func b.name b.body b.nx kk b.fd (by rw[iG];exact hx) hc
theorem Ph{kk:IntKind}[b:eM P f fu Extern.Atomic.storeT]{ad:Addr}{v:Int}{u:Value}(ho:aZ ops i=some ⟨dst,.call ⟨.value (.func f),#[x,y],gy⟩,ty,pos,af,gd⟩)(hw:aL ops n e gd=true)(hx:ev n e x=.pointer (some ad))(hy:ev n e y=.int kk v){w:World}(hc:w.cell? ad=some u)(hz:w.frozen? ad=false):
  stepG P ao (gr fn kd n e ds (.inRegion ops (i::aa)::k) cs) w=.go (gr fn kd n (dm e dst (.tuple #[])) ds (.inRegion ops aa::k) cs) (w.setCell ad (.int kk v)) #[aw ad]:=by
 rw[jY,jY,<- lX];exact stepG_store_atomic (o:=⟨dst,.call ⟨.value (.func f),#[x,y],gy⟩,ty,pos,af,gd⟩) (by rw[dv];exact ho) (by rw[eH];exact hw) jZ rfl b.func b.name b.body b.nx b.fd (by rw[iG];exact hx) (by rw[iG];exact hy) hc hz
theorem Pj{kk:IntKind}[b:eM P f fu (Extern.Atomic.update (Op.intArith .add) kk true)]{ad:Addr}{v d:Int}(ho:aZ ops i=some ⟨dst,.call ⟨.value (.func f),#[x,y],gy⟩,ty,pos,af,gd⟩)(hw:aL ops n e gd=true)(hx:ev n e x=.pointer (some ad))(hy:ev n e y=.int kk d){w:World}(hc:w.cell? ad=some (.int kk v))(hz:w.frozen? ad=false):
  stepG P ao (gr fn kd n e ds (.inRegion ops (i::aa)::k) cs) w=.go (gr fn kd n (dm e dst (.int kk (kk.wrap (v+d)))) ds (.inRegion ops aa::k) cs) (w.setCell ad (.int kk (kk.wrap (v+d)))) #[ar ad,aw ad]:=by
 rw[jY,jY,<- lX];exact stepG_add_atomic (o:=⟨dst,.call ⟨.value (.func f),#[x,y],gy⟩,ty,pos,af,gd⟩) (by rw[dv];exact ho) (by rw[eH];exact hw) jZ rfl b.func b.name b.body b.nx kk b.fd (by rw[iG];exact hx) (by rw[iG];exact hy) hc hz
theorem Pk{kk:IntKind}[b:eM P f fu (Extern.Atomic.casT (.int kk))]{ad:Addr}{v d:Int}(ho:aZ ops i=some ⟨dst,.call ⟨.value (.func f),#[x,y,z],gy⟩,ty,pos,af,gd⟩)(hw:aL ops n e gd=true)(hx:ev n e x=.pointer (some ad))(hy:ev n e y=.int kk v)(OY:ev n e z=.int kk d){w:World}(hc:w.cell? ad=some (.int kk v))(hz:w.frozen? ad=false):
  stepG P ao (gr fn kd n e ds (.inRegion ops (i::aa)::k) cs) w=.go (gr fn kd n (dm e dst (.bool true)) ds (.inRegion ops aa::k) cs) (w.setCell ad (.int kk d)) #[ar ad,aw ad]:=by
 rw[jY,jY,<- lX];exact stepG_cas_hit (o:=⟨dst,.call ⟨.value (.func f),#[x,y,z],gy⟩,ty,pos,af,gd⟩) (by rw[dv];exact ho) (by rw[eH];exact hw) jZ rfl b.func b.name b.body b.nx kk b.fd (by rw[iG];exact hx) (by rw[iG];exact hy) (by rw[iG];exact OY) hc hz
theorem Pl{kk:IntKind}[b:eM P f fu (Extern.Atomic.casT (.int kk))]{ad:Addr}{v old d:Int}(ho:aZ ops i=some ⟨dst,.call ⟨.value (.func f),#[x,y,z],gy⟩,ty,pos,af,gd⟩)(hw:aL ops n e gd=true)(hx:ev n e x=.pointer (some ad))(hy:ev n e y=.int kk old)(OY:ev n e z=.int kk d){w:World}(hc:w.cell? ad=some (.int kk v))(hz:w.frozen? ad=false)(eV:¬ v=old):
  stepG P ao (gr fn kd n e ds (.inRegion ops (i::aa)::k) cs) w=.go (gr fn kd n (dm e dst (.bool false)) ds (.inRegion ops aa::k) cs) w #[ar ad]:=by
 rw[jY,jY,<- lX];exact stepG_cas_miss (o:=⟨dst,.call ⟨.value (.func f),#[x,y,z],gy⟩,ty,pos,af,gd⟩) (by rw[dv];exact ho) (by rw[eH];exact hw) jZ rfl b.func b.name b.body b.nx kk b.fd (by rw[iG];exact hx) (by rw[iG];exact hy) (by rw[iG];exact OY) hc hz eV
theorem zf:args.map (Act.eval ⟨tm n e,ds⟩)=(args.toList.map (ev n e)).toArray:=by rw[show Act.eval ⟨tm n e,ds⟩=ev n e from funext iG,<- qZ,tC]
theorem Pm[b:eM P f fu Extern.Sync.semacquire]{ad:Addr}{v:Int}(ho:aZ ops i=some ⟨dst,.call ⟨.value (.func f),args,gy⟩,ty,pos,af,gd⟩)(hw:aL ops n e gd=true)(hx:(args.toList.map (ev n e))[0]? =some (.pointer (some ad))){w:World}(hc:w.cell? ad=some (.int .u32 v))(h0:v≠0)(hz:w.frozen? ad=false):
  stepG P ao (gr fn kd n e ds (.inRegion ops (i::aa)::k) cs) w=.go (gr fn kd n (dm e dst (.tuple #[])) ds (.inRegion ops aa::k) cs) (w.setCell ad (.int .u32 (v-1))) (semEvents ad):=by
 rw[jY,jY,<- lX];exact stepG_semacquire (o:=⟨dst,.call ⟨.value (.func f),args,gy⟩,ty,pos,af,gd⟩) (by rw[dv];exact ho) (by rw[eH];exact hw) jZ rfl b.func b.name b.body b.nx b.fd (by rw[zf];simpa using hx) hc h0 hz
theorem Pn[b:eM P f fu Extern.Sync.semacquire]{ad:Addr}(ho:aZ ops i=some ⟨dst,.call ⟨.value (.func f),args,gy⟩,ty,pos,af,gd⟩)(hw:aL ops n e gd=true)(hx:(args.toList.map (ev n e))[0]? =some (.pointer (some ad))){w:World}(hc:w.cell? ad=some (.int .u32 0)):
  stepG P ao (gr fn kd n e ds (.inRegion ops (i::aa)::k) cs) w=.go {gr fn kd n e ds (.inRegion ops (i::aa)::k) cs with status:=.blocked} w #[]:=by
 rw[jY];exact stepG_semacquire_wait (o:=⟨dst,.call ⟨.value (.func f),args,gy⟩,ty,pos,af,gd⟩) (by rw[dv];exact ho) (by rw[eH];exact hw) rfl b.func b.name b.body b.nx b.fd (by rw[zf];simpa using hx) hc
theorem Po[b:eM P f fu Extern.Sync.semrelease]{ad:Addr}{v:Int}(ho:aZ ops i=some ⟨dst,.call ⟨.value (.func f),args,gy⟩,ty,pos,af,gd⟩)(hw:aL ops n e gd=true)(hx:(args.toList.map (ev n e))[0]? =some (.pointer (some ad))){w:World}(hc:w.cell? ad=some (.int .u32 v))(hz:w.frozen? ad=false):
  stepG P ao (gr fn kd n e ds (.inRegion ops (i::aa)::k) cs) w=.go (gr fn kd n (dm e dst (.tuple #[])) ds (.inRegion ops aa::k) cs) (w.setCell ad (.int .u32 (IntKind.u32.wrap (v+1)))) (semEvents ad):=by
 rw[jY,jY,<- lX];exact stepG_semrelease (o:=⟨dst,.call ⟨.value (.func f),args,gy⟩,ty,pos,af,gd⟩) (by rw[dv];exact ho) (by rw[eH];exact hw) jZ rfl b.func b.name b.body b.nx b.fd (by rw[zf];simpa using hx) hc hz
theorem E5{α β:Type}{s:Sem α}{g:α->Sem β}{a:α}(h:fW P s=some a)(w:World)(es:Array Event):(s >>= g).runT P w es=(g a).runT P w es:=by
 show(s.bind g).runT P w es=_
 induction s generalizing es with
 |pure b=>obtain rfl:=bR h;rfl
 |program k ih=>exact ih P h es
 |_=>cases h
theorem E6{fn:bJ}{es:Array Event}{e:Event}(h:e∈seen P fn es):e∈es:=by rw[seen_def]at h;have:=seen_fold_sub _ es.toList _ #[] e h;simpa using this
theorem E7{tt:aO}{v:Value}{ad:Addr}[a:Ag P tt false](ho:aZ ops i=some ⟨some t,.load tt x,ty,pos,af,gd⟩)(hw:aL ops n e gd=true)(hx:ev n e x=.pointer (some ad)){w:World}(hc:w.cell? ad=some v):
  stepG P ao (gr fn kd n e ds (.inRegion ops (i::aa)::k) cs) w=.go (gr fn kd n (put e t v) ds (.inRegion ops aa::k) cs) w (seen P fn #[⟨.cell ad,false,false⟩]):=by
 rw[stepG_op ho hw];obtain⟨u,hu,hb⟩:=a.h;have aeH:fW P (isAgg tt)=some false:=by unfold isAgg;refine bC (fL hu) ?_;cases u<;>first|rfl|(cases hb)
 have key:(execOp (ev n e) ⟨some t,.load tt x,ty,pos,af,gd⟩).runT P w #[]=(.ok (.value v) w,#[⟨.cell ad,false,false⟩]):=by
  unfold execOp;simp only[hx,Instr.loadAt,Instr.sureAddr];have h1:(loadVar tt ad).runT P w #[]=(.ok v w,#[⟨.cell ad,false,false⟩]):=by unfold loadVar;rw[E5 aeH];simp only[gn,eR,load,Sem.runT,hc];rfl
  show((loadVar tt ad).bind λz=>Sem.pure (Next.value z)).runT P w #[]=_;rw[Sem.runT_bind',h1];rfl
 have AG:=kd.early;simp only[stepG.apply,key,eN];rw[cf (by rw[dv];exact ho)];simp[bq,GStep.after,gr,AG,dm]
end
section
variable{P:bL}{ao:Bool}{s:dH}{fn:bJ}{kd:Kd}{n:Nat}{e:Nat->Value}{ds:List eo}{k:List Item}{cs:List Frame}
variable{ops:Array Oper}{i:Nat}{aa:List Nat}{dst:Option Nat}{t:Nat}{ty:aO}{pos:String}{af:Array Edge}{gd:Option (Nat×Bool)}{x y z:cZ}
abbrev aaH(P:bL)(ao:Bool)(s:dH)(g:aM):Prop:=∃ n,Way P ao s n g
theorem Pp{q:Nat}{tt:aO}{v:Value}{ad:Addr}[a:Ag P tt false](ho:aZ ops i=some ⟨some t,.load tt x,ty,pos,af,gd⟩)(h:Way P ao s q (gr fn kd n (put e t v) ds (.inRegion ops aa::k) cs))(hm:(ad,v)∈s.mem)(hx:ev n e x=.pointer (some ad):=by rfl)(hw:aL ops n e gd=true:=by rfl):Way P ao s (q+1) (gr fn kd n e ds (.inRegion ops (i::aa)::k) cs):=by refine .inr ⟨rfl,λw hK=>⟨_,_,w.drawn,E7 ho hw hx (hK _ hm),λe he=>?_,h⟩⟩;have:=E6 he;simp only[pW,fR,m6,gm]at this;exact⟨ad,this,(ad,v),hm,rfl⟩
theorem WM{m:Nat}{c:Code}(q:∀ t,Way P ao s m (gr fn kd n e ds (.inRegion (cO c) (Region.schedule (P.follows .mixedOrders) (cO c) t)::k) cs))(hc:ck c=.draw:=by rfl):Way P ao s (m+1) (gr fn kd n e ds (.code c::k) cs):=by have:=fN hc;simp only at this;rw[this];refine .inr ⟨rfl,λw hK=>⟨_,#[],w.drawn+1,?_,by simp,q (w.tape w.drawn (.order fn (cI c)))⟩⟩;simp[gr,bq,stepG,stepG.exec,choose,Sem.run,Question.forced,Question.cut];rfl
theorem WN{o:Oper}(ho:aZ ops i=some o)(hr:s.uL (gr fn kd n e ds (.inRegion ops (i::aa)::k) cs))(hy:fW P (execOp (ev n e) o)=some (.comm s.cases true s.shape))(hw:aL ops n e o.guard=true):Way P ao s 0 (gr fn kd n e ds (.inRegion ops (i::aa)::k) cs):=
 ⟨_,hr,rfl,rfl,rfl,rfl,#[],by simp,λw _=>stepG_comm ho hw hy w⟩
end
end
section
open Go.Conc
theorem aI.less{P:bL}{ao:Bool}{B B':kJ}(hb:BLe B B'){f:bJ}{args:Array Value}{A:List HP}{Q:Value->List HP->Prop}(h:aI P ao B' f args A Q):aI P ao B f args A Q:=
 λR C kd d F c cs aT hr=>h R (C.less hb) kd d F c cs aT hr
theorem sj{fn:bJ}{kd:Kd}{n:Nat}{e:Nat->Value}{ds:List eo}{k:List Item}{cs:List Frame}{ops:Array Oper}{i:Nat}{aa:List Nat}{o:Oper}(ho:aZ ops i=some o)(v:Value):
  Conc.served (gr fn kd n e ds (.inRegion ops (i::aa)::k) cs) v=gr fn kd n (dm e o.dst v) ds (.inRegion ops aa::k) cs:=by
 unfold Conc.served gr;simp only;rw[cf (by rw[dv];exact ho)]
structure zg(rd:Nat->aO->Nat->Bool)(s:dH)(H:Array Obj):Prop where
 chans:∀ c,s.has c->∃ k,H[c]? =some (.chan 0 #[] false k k false)
 mem:∀ p∈s.mem,p.1.spot=none/\∃ c ty,H[p.1.block]? =some (.cells c ty (0,0))/\c[p.1.off]? =some p.2/\rd p.1.block ty p.1.off=true
variable{P:bL}{Post:Value->World->Prop}{X:tO}{σ:Gh}{h:Nat}{os:Os}{out:Array (Nat×ByteArray)}{d:Nat}{As aP:List HP}
variable{fn:bJ}{kd:Kd}{n:Nat}{e:Nat->Value}{ds:List eo}{k:List Item}{cs:List Frame}
variable{ops:Array Oper}{i:Nat}{aa:List Nat}{dst:Option Nat}{t:Nat}{ty:aO}{pos:String}{af:Array Edge}{gd:Option (Nat×Bool)}{x y:cZ}
theorem Pq{rd:Nat->aO->Nat->Bool}{s:dH}{w:World}(hw:s.Wf)(hs:zg rd s w.heap)(qJ:∀ l,s.rd l->¬ σ.sh l):oF σ s w:=
 ⟨hw,hs.chans,λp hp=>by obtain⟨h1,c,ty,h2,h3,_⟩:=hs.mem p hp;exact C5 h2 h1 h3,qJ⟩
theorem Ke{rd:Nat->aO->Nat->Bool}{s:dH}{H:Array Obj}(ha:∀ p∈s.mem,∀ c ty,H[p.1.block]? =some (.cells c ty (0,0))->X.sh ty p.1.off=false)(hs:zg rd s H)(go:GO X σ H):∀ l,s.rd l->¬ σ.sh l:=by rintro l ⟨p,hp,rfl⟩ hl;obtain⟨a,ea,c,ty,h1,h2,_⟩:=go.q7 _ hl;obtain rfl:=Loc.cell.inj ea;rw[ha p hp c ty h1]at h2;cases h2
theorem aE.go{x:eo}{o:Oper}(s:dH)(ho:aZ ops i=some o)(hw:aL ops n e o.guard=true)(hy:fW P (execOp (ev n e) o)=some (.spawn x))(hx:∃ f cap,x.target=.fn f cap)(We:s.Wf)
  (hs:∀ H,Sat As (hp H)->zg (X.rd 1) s H) (ha:∀ H,Sat As (hp H)->∀ p∈s.mem,∀ c ty,H[p.1.block]? =some (.cells c ty (0,0))->X.sh ty p.1.off=false) (nq:aaH P false s (child P x)) (hn:σ.n≠0) (hnh:σ.n≠h)
  (k':At (aE P Post X (σ.pa s) h os out) 0 As (gr fn kd n (dm e o.dst undef) ds (.inRegion ops aa::k) cs)):
  At (aE P Post X σ h os out) 0 As (gr fn kd n e ds (.inRegion ops (i::aa)::k) cs):=λH st hole go w HI mq hu=>by
 subst HI;obtain⟨m,nq⟩:=nq;have hS:=hs _ st;refine wZ.hire s m #[] rfl (λw₁ q=>E2 ho hw hy hx w₁) (λw₁ q=>⟨e8 _,λ_ _ h _=>h,λ_ _ _ _ _ h=>h,by simp⟩) rfl (Pq We hS (Ke (ha _ st) hS go)) nq ?_;refine k' _ st ?_ ⟨λj s' hj=>?_,λj s' c hj hc=>?_,λj s' p hj hp=>?_,go.q7,go.bot⟩ w rfl mq hu
 ·show Go.ConcN.upd σ.aQ σ.n (some s) h=none;rw[Go.ConcN.upd_ne _ _ (jl hnh)];exact hole
 ·have hj:Go.ConcN.upd σ.aQ σ.n (some s) j=some s':=hj;show j<σ.n+1;by_cases ej:j=σ.n
  ·omega
  ·rw[Go.ConcN.upd_ne _ _ ej]at hj;have:=go.lt j s' hj;omega
 ·have hj:Go.ConcN.upd σ.aQ σ.n (some s) j=some s':=hj;by_cases ej:j=σ.n
  ·subst ej;rw[Go.ConcN.upd_same]at hj;obtain rfl:=bR hj;obtain⟨kq,hq⟩:=hS.chans c hc;exact(gV.1 hq).1
  ·rw[Go.ConcN.upd_ne _ _ ej]at hj;exact go.cl j s' c hj hc
 ·have hj:Go.ConcN.upd σ.aQ σ.n (some s) j=some s':=hj;by_cases ej:j=σ.n
  ·subst ej;rw[Go.ConcN.upd_same]at hj;obtain rfl:=bR hj;obtain⟨h1,c,ty,h2,_,h4⟩:=hS.mem p hp;exact⟨h1,c,ty,h2,by unfold tO.rd at h4⊢;rw[ax hn];rwa[ax (by decide)]at h4⟩
  ·rw[Go.ConcN.upd_ne _ _ ej]at hj;exact go.still j s' p hj hp
theorem aE.give{o:Oper}(du:h<σ.n)(j c kk kc:Nat)(s sH:dH)(v z z':Value)(ho:aZ ops i=some o)(hw:aL ops n e o.guard=true)(hy:fW P (execOp (ev n e) o)=some (.comm #[scase c v z'] true .send))
  (hj:σ.aQ j=some s) (hk:s.cases[kk]? =some (rcase c z)) (mg:∀ i s',σ.aQ i=some s'->s'.has c->i=j)
  (hc:rj c (.chan 0 #[] false kc kc false) (.chan 0 #[] false (kc+1) (kc+1) false) As aP)
  (We:sH.Wf) (hs:∀ H,Sat As (hp H)->zg (X.rd h) sH H) (nO:∀ H,Sat aP (hp H)->zg (X.rd h) sH H) (ha:∀ H,Sat As (hp H)->∀ p∈sH.mem,∀ c ty,H[p.1.block]? =some (.cells c ty (0,0))->X.sh ty p.1.off=false)
  (nq:aaH P (h==0) sH (gr fn kd n (dm e o.dst undef) ds (.inRegion ops aa::k) cs))
  (k':∀ r,s.uL r->At (aE P Post X (σ.given h j sH) j os out) 0 aP (Conc.served r (commResult s.cases s.shape kk v true))):
  At (aE P Post X σ h os out) 0 As (gr fn kd n e ds (.inRegion ops (i::aa)::k) cs):=λH st hole go w HI mq hu=>by
 subst HI;obtain⟨m,nq⟩:=nq;have hS:=hs _ st;have SR:=hc.has.get st;have Ln:j≠h:=λz=>by rw[z,hole]at hj;cases hj
 have Ka:Sat aP (hp (w.setChan c 0 #[] false (kc+1) (kc+1) false).heap):=by
  have:=hc.set st;have e1:(w.setChan c 0 #[] false (kc+1) (kc+1) false).heap=w.heap.setIfInBounds c (.chan 0 #[] false (kc+1) (kc+1) false):=by
   have Pr:w.heap[c]? =some (.chan 0 #[] false kc kc false):=SR;have du:=(gV.1 Pr).1;apply sJ;intro b;by_cases eb:c=b
   ·subst eb;rw[heap_setChan_self w Pr,j7 du]
   ·rw[heap_setChan_ne w _ _ _ _ _ _ eb,gK eb]
  rw[e1];exact this
 have rC:∀ (b:Nat) (cc:Array Value) (tt:aO),w.heap[b]? =some (.cells cc tt (0,0))->(w.setChan c 0 #[] false (kc+1) (kc+1) false).heap[b]? =some (.cells cc tt (0,0)):=λb cc tt hb=>by
  have Pr:w.heap[c]? =some (.chan 0 #[] false kc kc false):=SR;have eb:c≠b:=λz=>by rw[z,hb]at Pr;cases Pr
  rw[heap_setChan_ne w _ _ _ _ _ _ eb];exact hb
 refine wZ.give j c kk kc m s sH v z z' #[] rfl hj hk mg (λw₁ q=>stepG_comm ho hw hy w₁) (λw₁ q=>⟨e8 _,λ_ _ h _=>h,λ_ _ _ _ _ h=>h,by simp⟩) rfl SR (Pq We hS (Ke (ha _ st) hS go)) ?_ (λr hr=>?_)
 ·rw[sj ho];exact nq
 ·refine k' r hr _ Ka ?_ ⟨λi' s' hi=>?_,λi' s' c' hi kI=>?_,λi' s' p hi hp=>?_,λl hl=>?_,by have:=go.bot;simpa[World.setChan,Gh.given]using this⟩ _ rfl mq hu
  ·show Go.ConcN.upd (Go.ConcN.upd σ.aQ j none) h (some sH) j=none;rw[Go.ConcN.upd_ne _ _ Ln,Go.ConcN.upd_same]
  ·have hi:Go.ConcN.upd (Go.ConcN.upd σ.aQ j none) h (some sH) i'=some s':=hi;by_cases ei:i'=h
   ·subst ei;exact du
   ·rw[Go.ConcN.upd_ne _ _ ei]at hi;by_cases ej:i'=j
    ·subst ej;rw[Go.ConcN.upd_same]at hi;cases hi
    ·rw[Go.ConcN.upd_ne _ _ ej]at hi;exact go.lt i' s' hi
  ·have hi:Go.ConcN.upd (Go.ConcN.upd σ.aQ j none) h (some sH) i'=some s':=hi;have hsz:(w.setChan c 0 #[] false (kc+1) (kc+1) false).heap.size=w.heap.size:=by simp[World.setChan]
   rw[hsz];by_cases ei:i'=h
   ·subst ei;rw[Go.ConcN.upd_same]at hi;obtain rfl:=bR hi;obtain⟨kq,hq⟩:=hS.chans c' kI;exact(gV.1 hq).1
   ·rw[Go.ConcN.upd_ne _ _ ei]at hi;by_cases ej:i'=j
    ·subst ej;rw[Go.ConcN.upd_same]at hi;cases hi
    ·rw[Go.ConcN.upd_ne _ _ ej]at hi;exact go.cl i' s' c' hi kI
  ·have hi:Go.ConcN.upd (Go.ConcN.upd σ.aQ j none) h (some sH) i'=some s':=hi;by_cases ei:i'=h
   ·subst ei;rw[Go.ConcN.upd_same]at hi;obtain rfl:=bR hi;obtain⟨h1,c1,LH,h2,_,h4⟩:=(nO _ Ka).mem p hp;exact⟨h1,c1,LH,h2,h4⟩
   ·rw[Go.ConcN.upd_ne _ _ ei]at hi;by_cases ej:i'=j
    ·subst ej;rw[Go.ConcN.upd_same]at hi;cases hi
    ·rw[Go.ConcN.upd_ne _ _ ej]at hi;obtain⟨h1,c1,LH,h2,h3⟩:=go.still i' s' p hi hp;exact⟨h1,c1,LH,rC _ _ _ h2,h3⟩
  ·obtain⟨a,ea,c1,LH,h1,h2⟩:=go.q7 l hl;exact⟨a,ea,c1,LH,rC _ _ _ h1,h2⟩
theorem zh{H:Array Obj}{x o:Obj}{r:Nat}(h:H[r]? =some o):(H.push x)[r]? =some o:=by obtain⟨h1,h2⟩:=gV.1 h;rw[V0 h1,h2]
def Gh.AX(σ:Gh)(b:Nat)(os:List Nat):Gh:={σ with sh:=λl=>σ.sh l\/∃ o∈os,l=.cell ⟨b,o,none⟩}
theorem aE.bx{tt:aO}{v0:Value}{c:Array Value}(qS:List Nat)(ho:aZ ops i=some ⟨some t,.box tt x,ty,pos,af,gd⟩)(hx:ev n e x=v0)(hc:v0.cells=c)(qJ:∀ o∈qS,X.sh tt o=true)(hw:aL ops n e gd=true)
  (k':∀ b,At (aE P Post X (σ.AX b qS) h os out) d (da b (.cells c tt (0,0))::As) (gr fn kd n (put e t (.pointer (some ⟨b,0,none⟩))) ds (.inRegion ops aa::k) cs)):
  At (aE P Post X σ h os out) d As (gr fn kd n e ds (.inRegion ops (i::aa)::k) cs):=λH st hole go w HI mq hu=>by
 subst HI;refine wZ.q7 (σ.AX w.heap.size qS).sh (λl hl=>.inl hl) (λl hl hn=>?_) ?_
 ·rcases hl with hl|⟨o,_,rfl⟩
  ·exact absurd hl hn
  ·exact⟨_,rfl,e8 _⟩
 ·have qy:∀ w₁,stepG P (h==0) (gr fn kd n e ds (.inRegion ops (i::aa)::k) cs) w₁=.go (gr fn kd n (put e t (.pointer (some ⟨w₁.heap.size,0,none⟩))) ds (.inRegion ops aa::k) cs) {w₁ with heap:=w₁.heap.push (.cells c tt (0,0))} #[]:=λw₁=>by
   rw[stepG_op ho hw];have key:(execOp (ev n e) ⟨some t,.box tt x,ty,pos,af,gd⟩).runT P w₁ #[]=(.ok (.value (.pointer (some ⟨w₁.heap.size,0,none⟩))) {w₁ with heap:=w₁.heap.push (.cells c tt (0,0))},#[]):=by unfold execOp;simp only[hx,Instr.box];subst hc;rfl
   have AG:=kd.early;simp only[stepG.apply,key,eN];rw[cf (by rw[dv];exact ho)];simp[bq,GStep.after,gr,AG,dm,seen_none]
  refine wZ.own (λw₁=>gr fn kd n (put e t (.pointer (some ⟨w₁.heap.size,0,none⟩))) ds (.inRegion ops aa::k) cs) (λw₁=>{w₁ with heap:=w₁.heap.push (.cells c tt (0,0))}) (λ_=>#[]) rfl (λw₁ _=>qy w₁) (λw₁ q=>?_) (λw₁ q=>?_)
  ·have hp:∀ (r:Nat) (o:Obj),w₁.heap[r]? =some o->(w₁.heap.push (.cells c tt (0,0)))[r]? =some o:=λr o hr=>zh hr;refine⟨by simp,λr o hr _=>hp r o hr,λi' s p _ _ rC=>?_,by simp⟩;unfold World.cell? at rC⊢;cases hb:w₁.heap[p.1.block]? with
   |none=>rw[hb]at rC;cases rC
   |some o=>rw[hb]at rC;simp only[hp _ _ hb];exact rC
  ·have e1:w₁.heap=w.heap:=q.hp;show wZ P Post (σ.AX w.heap.size qS) h (deafBehind d #[]) _ _;rw[deafBehind_nil,e1];refine k' w.heap.size _ (st.push _) hole ⟨go.lt,λi' s' c' hi kI=>by have:=go.cl i' s' c' hi kI;simp;omega,λi' s p hi hp=>?_,λl hl=>?_,by have:=go.bot;simp only[Ld];exact Nat.le_succ_of_le this⟩ _ rfl (q.os.trans mq) (q.out.trans hu)
   ·obtain⟨h1,c1,LH,h2,h3⟩:=go.still i' s p hi hp;exact⟨h1,c1,LH,zh h2,h3⟩
   ·rcases hl with hl|⟨o,hm,rfl⟩
    ·obtain⟨a,ea,c1,LH,h1,h2⟩:=go.q7 l hl;exact⟨a,ea,c1,LH,zh h1,h2⟩
    ·exact⟨_,rfl,c,tt,by simp,qJ o hm,go.bot⟩
variable{WO:List HP}
variable{gy:Array aO}
theorem E8{ao:Bool}{c kc:Nat}(ho:aZ ops i=some ⟨dst,.call ⟨.builtin .close,#[x],gy⟩,ty,pos,af,gd⟩)(hw:aL ops n e gd=true)(hx:ev n e x=.chan (some c))(tF:(P.funcs[fn]?).any (·.norace)=false){w:World}(hc:w.heap[c]? =some (.chan 0 #[] false kc kc false)):
  stepG P ao (gr fn kd n e ds (.inRegion ops (i::aa)::k) cs) w=.go (gr fn kd n (dm e dst (.tuple #[])) ds (.inRegion ops aa::k) cs) (w.setChan c 0 #[] true kc kc false) (closeEvents c):=by
 rw[stepG_op ho hw];have key:(execOp (ev n e) ⟨dst,.call ⟨.builtin .close,#[x],gy⟩,ty,pos,af,gd⟩).runT P w #[]=(.ok (.value (.tuple #[])) (w.setChan c 0 #[] true kc kc false),closeEvents c):=by
  have h1:fW P (resolve (ev n e) ⟨.builtin .close,#[x],gy⟩ ty)=some ⟨.builtin .close gy ty (#[x].map λa=>a matches .const _),#[.chan (some c)]⟩:=by unfold resolve;simp only[AM,gW,l6,hx];rfl
  show((resolve (ev n e) ⟨.builtin .close,#[x],gy⟩ ty) >>= λd=>invoke d.target d.args).runT P w #[]=_;rw[E5 h1];show((Builtin.close_ gy ty #[.chan (some c)]).bind λv=>Sem.pure (Next.value v)).runT P w #[]=_;have aeI:(Builtin.close_ gy ty #[.chan (some c)]).runT P w #[]=(.ok (.tuple #[]) (w.setChan c 0 #[] true kc kc false),closeEvents c):=Prod.ext ((Sem.runT_fst P _ w #[]).trans (Go.run_close_open gy ty hc)) (Go.events_close_open (es:=#[]) gy ty hc);rw[Sem.runT_bind',aeI];rfl
 have AG:=kd.early;have u9:seen P fn (closeEvents c)=closeEvents c:=seen_eq tF (λe he f=>by simp only[closeEvents,pW,fR,m6,gm]at he;rcases he with rfl|rfl<;>(intro z;cases z))
 simp only[stepG.apply,key,eN];rw[cf (by rw[dv];exact ho)];simp[bq,GStep.after,gr,AG,u9]
theorem aE.shut(L:List Nat)(G:qT)(c kc:Nat)(Fin:aM->Prop)(ho:aZ ops i=some ⟨dst,.call ⟨.builtin .close,#[x],gy⟩,ty,pos,af,gd⟩)(hw:aL ops n e gd=true)(hx:ev n e x=.chan (some c))(tF:(P.funcs[fn]?).any (·.norace)=false)
  (nd:L.Nodup) (len:L.length<=4) (hL:∀ i∈L,∃ s cw z0 z1,σ.aQ i=some s/\s.cases=#[rcase cw z0,rcase c z1]/\cw≠c/\∃ N,∀ r,s.uL r->Cl P G N .rel (Conc.served r (commResult s.cases s.shape 1 z1 false)))
  (mg:∀ i s,σ.aQ i=some s->s.has c->i∈L) (ok:G.Ok) (e1:G.cs[G.o1]? =some (mH L.length 0)) (e2:G.cs[G.o2]? =some (s6 0)) (yR:σ.sh (.cell G.st)) (G7:σ.sh (.cell G.sm))
  (hc:rj c (.chan 0 #[] false kc kc false) (.chan 0 #[] true kc kc false) As aP) (hb:rj G.blk (.cells G.cs G.ty (0,0)) (.cells (G.row (mH 0 0) (s6 0)) G.ty (0,0)) aP WO)
  (hm:MW P G Fin (.yb L.length) (gr fn kd n (dm e dst (.tuple #[])) ds (.inRegion ops aa::k) cs))
  (k':∀ a,Fin a->At (aE P Post X (σ.gX L) 0 os out) 0 WO a):
  At (aE P Post X σ 0 os out) 0 As (gr fn kd n e ds (.inRegion ops (i::aa)::k) cs):=λH st hole go w HI mq hu=>by
 subst HI;have SR:w.heap[c]? =some (.chan 0 #[] false kc kc false):=hc.has.get st;have Ka:Sat aP (hp (w.setChan c 0 #[] true kc kc false).heap):=hc.set st;have hbw:(w.setChan c 0 #[] true kc kc false).heap[G.blk]? =some (.cells G.cs G.ty (0,0)):=hb.has.get Ka;have hbc:c≠G.blk:=λz=>by rw[<- z,heap_setChan_self w SR]at hbw;cases hbw
 have aaK:w.heap[G.blk]? =some (.cells G.cs G.ty (0,0)):=by rw[heap_setChan_ne w _ _ _ _ _ _ hbc]at hbw;exact hbw
 obtain⟨N0,hN⟩:∃ N0,∀ i∈L,∃ s cw z0 z1,σ.aQ i=some s/\s.cases=#[rcase cw z0,rcase c z1]/\cw≠c/\∀ r,s.uL r->Cl P G N0 .rel (Conc.served r (commResult s.cases s.shape 1 z1 false)):=by
  clear k' nd len mg e1 hm
  induction L with
  |nil=>exact⟨0,by simp⟩
  |cons j L ih=>
   obtain⟨N1,h1⟩:=ih (λi hi=>hL i (fp _ hi));obtain⟨s,cw,z0,z1,a1,a2,a3,N2,a4⟩:=hL j (fY ..);refine⟨max N1 N2,λi hi=>?_⟩;rcases fR.1 hi with rfl|hi
   ·exact⟨s,cw,z0,z1,a1,a2,a3,λr hr=>(a4 r hr).mono (Nat.le_max_right ..)⟩
   ·obtain⟨s,cw,z0,z1,a1,a2,a3,a4⟩:=h1 i hi;exact⟨s,cw,z0,z1,a1,a2,a3,λr hr=>(a4 r hr).mono (Nat.le_max_left ..)⟩
 refine wZ.shut L G c kc N0 Fin rfl SR (λw₁ q=>E8 ho hw hx tF (by rw[q.hp];exact SR)) ?_ rfl nd len hN mg ok aaK e1 e2 yR G7 hm (λZk OM hf hwg=>?_)
 ·rw[<- dv]at ho;simp[mayWake,gr,bq,ho]
 ·have hh:OM.heap=(w.setChan c 0 #[] true kc kc false).heap.setIfInBounds G.blk (.cells (G.row (mH 0 0) (s6 0)) G.ty (0,0)):=hwg.hp;have aeJ:Sat WO (hp OM.heap):=by rw[hh];exact hb.set Ka
  have rC:∀ (b:Nat) (cc:Array Value) (tt:aO),w.heap[b]? =some (.cells cc tt (0,0))->∃ cc',OM.heap[b]? =some (.cells cc' tt (0,0)):=λb cc tt oG=>by
   have eb:c≠b:=λz=>by rw[z,oG]at SR;cases SR
   rw[hh];by_cases e3:b=G.blk
   ·subst e3;rw[aaK]at oG;cases oG;exact⟨_,j7 (by have:=(gV.1 hbw).1;exact this)⟩
   ·exact⟨cc,by rw[gK (jl e3),heap_setChan_ne w _ _ _ _ _ _ eb];exact oG⟩
  refine k' Zk hf _ aeJ ?_ ⟨λi' s' hi=>?_,λi' s' c' hi kI=>?_,λi' s' p hi hp=>?_,λl hl=>?_,?_⟩ OM rfl (hwg.os.trans mq) (hwg.out.trans hu)
  ·show(if 0∈L then none else σ.aQ 0)=none;split
   ·rfl
   ·exact hole
  ·have hi:(if i'∈L then none else σ.aQ i')=some s':=hi;split at hi
   ·cases hi
   ·exact go.lt i' s' hi
  ·have hi:(if i'∈L then none else σ.aQ i')=some s':=hi;split at hi
   ·cases hi
   ·have:=go.cl i' s' c' hi kI;rw[hh];simpa[World.setChan]using this
  ·have hi:(if i'∈L then none else σ.aQ i')=some s':=hi;split at hi
   ·cases hi
   ·obtain⟨h1,c1,LH,h2,h3⟩:=go.still i' s' p hi hp;obtain⟨c2,h4⟩:=rC _ _ _ h2;exact⟨h1,c2,LH,h4,h3⟩
  ·obtain⟨a,ea,c1,LH,h1,h2⟩:=go.q7 l hl;obtain⟨c2,h4⟩:=rC _ _ _ h1;exact⟨a,ea,c2,LH,h4,h2⟩
  ·rw[hh,Lc];have:=go.bot;simpa[World.setChan,Gh.gX]using this
theorem aE.done{fu:Func}{cc:Code}{n':Nat}[b:Body P fn fu cc n']{kR:List Item}{v:Value}(hv:tK fu n e=some v)(hi:P.inits.idxOf? fn=none)(hn:∀ i,σ.aQ i=none)(hp:∀ w:World,Sat As (hp w.heap)->w.os=os->w.output=out->Post v w):
  At (aE P Post X σ 0 os out) 0 As (re fn .qL n e [] kR []):=λH st hole go w HI mq hu=>by
 subst HI;refine wZ.done v rfl (λw₁ q=>?_) hn (λw₁ q=>hp w₁ (by rw[q.hp];exact st) (q.os.trans mq) (q.out.trans hu));have r:=lW (rB (P:=P) hv) w₁ #[];simp only[re,qM,bq,stepG,unwind,b.func,r,doReturn,Kd.k];simp[GStep.after,seen_none,hi]
def Dd(σ:Gh)(b:Nat):Prop:=∀ i s p,σ.aQ i=some s->p∈s.mem->p.1.block≠b
theorem Dd.blk{σ:Gh}{b:Nat}(h:Dd σ b):σ.blk b=false:=by
 cases e:σ.blk b with
 |false=>rfl
 |true=>
  unfold Gh.blk at e;obtain⟨i,_,h2⟩:=oZ.1 e;cases es:σ.aQ i with
  |none=>rw[es]at h2;cases h2
  |some s=>
   rw[es]at h2;obtain⟨p,hp,hb⟩:=oZ.1 h2;exact absurd (by simpa using hb) (h i s p es hp)
theorem Dd.rd{X:tO}{σ:Gh}{b:Nat}(h:Dd σ b)(ty:aO)(o:Nat):(X.bw σ).rd b ty o=false:=by show(X.mkd ty o&&σ.blk b)=false;rw[h.blk,Ju]
theorem GO.aaL{X:tO}{σ:Gh}{H:Array Obj}(g:GO X σ H){b:Nat}(hb:H.size<=b):Dd σ b:=λi s p e hp z=>by obtain⟨_,c,ty,h2,_⟩:=g.still i s p e hp;have:=(gV.1 h2).1;omega
variable{F:List HP}
theorem aE.al{tt:aO}{z:Value}{c:Array Value}[cz:Zv P tt z](ho:aZ ops i=some ⟨some t,.alloc tt,ty,pos,af,gd⟩)(h:∀ b,Dd σ b->At (aE P Post X σ 0 os out) d (da b (.cells c tt (0,0))::As) (gr fn kd n (put e t (.pointer (some ⟨b,0,none⟩))) ds (.inRegion ops aa::k) cs))
  (hc:z.cells=c:=by first|(simp only[Value.cells];done)|(simp only[Value.cells];rfl)|rfl) (hw:aL ops n e gd=true:=by rfl):At (aE P Post X σ 0 os out) d As (gr fn kd n e ds (.inRegion ops (i::aa)::k) cs):=λH st hole go w HI mq hu=>by
 have C:ab P true (X.bw σ) (aE P Post X σ 0 os out):=aE.ew;refine C.op (H:=H) (d:=d) (fn:=fn) (kd:=kd) (n:=n) (e:=e) (ds:=ds) (k:=k) (cs:=cs) (ops:=ops) (i:=i) (aa:=aa) (by rw[dv];exact ho) (by rw[eH];exact hw) ?_ hole go w HI mq hu;unfold execOp;simp only[Instr.alloc];subst hc;refine ae (ae (nZ _ H d _ ?_));exact h _ (go.aaL (e8 _)) _ (st.push _)
theorem aE.ap{α:Type}{f:α->List Value}{z:Nat}[rf:iD f z]{el tt t3 O3 bz:Nat}{zv:Value}{m l:List α}{s:az}{yv:Value}{x y:cZ}[cE:El P tt el][cE3:El P t3 O3][Cz P el z][cB:Bz P el bz][Zv P el zv]
  (ho:aZ ops i=some ⟨some t,.call ⟨.builtin .append,#[x,y],#[tt,t3]⟩,ty,pos,af,gd⟩) (hf:Fo (bG f z el s l) As F) (Wk:∀ b,s.a=some ⟨b,0,none⟩->Dd σ b) (qJ:∀ j,X.sh el j=false)
  (hsrc:∀ H,Sat (bG f z el s l::F) (hp H)->n4 (X.bw σ) H z m.length yv (flat f m)) (h:∀ s',s'.len=l.length+m.length->(∀ b,s'.a=some ⟨b,0,none⟩->Dd σ b)->At (aE P Post X σ 0 os out) d (bG f z el s' (l++m)::F) (gr fn kd n (put e t s'.v) ds (.inRegion ops aa::k) cs))
  (hsz:(l.length+m.length)*bz<=140737488355328) (O4:zv.cells.size=z) (Az:bz≠0) (hx:ev n e x=s.v) (hy:ev n e y=yv) (hw:aL ops n e gd=true:=by rfl):At (aE P Post X σ 0 os out) d As (gr fn kd n e ds (.inRegion ops (i::aa)::k) cs):=λH st hole go w HI mq hu=>by
 have C:ab P true (X.bw σ) (aE P Post X σ 0 os out):=aE.ew;refine C.op (H:=H) (d:=d) (fn:=fn) (kd:=kd) (n:=n) (e:=e) (ds:=ds) (k:=k) (cs:=cs) (ops:=ops) (i:=i) (aa:=aa) (by rw[dv];exact ho) (by rw[eH];exact hw) ?_ hole go w HI mq hu;have Ka:=st.perm hf.perm;unfold execOp;simp only[resolve];refine ae (aA ?_);simp only[AM,gW,l6,hx,hy];unfold invoke builtin;refine ae ?_;refine yX rf.len rf.one O4 (λb j hs=>(Wk b hs).rd _ _) (λj=>qJ j) Az hsz Ka (hsrc H Ka) λs'' H' hl ha hs=>aA ?_;refine h s'' hl (λb hb=>?_) _ hs;rcases ha with ha|ha
 ·exact Wk b (ha▸hb)
 ·rw[hb]at ha;obtain rfl:b=H.size:=by simpa using ha
  exact go.aaL (e8 _)
def bA(P:bL)(X:tO)(f:bJ)(args:Array Value)(σ:Gh)(A:List HP)(Q:Value->Gh->List HP->Prop):Prop:=
 ∀ (Post:Value->World->Prop) (os:Os) (out:Array (Nat×ByteArray)) (kd:Kd) (F:List HP) (c:Frame) (cs:List Frame),xN kd c->(∀ v σ' aP,Q v σ' aP->At (aE P Post X σ' 0 os out) 0 (aP++F) (after kd c cs v))->At (aE P Post X σ 0 os out) 0 (A++F) (iS P f args kd (c::cs))
theorem bA.of{f:bJ}{fu:Func}{c:Code}{nf:Nat}[b:Body P f fu c nf]{args:Array Value}{A:List HP}{Q:Value->Gh->List HP->Prop}
  (h:∀ (Post:Value->World->Prop) (os:Os) (out:Array (Nat×ByteArray)) (kd:Kd) (F:List HP) (c':Frame) (cs:List Frame),ab P true (X.bw σ) (aE P Post X σ 0 os out)->xN kd c'->(∀ v σ' aP,Q v σ' aP->At (aE P Post X σ' 0 os out) 0 (aP++F) (after kd c' cs v))->At (aE P Post X σ 0 os out) 0 (A++F) (gr f kd nf (yT args) [] [.code c] (c'::cs)))
  (hn:Nat.ble args.size nf=true:=by rfl):bA P X f args σ A Q:=λPost os out kd F c' cs aT hr=>by
 rw[m8 b.func b.body (by rw[b.tmps];exact xD hn),b.tmps];exact h Post os out kd F c' cs aE.ew aT hr
theorem aI.g{f:bJ}{args:Array Value}{A:List HP}{Q:Value->List HP->Prop}(h:aI P true (X.bw σ) f args A Q):bA P X f args σ A (λv σ' aP=>σ'=σ/\Q v aP):=
 λPost os out kd F c cs aT hr=>h _ aE.ew kd 0 F c cs aT λv aP q=>hr v σ aP ⟨rfl,q⟩
theorem bA.post{f:bJ}{args:Array Value}{A:List HP}{Q Q':Value->Gh->List HP->Prop}(h:bA P X f args σ A Q)(hq:∀ v σ' aP,Q v σ' aP->Q' v σ' aP):bA P X f args σ A Q':=
 λPost os out kd F c cs aT hr=>h Post os out kd F c cs aT λv σ' aP q=>hr v σ' aP (hq v σ' aP q)
theorem aE.cl{f:bJ}{fu:Func}{c:Code}{nf:Nat}[b:Body P f fu c nf]{fo:cZ}{args:Array cZ}{gy:Array aO}{a1 a2:Array Value}{vl:List Value}{A:List HP}{Q:Value->Gh->List HP->Prop}(hs:bA P X f (a1++vl.toArray++a2) σ A Q)
  (h:∀ v σ' aP,Q v σ' aP->At (aE P Post X σ' 0 os out) 0 (aP++F) (gr fn kd n (dm e dst v) ds (.inRegion ops aa::k) cs))
  (ho:aZ ops i=some ⟨dst,.call ⟨.value fo,args,gy⟩,ty,pos,af,gd⟩:=by rfl) (hv:args.toList.map (ev n e)=vl:=by rfl) (hf:ev n e fo=.func (.func f) a1 a2:=by rfl)
  (hr:fg A As F:=by exact fg.au) (hw:aL ops n e gd=true:=by rfl):At (aE P Post X σ 0 os out) 0 As (gr fn kd n e ds (.inRegion ops (i::aa)::k) cs):=by
 refine At.perm hr.perm ?_;have qK:args.map (ev n e)=vl.toArray:=by rw[<- hv,<- qZ,tC]
 have C:ab P true (X.bw σ) (aE P Post X σ 0 os out):=aE.ew;intro H st;refine C.still (g':=iS P f (a1++vl.toArray++a2) .qL (bq fn kd n e ds (.inRegion ops (i::aa)::k)::cs)) rfl (λw=>BK (f:=f) (args:=a1++vl.toArray++a2) ho hw (by
  unfold execOp;simp only;refine bC (a:=⟨.fn (.func f) a2,a1++vl.toArray⟩) ?_ ?_
  ·unfold resolve;simp only[hf,Deferred.ofValue,qK];rfl
  ·exact kX _) w) ?_
 refine hs Post os out .qL F _ cs trivial (λv σ' aP q=>?_) H st;show At _ 0 _ (fy _ cs v);rw[po ho];exact h v σ' aP q
theorem aaM{c:Code}{Y:Type}(S:Y->Gh)(L:Y->List (Nat×Value))(I:Y->List HP)(Ok:Y->Prop)(m:Y->Nat)(x0:Y)(hS:σ=S x0)(he:jV e (L x0))(mG:Ok x0)
  (step:∀ x e,Ok x->(∀ y e' aP,Ok y->m y<m x->jV e' (L y)->cV aP (I y)->At (aE P Post X (S y) 0 os out) 0 aP (gr fn kd n e' ds (.inLoop (cB c)::k) cs))->At (aE P Post X (S x) 0 os out) 0 (I x) (gr fn kd n (rk e (L x)) ds (.code (cB c):: .inLoop (cB c)::k) cs))
  (hI:cV As (I x0):=by exact cV.au) (hc:ck c=.loop:=by rfl):At (aE P Post X σ 0 os out) 0 As (gr fn kd n e ds (.code c::k) cs):=by
 subst hS;have key:∀ (N:Nat) (x:Y) (e:Nat->Value) (As:List HP),m x=N->jV e (L x)->Ok x->cV As (I x)->At (aE P Post X (S x) 0 os out) 0 As (gr fn kd n e ds (.inLoop (cB c)::k) cs):=by
  intro N
  induction N using Nat.strongRecOn with
  |ind N ih=>
   intro x e As hm he mG hr;have C:ab P true (X.bw (S x)) (aE P Post X (S x) 0 os out):=aE.ew;refine At.lP hr (C.Wu ?_);rw[<- j5 he];exact step x e mG λy e' aP hy du xM oD=>ih (m y) ai y e' aP rfl xM hy oD
 have C:ab P true (X.bw (S x0)) (aE P Post X (S x0) 0 os out):=aE.ew;refine At.lP hI (C.lp ?_ hc);rw[<- j5 he];exact step x0 e mG λy e' aP hy du xM oD=>key _ y e' aP rfl xM hy oD
theorem WQ{c:Code}{Y:Type}{S:Y->Gh}{L:Y->List (Nat×Value)}{I:Y->List HP}{Ok:Y->Prop}{m:Y->Nat}{x0:Y}{body:Code}(ih:∀ y e' aP,Ok y->m y<m x0->jV e' (L y)->cV aP (I y)->At (aE P Post X (S y) 0 os out) 0 aP (gr fn kd n e' ds (.inLoop body::k) cs))(y:Y)(hS:σ=S y)(hy:Ok y)(hm:m y<m x0)
  (he:jV e (L y):=by repeat(first|exact trivial|refine And.intro rfl ?_)) (hr:cV As (I y):=by exact cV.au):At (aE P Post X σ 0 os out) 0 As (gr fn kd n e ds (.inLoop body::k) cs):=by
 subst hS;exact ih y e As hy hm he hr
theorem aE.cm{fu:Func}{cc:Code}{n':Nat}[b:Body P fn fu cc n']{c:Frame}{v:Value}{x:Code}{Q:Value->Gh->List HP->Prop}{A:List HP}(aT:xN kd c)(ak:∀ v σ' aP,Q v σ' aP->At (aE P Post X σ' 0 os out) 0 (aP++F) (after kd c cs v))(q:Q v σ A)(hv:tK fu n e=some v:=by rfl)(hx:ck x=.ret:=by rfl)
  (hr:fg A As F:=by exact fg.au):At (aE P Post X σ 0 os out) 0 As (gr fn kd n e [] (.code x::k) (c::cs)):=by
 have C:ab P true (X.bw σ) (aE P Post X σ 0 os out):=aE.ew;exact At.perm hr.perm (C.OW aT (ak v σ A q) hv hx)
end
structure kz where
 tm:Int
 ord:Int
 tx:Int
 again:Bool
instance:Inhabited kz:=⟨⟨0,0,0,false⟩⟩
def kz.qW(a:kz):fU:=⟨a.tm,a.again,a.tx⟩
def mL(a b:kz):Prop:=a.tm<b.tm\/(a.tm=b.tm/\a.ord<b.ord)
abbrev gA(l:List kz)(k:Nat):kz:=l[k]?.getD default
theorem j8{l:List kz}{k:Nat}(h:k<l.length):gA l k=l[k]:=by simp[gA,h]
def De(l:List kz)(i j:Nat):List kz:=(l.set i (gA l j)).set j (gA l i)
theorem yl(l:List kz)(i j:Nat):(De l i j).length=l.length:=by simp[De]
theorem zi{l:List kz}{i j:Nat}(hi:i<l.length)(hj:j<l.length):(De l i j).Perm l:=by unfold De;rw[j8 hi,j8 hj];exact List.set_set_perm hi hj
theorem ym{l:List kz}{i j:Nat}(hi:i<l.length)(hj:j<l.length)(k:Nat):gA (De l i j) k=if k=j then gA l i else if k=i then gA l j else gA l k:=by
 unfold gA De;rw[oY];by_cases h1:j=k
 ·subst h1;simp[hj]
 ·rw[ax h1,ax (jl h1),oY];by_cases h2:i=k
  ·subst h2;simp[hi]
  ·rw[ax h2,ax (jl h2)]
def uz(l:List kz)(i j:Nat):Prop:=¬ mL (gA l i) (gA l j)
def ie(l:List kz)(n:Nat):Prop:=∀ k,0<k->k<n->uz l k ((k-1)/2)
def oJ(l:List kz)(j:Nat):Prop:=(∀ k,0<k->k<l.length->k≠j->uz l k ((k-1)/2))/\(0<j->∀ k,0<k->k<l.length->(k-1)/2=j->uz l k ((j-1)/2))
def rD(l:List kz)(n i:Nat):Prop:=(∀ k,0<k->k<n->(k-1)/2≠i->uz l k ((k-1)/2))/\(0<i->∀ k,0<k->k<n->(k-1)/2=i->uz l k ((i-1)/2))
theorem oJ.fin{l:List kz}{j:Nat}(h:oJ l j)(hj:j=(j-1)/2\/uz l j ((j-1)/2)):ie l l.length:=λk h0 hk=>by
 by_cases e:k=j
 ·subst e;rcases hj with hj|hj
  ·omega
  ·exact hj
 ·exact h.1 k h0 hk e
theorem oJ.push{l:List kz}(h:ie l l.length)(a:kz):oJ (l++[a]) l.length:=by
 have hg:∀ k,k<l.length->gA (l++[a]) k=gA l k:=λk hk=>by unfold gA;rw[mT hk]
 refine⟨λk h0 hk eV=>?_,λh0 k h1 hk e=>?_⟩
 ·have hk:k<l.length:=by simp at hk;omega
  unfold uz;rw[hg k hk,hg _ ai];exact h k h0 hk
 ·simp at hk;omega
theorem oJ.step{l:List kz}{i j:Nat}(h:oJ l j)(hj:j<l.length)(hi:i=(j-1)/2)(eV:i≠j)(hl:mL (gA l j) (gA l i)):oJ (De l i j) i:=by
 have yP:i<j:=ai;have Vg:i<l.length:=ai;have hs:=ym Vg hj;refine⟨λk h0 hk HJ=>?_,λh0 k h1 hk e=>?_⟩
 ·rw[yl]at hk;unfold uz;rw[hs,hs,ax HJ];by_cases e1:k=j
  ·subst e1;rw[aG rfl,<- hi,ax eV,aG rfl];unfold mL at hl⊢;omega
  ·rw[ax e1];by_cases e2:(k-1)/2=j
   ·rw[aG e2];have:=h.2 ai k h0 hk e2;rw[<- hi]at this;exact this
   ·rw[ax e2];by_cases e3:(k-1)/2=i
    ·rw[aG e3];have:=h.1 k h0 hk e1;rw[e3]at this;unfold uz mL at this;unfold mL at hl⊢;omega
    ·rw[ax e3];exact h.1 k h0 hk e1
 ·rw[yl]at hk;unfold uz;have e4:(i-1)/2<i:=ai;rw[hs,hs,ax (show(i-1)/2≠j by omega),ax (show(i-1)/2≠i by omega)];have h2:=h.1 i h0 Vg eV;unfold uz at h2;by_cases e1:k=j
  ·rw[aG e1];exact h2
  ·rw[ax e1,ax (show k≠i by omega)];have h3:=h.1 k h1 hk e1;rw[e]at h3;unfold uz mL at h3;unfold mL at h2⊢;omega
theorem rD.fin{l:List kz}{n i:Nat}(h:rD l n i)(hc:∀ k,0<k->k<n->(k-1)/2=i->uz l k i):ie l n:=λk h0 hk=>by
 by_cases e:(k-1)/2=i
 ·rw[e];exact hc k h0 hk e
 ·exact h.1 k h0 hk e
theorem rD.step{l:List kz}{n i j:Nat}(h:rD l n i)(hn:n<=l.length)(hj:j<n)(h0j:0<j)(hi:i=(j-1)/2)(AT:∀ k,0<k->k<n->(k-1)/2=i->uz l k j)(hl:mL (gA l j) (gA l i)):rD (De l i j) n j:=by
 have yP:i<j:=ai;have Vg:i<l.length:=ai;have SS:j<l.length:=ai;have hs:=ym Vg SS;refine⟨λk h0 hk hkj=>?_,λh0 k h1 hk e=>?_⟩
 ·unfold uz;rw[hs,hs,ax hkj];by_cases e1:k=j
  ·subst e1;rw[aG rfl,<- hi,aG rfl];unfold mL at hl⊢;omega
  ·rw[ax e1];by_cases e2:k=i
   ·subst e2;rw[aG rfl,ax (show(k-1)/2≠k by omega)];have:=h.2 h0 j h0j hj hi.symm;exact this
   ·rw[ax e2];by_cases e3:(k-1)/2=i
    ·rw[aG e3];exact AT k h0 hk e3
    ·rw[ax e3];exact h.1 k h0 hk e3
 ·unfold uz;rw[hs,hs,ax (show k≠j by omega),ax (show k≠i by omega),<- hi,ax (show i≠j by omega),aG rfl];have:=h.1 k h1 hk ai;rw[e]at this;exact this
theorem ie.least{l:List kz}{n:Nat}(h:ie l n):∀ k,k<n->uz l k 0:=by
 intro k
 induction k using Nat.strongRecOn with
 |ind k ih=>
  intro hk;by_cases h0:k=0
  ·subst h0;unfold uz mL;omega
  ·have h1:=h k ai hk;have h2:=ih ((k-1)/2) ai ai;unfold uz mL at h1 h2⊢;omega
theorem ie.out{l:List kz}{n:Nat}(h:ie l (n+1))(hn:n<l.length):rD (De l 0 n) n 0:=by have hs:=ym (l:=l) (i:=0) (j:=n) ai hn;refine⟨λk h0 hk hp=>?_,λh0=>by omega⟩;unfold uz;rw[hs,hs,ax (show k≠n by omega),ax (show k≠0 by omega),ax (show(k-1)/2≠n by omega),ax hp];exact h k h0 ai
theorem ie.take{l:List kz}{n:Nat}(h:ie l n):ie (l.take n) n:=λk h0 hk=>by
 have hg:∀ q,q<n->gA (l.take n) q=gA l q:=λq hq=>by unfold gA;rw[s4 hq]
 unfold uz;rw[hg k hk,hg _ ai];exact h k h0 hk
theorem BL{c:Int}{m:fU}{q:Nat}:∀ (L:List fU) (i:Nat),(∀ t∈L,m.tm<=t.tm)->nR c L i (some (q,m))=some (q,m)
 |[],_,_=>rfl
 |t::l,i,h=>by
  have h1:=h t (fY ..);have:decide (t.tm<m.tm)=false:=by simp;omega
  simp only[nR,this,Ju,gn,eR];exact BL l _ λt ht=>h t (fp _ ht)
def SU(c:Int)(t:fU)(acc:Option (Nat×fU)):Bool:=decide (t.tm<=c)&&(match acc with|none=>true|some (_,u)=>decide (t.tm<u.tm))
theorem BM(c:Int)(t:fU)(l:List fU)(i:Nat)(acc:Option (Nat×fU)):nR c (t::l) i acc=nR c l (i+1) (if SU c t acc then some (i,t)else acc):=rfl
theorem zj{c:Int}{m:fU}(hm:m.tm<=c):∀ (L:List fU) (k i:Nat) (acc:Option (Nat×fU)),L[k]? =some m->(∀ t∈L,m.tm<=t.tm)->(∀ j t,j<k->L[j]? =some t->m.tm<t.tm)->(∀ q u,acc=some (q,u)->m.tm<u.tm)->nR c L i acc=some (i+k,m)
 |[],k,i,acc,h,_,_,_=>by simp at h
 |t::l,0,i,acc,h,kC,du,HC=>by
  obtain rfl:t=m:=by simpa using h
  have:SU c t acc=true:=by
   unfold SU;cases acc with
   |none=>simp[hm]
   |some p=>obtain⟨q,u⟩:=p;have:=HC q u rfl;simp[hm,this]
  rw[BM,aG this];exact BL l _ λt' ht=>kC t' (fp _ ht)
 |t::l,k+1,i,acc,h,kC,du,HC=>by
  have ht:=du 0 t ai rfl;rw[BM,show i+(k+1)=i+1+k by omega];refine zj hm l k (i+1) _ (by simpa using h) (λt' Ps=>kC t' (fp _ Ps)) (λj t' hj hl=>du (j+1) t' ai (by simpa using hl)) λq u e=>?_;by_cases hq:SU c t acc=true
  ·rw[aG hq]at e;cases e;exact ht
  ·rw[ax hq]at e;exact HC q u e
theorem BN{c:Int}:∀ (L:List fU) (i:Nat),(∀ t∈L,c<t.tm)->nR c L i none=none
 |[],_,_=>rfl
 |t::l,i,h=>by
  have h1:=h t (fY ..);have:decide (t.tm<=c)=false:=by simp;omega
  simp only[nR,this,yD,gn,eR];exact BN l _ λt ht=>h t (fp _ ht)
structure py(T:List kz)(order:Int)(l:List kz):Prop where
 perm:l.Perm T
 heap:ie l l.length
 inc:T.Pairwise λa b=>a.ord<b.ord
 le:∀ a∈T,a.ord<=order
theorem py.zero(order:Int):py [] order []:=⟨.refl _,λk h0 hk=>by simp at hk,.nil,λa h=>by cases h⟩
theorem py.push{T l l':List kz}{order:Int}(h:py T order l){a:kz}(ha:a.ord=order+1)(hp:l'.Perm (l++[a]))(hh:ie l' l'.length):py (T++[a]) (order+1) l':=
 ⟨hp.trans (h.perm.append_right _),hh,List.pairwise_append.2 ⟨h.inc,by simp,λx hx y hy=>by obtain rfl:=dL.1 hy;have:=h.le x hx;omega⟩,λx hx=>by
  rcases bS.1 hx with hx|hx
  ·have:=h.le x hx;omega
  ·obtain rfl:=dL.1 hx;omega⟩
theorem py.aaO{T l:List kz}{order c:Int}(h:py T order l)(hl:l=[]\/c<(gA l 0).tm):nR c (T.map (·.qW)) 0 none=none:=by
 refine BN _ _ λt ht=>?_;obtain⟨a,ha,rfl⟩:=bM.1 ht;have ha:=h.perm.mem_iff.2 ha;rcases hl with rfl|hl
 ·cases ha
 ·obtain⟨k,hk,rfl⟩:=Bo.1 ha;have:=h.heap.least k hk;unfold uz mL at this;rw[j8 hk]at this;show c<l[k].tm;omega
theorem py.pop{T l l':List kz}{order c:Int}{m:kz}(h:py T order l)(h0:l[0]? =some m)(hc:m.tm<=c)(hp:l.Perm (m::l'))(hh:ie l' l'.length):
  ∃ k,T[k]? =some m/\nR c (T.map (·.qW)) 0 none=some (k,m.qW)/\py (T.eraseIdx k) order l':=by
 have hm:m∈T:=h.perm.mem_iff.1 (dg h0);obtain⟨k,hk,rfl⟩:=Bo.1 hm;have AT:∀ a∈T,¬ mL a T[k]:=λa ha=>by
  obtain⟨q,hq,rfl⟩:=Bo.1 (h.perm.mem_iff.2 ha);have:=h.heap.least q hq;unfold uz at this;rw[j8 hq]at this;have e:gA l 0=T[k]:=by unfold gA;rw[h0];rfl
  rwa[e]at this
 refine⟨k,cK hk,?_,?_⟩
 ·have:=zj (c:=c) (m:=T[k].qW) hc (T.map (·.qW)) k 0 none (by simp[hk]) (λt ht=>by
   obtain⟨a,ha,rfl⟩:=bM.1 ht;have:=AT a ha;unfold mL at this;show T[k].tm<=a.tm;omega) (λj t hj ht=>by
   rw[fH]at ht;have SS:j<T.length:=ai;rw[cK SS]at ht;obtain rfl:=bR ht;have h1:=AT T[j] (dp _);have h2:T[j].ord<T[k].ord:=yz.1 h.inc j k SS hk hj;unfold mL at h1;show T[k].tm<T[j].tm;omega) (λq u e=>by cases e)
  simpa using this
 ·have Va:T.Perm (T[k]::T.eraseIdx k):=by
   have e1:T=T.take k++T[k]::T.drop (k+1):=by conv=>lhs;rw[<- sZ k T,o3 hk]
   rw[Js]
   conv=>lhs;rw[e1]
   exact Jq
  refine⟨?_,hh,h.inc.sublist (ko _ _),λa ha=>h.le a (EB ha)⟩;exact(List.perm_cons T[k]).1 (hp.symm.trans (h.perm.trans Va))
section
open Go.Conc
section
variable{P:bL}{ao:Bool}{s:dH}{fn:bJ}{kd:Kd}{n:Nat}{e:Nat->Value}{ds:List eo}{k:List Item}{cs:List Frame}
variable{ops:Array Oper}{i:Nat}{aa:List Nat}{t:Nat}{ty:aO}{pos:String}{af:Array Edge}{gd:Option (Nat×Bool)}{x:cZ}{v:Value}{m:Nat}
theorem Pv{o:Oper}(ho:aZ ops i=some o)(hw:aL ops n e o.guard=true)(hy:fW P (execOp (ev n e) o)=some (.value v))(q:Way P ao s m (gr fn kd n (dm e o.dst v) ds (.inRegion ops aa::k) cs)):Way P ao s (m+1) (gr fn kd n e ds (.inRegion ops (i::aa)::k) cs):=
 .inr ⟨rfl,λw _=>⟨_,#[],w.drawn,BJ ho hw hy w,by simp,q⟩⟩
theorem Pw(ho:aZ ops i=some ⟨some t,.move x,ty,pos,af,gd⟩)(q:Way P ao s m (gr fn kd n (put e t v) ds (.inRegion ops aa::k) cs))(hx:ev n e x=v:=by conv=>{lhs;whnf})(hw:aL ops n e gd=true:=by rfl):Way P ao s (m+1) (gr fn kd n e ds (.inRegion ops (i::aa)::k) cs):=
 Pv ho hw (by unfold execOp;simp only[hx];rfl) q
theorem Kf{a:Addr}(ho:aZ ops i=some ⟨some t,.nilCheck x,ty,pos,af,gd⟩)(q:Way P ao s m (gr fn kd n (put e t (.pointer (some a))) ds (.inRegion ops aa::k) cs))(hx:ev n e x=.pointer (some a):=by rfl)(hw:aL ops n e gd=true:=by rfl):Way P ao s (m+1) (gr fn kd n e ds (.inRegion ops (i::aa)::k) cs):=
 Pv ho hw (by unfold execOp;simp only[hx];rfl) q
theorem Kg{s' f o b off:Nat}[c:Fl P s' f o](ho:aZ ops i=some ⟨some t,.fieldAddr s' x f,ty,pos,af,gd⟩)(q:Way P ao s m (gr fn kd n (put e t (.pointer (some ⟨b,off+o,none⟩))) ds (.inRegion ops aa::k) cs))(hx:ev n e x=.pointer (some ⟨b,off,none⟩):=by rfl)(hw:aL ops n e gd=true:=by rfl):Way P ao s (m+1) (gr fn kd n e ds (.inRegion ops (i::aa)::k) cs):=
 Pv ho hw (by obtain⟨fs,fl,z,h1,h2,rfl,⟨inf,h4,h5⟩,h6⟩:=c.h;unfold execOp;simp only[hx,Instr.fieldAt];refine bC (a:=.pointer (some ⟨b,off+fl.offset,none⟩)) (bC (fL h1) ?_) rfl;simp only[h2,Instr.sureAddr];refine bC (a:=(⟨b,off,none⟩:Addr)) rfl ?_;unfold fieldPlace;refine bC (a:=⟨b,off+fl.offset,none⟩) ?_ rfl;refine bC (E3 ⟨inf,h4,h5⟩) ?_;rw[ax h6,gY];rfl) q
theorem E9{tt:aO}{ad:Addr}[a:Ag P tt false](hm:(ad,v)∈s.mem)(ho:aZ ops i=some ⟨some t,.load tt x,ty,pos,af,gd⟩)(q:Way P ao s m (gr fn kd n (put e t v) ds (.inRegion ops aa::k) cs))(hx:ev n e x=.pointer (some ad):=by rfl)(hw:aL ops n e gd=true:=by rfl):Way P ao s (m+1) (gr fn kd n e ds (.inRegion ops (i::aa)::k) cs):=by refine .inr ⟨rfl,λw hK=>⟨_,_,w.drawn,E7 ho hw hx (hK _ hm),λe he=>?_,q⟩⟩;have:=E6 he;simp only[pW,fR,m6,gm]at this;exact⟨ad,this,(ad,v),hm,rfl⟩
end
structure BO(ops:Array Oper)(e0:Nat->Value)(D:List (Nat×Nat))(S:List SE)(L:Nat->Prop)(e:Nat->Value):Prop where
 v1:∀ x∈S,L x.i->e x.t=x.v
 v2:∀ s,G9 D s=none->e s=e0 s
 v3:∀ s w,G9 D s=some w->¬ L w->e s=e0 s
 cl:∀ w,L w->∀ j∈BE ops w,L j
section
variable{P:bL}{ao:Bool}{s:dH}{fn:bJ}{kd:Kd}{n:Nat}{ds:List eo}{ops:Array Oper}{k:List Item}{cs:List Frame}{e0:Nat->Value}{D:List (Nat×Nat)}{T is:List Nat}{S:List SE}
theorem BO.env{L:Nat->Prop}{e:Nat->Value}(h:BO ops e0 D S L e){i:Nat}(hi:¬ L i)(hr:∀ j∈BE ops i,L j){S':List SE}(hS:∀ x∈S',x∈S):mW e0 D ops i S' e=e:=by
 funext s
 unfold mW;cases h1:WA S' (BE ops i) s with
 |some v=>
  obtain⟨x,hx,rfl,rfl,hp⟩:=J6 h1;exact(h.v1 x (hS x hx) (hr _ hp)).symm
 |none=>
  simp only;cases h2:G9 D s with
  |none=>exact(h.v2 s h2).symm
  |some w=>
   simp only;split
   ·rename_i hc;have hiw:i∈BE ops w:=by simpa using hc
    exact(h.v3 s w h2 λhl=>hi (h.cl w hl i hiw)).symm
   ·rfl
structure SV(P:bL)(ao:Bool)(s:dH)(fn:bJ)(kd:Kd)(n:Nat)(ds:List eo)(ops:Array Oper)(k:List Item)(cs:List Frame)(e0:Nat->Value)(D:List (Nat×Nat))(is:List Nat)(S:List SE):Prop where
 all:∀ i∈is,∃ x∈S,x.i=i
 sub:∀ x∈S,x.i∈is
 uq:∀ x∈S,∀ y∈S,x.i=y.i->x=y
 lk:∀ x∈S,iO ops x.i=some x.t
 ob:∀ x∈S,∃ Sx,(∀ y∈Sx,y∈S)/\∀ m e aa,Way P ao s m (gr fn kd n (put (mW e0 D ops x.i Sx e) x.t x.v) ds (.inRegion ops aa::k) cs)->Way P ao s (m+1) (gr fn kd n (mW e0 D ops x.i Sx e) ds (.inRegion ops (x.i::aa)::k) cs)
def LI(listed:Array Bool)(i:Nat):Prop:=listed[i]?.getD false=true
def Stood(ops:Array Oper)(e0:Nat->Value)(D:List (Nat×Nat))(S:List SE)(r:Nat)(e:Nat->Value)(aa:List Nat):Prop:=
 ∃ md fuel t,∃ listed:Array Bool,listed.size=ops.size/\v7 (λi=>listed[i]?.getD false) ops.size=fuel+1/\BO ops e0 D S (LI listed) e/\¬ LI listed r/\(∀ j∈BE ops r,LI listed j)/\aa=Region.linearise.go md ops fuel t (listed.setIfInBounds r true) []
theorem Kh{md:Region.Mode}(rg:BG ops D T is)(sw:SV P ao s fn kd n ds ops k cs e0 D is S){r:Nat}(hr:r∈T)(hT:∀ t∈T,t≠r->reach ops 8 t r=true)
  {m0:Nat} (Fa:∀ e aa,Stood ops e0 D S r e aa->Way P ao s m0 (gr fn kd n e ds (.inRegion ops (r::aa)::k) cs)):
  ∀ (fuel t:Nat) (listed:Array Bool) (e:Nat->Value),listed.size=ops.size->v7 (λi=>listed[i]?.getD false) ops.size=fuel->BO ops e0 D S (LI listed) e->¬ LI listed r->
   Way P ao s (fuel+m0) (gr fn kd n e ds (.inRegion ops (Region.linearise.go md ops fuel t listed [])::k) cs):=by
 intro fuel
 induction fuel with
 |zero=>
  intro t listed e hsz hu st tF;exact absurd (rm hu r (rg.Tlt r hr)) tF
 |succ fuel ih=>
  intro t listed e hsz hu st tF;have vQ:∀ i,i∈((List.range ops.size).filter λi=> !listed.getD i true&&((ops[i]?).map (·.after.all λe=> !Region.binds md e||listed.getD e.on false)).getD false)↔i<ops.size/\listed[i]?.getD false=false/\∀ j∈tM md ops i,listed[j]?.getD false=true:=by
   intro i;simp only[gI,l8,jc,Ex];constructor
   ·rintro⟨h1,h2,h3⟩;refine⟨h1,?_,(sg h1).1 h3⟩;have:i<listed.size:=ai;simpa[Array.getD_eq_getD_getElem?,this]using h2
   ·rintro⟨h1,h2,h3⟩;refine⟨h1,?_,(sg h1).2 h3⟩;have:i<listed.size:=ai;simpa[Array.getD_eq_getD_getElem?,this]using h2
  simp only[Region.linearise.go];generalize hG:((List.range ops.size).filter λi=> !listed.getD i true&&((ops[i]?).map (·.after.all λe=> !Region.binds md e||listed.getD e.on false)).getD false)=rs at vQ;obtain⟨i1,xP,LC,_⟩:=iU (f:=λi=>listed[i]?.getD false) (m:=ops.size) (by rw[hu];omega);obtain⟨i0,EJ,SI,Hz⟩:=rg.prog md (λi=>listed[i]?.getD false) ⟨i1,xP,LC⟩;have eV:rs.length≠0:=by have:i0∈rs:=(vQ i0).2 ⟨EJ,SI,Hz⟩;intro z;rw[NU]at z;rw[z]at this;cases this
  have HA:t%rs.length<rs.length:=EA _ ai;rw[cK HA];simp only;generalize ee:rs[t%rs.length]=i;have dR:i∈rs:=by rw[<- ee];exact dp HA
  obtain⟨du,AA,WB⟩:=(vQ i).1 dR;have iw:∀ j∈BE ops i,listed[j]?.getD false=true:=λj hj=>WB j (yg hj);have HC:Region.linearise.go md ops fuel (t/rs.length) (listed.setIfInBounds i true) [i]=i::Region.linearise.go md ops fuel (t/rs.length) (listed.setIfInBounds i true) []:=n6 md ops fuel (t/rs.length) (listed.setIfInBounds i true) i;rw[HC];have tG:(listed.setIfInBounds i true).size=ops.size:=by simpa using hsz
  have AO:i<listed.size:=ai;have kS:=yh (listed:=listed) AO;have HD:¬ (listed[i]?.getD false=true):=by rw[AA];simp
  by_cases Vh:i=r
  ·subst Vh;exact(Fa e _ ⟨md,fuel,_,listed,hsz,hu,st,tF,iw,rfl⟩).mono ai
  ·have Ha:v7 (λj=>(listed.setIfInBounds i true)[j]?.getD false) ops.size=fuel:=by have:=(uV (f:=λj=>listed[j]?.getD false) (f':=λj=>(listed.setIfInBounds i true)[j]?.getD false) (i:=i) AA (by simp[kS]) (λj hj=>by simp[kS,hj]) (m:=ops.size)).1 du;rw[hu]at this;omega
   have hL:∀ j,((listed.setIfInBounds i true)[j]?.getD false=true)↔(j=i\/listed[j]?.getD false=true):=λj=>by rw[kS];by_cases e:j=i<;>simp[e]
   have jB:i∈is:=by
    rcases rg.cov i du with h|h
    ·exact h
    ·exfalso;have h1:=hT i h Vh;rcases lR (f:=7) h1 with h2|⟨m,hm,h2⟩
     ·exact Vh h2
     ·exact tF (gP st.cl 7 m r h2 (iw m hm))
   obtain⟨x,hx,rfl⟩:=sw.all i jB;obtain⟨Sx,hSx,ob⟩:=sw.ob x hx;have HE:=sw.lk x hx;have LD:=st.env HD iw (S':=Sx) hSx;have key:=ob (fuel+m0) e (Region.linearise.go md ops fuel (t/rs.length) (listed.setIfInBounds x.i true) []);rw[LD]at key;rw[show fuel+1+m0=fuel+m0+1 by omega];refine key (ih _ _ _ tG Ha ⟨λy hy WE=>?_,λs h2=>?_,λs w h2 hw=>?_,λw hw j hj=>?_⟩ λz=>?_)
   ·by_cases O6:y.i=x.i
    ·have Zf:y=x:=sw.uq y hy x hx O6;subst Zf;simp[put]
    ·have WH:listed[y.i]?.getD false=true:=((hL _).1 WE).resolve_left O6;have hyt:y.t≠x.t:=λe=>O6 (uY rg (sw.lk y hy) (e▸HE));simp only[put,ax hyt];exact st.v1 y hy WH
   ·have:s≠x.t:=λe=>by subst e;rw[rg.d2 _ _ HE]at h2;cases h2
    simp only[put,ax this];exact st.v2 s h2
   ·have:s≠x.t:=λe=>by subst e;rw[rg.d2 _ _ HE]at h2;exact hw ((hL w).2 (.inl (bR h2).symm))
    simp only[put,ax this];exact st.v3 s w h2 λh=>hw ((hL w).2 (.inr h))
   ·have hw:(listed.setIfInBounds x.i true)[w]?.getD false=true:=hw;show(listed.setIfInBounds x.i true)[j]?.getD false=true;rw[hL]at hw⊢;rcases hw with rfl|hw
    ·exact .inr (iw j hj)
    ·exact .inr (st.cl w hw j hj)
   ·rcases(hL r).1 z with h|h
    ·exact Vh h.symm
    ·exact tF h
theorem Df:∀ (N m:Nat),v7 (λi=>(Array.replicate N false)[i]?.getD false) m=m
 |N,0=>rfl
 |N,m+1=>by unfold v7;rw[Df N m,nA];rfl
theorem zk{c:Code}(D:List (Nat×Nat))(is T:List Nat)(r:Nat)(S:List SE)(sw:SV P ao s fn kd n ds (cO c) k cs e0 D is S)(m0:Nat)(Fa:∀ e aa,Stood (cO c) e0 D S r e aa->Way P ao s m0 (gr fn kd n e ds (.inRegion (cO c) (r::aa)::k) cs))
  (hr:r∈T:=by decide) (hT:(T.all λt=>t==r||reach (cO c) 8 t r)=true:=by decide+kernel) (hc:ck c=.draw:=by rfl) (hg:te (cO c) D T is=true:=by decide+kernel):Way P ao s ((cO c).size+m0+1) (gr fn kd n e0 ds (.code c::k) cs):=by
 have rg:=uX hg;refine WM (λt=>?_) hc;have st:BO (cO c) e0 D S (LI (Array.replicate (cO c).size false)) e0:=⟨λx _ h=>absurd h (by unfold LI;rw[nA];simp),λ_ _=>rfl,λ_ _ _ _=>rfl,λw h=>absurd h (by unfold LI;rw[nA];simp)⟩;have hT':∀ t∈T,t≠r->reach (cO c) 8 t r=true:=λt ht eV=>by have:=kp.1 hT t ht;simpa[eV]using this
 unfold Region.schedule;split
 ·unfold Region.linearise;exact Kh rg sw hr hT' Fa _ _ _ _ (by simp) (Df _ _) st (by unfold LI;rw[nA];simp)
 ·unfold Region.linearise;exact Kh rg sw hr hT' Fa _ _ _ _ (by simp) (Df _ _) st (by unfold LI;rw[nA];simp)
theorem LJ{c:Code}(D:List (Nat×Nat))(is T:List Nat)(r:Nat)(S:List SE)(sw:SV P ao s fn kd n ds (cO c) k cs e0 D is S)(Fa:∀ e aa,Stood (cO c) e0 D S r e aa->On P ao s (gr fn kd n e ds (.inRegion (cO c) (r::aa)::k) cs))
  (hr:r∈T:=by decide) (hT:(T.all λt=>t==r||reach (cO c) 8 t r)=true:=by decide+kernel) (hc:ck c=.draw:=by rfl) (hg:te (cO c) D T is=true:=by decide+kernel) (h40:Nat.ble (cO c).size 39=true:=by rfl):Way P ao s 40 (gr fn kd n e0 ds (.code c::k) cs):=by
 have h40:=xD h40;exact Way.mono (zk D is T r S sw 0 Fa hr hT hc hg) ai
theorem Stood.aa{r:Nat}{e:Nat->Value}{aa:List Nat}(h:Stood ops e0 D S r e aa)(ha:((List.range ops.size).all λi=>i==r||reach ops 8 r i)=true):aa=[]:=by
 obtain⟨md,fuel,t,listed,hsz,hu,st,tF,iw,rfl⟩:=h;have hl:∀ i,i<ops.size->i≠r->LI listed i:=λi hi eV=>by
  have:=kp.1 ha i (l8.2 hi);have h1:reach ops 8 r i=true:=by simpa[eV]using this
  rcases lR (f:=7) h1 with h2|⟨m,hm,h2⟩
  ·exact absurd h2.symm eV
  ·exact gP st.cl 7 m i h2 (iw m hm)
 have h0:v7 (λi=>(listed.setIfInBounds r true)[i]?.getD false) ops.size=0:=by
  obtain⟨i1,xP,LC,_⟩|h:=Classical.em (∃ i,i<ops.size/\(listed.setIfInBounds r true)[i]?.getD false=false/\True)
  ·exfalso;have du:i1<listed.size:=ai;by_cases e:i1=r
   ·subst e;simp[du]at LC
   ·rw[gK (jl e)]at LC;have:=hl i1 xP e;unfold LI at this;rw[this]at LC;cases LC
  ·rcases Lf (v7 (λi=>(listed.setIfInBounds r true)[i]?.getD false) ops.size)with h1|h1
   ·exact h1
   ·obtain⟨i1,xP,LC,_⟩:=iU (f:=λi=>(listed.setIfInBounds r true)[i]?.getD false) (NY.1 h1);exact absurd ⟨i1,xP,LC,trivial⟩ h
 by_cases hrl:r<ops.size
 ·have AO:r<listed.size:=ai;have kS:=yh (listed:=listed) AO;have AA:listed[r]?.getD false=false:=by
   cases e:listed[r]?.getD false with
   |false=>rfl
   |true=>exact absurd e tF
  have:=(uV (f:=λj=>listed[j]?.getD false) (f':=λj=>(listed.setIfInBounds r true)[j]?.getD false) (i:=r) AA (by simp[kS]) (λj hj=>by simp[kS,hj]) (m:=ops.size)).1 hrl;have hf:fuel=0:=ai;subst hf;rfl
 ·exfalso;have:v7 (λi=>listed[i]?.getD false) ops.size=0:=by
   rcases Lf (v7 (λi=>listed[i]?.getD false) ops.size)with h1|h1
   ·exact h1
   ·obtain⟨i1,xP,LC,_⟩:=iU (f:=λi=>listed[i]?.getD false) (NY.1 h1);have h2:=hl i1 xP ai;unfold LI at h2;rw[h2]at LC;cases LC
  omega
theorem Stood.listed{r:Nat}{e:Nat->Value}{aa:List Nat}(h:Stood ops e0 D S r e aa)(ha:((List.range ops.size).all λi=>i==r||reach ops 8 r i)=true):∃ L:Nat->Prop,BO ops e0 D S L e/\¬ L r/\∀ i,i<ops.size->i≠r->L i:=by
 obtain⟨md,fuel,t,listed,hsz,hu,st,tF,iw,rfl⟩:=h;refine⟨_,st,tF,λi hi eV=>?_⟩;have:=kp.1 ha i (l8.2 hi);have h1:reach ops 8 r i=true:=by simpa[eV]using this
 rcases lR (f:=7) h1 with h2|⟨m,hm,h2⟩
 ·exact absurd h2.symm eV
 ·exact gP st.cl 7 m i h2 (iw m hm)
theorem Py:∀ {S:List SE} {s:Nat},(∀ x∈S,x.t≠s)->NA S s=none
 |[],_,_=>rfl
 |x::S,s,h=>by unfold NA;rw[ax (h x (fY ..))];exact Py λy hy=>h y (fp _ hy)
theorem Ki:∀ {S:List SE} {s:Nat} {v:Value},(∃ x∈S,x.t=s)->(∀ x∈S,x.t=s->x.v=v)->NA S s=some v
 |[],_,_,h,_=>by obtain⟨x,hx,_⟩:=h;cases hx
 |x::S,s,v,h,hv=>by
  unfold NA;by_cases e:x.t=s
  ·rw[aG e,hv x (fY ..) e]
  ·rw[ax e];refine Ki ?_ λy hy=>hv y (fp _ hy);obtain⟨y,hy,ey⟩:=h;rcases fR.1 hy with rfl|hy
   ·exact absurd ey e
   ·exact⟨y,hy,ey⟩
theorem Stood.full{r:Nat}{e:Nat->Value}{aa:List Nat}(rg:BG ops D T is)(hr:r∈T)(hT:T=[r])(all:∀ i∈is,∃ x∈S,x.i=i)(sub:∀ x∈S,x.i∈is)(uq:∀ x∈S,∀ y∈S,x.i=y.i->x=y)(lk:∀ x∈S,iO ops x.i=some x.t)
  (h:Stood ops e0 D S r e aa) (ha:((List.range ops.size).all λi=>i==r||reach ops 8 r i)=true):e=qC e0 S:=by
 obtain⟨L,st,tF,hl⟩:=h.listed ha;have du:∀ x∈S,x.i<ops.size/\x.i≠r:=λx hx=>⟨(rg.isT x.i (sub x hx)).2,λz=>(rg.isT x.i (sub x hx)).1 (by rw[z];exact hr)⟩;have h0:∀ s,(∀ x∈S,x.t≠s)->e s=e0 s:=λs hs=>by
  cases hd:G9 D s with
  |none=>exact st.v2 s hd
  |some w=>
   refine st.v3 s w hd λhw=>?_;have hds:=rg.d1 s w hd;rcases rg.cov w (nz hds)with h1|h1
   ·obtain⟨x,hx,rfl⟩:=all w h1;have:=lk x hx;rw[hds]at this;exact hs x hx (bR this).symm
   ·rw[hT]at h1;obtain rfl:=dL.1 h1;exact tF hw
 funext s
 unfold qC;by_cases hs:∃ x∈S,x.t=s
 ·obtain⟨x,hx,rfl⟩:=hs;rw[Ki (v:=x.v) ⟨x,hx,rfl⟩ λy hy ey=>by have:=uq y hy x hx (uY rg (lk y hy) (ey▸lk x hx));rw[this]]
  exact st.v1 x hx (hl x.i (du x hx).1 (du x hx).2)
 ·have nO:∀ x∈S,x.t≠s:=λx hx z=>hs ⟨x,hx,z⟩;rw[Py nO];exact h0 s nO
theorem HK{q:Nat}{c:Code}(D:List (Nat×Nat))(is:List Nat)(r:Nat)(S:List SE)(sw:SV P ao s fn kd n ds (cO c) k cs e0 D is S)(h:Way P ao s q (gr fn kd n (qC e0 S) ds (.inRegion (cO c) [r]::k) cs))
  (ha:((List.range (cO c).size).all λi=>i==r||reach (cO c) 8 r i)=true:=by decide+kernel) (hc:ck c=.draw:=by rfl) (hg:te (cO c) D [r] is=true:=by decide+kernel) (h40:Nat.ble (cO c).size 39=true:=by rfl):Way P ao s (q+40) (gr fn kd n e0 ds (.code c::k) cs):=by
 have h40:=xD h40;refine Way.mono (n:=(cO c).size+q+1) ?_ ai;refine zk D is [r] r S sw q (λe aa dI=>?_) (dL.2 rfl) (by simp) hc hg;rw[dI.aa ha,dI.full (T:=[r]) (uX hg) (dL.2 rfl) rfl sw.all sw.sub sw.uq sw.lk ha];exact h
end
section
variable{R:Nat->aM->Array Obj->Prop}{d:Nat}{fn:bJ}{kd:Kd}{n:Nat}{ds:List eo}{ops:Array Oper}{k:List Item}{cs:List Frame}{e0:Nat->Value}{D:List (Nat×Nat)}{W As:List HP}{T is:List Nat}{a:Nat}{S:List SE}
theorem resume{T2:List Nat}{r t0:Nat}{v:Value}(hg:te ops D (r::T2) is=true)(all:∀ i∈is,∃ x∈S,x.i=i)(sub:∀ x∈S,x.i∈is)(uq:∀ x∈S,∀ y∈S,x.i=y.i->x=y)(lk:∀ x∈S,iO ops x.i=some x.t)
  (ob:∀ x∈S,∃ Sx,(∀ y∈Sx,y∈⟨r,t0,v,false⟩::S)/\Zq R d fn kd n ds ops k cs e0 D W Sx x) (hl:∀ x∈S,x.ld=true->((r::T2).filter λt=> !reach ops 8 t x.i).length<=a) (ha:1<=a) (hW:Ext As W)
  (hT:∀ t∈T2,reach ops 8 t r=true) (hd:iO ops r=some t0) (ch:Ch R d fn kd n ds ops k cs e0 D W T2.length S T2 (a-1) [⟨r,t0,v,false⟩] As)
  {e:Nat->Value} {aa:List Nat} (h:Stood ops e0 D S r e aa):At R d As (gr fn kd n (put e t0 v) ds (.inRegion ops aa::k) cs):=by
 obtain⟨md,fuel,t,listed,hsz,hu,st,tF,iw,rfl⟩:=h;have rg:=uX hg;have du:r<ops.size:=nz hd;have AO:r<listed.size:=ai;have kS:=yh (listed:=listed) AO;have AA:listed[r]?.getD false=false:=by
  cases e:listed[r]?.getD false with
  |false=>rfl
  |true=>exact absurd e tF
 have hL:∀ j,((listed.setIfInBounds r true)[j]?.getD false=true)↔(j=r\/listed[j]?.getD false=true):=λj=>by rw[kS];by_cases e:j=r<;>simp[e]
 have Ha:v7 (λj=>(listed.setIfInBounds r true)[j]?.getD false) ops.size=fuel:=by have:=(uV (f:=λj=>listed[j]?.getD false) (f':=λj=>(listed.setIfInBounds r true)[j]?.getD false) (i:=r) AA (by simp[kS]) (λj hj=>by simp[kS,hj]) (m:=ops.size)).1 du;rw[hu]at this;omega
 have hnT:=si rg.nd;have aaQ:r∉T2:=(oX.1 hnT).1;have aaR:∀ x∈S,x.i≠r:=λx hx z=>(rg.isT x.i (sub x hx)).1 (by rw[z];exact fY ..);refine v8 (T:=r::T2) (is:=is) (a:=a) (W:=W) (lN:=As) (e0:=e0) (D:=D) rg fuel t (listed.setIfInBounds r true) (put e t0 v) S [⟨r,t0,v,false⟩] [r] T2 [] As (by simpa using hsz) Ha ⟨λx hx hLx=>?_,λs hs=>?_,λs w hs hw=>?_,λw hw j hj=>?_,?_,λu hu=>?_,λu hu z=>?_,λx hx=>?_,λu hu s hs=>?_,λx hx=>?_,λx hx=>?_,λi hi=>?_,hl,uq,ch,λ_=>hW⟩
 ·rcases bS.1 hx with hx|hx
  ·obtain rfl:=dL.1 hx;simp[put]
  ·have hxt:x.t≠t0:=λz=>aaR x hx (uY rg (lk x hx) (z▸hd));simp only[put,ax hxt];exact st.v1 x hx (((hL _).1 hLx).resolve_left (aaR x hx))
 ·have:s≠t0:=λz=>by subst z;rw[rg.d2 _ _ hd]at hs;cases hs
  simp only[put,ax this];exact st.v2 s hs
 ·have:s≠t0:=λz=>by subst z;rw[rg.d2 _ _ hd]at hs;exact hw ((hL w).2 (.inl (bR hs).symm))
  simp only[put,ax this];exact st.v3 s w hs λz=>hw ((hL w).2 (.inr z))
 ·rw[hL]at hw⊢;rcases hw with rfl|hw
  ·exact .inr (iw j hj)
  ·exact .inr (st.cl w hw j hj)
 ·simp
 ·obtain rfl:=dL.1 hu;exact(hL u).2 (.inl rfl)
 ·rcases(hL u).1 z with rfl|h
  ·exact aaQ hu
  ·rcases lR (f:=7) (hT u hu)with h2|⟨m,hm,h2⟩
   ·exact aaQ (h2▸hu)
   ·exact tF (gP st.cl 7 m r h2 (st.cl u h m hm))
 ·rcases bS.1 hx with hx|hx
  ·obtain rfl:=dL.1 hx;exact hd
  ·exact lk x hx
 ·obtain rfl:=dL.1 hu;rw[hd]at hs;exact⟨_,dL.2 rfl,bR hs⟩
 ·obtain rfl:=dL.1 hx;exact dL.2 rfl
 ·obtain⟨Sx,h1,h2⟩:=ob x hx;exact⟨.inl (sub x hx),Sx,h1,h2⟩
 ·exact all i (hi.resolve_right (by simp))
end
end
section
open Go.Conc
theorem dw{P:bL}{B:kJ}{α:Type}{s:Sem α}{v:α}{H:Array Obj}{d:Nat}{Q:α->Array Obj->Nat->Prop}(h:fW P s=some v)(q:Q v H d):dJ P B s H d Q:=by
 induction s with
 |pure a=>obtain rfl:=bR h;exact q
 |program k ih=>exact ih P h
 |_=>cases h
variable{P:bL}{ao:Bool}{B:kJ}{R:Nat->aM->Array Obj->Prop}{d:Nat}{As aP F:List HP}
variable{fn:bJ}{kd:Kd}{n:Nat}{e:Nat->Value}{ds:List eo}{k:List Item}{cs:List Frame}
variable{ops:Array Oper}{i:Nat}{aa:List Nat}{dst:Option Nat}{t:Nat}{ty:aO}{pos:String}{af:Array Edge}{gd:Option (Nat×Bool)}{x y z:cZ}{v:Value}
theorem ab.v0(C:ab P ao B R){op:Op}(ho:aZ ops i=some ⟨some t,op,ty,pos,af,gd⟩)(h:Nx R d As fn kd n e ds ops aa k cs t v)(hv:fW P (execOp (ev n e) ⟨some t,op,ty,pos,af,gd⟩)=some (.value v))(hw:aL ops n e gd=true:=by rfl):
  Nw R d As fn kd n e ds ops i aa k cs:=
 C.gen ho hw λH s=>dw hv ⟨As,s,h⟩
theorem ab.ta(C:ab P ao B R){xt tt:aO}{ok:Bool}{u:TypeDesc}(hu:P.underlying tt=some u)(RR:(match u with|.interface _=>true|_=>false)=false)(ho:aZ ops i=some ⟨some t,.typeAssert x xt tt ok,ty,pos,af,gd⟩)
  (h:Nx R d As fn kd n e ds ops aa k cs t (if ok then .tuple #[v,.bool true]else v)) (hx:ev n e x=.iface tt v:=by rfl) (hw:aL ops n e gd=true:=by rfl):
  Nw R d As fn kd n e ds ops i aa k cs:=
 C.v0 ho h (by unfold execOp;simp only[hx];refine bC (a:=if ok then .tuple #[v,.bool true]else v) ?_ rfl;unfold Instr.typeAssert;refine bC (fL hu) ?_;cases u<;>first|(cases RR;done)|(simp only[eN];rfl)) hw
theorem ab.taN(C:ab P ao B R){xt tt t0:aO}{u:TypeDesc}{zv:Value}(hu:P.underlying tt=some u)(RR:(match u with|.interface _=>true|_=>false)=false)(hz:∃ i,P.info? tt=some i/\i.zero=some zv)(ho:aZ ops i=some ⟨some t,.typeAssert x xt tt true,ty,pos,af,gd⟩)
  (h:Nx R d As fn kd n e ds ops aa k cs t (.tuple #[zv,.bool false])) (hx:ev n e x=.iface t0 v:=by rfl) (eV:t0≠tt:=by decide) (hw:aL ops n e gd=true:=by rfl):
  Nw R d As fn kd n e ds ops i aa k cs:=
 C.v0 ho h (by unfold execOp;simp only[hx];refine bC (a:=.tuple #[zv,.bool false]) ?_ rfl;unfold Instr.typeAssert;refine bC (fL hu) ?_;cases u<;>first|(cases RR;done)|(simp only[ax eV,eN];exact bC (rA hz) rfl)) hw
theorem ab.en(C:ab P ao B R){o:Oper}{f:bJ}{args:Array Value}{A:List HP}{Q:Value->List HP->Prop}(hs:aI P ao B f args A Q)(he:fW P (execOp (ev n e) o)=some (.enter f args))
  (h:∀ v aP,Q v aP->At R d (aP++F) (gr fn kd n (dm e o.dst v) ds (.inRegion ops aa::k) cs)) (ho:aZ ops i=some o:=by rfl)
  (hr:fg A As F:=by exact fg.au) (hw:aL ops n e o.guard=true:=by rfl):Nw R d As fn kd n e ds ops i aa k cs:=by
 refine At.perm hr.perm (C.gen ho hw λH s=>dw he ⟨A++F,s,?_⟩);exact hs R C .qL d F _ cs trivial λv aP q=>by show At R d (aP++F) (fy _ cs v);rw[po ho];exact h v aP q
theorem ab.x0(C:ab P ao B R){f:bJ}{fu:Func}{ex:Array Value->Sem Value}[b:eM P f fu ex]{fo:cZ}{args:Array cZ}{gy:Array aO}{vl:List Value}(hx:fW P (ex vl.toArray)=some v)
  (ho:aZ ops i=some ⟨dst,.call ⟨.value fo,args,gy⟩,ty,pos,af,gd⟩) (h:At R d As (gr fn kd n (dm e dst v) ds (.inRegion ops aa::k) cs)) (hf:ev n e fo=.func (.func f) #[] #[]:=by rfl) (hv:args.toList.map (ev n e)=vl:=by rfl) (hw:aL ops n e gd=true:=by rfl):
  Nw R d As fn kd n e ds ops i aa k cs:=
 C.xt (vl:=vl) (λH s=>dw hx ⟨As,s,h⟩) ho hw hf hv
theorem WT{tt el:aO}{dir:ChanDir}{inf:TypeInfo}(hu:P.underlying tt=some (.chan dir el))(hi:P.info? el=some inf){H:Array Obj}{Q:Next->Array Obj->Nat->Prop}(q:Q (.value (.chan (some H.size))) (H.push (.chan 0 #[] false 0 0 false)) d)
  (hx:ev n e x=.int .i64 0) {o:Oper} (cG:o.op=.makeChan tt x):dJ P B (execOp (ev n e) o) H d Q:=by
 unfold execOp;simp only[cG,hx];refine ae ?_;unfold Instr.makeChan;refine ae (dw (v:=(0:Int)) rfl ?_);refine ae (dw (fL hu) ?_);refine ae ?_;simp only[Int.lt_irrefl,false_or];refine dw (nD hi) ?_;have h1:¬ ((0:Int)>IntKind.i64.max):=by decide
 have h2:¬ ((inf.bytes:Int)*0>2^48-112):=by simp
 simp only[h1,h2,or_self,eR];show dJ P B (newObj (.chan 0 #[] false 0 0 false) >>= λr=>_) H d _;exact q
theorem ab.dfx(C:ab P ao B R){f:bJ}{fu:Func}{ex:Array Value->Sem Value}[b:eM P f fu ex]{cap uR:Array Value}{WU:List eo}{todo:List Item}{kd:Kd}
  (h:∀ H,Sat As (hp H)->dJ P B (ex (uR++cap)) H d λv H' d'=>∃ aP,Sat aP (hp H')/\At R d' aP (re fn kd n e WU todo cs)):At R d As (re fn kd n e (⟨.fn (.func f) cap,uR⟩::WU) todo cs):=λH s=>by
 refine C.step d _ H rfl λw np=>?_;have h0:dJ P B (invoke (.fn (.func f) cap) uR) H d λy H' d'=>∃ v,y=.value v/\R d' (re fn kd n e WU todo cs) H':=by unfold invoke callFunc;refine ae ?_;show dJ P B _ H d _;simp only[program,dJ];rw[b.func];simp only[b.name,b.body,eN,gn,eR];refine ae ?_;simp only[mark,dJ,kO,oH,o4];simp only[b.nx,b.fd];refine ae (pd (λv H' d' q=>?_) (h H s));obtain⟨aP,s',q⟩:=q;exact aA ⟨v,rfl,q H' s'⟩
 obtain⟨y,w',es,d',r1,r2,r3,r4,r5,r6,v,rfl,r7⟩:=pe (w:=w) #[] np h0;obtain⟨s1,s2⟩:=pg (P:=P) (d:=d) (fn:=fn) r5;rw[r6]at s2;refine⟨_,w',seen P fn es,?_,r2,r3,r4,s1,by rw[s2];exact r7⟩;simp only[xC,AL]at r1;simp only[re,qM,bq,stepG,unwind,callDeferred,r1];simp[GStep.after,Kd.k]
variable{Post:Value->World->Prop}{X:tO}{σ:Gh}{os:Os}{out:Array (Nat×ByteArray)}
theorem aE.mc{tt el:aO}{dir:ChanDir}{inf:TypeInfo}(hu:P.underlying tt=some (.chan dir el))(hi:P.info? el=some inf)(ho:aZ ops i=some ⟨some t,.makeChan tt x,ty,pos,af,gd⟩)
  (h:∀ b,(∀ i s,σ.aQ i=some s->¬ s.has b)->At (aE P Post X σ 0 os out) d (da b (.chan 0 #[] false 0 0 false)::As) (gr fn kd n (put e t (.chan (some b))) ds (.inRegion ops aa::k) cs))
  (hx:ev n e x=.int .i64 0:=by rfl) (hw:aL ops n e gd=true:=by rfl):At (aE P Post X σ 0 os out) d As (gr fn kd n e ds (.inRegion ops (i::aa)::k) cs):=λH st hole go w HI mq Ha=>by
 have C:ab P true (X.bw σ) (aE P Post X σ 0 os out):=aE.ew;refine C.op (H:=H) (d:=d) (fn:=fn) (kd:=kd) (n:=n) (e:=e) (ds:=ds) (k:=k) (cs:=cs) (ops:=ops) (i:=i) (aa:=aa) (by rw[dv];exact ho) (by rw[eH];exact hw) ?_ hole go w HI mq Ha;refine WT hu hi ?_ hx rfl;refine h _ (λi' s' e' hc=>?_) _ (st.push _);have:=go.cl i' s' _ e' hc;omega
theorem aE.pR{f:bJ}{cap uR:Array Value}{WU:List eo}{todo:List Item}{kd:Kd}{A:List HP}{Q:Value->Gh->List HP->Prop}{fu:Func}{cc:Code}{nf:Nat}[b:Body P f fu cc nf](hs:bA P X f (uR++cap) σ A Q)
  (h:∀ v σ' aP,Q v σ' aP->At (aE P Post X σ' 0 os out) 0 (aP++F) (re fn kd n e WU todo cs)) (hr:fg A As F:=by exact fg.au):At (aE P Post X σ 0 os out) 0 As (re fn kd n e (⟨.fn (.func f) cap,uR⟩::WU) todo cs):=by
 refine At.perm hr.perm ?_;have C:ab P true (X.bw σ) (aE P Post X σ 0 os out):=aE.ew;intro H st;refine C.SA (f:=f) (args:=uR) (.inr ⟨cap,rfl⟩) ?_;refine nY (P:=P) (f:=f) (uR++cap) _ H 0 _ ?_;refine⟨f,_,rfl,?_⟩;exact hs Post os out .pR F (qM fn kd n e WU todo) cs rfl (λv σ' aP q=>h v σ' aP q) H st
theorem yn{H:Array Obj}{b o:Nat}{c:Array Value}{el:aO}{Q:Bool->Array Obj->Nat->Prop}(h1:hp H b=some (.cells c el (0,0)))(q:Q false H d):dJ P B (frozen ⟨b,o,none⟩) H d Q:=by have AR:H[b]? =some (.cells c el (0,0)):=h1;simp only[frozen,dJ,ye,AR];simpa using q
theorem Fb{H:Array Obj}{b o:Nat}{c:Array Value}{el:aO}{Q:Bool->Array Obj->Nat->Prop}(h1:hp H b=some (.cells c el (0,0)))(q:Q false H d):dJ P B (stringish ⟨b,o,none⟩) H d Q:=by unfold stringish;refine ae (yn h1 ?_);simp only[gn,eR];refine ae ?_;have AR:H[b]? =some (.cells c el (0,0)):=h1;simp only[shape,dJ,tJ,AR];exact yn h1 q
theorem Pz{H:Array Obj}{b1 o1 b2 o2:Nat}{c1 c2:Array Value}{e1 e2:aO}{Q:Bool->Array Obj->Nat->Prop}(h1:hp H b1=some (.cells c1 e1 (0,0)))(h2:hp H b2=some (.cells c2 e2 (0,0)))
  (q:Q (decide (b1=b2/\o1=o2)) H d):dJ P B (sameAddr ⟨b1,o1,none⟩ ⟨b2,o2,none⟩) H d Q:=by
 unfold sameAddr;by_cases hb:b1=b2
 ·subst hb;simp only[beq_self_eq_true,eN];refine ae (aA ?_);have:((⟨b1,o1,none⟩:Addr)==⟨b1,o2,none⟩)=decide (b1=b1/\o1=o2):=by rw[Bool.eq_iff_iff];simp
  first|exact aA (by rw[this];exact q)|(simp only[this];exact q)
 ·have hbb:(b1==b2)=false:=by simpa using hb
  simp only[hbb,gn,eR];refine ae (yn h1 ?_);refine ae (yn h2 ?_);simp only[Bool.and_self,gn,eR];refine ae (ae ?_);refine qb h1 ?_;refine aA ?_;refine ae (ae ?_);refine qb h2 ?_;refine aA ?_;refine ae ?_;unfold mayBeOne;refine ae (Fb h1 ?_);refine ae (Fb h2 ?_);refine ae (ae ?_);have AR:H[b1]? =some (.cells c1 e1 (0,0)):=h1;have Nz:H[b2]? =some (.cells c2 e2 (0,0)):=h2;simp only[shape,dJ,tJ,AR];refine aA ?_;refine ae (ae ?_);simp only[shape,dJ,tJ,Nz];refine aA ?_;simp only[yD,Bool.or_self];refine aA ?_;have:decide (b1=b2/\o1=o2)=false:=by simp[hb]
  rw[this]at q;exact q
theorem SW{H:Array Obj}{b1 o1 b2 o2:Nat}{c1 c2:Array Value}{e1 e2 tt tx tp:aO}{sz:Nat}{ms:Array (String×aO)}{inf:TypeInfo}{Q:Bool->Array Obj->Nat->Prop}(hu:P.underlying tt=some (.interface ms))(hi:P.info? tx=some inf)(hc:inf.comparable=true)[c:Pt P tx tp][cz:Cz P tp sz](hz:sz≠0)
  (h1:hp H b1=some (.cells c1 e1 (0,0))) (h2:hp H b2=some (.cells c2 e2 (0,0))) (q:Q (decide (b1=b2/\o1=o2)) H d):dJ P B (Op.equal tt (.iface tx (.pointer (some ⟨b1,o1,none⟩))) (.iface tx (.pointer (some ⟨b2,o2,none⟩)))) H d Q:=by
 unfold Op.equal;show dJ P B (Op.equalIn (9998+1+1) _ _ _) H d Q;unfold Op.equalIn;refine ae (dw (fL hu) ?_);simp only[ne_eq,Hg,eR];refine ae (dw (nD hi) ?_);simp only[hc,s5,gn,eR];unfold Op.equalIn;refine ae (dw (fL c.h) ?_);simp only;refine ae (iy B H d _ ?_);simp only[ne_eq,hz,not_false_eq_true,eN];exact Pz h1 h2 q
theorem SX{H:Array Obj}{tt tx ty:aO}{u w:Value}{ms:Array (String×aO)}{Q:Bool->Array Obj->Nat->Prop}(hu:P.underlying tt=some (.interface ms))(eV:tx≠ty)(q:Q false H d):dJ P B (Op.equal tt (.iface tx u) (.iface ty w)) H d Q:=by unfold Op.equal;show dJ P B (Op.equalIn (9998+1+1) _ _ _) H d Q;unfold Op.equalIn;refine ae (dw (fL hu) ?_);simp only[ne_eq,eV,not_false_eq_true,eN];exact aA q
def isEq:BinOp->Option Bool
 |.eql=>some true
 |.neq=>some false
 |_=>none
theorem Kj{H:Array Obj}{op:BinOp}{r:Bool}{tt tx ty:aO}{u w:Value}{Q:Value->Array Obj->Nat->Prop}(cG:isEq op=some r)(h:dJ P B (Op.equal tt (.iface tx u) (.iface ty w)) H d λz H' d'=>Q (.bool (z==r)) H' d'):dJ P B (do eqGuard op tt x y (.iface tx u) (.iface ty w);binOp op tt (.iface tx u) (.iface ty w)) H d Q:=by
 cases op<;>first|(cases cG;done)|skip
 ·obtain rfl:=bR cG;refine ae (dw (v:=()) ?_ ?_)
  ·unfold eqGuard;rfl
  ·show dJ P B (Op.equal _ _ _ >>= λz=>pure (.bool z)) H d Q;refine ae (pd (λz H' d' hz=>?_) h);refine aA (?_);simpa using hz
 ·obtain rfl:=bR cG;refine ae (dw (v:=()) ?_ ?_)
  ·unfold eqGuard;rfl
  ·show dJ P B (Op.equal _ _ _ >>= λz=>pure (.bool (!z))) H d Q;refine ae (pd (λz H' d' hz=>?_) h);refine aA (?_);simpa using hz
theorem ab.Vi(C:ab P ao B R){op:BinOp}{r:Bool}{b1 o1 b2 o2:Nat}{c1 c2:Array Value}{e1 e2 tt t2 tx tp:aO}{sz:Nat}{ms:Array (String×aO)}{inf:TypeInfo}(hu:P.underlying tt=some (.interface ms))(hi:P.info? tx=some inf)(hc:inf.comparable=true)[c:Pt P tx tp][cz:Cz P tp sz]
  (ho:aZ ops i=some ⟨some t,.binOp op tt x y t2,ty,pos,af,gd⟩) (h:At R d As (gr fn kd n (put e t (.bool (decide (b1=b2/\o1=o2)==r))) ds (.inRegion ops aa::k) cs)) (h1:∀ H,Sat As (hp H)->hp H b1=some (.cells c1 e1 (0,0))) (h2:∀ H,Sat As (hp H)->hp H b2=some (.cells c2 e2 (0,0)))
  (cG:isEq op=some r:=by rfl) (hx:ev n e x=.iface tx (.pointer (some ⟨b1,o1,none⟩)):=by rfl) (hy:ev n e y=.iface tx (.pointer (some ⟨b2,o2,none⟩)):=by rfl) (hz:sz≠0:=by decide) (hw:aL ops n e gd=true:=by rfl):Nw R d As fn kd n e ds ops i aa k cs:=
 C.gen ho hw λH s=>by unfold execOp;simp only[hx,hy];exact ae (Kj cG (SW hu hi hc hz (h1 H s) (h2 H s) ⟨As,s,h⟩))
theorem ab.eqN(C:ab P ao B R){op:BinOp}{r:Bool}{tt t2 tx U1:aO}{u w:Value}{ms:Array (String×aO)}(hu:P.underlying tt=some (.interface ms))(ho:aZ ops i=some ⟨some t,.binOp op tt x y t2,ty,pos,af,gd⟩)(h:Nx R d As fn kd n e ds ops aa k cs t (.bool (false==r)))
  (cG:isEq op=some r:=by rfl) (hx:ev n e x=.iface tx u:=by rfl) (hy:ev n e y=.iface U1 w:=by rfl) (eV:tx≠U1:=by decide) (hw:aL ops n e gd=true:=by rfl):Nw R d As fn kd n e ds ops i aa k cs:=
 C.gen ho hw λH s=>by unfold execOp;simp only[hx,hy];exact ae (Kj cG (SX hu eV ⟨As,s,h⟩))
theorem ab.Vj(C:ab P ao B R){op:BinOp}{r:Bool}{tt t2 tx:aO}{u:Value}{ms:Array (String×aO)}(hu:P.underlying tt=some (.interface ms))(ho:aZ ops i=some ⟨some t,.binOp op tt x y t2,ty,pos,af,gd⟩)(h:Nx R d As fn kd n e ds ops aa k cs t (.bool (false==r)))
  (cG:isEq op=some r:=by rfl) (hx:ev n e x=.iface tx u:=by rfl) (hy:ev n e y=.nilIface:=by rfl) (hw:aL ops n e gd=true:=by rfl):Nw R d As fn kd n e ds ops i aa k cs:=
 C.v0 ho h (by
  unfold execOp;simp only[hx,hy];refine bC (a:=.bool (false==r)) ?_ rfl;have h0:fW P (Op.equal tt (.iface tx u) .nilIface)=some false:=by unfold Op.equal;show fW P (Op.equalIn (9998+1+1) _ _ _)=_;unfold Op.equalIn;exact bC (fL hu) rfl
  cases op<;>first|(cases cG;done)|skip
  ·obtain rfl:=bR cG;refine bC (a:=()) (by unfold eqGuard;rfl) ?_;exact bC h0 rfl
  ·obtain rfl:=bR cG;refine bC (a:=()) (by unfold eqGuard;rfl) ?_;exact bC h0 rfl) hw
def isK:cZ->Bool
 |.const _=>true
 |_=>false
theorem ab.WW(C:ab P ao B R){op:BinOp}{r:Bool}{tt t2:aO}{ms:Array (String×aO)}(hu:P.underlying tt=some (.interface ms))(ho:aZ ops i=some ⟨some t,.binOp op tt x y t2,ty,pos,af,gd⟩)(h:Nx R d As fn kd n e ds ops aa k cs t (.bool (true==r)))
  (hl:(isK x||isK y)=true:=by rfl) (cG:isEq op=some r:=by rfl) (hx:ev n e x=.nilIface:=by rfl) (hy:ev n e y=.nilIface:=by rfl) (hw:aL ops n e gd=true:=by rfl):Nw R d As fn kd n e ds ops i aa k cs:=
 C.v0 ho h (by
  unfold execOp;simp only[hx,hy];refine bC (a:=.bool (true==r)) ?_ rfl;have h0:fW P (Op.equal tt .nilIface .nilIface)=some true:=by unfold Op.equal;show fW P (Op.equalIn (9998+1+1) _ _ _)=_;unfold Op.equalIn;exact bC (fL hu) rfl
  cases op<;>first|(cases cG;done)|skip
  ·obtain rfl:=bR cG;refine bC (a:=()) (by cases x<;>cases y<;>first|rfl|(cases hl;done)) ?_;exact bC h0 rfl
  ·obtain rfl:=bR cG;refine bC (a:=()) (by cases x<;>cases y<;>first|rfl|(cases hl;done)) ?_;exact bC h0 rfl) hw
theorem ab.Vk(C:ab P ao B R){op:BinOp}{r:Bool}{tt t2 el:aO}[cE:El P tt el]{a:Option Addr}{len cap:Nat}(ho:aZ ops i=some ⟨some t,.binOp op tt x y t2,ty,pos,af,gd⟩)(h:Nx R d As fn kd n e ds ops aa k cs t (.bool (a.isNone==r)))
  (cG:isEq op=some r:=by rfl) (hx:ev n e x=.slice a len cap:=by rfl) (hy:ev n e y=.slice none 0 0:=by rfl) (hw:aL ops n e gd=true:=by rfl):Nw R d As fn kd n e ds ops i aa k cs:=
 C.v0 ho h (by
  unfold execOp;simp only[hx,hy];refine bC (a:=.bool (a.isNone==r)) ?_ rfl;have h0:fW P (Op.equal tt (.slice a len cap) (.slice none 0 0))=some a.isNone:=by unfold Op.equal;show fW P (Op.equalIn (9998+1+1) _ _ _)=_;unfold Op.equalIn;refine bC (fL cE.h) ?_;cases a<;>rfl
  cases op<;>first|(cases cG;done)|skip
  ·obtain rfl:=bR cG;refine bC (a:=()) (by unfold eqGuard;rfl) ?_;refine bC h0 ?_;cases a<;>rfl
  ·obtain rfl:=bR cG;refine bC (a:=()) (by unfold eqGuard;rfl) ?_;refine bC h0 ?_;cases a<;>rfl) hw
theorem ab.bs0(C:ab P ao B R){α:Type}(f:α->List Value){tt el z:Nat}[cE:El P tt el][Cz P el z](ho:aZ ops i=some ⟨some t,.buildSlice tt 0 #[],ty,pos,af,gd⟩)
  (h:∀ b,At R d (bG f z el ⟨some ⟨b,0,none⟩,0,0⟩ []::As) (gr fn kd n (put e t (az.v ⟨some ⟨b,0,none⟩,0,0⟩)) ds (.inRegion ops aa::k) cs)) (hw:aL ops n e gd=true:=by rfl):Nw R d As fn kd n e ds ops i aa k cs:=
 C.gen ho hw λH s=>by
  unfold execOp;simp only[Instr.buildSlice];refine ae (ae (dF cE.h B H d _ ?_));refine ae (iy B H d _ ?_);simp only[NT,eN];rw[ax ai];refine ae ?_;refine aA ?_;have e2:(Array.map (λx:Nat×cZ=>(x.fst,ev n e x.snd)) #[]).toList=[]:=by simp
  rw[e2];show dJ P B (newRow el _ >>= λa=>pure (Value.slice (some a) 0 0)) H d _;refine ae ?_;unfold newRow;refine ae ?_;show dJ P B (.new _ _) H d _;simp only[dJ];show dJ P B (pure _) _ d _;refine aA (aA ⟨_,(s.push _).imp (λhh x=>?_),h _⟩);refine .inr ⟨_,[],rfl,by simp,by simp,?_⟩;have e1:Array.map (λx=>(#[]:Array Value)[x%(#[]:Array Value).size]!) (Array.range 0)=gL f [] []:=by simp[gL,flat]
  rw[<- e1];exact x
theorem ab.v9(C:ab P ao B R){tt el b off:Nat}{c:Array Value}{fr:Nat×Nat}{I:HL}{L:List HP}[Ag P tt false](hf:Fo (bD I) As L)(hI:I b=some (.cells c el fr))(hs:B.sh el off=false)(ho:aZ ops i=some ⟨some t,.load tt x,ty,pos,af,gd⟩)(h:Nx R d As fn kd n e ds ops aa k cs t v)
  (hx:ev n e x=.pointer (some ⟨b,off,none⟩):=by rfl) (hc:c[off]? =some v:=by rfl) (hw:aL ops n e gd=true:=by rfl):Nw R d As fn kd n e ds ops i aa k cs:=
 C.gen ho hw λH st=>by have hg:hp H b=some (.cells c el fr):=(st.perm hf.perm).rh hI;unfold execOp;simp only[hx,Instr.loadAt,Instr.sureAddr];exact ae (ae (aA (iT hg hc hs ⟨As,st,h⟩)))
variable{Z:World->Prop}{W:Nat->aM->Prop}{q:Nat}
variable{f:bJ}{fu:Func}{args:Array cZ}{gy:Array aO}
theorem Mt.xk(M:Mt P ao Z W){v:Value}[b:eM P f fu (λ_=>pure v)](ho:aZ ops i=some ⟨dst,.call ⟨.value (.func f),args,gy⟩,ty,pos,af,gd⟩)(h:W q (gr fn kd n (dm e dst v) ds (.inRegion ops aa::k) cs))(hw:aL ops n e gd=true:=by rfl):W (q+1) (gr fn kd n e ds (.inRegion ops (i::aa)::k) cs):=
 M.s _ _ _ rfl (λw _=>by rw[jY,jY,<- lX];exact stepG_entry (o:=⟨dst,.call ⟨.value (.func f),args,gy⟩,ty,pos,af,gd⟩) (by rw[dv];exact ho) (by rw[eH];exact hw) jZ rfl b.func b.name b.body b.nx b.fd (by simp) (by simp) (by simp)) h
theorem BP(m:Mark)[b:eM P f fu (λ_=>do mark m;pure Extern.Race.none_)]{av:Array Value}{todo:List Item}(hm:∀ g,m≠ .extern g)(w:World):
  stepG P ao (re fn kd n e (⟨.fn (.func f) #[],av⟩::ds) todo cs) w=.go (re fn kd n e ds todo cs) w #[AE m]:=
 stepG_unwind_entry (b:=bs fn kd) (a:=⟨tm n e,⟨.fn (.func f) #[],av⟩::ds⟩) (todo:=todo) (cs:=cs) (ds:=ds) (f:=f) (args:=av) (v:=.tuple #[]) rfl b.func b.name b.body b.nx b.fd (by simp[Extern.Race.none_]) (by simp) (by intro x hx;simp at hx;subst hx;exact⟨rfl,λg h=>hm g (by cases h;rfl)⟩)
variable{G:qT}
theorem WX{g g':aM}(hs:g.status=.running)(h:∀ w,stepG P false g w=.go g' w #[AE (.releaseMerge G.st)])(k:Cl P G q .yb g'):Cl P G (q+1) .rel g:=⟨hs,.inr ⟨g',h,k⟩⟩
theorem WY{g g':aM}(hs:g.status=.running)(h:∀ w,stepG P false g w=.go g' w #[AE .disable])(k:Cl P G q .add g'):Cl P G (q+1) .yb g:=⟨hs,.inr ⟨g',h,k⟩⟩
theorem WZ{g:aM}(g':Nat->Nat->aM)(hs:g.status=.running)(h:∀ w v wt,v<=3->wt<=1->w.cell? G.st=some (mH (v+1) wt)->w.frozen? G.st=false->stepG P false g w=.go (g' v wt) (w.setCell G.st (mH v wt)) #[ar G.st,aw G.st])
  (k1:Cl P G q .ld (g' 0 1)) (k2:∀ v wt,v<=3->wt<=1->¬ (v=0/\wt=1)->QuitsD P q 1 (g' v wt)):Cl P G (q+1) .add g:=⟨hs,.inr ⟨g',h,k1,k2⟩⟩
theorem SY[b:eM P f fu (Extern.Atomic.update (Op.intArith .add) .u64 true)](ho:aZ ops i=some ⟨dst,.call ⟨.value (.func f),#[x,y],gy⟩,ty,pos,af,gd⟩)(k1:Cl P G q .ld (gr fn kd n (dm e dst (mH 0 1)) ds (.inRegion ops aa::k) cs))
  (k2:∀ v wt,v<=3->wt<=1->¬ (v=0/\wt=1)->QuitsD P q 1 (gr fn kd n (dm e dst (mH v wt)) ds (.inRegion ops aa::k) cs)) (hx:ev n e x=.pointer (some G.st):=by rfl) (hy:ev n e y=.int .u64 18446744069414584320:=by rfl) (hw:aL ops n e gd=true:=by rfl):Cl P G (q+1) .add (gr fn kd n e ds (.inRegion ops (i::aa)::k) cs):=by
 refine WZ (λv wt=>gr fn kd n (dm e dst (mH v wt)) ds (.inRegion ops aa::k) cs) rfl (λw v wt hv np hc hz=>?_) k1 k2;have:=Pj (P:=P) (f:=f) (ao:=false) (fn:=fn) (kd:=kd) (ds:=ds) (k:=k) (cs:=cs) (aa:=aa) (kk:=.u64) (v:=((v+1:Nat):Int)*KQ+wt) (d:=18446744069414584320) ho hw hx hy hc hz;have e1:IntKind.u64.wrap (((v+1:Nat):Int)*KQ+wt+18446744069414584320)=(v:Int)*KQ+wt:=by
  have:(2^IntKind.u64.bits:Int)=18446744073709551616:=by decide
  simp only[IntKind.wrap,KQ,this];rw[ax (by simp[IntKind.signed])];omega
 rw[e1]at this;exact this
theorem aaT{g g':aM}(hs:g.status=.running)(h:∀ w,w.cell? G.st=some (mH 0 1)->stepG P false g w=.go g' w #[ar G.st])(k:Cl P G q .Nt g'):Cl P G (q+1) .ld g:=⟨hs,.inr ⟨g',h,k⟩⟩
theorem W0{g g':aM}(hs:g.status=.running)(h:∀ w,w.cell? G.st=some (mH 0 1)->w.frozen? G.st=false->stepG P false g w=.go g' (w.setCell G.st (mH 0 0)) #[aw G.st])(k:Cl P G q .Hk g'):Cl P G (q+1) .Nt g:=⟨hs,.inr ⟨g',h,k⟩⟩
theorem W1{g g':aM}(hs:g.status=.running)(hm:mayWake P g=true)(h:∀ w,w.cell? G.sm=some (s6 0)->w.frozen? G.sm=false->stepG P false g w=.go g' (w.setCell G.sm (s6 1)) (semEvents G.sm))(k:QuitsD P q 1 g'):Cl P G (q+1) .Hk g:=⟨hs,.inr ⟨hm,g',h,k⟩⟩
theorem PA{ex:Array Value->Sem Value}[b:eM P f fu ex](ho:aZ ops i=some ⟨dst,.call ⟨.value (.func f),args,gy⟩,ty,pos,af,gd⟩):mayWake P (gr fn kd n e ds (.inRegion ops (i::aa)::k) cs)=true:=by
 have mq:ops[i]? =some ⟨dst,.call ⟨.value (.func f),args,gy⟩,ty,pos,af,gd⟩:=by rw[dv];exact ho
 have h1:(P.funcs[f]?).any (·.body.isSome)=false:=by
  rw[b.func];have:=b.body;cases hb:fu.body with
  |none=>simp[hb]
  |some c=>rw[hb]at this;cases this
 unfold mayWake;simp only[gr,bq,mq,jR];simp[Frame.eval,h1]
theorem BQ{g g':aM}(hs:g.status=.running)(h:∀ w,stepG P false g w=.go g' w #[AE .enable])(k:QuitsD P q 0 g'):QuitsD P (q+1) 1 g:=.inr ⟨hs,g',_,λe he=>by simp at he;subst he;rfl,h,k⟩
theorem BR:QuitsD P (q+1) 0 (w5 (base P []) []):=QuitsD.E4 (LG rfl) ai
variable{Fin:aM->Prop}
theorem W2{v v':Nat}(h:v'<v):((v':Int)*KQ+(0:Nat))≠((v:Int)*KQ+(0:Nat)):=by unfold KQ;omega
theorem W3[b:eM P f fu (λ_=>do mark .disable;pure Extern.Race.none_)]{c:Nat}(ho:aZ ops i=some ⟨dst,.call ⟨.value (.func f),args,gy⟩,ty,pos,af,gd⟩)(h:MW P G Fin (.head c) (gr fn kd n (dm e dst (.tuple #[])) ds (.inRegion ops aa::k) cs))(hw:aL ops n e gd=true:=by rfl):MW P G Fin (.yb c) (gr fn kd n e ds (.inRegion ops (i::aa)::k) cs):=
 .yb rfl (λw=>zb .disable ho hw (by intro g;simp) w) h
theorem SZ[b:eM P f fu (Extern.Atomic.loadT (.int .u64))]{c:Nat}(ho:aZ ops i=some ⟨dst,.call ⟨.value (.func f),#[x],gy⟩,ty,pos,af,gd⟩)(k0:MW P G Fin .OC (gr fn kd n (dm e dst (mH 0 0)) ds (.inRegion ops aa::k) cs))(k1:∀ v,1<=v->v<=c->MW P G Fin (.Sr v) (gr fn kd n (dm e dst (mH v 0)) ds (.inRegion ops aa::k) cs))
  (hx:ev n e x=.pointer (some G.st):=by rfl) (hw:aL ops n e gd=true:=by rfl):MW P G Fin (.head c) (gr fn kd n e ds (.inRegion ops (i::aa)::k) cs):=
 .load (λv=>gr fn kd n (dm e dst (mH v 0)) ds (.inRegion ops aa::k) cs) rfl (λw v _ hc=>ze ho hw hx hc) k0 k1
theorem W4[b:eM P f fu (Extern.Atomic.casT (.int .u64))]{v:Nat}(ho:aZ ops i=some ⟨dst,.call ⟨.value (.func f),#[x,y,z],gy⟩,ty,pos,af,gd⟩)(k1:MW P G Fin .reg (gr fn kd n (dm e dst (.bool true)) ds (.inRegion ops aa::k) cs))(k2:MW P G Fin (.head (v-1)) (gr fn kd n (dm e dst (.bool false)) ds (.inRegion ops aa::k) cs))
  (hx:ev n e x=.pointer (some G.st):=by rfl) (hy:ev n e y=mH v 0:=by rfl) (hz:ev n e z=mH v 1:=by rfl) (hw:aL ops n e gd=true:=by rfl):MW P G Fin (.Sr v) (gr fn kd n e ds (.inRegion ops (i::aa)::k) cs):=
 .Sr rfl (λw hc hf=>Pk ho hw hx hy hz hc hf) (λw v' hv hc hf=>Pl ho hw hx hy hz hc hf (W2 hv)) k1 k2
theorem S0[b:eM P f fu (Extern.Race.marked .write)](ho:aZ ops i=some ⟨dst,.call ⟨.value (.func f),args,gy⟩,ty,pos,af,gd⟩)(h:MW P G Fin .reg (gr fn kd n (dm e dst (.tuple #[])) ds (.inRegion ops aa::k) cs))(hx:(args.toList.map (ev n e))[0]? =some (.pointer (some G.sm)):=by rfl)(hw:aL ops n e gd=true:=by rfl):MW P G Fin .reg (gr fn kd n e ds (.inRegion ops (i::aa)::k) cs):=
 .said rfl (λw=>zd .write ho hw (by intro ad g;simp) hx w) h
theorem W5[b:eM P f fu Extern.Sync.semacquire](ho:aZ ops i=some ⟨dst,.call ⟨.value (.func f),args,gy⟩,ty,pos,af,gd⟩)(h:MW P G Fin .last (gr fn kd n (dm e dst (.tuple #[])) ds (.inRegion ops aa::k) cs))(hx:(args.toList.map (ev n e))[0]? =some (.pointer (some G.sm)):=by rfl)(hw:aL ops n e gd=true:=by rfl):MW P G Fin .reg (gr fn kd n e ds (.inRegion ops (i::aa)::k) cs):=
 .Hk rfl rfl (λw hc=>Pn ho hw hx hc) (λw hc hz=>Pm ho hw hx hc (by decide) hz) h
theorem S3[b:eM P f fu (Extern.Atomic.loadT (.int .u64))](ho:aZ ops i=some ⟨dst,.call ⟨.value (.func f),#[x],gy⟩,ty,pos,af,gd⟩)(h:MW P G Fin .OC (gr fn kd n (dm e dst (mH 0 0)) ds (.inRegion ops aa::k) cs))(hx:ev n e x=.pointer (some G.st):=by rfl)(hw:aL ops n e gd=true:=by rfl):MW P G Fin .last (gr fn kd n e ds (.inRegion ops (i::aa)::k) cs):=
 .last rfl (λw hc=>ze ho hw hx hc) h
theorem PB[b:eM P f fu (λ_=>do mark .enable;pure Extern.Race.none_)](ho:aZ ops i=some ⟨dst,.call ⟨.value (.func f),args,gy⟩,ty,pos,af,gd⟩)(h:MW P G Fin .acq (gr fn kd n (dm e dst (.tuple #[])) ds (.inRegion ops aa::k) cs))(hw:aL ops n e gd=true:=by rfl):MW P G Fin .OC (gr fn kd n e ds (.inRegion ops (i::aa)::k) cs):=
 .OC rfl (λw=>zb .enable ho hw (by intro g;simp) w) h
theorem PC[b:eM P f fu (Extern.Race.marked .acquire)](ho:aZ ops i=some ⟨dst,.call ⟨.value (.func f),args,gy⟩,ty,pos,af,gd⟩)(h:Fin (gr fn kd n (dm e dst (.tuple #[])) ds (.inRegion ops aa::k) cs))(hx:(args.toList.map (ev n e))[0]? =some (.pointer (some G.st)):=by rfl)(hw:aL ops n e gd=true:=by rfl):MW P G Fin .acq (gr fn kd n e ds (.inRegion ops (i::aa)::k) cs):=
 .acq rfl (λw=>zd .acquire ho hw (by intro ad g;simp) hx w) h
theorem ab.df(C:ab P ao B R){f:bJ}{a1 a2:Array Value}{fo:cZ}{args:Array cZ}{gy:Array aO}{vl:List Value}(ho:aZ ops i=some ⟨dst,.defer ⟨.value fo,args,gy⟩,ty,pos,af,gd⟩)
  (h:At R d As (gr fn kd n (dm e dst undef) (⟨.fn (.func f) a2,a1++vl.toArray⟩::ds) (.inRegion ops aa::k) cs)) (hf:ev n e fo=.func (.func f) a1 a2:=by rfl) (hv:args.toList.map (ev n e)=vl:=by rfl) (hw:aL ops n e gd=true:=by rfl):Nw R d As fn kd n e ds ops i aa k cs:=
 C.gen ho hw λH s=>by
  have qK:args.map (ev n e)=vl.toArray:=by rw[<- hv,<- qZ,tC]
  refine dw (v:=Next.defer ⟨.fn (.func f) a2,a1++vl.toArray⟩) ?_ ?_
  rotate_left
  ·exact⟨As,s,h⟩
  unfold execOp;simp only;refine bC (a:=⟨.fn (.func f) a2,a1++vl.toArray⟩) ?_ rfl;unfold resolve;simp only[hf,Deferred.ofValue,qK];rfl
theorem ab.Fc(C:ab P ao B R)(h:At R d As (re fn kd n e ds (.code .ret::k) cs)):At R d As (gr fn kd n e ds (.code .ret::k) cs):=λH s=>C.ret (h H s)
theorem ab.fnA(C:ab P ao B R)(h:At R d As (re fn kd n e ds [] cs)):At R d As (gr fn kd n e ds [] cs):=λH s=>C.fin (h H s)
theorem ab.aaU(C:ab P ao B R){f:bJ}{fu:Func}[x:eM P f fu (λ_=>do mark .enable;pure Extern.Race.none_)]{av:Array Value}{todo:List Item}(h:At R (d-1) As (re fn kd n e ds todo cs)):At R d As (re fn kd n e (⟨.fn (.func f) #[],av⟩::ds) todo cs):=
 C.dfx (f:=f) λH s=>by show dJ P B (mark .enable >>= λ_=>pure Extern.Race.none_) H d _;refine ae ?_;simp only[mark,dJ,kO,oH,o4];exact aA ⟨As,s,h⟩
theorem ab.S4(C:ab P ao B R){fu:Func}{cc:Code}{n':Nat}[b:Body P fn fu cc n']{slot t0 bb z:Nat}{el:aO}{xs:Array Value}[Ag P t0 true][Cz P t0 z]{c:Frame}{w:Code}{Q:Value->List HP->Prop}{A:List HP}(hr:fu.results=#[.cell slot t0])(aT:xN kd c)(ak:∀ v aP,Q v aP->At R d (aP++F) (after kd c cs v))(q:Q (.agg xs) A)
  (he:ev n e (.tmp slot)=.pointer (some ⟨bb,0,none⟩):=by rfl) (hh:Kn As bb (.cells xs el (0,0)):=by apply Has.kn;(repeat(first|with_reducible exact Has.head|with_reducible apply Has.tail));done) (hsz:xs.size=z:=by rfl) (hs:∀ j,B.sh el j=false:=by intro j;rfl) (hx:ck w=.ret:=by rfl)
  (hA:cV As (A++F):=by exact cV.au):At R d As (gr fn kd n e [] (.code w::k) (c::cs)):=λH s=>by
 have zz:=fN hx;simp only at zz;subst zz;have hg:=hh _ s;have key:∀ {Q':Value->Array Obj->Nat->Prop},Q' (.agg xs) H d->dJ P B (results fu (tm n e)) H d Q':=λq'=>by
  unfold results;rw[hr,NZ];simp only[V4,List.mapM_nil,N3,bind_assoc,pure_bind,uP];have xM:(if slot<n then e slot else undef)=.pointer (some ⟨bb,0,none⟩):=he;rw[xM];refine ae (dw (v:=(⟨bb,0,none⟩:Addr)) rfl ?_);refine ae (pY hg ai hs ?_);have e1:xs.extract 0 (0+z)=xs:=by rw[l5,<- hsz];simp
  rw[e1];exact q'
 have S5:R d (after kd c cs (.agg xs)) H:=At.lP hA (ak _ A q) H s;refine C.ret ?_;cases kd with
 |qL=>exact C.back b.func (key S5)
 |pR=>exact C.J0 aT b.func (key S5)
theorem Sat.PD{A:HP}{b x:Nat}{o:Obj}{L:List HP}{h:HL}(ha:∀ h,A h->∃ o',h b=some o')(s:Sat (A::da x o::L) h):b≠x:=λe=>by
 subst e;obtain⟨h1,a,_,h2,p,s2,_⟩:=s;obtain⟨o',ho⟩:=ha _ a;have Nz:h2 b=some o:=by have p:h2=one b o:=p;rw[p];simp[one]
 have:=s2 b o Nz;unfold Sl.less at this;rw[ho]at this;simp at this
theorem At.apart{b x:Nat}{o o':Obj}{g:aM}{L:List HP}(hf:fg [da b o',da x o] As L)(h:b≠x->At R d As g):At R d As g:=λH st=>
 h (Sat.PD (λh e=>⟨o',by have e:h=one b o':=e;rw[e];simp[one]⟩) (st.perm hf.perm)) H st
theorem At.Dg{α:Type}{f:α->List Value}{z:Nat}{el:aO}{s:az}{l:List α}{x:Nat}{o:Obj}{g:aM}{L:List HP}(hf:fg [bG f z el s l,da x o] As L)(h:(∀ b,s.a=some ⟨b,0,none⟩->b≠x)->At R d As g):At R d As g:=λH st=>
 h (λb hb=>Sat.PD (λh e=>by
  rcases e with⟨rfl,_⟩|⟨b',pad,e,_,_,hp⟩
  ·cases hb
  ·rw[e]at hb;obtain rfl:b'=b:=by simpa using hb
   have hp:h=one b' _:=hp;exact⟨_,by rw[hp];simp[one];rfl⟩) (st.perm hf.perm)) H st
variable{e0:Nat->Value}{D:List (Nat×Nat)}{W:List HP}{S:List SE}
theorem Ch.nx{f:Nat}{T' l:List Nat}{a:Nat}{K:List SE}{As:List HP}(hc:Da ops T'=l)(h:∀ t∈l,Nd R d fn kd n ds ops k cs e0 D W S (λK As=>Ch R d fn kd n ds ops k cs e0 D W f S (T'.erase t) (a-1) K As) t a K As):Ch R d fn kd n ds ops k cs e0 D W (f+1) S T' a K As:=.inl λt ht=>h t (hc▸ht)
theorem fS{α:Type}{φ:α->Prop}{a:α}(h1:φ a):∀ t∈[a],φ t:=by simpa using h1
theorem zl{α:Type}{φ:α->Prop}{a b:α}(h1:φ a)(h2:φ b):∀ t∈[a,b],φ t:=by simpa using⟨h1,h2⟩
theorem fa3{α:Type}{φ:α->Prop}{a b c:α}(h1:φ a)(h2:φ b)(h3:φ c):∀ t∈[a,b,c],φ t:=by simpa using⟨h1,h2,h3⟩
theorem fa4{α:Type}{φ:α->Prop}{a b c d:α}(h1:φ a)(h2:φ b)(h3:φ c)(h4:φ d):∀ t∈[a,b,c,d],φ t:=by simpa using⟨h1,h2,h3,h4⟩
theorem aE.j9{f:bJ}{fu:Func}{c:Code}{nf:Nat}[b:Body P f fu c nf]{fo:cZ}{args:Array cZ}{gy:Array aO}{vl:List Value}{A:List HP}{Q:Value->Gh->List HP->Prop}(hs:bA P X f vl.toArray σ A Q)
  (h:∀ v σ' aP,Q v σ' aP->At (aE P Post X σ' 0 os out) 0 (aP++F) (gr fn kd n (dm e dst v) ds (.inRegion ops aa::k) cs))
  (ho:aZ ops i=some ⟨dst,.call ⟨.value fo,args,gy⟩,ty,pos,af,gd⟩:=by rfl) (hv:args.toList.map (ev n e)=vl:=by rfl) (hf:ev n e fo=.func (.func f) #[] #[]:=by rfl)
  (hr:fg A As F:=by exact fg.au) (hw:aL ops n e gd=true:=by rfl):At (aE P Post X σ 0 os out) 0 As (gr fn kd n e ds (.inRegion ops (i::aa)::k) cs):=
 aE.cl (a1:=#[]) (a2:=#[]) (vl:=vl) (by simpa using hs) h ho hv hf hr hw
theorem aE.eK{fu:Func}{cc:Code}{n':Nat}[b:Body P fn fu cc n']{c:Frame}{v:Value}{x:Code}{Q:Value->Gh->List HP->Prop}{A:List HP}(aT:xN kd c)(ak:∀ v σ' aP,Q v σ' aP->At (aE P Post X σ' 0 os out) 0 (aP++F) (after kd c cs v))(q:Q v σ A)(hv:tK fu n e=some v:=by rfl)(hx:ck x=.ret:=by rfl)
  (hr:cV As (A++F):=by exact cV.au):At (aE P Post X σ 0 os out) 0 As (gr fn kd n e [] (.code x::k) (c::cs)):=by
 have C:ab P true (X.bw σ) (aE P Post X σ 0 os out):=aE.ew;exact C.OW aT (At.lP hr (ak v σ A q)) hv hx
theorem Ch.nk{R:Nat->aM->Array Obj->Prop}{d:Nat}{fn:bJ}{kd:Kd}{n:Nat}{ds:List eo}{ops:Array Oper}{k:List Item}{cs:List Frame}{e0:Nat->Value}{D:List (Nat×Nat)}{W:List HP}{S:List SE}{f:Nat}{T':List Nat}(l:List Nat){a:Nat}{K:List SE}{As:List HP}(h:∀ t∈l,Nd R d fn kd n ds ops k cs e0 D W S (λK As=>Ch R d fn kd n ds ops k cs e0 D W f S (T'.erase t) (a-1) K As) t a K As)(hc:Da ops T'=l:=by decide+kernel):Ch R d fn kd n ds ops k cs e0 D W (f+1) S T' a K As:=Ch.nx hc h
variable{L:List HP}{g:aM}{V:Type}{f:Int×V->HP}{m:List (Int×V)}{k:Int}{v:V}
theorem zm{X:Type}{l:List X}{n:Nat}{x:X}(h:l[n]? =some x):∃ hn:n<l.length,l[n]=x:=dG.1 h
theorem BS(hg:aB m k=some v)(hf:Fo (all (m.map f)) As L)(h:At R d (f (k,v)::all ((dT m k).map f)::L) g):At R d As g:=by
 cases hi:qN k m 0 with
 |none=>rw[(jF hi).1]at hg;cases hg
 |some nv=>
  obtain⟨j,w⟩:=nv;obtain⟨n, -,h1,h2,h3,h4⟩:=jE hi;rw[h2]at hg;obtain rfl:=bR hg;obtain⟨hn,he⟩:=zm h1;refine Dc hn hf ?_;rw[he,<- h4];exact h
theorem Fe(v:V)(hr:fg [f (k,v),all ((dT m k).map f)] As L)(h:At R d (all ((bB m k v).map f)::L) g):At R d As g:=by
 cases hi:qN k m 0 with
 |none=>
  obtain⟨h1,h2,h3,h4⟩:=jF hi;rw[h2]at h;rw[h3]at hr;exact yj (k,v) hr h
 |some nv=>
  obtain⟨j,w⟩:=nv;obtain⟨n, -,h1,h2,h3,h4⟩:=jE hi;obtain⟨hn,he⟩:=zm h1;rw[h3]at h;rw[h4]at hr;exact Pa hn (k,v) hr h
theorem BT(hg:aB m k=none):dT m k=m:=by
 cases hi:qN k m 0 with
 |none=>exact(jF hi).2.2.1
 |some nv=>
  obtain⟨j,w⟩:=nv;obtain⟨n, -,h1,h2,h3,h4⟩:=jE hi;rw[h2]at hg;cases hg
theorem eE{p:Int×V}:∀ {m:List (Int×V)},p∈bB m k v->p=(k,v)\/p∈m:=by
 intro m hp;cases hi:qN k m 0 with
 |none=>
  rw[(jF hi).2.1,bS,dL]at hp;exact hp.symm
 |some nv=>
  obtain⟨j,w⟩:=nv;obtain⟨n, -,h1,h2,h3,h4⟩:=jE hi;rw[h3]at hp;exact(iL hp).symm
theorem vc{p:Int×V}{m:List (Int×V)}(hp:p∈dT m k):p∈m:=uU.subset hp
theorem kY{W:Type}(w:V->W)(m:List (Int×V)):(bB m k v).map (λp=>(p.1,w p.2))=bB (m.map λp=>(p.1,w p.2)) k (w v):=(pr w k v m).symm
theorem Ff{W:Type}(w:V->W)(m:List (Int×V)):(dT m k).map (λp=>(p.1,w p.2))=dT (m.map λp=>(p.1,w p.2)) k:=(uT w k m).symm
theorem vd{W:Type}(w:V->W)(m:List (Int×V)):aB (m.map λp=>(p.1,w p.2)) k=(aB m k).map w:=nu w k m
theorem Kk{α:Type}{f:α->List Value}{z:Nat}[rf:iD f z]{el:aO}{s:az}{l:List α}{n:Nat}(hn:n<=l.length)(h:HL)(x:bG f z el s l h):bG f z el ⟨s.a,n,s.cap⟩ (l.take n) h:=by
 rcases x with⟨rfl,rfl⟩|⟨b,pad,e,h1,h2,h3⟩
 ·have:n=0:=by simpa using hn
  subst this;exact .inl ⟨rfl,rfl⟩
 ·have hl:(l.take n).length=n:=by rw[jS];omega
  refine .inr ⟨b,flat f (l.drop n)++pad,?_,?_,?_,?_⟩
  ·rw[hl,e]
  ·rw[hl,gO,fq rf.len,CU];have:n*z+(l.length-n)*z=l.length*z:=by rw[<- qI];congr 1;omega
   dsimp only;omega
  ·rw[hl];dsimp only;omega
  ·have e1:gL f (l.take n) (flat f (l.drop n)++pad)=gL f l pad:=by unfold gL;rw[<- sN,<- jW,sZ]
   rw[e1];exact h3
def Dh(sz:Nat):Array Value->List (Nat×Value)->Array Value
 |c,[]=>c
 |c,(i,v)::l=>Dh sz (wr c (i*sz) v.cells.toList) l
def yo(sz m:Nat):List (Nat×Value)->Bool
 |[]=>true
 |(i,v)::l=>(v.cells.size==sz&&decide (i*sz+sz<=m))&&yo sz m l
theorem Fg(sz:Nat):∀ (l:List (Nat×Value)) (c:Array Value),yo sz c.size l=true->Instr.fill (λi=>some (i*sz,sz)) c l=some (Dh sz c l)
 |[],c,_=>rfl
 |(i,v)::l,c,h=>by
  unfold yo at h;simp only[jc,sY,qv]at h;obtain⟨h1,h2⟩:=h;unfold Instr.fill Dh;dsimp only;have hn:¬ ((decide (v.cells.size≠sz)||decide (i*sz+v.cells.size>c.size))=true):=by rw[h1.1];have:=h1.2;simp;omega
  rw[ax hn];have hf:Array.foldl (λcs (x:Value×Nat)=>match x with|(c,j)=>cs.setIfInBounds (i*sz+j) c) c v.cells.zipIdx=wr c (i*sz) v.cells.toList:=by rw[<- V8,V9];exact C9 (i*sz) v.cells.toList 0 _
  rw[hf];exact Fg sz l (wr c (i*sz) v.cells.toList) (by rw[yf];exact h2)
theorem gM{V:Type}{k:Int}{v:V}{l:List (Int×V)}(h:aB l k=some v):bB l k v=l:=by
 cases hi:qN k l 0 with
 |none=>rw[(jF hi).1]at h;cases h
 |some nv=>
  obtain⟨j,w⟩:=nv;obtain⟨n, -,h1,h2,h3,h4⟩:=jE hi;rw[h2]at h;obtain rfl:=bR h;obtain⟨hn,he⟩:=zm h1;rw[h3,<- he,Bp]
theorem ss{V:Type}{kk:IntKind}{g:V->Value}{b:Nat}{l:List (Int×V)}{k:Int}{u u1:V}(hg:aB l k=some u)(h:g u1=g u):db kk g b (bB l k u1)=db kk g b l:=by
 have e:kQ g (bB l k u1)=kQ g l:=by rw[<- pr,h];exact gM (by rw[nu,hg];rfl)
 unfold db;rw[e]
variable{k:List Item}
variable{v:Value}{b:Nat}{tt key el:aO}{kk:IntKind}{g:V->Value}{l:List (Int×V)}{q:Int}
theorem ab.Fh(C:ab P ao B R){zv:Value}[cM:Mp P tt key el][Ik P key kk][Zv P el zv](hg:((aB l q).map g).getD zv=v)(ho:aZ ops i=some ⟨some t,.lookup tt x y false,ty,pos,af,gd⟩)
  (h:Nx R d As fn kd n e ds ops aa k cs t v)
  (hx:ev n e x=.map (some b):=by rfl) (hy:ev n e y=.int kk q:=by rfl) (hf:U5 (db kk g b l) As:=by first|(apply Fo.LA;(repeat(first|with_reducible exact Fo.head|with_reducible apply Fo.tail));done)|(apply Ext.LA;assumption;(repeat(first|with_reducible exact Fo.head|with_reducible apply Fo.tail));done)) (hw:aL ops n e gd=true:=by rfl):Nw R d As fn kd n e ds ops i aa k cs:=
 C.Zo (co:=false) ho (by rw[hg];exact h) hx hy hf hw
theorem ab.LK(C:ab P ao B R){op:BinOp}{r:Bool}{tt t2 el:aO}[cE:Pt P tt el]{a:Option Addr}(ho:aZ ops i=some ⟨some t,.binOp op tt x y t2,ty,pos,af,gd⟩)(h:Nx R d As fn kd n e ds ops aa k cs t (.bool (a.isNone==r)))
  (cG:isEq op=some r:=by rfl) (hx:ev n e x=.pointer a:=by rfl) (hy:ev n e y=.pointer none:=by rfl) (hw:aL ops n e gd=true:=by rfl):Nw R d As fn kd n e ds ops i aa k cs:=
 C.v0 ho h (by
  unfold execOp;simp only[hx,hy];refine bC (a:=.bool (a.isNone==r)) ?_ rfl;have h0:fW P (Op.equal tt (.pointer a) (.pointer none))=some a.isNone:=by unfold Op.equal;show fW P (Op.equalIn (9998+1+1) _ _ _)=_;unfold Op.equalIn;refine bC (fL cE.h) ?_;cases a<;>rfl
  cases op<;>first|(cases cG;done)|skip
  ·obtain rfl:=bR cG;refine bC (a:=()) (by unfold eqGuard;rfl) ?_;refine bC h0 ?_;cases a<;>rfl
  ·obtain rfl:=bR cG;refine bC (a:=()) (by unfold eqGuard;rfl) ?_;refine bC h0 ?_;cases a<;>rfl) hw
theorem ab.Vl(C:ab P ao B R){off:Nat}{c:Array Value}{z:Bool}[Ag P tt false](ho:aZ ops i=some ⟨some t,.load tt x,ty,pos,af,gd⟩)(h1:z=true->Nx R d As fn kd n e ds ops aa k cs t (.bool true))(h2:z=false->Nx R d As fn kd n e ds ops aa k cs t (.bool false))
  (hx:ev n e x=.pointer (some ⟨b,off,none⟩):=by rfl) (hh:Kn As b (.cells c el (0,0)):=by first|(apply Has.kn;(repeat(first|with_reducible exact Has.head|with_reducible apply Has.tail));done)|(apply Ext.kn;assumption;(repeat(first|with_reducible exact Has.head|with_reducible apply Has.tail));done)) {v0:Value} (hc:c[off]? =some v0:=by rfl) (oS:v0=.bool z:=by first|((conv=>{lhs;whnf});done)|rfl) (hs:B.sh el off=false:=by rfl) (hw:aL ops n e gd=true:=by rfl):Nw R d As fn kd n e ds ops i aa k cs:=by
 cases z with
 |true=>exact C.ld ho (h1 rfl) hx hh hc oS hs hw
 |false=>exact C.ld ho (h2 rfl) hx hh hc oS hs hw
theorem ab.bda(C:ab P ao B R){zs xs:Array Value}{parts:Array (Nat×cZ)}{pv:List (Nat×Value)}{N sz:Nat}[cz:Zv P tt (.agg zs)](hu:P.underlying tt=some (.array N el))[Cz P el sz](ho:aZ ops i=some ⟨some t,.build tt parts,ty,pos,af,gd⟩)(h:Nx R d As fn kd n e ds ops aa k cs t (.agg xs))
  (hp:PV n e parts.toList pv:=by repeat(first|exact PV.nil|(apply PV.cons;focus (conv=>{lhs;whnf})))) (mG:yo sz zs.size pv=true:=by rfl) (Wx:Dh sz zs pv=xs:=by rfl) (hw:aL ops n e gd=true:=by rfl):Nw R d As fn kd n e ds ops i aa k cs:=
 C.val ho hw (λB H d Q q'=>by unfold execOp;simp only[Instr.build];refine ae (ae (nZ B H d _ (ae (dF hu B H d _ ?_))));simp only[Value.cells];refine ae (iy B H d _ ?_);rw[qZ,hp.eq,Fg sz pv zs mG,Wx];exact q') h
theorem ab.iaA(C:ab P ao B R){N sz off:Nat}{j:Int}{o:Nat}(hu:P.underlying tt=some (.array N el))[Cz P el sz](ho:aZ ops i=some ⟨some t,.indexAddr tt x y,ty,pos,af,gd⟩)(h:Nx R d As fn kd n e ds ops aa k cs t (.pointer (some ⟨b,o,none⟩)))
  (hx:ev n e x=.pointer (some ⟨b,off,none⟩):=by rfl) (hy:ev n e y=.int kk j:=by rfl) (hj:0<=j/\j<N:=by constructor<;>omega) (hoff:off+j.toNat*sz=o:=by rfl) (hw:aL ops n e gd=true:=by rfl):Nw R d As fn kd n e ds ops i aa k cs:=
 C.val ho hw (λB H d Q q=>by
  unfold execOp;simp only[hx,hy,Instr.indexAt,asIntOf];refine ae (ae (aA ?_));refine ae (dF hu B H d _ ?_);refine ae (ae (aA ?_))
  try refine aA ?_
  refine ae (dF hu B H d _ ?_);simp only;rw[aG hj];refine ae (iy B H d _ (aA ?_));rw[gY,hoff];exact q) h
theorem BU(a b:List bP)(k n:Int):br (a++b) k n=br a k n++br b k n:=by simp[br]
theorem Fi(n k:Int):∀ (ops:List bP) (m:List (Int×List bP)),aB (ops.foldl (λm o=>bB m (atR o.k n) ((aB m (atR o.k n)).getD []++[o])) m) k=
  if br ops k n=[]then aB m k else some ((aB m k).getD []++br ops k n)
 |[],m=>by simp[br]
 |o::l,m=>by
  rw[mE,Fi n k l,fK];by_cases h:atR o.k n=k
  ·subst h;have hp:br (o::l) (atR o.k n) n=o::br l (atR o.k n) n:=by simp[br]
   rw[hp];by_cases h2:br l (atR o.k n) n=[]
   ·simp[h2]
   ·simp[h2]
  ·have h':¬ k=atR o.k n:=λe=>h e.symm;have hp:br (o::l) k n=br l k n:=by simp[br,h]
   rw[hp];simp[h']
theorem BV(ops:List bP)(n k:Int):aB (dA ops n) k=if br ops k n=[]then none else some (br ops k n):=by unfold dA;rw[Fi];simp[aB]
theorem HM(ops:List bP)(n k:Int):(aB (dA ops n) k).getD []=br ops k n:=by
 rw[BV];split
 ·rename_i h;simp[h]
 ·rfl
theorem rE(n:Int):∀ (ops:List bP) (m:List (Int×List bP)),(m.map (·.1)).Nodup->((ops.foldl (λm o=>bB m (atR o.k n) ((aB m (atR o.k n)).getD []++[o])) m).map (·.1)).Nodup
 |[],m,h=>h
 |o::l,m,h=>rE n l _ (fB h)
theorem Fj(ops:List bP)(n:Int):((dA ops n).map (·.1)).Nodup:=rE n ops [] (by simp)
theorem su(ops:List bP)(n k:Int):k∈(dA ops n).map (·.1)↔de ops k n=true:=by
 have h:=getM_none (k:=k) (l:=dA ops n);rw[BV]at h;unfold de;by_cases h2:br ops k n=[]
 ·simp only[h2,eN,List.isEmpty_nil,s5,gn,iff_false]at h⊢;exact h.1 trivial
 ·simp only[h2,eR,reduceCtorEq,false_iff]at h;have:(br ops k n).isEmpty=false:=by simpa using h2
  rw[this];simp only[Eu,iff_true];exact uF.1 h
theorem S6(s:ek)(ops:List bP)(f:ek->Int->List bP->ek):ru s ops f=(upto s.n).foldl (λz k=>if(br ops k s.n).isEmpty then z else f z k (br ops k s.n)) s:=by unfold ru;simp only[HM]
theorem pz(log more:List RecR)(kind tx:Int):∀ i,i<=log.length->findD (log++more) kind tx i=findD log kind tx i
 |0,_=>rfl
 |i+1,h=>by unfold findD;rw[pz log more kind tx i ai,mT ai]
theorem dO(log:List RecR)(r:RecR)(kind tx:Int):aW (log++[r]) kind tx=if isRec kind tx r then some log.length else aW log kind tx:=by unfold aW;rw[gO,gJ,findD];rw[pz log [r] kind tx _ (e8 _)];simp
theorem zn{log:List RecR}{kind tx:Int}:∀ {n i:Nat},findD log kind tx n=some i->i<n/\∃ r,log[i]? =some r/\r.kind=kind/\r.tx=tx
 |0,i,h=>by cases h
 |n+1,i,h=>by
  unfold findD at h;split at h
  ·rename_i hh;obtain rfl:=bR h;refine⟨ai,?_⟩;cases e:log[n]? with
   |none=>rw[e]at hh;simp at hh
   |some r=>rw[e]at hh;exact⟨r,rfl,by simpa[isRec]using hh⟩
  ·obtain⟨h1,h2⟩:=zn h;exact⟨ai,h2⟩
theorem bX{log:List RecR}{kind tx:Int}{i:Nat}(h:aW log kind tx=some i):i<log.length/\∃ r,log[i]? =some r/\r.kind=kind/\r.tx=tx:=zn h
theorem tP{log:List RecR}{kind tx:Int}:∀ {n:Nat},findD log kind tx n=none↔∀ i r,i<n->log[i]? =some r->¬ (r.kind=kind/\r.tx=tx)
 |0=>by simp[findD]
 |n+1=>by
  unfold findD;constructor
  ·intro h i r hi hr;split at h
   ·cases h
   ·rename_i hh;rcases Jv.1 hi with h1|rfl
    ·exact tP.1 h i r h1 hr
    ·rw[hr]at hh;simpa[isRec]using hh
  ·intro h;split
   ·rename_i hh;cases e:log[n]? with
    |none=>rw[e]at hh;simp at hh
    |some r=>rw[e]at hh;exact absurd (by simpa[isRec]using hh) (h n r ai e)
   ·exact tP.2 λi r hi=>h i r ai
theorem kg{log:List RecR}{kind tx:Int}:aW log kind tx=none↔∀ r∈log,¬ (r.kind=kind/\r.tx=tx):=by
 unfold aW;rw[tP];constructor
 ·intro h r hr;obtain⟨i,hi⟩:=o5 hr;exact h i r (dG.1 hi).1 hi
 ·intro h i r _ hr;exact h r (dg hr)
theorem Fp(log:List RecR)(r:RecR)(tx:Int):bj (log++[r]) tx=if isRec 3 tx r then none else if isRec 1 tx r then(if(aW log 3 tx).isSome then none else some log.length)else bj log tx:=by
 unfold bj;rw[dO,dO];by_cases h3:isRec 3 tx r=true
 ·simp[h3]
 ·by_cases h1:isRec 1 tx r=true
  ·simp[h3,h1]
  ·simp[h3,h1]
theorem dD{log:List RecR}{tx:Int}{i:Nat}(h:bj log tx=some i):aW log 3 tx=none/\aW log 1 tx=some i:=by
 unfold bj at h;split at h
 ·cases h
 ·rename_i hh;exact⟨by simpa using hh,h⟩
structure KL(E:List aN)(P:ek)(L:List kt)(V:List Int):Prop where
 pend:∀ tx,aB P.pend tx=(bj (E.map aN.aV) tx).bind λi=>((E.map aN.aV)[i]?).map λr=>⟨i,r.home,r.ops⟩
 pn:(P.pend.map (·.1)).Nodup
 done:∀ tx,aB P.done tx=(aW (E.map aN.aV) 3 tx).bind λi=>((E.map aN.aV)[i]?).map λr=>⟨i,r.yes⟩
 bF:∀ tx,aB P.bF tx=(aW (E.map aN.aV) 2 tx).bind λi=>((E.map aN.aV)[i]?).map λr=>⟨i,r.yes⟩
 lock:∀ k,aB P.aX k=(L.find? λh=>h.key==k).map (·.tx)
 pl:(P.aX.map (·.1)).Nodup
 ln:(L.map (·.key)).Nodup
 lk:∀ h∈L,∃ i r,bj (E.map aN.aV) h.tx=some i/\(E.map aN.aV)[i]? =some r/\∃ o∈r.ops,o.k=h.key
 lo:∀ tx i r,bj (E.map aN.aV) tx=some i->(E.map aN.aV)[i]? =some r->∀ o∈r.ops,⟨o.k,tx⟩∈L
 bT:∀ k,97<=k->k<=122->(aB P.values k).getD 0=V[(k-97).toNat]?.getD 0
 AY:V.length=26
 vn:(P.values.map (·.1)).Nodup
 vk:∀ p∈P.values,97<=p.1/\p.1<=122
theorem KL.aS{E:List aN}{P P':ek}{L:List kt}{V:List Int}(H:KL E P L V)(e:(P'.pend,P'.done,P'.bF,P'.aX,P'.values)=(P.pend,P.done,P.bF,P.aX,P.values):=by rfl):KL E P' L V:=by simp only[Ev]at e;obtain⟨e1,e2,e3,e4,e5⟩:=e;exact⟨by rw[e1];exact H.pend,by rw[e1];exact H.pn,by rw[e2];exact H.done,by rw[e3];exact H.bF,by rw[e4];exact H.lock,by rw[e4];exact H.pl,H.ln,H.lk,H.lo,by rw[e5];exact H.bT,H.AY,by rw[e5];exact H.vn,by rw[e5];exact H.vk⟩
theorem pA{L:List kt}(hn:(L.map (·.key)).Nodup){k tx:Int}:(L.find? λh=>h.key==k).map (·.tx)=some tx↔(⟨k,tx⟩:kt)∈L:=by
 induction L with
 |nil=>simp
 |cons h L ih=>
  rw[gW,oX]at hn;rw[List.find?_cons];by_cases e:h.key=k
  ·have hb:(h.key==k)=true:=by simpa using e
   rw[hb];simp only[jR,wP,fR];constructor
   ·rintro rfl;subst e;exact .inl rfl
   ·rintro(rfl|hm)
    ·rfl
    ·exact absurd (bM.2 ⟨_,hm,rfl⟩) (e▸hn.1)
  ·have hb:(h.key==k)=false:=by simpa using e
   rw[hb];simp only[ih hn.2,fR];constructor
   ·exact .inr
   ·rintro(rfl|hm)
    ·exact absurd rfl e
    ·exact hm
theorem sx{L:List kt}{k:Int}:(L.find? λh=>h.key==k).map (·.tx)=none↔∀ h∈L,h.key≠k:=by simp[Jw]
theorem KL.start(P:ek):KL [] (iX P) [] bO:=by have h0:∀ kind tx,aW ([]:List RecR) kind tx=none:=λ_ _=>rfl;have h1:∀ tx,bj ([]:List RecR) tx=none:=λ_=>rfl;refine⟨λtx=>by simp[h1,iX,aB],by simp[iX],λtx=>by simp[h0,iX,aB],λtx=>by simp[h0,iX,aB],λk=>by simp[iX,aB],by simp[iX],by simp,by simp,λtx i r h=>by simp[h1]at h,λk h1 h2=>?_,rfl,by simp[iX],by simp[iX]⟩;simp only[iX,aB,N4,bO];rw[List.getElem?_replicate];split<;>rfl
variable{E:List aN}{P:ek}{L:List kt}{V:List Int}
theorem pB(e:aN)(i:Nat):((E++[e]).map aN.aV)[i]? =if i=E.length then some e.aV else(E.map aN.aV)[i]? :=by
 rw[eI,List.getElem?_append];simp only[dW,gW,l6];split
 ·rename_i h;rw[ax ai]
 ·rename_i h;split
  ·rename_i h2;subst h2;simp
  ·rename_i h2;rw[wR (by simp;omega),wR (by simp;omega)]
theorem ve(tx k:Int):∀ (ops:List bP) (l:List (Int×Int)),aB (ops.foldl (λl o=>bB l o.k tx) l) k=if ops.any (λo=>o.k==k)then some tx else aB l k
 |[],l=>by simp
 |o::ops,l=>by
  rw[mE,ve tx k ops,fK];by_cases h:o.k=k
  ·subst h;simp
  ·have h':¬ k=o.k:=λe=>h e.symm;simp[h,h']
theorem rF(tx:Int):∀ (ops:List bP) (l:List (Int×Int)),(l.map (·.1)).Nodup->((ops.foldl (λl o=>bB l o.k tx) l).map (·.1)).Nodup
 |[],l,h=>h
 |o::ops,l,h=>rF tx ops _ (fB h)
theorem vf(k:Int):∀ (ops:List bP) (l:List (Int×Int)),(l.map (·.1)).Nodup->aB (ops.foldl (λl o=>dT l o.k) l) k=if ops.any (λo=>o.k==k)then none else aB l k
 |[],l,_=>by simp
 |o::ops,l,h=>by
  rw[mE,vf k ops _ (ny h),vY h];by_cases h:o.k=k
  ·subst h;simp
  ·have h':¬ k=o.k:=λe=>h e.symm;simp[h,h']
theorem rG:∀ (ops:List bP) (l:List (Int×Int)),(l.map (·.1)).Nodup->((ops.foldl (λl o=>dT l o.k) l).map (·.1)).Nodup
 |[],l,h=>h
 |o::ops,l,h=>rG ops _ (ny h)
theorem Fq(L:List kt)(M:List kt)(k:Int):((L++M).find? λh=>h.key==k).map (·.tx)=((L.find? λh=>h.key==k).map (·.tx)).or ((M.find? λh=>h.key==k).map (·.tx)):=by rw[N5];cases L.find? λh=>h.key==k<;>simp
theorem w9(tx k:Int):∀ ops:List bP,((ops.map λo=>(⟨o.k,tx⟩:kt)).find? λh=>h.key==k).map (·.tx)=if ops.any (λo=>o.k==k)then some tx else none
 |[]=>rfl
 |o::ops=>by
  have:=w9 tx k ops;rw[gW,List.find?_cons];by_cases h:o.k=k
  ·subst h;simp
  ·have hb:(o.k==k)=false:=by simpa using h
   simp only[hb,List.any_cons,Jx];exact this
theorem KL.cg(H:KL E P L V){tx home:Int}{ops:List bP}(h1:aW (E.map aN.aV) 1 tx=none)(h3:aW (E.map aN.aV) 3 tx=none)(hf:∀ o∈ops,aB P.aX o.k=none)(hn:(ops.map (·.k)).Nodup):
  KL (E++[.cg tx home ops]) (th P tx home ops E.length) (tf L tx ops) V:=by
 have hr:bj (E.map aN.aV) tx=none:=by unfold bj;rw[h3];simpa using h1
 have Fs:(E++[aN.cg tx home ops]).map aN.aV=E.map aN.aV++[(aN.cg tx home ops).aV]:=by simp
 have kZ:∀ t,bj ((E++[aN.cg tx home ops]).map aN.aV) t=if t=tx then some E.length else bj (E.map aN.aV) t:=λt=>by
  rw[Fs,Fp];by_cases e:t=tx
  ·subst e;simp[isRec,aN.aV,dC,h3]
  ·have:¬ tx=t:=λz=>e z.symm;simp[isRec,aN.aV,dC,e,this]
 have du:∀ t i,bj (E.map aN.aV) t=some i->i<E.length:=λt i h=>by have:=(bX (dD h).2).1;simpa using this
 have n8:∀ kind t,kind≠1->aW ((E++[aN.cg tx home ops]).map aN.aV) kind t=aW (E.map aN.aV) kind t:=λkind t hk=>by
  rw[Fs,dO];have:isRec kind t (aN.cg tx home ops).aV=false:=by simp[isRec,aN.aV,dC];intro z;exact absurd z.symm hk
  simp[this]
 have jm:∀ kind t,(aW (E.map aN.aV) kind t).bind (λi=>(((E++[aN.cg tx home ops]).map aN.aV)[i]?).map λr=>(⟨i,r.yes⟩:ic))=(aW (E.map aN.aV) kind t).bind (λi=>((E.map aN.aV)[i]?).map λr=>⟨i,r.yes⟩):=λkind t=>by
  cases h:aW (E.map aN.aV) kind t with
  |none=>rfl
  |some i=>
   have:=(bX h).1;simp only[dW]at this;simp only[nh,pB,ax (uE this)]
 refine⟨λt=>?_,fB H.pn,λt=>?_,λt=>?_,λk=>?_,rF _ _ _ H.pl,?_,λh hh=>?_,λt i r x9 hi o ho=>?_,H.bT,H.AY,H.vn,H.vk⟩
 ·show aB (bB P.pend tx _) t=_;rw[fK,kZ];by_cases e:t=tx
  ·rw[aG e,aG e];simp only[nh,pB,eN,jR];rfl
  ·rw[ax e,ax e,H.pend];cases h:bj (E.map aN.aV) t with
   |none=>rfl
   |some i=>simp only[nh,pB,ax (uE (du t i h))]
 ·show aB P.done t=_;rw[n8 3 t (by decide),jm,H.done]
 ·show aB P.bF t=_;rw[n8 2 t (by decide),jm,H.bF]
 ·show aB (ops.foldl _ P.aX) k=_;rw[ve];unfold tf;rw[Fq,w9,<- H.lock];by_cases ha:ops.any (λo=>o.k==k)=true
  ·obtain⟨o,ho,hk⟩:=oZ.1 ha;have nP:o.k=k:=by simpa using hk
   have:=hf o ho;rw[nP]at this;simp[ha,this]
  ·simp[ha]
 ·unfold tf;rw[eI];refine il.2 ⟨H.ln,by simpa[Bq]using hn,λa ha b hb e=>?_⟩;subst e;obtain⟨h,hh,rfl⟩:=bM.1 ha;simp only[uG,bM,Function.comp_apply]at hb;obtain⟨o,ho,mG⟩:=hb;have h2:=hf o ho;rw[H.lock,sx]at h2;exact h2 h hh mG.symm
 ·unfold tf at hh;rcases bS.1 hh with hh|hh
  ·obtain⟨i,r,h1,h2,h3⟩:=H.lk h hh;have eV:h.tx≠tx:=λe=>by rw[e,hr]at h1;cases h1
   exact⟨i,r,by rw[kZ,ax eV];exact h1,by rw[pB,ax (uE (du _ _ h1))];exact h2,h3⟩
  ·obtain⟨o,ho,rfl⟩:=bM.1 hh;exact⟨E.length,_,by rw[kZ,aG rfl],by rw[pB,aG rfl],o,ho,rfl⟩
 ·unfold tf;rw[kZ]at x9;by_cases e:t=tx
  ·rw[aG e]at x9;obtain rfl:=bR x9;rw[pB,aG rfl]at hi;obtain rfl:=bR hi;subst e;exact jU _ (bM.2 ⟨o,ho,rfl⟩)
  ·rw[ax e]at x9;rw[pB,ax (uE (du _ _ x9))]at hi;exact ks _ (H.lo t i r x9 hi o ho)
theorem KL.dec(H:KL E P L V){tx:Int}{yes:Bool}{reads:List Int}:KL (E++[.dec tx yes reads]) {P with bF:=bB P.bF tx ⟨E.length,yes⟩} L V:=by
 have Fs:(E++[aN.dec tx yes reads]).map aN.aV=E.map aN.aV++[(aN.dec tx yes reads).aV]:=by simp
 have n8:∀ kind t,aW ((E++[aN.dec tx yes reads]).map aN.aV) kind t=if kind=2/\t=tx then some E.length else aW (E.map aN.aV) kind t:=λkind t=>by
  rw[Fs,dO];by_cases e:kind=2/\t=tx
  ·obtain⟨rfl,rfl⟩:=e;simp[isRec,aN.aV,dC]
  ·have:isRec kind t (aN.dec tx yes reads).aV=false:=by simp[isRec,aN.aV,dC];intro z y;exact e ⟨z.symm,y.symm⟩
   simp[this,e]
 have kZ:∀ t,bj ((E++[aN.dec tx yes reads]).map aN.aV) t=bj (E.map aN.aV) t:=λt=>by unfold bj;rw[n8,n8];simp
 have du:∀ t i,bj (E.map aN.aV) t=some i->i<E.length:=λt i h=>by have:=(bX (dD h).2).1;simpa using this
 have jm:∀ kind t,(aW (E.map aN.aV) kind t).bind (λi=>(((E++[aN.dec tx yes reads]).map aN.aV)[i]?).map λr=>(⟨i,r.yes⟩:ic))=(aW (E.map aN.aV) kind t).bind (λi=>((E.map aN.aV)[i]?).map λr=>⟨i,r.yes⟩):=λkind t=>by
  cases h:aW (E.map aN.aV) kind t with
  |none=>rfl
  |some i=>
   have:=(bX h).1;simp only[dW]at this;simp only[nh,pB,ax (uE this)]
 refine⟨λt=>?_,H.pn,λt=>?_,λt=>?_,H.lock,H.pl,H.ln,λh hh=>?_,λt i r x9 hi o ho=>?_,H.bT,H.AY,H.vn,H.vk⟩
 ·show aB P.pend t=_;rw[kZ,H.pend];cases h:bj (E.map aN.aV) t with
  |none=>rfl
  |some i=>simp only[nh,pB,ax (uE (du t i h))]
 ·show aB P.done t=_;rw[n8,ax (by simp),jm,H.done]
 ·show aB (bB P.bF tx _) t=_;rw[fK,n8];by_cases e:t=tx
  ·rw[aG e,aG ⟨rfl,e⟩];simp only[nh,pB,eN,jR];rfl
  ·rw[ax e,ax (λz=>e z.2),jm,H.bF]
 ·obtain⟨i,r,h1,h2,h3⟩:=H.lk h hh;exact⟨i,r,by rw[kZ];exact h1,by rw[pB,ax (uE (du _ _ h1))];exact h2,h3⟩
 ·rw[kZ]at x9;rw[pB,ax (uE (du _ _ x9))]at hi;exact H.lo t i r x9 hi o ho
theorem lY(yes:Bool):∀ (ops:List bP) (l:List (Int×Int)) (v:List Int),v.length=26->(∀ o∈ops,97<=o.k/\o.k<=122)->(∀ k,97<=k->k<=122->(aB l k).getD 0=v[(k-97).toNat]?.getD 0)->
  ∀ k,97<=k->k<=122->(aB (ops.foldl (λv o=>if yes&&o.w then bB v o.k o.v else v) l) k).getD 0=(if yes then cA v ops else v)[(k-97).toNat]?.getD 0
 |[],l,v,hv,ho,h,k,h1,h2=>by cases yes<;>exact h k h1 h2
 |o::ops,l,v,hv,ho,h,k,h1,h2=>by
  have mG:=ho o (fY ..);cases hy:yes with
  |false=>
   have:=lY false ops l v hv (λo h=>ho o (fp _ h)) h k h1 h2;simpa using this
  |true=>
   cases hw:o.w with
   |false=>
    have:=lY true ops l v hv (λo h=>ho o (fp _ h)) h k h1 h2;simpa[cA,hw]using this
   |true=>
    have:=lY true ops (bB l o.k o.v) (v.set (o.k-97).toNat o.v) (by simpa using hv) (λo h=>ho o (fp _ h)) (λk h1 h2=>by
     rw[fK,oY];by_cases e:k=o.k
     ·subst e;rename_i h1 h2;have du:(o.k-97).toNat<v.length:=ai;rw[aG rfl,aG rfl,aG du]
     ·have:¬ (o.k-97).toNat=(k-97).toNat:=ai;rw[ax e,ax this];exact h k h1 h2) k h1 h2
    simpa[cA,hw]using this
theorem nE:∀ (ops:List bP) (v:List Int),(cA v ops).length=v.length
 |[],v=>rfl
 |o::ops,v=>by have:=nE ops (if o.w then v.set (o.k-97).toNat o.v else v);simp only[cA,mE]at this⊢;rw[this];split<;>simp
theorem qE(yes:Bool):∀ (ops:List bP) (l:List (Int×Int)),(l.map (·.1)).Nodup->((ops.foldl (λv o=>if yes&&o.w then bB v o.k o.v else v) l).map (·.1)).Nodup
 |[],l,h=>h
 |o::ops,l,h=>qE yes ops _ (by
   show((if(yes&&o.w)=true then bB l o.k o.v else l).map (·.1)).Nodup;split
   ·exact fB h
   ·exact h)
theorem tq(yes:Bool):∀ (ops:List bP) (l:List (Int×Int)),(∀ o∈ops,97<=o.k/\o.k<=122)->(∀ p∈l,97<=p.1/\p.1<=122)->∀ p∈(ops.foldl (λv o=>if yes&&o.w then bB v o.k o.v else v) l),97<=p.1/\p.1<=122
 |[],l,_,h=>h
 |o::ops,l,ho,h=>tq yes ops _ (λo h=>ho o (fp _ h)) (λp hp=>by
   have hp:p∈(if(yes&&o.w)=true then bB l o.k o.v else l):=hp;split at hp
   ·rcases eE hp with rfl|hp
    ·exact ho o (fY ..)
    ·exact h p hp
   ·exact h p hp)
theorem KL.jX(H:KL E P L V){tx:Int}{yes:Bool}(h3:aW (E.map aN.aV) 3 tx=none)(hk:∀ i r,bj (E.map aN.aV) tx=some i->(E.map aN.aV)[i]? =some r->∀ o∈r.ops,97<=o.k/\o.k<=122){V':List Int}
  (hV:V'=match bj (E.map aN.aV) tx with|some i=>if yes then cA V (((E.map aN.aV)[i]?).getD dC).ops else V|none=>V):
  KL (E++[.jX tx yes]) (qa P tx yes E.length) (w8 L tx) V':=by
 have Fs:(E++[aN.jX tx yes]).map aN.aV=E.map aN.aV++[(aN.jX tx yes).aV]:=by simp
 have n8:∀ kind t,aW ((E++[aN.jX tx yes]).map aN.aV) kind t=if kind=3/\t=tx then some E.length else aW (E.map aN.aV) kind t:=λkind t=>by
  rw[Fs,dO];by_cases e:kind=3/\t=tx
  ·obtain⟨rfl,rfl⟩:=e;simp[isRec,aN.aV,dC]
  ·have:isRec kind t (aN.jX tx yes).aV=false:=by simp[isRec,aN.aV,dC];intro z y;exact e ⟨z.symm,y.symm⟩
   simp[this,e]
 have kZ:∀ t,bj ((E++[aN.jX tx yes]).map aN.aV) t=if t=tx then none else bj (E.map aN.aV) t:=λt=>by
  unfold bj;rw[n8,n8];by_cases e:t=tx
  ·simp[e]
  ·simp[e]
 have du:∀ t i,bj (E.map aN.aV) t=some i->i<E.length:=λt i h=>by have:=(bX (dD h).2).1;simpa using this
 have jm:∀ kind t,(aW (E.map aN.aV) kind t).bind (λi=>(((E++[aN.jX tx yes]).map aN.aV)[i]?).map λr=>(⟨i,r.yes⟩:ic))=(aW (E.map aN.aV) kind t).bind (λi=>((E.map aN.aV)[i]?).map λr=>⟨i,r.yes⟩):=λkind t=>by
  cases h:aW (E.map aN.aV) kind t with
  |none=>rfl
  |some i=>
   have:=(bX h).1;simp only[dW]at this;simp only[nh,pB,ax (uE this)]
 have cN:∃ ops,((aB P.pend tx).map (·.ops)).getD []=ops/\((bj (E.map aN.aV) tx=none/\ops=[])\/∃ i r,bj (E.map aN.aV) tx=some i/\(E.map aN.aV)[i]? =some r/\ops=r.ops):=by
  refine⟨_,rfl,?_⟩;rw[H.pend];cases h:bj (E.map aN.aV) tx with
  |none=>exact .inl ⟨rfl,rfl⟩
  |some i=>
   obtain⟨_,r,hr,_⟩:=bX (dD h).2;exact .inr ⟨i,r,rfl,hr,by simp only[nh,hr,jR,iA]⟩
 obtain⟨ops,cG,o9⟩:=cN;have mG:∀ o∈ops,97<=o.k/\o.k<=122:=λo ho=>by
  rcases o9 with⟨_,rfl⟩|⟨i,r,h1,h2,rfl⟩
  ·cases ho
  ·exact hk i r h1 h2 o ho
 have hVe:V'=if yes then cA V ops else V:=by
  rw[hV];rcases o9 with⟨h1,rfl⟩|⟨i,r,h1,h2,rfl⟩
  ·rw[h1];cases yes<;>simp[cA]
  ·rw[h1];simp[h2]
 have Vm:∀ k,ops.any (λo=>o.k==k)=true↔(⟨k,tx⟩:kt)∈L:=λk=>by
  rcases o9 with⟨h1,rfl⟩|⟨i,r,h1,h2,rfl⟩
  ·constructor
   ·intro h;simp at h
   ·intro h;obtain⟨i,r,h2,_⟩:=H.lk _ h;simp only at h2;rw[h1]at h2;cases h2
  ·constructor
   ·intro h;obtain⟨o,ho,e⟩:=oZ.1 h;have e':o.k=k:=by simpa using e
    exact e'▸H.lo tx i r h1 h2 o ho
   ·intro h;obtain⟨i',r',h3,h4,o,ho,e⟩:=H.lk _ h;simp only at h3 e;rw[h1]at h3;obtain rfl:=bR h3;rw[h2]at h4;obtain rfl:=bR h4;exact oZ.2 ⟨o,ho,by simpa using e⟩
 have Vn:((w8 L tx).map (·.key)).Nodup:=H.ln.sublist ((Jy ..).map _);refine⟨λt=>?_,ny H.pn,λt=>?_,λt=>?_,λk=>?_,rG _ _ H.pl,Vn,λh hh=>?_,λt i r x9 hi o ho=>?_,λk h1 h2=>?_,?_,qE _ _ _ H.vn,?_⟩
 ·show aB (dT P.pend tx) t=_;rw[vY H.pn,kZ];by_cases e:t=tx
  ·simp[e]
  ·rw[ax e,ax e,H.pend];cases h:bj (E.map aN.aV) t with
   |none=>rfl
   |some i=>simp only[nh,pB,ax (uE (du t i h))]
 ·show aB (bB P.done tx _) t=_;rw[fK,n8];by_cases e:t=tx
  ·rw[aG e,aG ⟨rfl,e⟩];simp only[nh,pB,eN,jR];rfl
  ·rw[ax e,ax (λz=>e z.2),jm,H.done]
 ·show aB P.bF t=_;rw[n8,ax (by simp),jm,H.bF]
 ·show aB (List.foldl (λl o=>dT l o.k) P.aX (((aB P.pend tx).map (·.ops)).getD [])) k=_;rw[cG,vf _ _ _ H.pl];by_cases ha:ops.any (λo=>o.k==k)=true
  ·rw[aG ha];have hm:=(Vm k).1 ha
   symm
   rw[sx];intro h hh e;obtain⟨h1,h2⟩:=gI.1 hh;have e1:=(pA H.ln).2 hm;have e2:=(pA H.ln (k:=k) (tx:=h.tx)).2 (by rw[<- e];exact h1);rw[e1]at e2;have:=bR e2;simp[this]at h2
  ·rw[ax ha,H.lock];cases hL:(L.find? λh=>h.key==k).map (·.tx)with
   |none=>
    symm;rw[sx]
    intro h hh;exact sx.1 hL h (gI.1 hh).1
   |some t=>
    symm
    rw[pA Vn];have hm:=(pA H.ln).1 hL;refine gI.2 ⟨hm,?_⟩;have:t≠tx:=λe=>ha ((Vm k).2 (e▸hm));simpa using this
 ·obtain⟨h1,h2⟩:=gI.1 hh;have eV:h.tx≠tx:=by simpa using h2
  obtain⟨i,r,h3,h4,h5⟩:=H.lk h h1;exact⟨i,r,by rw[kZ,ax eV];exact h3,by rw[pB,ax (uE (du _ _ h3))];exact h4,h5⟩
 ·rw[kZ]at x9;by_cases e:t=tx
  ·rw[aG e]at x9;cases x9
  ·rw[ax e]at x9;rw[pB,ax (uE (du _ _ x9))]at hi;exact gI.2 ⟨H.lo t i r x9 hi o ho,by simpa using e⟩
 ·show(aB (List.foldl _ P.values (((aB P.pend tx).map (·.ops)).getD [])) k).getD 0=_;rw[cG,hVe];exact lY yes ops P.values V H.AY mG H.bT k h1 h2
 ·rw[hVe];split
  ·rw[nE,H.AY]
  ·exact H.AY
 ·show∀ p∈List.foldl _ P.values (((aB P.pend tx).map (·.ops)).getD []),_;rw[cG];exact tq yes ops P.values mG H.vk
end
section
def opsOf(T:List (List bP))(tx:Int):Option (List bP):=if tx<0 then none else T[tx.toNat]?
def Kl(l:List bP):Nat:=(l.filter λo=> !o.w).length
def jK(T:List (List bP))(n:Int)(m:MsgR):Prop:=∃ ops,opsOf T m.tx=some ops/\
 ((m.kind=1/\m.bq= -1/\m.to=gk ops n/\m.ops=ops)\/
 (m.kind=2/\m.bq=gk ops n/\de ops m.to n=true/\m.ops=br ops m.to n)\/
 (m.kind=3/\m.to=gk ops n/\de ops m.bq n=true/\(m.yes=true->m.reads.length=Kl (br ops m.bq n))/\m.ops=[])\/
 (m.kind=4/\m.bq=gk ops n/\de ops m.to n=true/\m.ops=[])\/
 (m.kind=5/\m.to=gk ops n/\de ops m.bq n=true/\m.ops=[])\/
 (m.kind=6/\m.to=gk ops n/\de ops m.bq n=true/\m.ops=[])\/
 (m.kind=7/\m.to= -1/\m.ops=[]))
inductive ed(T:List (List bP))(n me:Int):List aN->Prop
 |nil:ed T n me []
 |cg {E:List aN} {tx:Int} {ops:List bP}:ed T n me E->opsOf T tx=some ops->de ops me n=true->aW (E.map aN.aV) 1 tx=none->aW (E.map aN.aV) 3 tx=none->
   (∀ t i r,bj (E.map aN.aV) t=some i->(E.map aN.aV)[i]? =some r->∀ o∈r.ops,∀ o'∈br ops me n,o.k≠o'.k)->ed T n me (E++[.cg tx (gk ops n) (br ops me n)])
 |dec {E:List aN} {tx:Int} {yes:Bool} {reads:List Int}:ed T n me E->(opsOf T tx).isSome=true->ed T n me (E++[.dec tx yes reads])
 |jX {E:List aN} {tx:Int} {yes:Bool}:ed T n me E->(opsOf T tx).isSome=true->aW (E.map aN.aV) 3 tx=none->ed T n me (E++[.jX tx yes])
def vg(T:List (List bP)):Prop:=(∀ ops∈T,gf ops)/\T.length<=60
theorem jO{T:List (List bP)}{tx:Int}{ops:List bP}(more:List (List bP))(h:opsOf T tx=some ops):opsOf (T++more) tx=some ops:=by
 unfold opsOf at h⊢;split at h
 ·cases h
 ·rename_i hh;rw[ax hh,mT (dG.1 h).1];exact h
theorem je{T:List (List bP)}{tx:Int}{ops:List bP}(h:opsOf T tx=some ops):0<=tx/\tx.toNat<T.length/\ops∈T:=by
 unfold opsOf at h;split at h
 ·cases h
 ·exact⟨ai,(dG.1 h).1,dg h⟩
theorem jK.app{T:List (List bP)}{n:Int}{m:MsgR}(more:List (List bP))(h:jK T n m):jK (T++more) n m:=by obtain⟨ops,h1,h2⟩:=h;exact⟨ops,jO more h1,h2⟩
theorem ed.app{T:List (List bP)}{n me:Int}{E:List aN}(more:List (List bP))(h:ed T n me E):ed (T++more) n me E:=by
 induction h with
 |nil=>exact .nil
 |cg _ h1 h2 h3 h4 h5 ih=>exact .cg ih (jO more h1) h2 h3 h4 h5
 |dec _ h1 ih=>
  obtain⟨o,ho⟩:=oC.1 h1;exact .dec ih (by rw[jO more ho];rfl)
 |jX _ h1 h2 ih=>
  obtain⟨o,ho⟩:=oC.1 h1;exact .jX ih (by rw[jO more ho];rfl) h2
theorem ed.init{T:List (List bP)}{n me:Int}{E:List aN}(h:ed T n me E):∀ k,ed T n me (E.take k):=by
 induction h with
 |nil=>intro k;simpa using ed.nil
 |@cg E tx ops h1 h2 h3 h4 h5 h6 ih=>
  intro k;rcases lH E.length k with h|h
  ·rw[jD (by simp;omega)];exact .cg h1 h2 h3 h4 h5 h6
  ·rw[Br h];exact ih k
 |@dec E tx yes reads h1 h2 ih=>
  intro k;rcases lH E.length k with h|h
  ·rw[jD (by simp;omega)];exact .dec h1 h2
  ·rw[Br h];exact ih k
 |@jX E tx yes h1 h2 h3 ih=>
  intro k;rcases lH E.length k with h|h
  ·rw[jD (by simp;omega)];exact .jX h1 h2 h3
  ·rw[Br h];exact ih k
theorem ed.zo{T:List (List bP)}{n me:Int}{E:List aN}(h:ed T n me E):∀ (i:Nat) (r:RecR),(E.map aN.aV)[i]? =some r->(∃ ops,opsOf T r.tx=some ops/\(r.kind=1->de ops me n=true/\r.ops=br ops me n/\r.home=gk ops n)):=by
 induction h with
 |nil=>intro i r hr;simp at hr
 |@cg E tx ops h1 h2 h3 h4 h5 h6 ih=>
  intro i r hr;rw[pB]at hr;split at hr
  ·obtain rfl:=bR hr;exact⟨ops,h2,λ_=>⟨h3,rfl,rfl⟩⟩
  ·exact ih i r hr
 |@dec E tx yes reads h1 h2 ih=>
  intro i r hr;rw[pB]at hr;split at hr
  ·obtain rfl:=bR hr;obtain⟨o,ho⟩:=oC.1 h2;exact⟨o,ho,λh=>by simp[aN.aV]at h⟩
  ·exact ih i r hr
 |@jX E tx yes h1 h2 h3 ih=>
  intro i r hr;rw[pB]at hr;split at hr
  ·obtain rfl:=bR hr;obtain⟨o,ho⟩:=oC.1 h2;exact⟨o,ho,λh=>by simp[aN.aV]at h⟩
  ·exact ih i r hr
theorem ed.ready{T:List (List bP)}{n me:Int}{E:List aN}(h:ed T n me E){tx:Int}{i:Nat}{r:RecR}(hr:bj (E.map aN.aV) tx=some i)(hi:(E.map aN.aV)[i]? =some r):
  ∃ ops,opsOf T tx=some ops/\de ops me n=true/\r.ops=br ops me n/\r.home=gk ops n/\r.tx=tx/\r.kind=1:=by
 obtain⟨_,r',h1,h2,h3⟩:=bX (dD hr).2;rw[hi]at h1;obtain rfl:=bR h1;obtain⟨ops,h4,h5⟩:=h.zo i r hi;rw[h3]at h4;exact⟨ops,h4,(h5 h2).1,(h5 h2).2.1,(h5 h2).2.2,h3,h2⟩
theorem zp{ops:List bP}{k n:Int}:(br ops k n).Sublist ops:=Jy
theorem gf.key{ops:List bP}(h:gf ops){k n:Int}:∀ o∈br ops k n,97<=o.k/\o.k<=122:=λo ho=>by have:=h.1 o (zp.mem ho);exact⟨this.1,this.2.1⟩
theorem gf.nod{ops:List bP}(h:gf ops){k n:Int}:((br ops k n).map (·.k)).Nodup:=h.2.1.sublist (zp.map _)
theorem vg.of{T:List (List bP)}(h:vg T){tx:Int}{ops:List bP}(ho:opsOf T tx=some ops):gf ops:=h.1 ops (je ho).2.2
structure UA(n:Int)(a:mo)(b:fO):Prop where
 ops:a.ops=b.ops
 dec:a.dec=b.dec
 yes:a.yes=b.yes
 bk:∀ k,aB a.bk k=(bU b k).map (·.reads)
 vn:(a.bk.map (·.1)).Nodup
 an:(a.cy.map (·.1)).Nodup
 cy:∀ k,(aB a.cy k).isSome=b.cy.contains k
 ap:∀ p∈a.cy,0<p.2
 vt:∀ p∈a.bk,de b.ops p.1 n=true/\p.2.length=Kl (br b.ops p.1 n)
 at':∀ p∈a.cy,de b.ops p.1 n=true
structure lh(T:List (List bP))(n me:Int)(p:Int×mo)(u:fO):Prop where
 tx:p.1=u.tx
 ua:UA n p.2 u
 ops:opsOf T u.tx=some u.ops
 home:gk u.ops n=me
inductive F2{A B:Type}(r:A->B->Prop):List A->List B->Prop
 |nil:F2 r [] []
 |cons {a:A} {b:B} {l:List A} {m:List B}:r a b->F2 r l m->F2 r (a::l) (b::m)
structure dB(T:List (List bP))(n:Int)(P:ek)(R:ShR):Prop where
 me:P.me=R.me
 mb:0<=R.me/\R.me<n
 n1:P.n=n
 n2:R.n=n
 up:P.up=R.up
 log:P.log.map aN.aV=R.log
 xa:ed T n R.me P.log
 aH:P.aH=R.aH
 gl:0<=R.aH/\R.aH<=R.log.length
 timers:P.timers=R.timers
 clock:P.clock=R.clock
 waits:P.waits=R.waits
 out:P.out=R.out
 wo:∀ m∈R.waits,jK T n m
 oo:∀ m∈R.out,jK T n m
 tt:∀ t∈R.timers,(opsOf T t.tx).isSome=true
 kl:R.up=true->KL P.log P R.aX R.bT
 un:R.up=true->(P.bY.map (·.1)).Nodup
 bY:R.up=true->F2 (lh T n R.me) P.bY R.under
 ud:R.up=true->∀ u∈R.under,u.dec=true->(aW R.log 2 u.tx).isSome=true
 dn:R.up=false->P.values=[]/\P.aX=[]/\R.bT=bO/\R.aX=[]/\R.waits=[]/\R.under=[]
theorem F2.mono{A B:Type}{r r':A->B->Prop}(f:∀ a b,r a b->r' a b){l:List A}{m:List B}(h:F2 r l m):F2 r' l m:=by
 induction h with
 |nil=>exact .nil
 |cons h _ ih=>exact .cons (f _ _ h) ih
section
variable{T:List (List bP)}{n me:Int}
theorem pC{l:List (Int×mo)}{m:List fO}(h:F2 (lh T n me) l m)(tx:Int):
  (aB l tx=none/\dz m tx=none)\/∃ i a u,aB l tx=some a/\dz m tx=some i/\m[i]? =some u/\u.tx=tx/\lh T n me (tx,a) u:=by
 induction h with
 |nil=>exact .inl ⟨rfl,rfl⟩
 |@cons p u l m hp h ih=>
  have hc:dz (u::m) tx=if u.tx==tx then some 0 else(dz m tx).map (· +1):=by unfold dz;rw[Jz]
  by_cases e:u.tx=tx
  ·refine .inr ⟨0,p.2,u,?_,by rw[hc];simp[e],rfl,e,?_⟩
   ·unfold aB;rw[aG (hp.tx.trans e)]
   ·rw[<- e,<- hp.tx];exact hp
  ·have e2:¬ p.1=tx:=λz=>e (hp.tx.symm.trans z);have hb:(u.tx==tx)=false:=by simpa using e
   rcases ih with⟨h1,h2⟩|⟨i,a,v,h1,h2,h3,h4,h5⟩
   ·exact .inl ⟨by unfold aB;rw[ax e2];exact h1,by rw[hc,hb,h2];rfl⟩
   ·exact .inr ⟨i+1,a,v,by unfold aB;rw[ax e2];exact h1,by rw[hc,hb,h2];rfl,by simpa using h3,h4,h5⟩
theorem Di{l:List (Int×mo)}{m:List fO}(h:F2 (lh T n me) l m){tx:Int}{i:Nat}{a:mo}{v:fO}(hi:dz m tx=some i)(hv:lh T n me (tx,a) v):F2 (lh T n me) (bB l tx a) (m.set i v):=by
 induction h generalizing i with
 |nil=>cases hi
 |@cons p u l m hp h ih=>
  have hc:dz (u::m) tx=if u.tx==tx then some 0 else(dz m tx).map (· +1):=by unfold dz;rw[Jz]
  rw[hc]at hi;by_cases e:u.tx=tx
  ·have hb:(u.tx==tx)=true:=by simpa using e
   rw[hb]at hi;obtain rfl:=bR hi;unfold bB;rw[aG (hp.tx.trans e),sK];exact .cons hv h
  ·have hb:(u.tx==tx)=false:=by simpa using e
   rw[hb]at hi;obtain⟨j,hj,rfl⟩:=G3.1 hi;unfold bB;rw[ax λz=>e (hp.tx.symm.trans z),xE];exact .cons hp (ih hj)
theorem S7{l:List (Int×mo)}{m:List fO}(h:F2 (lh T n me) l m){tx:Int}{a:mo}{v:fO}(hi:dz m tx=none)(hv:lh T n me (tx,a) v):F2 (lh T n me) (bB l tx a) (m++[v]):=by
 induction h with
 |nil=>exact .cons hv .nil
 |@cons p u l m hp h ih=>
  have hc:dz (u::m) tx=if u.tx==tx then some 0 else(dz m tx).map (· +1):=by unfold dz;rw[Jz]
  rw[hc]at hi;by_cases e:u.tx=tx
  ·have hb:(u.tx==tx)=true:=by simpa using e
   rw[hb]at hi;cases hi
  ·have hb:(u.tx==tx)=false:=by simpa using e
   rw[hb]at hi;unfold bB;rw[ax λz=>e (hp.tx.symm.trans z)];exact .cons hp (ih (by simpa using hi))
theorem S8{l:List (Int×mo)}{m:List fO}(h:F2 (lh T n me) l m){tx:Int}{i:Nat}(hi:dz m tx=some i):F2 (lh T n me) (dT l tx) (m.eraseIdx i):=by
 induction h generalizing i with
 |nil=>cases hi
 |@cons p u l m hp h ih=>
  have hc:dz (u::m) tx=if u.tx==tx then some 0 else(dz m tx).map (· +1):=by unfold dz;rw[Jz]
  rw[hc]at hi;by_cases e:u.tx=tx
  ·have hb:(u.tx==tx)=true:=by simpa using e
   rw[hb]at hi;obtain rfl:=bR hi;unfold dT;rw[aG (hp.tx.trans e)];exact h
  ·have hb:(u.tx==tx)=false:=by simpa using e
   rw[hb]at hi;obtain⟨j,hj,rfl⟩:=G3.1 hi;unfold dT;rw[ax λz=>e (hp.tx.symm.trans z),NW];exact .cons hp (ih hj)
theorem Km{V:Type}(k:Int)(v:V):∀ l:List (Int×V),(aB l k).isSome=true->dT (bB l k v) k=dT l k
 |[],h=>by cases h
 |p::l,h=>by
  unfold aB at h;unfold bB;by_cases e:p.1=k
  ·rw[aG e]
   conv=>lhs;unfold dT
   conv=>rhs;unfold dT
   simp[e]
  ·rw[ax e]at h⊢
   conv=>lhs;unfold dT
   conv=>rhs;unfold dT
   rw[ax e,ax e,Km k v l h]
end
theorem n9{ops:List bP}{n:Int}(h:ops≠[]):de ops (gk ops n) n=true:=by
 cases ops with
 |nil=>exact absurd rfl h
 |cons o l=>simp[de,br,gk]
theorem W6{k n:Int}(hk:97<=k)(hn:0<n):0<=atR k n/\atR k n<n:=by unfold atR;exact⟨Int.tmod_nonneg _ ai,Int.tmod_lt_of_pos _ hn⟩
theorem gz{ops:List bP}{k n:Int}(hr:gf ops)(hn:0<n)(h:de ops k n=true):0<=k/\k<n:=by
 unfold de at h;have eV:br ops k n≠[]:=λe=>by rw[e]at h;simp at h
 obtain⟨o,ho⟩:=UD _ eV;have h1:o∈ops:=zp.mem ho;have h2:atR o.k n=k:=by simpa[br,h1]using ho
 rw[<- h2];exact W6 (hr.1 o h1).1 hn
theorem rH{n k:Int}:k∈upto n↔0<=k/\k<n:=by
 unfold upto;rw[bM];constructor
 ·rintro⟨a,ha,rfl⟩;have:=l8.1 ha;have h2:Int.ofNat a=(a:Int):=rfl;omega
 ·rintro⟨h1,h2⟩;exact⟨k.toNat,l8.2 ai,by show((k.toNat:Nat):Int)=k;omega⟩
theorem sA{n:Int}{ops:List bP}{p:Int->Bool}(hr:gf ops)(hn:0<n):n7 n ops p=true↔∀ k,de ops k n=true->p k=true:=by
 unfold n7;rw[kp];constructor
 ·intro h k hk;have:=h k (rH.2 (gz hr hn hk));simpa[hk]using this
 ·intro h k _;cases hk:de ops k n with
  |false=>simp
  |true=>simp[h k hk]
theorem lZ{a b:List Int}(ha:a.Nodup)(h:∀ x∈a,x∈b):a.length<=b.length:=by
 induction a generalizing b with
 |nil=>simp
 |cons x a ih=>
  rw[oX]at ha;have hx:=h x (fY ..);have:=ih (b:=b.erase x) ha.2 λy hy=>(List.mem_erase_of_ne (λe:y=x=>ha.1 (by rw[<- e];exact hy))).2 (h y (fp _ hy));rw[List.length_erase_of_mem hx]at this;have:0<b.length:=List.length_pos_of_mem hx;simp;omega
theorem AZ{a b:List Int}(ha:a.Nodup)(h:∀ x∈a,x∈b)(hl:b.length<=a.length):∀ x∈b,x∈a:=by
 intro x hx;refine N6 λhn=>?_;have:=lZ (a:=x::a) (oX.2 ⟨hn,ha⟩) (b:=b) λy hy=>by
  rcases fR.1 hy with rfl|hy
  ·exact hx
  ·exact h y hy
 simp at this;omega
theorem tQ{V:Type}{n:Int}{ops:List bP}{l:List (Int×V)}(hn:(l.map (·.1)).Nodup)(ht:∀ p∈l,de ops p.1 n=true):(dA ops n).length<=l.length↔∀ k,de ops k n=true->(aB l k).isSome=true:=by
 have jd:∀ x∈l.map (·.1),x∈(dA ops n).map (·.1):=λx hx=>by obtain⟨p,hp,rfl⟩:=bM.1 hx;exact(su ops n p.1).2 (ht p hp)
 constructor
 ·intro h k hk;have:=AZ hn jd (by simpa using h) k ((su ops n k).2 hk);cases hg:aB l k with
  |none=>exact absurd this (getM_none.1 hg)
  |some v=>rfl
 ·intro h;have:=lZ (Fj ops n) (b:=l.map (·.1)) λx hx=>by have:=h x ((su ops n x).1 hx);refine N6 λhc=>?_;rw[getM_none.2 hc]at this;cases this
  simpa using this
theorem LL{V:Type}{n:Int}{ops:List bP}{l:List (Int×V)}(hn:(l.map (·.1)).Nodup)(ht:∀ p∈l,de ops p.1 n=true):l.length=(dA ops n).length↔∀ k,de ops k n=true->(aB l k).isSome=true:=by
 rw[<- tQ hn ht];have jd:l.length<=(dA ops n).length:=by
  have:=lZ hn (b:=(dA ops n).map (·.1)) λx hx=>by obtain⟨p,hp,rfl⟩:=bM.1 hx;exact(su ops n p.1).2 (ht p hp)
  simpa using this
 omega
end
section
open Go.Conc
variable{P:bL}{ao:Bool}{B:kJ}{R:Nat->aM->Array Obj->Prop}{d:Nat}{As aP F:List HP}
variable{fn:bJ}{kd:Kd}{n:Nat}{e:Nat->Value}{ds:List eo}{k:List Item}{cs:List Frame}
variable{ops:Array Oper}{i:Nat}{aa:List Nat}{dst:Option Nat}{t:Nat}{ty:aO}{pos:String}{af:Array Edge}{gd:Option (Nat×Bool)}{x y z:cZ}{v:Value}
theorem ab.xi(C:ab P ao B R){f:bJ}{fu:Func}{ex:Array Value->Sem Value}[b:eM P f fu ex]{recv:cZ}{name:String}{args:Array cZ}{gy:Array aO}{vl:List Value}{t0:aO}{v0 rv:Value}(hm:fW P (method (P.types.size+Made.depth) t0 v0 name)=some (f,rv))
  (h:∀ H,Sat As (hp H)->dJ P B (ex (#[rv]++vl.toArray)) H d λv H' d'=>∃ aP,Sat aP (hp H')/\At R d' aP (gr fn kd n (dm e dst v) ds (.inRegion ops aa::k) cs))
  (ho:aZ ops i=some ⟨dst,.call ⟨.invoke recv name,args,gy⟩,ty,pos,af,gd⟩:=by rfl) (hr:ev n e recv=.iface t0 v0:=by rfl) (hv:args.toList.map (ev n e)=vl:=by rfl) (hw:aL ops n e gd=true:=by rfl):Nw R d As fn kd n e ds ops i aa k cs:=by
 refine C.gen ho hw λH s=>?_;unfold execOp;simp only;refine ae ?_;have qK:args.map (ev n e)=vl.toArray:=by rw[<- hv,<- qZ,tC]
 simp only[resolve,hr,qK];refine aA ?_;show dJ P B (invoke (.fn (.method name) #[]) (#[.iface t0 v0]++vl.toArray)) H d _;unfold invoke;have e1:(#[Value.iface t0 v0]++vl.toArray)[0]? =some (.iface t0 v0):=by simp
 have e2:(#[Value.iface t0 v0]++vl.toArray).extract 1 (#[Value.iface t0 v0]++vl.toArray).size=vl.toArray:=by simp
 simp only[e1,e2];unfold callMethod;simp only;refine ae (dw (v:=P) rfl ?_);refine ae (dw hm ?_);simp only;unfold callFunc;refine ae ?_;show dJ P B _ H d _;simp only[program,dJ];rw[b.func];simp only[b.name,b.body,eN,gn,eR];refine ae ?_;simp only[mark,dJ,kO,oH,o4];simp only[b.nx,b.fd];refine ae (pd (λv H' d' q=>?_) (h H s));obtain⟨aP,s',q⟩:=q;exact aA ⟨aP,s',q⟩
theorem ab.Zs(C:ab P ao B R){f:bJ}{fu:Func}{ex:Array Value->Sem Value}[b:eM P f fu ex]{recv:cZ}{name:String}{args:Array cZ}{gy:Array aO}{vl:List Value}{t0:aO}{v0 rv:Value}(hm:fW P (method (P.types.size+Made.depth) t0 v0 name)=some (f,rv))(hx:fW P (ex (#[rv]++vl.toArray))=some v)
  (h:At R d As (gr fn kd n (dm e dst v) ds (.inRegion ops aa::k) cs)) (ho:aZ ops i=some ⟨dst,.call ⟨.invoke recv name,args,gy⟩,ty,pos,af,gd⟩:=by rfl) (hr:ev n e recv=.iface t0 v0:=by rfl) (hv:args.toList.map (ev n e)=vl:=by rfl) (hw:aL ops n e gd=true:=by rfl):Nw R d As fn kd n e ds ops i aa k cs:=
 C.xi hm (λH s=>dw hx ⟨As,s,h⟩) ho hr hv hw
theorem ab.Zt(C:ab P ao B R){f:bJ}{fu:Func}{c:Code}{nf:Nat}[b:Body P f fu c nf]{recv:cZ}{name:String}{args:Array cZ}{gy:Array aO}{vl:List Value}{t0:aO}{v0 rv:Value}{A:List HP}{Q:Value->List HP->Prop}(hm:fW P (method (P.types.size+Made.depth) t0 v0 name)=some (f,rv))(hs:aI P ao B f (rv::vl).toArray A Q)
  (h:∀ v aP,Q v aP->At R d (aP++F) (gr fn kd n (dm e dst v) ds (.inRegion ops aa::k) cs)) (ho:aZ ops i=some ⟨dst,.call ⟨.invoke recv name,args,gy⟩,ty,pos,af,gd⟩:=by rfl) (hr:ev n e recv=.iface t0 v0:=by rfl) (hv:args.toList.map (ev n e)=vl:=by rfl)
  (hA:fg A As F:=by exact fg.au) (hw:aL ops n e gd=true:=by rfl):Nw R d As fn kd n e ds ops i aa k cs:=by
 have qK:args.map (ev n e)=vl.toArray:=by rw[<- hv,<- qZ,tC]
 refine C.en (o:=⟨dst,.call ⟨.invoke recv name,args,gy⟩,ty,pos,af,gd⟩) hs ?_ h ho hA hw;unfold execOp;simp only;refine bC (a:=⟨.fn (.method name) #[],#[.iface t0 v0]++vl.toArray⟩) ?_ ?_
 ·unfold resolve;simp only[hr,qK];rfl
 ·show fW P (invoke (.fn (.method name) #[]) (#[.iface t0 v0]++vl.toArray))=_;unfold invoke;have e1:(#[Value.iface t0 v0]++vl.toArray)[0]? =some (.iface t0 v0):=by simp
  have e2:(#[Value.iface t0 v0]++vl.toArray).extract 1 (#[Value.iface t0 v0]++vl.toArray).size=vl.toArray:=by simp
  simp only[e1,e2];unfold callMethod;simp only;refine bC (a:=P) rfl (bC hm ?_);have e3:#[rv]++vl.toArray=(rv::vl).toArray:=by simp
  simp only[e3];exact kX _
theorem ab.taI(C:ab P ao B R){xt tt t0:aO}{PE:Array (String×aO)}{inf:TypeInfo}{zv:Value}{mm:String}{vv:Value}(hu:P.underlying tt=some (.interface PE))(hi:P.info? t0=some inf)(hmm:Instr.missingMethod PE inf.methods=some mm)(hz:∃ i,P.info? tt=some i/\i.zero=some zv)(ho:aZ ops i=some ⟨some t,.typeAssert x xt tt true,ty,pos,af,gd⟩)
  (h:Nx R d As fn kd n e ds ops aa k cs t (.tuple #[zv,.bool false])) (hx:ev n e x=.iface t0 vv:=by rfl) (hw:aL ops n e gd=true:=by rfl):Nw R d As fn kd n e ds ops i aa k cs:=
 C.v0 ho h (by unfold execOp;simp only[hx];refine bC (a:=.tuple #[zv,.bool false]) ?_ rfl;unfold Instr.typeAssert;refine bC (fL hu) ?_;simp only;refine bC (nD hi) ?_;simp only[hmm,eN];exact bC (rA hz) rfl) hw
theorem ab.taY(C:ab P ao B R){xt tt t0:aO}{PE:Array (String×aO)}{inf:TypeInfo}{vv:Value}(hu:P.underlying tt=some (.interface PE))(hi:P.info? t0=some inf)(hmm:Instr.missingMethod PE inf.methods=none)(ho:aZ ops i=some ⟨some t,.typeAssert x xt tt true,ty,pos,af,gd⟩)
  (h:Nx R d As fn kd n e ds ops aa k cs t (.tuple #[.iface t0 vv,.bool true])) (hx:ev n e x=.iface t0 vv:=by rfl) (hw:aL ops n e gd=true:=by rfl):Nw R d As fn kd n e ds ops i aa k cs:=
 C.v0 ho h (by unfold execOp;simp only[hx];refine bC (a:=.tuple #[.iface t0 vv,.bool true]) ?_ rfl;unfold Instr.typeAssert;refine bC (fL hu) ?_;simp only;refine bC (nD hi) ?_;simp only[hmm,eN];rfl) hw
theorem ab.Vo(C:ab P ao B R){f:bJ}{fu:Func}{c:Code}{nf:Nat}[b:Body P f fu c nf]{recv:cZ}{name:String}{args:Array cZ}{gy:Array aO}{vl:List Value}{t0:aO}{v0 rv:Value}{A:List HP}{Q:Value->List HP->Prop}(hm:∀ H d (Q:bJ×Value->Array Obj->Nat->Prop),Sat As (hp H)->Q (f,rv) H d->dJ P B (method (P.types.size+Made.depth) t0 v0 name) H d Q)(hs:aI P ao B f (rv::vl).toArray A Q)
  (h:∀ v aP,Q v aP->At R d (aP++F) (gr fn kd n (dm e dst v) ds (.inRegion ops aa::k) cs)) (ho:aZ ops i=some ⟨dst,.call ⟨.invoke recv name,args,gy⟩,ty,pos,af,gd⟩:=by rfl) (hr:ev n e recv=.iface t0 v0:=by rfl) (hv:args.toList.map (ev n e)=vl:=by rfl)
  (hA:fg A As F:=by exact fg.au) (hw:aL ops n e gd=true:=by rfl):Nw R d As fn kd n e ds ops i aa k cs:=by
 refine C.gen ho hw λH s=>?_;unfold execOp;simp only;refine ae ?_;have qK:args.map (ev n e)=vl.toArray:=by rw[<- hv,<- qZ,tC]
 simp only[resolve,hr,qK];refine aA ?_;show dJ P B (invoke (.fn (.method name) #[]) (#[.iface t0 v0]++vl.toArray)) H d _;unfold invoke;have e1:(#[Value.iface t0 v0]++vl.toArray)[0]? =some (.iface t0 v0):=by simp
 have e2:(#[Value.iface t0 v0]++vl.toArray).extract 1 (#[Value.iface t0 v0]++vl.toArray).size=vl.toArray:=by simp
 simp only[e1,e2];unfold callMethod;simp only;refine ae (dw (v:=P) rfl ?_);refine ae (hm H d _ s ?_);simp only;refine nY (P:=P) _ B H d _ ⟨A++F,s.perm hA.perm,?_⟩;have e3:#[rv]++vl.toArray=(rv::vl).toArray:=by simp
 rw[e3];exact hs R C .qL d F _ cs trivial λv aP q=>by show At R d (aP++F) (fy _ cs v);rw[po ho];exact h v aP q
theorem LM{f:bJ}{t0 elem:aO}{name:String}{inf:TypeInfo}{m:Go.Method}{b off fuel:Nat}{c:Array Value}{T:aO}{rv:Value}{H:Array Obj}{d:Nat}{Q:bJ×Value->Array Obj->Nat->Prop}(hi:P.info? t0=some inf)(hf:inf.methods.find? (·.name==name)=some m)(hp0:m.path=#[])(hfu:m.func=some (f,false))(hu:P.underlying t0=some (.pointer elem))[Ag P elem false](hh:hp H b=some (.cells c T (0,0)))(hc:c[off]? =some rv)(hs:B.sh T off=false)(q:Q (f,rv) H d):dJ P B (method (fuel+1) t0 (.pointer (some ⟨b,off,none⟩)) name) H d Q:=by unfold method;refine ae (dw (nD hi) ?_);simp only[hf,hp0,hfu];refine ae (dw (v:=(t0,Place.val (.pointer (some ⟨b,off,none⟩)))) rfl ?_);simp only;refine ae ?_;unfold receiverAt;refine ae (dw (fL hu) ?_);simp only;refine ae (dw (v:=Value.pointer (some ⟨b,off,none⟩)) rfl ?_);refine ae (dw (v:=Value.pointer (some ⟨b,off,none⟩)) rfl ?_);refine ae (dw (v:=(⟨b,off,none⟩:Addr)) rfl ?_);exact iT hh hc hs (aA q)
theorem At.aaX{R:Nat->aM->Array Obj->Prop}{d:Nat}{As L:List HP}{g:aM}{α:Type}{f:α->List Value}{z:Nat}{el:aO}{s:az}{l:List α}(hf:Fo (bG f z el s l) As L)(h1:s=Go.Sl.aR->l=[]->At R d As g)(h2:s.a=some ⟨s.b,0,none⟩->s.len=l.length->At R d As g):At R d As g:=λH st=>by
 obtain⟨hh,x,hs,hr⟩:=st.perm hf.perm;rcases x with⟨rfl,rfl⟩|⟨b,pad,e, -, -, -⟩
 ·exact h1 rfl rfl H st
 ·have e1:s.b=b:=by rw[e];rfl
  exact h2 (by rw[e1,e]) (by rw[e]) H st
variable{L:List HP}
variable{tt t2:aO}{kk:IntKind}{p q r:Int}
theorem ab.mx(C:ab P ao B R)(ho:aZ ops i=some ⟨some t,.call ⟨.builtin .max,#[x,y],#[tt,t2]⟩,ty,pos,af,gd⟩)(h:Nx R d As fn kd n e ds ops aa k cs t (.int kk r))
  (hx:ev n e x=.int kk p:=by rfl) (hy:ev n e y=.int kk q:=by rfl) (hr:max p q=r:=by rfl) (hw:aL ops n e gd=true:=by rfl):Nw R d As fn kd n e ds ops i aa k cs:=
 C.val ho hw (λB H d Q q'=>by
  unfold execOp;simp only[resolve];refine ae (aA ?_);simp only[AM,gW,l6,hx,hy];unfold invoke builtin;refine ae ?_;have e1:(if q>p then q else p)=r:=by rw[<- hr,Int.max_def];split<;>split<;>omega
  show dJ P B (Builtin.max_ _ _ #[.int kk p,.int kk q]) H d _;unfold Builtin.max_;simp only[List.foldlM,Builtin.max2,e1];refine ae (aA ?_);exact aA q') h
theorem ab.mn(C:ab P ao B R)(ho:aZ ops i=some ⟨some t,.call ⟨.builtin .min,#[x,y],#[tt,t2]⟩,ty,pos,af,gd⟩)(h:Nx R d As fn kd n e ds ops aa k cs t (.int kk r))
  (hx:ev n e x=.int kk p:=by rfl) (hy:ev n e y=.int kk q:=by rfl) (hr:min p q=r:=by rfl) (hw:aL ops n e gd=true:=by rfl):Nw R d As fn kd n e ds ops i aa k cs:=
 C.val ho hw (λB H d Q q'=>by
  unfold execOp;simp only[resolve];refine ae (aA ?_);simp only[AM,gW,l6,hx,hy];unfold invoke builtin;refine ae ?_;have e1:(if q<p then q else p)=r:=by rw[<- hr,Int.min_def];split<;>split<;>omega
  show dJ P B (Builtin.min_ _ _ #[.int kk p,.int kk q]) H d _;unfold Builtin.min_;simp only[List.foldlM,Builtin.min2,e1];refine ae (aA ?_);exact aA q') h
theorem PF{α:Type}{f:α->List Value}{z:Nat}[rf:iD f z]{el:aO}{s:az}{l:List α}{As L:List HP}{H:Array Obj}{B:kJ}(hf:Fo (bG f z el s l) As L)(st:Sat As (hp H))(hs:∀ j,B.sh el j=false)(k:Nat)(hk:k<l.length)(h3:s.a=some ⟨s.b,0,none⟩):
  n4 B H z (l.take k).length (.slice s.a k s.cap) (flat f (l.take k)):=by
 have e1:(l.take k).length=k:=by rw[jS];omega
 rw[e1];have h:=dZ.aaC (B:=B) (f:=f) (el:=el) (s:=s) (l:=l) (.own hf) st hs 0 k ai s.cap s.a (λ_=>by rw[h3,NT]) (λ_=>.inr ⟨0,h3,by intro z;rw[z]at hk;simp at hk,ai⟩)
 rwa[NS]at h
theorem PG{α:Type}{f:α->List Value}{z:Nat}[rf:iD f z]{el:aO}{s:az}{l:List α}{As L:List HP}{H:Array Obj}{B:kJ}(hf:Fo (bG f z el s l) As L)(st:Sat As (hp H))(hs:∀ j,B.sh el j=false)(k:Nat)(hk:k<l.length)(h5:l.length<=s.cap):
  n4 B H z (l.drop (k+1)).length (.slice (some (if s.cap=k+1 then⟨s.b,0,none⟩else⟨s.b,0+(k+1)*z,none⟩)) (l.length-(k+1)) (s.cap-(k+1))) (flat f (l.drop (k+1))):=by
 have e1:(l.drop (k+1)).length=l.length-(k+1):=by rw[CU]
 rw[e1];have h:=dZ.aaC (B:=B) (f:=f) (el:=el) (s:=s) (l:=l) (.own hf) st hs (k+1) (l.length-(k+1)) ai (s.cap-(k+1)) (some (if s.cap=k+1 then⟨s.b,0,none⟩else⟨s.b,0+(k+1)*z,none⟩)) (λhm=>by rw[ax ai];simp) (λ_=>.inr (by
  by_cases hc:s.cap=k+1
  ·exact⟨0,by rw[aG hc],by intro z;rw[z]at hk;simp at hk,ai⟩
  ·exact⟨(k+1)*z,by rw[ax hc];simp,by intro z;rw[z]at hk;simp at hk,CS z ai⟩))
 rwa[jD (by rw[CU];exact e8 _)]at h
def PH(kk:IntKind)(es:Array MapEntry)(seen:Array Nat)(clock last:Nat):List Int->Prop
 |[]=>True
 |k::_=>last=clock/\∃ e∈es.toList,seen.back?=some e.born/\e.key=.int kk k
def HN{V:Type}(kk:IntKind)(g:V->Value)(mb ib:Nat)(l:List (Int×V))(pT:List Int):HP:=λh=>
 ∃ es clock since seen last,vZ kk es clock (kQ g l)/\(∀ e∈es.toList,e.born<since)/\since<=last/\since<=clock/\(∀ e∈es.toList,(seen.contains e.born=true↔∃ k∈pT,e.key=.int kk k))/\PH kk es seen clock last pT/\all [da mb (.map es clock),da ib (.mapIter (some mb) since seen last)] h
variable{u:Value}{b off:Nat}{c:Array Value}{el key:aO}
variable{V:Type}{g:V->Value}{l:List (Int×V)}
theorem ab.rn(C:ab P ao B R)[cM:Mp P tt key el](ho:aZ ops i=some ⟨some t,.range tt x,ty,pos,af,gd⟩)(h:∀ ib,Nx R d (HN kk g b ib l []::L) fn kd n e ds ops aa k cs t (.pointer (some ⟨ib,0,none⟩)))
  (hx:ev n e x=.map (some b):=by rfl) (hf:Fo (db kk g b l) As L:=by exact Fo.au) (hw:aL ops n e gd=true:=by rfl):Nw R d As fn kd n e ds ops i aa k cs:=
 C.gen ho hw λH s=>by
  have s':=s.perm hf.perm;obtain⟨hh,⟨es,clock,mr,vW⟩,jd,hr⟩:=s';have jm:hp H b=some (.map es clock):=by subst vW;exact jd b _ (by simp[one])
  have s2:Sat (da b (.map es clock)::L) (hp H):=⟨hh,vW,jd,hr⟩;unfold execOp;simp only[hx];refine ae ?_;unfold Instr.range;refine ae (dF cM.h B H d _ ?_);refine ae (gZ jm rfl ?_);refine ae (aA (ae ?_));show dJ P B (.new _ _) H d _;simp only[dJ];show dJ P B (pure _) _ d _;refine aA ⟨_,?_,h H.size⟩;have s3:=s2.push (.mapIter (some b) clock #[] clock);refine Sat.imp (λh hh=>⟨es,clock,clock,#[],clock,mr,λe he=>mr.lt e he,e8 _,e8 _,λe he=>by simp,trivial,hh⟩) (Sat.iC (l:=[da b (.map es clock),da H.size (.mapIter (some b) clock #[] clock)]) s3.swap)
theorem Vp{X:Type}{a:Array X}(h:a.isEmpty=false):0<a.size:=by
 rcases Lf a.size with h0|h0
 ·simp[Array.isEmpty,h0]at h
 ·exact h0
theorem PI{mb ib:Nat}{pT:List Int}{As:List HP}{H:Array Obj}{tt:aO}{Q:Value->Array Obj->Nat->Prop}(s:Sat (HN kk g mb ib l pT::As) (hp H))
  (q1:∀ k v H',(k,v)∈l->k∉pT->Sat (HN kk g mb ib l (k::pT)::As) (hp H')->Q (.tuple #[.bool true,.int kk k,g v]) H' d) (q2:(∀ p∈l,p.1∈pT)->Q (.tuple #[.bool false]) H d):dJ P B (Instr.next (.pointer (some ⟨ib,0,none⟩)) false tt) H d Q:=by
 obtain⟨es,clock,since,seen,last,mr,hb,Hl,JP,u9,aaY,s⟩:∃ es clock since seen last,vZ kk es clock (kQ g l)/\(∀ e∈es.toList,e.born<since)/\since<=last/\since<=clock/\(∀ e∈es.toList,(seen.contains e.born=true↔∃ k∈pT,e.key=.int kk k))/\PH kk es seen clock last pT/\Sat (all [da mb (.map es clock),da ib (.mapIter (some mb) since seen last)]::As) (hp H):=by obtain⟨h1,⟨es,clock,since,seen,last,mr,a1,a2,a3,a4,a6,a5⟩,h2,h3⟩:=s;exact⟨es,clock,since,seen,last,mr,a1,a2,a3,a4,a6,h1,a5,h2,h3⟩
 have s:=s.flat;have hm:hp H mb=some (.map es clock):=s.get;have hi:hp H ib=some (.mapIter (some mb) since seen last):=s.swap.get;unfold Instr.next;simp only;refine ae (gZ hi rfl ?_);simp only;refine ae (gZ hm rfl ?_);have m7:(!seen.isEmpty&& !es.isEmpty&&es.all λx=>decide (x.born>=last))=false:=by
  cases he:es.isEmpty with
  |true=>simp
  |false=>
   have h0:=Vp he;have:(es.all λx=>decide (x.born>=last))=false:=by rw[Array.all_eq_false];refine⟨0,h0,?_⟩;have:=hb es[0] (by simp);simp;omega
   rw[this];simp
 simp only[m7,gn,eR];generalize hL:es.filter (λe=> !seen.contains e.born)=left;have Ko:∀ e,e∈left↔e∈es/\¬ (seen.contains e.born=true):=λe=>by rw[<- hL];simp
 have hold:left.filter (λx=>decide (x.born<since))=left:=by rw[Array.filter_eq_self];intro e he;have:=hb e (CP.2 ((Ko e).1 he).1);simp;omega
 have tD:left.filter (λx=>decide (x.born>=since))=#[]:=by rw[Array.filter_eq_empty_iff];intro e he;have:=hb e (CP.2 ((Ko e).1 he).1);simp;omega
 rw[hold,tD,xC];refine ae ?_;show dJ P B (.choose _ _) H d _;have hkv:∀ e∈es.toList,∃ k v,(k,v)∈l/\e.key=.int kk k/\e.val=g v:=λe he=>by
  have:(e.key,e.val)∈Ei kk (kQ g l):=by rw[<- mr.kv];exact wQ (f:=λe:MapEntry=>(e.key,e.val)) he
  obtain⟨p,Eh,CZ⟩:=bM.1 this;obtain⟨p',RS,NB⟩:=bM.1 Eh;subst NB;obtain⟨h1,h2⟩:=Li CZ;exact⟨p'.1,p'.2,RS,h1.symm,h2.symm⟩
 have hvk:∀ p∈l,∃ e∈es.toList,e.key=.int kk p.1:=λp hp=>by
  have:(Value.int kk p.1,g p.2)∈es.toList.map (λe=>(e.key,e.val)):=by rw[mr.kv];exact bM.2 ⟨(p.1,g p.2),bM.2 ⟨p,hp,rfl⟩,rfl⟩
  obtain⟨e,h1,h2⟩:=bM.1 this;exact⟨e,h1,(Li h2).1⟩
 cases W7:left.isEmpty with
 |true=>
  have hl0:left=#[]:=by simpa using W7
  have kC:∀ p∈l,p.1∈pT:=λp hp=>by
   obtain⟨e,he,hk⟩:=hvk p hp;have:seen.contains e.born=true:=by refine N6 λhc=>?_;have:=(Ko e).2 ⟨CP.1 he,hc⟩;rw[hl0]at this;simp at this
   obtain⟨k,wX,HO⟩:=(u9 e he).1 this;rw[hk]at HO;injection HO with _ h2
   rw[h2];exact wX
  simp only[dJ,Question.forced,hl0];simp only[eN,Array.map_empty,xC];exact q2 kC
 |false=>
  simp only[gn,eR];have mP:∀ e1∈es.toList,∀ e2∈es.toList,e1.key=e2.key->e1=e2:=λe1 h1 e2 h2 hk=>by
   obtain⟨i1,xP⟩:=o5 h1;obtain⟨i2,xO⟩:=o5 h2;have g1:((Ei kk (kQ g l)).map (·.1))[i1]? =some e1.key:=by rw[<- mr.kv];simp[xP]
   have g2:((Ei kk (kQ g l)).map (·.1))[i2]? =some e1.key:=by rw[<- mr.kv,hk];simp[xO]
   have hn:((Ei kk (kQ g l)).map (·.1)).Nodup:=by
    have hmm:(Ei kk (kQ g l)).map (·.1)=((kQ g l).map (·.1)).map (Value.int kk):=by simp[Ei]
    rw[hmm];exact List.Pairwise.map _ (λa b h z=>h (by injection z)) mr.nd
   have:=yY hn g1 g2;subst this;rw[xP]at xO;exact bR xO
  have Zn:∀ e1∈es.toList,∀ e2∈es.toList,e1.born=e2.born->e1=e2:=λe1 h1 e2 h2 hk=>by obtain⟨i1,xP⟩:=o5 h1;obtain⟨i2,xO⟩:=o5 h2;have:=yY mr.bn (i:=i1) (j:=i2) (x:=e1.born) (by simp[xP]) (by simp[xO,hk]);subst this;rw[xP]at xO;exact bR xO
  have EX:∀ j,j<left.size->dJ P B (match(#[]++left.map some)[j]? with
    |some (some e)=>do
     setObj ib (.mapIter (some mb) since (seen.push e.born) clock)
     pure (.tuple #[.bool true,e.key,e.val])
    |some none=>(pure (.tuple #[.bool false]):Sem Value)
    |none=>stuck "Next: no such candidate") H d Q:=λj hj=>by
   have hg:(#[]++left.map some)[j]? =some (some left[j]):=by simp[hj]
   rw[hg];have dR:left[j]∈left:=Array.getElem_mem hj;obtain⟨he,hns⟩:=(Ko _).1 dR;have xM:=CP.2 he;obtain⟨k,v,RU,hk,hv⟩:=hkv _ xM;have s2:=(s.swap).set (o':=.mapIter (some mb) since (seen.push left[j].born) clock);refine ae (lQ hi rfl rfl (aA ?_));rw[hk,hv];refine q1 k v _ RU (λaeM=>hns ((u9 _ xM).2 ⟨k,aeM,hk⟩)) ?_;refine Sat.imp (λh hh=>⟨es,clock,since,seen.push left[j].born,clock,mr,hb,JP,JP,λe hee=>?_,⟨rfl,left[j],xM,by simp,hk⟩,hh⟩) (Sat.iC (l:=[da mb (.map es clock),da ib (.mapIter (some mb) since (seen.push left[j].born) clock)]) s2.swap);have Ot:(seen.push left[j].born).contains e.born=true↔seen.contains e.born=true\/e.born=left[j].born:=by simp[Array.mem_push]
   rw[Ot,u9 e hee];constructor
   ·rintro(⟨k',h1,h2⟩|h1)
    ·exact⟨k',fp _ h1,h2⟩
    ·have:=Zn e hee _ xM h1;exact⟨k,fY ..,by rw[this];exact hk⟩
   ·rintro⟨k',h1,h2⟩;rcases fR.1 h1 with rfl|h1
    ·exact .inr (by rw[mP e hee _ xM (h2.trans hk.symm)])
    ·exact .inl ⟨k',h1,h2⟩
  have hls:=Vp W7;simp only[dJ];split
  ·refine EX 0 hls
  ·intro n;have:Question.cut (.mapNext (#[]++left.map some).size) n=n%(#[]++left.map some).size:=rfl;rw[this];refine EX _ ?_;have hsz:(#[]++left.map some).size=left.size:=by simp
   rw[hsz];exact EA _ hls
theorem ab.nx(C:ab P ao B R){ib:Nat}{pT:List Int}(ho:aZ ops i=some ⟨some t,.next x false,ty,pos,af,gd⟩)
  (h1:∀ j w,(j,w)∈l->j∉pT->Nx R d (HN kk g b ib l (j::pT)::L) fn kd n e ds ops aa k cs t (.tuple #[.bool true,.int kk j,g w])) (h2:(∀ p∈l,p.1∈pT)->Nx R d (HN kk g b ib l pT::L) fn kd n e ds ops aa k cs t (.tuple #[.bool false]))
  (hx:ev n e x=.pointer (some ⟨ib,0,none⟩):=by rfl) (hf:Fo (HN kk g b ib l pT) As L:=by exact Fo.au) (hw:aL ops n e gd=true:=by rfl):Nw R d As fn kd n e ds ops i aa k cs:=
 C.gen ho hw λH s=>by unfold execOp;simp only[hx];exact ae (PI (s.perm hf.perm) (λj w H' m nv s'=>⟨_,s',h1 j w m nv⟩) λkC=>⟨_,s.perm hf.perm,h2 kC⟩)
theorem ab.muI(C:ab P ao B R){w:V}{ib:Nat}{pT:List Int}[cM:Mp P tt key el][Ik P key kk](hk:(aB l q).isSome=true)(ho:aZ ops i=some ⟨none,.mapUpdate tt x y z,ty,pos,af,gd⟩)(h:At R d (HN kk g b ib (bB l q w) pT::L) (gr fn kd n e ds (.inRegion ops aa::k) cs))
  (hx:ev n e x=.map (some b):=by rfl) (hy:ev n e y=.int kk q:=by rfl) (hf:Fo (HN kk g b ib l pT) As L:=by exact Fo.au) (hz:ev n e z=g w:=by rfl) (hw:aL ops n e gd=true:=by rfl):Nw R d As fn kd n e ds ops i aa k cs:=
 C.gen ho hw λH s=>by
  have s':=s.perm hf.perm;obtain⟨es,clock,since,seen,last,mr,hb,Hl,JP,u9,aaY,s2⟩:∃ es clock since seen last,vZ kk es clock (kQ g l)/\(∀ e∈es.toList,e.born<since)/\since<=last/\since<=clock/\(∀ e∈es.toList,(seen.contains e.born=true↔∃ k∈pT,e.key=.int kk k))/\PH kk es seen clock last pT/\Sat (all [da b (.map es clock),da ib (.mapIter (some b) since seen last)]::L) (hp H):=by obtain⟨h1,⟨es,clock,since,seen,last,mr,a1,a2,a3,a4,a6,a5⟩,h2,h3⟩:=s';exact⟨es,clock,since,seen,last,mr,a1,a2,a3,a4,a6,h1,a5,h2,h3⟩
  have s2:=s2.flat;have jm:hp H b=some (.map es clock):=s2.get;unfold execOp;simp only[hx,hy,hz];refine ae ?_;unfold Instr.mapUpdate;refine ae (dF cM.h B H d _ ?_);refine ae (gZ jm rfl ?_);refine ae (n5 B H d _ ?_);refine ae (p8 mr.kv B H d _ ?_);cases hi:qN q (kQ g l) 0 with
  |none=>
   have:=(jF hi).1;rw[nu,Option.map_eq_none_iff]at this;rw[this]at hk;cases hk
  |some jv=>
   obtain⟨j,v0⟩:=jv;obtain⟨m,rfl,hn,_,qU,_⟩:=jE hi;obtain⟨e0,he,hke,_⟩:=Hv mr.kv hn;simp only[l5,EV,he,jR,iA,hke];refine ae (J5 B H d _ ?_);refine lQ jm rfl rfl ⟨_,?_,h⟩;refine Sat.imp (λh hh=>⟨_,clock,since,seen,last,?_,?_,Hl,JP,?_,?_,hh⟩) (Sat.iC (l:=[da b _,da ib (.mapIter (some b) since seen last)]) (s2.set))
   ·rw[<- pr];exact mr.modify hn (qU _) _ λe' xM=>⟨rfl,rfl,rfl⟩
   ·intro e' xM;have hl:(es.modify m λe=>{e with key:=.int kk q,val:=g w}).toList=es.toList.modify m λe=>{e with key:=.int kk q,val:=g w}:=by simp
    rw[hl]at xM;obtain⟨i,ee⟩:=o5 xM;rw[Bn]at ee;obtain⟨e2,h2,h3⟩:=G3.1 ee;have:=hb e2 (dg h2);split at h3<;>(subst h3;exact this)
   ·intro e' xM;have hl:(es.modify m λe=>{e with key:=.int kk q,val:=g w}).toList=es.toList.modify m λe=>{e with key:=.int kk q,val:=g w}:=by simp
    rw[hl]at xM;obtain⟨i,ee⟩:=o5 xM;rw[Bn]at ee;obtain⟨e2,h2,h3⟩:=G3.1 ee;have:=u9 e2 (dg h2);split at h3
    ·rename_i hmi;subst h3;subst hmi;rw[he]at h2;obtain rfl:=bR h2;rw[hke]at this;exact this
    ·subst h3;exact this
   ·cases pT with
    |nil=>trivial
    |cons k0 pT=>
     obtain⟨h1,e1,he1,h2,h3⟩:=aaY;refine⟨h1,?_⟩;have hl:(es.modify m λe=>{e with key:=.int kk q,val:=g w}).toList=es.toList.modify m λe=>{e with key:=.int kk q,val:=g w}:=by simp
     obtain⟨i,ee⟩:=o5 he1;by_cases hmi:m=i
     ·subst hmi;rw[he]at ee;obtain rfl:=bR ee;refine⟨{e0 with key:=.int kk q,val:=g w},?_,h2,by rw[<- h3,hke]⟩;rw[hl];exact dg (i:=m) (by rw[Bn,he];simp)
     ·refine⟨e1,?_,h2,h3⟩;rw[hl];exact dg (i:=i) (by rw[Bn,ee];simp[hmi])
theorem At.Dj{ib:Nat}{pT:List Int}{gx:aM}(hf:Fo (HN kk g b ib l pT) As L)(h:At R d (db kk g b l::L) gx):At R d As gx:=λH s=>by have s':=s.perm hf.perm;obtain⟨h1,⟨es,clock,since,seen,last,mr,a1,a2,a3,a4,a6,a5⟩,h2,h3⟩:=s';have s2:Sat (all [da b (.map es clock),da ib (.mapIter (some b) since seen last)]::L) (hp H):=⟨h1,a5,h2,h3⟩;exact h H ((s2.flat.swap.drop).imp λh hh=>⟨es,clock,mr,hh⟩)
theorem ab.ent(C:ab P ao B R){ib:Nat}{j:Int}{w:V}{pT:List Int}(hg:aB l j=some w)(ho:aZ ops i=some ⟨some t,.entry x,ty,pos,af,gd⟩)(h:Nx R d As fn kd n e ds ops aa k cs t (.tuple #[.int kk j,g w]))
  (hf:Fo (HN kk g b ib l (j::pT)) As L) (hx:ev n e x=.pointer (some ⟨ib,0,none⟩):=by rfl) (hw:aL ops n e gd=true:=by rfl):Nw R d As fn kd n e ds ops i aa k cs:=
 C.gen ho hw λH s=>by
  have s':=s.perm hf.perm;obtain⟨h1,⟨es,clock,since,seen,last,mr,a1,a2,a3,a4,⟨rfl,e0,he0,Az,Zu⟩,a5⟩,h2,h3⟩:=s';have s2:Sat ([da b (.map es last),da ib (.mapIter (some b) since seen last)]++L) (hp H):=Sat.flat ⟨h1,a5,h2,h3⟩;have hm:hp H b=some (.map es last):=s2.get;have hi:hp H ib=some (.mapIter (some b) since seen last):=s2.swap.get;unfold execOp;simp only[hx];refine ae ?_;unfold Instr.entry;simp only;refine ae (gZ hi rfl ?_);simp only[Az];refine ae (gZ hm rfl ?_);simp only[bne_self_eq_false,gn,eR];have n8:es.find? (λe=>e.born==e0.born)=some e0:=by
   have hl:es.toList.find? (λe=>e.born==e0.born)=some e0:=by
    cases SI:es.toList.find? (λe=>e.born==e0.born)with
    |none=>
     have:=Jw.1 SI e0 he0;simp at this
    |some e1=>
     have h1:=JA SI;have h2:=Bt SI;obtain⟨i1,xP⟩:=o5 h2;obtain⟨i2,xO⟩:=o5 he0;have hbe:e1.born=e0.born:=by simpa using h1
     have:=yY mr.bn (i:=i1) (j:=i2) (x:=e0.born) (by simp[xP,hbe]) (by simp[xO]);subst this;rw[xP]at xO;exact congrArg some (bR xO)
   rw[<- hl];simp
  rw[n8];have HQ:e0.val=g w:=by
   have:(e0.key,e0.val)∈Ei kk (kQ g l):=by rw[<- mr.kv];exact wQ (f:=λe:MapEntry=>(e.key,e.val)) he0
   obtain⟨p,Eh,CZ⟩:=bM.1 this;obtain⟨wX,HO⟩:=Li CZ;have hpj:p.1=j:=by rw[Zu]at wX;injection wX
   have hgm:=eG mr.nd (show(j,p.2)∈kQ g l by rw[<- hpj];exact Eh);rw[nu,hg]at hgm;rw[<- HO];exact(bR hgm).symm
  simp only[Zu,HQ];exact aA (aA ⟨As,s,h⟩)
end
end Go.Sl
