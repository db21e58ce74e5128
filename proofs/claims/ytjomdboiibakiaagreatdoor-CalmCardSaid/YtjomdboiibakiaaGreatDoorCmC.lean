/-
  Texts that the proof needs, joined: part 3.
-/
import Derived.Test.YtjomdboiibakiaaGreatDoorCmB
import Derived.Conc.DeferLaws
import Derived.Conc.AtomicLaws2
import Derived.Conc.SmallLaws
import Derived.Laws.LoneSync
import Derived.Conc.EventLaws
set_option linter.unusedSimpArgs false
set_option linter.unusedVariables false
set_option maxHeartbeats 4000000
namespace Go.Sl
open Go.Proofs.Tryz
section
open Go.Conc
def fD(P:bL){α:Type}:Sem α->Option α
 |.pure a=>some a
 |.program k=>fD P (k P)
 |_=>none
theorem kW{P:bL}{α:Type}{s:Sem α}{v:α}(h:fD P s=some v)(w:World)(es:Array Event):s.runT P w es=(.ok v w,es):=by
 induction s generalizing es with
 |pure a=>obtain rfl:=bS h;rfl
 |program k ih=>exact ih P h es
 |_=>cases h
theorem M1{P:bL}{α β:Type}{s:Sem α}{f:α->Sem β}{a:α}(h:fD P s=some a):fD P (s.bind f)=fD P (f a):=by
 induction s with
 |pure b=>obtain rfl:=bS h;rfl
 |program k ih=>exact ih P h
 |_=>cases h
theorem bq{P:bL}{α β:Type}{s:Sem α}{f:α->Sem β}{a:α}{b:β}(h:fD P s=some a)(k:fD P (f a)=some b):fD P (s >>= f)=some b:=(M1 h).trans k
structure Mt(P:bL)(ak:Bool)(Z:World->Prop)(W:Nat->aP->Prop):Prop where
 s:∀ (q:Nat) (g g':aP),g.status=.running->(∀ w,Z w->stepG P ak g w=.go g' w #[])->W q g'->W (q+1) g
 mono:∀ (q m:Nat) (g:aP),W q g->q<=m->W m g
section
variable{P:bL}{ak:Bool}{Z:World->Prop}{W:Nat->aP->Prop}{q:Nat}
variable{fn:bI}{kd:Kd}{n:Nat}{e:Nat->Value}{ds:List dQ}{k:List Item}{cs:List Frame}
theorem Mt.fT(M:Mt P ak Z W):∀ (m:Nat) (k:List Item),W q (gr fn kd n e ds (ctl m k) cs)->W (q+m) (gr fn kd n e ds k cs)
 |0,_,h=>h
 |m+1,k,h=>by
  unfold ctl at h;split at h
  ·exact M.s _ _ _ rfl (λw _=>by simp[gr,aU,stepG,stepG.exec]) (M.fT m _ h)
  ·exact M.s _ _ _ rfl (λw _=>by simp[gr,aU,stepG,stepG.exec]) (M.fT m _ h)
  ·exact M.s _ _ _ rfl (λw _=>by simp[gr,aU,stepG,stepG.exec]) (M.fT m _ h)
  ·rename_i c k';split at h
   ·rename_i hc;have:=fb hc;simp only at this;rw[this];exact M.s _ _ _ rfl (λw _=>by simp[gr,aU,stepG,stepG.exec]) (M.fT m _ h)
   ·rename_i hc;obtain⟨l,e⟩:=fb hc;rw[e];exact M.s _ _ _ rfl (λw _=>by simp[gr,aU,stepG,stepG.exec]) (M.fT m _ h)
   ·rename_i hc;have:=fb hc;simp only at this;rw[this];exact M.s _ _ _ rfl (λw _=>by simp[gr,aU,stepG,stepG.exec]) (M.fT m _ h)
   ·rename_i hc;have:=fb hc;simp only at this;rw[this];exact M.s _ _ _ rfl (λw _=>by simp[gr,aU,stepG,stepG.exec]) (M.fT m _ h)
   ·rename_i hc;have:=fb hc;simp only at this;rw[this];exact M.s _ _ _ rfl (λw _=>by simp[gr,aU,stepG,stepG.exec]) (M.fT m _ h)
   ·rename_i hc;split at h
    ·rename_i k'' hx;have:=fb hc;simp only at this;rw[this];exact M.s _ _ _ rfl (λw _=>by simp[gr,aU,stepG,stepG.exec,hx]) (M.fT m _ h)
    ·exact M.mono _ _ _ h az
   ·exact M.mono _ _ _ h az
  ·exact M.mono _ _ _ h az
theorem Mt.go(M:Mt P ak Z W){k':List Item}(h:W q (gr fn kd n e ds k' cs))(hk:ctl 60 k=k':=by rfl):W (q+60) (gr fn kd n e ds k cs):=M.fT 60 k (hk▸h)
theorem Mt.cond(M:Mt P ak Z W){c:cA}{x y:Code}{t:Bool}(hc:ev n e c=.bool t)(h:W q (gr fn kd n e ds (.code (if t then x else y)::k) cs)):W (q+1) (gr fn kd n e ds (.code (.cond c x y)::k) cs):=
 M.s _ _ _ rfl (λw _=>by have:=tN fn kd n e ds (.code (.cond c x y)::k);simp only[aU]at this;simp[gr,aU,stepG,stepG.exec,this,hc]) h
theorem Mt.Jm(M:Mt P ak Z W){c:Code}{k':List Item}(h:W q (gr fn kd n e ds k' cs))(hc:ck c=.cond:=by rfl)(hv:ev n e (cC c)=.bool true:=by rfl)(hk:ctl 60 (.code (cT c)::k)=k':=by rfl):W (q+60+1) (gr fn kd n e ds (.code c::k) cs):=by have:=fb hc;simp only at this;rw[this];exact M.cond hv (M.fT 60 _ (hk▸h))
theorem Mt.Br(M:Mt P ak Z W){c:Code}{k':List Item}(h:W q (gr fn kd n e ds k' cs))(hc:ck c=.cond:=by rfl)(hv:ev n e (cC c)=.bool false:=by rfl)(hk:ctl 60 (.code (cE c)::k)=k':=by rfl):W (q+60+1) (gr fn kd n e ds (.code c::k) cs):=by have:=fb hc;simp only at this;rw[this];exact M.cond hv (M.fT 60 _ (hk▸h))
theorem Mt.rg(M:Mt P ak Z W){c:Code}(l:List Nat)(h:W q (gr fn kd n e ds (.inRegion (cO c) l::k) cs))(hc:ck c=.region:=by rfl)(hl:List.range (cO c).size=l:=by rfl):W (q+1) (gr fn kd n e ds (.code c::k) cs):=by have:=fb hc;simp only at this;rw[this];exact M.s _ _ _ rfl (λw _=>by simp[gr,aU,stepG,stepG.exec]) (hl▸h)
theorem Mt.lp(M:Mt P ak Z W){c:Code}(h:W q (gr fn kd n e ds (.code (cB c):: .inLoop (cB c)::k) cs))(hc:ck c=.loop:=by rfl):W (q+1) (gr fn kd n e ds (.code c::k) cs):=by have:=fb hc;simp only at this;rw[this];exact M.s _ _ _ rfl (λw _=>by simp[gr,aU,stepG,stepG.exec]) h
theorem Mt.TQ(M:Mt P ak Z W){c:Code}(h:W q (gr fn kd n e ds (.code c:: .inLoop c::k) cs)):W (q+1) (gr fn kd n e ds (.inLoop c::k) cs):=
 M.s _ _ _ rfl (λw _=>by simp[gr,aU,stepG,stepG.exec]) h
variable{ops:Array Oper}{i:Nat}{aa:List Nat}{dst:Option Nat}{t:Nat}{ty:aQ}{pos:String}{af:Array Edge}{gd:Option (Nat×Bool)}{x y z:cA}{v u:Value}
theorem stepG_op{o:Oper}(ho:aZ ops i=some o)(hw:aM ops n e o.guard=true)(w:World):stepG P ak (gr fn kd n e ds (.inRegion ops (i::aa)::k) cs) w=stepG.apply P true (aU fn kd n e ds (.inRegion ops (i::aa)::k)) cs none (execOp (ev n e) o) w:=by rw[<- db]at ho;rw[<- dX]at hw;have he:=tN fn kd n e ds (.inRegion ops (i::aa)::k);simp only[aU]at he;simp[gr,aU,stepG,stepG.exec,stepG.oper,Frame.oper?,ho,hw,he]
theorem Ad{o:Oper}(ho:aZ ops i=some o)(hw:aM ops n e o.guard=true)(hy:fD P (execOp (ev n e) o)=some (.value v))(w:World):stepG P ak (gr fn kd n e ds (.inRegion ops (i::aa)::k) cs) w=.go (gr fn kd n (cS e o.dst v) ds (.inRegion ops aa::k) cs) w #[]:=by rw[stepG_op ho hw];have r:=kW hy w #[];have xm:=kd.early;simp only[stepG.apply,r,eM];rw[bY (by rw[db];exact ho)];simp[aU,GStep.after,gr,seen_none,xm]
theorem Jx{o:Oper}{x:dQ}(ho:aZ ops i=some o)(hw:aM ops n e o.guard=true)(hy:fD P (execOp (ev n e) o)=some (.defer x))(w:World):stepG P ak (gr fn kd n e ds (.inRegion ops (i::aa)::k) cs) w=.go (gr fn kd n (cS e o.dst undef) (x::ds) (.inRegion ops aa::k) cs) w #[]:=by rw[stepG_op ho hw];have r:=kW hy w #[];have xm:=kd.early;have hf:=bY (fn:=fn) (kd:=kd) (n:=n) (e:=e) (ds:=x::ds) (k:=k) (aa:=aa) (o:=o) (by rw[db];exact ho) undef;simp only[aU]at hf;simp only[stepG.apply,r,eM,aU];rw[hf];simp[aU,xm,GStep.after,gr,seen_none]
theorem Ae{o:Oper}{f:bI}{args:Array Value}(ho:aZ ops i=some o)(hw:aM ops n e o.guard=true)(hy:fD P (execOp (ev n e) o)=some (.enter f args))(w:World):stepG P ak (gr fn kd n e ds (.inRegion ops (i::aa)::k) cs) w=.go (iB P f args .pb (aU fn kd n e ds (.inRegion ops (i::aa)::k)::cs)) w #[]:=by rw[stepG_op ho hw];have r:=kW hy w #[];have xm:=kd.early;simp only[stepG.apply,r,eM];simp[aU,xm,GStep.after,iB,seen_none];rfl
theorem stepG_comm{o:Oper}{cases:Array CommCase}{sh:CommShape}{bl:Bool}(ho:aZ ops i=some o)(hw:aM ops n e o.guard=true)(hy:fD P (execOp (ev n e) o)=some (.comm cases bl sh))(w:World):stepG P ak (gr fn kd n e ds (.inRegion ops (i::aa)::k) cs) w=.comm (gr fn kd n e ds (.inRegion ops (i::aa)::k) cs) cases bl sh w #[]:=by rw[stepG_op ho hw];have r:=kW hy w #[];have xm:=kd.early;simp only[stepG.apply,r,eM];simp[aU,xm,GStep.after,gr,seen_none]
def child(P:bL)(d:dQ):aP:={frame:={(default:Frame)with fn:=P.funcs.size,defers:=[d],mode:=.panicking [goexitEntry]},callers:=[],status:=.running,dying:=none}
theorem Dz{o:Oper}{x:dQ}(ho:aZ ops i=some o)(hw:aM ops n e o.guard=true)(hy:fD P (execOp (ev n e) o)=some (.spawn x))(hx:∃ f cap,x.target=.fn f cap)(w:World):stepG P ak (gr fn kd n e ds (.inRegion ops (i::aa)::k) cs) w=.spawn (gr fn kd n (cS e o.dst undef) ds (.inRegion ops aa::k) cs) (child P x) w #[]:=by rw[stepG_op ho hw];have r:=kW hy w #[];have xm:=kd.early;simp only[stepG.apply,r,eM];rw[bY (by rw[db];exact ho)];obtain⟨tg,ar⟩:=x;obtain⟨f,cap,rfl⟩:∃ f cap,tg=.fn f cap:=hx;simp[aU,xm,GStep.after,gr,seen_none,child]
theorem Mt.op(M:Mt P ak Z W){o:Oper}(ho:aZ ops i=some o)(hw:aM ops n e o.guard=true)(hy:fD P (execOp (ev n e) o)=some (.value v))(h:W q (gr fn kd n (cS e o.dst v) ds (.inRegion ops aa::k) cs)):W (q+1) (gr fn kd n e ds (.inRegion ops (i::aa)::k) cs):=
 M.s _ _ _ rfl (λw _=>Ad ho hw hy w) h
theorem Mt.no(M:Mt P ak Z W){op:Op}(ho:aZ ops i=some ⟨dst,op,ty,pos,af,gd⟩)(h:W q (gr fn kd n (cS e dst undef) ds (.inRegion ops aa::k) cs))(hw:aM ops n e gd=false:=by rfl):W (q+1) (gr fn kd n e ds (.inRegion ops (i::aa)::k) cs):=by
 refine M.s _ _ _ rfl (λw _=>?_) h;rw[<- db]at ho;have nF:Region.wanted (⟨dst,op,ty,pos,af,gd⟩:Oper) (yielded ops (tm n e))=false:=by rw[dX];exact hw
 have hf:=bY (fn:=fn) (kd:=kd) (n:=n) (e:=e) (ds:=ds) (k:=k) (aa:=aa) ho undef;simp only[aU]at hf;simp only[gr,aU,stepG,stepG.exec,ho,k7,jU,nF,ij,fB,hf]
theorem Mt.mv(M:Mt P ak Z W)(ho:aZ ops i=some ⟨some t,.move x,ty,pos,af,gd⟩)(h:W q (gr fn kd n (put e t v) ds (.inRegion ops aa::k) cs))(hx:ev n e x=v:=by conv=>{lhs;whnf})(hw:aM ops n e gd=true:=by rfl):W (q+1) (gr fn kd n e ds (.inRegion ops (i::aa)::k) cs):=
 M.op ho hw (by unfold execOp;simp only[hx];rfl) h
theorem Mt.kH(M:Mt P ak Z W)(ho:aZ ops i=some ⟨some t,.assign x,ty,pos,af,gd⟩)(h:W q (gr fn kd n (put e t v) ds (.inRegion ops aa::k) cs))(hx:ev n e x=v:=by conv=>{lhs;whnf})(hw:aM ops n e gd=true:=by rfl):W (q+1) (gr fn kd n e ds (.inRegion ops (i::aa)::k) cs):=
 M.op ho hw (by unfold execOp;simp only[hx];rfl) h
theorem Mt.nc(M:Mt P ak Z W){a:Addr}(ho:aZ ops i=some ⟨some t,.nilCheck x,ty,pos,af,gd⟩)(h:W q (gr fn kd n (put e t (.pointer (some a))) ds (.inRegion ops aa::k) cs))(hx:ev n e x=.pointer (some a):=by rfl)(hw:aM ops n e gd=true:=by rfl):W (q+1) (gr fn kd n e ds (.inRegion ops (i::aa)::k) cs):=
 M.op ho hw (by unfold execOp;simp only[hx];rfl) h
theorem fy{t:aQ}{u:TypeDesc}(h:P.underlying t=some u):fD P (underlying t)=some u:=by unfold underlying;refine bq (a:=P) rfl ?_;simp only[h];rfl
theorem mJ{t:aQ}{i:TypeInfo}(h:P.info? t=some i):fD P (typeInfo t)=some i:=by unfold typeInfo;refine bq (a:=P) rfl ?_;simp only[h];rfl
theorem DC{t:aQ}{z:Nat}(h:∃ i,P.info? t=some i/\i.size=z):fD P (sizeOf t)=some z:=by obtain⟨i,h,rfl⟩:=h;unfold sizeOf;exact bq (mJ h) rfl
theorem tY{t:aQ}{v:Value}(h:∃ i,P.info? t=some i/\i.zero=some v):fD P (zeroValue t)=some v:=by obtain⟨i,h,hz⟩:=h;unfold zeroValue;refine bq (mJ h) ?_;rw[hz];rfl
theorem Mt.fa(M:Mt P ak Z W){s f o b off:Nat}[c:Fl P s f o](ho:aZ ops i=some ⟨some t,.fieldAddr s x f,ty,pos,af,gd⟩)(h:W q (gr fn kd n (put e t (.pointer (some ⟨b,off+o,none⟩))) ds (.inRegion ops aa::k) cs))
  (hx:ev n e x=.pointer (some ⟨b,off,none⟩):=by rfl) (hw:aM ops n e gd=true:=by rfl):W (q+1) (gr fn kd n e ds (.inRegion ops (i::aa)::k) cs):=
 M.op ho hw (by obtain⟨fs,fl,z,h1,h2,rfl,⟨inf,h4,h5⟩,h6⟩:=c.h;unfold execOp;simp only[hx,Instr.fieldAt];refine bq (a:=.pointer (some ⟨b,off+fl.offset,none⟩)) (bq (fy h1) ?_) rfl;simp only[h2,Instr.sureAddr];refine bq (a:=(⟨b,off,none⟩:Addr)) rfl ?_;unfold fieldPlace;refine bq (a:=⟨b,off+fl.offset,none⟩) ?_ rfl;refine bq (DC ⟨inf,h4,h5⟩) ?_;rw[ao h6,gK];rfl) h
theorem Mt.ext(M:Mt P ak Z W){vs:Array Value}{ix:Nat}(ho:aZ ops i=some ⟨some t,.extract x ix,ty,pos,af,gd⟩)(h:W q (gr fn kd n (put e t v) ds (.inRegion ops aa::k) cs))
  (hx:ev n e x=.tuple vs:=by rfl) (hv:vs[ix]? =some v:=by rfl) (hw:aM ops n e gd=true:=by rfl):W (q+1) (gr fn kd n e ds (.inRegion ops (i::aa)::k) cs):=
 M.op ho hw (by unfold execOp;simp only[hx,Instr.extract,hv];rfl) h
theorem Mt.cv(M:Mt P ak Z W){k1 k2:IntKind}{s1 s2:aQ}{p r:Int}[c1:Ik P s1 k1][c2:Ik P s2 k2](ho:aZ ops i=some ⟨some t,.convert s1 s2 x,ty,pos,af,gd⟩)(h:W q (gr fn kd n (put e t (.int k2 r)) ds (.inRegion ops aa::k) cs))
  (hx:ev n e x=.int k1 p:=by rfl) (hr:k2.wrap p=r:=by rfl) (hw:aM ops n e gd=true:=by rfl):W (q+1) (gr fn kd n e ds (.inRegion ops (i::aa)::k) cs):=
 M.op ho hw (by unfold execOp;simp only[hx];refine bq (a:=.int k2 r) ?_ rfl;unfold convert;refine bq (fy c1.h) (bq (fy c2.h) ?_);simp only[Conv.intToInt,hr];rfl) h
theorem Mt.bo(M:Mt P ak Z W){op:BinOp}{tt t2:aQ}{k1 k2:IntKind}{p r:Int}(ho:aZ ops i=some ⟨some t,.binOp op tt x y t2,ty,pos,af,gd⟩)(h:W q (gr fn kd n (put e t v) ds (.inRegion ops aa::k) cs))
  (hx:ev n e x=.int k1 p:=by rfl) (hy:ev n e y=.int k2 r:=by rfl) (hv:fD P (binOp op tt (.int k1 p) (.int k2 r))=some v:=by rfl) (hw:aM ops n e gd=true:=by rfl):W (q+1) (gr fn kd n e ds (.inRegion ops (i::aa)::k) cs):=
 M.op ho hw (by unfold execOp;simp only[hx,hy];refine bq (a:=v) ?_ rfl;refine bq (a:=()) ?_ hv;unfold eqGuard;cases op<;>rfl) h
theorem Mt.pk(M:Mt P ak Z W){b:Bool}(ho:aZ ops i=some ⟨some t,.pick x y z,ty,pos,af,gd⟩)(h:W q (gr fn kd n (put e t v) ds (.inRegion ops aa::k) cs))(hx:ev n e x=.bool b:=by rfl)(hy:(if b then ev n e y else ev n e z)=v:=by conv=>{lhs;whnf})(hw:aM ops n e gd=true:=by rfl):W (q+1) (gr fn kd n e ds (.inRegion ops (i::aa)::k) cs):=
 M.op ho hw (by unfold execOp;simp only[hx];cases b<;>(subst hy;rfl)) h
theorem Mt.P9(M:Mt P ak Z W){s1 s2 t1:aQ}{z:Nat}{ad:Addr}[c1:Pt P s1 t1][c2:Up P s2][c3:Cz P t1 z](hZ:∀ w,Z w->∃ v,w.cell? ad=some v)(ho:aZ ops i=some ⟨some t,.convert s1 s2 x,ty,pos,af,gd⟩)(h:W q (gr fn kd n (put e t (.pointer (some ad))) ds (.inRegion ops aa::k) cs))
  (hz:z≠0:=by decide) (hx:ev n e x=.pointer (some ad):=by rfl) (hw:aM ops n e gd=true:=by rfl):W (q+1) (gr fn kd n e ds (.inRegion ops (i::aa)::k) cs):=by
 refine M.s _ _ _ rfl (λw nF=>?_) h;obtain⟨v,hv⟩:=hZ w nF;obtain⟨inf,hi,MF⟩:=c3.h;have hsz:(P.info? t1).map (λi=>decide (i.size=0))=some false:=by rw[hi];simp[MF,hz]
 rw[stepG_op ho hw];have key:(execOp (ev n e) ⟨some t,.convert s1 s2 x,ty,pos,af,gd⟩).runT P w #[]=(.ok (.value (.pointer (some ad))) w,#[]):=by have k2:(convert s1 s2 (.pointer (some ad))).runT P w #[]=(.ok (.pointer (some ad)) w,#[]):=Prod.ext ((Sem.runT_fst P _ w #[]).trans (run_convert_to_unsafe c1.h c2.h hsz hv)) (events_convert_to_unsafe c1.h c2.h hsz hv #[]);unfold execOp;simp only[hx];show((convert s1 s2 (.pointer (some ad))).bind λv=>Sem.pure (Next.value v)).runT P w #[]=_;rw[Sem.runT_bind',k2];rfl
 have xm:=kd.early;simp only[stepG.apply,key,eM];rw[bY (by rw[db];exact ho)];simp[aU,GStep.after,gr,xm,cS,seen_none]
theorem kg{f:bI}{fu:Func}{c:Code}{nf:Nat}[b:Body P f fu c nf](args:Array Value):fD P (callFunc f args)=some (.enter f args):=by unfold callFunc;refine bq (a:=P) rfl ?_;rw[b.func];simp only[b.name,b.body,Option.isNone_some,ij,fB];rfl
theorem Mt.Qa(M:Mt P ak Z W){f:bI}{fu:Func}{c:Code}{nf:Nat}[b:Body P f fu c nf]{fo:cA}{args:Array cA}{fU:Array aQ}{vl:List Value}(ho:aZ ops i=some ⟨dst,.call ⟨.value fo,args,fU⟩,ty,pos,af,gd⟩)
  (h:W q (gr f .pb nf (xj vl.toArray) [] [.code c] (aU fn kd n e ds (.inRegion ops (i::aa)::k)::cs)))
  (hw:aM ops n e gd=true:=by rfl) (hf:ev n e fo=.func (.func f) #[] #[]:=by rfl) (hv:args.toList.map (ev n e)=vl:=by rfl) (hn:Nat.ble vl.length nf=true:=by rfl):W (q+1) (gr fn kd n e ds (.inRegion ops (i::aa)::k) cs):=by
 have sk:args.map (ev n e)=vl.toArray:=by rw[<- hv,<- pP,sd]
 refine M.s _ _ _ rfl (λw _=>Ae (f:=f) (args:=vl.toArray) ho hw (by
  unfold execOp;simp only;refine bq (a:=⟨.fn (.func f) #[],vl.toArray⟩) ?_ ?_
  ·unfold resolve;simp only[hf,Deferred.ofValue,sk,zf];rfl
  ·show fD P (callFunc f (vl.toArray++#[]))=_;rw[vV];exact kg _) w) ?_
 have:=l8 (P:=P) (kd:=.pb) (args:=vl.toArray) (cs:=aU fn kd n e ds (.inRegion ops (i::aa)::k)::cs) b.func b.body (by rw[b.tmps];exact vW (by simpa using hn));rw[this,b.tmps];exact h
theorem Mt.n7(M:Mt P ak Z W){f:bI}{fo:cA}{args:Array cA}{fU:Array aQ}{vl:List Value}(ho:aZ ops i=some ⟨dst,.defer ⟨.value fo,args,fU⟩,ty,pos,af,gd⟩)
  (h:W q (gr fn kd n (cS e dst undef) (⟨.fn (.func f) #[],vl.toArray⟩::ds) (.inRegion ops aa::k) cs))
  (hw:aM ops n e gd=true:=by rfl) (hf:ev n e fo=.func (.func f) #[] #[]:=by rfl) (hv:args.toList.map (ev n e)=vl:=by rfl):W (q+1) (gr fn kd n e ds (.inRegion ops (i::aa)::k) cs):=by
 have sk:args.map (ev n e)=vl.toArray:=by rw[<- hv,<- pP,sd]
 refine M.s _ _ _ rfl (λw _=>Jx (x:=⟨.fn (.func f) #[],vl.toArray⟩) ho hw (by unfold execOp;simp only;refine bq (a:=⟨.fn (.func f) #[],vl.toArray⟩) ?_ rfl;unfold resolve;simp only[hf,Deferred.ofValue,sk,zf];rfl) w) h
theorem Mt.ret(M:Mt P ak Z W)(h:W q (pZ fn kd n e ds (.code .ret::k) cs)):W (q+1) (gr fn kd n e ds (.code .ret::k) cs):=
 M.s _ _ _ rfl (λw _=>by simp[gr,pZ,pC,aU,stepG,stepG.exec]) h
theorem Mt.fin(M:Mt P ak Z W)(h:W q (pZ fn kd n e ds [] cs)):W (q+1) (gr fn kd n e ds [] cs):=
 M.s _ _ _ rfl (λw _=>by simp[gr,pZ,pC,aU,stepG,stepG.exec]) h
theorem qk{fu:Func}{v:Value}(h:rl fu n e=some v):fD P (results fu (tm n e))=some v:=by
 have key:results fu (tm n e)=(pure v:Sem Value):=by
  unfold rl at h;have hl:fu.results=fu.results.toList.toArray:=by simp
  generalize fu.results.toList=l at h hl;split at h<;>first|(cases h;done)|skip
  all_goals(simp only[y0]at h;subst h)
  all_goals simp[results,hl,<- oI, -Array.getD_eq_getD_getElem?]
 rw[key];rfl
theorem Mt.home(M:Mt P ak Z W){fu:Func}{cc:Code}{n':Nat}[b:Body P fn fu cc n']{kR:List Item}{c:Frame}{v:Value}(h:W q (eT c cs v))(hv:rl fu n e=some v:=by rfl):W (q+1) (pZ fn .pb n e [] kR (c::cs)):=
 M.s _ _ _ rfl (λw _=>by have r:=kW (qk (P:=P) hv) w #[];simp only[pZ,pC,aU,stepG,unwind,b.func,r,doReturn,Kd.k];simp[GStep.after,eT,seen_none]) h
theorem Mt.Ii(M:Mt P ak Z W){fu:Func}{cc:Code}{n':Nat}[b:Body P fn fu cc n']{kR:List Item}{c:Frame}{v:Value}(h:W q (vG c cs))(hv:rl fu n e=some v:=by rfl)(hc:c.mode=.returning\/c.mode=.panicking [goexitEntry]:=by first|exact .inl rfl|exact .inr rfl):W (q+1) (pZ fn .n7 n e [] kR (c::cs)):=
 M.s _ _ _ rfl (λw _=>by have r:=kW (qk (P:=P) hv) w #[];simp only[pZ,pC,aU,stepG,unwind,b.func,r,doReturn,Kd.k];rcases hc with hc|hc<;>simp[GStep.after,vG,seen_none,hc,goexitEntry]) h
theorem Mt.dcall(M:Mt P ak Z W){f:bI}{fu:Func}{c:Code}{nf:Nat}[b:Body P f fu c nf]{cap args:Array Value}{todo:List Item}(h:W q (gr f .n7 nf (xj (args++cap)) [] [.code c] (pC fn kd n e ds todo::cs)))(hn:Nat.ble (args++cap).size nf=true:=by rfl):W (q+1) (pZ fn kd n e (⟨.fn (.func f) cap,args⟩::ds) todo cs):=by have e1:=l8 (P:=P) (kd:=.n7) (args:=args++cap) (cs:=pC fn kd n e ds todo::cs) b.func b.body (by rw[b.tmps];exact vW hn);refine M.s _ _ (iB P f (args++cap) .n7 (pC fn kd n e ds todo::cs)) rfl (λw _=>?_) (by rw[e1,b.tmps];exact h);have r:=kW (kg (P:=P) (f:=f) (args++cap)) w #[];simp only[pZ,pC,aU,stepG,unwind,callDeferred,invoke,r];simp[GStep.after,iB,Kd.k,seen_none]
def base(P:bL)(ds:List dQ):Frame:={(default:Frame)with fn:=P.funcs.size,defers:=ds,mode:=.panicking [goexitEntry]}
theorem Mt.child(M:Mt P ak Z W){f:bI}{fu:Func}{c:Code}{nf:Nat}[b:Body P f fu c nf]{cap args:Array Value}(h:W q (gr f .n7 nf (xj (args++cap)) [] [.code c] [base P []]))(hn:Nat.ble (args++cap).size nf=true:=by rfl):W (q+1) (child P ⟨.fn (.func f) cap,args⟩):=by have e1:=l8 (P:=P) (kd:=.n7) (args:=args++cap) (cs:=[base P []]) b.func b.body (by rw[b.tmps];exact vW hn);refine M.s _ _ (iB P f (args++cap) .n7 [base P []]) rfl (λw _=>?_) (by rw[e1,b.tmps];exact h);have r:=kW (kg (P:=P) (f:=f) (args++cap)) w #[];simp only[Sl.child,stepG,unwind,callDeferred,invoke,r];simp[GStep.after,iB,Kd.k,seen_none,base]
theorem Jy{d:Nat}(hd:d=0):QuitsD P 1 d (vG (base P []) []):=by refine .inr ⟨rfl,{frame:=base P [],callers:=[],status:=.finished,dying:=none},#[],by simp,λw=>?_,⟨rfl,by rw[deafBehind_nil];exact hd⟩⟩;have h0:(default:Frame).todo=[]:=rfl;simp[vG,base,stepG,unwind,Frame.catches,h0,goexitEntry]
end
theorem QuitsD.DD{P:bL}:∀ {n m d:Nat} {g:aP},QuitsD P n d g->n<=m->QuitsD P m d g
 |0,0,_,_,h,_=>h
 |0,m+1,_,_,h,_=>.inl h
 |n+1,0,_,_,_,hm=>absurd hm az
 |n+1,m+1,_,_,h,hm=>h.imp id λ⟨h1,g',es,h2,h3,h4⟩=>⟨h1,g',es,h2,h3,QuitsD.DD h4 az⟩
theorem Cl.mono{P:bL}{G:pK}:∀ {n m:Nat} {x:St} {g:aP},Cl P G n x g->n<=m->Cl P G m x g
 |0,_,_,_,h,_=>h.elim
 |n+1,0,_,_,_,hm=>absurd hm az
 |n+1,m+1,x,g,h,hm=>by
  obtain⟨hs,h⟩:=h;refine⟨hs,?_⟩;rcases h with⟨g',h1,h2⟩|h
  ·exact .inl ⟨g',h1,Cl.mono h2 az⟩
  ·refine .inr ?_;cases x with
   |rel=>obtain⟨g',h1,h2⟩:=h;exact⟨g',h1,Cl.mono h2 az⟩
   |wF=>obtain⟨g',h1,h2⟩:=h;exact⟨g',h1,Cl.mono h2 az⟩
   |add=>obtain⟨g',h1,h2,h3⟩:=h;exact⟨g',h1,Cl.mono h2 az,λv wt a b c=>QuitsD.DD (h3 v wt a b c) az⟩
   |ld=>obtain⟨g',h1,h2⟩:=h;exact⟨g',h1,Cl.mono h2 az⟩
   |Li=>obtain⟨g',h1,h2⟩:=h;exact⟨g',h1,Cl.mono h2 az⟩
   |F0=>obtain⟨h0,g',h1,h2⟩:=h;exact⟨h0,g',h1,QuitsD.DD h2 az⟩
theorem Mt.quits{P:bL}{d:Nat}:Mt P false (λ_=>True) λq g=>QuitsD P q d g:=⟨λq g g' hs h k=>.inr ⟨hs,g',#[],by simp,λw=>h w trivial,by rw[deafBehind_nil];exact k⟩,λ_ _ _ h hm=>QuitsD.DD h hm⟩
theorem Mt.cl{P:bL}{G:pK}{x:St}:Mt P false (Gs G) λq g=>Cl P G q x g:=⟨λq g g' hs h k=>⟨hs,.inl ⟨g',h,k⟩⟩,λ_ _ _ h hm=>Cl.mono h hm⟩
theorem Mt.mw{P:bL}{G:pK}{Fin:aP->Prop}{x:MS}:Mt P true (Gs G) λ_ g=>MW P G Fin x g:=⟨λ_ g g' hs h q=>.mute hs h q,λ_ _ _ h _=>h⟩
theorem Mt.Zy{P:bL}{ak:Bool}{s:du}:Mt P ak s.K λq g=>Way P ak s q g:=⟨λq g g' hs h k=>.inr ⟨hs,λw hw=>⟨g',#[],w.drawn,h w hw,by simp,k⟩⟩,λ_ _ _ h hm=>Way.mono h hm⟩
def bs(fn:bI)(kd:Kd):Frame:={(default:Frame)with fn:=fn,kind:=kd.k}
section
variable{P:bL}{ak:Bool}{fn:bI}{kd:Kd}{n:Nat}{e:Nat->Value}{ds:List dQ}{k:List Item}{cs:List Frame}
variable{ops:Array Oper}{i:Nat}{aa:List Nat}{dst:Option Nat}{t:Nat}{ty:aQ}{pos:String}{af:Array Edge}{gd:Option (Nat×Bool)}{x y z:cA}
variable{f:bI}{fu:Func}{args:Array cA}{fU:Array aQ}
theorem jE(todo:List Item):gr fn kd n e ds todo cs=G ((bs fn kd).at ⟨tm n e,ds⟩ todo) cs:=rfl
theorem kX(v:Value):(Act.put ⟨tm n e,ds⟩ dst v)=⟨tm n (cS e dst v),ds⟩:=by
 unfold Act.put cS;cases dst with
 |none=>rfl
 |some d=>simp only[MB]
theorem ic(x:cA):Act.eval ⟨tm n e,ds⟩ x=ev n e x:=by
 cases x with
 |tmp t=>simp only[Act.eval,ev,oI]
 |_=>rfl
theorem jF:(bs fn kd).kind≠ .early:=by cases kd<;>(intro h;cases h)
theorem xJ(m:Mark)[b:ef P f fu (λ_=>do mark m;pure Extern.Race.none_)](ho:aZ ops i=some ⟨dst,.call ⟨.value (.func f),args,fU⟩,ty,pos,af,gd⟩)(hw:aM ops n e gd=true)(hm:∀ g,m≠ .extern g)(w:World):
  stepG P ak (gr fn kd n e ds (.inRegion ops (i::aa)::k) cs) w=.go (gr fn kd n (cS e dst (.tuple #[])) ds (.inRegion ops aa::k) cs) w #[y6 m]:=by
 rw[jE,jE,<- kX];exact stepG_mark0 m hm (o:=⟨dst,.call ⟨.value (.func f),args,fU⟩,ty,pos,af,gd⟩) (by rw[db];exact ho) (by rw[dX];exact hw) jF rfl b.func b.name b.body b.nx b.fd
theorem xK(mk:Addr->Mark)[b:ef P f fu (Extern.Race.marked mk)]{ad:Addr}(ho:aZ ops i=some ⟨dst,.call ⟨.value (.func f),args,fU⟩,ty,pos,af,gd⟩)(hw:aM ops n e gd=true)(hm:∀ ad g,mk ad≠ .extern g)(hx:(args.toList.map (ev n e))[0]? =some (.pointer (some ad)))(w:World):
  stepG P ak (gr fn kd n e ds (.inRegion ops (i::aa)::k) cs) w=.go (gr fn kd n (cS e dst (.tuple #[])) ds (.inRegion ops aa::k) cs) w #[y6 (mk ad)]:=by
 rw[jE,jE,<- kX];refine stepG_markAt mk hm (o:=⟨dst,.call ⟨.value (.func f),args,fU⟩,ty,pos,af,gd⟩) (by rw[db];exact ho) (by rw[dX];exact hw) jF rfl b.func b.name b.body b.nx b.fd ?_;have:(args.map (Act.eval ⟨tm n e,ds⟩))=(args.toList.map (ev n e)).toArray:=by rw[show Act.eval ⟨tm n e,ds⟩=ev n e from funext ic,<- pP,sd]
 rw[this];simpa using hx
theorem xL{kk:IntKind}[b:ef P f fu (Extern.Atomic.loadT (.int kk))]{ad:Addr}{v:Int}(ho:aZ ops i=some ⟨dst,.call ⟨.value (.func f),#[x],fU⟩,ty,pos,af,gd⟩)(hw:aM ops n e gd=true)(hx:ev n e x=.pointer (some ad)){w:World}(hc:w.cell? ad=some (.int kk v)):
  stepG P ak (gr fn kd n e ds (.inRegion ops (i::aa)::k) cs) w=.go (gr fn kd n (cS e dst (.int kk v)) ds (.inRegion ops aa::k) cs) w #[ar ad]:=by
 rw[jE,jE,<- kX];exact stepG_load_atomic (o:=⟨dst,.call ⟨.value (.func f),#[x],fU⟩,ty,pos,af,gd⟩) (by rw[db];exact ho) (by rw[dX];exact hw) jF rfl b.func b.name b.body b.nx kk b.fd (by rw[ic];exact hx) hc
theorem M2{kk:IntKind}[b:ef P f fu Extern.Atomic.storeT]{ad:Addr}{v:Int}{u:Value}(ho:aZ ops i=some ⟨dst,.call ⟨.value (.func f),#[x,y],fU⟩,ty,pos,af,gd⟩)(hw:aM ops n e gd=true)(hx:ev n e x=.pointer (some ad))(hy:ev n e y=.int kk v){w:World}(hc:w.cell? ad=some u)(hz:w.frozen? ad=false):
  stepG P ak (gr fn kd n e ds (.inRegion ops (i::aa)::k) cs) w=.go (gr fn kd n (cS e dst (.tuple #[])) ds (.inRegion ops aa::k) cs) (w.setCell ad (.int kk v)) #[aw ad]:=by
 rw[jE,jE,<- kX];exact stepG_store_atomic (o:=⟨dst,.call ⟨.value (.func f),#[x,y],fU⟩,ty,pos,af,gd⟩) (by rw[db];exact ho) (by rw[dX];exact hw) jF rfl b.func b.name b.body b.nx b.fd (by rw[ic];exact hx) (by rw[ic];exact hy) hc hz
theorem M3{kk:IntKind}[b:ef P f fu (Extern.Atomic.update (Op.intArith .add) kk true)]{ad:Addr}{v d:Int}(ho:aZ ops i=some ⟨dst,.call ⟨.value (.func f),#[x,y],fU⟩,ty,pos,af,gd⟩)(hw:aM ops n e gd=true)(hx:ev n e x=.pointer (some ad))(hy:ev n e y=.int kk d){w:World}(hc:w.cell? ad=some (.int kk v))(hz:w.frozen? ad=false):
  stepG P ak (gr fn kd n e ds (.inRegion ops (i::aa)::k) cs) w=.go (gr fn kd n (cS e dst (.int kk (kk.wrap (v+d)))) ds (.inRegion ops aa::k) cs) (w.setCell ad (.int kk (kk.wrap (v+d)))) #[ar ad,aw ad]:=by
 rw[jE,jE,<- kX];exact stepG_add_atomic (o:=⟨dst,.call ⟨.value (.func f),#[x,y],fU⟩,ty,pos,af,gd⟩) (by rw[db];exact ho) (by rw[dX];exact hw) jF rfl b.func b.name b.body b.nx kk b.fd (by rw[ic];exact hx) (by rw[ic];exact hy) hc hz
theorem M4{kk:IntKind}[b:ef P f fu (Extern.Atomic.casT (.int kk))]{ad:Addr}{v d:Int}(ho:aZ ops i=some ⟨dst,.call ⟨.value (.func f),#[x,y,z],fU⟩,ty,pos,af,gd⟩)(hw:aM ops n e gd=true)(hx:ev n e x=.pointer (some ad))(hy:ev n e y=.int kk v)(MF:ev n e z=.int kk d){w:World}(hc:w.cell? ad=some (.int kk v))(hz:w.frozen? ad=false):
  stepG P ak (gr fn kd n e ds (.inRegion ops (i::aa)::k) cs) w=.go (gr fn kd n (cS e dst (.bool true)) ds (.inRegion ops aa::k) cs) (w.setCell ad (.int kk d)) #[ar ad,aw ad]:=by
 rw[jE,jE,<- kX];exact stepG_cas_hit (o:=⟨dst,.call ⟨.value (.func f),#[x,y,z],fU⟩,ty,pos,af,gd⟩) (by rw[db];exact ho) (by rw[dX];exact hw) jF rfl b.func b.name b.body b.nx kk b.fd (by rw[ic];exact hx) (by rw[ic];exact hy) (by rw[ic];exact MF) hc hz
theorem M5{kk:IntKind}[b:ef P f fu (Extern.Atomic.casT (.int kk))]{ad:Addr}{v old d:Int}(ho:aZ ops i=some ⟨dst,.call ⟨.value (.func f),#[x,y,z],fU⟩,ty,pos,af,gd⟩)(hw:aM ops n e gd=true)(hx:ev n e x=.pointer (some ad))(hy:ev n e y=.int kk old)(MF:ev n e z=.int kk d){w:World}(hc:w.cell? ad=some (.int kk v))(hz:w.frozen? ad=false)(eI:¬ v=old):
  stepG P ak (gr fn kd n e ds (.inRegion ops (i::aa)::k) cs) w=.go (gr fn kd n (cS e dst (.bool false)) ds (.inRegion ops aa::k) cs) w #[ar ad]:=by
 rw[jE,jE,<- kX];exact stepG_cas_miss (o:=⟨dst,.call ⟨.value (.func f),#[x,y,z],fU⟩,ty,pos,af,gd⟩) (by rw[db];exact ho) (by rw[dX];exact hw) jF rfl b.func b.name b.body b.nx kk b.fd (by rw[ic];exact hx) (by rw[ic];exact hy) (by rw[ic];exact MF) hc hz eI
theorem xM:args.map (Act.eval ⟨tm n e,ds⟩)=(args.toList.map (ev n e)).toArray:=by rw[show Act.eval ⟨tm n e,ds⟩=ev n e from funext ic,<- pP,sd]
theorem M6[b:ef P f fu Extern.Sync.semacquire]{ad:Addr}{v:Int}(ho:aZ ops i=some ⟨dst,.call ⟨.value (.func f),args,fU⟩,ty,pos,af,gd⟩)(hw:aM ops n e gd=true)(hx:(args.toList.map (ev n e))[0]? =some (.pointer (some ad))){w:World}(hc:w.cell? ad=some (.int .u32 v))(h0:v≠0)(hz:w.frozen? ad=false):
  stepG P ak (gr fn kd n e ds (.inRegion ops (i::aa)::k) cs) w=.go (gr fn kd n (cS e dst (.tuple #[])) ds (.inRegion ops aa::k) cs) (w.setCell ad (.int .u32 (v-1))) (semEvents ad):=by
 rw[jE,jE,<- kX];exact stepG_semacquire (o:=⟨dst,.call ⟨.value (.func f),args,fU⟩,ty,pos,af,gd⟩) (by rw[db];exact ho) (by rw[dX];exact hw) jF rfl b.func b.name b.body b.nx b.fd (by rw[xM];simpa using hx) hc h0 hz
theorem M7[b:ef P f fu Extern.Sync.semacquire]{ad:Addr}(ho:aZ ops i=some ⟨dst,.call ⟨.value (.func f),args,fU⟩,ty,pos,af,gd⟩)(hw:aM ops n e gd=true)(hx:(args.toList.map (ev n e))[0]? =some (.pointer (some ad))){w:World}(hc:w.cell? ad=some (.int .u32 0)):
  stepG P ak (gr fn kd n e ds (.inRegion ops (i::aa)::k) cs) w=.go {gr fn kd n e ds (.inRegion ops (i::aa)::k) cs with status:=.blocked} w #[]:=by
 rw[jE];exact stepG_semacquire_wait (o:=⟨dst,.call ⟨.value (.func f),args,fU⟩,ty,pos,af,gd⟩) (by rw[db];exact ho) (by rw[dX];exact hw) rfl b.func b.name b.body b.nx b.fd (by rw[xM];simpa using hx) hc
theorem M8[b:ef P f fu Extern.Sync.semrelease]{ad:Addr}{v:Int}(ho:aZ ops i=some ⟨dst,.call ⟨.value (.func f),args,fU⟩,ty,pos,af,gd⟩)(hw:aM ops n e gd=true)(hx:(args.toList.map (ev n e))[0]? =some (.pointer (some ad))){w:World}(hc:w.cell? ad=some (.int .u32 v))(hz:w.frozen? ad=false):
  stepG P ak (gr fn kd n e ds (.inRegion ops (i::aa)::k) cs) w=.go (gr fn kd n (cS e dst (.tuple #[])) ds (.inRegion ops aa::k) cs) (w.setCell ad (.int .u32 (IntKind.u32.wrap (v+1)))) (semEvents ad):=by
 rw[jE,jE,<- kX];exact stepG_semrelease (o:=⟨dst,.call ⟨.value (.func f),args,fU⟩,ty,pos,af,gd⟩) (by rw[db];exact ho) (by rw[dX];exact hw) jF rfl b.func b.name b.body b.nx b.fd (by rw[xM];simpa using hx) hc hz
theorem DF{α β:Type}{s:Sem α}{g:α->Sem β}{a:α}(h:fD P s=some a)(w:World)(es:Array Event):(s >>= g).runT P w es=(g a).runT P w es:=by
 show(s.bind g).runT P w es=_
 induction s generalizing es with
 |pure b=>obtain rfl:=bS h;rfl
 |program k ih=>exact ih P h es
 |_=>cases h
theorem DG{fn:bI}{es:Array Event}{e:Event}(h:e∈seen P fn es):e∈es:=by rw[seen_def]at h;have:=seen_fold_sub _ es.toList _ #[] e h;simpa using this
theorem DI{tt:aQ}{v:Value}{ad:Addr}[a:Ag P tt false](ho:aZ ops i=some ⟨some t,.load tt x,ty,pos,af,gd⟩)(hw:aM ops n e gd=true)(hx:ev n e x=.pointer (some ad)){w:World}(hc:w.cell? ad=some v):
  stepG P ak (gr fn kd n e ds (.inRegion ops (i::aa)::k) cs) w=.go (gr fn kd n (put e t v) ds (.inRegion ops aa::k) cs) w (seen P fn #[⟨.cell ad,false,false⟩]):=by
 rw[stepG_op ho hw];obtain⟨u,hu,hb⟩:=a.h;have aaM:fD P (isAgg tt)=some false:=by unfold isAgg;refine bq (fy hu) ?_;cases u<;>first|rfl|(cases hb)
 have key:(execOp (ev n e) ⟨some t,.load tt x,ty,pos,af,gd⟩).runT P w #[]=(.ok (.value v) w,#[⟨.cell ad,false,false⟩]):=by
  unfold execOp;simp only[hx,Instr.loadAt,Instr.sureAddr];have h1:(loadVar tt ad).runT P w #[]=(.ok v w,#[⟨.cell ad,false,false⟩]):=by unfold loadVar;rw[DF aaM];simp only[ij,fB,load,Sem.runT,hc];rfl
  show((loadVar tt ad).bind λz=>Sem.pure (Next.value z)).runT P w #[]=_;rw[Sem.runT_bind',h1];rfl
 have xm:=kd.early;simp only[stepG.apply,key,eM];rw[bY (by rw[db];exact ho)];simp[aU,GStep.after,gr,xm,cS]
end
section
variable{P:bL}{ak:Bool}{s:du}{fn:bI}{kd:Kd}{n:Nat}{e:Nat->Value}{ds:List dQ}{k:List Item}{cs:List Frame}
variable{ops:Array Oper}{i:Nat}{aa:List Nat}{dst:Option Nat}{t:Nat}{ty:aQ}{pos:String}{af:Array Edge}{gd:Option (Nat×Bool)}{x y z:cA}
abbrev XE(P:bL)(ak:Bool)(s:du)(g:aP):Prop:=∃ n,Way P ak s n g
theorem M9{q:Nat}{tt:aQ}{v:Value}{ad:Addr}[a:Ag P tt false](ho:aZ ops i=some ⟨some t,.load tt x,ty,pos,af,gd⟩)(h:Way P ak s q (gr fn kd n (put e t v) ds (.inRegion ops aa::k) cs))(hm:(ad,v)∈s.mem)(hx:ev n e x=.pointer (some ad):=by rfl)(hw:aM ops n e gd=true:=by rfl):Way P ak s (q+1) (gr fn kd n e ds (.inRegion ops (i::aa)::k) cs):=by refine .inr ⟨rfl,λw hK=>⟨_,_,w.drawn,DI ho hw hx (hK _ hm),λe he=>?_,h⟩⟩;have:=DG he;simp only[oG,ga,l7,fO]at this;exact⟨ad,this,(ad,v),hm,rfl⟩
theorem T6{m:Nat}{c:Code}(q:∀ t,Way P ak s m (gr fn kd n e ds (.inRegion (cO c) (Region.schedule (P.follows .mixedOrders) (cO c) t)::k) cs))(hc:ck c=.draw:=by rfl):Way P ak s (m+1) (gr fn kd n e ds (.code c::k) cs):=by have:=fb hc;simp only at this;rw[this];refine .inr ⟨rfl,λw hK=>⟨_,#[],w.drawn+1,?_,by simp,q (w.tape w.drawn (.order fn (cI c)))⟩⟩;simp[gr,aU,stepG,stepG.exec,choose,Sem.run,Question.forced,Question.cut];rfl
theorem T7{o:Oper}(ho:aZ ops i=some o)(hr:s.tH (gr fn kd n e ds (.inRegion ops (i::aa)::k) cs))(hy:fD P (execOp (ev n e) o)=some (.comm s.cases true s.shape))(hw:aM ops n e o.guard=true):Way P ak s 0 (gr fn kd n e ds (.inRegion ops (i::aa)::k) cs):=
 ⟨_,hr,rfl,rfl,rfl,rfl,#[],by simp,λw _=>stepG_comm ho hw hy w⟩
end
end
section
open Go.Conc
theorem aD.less{P:bL}{ak:Bool}{B B':jW}(hb:XB B B'){f:bI}{args:Array Value}{A:List HP}{Q:Value->List HP->Prop}(h:aD P ak B' f args A Q):aD P ak B f args A Q:=
 λR C kd d F c cs aJ hr=>h R (C.less hb) kd d F c cs aJ hr
theorem qV{fn:bI}{kd:Kd}{n:Nat}{e:Nat->Value}{ds:List dQ}{k:List Item}{cs:List Frame}{ops:Array Oper}{i:Nat}{aa:List Nat}{o:Oper}(ho:aZ ops i=some o)(v:Value):
  Conc.served (gr fn kd n e ds (.inRegion ops (i::aa)::k) cs) v=gr fn kd n (cS e o.dst v) ds (.inRegion ops aa::k) cs:=by
 unfold Conc.served gr;simp only;rw[bY (by rw[db];exact ho)]
structure xN(rd:Nat->aQ->Nat->Bool)(s:du)(H:Array Obj):Prop where
 chans:∀ c,s.has c->∃ k,H[c]? =some (.chan 0 #[] false k k false)
 mem:∀ p∈s.mem,p.1.spot=none/\∃ c ty,H[p.1.block]? =some (.cells c ty (0,0))/\c[p.1.off]? =some p.2/\rd p.1.block ty p.1.off=true
variable{P:bL}{Post:Value->World->Prop}{X:sB}{σ:Gh}{h:Nat}{os:Os}{out:Array (Nat×ByteArray)}{d:Nat}{As aN:List HP}
variable{fn:bI}{kd:Kd}{n:Nat}{e:Nat->Value}{ds:List dQ}{k:List Item}{cs:List Frame}
variable{ops:Array Oper}{i:Nat}{aa:List Nat}{dst:Option Nat}{t:Nat}{ty:aQ}{pos:String}{af:Array Edge}{gd:Option (Nat×Bool)}{x y:cA}
theorem Na{rd:Nat->aQ->Nat->Bool}{s:du}{w:World}(hw:s.Wf)(hs:xN rd s w.heap)(rJ:∀ l,s.rd l->¬ σ.sh l):nH σ s w:=
 ⟨hw,hs.chans,λp hp=>by obtain⟨h1,c,ty,h2,h3,_⟩:=hs.mem p hp;exact Bo h2 h1 h3,rJ⟩
theorem Ij{rd:Nat->aQ->Nat->Bool}{s:du}{H:Array Obj}(ha:∀ p∈s.mem,∀ c ty,H[p.1.block]? =some (.cells c ty (0,0))->X.sh ty p.1.off=false)(hs:xN rd s H)(go:GO X σ H):∀ l,s.rd l->¬ σ.sh l:=by rintro l ⟨p,hp,rfl⟩ hl;obtain⟨a,ea,c,ty,h1,h2,_⟩:=go.pU _ hl;obtain rfl:=Loc.cell.inj ea;rw[ha p hp c ty h1]at h2;cases h2
theorem aC.go{x:dQ}{o:Oper}(s:du)(ho:aZ ops i=some o)(hw:aM ops n e o.guard=true)(hy:fD P (execOp (ev n e) o)=some (.spawn x))(hx:∃ f cap,x.target=.fn f cap)(TD:s.Wf)
  (hs:∀ H,Sat As (hp H)->xN (X.rd 1) s H) (ha:∀ H,Sat As (hp H)->∀ p∈s.mem,∀ c ty,H[p.1.block]? =some (.cells c ty (0,0))->X.sh ty p.1.off=false) (my:XE P false s (child P x)) (hn:σ.n≠0) (hnh:σ.n≠h)
  (k':At (aC P Post X (σ.n0 s) h os out) 0 As (gr fn kd n (cS e o.dst undef) ds (.inRegion ops aa::k) cs)):
  At (aC P Post X σ h os out) 0 As (gr fn kd n e ds (.inRegion ops (i::aa)::k) cs):=λH st hole go w Gp po hu=>by
 subst Gp;obtain⟨m,my⟩:=my;have hS:=hs _ st;refine vF.hire s m #[] rfl (λw₁ q=>Dz ho hw hy hx w₁) (λw₁ q=>⟨gZ _,λ_ _ h _=>h,λ_ _ _ _ _ h=>h,by simp⟩) rfl (Na TD hS (Ij (ha _ st) hS go)) my ?_;refine k' _ st ?_ ⟨λj s' hj=>?_,λj s' c hj hc=>?_,λj s' p hj hp=>?_,go.pU,go.bot⟩ w rfl po hu
 ·show Go.ConcN.upd σ.aT σ.n (some s) h=none;rw[Go.ConcN.upd_ne _ _ (iP hnh)];exact hole
 ·have hj:Go.ConcN.upd σ.aT σ.n (some s) j=some s':=hj;show j<σ.n+1;by_cases ej:j=σ.n
  ·omega
  ·rw[Go.ConcN.upd_ne _ _ ej]at hj;have:=go.lt j s' hj;omega
 ·have hj:Go.ConcN.upd σ.aT σ.n (some s) j=some s':=hj;by_cases ej:j=σ.n
  ·subst ej;rw[Go.ConcN.upd_same]at hj;obtain rfl:=bS hj;obtain⟨kq,hq⟩:=hS.chans c hc;exact(gJ.1 hq).1
  ·rw[Go.ConcN.upd_ne _ _ ej]at hj;exact go.cl j s' c hj hc
 ·have hj:Go.ConcN.upd σ.aT σ.n (some s) j=some s':=hj;by_cases ej:j=σ.n
  ·subst ej;rw[Go.ConcN.upd_same]at hj;obtain rfl:=bS hj;obtain⟨h1,c,ty,h2,_,h4⟩:=hS.mem p hp;exact⟨h1,c,ty,h2,by unfold sB.rd at h4⊢;rw[ao hn];rwa[ao (by decide)]at h4⟩
  ·rw[Go.ConcN.upd_ne _ _ ej]at hj;exact go.still j s' p hj hp
theorem aC.give{o:Oper}(dA:h<σ.n)(j c kk kc:Nat)(s sH:du)(v z z':Value)(ho:aZ ops i=some o)(hw:aM ops n e o.guard=true)(hy:fD P (execOp (ev n e) o)=some (.comm #[scase c v z'] true .send))
  (hj:σ.aT j=some s) (hk:s.cases[kk]? =some (rcase c z)) (lf:∀ i s',σ.aT i=some s'->s'.has c->i=j)
  (hc:p8 c (.chan 0 #[] false kc kc false) (.chan 0 #[] false (kc+1) (kc+1) false) As aN)
  (TD:sH.Wf) (hs:∀ H,Sat As (hp H)->xN (X.rd h) sH H) (uP:∀ H,Sat aN (hp H)->xN (X.rd h) sH H) (ha:∀ H,Sat As (hp H)->∀ p∈sH.mem,∀ c ty,H[p.1.block]? =some (.cells c ty (0,0))->X.sh ty p.1.off=false)
  (my:XE P (h==0) sH (gr fn kd n (cS e o.dst undef) ds (.inRegion ops aa::k) cs))
  (k':∀ r,s.tH r->At (aC P Post X (σ.given h j sH) j os out) 0 aN (Conc.served r (commResult s.cases s.shape kk v true))):
  At (aC P Post X σ h os out) 0 As (gr fn kd n e ds (.inRegion ops (i::aa)::k) cs):=λH st hole go w Gp po hu=>by
 subst Gp;obtain⟨m,my⟩:=my;have hS:=hs _ st;have Qb:=hc.has.get st;have Jb:j≠h:=λz=>by rw[z,hole]at hj;cases hj
 have Ic:Sat aN (hp (w.setChan c 0 #[] false (kc+1) (kc+1) false).heap):=by
  have:=hc.set st;have e1:(w.setChan c 0 #[] false (kc+1) (kc+1) false).heap=w.heap.setIfInBounds c (.chan 0 #[] false (kc+1) (kc+1) false):=by
   have Nb:w.heap[c]? =some (.chan 0 #[] false kc kc false):=Qb;have dA:=(gJ.1 Nb).1;apply re;intro b;by_cases eb:c=b
   ·subst eb;rw[heap_setChan_self w Nb,jM dA]
   ·rw[heap_setChan_ne w _ _ _ _ _ _ eb,gq eb]
  rw[e1];exact this
 have ql:∀ (b:Nat) (cc:Array Value) (tt:aQ),w.heap[b]? =some (.cells cc tt (0,0))->(w.setChan c 0 #[] false (kc+1) (kc+1) false).heap[b]? =some (.cells cc tt (0,0)):=λb cc tt hb=>by
  have Nb:w.heap[c]? =some (.chan 0 #[] false kc kc false):=Qb;have eb:c≠b:=λz=>by rw[z,hb]at Nb;cases Nb
  rw[heap_setChan_ne w _ _ _ _ _ _ eb];exact hb
 refine vF.give j c kk kc m s sH v z z' #[] rfl hj hk lf (λw₁ q=>stepG_comm ho hw hy w₁) (λw₁ q=>⟨gZ _,λ_ _ h _=>h,λ_ _ _ _ _ h=>h,by simp⟩) rfl Qb (Na TD hS (Ij (ha _ st) hS go)) ?_ (λr hr=>?_)
 ·rw[qV ho];exact my
 ·refine k' r hr _ Ic ?_ ⟨λi' s' hi=>?_,λi' s' c' hi kF=>?_,λi' s' p hi hp=>?_,λl hl=>?_,by have:=go.bot;simpa[World.setChan,Gh.given]using this⟩ _ rfl po hu
  ·show Go.ConcN.upd (Go.ConcN.upd σ.aT j none) h (some sH) j=none;rw[Go.ConcN.upd_ne _ _ Jb,Go.ConcN.upd_same]
  ·have hi:Go.ConcN.upd (Go.ConcN.upd σ.aT j none) h (some sH) i'=some s':=hi;by_cases ei:i'=h
   ·subst ei;exact dA
   ·rw[Go.ConcN.upd_ne _ _ ei]at hi;by_cases ej:i'=j
    ·subst ej;rw[Go.ConcN.upd_same]at hi;cases hi
    ·rw[Go.ConcN.upd_ne _ _ ej]at hi;exact go.lt i' s' hi
  ·have hi:Go.ConcN.upd (Go.ConcN.upd σ.aT j none) h (some sH) i'=some s':=hi;have hsz:(w.setChan c 0 #[] false (kc+1) (kc+1) false).heap.size=w.heap.size:=by simp[World.setChan]
   rw[hsz];by_cases ei:i'=h
   ·subst ei;rw[Go.ConcN.upd_same]at hi;obtain rfl:=bS hi;obtain⟨kq,hq⟩:=hS.chans c' kF;exact(gJ.1 hq).1
   ·rw[Go.ConcN.upd_ne _ _ ei]at hi;by_cases ej:i'=j
    ·subst ej;rw[Go.ConcN.upd_same]at hi;cases hi
    ·rw[Go.ConcN.upd_ne _ _ ej]at hi;exact go.cl i' s' c' hi kF
  ·have hi:Go.ConcN.upd (Go.ConcN.upd σ.aT j none) h (some sH) i'=some s':=hi;by_cases ei:i'=h
   ·subst ei;rw[Go.ConcN.upd_same]at hi;obtain rfl:=bS hi;obtain⟨h1,c1,Jz,h2,_,h4⟩:=(uP _ Ic).mem p hp;exact⟨h1,c1,Jz,h2,h4⟩
   ·rw[Go.ConcN.upd_ne _ _ ei]at hi;by_cases ej:i'=j
    ·subst ej;rw[Go.ConcN.upd_same]at hi;cases hi
    ·rw[Go.ConcN.upd_ne _ _ ej]at hi;obtain⟨h1,c1,Jz,h2,h3⟩:=go.still i' s' p hi hp;exact⟨h1,c1,Jz,ql _ _ _ h2,h3⟩
  ·obtain⟨a,ea,c1,Jz,h1,h2⟩:=go.pU l hl;exact⟨a,ea,c1,Jz,ql _ _ _ h1,h2⟩
theorem xO{H:Array Obj}{x o:Obj}{r:Nat}(h:H[r]? =some o):(H.push x)[r]? =some o:=by obtain⟨h1,h2⟩:=gJ.1 h;rw[Tp h1,h2]
def Gh.zx(σ:Gh)(b:Nat)(os:List Nat):Gh:={σ with sh:=λl=>σ.sh l\/∃ o∈os,l=.cell ⟨b,o,none⟩}
theorem aC.bx{tt:aQ}{v0:Value}{c:Array Value}(o6:List Nat)(ho:aZ ops i=some ⟨some t,.box tt x,ty,pos,af,gd⟩)(hx:ev n e x=v0)(hc:v0.cells=c)(rJ:∀ o∈o6,X.sh tt o=true)(hw:aM ops n e gd=true)
  (k':∀ b,At (aC P Post X (σ.zx b o6) h os out) d (bR b (.cells c tt (0,0))::As) (gr fn kd n (put e t (.pointer (some ⟨b,0,none⟩))) ds (.inRegion ops aa::k) cs)):
  At (aC P Post X σ h os out) d As (gr fn kd n e ds (.inRegion ops (i::aa)::k) cs):=λH st hole go w Gp po hu=>by
 subst Gp;refine vF.pU (σ.zx w.heap.size o6).sh (λl hl=>.inl hl) (λl hl hn=>?_) ?_
 ·rcases hl with hl|⟨o,_,rfl⟩
  ·exact absurd hl hn
  ·exact⟨_,rfl,gZ _⟩
 ·have rK:∀ w₁,stepG P (h==0) (gr fn kd n e ds (.inRegion ops (i::aa)::k) cs) w₁=.go (gr fn kd n (put e t (.pointer (some ⟨w₁.heap.size,0,none⟩))) ds (.inRegion ops aa::k) cs) {w₁ with heap:=w₁.heap.push (.cells c tt (0,0))} #[]:=λw₁=>by
   rw[stepG_op ho hw];have key:(execOp (ev n e) ⟨some t,.box tt x,ty,pos,af,gd⟩).runT P w₁ #[]=(.ok (.value (.pointer (some ⟨w₁.heap.size,0,none⟩))) {w₁ with heap:=w₁.heap.push (.cells c tt (0,0))},#[]):=by unfold execOp;simp only[hx,Instr.box];subst hc;rfl
   have xm:=kd.early;simp only[stepG.apply,key,eM];rw[bY (by rw[db];exact ho)];simp[aU,GStep.after,gr,xm,cS,seen_none]
  refine vF.own (λw₁=>gr fn kd n (put e t (.pointer (some ⟨w₁.heap.size,0,none⟩))) ds (.inRegion ops aa::k) cs) (λw₁=>{w₁ with heap:=w₁.heap.push (.cells c tt (0,0))}) (λ_=>#[]) rfl (λw₁ _=>rK w₁) (λw₁ q=>?_) (λw₁ q=>?_)
  ·have hp:∀ (r:Nat) (o:Obj),w₁.heap[r]? =some o->(w₁.heap.push (.cells c tt (0,0)))[r]? =some o:=λr o hr=>xO hr;refine⟨by simp,λr o hr _=>hp r o hr,λi' s p _ _ ql=>?_,by simp⟩;unfold World.cell? at ql⊢;cases hb:w₁.heap[p.1.block]? with
   |none=>rw[hb]at ql;cases ql
   |some o=>rw[hb]at ql;simp only[hp _ _ hb];exact ql
  ·have e1:w₁.heap=w.heap:=q.hp;show vF P Post (σ.zx w.heap.size o6) h (deafBehind d #[]) _ _;rw[deafBehind_nil,e1];refine k' w.heap.size _ (st.push _) hole ⟨go.lt,λi' s' c' hi kF=>by have:=go.cl i' s' c' hi kF;simp;omega,λi' s p hi hp=>?_,λl hl=>?_,by have:=go.bot;simp only[I6];exact CY this⟩ _ rfl (q.os.trans po) (q.out.trans hu)
   ·obtain⟨h1,c1,Jz,h2,h3⟩:=go.still i' s p hi hp;exact⟨h1,c1,Jz,xO h2,h3⟩
   ·rcases hl with hl|⟨o,hm,rfl⟩
    ·obtain⟨a,ea,c1,Jz,h1,h2⟩:=go.pU l hl;exact⟨a,ea,c1,Jz,xO h1,h2⟩
    ·exact⟨_,rfl,c,tt,by simp,rJ o hm,go.bot⟩
variable{T8:List HP}
variable{fU:Array aQ}
theorem DJ{ak:Bool}{c kc:Nat}(ho:aZ ops i=some ⟨dst,.call ⟨.builtin .close,#[x],fU⟩,ty,pos,af,gd⟩)(hw:aM ops n e gd=true)(hx:ev n e x=.chan (some c))(sf:(P.funcs[fn]?).any (·.norace)=false){w:World}(hc:w.heap[c]? =some (.chan 0 #[] false kc kc false)):
  stepG P ak (gr fn kd n e ds (.inRegion ops (i::aa)::k) cs) w=.go (gr fn kd n (cS e dst (.tuple #[])) ds (.inRegion ops aa::k) cs) (w.setChan c 0 #[] true kc kc false) (closeEvents c):=by
 rw[stepG_op ho hw];have key:(execOp (ev n e) ⟨dst,.call ⟨.builtin .close,#[x],fU⟩,ty,pos,af,gd⟩).runT P w #[]=(.ok (.value (.tuple #[])) (w.setChan c 0 #[] true kc kc false),closeEvents c):=by
  have h1:fD P (resolve (ev n e) ⟨.builtin .close,#[x],fU⟩ ty)=some ⟨.builtin .close fU ty (#[x].map λa=>a matches .const _),#[.chan (some c)]⟩:=by unfold resolve;simp only[zi,iJ,m1,hx];rfl
  show((resolve (ev n e) ⟨.builtin .close,#[x],fU⟩ ty) >>= λd=>invoke d.target d.args).runT P w #[]=_;rw[DF h1];show((Builtin.close_ fU ty #[.chan (some c)]).bind λv=>Sem.pure (Next.value v)).runT P w #[]=_;have aaN:(Builtin.close_ fU ty #[.chan (some c)]).runT P w #[]=(.ok (.tuple #[]) (w.setChan c 0 #[] true kc kc false),closeEvents c):=Prod.ext ((Sem.runT_fst P _ w #[]).trans (Go.run_close_open fU ty hc)) (Go.events_close_open (es:=#[]) fU ty hc);rw[Sem.runT_bind',aaN];rfl
 have xm:=kd.early;have tZ:seen P fn (closeEvents c)=closeEvents c:=seen_eq sf (λe he f=>by simp only[closeEvents,oG,ga,l7,fO]at he;rcases he with rfl|rfl<;>(intro z;cases z))
 simp only[stepG.apply,key,eM];rw[bY (by rw[db];exact ho)];simp[aU,GStep.after,gr,xm,tZ]
theorem aC.shut(L:List Nat)(G:pK)(c kc:Nat)(Fin:aP->Prop)(ho:aZ ops i=some ⟨dst,.call ⟨.builtin .close,#[x],fU⟩,ty,pos,af,gd⟩)(hw:aM ops n e gd=true)(hx:ev n e x=.chan (some c))(sf:(P.funcs[fn]?).any (·.norace)=false)
  (nd:L.Nodup) (len:L.length<=4) (hL:∀ i∈L,∃ s cw z0 z1,σ.aT i=some s/\s.cases=#[rcase cw z0,rcase c z1]/\cw≠c/\∃ N,∀ r,s.tH r->Cl P G N .rel (Conc.served r (commResult s.cases s.shape 1 z1 false)))
  (lf:∀ i s,σ.aT i=some s->s.has c->i∈L) (ok:G.Ok) (e1:G.cs[G.o1]? =some (lF L.length 0)) (e2:G.cs[G.o2]? =some (rL 0)) (xg:σ.sh (.cell G.st)) (FH:σ.sh (.cell G.sm))
  (hc:p8 c (.chan 0 #[] false kc kc false) (.chan 0 #[] true kc kc false) As aN) (hb:p8 G.blk (.cells G.cs G.ty (0,0)) (.cells (G.row (lF 0 0) (rL 0)) G.ty (0,0)) aN T8)
  (hm:MW P G Fin (.wF L.length) (gr fn kd n (cS e dst (.tuple #[])) ds (.inRegion ops aa::k) cs))
  (k':∀ a,Fin a->At (aC P Post X (σ.fR L) 0 os out) 0 T8 a):
  At (aC P Post X σ 0 os out) 0 As (gr fn kd n e ds (.inRegion ops (i::aa)::k) cs):=λH st hole go w Gp po hu=>by
 subst Gp;have Qb:w.heap[c]? =some (.chan 0 #[] false kc kc false):=hc.has.get st;have Ic:Sat aN (hp (w.setChan c 0 #[] true kc kc false).heap):=hc.set st;have XF:(w.setChan c 0 #[] true kc kc false).heap[G.blk]? =some (.cells G.cs G.ty (0,0)):=hb.has.get Ic;have hbc:c≠G.blk:=λz=>by rw[<- z,heap_setChan_self w Qb]at XF;cases XF
 have XG:w.heap[G.blk]? =some (.cells G.cs G.ty (0,0)):=by rw[heap_setChan_ne w _ _ _ _ _ _ hbc]at XF;exact XF
 obtain⟨N0,hN⟩:∃ N0,∀ i∈L,∃ s cw z0 z1,σ.aT i=some s/\s.cases=#[rcase cw z0,rcase c z1]/\cw≠c/\∀ r,s.tH r->Cl P G N0 .rel (Conc.served r (commResult s.cases s.shape 1 z1 false)):=by
  clear k' nd len lf e1 hm
  induction L with
  |nil=>exact⟨0,by simp⟩
  |cons j L ih=>
   obtain⟨N1,h1⟩:=ih (λi hi=>hL i (gb _ hi));obtain⟨s,cw,z0,z1,a1,a2,a3,N2,a4⟩:=hL j (iz ..);refine⟨max N1 N2,λi hi=>?_⟩;rcases ga.1 hi with rfl|hi
   ·exact⟨s,cw,z0,z1,a1,a2,a3,λr hr=>(a4 r hr).mono (Nat.le_max_right ..)⟩
   ·obtain⟨s,cw,z0,z1,a1,a2,a3,a4⟩:=h1 i hi;exact⟨s,cw,z0,z1,a1,a2,a3,λr hr=>(a4 r hr).mono (Nat.le_max_left ..)⟩
 refine vF.shut L G c kc N0 Fin rfl Qb (λw₁ q=>DJ ho hw hx sf (by rw[q.hp];exact Qb)) ?_ rfl nd len hN lf ok XG e1 e2 xg FH hm (λV8 Ms hf Xi=>?_)
 ·rw[<- db]at ho;simp[mayWake,gr,aU,ho]
 ·have hh:Ms.heap=(w.setChan c 0 #[] true kc kc false).heap.setIfInBounds G.blk (.cells (G.row (lF 0 0) (rL 0)) G.ty (0,0)):=Xi.hp;have aaO:Sat T8 (hp Ms.heap):=by rw[hh];exact hb.set Ic
  have ql:∀ (b:Nat) (cc:Array Value) (tt:aQ),w.heap[b]? =some (.cells cc tt (0,0))->∃ cc',Ms.heap[b]? =some (.cells cc' tt (0,0)):=λb cc tt nI=>by
   have eb:c≠b:=λz=>by rw[z,nI]at Qb;cases Qb
   rw[hh];by_cases e3:b=G.blk
   ·subst e3;rw[XG]at nI;cases nI;exact⟨_,jM (by have:=(gJ.1 XF).1;exact this)⟩
   ·exact⟨cc,by rw[gq (iP e3),heap_setChan_ne w _ _ _ _ _ _ eb];exact nI⟩
  refine k' V8 hf _ aaO ?_ ⟨λi' s' hi=>?_,λi' s' c' hi kF=>?_,λi' s' p hi hp=>?_,λl hl=>?_,?_⟩ Ms rfl (Xi.os.trans po) (Xi.out.trans hu)
  ·show(if 0∈L then none else σ.aT 0)=none;split
   ·rfl
   ·exact hole
  ·have hi:(if i'∈L then none else σ.aT i')=some s':=hi;split at hi
   ·cases hi
   ·exact go.lt i' s' hi
  ·have hi:(if i'∈L then none else σ.aT i')=some s':=hi;split at hi
   ·cases hi
   ·have:=go.cl i' s' c' hi kF;rw[hh];simpa[World.setChan]using this
  ·have hi:(if i'∈L then none else σ.aT i')=some s':=hi;split at hi
   ·cases hi
   ·obtain⟨h1,c1,Jz,h2,h3⟩:=go.still i' s' p hi hp;obtain⟨c2,h4⟩:=ql _ _ _ h2;exact⟨h1,c2,Jz,h4,h3⟩
  ·obtain⟨a,ea,c1,Jz,h1,h2⟩:=go.pU l hl;obtain⟨c2,h4⟩:=ql _ _ _ h1;exact⟨a,ea,c2,Jz,h4,h2⟩
  ·rw[hh,I5];have:=go.bot;simpa[World.setChan,Gh.fR]using this
theorem aC.done{fu:Func}{cc:Code}{n':Nat}[b:Body P fn fu cc n']{kR:List Item}{v:Value}(hv:rl fu n e=some v)(hi:P.inits.idxOf? fn=none)(hn:∀ i,σ.aT i=none)(hp:∀ w:World,Sat As (hp w.heap)->w.os=os->w.output=out->Post v w):
  At (aC P Post X σ 0 os out) 0 As (pZ fn .pb n e [] kR []):=λH st hole go w Gp po hu=>by
 subst Gp;refine vF.done v rfl (λw₁ q=>?_) hn (λw₁ q=>hp w₁ (by rw[q.hp];exact st) (q.os.trans po) (q.out.trans hu));have r:=kW (qk (P:=P) hv) w₁ #[];simp only[pZ,pC,aU,stepG,unwind,b.func,r,doReturn,Kd.k];simp[GStep.after,seen_none,hi]
def BA(σ:Gh)(b:Nat):Prop:=∀ i s p,σ.aT i=some s->p∈s.mem->p.1.block≠b
theorem BA.blk{σ:Gh}{b:Nat}(h:BA σ b):σ.blk b=false:=by
 cases e:σ.blk b with
 |false=>rfl
 |true=>
  unfold Gh.blk at e;obtain⟨i,_,h2⟩:=m6.1 e;cases es:σ.aT i with
  |none=>rw[es]at h2;cases h2
  |some s=>
   rw[es]at h2;obtain⟨p,hp,hb⟩:=m6.1 h2;exact absurd (by simpa using hb) (h i s p es hp)
theorem BA.rd{X:sB}{σ:Gh}{b:Nat}(h:BA σ b)(ty:aQ)(o:Nat):(X.bw σ).rd b ty o=false:=by show(X.Zw ty o&&σ.blk b)=false;rw[h.blk,LO]
theorem GO.XH{X:sB}{σ:Gh}{H:Array Obj}(g:GO X σ H){b:Nat}(hb:H.size<=b):BA σ b:=λi s p e hp z=>by obtain⟨_,c,ty,h2,_⟩:=g.still i s p e hp;have:=(gJ.1 h2).1;omega
variable{F:List HP}
theorem aC.al{tt:aQ}{z:Value}{c:Array Value}[cz:Zv P tt z](ho:aZ ops i=some ⟨some t,.alloc tt,ty,pos,af,gd⟩)(h:∀ b,BA σ b->At (aC P Post X σ 0 os out) d (bR b (.cells c tt (0,0))::As) (gr fn kd n (put e t (.pointer (some ⟨b,0,none⟩))) ds (.inRegion ops aa::k) cs))
  (hc:z.cells=c:=by first|(simp only[Value.cells];done)|(simp only[Value.cells];rfl)|rfl) (hw:aM ops n e gd=true:=by rfl):At (aC P Post X σ 0 os out) d As (gr fn kd n e ds (.inRegion ops (i::aa)::k) cs):=λH st hole go w Gp po hu=>by
 have C:ab P true (X.bw σ) (aC P Post X σ 0 os out):=aC.dK;refine C.op (H:=H) (d:=d) (fn:=fn) (kd:=kd) (n:=n) (e:=e) (ds:=ds) (k:=k) (cs:=cs) (ops:=ops) (i:=i) (aa:=aa) (by rw[db];exact ho) (by rw[dX];exact hw) ?_ hole go w Gp po hu;unfold execOp;simp only[Instr.alloc];subst hc;refine ah (ah (nb _ H d _ ?_));exact h _ (go.XH (gZ _)) _ (st.push _)
theorem aC.ap{α:Type}{f:α->List Value}{z:Nat}[rf:fC f z]{el tt t3 MJ bz:Nat}{zv:Value}{m l:List α}{s:ay}{yv:Value}{x y:cA}[cE:El P tt el][Xl:El P t3 MJ][Cz P el z][cB:Bz P el bz][Zv P el zv]
  (ho:aZ ops i=some ⟨some t,.call ⟨.builtin .append,#[x,y],#[tt,t3]⟩,ty,pos,af,gd⟩) (hf:Fo (a9 f z el s l) As F) (TI:∀ b,s.a=some ⟨b,0,none⟩->BA σ b) (rJ:∀ j,X.sh el j=false)
  (hsrc:∀ H,Sat (a9 f z el s l::F) (hp H)->kI (X.bw σ) H z m.length yv (flat f m)) (h:∀ s',s'.len=l.length+m.length->(∀ b,s'.a=some ⟨b,0,none⟩->BA σ b)->At (aC P Post X σ 0 os out) d (a9 f z el s' (l++m)::F) (gr fn kd n (put e t s'.v) ds (.inRegion ops aa::k) cs))
  (hsz:(l.length+m.length)*bz<=140737488355328) (ML:zv.cells.size=z) (y2:bz≠0) (hx:ev n e x=s.v) (hy:ev n e y=yv) (hw:aM ops n e gd=true:=by rfl):At (aC P Post X σ 0 os out) d As (gr fn kd n e ds (.inRegion ops (i::aa)::k) cs):=λH st hole go w Gp po hu=>by
 have C:ab P true (X.bw σ) (aC P Post X σ 0 os out):=aC.dK;refine C.op (H:=H) (d:=d) (fn:=fn) (kd:=kd) (n:=n) (e:=e) (ds:=ds) (k:=k) (cs:=cs) (ops:=ops) (i:=i) (aa:=aa) (by rw[db];exact ho) (by rw[dX];exact hw) ?_ hole go w Gp po hu;have Ic:=st.perm hf.perm;unfold execOp;simp only[resolve];refine ah (aA ?_);simp only[zi,iJ,m1,hx,hy];unfold invoke builtin;refine ah ?_;refine xq rf.len rf.one ML (λb j hs=>(TI b hs).rd _ _) (λj=>rJ j) y2 hsz Ic (hsrc H Ic) λs'' H' hl ha hs=>aA ?_;refine h s'' hl (λb hb=>?_) _ hs;rcases ha with ha|ha
 ·exact TI b (ha▸hb)
 ·rw[hb]at ha;obtain rfl:b=H.size:=by simpa using ha
  exact go.XH (gZ _)
def bC(P:bL)(X:sB)(f:bI)(args:Array Value)(σ:Gh)(A:List HP)(Q:Value->Gh->List HP->Prop):Prop:=
 ∀ (Post:Value->World->Prop) (os:Os) (out:Array (Nat×ByteArray)) (kd:Kd) (F:List HP) (c:Frame) (cs:List Frame),tP kd c->(∀ v σ' aN,Q v σ' aN->At (aC P Post X σ' 0 os out) 0 (aN++F) (after kd c cs v))->At (aC P Post X σ 0 os out) 0 (A++F) (iB P f args kd (c::cs))
theorem bC.of{f:bI}{fu:Func}{c:Code}{nf:Nat}[b:Body P f fu c nf]{args:Array Value}{A:List HP}{Q:Value->Gh->List HP->Prop}
  (h:∀ (Post:Value->World->Prop) (os:Os) (out:Array (Nat×ByteArray)) (kd:Kd) (F:List HP) (c':Frame) (cs:List Frame),ab P true (X.bw σ) (aC P Post X σ 0 os out)->tP kd c'->(∀ v σ' aN,Q v σ' aN->At (aC P Post X σ' 0 os out) 0 (aN++F) (after kd c' cs v))->At (aC P Post X σ 0 os out) 0 (A++F) (gr f kd nf (xj args) [] [.code c] (c'::cs)))
  (hn:Nat.ble args.size nf=true:=by rfl):bC P X f args σ A Q:=λPost os out kd F c' cs aJ hr=>by
 rw[l8 b.func b.body (by rw[b.tmps];exact vW hn),b.tmps];exact h Post os out kd F c' cs aC.dK aJ hr
theorem aD.g{f:bI}{args:Array Value}{A:List HP}{Q:Value->List HP->Prop}(h:aD P true (X.bw σ) f args A Q):bC P X f args σ A (λv σ' aN=>σ'=σ/\Q v aN):=
 λPost os out kd F c cs aJ hr=>h _ aC.dK kd 0 F c cs aJ λv aN q=>hr v σ aN ⟨rfl,q⟩
theorem bC.post{f:bI}{args:Array Value}{A:List HP}{Q Q':Value->Gh->List HP->Prop}(h:bC P X f args σ A Q)(hq:∀ v σ' aN,Q v σ' aN->Q' v σ' aN):bC P X f args σ A Q':=
 λPost os out kd F c cs aJ hr=>h Post os out kd F c cs aJ λv σ' aN q=>hr v σ' aN (hq v σ' aN q)
theorem aC.cl{f:bI}{fu:Func}{c:Code}{nf:Nat}[b:Body P f fu c nf]{fo:cA}{args:Array cA}{fU:Array aQ}{a1 a2:Array Value}{vl:List Value}{A:List HP}{Q:Value->Gh->List HP->Prop}(hs:bC P X f (a1++vl.toArray++a2) σ A Q)
  (h:∀ v σ' aN,Q v σ' aN->At (aC P Post X σ' 0 os out) 0 (aN++F) (gr fn kd n (cS e dst v) ds (.inRegion ops aa::k) cs))
  (ho:aZ ops i=some ⟨dst,.call ⟨.value fo,args,fU⟩,ty,pos,af,gd⟩:=by rfl) (hv:args.toList.map (ev n e)=vl:=by rfl) (hf:ev n e fo=.func (.func f) a1 a2:=by rfl)
  (hr:dB A As F:=by exact dB.au) (hw:aM ops n e gd=true:=by rfl):At (aC P Post X σ 0 os out) 0 As (gr fn kd n e ds (.inRegion ops (i::aa)::k) cs):=by
 refine At.perm hr.perm ?_;have sk:args.map (ev n e)=vl.toArray:=by rw[<- hv,<- pP,sd]
 have C:ab P true (X.bw σ) (aC P Post X σ 0 os out):=aC.dK;intro H st;refine C.still (g':=iB P f (a1++vl.toArray++a2) .pb (aU fn kd n e ds (.inRegion ops (i::aa)::k)::cs)) rfl (λw=>Ae (f:=f) (args:=a1++vl.toArray++a2) ho hw (by
  unfold execOp;simp only;refine bq (a:=⟨.fn (.func f) a2,a1++vl.toArray⟩) ?_ ?_
  ·unfold resolve;simp only[hf,Deferred.ofValue,sk];rfl
  ·exact kg _) w) ?_
 refine hs Post os out .pb F _ cs trivial (λv σ' aN q=>?_) H st;show At _ 0 _ (eT _ cs v);rw[n9 ho];exact h v σ' aN q
theorem Nc{c:Code}{Y:Type}(S:Y->Gh)(L:Y->List (Nat×Value))(I:Y->List HP)(Ok:Y->Prop)(m:Y->Nat)(x0:Y)(hS:σ=S x0)(he:jz e (L x0))(kV:Ok x0)
  (step:∀ x e,Ok x->(∀ y e' aN,Ok y->m y<m x->jz e' (L y)->bZ aN (I y)->At (aC P Post X (S y) 0 os out) 0 aN (gr fn kd n e' ds (.inLoop (cB c)::k) cs))->At (aC P Post X (S x) 0 os out) 0 (I x) (gr fn kd n (p9 e (L x)) ds (.code (cB c):: .inLoop (cB c)::k) cs))
  (hI:bZ As (I x0):=by exact bZ.au) (hc:ck c=.loop:=by rfl):At (aC P Post X σ 0 os out) 0 As (gr fn kd n e ds (.code c::k) cs):=by
 subst hS;have key:∀ (N:Nat) (x:Y) (e:Nat->Value) (As:List HP),m x=N->jz e (L x)->Ok x->bZ As (I x)->At (aC P Post X (S x) 0 os out) 0 As (gr fn kd n e ds (.inLoop (cB c)::k) cs):=by
  intro N
  induction N using Nat.strongRecOn with
  |ind N ih=>
   intro x e As hm he kV hr;have C:ab P true (X.bw (S x)) (aC P Post X (S x) 0 os out):=aC.dK;refine At.jB hr (C.TQ ?_);rw[<- jJ he];exact step x e kV λy e' aN hy dA we Pb=>ih (m y) az y e' aN rfl we hy Pb
 have C:ab P true (X.bw (S x0)) (aC P Post X (S x0) 0 os out):=aC.dK;refine At.jB hI (C.lp ?_ hc);rw[<- jJ he];exact step x0 e kV λy e' aN hy dA we Pb=>key _ y e' aN rfl we hy Pb
theorem Gq{c:Code}{Y:Type}{S:Y->Gh}{L:Y->List (Nat×Value)}{I:Y->List HP}{Ok:Y->Prop}{m:Y->Nat}{x0:Y}{body:Code}(ih:∀ y e' aN,Ok y->m y<m x0->jz e' (L y)->bZ aN (I y)->At (aC P Post X (S y) 0 os out) 0 aN (gr fn kd n e' ds (.inLoop body::k) cs))(y:Y)(hS:σ=S y)(hy:Ok y)(hm:m y<m x0)
  (he:jz e (L y):=by repeat(first|exact trivial|refine And.intro rfl ?_)) (hr:bZ As (I y):=by exact bZ.au):At (aC P Post X σ 0 os out) 0 As (gr fn kd n e ds (.inLoop body::k) cs):=by
 subst hS;exact ih y e As hy hm he hr
theorem aC.bk{fu:Func}{cc:Code}{n':Nat}[b:Body P fn fu cc n']{c:Frame}{v:Value}{x:Code}{Q:Value->Gh->List HP->Prop}{A:List HP}(aJ:tP kd c)(aj:∀ v σ' aN,Q v σ' aN->At (aC P Post X σ' 0 os out) 0 (aN++F) (after kd c cs v))(q:Q v σ A)(hv:rl fu n e=some v:=by rfl)(hx:ck x=.ret:=by rfl)
  (hr:dB A As F:=by exact dB.au):At (aC P Post X σ 0 os out) 0 As (gr fn kd n e [] (.code x::k) (c::cs)):=by
 have C:ab P true (X.bw σ) (aC P Post X σ 0 os out):=aC.dK;exact At.perm hr.perm (C.MD aJ (aj v σ A q) hv hx)
theorem aC.cX{fu:Func}{cc:Code}{n':Nat}[b:Body P fn fu cc n']{c:Frame}{v:Value}{Q:Value->Gh->List HP->Prop}{A:List HP}(aJ:tP kd c)(aj:∀ v σ' aN,Q v σ' aN->At (aC P Post X σ' 0 os out) 0 (aN++F) (after kd c cs v))(q:Q v σ A)(hv:rl fu n e=some v:=by rfl)
  (hr:dB A As F:=by exact dB.au):At (aC P Post X σ 0 os out) 0 As (gr fn kd n e [] [] (c::cs)):=by
 have C:ab P true (X.bw σ) (aC P Post X σ 0 os out):=aC.dK;exact At.perm hr.perm (C.TR aJ (aj v σ A q) hv)
end
structure kh where
 tm:Int
 ord:Int
 tx:Int
 again:Bool
instance:Inhabited kh:=⟨⟨0,0,0,false⟩⟩
def kh.pL(a:kh):dM:=⟨a.tm,a.again,a.tx⟩
def lK(a b:kh):Prop:=a.tm<b.tm\/(a.tm=b.tm/\a.ord<b.ord)
abbrev gA(l:List kh)(k:Nat):kh:=l[k]?.getD default
theorem jN{l:List kh}{k:Nat}(h:k<l.length):gA l k=l[k]:=by simp[gA,h]
def BB(l:List kh)(i j:Nat):List kh:=(l.set i (gA l j)).set j (gA l i)
theorem wK(l:List kh)(i j:Nat):(BB l i j).length=l.length:=by simp[BB]
theorem xP{l:List kh}{i j:Nat}(hi:i<l.length)(hj:j<l.length):(BB l i j).Perm l:=by unfold BB;rw[jN hi,jN hj];exact List.set_set_perm hi hj
theorem wL{l:List kh}{i j:Nat}(hi:i<l.length)(hj:j<l.length)(k:Nat):gA (BB l i j) k=if k=j then gA l i else if k=i then gA l j else gA l k:=by
 unfold gA BB;rw[w6];by_cases h1:j=k
 ·subst h1;simp[hj]
 ·rw[ao h1,ao (iP h1),w6];by_cases h2:i=k
  ·subst h2;simp[hi]
  ·rw[ao h2,ao (iP h2)]
def tq(l:List kh)(i j:Nat):Prop:=¬ lK (gA l i) (gA l j)
def gN(l:List kh)(n:Nat):Prop:=∀ k,0<k->k<n->tq l k ((k-1)/2)
def nN(l:List kh)(j:Nat):Prop:=(∀ k,0<k->k<l.length->k≠j->tq l k ((k-1)/2))/\(0<j->∀ k,0<k->k<l.length->(k-1)/2=j->tq l k ((j-1)/2))
def qm(l:List kh)(n i:Nat):Prop:=(∀ k,0<k->k<n->(k-1)/2≠i->tq l k ((k-1)/2))/\(0<i->∀ k,0<k->k<n->(k-1)/2=i->tq l k ((i-1)/2))
theorem nN.fin{l:List kh}{j:Nat}(h:nN l j)(hj:j=(j-1)/2\/tq l j ((j-1)/2)):gN l l.length:=λk h0 hk=>by
 by_cases e:k=j
 ·subst e;rcases hj with hj|hj
  ·omega
  ·exact hj
 ·exact h.1 k h0 hk e
theorem nN.push{l:List kh}(h:gN l l.length)(a:kh):nN (l++[a]) l.length:=by
 have hg:∀ k,k<l.length->gA (l++[a]) k=gA l k:=λk hk=>by unfold gA;rw[LF hk]
 refine⟨λk h0 hk eI=>?_,λh0 k h1 hk e=>?_⟩
 ·have hk:k<l.length:=by simp at hk;omega
  unfold tq;rw[hg k hk,hg _ az];exact h k h0 hk
 ·simp at hk;omega
theorem nN.step{l:List kh}{i j:Nat}(h:nN l j)(hj:j<l.length)(hi:i=(j-1)/2)(eI:i≠j)(hl:lK (gA l j) (gA l i)):nN (BB l i j) i:=by
 have Jd:i<j:=az;have SF:i<l.length:=az;have hs:=wL SF hj;refine⟨λk h0 hk Gr=>?_,λh0 k h1 hk e=>?_⟩
 ·rw[wK]at hk;unfold tq;rw[hs,hs,ao Gr];by_cases e1:k=j
  ·subst e1;rw[aK rfl,<- hi,ao eI,aK rfl];unfold lK at hl⊢;omega
  ·rw[ao e1];by_cases e2:(k-1)/2=j
   ·rw[aK e2];have:=h.2 az k h0 hk e2;rw[<- hi]at this;exact this
   ·rw[ao e2];by_cases e3:(k-1)/2=i
    ·rw[aK e3];have:=h.1 k h0 hk e1;rw[e3]at this;unfold tq lK at this;unfold lK at hl⊢;omega
    ·rw[ao e3];exact h.1 k h0 hk e1
 ·rw[wK]at hk;unfold tq;have e4:(i-1)/2<i:=az;rw[hs,hs,ao (show(i-1)/2≠j by omega),ao (show(i-1)/2≠i by omega)];have h2:=h.1 i h0 SF eI;unfold tq at h2;by_cases e1:k=j
  ·rw[aK e1];exact h2
  ·rw[ao e1,ao (show k≠i by omega)];have h3:=h.1 k h1 hk e1;rw[e]at h3;unfold tq lK at h3;unfold lK at h2⊢;omega
theorem qm.fin{l:List kh}{n i:Nat}(h:qm l n i)(hc:∀ k,0<k->k<n->(k-1)/2=i->tq l k i):gN l n:=λk h0 hk=>by
 by_cases e:(k-1)/2=i
 ·rw[e];exact hc k h0 hk e
 ·exact h.1 k h0 hk e
theorem qm.step{l:List kh}{n i j:Nat}(h:qm l n i)(hn:n<=l.length)(hj:j<n)(h0j:0<j)(hi:i=(j-1)/2)(zo:∀ k,0<k->k<n->(k-1)/2=i->tq l k j)(hl:lK (gA l j) (gA l i)):qm (BB l i j) n j:=by
 have Jd:i<j:=az;have SF:i<l.length:=az;have FL:j<l.length:=az;have hs:=wL SF FL;refine⟨λk h0 hk XI=>?_,λh0 k h1 hk e=>?_⟩
 ·unfold tq;rw[hs,hs,ao XI];by_cases e1:k=j
  ·subst e1;rw[aK rfl,<- hi,aK rfl];unfold lK at hl⊢;omega
  ·rw[ao e1];by_cases e2:k=i
   ·subst e2;rw[aK rfl,ao (show(k-1)/2≠k by omega)];have:=h.2 h0 j h0j hj hi.symm;exact this
   ·rw[ao e2];by_cases e3:(k-1)/2=i
    ·rw[aK e3];exact zo k h0 hk e3
    ·rw[ao e3];exact h.1 k h0 hk e3
 ·unfold tq;rw[hs,hs,ao (show k≠j by omega),ao (show k≠i by omega),<- hi,ao (show i≠j by omega),aK rfl];have:=h.1 k h1 hk az;rw[e]at this;exact this
theorem gN.least{l:List kh}{n:Nat}(h:gN l n):∀ k,k<n->tq l k 0:=by
 intro k
 induction k using Nat.strongRecOn with
 |ind k ih=>
  intro hk;by_cases h0:k=0
  ·subst h0;unfold tq lK;omega
  ·have h1:=h k az hk;have h2:=ih ((k-1)/2) az az;unfold tq lK at h1 h2⊢;omega
theorem gN.out{l:List kh}{n:Nat}(h:gN l (n+1))(hn:n<l.length):qm (BB l 0 n) n 0:=by have hs:=wL (l:=l) (i:=0) (j:=n) az hn;refine⟨λk h0 hk hp=>?_,λh0=>by omega⟩;unfold tq;rw[hs,hs,ao (show k≠n by omega),ao (show k≠0 by omega),ao (show(k-1)/2≠n by omega),ao hp];exact h k h0 az
theorem gN.take{l:List kh}{n:Nat}(h:gN l n):gN (l.take n) n:=λk h0 hk=>by
 have hg:∀ q,q<n->gA (l.take n) q=gA l q:=λq hq=>by unfold gA;rw[RV hq]
 unfold tq;rw[hg k hk,hg _ az];exact h k h0 hk
theorem Af{c:Int}{m:dM}{q:Nat}:∀ (L:List dM) (i:Nat),(∀ t∈L,m.tm<=t.tm)->jD c L i (some (q,m))=some (q,m)
 |[],_,_=>rfl
 |t::l,i,h=>by
  have h1:=h t (iz ..);have:decide (t.tm<m.tm)=false:=by simp;omega
  simp only[jD,this,LO,ij,fB];exact Af l _ λt ht=>h t (gb _ ht)
def Qc(c:Int)(t:dM)(acc:Option (Nat×dM)):Bool:=decide (t.tm<=c)&&(match acc with|none=>true|some (_,u)=>decide (t.tm<u.tm))
theorem Ah(c:Int)(t:dM)(l:List dM)(i:Nat)(acc:Option (Nat×dM)):jD c (t::l) i acc=jD c l (i+1) (if Qc c t acc then some (i,t)else acc):=rfl
theorem xQ{c:Int}{m:dM}(hm:m.tm<=c):∀ (L:List dM) (k i:Nat) (acc:Option (Nat×dM)),L[k]? =some m->(∀ t∈L,m.tm<=t.tm)->(∀ j t,j<k->L[j]? =some t->m.tm<t.tm)->(∀ q u,acc=some (q,u)->m.tm<u.tm)->jD c L i acc=some (i+k,m)
 |[],k,i,acc,h,_,_,_=>by simp at h
 |t::l,0,i,acc,h,iK,dA,Gg=>by
  obtain rfl:t=m:=by simpa using h
  have:Qc c t acc=true:=by
   unfold Qc;cases acc with
   |none=>simp[hm]
   |some p=>obtain⟨q,u⟩:=p;have:=Gg q u rfl;simp[hm,this]
  rw[Ah,aK this];exact Af l _ λt' ht=>iK t' (gb _ ht)
 |t::l,k+1,i,acc,h,iK,dA,Gg=>by
  have ht:=dA 0 t az rfl;rw[Ah,show i+(k+1)=i+1+k by omega];refine xQ hm l k (i+1) _ (by simpa using h) (λt' ht'=>iK t' (gb _ ht')) (λj t' hj hl=>dA (j+1) t' az (by simpa using hl)) λq u e=>?_;by_cases hq:Qc c t acc=true
  ·rw[aK hq]at e;cases e;exact ht
  ·rw[ao hq]at e;exact Gg q u e
theorem Ai{c:Int}:∀ (L:List dM) (i:Nat),(∀ t∈L,c<t.tm)->jD c L i none=none
 |[],_,_=>rfl
 |t::l,i,h=>by
  have h1:=h t (iz ..);have:decide (t.tm<=c)=false:=by simp;omega
  simp only[jD,this,LP,ij,fB];exact Ai l _ λt ht=>h t (gb _ ht)
structure rp(T:List kh)(order:Int)(l:List kh):Prop where
 perm:l.Perm T
 heap:gN l l.length
 inc:T.Pairwise λa b=>a.ord<b.ord
 le:∀ a∈T,a.ord<=order
theorem rp.zero(order:Int):rp [] order []:=⟨.refl _,λk h0 hk=>by simp at hk,.nil,λa h=>by cases h⟩
theorem rp.push{T l l':List kh}{order:Int}(h:rp T order l){a:kh}(ha:a.ord=order+1)(hp:l'.Perm (l++[a]))(hh:gN l' l'.length):rp (T++[a]) (order+1) l':=
 ⟨hp.trans (h.perm.append_right _),hh,List.pairwise_append.2 ⟨h.inc,by simp,λx hx y hy=>by obtain rfl:=dF.1 hy;have:=h.le x hx;omega⟩,λx hx=>by
  rcases bU.1 hx with hx|hx
  ·have:=h.le x hx;omega
  ·obtain rfl:=dF.1 hx;omega⟩
theorem rp.XJ{T l:List kh}{order c:Int}(h:rp T order l)(hl:l=[]\/c<(gA l 0).tm):jD c (T.map (·.pL)) 0 none=none:=by
 refine Ai _ _ λt ht=>?_;obtain⟨a,ha,rfl⟩:=bH.1 ht;have ha:=h.perm.mem_iff.2 ha;rcases hl with rfl|hl
 ·cases ha
 ·obtain⟨k,hk,rfl⟩:=w8.1 ha;have:=h.heap.least k hk;unfold tq lK at this;rw[jN hk]at this;show c<l[k].tm;omega
theorem rp.pop{T l l':List kh}{order c:Int}{m:kh}(h:rp T order l)(h0:l[0]? =some m)(hc:m.tm<=c)(hp:l.Perm (m::l'))(hh:gN l' l'.length):
  ∃ k,T[k]? =some m/\jD c (T.map (·.pL)) 0 none=some (k,m.pL)/\rp (T.eraseIdx k) order l':=by
 have hm:m∈T:=h.perm.mem_iff.1 (eY h0);obtain⟨k,hk,rfl⟩:=w8.1 hm;have zo:∀ a∈T,¬ lK a T[k]:=λa ha=>by
  obtain⟨q,hq,rfl⟩:=w8.1 (h.perm.mem_iff.2 ha);have:=h.heap.least q hq;unfold tq at this;rw[jN hq]at this;have e:gA l 0=T[k]:=by unfold gA;rw[h0];rfl
  rwa[e]at this
 refine⟨k,e9 hk,?_,?_⟩
 ·have:=xQ (c:=c) (m:=T[k].pL) hc (T.map (·.pL)) k 0 none (by simp[hk]) (λt ht=>by
   obtain⟨a,ha,rfl⟩:=bH.1 ht;have:=zo a ha;unfold lK at this;show T[k].tm<=a.tm;omega) (λj t hj ht=>by
   rw[kG]at ht;have FL:j<T.length:=az;rw[e9 FL]at ht;obtain rfl:=bS ht;have h1:=zo T[j] (br _);have h2:T[j].ord<T[k].ord:=w5.1 h.inc j k FL hk hj;unfold lK at h1;show T[k].tm<T[j].tm;omega) (λq u e=>by cases e)
  simpa using this
 ·have SA:T.Perm (T[k]::T.eraseIdx k):=by
   have e1:T=T.take k++T[k]::T.drop (k+1):=by conv=>lhs;rw[<- vA k T,iR hk]
   rw[w7]
   conv=>lhs;rw[e1]
   exact Hy
  refine⟨?_,hh,h.inc.sublist (ju _ _),λa ha=>h.le a (List.mem_of_mem_eraseIdx ha)⟩;exact(List.perm_cons T[k]).1 (hp.symm.trans (h.perm.trans SA))
section
open Go.Conc
section
variable{P:bL}{ak:Bool}{s:du}{fn:bI}{kd:Kd}{n:Nat}{e:Nat->Value}{ds:List dQ}{k:List Item}{cs:List Frame}
variable{ops:Array Oper}{i:Nat}{aa:List Nat}{t:Nat}{ty:aQ}{pos:String}{af:Array Edge}{gd:Option (Nat×Bool)}{x:cA}{v:Value}{m:Nat}
theorem Nf{o:Oper}(ho:aZ ops i=some o)(hw:aM ops n e o.guard=true)(hy:fD P (execOp (ev n e) o)=some (.value v))(q:Way P ak s m (gr fn kd n (cS e o.dst v) ds (.inRegion ops aa::k) cs)):Way P ak s (m+1) (gr fn kd n e ds (.inRegion ops (i::aa)::k) cs):=
 .inr ⟨rfl,λw _=>⟨_,#[],w.drawn,Ad ho hw hy w,by simp,q⟩⟩
theorem Ng(ho:aZ ops i=some ⟨some t,.move x,ty,pos,af,gd⟩)(q:Way P ak s m (gr fn kd n (put e t v) ds (.inRegion ops aa::k) cs))(hx:ev n e x=v:=by conv=>{lhs;whnf})(hw:aM ops n e gd=true:=by rfl):Way P ak s (m+1) (gr fn kd n e ds (.inRegion ops (i::aa)::k) cs):=
 Nf ho hw (by unfold execOp;simp only[hx];rfl) q
theorem Il{a:Addr}(ho:aZ ops i=some ⟨some t,.nilCheck x,ty,pos,af,gd⟩)(q:Way P ak s m (gr fn kd n (put e t (.pointer (some a))) ds (.inRegion ops aa::k) cs))(hx:ev n e x=.pointer (some a):=by rfl)(hw:aM ops n e gd=true:=by rfl):Way P ak s (m+1) (gr fn kd n e ds (.inRegion ops (i::aa)::k) cs):=
 Nf ho hw (by unfold execOp;simp only[hx];rfl) q
theorem Im{s' f o b off:Nat}[c:Fl P s' f o](ho:aZ ops i=some ⟨some t,.fieldAddr s' x f,ty,pos,af,gd⟩)(q:Way P ak s m (gr fn kd n (put e t (.pointer (some ⟨b,off+o,none⟩))) ds (.inRegion ops aa::k) cs))(hx:ev n e x=.pointer (some ⟨b,off,none⟩):=by rfl)(hw:aM ops n e gd=true:=by rfl):Way P ak s (m+1) (gr fn kd n e ds (.inRegion ops (i::aa)::k) cs):=
 Nf ho hw (by obtain⟨fs,fl,z,h1,h2,rfl,⟨inf,h4,h5⟩,h6⟩:=c.h;unfold execOp;simp only[hx,Instr.fieldAt];refine bq (a:=.pointer (some ⟨b,off+fl.offset,none⟩)) (bq (fy h1) ?_) rfl;simp only[h2,Instr.sureAddr];refine bq (a:=(⟨b,off,none⟩:Addr)) rfl ?_;unfold fieldPlace;refine bq (a:=⟨b,off+fl.offset,none⟩) ?_ rfl;refine bq (DC ⟨inf,h4,h5⟩) ?_;rw[ao h6,gK];rfl) q
theorem DK{tt:aQ}{ad:Addr}[a:Ag P tt false](hm:(ad,v)∈s.mem)(ho:aZ ops i=some ⟨some t,.load tt x,ty,pos,af,gd⟩)(q:Way P ak s m (gr fn kd n (put e t v) ds (.inRegion ops aa::k) cs))(hx:ev n e x=.pointer (some ad):=by rfl)(hw:aM ops n e gd=true:=by rfl):Way P ak s (m+1) (gr fn kd n e ds (.inRegion ops (i::aa)::k) cs):=by refine .inr ⟨rfl,λw hK=>⟨_,_,w.drawn,DI ho hw hx (hK _ hm),λe he=>?_,q⟩⟩;have:=DG he;simp only[oG,ga,l7,fO]at this;exact⟨ad,this,(ad,v),hm,rfl⟩
end
structure Aj(ops:Array Oper)(e0:Nat->Value)(D:List (Nat×Nat))(S:List SE)(L:Nat->Prop)(e:Nat->Value):Prop where
 v1:∀ x∈S,L x.i->e x.t=x.v
 v2:∀ s,FJ D s=none->e s=e0 s
 v3:∀ s w,FJ D s=some w->¬ L w->e s=e0 s
 cl:∀ w,L w->∀ j∈z9 ops w,L j
section
variable{P:bL}{ak:Bool}{s:du}{fn:bI}{kd:Kd}{n:Nat}{ds:List dQ}{ops:Array Oper}{k:List Item}{cs:List Frame}{e0:Nat->Value}{D:List (Nat×Nat)}{T is:List Nat}{S:List SE}
theorem Aj.env{L:Nat->Prop}{e:Nat->Value}(h:Aj ops e0 D S L e){i:Nat}(hi:¬ L i)(hr:∀ j∈z9 ops i,L j){S':List SE}(hS:∀ x∈S',x∈S):lX e0 D ops i S' e=e:=by
 funext s
 unfold lX;cases h1:TX S' (z9 ops i) s with
 |some v=>
  obtain⟨x,hx,rfl,rfl,hp⟩:=H7 h1;exact(h.v1 x (hS x hx) (hr _ hp)).symm
 |none=>
  simp only;cases h2:FJ D s with
  |none=>exact(h.v2 s h2).symm
  |some w=>
   simp only;split
   ·rename_i hc;have MN:i∈z9 ops w:=by simpa using hc
    exact(h.v3 s w h2 λhl=>hi (h.cl w hl i MN)).symm
   ·rfl
structure Qd(P:bL)(ak:Bool)(s:du)(fn:bI)(kd:Kd)(n:Nat)(ds:List dQ)(ops:Array Oper)(k:List Item)(cs:List Frame)(e0:Nat->Value)(D:List (Nat×Nat))(is:List Nat)(S:List SE):Prop where
 all:∀ i∈is,∃ x∈S,x.i=i
 sub:∀ x∈S,x.i∈is
 uq:∀ x∈S,∀ y∈S,x.i=y.i->x=y
 lk:∀ x∈S,iu ops x.i=some x.t
 ob:∀ x∈S,∃ Sx,(∀ y∈Sx,y∈S)/\∀ m e aa,Way P ak s m (gr fn kd n (put (lX e0 D ops x.i Sx e) x.t x.v) ds (.inRegion ops aa::k) cs)->Way P ak s (m+1) (gr fn kd n (lX e0 D ops x.i Sx e) ds (.inRegion ops (x.i::aa)::k) cs)
def JA(listed:Array Bool)(i:Nat):Prop:=listed[i]?.getD false=true
def pq(ops:Array Oper)(e0:Nat->Value)(D:List (Nat×Nat))(S:List SE)(r:Nat)(e:Nat->Value)(aa:List Nat):Prop:=
 ∃ md fuel t,∃ listed:Array Bool,listed.size=ops.size/\u7 (λi=>listed[i]?.getD false) ops.size=fuel+1/\Aj ops e0 D S (JA listed) e/\¬ JA listed r/\(∀ j∈z9 ops r,JA listed j)/\aa=Region.linearise.go md ops fuel t (listed.setIfInBounds r true) []
theorem Io{md:Region.Mode}(rg:Ab ops D T is)(sw:Qd P ak s fn kd n ds ops k cs e0 D is S){r:Nat}(hr:r∈T)(hT:∀ t∈T,t≠r->reach ops 8 t r=true)
  {m0:Nat} (DL:∀ e aa,pq ops e0 D S r e aa->Way P ak s m0 (gr fn kd n e ds (.inRegion ops (r::aa)::k) cs)):
  ∀ (fuel t:Nat) (listed:Array Bool) (e:Nat->Value),listed.size=ops.size->u7 (λi=>listed[i]?.getD false) ops.size=fuel->Aj ops e0 D S (JA listed) e->¬ JA listed r->
   Way P ak s (fuel+m0) (gr fn kd n e ds (.inRegion ops (Region.linearise.go md ops fuel t listed [])::k) cs):=by
 intro fuel
 induction fuel with
 |zero=>
  intro t listed e hsz hu st sf;exact absurd (qb hu r (rg.Tlt r hr)) sf
 |succ fuel ih=>
  intro t listed e hsz hu st sf;have pB:∀ i,i∈((List.range ops.size).filter λi=> !listed.getD i true&&((ops[i]?).map (·.after.all λe=> !Region.binds md e||listed.getD e.on false)).getD false)↔i<ops.size/\listed[i]?.getD false=false/\∀ j∈sx md ops i,listed[j]?.getD false=true:=by
   intro i;simp only[gP,m7,lN,CX];constructor
   ·rintro⟨h1,h2,h3⟩;refine⟨h1,?_,(qS h1).1 h3⟩;have:i<listed.size:=az;simpa[Array.getD_eq_getD_getElem?,this]using h2
   ·rintro⟨h1,h2,h3⟩;refine⟨h1,?_,(qS h1).2 h3⟩;have:i<listed.size:=az;simpa[Array.getD_eq_getD_getElem?,this]using h2
  simp only[Region.linearise.go];generalize hG:((List.range ops.size).filter λi=> !listed.getD i true&&((ops[i]?).map (·.after.all λe=> !Region.binds md e||listed.getD e.on false)).getD false)=rs at pB;obtain⟨i1,CF,Ju,_⟩:=iC (f:=λi=>listed[i]?.getD false) (m:=ops.size) (by rw[hu];omega);obtain⟨i0,Ja,P3,Gf⟩:=rg.prog md (λi=>listed[i]?.getD false) ⟨i1,CF,Ju⟩;have eI:rs.length≠0:=by have:i0∈rs:=(pB i0).2 ⟨Ja,P3,Gf⟩;intro z;rw[zh]at z;rw[z]at this;cases this
  have MO:t%rs.length<rs.length:=Nat.mod_lt _ az;rw[e9 MO];simp only;generalize cN:rs[t%rs.length]=i;have eN:i∈rs:=by rw[<- cN];exact br MO
  obtain⟨dA,y3,TY⟩:=(pB i).1 eN;have iS:∀ j∈z9 ops i,listed[j]?.getD false=true:=λj hj=>TY j (wI hj);have Gg:Region.linearise.go md ops fuel (t/rs.length) (listed.setIfInBounds i true) [i]=i::Region.linearise.go md ops fuel (t/rs.length) (listed.setIfInBounds i true) []:=ni md ops fuel (t/rs.length) (listed.setIfInBounds i true) i;rw[Gg];have sg:(listed.setIfInBounds i true).size=ops.size:=by simpa using hsz
  have zk:i<listed.size:=az;have oe:=wJ (listed:=listed) zk;have Gi:¬ (listed[i]?.getD false=true):=by rw[y3];simp
  by_cases Zz:i=r
  ·subst Zz;exact(DL e _ ⟨md,fuel,_,listed,hsz,hu,st,sf,iS,rfl⟩).mono az
  ·have Ia:u7 (λj=>(listed.setIfInBounds i true)[j]?.getD false) ops.size=fuel:=by have:=(tT (f:=λj=>listed[j]?.getD false) (f':=λj=>(listed.setIfInBounds i true)[j]?.getD false) (i:=i) y3 (by simp[oe]) (λj hj=>by simp[oe,hj]) (m:=ops.size)).1 dA;rw[hu]at this;omega
   have hL:∀ j,((listed.setIfInBounds i true)[j]?.getD false=true)↔(j=i\/listed[j]?.getD false=true):=λj=>by rw[oe];by_cases e:j=i<;>simp[e]
   have jC:i∈is:=by
    rcases rg.Xp i dA with h|h
    ·exact h
    ·exfalso;have h1:=hT i h Zz;rcases kQ (f:=7) h1 with h2|⟨m,hm,h2⟩
     ·exact Zz h2
     ·exact sf (gz st.cl 7 m r h2 (iS m hm))
   obtain⟨x,hx,rfl⟩:=sw.all i jC;obtain⟨Sx,hSx,ob⟩:=sw.ob x hx;have Gj:=sw.lk x hx;have Jv:=st.env Gi iS (S':=Sx) hSx;have key:=ob (fuel+m0) e (Region.linearise.go md ops fuel (t/rs.length) (listed.setIfInBounds x.i true) []);rw[Jv]at key;rw[show fuel+1+m0=fuel+m0+1 by omega];refine key (ih _ _ _ sg Ia ⟨λy hy T0=>?_,λs h2=>?_,λs w h2 hw=>?_,λw hw j hj=>?_⟩ λz=>?_)
   ·by_cases MP:y.i=x.i
    ·have V2:y=x:=sw.uq y hy x hx MP;subst V2;simp[put]
    ·have T3:listed[y.i]?.getD false=true:=((hL _).1 T0).resolve_left MP;have Xr:y.t≠x.t:=λe=>MP (tW rg (sw.lk y hy) (e▸Gj));simp only[put,ao Xr];exact st.v1 y hy T3
   ·have:s≠x.t:=λe=>by subst e;rw[rg.d2 _ _ Gj]at h2;cases h2
    simp only[put,ao this];exact st.v2 s h2
   ·have:s≠x.t:=λe=>by subst e;rw[rg.d2 _ _ Gj]at h2;exact hw ((hL w).2 (.inl (bS h2).symm))
    simp only[put,ao this];exact st.v3 s w h2 λh=>hw ((hL w).2 (.inr h))
   ·have hw:(listed.setIfInBounds x.i true)[w]?.getD false=true:=hw;show(listed.setIfInBounds x.i true)[j]?.getD false=true;rw[hL]at hw⊢;rcases hw with rfl|hw
    ·exact .inr (iS j hj)
    ·exact .inr (st.cl w hw j hj)
   ·rcases(hL r).1 z with h|h
    ·exact Zz h.symm
    ·exact sf h
theorem BC:∀ (N m:Nat),u7 (λi=>(Array.replicate N false)[i]?.getD false) m=m
 |N,0=>rfl
 |N,m+1=>by unfold u7;rw[BC N m,mD];rfl
theorem xR{c:Code}(D:List (Nat×Nat))(is T:List Nat)(r:Nat)(S:List SE)(sw:Qd P ak s fn kd n ds (cO c) k cs e0 D is S)(m0:Nat)(DL:∀ e aa,pq (cO c) e0 D S r e aa->Way P ak s m0 (gr fn kd n e ds (.inRegion (cO c) (r::aa)::k) cs))
  (hr:r∈T:=by decide) (hT:(T.all λt=>t==r||reach (cO c) 8 t r)=true:=by decide+kernel) (hc:ck c=.draw:=by rfl) (hg:rN (cO c) D T is=true:=by decide+kernel):Way P ak s ((cO c).size+m0+1) (gr fn kd n e0 ds (.code c::k) cs):=by
 have rg:=tV hg;refine T6 (λt=>?_) hc;have st:Aj (cO c) e0 D S (JA (Array.replicate (cO c).size false)) e0:=⟨λx _ h=>absurd h (by unfold JA;rw[mD];simp),λ_ _=>rfl,λ_ _ _ _=>rfl,λw h=>absurd h (by unfold JA;rw[mD];simp)⟩;have Zt:∀ t∈T,t≠r->reach (cO c) 8 t r=true:=λt ht eI=>by have:=k9.1 hT t ht;simpa[eI]using this
 unfold Region.schedule;split
 ·unfold Region.linearise;exact Io rg sw hr Zt DL _ _ _ _ (by simp) (BC _ _) st (by unfold JA;rw[mD];simp)
 ·unfold Region.linearise;exact Io rg sw hr Zt DL _ _ _ _ (by simp) (BC _ _) st (by unfold JA;rw[mD];simp)
theorem JB{c:Code}(D:List (Nat×Nat))(is T:List Nat)(r:Nat)(S:List SE)(sw:Qd P ak s fn kd n ds (cO c) k cs e0 D is S)(DL:∀ e aa,pq (cO c) e0 D S r e aa->L6 P ak s (gr fn kd n e ds (.inRegion (cO c) (r::aa)::k) cs))
  (hr:r∈T:=by decide) (hT:(T.all λt=>t==r||reach (cO c) 8 t r)=true:=by decide+kernel) (hc:ck c=.draw:=by rfl) (hg:rN (cO c) D T is=true:=by decide+kernel) (Gt:Nat.ble (cO c).size 39=true:=by rfl):Way P ak s 40 (gr fn kd n e0 ds (.code c::k) cs):=by
 have Gt:=vW Gt;exact Way.mono (xR D is T r S sw 0 DL hr hT hc hg) az
theorem pq.aa{r:Nat}{e:Nat->Value}{aa:List Nat}(h:pq ops e0 D S r e aa)(ha:((List.range ops.size).all λi=>i==r||reach ops 8 r i)=true):aa=[]:=by
 obtain⟨md,fuel,t,listed,hsz,hu,st,sf,iS,rfl⟩:=h;have hl:∀ i,i<ops.size->i≠r->JA listed i:=λi hi eI=>by
  have:=k9.1 ha i (m7.2 hi);have h1:reach ops 8 r i=true:=by simpa[eI]using this
  rcases kQ (f:=7) h1 with h2|⟨m,hm,h2⟩
  ·exact absurd h2.symm eI
  ·exact gz st.cl 7 m i h2 (iS m hm)
 have h0:u7 (λi=>(listed.setIfInBounds r true)[i]?.getD false) ops.size=0:=by
  obtain⟨i1,CF,Ju,_⟩|h:=Classical.em (∃ i,i<ops.size/\(listed.setIfInBounds r true)[i]?.getD false=false/\True)
  ·exfalso;have dA:i1<listed.size:=az;by_cases e:i1=r
   ·subst e;simp[dA]at Ju
   ·rw[gq (iP e)]at Ju;have:=hl i1 CF e;unfold JA at this;rw[this]at Ju;cases Ju
  ·rcases Lz (u7 (λi=>(listed.setIfInBounds r true)[i]?.getD false) ops.size)with h1|h1
   ·exact h1
   ·obtain⟨i1,CF,Ju,_⟩:=iC (f:=λi=>(listed.setIfInBounds r true)[i]?.getD false) (LL.1 h1);exact absurd ⟨i1,CF,Ju,trivial⟩ h
 by_cases Bh:r<ops.size
 ·have zk:r<listed.size:=az;have oe:=wJ (listed:=listed) zk;have y3:listed[r]?.getD false=false:=by
   cases e:listed[r]?.getD false with
   |false=>rfl
   |true=>exact absurd e sf
  have:=(tT (f:=λj=>listed[j]?.getD false) (f':=λj=>(listed.setIfInBounds r true)[j]?.getD false) (i:=r) y3 (by simp[oe]) (λj hj=>by simp[oe,hj]) (m:=ops.size)).1 Bh;have hf:fuel=0:=az;subst hf;rfl
 ·exfalso;have:u7 (λi=>listed[i]?.getD false) ops.size=0:=by
   rcases Lz (u7 (λi=>listed[i]?.getD false) ops.size)with h1|h1
   ·exact h1
   ·obtain⟨i1,CF,Ju,_⟩:=iC (f:=λi=>listed[i]?.getD false) (LL.1 h1);have h2:=hl i1 CF az;unfold JA at h2;rw[h2]at Ju;cases Ju
  omega
theorem pq.listed{r:Nat}{e:Nat->Value}{aa:List Nat}(h:pq ops e0 D S r e aa)(ha:((List.range ops.size).all λi=>i==r||reach ops 8 r i)=true):∃ L:Nat->Prop,Aj ops e0 D S L e/\¬ L r/\∀ i,i<ops.size->i≠r->L i:=by
 obtain⟨md,fuel,t,listed,hsz,hu,st,sf,iS,rfl⟩:=h;refine⟨_,st,sf,λi hi eI=>?_⟩;have:=k9.1 ha i (m7.2 hi);have h1:reach ops 8 r i=true:=by simpa[eI]using this
 rcases kQ (f:=7) h1 with h2|⟨m,hm,h2⟩
 ·exact absurd h2.symm eI
 ·exact gz st.cl 7 m i h2 (iS m hm)
theorem Nh:∀ {S:List SE} {s:Nat},(∀ x∈S,x.t≠s)->Lo S s=none
 |[],_,_=>rfl
 |x::S,s,h=>by unfold Lo;rw[ao (h x (iz ..))];exact Nh λy hy=>h y (gb _ hy)
theorem Ip:∀ {S:List SE} {s:Nat} {v:Value},(∃ x∈S,x.t=s)->(∀ x∈S,x.t=s->x.v=v)->Lo S s=some v
 |[],_,_,h,_=>by obtain⟨x,hx,_⟩:=h;cases hx
 |x::S,s,v,h,hv=>by
  unfold Lo;by_cases e:x.t=s
  ·rw[aK e,hv x (iz ..) e]
  ·rw[ao e];refine Ip ?_ λy hy=>hv y (gb _ hy);obtain⟨y,hy,ey⟩:=h;rcases ga.1 hy with rfl|hy
   ·exact absurd ey e
   ·exact⟨y,hy,ey⟩
theorem pq.full{r:Nat}{e:Nat->Value}{aa:List Nat}(rg:Ab ops D T is)(hr:r∈T)(hT:T=[r])(all:∀ i∈is,∃ x∈S,x.i=i)(sub:∀ x∈S,x.i∈is)(uq:∀ x∈S,∀ y∈S,x.i=y.i->x=y)(lk:∀ x∈S,iu ops x.i=some x.t)
  (h:pq ops e0 D S r e aa) (ha:((List.range ops.size).all λi=>i==r||reach ops 8 r i)=true):e=pe e0 S:=by
 obtain⟨L,st,sf,hl⟩:=h.listed ha;have dA:∀ x∈S,x.i<ops.size/\x.i≠r:=λx hx=>⟨(rg.Xq x.i (sub x hx)).2,λz=>(rg.Xq x.i (sub x hx)).1 (by rw[z];exact hr)⟩;have h0:∀ s,(∀ x∈S,x.t≠s)->e s=e0 s:=λs hs=>by
  cases hd:FJ D s with
  |none=>exact st.v2 s hd
  |some w=>
   refine st.v3 s w hd λhw=>?_;have hds:=rg.d1 s w hd;rcases rg.Xp w (mC hds)with h1|h1
   ·obtain⟨x,hx,rfl⟩:=all w h1;have:=lk x hx;rw[hds]at this;exact hs x hx (bS this).symm
   ·rw[hT]at h1;obtain rfl:=dF.1 h1;exact sf hw
 funext s
 unfold pe;by_cases hs:∃ x∈S,x.t=s
 ·obtain⟨x,hx,rfl⟩:=hs;rw[Ip (v:=x.v) ⟨x,hx,rfl⟩ λy hy ey=>by have:=uq y hy x hx (tW rg (lk y hy) (ey▸lk x hx));rw[this]]
  exact st.v1 x hx (hl x.i (dA x hx).1 (dA x hx).2)
 ·have uP:∀ x∈S,x.t≠s:=λx hx z=>hs ⟨x,hx,z⟩;rw[Nh uP];exact h0 s uP
theorem Gu{q:Nat}{c:Code}(D:List (Nat×Nat))(is:List Nat)(r:Nat)(S:List SE)(sw:Qd P ak s fn kd n ds (cO c) k cs e0 D is S)(h:Way P ak s q (gr fn kd n (pe e0 S) ds (.inRegion (cO c) [r]::k) cs))
  (ha:((List.range (cO c).size).all λi=>i==r||reach (cO c) 8 r i)=true:=by decide+kernel) (hc:ck c=.draw:=by rfl) (hg:rN (cO c) D [r] is=true:=by decide+kernel) (Gt:Nat.ble (cO c).size 39=true:=by rfl):Way P ak s (q+40) (gr fn kd n e0 ds (.code c::k) cs):=by
 have Gt:=vW Gt;refine Way.mono (n:=(cO c).size+q+1) ?_ az;refine xR D is [r] r S sw q (λe aa dJ=>?_) (dF.2 rfl) (by simp) hc hg;rw[dJ.aa ha,dJ.full (T:=[r]) (tV hg) (dF.2 rfl) rfl sw.all sw.sub sw.uq sw.lk ha];exact h
end
section
variable{R:Nat->aP->Array Obj->Prop}{d:Nat}{fn:bI}{kd:Kd}{n:Nat}{ds:List dQ}{ops:Array Oper}{k:List Item}{cs:List Frame}{e0:Nat->Value}{D:List (Nat×Nat)}{W As:List HP}{T is:List Nat}{a:Nat}{S:List SE}
theorem resume{T2:List Nat}{r t0:Nat}{v:Value}(hg:rN ops D (r::T2) is=true)(all:∀ i∈is,∃ x∈S,x.i=i)(sub:∀ x∈S,x.i∈is)(uq:∀ x∈S,∀ y∈S,x.i=y.i->x=y)(lk:∀ x∈S,iu ops x.i=some x.t)
  (ob:∀ x∈S,∃ Sx,(∀ y∈Sx,y∈⟨r,t0,v,false⟩::S)/\Wd R d fn kd n ds ops k cs e0 D W Sx x) (hl:∀ x∈S,x.ld=true->((r::T2).filter λt=> !reach ops 8 t x.i).length<=a) (ha:1<=a) (hW:Ext As W)
  (hT:∀ t∈T2,reach ops 8 t r=true) (hd:iu ops r=some t0) (ch:Ch R d fn kd n ds ops k cs e0 D W T2.length S T2 (a-1) [⟨r,t0,v,false⟩] As)
  {e:Nat->Value} {aa:List Nat} (h:pq ops e0 D S r e aa):At R d As (gr fn kd n (put e t0 v) ds (.inRegion ops aa::k) cs):=by
 obtain⟨md,fuel,t,listed,hsz,hu,st,sf,iS,rfl⟩:=h;have rg:=tV hg;have dA:r<ops.size:=mC hd;have zk:r<listed.size:=az;have oe:=wJ (listed:=listed) zk;have y3:listed[r]?.getD false=false:=by
  cases e:listed[r]?.getD false with
  |false=>rfl
  |true=>exact absurd e sf
 have hL:∀ j,((listed.setIfInBounds r true)[j]?.getD false=true)↔(j=r\/listed[j]?.getD false=true):=λj=>by rw[oe];by_cases e:j=r<;>simp[e]
 have Ia:u7 (λj=>(listed.setIfInBounds r true)[j]?.getD false) ops.size=fuel:=by have:=(tT (f:=λj=>listed[j]?.getD false) (f':=λj=>(listed.setIfInBounds r true)[j]?.getD false) (i:=r) y3 (by simp[oe]) (λj hj=>by simp[oe,hj]) (m:=ops.size)).1 dA;rw[hu]at this;omega
 have hnT:=qT rg.nd;have XK:r∉T2:=(rh.1 hnT).1;have XL:∀ x∈S,x.i≠r:=λx hx z=>(rg.Xq x.i (sub x hx)).1 (by rw[z];exact iz ..);refine u9 (T:=r::T2) (is:=is) (a:=a) (W:=W) (kN:=As) (e0:=e0) (D:=D) rg fuel t (listed.setIfInBounds r true) (put e t0 v) S [⟨r,t0,v,false⟩] [r] T2 [] As (by simpa using hsz) Ia ⟨λx hx hLx=>?_,λs hs=>?_,λs w hs hw=>?_,λw hw j hj=>?_,?_,λu hu=>?_,λu hu z=>?_,λx hx=>?_,λu hu s hs=>?_,λx hx=>?_,λx hx=>?_,λi hi=>?_,hl,uq,ch,λ_=>hW⟩
 ·rcases bU.1 hx with hx|hx
  ·obtain rfl:=dF.1 hx;simp[put]
  ·have hxt:x.t≠t0:=λz=>XL x hx (tW rg (lk x hx) (z▸hd));simp only[put,ao hxt];exact st.v1 x hx (((hL _).1 hLx).resolve_left (XL x hx))
 ·have:s≠t0:=λz=>by subst z;rw[rg.d2 _ _ hd]at hs;cases hs
  simp only[put,ao this];exact st.v2 s hs
 ·have:s≠t0:=λz=>by subst z;rw[rg.d2 _ _ hd]at hs;exact hw ((hL w).2 (.inl (bS hs).symm))
  simp only[put,ao this];exact st.v3 s w hs λz=>hw ((hL w).2 (.inr z))
 ·rw[hL]at hw⊢;rcases hw with rfl|hw
  ·exact .inr (iS j hj)
  ·exact .inr (st.cl w hw j hj)
 ·simp
 ·obtain rfl:=dF.1 hu;exact(hL u).2 (.inl rfl)
 ·rcases(hL u).1 z with rfl|h
  ·exact XK hu
  ·rcases kQ (f:=7) (hT u hu)with h2|⟨m,hm,h2⟩
   ·exact XK (h2▸hu)
   ·exact sf (gz st.cl 7 m r h2 (st.cl u h m hm))
 ·rcases bU.1 hx with hx|hx
  ·obtain rfl:=dF.1 hx;exact hd
  ·exact lk x hx
 ·obtain rfl:=dF.1 hu;rw[hd]at hs;exact⟨_,dF.2 rfl,bS hs⟩
 ·obtain rfl:=dF.1 hx;exact dF.2 rfl
 ·obtain⟨Sx,h1,h2⟩:=ob x hx;exact⟨.inl (sub x hx),Sx,h1,h2⟩
 ·exact all i (hi.resolve_right (by simp))
end
end
section
open Go.Conc
theorem dd{P:bL}{B:jW}{α:Type}{s:Sem α}{v:α}{H:Array Obj}{d:Nat}{Q:α->Array Obj->Nat->Prop}(h:fD P s=some v)(q:Q v H d):di P B s H d Q:=by
 induction s with
 |pure a=>obtain rfl:=bS h;exact q
 |program k ih=>exact ih P h
 |_=>cases h
variable{P:bL}{ak:Bool}{B:jW}{R:Nat->aP->Array Obj->Prop}{d:Nat}{As aN F:List HP}
variable{fn:bI}{kd:Kd}{n:Nat}{e:Nat->Value}{ds:List dQ}{k:List Item}{cs:List Frame}
variable{ops:Array Oper}{i:Nat}{aa:List Nat}{dst:Option Nat}{t:Nat}{ty:aQ}{pos:String}{af:Array Edge}{gd:Option (Nat×Bool)}{x y z:cA}{v:Value}
theorem ab.v0(C:ab P ak B R){op:Op}(ho:aZ ops i=some ⟨some t,op,ty,pos,af,gd⟩)(h:Nx R d As fn kd n e ds ops aa k cs t v)(hv:fD P (execOp (ev n e) ⟨some t,op,ty,pos,af,gd⟩)=some (.value v))(hw:aM ops n e gd=true:=by rfl):
  Nw R d As fn kd n e ds ops i aa k cs:=
 C.gen ho hw λH s=>dd hv ⟨As,s,h⟩
theorem ab.ta(C:ab P ak B R){xt tt:aQ}{ok:Bool}{u:TypeDesc}(hu:P.underlying tt=some u)(SB:(match u with|.interface _=>true|_=>false)=false)(ho:aZ ops i=some ⟨some t,.typeAssert x xt tt ok,ty,pos,af,gd⟩)
  (h:Nx R d As fn kd n e ds ops aa k cs t (if ok then .tuple #[v,.bool true]else v)) (hx:ev n e x=.iface tt v:=by rfl) (hw:aM ops n e gd=true:=by rfl):
  Nw R d As fn kd n e ds ops i aa k cs:=
 C.v0 ho h (by unfold execOp;simp only[hx];refine bq (a:=if ok then .tuple #[v,.bool true]else v) ?_ rfl;unfold Instr.typeAssert;refine bq (fy hu) ?_;cases u<;>first|(cases SB;done)|(simp only[eM];rfl)) hw
theorem ab.en(C:ab P ak B R){o:Oper}{f:bI}{args:Array Value}{A:List HP}{Q:Value->List HP->Prop}(hs:aD P ak B f args A Q)(he:fD P (execOp (ev n e) o)=some (.enter f args))
  (h:∀ v aN,Q v aN->At R d (aN++F) (gr fn kd n (cS e o.dst v) ds (.inRegion ops aa::k) cs)) (ho:aZ ops i=some o:=by rfl)
  (hr:dB A As F:=by exact dB.au) (hw:aM ops n e o.guard=true:=by rfl):Nw R d As fn kd n e ds ops i aa k cs:=by
 refine At.perm hr.perm (C.gen ho hw λH s=>dd he ⟨A++F,s,?_⟩);exact hs R C .pb d F _ cs trivial λv aN q=>by show At R d (aN++F) (eT _ cs v);rw[n9 ho];exact h v aN q
theorem ab.x0(C:ab P ak B R){f:bI}{fu:Func}{ex:Array Value->Sem Value}[b:ef P f fu ex]{fo:cA}{args:Array cA}{fU:Array aQ}{vl:List Value}(hx:fD P (ex vl.toArray)=some v)
  (ho:aZ ops i=some ⟨dst,.call ⟨.value fo,args,fU⟩,ty,pos,af,gd⟩) (h:At R d As (gr fn kd n (cS e dst v) ds (.inRegion ops aa::k) cs)) (hf:ev n e fo=.func (.func f) #[] #[]:=by rfl) (hv:args.toList.map (ev n e)=vl:=by rfl) (hw:aM ops n e gd=true:=by rfl):
  Nw R d As fn kd n e ds ops i aa k cs:=
 C.xt (vl:=vl) (λH s=>dd hx ⟨As,s,h⟩) ho hw hf hv
theorem T9{tt el:aQ}{dir:ChanDir}{inf:TypeInfo}(hu:P.underlying tt=some (.chan dir el))(hi:P.info? el=some inf){H:Array Obj}{Q:Next->Array Obj->Nat->Prop}(q:Q (.value (.chan (some H.size))) (H.push (.chan 0 #[] false 0 0 false)) d)
  (hx:ev n e x=.int .i64 0) {o:Oper} (cq:o.op=.makeChan tt x):di P B (execOp (ev n e) o) H d Q:=by
 unfold execOp;simp only[cq,hx];refine ah ?_;unfold Instr.makeChan;refine ah (dd (v:=(0:Int)) rfl ?_);refine ah (dd (fy hu) ?_);refine ah ?_;simp only[Int.lt_irrefl,false_or];refine dd (mJ hi) ?_;have h1:¬ ((0:Int)>IntKind.i64.max):=by decide
 have h2:¬ ((inf.bytes:Int)*0>2^48-112):=by simp
 simp only[h1,h2,or_self,fB];show di P B (newObj (.chan 0 #[] false 0 0 false) >>= λr=>_) H d _;exact q
theorem ab.dfx(C:ab P ak B R){f:bI}{fu:Func}{ex:Array Value->Sem Value}[b:ef P f fu ex]{cap tO:Array Value}{Ua:List dQ}{todo:List Item}{kd:Kd}
  (h:∀ H,Sat As (hp H)->di P B (ex (tO++cap)) H d λv H' d'=>∃ aN,Sat aN (hp H')/\At R d' aN (pZ fn kd n e Ua todo cs)):At R d As (pZ fn kd n e (⟨.fn (.func f) cap,tO⟩::Ua) todo cs):=λH s=>by
 refine C.step d _ H rfl λw nF=>?_;have h0:di P B (invoke (.fn (.func f) cap) tO) H d λy H' d'=>∃ v,y=.value v/\R d' (pZ fn kd n e Ua todo cs) H':=by unfold invoke callFunc;refine ah ?_;show di P B _ H d _;simp only[program,di];rw[b.func];simp only[b.name,b.body,eM,ij,fB];refine ah ?_;simp only[mark,di,j3,nJ,mo];simp only[b.nx,b.fd];refine ah (n5 (λv H' d' q=>?_) (h H s));obtain⟨aN,s',q⟩:=q;exact aA ⟨v,rfl,q H' s'⟩
 obtain⟨y,w',es,d',r1,r2,r3,r4,r5,r6,v,rfl,r7⟩:=n6 (w:=w) #[] nF h0;obtain⟨s1,s2⟩:=n8 (P:=P) (d:=d) (fn:=fn) r5;rw[r6]at s2;refine⟨_,w',seen P fn es,?_,r2,r3,r4,s1,by rw[s2];exact r7⟩;simp only[vV,zf]at r1;simp only[pZ,pC,aU,stepG,unwind,callDeferred,r1];simp[GStep.after,Kd.k]
variable{Post:Value->World->Prop}{X:sB}{σ:Gh}{os:Os}{out:Array (Nat×ByteArray)}
theorem aC.mc{tt el:aQ}{dir:ChanDir}{inf:TypeInfo}(hu:P.underlying tt=some (.chan dir el))(hi:P.info? el=some inf)(ho:aZ ops i=some ⟨some t,.makeChan tt x,ty,pos,af,gd⟩)
  (h:∀ b,(∀ i s,σ.aT i=some s->¬ s.has b)->At (aC P Post X σ 0 os out) d (bR b (.chan 0 #[] false 0 0 false)::As) (gr fn kd n (put e t (.chan (some b))) ds (.inRegion ops aa::k) cs))
  (hx:ev n e x=.int .i64 0:=by rfl) (hw:aM ops n e gd=true:=by rfl):At (aC P Post X σ 0 os out) d As (gr fn kd n e ds (.inRegion ops (i::aa)::k) cs):=λH st hole go w Gp po Ia=>by
 have C:ab P true (X.bw σ) (aC P Post X σ 0 os out):=aC.dK;refine C.op (H:=H) (d:=d) (fn:=fn) (kd:=kd) (n:=n) (e:=e) (ds:=ds) (k:=k) (cs:=cs) (ops:=ops) (i:=i) (aa:=aa) (by rw[db];exact ho) (by rw[dX];exact hw) ?_ hole go w Gp po Ia;refine T9 hu hi ?_ hx rfl;refine h _ (λi' s' e' hc=>?_) _ (st.push _);have:=go.cl i' s' _ e' hc;omega
theorem aC.n7{f:bI}{cap tO:Array Value}{Ua:List dQ}{todo:List Item}{kd:Kd}{A:List HP}{Q:Value->Gh->List HP->Prop}{fu:Func}{cc:Code}{nf:Nat}[b:Body P f fu cc nf](hs:bC P X f (tO++cap) σ A Q)
  (h:∀ v σ' aN,Q v σ' aN->At (aC P Post X σ' 0 os out) 0 (aN++F) (pZ fn kd n e Ua todo cs)) (hr:dB A As F:=by exact dB.au):At (aC P Post X σ 0 os out) 0 As (pZ fn kd n e (⟨.fn (.func f) cap,tO⟩::Ua) todo cs):=by
 refine At.perm hr.perm ?_;have C:ab P true (X.bw σ) (aC P Post X σ 0 os out):=aC.dK;intro H st;refine C.PX (f:=f) (args:=tO) (.inr ⟨cap,rfl⟩) ?_;refine na (P:=P) (f:=f) (tO++cap) _ H 0 _ ?_;refine⟨f,_,rfl,?_⟩;exact hs Post os out .n7 F (pC fn kd n e Ua todo) cs rfl (λv σ' aN q=>h v σ' aN q) H st
theorem wM{H:Array Obj}{b o:Nat}{c:Array Value}{el:aQ}{Q:Bool->Array Obj->Nat->Prop}(h1:hp H b=some (.cells c el (0,0)))(q:Q false H d):di P B (frozen ⟨b,o,none⟩) H d Q:=by have Jo:H[b]? =some (.cells c el (0,0)):=h1;simp only[frozen,di,wH,Jo];simpa using q
theorem DN{H:Array Obj}{b o:Nat}{c:Array Value}{el:aQ}{Q:Bool->Array Obj->Nat->Prop}(h1:hp H b=some (.cells c el (0,0)))(q:Q false H d):di P B (stringish ⟨b,o,none⟩) H d Q:=by unfold stringish;refine ah (wM h1 ?_);simp only[ij,fB];refine ah ?_;have Jo:H[b]? =some (.cells c el (0,0)):=h1;simp only[shape,di,ss,Jo];exact wM h1 q
theorem Ni{H:Array Obj}{b1 o1 b2 o2:Nat}{c1 c2:Array Value}{e1 e2:aQ}{Q:Bool->Array Obj->Nat->Prop}(h1:hp H b1=some (.cells c1 e1 (0,0)))(h2:hp H b2=some (.cells c2 e2 (0,0)))
  (q:Q (decide (b1=b2/\o1=o2)) H d):di P B (sameAddr ⟨b1,o1,none⟩ ⟨b2,o2,none⟩) H d Q:=by
 unfold sameAddr;by_cases hb:b1=b2
 ·subst hb;simp only[beq_self_eq_true,eM];refine ah (aA ?_);have:((⟨b1,o1,none⟩:Addr)==⟨b1,o2,none⟩)=decide (b1=b1/\o1=o2):=by rw[Bool.eq_iff_iff];simp
  first|exact aA (by rw[this];exact q)|(simp only[this];exact q)
 ·have hbb:(b1==b2)=false:=by simpa using hb
  simp only[hbb,ij,fB];refine ah (wM h1 ?_);refine ah (wM h2 ?_);simp only[Bool.and_self,ij,fB];refine ah (ah ?_);refine oO h1 ?_;refine aA ?_;refine ah (ah ?_);refine oO h2 ?_;refine aA ?_;refine ah ?_;unfold mayBeOne;refine ah (DN h1 ?_);refine ah (DN h2 ?_);refine ah (ah ?_);have Jo:H[b1]? =some (.cells c1 e1 (0,0)):=h1;have Ln:H[b2]? =some (.cells c2 e2 (0,0)):=h2;simp only[shape,di,ss,Jo];refine aA ?_;refine ah (ah ?_);simp only[shape,di,ss,Ln];refine aA ?_;simp only[LP,Bool.or_self];refine aA ?_;have:decide (b1=b2/\o1=o2)=false:=by simp[hb]
  rw[this]at q;exact q
theorem Qe{H:Array Obj}{b1 o1 b2 o2:Nat}{c1 c2:Array Value}{e1 e2 tt tx tp:aQ}{sz:Nat}{ms:Array (String×aQ)}{inf:TypeInfo}{Q:Bool->Array Obj->Nat->Prop}(hu:P.underlying tt=some (.interface ms))(hi:P.info? tx=some inf)(hc:inf.comparable=true)[c:Pt P tx tp][cz:Cz P tp sz](hz:sz≠0)
  (h1:hp H b1=some (.cells c1 e1 (0,0))) (h2:hp H b2=some (.cells c2 e2 (0,0))) (q:Q (decide (b1=b2/\o1=o2)) H d):di P B (Op.equal tt (.iface tx (.pointer (some ⟨b1,o1,none⟩))) (.iface tx (.pointer (some ⟨b2,o2,none⟩)))) H d Q:=by
 unfold Op.equal;show di P B (Op.equalIn (9998+1+1) _ _ _) H d Q;unfold Op.equalIn;refine ah (dd (fy hu) ?_);simp only[ne_eq,LB,fB];refine ah (dd (mJ hi) ?_);simp only[hc,zR,ij,fB];unfold Op.equalIn;refine ah (dd (fy c.h) ?_);simp only;refine ah (gW B H d _ ?_);simp only[ne_eq,hz,not_false_eq_true,eM];exact Ni h1 h2 q
theorem Qf{H:Array Obj}{tt tx ty:aQ}{u w:Value}{ms:Array (String×aQ)}{Q:Bool->Array Obj->Nat->Prop}(hu:P.underlying tt=some (.interface ms))(eI:tx≠ty)(q:Q false H d):di P B (Op.equal tt (.iface tx u) (.iface ty w)) H d Q:=by unfold Op.equal;show di P B (Op.equalIn (9998+1+1) _ _ _) H d Q;unfold Op.equalIn;refine ah (dd (fy hu) ?_);simp only[ne_eq,eI,not_false_eq_true,eM];exact aA q
def isEq:BinOp->Option Bool
 |.eql=>some true
 |.neq=>some false
 |_=>none
theorem Iq{H:Array Obj}{op:BinOp}{r:Bool}{tt tx ty:aQ}{u w:Value}{Q:Value->Array Obj->Nat->Prop}(cq:isEq op=some r)(h:di P B (Op.equal tt (.iface tx u) (.iface ty w)) H d λz H' d'=>Q (.bool (z==r)) H' d'):di P B (do eqGuard op tt x y (.iface tx u) (.iface ty w);binOp op tt (.iface tx u) (.iface ty w)) H d Q:=by
 cases op<;>first|(cases cq;done)|skip
 ·obtain rfl:=bS cq;refine ah (dd (v:=()) ?_ ?_)
  ·unfold eqGuard;rfl
  ·show di P B (Op.equal _ _ _ >>= λz=>pure (.bool z)) H d Q;refine ah (n5 (λz H' d' hz=>?_) h);refine aA (?_);simpa using hz
 ·obtain rfl:=bS cq;refine ah (dd (v:=()) ?_ ?_)
  ·unfold eqGuard;rfl
  ·show di P B (Op.equal _ _ _ >>= λz=>pure (.bool (!z))) H d Q;refine ah (n5 (λz H' d' hz=>?_) h);refine aA (?_);simpa using hz
theorem ab.Qg(C:ab P ak B R){op:BinOp}{r:Bool}{b1 o1 b2 o2:Nat}{c1 c2:Array Value}{e1 e2 tt t2 tx tp:aQ}{sz:Nat}{ms:Array (String×aQ)}{inf:TypeInfo}(hu:P.underlying tt=some (.interface ms))(hi:P.info? tx=some inf)(hc:inf.comparable=true)[c:Pt P tx tp][cz:Cz P tp sz]
  (ho:aZ ops i=some ⟨some t,.binOp op tt x y t2,ty,pos,af,gd⟩) (h:At R d As (gr fn kd n (put e t (.bool (decide (b1=b2/\o1=o2)==r))) ds (.inRegion ops aa::k) cs)) (h1:∀ H,Sat As (hp H)->hp H b1=some (.cells c1 e1 (0,0))) (h2:∀ H,Sat As (hp H)->hp H b2=some (.cells c2 e2 (0,0)))
  (cq:isEq op=some r:=by rfl) (hx:ev n e x=.iface tx (.pointer (some ⟨b1,o1,none⟩)):=by rfl) (hy:ev n e y=.iface tx (.pointer (some ⟨b2,o2,none⟩)):=by rfl) (hz:sz≠0:=by decide) (hw:aM ops n e gd=true:=by rfl):Nw R d As fn kd n e ds ops i aa k cs:=
 C.gen ho hw λH s=>by unfold execOp;simp only[hx,hy];exact ah (Iq cq (Qe hu hi hc hz (h1 H s) (h2 H s) ⟨As,s,h⟩))
theorem ab.eqN(C:ab P ak B R){op:BinOp}{r:Bool}{tt t2 tx So:aQ}{u w:Value}{ms:Array (String×aQ)}(hu:P.underlying tt=some (.interface ms))(ho:aZ ops i=some ⟨some t,.binOp op tt x y t2,ty,pos,af,gd⟩)(h:Nx R d As fn kd n e ds ops aa k cs t (.bool (false==r)))
  (cq:isEq op=some r:=by rfl) (hx:ev n e x=.iface tx u:=by rfl) (hy:ev n e y=.iface So w:=by rfl) (eI:tx≠So:=by decide) (hw:aM ops n e gd=true:=by rfl):Nw R d As fn kd n e ds ops i aa k cs:=
 C.gen ho hw λH s=>by unfold execOp;simp only[hx,hy];exact ah (Iq cq (Qf hu eI ⟨As,s,h⟩))
theorem ab.Qh(C:ab P ak B R){op:BinOp}{r:Bool}{tt t2 tx:aQ}{u:Value}{ms:Array (String×aQ)}(hu:P.underlying tt=some (.interface ms))(ho:aZ ops i=some ⟨some t,.binOp op tt x y t2,ty,pos,af,gd⟩)(h:Nx R d As fn kd n e ds ops aa k cs t (.bool (false==r)))
  (cq:isEq op=some r:=by rfl) (hx:ev n e x=.iface tx u:=by rfl) (hy:ev n e y=.nilIface:=by rfl) (hw:aM ops n e gd=true:=by rfl):Nw R d As fn kd n e ds ops i aa k cs:=
 C.v0 ho h (by
  unfold execOp;simp only[hx,hy];refine bq (a:=.bool (false==r)) ?_ rfl;have h0:fD P (Op.equal tt (.iface tx u) .nilIface)=some false:=by unfold Op.equal;show fD P (Op.equalIn (9998+1+1) _ _ _)=_;unfold Op.equalIn;exact bq (fy hu) rfl
  cases op<;>first|(cases cq;done)|skip
  ·obtain rfl:=bS cq;refine bq (a:=()) (by unfold eqGuard;rfl) ?_;exact bq h0 rfl
  ·obtain rfl:=bS cq;refine bq (a:=()) (by unfold eqGuard;rfl) ?_;exact bq h0 rfl) hw
def isK:cA->Bool
 |.const _=>true
 |_=>false
theorem ab.Ub(C:ab P ak B R){op:BinOp}{r:Bool}{tt t2:aQ}{ms:Array (String×aQ)}(hu:P.underlying tt=some (.interface ms))(ho:aZ ops i=some ⟨some t,.binOp op tt x y t2,ty,pos,af,gd⟩)(h:Nx R d As fn kd n e ds ops aa k cs t (.bool (true==r)))
  (hl:(isK x||isK y)=true:=by rfl) (cq:isEq op=some r:=by rfl) (hx:ev n e x=.nilIface:=by rfl) (hy:ev n e y=.nilIface:=by rfl) (hw:aM ops n e gd=true:=by rfl):Nw R d As fn kd n e ds ops i aa k cs:=
 C.v0 ho h (by
  unfold execOp;simp only[hx,hy];refine bq (a:=.bool (true==r)) ?_ rfl;have h0:fD P (Op.equal tt .nilIface .nilIface)=some true:=by unfold Op.equal;show fD P (Op.equalIn (9998+1+1) _ _ _)=_;unfold Op.equalIn;exact bq (fy hu) rfl
  cases op<;>first|(cases cq;done)|skip
  ·obtain rfl:=bS cq;refine bq (a:=()) (by cases x<;>cases y<;>first|rfl|(cases hl;done)) ?_;exact bq h0 rfl
  ·obtain rfl:=bS cq;refine bq (a:=()) (by cases x<;>cases y<;>first|rfl|(cases hl;done)) ?_;exact bq h0 rfl) hw
theorem ab.SG(C:ab P ak B R){op:BinOp}{r:Bool}{tt t2 el:aQ}[cE:El P tt el]{a:Option Addr}{len cap:Nat}(ho:aZ ops i=some ⟨some t,.binOp op tt x y t2,ty,pos,af,gd⟩)(h:Nx R d As fn kd n e ds ops aa k cs t (.bool (a.isNone==r)))
  (cq:isEq op=some r:=by rfl) (hx:ev n e x=.slice a len cap:=by rfl) (hy:ev n e y=.slice none 0 0:=by rfl) (hw:aM ops n e gd=true:=by rfl):Nw R d As fn kd n e ds ops i aa k cs:=
 C.v0 ho h (by
  unfold execOp;simp only[hx,hy];refine bq (a:=.bool (a.isNone==r)) ?_ rfl;have h0:fD P (Op.equal tt (.slice a len cap) (.slice none 0 0))=some a.isNone:=by unfold Op.equal;show fD P (Op.equalIn (9998+1+1) _ _ _)=_;unfold Op.equalIn;refine bq (fy cE.h) ?_;cases a<;>rfl
  cases op<;>first|(cases cq;done)|skip
  ·obtain rfl:=bS cq;refine bq (a:=()) (by unfold eqGuard;rfl) ?_;refine bq h0 ?_;cases a<;>rfl
  ·obtain rfl:=bS cq;refine bq (a:=()) (by unfold eqGuard;rfl) ?_;refine bq h0 ?_;cases a<;>rfl) hw
theorem ab.ZA(C:ab P ak B R){α:Type}(f:α->List Value){tt el z:Nat}[cE:El P tt el][Cz P el z](ho:aZ ops i=some ⟨some t,.buildSlice tt 0 #[],ty,pos,af,gd⟩)
  (h:∀ b,At R d (a9 f z el ⟨some ⟨b,0,none⟩,0,0⟩ []::As) (gr fn kd n (put e t (ay.v ⟨some ⟨b,0,none⟩,0,0⟩)) ds (.inRegion ops aa::k) cs)) (hw:aM ops n e gd=true:=by rfl):Nw R d As fn kd n e ds ops i aa k cs:=
 C.gen ho hw λH s=>by
  unfold execOp;simp only[Instr.buildSlice];refine ah (ah (dz cE.h B H d _ ?_));refine ah (gW B H d _ ?_);simp only[I8,eM];rw[ao az];refine ah ?_;refine aA ?_;have e2:(Array.map (λx:Nat×cA=>(x.fst,ev n e x.snd)) #[]).toList=[]:=by simp
  rw[e2];show di P B (newRow el _ >>= λa=>pure (Value.slice (some a) 0 0)) H d _;refine ah ?_;unfold newRow;refine ah ?_;show di P B (.new _ _) H d _;simp only[di];show di P B (pure _) _ d _;refine aA (aA ⟨_,(s.push _).imp (λhh x=>?_),h _⟩);refine .inr ⟨_,[],rfl,by simp,by simp,?_⟩;have e1:Array.map (λx=>(#[]:Array Value)[x%(#[]:Array Value).size]!) (Array.range 0)=gf f [] []:=by simp[gf,flat]
  rw[<- e1];exact x
theorem ab.uQ(C:ab P ak B R){tt el b off:Nat}{c:Array Value}{fr:Nat×Nat}{I:HL}{L:List HP}[Ag P tt false](hf:Fo (a7 I) As L)(hI:I b=some (.cells c el fr))(hs:B.sh el off=false)(ho:aZ ops i=some ⟨some t,.load tt x,ty,pos,af,gd⟩)(h:Nx R d As fn kd n e ds ops aa k cs t v)
  (hx:ev n e x=.pointer (some ⟨b,off,none⟩):=by rfl) (hc:c[off]? =some v:=by rfl) (hw:aM ops n e gd=true:=by rfl):Nw R d As fn kd n e ds ops i aa k cs:=
 C.gen ho hw λH st=>by have hg:hp H b=some (.cells c el fr):=(st.perm hf.perm).oJ hI;unfold execOp;simp only[hx,Instr.loadAt,Instr.sureAddr];exact ah (ah (aA (gy hg hc hs ⟨As,st,h⟩)))
variable{Z:World->Prop}{W:Nat->aP->Prop}{q:Nat}
variable{f:bI}{fu:Func}{args:Array cA}{fU:Array aQ}
theorem Mt.xk(M:Mt P ak Z W){v:Value}[b:ef P f fu (λ_=>pure v)](ho:aZ ops i=some ⟨dst,.call ⟨.value (.func f),args,fU⟩,ty,pos,af,gd⟩)(h:W q (gr fn kd n (cS e dst v) ds (.inRegion ops aa::k) cs))(hw:aM ops n e gd=true:=by rfl):W (q+1) (gr fn kd n e ds (.inRegion ops (i::aa)::k) cs):=
 M.s _ _ _ rfl (λw _=>by rw[jE,jE,<- kX];exact stepG_entry (o:=⟨dst,.call ⟨.value (.func f),args,fU⟩,ty,pos,af,gd⟩) (by rw[db];exact ho) (by rw[dX];exact hw) jF rfl b.func b.name b.body b.nx b.fd (by simp) (by simp) (by simp)) h
theorem Ak(m:Mark)[b:ef P f fu (λ_=>do mark m;pure Extern.Race.none_)]{av:Array Value}{todo:List Item}(hm:∀ g,m≠ .extern g)(w:World):
  stepG P ak (pZ fn kd n e (⟨.fn (.func f) #[],av⟩::ds) todo cs) w=.go (pZ fn kd n e ds todo cs) w #[y6 m]:=
 stepG_unwind_entry (b:=bs fn kd) (a:=⟨tm n e,⟨.fn (.func f) #[],av⟩::ds⟩) (todo:=todo) (cs:=cs) (ds:=ds) (f:=f) (args:=av) (v:=.tuple #[]) rfl b.func b.name b.body b.nx b.fd (by simp[Extern.Race.none_]) (by simp) (by intro x hx;simp at hx;subst hx;exact⟨rfl,λg h=>hm g (by cases h;rfl)⟩)
variable{G:pK}
theorem Uc{g g':aP}(hs:g.status=.running)(h:∀ w,stepG P false g w=.go g' w #[y6 (.releaseMerge G.st)])(k:Cl P G q .wF g'):Cl P G (q+1) .rel g:=⟨hs,.inr ⟨g',h,k⟩⟩
theorem Ud{g g':aP}(hs:g.status=.running)(h:∀ w,stepG P false g w=.go g' w #[y6 .disable])(k:Cl P G q .add g'):Cl P G (q+1) .wF g:=⟨hs,.inr ⟨g',h,k⟩⟩
theorem Ue{g:aP}(g':Nat->Nat->aP)(hs:g.status=.running)(h:∀ w v wt,v<=3->wt<=1->w.cell? G.st=some (lF (v+1) wt)->w.frozen? G.st=false->stepG P false g w=.go (g' v wt) (w.setCell G.st (lF v wt)) #[ar G.st,aw G.st])
  (k1:Cl P G q .ld (g' 0 1)) (k2:∀ v wt,v<=3->wt<=1->¬ (v=0/\wt=1)->QuitsD P q 1 (g' v wt)):Cl P G (q+1) .add g:=⟨hs,.inr ⟨g',h,k1,k2⟩⟩
theorem Qi[b:ef P f fu (Extern.Atomic.update (Op.intArith .add) .u64 true)](ho:aZ ops i=some ⟨dst,.call ⟨.value (.func f),#[x,y],fU⟩,ty,pos,af,gd⟩)(k1:Cl P G q .ld (gr fn kd n (cS e dst (lF 0 1)) ds (.inRegion ops aa::k) cs))
  (k2:∀ v wt,v<=3->wt<=1->¬ (v=0/\wt=1)->QuitsD P q 1 (gr fn kd n (cS e dst (lF v wt)) ds (.inRegion ops aa::k) cs)) (hx:ev n e x=.pointer (some G.st):=by rfl) (hy:ev n e y=.int .u64 18446744069414584320:=by rfl) (hw:aM ops n e gd=true:=by rfl):Cl P G (q+1) .add (gr fn kd n e ds (.inRegion ops (i::aa)::k) cs):=by
 refine Ue (λv wt=>gr fn kd n (cS e dst (lF v wt)) ds (.inRegion ops aa::k) cs) rfl (λw v wt hv nF hc hz=>?_) k1 k2;have:=M3 (P:=P) (f:=f) (ak:=false) (fn:=fn) (kd:=kd) (ds:=ds) (k:=k) (cs:=cs) (aa:=aa) (kk:=.u64) (v:=((v+1:Nat):Int)*KQ+wt) (d:=18446744069414584320) ho hw hx hy hc hz;have e1:IntKind.u64.wrap (((v+1:Nat):Int)*KQ+wt+18446744069414584320)=(v:Int)*KQ+wt:=by
  have:(2^IntKind.u64.bits:Int)=18446744073709551616:=by decide
  simp only[IntKind.wrap,KQ,this];rw[ao (by simp[IntKind.signed])];omega
 rw[e1]at this;exact this
theorem XM{g g':aP}(hs:g.status=.running)(h:∀ w,w.cell? G.st=some (lF 0 1)->stepG P false g w=.go g' w #[ar G.st])(k:Cl P G q .Li g'):Cl P G (q+1) .ld g:=⟨hs,.inr ⟨g',h,k⟩⟩
theorem Uf{g g':aP}(hs:g.status=.running)(h:∀ w,w.cell? G.st=some (lF 0 1)->w.frozen? G.st=false->stepG P false g w=.go g' (w.setCell G.st (lF 0 0)) #[aw G.st])(k:Cl P G q .F0 g'):Cl P G (q+1) .Li g:=⟨hs,.inr ⟨g',h,k⟩⟩
theorem Ug{g g':aP}(hs:g.status=.running)(hm:mayWake P g=true)(h:∀ w,w.cell? G.sm=some (rL 0)->w.frozen? G.sm=false->stepG P false g w=.go g' (w.setCell G.sm (rL 1)) (semEvents G.sm))(k:QuitsD P q 1 g'):Cl P G (q+1) .F0 g:=⟨hs,.inr ⟨hm,g',h,k⟩⟩
theorem Nj{ex:Array Value->Sem Value}[b:ef P f fu ex](ho:aZ ops i=some ⟨dst,.call ⟨.value (.func f),args,fU⟩,ty,pos,af,gd⟩):mayWake P (gr fn kd n e ds (.inRegion ops (i::aa)::k) cs)=true:=by
 have po:ops[i]? =some ⟨dst,.call ⟨.value (.func f),args,fU⟩,ty,pos,af,gd⟩:=by rw[db];exact ho
 have h1:(P.funcs[f]?).any (·.body.isSome)=false:=by
  rw[b.func];have:=b.body;cases hb:fu.body with
  |none=>simp[hb]
  |some c=>rw[hb]at this;cases this
 unfold mayWake;simp only[gr,aU,po,k7];simp[Frame.eval,h1]
theorem Al{g g':aP}(hs:g.status=.running)(h:∀ w,stepG P false g w=.go g' w #[y6 .enable])(k:QuitsD P q 0 g'):QuitsD P (q+1) 1 g:=.inr ⟨hs,g',_,λe he=>by simp at he;subst he;rfl,h,k⟩
theorem Am:QuitsD P (q+1) 0 (vG (base P []) []):=QuitsD.DD (Jy rfl) az
variable{Fin:aP->Prop}
theorem Uh{v v':Nat}(h:v'<v):((v':Int)*KQ+(0:Nat))≠((v:Int)*KQ+(0:Nat)):=by unfold KQ;omega
theorem Ui[b:ef P f fu (λ_=>do mark .disable;pure Extern.Race.none_)]{c:Nat}(ho:aZ ops i=some ⟨dst,.call ⟨.value (.func f),args,fU⟩,ty,pos,af,gd⟩)(h:MW P G Fin (.head c) (gr fn kd n (cS e dst (.tuple #[])) ds (.inRegion ops aa::k) cs))(hw:aM ops n e gd=true:=by rfl):MW P G Fin (.wF c) (gr fn kd n e ds (.inRegion ops (i::aa)::k) cs):=
 .wF rfl (λw=>xJ .disable ho hw (by intro g;simp) w) h
theorem Qj[b:ef P f fu (Extern.Atomic.loadT (.int .u64))]{c:Nat}(ho:aZ ops i=some ⟨dst,.call ⟨.value (.func f),#[x],fU⟩,ty,pos,af,gd⟩)(k0:MW P G Fin .Mj (gr fn kd n (cS e dst (lF 0 0)) ds (.inRegion ops aa::k) cs))(k1:∀ v,1<=v->v<=c->MW P G Fin (.PS v) (gr fn kd n (cS e dst (lF v 0)) ds (.inRegion ops aa::k) cs))
  (hx:ev n e x=.pointer (some G.st):=by rfl) (hw:aM ops n e gd=true:=by rfl):MW P G Fin (.head c) (gr fn kd n e ds (.inRegion ops (i::aa)::k) cs):=
 .load (λv=>gr fn kd n (cS e dst (lF v 0)) ds (.inRegion ops aa::k) cs) rfl (λw v _ hc=>xL ho hw hx hc) k0 k1
theorem Uj[b:ef P f fu (Extern.Atomic.casT (.int .u64))]{v:Nat}(ho:aZ ops i=some ⟨dst,.call ⟨.value (.func f),#[x,y,z],fU⟩,ty,pos,af,gd⟩)(k1:MW P G Fin .reg (gr fn kd n (cS e dst (.bool true)) ds (.inRegion ops aa::k) cs))(k2:MW P G Fin (.head (v-1)) (gr fn kd n (cS e dst (.bool false)) ds (.inRegion ops aa::k) cs))
  (hx:ev n e x=.pointer (some G.st):=by rfl) (hy:ev n e y=lF v 0:=by rfl) (hz:ev n e z=lF v 1:=by rfl) (hw:aM ops n e gd=true:=by rfl):MW P G Fin (.PS v) (gr fn kd n e ds (.inRegion ops (i::aa)::k) cs):=
 .PS rfl (λw hc hf=>M4 ho hw hx hy hz hc hf) (λw v' hv hc hf=>M5 ho hw hx hy hz hc hf (Uh hv)) k1 k2
theorem Qk[b:ef P f fu (Extern.Race.marked .write)](ho:aZ ops i=some ⟨dst,.call ⟨.value (.func f),args,fU⟩,ty,pos,af,gd⟩)(h:MW P G Fin .reg (gr fn kd n (cS e dst (.tuple #[])) ds (.inRegion ops aa::k) cs))(hx:(args.toList.map (ev n e))[0]? =some (.pointer (some G.sm)):=by rfl)(hw:aM ops n e gd=true:=by rfl):MW P G Fin .reg (gr fn kd n e ds (.inRegion ops (i::aa)::k) cs):=
 .said rfl (λw=>xK .write ho hw (by intro ad g;simp) hx w) h
theorem Uk[b:ef P f fu Extern.Sync.semacquire](ho:aZ ops i=some ⟨dst,.call ⟨.value (.func f),args,fU⟩,ty,pos,af,gd⟩)(h:MW P G Fin .last (gr fn kd n (cS e dst (.tuple #[])) ds (.inRegion ops aa::k) cs))(hx:(args.toList.map (ev n e))[0]? =some (.pointer (some G.sm)):=by rfl)(hw:aM ops n e gd=true:=by rfl):MW P G Fin .reg (gr fn kd n e ds (.inRegion ops (i::aa)::k) cs):=
 .F0 rfl rfl (λw hc=>M7 ho hw hx hc) (λw hc hz=>M6 ho hw hx hc (by decide) hz) h
theorem Ql[b:ef P f fu (Extern.Atomic.loadT (.int .u64))](ho:aZ ops i=some ⟨dst,.call ⟨.value (.func f),#[x],fU⟩,ty,pos,af,gd⟩)(h:MW P G Fin .Mj (gr fn kd n (cS e dst (lF 0 0)) ds (.inRegion ops aa::k) cs))(hx:ev n e x=.pointer (some G.st):=by rfl)(hw:aM ops n e gd=true:=by rfl):MW P G Fin .last (gr fn kd n e ds (.inRegion ops (i::aa)::k) cs):=
 .last rfl (λw hc=>xL ho hw hx hc) h
theorem Nk[b:ef P f fu (λ_=>do mark .enable;pure Extern.Race.none_)](ho:aZ ops i=some ⟨dst,.call ⟨.value (.func f),args,fU⟩,ty,pos,af,gd⟩)(h:MW P G Fin .acq (gr fn kd n (cS e dst (.tuple #[])) ds (.inRegion ops aa::k) cs))(hw:aM ops n e gd=true:=by rfl):MW P G Fin .Mj (gr fn kd n e ds (.inRegion ops (i::aa)::k) cs):=
 .Mj rfl (λw=>xJ .enable ho hw (by intro g;simp) w) h
theorem Nl[b:ef P f fu (Extern.Race.marked .acquire)](ho:aZ ops i=some ⟨dst,.call ⟨.value (.func f),args,fU⟩,ty,pos,af,gd⟩)(h:Fin (gr fn kd n (cS e dst (.tuple #[])) ds (.inRegion ops aa::k) cs))(hx:(args.toList.map (ev n e))[0]? =some (.pointer (some G.st)):=by rfl)(hw:aM ops n e gd=true:=by rfl):MW P G Fin .acq (gr fn kd n e ds (.inRegion ops (i::aa)::k) cs):=
 .acq rfl (λw=>xK .acquire ho hw (by intro ad g;simp) hx w) h
theorem ab.df(C:ab P ak B R){f:bI}{a1 a2:Array Value}{fo:cA}{args:Array cA}{fU:Array aQ}{vl:List Value}(ho:aZ ops i=some ⟨dst,.defer ⟨.value fo,args,fU⟩,ty,pos,af,gd⟩)
  (h:At R d As (gr fn kd n (cS e dst undef) (⟨.fn (.func f) a2,a1++vl.toArray⟩::ds) (.inRegion ops aa::k) cs)) (hf:ev n e fo=.func (.func f) a1 a2:=by rfl) (hv:args.toList.map (ev n e)=vl:=by rfl) (hw:aM ops n e gd=true:=by rfl):Nw R d As fn kd n e ds ops i aa k cs:=
 C.gen ho hw λH s=>by
  have sk:args.map (ev n e)=vl.toArray:=by rw[<- hv,<- pP,sd]
  refine dd (v:=Next.defer ⟨.fn (.func f) a2,a1++vl.toArray⟩) ?_ ?_
  rotate_left
  ·exact⟨As,s,h⟩
  unfold execOp;simp only;refine bq (a:=⟨.fn (.func f) a2,a1++vl.toArray⟩) ?_ rfl;unfold resolve;simp only[hf,Deferred.ofValue,sk];rfl
theorem ab.DO(C:ab P ak B R)(h:At R d As (pZ fn kd n e ds (.code .ret::k) cs)):At R d As (gr fn kd n e ds (.code .ret::k) cs):=λH s=>C.ret (h H s)
theorem ab.fnA(C:ab P ak B R)(h:At R d As (pZ fn kd n e ds [] cs)):At R d As (gr fn kd n e ds [] cs):=λH s=>C.fin (h H s)
theorem ab.XN(C:ab P ak B R){f:bI}{fu:Func}[x:ef P f fu (λ_=>do mark .enable;pure Extern.Race.none_)]{av:Array Value}{todo:List Item}(h:At R (d-1) As (pZ fn kd n e ds todo cs)):At R d As (pZ fn kd n e (⟨.fn (.func f) #[],av⟩::ds) todo cs):=
 C.dfx (f:=f) λH s=>by show di P B (mark .enable >>= λ_=>pure Extern.Race.none_) H d _;refine ah ?_;simp only[mark,di,j3,nJ,mo];exact aA ⟨As,s,h⟩
theorem ab.Qm(C:ab P ak B R){fu:Func}{cc:Code}{n':Nat}[b:Body P fn fu cc n']{slot t0 bb z:Nat}{el:aQ}{xs:Array Value}[Ag P t0 true][Cz P t0 z]{c:Frame}{w:Code}{Q:Value->List HP->Prop}{A:List HP}(hr:fu.results=#[.cell slot t0])(aJ:tP kd c)(aj:∀ v aN,Q v aN->At R d (aN++F) (after kd c cs v))(q:Q (.agg xs) A)
  (he:ev n e (.tmp slot)=.pointer (some ⟨bb,0,none⟩):=by rfl) (hh:Kn As bb (.cells xs el (0,0)):=by apply Has.kn;(repeat(first|with_reducible exact Has.head|with_reducible apply Has.tail));done) (hsz:xs.size=z:=by rfl) (hs:∀ j,B.sh el j=false:=by intro j;rfl) (hx:ck w=.ret:=by rfl)
  (hA:bZ As (A++F):=by exact bZ.au):At R d As (gr fn kd n e [] (.code w::k) (c::cs)):=λH s=>by
 have zz:=fb hx;simp only at zz;subst zz;have hg:=hh _ s;have key:∀ {Q':Value->Array Obj->Nat->Prop},Q' (.agg xs) H d->di P B (results fu (tm n e)) H d Q':=λq'=>by
  unfold results;rw[hr,HA];simp only[LC,PI,HC,bind_assoc,pure_bind,oI];have we:(if slot<n then e slot else undef)=.pointer (some ⟨bb,0,none⟩):=he;rw[we];refine ah (dd (v:=(⟨bb,0,none⟩:Addr)) rfl ?_);refine ah (lW hg az hs ?_);have e1:xs.extract 0 (0+z)=xs:=by rw[mj,<- hsz];simp
  rw[e1];exact q'
 have DQ:R d (after kd c cs (.agg xs)) H:=At.jB hA (aj _ A q) H s;refine C.ret ?_;cases kd with
 |pb=>exact C.back b.func (key DQ)
 |n7=>exact C.Bp aJ b.func (key DQ)
theorem Sat.Nm{A:HP}{b x:Nat}{o:Obj}{L:List HP}{h:HL}(ha:∀ h,A h->∃ o',h b=some o')(s:Sat (A::bR x o::L) h):b≠x:=λe=>by
 subst e;obtain⟨h1,a,_,h2,p,s2,_⟩:=s;obtain⟨o',ho⟩:=ha _ a;have Ln:h2 b=some o:=by have p:h2=one b o:=p;rw[p];simp[one]
 have:=s2 b o Ln;unfold Sl.less at this;rw[ho]at this;simp at this
theorem At.apart{b x:Nat}{o o':Obj}{g:aP}{L:List HP}(hf:dB [bR b o',bR x o] As L)(h:b≠x->At R d As g):At R d As g:=λH st=>
 h (Sat.Nm (λh e=>⟨o',by have e:h=one b o':=e;rw[e];simp[one]⟩) (st.perm hf.perm)) H st
theorem At.BD{α:Type}{f:α->List Value}{z:Nat}{el:aQ}{s:ay}{l:List α}{x:Nat}{o:Obj}{g:aP}{L:List HP}(hf:dB [a9 f z el s l,bR x o] As L)(h:(∀ b,s.a=some ⟨b,0,none⟩->b≠x)->At R d As g):At R d As g:=λH st=>
 h (λb hb=>Sat.Nm (λh e=>by
  rcases e with⟨rfl,_⟩|⟨b',pad,e,_,_,hp⟩
  ·cases hb
  ·rw[e]at hb;obtain rfl:b'=b:=by simpa using hb
   have hp:h=one b' _:=hp;exact⟨_,by rw[hp];simp[one];rfl⟩) (st.perm hf.perm)) H st
variable{e0:Nat->Value}{D:List (Nat×Nat)}{W:List HP}{S:List SE}
theorem Ch.nx{f:Nat}{T' l:List Nat}{a:Nat}{K:List SE}{As:List HP}(hc:Bv ops T'=l)(h:∀ t∈l,Nd R d fn kd n ds ops k cs e0 D W S (λK As=>Ch R d fn kd n ds ops k cs e0 D W f S (T'.erase t) (a-1) K As) t a K As):Ch R d fn kd n ds ops k cs e0 D W (f+1) S T' a K As:=.inl λt ht=>h t (hc▸ht)
theorem fF{α:Type}{φ:α->Prop}{a:α}(h1:φ a):∀ t∈[a],φ t:=by simpa using h1
theorem xS{α:Type}{φ:α->Prop}{a b:α}(h1:φ a)(h2:φ b):∀ t∈[a,b],φ t:=by simpa using⟨h1,h2⟩
theorem ZB{α:Type}{φ:α->Prop}{a b c:α}(h1:φ a)(h2:φ b)(h3:φ c):∀ t∈[a,b,c],φ t:=by simpa using⟨h1,h2,h3⟩
theorem fa4{α:Type}{φ:α->Prop}{a b c d:α}(h1:φ a)(h2:φ b)(h3:φ c)(h4:φ d):∀ t∈[a,b,c,d],φ t:=by simpa using⟨h1,h2,h3,h4⟩
theorem aC.kK{f:bI}{fu:Func}{c:Code}{nf:Nat}[b:Body P f fu c nf]{fo:cA}{args:Array cA}{fU:Array aQ}{vl:List Value}{A:List HP}{Q:Value->Gh->List HP->Prop}(hs:bC P X f vl.toArray σ A Q)
  (h:∀ v σ' aN,Q v σ' aN->At (aC P Post X σ' 0 os out) 0 (aN++F) (gr fn kd n (cS e dst v) ds (.inRegion ops aa::k) cs))
  (ho:aZ ops i=some ⟨dst,.call ⟨.value fo,args,fU⟩,ty,pos,af,gd⟩:=by rfl) (hv:args.toList.map (ev n e)=vl:=by rfl) (hf:ev n e fo=.func (.func f) #[] #[]:=by rfl)
  (hr:dB A As F:=by exact dB.au) (hw:aM ops n e gd=true:=by rfl):At (aC P Post X σ 0 os out) 0 As (gr fn kd n e ds (.inRegion ops (i::aa)::k) cs):=
 aC.cl (a1:=#[]) (a2:=#[]) (vl:=vl) (by simpa using hs) h ho hv hf hr hw
theorem aC.cK{fu:Func}{cc:Code}{n':Nat}[b:Body P fn fu cc n']{c:Frame}{v:Value}{x:Code}{Q:Value->Gh->List HP->Prop}{A:List HP}(aJ:tP kd c)(aj:∀ v σ' aN,Q v σ' aN->At (aC P Post X σ' 0 os out) 0 (aN++F) (after kd c cs v))(q:Q v σ A)(hv:rl fu n e=some v:=by rfl)(hx:ck x=.ret:=by rfl)
  (hr:bZ As (A++F):=by exact bZ.au):At (aC P Post X σ 0 os out) 0 As (gr fn kd n e [] (.code x::k) (c::cs)):=by
 have C:ab P true (X.bw σ) (aC P Post X σ 0 os out):=aC.dK;exact C.MD aJ (At.jB hr (aj v σ A q)) hv hx
theorem Ch.nk{R:Nat->aP->Array Obj->Prop}{d:Nat}{fn:bI}{kd:Kd}{n:Nat}{ds:List dQ}{ops:Array Oper}{k:List Item}{cs:List Frame}{e0:Nat->Value}{D:List (Nat×Nat)}{W:List HP}{S:List SE}{f:Nat}{T':List Nat}(l:List Nat){a:Nat}{K:List SE}{As:List HP}(h:∀ t∈l,Nd R d fn kd n ds ops k cs e0 D W S (λK As=>Ch R d fn kd n ds ops k cs e0 D W f S (T'.erase t) (a-1) K As) t a K As)(hc:Bv ops T'=l:=by decide+kernel):Ch R d fn kd n ds ops k cs e0 D W (f+1) S T' a K As:=Ch.nx hc h
variable{L:List HP}{g:aP}{V:Type}{f:Int×V->HP}{m:List (Int×V)}{k:Int}{v:V}
theorem xT{X:Type}{l:List X}{n:Nat}{x:X}(h:l[n]? =some x):∃ hn:n<l.length,l[n]=x:=jk.1 h
theorem An(hg:aB m k=some v)(hf:Fo (all (m.map f)) As L)(h:At R d (f (k,v)::all ((ee m k).map f)::L) g):At R d As g:=by
 cases hi:pD k m 0 with
 |none=>rw[(iZ hi).1]at hg;cases hg
 |some nv=>
  obtain⟨j,w⟩:=nv;obtain⟨n, -,h1,h2,h3,h4⟩:=iY hi;rw[h2]at hg;obtain rfl:=bS hg;obtain⟨hn,he⟩:=xT h1;refine j7 hn hf ?_;rw[he,<- h4];exact h
theorem DR(v:V)(hr:dB [f (k,v),all ((ee m k).map f)] As L)(h:At R d (all ((bA m k v).map f)::L) g):At R d As g:=by
 cases hi:pD k m 0 with
 |none=>
  obtain⟨h1,h2,h3,h4⟩:=iZ hi;rw[h2]at h;rw[h3]at hr;exact qU (k,v) hr h
 |some nv=>
  obtain⟨j,w⟩:=nv;obtain⟨n, -,h1,h2,h3,h4⟩:=iY hi;obtain⟨hn,he⟩:=xT h1;rw[h3]at h;rw[h4]at hr;exact mF hn (k,v) hr h
theorem Ao(hg:aB m k=none):ee m k=m:=by
 cases hi:pD k m 0 with
 |none=>exact(iZ hi).2.2.1
 |some nv=>
  obtain⟨j,w⟩:=nv;obtain⟨n, -,h1,h2,h3,h4⟩:=iY hi;rw[h2]at hg;cases hg
theorem dY{p:Int×V}:∀ {m:List (Int×V)},p∈bA m k v->p=(k,v)\/p∈m:=by
 intro m hp;cases hi:pD k m 0 with
 |none=>
  rw[(iZ hi).2.1,bU,dF]at hp;exact hp.symm
 |some nv=>
  obtain⟨j,w⟩:=nv;obtain⟨n, -,h1,h2,h3,h4⟩:=iY hi;rw[h3]at hp;exact(fN hp).symm
theorem xU{p:Int×V}{m:List (Int×V)}(hp:p∈ee m k):p∈m:=xv.subset hp
theorem kj{W:Type}(w:V->W)(m:List (Int×V)):(bA m k v).map (λp=>(p.1,w p.2))=bA (m.map λp=>(p.1,w p.2)) k (w v):=(oc w k v m).symm
theorem DT{W:Type}(w:V->W)(m:List (Int×V)):(ee m k).map (λp=>(p.1,w p.2))=ee (m.map λp=>(p.1,w p.2)) k:=(tS w k m).symm
theorem ug{W:Type}(w:V->W)(m:List (Int×V)):aB (m.map λp=>(p.1,w p.2)) k=(aB m k).map w:=mA w k m
theorem BE{α:Type}{f:α->List Value}{z:Nat}[rf:fC f z]{el:aQ}{s:ay}{l:List α}{n:Nat}(hn:n<=l.length)(h:HL)(x:a9 f z el s l h):a9 f z el ⟨s.a,n,s.cap⟩ (l.take n) h:=by
 rcases x with⟨rfl,rfl⟩|⟨b,pad,e,h1,h2,h3⟩
 ·have:n=0:=by simpa using hn
  subst this;exact .inl ⟨rfl,rfl⟩
 ·have hl:(l.take n).length=n:=by rw[ik];omega
  refine .inr ⟨b,flat f (l.drop n)++pad,?_,?_,?_,?_⟩
  ·rw[hl,e]
  ·rw[hl,jd,eO rf.len,tB];have:n*z+(l.length-n)*z=l.length*z:=by rw[<- pA];congr 1;omega
   dsimp only;omega
  ·rw[hl];dsimp only;omega
  ·have e1:gf f (l.take n) (flat f (l.drop n)++pad)=gf f l pad:=by unfold gf;rw[<- pQ,<- jA,vA]
   rw[e1];exact h3
def BF(sz:Nat):Array Value->List (Nat×Value)->Array Value
 |c,[]=>c
 |c,(i,v)::l=>BF sz (wr c (i*sz) v.cells.toList) l
def wN(sz m:Nat):List (Nat×Value)->Bool
 |[]=>true
 |(i,v)::l=>(v.cells.size==sz&&decide (i*sz+sz<=m))&&wN sz m l
theorem DU(sz:Nat):∀ (l:List (Nat×Value)) (c:Array Value),wN sz c.size l=true->Instr.fill (λi=>some (i*sz,sz)) c l=some (BF sz c l)
 |[],c,_=>rfl
 |(i,v)::l,c,h=>by
  unfold wN at h;simp only[lN,CW,o4]at h;obtain⟨h1,h2⟩:=h;unfold Instr.fill BF;dsimp only;have hn:¬ ((decide (v.cells.size≠sz)||decide (i*sz+v.cells.size>c.size))=true):=by rw[h1.1];have:=h1.2;simp;omega
  rw[ao hn];have hf:Array.foldl (λcs (x:Value×Nat)=>match x with|(c,j)=>cs.setIfInBounds (i*sz+j) c) c v.cells.zipIdx=wr c (i*sz) v.cells.toList:=by rw[<- Tx,Ty];exact Bu (i*sz) v.cells.toList 0 _
  rw[hf];exact DU sz l (wr c (i*sz) v.cells.toList) (by rw[tR];exact h2)
theorem gw{V:Type}{k:Int}{v:V}{l:List (Int×V)}(h:aB l k=some v):bA l k v=l:=by
 cases hi:pD k l 0 with
 |none=>rw[(iZ hi).1]at h;cases h
 |some nv=>
  obtain⟨j,w⟩:=nv;obtain⟨n, -,h1,h2,h3,h4⟩:=iY hi;rw[h2]at h;obtain rfl:=bS h;obtain⟨hn,he⟩:=xT h1;rw[h3,<- he,lO]
theorem qW{V:Type}{kk:IntKind}{g:V->Value}{b:Nat}{l:List (Int×V)}{k:Int}{u u1:V}(hg:aB l k=some u)(h:g u1=g u):dp kk g b (bA l k u1)=dp kk g b l:=by
 have e:j6 g (bA l k u1)=j6 g l:=by rw[<- oc,h];exact gw (by rw[mA,hg];rfl)
 unfold dp;rw[e]
variable{k:List Item}
variable{v:Value}{b:Nat}{tt key el:aQ}{kk:IntKind}{g:V->Value}{l:List (Int×V)}{q:Int}
theorem ab.FM(C:ab P ak B R){zv:Value}[cM:Mp P tt key el][Ik P key kk][Zv P el zv](hg:((aB l q).map g).getD zv=v)(ho:aZ ops i=some ⟨some t,.lookup tt x y false,ty,pos,af,gd⟩)
  (h:Nx R d As fn kd n e ds ops aa k cs t v)
  (hx:ev n e x=.map (some b):=by rfl) (hy:ev n e y=.int kk q:=by rfl) (hf:Su (dp kk g b l) As:=by first|(apply Fo.Js;(repeat(first|with_reducible exact Fo.head|with_reducible apply Fo.tail));done)|(apply Ext.Js;assumption;(repeat(first|with_reducible exact Fo.head|with_reducible apply Fo.tail));done)) (hw:aM ops n e gd=true:=by rfl):Nw R d As fn kd n e ds ops i aa k cs:=
 C.Wb (co:=false) ho (by rw[hg];exact h) hx hy hf hw
theorem ab.JC(C:ab P ak B R){op:BinOp}{r:Bool}{tt t2 el:aQ}[cE:Pt P tt el]{a:Option Addr}(ho:aZ ops i=some ⟨some t,.binOp op tt x y t2,ty,pos,af,gd⟩)(h:Nx R d As fn kd n e ds ops aa k cs t (.bool (a.isNone==r)))
  (cq:isEq op=some r:=by rfl) (hx:ev n e x=.pointer a:=by rfl) (hy:ev n e y=.pointer none:=by rfl) (hw:aM ops n e gd=true:=by rfl):Nw R d As fn kd n e ds ops i aa k cs:=
 C.v0 ho h (by
  unfold execOp;simp only[hx,hy];refine bq (a:=.bool (a.isNone==r)) ?_ rfl;have h0:fD P (Op.equal tt (.pointer a) (.pointer none))=some a.isNone:=by unfold Op.equal;show fD P (Op.equalIn (9998+1+1) _ _ _)=_;unfold Op.equalIn;refine bq (fy cE.h) ?_;cases a<;>rfl
  cases op<;>first|(cases cq;done)|skip
  ·obtain rfl:=bS cq;refine bq (a:=()) (by unfold eqGuard;rfl) ?_;refine bq h0 ?_;cases a<;>rfl
  ·obtain rfl:=bS cq;refine bq (a:=()) (by unfold eqGuard;rfl) ?_;refine bq h0 ?_;cases a<;>rfl) hw
theorem ab.SH(C:ab P ak B R){off:Nat}{c:Array Value}{z:Bool}[Ag P tt false](ho:aZ ops i=some ⟨some t,.load tt x,ty,pos,af,gd⟩)(h1:z=true->Nx R d As fn kd n e ds ops aa k cs t (.bool true))(h2:z=false->Nx R d As fn kd n e ds ops aa k cs t (.bool false))
  (hx:ev n e x=.pointer (some ⟨b,off,none⟩):=by rfl) (hh:Kn As b (.cells c el (0,0)):=by first|(apply Has.kn;(repeat(first|with_reducible exact Has.head|with_reducible apply Has.tail));done)|(apply Ext.kn;assumption;(repeat(first|with_reducible exact Has.head|with_reducible apply Has.tail));done)) {v0:Value} (hc:c[off]? =some v0:=by rfl) (nK:v0=.bool z:=by first|((conv=>{lhs;whnf});done)|rfl) (hs:B.sh el off=false:=by rfl) (hw:aM ops n e gd=true:=by rfl):Nw R d As fn kd n e ds ops i aa k cs:=by
 cases z with
 |true=>exact C.ld ho (h1 rfl) hx hh hc nK hs hw
 |false=>exact C.ld ho (h2 rfl) hx hh hc nK hs hw
theorem ab.bda(C:ab P ak B R){zs xs:Array Value}{parts:Array (Nat×cA)}{pv:List (Nat×Value)}{N sz:Nat}[cz:Zv P tt (.agg zs)](hu:P.underlying tt=some (.array N el))[Cz P el sz](ho:aZ ops i=some ⟨some t,.build tt parts,ty,pos,af,gd⟩)(h:Nx R d As fn kd n e ds ops aa k cs t (.agg xs))
  (hp:PV n e parts.toList pv:=by repeat(first|exact PV.nil|(apply PV.cons;focus (conv=>{lhs;whnf})))) (kV:wN sz zs.size pv=true:=by rfl) (TU:BF sz zs pv=xs:=by rfl) (hw:aM ops n e gd=true:=by rfl):Nw R d As fn kd n e ds ops i aa k cs:=
 C.val ho hw (λB H d Q q'=>by unfold execOp;simp only[Instr.build];refine ah (ah (nb B H d _ (ah (dz hu B H d _ ?_))));simp only[Value.cells];refine ah (gW B H d _ ?_);rw[pP,hp.eq,DU sz pv zs kV,TU];exact q') h
theorem ab.iaA(C:ab P ak B R){N sz off:Nat}{j:Int}{o:Nat}(hu:P.underlying tt=some (.array N el))[Cz P el sz](ho:aZ ops i=some ⟨some t,.indexAddr tt x y,ty,pos,af,gd⟩)(h:Nx R d As fn kd n e ds ops aa k cs t (.pointer (some ⟨b,o,none⟩)))
  (hx:ev n e x=.pointer (some ⟨b,off,none⟩):=by rfl) (hy:ev n e y=.int kk j:=by rfl) (hj:0<=j/\j<N:=by constructor<;>omega) (hoff:off+j.toNat*sz=o:=by rfl) (hw:aM ops n e gd=true:=by rfl):Nw R d As fn kd n e ds ops i aa k cs:=
 C.val ho hw (λB H d Q q=>by
  unfold execOp;simp only[hx,hy,Instr.indexAt,asIntOf];refine ah (ah (aA ?_));refine ah (dz hu B H d _ ?_);refine ah (ah (aA ?_))
  try refine aA ?_
  refine ah (dz hu B H d _ ?_);simp only;rw[aK hj];refine ah (gW B H d _ (aA ?_));rw[gK,hoff];exact q) h
theorem Ap(a b:List cr)(k n:Int):aV (a++b) k n=aV a k n++aV b k n:=by simp[aV]
theorem DV(n k:Int):∀ (ops:List cr) (m:List (Int×List cr)),aB (ops.foldl (λm o=>bA m (gU o.k n) ((aB m (gU o.k n)).getD []++[o])) m) k=
  if aV ops k n=[]then aB m k else some ((aB m k).getD []++aV ops k n)
 |[],m=>by simp[aV]
 |o::l,m=>by
  rw[kM,DV n k l,fx];by_cases h:gU o.k n=k
  ·subst h;have hp:aV (o::l) (gU o.k n) n=o::aV l (gU o.k n) n:=by simp[aV]
   rw[hp];by_cases h2:aV l (gU o.k n) n=[]
   ·simp[h2]
   ·simp[h2]
  ·have h':¬ k=gU o.k n:=λe=>h e.symm;have hp:aV (o::l) k n=aV l k n:=by simp[aV,h]
   rw[hp];simp[h']
theorem Aq(ops:List cr)(n k:Int):aB (dg ops n) k=if aV ops k n=[]then none else some (aV ops k n):=by unfold dg;rw[DV];simp[aB]
theorem Gv(ops:List cr)(n k:Int):(aB (dg ops n) k).getD []=aV ops k n:=by
 rw[Aq];split
 ·rename_i h;simp[h]
 ·rfl
theorem qn(n:Int):∀ (ops:List cr) (m:List (Int×List cr)),(m.map (·.1)).Nodup->((ops.foldl (λm o=>bA m (gU o.k n) ((aB m (gU o.k n)).getD []++[o])) m).map (·.1)).Nodup
 |[],m,h=>h
 |o::l,m,h=>qn n l _ (eU h)
theorem DW(ops:List cr)(n:Int):((dg ops n).map (·.1)).Nodup:=qn n ops [] (by simp)
theorem qX(ops:List cr)(n k:Int):k∈(dg ops n).map (·.1)↔bX ops k n=true:=by
 have h:=getM_none (k:=k) (l:=dg ops n);rw[Aq]at h;unfold bX;by_cases h2:aV ops k n=[]
 ·simp only[h2,eM,List.isEmpty_nil,zR,ij,iff_false]at h⊢;exact h.1 trivial
 ·simp only[h2,fB,reduceCtorEq,false_iff]at h;have:(aV ops k n).isEmpty=false:=by simpa using h2
  rw[this];simp only[Bg,iff_true];exact CZ.1 h
theorem Qn(s:dT)(ops:List cr)(f:dT->Int->List cr->dT):qg s ops f=(upto s.n).foldl (λz k=>if(aV ops k s.n).isEmpty then z else f z k (aV ops k s.n)) s:=by unfold qg;simp only[Gv]
theorem vc(log more:List RecR)(kind tx:Int):∀ i,i<=log.length->findD (log++more) kind tx i=findD log kind tx i
 |0,_=>rfl
 |i+1,h=>by unfold findD;rw[vc log more kind tx i az,LF az]
theorem eW(log:List RecR)(r:RecR)(kind tx:Int):bB (log++[r]) kind tx=if isRec kind tx r then some log.length else bB log kind tx:=by unfold bB;rw[jd,lP,findD];rw[vc log [r] kind tx _ (gZ _)];simp
theorem DX{log:List RecR}{kind tx:Int}:∀ {n i:Nat},findD log kind tx n=some i->i<n/\∃ r,log[i]? =some r/\r.kind=kind/\r.tx=tx
 |0,i,h=>by cases h
 |n+1,i,h=>by
  unfold findD at h;split at h
  ·rename_i hh;obtain rfl:=bS h;refine⟨az,?_⟩;cases e:log[n]? with
   |none=>rw[e]at hh;simp at hh
   |some r=>rw[e]at hh;exact⟨r,rfl,by simpa[isRec]using hh⟩
  ·obtain⟨h1,h2⟩:=DX h;exact⟨az,h2⟩
theorem dG{log:List RecR}{kind tx:Int}{i:Nat}(h:bB log kind tx=some i):i<log.length/\∃ r,log[i]? =some r/\r.kind=kind/\r.tx=tx:=DX h
theorem sC{log:List RecR}{kind tx:Int}:∀ {n:Nat},findD log kind tx n=none↔∀ i r,i<n->log[i]? =some r->¬ (r.kind=kind/\r.tx=tx)
 |0=>by simp[findD]
 |n+1=>by
  unfold findD;constructor
  ·intro h i r hi hr;split at h
   ·cases h
   ·rename_i hh;rcases mq.1 hi with h1|rfl
    ·exact sC.1 h i r h1 hr
    ·rw[hr]at hh;simpa[isRec]using hh
  ·intro h;split
   ·rename_i hh;cases e:log[n]? with
    |none=>rw[e]at hh;simp at hh
    |some r=>rw[e]at hh;exact absurd (by simpa[isRec]using hh) (h n r az e)
   ·exact sC.2 λi r hi=>h i r az
theorem xV{log:List RecR}{kind tx:Int}:bB log kind tx=none↔∀ r∈log,¬ (r.kind=kind/\r.tx=tx):=by
 unfold bB;rw[sC];constructor
 ·intro h r hr;obtain⟨i,hi⟩:=nV hr;exact h i r (jk.1 hi).1 hi
 ·intro h i r _ hr;exact h r (eY hr)
theorem DY(log:List RecR)(r:RecR)(tx:Int):bF (log++[r]) tx=if isRec 3 tx r then none else if isRec 1 tx r then(if(bB log 3 tx).isSome then none else some log.length)else bF log tx:=by
 unfold bF;rw[eW,eW];by_cases h3:isRec 3 tx r=true
 ·simp[h3]
 ·by_cases h1:isRec 1 tx r=true
  ·simp[h3,h1]
  ·simp[h3,h1]
theorem ez{log:List RecR}{tx:Int}{i:Nat}(h:bF log tx=some i):bB log 3 tx=none/\bB log 1 tx=some i:=by
 unfold bF at h;split at h
 ·cases h
 ·rename_i hh;exact⟨by simpa using hh,h⟩
structure KL(E:List aY)(P:dT)(L:List gn)(V:List Int):Prop where
 pend:∀ tx,aB P.pend tx=(bF (E.map aY.a8) tx).bind λi=>((E.map aY.a8)[i]?).map λr=>⟨i,r.home,r.ops⟩
 pn:(P.pend.map (·.1)).Nodup
 done:∀ tx,aB P.done tx=(bB (E.map aY.a8) 3 tx).bind λi=>((E.map aY.a8)[i]?).map λr=>⟨i,r.yes⟩
 cf:∀ tx,aB P.cf tx=(bB (E.map aY.a8) 2 tx).bind λi=>((E.map aY.a8)[i]?).map λr=>⟨i,r.yes⟩
 lock:∀ k,aB P.aH k=(L.find? λh=>h.key==k).map (·.tx)
 pl:(P.aH.map (·.1)).Nodup
 ln:(L.map (·.key)).Nodup
 lk:∀ h∈L,∃ i r,bF (E.map aY.a8) h.tx=some i/\(E.map aY.a8)[i]? =some r/\∃ o∈r.ops,o.k=h.key
 lo:∀ tx i r,bF (E.map aY.a8) tx=some i->(E.map aY.a8)[i]? =some r->∀ o∈r.ops,⟨o.k,tx⟩∈L
 bD:∀ k,97<=k->k<=122->(aB P.values k).getD 0=V[(k-97).toNat]?.getD 0
 zy:V.length=26
 vn:(P.values.map (·.1)).Nodup
 vk:∀ p∈P.values,97<=p.1/\p.1<=122
theorem KL.aS{E:List aY}{P P':dT}{L:List gn}{V:List Int}(H:KL E P L V)(e:(P'.pend,P'.done,P'.cf,P'.aH,P'.values)=(P.pend,P.done,P.cf,P.aH,P.values):=by rfl):KL E P' L V:=by simp only[CS]at e;obtain⟨e1,e2,e3,e4,e5⟩:=e;exact⟨by rw[e1];exact H.pend,by rw[e1];exact H.pn,by rw[e2];exact H.done,by rw[e3];exact H.cf,by rw[e4];exact H.lock,by rw[e4];exact H.pl,H.ln,H.lk,H.lo,by rw[e5];exact H.bD,H.zy,by rw[e5];exact H.vn,by rw[e5];exact H.vk⟩
theorem oj{L:List gn}(hn:(L.map (·.key)).Nodup){k tx:Int}:(L.find? λh=>h.key==k).map (·.tx)=some tx↔(⟨k,tx⟩:gn)∈L:=by
 induction L with
 |nil=>simp
 |cons h L ih=>
  rw[iJ,rh]at hn;rw[zS];by_cases e:h.key=k
  ·have hb:(h.key==k)=true:=by simpa using e
   rw[hb];simp only[k7,y0,ga];constructor
   ·rintro rfl;subst e;exact .inl rfl
   ·rintro(rfl|hm)
    ·rfl
    ·exact absurd (bH.2 ⟨_,hm,rfl⟩) (e▸hn.1)
  ·have hb:(h.key==k)=false:=by simpa using e
   rw[hb];simp only[ih hn.2,ga];constructor
   ·exact .inr
   ·rintro(rfl|hm)
    ·exact absurd rfl e
    ·exact hm
theorem qY{L:List gn}{k:Int}:(L.find? λh=>h.key==k).map (·.tx)=none↔∀ h∈L,h.key≠k:=by simp[HE]
theorem KL.start(P:dT):KL [] (i4 P) [] gX:=by have h0:∀ kind tx,bB ([]:List RecR) kind tx=none:=λ_ _=>rfl;have h1:∀ tx,bF ([]:List RecR) tx=none:=λ_=>rfl;refine⟨λtx=>by simp[h1,i4,aB],by simp[i4],λtx=>by simp[h0,i4,aB],λtx=>by simp[h0,i4,aB],λk=>by simp[i4,aB],by simp[i4],by simp,by simp,λtx i r h=>by simp[h1]at h,λk h1 h2=>?_,rfl,by simp[i4],by simp[i4]⟩;simp only[i4,aB,LQ,gX];rw[List.getElem?_replicate];split<;>rfl
variable{E:List aY}{P:dT}{L:List gn}{V:List Int}
theorem om(e:aY)(i:Nat):((E++[e]).map aY.a8)[i]? =if i=E.length then some e.a8 else(E.map aY.a8)[i]? :=by
 rw[eF,List.getElem?_append];simp only[cV,iJ,m1];split
 ·rename_i h;rw[ao az]
 ·rename_i h;split
  ·rename_i h2;subst h2;simp
  ·rename_i h2;rw[vB (by simp;omega),vB (by simp;omega)]
theorem uh(tx k:Int):∀ (ops:List cr) (l:List (Int×Int)),aB (ops.foldl (λl o=>bA l o.k tx) l) k=if ops.any (λo=>o.k==k)then some tx else aB l k
 |[],l=>by simp
 |o::ops,l=>by
  rw[kM,uh tx k ops,fx];by_cases h:o.k=k
  ·subst h;simp
  ·have h':¬ k=o.k:=λe=>h e.symm;simp[h,h']
theorem qo(tx:Int):∀ (ops:List cr) (l:List (Int×Int)),(l.map (·.1)).Nodup->((ops.foldl (λl o=>bA l o.k tx) l).map (·.1)).Nodup
 |[],l,h=>h
 |o::ops,l,h=>qo tx ops _ (eU h)
theorem ui(k:Int):∀ (ops:List cr) (l:List (Int×Int)),(l.map (·.1)).Nodup->aB (ops.foldl (λl o=>ee l o.k) l) k=if ops.any (λo=>o.k==k)then none else aB l k
 |[],l,_=>by simp
 |o::ops,l,h=>by
  rw[kM,ui k ops _ (mB h),u5 h];by_cases h:o.k=k
  ·subst h;simp
  ·have h':¬ k=o.k:=λe=>h e.symm;simp[h,h']
theorem qp:∀ (ops:List cr) (l:List (Int×Int)),(l.map (·.1)).Nodup->((ops.foldl (λl o=>ee l o.k) l).map (·.1)).Nodup
 |[],l,h=>h
 |o::ops,l,h=>qp ops _ (mB h)
theorem DZ(L:List gn)(M:List gn)(k:Int):((L++M).find? λh=>h.key==k).map (·.tx)=((L.find? λh=>h.key==k).map (·.tx)).or ((M.find? λh=>h.key==k).map (·.tx)):=by rw[LR];cases L.find? λh=>h.key==k<;>simp
theorem vJ(tx k:Int):∀ ops:List cr,((ops.map λo=>(⟨o.k,tx⟩:gn)).find? λh=>h.key==k).map (·.tx)=if ops.any (λo=>o.k==k)then some tx else none
 |[]=>rfl
 |o::ops=>by
  have:=vJ tx k ops;rw[iJ,zS];by_cases h:o.k=k
  ·subst h;simp
  ·have hb:(o.k==k)=false:=by simpa using h
   simp only[hb,List.any_cons,Bool.false_or];exact this
theorem KL.eZ(H:KL E P L V){tx home:Int}{ops:List cr}(h1:bB (E.map aY.a8) 1 tx=none)(h3:bB (E.map aY.a8) 3 tx=none)(hf:∀ o∈ops,aB P.aH o.k=none)(hn:(ops.map (·.k)).Nodup):
  KL (E++[.eZ tx home ops]) (rO P tx home ops E.length) (i3 L tx ops) V:=by
 have hr:bF (E.map aY.a8) tx=none:=by unfold bF;rw[h3];simpa using h1
 have rq:(E++[aY.eZ tx home ops]).map aY.a8=E.map aY.a8++[(aY.eZ tx home ops).a8]:=by simp
 have km:∀ t,bF ((E++[aY.eZ tx home ops]).map aY.a8) t=if t=tx then some E.length else bF (E.map aY.a8) t:=λt=>by
  rw[rq,DY];by_cases e:t=tx
  ·subst e;simp[isRec,aY.a8,eh,h3]
  ·have:¬ tx=t:=λz=>e z.symm;simp[isRec,aY.a8,eh,e,this]
 have dA:∀ t i,bF (E.map aY.a8) t=some i->i<E.length:=λt i h=>by have:=(dG (ez h).2).1;simpa using this
 have nl:∀ kind t,kind≠1->bB ((E++[aY.eZ tx home ops]).map aY.a8) kind t=bB (E.map aY.a8) kind t:=λkind t hk=>by
  rw[rq,eW];have:isRec kind t (aY.eZ tx home ops).a8=false:=by simp[isRec,aY.a8,eh];intro z;exact absurd z.symm hk
  simp[this]
 have il:∀ kind t,(bB (E.map aY.a8) kind t).bind (λi=>(((E++[aY.eZ tx home ops]).map aY.a8)[i]?).map λr=>(⟨i,r.yes⟩:iF))=(bB (E.map aY.a8) kind t).bind (λi=>((E.map aY.a8)[i]?).map λr=>⟨i,r.yes⟩):=λkind t=>by
  cases h:bB (E.map aY.a8) kind t with
  |none=>rfl
  |some i=>
   have:=(dG h).1;simp only[cV]at this;simp only[nE,om,ao (tw this)]
 refine⟨λt=>?_,eU H.pn,λt=>?_,λt=>?_,λk=>?_,qo _ _ _ H.pl,?_,λh hh=>?_,λt i r wC hi o ho=>?_,H.bD,H.zy,H.vn,H.vk⟩
 ·show aB (bA P.pend tx _) t=_;rw[fx,km];by_cases e:t=tx
  ·rw[aK e,aK e];simp only[nE,om,eM,k7];rfl
  ·rw[ao e,ao e,H.pend];cases h:bF (E.map aY.a8) t with
   |none=>rfl
   |some i=>simp only[nE,om,ao (tw (dA t i h))]
 ·show aB P.done t=_;rw[nl 3 t (by decide),il,H.done]
 ·show aB P.cf t=_;rw[nl 2 t (by decide),il,H.cf]
 ·show aB (ops.foldl _ P.aH) k=_;rw[uh];unfold i3;rw[DZ,vJ,<- H.lock];by_cases ha:ops.any (λo=>o.k==k)=true
  ·obtain⟨o,ho,hk⟩:=m6.1 ha;have PO:o.k=k:=by simpa using hk
   have:=hf o ho;rw[PO]at this;simp[ha,this]
  ·simp[ha]
 ·unfold i3;rw[eF];refine im.2 ⟨H.ln,by simpa[vC]using hn,λa ha b hb e=>?_⟩;subst e;obtain⟨h,hh,rfl⟩:=bH.1 ha;simp only[tC,bH,Function.comp_apply]at hb;obtain⟨o,ho,kV⟩:=hb;have h2:=hf o ho;rw[H.lock,qY]at h2;exact h2 h hh kV.symm
 ·unfold i3 at hh;rcases bU.1 hh with hh|hh
  ·obtain⟨i,r,h1,h2,h3⟩:=H.lk h hh;have eI:h.tx≠tx:=λe=>by rw[e,hr]at h1;cases h1
   exact⟨i,r,by rw[km,ao eI];exact h1,by rw[om,ao (tw (dA _ _ h1))];exact h2,h3⟩
  ·obtain⟨o,ho,rfl⟩:=bH.1 hh;exact⟨E.length,_,by rw[km,aK rfl],by rw[om,aK rfl],o,ho,rfl⟩
 ·unfold i3;rw[km]at wC;by_cases e:t=tx
  ·rw[aK e]at wC;obtain rfl:=bS wC;rw[om,aK rfl]at hi;obtain rfl:=bS hi;subst e;exact jw _ (bH.2 ⟨o,ho,rfl⟩)
  ·rw[ao e]at wC;rw[om,ao (tw (dA _ _ wC))]at hi;exact j0 _ (H.lo t i r wC hi o ho)
theorem KL.dec(H:KL E P L V){tx:Int}{yes:Bool}{reads:List Int}:KL (E++[.dec tx yes reads]) {P with cf:=bA P.cf tx ⟨E.length,yes⟩} L V:=by
 have rq:(E++[aY.dec tx yes reads]).map aY.a8=E.map aY.a8++[(aY.dec tx yes reads).a8]:=by simp
 have nl:∀ kind t,bB ((E++[aY.dec tx yes reads]).map aY.a8) kind t=if kind=2/\t=tx then some E.length else bB (E.map aY.a8) kind t:=λkind t=>by
  rw[rq,eW];by_cases e:kind=2/\t=tx
  ·obtain⟨rfl,rfl⟩:=e;simp[isRec,aY.a8,eh]
  ·have:isRec kind t (aY.dec tx yes reads).a8=false:=by simp[isRec,aY.a8,eh];intro z y;exact e ⟨z.symm,y.symm⟩
   simp[this,e]
 have km:∀ t,bF ((E++[aY.dec tx yes reads]).map aY.a8) t=bF (E.map aY.a8) t:=λt=>by unfold bF;rw[nl,nl];simp
 have dA:∀ t i,bF (E.map aY.a8) t=some i->i<E.length:=λt i h=>by have:=(dG (ez h).2).1;simpa using this
 have il:∀ kind t,(bB (E.map aY.a8) kind t).bind (λi=>(((E++[aY.dec tx yes reads]).map aY.a8)[i]?).map λr=>(⟨i,r.yes⟩:iF))=(bB (E.map aY.a8) kind t).bind (λi=>((E.map aY.a8)[i]?).map λr=>⟨i,r.yes⟩):=λkind t=>by
  cases h:bB (E.map aY.a8) kind t with
  |none=>rfl
  |some i=>
   have:=(dG h).1;simp only[cV]at this;simp only[nE,om,ao (tw this)]
 refine⟨λt=>?_,H.pn,λt=>?_,λt=>?_,H.lock,H.pl,H.ln,λh hh=>?_,λt i r wC hi o ho=>?_,H.bD,H.zy,H.vn,H.vk⟩
 ·show aB P.pend t=_;rw[km,H.pend];cases h:bF (E.map aY.a8) t with
  |none=>rfl
  |some i=>simp only[nE,om,ao (tw (dA t i h))]
 ·show aB P.done t=_;rw[nl,ao (by simp),il,H.done]
 ·show aB (bA P.cf tx _) t=_;rw[fx,nl];by_cases e:t=tx
  ·rw[aK e,aK ⟨rfl,e⟩];simp only[nE,om,eM,k7];rfl
  ·rw[ao e,ao (λz=>e z.2),il,H.cf]
 ·obtain⟨i,r,h1,h2,h3⟩:=H.lk h hh;exact⟨i,r,by rw[km];exact h1,by rw[om,ao (tw (dA _ _ h1))];exact h2,h3⟩
 ·rw[km]at wC;rw[om,ao (tw (dA _ _ wC))]at hi;exact H.lo t i r wC hi o ho
theorem kY(yes:Bool):∀ (ops:List cr) (l:List (Int×Int)) (v:List Int),v.length=26->(∀ o∈ops,97<=o.k/\o.k<=122)->(∀ k,97<=k->k<=122->(aB l k).getD 0=v[(k-97).toNat]?.getD 0)->
  ∀ k,97<=k->k<=122->(aB (ops.foldl (λv o=>if yes&&o.w then bA v o.k o.v else v) l) k).getD 0=(if yes then eC v ops else v)[(k-97).toNat]?.getD 0
 |[],l,v,hv,ho,h,k,h1,h2=>by cases yes<;>exact h k h1 h2
 |o::ops,l,v,hv,ho,h,k,h1,h2=>by
  have kV:=ho o (iz ..);cases hy:yes with
  |false=>
   have:=kY false ops l v hv (λo h=>ho o (gb _ h)) h k h1 h2;simpa using this
  |true=>
   cases hw:o.w with
   |false=>
    have:=kY true ops l v hv (λo h=>ho o (gb _ h)) h k h1 h2;simpa[eC,hw]using this
   |true=>
    have:=kY true ops (bA l o.k o.v) (v.set (o.k-97).toNat o.v) (by simpa using hv) (λo h=>ho o (gb _ h)) (λk h1 h2=>by
     rw[fx,w6];by_cases e:k=o.k
     ·subst e;rename_i h1 h2;have dA:(o.k-97).toNat<v.length:=az;rw[aK rfl,aK rfl,aK dA]
     ·have:¬ (o.k-97).toNat=(k-97).toNat:=az;rw[ao e,ao this];exact h k h1 h2) k h1 h2
    simpa[eC,hw]using this
theorem sD:∀ (ops:List cr) (v:List Int),(eC v ops).length=v.length
 |[],v=>rfl
 |o::ops,v=>by have:=sD ops (if o.w then v.set (o.k-97).toNat o.v else v);simp only[eC,kM]at this⊢;rw[this];split<;>simp
theorem pr(yes:Bool):∀ (ops:List cr) (l:List (Int×Int)),(l.map (·.1)).Nodup->((ops.foldl (λv o=>if yes&&o.w then bA v o.k o.v else v) l).map (·.1)).Nodup
 |[],l,h=>h
 |o::ops,l,h=>pr yes ops _ (by
   show((if(yes&&o.w)=true then bA l o.k o.v else l).map (·.1)).Nodup;split
   ·exact eU h
   ·exact h)
theorem rQ(yes:Bool):∀ (ops:List cr) (l:List (Int×Int)),(∀ o∈ops,97<=o.k/\o.k<=122)->(∀ p∈l,97<=p.1/\p.1<=122)->∀ p∈(ops.foldl (λv o=>if yes&&o.w then bA v o.k o.v else v) l),97<=p.1/\p.1<=122
 |[],l,_,h=>h
 |o::ops,l,ho,h=>rQ yes ops _ (λo h=>ho o (gb _ h)) (λp hp=>by
   have hp:p∈(if(yes&&o.w)=true then bA l o.k o.v else l):=hp;split at hp
   ·rcases dY hp with rfl|hp
    ·exact ho o (iz ..)
    ·exact h p hp
   ·exact h p hp)
theorem KL.kD(H:KL E P L V){tx:Int}{yes:Bool}(h3:bB (E.map aY.a8) 3 tx=none)(hk:∀ i r,bF (E.map aY.a8) tx=some i->(E.map aY.a8)[i]? =some r->∀ o∈r.ops,97<=o.k/\o.k<=122){V':List Int}
  (hV:V'=match bF (E.map aY.a8) tx with|some i=>if yes then eC V (((E.map aY.a8)[i]?).getD eh).ops else V|none=>V):
  KL (E++[.kD tx yes]) (oN P tx yes E.length) (iL L tx) V':=by
 have rq:(E++[aY.kD tx yes]).map aY.a8=E.map aY.a8++[(aY.kD tx yes).a8]:=by simp
 have nl:∀ kind t,bB ((E++[aY.kD tx yes]).map aY.a8) kind t=if kind=3/\t=tx then some E.length else bB (E.map aY.a8) kind t:=λkind t=>by
  rw[rq,eW];by_cases e:kind=3/\t=tx
  ·obtain⟨rfl,rfl⟩:=e;simp[isRec,aY.a8,eh]
  ·have:isRec kind t (aY.kD tx yes).a8=false:=by simp[isRec,aY.a8,eh];intro z y;exact e ⟨z.symm,y.symm⟩
   simp[this,e]
 have km:∀ t,bF ((E++[aY.kD tx yes]).map aY.a8) t=if t=tx then none else bF (E.map aY.a8) t:=λt=>by
  unfold bF;rw[nl,nl];by_cases e:t=tx
  ·simp[e]
  ·simp[e]
 have dA:∀ t i,bF (E.map aY.a8) t=some i->i<E.length:=λt i h=>by have:=(dG (ez h).2).1;simpa using this
 have il:∀ kind t,(bB (E.map aY.a8) kind t).bind (λi=>(((E++[aY.kD tx yes]).map aY.a8)[i]?).map λr=>(⟨i,r.yes⟩:iF))=(bB (E.map aY.a8) kind t).bind (λi=>((E.map aY.a8)[i]?).map λr=>⟨i,r.yes⟩):=λkind t=>by
  cases h:bB (E.map aY.a8) kind t with
  |none=>rfl
  |some i=>
   have:=(dG h).1;simp only[cV]at this;simp only[nE,om,ao (tw this)]
 have cJ:∃ ops,((aB P.pend tx).map (·.ops)).getD []=ops/\((bF (E.map aY.a8) tx=none/\ops=[])\/∃ i r,bF (E.map aY.a8) tx=some i/\(E.map aY.a8)[i]? =some r/\ops=r.ops):=by
  refine⟨_,rfl,?_⟩;rw[H.pend];cases h:bF (E.map aY.a8) tx with
  |none=>exact .inl ⟨rfl,rfl⟩
  |some i=>
   obtain⟨_,r,hr,_⟩:=dG (ez h).2;exact .inr ⟨i,r,rfl,hr,by simp only[nE,hr,k7,jU]⟩
 obtain⟨ops,cq,nZ⟩:=cJ;have kV:∀ o∈ops,97<=o.k/\o.k<=122:=λo ho=>by
  rcases nZ with⟨_,rfl⟩|⟨i,r,h1,h2,rfl⟩
  ·cases ho
  ·exact hk i r h1 h2 o ho
 have hVe:V'=if yes then eC V ops else V:=by
  rw[hV];rcases nZ with⟨h1,rfl⟩|⟨i,r,h1,h2,rfl⟩
  ·rw[h1];cases yes<;>simp[eC]
  ·rw[h1];simp[h2]
 have SI:∀ k,ops.any (λo=>o.k==k)=true↔(⟨k,tx⟩:gn)∈L:=λk=>by
  rcases nZ with⟨h1,rfl⟩|⟨i,r,h1,h2,rfl⟩
  ·constructor
   ·intro h;simp at h
   ·intro h;obtain⟨i,r,h2,_⟩:=H.lk _ h;simp only at h2;rw[h1]at h2;cases h2
  ·constructor
   ·intro h;obtain⟨o,ho,e⟩:=m6.1 h;have e':o.k=k:=by simpa using e
    exact e'▸H.lo tx i r h1 h2 o ho
   ·intro h;obtain⟨i',r',h3,h4,o,ho,e⟩:=H.lk _ h;simp only at h3 e;rw[h1]at h3;obtain rfl:=bS h3;rw[h2]at h4;obtain rfl:=bS h4;exact m6.2 ⟨o,ho,by simpa using e⟩
 have SJ:((iL L tx).map (·.key)).Nodup:=H.ln.sublist ((HF ..).map _);refine⟨λt=>?_,mB H.pn,λt=>?_,λt=>?_,λk=>?_,qp _ _ H.pl,SJ,λh hh=>?_,λt i r wC hi o ho=>?_,λk h1 h2=>?_,?_,pr _ _ _ H.vn,?_⟩
 ·show aB (ee P.pend tx) t=_;rw[u5 H.pn,km];by_cases e:t=tx
  ·simp[e]
  ·rw[ao e,ao e,H.pend];cases h:bF (E.map aY.a8) t with
   |none=>rfl
   |some i=>simp only[nE,om,ao (tw (dA t i h))]
 ·show aB (bA P.done tx _) t=_;rw[fx,nl];by_cases e:t=tx
  ·rw[aK e,aK ⟨rfl,e⟩];simp only[nE,om,eM,k7];rfl
  ·rw[ao e,ao (λz=>e z.2),il,H.done]
 ·show aB P.cf t=_;rw[nl,ao (by simp),il,H.cf]
 ·show aB (List.foldl (λl o=>ee l o.k) P.aH (((aB P.pend tx).map (·.ops)).getD [])) k=_;rw[cq,ui _ _ _ H.pl];by_cases ha:ops.any (λo=>o.k==k)=true
  ·rw[aK ha];have hm:=(SI k).1 ha
   symm
   rw[qY];intro h hh e;obtain⟨h1,h2⟩:=gP.1 hh;have e1:=(oj H.ln).2 hm;have e2:=(oj H.ln (k:=k) (tx:=h.tx)).2 (by rw[<- e];exact h1);rw[e1]at e2;have:=bS e2;simp[this]at h2
  ·rw[ao ha,H.lock];cases hL:(L.find? λh=>h.key==k).map (·.tx)with
   |none=>
    symm;rw[qY]
    intro h hh;exact qY.1 hL h (gP.1 hh).1
   |some t=>
    symm
    rw[oj SJ];have hm:=(oj H.ln).1 hL;refine gP.2 ⟨hm,?_⟩;have:t≠tx:=λe=>ha ((SI k).2 (e▸hm));simpa using this
 ·obtain⟨h1,h2⟩:=gP.1 hh;have eI:h.tx≠tx:=by simpa using h2
  obtain⟨i,r,h3,h4,h5⟩:=H.lk h h1;exact⟨i,r,by rw[km,ao eI];exact h3,by rw[om,ao (tw (dA _ _ h3))];exact h4,h5⟩
 ·rw[km]at wC;by_cases e:t=tx
  ·rw[aK e]at wC;cases wC
  ·rw[ao e]at wC;rw[om,ao (tw (dA _ _ wC))]at hi;exact gP.2 ⟨H.lo t i r wC hi o ho,by simpa using e⟩
 ·show(aB (List.foldl _ P.values (((aB P.pend tx).map (·.ops)).getD [])) k).getD 0=_;rw[cq,hVe];exact kY yes ops P.values V H.zy kV H.bD k h1 h2
 ·rw[hVe];split
  ·rw[sD,H.zy]
  ·exact H.zy
 ·show∀ p∈List.foldl _ P.values (((aB P.pend tx).map (·.ops)).getD []),_;rw[cq];exact rQ yes ops P.values kV H.vk
end
section
def opsOf(T:List (List cr))(tx:Int):Option (List cr):=if tx<0 then none else T[tx.toNat]?
def Ir(l:List cr):Nat:=(l.filter λo=> !o.w).length
def i5(T:List (List cr))(n:Int)(m:MsgR):Prop:=∃ ops,opsOf T m.tx=some ops/\
 ((m.kind=1/\m.aU= -1/\m.to=fW ops n/\m.ops=ops)\/
 (m.kind=2/\m.aU=fW ops n/\bX ops m.to n=true/\m.ops=aV ops m.to n)\/
 (m.kind=3/\m.to=fW ops n/\bX ops m.aU n=true/\(m.yes=true->m.reads.length=Ir (aV ops m.aU n))/\m.ops=[])\/
 (m.kind=4/\m.aU=fW ops n/\bX ops m.to n=true/\m.ops=[])\/
 (m.kind=5/\m.to=fW ops n/\bX ops m.aU n=true/\m.ops=[])\/
 (m.kind=6/\m.to=fW ops n/\bX ops m.aU n=true/\m.ops=[])\/
 (m.kind=7/\m.to= -1/\m.ops=[]))
inductive gC(T:List (List cr))(n me:Int):List aY->Prop
 |nil:gC T n me []
 |eZ {E:List aY} {tx:Int} {ops:List cr}:gC T n me E->opsOf T tx=some ops->bX ops me n=true->bB (E.map aY.a8) 1 tx=none->bB (E.map aY.a8) 3 tx=none->
   (∀ t i r,bF (E.map aY.a8) t=some i->(E.map aY.a8)[i]? =some r->∀ o∈r.ops,∀ o'∈aV ops me n,o.k≠o'.k)->gC T n me (E++[.eZ tx (fW ops n) (aV ops me n)])
 |dec {E:List aY} {tx:Int} {yes:Bool} {reads:List Int}:gC T n me E->(opsOf T tx).isSome=true->gC T n me (E++[.dec tx yes reads])
 |kD {E:List aY} {tx:Int} {yes:Bool}:gC T n me E->(opsOf T tx).isSome=true->bB (E.map aY.a8) 3 tx=none->gC T n me (E++[.kD tx yes])
def y8(T:List (List cr)):Prop:=(∀ ops∈T,eV ops)/\T.length<=60
theorem l9{T:List (List cr)}{tx:Int}{ops:List cr}(more:List (List cr))(h:opsOf T tx=some ops):opsOf (T++more) tx=some ops:=by
 unfold opsOf at h⊢;split at h
 ·cases h
 ·rename_i hh;rw[ao hh,LF (jk.1 h).1];exact h
theorem oq{T:List (List cr)}{tx:Int}{ops:List cr}(h:opsOf T tx=some ops):0<=tx/\tx.toNat<T.length/\ops∈T:=by
 unfold opsOf at h;split at h
 ·cases h
 ·exact⟨az,(jk.1 h).1,eY h⟩
theorem i5.app{T:List (List cr)}{n:Int}{m:MsgR}(more:List (List cr))(h:i5 T n m):i5 (T++more) n m:=by obtain⟨ops,h1,h2⟩:=h;exact⟨ops,l9 more h1,h2⟩
theorem gC.app{T:List (List cr)}{n me:Int}{E:List aY}(more:List (List cr))(h:gC T n me E):gC (T++more) n me E:=by
 induction h with
 |nil=>exact .nil
 |eZ _ h1 h2 h3 h4 h5 ih=>exact .eZ ih (l9 more h1) h2 h3 h4 h5
 |dec _ h1 ih=>
  obtain⟨o,ho⟩:=tv.1 h1;exact .dec ih (by rw[l9 more ho];rfl)
 |kD _ h1 h2 ih=>
  obtain⟨o,ho⟩:=tv.1 h1;exact .kD ih (by rw[l9 more ho];rfl) h2
theorem gC.init{T:List (List cr)}{n me:Int}{E:List aY}(h:gC T n me E):∀ k,gC T n me (E.take k):=by
 induction h with
 |nil=>intro k;simpa using gC.nil
 |@eZ E tx ops h1 h2 h3 h4 h5 h6 ih=>
  intro k;rcases Bc E.length k with h|h
  ·rw[iq (by simp;omega)];exact .eZ h1 h2 h3 h4 h5 h6
  ·rw[LS h];exact ih k
 |@dec E tx yes reads h1 h2 ih=>
  intro k;rcases Bc E.length k with h|h
  ·rw[iq (by simp;omega)];exact .dec h1 h2
  ·rw[LS h];exact ih k
 |@kD E tx yes h1 h2 h3 ih=>
  intro k;rcases Bc E.length k with h|h
  ·rw[iq (by simp;omega)];exact .kD h1 h2 h3
  ·rw[LS h];exact ih k
theorem gC.SK{T:List (List cr)}{n me:Int}{E:List aY}(h:gC T n me E):∀ (i:Nat) (r:RecR),(E.map aY.a8)[i]? =some r->(∃ ops,opsOf T r.tx=some ops/\(r.kind=1->bX ops me n=true/\r.ops=aV ops me n/\r.home=fW ops n)):=by
 induction h with
 |nil=>intro i r hr;simp at hr
 |@eZ E tx ops h1 h2 h3 h4 h5 h6 ih=>
  intro i r hr;rw[om]at hr;split at hr
  ·obtain rfl:=bS hr;exact⟨ops,h2,λ_=>⟨h3,rfl,rfl⟩⟩
  ·exact ih i r hr
 |@dec E tx yes reads h1 h2 ih=>
  intro i r hr;rw[om]at hr;split at hr
  ·obtain rfl:=bS hr;obtain⟨o,ho⟩:=tv.1 h2;exact⟨o,ho,λh=>by simp[aY.a8]at h⟩
  ·exact ih i r hr
 |@kD E tx yes h1 h2 h3 ih=>
  intro i r hr;rw[om]at hr;split at hr
  ·obtain rfl:=bS hr;obtain⟨o,ho⟩:=tv.1 h2;exact⟨o,ho,λh=>by simp[aY.a8]at h⟩
  ·exact ih i r hr
theorem gC.ready{T:List (List cr)}{n me:Int}{E:List aY}(h:gC T n me E){tx:Int}{i:Nat}{r:RecR}(hr:bF (E.map aY.a8) tx=some i)(hi:(E.map aY.a8)[i]? =some r):
  ∃ ops,opsOf T tx=some ops/\bX ops me n=true/\r.ops=aV ops me n/\r.home=fW ops n/\r.tx=tx/\r.kind=1:=by
 obtain⟨_,r',h1,h2,h3⟩:=dG (ez hr).2;rw[hi]at h1;obtain rfl:=bS h1;obtain⟨ops,h4,h5⟩:=h.SK i r hi;rw[h3]at h4;exact⟨ops,h4,(h5 h2).1,(h5 h2).2.1,(h5 h2).2.2,h3,h2⟩
theorem uj{ops:List cr}{k n:Int}:(aV ops k n).Sublist ops:=HF
theorem eV.key{ops:List cr}(h:eV ops){k n:Int}:∀ o∈aV ops k n,97<=o.k/\o.k<=122:=λo ho=>by have:=h.1 o (uj.mem ho);exact⟨this.1,this.2.1⟩
theorem eV.nod{ops:List cr}(h:eV ops){k n:Int}:((aV ops k n).map (·.k)).Nodup:=h.2.1.sublist (uj.map _)
theorem y8.of{T:List (List cr)}(h:y8 T){tx:Int}{ops:List cr}(ho:opsOf T tx=some ops):eV ops:=h.1 ops (oq ho).2.2
structure UA(n:Int)(a:ll)(b:gM):Prop where
 ops:a.ops=b.ops
 dec:a.dec=b.dec
 yes:a.yes=b.yes
 aR:∀ k,aB a.aR k=(bK b k).map (·.reads)
 vn:(a.aR.map (·.1)).Nodup
 an:(a.bG.map (·.1)).Nodup
 bG:∀ k,(aB a.bG k).isSome=b.bG.contains k
 ap:∀ p∈a.bG,0<p.2
 vt:∀ p∈a.aR,bX b.ops p.1 n=true/\p.2.length=Ir (aV b.ops p.1 n)
 XO:∀ p∈a.bG,bX b.ops p.1 n=true
structure ko(T:List (List cr))(n me:Int)(p:Int×ll)(u:gM):Prop where
 tx:p.1=u.tx
 ua:UA n p.2 u
 ops:opsOf T u.tx=some u.ops
 home:fW u.ops n=me
inductive F2{A B:Type}(r:A->B->Prop):List A->List B->Prop
 |nil:F2 r [] []
 |cons {a:A} {b:B} {l:List A} {m:List B}:r a b->F2 r l m->F2 r (a::l) (b::m)
structure dL(T:List (List cr))(n:Int)(P:dT)(R:ShR):Prop where
 me:P.me=R.me
 mb:0<=R.me/\R.me<n
 n1:P.n=n
 n2:R.n=n
 up:P.up=R.up
 log:P.log.map aY.a8=R.log
 BG:gC T n R.me P.log
 aX:P.aX=R.aX
 gl:0<=R.aX/\R.aX<=R.log.length
 timers:P.timers=R.timers
 clock:P.clock=R.clock
 waits:P.waits=R.waits
 out:P.out=R.out
 wo:∀ m∈R.waits,i5 T n m
 oo:∀ m∈R.out,i5 T n m
 tt:∀ t∈R.timers,(opsOf T t.tx).isSome=true
 kl:R.up=true->KL P.log P R.aH R.bD
 un:R.up=true->(P.cg.map (·.1)).Nodup
 cg:R.up=true->F2 (ko T n R.me) P.cg R.under
 ud:R.up=true->∀ u∈R.under,u.dec=true->(bB R.log 2 u.tx).isSome=true
 dn:R.up=false->P.values=[]/\P.aH=[]/\R.bD=gX/\R.aH=[]/\R.waits=[]/\R.under=[]
theorem F2.mono{A B:Type}{r r':A->B->Prop}(f:∀ a b,r a b->r' a b){l:List A}{m:List B}(h:F2 r l m):F2 r' l m:=by
 induction h with
 |nil=>exact .nil
 |cons h _ ih=>exact .cons (f _ _ h) ih
section
variable{T:List (List cr)}{n me:Int}
theorem ov{l:List (Int×ll)}{m:List gM}(h:F2 (ko T n me) l m)(tx:Int):
  (aB l tx=none/\cH m tx=none)\/∃ i a u,aB l tx=some a/\cH m tx=some i/\m[i]? =some u/\u.tx=tx/\ko T n me (tx,a) u:=by
 induction h with
 |nil=>exact .inl ⟨rfl,rfl⟩
 |@cons p u l m hp h ih=>
  have hc:cH (u::m) tx=if u.tx==tx then some 0 else(cH m tx).map (· +1):=by unfold cH;rw[zT]
  by_cases e:u.tx=tx
  ·refine .inr ⟨0,p.2,u,?_,by rw[hc];simp[e],rfl,e,?_⟩
   ·unfold aB;rw[aK (hp.tx.trans e)]
   ·rw[<- e,<- hp.tx];exact hp
  ·have e2:¬ p.1=tx:=λz=>e (hp.tx.symm.trans z);have hb:(u.tx==tx)=false:=by simpa using e
   rcases ih with⟨h1,h2⟩|⟨i,a,v,h1,h2,h3,h4,h5⟩
   ·exact .inl ⟨by unfold aB;rw[ao e2];exact h1,by rw[hc,hb,h2];rfl⟩
   ·exact .inr ⟨i+1,a,v,by unfold aB;rw[ao e2];exact h1,by rw[hc,hb,h2];rfl,by simpa using h3,h4,h5⟩
theorem BH{l:List (Int×ll)}{m:List gM}(h:F2 (ko T n me) l m){tx:Int}{i:Nat}{a:ll}{v:gM}(hi:cH m tx=some i)(hv:ko T n me (tx,a) v):F2 (ko T n me) (bA l tx a) (m.set i v):=by
 induction h generalizing i with
 |nil=>cases hi
 |@cons p u l m hp h ih=>
  have hc:cH (u::m) tx=if u.tx==tx then some 0 else(cH m tx).map (· +1):=by unfold cH;rw[zT]
  rw[hc]at hi;by_cases e:u.tx=tx
  ·have hb:(u.tx==tx)=true:=by simpa using e
   rw[hb]at hi;obtain rfl:=bS hi;unfold bA;rw[aK (hp.tx.trans e),uT];exact .cons hv h
  ·have hb:(u.tx==tx)=false:=by simpa using e
   rw[hb]at hi;obtain⟨j,hj,rfl⟩:=Lf.1 hi;unfold bA;rw[ao λz=>e (hp.tx.symm.trans z),vX];exact .cons hp (ih hj)
theorem Qo{l:List (Int×ll)}{m:List gM}(h:F2 (ko T n me) l m){tx:Int}{a:ll}{v:gM}(hi:cH m tx=none)(hv:ko T n me (tx,a) v):F2 (ko T n me) (bA l tx a) (m++[v]):=by
 induction h with
 |nil=>exact .cons hv .nil
 |@cons p u l m hp h ih=>
  have hc:cH (u::m) tx=if u.tx==tx then some 0 else(cH m tx).map (· +1):=by unfold cH;rw[zT]
  rw[hc]at hi;by_cases e:u.tx=tx
  ·have hb:(u.tx==tx)=true:=by simpa using e
   rw[hb]at hi;cases hi
  ·have hb:(u.tx==tx)=false:=by simpa using e
   rw[hb]at hi;unfold bA;rw[ao λz=>e (hp.tx.symm.trans z)];exact .cons hp (ih (by simpa using hi))
theorem Qp{l:List (Int×ll)}{m:List gM}(h:F2 (ko T n me) l m){tx:Int}{i:Nat}(hi:cH m tx=some i):F2 (ko T n me) (ee l tx) (m.eraseIdx i):=by
 induction h generalizing i with
 |nil=>cases hi
 |@cons p u l m hp h ih=>
  have hc:cH (u::m) tx=if u.tx==tx then some 0 else(cH m tx).map (· +1):=by unfold cH;rw[zT]
  rw[hc]at hi;by_cases e:u.tx=tx
  ·have hb:(u.tx==tx)=true:=by simpa using e
   rw[hb]at hi;obtain rfl:=bS hi;unfold ee;rw[aK (hp.tx.trans e)];exact h
  ·have hb:(u.tx==tx)=false:=by simpa using e
   rw[hb]at hi;obtain⟨j,hj,rfl⟩:=Lf.1 hi;unfold ee;rw[ao λz=>e (hp.tx.symm.trans z),LI];exact .cons hp (ih hj)
theorem Is{V:Type}(k:Int)(v:V):∀ l:List (Int×V),(aB l k).isSome=true->ee (bA l k v) k=ee l k
 |[],h=>by cases h
 |p::l,h=>by
  unfold aB at h;unfold bA;by_cases e:p.1=k
  ·rw[aK e]
   conv=>lhs;unfold ee
   conv=>rhs;unfold ee
   simp[e]
  ·rw[ao e]at h⊢
   conv=>lhs;unfold ee
   conv=>rhs;unfold ee
   rw[ao e,ao e,Is k v l h]
end
theorem vK{ops:List cr}{n:Int}(h:ops≠[]):bX ops (fW ops n) n=true:=by
 cases ops with
 |nil=>exact absurd rfl h
 |cons o l=>simp[bX,aV,fW]
theorem BI{k n:Int}(hk:97<=k)(hn:0<n):0<=gU k n/\gU k n<n:=by unfold gU;exact⟨Int.tmod_nonneg _ az,Int.tmod_lt_of_pos _ hn⟩
theorem lr{ops:List cr}{k n:Int}(hr:eV ops)(hn:0<n)(h:bX ops k n=true):0<=k/\k<n:=by
 unfold bX at h;have eI:aV ops k n≠[]:=λe=>by rw[e]at h;simp at h
 obtain⟨o,ho⟩:=RX _ eI;have h1:o∈ops:=uj.mem ho;have h2:gU o.k n=k:=by simpa[aV,h1]using ho
 rw[<- h2];exact BI (hr.1 o h1).1 hn
theorem kp{n k:Int}:k∈upto n↔0<=k/\k<n:=by
 unfold upto;rw[bH];constructor
 ·rintro⟨a,ha,rfl⟩;have:=m7.1 ha;have h2:Int.ofNat a=(a:Int):=rfl;omega
 ·rintro⟨h1,h2⟩;exact⟨k.toNat,m7.2 az,by show((k.toNat:Nat):Int)=k;omega⟩
theorem vd{n:Int}{ops:List cr}{p:Int->Bool}(hr:eV ops)(hn:0<n):mG n ops p=true↔∀ k,bX ops k n=true->p k=true:=by
 unfold mG;rw[k9];constructor
 ·intro h k hk;have:=h k (kp.2 (lr hr hn hk));simpa[hk]using this
 ·intro h k _;cases hk:bX ops k n with
  |false=>simp
  |true=>simp[h k hk]
theorem kZ{a b:List Int}(ha:a.Nodup)(h:∀ x∈a,x∈b):a.length<=b.length:=by
 induction a generalizing b with
 |nil=>simp
 |cons x a ih=>
  rw[rh]at ha;have hx:=h x (iz ..);have:=ih (b:=b.erase x) ha.2 λy hy=>(List.mem_erase_of_ne (λe:y=x=>ha.1 (by rw[<- e];exact hy))).2 (h y (gb _ hy));rw[List.length_erase_of_mem hx]at this;have:0<b.length:=List.length_pos_of_mem hx;simp;omega
theorem zA{a b:List Int}(ha:a.Nodup)(h:∀ x∈a,x∈b)(hl:b.length<=a.length):∀ x∈b,x∈a:=by
 intro x hx;refine LU λhn=>?_;have:=kZ (a:=x::a) (rh.2 ⟨hn,ha⟩) (b:=b) λy hy=>by
  rcases ga.1 hy with rfl|hy
  ·exact hx
  ·exact h y hy
 simp at this;omega
theorem sE{V:Type}{n:Int}{ops:List cr}{l:List (Int×V)}(hn:(l.map (·.1)).Nodup)(ht:∀ p∈l,bX ops p.1 n=true):(dg ops n).length<=l.length↔∀ k,bX ops k n=true->(aB l k).isSome=true:=by
 have gu:∀ x∈l.map (·.1),x∈(dg ops n).map (·.1):=λx hx=>by obtain⟨p,hp,rfl⟩:=bH.1 hx;exact(qX ops n p.1).2 (ht p hp)
 constructor
 ·intro h k hk;have:=zA hn gu (by simpa using h) k ((qX ops n k).2 hk);cases hg:aB l k with
  |none=>exact absurd this (getM_none.1 hg)
  |some v=>rfl
 ·intro h;have:=kZ (DW ops n) (b:=l.map (·.1)) λx hx=>by have:=h x ((qX ops n x).1 hx);refine LU λhc=>?_;rw[getM_none.2 hc]at this;cases this
  simpa using this
theorem JD{V:Type}{n:Int}{ops:List cr}{l:List (Int×V)}(hn:(l.map (·.1)).Nodup)(ht:∀ p∈l,bX ops p.1 n=true):l.length=(dg ops n).length↔∀ k,bX ops k n=true->(aB l k).isSome=true:=by
 rw[<- sE hn ht];have gu:l.length<=(dg ops n).length:=by
  have:=kZ hn (b:=(dg ops n).map (·.1)) λx hx=>by obtain⟨p,hp,rfl⟩:=bH.1 hx;exact(qX ops n p.1).2 (ht p hp)
  simpa using this
 omega
end
section
open Go.Conc
variable{P:bL}{ak:Bool}{B:jW}{R:Nat->aP->Array Obj->Prop}{d:Nat}{As aN F:List HP}
variable{fn:bI}{kd:Kd}{n:Nat}{e:Nat->Value}{ds:List dQ}{k:List Item}{cs:List Frame}
variable{ops:Array Oper}{i:Nat}{aa:List Nat}{dst:Option Nat}{t:Nat}{ty:aQ}{pos:String}{af:Array Edge}{gd:Option (Nat×Bool)}{x y z:cA}{v:Value}
theorem ab.xi(C:ab P ak B R){f:bI}{fu:Func}{ex:Array Value->Sem Value}[b:ef P f fu ex]{recv:cA}{name:String}{args:Array cA}{fU:Array aQ}{vl:List Value}{t0:aQ}{v0 rv:Value}(hm:fD P (method (P.types.size+Made.depth) t0 v0 name)=some (f,rv))
  (h:∀ H,Sat As (hp H)->di P B (ex (#[rv]++vl.toArray)) H d λv H' d'=>∃ aN,Sat aN (hp H')/\At R d' aN (gr fn kd n (cS e dst v) ds (.inRegion ops aa::k) cs))
  (ho:aZ ops i=some ⟨dst,.call ⟨.invoke recv name,args,fU⟩,ty,pos,af,gd⟩:=by rfl) (hr:ev n e recv=.iface t0 v0:=by rfl) (hv:args.toList.map (ev n e)=vl:=by rfl) (hw:aM ops n e gd=true:=by rfl):Nw R d As fn kd n e ds ops i aa k cs:=by
 refine C.gen ho hw λH s=>?_;unfold execOp;simp only;refine ah ?_;have sk:args.map (ev n e)=vl.toArray:=by rw[<- hv,<- pP,sd]
 simp only[resolve,hr,sk];refine aA ?_;show di P B (invoke (.fn (.method name) #[]) (#[.iface t0 v0]++vl.toArray)) H d _;unfold invoke;have e1:(#[Value.iface t0 v0]++vl.toArray)[0]? =some (.iface t0 v0):=by simp
 have e2:(#[Value.iface t0 v0]++vl.toArray).extract 1 (#[Value.iface t0 v0]++vl.toArray).size=vl.toArray:=by simp
 simp only[e1,e2];unfold callMethod;simp only;refine ah (dd (v:=P) rfl ?_);refine ah (dd hm ?_);simp only;unfold callFunc;refine ah ?_;show di P B _ H d _;simp only[program,di];rw[b.func];simp only[b.name,b.body,eM,ij,fB];refine ah ?_;simp only[mark,di,j3,nJ,mo];simp only[b.nx,b.fd];refine ah (n5 (λv H' d' q=>?_) (h H s));obtain⟨aN,s',q⟩:=q;exact aA ⟨aN,s',q⟩
theorem ab.Wi(C:ab P ak B R){f:bI}{fu:Func}{ex:Array Value->Sem Value}[b:ef P f fu ex]{recv:cA}{name:String}{args:Array cA}{fU:Array aQ}{vl:List Value}{t0:aQ}{v0 rv:Value}(hm:fD P (method (P.types.size+Made.depth) t0 v0 name)=some (f,rv))(hx:fD P (ex (#[rv]++vl.toArray))=some v)
  (h:At R d As (gr fn kd n (cS e dst v) ds (.inRegion ops aa::k) cs)) (ho:aZ ops i=some ⟨dst,.call ⟨.invoke recv name,args,fU⟩,ty,pos,af,gd⟩:=by rfl) (hr:ev n e recv=.iface t0 v0:=by rfl) (hv:args.toList.map (ev n e)=vl:=by rfl) (hw:aM ops n e gd=true:=by rfl):Nw R d As fn kd n e ds ops i aa k cs:=
 C.xi hm (λH s=>dd hx ⟨As,s,h⟩) ho hr hv hw
theorem ab.Wj(C:ab P ak B R){f:bI}{fu:Func}{c:Code}{nf:Nat}[b:Body P f fu c nf]{recv:cA}{name:String}{args:Array cA}{fU:Array aQ}{vl:List Value}{t0:aQ}{v0 rv:Value}{A:List HP}{Q:Value->List HP->Prop}(hm:fD P (method (P.types.size+Made.depth) t0 v0 name)=some (f,rv))(hs:aD P ak B f (rv::vl).toArray A Q)
  (h:∀ v aN,Q v aN->At R d (aN++F) (gr fn kd n (cS e dst v) ds (.inRegion ops aa::k) cs)) (ho:aZ ops i=some ⟨dst,.call ⟨.invoke recv name,args,fU⟩,ty,pos,af,gd⟩:=by rfl) (hr:ev n e recv=.iface t0 v0:=by rfl) (hv:args.toList.map (ev n e)=vl:=by rfl)
  (hA:dB A As F:=by exact dB.au) (hw:aM ops n e gd=true:=by rfl):Nw R d As fn kd n e ds ops i aa k cs:=by
 have sk:args.map (ev n e)=vl.toArray:=by rw[<- hv,<- pP,sd]
 refine C.en (o:=⟨dst,.call ⟨.invoke recv name,args,fU⟩,ty,pos,af,gd⟩) hs ?_ h ho hA hw;unfold execOp;simp only;refine bq (a:=⟨.fn (.method name) #[],#[.iface t0 v0]++vl.toArray⟩) ?_ ?_
 ·unfold resolve;simp only[hr,sk];rfl
 ·show fD P (invoke (.fn (.method name) #[]) (#[.iface t0 v0]++vl.toArray))=_;unfold invoke;have e1:(#[Value.iface t0 v0]++vl.toArray)[0]? =some (.iface t0 v0):=by simp
  have e2:(#[Value.iface t0 v0]++vl.toArray).extract 1 (#[Value.iface t0 v0]++vl.toArray).size=vl.toArray:=by simp
  simp only[e1,e2];unfold callMethod;simp only;refine bq (a:=P) rfl (bq hm ?_);have e3:#[rv]++vl.toArray=(rv::vl).toArray:=by simp
  simp only[e3];exact kg _
theorem ab.ZC(C:ab P ak B R){xt tt t0:aQ}{Nn:Array (String×aQ)}{inf:TypeInfo}{zv:Value}{mm:String}{vv:Value}(hu:P.underlying tt=some (.interface Nn))(hi:P.info? t0=some inf)(XP:Instr.missingMethod Nn inf.methods=some mm)(hz:∃ i,P.info? tt=some i/\i.zero=some zv)(ho:aZ ops i=some ⟨some t,.typeAssert x xt tt true,ty,pos,af,gd⟩)
  (h:Nx R d As fn kd n e ds ops aa k cs t (.tuple #[zv,.bool false])) (hx:ev n e x=.iface t0 vv:=by rfl) (hw:aM ops n e gd=true:=by rfl):Nw R d As fn kd n e ds ops i aa k cs:=
 C.v0 ho h (by unfold execOp;simp only[hx];refine bq (a:=.tuple #[zv,.bool false]) ?_ rfl;unfold Instr.typeAssert;refine bq (fy hu) ?_;simp only;refine bq (mJ hi) ?_;simp only[XP,eM];exact bq (tY hz) rfl) hw
theorem ab.taY(C:ab P ak B R){xt tt t0:aQ}{Nn:Array (String×aQ)}{inf:TypeInfo}{vv:Value}(hu:P.underlying tt=some (.interface Nn))(hi:P.info? t0=some inf)(XP:Instr.missingMethod Nn inf.methods=none)(ho:aZ ops i=some ⟨some t,.typeAssert x xt tt true,ty,pos,af,gd⟩)
  (h:Nx R d As fn kd n e ds ops aa k cs t (.tuple #[.iface t0 vv,.bool true])) (hx:ev n e x=.iface t0 vv:=by rfl) (hw:aM ops n e gd=true:=by rfl):Nw R d As fn kd n e ds ops i aa k cs:=
 C.v0 ho h (by unfold execOp;simp only[hx];refine bq (a:=.tuple #[.iface t0 vv,.bool true]) ?_ rfl;unfold Instr.typeAssert;refine bq (fy hu) ?_;simp only;refine bq (mJ hi) ?_;simp only[XP,eM];rfl) hw
theorem ab.SL(C:ab P ak B R){f:bI}{fu:Func}{c:Code}{nf:Nat}[b:Body P f fu c nf]{recv:cA}{name:String}{args:Array cA}{fU:Array aQ}{vl:List Value}{t0:aQ}{v0 rv:Value}{A:List HP}{Q:Value->List HP->Prop}(hm:∀ H d (Q:bI×Value->Array Obj->Nat->Prop),Sat As (hp H)->Q (f,rv) H d->di P B (method (P.types.size+Made.depth) t0 v0 name) H d Q)(hs:aD P ak B f (rv::vl).toArray A Q)
  (h:∀ v aN,Q v aN->At R d (aN++F) (gr fn kd n (cS e dst v) ds (.inRegion ops aa::k) cs)) (ho:aZ ops i=some ⟨dst,.call ⟨.invoke recv name,args,fU⟩,ty,pos,af,gd⟩:=by rfl) (hr:ev n e recv=.iface t0 v0:=by rfl) (hv:args.toList.map (ev n e)=vl:=by rfl)
  (hA:dB A As F:=by exact dB.au) (hw:aM ops n e gd=true:=by rfl):Nw R d As fn kd n e ds ops i aa k cs:=by
 refine C.gen ho hw λH s=>?_;unfold execOp;simp only;refine ah ?_;have sk:args.map (ev n e)=vl.toArray:=by rw[<- hv,<- pP,sd]
 simp only[resolve,hr,sk];refine aA ?_;show di P B (invoke (.fn (.method name) #[]) (#[.iface t0 v0]++vl.toArray)) H d _;unfold invoke;have e1:(#[Value.iface t0 v0]++vl.toArray)[0]? =some (.iface t0 v0):=by simp
 have e2:(#[Value.iface t0 v0]++vl.toArray).extract 1 (#[Value.iface t0 v0]++vl.toArray).size=vl.toArray:=by simp
 simp only[e1,e2];unfold callMethod;simp only;refine ah (dd (v:=P) rfl ?_);refine ah (hm H d _ s ?_);simp only;refine na (P:=P) _ B H d _ ⟨A++F,s.perm hA.perm,?_⟩;have e3:#[rv]++vl.toArray=(rv::vl).toArray:=by simp
 rw[e3];exact hs R C .pb d F _ cs trivial λv aN q=>by show At R d (aN++F) (eT _ cs v);rw[n9 ho];exact h v aN q
theorem JE{f:bI}{t0 elem:aQ}{name:String}{inf:TypeInfo}{m:Go.Method}{b off fuel:Nat}{c:Array Value}{T:aQ}{rv:Value}{H:Array Obj}{d:Nat}{Q:bI×Value->Array Obj->Nat->Prop}(hi:P.info? t0=some inf)(hf:inf.methods.find? (·.name==name)=some m)(XQ:m.path=#[])(hfu:m.func=some (f,false))(hu:P.underlying t0=some (.pointer elem))[Ag P elem false](hh:hp H b=some (.cells c T (0,0)))(hc:c[off]? =some rv)(hs:B.sh T off=false)(q:Q (f,rv) H d):di P B (method (fuel+1) t0 (.pointer (some ⟨b,off,none⟩)) name) H d Q:=by unfold method;refine ah (dd (mJ hi) ?_);simp only[hf,XQ,hfu];refine ah (dd (v:=(t0,Place.val (.pointer (some ⟨b,off,none⟩)))) rfl ?_);simp only;refine ah ?_;unfold receiverAt;refine ah (dd (fy hu) ?_);simp only;refine ah (dd (v:=Value.pointer (some ⟨b,off,none⟩)) rfl ?_);refine ah (dd (v:=Value.pointer (some ⟨b,off,none⟩)) rfl ?_);refine ah (dd (v:=(⟨b,off,none⟩:Addr)) rfl ?_);exact gy hh hc hs (aA q)
theorem At.XR{R:Nat->aP->Array Obj->Prop}{d:Nat}{As L:List HP}{g:aP}{α:Type}{f:α->List Value}{z:Nat}{el:aQ}{s:ay}{l:List α}(hf:Fo (a9 f z el s l) As L)(h1:s=Go.Sl.aG->l=[]->At R d As g)(h2:s.a=some ⟨s.b,0,none⟩->s.len=l.length->At R d As g):At R d As g:=λH st=>by
 obtain⟨hh,x,hs,hr⟩:=st.perm hf.perm;rcases x with⟨rfl,rfl⟩|⟨b,pad,e, -, -, -⟩
 ·exact h1 rfl rfl H st
 ·have e1:s.b=b:=by rw[e];rfl
  exact h2 (by rw[e1,e]) (by rw[e]) H st
variable{L:List HP}
variable{tt t2:aQ}{kk:IntKind}{p q r:Int}
theorem ab.mx(C:ab P ak B R)(ho:aZ ops i=some ⟨some t,.call ⟨.builtin .max,#[x,y],#[tt,t2]⟩,ty,pos,af,gd⟩)(h:Nx R d As fn kd n e ds ops aa k cs t (.int kk r))
  (hx:ev n e x=.int kk p:=by rfl) (hy:ev n e y=.int kk q:=by rfl) (hr:max p q=r:=by rfl) (hw:aM ops n e gd=true:=by rfl):Nw R d As fn kd n e ds ops i aa k cs:=
 C.val ho hw (λB H d Q q'=>by
  unfold execOp;simp only[resolve];refine ah (aA ?_);simp only[zi,iJ,m1,hx,hy];unfold invoke builtin;refine ah ?_;have e1:(if q>p then q else p)=r:=by rw[<- hr,Int.max_def];split<;>split<;>omega
  show di P B (Builtin.max_ _ _ #[.int kk p,.int kk q]) H d _;unfold Builtin.max_;simp only[List.foldlM,Builtin.max2,e1];refine ah (aA ?_);exact aA q') h
theorem ab.mn(C:ab P ak B R)(ho:aZ ops i=some ⟨some t,.call ⟨.builtin .min,#[x,y],#[tt,t2]⟩,ty,pos,af,gd⟩)(h:Nx R d As fn kd n e ds ops aa k cs t (.int kk r))
  (hx:ev n e x=.int kk p:=by rfl) (hy:ev n e y=.int kk q:=by rfl) (hr:min p q=r:=by rfl) (hw:aM ops n e gd=true:=by rfl):Nw R d As fn kd n e ds ops i aa k cs:=
 C.val ho hw (λB H d Q q'=>by
  unfold execOp;simp only[resolve];refine ah (aA ?_);simp only[zi,iJ,m1,hx,hy];unfold invoke builtin;refine ah ?_;have e1:(if q<p then q else p)=r:=by rw[<- hr,Int.min_def];split<;>split<;>omega
  show di P B (Builtin.min_ _ _ #[.int kk p,.int kk q]) H d _;unfold Builtin.min_;simp only[List.foldlM,Builtin.min2,e1];refine ah (aA ?_);exact aA q') h
theorem D2{α:Type}{f:α->List Value}{z:Nat}[rf:fC f z]{el:aQ}{s:ay}{l:List α}{As L:List HP}{H:Array Obj}{B:jW}(hf:Fo (a9 f z el s l) As L)(st:Sat As (hp H))(hs:∀ j,B.sh el j=false)(k:Nat)(hk:k<l.length)(h3:s.a=some ⟨s.b,0,none⟩):
  kI B H z (l.take k).length (.slice s.a k s.cap) (flat f (l.take k)):=by
 have e1:(l.take k).length=k:=by rw[ik];omega
 rw[e1];have h:=dt.Jw (B:=B) (f:=f) (el:=el) (s:=s) (l:=l) (.own hf) st hs 0 k az s.cap s.a (λ_=>by rw[h3,I8]) (λ_=>.inr ⟨0,h3,by intro z;rw[z]at hk;simp at hk,az⟩)
 rwa[zg]at h
theorem D3{α:Type}{f:α->List Value}{z:Nat}[rf:fC f z]{el:aQ}{s:ay}{l:List α}{As L:List HP}{H:Array Obj}{B:jW}(hf:Fo (a9 f z el s l) As L)(st:Sat As (hp H))(hs:∀ j,B.sh el j=false)(k:Nat)(hk:k<l.length)(h5:l.length<=s.cap):
  kI B H z (l.drop (k+1)).length (.slice (some (if s.cap=k+1 then⟨s.b,0,none⟩else⟨s.b,0+(k+1)*z,none⟩)) (l.length-(k+1)) (s.cap-(k+1))) (flat f (l.drop (k+1))):=by
 have e1:(l.drop (k+1)).length=l.length-(k+1):=by rw[tB]
 rw[e1];have h:=dt.Jw (B:=B) (f:=f) (el:=el) (s:=s) (l:=l) (.own hf) st hs (k+1) (l.length-(k+1)) az (s.cap-(k+1)) (some (if s.cap=k+1 then⟨s.b,0,none⟩else⟨s.b,0+(k+1)*z,none⟩)) (λhm=>by rw[ao az];simp) (λ_=>.inr (by
  by_cases hc:s.cap=k+1
  ·exact⟨0,by rw[aK hc],by intro z;rw[z]at hk;simp at hk,az⟩
  ·exact⟨(k+1)*z,by rw[ao hc];simp,by intro z;rw[z]at hk;simp at hk,se z az⟩))
 rwa[iq (by rw[tB];exact gZ _)]at h
def Np(kk:IntKind)(es:Array MapEntry)(seen:Array Nat)(clock last:Nat):List Int->Prop
 |[]=>True
 |k::_=>last=clock/\∃ e∈es.toList,seen.back?=some e.born/\e.key=.int kk k
def It{V:Type}(kk:IntKind)(g:V->Value)(mb ib:Nat)(l:List (Int×V))(oF:List Int):HP:=λh=>
 ∃ es clock since seen last,u6 kk es clock (j6 g l)/\(∀ e∈es.toList,e.born<since)/\since<=last/\since<=clock/\(∀ e∈es.toList,(seen.contains e.born=true↔∃ k∈oF,e.key=.int kk k))/\Np kk es seen clock last oF/\all [bR mb (.map es clock),bR ib (.mapIter (some mb) since seen last)] h
variable{u:Value}{b off:Nat}{c:Array Value}{el key:aQ}
variable{V:Type}{g:V->Value}{l:List (Int×V)}
theorem ab.rn(C:ab P ak B R)[cM:Mp P tt key el](ho:aZ ops i=some ⟨some t,.range tt x,ty,pos,af,gd⟩)(h:∀ ib,Nx R d (It kk g b ib l []::L) fn kd n e ds ops aa k cs t (.pointer (some ⟨ib,0,none⟩)))
  (hx:ev n e x=.map (some b):=by rfl) (hf:Fo (dp kk g b l) As L:=by exact Fo.au) (hw:aM ops n e gd=true:=by rfl):Nw R d As fn kd n e ds ops i aa k cs:=
 C.gen ho hw λH s=>by
  have s':=s.perm hf.perm;obtain⟨hh,⟨es,clock,mr,uY⟩,gu,hr⟩:=s';have il:hp H b=some (.map es clock):=by subst uY;exact gu b _ (by simp[one])
  have s2:Sat (bR b (.map es clock)::L) (hp H):=⟨hh,uY,gu,hr⟩;unfold execOp;simp only[hx];refine ah ?_;unfold Instr.range;refine ah (dz cM.h B H d _ ?_);refine ah (gL il rfl ?_);refine ah (aA (ah ?_));show di P B (.new _ _) H d _;simp only[di];show di P B (pure _) _ d _;refine aA ⟨_,?_,h H.size⟩;have s3:=s2.push (.mapIter (some b) clock #[] clock);refine Sat.imp (λh hh=>⟨es,clock,clock,#[],clock,mr,λe he=>mr.lt e he,gZ _,gZ _,λe he=>by simp,trivial,hh⟩) (Sat.fS (l:=[bR b (.map es clock),bR H.size (.mapIter (some b) clock #[] clock)]) s3.swap)
theorem SM{X:Type}{a:Array X}(h:a.isEmpty=false):0<a.size:=by
 rcases Lz a.size with h0|h0
 ·simp[Array.isEmpty,h0]at h
 ·exact h0
theorem Nq{mb ib:Nat}{oF:List Int}{As:List HP}{H:Array Obj}{tt:aQ}{Q:Value->Array Obj->Nat->Prop}(s:Sat (It kk g mb ib l oF::As) (hp H))
  (q1:∀ k v H',(k,v)∈l->k∉oF->Sat (It kk g mb ib l (k::oF)::As) (hp H')->Q (.tuple #[.bool true,.int kk k,g v]) H' d) (q2:(∀ p∈l,p.1∈oF)->Q (.tuple #[.bool false]) H d):di P B (Instr.next (.pointer (some ⟨ib,0,none⟩)) false tt) H d Q:=by
 obtain⟨es,clock,since,seen,last,mr,hb,Sd,HN,tZ,XS,s⟩:∃ es clock since seen last,u6 kk es clock (j6 g l)/\(∀ e∈es.toList,e.born<since)/\since<=last/\since<=clock/\(∀ e∈es.toList,(seen.contains e.born=true↔∃ k∈oF,e.key=.int kk k))/\Np kk es seen clock last oF/\Sat (all [bR mb (.map es clock),bR ib (.mapIter (some mb) since seen last)]::As) (hp H):=by obtain⟨h1,⟨es,clock,since,seen,last,mr,a1,a2,a3,a4,a6,a5⟩,h2,h3⟩:=s;exact⟨es,clock,since,seen,last,mr,a1,a2,a3,a4,a6,h1,a5,h2,h3⟩
 have s:=s.flat;have hm:hp H mb=some (.map es clock):=s.get;have hi:hp H ib=some (.mapIter (some mb) since seen last):=s.swap.get;unfold Instr.next;simp only;refine ah (gL hi rfl ?_);simp only;refine ah (gL hm rfl ?_);have pa:(!seen.isEmpty&& !es.isEmpty&&es.all λx=>decide (x.born>=last))=false:=by
  cases he:es.isEmpty with
  |true=>simp
  |false=>
   have h0:=SM he;have:(es.all λx=>decide (x.born>=last))=false:=by rw[Array.all_eq_false];refine⟨0,h0,?_⟩;have:=hb es[0] (by simp);simp;omega
   rw[this];simp
 simp only[pa,ij,fB];generalize hL:es.filter (λe=> !seen.contains e.born)=left;have Iu:∀ e,e∈left↔e∈es/\¬ (seen.contains e.born=true):=λe=>by rw[<- hL];simp
 have hold:left.filter (λx=>decide (x.born<since))=left:=by rw[Array.filter_eq_self];intro e he;have:=hb e (Bf.2 ((Iu e).1 he).1);simp;omega
 have vY:left.filter (λx=>decide (x.born>=since))=#[]:=by rw[Array.filter_eq_empty_iff];intro e he;have:=hb e (Bf.2 ((Iu e).1 he).1);simp;omega
 rw[hold,vY,vV];refine ah ?_;show di P B (.choose _ _) H d _;have Zs:∀ e∈es.toList,∃ k v,(k,v)∈l/\e.key=.int kk k/\e.val=g v:=λe he=>by
  have:(e.key,e.val)∈CE kk (j6 g l):=by rw[<- mr.kv];exact rF (f:=λe:MapEntry=>(e.key,e.val)) he
  obtain⟨p,HZ,Je⟩:=bH.1 this;obtain⟨p',hp3,hp4⟩:=bH.1 HZ;subst hp4;obtain⟨h1,h2⟩:=wY Je;exact⟨p'.1,p'.2,hp3,h1.symm,h2.symm⟩
 have hvk:∀ p∈l,∃ e∈es.toList,e.key=.int kk p.1:=λp hp=>by
  have:(Value.int kk p.1,g p.2)∈es.toList.map (λe=>(e.key,e.val)):=by rw[mr.kv];exact bH.2 ⟨(p.1,g p.2),bH.2 ⟨p,hp,rfl⟩,rfl⟩
  obtain⟨e,h1,h2⟩:=bH.1 this;exact⟨e,h1,(wY h2).1⟩
 cases hem:left.isEmpty with
 |true=>
  have hl0:left=#[]:=by simpa using hem
  have iK:∀ p∈l,p.1∈oF:=λp hp=>by
   obtain⟨e,he,hk⟩:=hvk p hp;have:seen.contains e.born=true:=by refine LU λhc=>?_;have:=(Iu e).2 ⟨Bf.1 he,hc⟩;rw[hl0]at this;simp at this
   obtain⟨k,CD,FN⟩:=(tZ e he).1 this;rw[hk]at FN;injection FN with _ h2
   rw[h2];exact CD
  simp only[di,Question.forced,hl0];simp only[eM,Array.map_empty,vV];exact q2 iK
 |false=>
  simp only[ij,fB];have lR:∀ e1∈es.toList,∀ e2∈es.toList,e1.key=e2.key->e1=e2:=λe1 h1 e2 h2 hk=>by
   obtain⟨i1,CF⟩:=nV h1;obtain⟨i2,Jt⟩:=nV h2;have g1:((CE kk (j6 g l)).map (·.1))[i1]? =some e1.key:=by rw[<- mr.kv];simp[CF]
   have g2:((CE kk (j6 g l)).map (·.1))[i2]? =some e1.key:=by rw[<- mr.kv,hk];simp[Jt]
   have hn:((CE kk (j6 g l)).map (·.1)).Nodup:=by
    have XP:(CE kk (j6 g l)).map (·.1)=((j6 g l).map (·.1)).map (Value.int kk):=by simp[CE]
    rw[XP];exact List.Pairwise.map _ (λa b h z=>h (by injection z)) mr.nd
   have:=xu hn g1 g2;subst this;rw[CF]at Jt;exact bS Jt
  have Wa:∀ e1∈es.toList,∀ e2∈es.toList,e1.born=e2.born->e1=e2:=λe1 h1 e2 h2 hk=>by obtain⟨i1,CF⟩:=nV h1;obtain⟨i2,Jt⟩:=nV h2;have:=xu mr.bn (i:=i1) (j:=i2) (x:=e1.born) (by simp[CF]) (by simp[Jt,hk]);subst this;rw[CF]at Jt;exact bS Jt
  have Du:∀ j,j<left.size->di P B (match(#[]++left.map some)[j]? with
    |some (some e)=>do
     setObj ib (.mapIter (some mb) since (seen.push e.born) clock)
     pure (.tuple #[.bool true,e.key,e.val])
    |some none=>(pure (.tuple #[.bool false]):Sem Value)
    |none=>stuck "Next: no such candidate") H d Q:=λj hj=>by
   have hg:(#[]++left.map some)[j]? =some (some left[j]):=by simp[hj]
   rw[hg];have eN:left[j]∈left:=Array.getElem_mem hj;obtain⟨he,hns⟩:=(Iu _).1 eN;have we:=Bf.2 he;obtain⟨k,v,xW,hk,hv⟩:=Zs _ we;have s2:=(s.swap).set (o':=.mapIter (some mb) since (seen.push left[j].born) clock);refine ah (kP hi rfl rfl (aA ?_));rw[hk,hv];refine q1 k v _ xW (λaaR=>hns ((tZ _ we).2 ⟨k,aaR,hk⟩)) ?_;refine Sat.imp (λh hh=>⟨es,clock,since,seen.push left[j].born,clock,mr,hb,HN,HN,λe hee=>?_,⟨rfl,left[j],we,by simp,hk⟩,hh⟩) (Sat.fS (l:=[bR mb (.map es clock),bR ib (.mapIter (some mb) since (seen.push left[j].born) clock)]) s2.swap);have L9:(seen.push left[j].born).contains e.born=true↔seen.contains e.born=true\/e.born=left[j].born:=by simp[Array.mem_push]
   rw[L9,tZ e hee];constructor
   ·rintro(⟨k',h1,h2⟩|h1)
    ·exact⟨k',gb _ h1,h2⟩
    ·have:=Wa e hee _ we h1;exact⟨k,iz ..,by rw[this];exact hk⟩
   ·rintro⟨k',h1,h2⟩;rcases ga.1 h1 with rfl|h1
    ·exact .inr (by rw[lR e hee _ we (h2.trans hk.symm)])
    ·exact .inl ⟨k',h1,h2⟩
  have hls:=SM hem;simp only[di];split
  ·refine Du 0 hls
  ·intro n;have:Question.cut (.mapNext (#[]++left.map some).size) n=n%(#[]++left.map some).size:=rfl;rw[this];refine Du _ ?_;have hsz:(#[]++left.map some).size=left.size:=by simp
   rw[hsz];exact Nat.mod_lt _ hls
theorem ab.nx(C:ab P ak B R){ib:Nat}{oF:List Int}(ho:aZ ops i=some ⟨some t,.next x false,ty,pos,af,gd⟩)
  (h1:∀ j w,(j,w)∈l->j∉oF->Nx R d (It kk g b ib l (j::oF)::L) fn kd n e ds ops aa k cs t (.tuple #[.bool true,.int kk j,g w])) (h2:(∀ p∈l,p.1∈oF)->Nx R d (It kk g b ib l oF::L) fn kd n e ds ops aa k cs t (.tuple #[.bool false]))
  (hx:ev n e x=.pointer (some ⟨ib,0,none⟩):=by rfl) (hf:Fo (It kk g b ib l oF) As L:=by exact Fo.au) (hw:aM ops n e gd=true:=by rfl):Nw R d As fn kd n e ds ops i aa k cs:=
 C.gen ho hw λH s=>by unfold execOp;simp only[hx];exact ah (Nq (s.perm hf.perm) (λj w H' m nv s'=>⟨_,s',h1 j w m nv⟩) λiK=>⟨_,s.perm hf.perm,h2 iK⟩)
theorem ab.muI(C:ab P ak B R){w:V}{ib:Nat}{oF:List Int}[cM:Mp P tt key el][Ik P key kk](hk:(aB l q).isSome=true)(ho:aZ ops i=some ⟨none,.mapUpdate tt x y z,ty,pos,af,gd⟩)(h:At R d (It kk g b ib (bA l q w) oF::L) (gr fn kd n e ds (.inRegion ops aa::k) cs))
  (hx:ev n e x=.map (some b):=by rfl) (hy:ev n e y=.int kk q:=by rfl) (hf:Fo (It kk g b ib l oF) As L:=by exact Fo.au) (hz:ev n e z=g w:=by rfl) (hw:aM ops n e gd=true:=by rfl):Nw R d As fn kd n e ds ops i aa k cs:=
 C.gen ho hw λH s=>by
  have s':=s.perm hf.perm;obtain⟨es,clock,since,seen,last,mr,hb,Sd,HN,tZ,XS,s2⟩:∃ es clock since seen last,u6 kk es clock (j6 g l)/\(∀ e∈es.toList,e.born<since)/\since<=last/\since<=clock/\(∀ e∈es.toList,(seen.contains e.born=true↔∃ k∈oF,e.key=.int kk k))/\Np kk es seen clock last oF/\Sat (all [bR b (.map es clock),bR ib (.mapIter (some b) since seen last)]::L) (hp H):=by obtain⟨h1,⟨es,clock,since,seen,last,mr,a1,a2,a3,a4,a6,a5⟩,h2,h3⟩:=s';exact⟨es,clock,since,seen,last,mr,a1,a2,a3,a4,a6,h1,a5,h2,h3⟩
  have s2:=s2.flat;have il:hp H b=some (.map es clock):=s2.get;unfold execOp;simp only[hx,hy,hz];refine ah ?_;unfold Instr.mapUpdate;refine ah (dz cM.h B H d _ ?_);refine ah (gL il rfl ?_);refine ah (nh B H d _ ?_);refine ah (oL mr.kv B H d _ ?_);cases hi:pD q (j6 g l) 0 with
  |none=>
   have:=(iZ hi).1;rw[mA,Option.map_eq_none_iff]at this;rw[this]at hk;cases hk
  |some jv=>
   obtain⟨j,v0⟩:=jv;obtain⟨m,rfl,hn,_,zl,_⟩:=iY hi;obtain⟨e0,he,XT,_⟩:=Gb mr.kv hn;simp only[mj,Ds,he,k7,jU,XT];refine ah (H6 B H d _ ?_);refine kP il rfl rfl ⟨_,?_,h⟩;refine Sat.imp (λh hh=>⟨_,clock,since,seen,last,?_,?_,Sd,HN,?_,?_,hh⟩) (Sat.fS (l:=[bR b _,bR ib (.mapIter (some b) since seen last)]) (s2.set))
   ·rw[<- oc];exact mr.modify hn (zl _) _ λe' we=>⟨rfl,rfl,rfl⟩
   ·intro e' we;have hl:(es.modify m λe=>{e with key:=.int kk q,val:=g w}).toList=es.toList.modify m λe=>{e with key:=.int kk q,val:=g w}:=by simp
    rw[hl]at we;obtain⟨i,cN⟩:=nV we;rw[zQ]at cN;obtain⟨e2,h2,h3⟩:=Lf.1 cN;have:=hb e2 (eY h2);split at h3<;>(subst h3;exact this)
   ·intro e' we;have hl:(es.modify m λe=>{e with key:=.int kk q,val:=g w}).toList=es.toList.modify m λe=>{e with key:=.int kk q,val:=g w}:=by simp
    rw[hl]at we;obtain⟨i,cN⟩:=nV we;rw[zQ]at cN;obtain⟨e2,h2,h3⟩:=Lf.1 cN;have:=tZ e2 (eY h2);split at h3
    ·rename_i SN;subst h3;subst SN;rw[he]at h2;obtain rfl:=bS h2;rw[XT]at this;exact this
    ·subst h3;exact this
   ·cases oF with
    |nil=>trivial
    |cons k0 oF=>
     obtain⟨h1,e1,he1,h2,h3⟩:=XS;refine⟨h1,?_⟩;have hl:(es.modify m λe=>{e with key:=.int kk q,val:=g w}).toList=es.toList.modify m λe=>{e with key:=.int kk q,val:=g w}:=by simp
     obtain⟨i,cN⟩:=nV he1;by_cases SN:m=i
     ·subst SN;rw[he]at cN;obtain rfl:=bS cN;refine⟨{e0 with key:=.int kk q,val:=g w},?_,h2,by rw[<- h3,XT]⟩;rw[hl];exact eY (i:=m) (by rw[zQ,he];simp)
     ·refine⟨e1,?_,h2,h3⟩;rw[hl];exact eY (i:=i) (by rw[zQ,cN];simp[SN])
theorem At.Iv{ib:Nat}{oF:List Int}{gx:aP}(hf:Fo (It kk g b ib l oF) As L)(h:At R d (dp kk g b l::L) gx):At R d As gx:=λH s=>by have s':=s.perm hf.perm;obtain⟨h1,⟨es,clock,since,seen,last,mr,a1,a2,a3,a4,a6,a5⟩,h2,h3⟩:=s';have s2:Sat (all [bR b (.map es clock),bR ib (.mapIter (some b) since seen last)]::L) (hp H):=⟨h1,a5,h2,h3⟩;exact h H ((s2.flat.swap.drop).imp λh hh=>⟨es,clock,mr,hh⟩)
theorem ab.ZD(C:ab P ak B R){ib:Nat}{j:Int}{w:V}{oF:List Int}(hg:aB l j=some w)(ho:aZ ops i=some ⟨some t,.entry x,ty,pos,af,gd⟩)(h:Nx R d As fn kd n e ds ops aa k cs t (.tuple #[.int kk j,g w]))
  (hf:Fo (It kk g b ib l (j::oF)) As L) (hx:ev n e x=.pointer (some ⟨ib,0,none⟩):=by rfl) (hw:aM ops n e gd=true:=by rfl):Nw R d As fn kd n e ds ops i aa k cs:=
 C.gen ho hw λH s=>by
  have s':=s.perm hf.perm;obtain⟨h1,⟨es,clock,since,seen,last,mr,a1,a2,a3,a4,⟨rfl,e0,XU,y2,Wk⟩,a5⟩,h2,h3⟩:=s';have s2:Sat ([bR b (.map es last),bR ib (.mapIter (some b) since seen last)]++L) (hp H):=Sat.flat ⟨h1,a5,h2,h3⟩;have hm:hp H b=some (.map es last):=s2.get;have hi:hp H ib=some (.mapIter (some b) since seen last):=s2.swap.get;unfold execOp;simp only[hx];refine ah ?_;unfold Instr.entry;simp only;refine ah (gL hi rfl ?_);simp only[y2];refine ah (gL hm rfl ?_);simp only[bne_self_eq_false,ij,fB];have nl:es.find? (λe=>e.born==e0.born)=some e0:=by
   have hl:es.toList.find? (λe=>e.born==e0.born)=some e0:=by
    cases P3:es.toList.find? (λe=>e.born==e0.born)with
    |none=>
     have:=HE.1 P3 e0 XU;simp at this
    |some e1=>
     have h1:=LV P3;have h2:=zU P3;obtain⟨i1,CF⟩:=nV h2;obtain⟨i2,Jt⟩:=nV XU;have hbe:e1.born=e0.born:=by simpa using h1
     have:=xu mr.bn (i:=i1) (j:=i2) (x:=e0.born) (by simp[CF,hbe]) (by simp[Jt]);subst this;rw[CF]at Jt;exact congrArg some (bS Jt)
   rw[<- hl];simp
  rw[nl];have xX:e0.val=g w:=by
   have:(e0.key,e0.val)∈CE kk (j6 g l):=by rw[<- mr.kv];exact rF (f:=λe:MapEntry=>(e.key,e.val)) XU
   obtain⟨p,HZ,Je⟩:=bH.1 this;obtain⟨CD,FN⟩:=wY Je;have hpj:p.1=j:=by rw[Wk]at CD;injection CD
   have hgm:=ew mr.nd (show(j,p.2)∈j6 g l by rw[<- hpj];exact HZ);rw[mA,hg]at hgm;rw[<- FN];exact(bS hgm).symm
  simp only[Wk,xX];exact aA (aA ⟨As,s,h⟩)
end
end Go.Sl
