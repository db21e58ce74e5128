/-
  Texts that the proof needs, joined: part 3.
-/
import Derived.Test.YtjomdboiibakiaaGreatDoorEnB
import Derived.Conc.DeferLaws
import Derived.Conc.AtomicLaws2
import Derived.Conc.SmallLaws
import Derived.Laws.LoneSync
import Derived.Conc.EventLaws
set_option linter.unusedSimpArgs false
set_option linter.unusedVariables false
set_option maxHeartbeats 4000000
namespace Go.Sl
open Go.Proofs.Tryz
variable{P:bT}{α β:Type}{k' todo:List Item}{c cc:Code}{o:Oper}{f:bN}{args:Array dp}{s:ay}{b off nf n' d i j b1 o1 b2 o2 sz ib:Nat}{r:Bool}{tt t2 el t0 xt e1 e2:aP}{ad:Addr}{fu:Func}{fo recv:dp}{gY:Array aP}{vl:List Value}{kk:IntKind}{v n k order tx me:Int}{w:World}{u zv rv:Value}{m:List dS}{e:Nat->Value}{O:List bO}{H:Array Obj}{A L:List HP}{Q:Bool->Array Obj->Nat->Prop}{ex:Array Value->Sem Value}{inf:TypeInfo}{ms:Array (String×aP)}{g':aO}{E:List aR}{T:List (List bO)}{l:List (Int×m9)}{name:String}{qL:List Int}
section
open Go.Conc
def gG(P:bT){α:Type}:Sem α->Option α
 |.pure a=>some a
 |.program k=>gG P<|k P
 |_=>none
theorem mX{s:Sem α}{v:α}(h:gG P s=some v)(w:World)(es:Array Event):s.runT P w es=(.ok v w,es):=by
 induction s generalizing es with
 |pure a=>obtain rfl:=cA h;rfl
 |program k b=>exact b P h es
 |_=>cases h
theorem Sp{s:Sem α}{f:α->Sem β}{a:α}(h:gG P s=some a):gG P (s.bind f)=gG P (f a):=by
 induction s with
 |pure b=>obtain rfl:=cA h;rfl
 |program k c=>exact c P h
 |_=>cases h
theorem bH{s:Sem α}{f:α->Sem β}{a:α}{b:β}(h:gG P s=some a)(k:gG P (f a)=some b):gG P (s >>= f)=some b:=(Sp h).trans k
structure Mt(P:bT)(ao:Bool)(Z:World->Prop)(W:Nat->aO->Prop):Prop where
 s:∀ (q:Nat) (g g':aO),g.status=.running->(∀ w,Z w->stepG P ao g w=.go g' w #[])->W q g'->W (q+1) g
 mono:∀ (q m:Nat) (g:aO),W q g->q<=m->W m g
section
variable{P:bT}{ao:Bool}{Z:World->Prop}{W:Nat->aO->Prop}{q:Nat}
variable{fn:bN}{kd:Kd}{n:Nat}{e:Nat->Value}{ds:List eK}{k:List Item}{cs:List Frame}
theorem Mt.gX(M:Mt P ao Z W):∀ (m:Nat) (k:List Item),W q (gr fn kd n e ds (ctl m k) cs)->W (q+m) (gr fn kd n e ds k cs)
 |0,_,h=>h
 |m+1,k,h=>by
  unfold ctl at h;split at h
  .exact M.s _ _ _ rfl (λw _=>by simp[gr,aX,stepG,stepG.exec])<|M.gX m _ h
  .exact M.s _ _ _ rfl (λw _=>by simp[gr,aX,stepG,stepG.exec])<|M.gX m _ h
  .exact M.s _ _ _ rfl (λw _=>by simp[gr,aX,stepG,stepG.exec])<|M.gX m _ h
  .rename_i c k';split at h
   .rename_i a;have:=gv a;simp only at this;rw[this];exact M.s _ _ _ rfl (λw _=>by simp[gr,aX,stepG,stepG.exec])<|M.gX m _ h
   .rename_i a;obtain⟨l,e⟩:=gv a;rw[e];exact M.s _ _ _ rfl (λw _=>by simp[gr,aX,stepG,stepG.exec])<|M.gX m _ h
   .rename_i a;have:=gv a;simp only at this;rw[this];exact M.s _ _ _ rfl (λw _=>by simp[gr,aX,stepG,stepG.exec])<|M.gX m _ h
   .rename_i a;have:=gv a;simp only at this;rw[this];exact M.s _ _ _ rfl (λw _=>by simp[gr,aX,stepG,stepG.exec])<|M.gX m _ h
   .rename_i a;have:=gv a;simp only at this;rw[this];exact M.s _ _ _ rfl (λw _=>by simp[gr,aX,stepG,stepG.exec])<|M.gX m _ h
   .rename_i a;split at h
    .rename_i b d;have:=gv a;simp only at this;rw[this];exact M.s _ _ _ rfl (λw _=>by simp[gr,aX,stepG,stepG.exec,d])<|M.gX m _ h
    .exact M.mono _ _ _ h ai
   .exact M.mono _ _ _ h ai
  .exact M.mono _ _ _ h ai
theorem Mt.go(M:Mt P ao Z W)(h:W q (gr fn kd n e ds k' cs))(a:ctl 60 k=k':=by rfl):W (q+60) (gr fn kd n e ds k cs):=M.gX 60 k<|a▸h
theorem Mt.cond(M:Mt P ao Z W){c:dp}{x y:Code}{t:Bool}(hc:ev n e c=.bool t)(h:W q (gr fn kd n e ds (.code (if t then x else y)::k) cs)):W (q+1) (gr fn kd n e ds (.code (.cond c x y)::k) cs):=
 M.s _ _ _ rfl (λw _=>by have:=wJ fn kd n e ds<|.code (.cond c x y)::k;simp only[aX]at this;simp[gr,aX,stepG,stepG.exec,this,hc]) h
theorem Mt.N4(M:Mt P ao Z W)(h:W q (gr fn kd n e ds k' cs))(hc:ck c=.cond:=by rfl)(hv:ev n e (cC c)=.bool true:=by rfl)(a:ctl 60 (.code (cT c)::k)=k':=by rfl):W (q+60+1) (gr fn kd n e ds (.code c::k) cs):=by have:=gv hc;simp only at this;rw[this];exact M.cond hv<|M.gX 60 _<|a▸h
theorem Mt.Fg(M:Mt P ao Z W)(h:W q (gr fn kd n e ds k' cs))(hc:ck c=.cond:=by rfl)(hv:ev n e (cC c)=.bool false:=by rfl)(a:ctl 60 (.code (cE c)::k)=k':=by rfl):W (q+60+1) (gr fn kd n e ds (.code c::k) cs):=by have:=gv hc;simp only at this;rw[this];exact M.cond hv<|M.gX 60 _<|a▸h
theorem Mt.rg(M:Mt P ao Z W)(l:List Nat)(h:W q (gr fn kd n e ds (.inRegion (cO c) l::k) cs))(hc:ck c=.region:=by rfl)(hl:List.range (cO c).size=l:=by rfl):W (q+1) (gr fn kd n e ds (.code c::k) cs):=by have:=gv hc;simp only at this;rw[this];exact M.s _ _ _ rfl (λw _=>by simp[gr,aX,stepG,stepG.exec])<|hl▸h
theorem Mt.lp(M:Mt P ao Z W)(h:W q (gr fn kd n e ds (.code (cB c):: .inLoop (cB c)::k) cs))(hc:ck c=.loop:=by rfl):W (q+1) (gr fn kd n e ds (.code c::k) cs):=by have:=gv hc;simp only at this;rw[this];exact M.s _ _ _ rfl (λw _=>by simp[gr,aX,stepG,stepG.exec]) h
theorem Mt.ilp(M:Mt P ao Z W)(h:W q (gr fn kd n e ds (.code c:: .inLoop c::k) cs)):W (q+1) (gr fn kd n e ds (.inLoop c::k) cs):=
 M.s _ _ _ rfl (λw _=>by simp[gr,aX,stepG,stepG.exec]) h
variable{O:Array Oper}{i:Nat}{aa:List Nat}{dst:Option Nat}{t:Nat}{ty:aP}{pos:String}{af:Array Edge}{gd:Option (Nat×Bool)}{x y z:dp}{v u:Value}
theorem stepG_op(a:bk O i=some o)(b:aN O n e o.guard=true)(w:World):stepG P ao (gr fn kd n e ds (.inRegion O (i::aa)::k) cs) w=stepG.apply P true (aX fn kd n e ds<|.inRegion O (i::aa)::k) cs none (execOp (ev n e) o) w:=by rw[<- dJ]at a;rw[<- eU]at b;have c:=wJ fn kd n e ds<|.inRegion O (i::aa)::k;simp only[aX]at c;simp[gr,aX,stepG,stepG.exec,stepG.oper,Frame.oper?,a,b,c]
theorem DT(a:bk O i=some o)(b:aN O n e o.guard=true)(c:gG P (execOp (ev n e) o)=some (.value v))(w:World):stepG P ao (gr fn kd n e ds (.inRegion O (i::aa)::k) cs) w=.go (gr fn kd n (dD e o.dst v) ds (.inRegion O aa::k) cs) w #[]:=by rw[stepG_op a b];have r:=mX c w #[];have d:=kd.early;simp only[stepG.apply,r,fq];rw[cF (by rw[dJ];exact a)];simp[aX,GStep.after,gr,seen_none,d]
theorem Od{x:eK}(a:bk O i=some o)(c:aN O n e o.guard=true)(d:gG P (execOp (ev n e) o)=some (.defer x))(w:World):stepG P ao (gr fn kd n e ds (.inRegion O (i::aa)::k) cs) w=.go (gr fn kd n (dD e o.dst undef) (x::ds) (.inRegion O aa::k) cs) w #[]:=by rw[stepG_op a c];have r:=mX d w #[];have f:=kd.early;have b:=cF (fn:=fn) (kd:=kd) (n:=n) (e:=e) (ds:=x::ds) (k:=k) (aa:=aa) (o:=o) (by rw[dJ];exact a) undef;simp only[aX]at b;simp only[stepG.apply,r,fq,aX];rw[b];simp[aX,f,GStep.after,gr,seen_none]
theorem DU{args:Array Value}(a:bk O i=some o)(b:aN O n e o.guard=true)(c:gG P (execOp (ev n e) o)=some (.enter f args))(w:World):stepG P ao (gr fn kd n e ds (.inRegion O (i::aa)::k) cs) w=.go (jA P f args .rU<|aX fn kd n e ds (.inRegion O (i::aa)::k)::cs) w #[]:=by rw[stepG_op a b];have r:=mX c w #[];have d:=kd.early;simp only[stepG.apply,r,fq];simp[aX,d,GStep.after,jA,seen_none];rfl
theorem stepG_comm{cases:Array CommCase}{sh:CommShape}{a:Bool}(b:bk O i=some o)(c:aN O n e o.guard=true)(d:gG P (execOp (ev n e) o)=some (.comm cases a sh))(w:World):stepG P ao (gr fn kd n e ds (.inRegion O (i::aa)::k) cs) w=.comm (gr fn kd n e ds (.inRegion O (i::aa)::k) cs) cases a sh w #[]:=by rw[stepG_op b c];have r:=mX d w #[];have f:=kd.early;simp only[stepG.apply,r,fq];simp[aX,f,GStep.after,gr,seen_none]
def child(P:bT)(d:eK):aO:={frame:={(default:Frame)with fn:=P.funcs.size,defers:=[d],mode:=.panicking [goexitEntry]},callers:=[],status:=.running,dying:=none}
theorem Hg{x:eK}(a:bk O i=some o)(b:aN O n e o.guard=true)(c:gG P (execOp (ev n e) o)=some (.spawn x))(hx:∃ f cap,x.target=.fn f cap)(w:World):stepG P ao (gr fn kd n e ds (.inRegion O (i::aa)::k) cs) w=.spawn (gr fn kd n (dD e o.dst undef) ds (.inRegion O aa::k) cs) (child P x) w #[]:=by rw[stepG_op a b];have r:=mX c w #[];have d:=kd.early;simp only[stepG.apply,r,fq];rw[cF (by rw[dJ];exact a)];obtain⟨g,ar⟩:=x;obtain⟨f,cap,rfl⟩:∃ f cap,g=.fn f cap:=hx;simp[aX,d,GStep.after,gr,seen_none,child]
theorem Mt.op(M:Mt P ao Z W)(a:bk O i=some o)(b:aN O n e o.guard=true)(c:gG P (execOp (ev n e) o)=some (.value v))(h:W q (gr fn kd n (dD e o.dst v) ds (.inRegion O aa::k) cs)):W (q+1) (gr fn kd n e ds (.inRegion O (i::aa)::k) cs):=
 M.s _ _ _ rfl (λw _=>DT a b c w) h
theorem Mt.no(M:Mt P ao Z W){op:Op}(a:bk O i=some ⟨dst,op,ty,pos,af,gd⟩)(h:W q (gr fn kd n (dD e dst undef) ds (.inRegion O aa::k) cs))(c:aN O n e gd=false:=by rfl):W (q+1) (gr fn kd n e ds (.inRegion O (i::aa)::k) cs):=by
 refine M.s _ _ _ rfl (λw _=>?_) h;rw[<- dJ]at a;have d:Region.wanted (⟨dst,op,ty,pos,af,gd⟩:Oper) (yielded O<|tm n e)=false:=by rw[eU];exact c
 have b:=cF (fn:=fn) (kd:=kd) (n:=n) (e:=e) (ds:=ds) (k:=k) (aa:=aa) a undef;simp only[aX]at b;simp only[gr,aX,stepG,stepG.exec,a,lQ,iG,d,fW,eQ,b]
theorem Mt.mv(M:Mt P ao Z W)(a:bk O i=some ⟨some t,.move x,ty,pos,af,gd⟩)(h:W q (gr fn kd n (put e t v) ds (.inRegion O aa::k) cs))(hx:ev n e x=v:=by conv=>{lhs;whnf})(b:aN O n e gd=true:=by rfl):W (q+1) (gr fn kd n e ds (.inRegion O (i::aa)::k) cs):=
 M.op a b (by unfold execOp;simp only[hx];rfl) h
theorem Mt.pN(M:Mt P ao Z W)(a:bk O i=some ⟨some t,.assign x,ty,pos,af,gd⟩)(h:W q (gr fn kd n (put e t v) ds (.inRegion O aa::k) cs))(hx:ev n e x=v:=by conv=>{lhs;whnf})(b:aN O n e gd=true:=by rfl):W (q+1) (gr fn kd n e ds (.inRegion O (i::aa)::k) cs):=
 M.op a b (by unfold execOp;simp only[hx];rfl) h
theorem Mt.nc(M:Mt P ao Z W){a:Addr}(b:bk O i=some ⟨some t,.nilCheck x,ty,pos,af,gd⟩)(h:W q (gr fn kd n (put e t<|.pointer<|some a) ds (.inRegion O aa::k) cs))(hx:ev n e x=.pointer (some a):=by rfl)(c:aN O n e gd=true:=by rfl):W (q+1) (gr fn kd n e ds (.inRegion O (i::aa)::k) cs):=
 M.op b c (by unfold execOp;simp only[hx];rfl) h
theorem gq{t:aP}{u:TypeDesc}(h:P.underlying t=some u):gG P (underlying t)=some u:=by unfold underlying;refine bH (a:=P) rfl ?_;simp only[h];rfl
theorem oq{t:aP}{i:TypeInfo}(h:P.info? t=some i):gG P (typeInfo t)=some i:=by unfold typeInfo;refine bH (a:=P) rfl ?_;simp only[h];rfl
theorem Hh{t:aP}{z:Nat}(h:∃ i,P.info? t=some i/\i.size=z):gG P (sizeOf t)=some z:=by obtain⟨i,h,rfl⟩:=h;unfold sizeOf;exact bH (oq h) rfl
theorem te{t:aP}{v:Value}(h:∃ i,P.info? t=some i/\i.zero=some v):gG P (zeroValue t)=some v:=by obtain⟨i,h,a⟩:=h;unfold zeroValue;refine bH (oq h) ?_;rw[a];rfl
theorem Mt.fa(M:Mt P ao Z W){s f o:Nat}[c:Fl P s f o](g:bk O i=some ⟨some t,.fieldAddr s x f,ty,pos,af,gd⟩)(h:W q (gr fn kd n (put e t<|.pointer<|some ⟨b,off+o,none⟩) ds (.inRegion O aa::k) cs))
  (hx:ev n e x=.pointer (some ⟨b,off,none⟩):=by rfl) (j:aN O n e gd=true:=by rfl):W (q+1) (gr fn kd n e ds (.inRegion O (i::aa)::k) cs):=
 M.op g j (by obtain⟨u,d,z,h1,l,rfl,⟨inf,m,p⟩,r⟩:=c.h;unfold execOp;simp only[hx,Instr.fieldAt];refine bH (a:=.pointer<|some ⟨b,off+d.offset,none⟩) (bH (gq h1) ?_) rfl;simp only[l,Instr.sureAddr];refine bH (a:=(⟨b,off,none⟩:Addr)) rfl ?_;unfold fieldPlace;refine bH (a:=⟨b,off+d.offset,none⟩) ?_ rfl;refine bH (Hh ⟨inf,m,p⟩) ?_;rw[ax r,iI];rfl) h
theorem Mt.ext(M:Mt P ao Z W){vs:Array Value}{a:Nat}(b:bk O i=some ⟨some t,.extract x a,ty,pos,af,gd⟩)(h:W q (gr fn kd n (put e t v) ds (.inRegion O aa::k) cs))
  (hx:ev n e x=.tuple vs:=by rfl) (hv:vs[a]? =some v:=by rfl) (c:aN O n e gd=true:=by rfl):W (q+1) (gr fn kd n e ds (.inRegion O (i::aa)::k) cs):=
 M.op b c (by unfold execOp;simp only[hx,Instr.extract,hv];rfl) h
theorem Mt.cv(M:Mt P ao Z W){k1 k2:IntKind}{b c:aP}{p r:Int}[d:Ik P b k1][f:Ik P c k2](g:bk O i=some ⟨some t,.convert b c x,ty,pos,af,gd⟩)(h:W q (gr fn kd n (put e t<|.int k2 r) ds (.inRegion O aa::k) cs))
  (hx:ev n e x=.int k1 p:=by rfl) (hr:k2.wrap p=r:=by rfl) (j:aN O n e gd=true:=by rfl):W (q+1) (gr fn kd n e ds (.inRegion O (i::aa)::k) cs):=
 M.op g j (by unfold execOp;simp only[hx];refine bH (a:=.int k2 r) ?_ rfl;unfold convert;refine bH (gq d.h)<|bH (gq f.h) ?_;simp only[Conv.intToInt,hr];rfl) h
theorem Mt.bo(M:Mt P ao Z W){op:BinOp}{k1 k2:IntKind}{p r:Int}(b:bk O i=some ⟨some t,.binOp op tt x y t2,ty,pos,af,gd⟩)(h:W q (gr fn kd n (put e t v) ds (.inRegion O aa::k) cs))
  (hx:ev n e x=.int k1 p:=by rfl) (c:ev n e y=.int k2 r:=by rfl) (hv:gG P (binOp op tt (.int k1 p)<|.int k2 r)=some v:=by rfl) (d:aN O n e gd=true:=by rfl):W (q+1) (gr fn kd n e ds (.inRegion O (i::aa)::k) cs):=
 M.op b d (by unfold execOp;simp only[hx,c];refine bH (a:=v) ?_ rfl;refine bH (a:=()) ?_ hv;unfold eqGuard;cases op<;>rfl) h
theorem Mt.pk(M:Mt P ao Z W){b:Bool}(a:bk O i=some ⟨some t,.pick x y z,ty,pos,af,gd⟩)(h:W q (gr fn kd n (put e t v) ds (.inRegion O aa::k) cs))(hx:ev n e x=.bool b:=by rfl)(c:(if b then ev n e y else ev n e z)=v:=by conv=>{lhs;whnf})(d:aN O n e gd=true:=by rfl):W (q+1) (gr fn kd n e ds (.inRegion O (i::aa)::k) cs):=
 M.op a d (by unfold execOp;simp only[hx];cases b<;>(subst c;rfl)) h
theorem Mt.Wh(M:Mt P ao Z W){a b t1:aP}{z:Nat}[d:Pt P a t1][f:Up P b][l:Cz P t1 z](m:∀ w,Z w->∃ v,w.cell? ad=some v)(g:bk O i=some ⟨some t,.convert a b x,ty,pos,af,gd⟩)(h:W q (gr fn kd n (put e t<|.pointer<|some ad) ds (.inRegion O aa::k) cs))
  (hz:z≠0:=by decide) (hx:ev n e x=.pointer (some ad):=by rfl) (o:aN O n e gd=true:=by rfl):W (q+1) (gr fn kd n e ds (.inRegion O (i::aa)::k) cs):=by
 refine M.s _ _ _ rfl (λw p=>?_) h;obtain⟨v,j⟩:=m w p;obtain⟨inf,hi,r⟩:=l.h;have c:(P.info? t1).map (λi=>decide (i.size=0))=some false:=by rw[hi];simp[r,hz]
 rw[stepG_op g o];have key:(execOp (ev n e) ⟨some t,.convert a b x,ty,pos,af,gd⟩).runT P w #[]=(.ok (.value<|.pointer<|some ad) w,#[]):=by have k2:(convert a b (.pointer<|some ad)).runT P w #[]=(.ok (.pointer<|some ad) w,#[]):=Prod.ext ((Sem.runT_fst P _ w #[]).trans<|run_convert_to_unsafe d.h f.h c j)<|events_convert_to_unsafe d.h f.h c j #[];unfold execOp;simp only[hx];show((convert a b (.pointer<|some ad)).bind λv=>Sem.pure<|Next.value v).runT P w #[]=_;rw[Sem.runT_bind',k2];rfl
 have s:=kd.early;simp only[stepG.apply,key,fq];rw[cF (by rw[dJ];exact g)];simp[aX,GStep.after,gr,s,dD,seen_none]
theorem l3[b:Body P f fu c nf](args:Array Value):gG P (callFunc f args)=some (.enter f args):=by unfold callFunc;refine bH (a:=P) rfl ?_;rw[b.func];simp only[b.name,b.body,Option.isNone_some,fW,eQ];rfl
theorem Mt.Wi(M:Mt P ao Z W)[b:Body P f fu c nf](d:bk O i=some ⟨dst,.call ⟨.value fo,args,gY⟩,ty,pos,af,gd⟩)
  (h:W q (gr f .rU nf (AH vl.toArray) [] [.code c]<|aX fn kd n e ds (.inRegion O (i::aa)::k)::cs))
  (g:aN O n e gd=true:=by rfl) (hf:ev n e fo=.func (.func f) #[] #[]:=by rfl) (hv:args.toList.map (ev n e)=vl:=by rfl) (j:Nat.ble vl.length nf=true:=by rfl):W (q+1) (gr fn kd n e ds (.inRegion O (i::aa)::k) cs):=by
 have l:args.map (ev n e)=vl.toArray:=by rw[<- hv,<- sx,vo]
 refine M.s _ _ _ rfl (λw _=>DU (f:=f) (args:=vl.toArray) d g (by
  unfold execOp;simp only;refine bH (a:=⟨.fn (.func f) #[],vl.toArray⟩) ?_ ?_
  .unfold resolve;simp only[hf,Deferred.ofValue,l,CL];rfl
  .show gG P (callFunc f<|vl.toArray++#[])=_;rw[zj];exact l3 _) w) ?_
 have:=nZ (P:=P) (kd:=.rU) (args:=vl.toArray) (cs:=aX fn kd n e ds (.inRegion O (i::aa)::k)::cs) b.func b.body (by rw[b.tmps];exact zk<|by simpa using j);rw[this,b.tmps];exact h
theorem Mt.qJ(M:Mt P ao Z W)(b:bk O i=some ⟨dst,.defer ⟨.value fo,args,gY⟩,ty,pos,af,gd⟩)
  (h:W q (gr fn kd n (dD e dst undef) (⟨.fn (.func f) #[],vl.toArray⟩::ds) (.inRegion O aa::k) cs))
  (c:aN O n e gd=true:=by rfl) (hf:ev n e fo=.func (.func f) #[] #[]:=by rfl) (hv:args.toList.map (ev n e)=vl:=by rfl):W (q+1) (gr fn kd n e ds (.inRegion O (i::aa)::k) cs):=by
 have d:args.map (ev n e)=vl.toArray:=by rw[<- hv,<- sx,vo]
 refine M.s _ _ _ rfl (λw _=>Od (x:=⟨.fn (.func f) #[],vl.toArray⟩) b c (by unfold execOp;simp only;refine bH (a:=⟨.fn (.func f) #[],vl.toArray⟩) ?_ rfl;unfold resolve;simp only[hf,Deferred.ofValue,d,CL];rfl) w) h
theorem Mt.ret(M:Mt P ao Z W)(h:W q (sQ fn kd n e ds (.code .ret::k) cs)):W (q+1) (gr fn kd n e ds (.code .ret::k) cs):=
 M.s _ _ _ rfl (λw _=>by simp[gr,sQ,rV,aX,stepG,stepG.exec]) h
theorem Mt.fin(M:Mt P ao Z W)(h:W q (sQ fn kd n e ds [] cs)):W (q+1) (gr fn kd n e ds [] cs):=
 M.s _ _ _ rfl (λw _=>by simp[gr,sQ,rV,aX,stepG,stepG.exec]) h
theorem tf{v:Value}(h:vy fu n e=some v):gG P (results fu<|tm n e)=some v:=by
 have key:results fu (tm n e)=(pure v:Sem Value):=by
  unfold vy at h;have hl:fu.results=fu.results.toList.toArray:=by simp
  generalize fu.results.toList=l at h hl;split at h<;>first|(cases h;done)|skip
  all_goals(simp only[zJ]at h;subst h)
  all_goals simp[results,hl,<- wI, -Array.getD_eq_getD_getElem?]
 rw[key];rfl
theorem Mt.home(M:Mt P ao Z W)[b:Body P fn fu cc n']{a:List Item}{c:Frame}{v:Value}(h:W q (fP c cs v))(hv:vy fu n e=some v:=by rfl):W (q+1) (sQ fn .rU n e [] a<|c::cs):=
 M.s _ _ _ rfl (λw _=>by have r:=mX (tf (P:=P) hv) w #[];simp only[sQ,rV,aX,stepG,unwind,b.func,r,doReturn,Kd.k];simp[GStep.after,fP,seen_none]) h
theorem Mt.MB(M:Mt P ao Z W)[b:Body P fn fu cc n']{a:List Item}{c:Frame}{v:Value}(h:W q (yK c cs))(hv:vy fu n e=some v:=by rfl)(hc:c.mode=.returning\/c.mode=.panicking [goexitEntry]:=by first|exact .inl rfl|exact .inr rfl):W (q+1) (sQ fn .qJ n e [] a<|c::cs):=
 M.s _ _ _ rfl (λw _=>by have r:=mX (tf (P:=P) hv) w #[];simp only[sQ,rV,aX,stepG,unwind,b.func,r,doReturn,Kd.k];rcases hc with hc|hc<;>simp[GStep.after,yK,seen_none,hc,goexitEntry]) h
theorem Mt.dcall(M:Mt P ao Z W)[b:Body P f fu c nf]{cap args:Array Value}(h:W q (gr f .qJ nf (AH<|args++cap) [] [.code c]<|rV fn kd n e ds todo::cs))(a:Nat.ble (args++cap).size nf=true:=by rfl):W (q+1) (sQ fn kd n e (⟨.fn (.func f) cap,args⟩::ds) todo cs):=by have e1:=nZ (P:=P) (kd:=.qJ) (args:=args++cap) (cs:=rV fn kd n e ds todo::cs) b.func b.body (by rw[b.tmps];exact zk a);refine M.s _ _ (jA P f (args++cap) .qJ<|rV fn kd n e ds todo::cs) rfl (λw _=>?_) (by rw[e1,b.tmps];exact h);have r:=mX (l3 (P:=P) (f:=f)<|args++cap) w #[];simp only[sQ,rV,aX,stepG,unwind,callDeferred,invoke,r];simp[GStep.after,jA,Kd.k,seen_none]
def base(P:bT)(ds:List eK):Frame:={(default:Frame)with fn:=P.funcs.size,defers:=ds,mode:=.panicking [goexitEntry]}
theorem Mt.child(M:Mt P ao Z W){f:bN}{fu:Func}{c:Code}{nf:Nat}[b:Body P f fu c nf]{cap args:Array Value}(h:W q (gr f .qJ nf (AH<|args++cap) [] [.code c] [base P []]))(a:Nat.ble (args++cap).size nf=true:=by rfl):W (q+1) (child P ⟨.fn (.func f) cap,args⟩):=by have e1:=nZ (P:=P) (kd:=.qJ) (args:=args++cap) (cs:=[base P []]) b.func b.body (by rw[b.tmps];exact zk a);refine M.s _ _ (jA P f (args++cap) .qJ [base P []]) rfl (λw _=>?_) (by rw[e1,b.tmps];exact h);have r:=mX (l3 (P:=P) (f:=f)<|args++cap) w #[];simp only[Sl.child,stepG,unwind,callDeferred,invoke,r];simp[GStep.after,jA,Kd.k,seen_none,base]
theorem Oe(a:d=0):QuitsD P 1 d (yK (base P []) []):=by refine .inr ⟨rfl,{frame:=base P [],callers:=[],status:=.finished,dying:=none},#[],by simp,λw=>?_,⟨rfl,by rw[deafBehind_nil];exact a⟩⟩;have b:(default:Frame).todo=[]:=rfl;simp[yK,base,stepG,unwind,Frame.catches,b,goexitEntry]
end
theorem QuitsD.Hi{P:bT}:∀ {n m d:Nat} {g:aO},QuitsD P n d g->n<=m->QuitsD P m d g
 |0,0,_,_,h,_=>h
 |0,m+1,_,_,h,_=>.inl h
 |n+1,0,_,_,_,a=>absurd a ai
 |n+1,m+1,_,_,h,a=>h.imp id λ⟨h1,g',es,b,c,e⟩=>⟨h1,g',es,b,c,QuitsD.Hi e ai⟩
theorem Cl.mono{P:bT}{G:sg}:∀ {n m:Nat} {x:St} {g:aO},Cl P G n x g->n<=m->Cl P G m x g
 |0,_,_,_,h,_=>h.elim
 |n+1,0,_,_,_,e=>absurd e ai
 |n+1,m+1,x,g,h,e=>by
  obtain⟨hs,h⟩:=h;refine⟨hs,?_⟩;rcases h with⟨g',h1,d⟩|h
  .exact .inl ⟨g',h1,Cl.mono d ai⟩
  .refine .inr ?_;cases x with
   |rel=>obtain⟨g',h1,d⟩:=h;exact⟨g',h1,Cl.mono d ai⟩
   |zN=>obtain⟨g',h1,d⟩:=h;exact⟨g',h1,Cl.mono d ai⟩
   |add=>obtain⟨g',h1,d,f⟩:=h;exact⟨g',h1,Cl.mono d ai,λv wt a b c=>QuitsD.Hi (f v wt a b c) ai⟩
   |ld=>obtain⟨g',h1,d⟩:=h;exact⟨g',h1,Cl.mono d ai⟩
   |Qv=>obtain⟨g',h1,d⟩:=h;exact⟨g',h1,Cl.mono d ai⟩
   |JS=>obtain⟨i,g',h1,d⟩:=h;exact⟨i,g',h1,QuitsD.Hi d ai⟩
theorem Mt.quits:Mt P false (λ_=>True) λq g=>QuitsD P q d g:=⟨λq g g' hs h k=>.inr ⟨hs,g',#[],by simp,λw=>h w trivial,by rw[deafBehind_nil];exact k⟩,λ_ _ _ h a=>QuitsD.Hi h a⟩
theorem Mt.cl{G:sg}{x:St}:Mt P false (Gs G) λq g=>Cl P G q x g:=⟨λq g g' hs h k=>⟨hs,.inl ⟨g',h,k⟩⟩,λ_ _ _ h a=>Cl.mono h a⟩
theorem Mt.mw{G:sg}{Fin:aO->Prop}{x:MS}:Mt P true (Gs G) λ_ g=>MW P G Fin x g:=⟨λ_ g g' hs h q=>.mute hs h q,λ_ _ _ h _=>h⟩
theorem Mt.way{ao:Bool}{s:dP}:Mt P ao s.K λq g=>Way P ao s q g:=⟨λq g g' hs h k=>.inr ⟨hs,λw a=>⟨g',#[],w.drawn,h w a,by simp,k⟩⟩,λ_ _ _ h b=>Way.mono h b⟩
def bs(fn:bN)(kd:Kd):Frame:={(default:Frame)with fn:=fn,kind:=kd.k}
section
variable{P:bT}{ao:Bool}{fn:bN}{kd:Kd}{n:Nat}{e:Nat->Value}{ds:List eK}{k:List Item}{cs:List Frame}
variable{O:Array Oper}{i:Nat}{aa:List Nat}{dst:Option Nat}{t:Nat}{ty:aP}{pos:String}{af:Array Edge}{gd:Option (Nat×Bool)}{x y z:dp}
variable{f:bN}{fu:Func}{args:Array dp}{gY:Array aP}
theorem kQ(todo:List Item):gr fn kd n e ds todo cs=G ((bs fn kd).at ⟨tm n e,ds⟩ todo) cs:=rfl
theorem mY(v:Value):(Act.put ⟨tm n e,ds⟩ dst v)=⟨tm n<|dD e dst v,ds⟩:=by
 unfold Act.put dD;cases dst with
 |none=>rfl
 |some d=>simp only[R1]
theorem jj(x:dp):Act.eval ⟨tm n e,ds⟩ x=ev n e x:=by
 cases x with
 |tmp t=>simp only[Act.eval,ev,wI]
 |_=>rfl
theorem kS:(bs fn kd).kind≠ .early:=by cases kd<;>(intro h;cases h)
theorem AY(m:Mark)[b:fi P f fu (λ_=>do mark m;pure Extern.Race.none_)](a:bk O i=some ⟨dst,.call ⟨.value<|.func f,args,gY⟩,ty,pos,af,gd⟩)(c:aN O n e gd=true)(hm:∀ g,m≠ .extern g)(w:World):
  stepG P ao (gr fn kd n e ds (.inRegion O (i::aa)::k) cs) w=.go (gr fn kd n (dD e dst<|.tuple #[]) ds (.inRegion O aa::k) cs) w #[CD m]:=by
 rw[kQ,kQ,<- mY];exact stepG_mark0 m hm (o:=⟨dst,.call ⟨.value<|.func f,args,gY⟩,ty,pos,af,gd⟩) (by rw[dJ];exact a) (by rw[eU];exact c) kS rfl b.func b.name b.body b.nx b.fd
theorem AZ(mk:Addr->Mark)[b:fi P f fu (Extern.Race.marked mk)]{ad:Addr}(a:bk O i=some ⟨dst,.call ⟨.value<|.func f,args,gY⟩,ty,pos,af,gd⟩)(c:aN O n e gd=true)(hm:∀ ad g,mk ad≠ .extern g)(hx:(args.toList.map<|ev n e)[0]? =some (.pointer<|some ad))(w:World):
  stepG P ao (gr fn kd n e ds (.inRegion O (i::aa)::k) cs) w=.go (gr fn kd n (dD e dst<|.tuple #[]) ds (.inRegion O aa::k) cs) w #[CD (mk ad)]:=by
 rw[kQ,kQ,<- mY];refine stepG_markAt mk hm (o:=⟨dst,.call ⟨.value<|.func f,args,gY⟩,ty,pos,af,gd⟩) (by rw[dJ];exact a) (by rw[eU];exact c) kS rfl b.func b.name b.body b.nx b.fd ?_;have:(args.map<|Act.eval ⟨tm n e,ds⟩)=(args.toList.map<|ev n e).toArray:=by rw[show Act.eval ⟨tm n e,ds⟩=ev n e from funext jj,<- sx,vo]
 rw[this];simpa using hx
theorem A0[b:fi P f fu (Extern.Atomic.loadT<|.int kk)](a:bk O i=some ⟨dst,.call ⟨.value<|.func f,#[x],gY⟩,ty,pos,af,gd⟩)(c:aN O n e gd=true)(hx:ev n e x=.pointer (some ad))(hc:w.cell? ad=some (.int kk v)):
  stepG P ao (gr fn kd n e ds (.inRegion O (i::aa)::k) cs) w=.go (gr fn kd n (dD e dst<|.int kk v) ds (.inRegion O aa::k) cs) w #[ar ad]:=by
 rw[kQ,kQ,<- mY];exact stepG_load_atomic (o:=⟨dst,.call ⟨.value<|.func f,#[x],gY⟩,ty,pos,af,gd⟩) (by rw[dJ];exact a) (by rw[eU];exact c) kS rfl b.func b.name b.body b.nx kk b.fd (by rw[jj];exact hx) hc
theorem Sq[b:fi P f fu Extern.Atomic.storeT](a:bk O i=some ⟨dst,.call ⟨.value<|.func f,#[x,y],gY⟩,ty,pos,af,gd⟩)(c:aN O n e gd=true)(hx:ev n e x=.pointer (some ad))(d:ev n e y=.int kk v)(hc:w.cell? ad=some u)(hz:w.frozen? ad=false):
  stepG P ao (gr fn kd n e ds (.inRegion O (i::aa)::k) cs) w=.go (gr fn kd n (dD e dst<|.tuple #[]) ds (.inRegion O aa::k) cs) (w.setCell ad<|.int kk v) #[aw ad]:=by
 rw[kQ,kQ,<- mY];exact stepG_store_atomic (o:=⟨dst,.call ⟨.value<|.func f,#[x,y],gY⟩,ty,pos,af,gd⟩) (by rw[dJ];exact a) (by rw[eU];exact c) kS rfl b.func b.name b.body b.nx b.fd (by rw[jj];exact hx) (by rw[jj];exact d) hc hz
theorem Sr[b:fi P f fu (Extern.Atomic.update (Op.intArith .add) kk true)]{d:Int}(a:bk O i=some ⟨dst,.call ⟨.value<|.func f,#[x,y],gY⟩,ty,pos,af,gd⟩)(c:aN O n e gd=true)(hx:ev n e x=.pointer (some ad))(g:ev n e y=.int kk d)(hc:w.cell? ad=some (.int kk v))(hz:w.frozen? ad=false):
  stepG P ao (gr fn kd n e ds (.inRegion O (i::aa)::k) cs) w=.go (gr fn kd n (dD e dst<|.int kk<|kk.wrap<|v+d) ds (.inRegion O aa::k) cs) (w.setCell ad<|.int kk<|kk.wrap<|v+d) #[ar ad,aw ad]:=by
 rw[kQ,kQ,<- mY];exact stepG_add_atomic (o:=⟨dst,.call ⟨.value<|.func f,#[x,y],gY⟩,ty,pos,af,gd⟩) (by rw[dJ];exact a) (by rw[eU];exact c) kS rfl b.func b.name b.body b.nx kk b.fd (by rw[jj];exact hx) (by rw[jj];exact g) hc hz
theorem Ss[b:fi P f fu (Extern.Atomic.casT<|.int kk)]{d:Int}(a:bk O i=some ⟨dst,.call ⟨.value<|.func f,#[x,y,z],gY⟩,ty,pos,af,gd⟩)(c:aN O n e gd=true)(hx:ev n e x=.pointer (some ad))(g:ev n e y=.int kk v)(h:ev n e z=.int kk d)(hc:w.cell? ad=some (.int kk v))(hz:w.frozen? ad=false):
  stepG P ao (gr fn kd n e ds (.inRegion O (i::aa)::k) cs) w=.go (gr fn kd n (dD e dst<|.bool true) ds (.inRegion O aa::k) cs) (w.setCell ad<|.int kk d) #[ar ad,aw ad]:=by
 rw[kQ,kQ,<- mY];exact stepG_cas_hit (o:=⟨dst,.call ⟨.value<|.func f,#[x,y,z],gY⟩,ty,pos,af,gd⟩) (by rw[dJ];exact a) (by rw[eU];exact c) kS rfl b.func b.name b.body b.nx kk b.fd (by rw[jj];exact hx) (by rw[jj];exact g) (by rw[jj];exact h) hc hz
theorem Su[b:fi P f fu (Extern.Atomic.casT<|.int kk)]{a d:Int}(c:bk O i=some ⟨dst,.call ⟨.value<|.func f,#[x,y,z],gY⟩,ty,pos,af,gd⟩)(g:aN O n e gd=true)(hx:ev n e x=.pointer (some ad))(h:ev n e y=.int kk a)(j:ev n e z=.int kk d)(hc:w.cell? ad=some (.int kk v))(hz:w.frozen? ad=false)(l:¬ v=a):
  stepG P ao (gr fn kd n e ds (.inRegion O (i::aa)::k) cs) w=.go (gr fn kd n (dD e dst<|.bool false) ds (.inRegion O aa::k) cs) w #[ar ad]:=by
 rw[kQ,kQ,<- mY];exact stepG_cas_miss (o:=⟨dst,.call ⟨.value<|.func f,#[x,y,z],gY⟩,ty,pos,af,gd⟩) (by rw[dJ];exact c) (by rw[eU];exact g) kS rfl b.func b.name b.body b.nx kk b.fd (by rw[jj];exact hx) (by rw[jj];exact h) (by rw[jj];exact j) hc hz l
theorem A3:args.map (Act.eval ⟨tm n e,ds⟩)=(args.toList.map<|ev n e).toArray:=by rw[show Act.eval ⟨tm n e,ds⟩=ev n e from funext jj,<- sx,vo]
theorem Sv[b:fi P f fu Extern.Sync.semacquire](a:bk O i=some ⟨dst,.call ⟨.value<|.func f,args,gY⟩,ty,pos,af,gd⟩)(c:aN O n e gd=true)(hx:(args.toList.map<|ev n e)[0]? =some (.pointer<|some ad))(hc:w.cell? ad=some (.int .u32 v))(d:v≠0)(hz:w.frozen? ad=false):
  stepG P ao (gr fn kd n e ds (.inRegion O (i::aa)::k) cs) w=.go (gr fn kd n (dD e dst<|.tuple #[]) ds (.inRegion O aa::k) cs) (w.setCell ad<|.int .u32<|v-1) (semEvents ad):=by
 rw[kQ,kQ,<- mY];exact stepG_semacquire (o:=⟨dst,.call ⟨.value<|.func f,args,gY⟩,ty,pos,af,gd⟩) (by rw[dJ];exact a) (by rw[eU];exact c) kS rfl b.func b.name b.body b.nx b.fd (by rw[A3];simpa using hx) hc d hz
theorem Sw[b:fi P f fu Extern.Sync.semacquire](a:bk O i=some ⟨dst,.call ⟨.value<|.func f,args,gY⟩,ty,pos,af,gd⟩)(c:aN O n e gd=true)(hx:(args.toList.map<|ev n e)[0]? =some (.pointer<|some ad))(hc:w.cell? ad=some (.int .u32 0)):
  stepG P ao (gr fn kd n e ds (.inRegion O (i::aa)::k) cs) w=.go {gr fn kd n e ds (.inRegion O (i::aa)::k) cs with status:=.blocked} w #[]:=by
 rw[kQ];exact stepG_semacquire_wait (o:=⟨dst,.call ⟨.value<|.func f,args,gY⟩,ty,pos,af,gd⟩) (by rw[dJ];exact a) (by rw[eU];exact c) rfl b.func b.name b.body b.nx b.fd (by rw[A3];simpa using hx) hc
theorem Sy[b:fi P f fu Extern.Sync.semrelease](a:bk O i=some ⟨dst,.call ⟨.value<|.func f,args,gY⟩,ty,pos,af,gd⟩)(c:aN O n e gd=true)(hx:(args.toList.map<|ev n e)[0]? =some (.pointer<|some ad))(hc:w.cell? ad=some (.int .u32 v))(hz:w.frozen? ad=false):
  stepG P ao (gr fn kd n e ds (.inRegion O (i::aa)::k) cs) w=.go (gr fn kd n (dD e dst<|.tuple #[]) ds (.inRegion O aa::k) cs) (w.setCell ad<|.int .u32<|IntKind.u32.wrap<|v+1) (semEvents ad):=by
 rw[kQ,kQ,<- mY];exact stepG_semrelease (o:=⟨dst,.call ⟨.value<|.func f,args,gY⟩,ty,pos,af,gd⟩) (by rw[dJ];exact a) (by rw[eU];exact c) kS rfl b.func b.name b.body b.nx b.fd (by rw[A3];simpa using hx) hc hz
theorem Hj{s:Sem α}{g:α->Sem β}{a:α}(h:gG P s=some a)(w:World)(es:Array Event):(s >>= g).runT P w es=(g a).runT P w es:=by
 show(s.bind g).runT P w es=_
 induction s generalizing es with
 |pure b=>obtain rfl:=cA h;rfl
 |program k c=>exact c P h es
 |_=>cases h
theorem Hk{fn:bN}{es:Array Event}{e:Event}(h:e∈seen P fn es):e∈es:=by rw[seen_def]at h;have:=seen_fold_sub _ es.toList _ #[] e h;simpa using this
theorem Hl{v:Value}[a:Ag P tt false](c:bk O i=some ⟨some t,.load tt x,ty,pos,af,gd⟩)(d:aN O n e gd=true)(hx:ev n e x=.pointer (some ad))(hc:w.cell? ad=some v):
  stepG P ao (gr fn kd n e ds (.inRegion O (i::aa)::k) cs) w=.go (gr fn kd n (put e t v) ds (.inRegion O aa::k) cs) w (seen P fn #[⟨.cell ad,false,false⟩]):=by
 rw[stepG_op c d];obtain⟨u,f,g⟩:=a.h;have b:gG P (isAgg tt)=some false:=by unfold isAgg;refine bH (gq f) ?_;cases u<;>first|rfl|(cases g)
 have key:(execOp (ev n e) ⟨some t,.load tt x,ty,pos,af,gd⟩).runT P w #[]=(.ok (.value v) w,#[⟨.cell ad,false,false⟩]):=by
  unfold execOp;simp only[hx,Instr.loadAt,Instr.sureAddr];have h1:(loadVar tt ad).runT P w #[]=(.ok v w,#[⟨.cell ad,false,false⟩]):=by unfold loadVar;rw[Hj b];simp only[fW,eQ,load,Sem.runT,hc];rfl
  show((loadVar tt ad).bind λz=>Sem.pure<|Next.value z).runT P w #[]=_;rw[Sem.runT_bind',h1];rfl
 have h:=kd.early;simp only[stepG.apply,key,fq];rw[cF (by rw[dJ];exact c)];simp[aX,GStep.after,gr,h,dD]
end
section
variable{P:bT}{ao:Bool}{s:dP}{fn:bN}{kd:Kd}{n:Nat}{e:Nat->Value}{ds:List eK}{k:List Item}{cs:List Frame}
variable{O:Array Oper}{i:Nat}{aa:List Nat}{dst:Option Nat}{t:Nat}{ty:aP}{pos:String}{af:Array Edge}{gd:Option (Nat×Bool)}{x y z:dp}
abbrev aeB(P:bT)(ao:Bool)(s:dP)(g:aO):Prop:=∃ n,Way P ao s n g
theorem Sz{q:Nat}{v:Value}[a:Ag P tt false](b:bk O i=some ⟨some t,.load tt x,ty,pos,af,gd⟩)(h:Way P ao s q (gr fn kd n (put e t v) ds (.inRegion O aa::k) cs))(hm:(ad,v)∈s.mem)(hx:ev n e x=.pointer (some ad):=by rfl)(c:aN O n e gd=true:=by rfl):Way P ao s (q+1) (gr fn kd n e ds (.inRegion O (i::aa)::k) cs):=by refine .inr ⟨rfl,λw d=>⟨_,_,w.drawn,Hl b c hx<|d _ hm,λe f=>?_,h⟩⟩;have:=Hk f;simp only[qO,gU,nY,gR]at this;exact⟨ad,this,(ad,v),hm,rfl⟩
theorem aar{m:Nat}(q:∀ t,Way P ao s m<|gr fn kd n e ds (.inRegion (cO c) (Region.schedule (P.follows .mixedOrders) (cO c) t)::k) cs)(hc:ck c=.draw:=by rfl):Way P ao s (m+1) (gr fn kd n e ds (.code c::k) cs):=by have:=gv hc;simp only at this;rw[this];refine .inr ⟨rfl,λw a=>⟨_,#[],w.drawn+1,?_,by simp,q<|w.tape w.drawn<|.order fn<|cI c⟩⟩;simp[gr,aX,stepG,stepG.exec,choose,Sem.run,Question.forced,Question.cut];rfl
theorem aas(a:bk O i=some o)(hr:s.wv (gr fn kd n e ds (.inRegion O (i::aa)::k) cs))(b:gG P (execOp (ev n e) o)=some (.comm s.cases true s.shape))(c:aN O n e o.guard=true):Way P ao s 0 (gr fn kd n e ds (.inRegion O (i::aa)::k) cs):=
 ⟨_,hr,rfl,rfl,rfl,rfl,#[],by simp,λw _=>stepG_comm a c b w⟩
end
end
section
open Go.Conc
theorem aI.less{P:bT}{ao:Bool}{B B':lM}(a:BLe B B'){f:bN}{args:Array Value}{A:List HP}{Q:Value->List HP->Prop}(h:aI P ao B' f args A Q):aI P ao B f args A Q:=
 λR C kd d F c cs b e=>h R (C.less a) kd d F c cs b e
theorem uo{fn:bN}{kd:Kd}{n:Nat}{ds:List eK}{k:List Item}{cs:List Frame}{O:Array Oper}{aa:List Nat}(a:bk O i=some o)(v:Value):
  Conc.served (gr fn kd n e ds (.inRegion O (i::aa)::k) cs) v=gr fn kd n (dD e o.dst v) ds (.inRegion O aa::k) cs:=by
 unfold Conc.served gr;simp only;rw[cF (by rw[dJ];exact a)]
structure A4(rd:Nat->aP->Nat->Bool)(s:dP)(H:Array Obj):Prop where
 chans:∀ c,s.has c->∃ k,H[c]? =some (.chan 0 #[] false k k false)
 mem:∀ p∈s.mem,p.1.spot=none/\∃ c ty,H[p.1.block]? =some (.cells c ty (0,0))/\c[p.1.off]? =some p.2/\rd p.1.block ty p.1.off=true
variable{P:bT}{Post:Value->World->Prop}{X:vC}{σ:Gh}{h:Nat}{os:Os}{out:Array (Nat×ByteArray)}{d:Nat}{As aT:List HP}
variable{fn:bN}{kd:Kd}{n:Nat}{e:Nat->Value}{ds:List eK}{k:List Item}{cs:List Frame}
variable{O:Array Oper}{i:Nat}{aa:List Nat}{dst:Option Nat}{t:Nat}{ty:aP}{pos:String}{af:Array Edge}{gd:Option (Nat×Bool)}{x y:dp}
theorem SA{rd:Nat->aP->Nat->Bool}{s:dP}(a:s.Wf)(hs:A4 rd s w.heap)(b:∀ l,s.rd l->¬ σ.sh l):pC σ s w:=
 ⟨a,hs.chans,λp hp=>by obtain⟨h1,c,ty,d,e,_⟩:=hs.mem p hp;exact Fe d h1 e,b⟩
theorem MC{rd:Nat->aP->Nat->Bool}{s:dP}(ha:∀ p∈s.mem,∀ c ty,H[p.1.block]? =some (.cells c ty (0,0))->X.sh ty p.1.off=false)(hs:A4 rd s H)(d:GO X σ H):∀ l,s.rd l->¬ σ.sh l:=by rintro l ⟨p,hp,rfl⟩ hl;obtain⟨a,e,c,ty,h1,b,_⟩:=d.sF _ hl;obtain rfl:=Loc.cell.inj e;rw[ha p hp c ty h1]at b;cases b
theorem aG.go{x:eK}{o:Oper}(s:dP)(y:bk O i=some o)(z:aN O n e o.guard=true)(A:gG P (execOp (ev n e) o)=some (.spawn x))(hx:∃ f cap,x.target=.fn f cap)(B:s.Wf)
  (hs:∀ H,Sat As (hp H)->A4 (X.rd 1) s H) (ha:∀ H,Sat As (hp H)->∀ p∈s.mem,∀ c ty,H[p.1.block]? =some (.cells c ty (0,0))->X.sh ty p.1.off=false) (r:aeB P false s (child P x)) (C:σ.n≠0) (t:σ.n≠h)
  (k':At (aG P Post X (σ.p8 s) h os out) 0 As (gr fn kd n (dD e o.dst undef) ds (.inRegion O aa::k) cs)):
  At (aG P Post X σ h os out) 0 As (gr fn kd n e ds (.inRegion O (i::aa)::k) cs):=λH st g go w D E F=>by
 subst D;obtain⟨m,r⟩:=r;have l:=hs _ st;refine yJ.hire s m #[] rfl (λb q=>Hg y z A hx b) (λb q=>⟨fC _,λ_ _ h _=>h,λ_ _ _ _ _ h=>h,by simp⟩) rfl (SA B l<|MC (ha _ st) l go) r ?_;refine k' _ st ?_ ⟨λj s' a=>?_,λj s' c a u=>?_,λj s' p a hp=>?_,go.sF,go.bot⟩ w rfl E F
 .show Go.ConcN.upd σ.aU σ.n (some s) h=none;rw[Go.ConcN.upd_ne _ _ (j6 t)];exact g
 .have a:Go.ConcN.upd σ.aU σ.n (some s) j=some s':=a;show j<σ.n+1;by_cases d:j=σ.n
  .omega
  .rw[Go.ConcN.upd_ne _ _ d]at a;have:=go.lt j s' a;omega
 .have a:Go.ConcN.upd σ.aU σ.n (some s) j=some s':=a;by_cases d:j=σ.n
  .subst d;rw[Go.ConcN.upd_same]at a;obtain rfl:=cA a;obtain⟨kq,I⟩:=l.chans c u;exact(iF.1 I).1
  .rw[Go.ConcN.upd_ne _ _ d]at a;exact go.cl j s' c a u
 .have a:Go.ConcN.upd σ.aU σ.n (some s) j=some s':=a;by_cases d:j=σ.n
  .subst d;rw[Go.ConcN.upd_same]at a;obtain rfl:=cA a;obtain⟨h1,c,ty,J,_,v⟩:=l.mem p hp;exact⟨h1,c,ty,J,by unfold vC.rd at v⊢;rw[ax C];rwa[ax (by decide)]at v⟩
  .rw[Go.ConcN.upd_ne _ _ d]at a;exact go.still j s' p a hp
theorem aG.give{o:Oper}(C:h<σ.n)(j c kk kc:Nat)(s sH:dP)(v z z':Value)(J:bk O i=some o)(Q:aN O n e o.guard=true)(R:gG P (execOp (ev n e) o)=some (.comm #[scase c v z'] true .send))
  (hj:σ.aU j=some s) (S:s.cases[kk]? =some (rcase c z)) (T:∀ i s',σ.aU i=some s'->s'.has c->i=j)
  (hc:sT c (.chan 0 #[] false kc kc false) (.chan 0 #[] false (kc+1) (kc+1) false) As aT)
  (U:sH.Wf) (hs:∀ H,Sat As (hp H)->A4 (X.rd h) sH H) (W:∀ H,Sat aT (hp H)->A4 (X.rd h) sH H) (ha:∀ H,Sat As (hp H)->∀ p∈sH.mem,∀ c ty,H[p.1.block]? =some (.cells c ty (0,0))->X.sh ty p.1.off=false)
  (D:aeB P (h==0) sH (gr fn kd n (dD e o.dst undef) ds (.inRegion O aa::k) cs))
  (k':∀ r,s.wv r->At (aG P Post X (σ.given h j sH) j os out) 0 aT (Conc.served r<|commResult s.cases s.shape kk v true)):
  At (aG P Post X σ h os out) 0 As (gr fn kd n e ds (.inRegion O (i::aa)::k) cs):=λH st u go w Y Z hu=>by
 subst Y;obtain⟨m,D⟩:=D;have E:=hs _ st;have F:=hc.has.get st;have NT:j≠h:=λz=>by rw[z,u]at hj;cases hj
 have K:Sat aT (hp (w.setChan c 0 #[] false (kc+1) (kc+1) false).heap):=by
  have:=hc.set st;have e1:(w.setChan c 0 #[] false (kc+1) (kc+1) false).heap=w.heap.setIfInBounds c (.chan 0 #[] false (kc+1) (kc+1) false):=by
   have x:w.heap[c]? =some (.chan 0 #[] false kc kc false):=F;have C:=(iF.1 x).1;apply uJ;intro b;by_cases eb:c=b
   .subst eb;rw[heap_setChan_self w x,lh C]
   .rw[heap_setChan_ne w _ _ _ _ _ _ eb,ir eb]
  rw[e1];exact this
 have L:∀ (b:Nat) (cc:Array Value) (tt:aP),w.heap[b]? =some (.cells cc tt (0,0))->(w.setChan c 0 #[] false (kc+1) (kc+1) false).heap[b]? =some (.cells cc tt (0,0)):=λb cc tt M=>by
  have x:w.heap[c]? =some (.chan 0 #[] false kc kc false):=F;have eb:c≠b:=λz=>by rw[z,M]at x;cases x
  rw[heap_setChan_ne w _ _ _ _ _ _ eb];exact M
 refine yJ.give j c kk kc m s sH v z z' #[] rfl hj S T (λf q=>stepG_comm J Q R f) (λf q=>⟨fC _,λ_ _ h _=>h,λ_ _ _ _ _ h=>h,by simp⟩) rfl F (SA U E<|MC (ha _ st) E go) ?_ λr hr=>?_
 .rw[uo J];exact D
 .refine k' r hr _ K ?_ ⟨λd s' hi=>?_,λd s' c' hi N=>?_,λd s' p hi hp=>?_,λl hl=>?_,by have:=go.bot;simpa[World.setChan,Gh.given]using this⟩ _ rfl Z hu
  .show Go.ConcN.upd (Go.ConcN.upd σ.aU j none) h (some sH) j=none;rw[Go.ConcN.upd_ne _ _ NT,Go.ConcN.upd_same]
  .have hi:Go.ConcN.upd (Go.ConcN.upd σ.aU j none) h (some sH) d=some s':=hi;by_cases g:d=h
   .subst g;exact C
   .rw[Go.ConcN.upd_ne _ _ g]at hi;by_cases t:d=j
    .subst t;rw[Go.ConcN.upd_same]at hi;cases hi
    .rw[Go.ConcN.upd_ne _ _ t]at hi;exact go.lt d s' hi
  .have hi:Go.ConcN.upd (Go.ConcN.upd σ.aU j none) h (some sH) d=some s':=hi;have I:(w.setChan c 0 #[] false (kc+1) (kc+1) false).heap.size=w.heap.size:=by simp[World.setChan]
   rw[I];by_cases g:d=h
   .subst g;rw[Go.ConcN.upd_same]at hi;obtain rfl:=cA hi;obtain⟨kq,hq⟩:=E.chans c' N;exact(iF.1 hq).1
   .rw[Go.ConcN.upd_ne _ _ g]at hi;by_cases t:d=j
    .subst t;rw[Go.ConcN.upd_same]at hi;cases hi
    .rw[Go.ConcN.upd_ne _ _ t]at hi;exact go.cl d s' c' hi N
  .have hi:Go.ConcN.upd (Go.ConcN.upd σ.aU j none) h (some sH) d=some s':=hi;by_cases g:d=h
   .subst g;rw[Go.ConcN.upd_same]at hi;obtain rfl:=cA hi;obtain⟨h1,y,A,B,_,h4⟩:=(W _ K).mem p hp;exact⟨h1,y,A,B,h4⟩
   .rw[Go.ConcN.upd_ne _ _ g]at hi;by_cases t:d=j
    .subst t;rw[Go.ConcN.upd_same]at hi;cases hi
    .rw[Go.ConcN.upd_ne _ _ t]at hi;obtain⟨h1,y,A,B,h3⟩:=go.still d s' p hi hp;exact⟨h1,y,A,L _ _ _ B,h3⟩
  .obtain⟨a,ea,y,A,h1,B⟩:=go.sF l hl;exact⟨a,ea,y,A,L _ _ _ h1,B⟩
theorem A5{x o:Obj}{r:Nat}(h:H[r]? =some o):(H.push x)[r]? =some o:=by obtain⟨h1,a⟩:=iF.1 h;rw[ZI h1,a]
def Gh.C4(σ:Gh)(b:Nat)(os:List Nat):Gh:={σ with sh:=λl=>σ.sh l\/∃ o∈os,l=.cell ⟨b,o,none⟩}
theorem aG.bx{v0:Value}{c:Array Value}(m:List Nat)(C:bk O i=some ⟨some t,.box tt x,ty,pos,af,gd⟩)(hx:ev n e x=v0)(hc:v0.cells=c)(D:∀ o∈m,X.sh tt o=true)(E:aN O n e gd=true)
  (k':∀ b,At (aG P Post X (σ.C4 b m) h os out) d (dq b (.cells c tt (0,0))::As)<|gr fn kd n (put e t<|.pointer<|some ⟨b,0,none⟩) ds (.inRegion O aa::k) cs):
  At (aG P Post X σ h os out) d As (gr fn kd n e ds (.inRegion O (i::aa)::k) cs):=λH st g go w F I J=>by
 subst F;refine yJ.sF (σ.C4 w.heap.size m).sh (λl hl=>.inl hl) (λl hl K=>?_) ?_
 .rcases hl with hl|⟨o,_,rfl⟩
  .exact absurd hl K
  .exact⟨_,rfl,fC _⟩
 .have L:∀ f,stepG P (h==0) (gr fn kd n e ds (.inRegion O (i::aa)::k) cs) f=.go (gr fn kd n (put e t<|.pointer<|some ⟨f.heap.size,0,none⟩) ds (.inRegion O aa::k) cs) {f with heap:=f.heap.push<|.cells c tt (0,0)} #[]:=λf=>by
   rw[stepG_op C E];have key:(execOp (ev n e) ⟨some t,.box tt x,ty,pos,af,gd⟩).runT P f #[]=(.ok (.value<|.pointer<|some ⟨f.heap.size,0,none⟩) {f with heap:=f.heap.push<|.cells c tt (0,0)},#[]):=by unfold execOp;simp only[hx,Instr.box];subst hc;rfl
   have M:=kd.early;simp only[stepG.apply,key,fq];rw[cF (by rw[dJ];exact C)];simp[aX,GStep.after,gr,M,dD,seen_none]
  refine yJ.own (λf=>gr fn kd n (put e t<|.pointer<|some ⟨f.heap.size,0,none⟩) ds (.inRegion O aa::k) cs) (λf=>{f with heap:=f.heap.push<|.cells c tt (0,0)}) (λ_=>#[]) rfl (λf _=>L f) (λf q=>?_) λf q=>?_
  .have hp:∀ (r:Nat) (o:Obj),f.heap[r]? =some o->(f.heap.push<|.cells c tt (0,0))[r]? =some o:=λr o v=>A5 v;refine⟨by simp,λr o v _=>hp r o v,λu s p _ _ j=>?_,by simp⟩;unfold World.cell? at j⊢;cases y:f.heap[p.1.block]? with
   |none=>rw[y]at j;cases j
   |some o=>rw[y]at j;simp only[hp _ _ y];exact j
  .have e1:f.heap=w.heap:=q.hp;show yJ P Post (σ.C4 w.heap.size m) h (deafBehind d #[]) _ _;rw[deafBehind_nil,e1];refine k' w.heap.size _ (st.push _) g ⟨go.lt,λu s' c' hi N=>by have:=go.cl u s' c' hi N;simp;omega,λu s p hi hp=>?_,λl hl=>?_,by have:=go.bot;simp only[NP];exact Nat.le_succ_of_le this⟩ _ rfl (q.os.trans I)<|q.out.trans J
   .obtain⟨h1,z,A,B,Q⟩:=go.still u s p hi hp;exact⟨h1,z,A,A5 B,Q⟩
   .rcases hl with hl|⟨o,R,rfl⟩
    .obtain⟨a,S,z,A,h1,B⟩:=go.sF l hl;exact⟨a,S,z,A,A5 h1,B⟩
    .exact⟨_,rfl,c,tt,by simp,D o R,go.bot⟩
variable{aat:List HP}
variable{gY:Array aP}
theorem Hm{ao:Bool}{c kc:Nat}(g:bk O i=some ⟨dst,.call ⟨.builtin .close,#[x],gY⟩,ty,pos,af,gd⟩)(j:aN O n e gd=true)(hx:ev n e x=.chan (some c))(l:(P.funcs[fn]?).any (·.norace)=false)(hc:w.heap[c]? =some (.chan 0 #[] false kc kc false)):
  stepG P ao (gr fn kd n e ds (.inRegion O (i::aa)::k) cs) w=.go (gr fn kd n (dD e dst<|.tuple #[]) ds (.inRegion O aa::k) cs) (w.setChan c 0 #[] true kc kc false) (closeEvents c):=by
 rw[stepG_op g j];have key:(execOp (ev n e) ⟨dst,.call ⟨.builtin .close,#[x],gY⟩,ty,pos,af,gd⟩).runT P w #[]=(.ok (.value<|.tuple #[])<|w.setChan c 0 #[] true kc kc false,closeEvents c):=by
  have h1:gG P (resolve (ev n e) ⟨.builtin .close,#[x],gY⟩ ty)=some ⟨.builtin .close gY ty (#[x].map λa=>a matches .const _),#[.chan (some c)]⟩:=by unfold resolve;simp only[CO,jq,ny,hx];rfl
  show((resolve (ev n e) ⟨.builtin .close,#[x],gY⟩ ty) >>= λd=>invoke d.target d.args).runT P w #[]=_;rw[Hj h1];show((Builtin.close_ gY ty #[.chan (some c)]).bind λv=>Sem.pure<|Next.value v).runT P w #[]=_;have b:(Builtin.close_ gY ty #[.chan (some c)]).runT P w #[]=(.ok (.tuple #[])<|w.setChan c 0 #[] true kc kc false,closeEvents c):=Prod.ext ((Sem.runT_fst P _ w #[]).trans<|Go.run_close_open gY ty hc)<|Go.events_close_open (es:=#[]) gY ty hc;rw[Sem.runT_bind',b];rfl
 have m:=kd.early;have o:seen P fn (closeEvents c)=closeEvents c:=seen_eq l (λe h f=>by simp only[closeEvents,qO,gU,nY,gR]at h;rcases h with rfl|rfl<;>(intro z;cases z))
 simp only[stepG.apply,key,fq];rw[cF (by rw[dJ];exact g)];simp[aX,GStep.after,gr,m,o]
theorem aG.shut(L:List Nat)(G:sg)(c kc:Nat)(Fin:aO->Prop)(B:bk O i=some ⟨dst,.call ⟨.builtin .close,#[x],gY⟩,ty,pos,af,gd⟩)(hw:aN O n e gd=true)(hx:ev n e x=.chan (some c))(vq:(P.funcs[fn]?).any (·.norace)=false)
  (U:L.Nodup) (len:L.length<=4) (W:∀ i∈L,∃ s g h z1,σ.aU i=some s/\s.cases=#[rcase g h,rcase c z1]/\g≠c/\∃ N,∀ r,s.wv r->Cl P G N .rel (Conc.served r<|commResult s.cases s.shape 1 z1 false))
  (Y:∀ i s,σ.aU i=some s->s.has c->i∈L) (ok:G.Ok) (e1:G.cs[G.o1]? =some (nB L.length 0)) (e2:G.cs[G.o2]? =some (uY 0)) (AF:σ.sh (.cell G.st)) (JC:σ.sh (.cell G.sm))
  (hc:sT c (.chan 0 #[] false kc kc false) (.chan 0 #[] true kc kc false) As aT) (Z:sT G.blk (.cells G.cs G.ty (0,0)) (.cells (G.row (nB 0 0)<|uY 0) G.ty (0,0)) aT aat)
  (hm:MW P G Fin (.zN L.length) (gr fn kd n (dD e dst<|.tuple #[]) ds (.inRegion O aa::k) cs))
  (k':∀ a,Fin a->At (aG P Post X (σ.iH L) 0 os out) 0 aat a):
  At (aG P Post X σ 0 os out) 0 As (gr fn kd n e ds (.inRegion O (i::aa)::k) cs):=λH st o go w Kg na hu=>by
 subst Kg;have t:w.heap[c]? =some (.chan 0 #[] false kc kc false):=hc.has.get st;have Mz:Sat aT (hp (w.setChan c 0 #[] true kc kc false).heap):=hc.set st;have d:(w.setChan c 0 #[] true kc kc false).heap[G.blk]? =some (.cells G.cs G.ty (0,0)):=Z.has.get Mz;have C:c≠G.blk:=λz=>by rw[<- z,heap_setChan_self w t]at d;cases d
 have u:w.heap[G.blk]? =some (.cells G.cs G.ty (0,0)):=by rw[heap_setChan_ne w _ _ _ _ _ _ C]at d;exact d
 obtain⟨N0,hN⟩:∃ N0,∀ i∈L,∃ s g h z1,σ.aU i=some s/\s.cases=#[rcase g h,rcase c z1]/\g≠c/\∀ r,s.wv r->Cl P G N0 .rel (Conc.served r<|commResult s.cases s.shape 1 z1 false):=by
  clear k' U len Y e1 hm
  induction L with
  |nil=>exact⟨0,by simp⟩
  |cons j L ih=>
   obtain⟨N1,h1⟩:=ih λi hi=>W i<|fg _ hi;obtain⟨s,g,h,z1,a1,D,E,N2,F⟩:=W j<|fX ..;refine⟨max N1 N2,λi hi=>?_⟩;rcases gU.1 hi with rfl|hi
   .exact⟨s,g,h,z1,a1,D,E,λr I=>(F r I).mono<|Nat.le_max_right ..⟩
   .obtain⟨s,g,h,z1,a1,D,E,F⟩:=h1 i hi;exact⟨s,g,h,z1,a1,D,E,λr I=>(F r I).mono<|Nat.le_max_left ..⟩
 refine yJ.shut L G c kc N0 Fin rfl t (λw₁ q=>Hm B hw hx vq (by rw[q.hp];exact t)) ?_ rfl U len hN Y ok u e1 e2 AF JC hm λJ v hf m=>?_
 .rw[<- dJ]at B;simp[mayWake,gr,aX,B]
 .have y:v.heap=(w.setChan c 0 #[] true kc kc false).heap.setIfInBounds G.blk (.cells (G.row (nB 0 0)<|uY 0) G.ty (0,0)):=m.hp;have K:Sat aat (hp v.heap):=by rw[y];exact Z.set Mz
  have th:∀ (b:Nat) (cc:Array Value) (tt:aP),w.heap[b]? =some (.cells cc tt (0,0))->∃ M,v.heap[b]? =some (.cells M tt (0,0)):=λb cc tt A=>by
   have eb:c≠b:=λz=>by rw[z,A]at t;cases t
   rw[y];by_cases e3:b=G.blk
   .subst e3;rw[u]at A;cases A;exact⟨_,lh (by have:=(iF.1 d).1;exact this)⟩
   .exact⟨cc,by rw[ir (j6 e3),heap_setChan_ne w _ _ _ _ _ _ eb];exact A⟩
  refine k' J hf _ K ?_ ⟨λf s' hi=>?_,λf s' c' hi lL=>?_,λf s' p hi hp=>?_,λl hl=>?_,?_⟩ v rfl (m.os.trans na)<|m.out.trans hu
  .show(if 0∈L then none else σ.aU 0)=none;split
   .rfl
   .exact o
  .have hi:(if f∈L then none else σ.aU f)=some s':=hi;split at hi
   .cases hi
   .exact go.lt f s' hi
  .have hi:(if f∈L then none else σ.aU f)=some s':=hi;split at hi
   .cases hi
   .have:=go.cl f s' c' hi lL;rw[y];simpa[World.setChan]using this
  .have hi:(if f∈L then none else σ.aU f)=some s':=hi;split at hi
   .cases hi
   .obtain⟨h1,c1,Q,R,h3⟩:=go.still f s' p hi hp;obtain⟨S,T⟩:=th _ _ _ R;exact⟨h1,S,Q,T,h3⟩
  .obtain⟨a,ea,c1,Q,h1,R⟩:=go.sF l hl;obtain⟨S,T⟩:=th _ _ _ h1;exact⟨a,ea,S,Q,T,R⟩
  .rw[y,NO];have:=go.bot;simpa[World.setChan,Gh.iH]using this
theorem aG.done{fu:Func}{cc:Code}{n':Nat}[b:Body P fn fu cc n']{d:List Item}{v:Value}(hv:vy fu n e=some v)(hi:P.inits.idxOf? fn=none)(f:∀ i,σ.aU i=none)(hp:∀ w:World,Sat As (hp w.heap)->w.os=os->w.output=out->Post v w):
  At (aG P Post X σ 0 os out) 0 As (sQ fn .rU n e [] d []):=λH st c go w g h j=>by
 subst g;refine yJ.done v rfl (λa q=>?_) f (λa q=>hp a (by rw[q.hp];exact st) (q.os.trans h)<|q.out.trans j);have r:=mX (tf (P:=P) hv) a #[];simp only[sQ,rV,aX,stepG,unwind,b.func,r,doReturn,Kd.k];simp[GStep.after,seen_none,hi]
def Fu(σ:Gh)(b:Nat):Prop:=∀ i s p,σ.aU i=some s->p∈s.mem->p.1.block≠b
theorem Fu.blk{σ:Gh}{b:Nat}(h:Fu σ b):σ.blk b=false:=by
 cases e:σ.blk b with
 |false=>rfl
 |true=>
  unfold Gh.blk at e;obtain⟨i,_,a⟩:=uV.1 e;cases es:σ.aU i with
  |none=>rw[es]at a;cases a
  |some s=>
   rw[es]at a;obtain⟨p,hp,c⟩:=uV.1 a;exact absurd (by simpa using c)<|h i s p es hp
theorem Fu.rd{X:vC}{σ:Gh}(h:Fu σ b)(ty:aP)(o:Nat):(X.bw σ).rd b ty o=false:=by show(X.mkd ty o&&σ.blk b)=false;rw[h.blk,LS]
theorem GO.aeF{X:vC}{σ:Gh}(g:GO X σ H)(d:H.size<=b):Fu σ b:=λi s p e hp z=>by obtain⟨_,c,ty,a,_⟩:=g.still i s p e hp;have:=(iF.1 a).1;omega
variable{F:List HP}
theorem aG.al{z:Value}{c:Array Value}[o:Zv P tt z](f:bk O i=some ⟨some t,.alloc tt,ty,pos,af,gd⟩)(h:∀ b,Fu σ b->At (aG P Post X σ 0 os out) d (dq b (.cells c tt (0,0))::As) (gr fn kd n (put e t<|.pointer<|some ⟨b,0,none⟩) ds (.inRegion O aa::k) cs))
  (hc:z.cells=c:=by first|(simp only[Value.cells];done)|(simp only[Value.cells];rfl)|rfl) (g:aN O n e gd=true:=by rfl):At (aG P Post X σ 0 os out) d As (gr fn kd n e ds (.inRegion O (i::aa)::k) cs):=λH st a go w j l m=>by
 have C:ab P true (X.bw σ) (aG P Post X σ 0 os out):=aG.eL;refine C.op (H:=H) (d:=d) (fn:=fn) (kd:=kd) (n:=n) (e:=e) (ds:=ds) (k:=k) (cs:=cs) (O:=O) (i:=i) (aa:=aa) (by rw[dJ];exact f) (by rw[eU];exact g) ?_ a go w j l m;unfold execOp;simp only[Instr.alloc];subst hc;refine ae<|ae<|oR _ H d _ ?_;exact h _ (go.aeF<|fC _) _<|st.push _
theorem aG.ap{f:α->List Value}{z:Nat}[o:jf f z]{el tt t3 Sa bz:Nat}{m l:List α}{yv:Value}{x y:dp}[cE:El P tt el][u:El P t3 Sa][Cz P el z][cB:Bz P el bz][Zv P el zv]
  (v:bk O i=some ⟨some t,.call ⟨.builtin .append,#[x,y],#[tt,t3]⟩,ty,pos,af,gd⟩) (hf:Fo (bK f z el s l) As F) (p:∀ b,s.a=some ⟨b,0,none⟩->Fu σ b) (A:∀ j,X.sh el j=false)
  (hsrc:∀ H,Sat (bK f z el s l::F) (hp H)->oT (X.bw σ) H z m.length yv (flat f m)) (h:∀ s',s'.len=l.length+m.length->(∀ b,s'.a=some ⟨b,0,none⟩->Fu σ b)->At (aG P Post X σ 0 os out) d (bK f z el s' (l++m)::F) (gr fn kd n (put e t s'.v) ds (.inRegion O aa::k) cs))
  (hsz:(l.length+m.length)*bz<=140737488355328) (B:zv.cells.size=z) (D:bz≠0) (hx:ev n e x=s.v) (E:ev n e y=yv) (I:aN O n e gd=true:=by rfl):At (aG P Post X σ 0 os out) d As (gr fn kd n e ds (.inRegion O (i::aa)::k) cs):=λH st c go w J K L=>by
 have C:ab P true (X.bw σ) (aG P Post X σ 0 os out):=aG.eL;refine C.op (H:=H) (d:=d) (fn:=fn) (kd:=kd) (n:=n) (e:=e) (ds:=ds) (k:=k) (cs:=cs) (O:=O) (i:=i) (aa:=aa) (by rw[dJ];exact v) (by rw[eU];exact I) ?_ c go w J K L;have q:=st.perm hf.perm;unfold execOp;simp only[resolve];refine ae<|aA ?_;simp only[CO,jq,ny,hx,E];unfold invoke builtin;refine ae ?_;refine AM o.len o.one B (λb j hs=>(p b hs).rd _ _) (λj=>A j) D hsz q (hsrc H q) λg M hl a hs=>aA ?_;refine h g hl (λb r=>?_) _ hs;rcases a with a|a
 .exact p b<|a▸r
 .rw[r]at a;obtain rfl:b=H.size:=by simpa using a
  exact go.aeF<|fC _
def bB(P:bT)(X:vC)(f:bN)(args:Array Value)(σ:Gh)(A:List HP)(Q:Value->Gh->List HP->Prop):Prop:=
 ∀ (Post:Value->World->Prop) (os:Os) (out:Array (Nat×ByteArray)) (kd:Kd) (F:List HP) (c:Frame) (cs:List Frame),zr kd c->(∀ v σ' aT,Q v σ' aT->At (aG P Post X σ' 0 os out) 0 (aT++F) (after kd c cs v))->At (aG P Post X σ 0 os out) 0 (A++F) (jA P f args kd<|c::cs)
theorem bB.of[b:Body P f fu c nf]{args:Array Value}{Q:Value->Gh->List HP->Prop}
  (h:∀ (Post:Value->World->Prop) (os:Os) (out:Array (Nat×ByteArray)) (kd:Kd) (F:List HP) (c':Frame) (cs:List Frame),ab P true (X.bw σ) (aG P Post X σ 0 os out)->zr kd c'->(∀ v σ' aT,Q v σ' aT->At (aG P Post X σ' 0 os out) 0 (aT++F) (after kd c' cs v))->At (aG P Post X σ 0 os out) 0 (A++F) (gr f kd nf (AH args) [] [.code c]<|c'::cs))
  (a:Nat.ble args.size nf=true:=by rfl):bB P X f args σ A Q:=λPost os out kd F c' cs d e=>by
 rw[nZ b.func b.body (by rw[b.tmps];exact zk a),b.tmps];exact h Post os out kd F c' cs aG.eL d e
theorem aI.g{args:Array Value}{Q:Value->List HP->Prop}(h:aI P true (X.bw σ) f args A Q):bB P X f args σ A (λv σ' aT=>σ'=σ/\Q v aT):=
 λPost os out kd F c cs a b=>h _ aG.eL kd 0 F c cs a λv aT q=>b v σ aT ⟨rfl,q⟩
theorem bB.post{args:Array Value}{Q a:Value->Gh->List HP->Prop}(h:bB P X f args σ A Q)(b:∀ v σ' aT,Q v σ' aT->a v σ' aT):bB P X f args σ A a:=
 λPost os out kd F c cs d e=>h Post os out kd F c cs d λv σ' aT q=>e v σ' aT<|b v σ' aT q
theorem aG.cl[b:Body P f fu c nf]{gY:Array aP}{a1 a2:Array Value}{Q:Value->Gh->List HP->Prop}(hs:bB P X f (a1++vl.toArray++a2) σ A Q)
  (h:∀ v σ' aT,Q v σ' aT->At (aG P Post X σ' 0 os out) 0 (aT++F) (gr fn kd n (dD e dst v) ds (.inRegion O aa::k) cs))
  (d:bk O i=some ⟨dst,.call ⟨.value fo,args,gY⟩,ty,pos,af,gd⟩:=by rfl) (hv:args.toList.map (ev n e)=vl:=by rfl) (hf:ev n e fo=.func (.func f) a1 a2:=by rfl)
  (hr:fK A As F:=by exact fK.au) (g:aN O n e gd=true:=by rfl):At (aG P Post X σ 0 os out) 0 As (gr fn kd n e ds (.inRegion O (i::aa)::k) cs):=by
 refine At.perm hr.perm ?_;have j:args.map (ev n e)=vl.toArray:=by rw[<- hv,<- sx,vo]
 have C:ab P true (X.bw σ) (aG P Post X σ 0 os out):=aG.eL;intro H st;refine C.still (g':=jA P f (a1++vl.toArray++a2) .rU<|aX fn kd n e ds (.inRegion O (i::aa)::k)::cs) rfl (λw=>DU (f:=f) (args:=a1++vl.toArray++a2) d g (by
  unfold execOp;simp only;refine bH (a:=⟨.fn (.func f) a2,a1++vl.toArray⟩) ?_ ?_
  .unfold resolve;simp only[hf,Deferred.ofValue,j];rfl
  .exact l3 _) w) ?_
 refine hs Post os out .rU F _ cs trivial (λv σ' aT q=>?_) H st;show At _ 0 _ (fP _ cs v);rw[qe d];exact h v σ' aT q
theorem aeG{Y:Type}(S:Y->Gh)(L:Y->List (Nat×Value))(I:Y->List HP)(Ok:Y->Prop)(m:Y->Nat)(x0:Y)(i:σ=S x0)(b:kM e (L x0))(d:Ok x0)
  (step:∀ x e,Ok x->(∀ y a aT,Ok y->m y<m x->kM a (L y)->dg aT (I y)->At (aG P Post X (S y) 0 os out) 0 aT (gr fn kd n a ds (.inLoop (cB c)::k) cs))->At (aG P Post X (S x) 0 os out) 0 (I x) (gr fn kd n (sV e<|L x) ds (.code (cB c):: .inLoop (cB c)::k) cs))
  (hI:dg As (I x0):=by exact dg.au) (hc:ck c=.loop:=by rfl):At (aG P Post X σ 0 os out) 0 As (gr fn kd n e ds (.code c::k) cs):=by
 subst i;have key:∀ (N:Nat) (x:Y) (e:Nat->Value) (As:List HP),m x=N->kM e (L x)->Ok x->dg As (I x)->At (aG P Post X (S x) 0 os out) 0 As (gr fn kd n e ds (.inLoop (cB c)::k) cs):=by
  intro N
  induction N using Nat.strongRecOn with
  |ind N j=>
   intro x e As p b d l;have C:ab P true (X.bw<|S x) (aG P Post X (S x) 0 os out):=aG.eL;refine At.mN l<|C.ilp ?_;rw[<- kX b];exact step x e d λy a aT f o g h=>j (m y) ai y a aT rfl g f h
 have C:ab P true (X.bw<|S x0) (aG P Post X (S x0) 0 os out):=aG.eL;refine At.mN hI<|C.lp ?_ hc;rw[<- kX b];exact step x0 e d λy a aT f o g h=>key _ y a aT rfl g f h
theorem aau{c:Code}{Y:Type}{S:Y->Gh}{L:Y->List (Nat×Value)}{I:Y->List HP}{Ok:Y->Prop}{m:Y->Nat}{x0:Y}{a:Code}(d:∀ y b aT,Ok y->m y<m x0->kM b (L y)->dg aT (I y)->At (aG P Post X (S y) 0 os out) 0 aT (gr fn kd n b ds (.inLoop a::k) cs))(y:Y)(f:σ=S y)(g:Ok y)(hm:m y<m x0)
  (h:kM e (L y):=by repeat(first|exact trivial|refine And.intro rfl ?_)) (hr:dg As (I y):=by exact dg.au):At (aG P Post X σ 0 os out) 0 As (gr fn kd n e ds (.inLoop a::k) cs):=by
 subst f;exact d y e As g hm h hr
theorem aG.cG[b:Body P fn fu cc n']{c:Frame}{v:Value}{x:Code}{Q:Value->Gh->List HP->Prop}(a:zr kd c)(d:∀ v σ' aT,Q v σ' aT->At (aG P Post X σ' 0 os out) 0 (aT++F) (after kd c cs v))(q:Q v σ A)(hv:vy fu n e=some v:=by rfl)(hx:ck x=.ret:=by rfl)
  (hr:fK A As F:=by exact fK.au):At (aG P Post X σ 0 os out) 0 As (gr fn kd n e [] (.code x::k)<|c::cs):=by
 have C:ab P true (X.bw σ) (aG P Post X σ 0 os out):=aG.eL;exact At.perm hr.perm<|C.R3 a (d v σ A q) hv hx
end
structure lB where
 tm:Int
 ord:Int
 tx:Int
 again:Bool
instance:Inhabited lB:=⟨⟨0,0,0,false⟩⟩
def lB.sj(a:lB):dU:=⟨a.tm,a.again,a.tx⟩
def ov(a b:lB):Prop:=a.tm<b.tm\/(a.tm=b.tm/\a.ord<b.ord)
abbrev gA(l:List lB)(k:Nat):lB:=l[k]?.getD default
theorem mQ{l:List lB}{k:Nat}(h:k<l.length):gA l k=l[k]:=by simp[gA,h]
def Fv(l:List lB)(i j:Nat):List lB:=(l.set i<|gA l j).set j<|gA l i
theorem zW(l:List lB)(i j:Nat):(Fv l i j).length=l.length:=by simp[Fv]
theorem A6{l:List lB}(hi:i<l.length)(hj:j<l.length):(Fv l i j).Perm l:=by grind [Fv,mQ,List.set_set_perm]
theorem zX{l:List lB}(hi:i<l.length)(hj:j<l.length)(k:Nat):gA (Fv l i j) k=if k=j then gA l i else if k=i then gA l j else gA l k:=by
 unfold gA Fv
 grind
def wa(l:List lB)(i j:Nat):Prop:=¬ ov (gA l i) (gA l j)
def iL(l:List lB)(n:Nat):Prop:=∀ k,0<k->k<n->wa l k ((k-1)/2)
def pF(l:List lB)(j:Nat):Prop:=(∀ k,0<k->k<l.length->k≠j->wa l k ((k-1)/2))/\(0<j->∀ k,0<k->k<l.length->(k-1)/2=j->wa l k ((j-1)/2))
def ti(l:List lB)(n i:Nat):Prop:=(∀ k,0<k->k<n->(k-1)/2≠i->wa l k ((k-1)/2))/\(0<i->∀ k,0<k->k<n->(k-1)/2=i->wa l k ((i-1)/2))
theorem pF.fin{l:List lB}(h:pF l j)(hj:j=(j-1)/2\/wa l j ((j-1)/2)):iL l l.length:=λk a b=>by
 by_cases e:k=j
 .grind
 .exact h.1 k a b e
theorem pF.push{l:List lB}(h:iL l l.length)(a:lB):pF (l++[a]) l.length:=by
 have c:∀ k,k<l.length->gA (l++[a]) k=gA l k:=λk b=>by unfold gA;rw[pT b]
 refine⟨λk d b f=>?_,λd k h1 b e=>?_⟩
 .have b:k<l.length:=by simp at b;omega
  unfold wa;rw[c k b,c _ ai];exact h k d b
 .simp at b;omega
theorem pF.step{l:List lB}(h:pF l j)(hj:j<l.length)(hi:i=(j-1)/2)(g:i≠j)(hl:ov (gA l j) (gA l i)):pF (Fv l i j) i:=by
 have n:i<j:=ai;have c:i<l.length:=ai;have hs:=zX c hj;refine⟨λk b a m=>?_,λb k h1 a e=>?_⟩
 .rw[zW]at a;unfold wa;rw[hs,hs,ax m];by_cases e1:k=j
  .grind [ov]
  .rw[ax e1];by_cases e2:(k-1)/2=j
   .rw[aJ e2];have:=h.2 ai k b a e2;rw[<- hi]at this;exact this
   .rw[ax e2];by_cases d:(k-1)/2=i
    .rw[aJ d];have:=h.1 k b a e1
     grind [wa,ov]
    .rw[ax d];exact h.1 k b a e1
 .rw[zW]at a;unfold wa;have o:(i-1)/2<i:=ai;rw[hs,hs,ax (show(i-1)/2≠j by omega),ax (show(i-1)/2≠i by omega)];have f:=h.1 i b c g;unfold wa at f;by_cases e1:k=j
  .rw[aJ e1];exact f
  .rw[ax e1,ax (show k≠i by omega)];have p:=h.1 k h1 a e1
   grind [wa,ov]
theorem ti.fin{l:List lB}{n:Nat}(h:ti l n i)(hc:∀ k,0<k->k<n->(k-1)/2=i->wa l k i):iL l n:=λk a b=>by
 by_cases e:(k-1)/2=i
 .rw[e];exact hc k a b e
 .exact h.1 k a b e
theorem ti.step{l:List lB}{n:Nat}(h:ti l n i)(p:n<=l.length)(hj:j<n)(d:0<j)(hi:i=(j-1)/2)(g:∀ k,0<k->k<n->(k-1)/2=i->wa l k j)(hl:ov (gA l j) (gA l i)):ti (Fv l i j) n j:=by
 have q:i<j:=ai;have m:i<l.length:=ai;have o:j<l.length:=ai;have hs:=zX m o;refine⟨λk a b f=>?_,λa k h1 b e=>?_⟩
 .unfold wa;rw[hs,hs,ax f];by_cases e1:k=j
  .grind [ov]
  .rw[ax e1];by_cases e2:k=i
   .subst e2;rw[aJ rfl,ax (show(k-1)/2≠k by omega)];have:=h.2 a j d hj hi.symm;exact this
   .rw[ax e2];by_cases c:(k-1)/2=i
    .rw[aJ c];exact g k a b c
    .rw[ax c];exact h.1 k a b c
 .unfold wa;rw[hs,hs,ax (show k≠j by omega),ax (show k≠i by omega),<- hi,ax (show i≠j by omega),aJ rfl];have:=h.1 k h1 b ai;rw[e]at this;exact this
theorem iL.least{l:List lB}{n:Nat}(h:iL l n):∀ k,k<n->wa l k 0:=by
 intro k
 induction k using Nat.strongRecOn with
 |ind k a=>
  intro b;by_cases c:k=0
  .subst c;unfold wa ov;omega
  .have h1:=h k ai b;have d:=a ((k-1)/2) ai ai;unfold wa ov at h1 d⊢;omega
theorem iL.out{l:List lB}{n:Nat}(h:iL l (n+1))(b:n<l.length):ti (Fv l 0 n) n 0:=by have hs:=zX (l:=l) (i:=0) (j:=n) ai b;refine⟨λk a c hp=>?_,λa=>by omega⟩;unfold wa;rw[hs,hs,ax (show k≠n by omega),ax (show k≠0 by omega),ax (show(k-1)/2≠n by omega),ax hp];exact h k a ai
theorem iL.take{l:List lB}{n:Nat}(h:iL l n):iL (l.take n) n:=λk c a=>by
 have b:∀ q,q<n->gA (l.take n) q=gA l q:=λq d=>by unfold gA;rw[LU d]
 unfold wa;rw[b k a,b _ ai];exact h k c a
theorem DV{c:Int}{m:dU}{q:Nat}:∀ (L:List dU) (i:Nat),(∀ t∈L,m.tm<=t.tm)->mD c L i (some (q,m))=some (q,m)
 |[],_,_=>rfl
 |t::l,i,h=>by
  have h1:=h t<|fX ..;have:decide (t.tm<m.tm)=false:=by simp;omega
  simp only[mD,this,LS,fW,eQ];exact DV l _ λt a=>h t<|fg _ a
def aav(c:Int)(t:dU)(acc:Option (Nat×dU)):Bool:=decide (t.tm<=c)&&(match acc with|none=>true|some (_,u)=>decide (t.tm<u.tm))
theorem DW(c:Int)(t:dU)(l:List dU)(i:Nat)(a:Option (Nat×dU)):mD c (t::l) i a=mD c l (i+1) (if aav c t a then some (i,t)else a):=rfl
theorem A7{c:Int}{m:dU}(hm:m.tm<=c):∀ (L:List dU) (k i:Nat) (a:Option (Nat×dU)),L[k]? =some m->(∀ t∈L,m.tm<=t.tm)->(∀ j t,j<k->L[j]? =some t->m.tm<t.tm)->(∀ q u,a=some (q,u)->m.tm<u.tm)->mD c L i a=some (i+k,m)
 |[],k,i,a,h,_,_,_=>by simp at h
 |t::l,0,i,a,h,f,b,g=>by
  obtain rfl:t=m:=by simpa using h
  have:aav c t a=true:=by
   unfold aav;cases a with
   |none=>simp[hm]
   |some p=>grind
  grind [DW,DV,List.mem_cons_of_mem]
 |t::l,k+1,i,a,h,f,b,g=>by
  have o:=b 0 t ai rfl;rw[DW,show i+(k+1)=i+1+k by omega];refine A7 hm l k (i+1) _ (by simpa using h) (λd n=>f d<|fg _ n) (λj d r hl=>b (j+1) d ai<|by simpa using hl) λq u e=>?_
  grind
theorem DX{c:Int}:∀ (L:List dU) (i:Nat),(∀ t∈L,c<t.tm)->mD c L i none=none
 |[],_,_=>rfl
 |t::l,i,h=>by
  have h1:=h t<|fX ..;have:decide (t.tm<=c)=false:=by simp;omega
  simp only[mD,this,yA,fW,eQ];exact DX l _ λt a=>h t<|fg _ a
structure ql(T:List lB)(order:Int)(l:List lB):Prop where
 perm:l.Perm T
 heap:iL l l.length
 inc:T.Pairwise λa b=>a.ord<b.ord
 le:∀ a∈T,a.ord<=order
theorem ql.zero(order:Int):ql [] order []:=⟨.refl _,λk c b=>by simp at b,.nil,λa h=>by cases h⟩
theorem ql.push{T l c:List lB}(h:ql T order l){a:lB}(ha:a.ord=order+1)(hp:c.Perm (l++[a]))(hh:iL c c.length):ql (T++[a]) (order+1) c:=
 ⟨hp.trans<|h.perm.append_right _,hh,List.pairwise_append.2 ⟨h.inc,by simp,λx b y d=>by obtain rfl:=dR.1 d;have:=h.le x b;omega⟩,λx b=>by
  rcases bS.1 b with b|b
  .have:=h.le x b;omega
  .obtain rfl:=dR.1 b;omega⟩
theorem ql.aeI{T l:List lB}{c:Int}(h:ql T order l)(hl:l=[]\/c<(gA l 0).tm):mD c (T.map (·.sj)) 0 none=none:=by
 refine DX _ _ λt e=>?_;obtain⟨a,b,rfl⟩:=cq.1 e;have b:=h.perm.mem_iff.2 b;rcases hl with rfl|hl
 .cases b
 .obtain⟨k,d,rfl⟩:=Dw.1 b;have:=h.heap.least k d;unfold wa ov at this;rw[mQ d]at this;show c<l[k].tm;omega
theorem ql.pop{T l f:List lB}{c:Int}{m:lB}(h:ql T order l)(o:l[0]? =some m)(hc:m.tm<=c)(hp:l.Perm (m::f))(hh:iL f f.length):
  ∃ k,T[k]? =some m/\mD c (T.map (·.sj)) 0 none=some (k,m.sj)/\ql (T.eraseIdx k) order f:=by
 have p:m∈T:=h.perm.mem_iff.1<|bD o;obtain⟨k,g,rfl⟩:=Dw.1 p;have i:∀ a∈T,¬ ov a T[k]:=λa b=>by
  obtain⟨q,r,rfl⟩:=Dw.1<|h.perm.mem_iff.2 b;have:=h.heap.least q r;unfold wa at this
  grind
 refine⟨k,cQ g,?_,?_⟩
 .have:=A7 (c:=c) (m:=T[k].sj) hc (T.map (·.sj)) k 0 none (by simp[g]) (λt d=>by
   obtain⟨a,b,rfl⟩:=cq.1 d;have:=i a b;unfold ov at this;show T[k].tm<=a.tm;omega) (λj t s d=>by
   rw[jJ]at d;have n:j<T.length:=ai;rw[cQ n]at d;obtain rfl:=cA d;have h1:=i T[j]<|dG _;have w:T[j].ord<T[k].ord:=Ds.1 h.inc j k n g s;unfold ov at h1;show T[k].tm<T[j].tm;omega) λq u e=>by cases e
  simpa using this
 .have v:T.Perm (T[k]::T.eraseIdx k):=by grind [List.take_append_drop,List.drop_eq_getElem_cons,List.eraseIdx_eq_take_drop_succ,List.perm_middle]
  refine⟨?_,hh,h.inc.sublist<|kL _ _,λa b=>h.le a<|uW b⟩;exact(List.perm_cons T[k]).1<|hp.symm.trans<|h.perm.trans v
section
open Go.Conc
section
variable{P:bT}{ao:Bool}{s:dP}{fn:bN}{kd:Kd}{n:Nat}{e:Nat->Value}{ds:List eK}{k:List Item}{cs:List Frame}
variable{O:Array Oper}{i:Nat}{aa:List Nat}{t:Nat}{ty:aP}{pos:String}{af:Array Edge}{gd:Option (Nat×Bool)}{x:dp}{v:Value}{m:Nat}
theorem SC(a:bk O i=some o)(b:aN O n e o.guard=true)(c:gG P (execOp (ev n e) o)=some (.value v))(q:Way P ao s m (gr fn kd n (dD e o.dst v) ds (.inRegion O aa::k) cs)):Way P ao s (m+1) (gr fn kd n e ds (.inRegion O (i::aa)::k) cs):=
 .inr ⟨rfl,λw _=>⟨_,#[],w.drawn,DT a b c w,by simp,q⟩⟩
theorem SD(a:bk O i=some ⟨some t,.move x,ty,pos,af,gd⟩)(q:Way P ao s m (gr fn kd n (put e t v) ds (.inRegion O aa::k) cs))(hx:ev n e x=v:=by conv=>{lhs;whnf})(b:aN O n e gd=true:=by rfl):Way P ao s (m+1) (gr fn kd n e ds (.inRegion O (i::aa)::k) cs):=
 SC a b (by unfold execOp;simp only[hx];rfl) q
theorem MD{a:Addr}(b:bk O i=some ⟨some t,.nilCheck x,ty,pos,af,gd⟩)(q:Way P ao s m (gr fn kd n (put e t<|.pointer<|some a) ds (.inRegion O aa::k) cs))(hx:ev n e x=.pointer (some a):=by rfl)(c:aN O n e gd=true:=by rfl):Way P ao s (m+1) (gr fn kd n e ds (.inRegion O (i::aa)::k) cs):=
 SC b c (by unfold execOp;simp only[hx];rfl) q
theorem ME{s' f o:Nat}[c:Fl P s' f o](g:bk O i=some ⟨some t,.fieldAddr s' x f,ty,pos,af,gd⟩)(q:Way P ao s m (gr fn kd n (put e t<|.pointer<|some ⟨b,off+o,none⟩) ds (.inRegion O aa::k) cs))(hx:ev n e x=.pointer (some ⟨b,off,none⟩):=by rfl)(h:aN O n e gd=true:=by rfl):Way P ao s (m+1) (gr fn kd n e ds (.inRegion O (i::aa)::k) cs):=
 SC g h (by obtain⟨u,d,z,h1,j,rfl,⟨inf,l,p⟩,r⟩:=c.h;unfold execOp;simp only[hx,Instr.fieldAt];refine bH (a:=.pointer<|some ⟨b,off+d.offset,none⟩) (bH (gq h1) ?_) rfl;simp only[j,Instr.sureAddr];refine bH (a:=(⟨b,off,none⟩:Addr)) rfl ?_;unfold fieldPlace;refine bH (a:=⟨b,off+d.offset,none⟩) ?_ rfl;refine bH (Hh ⟨inf,l,p⟩) ?_;rw[ax r,iI];rfl) q
theorem Hn[a:Ag P tt false](hm:(ad,v)∈s.mem)(b:bk O i=some ⟨some t,.load tt x,ty,pos,af,gd⟩)(q:Way P ao s m (gr fn kd n (put e t v) ds (.inRegion O aa::k) cs))(hx:ev n e x=.pointer (some ad):=by rfl)(c:aN O n e gd=true:=by rfl):Way P ao s (m+1) (gr fn kd n e ds (.inRegion O (i::aa)::k) cs):=by refine .inr ⟨rfl,λw d=>⟨_,_,w.drawn,Hl b c hx<|d _ hm,λe f=>?_,q⟩⟩;have:=Hk f;simp only[qO,gU,nY,gR]at this;exact⟨ad,this,(ad,v),hm,rfl⟩
end
structure DY(ops:Array Oper)(e0:Nat->Value)(D:List (Nat×Nat))(S:List SE)(L:Nat->Prop)(e:Nat->Value):Prop where
 v1:∀ x∈S,L x.i->e x.t=x.v
 v2:∀ s,JF D s=none->e s=e0 s
 v3:∀ s w,JF D s=some w->¬ L w->e s=e0 s
 cl:∀ w,L w->∀ j∈DK ops w,L j
section
variable{P:bT}{ao:Bool}{s:dP}{fn:bN}{kd:Kd}{n:Nat}{ds:List eK}{O:Array Oper}{k:List Item}{cs:List Frame}{e0:Nat->Value}{D:List (Nat×Nat)}{T is:List Nat}{S:List SE}
theorem DY.env{L:Nat->Prop}(h:DY O e0 D S L e){i:Nat}(hi:¬ L i)(hr:∀ j∈DK O i,L j){S':List SE}(c:∀ x∈S',x∈S):nR e0 D O i S' e=e:=by
 funext s
 unfold nR;cases h1:lkS S' (DK O i) s with
 |some v=>
  obtain⟨x,d,rfl,rfl,hp⟩:=Mv h1;exact(h.v1 x (c x d)<|hr _ hp).symm
 |none=>
  simp only;cases b:JF D s with
  |none=>exact(h.v2 s b).symm
  |some w=>
   simp only;split
   .rename_i f;have a:i∈DK O w:=by simpa using f
    exact(h.v3 s w b λhl=>hi<|h.cl w hl i a).symm
   .rfl
structure Wl(P:bT)(ao:Bool)(s:dP)(fn:bN)(kd:Kd)(n:Nat)(ds:List eK)(ops:Array Oper)(k:List Item)(cs:List Frame)(e0:Nat->Value)(D:List (Nat×Nat))(is:List Nat)(S:List SE):Prop where
 all:∀ i∈is,∃ x∈S,x.i=i
 sub:∀ x∈S,x.i∈is
 uq:∀ x∈S,∀ y∈S,x.i=y.i->x=y
 lk:∀ x∈S,jw ops x.i=some x.t
 ob:∀ x∈S,∃ Sx,(∀ y∈Sx,y∈S)/\∀ m e aa,Way P ao s m (gr fn kd n (put (nR e0 D ops x.i Sx e) x.t x.v) ds (.inRegion ops aa::k) cs)->Way P ao s (m+1) (gr fn kd n (nR e0 D ops x.i Sx e) ds (.inRegion ops (x.i::aa)::k) cs)
def Og(listed:Array Bool)(i:Nat):Prop:=listed[i]?.getD false=true
def Stood(O:Array Oper)(e0:Nat->Value)(D:List (Nat×Nat))(S:List SE)(r:Nat)(e:Nat->Value)(aa:List Nat):Prop:=
 ∃ md fuel t,∃ listed:Array Bool,listed.size=O.size/\xU (λi=>listed[i]?.getD false) O.size=fuel+1/\DY O e0 D S (Og listed) e/\¬ Og listed r/\(∀ j∈DK O r,Og listed j)/\aa=Region.linearise.go md O fuel t (listed.setIfInBounds r true) []
theorem MF{c:Region.Mode}(g:DO O D T is)(o:Wl P ao s fn kd n ds O k cs e0 D is S){r:Nat}(hr:r∈T)(hT:∀ t∈T,t≠r->reach O 8 t r=true)
  {p:Nat} (Ho:∀ e aa,Stood O e0 D S r e aa->Way P ao s p (gr fn kd n e ds (.inRegion O (r::aa)::k) cs)):
  ∀ (a t:Nat) (listed:Array Bool) (e:Nat->Value),listed.size=O.size->xU (λi=>listed[i]?.getD false) O.size=a->DY O e0 D S (Og listed) e->¬ Og listed r->
   Way P ao s (a+p) (gr fn kd n e ds (.inRegion O (Region.linearise.go c O a t listed [])::k) cs):=by
 intro a
 induction a with
 |zero=>
  intro t listed e d q st u;exact absurd (sX q r<|g.Tlt r hr) u
 |succ a ih=>
  intro t listed e d q st u;have C:∀ i,i∈((List.range O.size).filter λi=> !listed.getD i true&&((O[i]?).map (·.after.all λe=> !Region.binds c e||listed.getD e.on false)).getD false)↔i<O.size/\listed[i]?.getD false=false/\∀ j∈vA c O i,listed[j]?.getD false=true:=by
   intro i;simp only[gW,iA,jK,GN];constructor
   .rintro⟨h1,b,E⟩;refine⟨h1,?_,(uk h1).1 E⟩;have:i<listed.size:=ai;simpa[Array.getD_eq_getD_getElem?,this]using b
   .rintro⟨h1,b,E⟩;refine⟨h1,?_,(uk h1).2 E⟩;have:i<listed.size:=ai;simpa[Array.getD_eq_getD_getElem?,this]using b
  simp only[Region.linearise.go];generalize hG:((List.range O.size).filter λi=> !listed.getD i true&&((O[i]?).map (·.after.all λe=> !Region.binds c e||listed.getD e.on false)).getD false)=rs at C;obtain⟨i1,zu,Ob,_⟩:=jC (f:=λi=>listed[i]?.getD false) (m:=O.size) (by rw[q];omega);obtain⟨W,GZ,V9,Fp⟩:=g.prog c (λi=>listed[i]?.getD false) ⟨i1,zu,Ob⟩;have fA:rs.length≠0:=by have:W∈rs:=(C W).2 ⟨GZ,V9,Fp⟩;intro z;rw[QW]at z;rw[z]at this;cases this
  have X:t%rs.length<rs.length:=GR _ ai;rw[cQ X];simp only;generalize eE:rs[t%rs.length]=i;have cW:i∈rs:=by rw[<- eE];exact dG X
  obtain⟨Y,Z,F⟩:=(C i).1 cW;have A:∀ j∈DK O i,listed[j]?.getD false=true:=λj l=>F j<|zS l;have Sd:Region.linearise.go c O a (t/rs.length) (listed.setIfInBounds i true) [i]=i::Region.linearise.go c O a (t/rs.length) (listed.setIfInBounds i true) []:=oV c O a (t/rs.length) (listed.setIfInBounds i true) i;rw[Sd];have vr:(listed.setIfInBounds i true).size=O.size:=by simpa using d
  have CR:i<listed.size:=ai;have H:=zT (listed:=listed) CR;have Kb:¬ (listed[i]?.getD false=true):=by rw[Z];simp
  by_cases B:i=r
  .subst B;exact(Ho e _ ⟨c,a,_,listed,d,q,st,u,A,rfl⟩).mono ai
  .have Fq:xU (λj=>(listed.setIfInBounds i true)[j]?.getD false) O.size=a:=by have:=(wO (f:=λj=>listed[j]?.getD false) (f':=λj=>(listed.setIfInBounds i true)[j]?.getD false) (i:=i) Z (by simp[H]) (λj l=>by simp[H,l]) (m:=O.size)).1 Y;rw[q]at this;omega
   have v:∀ j,((listed.setIfInBounds i true)[j]?.getD false=true)↔(j=i\/listed[j]?.getD false=true):=λj=>by rw[H];by_cases e:j=i<;>simp[e]
   have iW:i∈is:=by
    rcases g.cov i Y with h|h
    .exact h
    .exfalso;have h1:=hT i h B;rcases mP (f:=7) h1 with b|⟨m,hm,b⟩
     .exact B b
     .exact u<|iB st.cl 7 m r b<|A m hm
   obtain⟨x,I,rfl⟩:=o.all i iW;obtain⟨Sx,J,ob⟩:=o.ob x I;have K:=o.lk x I;have Oc:=st.env Kb A (S':=Sx) J;have key:=ob (a+p) e<|Region.linearise.go c O a (t/rs.length) (listed.setIfInBounds x.i true) [];rw[Oc]at key;rw[show a+1+p=a+p+1 by omega];refine key (ih _ _ _ vr Fq ⟨λy L M=>?_,λs b=>?_,λs w b hw=>?_,λw hw j l=>?_⟩ λz=>?_)
   .by_cases N:y.i=x.i
    .have Q:y=x:=o.uq y L x I N;subst Q;simp[put]
    .have R:listed[y.i]?.getD false=true:=((v _).1 M).resolve_left N;have U:y.t≠x.t:=λe=>N<|wR g (o.lk y L)<|e▸K;simp only[put,ax U];exact st.v1 y L R
   .have:s≠x.t:=λe=>by subst e;rw[g.d2 _ _ K]at b;cases b
    simp only[put,ax this];exact st.v2 s b
   .have:s≠x.t:=λe=>by subst e;rw[g.d2 _ _ K]at b;exact hw<|(v w).2<|.inl (cA b).symm
    simp only[put,ax this];exact st.v3 s w b λh=>hw<|(v w).2<|.inr h
   .have hw:(listed.setIfInBounds x.i true)[w]?.getD false=true:=hw;show(listed.setIfInBounds x.i true)[j]?.getD false=true;rw[v]at hw⊢;rcases hw with rfl|hw
    .exact .inr<|A j l
    .exact .inr<|st.cl w hw j l
   .rcases(v r).1 z with h|h
    .exact B h.symm
    .exact u h
theorem Fw:∀ (N m:Nat),xU (λi=>(Array.replicate N false)[i]?.getD false) m=m
 |N,0=>rfl
 |N,m+1=>by unfold xU;rw[Fw N m,oj];rfl
theorem A8(D:List (Nat×Nat))(is T:List Nat)(r:Nat)(S:List SE)(b:Wl P ao s fn kd n ds (cO c) k cs e0 D is S)(d:Nat)(f:∀ e aa,Stood (cO c) e0 D S r e aa->Way P ao s d (gr fn kd n e ds (.inRegion (cO c) (r::aa)::k) cs))
  (hr:r∈T:=by decide) (i:(T.all λt=>t==r||reach (cO c) 8 t r)=true:=by decide+kernel) (hc:ck c=.draw:=by rfl) (j:u5 (cO c) D T is=true:=by decide+kernel):Way P ao s ((cO c).size+d+1) (gr fn kd n e0 ds (.code c::k) cs):=by
 have g:=wQ j;refine aar (λt=>?_) hc;have st:DY (cO c) e0 D S (Og<|Array.replicate (cO c).size false) e0:=⟨λx _ h=>absurd h (by unfold Og;rw[oj];simp),λ_ _=>rfl,λ_ _ _ _=>rfl,λw h=>absurd h (by unfold Og;rw[oj];simp)⟩;have a:∀ t∈T,t≠r->reach (cO c) 8 t r=true:=λt l m=>by have:=lz.1 i t l;simpa[m]using this
 unfold Region.schedule;split
 .unfold Region.linearise;exact MF g b hr a f _ _ _ _ (by simp) (Fw _ _) st (by unfold Og;rw[oj];simp)
 .unfold Region.linearise;exact MF g b hr a f _ _ _ _ (by simp) (Fw _ _) st (by unfold Og;rw[oj];simp)
theorem Oh(D:List (Nat×Nat))(is T:List Nat)(r:Nat)(S:List SE)(b:Wl P ao s fn kd n ds (cO c) k cs e0 D is S)(d:∀ e aa,Stood (cO c) e0 D S r e aa->Rr P ao s (gr fn kd n e ds (.inRegion (cO c) (r::aa)::k) cs))
  (hr:r∈T:=by decide) (f:(T.all λt=>t==r||reach (cO c) 8 t r)=true:=by decide+kernel) (hc:ck c=.draw:=by rfl) (g:u5 (cO c) D T is=true:=by decide+kernel) (a:Nat.ble (cO c).size 39=true:=by rfl):Way P ao s 40 (gr fn kd n e0 ds (.code c::k) cs):=by
 have a:=zk a;exact Way.mono (A8 D is T r S b 0 d hr f hc g) ai
theorem Stood.aa{r:Nat}{aa:List Nat}(h:Stood O e0 D S r e aa)(ha:((List.range O.size).all λi=>i==r||reach O 8 r i)=true):aa=[]:=by
 obtain⟨z,d,t,listed,o,A,st,p,q,rfl⟩:=h;have hl:∀ i,i<O.size->i≠r->Og listed i:=λi hi l=>by
  have:=lz.1 ha i<|iA.2 hi;have h1:reach O 8 r i=true:=by simpa[l]using this
  rcases mP (f:=7) h1 with c|⟨m,s,c⟩
  .exact absurd c.symm l
  .exact iB st.cl 7 m i c<|q m s
 have B:xU (λi=>(listed.setIfInBounds r true)[i]?.getD false) O.size=0:=by
  obtain⟨b,g,a,_⟩|h:=Classical.em (∃ i,i<O.size/\(listed.setIfInBounds r true)[i]?.getD false=false/\True)
  .exfalso;have u:b<listed.size:=ai;by_cases e:b=r
   .subst e;simp[u]at a
   .rw[ir (j6 e)]at a;have:=hl b g e;unfold Og at this;rw[this]at a;cases a
  .rcases NQ (xU (λi=>(listed.setIfInBounds r true)[i]?.getD false) O.size)with h1|h1
   .exact h1
   .obtain⟨b,g,a,_⟩:=jC (f:=λi=>(listed.setIfInBounds r true)[i]?.getD false)<|Q0.1 h1;exact absurd ⟨b,g,a,trivial⟩ h
 by_cases k:r<O.size
 .have v:r<listed.size:=ai;have n:=zT (listed:=listed) v;have w:listed[r]?.getD false=false:=by
   cases e:listed[r]?.getD false with
   |false=>rfl
   |true=>exact absurd e p
  have:=(wO (f:=λj=>listed[j]?.getD false) (f':=λj=>(listed.setIfInBounds r true)[j]?.getD false) (i:=r) w (by simp[n]) (λj x=>by simp[n,x]) (m:=O.size)).1 k;have y:d=0:=ai;subst y;rfl
 .exfalso;have:xU (λi=>listed[i]?.getD false) O.size=0:=by
   rcases NQ (xU (λi=>listed[i]?.getD false) O.size)with h1|h1
   .exact h1
   .obtain⟨b,g,a,_⟩:=jC (f:=λi=>listed[i]?.getD false)<|Q0.1 h1;have c:=hl b g ai;unfold Og at c;rw[c]at a;cases a
  omega
theorem Stood.listed{r:Nat}{e:Nat->Value}{aa:List Nat}(h:Stood O e0 D S r e aa)(ha:((List.range O.size).all λi=>i==r||reach O 8 r i)=true):∃ L:Nat->Prop,DY O e0 D S L e/\¬ L r/\∀ i,i<O.size->i≠r->L i:=by
 obtain⟨l,b,t,listed,d,n,st,g,j,rfl⟩:=h;refine⟨_,st,g,λi hi c=>?_⟩;have:=lz.1 ha i<|iA.2 hi;have h1:reach O 8 r i=true:=by simpa[c]using this
 rcases mP (f:=7) h1 with a|⟨m,k,a⟩
 .exact absurd a.symm c
 .exact iB st.cl 7 m i a<|j m k
theorem SF:∀ {S:List SE} {s:Nat},(∀ x∈S,x.t≠s)->QB S s=none
 |[],_,_=>rfl
 |x::S,s,h=>by unfold QB;rw[ax (h x<|fX ..)];exact SF λy a=>h y<|fg _ a
theorem MG:∀ {S:List SE} {s:Nat} {v:Value},(∃ x∈S,x.t=s)->(∀ x∈S,x.t=s->x.v=v)->QB S s=some v
 |[],_,_,h,_=>by obtain⟨x,d,_⟩:=h;cases d
 |x::S,s,v,h,b=>by
  unfold QB;by_cases e:x.t=s
  .rw[aJ e,b x (fX ..) e]
  .rw[ax e];refine MG ?_ λy a=>b y<|fg _ a;obtain⟨y,a,c⟩:=h;rcases gU.1 a with rfl|a
   .exact absurd c e
   .exact⟨y,a,c⟩
theorem Stood.full{r:Nat}{aa:List Nat}(b:DO O D T is)(hr:r∈T)(l:T=[r])(all:∀ i∈is,∃ x∈S,x.i=i)(c:∀ x∈S,x.i∈is)(m:∀ x∈S,∀ y∈S,x.i=y.i->x=y)(lk:∀ x∈S,jw O x.i=some x.t)
  (h:Stood O e0 D S r e aa) (ha:((List.range O.size).all λi=>i==r||reach O 8 r i)=true):e=rI e0 S:=by
 obtain⟨L,st,n,hl⟩:=h.listed ha;have g:∀ x∈S,x.i<O.size/\x.i≠r:=λx a=>⟨(b.isT x.i<|c x a).2,λz=>(b.isT x.i<|c x a).1 (by rw[z];exact hr)⟩;have o:∀ s,(∀ x∈S,x.t≠s)->e s=e0 s:=λs hs=>by
  cases f:JF D s with
  |none=>exact st.v2 s f
  |some w=>
   refine st.v3 s w f λp=>?_;have d:=b.d1 s w f;rcases b.cov w (oi d)with h1|h1
   .obtain⟨x,a,rfl⟩:=all w h1;have:=lk x a;rw[d]at this;exact hs x a (cA this).symm
   .rw[l]at h1;obtain rfl:=dR.1 h1;exact n p
 funext s
 unfold rI;by_cases hs:∃ x∈S,x.t=s
 .obtain⟨x,a,rfl⟩:=hs;rw[MG (v:=x.v) ⟨x,a,rfl⟩ λy j q=>by have:=m y j x a<|wR b (lk y j)<|q▸lk x a;rw[this]]
  exact st.v1 x a<|hl x.i (g x a).1 (g x a).2
 .have k:∀ x∈S,x.t≠s:=λx a z=>hs ⟨x,a,z⟩;rw[SF k];exact o s k
theorem Ki{q:Nat}(D:List (Nat×Nat))(is:List Nat)(r:Nat)(S:List SE)(a:Wl P ao s fn kd n ds (cO c) k cs e0 D is S)(h:Way P ao s q (gr fn kd n (rI e0 S) ds (.inRegion (cO c) [r]::k) cs))
  (ha:((List.range (cO c).size).all λi=>i==r||reach (cO c) 8 r i)=true:=by decide+kernel) (hc:ck c=.draw:=by rfl) (d:u5 (cO c) D [r] is=true:=by decide+kernel) (b:Nat.ble (cO c).size 39=true:=by rfl):Way P ao s (q+40) (gr fn kd n e0 ds (.code c::k) cs):=by
 have b:=zk b;refine Way.mono (n:=(cO c).size+q+1) ?_ ai;refine A8 D is [r] r S a q (λe aa f=>?_) (dR.2 rfl) (by simp) hc d;rw[f.aa ha,f.full (T:=[r]) (wQ d) (dR.2 rfl) rfl a.all a.sub a.uq a.lk ha];exact h
end
section
variable{R:Nat->aO->Array Obj->Prop}{d:Nat}{fn:bN}{kd:Kd}{n:Nat}{ds:List eK}{O:Array Oper}{k:List Item}{cs:List Frame}{e0:Nat->Value}{D:List (Nat×Nat)}{W As:List HP}{T is:List Nat}{a:Nat}{S:List SE}
theorem resume{T2:List Nat}{r t0:Nat}{v:Value}(N:u5 O D (r::T2) is=true)(all:∀ i∈is,∃ x∈S,x.i=i)(q:∀ x∈S,x.i∈is)(P:∀ x∈S,∀ y∈S,x.i=y.i->x=y)(lk:∀ x∈S,jw O x.i=some x.t)
  (Q:∀ x∈S,∃ E,(∀ y∈E,y∈⟨r,t0,v,false⟩::S)/\Obl R d fn kd n ds O k cs e0 D W E x) (hl:∀ x∈S,x.ld=true->((r::T2).filter λt=> !reach O 8 t x.i).length<=a) (ha:1<=a) (U:Ext As W)
  (X:∀ t∈T2,reach O 8 t r=true) (l:jw O r=some t0) (Y:Ch R d fn kd n ds O k cs e0 D W T2.length S T2 (a-1) [⟨r,t0,v,false⟩] As)
   {aa:List Nat} (h:Stood O e0 D S r e aa):At R d As (gr fn kd n (put e t0 v) ds (.inRegion O aa::k) cs):=by
 obtain⟨md,g,t,listed,H,c,st,M,Z,rfl⟩:=h;have o:=wQ N;have dH:r<O.size:=oi l;have CR:r<listed.size:=ai;have I:=zT (listed:=listed) CR;have CA:listed[r]?.getD false=false:=by
  cases e:listed[r]?.getD false with
  |false=>rfl
  |true=>exact absurd e M
 have p:∀ j,((listed.setIfInBounds r true)[j]?.getD false=true)↔(j=r\/listed[j]?.getD false=true):=λj=>by rw[I];by_cases e:j=r<;>simp[e]
 have Fq:xU (λj=>(listed.setIfInBounds r true)[j]?.getD false) O.size=g:=by have:=(wO (f:=λj=>listed[j]?.getD false) (f':=λj=>(listed.setIfInBounds r true)[j]?.getD false) (i:=r) CA (by simp[I]) (λj F=>by simp[I,F]) (m:=O.size)).1 dH;rw[c]at this;omega
 have J:=um o.nd;have A:r∉T2:=(qP.1 J).1;have B:∀ x∈S,x.i≠r:=λx b z=>(o.isT x.i<|q x b).1 (by rw[z];exact fX ..);refine xV (T:=r::T2) (is:=is) (a:=a) (W:=W) (mL:=As) (e0:=e0) (D:=D) o g t (listed.setIfInBounds r true) (put e t0 v) S [⟨r,t0,v,false⟩] [r] T2 [] As (by simpa using H) Fq ⟨λx b K=>?_,λs hs=>?_,λs w hs hw=>?_,λw hw j F=>?_,?_,λu c=>?_,λu c z=>?_,λx b=>?_,λu c s hs=>?_,λx b=>?_,λx b=>?_,λi hi=>?_,hl,P,Y,λ_=>U⟩
 .rcases bS.1 b with b|b
  .obtain rfl:=dR.1 b;simp[put]
  .have L:x.t≠t0:=λz=>B x b<|wR o (lk x b)<|z▸l;simp only[put,ax L];exact st.v1 x b<|((p _).1 K).resolve_left<|B x b
 .have:s≠t0:=λz=>by subst z;rw[o.d2 _ _ l]at hs;cases hs
  simp only[put,ax this];exact st.v2 s hs
 .have:s≠t0:=λz=>by subst z;rw[o.d2 _ _ l]at hs;exact hw<|(p w).2<|.inl (cA hs).symm
  simp only[put,ax this];exact st.v3 s w hs λz=>hw<|(p w).2<|.inr z
 .rw[p]at hw⊢;rcases hw with rfl|hw
  .exact .inr<|Z j F
  .exact .inr<|st.cl w hw j F
 .simp
 .obtain rfl:=dR.1 c;exact(p u).2<|.inl rfl
 .rcases(p u).1 z with rfl|h
  .exact A c
  .rcases mP (f:=7) (X u c)with C|⟨m,hm,C⟩
   .exact A<|C▸c
   .exact M<|iB st.cl 7 m r C<|st.cl u h m hm
 .rcases bS.1 b with b|b
  .obtain rfl:=dR.1 b;exact l
  .exact lk x b
 .obtain rfl:=dR.1 c;rw[l]at hs;exact⟨_,dR.2 rfl,cA hs⟩
 .obtain rfl:=dR.1 b;exact dR.2 rfl
 .obtain⟨E,h1,C⟩:=Q x b;exact⟨.inl<|q x b,E,h1,C⟩
 .exact all i<|hi.resolve_right<|by simp
end
end
section
open Go.Conc
theorem dK{B:lM}{s:Sem α}{v:α}{Q:α->Array Obj->Nat->Prop}(h:gG P s=some v)(q:Q v H d):dQ P B s H d Q:=by
 induction s with
 |pure a=>obtain rfl:=cA h;exact q
 |program k b=>exact b P h
 |_=>cases h
variable{P:bT}{ao:Bool}{B:lM}{R:Nat->aO->Array Obj->Prop}{d:Nat}{As aT F:List HP}
variable{fn:bN}{kd:Kd}{n:Nat}{e:Nat->Value}{ds:List eK}{k:List Item}{cs:List Frame}
variable{O:Array Oper}{i:Nat}{aa:List Nat}{dst:Option Nat}{t:Nat}{ty:aP}{pos:String}{af:Array Edge}{gd:Option (Nat×Bool)}{x y z:dp}{v:Value}
theorem ab.v0(C:ab P ao B R){op:Op}(a:bk O i=some ⟨some t,op,ty,pos,af,gd⟩)(h:Nx R d As fn kd n e ds O aa k cs t v)(hv:gG P (execOp (ev n e) ⟨some t,op,ty,pos,af,gd⟩)=some (.value v))(b:aN O n e gd=true:=by rfl):
  Nw R d As fn kd n e ds O i aa k cs:=
 C.gen a b λH s=>dK hv ⟨As,s,h⟩
theorem ab.ta(C:ab P ao B R){ok:Bool}{u:TypeDesc}(hu:P.underlying tt=some u)(b:(match u with|.interface _=>true|_=>false)=false)(c:bk O i=some ⟨some t,.typeAssert x xt tt ok,ty,pos,af,gd⟩)
  (h:Nx R d As fn kd n e ds O aa k cs t (if ok then .tuple #[v,.bool true]else v)) (hx:ev n e x=.iface tt v:=by rfl) (f:aN O n e gd=true:=by rfl):
  Nw R d As fn kd n e ds O i aa k cs:=
 C.v0 c h (by unfold execOp;simp only[hx];refine bH (a:=if ok then .tuple #[v,.bool true]else v) ?_ rfl;unfold Instr.typeAssert;refine bH (gq hu) ?_;cases u<;>first|(cases b;done)|(simp only[fq];rfl)) f
theorem ab.taN(C:ab P ao B R){u:TypeDesc}(hu:P.underlying tt=some u)(b:(match u with|.interface _=>true|_=>false)=false)(hz:∃ i,P.info? tt=some i/\i.zero=some zv)(c:bk O i=some ⟨some t,.typeAssert x xt tt true,ty,pos,af,gd⟩)
  (h:Nx R d As fn kd n e ds O aa k cs t (.tuple #[zv,.bool false])) (hx:ev n e x=.iface t0 v:=by rfl) (f:t0≠tt:=by decide) (g:aN O n e gd=true:=by rfl):
  Nw R d As fn kd n e ds O i aa k cs:=
 C.v0 c h (by unfold execOp;simp only[hx];refine bH (a:=.tuple #[zv,.bool false]) ?_ rfl;unfold Instr.typeAssert;refine bH (gq hu) ?_;cases u<;>first|(cases b;done)|(simp only[ax f,fq];exact bH (te hz) rfl)) g
theorem ab.en(C:ab P ao B R){args:Array Value}{Q:Value->List HP->Prop}(hs:aI P ao B f args A Q)(b:gG P (execOp (ev n e) o)=some (.enter f args))
  (h:∀ v aT,Q v aT->At R d (aT++F) (gr fn kd n (dD e o.dst v) ds (.inRegion O aa::k) cs)) (a:bk O i=some o:=by rfl)
  (hr:fK A As F:=by exact fK.au) (c:aN O n e o.guard=true:=by rfl):Nw R d As fn kd n e ds O i aa k cs:=by
 refine At.perm hr.perm (C.gen a c λH s=>dK b ⟨A++F,s,?_⟩);exact hs R C .rU d F _ cs trivial λv aT q=>by show At R d (aT++F) (fP _ cs v);rw[qe a];exact h v aT q
theorem ab.x0(C:ab P ao B R)[b:fi P f fu ex](hx:gG P (ex vl.toArray)=some v)
  (a:bk O i=some ⟨dst,.call ⟨.value fo,args,gY⟩,ty,pos,af,gd⟩) (h:At R d As (gr fn kd n (dD e dst v) ds (.inRegion O aa::k) cs)) (hf:ev n e fo=.func (.func f) #[] #[]:=by rfl) (hv:args.toList.map (ev n e)=vl:=by rfl) (c:aN O n e gd=true:=by rfl):
  Nw R d As fn kd n e ds O i aa k cs:=
 C.xt (vl:=vl) (λH s=>dK hx ⟨As,s,h⟩) a c hf hv
theorem aaw{a:ChanDir}(hu:P.underlying tt=some (.chan a el))(hi:P.info? el=some inf){Q:Next->Array Obj->Nat->Prop}(q:Q (.value<|.chan<|some H.size) (H.push<|.chan 0 #[] false 0 0 false) d)
  (hx:ev n e x=.int .i64 0)  (b:o.op=.makeChan tt x):dQ P B (execOp (ev n e) o) H d Q:=by
 unfold execOp;simp only[b,hx];refine ae ?_;unfold Instr.makeChan;refine ae<|dK (v:=(0:Int)) rfl ?_;refine ae<|dK (gq hu) ?_;refine ae ?_;simp only[Int.lt_irrefl,false_or];refine dK (oq hi) ?_;have h1:¬ ((0:Int)>IntKind.i64.max):=by decide
 have c:¬ ((inf.bytes:Int)*0>2^48-112):=by simp
 simp only[h1,c,or_self,eQ];show dQ P B (newObj (.chan 0 #[] false 0 0 false) >>= λr=>_) H d _;exact q
theorem ab.dfx(C:ab P ao B R)[b:fi P f fu ex]{cap i:Array Value}{a:List eK}{kd:Kd}
  (h:∀ H,Sat As (hp H)->dQ P B (ex<|i++cap) H d λv c g=>∃ aT,Sat aT (hp c)/\At R g aT (sQ fn kd n e a todo cs)):At R d As (sQ fn kd n e (⟨.fn (.func f) cap,i⟩::a) todo cs):=λH s=>by
 refine C.step d _ H rfl λw l=>?_;have m:dQ P B (invoke (.fn (.func f) cap) i) H d λy c g=>∃ v,y=.value v/\R g (sQ fn kd n e a todo cs) c:=by unfold invoke callFunc;refine ae ?_;show dQ P B _ H d _;simp only[program,dQ];rw[b.func];simp only[b.name,b.body,fq,fW,eQ];refine ae ?_;simp only[mark,dQ,lV,pD,pU];simp only[b.nx,b.fd];refine ae<|qb (λv c g q=>?_)<|h H s;obtain⟨aT,s',q⟩:=q;exact aA ⟨v,rfl,q c s'⟩
 obtain⟨y,w',es,g,j,o,p,r,t,u,v,rfl,x⟩:=qc (w:=w) #[] l m;obtain⟨z,k⟩:=qd (P:=P) (d:=d) (fn:=fn) t;rw[u]at k;refine⟨_,w',seen P fn es,?_,o,p,r,z,by rw[k];exact x⟩;simp only[zj,CL]at j;simp only[sQ,rV,aX,stepG,unwind,callDeferred,j];simp[GStep.after,Kd.k]
variable{Post:Value->World->Prop}{X:vC}{σ:Gh}{os:Os}{out:Array (Nat×ByteArray)}
theorem aG.mc{c:ChanDir}(hu:P.underlying tt=some (.chan c el))(hi:P.info? el=some inf)(f:bk O i=some ⟨some t,.makeChan tt x,ty,pos,af,gd⟩)
  (h:∀ b,(∀ i s,σ.aU i=some s->¬ s.has b)->At (aG P Post X σ 0 os out) d (dq b (.chan 0 #[] false 0 0 false)::As) (gr fn kd n (put e t<|.chan<|some b) ds (.inRegion O aa::k) cs))
  (hx:ev n e x=.int .i64 0:=by rfl) (g:aN O n e gd=true:=by rfl):At (aG P Post X σ 0 os out) d As (gr fn kd n e ds (.inRegion O (i::aa)::k) cs):=λH st a go w j l m=>by
 have C:ab P true (X.bw σ) (aG P Post X σ 0 os out):=aG.eL;refine C.op (H:=H) (d:=d) (fn:=fn) (kd:=kd) (n:=n) (e:=e) (ds:=ds) (k:=k) (cs:=cs) (O:=O) (i:=i) (aa:=aa) (by rw[dJ];exact f) (by rw[eU];exact g) ?_ a go w j l m;refine aaw hu hi ?_ hx rfl;refine h _ (λo s' p q=>?_) _<|st.push _;have:=go.cl o s' _ p q;omega
theorem aG.qJ{f:bN}{cap c:Array Value}{a:List eK}{todo:List Item}{kd:Kd}{A:List HP}{Q:Value->Gh->List HP->Prop}{fu:Func}{cc:Code}{nf:Nat}[b:Body P f fu cc nf](hs:bB P X f (c++cap) σ A Q)
  (h:∀ v σ' aT,Q v σ' aT->At (aG P Post X σ' 0 os out) 0 (aT++F) (sQ fn kd n e a todo cs)) (hr:fK A As F:=by exact fK.au):At (aG P Post X σ 0 os out) 0 As (sQ fn kd n e (⟨.fn (.func f) cap,c⟩::a) todo cs):=by
 refine At.perm hr.perm ?_;have C:ab P true (X.bw σ) (aG P Post X σ 0 os out):=aG.eL;intro H st;refine C.V2 (f:=f) (args:=c) (.inr ⟨cap,rfl⟩) ?_;refine oQ (P:=P) (f:=f) (c++cap) _ H 0 _ ?_;refine⟨f,_,rfl,?_⟩;exact hs Post os out .qJ F (rV fn kd n e a todo) cs rfl (λv σ' aT q=>h v σ' aT q) H st
theorem zY{o:Nat}{c:Array Value}(h1:hp H b=some (.cells c el (0,0)))(q:Q false H d):dQ P B (frozen ⟨b,o,none⟩) H d Q:=by have a:H[b]? =some (.cells c el (0,0)):=h1;simp only[frozen,dQ,zQ,a];simpa using q
theorem Hp{o:Nat}{c:Array Value}(h1:hp H b=some (.cells c el (0,0)))(q:Q false H d):dQ P B (stringish ⟨b,o,none⟩) H d Q:=by unfold stringish;refine ae<|zY h1 ?_;simp only[fW,eQ];refine ae ?_;have a:H[b]? =some (.cells c el (0,0)):=h1;simp only[shape,dQ,vx,a];exact zY h1 q
theorem SG{e f:Array Value}(h1:hp H b1=some (.cells e e1 (0,0)))(a:hp H b2=some (.cells f e2 (0,0)))
  (q:Q (decide (b1=b2/\o1=o2)) H d):dQ P B (sameAddr ⟨b1,o1,none⟩ ⟨b2,o2,none⟩) H d Q:=by
 unfold sameAddr;by_cases b:b1=b2
 .subst b;simp only[beq_self_eq_true,fq];refine ae<|aA ?_;have:((⟨b1,o1,none⟩:Addr)==⟨b1,o2,none⟩)=decide (b1=b1/\o1=o2):=by rw[Bool.eq_iff_iff];simp
  first|exact aA (by rw[this];exact q)|(simp only[this];exact q)
 .have c:(b1==b2)=false:=by simpa using b
  simp only[c,fW,eQ];refine ae<|zY h1 ?_;refine ae<|zY a ?_;simp only[Bool.and_self,fW,eQ];refine ae<|ae ?_;refine qW h1 ?_;refine aA ?_;refine ae<|ae ?_;refine qW a ?_;refine aA ?_;refine ae ?_;unfold mayBeOne;refine ae<|Hp h1 ?_;refine ae<|Hp a ?_;refine ae<|ae ?_;have g:H[b1]? =some (.cells e e1 (0,0)):=h1;have h:H[b2]? =some (.cells f e2 (0,0)):=a;simp only[shape,dQ,vx,g];refine aA ?_;refine ae<|ae ?_;simp only[shape,dQ,vx,h];refine aA ?_;simp only[yA,Bool.or_self];refine aA ?_;have:decide (b1=b2/\o1=o2)=false:=by simp[b]
  rw[this]at q;exact q
theorem Wm{b e:Array Value}{tx a:aP}(hu:P.underlying tt=some (.interface ms))(hi:P.info? tx=some inf)(hc:inf.comparable=true)[c:Pt P tx a][g:Cz P a sz](hz:sz≠0)
  (h1:hp H b1=some (.cells b e1 (0,0))) (f:hp H b2=some (.cells e e2 (0,0))) (q:Q (decide (b1=b2/\o1=o2)) H d):dQ P B (Op.equal tt (.iface tx<|.pointer<|some ⟨b1,o1,none⟩)<|.iface tx<|.pointer<|some ⟨b2,o2,none⟩) H d Q:=by
 unfold Op.equal;show dQ P B (Op.equalIn (9998+1+1) _ _ _) H d Q;unfold Op.equalIn;refine ae<|dK (gq hu) ?_;simp only[ne_eq,JO,eQ];refine ae<|dK (oq hi) ?_;simp only[hc,uX,fW,eQ];unfold Op.equalIn;refine ae<|dK (gq c.h) ?_;simp only;refine ae<|ja B H d _ ?_;simp only[ne_eq,hz,not_false_eq_true,fq];exact SG h1 f q
theorem Wn{tx ty:aP}{w:Value}(hu:P.underlying tt=some (.interface ms))(a:tx≠ty)(q:Q false H d):dQ P B (Op.equal tt (.iface tx u)<|.iface ty w) H d Q:=by unfold Op.equal;show dQ P B (Op.equalIn (9998+1+1) _ _ _) H d Q;unfold Op.equalIn;refine ae<|dK (gq hu) ?_;simp only[ne_eq,a,not_false_eq_true,fq];exact aA q
def isEq:BinOp->Option Bool
 |.eql=>some true
 |.neq=>some false
 |_=>none
theorem MH{op:BinOp}{tx ty:aP}{w:Value}{Q:Value->Array Obj->Nat->Prop}(a:isEq op=some r)(h:dQ P B (Op.equal tt (.iface tx u)<|.iface ty w) H d λz b c=>Q (.bool<|z==r) b c):dQ P B (do eqGuard op tt x y (.iface tx u) (.iface ty w);binOp op tt (.iface tx u) (.iface ty w)) H d Q:=by
 cases op<;>first|(cases a;done)|skip
 .obtain rfl:=cA a;refine ae<|dK (v:=()) ?_ ?_
  .unfold eqGuard;rfl
  .show dQ P B (Op.equal _ _ _ >>= λz=>pure<|.bool z) H d Q;refine ae<|qb (λz b c e=>?_) h;refine aA<|?_;simpa using e
 .obtain rfl:=cA a;refine ae<|dK (v:=()) ?_ ?_
  .unfold eqGuard;rfl
  .show dQ P B (Op.equal _ _ _ >>= λz=>pure<|.bool<|!z) H d Q;refine ae<|qb (λz b c e=>?_) h;refine aA<|?_;simpa using e
theorem ab.YW(C:ab P ao B R){op:BinOp}{b f:Array Value}{tx a:aP}(hu:P.underlying tt=some (.interface ms))(hi:P.info? tx=some inf)(hc:inf.comparable=true)[c:Pt P tx a][p:Cz P a sz]
  (g:bk O i=some ⟨some t,.binOp op tt x y t2,ty,pos,af,gd⟩) (h:At R d As (gr fn kd n (put e t<|.bool<|decide (b1=b2/\o1=o2)==r) ds (.inRegion O aa::k) cs)) (h1:∀ H,Sat As (hp H)->hp H b1=some (.cells b e1 (0,0))) (j:∀ H,Sat As (hp H)->hp H b2=some (.cells f e2 (0,0)))
  (l:isEq op=some r:=by rfl) (hx:ev n e x=.iface tx (.pointer<|some ⟨b1,o1,none⟩):=by rfl) (m:ev n e y=.iface tx (.pointer<|some ⟨b2,o2,none⟩):=by rfl) (hz:sz≠0:=by decide) (o:aN O n e gd=true:=by rfl):Nw R d As fn kd n e ds O i aa k cs:=
 C.gen g o λH s=>by unfold execOp;simp only[hx,m];exact ae<|MH l<|Wm hu hi hc hz (h1 H s) (j H s) ⟨As,s,h⟩
theorem ab.eqN(C:ab P ao B R){op:BinOp}{tx a:aP}{w:Value}(hu:P.underlying tt=some (.interface ms))(b:bk O i=some ⟨some t,.binOp op tt x y t2,ty,pos,af,gd⟩)(h:Nx R d As fn kd n e ds O aa k cs t (.bool<|false==r))
  (c:isEq op=some r:=by rfl) (hx:ev n e x=.iface tx u:=by rfl) (f:ev n e y=.iface a w:=by rfl) (g:tx≠a:=by decide) (j:aN O n e gd=true:=by rfl):Nw R d As fn kd n e ds O i aa k cs:=
 C.gen b j λH s=>by unfold execOp;simp only[hx,f];exact ae<|MH c<|Wn hu g ⟨As,s,h⟩
theorem ab.YX(C:ab P ao B R){op:BinOp}{tx:aP}(hu:P.underlying tt=some (.interface ms))(f:bk O i=some ⟨some t,.binOp op tt x y t2,ty,pos,af,gd⟩)(h:Nx R d As fn kd n e ds O aa k cs t (.bool<|false==r))
  (b:isEq op=some r:=by rfl) (hx:ev n e x=.iface tx u:=by rfl) (g:ev n e y=.nilIface:=by rfl) (j:aN O n e gd=true:=by rfl):Nw R d As fn kd n e ds O i aa k cs:=
 C.v0 f h (by
  unfold execOp;simp only[hx,g];refine bH (a:=.bool<|false==r) ?_ rfl;have c:gG P (Op.equal tt (.iface tx u) .nilIface)=some false:=by unfold Op.equal;show gG P (Op.equalIn (9998+1+1) _ _ _)=_;unfold Op.equalIn;exact bH (gq hu) rfl
  cases op<;>first|(cases b;done)|skip
  .obtain rfl:=cA b;refine bH (a:=()) (by unfold eqGuard;rfl) ?_;exact bH c rfl
  .obtain rfl:=cA b;refine bH (a:=()) (by unfold eqGuard;rfl) ?_;exact bH c rfl) j
def isK:dp->Bool
 |.const _=>true
 |_=>false
theorem ab.aay(C:ab P ao B R){op:BinOp}(hu:P.underlying tt=some (.interface ms))(f:bk O i=some ⟨some t,.binOp op tt x y t2,ty,pos,af,gd⟩)(h:Nx R d As fn kd n e ds O aa k cs t (.bool<|true==r))
  (hl:(isK x||isK y)=true:=by rfl) (b:isEq op=some r:=by rfl) (hx:ev n e x=.nilIface:=by rfl) (g:ev n e y=.nilIface:=by rfl) (j:aN O n e gd=true:=by rfl):Nw R d As fn kd n e ds O i aa k cs:=
 C.v0 f h (by
  unfold execOp;simp only[hx,g];refine bH (a:=.bool<|true==r) ?_ rfl;have c:gG P (Op.equal tt .nilIface .nilIface)=some true:=by unfold Op.equal;show gG P (Op.equalIn (9998+1+1) _ _ _)=_;unfold Op.equalIn;exact bH (gq hu) rfl
  cases op<;>first|(cases b;done)|skip
  .obtain rfl:=cA b;refine bH (a:=()) (by cases x<;>cases y<;>first|rfl|(cases hl;done)) ?_;exact bH c rfl
  .obtain rfl:=cA b;refine bH (a:=()) (by cases x<;>cases y<;>first|rfl|(cases hl;done)) ?_;exact bH c rfl) j
theorem ab.YY(C:ab P ao B R){op:BinOp}[cE:El P tt el]{a:Option Addr}{len cap:Nat}(f:bk O i=some ⟨some t,.binOp op tt x y t2,ty,pos,af,gd⟩)(h:Nx R d As fn kd n e ds O aa k cs t (.bool<|a.isNone==r))
  (b:isEq op=some r:=by rfl) (hx:ev n e x=.slice a len cap:=by rfl) (g:ev n e y=.slice none 0 0:=by rfl) (j:aN O n e gd=true:=by rfl):Nw R d As fn kd n e ds O i aa k cs:=
 C.v0 f h (by
  unfold execOp;simp only[hx,g];refine bH (a:=.bool<|a.isNone==r) ?_ rfl;have c:gG P (Op.equal tt (.slice a len cap)<|.slice none 0 0)=some a.isNone:=by unfold Op.equal;show gG P (Op.equalIn (9998+1+1) _ _ _)=_;unfold Op.equalIn;refine bH (gq cE.h) ?_;cases a<;>rfl
  cases op<;>first|(cases b;done)|skip
  .obtain rfl:=cA b;refine bH (a:=()) (by unfold eqGuard;rfl) ?_;refine bH c ?_;cases a<;>rfl
  .obtain rfl:=cA b;refine bH (a:=()) (by unfold eqGuard;rfl) ?_;refine bH c ?_;cases a<;>rfl) j
theorem ab.bs0(C:ab P ao B R)(f:α->List Value){tt el z:Nat}[cE:El P tt el][Cz P el z](c:bk O i=some ⟨some t,.buildSlice tt 0 #[],ty,pos,af,gd⟩)
  (h:∀ b,At R d (bK f z el ⟨some ⟨b,0,none⟩,0,0⟩ []::As)<|gr fn kd n (put e t<|ay.v ⟨some ⟨b,0,none⟩,0,0⟩) ds (.inRegion O aa::k) cs) (g:aN O n e gd=true:=by rfl):Nw R d As fn kd n e ds O i aa k cs:=
 C.gen c g λH s=>by
  unfold execOp;simp only[Instr.buildSlice];refine ae<|ae<|dN cE.h B H d _ ?_;refine ae<|ja B H d _ ?_;simp only[QV,fq];rw[ax ai];refine ae ?_;refine aA ?_;have e2:(Array.map (λx:Nat×dp=>(x.fst,ev n e x.snd)) #[]).toList=[]:=by simp
  rw[e2];show dQ P B (newRow el _ >>= λa=>pure<|Value.slice (some a) 0 0) H d _;refine ae ?_;unfold newRow;refine ae ?_;show dQ P B (.new _ _) H d _;simp only[dQ];show dQ P B (pure _) _ d _;refine aA<|aA ⟨_,(s.push _).imp λj x=>?_,h _⟩;refine .inr ⟨_,[],rfl,by simp,by simp,?_⟩;have e1:Array.map (λx=>(#[]:Array Value)[x%(#[]:Array Value).size]!) (Array.range 0)=iv f [] []:=by simp[iv,flat]
  rw[<- e1];exact x
theorem ab.xX(C:ab P ao B R){tt el:Nat}{c:Array Value}{fr:Nat×Nat}{I:HL}[Ag P tt false](hf:Fo (bI I) As L)(hI:I b=some (.cells c el fr))(hs:B.sh el off=false)(a:bk O i=some ⟨some t,.load tt x,ty,pos,af,gd⟩)(h:Nx R d As fn kd n e ds O aa k cs t v)
  (hx:ev n e x=.pointer (some ⟨b,off,none⟩):=by rfl) (hc:c[off]? =some v:=by rfl) (f:aN O n e gd=true:=by rfl):Nw R d As fn kd n e ds O i aa k cs:=
 C.gen a f λH st=>by have g:hp H b=some (.cells c el fr):=(st.perm hf.perm).sR hI;unfold execOp;simp only[hx,Instr.loadAt,Instr.sureAddr];exact ae<|ae<|aA<|jB g hc hs ⟨As,st,h⟩
variable{Z:World->Prop}{W:Nat->aO->Prop}{q:Nat}
variable{f:bN}{fu:Func}{args:Array dp}{gY:Array aP}
theorem Mt.xk(M:Mt P ao Z W){v:Value}[b:fi P f fu (λ_=>pure v)](a:bk O i=some ⟨dst,.call ⟨.value<|.func f,args,gY⟩,ty,pos,af,gd⟩)(h:W q (gr fn kd n (dD e dst v) ds (.inRegion O aa::k) cs))(c:aN O n e gd=true:=by rfl):W (q+1) (gr fn kd n e ds (.inRegion O (i::aa)::k) cs):=
 M.s _ _ _ rfl (λw _=>by rw[kQ,kQ,<- mY];exact stepG_entry (o:=⟨dst,.call ⟨.value<|.func f,args,gY⟩,ty,pos,af,gd⟩) (by rw[dJ];exact a) (by rw[eU];exact c) kS rfl b.func b.name b.body b.nx b.fd (by simp) (by simp)<|by simp) h
theorem DZ(m:Mark)[b:fi P f fu (λ_=>do mark m;pure Extern.Race.none_)]{c:Array Value}(hm:∀ g,m≠ .extern g)(w:World):
  stepG P ao (sQ fn kd n e (⟨.fn (.func f) #[],c⟩::ds) todo cs) w=.go (sQ fn kd n e ds todo cs) w #[CD m]:=
 stepG_unwind_entry (b:=bs fn kd) (a:=⟨tm n e,⟨.fn (.func f) #[],c⟩::ds⟩) (todo:=todo) (cs:=cs) (ds:=ds) (f:=f) (args:=c) (v:=.tuple #[]) rfl b.func b.name b.body b.nx b.fd (by simp[Extern.Race.none_]) (by simp) (by intro x d;simp at d;subst d;exact⟨rfl,λg h=>hm g (by cases h;rfl)⟩)
variable{G:sg}
theorem aaz{g:aO}(hs:g.status=.running)(h:∀ w,stepG P false g w=.go g' w #[CD (.releaseMerge G.st)])(k:Cl P G q .zN g'):Cl P G (q+1) .rel g:=⟨hs,.inr ⟨g',h,k⟩⟩
theorem aaA{g:aO}(hs:g.status=.running)(h:∀ w,stepG P false g w=.go g' w #[CD .disable])(k:Cl P G q .add g'):Cl P G (q+1) .zN g:=⟨hs,.inr ⟨g',h,k⟩⟩
theorem aaB{g:aO}(g':Nat->Nat->aO)(hs:g.status=.running)(h:∀ w v wt,v<=3->wt<=1->w.cell? G.st=some (nB (v+1) wt)->w.frozen? G.st=false->stepG P false g w=.go (g' v wt) (w.setCell G.st<|nB v wt) #[ar G.st,aw G.st])
  (k1:Cl P G q .ld (g' 0 1)) (k2:∀ v wt,v<=3->wt<=1->¬ (v=0/\wt=1)->QuitsD P q 1 (g' v wt)):Cl P G (q+1) .add g:=⟨hs,.inr ⟨g',h,k1,k2⟩⟩
theorem Wo[b:fi P f fu (Extern.Atomic.update (Op.intArith .add) .u64 true)](a:bk O i=some ⟨dst,.call ⟨.value<|.func f,#[x,y],gY⟩,ty,pos,af,gd⟩)(k1:Cl P G q .ld (gr fn kd n (dD e dst<|nB 0 1) ds (.inRegion O aa::k) cs))
  (k2:∀ v wt,v<=3->wt<=1->¬ (v=0/\wt=1)->QuitsD P q 1 (gr fn kd n (dD e dst<|nB v wt) ds (.inRegion O aa::k) cs)) (hx:ev n e x=.pointer (some G.st):=by rfl) (c:ev n e y=.int .u64 18446744069414584320:=by rfl) (g:aN O n e gd=true:=by rfl):Cl P G (q+1) .add (gr fn kd n e ds (.inRegion O (i::aa)::k) cs):=by
 refine aaB (λv wt=>gr fn kd n (dD e dst<|nB v wt) ds (.inRegion O aa::k) cs) rfl (λw v wt l m h j=>?_) k1 k2;have:=Sr (P:=P) (f:=f) (ao:=false) (fn:=fn) (kd:=kd) (ds:=ds) (k:=k) (cs:=cs) (aa:=aa) (kk:=.u64) (v:=((v+1:Nat):Int)*KQ+wt) (d:=18446744069414584320) a g hx c h j;have e1:IntKind.u64.wrap (((v+1:Nat):Int)*KQ+wt+18446744069414584320)=(v:Int)*KQ+wt:=by
  have:(2^IntKind.u64.bits:Int)=18446744073709551616:=by decide
  simp only[IntKind.wrap,KQ,this];rw[ax (by simp[IntKind.signed])];omega
 rw[e1]at this;exact this
theorem aeN{g:aO}(hs:g.status=.running)(h:∀ w,w.cell? G.st=some (nB 0 1)->stepG P false g w=.go g' w #[ar G.st])(k:Cl P G q .Qv g'):Cl P G (q+1) .ld g:=⟨hs,.inr ⟨g',h,k⟩⟩
theorem aaC{g:aO}(hs:g.status=.running)(h:∀ w,w.cell? G.st=some (nB 0 1)->w.frozen? G.st=false->stepG P false g w=.go g' (w.setCell G.st<|nB 0 0) #[aw G.st])(k:Cl P G q .JS g'):Cl P G (q+1) .Qv g:=⟨hs,.inr ⟨g',h,k⟩⟩
theorem aaD{g:aO}(hs:g.status=.running)(hm:mayWake P g=true)(h:∀ w,w.cell? G.sm=some (uY 0)->w.frozen? G.sm=false->stepG P false g w=.go g' (w.setCell G.sm<|uY 1) (semEvents G.sm))(k:QuitsD P q 1 g'):Cl P G (q+1) .JS g:=⟨hs,.inr ⟨hm,g',h,k⟩⟩
theorem SH[b:fi P f fu ex](d:bk O i=some ⟨dst,.call ⟨.value<|.func f,args,gY⟩,ty,pos,af,gd⟩):mayWake P (gr fn kd n e ds (.inRegion O (i::aa)::k) cs)=true:=by
 have g:O[i]? =some ⟨dst,.call ⟨.value<|.func f,args,gY⟩,ty,pos,af,gd⟩:=by rw[dJ];exact d
 have h1:(P.funcs[f]?).any (·.body.isSome)=false:=by
  rw[b.func];have:=b.body;cases a:fu.body with
  |none=>simp[a]
  |some c=>rw[a]at this;cases this
 unfold mayWake;simp only[gr,aX,g,lQ];simp[Frame.eval,h1]
theorem D2{g:aO}(hs:g.status=.running)(h:∀ w,stepG P false g w=.go g' w #[CD .enable])(k:QuitsD P q 0 g'):QuitsD P (q+1) 1 g:=.inr ⟨hs,g',_,λe a=>by simp at a;subst a;rfl,h,k⟩
theorem D3:QuitsD P (q+1) 0 (yK (base P []) []):=QuitsD.Hi (Oe rfl) ai
variable{Fin:aO->Prop}
theorem aaE{v a:Nat}(h:a<v):((a:Int)*KQ+(0:Nat))≠((v:Int)*KQ+(0:Nat)):=by unfold KQ;omega
theorem aaF[b:fi P f fu (λ_=>do mark .disable;pure Extern.Race.none_)]{c:Nat}(a:bk O i=some ⟨dst,.call ⟨.value<|.func f,args,gY⟩,ty,pos,af,gd⟩)(h:MW P G Fin (.head c) (gr fn kd n (dD e dst<|.tuple #[]) ds (.inRegion O aa::k) cs))(d:aN O n e gd=true:=by rfl):MW P G Fin (.zN c) (gr fn kd n e ds (.inRegion O (i::aa)::k) cs):=
 .zN rfl (λw=>AY .disable a d (by intro g;simp) w) h
theorem Wp[b:fi P f fu (Extern.Atomic.loadT<|.int .u64)]{c:Nat}(a:bk O i=some ⟨dst,.call ⟨.value<|.func f,#[x],gY⟩,ty,pos,af,gd⟩)(d:MW P G Fin .RF (gr fn kd n (dD e dst<|nB 0 0) ds (.inRegion O aa::k) cs))(k1:∀ v,1<=v->v<=c->MW P G Fin (.VX v) (gr fn kd n (dD e dst<|nB v 0) ds (.inRegion O aa::k) cs))
  (hx:ev n e x=.pointer (some G.st):=by rfl) (g:aN O n e gd=true:=by rfl):MW P G Fin (.head c) (gr fn kd n e ds (.inRegion O (i::aa)::k) cs):=
 .load (λv=>gr fn kd n (dD e dst<|nB v 0) ds (.inRegion O aa::k) cs) rfl (λw v _ h=>A0 a g hx h) d k1
theorem aaG[b:fi P f fu (Extern.Atomic.casT<|.int .u64)]{v:Nat}(d:bk O i=some ⟨dst,.call ⟨.value<|.func f,#[x,y,z],gY⟩,ty,pos,af,gd⟩)(k1:MW P G Fin .reg (gr fn kd n (dD e dst<|.bool true) ds (.inRegion O aa::k) cs))(k2:MW P G Fin (.head<|v-1) (gr fn kd n (dD e dst<|.bool false) ds (.inRegion O aa::k) cs))
  (hx:ev n e x=.pointer (some G.st):=by rfl) (g:ev n e y=nB v 0:=by rfl) (hz:ev n e z=nB v 1:=by rfl) (h:aN O n e gd=true:=by rfl):MW P G Fin (.VX v) (gr fn kd n e ds (.inRegion O (i::aa)::k) cs):=
 .VX rfl (λw a c=>Ss d h hx g hz a c) (λw l j a c=>Su d h hx g hz a c<|aaE j) k1 k2
theorem Wq[b:fi P f fu (Extern.Race.marked .write)](a:bk O i=some ⟨dst,.call ⟨.value<|.func f,args,gY⟩,ty,pos,af,gd⟩)(h:MW P G Fin .reg (gr fn kd n (dD e dst<|.tuple #[]) ds (.inRegion O aa::k) cs))(hx:(args.toList.map<|ev n e)[0]? =some (.pointer<|some G.sm):=by rfl)(c:aN O n e gd=true:=by rfl):MW P G Fin .reg (gr fn kd n e ds (.inRegion O (i::aa)::k) cs):=
 .said rfl (λw=>AZ .write a c (by intro ad g;simp) hx w) h
theorem aaH[b:fi P f fu Extern.Sync.semacquire](c:bk O i=some ⟨dst,.call ⟨.value<|.func f,args,gY⟩,ty,pos,af,gd⟩)(h:MW P G Fin .last (gr fn kd n (dD e dst<|.tuple #[]) ds (.inRegion O aa::k) cs))(hx:(args.toList.map<|ev n e)[0]? =some (.pointer<|some G.sm):=by rfl)(d:aN O n e gd=true:=by rfl):MW P G Fin .reg (gr fn kd n e ds (.inRegion O (i::aa)::k) cs):=
 .JS rfl rfl (λw a=>Sw c d hx a) (λw a g=>Sv c d hx a (by decide) g) h
theorem Wr[b:fi P f fu (Extern.Atomic.loadT<|.int .u64)](a:bk O i=some ⟨dst,.call ⟨.value<|.func f,#[x],gY⟩,ty,pos,af,gd⟩)(h:MW P G Fin .RF (gr fn kd n (dD e dst<|nB 0 0) ds (.inRegion O aa::k) cs))(hx:ev n e x=.pointer (some G.st):=by rfl)(c:aN O n e gd=true:=by rfl):MW P G Fin .last (gr fn kd n e ds (.inRegion O (i::aa)::k) cs):=
 .last rfl (λw d=>A0 a c hx d) h
theorem SI[b:fi P f fu (λ_=>do mark .enable;pure Extern.Race.none_)](a:bk O i=some ⟨dst,.call ⟨.value<|.func f,args,gY⟩,ty,pos,af,gd⟩)(h:MW P G Fin .acq (gr fn kd n (dD e dst<|.tuple #[]) ds (.inRegion O aa::k) cs))(c:aN O n e gd=true:=by rfl):MW P G Fin .RF (gr fn kd n e ds (.inRegion O (i::aa)::k) cs):=
 .RF rfl (λw=>AY .enable a c (by intro g;simp) w) h
theorem SJ[b:fi P f fu (Extern.Race.marked .acquire)](a:bk O i=some ⟨dst,.call ⟨.value<|.func f,args,gY⟩,ty,pos,af,gd⟩)(h:Fin (gr fn kd n (dD e dst<|.tuple #[]) ds (.inRegion O aa::k) cs))(hx:(args.toList.map<|ev n e)[0]? =some (.pointer<|some G.st):=by rfl)(c:aN O n e gd=true:=by rfl):MW P G Fin .acq (gr fn kd n e ds (.inRegion O (i::aa)::k) cs):=
 .acq rfl (λw=>AZ .acquire a c (by intro ad g;simp) hx w) h
theorem ab.df(C:ab P ao B R){f:bN}{a1 a2:Array Value}{args:Array dp}{gY:Array aP}(b:bk O i=some ⟨dst,.defer ⟨.value fo,args,gY⟩,ty,pos,af,gd⟩)
  (h:At R d As (gr fn kd n (dD e dst undef) (⟨.fn (.func f) a2,a1++vl.toArray⟩::ds) (.inRegion O aa::k) cs)) (hf:ev n e fo=.func (.func f) a1 a2:=by rfl) (hv:args.toList.map (ev n e)=vl:=by rfl) (c:aN O n e gd=true:=by rfl):Nw R d As fn kd n e ds O i aa k cs:=
 C.gen b c λH s=>by
  have g:args.map (ev n e)=vl.toArray:=by rw[<- hv,<- sx,vo]
  refine dK (v:=Next.defer ⟨.fn (.func f) a2,a1++vl.toArray⟩) ?_ ?_
  rotate_left
  .exact⟨As,s,h⟩
  unfold execOp;simp only;refine bH (a:=⟨.fn (.func f) a2,a1++vl.toArray⟩) ?_ rfl;unfold resolve;simp only[hf,Deferred.ofValue,g];rfl
theorem ab.Hq(C:ab P ao B R)(h:At R d As (sQ fn kd n e ds (.code .ret::k) cs)):At R d As (gr fn kd n e ds (.code .ret::k) cs):=λH s=>C.ret<|h H s
theorem ab.fnA(C:ab P ao B R)(h:At R d As (sQ fn kd n e ds [] cs)):At R d As (gr fn kd n e ds [] cs):=λH s=>C.fin<|h H s
theorem ab.aeO(C:ab P ao B R){f:bN}{fu:Func}[x:fi P f fu (λ_=>do mark .enable;pure Extern.Race.none_)]{a:Array Value}(h:At R (d-1) As (sQ fn kd n e ds todo cs)):At R d As (sQ fn kd n e (⟨.fn (.func f) #[],a⟩::ds) todo cs):=
 C.dfx (f:=f) λH s=>by show dQ P B (mark .enable >>= λ_=>pure Extern.Race.none_) H d _;refine ae ?_;simp only[mark,dQ,lV,pD,pU];exact aA ⟨As,s,h⟩
theorem ab.Ws(C:ab P ao B R){fu:Func}[b:Body P fn fu cc n']{a t0 f z:Nat}{xs:Array Value}[Ag P t0 true][Cz P t0 z]{c:Frame}{w:Code}{Q:Value->List HP->Prop}(hr:fu.results=#[.cell a t0])(l:zr kd c)(m:∀ v aT,Q v aT->At R d (aT++F) (after kd c cs v))(q:Q (.agg xs) A)
  (o:ev n e (.tmp a)=.pointer (some ⟨f,0,none⟩):=by rfl) (hh:Kn As f (.cells xs el (0,0)):=by apply Has.kn;(repeat(first|with_reducible exact Has.head|with_reducible apply Has.tail));done) (hsz:xs.size=z:=by rfl) (hs:∀ j,B.sh el j=false:=by intro j;rfl) (hx:ck w=.ret:=by rfl)
  (p:dg As (A++F):=by exact dg.au):At R d As (gr fn kd n e [] (.code w::k)<|c::cs):=λH s=>by
 have g:=gv hx;simp only at g;subst g;have r:=hh _ s;have key:∀ {h:Value->Array Obj->Nat->Prop},h (.agg xs) H d->dQ P B (results fu<|tm n e) H d h:=λt=>by
  unfold results;rw[hr,Q1];simp only[ZM,List.mapM_nil,Q2,bind_assoc,pure_bind,wI];have u:(if a<n then e a else undef)=.pointer (some ⟨f,0,none⟩):=o;rw[u];refine ae<|dK (v:=(⟨f,0,none⟩:Addr)) rfl ?_;refine ae<|qS r ai hs ?_;have e1:xs.extract 0 (0+z)=xs:=by rw[lR,<- hsz];simp
  rw[e1];exact t
 have i:R d (after kd c cs<|.agg xs) H:=At.mN p (m _ A q) H s;refine C.ret ?_;cases kd with
 |rU=>exact C.back b.func<|key i
 |qJ=>exact C.Mq l b.func<|key i
theorem Sat.SK{A:HP}{x:Nat}{o:Obj}{h:HL}(ha:∀ h,A h->∃ o',h b=some o')(s:Sat (A::dq x o::L) h):b≠x:=λe=>by
 subst e;obtain⟨h1,a,_,c,p,d,_⟩:=s;obtain⟨o',f⟩:=ha _ a;have g:c b=some o:=by have p:c=one b o:=p;rw[p];simp[one]
 have:=d b o g;unfold Sl.less at this;rw[f]at this;simp at this
theorem At.apart{x:Nat}{o o':Obj}{g:aO}(hf:fK [dq b o',dq x o] As L)(h:b≠x->At R d As g):At R d As g:=λH st=>
 h (Sat.SK (λh e=>⟨o',by have e:h=one b o':=e;rw[e];simp[one]⟩)<|st.perm hf.perm) H st
theorem At.Fx{f:α->List Value}{z:Nat}{l:List α}{x:Nat}{o:Obj}{g:aO}(hf:fK [bK f z el s l,dq x o] As L)(h:(∀ b,s.a=some ⟨b,0,none⟩->b≠x)->At R d As g):At R d As g:=λH st=>
 h (λb a=>Sat.SK (λh e=>by
  rcases e with⟨rfl,_⟩|⟨b',pad,e,_,_,hp⟩
  .cases a
  .rw[e]at a;obtain rfl:b'=b:=by simpa using a
   have hp:h=one b' _:=hp;exact⟨_,by rw[hp];simp[one];rfl⟩)<|st.perm hf.perm) H st
variable{e0:Nat->Value}{D:List (Nat×Nat)}{W:List HP}{S:List SE}
theorem Ch.nx{f:Nat}{T' l:List Nat}{a:Nat}{K:List SE}{As:List HP}(hc:Fj O T'=l)(h:∀ t∈l,Nd R d fn kd n ds O k cs e0 D W S (λK As=>Ch R d fn kd n ds O k cs e0 D W f S (T'.erase t) (a-1) K As) t a K As):Ch R d fn kd n ds O k cs e0 D W (f+1) S T' a K As:=.inl λt b=>h t<|hc▸b
theorem gC{φ:α->Prop}{a:α}(h1:φ a):∀ t∈[a],φ t:=by simpa using h1
theorem A9{φ:α->Prop}{a b:α}(h1:φ a)(c:φ b):∀ t∈[a,b],φ t:=by simpa using⟨h1,c⟩
theorem fa3{φ:α->Prop}{a b c:α}(h1:φ a)(d:φ b)(e:φ c):∀ t∈[a,b,c],φ t:=by simpa using⟨h1,d,e⟩
theorem fa4{φ:α->Prop}{a b c d:α}(h1:φ a)(e:φ b)(f:φ c)(g:φ d):∀ t∈[a,b,c,d],φ t:=by simpa using⟨h1,e,f,g⟩
theorem aG.lj{f:bN}{fu:Func}[b:Body P f fu c nf]{args:Array dp}{gY:Array aP}{Q:Value->Gh->List HP->Prop}(hs:bB P X f vl.toArray σ A Q)
  (h:∀ v σ' aT,Q v σ' aT->At (aG P Post X σ' 0 os out) 0 (aT++F) (gr fn kd n (dD e dst v) ds (.inRegion O aa::k) cs))
  (a:bk O i=some ⟨dst,.call ⟨.value fo,args,gY⟩,ty,pos,af,gd⟩:=by rfl) (hv:args.toList.map (ev n e)=vl:=by rfl) (hf:ev n e fo=.func (.func f) #[] #[]:=by rfl)
  (hr:fK A As F:=by exact fK.au) (d:aN O n e gd=true:=by rfl):At (aG P Post X σ 0 os out) 0 As (gr fn kd n e ds (.inRegion O (i::aa)::k) cs):=
 aG.cl (a1:=#[]) (a2:=#[]) (vl:=vl) (by simpa using hs) h a hv hf hr d
theorem aG.fe{fu:Func}[b:Body P fn fu cc n']{c:Frame}{v:Value}{x:Code}{Q:Value->Gh->List HP->Prop}(a:zr kd c)(d:∀ v σ' aT,Q v σ' aT->At (aG P Post X σ' 0 os out) 0 (aT++F) (after kd c cs v))(q:Q v σ A)(hv:vy fu n e=some v:=by rfl)(hx:ck x=.ret:=by rfl)
  (hr:dg As (A++F):=by exact dg.au):At (aG P Post X σ 0 os out) 0 As (gr fn kd n e [] (.code x::k)<|c::cs):=by
 have C:ab P true (X.bw σ) (aG P Post X σ 0 os out):=aG.eL;exact C.R3 a (At.mN hr<|d v σ A q) hv hx
theorem Ch.nk{R:Nat->aO->Array Obj->Prop}{d:Nat}{fn:bN}{kd:Kd}{n:Nat}{ds:List eK}{O:Array Oper}{k:List Item}{cs:List Frame}{e0:Nat->Value}{D:List (Nat×Nat)}{W:List HP}{S:List SE}{f:Nat}{T':List Nat}(l:List Nat){a:Nat}{K:List SE}{As:List HP}(h:∀ t∈l,Nd R d fn kd n ds O k cs e0 D W S (λK As=>Ch R d fn kd n ds O k cs e0 D W f S (T'.erase t) (a-1) K As) t a K As)(hc:Fj O T'=l:=by decide+kernel):Ch R d fn kd n ds O k cs e0 D W (f+1) S T' a K As:=Ch.nx hc h
variable{L:List HP}{g:aO}{V:Type}{f:Int×V->HP}{m:List (Int×V)}{k:Int}{v:V}
theorem Ba{X:Type}{l:List X}{n:Nat}{x:X}(h:l[n]? =some x):∃ a:n<l.length,l[n]=x:=dd.1 h
theorem D4(a:aB m k=some v)(hf:Fo (all<|m.map f) As L)(h:At R d (f (k,v)::all ((eo m k).map f)::L) g):At R d As g:=by
 cases hi:rW k m 0 with
 |none=>rw[(j8 hi).1]at a;cases a
 |some b=>
  obtain⟨j,w⟩:=b;obtain⟨n, -,h1,c,o,e⟩:=j7 hi;rw[c]at a;obtain rfl:=cA a;obtain⟨i,l⟩:=Ba h1;refine Ft i hf ?_;rw[l,<- e];exact h
theorem Hr(v:V)(hr:fK [f (k,v),all<|(eo m k).map f] As L)(h:At R d (all ((bC m k v).map f)::L) g):At R d As g:=by
 cases hi:rW k m 0 with
 |none=>
  obtain⟨h1,b,a,c⟩:=j8 hi;rw[b]at h;rw[a]at hr;exact zU (k,v) hr h
 |some e=>
  obtain⟨j,w⟩:=e;obtain⟨n, -,h1,b,a,c⟩:=j7 hi;obtain⟨i,l⟩:=Ba h1;rw[a]at h;rw[c]at hr;exact Sj i (k,v) hr h
theorem D5(a:aB m k=none):eo m k=m:=by
 cases hi:rW k m 0 with
 |none=>exact(j8 hi).2.2.1
 |some b=>
  obtain⟨j,w⟩:=b;obtain⟨n, -,h1,c,d,e⟩:=j7 hi;rw[c]at a;cases a
theorem eO{p:Int×V}:∀ {m:List (Int×V)},p∈bC m k v->p=(k,v)\/p∈m:=by
 intro m hp;cases hi:rW k m 0 with
 |none=>
  rw[(j8 hi).2.1,bS,dR]at hp;exact hp.symm
 |some a=>
  obtain⟨j,w⟩:=a;obtain⟨n, -,h1,c,b,d⟩:=j7 hi;rw[b]at hp;exact(gk hp).symm
theorem wU{p:Int×V}{m:List (Int×V)}(hp:p∈eo m k):p∈m:=wN.subset hp
theorem l4{W:Type}(w:V->W)(m:List (Int×V)):(bC m k v).map (λp=>(p.1,w p.2))=bC (m.map λp=>(p.1,w p.2)) k (w v):=(qi w k v m).symm
theorem Hs{W:Type}(w:V->W)(m:List (Int×V)):(eo m k).map (λp=>(p.1,w p.2))=eo (m.map λp=>(p.1,w p.2)) k:=(wM w k m).symm
theorem wV{W:Type}(w:V->W)(m:List (Int×V)):aB (m.map λp=>(p.1,w p.2)) k=(aB m k).map w:=og w k m
theorem MI{f:α->List Value}{z:Nat}[a:jf f z]{l:List α}{n:Nat}(c:n<=l.length)(h:HL)(x:bK f z el s l h):bK f z el ⟨s.a,n,s.cap⟩ (l.take n) h:=by
 rcases x with⟨rfl,rfl⟩|⟨b,pad,e,h1,g,d⟩
 .have:n=0:=by simpa using c
  subst this;exact .inl ⟨rfl,rfl⟩
 .have hl:(l.take n).length=n:=by rw[nO];omega
  refine .inr ⟨b,flat f (l.drop n)++pad,?_,?_,?_,?_⟩
  .rw[hl,e]
  .rw[hl,iV,fL a.len,E6];have:n*z+(l.length-n)*z=l.length*z:=by rw[<- rS];congr 1;omega
   dsimp only;omega
  .rw[hl];dsimp only;omega
  .have e1:iv f (l.take n) (flat f (l.drop n)++pad)=iv f l pad:=by unfold iv;rw[<- rT,<- kN,wj]
   rw[e1];exact d
def Fy(sz:Nat):Array Value->List (Nat×Value)->Array Value
 |c,[]=>c
 |c,(i,v)::l=>Fy sz (wr c (i*sz) v.cells.toList) l
def zZ(sz m:Nat):List (Nat×Value)->Bool
 |[]=>true
 |(i,v)::l=>(v.cells.size==sz&&decide (i*sz+sz<=m))&&zZ sz m l
theorem Ht(sz:Nat):∀ (l:List (Nat×Value)) (c:Array Value),zZ sz c.size l=true->Instr.fill (λi=>some (i*sz,sz)) c l=some (Fy sz c l)
 |[],c,_=>rfl
 |(i,v)::l,c,h=>by
  unfold zZ at h;simp only[jK,uU,rz]at h;obtain⟨h1,a⟩:=h;unfold Instr.fill Fy;dsimp only;have b:¬ ((decide (v.cells.size≠sz)||decide (i*sz+v.cells.size>c.size))=true):=by rw[h1.1];have:=h1.2;simp;omega
  rw[ax b];have d:Array.foldl (λcs (x:Value×Nat)=>match x with|(c,j)=>cs.setIfInBounds (i*sz+j) c) c v.cells.zipIdx=wr c (i*sz) v.cells.toList:=by rw[<- ZR,ZS];exact Fi (i*sz) v.cells.toList 0 _
  rw[d];exact Ht sz l (wr c (i*sz) v.cells.toList) (by rw[zR];exact a)
theorem iy{V:Type}{k:Int}{v:V}{l:List (Int×V)}(h:aB l k=some v):bC l k v=l:=by
 cases hi:rW k l 0 with
 |none=>rw[(j8 hi).1]at h;cases h
 |some a=>
  obtain⟨j,w⟩:=a;obtain⟨n, -,h1,b,c,e⟩:=j7 hi;rw[b]at h;obtain rfl:=cA h;obtain⟨f,d⟩:=Ba h1;rw[c,<- d,LV]
theorem uu{V:Type}{g:V->Value}{l:List (Int×V)}{k:Int}{u u1:V}(a:aB l k=some u)(h:g u1=g u):dt kk g b (bC l k u1)=dt kk g b l:=by
 have e:lX g (bC l k u1)=lX g l:=by rw[<- qi,h];exact iy (by rw[og,a];rfl)
 unfold dt;rw[e]
variable{k:List Item}
variable{v:Value}{b:Nat}{tt key el:aP}{kk:IntKind}{g:V->Value}{l:List (Int×V)}{q:Int}
theorem ab.Hu(C:ab P ao B R)[m:Mp P tt key el][Ik P key kk][Zv P el zv](a:((aB l q).map g).getD zv=v)(c:bk O i=some ⟨some t,.lookup tt x y false,ty,pos,af,gd⟩)
  (h:Nx R d As fn kd n e ds O aa k cs t v)
  (hx:ev n e x=.map (some b):=by rfl) (f:ev n e y=.int kk q:=by rfl) (hf:YK (dt kk g b l) As:=by first|(apply Fo.N9;(repeat(first|with_reducible exact Fo.head|with_reducible apply Fo.tail));done)|(apply Ext.N9;assumption;(repeat(first|with_reducible exact Fo.head|with_reducible apply Fo.tail));done)) (j:aN O n e gd=true:=by rfl):Nw R d As fn kd n e ds O i aa k cs:=
 C.lkR (co:=false) c (by rw[a];exact h) hx f hf j
theorem ab.Oi(C:ab P ao B R){op:BinOp}{tt el:aP}[cE:Pt P tt el]{a:Option Addr}(f:bk O i=some ⟨some t,.binOp op tt x y t2,ty,pos,af,gd⟩)(h:Nx R d As fn kd n e ds O aa k cs t (.bool<|a.isNone==r))
  (b:isEq op=some r:=by rfl) (hx:ev n e x=.pointer a:=by rfl) (g:ev n e y=.pointer none:=by rfl) (j:aN O n e gd=true:=by rfl):Nw R d As fn kd n e ds O i aa k cs:=
 C.v0 f h (by
  unfold execOp;simp only[hx,g];refine bH (a:=.bool<|a.isNone==r) ?_ rfl;have c:gG P (Op.equal tt (.pointer a)<|.pointer none)=some a.isNone:=by unfold Op.equal;show gG P (Op.equalIn (9998+1+1) _ _ _)=_;unfold Op.equalIn;refine bH (gq cE.h) ?_;cases a<;>rfl
  cases op<;>first|(cases b;done)|skip
  .obtain rfl:=cA b;refine bH (a:=()) (by unfold eqGuard;rfl) ?_;refine bH c ?_;cases a<;>rfl
  .obtain rfl:=cA b;refine bH (a:=()) (by unfold eqGuard;rfl) ?_;refine bH c ?_;cases a<;>rfl) j
theorem ab.YZ(C:ab P ao B R){c:Array Value}{z:Bool}[Ag P tt false](a:bk O i=some ⟨some t,.load tt x,ty,pos,af,gd⟩)(h1:z=true->Nx R d As fn kd n e ds O aa k cs t (.bool true))(g:z=false->Nx R d As fn kd n e ds O aa k cs t (.bool false))
  (hx:ev n e x=.pointer (some ⟨b,off,none⟩):=by rfl) (hh:Kn As b (.cells c el (0,0)):=by first|(apply Has.kn;(repeat(first|with_reducible exact Has.head|with_reducible apply Has.tail));done)|(apply Ext.kn;assumption;(repeat(first|with_reducible exact Has.head|with_reducible apply Has.tail));done)) {v0:Value} (hc:c[off]? =some v0:=by rfl) (pO:v0=.bool z:=by first|((conv=>{lhs;whnf});done)|rfl) (hs:B.sh el off=false:=by rfl) (f:aN O n e gd=true:=by rfl):Nw R d As fn kd n e ds O i aa k cs:=by
 cases z with
 |true=>exact C.ld a (h1 rfl) hx hh hc pO hs f
 |false=>exact C.ld a (g rfl) hx hh hc pO hs f
theorem ab.bda(C:ab P ao B R){a xs:Array Value}{parts:Array (Nat×dp)}{pv:List (Nat×Value)}{N:Nat}[l:Zv P tt (.agg a)](hu:P.underlying tt=some (.array N el))[Cz P el sz](c:bk O i=some ⟨some t,.build tt parts,ty,pos,af,gd⟩)(h:Nx R d As fn kd n e ds O aa k cs t (.agg xs))
  (hp:PV n e parts.toList pv:=by repeat(first|exact PV.nil|(apply PV.cons;focus (conv=>{lhs;whnf})))) (f:zZ sz a.size pv=true:=by rfl) (b:Fy sz a pv=xs:=by rfl) (g:aN O n e gd=true:=by rfl):Nw R d As fn kd n e ds O i aa k cs:=
 C.val c g (λB H d Q j=>by unfold execOp;simp only[Instr.build];refine ae<|ae<|oR B H d _<|ae<|dN hu B H d _ ?_;simp only[Value.cells];refine ae<|ja B H d _ ?_;rw[sx,hp.eq,Ht sz pv a f,b];exact j) h
theorem ab.iaA(C:ab P ao B R){N:Nat}{j:Int}{o:Nat}(hu:P.underlying tt=some (.array N el))[Cz P el sz](a:bk O i=some ⟨some t,.indexAddr tt x y,ty,pos,af,gd⟩)(h:Nx R d As fn kd n e ds O aa k cs t (.pointer<|some ⟨b,o,none⟩))
  (hx:ev n e x=.pointer (some ⟨b,off,none⟩):=by rfl) (c:ev n e y=.int kk j:=by rfl) (hj:0<=j/\j<N:=by constructor<;>omega) (hoff:off+j.toNat*sz=o:=by rfl) (f:aN O n e gd=true:=by rfl):Nw R d As fn kd n e ds O i aa k cs:=
 C.val a f (λB H d Q q=>by
  unfold execOp;simp only[hx,c,Instr.indexAt,asIntOf];refine ae<|ae<|aA ?_;refine ae<|dN hu B H d _ ?_;refine ae<|ae<|aA ?_
  try refine aA ?_
  refine ae<|dN hu B H d _ ?_;simp only;rw[aJ hj];refine ae<|ja B H d _<|aA ?_;rw[iI,hoff];exact q) h
theorem D6(a b:List bO)(k n:Int):br (a++b) k n=br a k n++br b k n:=by simp[br]
theorem Hv(n k:Int):∀ (O:List bO) (m:List (Int×List bO)),aB (O.foldl (λm o=>bC m (atR o.k n)<|(aB m<|atR o.k n).getD []++[o]) m) k=
  if br O k n=[]then aB m k else some ((aB m k).getD []++br O k n)
 |[],m=>by simp[br]
 |o::l,m=>by
  rw[qQ,Hv n k l,gn]
  grind [atR,hp,br]
theorem D7(O:List bO)(n k:Int):aB (dL O n) k=if br O k n=[]then none else some (br O k n):=by grind [dL,Hv,aB]
theorem Kj(O:List bO)(n k:Int):(aB (dL O n) k).getD []=br O k n:=by grind [D7]
theorem tq(n:Int):∀ (O:List bO) (m:List (Int×List bO)),(m.map (·.1)).Nodup->((O.foldl (λm o=>bC m (atR o.k n)<|(aB m<|atR o.k n).getD []++[o]) m).map (·.1)).Nodup
 |[],m,h=>h
 |o::l,m,h=>tq n l _<|fR h
theorem Hw(O:List bO)(n:Int):((dL O n).map (·.1)).Nodup:=tq n O []<|by simp
theorem uv(O:List bO)(n k:Int):k∈(dL O n).map (·.1)↔cu O k n=true:=by
 have h:=getM_none (k:=k) (l:=dL O n);rw[D7]at h
 grind [cu,br]
theorem Wu(s:eg)(O:List bO)(f:eg->Int->List bO->eg):sZ s O f=(upto s.n).foldl (λz k=>if(br O k s.n).isEmpty then z else f z k (br O k s.n)) s:=by unfold sZ;simp only[Kj]
theorem qm(log b:List RecR)(a tx:Int):∀ i,i<=log.length->findD (log++b) a tx i=findD log a tx i
 |0,_=>rfl
 |i+1,h=>by unfold findD;rw[qm log b a tx i ai,pT ai]
theorem dX(log:List RecR)(r:RecR)(a tx:Int):aM (log++[r]) a tx=if isRec a tx r then some log.length else aM log a tx:=by
 unfold aM;rw[iV,iR,findD]
 grind [qm]
theorem Bb{log:List RecR}{a tx:Int}:∀ {n i:Nat},findD log a tx n=some i->i<n/\∃ r,log[i]? =some r/\r.kind=a/\r.tx=tx
 |0,i,h=>by cases h
 |n+1,i,h=>by
  unfold findD at h;split at h
  .grind [isRec]
  .obtain⟨h1,b⟩:=Bb h;exact⟨ai,b⟩
theorem bG{log:List RecR}{a:Int}{i:Nat}(h:aM log a tx=some i):i<log.length/\∃ r,log[i]? =some r/\r.kind=a/\r.tx=tx:=Bb h
theorem vD{log:List RecR}{a tx:Int}:∀ {n:Nat},findD log a tx n=none↔∀ i r,i<n->log[i]? =some r->¬ (r.kind=a/\r.tx=tx)
 |0=>by simp[findD]
 |n+1=>by
  unfold findD;constructor
  .intro h i r hi b;split at h
   .cases h
   .rename_i c;rcases LW.1 hi with h1|rfl
    .exact vD.1 h i r h1 b
    .rw[b]at c;simpa[isRec]using c
  .intro h;split
   .grind [isRec]
   .exact vD.2 λi r hi=>h i r ai
theorem iM{log:List RecR}{a:Int}:aM log a tx=none↔∀ r∈log,¬ (r.kind=a/\r.tx=tx):=by
 unfold aM;rw[vD];constructor
 .intro h r b;obtain⟨i,hi⟩:=pV b
  grind
 .grind
theorem oW(log:List RecR)(r:RecR)(tx:Int):aL (log++[r]) tx=if isRec 3 tx r then none else if isRec 1 tx r then(if(aM log 3 tx).isSome then none else some log.length)else aL log tx:=by grind [aL,dX,isRec]
theorem cZ{log:List RecR}{i:Nat}(h:aL log tx=some i):aM log 3 tx=none/\aM log 1 tx=some i:=by
 unfold aL at h;split at h
 .cases h
 .rename_i a;exact⟨by simpa using a,h⟩
structure KL(E:List aR)(P:eg)(L:List kh)(V:List Int):Prop where
 pend:∀ tx,aB P.pend tx=(aL (E.map aR.aZ) tx).bind λi=>((E.map aR.aZ)[i]?).map λr=>⟨i,r.home,r.ops⟩
 pn:(P.pend.map (·.1)).Nodup
 done:∀ tx,aB P.done tx=(aM (E.map aR.aZ) 3 tx).bind λi=>((E.map aR.aZ)[i]?).map λr=>⟨i,r.yes⟩
 bF:∀ tx,aB P.bF tx=(aM (E.map aR.aZ) 2 tx).bind λi=>((E.map aR.aZ)[i]?).map λr=>⟨i,r.yes⟩
 lock:∀ k,aB P.aQ k=(L.find? λh=>h.key==k).map (·.tx)
 pl:(P.aQ.map (·.1)).Nodup
 ln:(L.map (·.key)).Nodup
 lk:∀ h∈L,∃ i r,aL (E.map aR.aZ) h.tx=some i/\(E.map aR.aZ)[i]? =some r/\∃ o∈r.ops,o.k=h.key
 lo:∀ tx i r,aL (E.map aR.aZ) tx=some i->(E.map aR.aZ)[i]? =some r->∀ o∈r.ops,⟨o.k,tx⟩∈L
 bX:∀ k,97<=k->k<=122->(aB P.values k).getD 0=V[(k-97).toNat]?.getD 0
 C5:V.length=26
 vn:(P.values.map (·.1)).Nodup
 vk:∀ p∈P.values,97<=p.1/\p.1<=122
theorem KL.aS{P P':eg}{L:List kh}{V:List Int}(H:KL E P L V)(e:(P'.pend,P'.done,P'.bF,P'.aQ,P'.values)=(P.pend,P.done,P.bF,P.aQ,P.values):=by rfl):KL E P' L V:=by simp only[GM]at e;obtain⟨e1,e2,c,b,a⟩:=e;exact⟨by rw[e1];exact H.pend,by rw[e1];exact H.pn,by rw[e2];exact H.done,by rw[c];exact H.bF,by rw[b];exact H.lock,by rw[b];exact H.pl,H.ln,H.lk,H.lo,by rw[a];exact H.bX,H.C5,by rw[a];exact H.vn,by rw[a];exact H.vk⟩
theorem qn{L:List kh}(a:(L.map (·.key)).Nodup){k:Int}:(L.find? λh=>h.key==k).map (·.tx)=some tx↔(⟨k,tx⟩:kh)∈L:=by
 induction L with
 |nil=>simp
 |cons h L c=>
  rw[jq,qP]at a;rw[List.find?_cons];by_cases e:h.key=k
  .have b:(h.key==k)=true:=by simpa using e
   rw[b];simp only[lQ,zJ,gU];constructor
   .rintro rfl;subst e;exact .inl rfl
   .grind
  .grind
theorem uw{L:List kh}{k:Int}:(L.find? λh=>h.key==k).map (·.tx)=none↔∀ h∈L,h.key≠k:=by simp[Q4]
theorem KL.start(P:eg):KL [] (jD P) [] bQ:=by have b:∀ a tx,aM ([]:List RecR) a tx=none:=λ_ _=>rfl;have h1:∀ tx,aL ([]:List RecR) tx=none:=λ_=>rfl;refine⟨λtx=>by simp[h1,jD,aB],by simp[jD],λtx=>by simp[b,jD,aB],λtx=>by simp[b,jD,aB],λk=>by simp[jD,aB],by simp[jD],by simp,by simp,λtx i r h=>by simp[h1]at h,λk h1 c=>?_,rfl,by simp[jD],by simp[jD]⟩;simp only[jD,aB,Q5,bQ];rw[List.getElem?_replicate];split<;>rfl
variable{E:List aR}{P:eg}{L:List kh}{V:List Int}
theorem Bc(e:aR)(i:Nat):((E++[e]).map aR.aZ)[i]? =if i=E.length then some e.aZ else(E.map aR.aZ)[i]? :=by grind
theorem wW(tx k:Int):∀ (O:List bO) (l:List (Int×Int)),aB (O.foldl (λl o=>bC l o.k tx) l) k=if O.any (λo=>o.k==k)then some tx else aB l k
 |[],l=>by simp
 |o::O,l=>by
  rw[qQ,wW tx k O,gn]
  grind
theorem tu(tx:Int):∀ (O:List bO) (l:List (Int×Int)),(l.map (·.1)).Nodup->((O.foldl (λl o=>bC l o.k tx) l).map (·.1)).Nodup
 |[],l,h=>h
 |o::O,l,h=>tu tx O _<|fR h
theorem wX(k:Int):∀ (O:List bO) (l:List (Int×Int)),(l.map (·.1)).Nodup->aB (O.foldl (λl o=>eo l o.k) l) k=if O.any (λo=>o.k==k)then none else aB l k
 |[],l,_=>by simp
 |o::O,l,h=>by
  rw[qQ,wX k O _<|oh h,xR h]
  grind
theorem tv:∀ (O:List bO) (l:List (Int×Int)),(l.map (·.1)).Nodup->((O.foldl (λl o=>eo l o.k) l).map (·.1)).Nodup
 |[],l,h=>h
 |o::O,l,h=>tv O _<|oh h
theorem Hx(L:List kh)(M:List kh)(k:Int):((L++M).find? λh=>h.key==k).map (·.tx)=((L.find? λh=>h.key==k).map (·.tx)).or ((M.find? λh=>h.key==k).map (·.tx)):=by grind
theorem yP(tx k:Int):∀ O:List bO,((O.map λo=>(⟨o.k,tx⟩:kh)).find? λh=>h.key==k).map (·.tx)=if O.any (λo=>o.k==k)then some tx else none
 |[]=>rfl
 |o::O=>by
  have:=yP tx k O
  grind
theorem KL.cK(H:KL E P L V){tx home:Int}{O:List bO}(h1:aM (E.map aR.aZ) 1 tx=none)(m:aM (E.map aR.aZ) 3 tx=none)(hf:∀ o∈O,aB P.aQ o.k=none)(s:(O.map (·.k)).Nodup):
  KL (E++[.cK tx home O]) (u7 P tx home O E.length) (u6 L tx O) V:=by
 have x:aL (E.map aR.aZ) tx=none:=by unfold aL;rw[m];simpa using h1
 have y:(E++[aR.cK tx home O]).map aR.aZ=E.map aR.aZ++[(aR.cK tx home O).aZ]:=by simp
 have j:∀ t,aL ((E++[aR.cK tx home O]).map aR.aZ) t=if t=tx then some E.length else aL (E.map aR.aZ) t:=λt=>by grind [oW,isRec,aR.aZ,dz]
 have u:∀ t i,aL (E.map aR.aZ) t=some i->i<E.length:=λt i h=>by have:=(bG (cZ h).2).1;simpa using this
 have n:∀ c t,c≠1->aM ((E++[aR.cK tx home O]).map aR.aZ) c t=aM (E.map aR.aZ) c t:=λc t z=>by grind [dX,isRec,aR.aZ,dz]
 have p:∀ c t,(aM (E.map aR.aZ) c t).bind (λi=>(((E++[aR.cK tx home O]).map aR.aZ)[i]?).map λr=>(⟨i,r.yes⟩:iK))=(aM (E.map aR.aZ) c t).bind (λi=>((E.map aR.aZ)[i]?).map λr=>⟨i,r.yes⟩):=λc t=>by
  cases h:aM (E.map aR.aZ) c t with
  |none=>rfl
  |some i=>
   have:=(bG h).1
   grind
 refine⟨λt=>?_,fR H.pn,λt=>?_,λt=>?_,λk=>?_,tu _ _ _ H.pl,?_,λh d=>?_,λt i r f hi o g=>?_,H.bX,H.C5,H.vn,H.vk⟩
 .show aB (bC P.pend tx _) t=_;rw[gn,j];by_cases e:t=tx
  .rw[aJ e,aJ e];simp only[Ai,Bc,fq,lQ];rfl
  .rw[ax e,ax e,H.pend];cases h:aL (E.map aR.aZ) t with
   |none=>rfl
   |some i=>grind
 .show aB P.done t=_;rw[n 3 t (by decide),p,H.done]
 .show aB P.bF t=_;rw[n 2 t (by decide),p,H.bF]
 .show aB (O.foldl _ P.aQ) k=_;rw[wW];unfold u6;rw[Hx,yP,<- H.lock]
  grind
 .unfold u6;rw[eW];refine jc.2 ⟨H.ln,by simpa[Ao]using s,λa v b q e=>?_⟩;subst e;obtain⟨h,d,rfl⟩:=cq.1 v;simp only[Ap,cq,Function.comp_apply]at q;obtain⟨o,g,w⟩:=q;have l:=hf o g;rw[H.lock,uw]at l;exact l h d w.symm
 .unfold u6 at d;rcases bS.1 d with d|d
  .obtain⟨i,r,h1,l,m⟩:=H.lk h d
   grind
  .obtain⟨o,g,rfl⟩:=cq.1 d;exact⟨E.length,_,by rw[j,aJ rfl],by rw[Bc,aJ rfl],o,g,rfl⟩
 .unfold u6;rw[j]at f;by_cases e:t=tx
  .rw[aJ e]at f;obtain rfl:=cA f;rw[Bc,aJ rfl]at hi;obtain rfl:=cA hi;subst e;exact fD _<|cq.2 ⟨o,g,rfl⟩
  .rw[ax e]at f;rw[Bc,ax<|QT<|u _ _ f]at hi;exact iq _<|H.lo t i r f hi o g
theorem KL.dec(H:KL E P L V){tx:Int}{yes:Bool}{reads:List Int}:KL (E++[.dec tx yes reads]) {P with bF:=bC P.bF tx ⟨E.length,yes⟩} L V:=by
 have l:(E++[aR.dec tx yes reads]).map aR.aZ=E.map aR.aZ++[(aR.dec tx yes reads).aZ]:=by simp
 have b:∀ a t,aM ((E++[aR.dec tx yes reads]).map aR.aZ) a t=if a=2/\t=tx then some E.length else aM (E.map aR.aZ) a t:=λa t=>by grind [dX,isRec,aR.aZ,dz]
 have d:∀ t,aL ((E++[aR.dec tx yes reads]).map aR.aZ) t=aL (E.map aR.aZ) t:=λt=>by unfold aL;rw[b,b];simp
 have g:∀ t i,aL (E.map aR.aZ) t=some i->i<E.length:=λt i h=>by have:=(bG (cZ h).2).1;simpa using this
 have f:∀ a t,(aM (E.map aR.aZ) a t).bind (λi=>(((E++[aR.dec tx yes reads]).map aR.aZ)[i]?).map λr=>(⟨i,r.yes⟩:iK))=(aM (E.map aR.aZ) a t).bind (λi=>((E.map aR.aZ)[i]?).map λr=>⟨i,r.yes⟩):=λa t=>by
  cases h:aM (E.map aR.aZ) a t with
  |none=>rfl
  |some i=>
   have:=(bG h).1
   grind
 refine⟨λt=>?_,H.pn,λt=>?_,λt=>?_,H.lock,H.pl,H.ln,λh j=>?_,λt i r c hi o k=>?_,H.bX,H.C5,H.vn,H.vk⟩
 .show aB P.pend t=_;rw[d,H.pend];cases h:aL (E.map aR.aZ) t with
  |none=>rfl
  |some i=>grind
 .show aB P.done t=_;rw[b,ax (by simp),f,H.done]
 .show aB (bC P.bF tx _) t=_;rw[gn,b];by_cases e:t=tx
  .rw[aJ e,aJ ⟨rfl,e⟩];simp only[Ai,Bc,fq,lQ];rfl
  .rw[ax e,ax λz=>e z.2,f,H.bF]
 .obtain⟨i,r,h1,m,n⟩:=H.lk h j
  grind
 .rw[d]at c;rw[Bc,ax<|QT<|g _ _ c]at hi;exact H.lo t i r c hi o k
theorem mZ(yes:Bool):∀ (O:List bO) (l:List (Int×Int)) (v:List Int),v.length=26->(∀ o∈O,97<=o.k/\o.k<=122)->(∀ k,97<=k->k<=122->(aB l k).getD 0=v[(k-97).toNat]?.getD 0)->
  ∀ k,97<=k->k<=122->(aB (O.foldl (λv o=>if yes&&o.w then bC v o.k o.v else v) l) k).getD 0=(if yes then cS v O else v)[(k-97).toNat]?.getD 0
 |[],l,v,c,b,h,k,h1,a=>by cases yes<;>exact h k h1 a
 |o::O,l,v,c,b,h,k,h1,a=>by
  have g:=b o<|fX ..;cases i:yes with
  |false=>
   have:=mZ false O l v c (λo h=>b o<|fg _ h) h k h1 a;simpa using this
  |true=>
   cases d:o.w with
   |false=>
    have:=mZ true O l v c (λo h=>b o<|fg _ h) h k h1 a;simpa[cS,d]using this
   |true=>
    have:=mZ true O (bC l o.k o.v) (v.set (o.k-97).toNat o.v) (by simpa using c) (λo h=>b o<|fg _ h) (λk h1 a=>by
     rw[gn,wi];by_cases e:k=o.k
     .subst e;rename_i h1 a;have f:(o.k-97).toNat<v.length:=ai;rw[aJ rfl,aJ rfl,aJ f]
     .have:¬ (o.k-97).toNat=(k-97).toNat:=ai;rw[ax e,ax this];exact h k h1 a) k h1 a
    simpa[cS,d]using this
theorem ox:∀ (O:List bO) (v:List Int),(cS v O).length=v.length
 |[],v=>rfl
 |o::O,v=>by
  have:=ox O (if o.w then v.set (o.k-97).toNat o.v else v)
  grind [cS]
theorem rM(yes:Bool):∀ (O:List bO) (l:List (Int×Int)),(l.map (·.1)).Nodup->((O.foldl (λv o=>if yes&&o.w then bC v o.k o.v else v) l).map (·.1)).Nodup
 |[],l,h=>h
 |o::O,l,h=>rM yes O _ (by
   show((if(yes&&o.w)=true then bC l o.k o.v else l).map (·.1)).Nodup;split
   .exact fR h
   .exact h)
theorem vc(yes:Bool):∀ (O:List bO) (l:List (Int×Int)),(∀ o∈O,97<=o.k/\o.k<=122)->(∀ p∈l,97<=p.1/\p.1<=122)->∀ p∈(O.foldl (λv o=>if yes&&o.w then bC v o.k o.v else v) l),97<=p.1/\p.1<=122
 |[],l,_,h=>h
 |o::O,l,a,h=>vc yes O _ (λo h=>a o<|fg _ h) (λp hp=>by
   have hp:p∈(if(yes&&o.w)=true then bC l o.k o.v else l):=hp;split at hp
   .rcases eO hp with rfl|hp
    .exact a o<|fX ..
    .exact h p hp
   .exact h p hp)
theorem KL.kY(H:KL E P L V){tx:Int}{yes:Bool}(s:aM (E.map aR.aZ) 3 tx=none)(J:∀ i r,aL (E.map aR.aZ) tx=some i->(E.map aR.aZ)[i]? =some r->∀ o∈r.ops,97<=o.k/\o.k<=122){V':List Int}
  (K:V'=match aL (E.map aR.aZ) tx with|some i=>if yes then cS V (((E.map aR.aZ)[i]?).getD dz).ops else V|none=>V):
  KL (E++[.kY tx yes]) (qV P tx yes E.length) (yO L tx) V':=by
 have M:(E++[aR.kY tx yes]).map aR.aZ=E.map aR.aZ++[(aR.kY tx yes).aZ]:=by simp
 have u:∀ a t,aM ((E++[aR.kY tx yes]).map aR.aZ) a t=if a=3/\t=tx then some E.length else aM (E.map aR.aZ) a t:=λa t=>by grind [dX,isRec,aR.aZ,dz]
 have v:∀ t,aL ((E++[aR.kY tx yes]).map aR.aZ) t=if t=tx then none else aL (E.map aR.aZ) t:=λt=>by grind [aL]
 have B:∀ t i,aL (E.map aR.aZ) t=some i->i<E.length:=λt i h=>by have:=(bG (cZ h).2).1;simpa using this
 have w:∀ a t,(aM (E.map aR.aZ) a t).bind (λi=>(((E++[aR.kY tx yes]).map aR.aZ)[i]?).map λr=>(⟨i,r.yes⟩:iK))=(aM (E.map aR.aZ) a t).bind (λi=>((E.map aR.aZ)[i]?).map λr=>⟨i,r.yes⟩):=λa t=>by
  cases h:aM (E.map aR.aZ) a t with
  |none=>rfl
  |some i=>
   have:=(bG h).1
   grind
 have C:∃ O,((aB P.pend tx).map (·.ops)).getD []=O/\((aL (E.map aR.aZ) tx=none/\O=[])\/∃ i r,aL (E.map aR.aZ) tx=some i/\(E.map aR.aZ)[i]? =some r/\O=r.ops):=by
  refine⟨_,rfl,?_⟩;rw[H.pend];cases h:aL (E.map aR.aZ) tx with
  |none=>exact .inl ⟨rfl,rfl⟩
  |some i=>grind
 obtain⟨O,j,D⟩:=C;have x:∀ o∈O,97<=o.k/\o.k<=122:=λo d=>by grind
 have f:V'=if yes then cS V O else V:=by grind [cS]
 have m:∀ k,O.any (λo=>o.k==k)=true↔(⟨k,tx⟩:kh)∈L:=λk=>by
  rcases D with⟨h1,rfl⟩|⟨i,r,h1,b,rfl⟩
  .constructor
   .intro h;simp at h
   .intro h;obtain⟨i,r,b,_⟩:=H.lk _ h;simp only at b;rw[h1]at b;cases b
  .constructor
   .intro h;obtain⟨o,d,e⟩:=uV.1 h;have F:o.k=k:=by simpa using e
    exact F▸H.lo tx i r h1 b o d
   .intro h;obtain⟨N,r',s,I,o,d,e⟩:=H.lk _ h
    grind
 have y:((yO L tx).map (·.key)).Nodup:=H.ln.sublist<|(LX ..).map _;refine⟨λt=>?_,oh H.pn,λt=>?_,λt=>?_,λk=>?_,tv _ _ H.pl,y,λh g=>?_,λt i r c hi o d=>?_,λk h1 b=>?_,?_,rM _ _ _ H.vn,?_⟩
 .show aB (eo P.pend tx) t=_;rw[xR H.pn,v];by_cases e:t=tx
  .simp[e]
  .rw[ax e,ax e,H.pend];cases h:aL (E.map aR.aZ) t with
   |none=>rfl
   |some i=>grind
 .show aB (bC P.done tx _) t=_;rw[gn,u];by_cases e:t=tx
  .rw[aJ e,aJ ⟨rfl,e⟩];simp only[Ai,Bc,fq,lQ];rfl
  .rw[ax e,ax λz=>e z.2,w,H.done]
 .show aB P.bF t=_;rw[u,ax (by simp),w,H.bF]
 .show aB (List.foldl (λl o=>eo l o.k) P.aQ (((aB P.pend tx).map (·.ops)).getD [])) k=_;rw[j,wX _ _ _ H.pl];by_cases n:O.any (λo=>o.k==k)=true
  .rw[aJ n];have q:=(m k).1 n
   symm
   rw[uw];intro h g e;obtain⟨h1,b⟩:=gW.1 g;have e1:=(qn H.ln).2 q;have e2:=(qn H.ln (k:=k) (tx:=h.tx)).2 (by rw[<- e];exact h1)
   grind
  .rw[ax n,H.lock];cases A:(L.find? λh=>h.key==k).map (·.tx)with
   |none=>
    symm;rw[uw]
    intro h g;exact uw.1 A h (gW.1 g).1
   |some t=>
    symm
    rw[qn y];have q:=(qn H.ln).1 A;refine gW.2 ⟨q,?_⟩
    grind
 .obtain⟨h1,b⟩:=gW.1 g;have Q:h.tx≠tx:=by simpa using b
  obtain⟨i,r,s,I,R⟩:=H.lk h h1
  grind
 .rw[v]at c;by_cases e:t=tx
  .rw[aJ e]at c;cases c
  .rw[ax e]at c;rw[Bc,ax<|QT<|B _ _ c]at hi;exact gW.2 ⟨H.lo t i r c hi o d,by simpa using e⟩
 .show(aB (List.foldl _ P.values (((aB P.pend tx).map (·.ops)).getD [])) k).getD 0=_;rw[j,f];exact mZ yes O P.values V H.C5 x H.bX k h1 b
 .rw[f];split
  .rw[ox,H.C5]
  .exact H.C5
 .show∀ p∈List.foldl _ P.values (((aB P.pend tx).map (·.ops)).getD []),_;rw[j];exact vc yes O P.values x H.vk
end
section
def opsOf(T:List (List bO))(tx:Int):Option (List bO):=if tx<0 then none else T[tx.toNat]?
def Oj(l:List bO):Nat:=(l.filter λo=> !o.w).length
def jM(T:List (List bO))(n:Int)(m:MsgR):Prop:=∃ O,opsOf T m.tx=some O/\
 ((m.kind=1/\m.aX= -1/\m.to=gp O n/\m.ops=O)\/
 (m.kind=2/\m.aX=gp O n/\cu O m.to n=true/\m.ops=br O m.to n)\/
 (m.kind=3/\m.to=gp O n/\cu O m.aX n=true/\(m.yes=true->m.reads.length=Oj (br O m.aX n))/\m.ops=[])\/
 (m.kind=4/\m.aX=gp O n/\cu O m.to n=true/\m.ops=[])\/
 (m.kind=5/\m.to=gp O n/\cu O m.aX n=true/\m.ops=[])\/
 (m.kind=6/\m.to=gp O n/\cu O m.aX n=true/\m.ops=[])\/
 (m.kind=7/\m.to= -1/\m.ops=[]))
inductive eH(T:List (List bO))(n me:Int):List aR->Prop
 |nil:eH T n me []
 |cK {E:List aR} {tx:Int} {ops:List bO}:eH T n me E->opsOf T tx=some ops->cu ops me n=true->aM (E.map aR.aZ) 1 tx=none->aM (E.map aR.aZ) 3 tx=none->
   (∀ t i r,aL (E.map aR.aZ) t=some i->(E.map aR.aZ)[i]? =some r->∀ o∈r.ops,∀ o'∈br ops me n,o.k≠o'.k)->eH T n me (E++[.cK tx (gp ops n) (br ops me n)])
 |dec {E:List aR} {tx:Int} {yes:Bool} {reads:List Int}:eH T n me E->(opsOf T tx).isSome=true->eH T n me (E++[.dec tx yes reads])
 |kY {E:List aR} {tx:Int} {yes:Bool}:eH T n me E->(opsOf T tx).isSome=true->aM (E.map aR.aZ) 3 tx=none->eH T n me (E++[.kY tx yes])
def vd(T:List (List bO)):Prop:=(∀ O∈T,gw O)/\T.length<=60
theorem kC(a:List (List bO))(h:opsOf T tx=some O):opsOf (T++a) tx=some O:=by grind [opsOf]
theorem ie(h:opsOf T tx=some O):0<=tx/\tx.toNat<T.length/\O∈T:=by grind [opsOf]
theorem jM.app{m:MsgR}(a:List (List bO))(h:jM T n m):jM (T++a) n m:=by obtain⟨O,h1,b⟩:=h;exact⟨O,kC a h1,b⟩
theorem eH.app(a:List (List bO))(h:eH T n me E):eH (T++a) n me E:=by
 induction h with
 |nil=>exact .nil
 |cK _ h1 c e f g b=>exact .cK b (kC a h1) c e f g
 |dec _ h1 b=>
  obtain⟨o,d⟩:=oM.1 h1;exact .dec b (by rw[kC a d];rfl)
 |kY _ h1 c b=>
  obtain⟨o,d⟩:=oM.1 h1;exact .kY b (by rw[kC a d];rfl) c
theorem eH.init(h:eH T n me E):∀ k,eH T n me (E.take k):=by
 induction h with
 |nil=>intro k;simpa using eH.nil
 |@cK E tx O h1 a b d e f c=>
  intro k;rcases lP E.length k with h|h
  .rw[lA (by simp;omega)];exact .cK h1 a b d e f
  .grind
 |@dec E tx yes reads h1 a c=>
  intro k;rcases lP E.length k with h|h
  .rw[lA (by simp;omega)];exact .dec h1 a
  .grind
 |@kY E tx yes h1 a b c=>
  intro k;rcases lP E.length k with h|h
  .rw[lA (by simp;omega)];exact .kY h1 a b
  .grind
theorem eH.tw(h:eH T n me E):∀ (i:Nat) (r:RecR),(E.map aR.aZ)[i]? =some r->(∃ O,opsOf T r.tx=some O/\(r.kind=1->cu O me n=true/\r.ops=br O me n/\r.home=gp O n)):=by
 induction h with
 |nil=>intro i r a;simp at a
 |@cK E tx O h1 b e f g j c=>
  intro i r a;rw[Bc]at a;split at a
  .obtain rfl:=cA a;exact⟨O,b,λ_=>⟨e,rfl,rfl⟩⟩
  .exact c i r a
 |@dec E tx yes reads h1 b c=>
  intro i r a;rw[Bc]at a;split at a
  .obtain rfl:=cA a;obtain⟨o,d⟩:=oM.1 b;exact⟨o,d,λh=>by simp[aR.aZ]at h⟩
  .exact c i r a
 |@kY E tx yes h1 b e c=>
  intro i r a;rw[Bc]at a;split at a
  .obtain rfl:=cA a;obtain⟨o,d⟩:=oM.1 b;exact⟨o,d,λh=>by simp[aR.aZ]at h⟩
  .exact c i r a
theorem eH.ready(h:eH T n me E){r:RecR}(hr:aL (E.map aR.aZ) tx=some i)(hi:(E.map aR.aZ)[i]? =some r):
  ∃ O,opsOf T tx=some O/\cu O me n=true/\r.ops=br O me n/\r.home=gp O n/\r.tx=tx/\r.kind=1:=by
 obtain⟨_,r',h1,a,b⟩:=bG (cZ hr).2;rw[hi]at h1;obtain rfl:=cA h1;obtain⟨O,c,d⟩:=h.tw i r hi
 grind
theorem Be:(br O k n).Sublist O:=LX
theorem gw.key{O:List bO}(h:gw O){k n:Int}:∀ o∈br O k n,97<=o.k/\o.k<=122:=λo a=>by have:=h.1 o<|Be.mem a;exact⟨this.1,this.2.1⟩
theorem gw.nod(h:gw O):((br O k n).map (·.k)).Nodup:=h.2.1.sublist<|Be.map _
theorem vd.of(h:vd T)(a:opsOf T tx=some O):gw O:=h.1 O (ie a).2.2
structure UA(n:Int)(a:m9)(b:dS):Prop where
 ops:a.ops=b.ops
 dec:a.dec=b.dec
 yes:a.yes=b.yes
 bq:∀ k,aB a.bq k=(bJ b k).map (·.reads)
 vn:(a.bq.map (·.1)).Nodup
 an:(a.cf.map (·.1)).Nodup
 cf:∀ k,(aB a.cf k).isSome=b.cf.contains k
 ap:∀ p∈a.cf,0<p.2
 vt:∀ p∈a.bq,cu b.ops p.1 n=true/\p.2.length=Oj (br b.ops p.1 n)
 at':∀ p∈a.cf,cu b.ops p.1 n=true
structure l5(T:List (List bO))(n me:Int)(p:Int×m9)(u:dS):Prop where
 tx:p.1=u.tx
 ua:UA n p.2 u
 ops:opsOf T u.tx=some u.ops
 home:gp u.ops n=me
inductive F2{A B:Type}(r:A->B->Prop):List A->List B->Prop
 |nil:F2 r [] []
 |cons {a:A} {b:B} {l:List A} {m:List B}:r a b->F2 r l m->F2 r (a::l) (b::m)
structure dA(T:List (List bO))(n:Int)(P:eg)(R:ShR):Prop where
 me:P.me=R.me
 mb:0<=R.me/\R.me<n
 n1:P.n=n
 n2:R.n=n
 up:P.up=R.up
 log:P.log.map aR.aZ=R.log
 tA:eH T n R.me P.log
 aE:P.aE=R.aE
 gl:0<=R.aE/\R.aE<=R.log.length
 timers:P.timers=R.timers
 clock:P.clock=R.clock
 waits:P.waits=R.waits
 out:P.out=R.out
 wo:∀ m∈R.waits,jM T n m
 oo:∀ m∈R.out,jM T n m
 tt:∀ t∈R.timers,(opsOf T t.tx).isSome=true
 kl:R.up=true->KL P.log P R.aQ R.bX
 un:R.up=true->(P.cr.map (·.1)).Nodup
 cr:R.up=true->F2 (l5 T n R.me) P.cr R.under
 ud:R.up=true->∀ u∈R.under,u.dec=true->(aM R.log 2 u.tx).isSome=true
 dn:R.up=false->P.values=[]/\P.aQ=[]/\R.bX=bQ/\R.aQ=[]/\R.waits=[]/\R.under=[]
theorem F2.mono{A B:Type}{r r':A->B->Prop}(f:∀ a b,r a b->r' a b){l:List A}{m:List B}(h:F2 r l m):F2 r' l m:=by
 induction h with
 |nil=>exact .nil
 |cons h _ c=>exact .cons (f _ _ h) c
section
variable{T:List (List bO)}{n me:Int}
theorem qo(h:F2 (l5 T n me) l m)(tx:Int):
  (aB l tx=none/\bP m tx=none)\/∃ i a u,aB l tx=some a/\bP m tx=some i/\m[i]? =some u/\u.tx=tx/\l5 T n me (tx,a) u:=by
 induction h with
 |nil=>exact .inl ⟨rfl,rfl⟩
 |@cons p u l m hp h c=>
  have b:bP (u::m) tx=if u.tx==tx then some 0 else(bP m tx).map (· +1):=by grind [bP]
  by_cases e:u.tx=tx
  .refine .inr ⟨0,p.2,u,?_,by rw[b];simp[e],rfl,e,?_⟩
   .unfold aB;rw[aJ (hp.tx.trans e)]
   .rw[<- e,<- hp.tx];exact hp
  .have e2:¬ p.1=tx:=λz=>e<|hp.tx.symm.trans z
   grind [aB]
theorem Fz(h:F2 (l5 T n me) l m){a:m9}{v:dS}(hi:bP m tx=some i)(hv:l5 T n me (tx,a) v):F2 (l5 T n me) (bC l tx a) (m.set i v):=by
 induction h generalizing i with
 |nil=>cases hi
 |@cons p u l m hp h c=>
  have d:bP (u::m) tx=if u.tx==tx then some 0 else(bP m tx).map (· +1):=by grind [bP]
  rw[d]at hi;by_cases e:u.tx=tx
  .have b:(u.tx==tx)=true:=by simpa using e
   rw[b]at hi;obtain rfl:=cA hi;unfold bC;rw[aJ (hp.tx.trans e),uK];exact .cons hv h
  .have b:(u.tx==tx)=false:=by simpa using e
   rw[b]at hi;obtain⟨j,f,rfl⟩:=LO.1 hi;unfold bC;rw[ax λz=>e<|hp.tx.symm.trans z,Ak];exact .cons hp<|c f
theorem Ww(h:F2 (l5 T n me) l m){a:m9}{v:dS}(hi:bP m tx=none)(hv:l5 T n me (tx,a) v):F2 (l5 T n me) (bC l tx a) (m++[v]):=by
 induction h with
 |nil=>exact .cons hv .nil
 |@cons p u l m hp h b=>
  have c:bP (u::m) tx=if u.tx==tx then some 0 else(bP m tx).map (· +1):=by grind [bP]
  rw[c]at hi;by_cases e:u.tx=tx
  .grind
  .have d:(u.tx==tx)=false:=by simpa using e
   rw[d]at hi;unfold bC;rw[ax λz=>e<|hp.tx.symm.trans z];exact .cons hp<|b<|by simpa using hi
theorem Wx(h:F2 (l5 T n me) l m)(hi:bP m tx=some i):F2 (l5 T n me) (eo l tx) (m.eraseIdx i):=by
 induction h generalizing i with
 |nil=>cases hi
 |@cons p u l m hp h b=>
  have c:bP (u::m) tx=if u.tx==tx then some 0 else(bP m tx).map (· +1):=by grind [bP]
  rw[c]at hi;by_cases e:u.tx=tx
  .have a:(u.tx==tx)=true:=by simpa using e
   rw[a]at hi;obtain rfl:=cA hi;unfold eo;rw[aJ (hp.tx.trans e)];exact h
  .have a:(u.tx==tx)=false:=by simpa using e
   rw[a]at hi;obtain⟨j,d,rfl⟩:=LO.1 hi;unfold eo;rw[ax λz=>e<|hp.tx.symm.trans z,List.eraseIdx_cons_succ];exact .cons hp<|b d
theorem MJ{V:Type}(k:Int)(v:V):∀ l:List (Int×V),(aB l k).isSome=true->eo (bC l k v) k=eo l k
 |[],h=>by cases h
 |p::l,h=>by
  unfold aB at h;unfold bC;by_cases e:p.1=k
  .grind [eo]
  .rw[ax e]at h⊢
   conv=>lhs;unfold eo
   conv=>rhs;unfold eo
   rw[ax e,ax e,MJ k v l h]
end
theorem nb(h:O≠[]):cu O (gp O n) n=true:=by
 cases O with
 |nil=>exact absurd rfl h
 |cons o l=>simp[cu,br,gp]
theorem aaI(b:97<=k)(a:0<n):0<=atR k n/\atR k n<n:=by unfold atR;exact⟨Int.tmod_nonneg _ ai,Int.tmod_lt_of_pos _ a⟩
theorem fM(hr:gw O)(b:0<n)(h:cu O k n=true):0<=k/\k<n:=by
 unfold cu at h;have c:br O k n≠[]:=λe=>by rw[e]at h;simp at h
 obtain⟨o,a⟩:=Yg _ c;have h1:o∈O:=Be.mem a;have d:atR o.k n=k:=by simpa[br,h1]using a
 rw[<- d];exact aaI (hr.1 o h1).1 b
theorem oy:k∈upto n↔0<=k/\k<n:=by
 unfold upto;rw[cq];constructor
 .grind
 .rintro⟨h1,a⟩;exact⟨k.toNat,iA.2 ai,by show((k.toNat:Nat):Int)=k;omega⟩
theorem mR{p:Int->Bool}(hr:gw O)(b:0<n):gP n O p=true↔∀ k,cu O k n=true->p k=true:=by
 unfold gP;rw[lz];constructor
 .intro h k a;have:=h k<|oy.2<|fM hr b a;simpa[a]using this
 .grind
theorem m4{a b:List Int}(ha:a.Nodup)(h:∀ x∈a,x∈b):a.length<=b.length:=by
 induction a generalizing b with
 |nil=>simp
 |cons x a d=>
  rw[qP]at ha;have f:=h x<|fX ..;have:=d (b:=b.erase x) ha.2 λy c=>(List.mem_erase_of_ne λe:y=x=>ha.1 (by rw[<- e];exact c)).2<|h y<|fg _ c
  grind
theorem C6{a b:List Int}(ha:a.Nodup)(h:∀ x∈a,x∈b)(hl:b.length<=a.length):∀ x∈b,x∈a:=by
 intro x d;refine Yh λc=>?_;have:=m4 (a:=x::a) (qP.2 ⟨c,ha⟩) (b:=b) λy e=>by grind
 simp at this;omega
theorem vE{V:Type}{l:List (Int×V)}(a:(l.map (·.1)).Nodup)(ht:∀ p∈l,cu O p.1 n=true):(dL O n).length<=l.length↔∀ k,cu O k n=true->(aB l k).isSome=true:=by
 have c:∀ x∈l.map (·.1),x∈(dL O n).map (·.1):=λx d=>by grind [hp,uv]
 constructor
 .intro h k e;have:=C6 a c (by simpa using h) k<|(uv O n k).2 e;cases f:aB l k with
  |none=>exact absurd this<|getM_none.1 f
  |some v=>rfl
 .intro h;have:=m4 (Hw O n) (b:=l.map (·.1)) λx d=>by grind [uv,getM_none]
  simpa using this
theorem Ol{V:Type}{l:List (Int×V)}(a:(l.map (·.1)).Nodup)(ht:∀ p∈l,cu O p.1 n=true):l.length=(dL O n).length↔∀ k,cu O k n=true->(aB l k).isSome=true:=by
 rw[<- vE a ht];have c:l.length<=(dL O n).length:=by
  have:=m4 a (b:=(dL O n).map (·.1)) λx d=>by grind [hp,uv]
  simpa using this
 omega
end
section
open Go.Conc
variable{P:bT}{ao:Bool}{B:lM}{R:Nat->aO->Array Obj->Prop}{d:Nat}{As aT F:List HP}
variable{fn:bN}{kd:Kd}{n:Nat}{e:Nat->Value}{ds:List eK}{k:List Item}{cs:List Frame}
variable{O:Array Oper}{i:Nat}{aa:List Nat}{dst:Option Nat}{t:Nat}{ty:aP}{pos:String}{af:Array Edge}{gd:Option (Nat×Bool)}{x y z:dp}{v:Value}
theorem ab.xi(C:ab P ao B R)[b:fi P f fu ex]{v0:Value}(hm:gG P (method (P.types.size+Made.depth) t0 v0 name)=some (f,rv))
  (h:∀ H,Sat As (hp H)->dQ P B (ex<|#[rv]++vl.toArray) H d λv a c=>∃ aT,Sat aT (hp a)/\At R c aT (gr fn kd n (dD e dst v) ds (.inRegion O aa::k) cs))
  (g:bk O i=some ⟨dst,.call ⟨.invoke recv name,args,gY⟩,ty,pos,af,gd⟩:=by rfl) (hr:ev n e recv=.iface t0 v0:=by rfl) (hv:args.toList.map (ev n e)=vl:=by rfl) (j:aN O n e gd=true:=by rfl):Nw R d As fn kd n e ds O i aa k cs:=by
 refine C.gen g j λH s=>?_;unfold execOp;simp only;refine ae ?_;have l:args.map (ev n e)=vl.toArray:=by rw[<- hv,<- sx,vo]
 simp only[resolve,hr,l];refine aA ?_;show dQ P B (invoke (.fn (.method name) #[])<|#[.iface t0 v0]++vl.toArray) H d _;unfold invoke;have e1:(#[Value.iface t0 v0]++vl.toArray)[0]? =some (.iface t0 v0):=by simp
 have e2:(#[Value.iface t0 v0]++vl.toArray).extract 1 (#[Value.iface t0 v0]++vl.toArray).size=vl.toArray:=by simp
 simp only[e1,e2];unfold callMethod;simp only;refine ae<|dK (v:=P) rfl ?_;refine ae<|dK hm ?_;simp only;unfold callFunc;refine ae ?_;show dQ P B _ H d _;simp only[program,dQ];rw[b.func];simp only[b.name,b.body,fq,fW,eQ];refine ae ?_;simp only[mark,dQ,lV,pD,pU];simp only[b.nx,b.fd];refine ae<|qb (λv a c q=>?_)<|h H s;obtain⟨aT,s',q⟩:=q;exact aA ⟨aT,s',q⟩
theorem ab.xi0(C:ab P ao B R)[b:fi P f fu ex]{v0:Value}(hm:gG P (method (P.types.size+Made.depth) t0 v0 name)=some (f,rv))(hx:gG P (ex<|#[rv]++vl.toArray)=some v)
  (h:At R d As (gr fn kd n (dD e dst v) ds (.inRegion O aa::k) cs)) (a:bk O i=some ⟨dst,.call ⟨.invoke recv name,args,gY⟩,ty,pos,af,gd⟩:=by rfl) (hr:ev n e recv=.iface t0 v0:=by rfl) (hv:args.toList.map (ev n e)=vl:=by rfl) (c:aN O n e gd=true:=by rfl):Nw R d As fn kd n e ds O i aa k cs:=
 C.xi hm (λH s=>dK hx ⟨As,s,h⟩) a hr hv c
theorem ab.mi0(C:ab P ao B R)[b:Body P f fu c nf]{v0:Value}{Q:Value->List HP->Prop}(hm:gG P (method (P.types.size+Made.depth) t0 v0 name)=some (f,rv))(hs:aI P ao B f (rv::vl).toArray A Q)
  (h:∀ v aT,Q v aT->At R d (aT++F) (gr fn kd n (dD e dst v) ds (.inRegion O aa::k) cs)) (g:bk O i=some ⟨dst,.call ⟨.invoke recv name,args,gY⟩,ty,pos,af,gd⟩:=by rfl) (hr:ev n e recv=.iface t0 v0:=by rfl) (hv:args.toList.map (ev n e)=vl:=by rfl)
  (j:fK A As F:=by exact fK.au) (l:aN O n e gd=true:=by rfl):Nw R d As fn kd n e ds O i aa k cs:=by
 have m:args.map (ev n e)=vl.toArray:=by rw[<- hv,<- sx,vo]
 refine C.en (o:=⟨dst,.call ⟨.invoke recv name,args,gY⟩,ty,pos,af,gd⟩) hs ?_ h g j l;unfold execOp;simp only;refine bH (a:=⟨.fn (.method name) #[],#[.iface t0 v0]++vl.toArray⟩) ?_ ?_
 .unfold resolve;simp only[hr,m];rfl
 .show gG P (invoke (.fn (.method name) #[])<|#[.iface t0 v0]++vl.toArray)=_;unfold invoke;have e1:(#[Value.iface t0 v0]++vl.toArray)[0]? =some (.iface t0 v0):=by simp
  have e2:(#[Value.iface t0 v0]++vl.toArray).extract 1 (#[Value.iface t0 v0]++vl.toArray).size=vl.toArray:=by simp
  simp only[e1,e2];unfold callMethod;simp only;refine bH (a:=P) rfl<|bH hm ?_;have p:#[rv]++vl.toArray=(rv::vl).toArray:=by simp
  simp only[p];exact l3 _
theorem ab.taI(C:ab P ao B R){c:Array (String×aP)}{mm:String}{f:Value}(hu:P.underlying tt=some (.interface c))(hi:P.info? t0=some inf)(b:Instr.missingMethod c inf.methods=some mm)(hz:∃ i,P.info? tt=some i/\i.zero=some zv)(g:bk O i=some ⟨some t,.typeAssert x xt tt true,ty,pos,af,gd⟩)
  (h:Nx R d As fn kd n e ds O aa k cs t (.tuple #[zv,.bool false])) (hx:ev n e x=.iface t0 f:=by rfl) (j:aN O n e gd=true:=by rfl):Nw R d As fn kd n e ds O i aa k cs:=
 C.v0 g h (by unfold execOp;simp only[hx];refine bH (a:=.tuple #[zv,.bool false]) ?_ rfl;unfold Instr.typeAssert;refine bH (gq hu) ?_;simp only;refine bH (oq hi) ?_;simp only[b,fq];exact bH (te hz) rfl) j
theorem ab.taY(C:ab P ao B R){f:Array (String×aP)}{b:Value}(hu:P.underlying tt=some (.interface f))(hi:P.info? t0=some inf)(c:Instr.missingMethod f inf.methods=none)(g:bk O i=some ⟨some t,.typeAssert x xt tt true,ty,pos,af,gd⟩)
  (h:Nx R d As fn kd n e ds O aa k cs t (.tuple #[.iface t0 b,.bool true])) (hx:ev n e x=.iface t0 b:=by rfl) (j:aN O n e gd=true:=by rfl):Nw R d As fn kd n e ds O i aa k cs:=
 C.v0 g h (by unfold execOp;simp only[hx];refine bH (a:=.tuple #[.iface t0 b,.bool true]) ?_ rfl;unfold Instr.typeAssert;refine bH (gq hu) ?_;simp only;refine bH (oq hi) ?_;simp only[c,fq];rfl) j
theorem ab.Y4(C:ab P ao B R)[b:Body P f fu c nf]{v0:Value}{Q:Value->List HP->Prop}(hm:∀ H d (Q:bN×Value->Array Obj->Nat->Prop),Sat As (hp H)->Q (f,rv) H d->dQ P B (method (P.types.size+Made.depth) t0 v0 name) H d Q)(hs:aI P ao B f (rv::vl).toArray A Q)
  (h:∀ v aT,Q v aT->At R d (aT++F) (gr fn kd n (dD e dst v) ds (.inRegion O aa::k) cs)) (a:bk O i=some ⟨dst,.call ⟨.invoke recv name,args,gY⟩,ty,pos,af,gd⟩:=by rfl) (hr:ev n e recv=.iface t0 v0:=by rfl) (hv:args.toList.map (ev n e)=vl:=by rfl)
  (g:fK A As F:=by exact fK.au) (j:aN O n e gd=true:=by rfl):Nw R d As fn kd n e ds O i aa k cs:=by
 refine C.gen a j λH s=>?_;unfold execOp;simp only;refine ae ?_;have l:args.map (ev n e)=vl.toArray:=by rw[<- hv,<- sx,vo]
 simp only[resolve,hr,l];refine aA ?_;show dQ P B (invoke (.fn (.method name) #[])<|#[.iface t0 v0]++vl.toArray) H d _;unfold invoke;have e1:(#[Value.iface t0 v0]++vl.toArray)[0]? =some (.iface t0 v0):=by simp
 have e2:(#[Value.iface t0 v0]++vl.toArray).extract 1 (#[Value.iface t0 v0]++vl.toArray).size=vl.toArray:=by simp
 simp only[e1,e2];unfold callMethod;simp only;refine ae<|dK (v:=P) rfl ?_;refine ae<|hm H d _ s ?_;simp only;refine oQ (P:=P) _ B H d _ ⟨A++F,s.perm g.perm,?_⟩;have m:#[rv]++vl.toArray=(rv::vl).toArray:=by simp
 rw[m];exact hs R C .rU d F _ cs trivial λv aT q=>by show At R d (aT++F) (fP _ cs v);rw[qe a];exact h v aT q
theorem Om{elem:aP}{m:Go.Method}{a:Nat}{c:Array Value}{T:aP}{d:Nat}{Q:bN×Value->Array Obj->Nat->Prop}(hi:P.info? t0=some inf)(hf:inf.methods.find? (·.name==name)=some m)(e:m.path=#[])(g:m.func=some (f,false))(hu:P.underlying t0=some (.pointer elem))[Ag P elem false](hh:hp H b=some (.cells c T (0,0)))(hc:c[off]? =some rv)(hs:B.sh T off=false)(q:Q (f,rv) H d):dQ P B (method (a+1) t0 (.pointer<|some ⟨b,off,none⟩) name) H d Q:=by unfold method;refine ae<|dK (oq hi) ?_;simp only[hf,e,g];refine ae<|dK (v:=(t0,Place.val<|.pointer<|some ⟨b,off,none⟩)) rfl ?_;simp only;refine ae ?_;unfold receiverAt;refine ae<|dK (gq hu) ?_;simp only;refine ae<|dK (v:=Value.pointer<|some ⟨b,off,none⟩) rfl ?_;refine ae<|dK (v:=Value.pointer<|some ⟨b,off,none⟩) rfl ?_;refine ae<|dK (v:=(⟨b,off,none⟩:Addr)) rfl ?_;exact jB hh hc hs<|aA q
theorem At.aeS{R:Nat->aO->Array Obj->Prop}{d:Nat}{As:List HP}{g:aO}{f:α->List Value}{z:Nat}{l:List α}(hf:Fo (bK f z el s l) As L)(h1:s=Go.Sl.aV->l=[]->At R d As g)(a:s.a=some ⟨s.b,0,none⟩->s.len=l.length->At R d As g):At R d As g:=λH st=>by
 obtain⟨c,x,hs,h⟩:=st.perm hf.perm;rcases x with⟨rfl,rfl⟩|⟨b,pad,e, -, -, -⟩
 .exact h1 rfl rfl H st
 .have e1:s.b=b:=by rw[e];rfl
  exact a (by rw[e1,e]) (by rw[e]) H st
variable{L:List HP}
variable{tt t2:aP}{kk:IntKind}{p q r:Int}
theorem ab.mx(C:ab P ao B R)(a:bk O i=some ⟨some t,.call ⟨.builtin .max,#[x,y],#[tt,t2]⟩,ty,pos,af,gd⟩)(h:Nx R d As fn kd n e ds O aa k cs t (.int kk r))
  (hx:ev n e x=.int kk p:=by rfl) (b:ev n e y=.int kk q:=by rfl) (hr:max p q=r:=by rfl) (c:aN O n e gd=true:=by rfl):Nw R d As fn kd n e ds O i aa k cs:=
 C.val a c (λB H d Q f=>by
  unfold execOp;simp only[resolve];refine ae<|aA ?_;simp only[CO,jq,ny,hx,b];unfold invoke builtin;refine ae ?_;have e1:(if q>p then q else p)=r:=by rw[<- hr,Int.max_def];split<;>split<;>omega
  show dQ P B (Builtin.max_ _ _ #[.int kk p,.int kk q]) H d _;unfold Builtin.max_;simp only[List.foldlM,Builtin.max2,e1];refine ae<|aA ?_;exact aA f) h
theorem ab.mn(C:ab P ao B R)(a:bk O i=some ⟨some t,.call ⟨.builtin .min,#[x,y],#[tt,t2]⟩,ty,pos,af,gd⟩)(h:Nx R d As fn kd n e ds O aa k cs t (.int kk r))
  (hx:ev n e x=.int kk p:=by rfl) (b:ev n e y=.int kk q:=by rfl) (hr:min p q=r:=by rfl) (c:aN O n e gd=true:=by rfl):Nw R d As fn kd n e ds O i aa k cs:=
 C.val a c (λB H d Q f=>by
  unfold execOp;simp only[resolve];refine ae<|aA ?_;simp only[CO,jq,ny,hx,b];unfold invoke builtin;refine ae ?_;have e1:(if q<p then q else p)=r:=by rw[<- hr,Int.min_def];split<;>split<;>omega
  show dQ P B (Builtin.min_ _ _ #[.int kk p,.int kk q]) H d _;unfold Builtin.min_;simp only[List.foldlM,Builtin.min2,e1];refine ae<|aA ?_;exact aA f) h
theorem SM{f:α->List Value}{z:Nat}[c:jf f z]{l:List α}{As L:List HP}{B:lM}(hf:Fo (bK f z el s l) As L)(st:Sat As (hp H))(hs:∀ j,B.sh el j=false)(k:Nat)(a:k<l.length)(b:s.a=some ⟨s.b,0,none⟩):
  oT B H z (l.take k).length (.slice s.a k s.cap) (flat f<|l.take k):=by
 have e1:(l.take k).length=k:=by rw[nO];omega
 rw[e1];have h:=ez.aew (B:=B) (f:=f) (el:=el) (s:=s) (l:=l) (.own hf) st hs 0 k ai s.cap s.a (λ_=>by rw[b,QV]) (λ_=>.inr ⟨0,b,by intro z;rw[z]at a;simp at a,ai⟩)
 rwa[QU]at h
theorem SN{f:α->List Value}{z:Nat}[c:jf f z]{l:List α}{As L:List HP}{B:lM}(hf:Fo (bK f z el s l) As L)(st:Sat As (hp H))(hs:∀ j,B.sh el j=false)(k:Nat)(a:k<l.length)(d:l.length<=s.cap):
  oT B H z (l.drop<|k+1).length (.slice (some (if s.cap=k+1 then⟨s.b,0,none⟩else⟨s.b,0+(k+1)*z,none⟩)) (l.length-(k+1))<|s.cap-(k+1)) (flat f<|l.drop<|k+1):=by
 have e1:(l.drop<|k+1).length=l.length-(k+1):=by rw[E6]
 rw[e1];have h:=ez.aew (B:=B) (f:=f) (el:=el) (s:=s) (l:=l) (.own hf) st hs (k+1) (l.length-(k+1)) ai (s.cap-(k+1)) (some (if s.cap=k+1 then⟨s.b,0,none⟩else⟨s.b,0+(k+1)*z,none⟩)) (λe=>by rw[ax ai];simp) (λ_=>.inr (by
  by_cases b:s.cap=k+1
  .exact⟨0,by rw[aJ b],by intro z;rw[z]at a;simp at a,ai⟩
  .exact⟨(k+1)*z,by rw[ax b];simp,by intro z;rw[z]at a;simp at a,GL z ai⟩))
 rwa[lA (by rw[E6];exact fC _)]at h
def SO(kk:IntKind)(es:Array MapEntry)(seen:Array Nat)(clock last:Nat):List Int->Prop
 |[]=>True
 |k::_=>last=clock/\∃ e∈es.toList,seen.back?=some e.born/\e.key=.int kk k
def Kk{V:Type}(kk:IntKind)(g:V->Value)(mb ib:Nat)(l:List (Int×V))(qL:List Int):HP:=λh=>
 ∃ es clock since seen last,xS kk es clock (lX g l)/\(∀ e∈es.toList,e.born<since)/\since<=last/\since<=clock/\(∀ e∈es.toList,(seen.contains e.born=true↔∃ k∈qL,e.key=.int kk k))/\SO kk es seen clock last qL/\all [dq mb (.map es clock),dq ib<|.mapIter (some mb) since seen last] h
variable{u:Value}{b off:Nat}{c:Array Value}{el key:aP}
variable{V:Type}{g:V->Value}{l:List (Int×V)}
theorem ab.rn(C:ab P ao B R)[o:Mp P tt key el](p:bk O i=some ⟨some t,.range tt x,ty,pos,af,gd⟩)(h:∀ ib,Nx R d (Kk kk g b ib l []::L) fn kd n e ds O aa k cs t<|.pointer<|some ⟨ib,0,none⟩)
  (hx:ev n e x=.map (some b):=by rfl) (hf:Fo (dt kk g b l) As L:=by exact Fo.au) (q:aN O n e gd=true:=by rfl):Nw R d As fn kd n e ds O i aa k cs:=
 C.gen p q λH s=>by
  have s':=s.perm hf.perm;obtain⟨a,⟨es,clock,c,f⟩,j,r⟩:=s';have u:hp H b=some (.map es clock):=by subst f;exact j b _<|by simp[one]
  have v:Sat (dq b (.map es clock)::L) (hp H):=⟨a,f,j,r⟩;unfold execOp;simp only[hx];refine ae ?_;unfold Instr.range;refine ae<|dN o.h B H d _ ?_;refine ae<|iJ u rfl ?_;refine ae<|aA<|ae ?_;show dQ P B (.new _ _) H d _;simp only[dQ];show dQ P B (pure _) _ d _;refine aA ⟨_,?_,h H.size⟩;have w:=v.push<|.mapIter (some b) clock #[] clock;refine Sat.imp (λh a=>⟨es,clock,clock,#[],clock,c,λe m=>c.lt e m,fC _,fC _,λe m=>by simp,trivial,a⟩)<|Sat.je (l:=[dq b (.map es clock),dq H.size<|.mapIter (some b) clock #[] clock]) w.swap
theorem Y5{X:Type}{a:Array X}(h:a.isEmpty=false):0<a.size:=by
 rcases NQ a.size with b|b
 .simp[Array.isEmpty,b]at h
 .exact b
theorem SP{r:Nat}{As:List HP}{tt:aP}{Q:Value->Array Obj->Nat->Prop}(s:Sat (Kk kk g r ib l qL::As) (hp H))
  (q1:∀ k v W,(k,v)∈l->k∉qL->Sat (Kk kk g r ib l (k::qL)::As) (hp W)->Q (.tuple #[.bool true,.int kk k,g v]) W d) (q2:(∀ p∈l,p.1∈qL)->Q (.tuple #[.bool false]) H d):dQ P B (Instr.next (.pointer<|some ⟨ib,0,none⟩) false tt) H d Q:=by
 obtain⟨es,clock,c,seen,last,t,I,JU,X,K,aeT,s⟩:∃ es clock c seen last,xS kk es clock (lX g l)/\(∀ e∈es.toList,e.born<c)/\c<=last/\c<=clock/\(∀ e∈es.toList,(seen.contains e.born=true↔∃ k∈qL,e.key=.int kk k))/\SO kk es seen clock last qL/\Sat (all [dq r (.map es clock),dq ib<|.mapIter (some r) c seen last]::As) (hp H):=by obtain⟨h1,⟨es,clock,c,seen,last,t,a1,a2,a3,a4,a6,a5⟩,m,h3⟩:=s;exact⟨es,clock,c,seen,last,t,a1,a2,a3,a4,a6,h1,a5,m,h3⟩
 have s:=s.flat;have hm:hp H r=some (.map es clock):=s.get;have hi:hp H ib=some (.mapIter (some r) c seen last):=s.swap.get;unfold Instr.next;simp only;refine ae<|iJ hi rfl ?_;simp only;refine ae<|iJ hm rfl ?_;have nC:(!seen.isEmpty&& !es.isEmpty&&es.all λx=>decide (x.born>=last))=false:=by
  cases o:es.isEmpty with
  |true=>simp
  |false=>
   have h0:=Y5 o;have:(es.all λx=>decide (x.born>=last))=false:=by rw[Array.all_eq_false];refine⟨0,h0,?_⟩;have:=I es[0] (by simp);simp;omega
   rw[this];simp
 simp only[nC,fW,eQ];generalize hL:es.filter (λe=> !seen.contains e.born)=left;have J:∀ e,e∈left↔e∈es/\¬ (seen.contains e.born=true):=λe=>by rw[<- hL];simp
 have y:left.filter (λx=>decide (x.born<c))=left:=by rw[Array.filter_eq_self];intro e o;have:=I e<|E3.2 ((J e).1 o).1;simp;omega
 have oa:left.filter (λx=>decide (x.born>=c))=#[]:=by rw[Array.filter_eq_empty_iff];intro e o;have:=I e<|E3.2 ((J e).1 o).1;simp;omega
 rw[y,oa,zj];refine ae ?_;show dQ P B (.choose _ _) H d _;have L:∀ e∈es.toList,∃ k v,(k,v)∈l/\e.key=.int kk k/\e.val=g v:=λe o=>by
  have:(e.key,e.val)∈Gz kk (lX g l):=by rw[<- t.kv];exact yz (f:=λe:MapEntry=>(e.key,e.val)) o
  obtain⟨p,Gy,Fa⟩:=cq.1 this;obtain⟨Y,Vx,QD⟩:=cq.1 Gy;subst QD;obtain⟨h1,m⟩:=JN Fa;exact⟨Y.1,Y.2,Vx,h1.symm,m.symm⟩
 have M:∀ p∈l,∃ e∈es.toList,e.key=.int kk p.1:=λp hp=>by
  have:(Value.int kk p.1,g p.2)∈es.toList.map (λe=>(e.key,e.val)):=by rw[t.kv];exact cq.2 ⟨(p.1,g p.2),cq.2 ⟨p,hp,rfl⟩,rfl⟩
  obtain⟨e,h1,m⟩:=cq.1 this;exact⟨e,h1,(JN m).1⟩
 cases A:left.isEmpty with
 |true=>
  have C:left=#[]:=by simpa using A
  have j9:∀ p∈l,p.1∈qL:=λp hp=>by
   obtain⟨e,o,q⟩:=M p hp;have:seen.contains e.born=true:=by refine Yh λhc=>?_;have:=(J e).2 ⟨E3.1 o,hc⟩;rw[C]at this;simp at this
   obtain⟨k,yH,Z⟩:=(K e o).1 this;rw[q]at Z;injection Z with _ m
   rw[m];exact yH
  simp only[dQ,Question.forced,C];simp only[fq,Array.map_empty,zj];exact q2 j9
 |false=>
  simp only[fW,eQ];have nS:∀ e1∈es.toList,∀ e2∈es.toList,e1.key=e2.key->e1=e2:=λe1 h1 e2 m q=>by
   obtain⟨N,D⟩:=pV h1;obtain⟨i2,u⟩:=pV m;have g1:((Gz kk<|lX g l).map (·.1))[N]? =some e1.key:=by rw[<- t.kv];simp[D]
   have g2:((Gz kk<|lX g l).map (·.1))[i2]? =some e1.key:=by rw[<- t.kv,q];simp[u]
   have hn:((Gz kk<|lX g l).map (·.1)).Nodup:=by
    have O:(Gz kk<|lX g l).map (·.1)=((lX g l).map (·.1)).map (Value.int kk):=by simp[Gz]
    rw[O];exact List.Pairwise.map _ (λa b h z=>h<|by injection z) t.nd
   have:=AN hn g1 g2;subst this;rw[D]at u;exact cA u
  have R:∀ e1∈es.toList,∀ e2∈es.toList,e1.born=e2.born->e1=e2:=λe1 h1 e2 m q=>by obtain⟨N,D⟩:=pV h1;obtain⟨i2,u⟩:=pV m;have:=AN t.bn (i:=N) (j:=i2) (x:=e1.born) (by simp[D]) (by simp[u,q]);subst this;rw[D]at u;exact cA u
  have Hc:∀ j,j<left.size->dQ P B (match(#[]++left.map some)[j]? with
    |some (some e)=>do
     setObj ib (.mapIter (some r) c (seen.push e.born) clock)
     pure (.tuple #[.bool true,e.key,e.val])
    |some none=>(pure (.tuple #[.bool false]):Sem Value)
    |none=>stuck "Next: no such candidate") H d Q:=λj hj=>by
   have hg:(#[]++left.map some)[j]? =some (some left[j]):=by simp[hj]
   rw[hg];have cW:left[j]∈left:=Array.getElem_mem hj;obtain⟨o,S⟩:=(J _).1 cW;have E:=E3.2 o;obtain⟨k,v,Vy,q,hv⟩:=L _ E;have s2:=(s.swap).set (o':=.mapIter (some r) c (seen.push left[j].born) clock);refine ae<|mO hi rfl rfl<|aA ?_;rw[q,hv];refine q1 k v _ Vy (λT=>S<|(K _ E).2 ⟨k,T,q⟩) ?_;refine Sat.imp (λh hh=>⟨es,clock,c,seen.push left[j].born,clock,t,I,X,X,λe w=>?_,⟨rfl,left[j],E,by simp,q⟩,hh⟩)<|Sat.je (l:=[dq r (.map es clock),dq ib<|.mapIter (some r) c (seen.push left[j].born) clock]) s2.swap;have Ru:(seen.push left[j].born).contains e.born=true↔seen.contains e.born=true\/e.born=left[j].born:=by simp[Array.mem_push]
   rw[Ru,K e w];constructor
   .rintro(⟨k',h1,m⟩|h1)
    .exact⟨k',fg _ h1,m⟩
    .have:=R e w _ E h1;exact⟨k,fX ..,by rw[this];exact q⟩
   .rintro⟨k',h1,m⟩;rcases gU.1 h1 with rfl|h1
    .exact .inr<|by rw[nS e w _ E (m.trans q.symm)]
    .exact .inl ⟨k',h1,m⟩
  have F:=Y5 A;simp only[dQ];split
  .refine Hc 0 F
  .intro n;have:Question.cut (.mapNext (#[]++left.map some).size) n=n%(#[]++left.map some).size:=rfl;rw[this];refine Hc _ ?_;have U:(#[]++left.map some).size=left.size:=by simp
   rw[U];exact GR _ F
theorem ab.nx(C:ab P ao B R)(a:bk O i=some ⟨some t,.next x false,ty,pos,af,gd⟩)
  (h1:∀ j w,(j,w)∈l->j∉qL->Nx R d (Kk kk g b ib l (j::qL)::L) fn kd n e ds O aa k cs t (.tuple #[.bool true,.int kk j,g w])) (c:(∀ p∈l,p.1∈qL)->Nx R d (Kk kk g b ib l qL::L) fn kd n e ds O aa k cs t (.tuple #[.bool false]))
  (hx:ev n e x=.pointer (some ⟨ib,0,none⟩):=by rfl) (hf:Fo (Kk kk g b ib l qL) As L:=by exact Fo.au) (f:aN O n e gd=true:=by rfl):Nw R d As fn kd n e ds O i aa k cs:=
 C.gen a f λH s=>by unfold execOp;simp only[hx];exact ae (SP (s.perm hf.perm) (λj w q m h s'=>⟨_,s',h1 j w m h⟩) λo=>⟨_,s.perm hf.perm,c o⟩)
theorem ab.muI(C:ab P ao B R){w:V}[M:Mp P tt key el][Ik P key kk](F:(aB l q).isSome=true)(N:bk O i=some ⟨none,.mapUpdate tt x y z,ty,pos,af,gd⟩)(h:At R d (Kk kk g b ib (bC l q w) qL::L) (gr fn kd n e ds (.inRegion O aa::k) cs))
  (hx:ev n e x=.map (some b):=by rfl) (Q:ev n e y=.int kk q:=by rfl) (hf:Fo (Kk kk g b ib l qL) As L:=by exact Fo.au) (hz:ev n e z=g w:=by rfl) (S:aN O n e gd=true:=by rfl):Nw R d As fn kd n e ds O i aa k cs:=
 C.gen N S λH s=>by
  have s':=s.perm hf.perm;obtain⟨es,clock,a,seen,last,u,T,U,W,X,D,v⟩:∃ es clock a seen last,xS kk es clock (lX g l)/\(∀ e∈es.toList,e.born<a)/\a<=last/\a<=clock/\(∀ e∈es.toList,(seen.contains e.born=true↔∃ k∈qL,e.key=.int kk k))/\SO kk es seen clock last qL/\Sat (all [dq b (.map es clock),dq ib<|.mapIter (some b) a seen last]::L) (hp H):=by obtain⟨h1,⟨es,clock,a,seen,last,u,a1,Y,Z,a4,a6,a5⟩,f,c⟩:=s';exact⟨es,clock,a,seen,last,u,a1,Y,Z,a4,a6,h1,a5,f,c⟩
  have v:=v.flat;have I:hp H b=some (.map es clock):=v.get;unfold execOp;simp only[hx,Q,hz];refine ae ?_;unfold Instr.mapUpdate;refine ae<|dN M.h B H d _ ?_;refine ae<|iJ I rfl ?_;refine ae<|oU B H d _ ?_;refine ae<|qU u.kv B H d _ ?_;cases hi:rW q (lX g l) 0 with
  |none=>
   have:=(j8 hi).1;rw[og,Option.map_eq_none_iff]at this;rw[this]at F;cases F
  |some jv=>
   obtain⟨j,v0⟩:=jv;obtain⟨m,rfl,J,_,si,_⟩:=j7 hi;obtain⟨e0,A,r,_⟩:=J6 u.kv J;simp only[lR,Ha,A,lQ,iG,r];refine ae<|Mu B H d _ ?_;refine mO I rfl rfl ⟨_,?_,h⟩;refine Sat.imp (λh hh=>⟨_,clock,a,seen,last,?_,?_,U,W,?_,?_,hh⟩)<|Sat.je (l:=[dq b _,dq ib<|.mapIter (some b) a seen last])<|v.set
   .rw[<- qi];exact u.modify J (si _) _ λK t=>⟨rfl,rfl,rfl⟩
   .intro K t;have hl:(es.modify m λe=>{e with key:=.int kk q,val:=g w}).toList=es.toList.modify m λe=>{e with key:=.int kk q,val:=g w}:=by simp
    rw[hl]at t;obtain⟨i,o⟩:=pV t;rw[Dv]at o;obtain⟨e2,f,c⟩:=LO.1 o;have:=T e2<|bD f;split at c<;>(subst c;exact this)
   .intro K t;have hl:(es.modify m λe=>{e with key:=.int kk q,val:=g w}).toList=es.toList.modify m λe=>{e with key:=.int kk q,val:=g w}:=by simp
    rw[hl]at t;obtain⟨i,o⟩:=pV t;rw[Dv]at o;obtain⟨e2,f,c⟩:=LO.1 o;have:=X e2<|bD f;split at c
    .rename_i p;subst c;subst p;rw[A]at f;obtain rfl:=cA f;rw[r]at this;exact this
    .subst c;exact this
   .cases qL with
    |nil=>trivial
    |cons k0 qL=>
     obtain⟨h1,e1,E,f,c⟩:=D;refine⟨h1,?_⟩;have hl:(es.modify m λe=>{e with key:=.int kk q,val:=g w}).toList=es.toList.modify m λe=>{e with key:=.int kk q,val:=g w}:=by simp
     obtain⟨i,o⟩:=pV E;by_cases p:m=i
     .subst p;rw[A]at o;obtain rfl:=cA o;refine⟨{e0 with key:=.int kk q,val:=g w},?_,f,by rw[<- c,r]⟩;rw[hl];exact bD (i:=m) (by rw[Dv,A];simp)
     .refine⟨e1,?_,f,c⟩;rw[hl];exact bD (i:=i) (by rw[Dv,o];simp[p])
theorem At.FA{c:aO}(hf:Fo (Kk kk g b ib l qL) As L)(h:At R d (dt kk g b l::L) c):At R d As c:=λH s=>by have s':=s.perm hf.perm;obtain⟨h1,⟨es,clock,a,seen,last,e,a1,n,o,p,q,f⟩,i,j⟩:=s';have k:Sat (all [dq b (.map es clock),dq ib<|.mapIter (some b) a seen last]::L) (hp H):=⟨h1,f,i,j⟩;exact h H ((k.flat.swap.drop).imp λh m=>⟨es,clock,e,m⟩)
theorem ab.ent(C:ab P ao B R){j:Int}{w:V}(F:aB l j=some w)(I:bk O i=some ⟨some t,.entry x,ty,pos,af,gd⟩)(h:Nx R d As fn kd n e ds O aa k cs t (.tuple #[.int kk j,g w]))
  (hf:Fo (Kk kk g b ib l<|j::qL) As L) (hx:ev n e x=.pointer (some ⟨ib,0,none⟩):=by rfl) (J:aN O n e gd=true:=by rfl):Nw R d As fn kd n e ds O i aa k cs:=
 C.gen I J λH s=>by
  have s':=s.perm hf.perm;obtain⟨h1,⟨es,clock,a,seen,last,q,a1,Z,a3,a4,⟨rfl,e0,c,K,m⟩,M⟩,r,N⟩:=s';have A:Sat ([dq b (.map es last),dq ib<|.mapIter (some b) a seen last]++L) (hp H):=Sat.flat ⟨h1,M,r,N⟩;have Q:hp H b=some (.map es last):=A.get;have hi:hp H ib=some (.mapIter (some b) a seen last):=A.swap.get;unfold execOp;simp only[hx];refine ae ?_;unfold Instr.entry;simp only;refine ae<|iJ hi rfl ?_;simp only[K];refine ae<|iJ Q rfl ?_;simp only[bne_self_eq_false,fW,eQ];have S:es.find? (λe=>e.born==e0.born)=some e0:=by
   have hl:es.toList.find? (λe=>e.born==e0.born)=some e0:=by
    cases u:es.toList.find? (λe=>e.born==e0.born)with
    |none=>
     have:=Q4.1 u e0 c;simp at this
    |some e1=>
     have h1:=Q6 u;have r:=GU u;obtain⟨T,D⟩:=pV r;obtain⟨i2,v⟩:=pV c;have y:e1.born=e0.born:=by simpa using h1
     have:=AN q.bn (i:=T) (j:=i2) (x:=e0.born) (by simp[D,y]) (by simp[v]);subst this;rw[D]at v;exact congrArg some<|cA v
   rw[<- hl];simp
  rw[S];have U:e0.val=g w:=by
   have:(e0.key,e0.val)∈Gz kk (lX g l):=by rw[<- q.kv];exact yz (f:=λe:MapEntry=>(e.key,e.val)) c
   obtain⟨p,W,X⟩:=cq.1 this;obtain⟨E,Y⟩:=JN X;have z:p.1=j:=by rw[m]at E;injection E
   have o:=eR q.nd (show(j,p.2)∈lX g l by rw[<- z];exact W);rw[og,F]at o;rw[<- Y];exact(cA o).symm
  simp only[m,U];exact aA<|aA ⟨As,s,h⟩
variable{T:List (List bO)}{n:Int}{P:eg}{R:ShR}{m:MsgR}
theorem dA.send(H:dA T n P R)(hm:jM T n {m with aX:=R.me}):dA T n (fI P m) (ee R m):=by
 refine{H with out:=?_,oo:=?_,kl:=λh=>(H.kl h).aS}
 .show P.out++_=R.out++_;rw[H.out,H.me]
 .intro x a;rcases bS.1 a with h|h
  .exact H.oo x h
  .grind
theorem dA.wait(H:dA T n P R)(a:R.up=true)(hm:jM T n {m with aX:=R.me}):dA T n (jx P m) (fb R m):=by
 refine{H with waits:=?_,wo:=?_,dn:=?_,kl:=λh=>(H.kl h).aS}
 .show P.waits++_=R.waits++_;rw[H.waits,H.me]
 .intro x b;rcases bS.1 b with h|h
  .exact H.wo x h
  .grind
 .intro h;have h:R.up=false:=h;rw[a]at h;cases h
theorem dA.ve(H:dA T n P R){ticks:Int}{ag:Bool}(ht:(opsOf T tx).isSome=true):dA T n (kj P tx ticks ag) {R with timers:=R.timers++[⟨R.clock+ticks,ag,tx⟩]}:=by
 refine{H with timers:=?_,tt:=?_,kl:=λh=>(H.kl h).aS}
 .show P.timers++_=R.timers++_;rw[H.timers,H.clock]
 .intro x a;rcases bS.1 a with h|h
  .exact H.tt x h
  .grind
theorem Bf{J:eg->ShR->Prop}{O:List bO}{f:eg->Int->List bO->eg}{g:ShR->Int->List bO->ShR}(a:P.n=n)(b:R.n=n)
  (step:∀ p r k,J p r->cu O k n=true->0<=k->k<n->J (f p k<|br O k n) (g r k<|br O k n)) (h:J P R):J (sZ P O f) (gO R O g):=by
 rw[Wu];unfold gO;rw[a,b];have key:∀ (l:List Int),(∀ k∈l,0<=k/\k<n)->∀ p r,J p r->J (l.foldl (λz k=>if(br O k n).isEmpty then z else f z k (br O k n)) p) (l.foldl (λz k=>if(br O k n).isEmpty then z else g z k (br O k n)) r):=by
  intro l
  induction l with
  |nil=>intro _ p r h;exact h
  |cons k l d=>
   intro hl p r h;rw[qQ,qQ];refine d (λk c=>hl k<|fg _ c) _ _ ?_;have c:=hl k<|fX ..;cases e:(br O k n).isEmpty with
   |true=>exact h
   |false=>grind [cu]
 grind [oy]
theorem dA.bF(H:dA T n P R)(a:R.up=true)(tx:Int):(aB P.bF tx=none/\aM R.log 2 tx=none)\/∃ (d:Nat) (r:RecR),aB P.bF tx=some ⟨d,r.yes⟩/\aM R.log 2 tx=some d/\R.log[d]? =some r:=by
 have:=(H.kl a).bF tx;rw[H.log]at this;cases h:aM R.log 2 tx with
 |none=>rw[h]at this;exact .inl ⟨this,rfl⟩
 |some d=>grind [bG]
theorem dA.done(H:dA T n P R)(a:R.up=true)(tx:Int):(aB P.done tx=none/\aM R.log 3 tx=none)\/∃ (d:Nat) (r:RecR),aB P.done tx=some ⟨d,r.yes⟩/\aM R.log 3 tx=some d/\R.log[d]? =some r:=by
 have:=(H.kl a).done tx;rw[H.log]at this;cases h:aM R.log 3 tx with
 |none=>rw[h]at this;exact .inl ⟨this,rfl⟩
 |some d=>grind [bG]
theorem dA.pend(H:dA T n P R)(b:R.up=true)(tx:Int):(aB P.pend tx=none/\aL R.log tx=none)\/∃ (d:Nat) (r:RecR) (O:List bO),aB P.pend tx=some ⟨d,r.home,r.ops⟩/\aL R.log tx=some d/\R.log[d]? =some r/\
  opsOf T tx=some O/\cu O R.me n=true/\r.ops=br O R.me n/\r.home=gp O n:=by
 have:=(H.kl b).pend tx;rw[H.log]at this;cases h:aL R.log tx with
 |none=>rw[h]at this;exact .inl ⟨this,rfl⟩
 |some d=>
  obtain⟨_,r,a,_⟩:=bG (cZ h).2;rw[h]at this;simp only[Ai,a,lQ]at this;obtain⟨O,h1,c,e,f,_⟩:=H.tA.ready (by rw[H.log];exact h) (by rw[H.log];exact a)
  grind
theorem dA.len(H:dA T n P R):P.log.length=R.log.length:=by rw[<- H.log];simp
theorem dA.FB(H:dA T n P R)(c:R.up=true){e:aR}{P':eg}{R':ShR}(i:eH T n R.me (P.log++[e]))(b:P'={P with log:=P.log++[e],aQ:=P'.aQ,pend:=P'.pend,done:=P'.done,bF:=P'.bF,values:=P'.values})
  (a:R'={R with log:=R.log++[e.aZ],aQ:=R'.aQ,bX:=R'.bX}) (j:KL (P.log++[e]) P' R'.aQ R'.bX):dA T n P' R':=by
 have e1:P'.log=P.log++[e]:=by rw[b]
 have e2:R'.log=R.log++[e.aZ]:=by rw[a]
 have d:∀ tx,(aM R.log 2 tx).isSome=true->(aM R'.log 2 tx).isSome=true:=λtx h=>by grind [dX]
 have k:R'.up=R.up:=by rw[a]
 have f:R'.me=R.me:=by rw[a]
 refine⟨by rw[b,a];exact H.me,by rw[f];exact H.mb,by rw[b];exact H.n1,by rw[a];exact H.n2,by rw[b,a];exact H.up,by rw[e1,e2,<- H.log];simp,by rw[f,e1];exact i,by rw[b,a];exact H.aE,?_,by rw[b,a];exact H.timers,by rw[b,a];exact H.clock,by rw[b,a];exact H.waits,by rw[b,a];exact H.out,by rw[a];exact H.wo,by rw[a];exact H.oo,by rw[a];exact H.tt,λ_=>by rw[e1];exact j,λh=>?_,λh=>?_,λh u g l=>d _ (H.ud c u (by rw[a]at g;exact g) l),λh=>?_⟩
 .have m:=H.gl
  grind
 .rw[b];exact H.un c
 .rw[f,b,a];exact H.cr c
 .rw[k,c]at h;cases h
theorem On(H:dA T n P R)(E:vd T)(F:0<n)(b:R.up=true)(hm:jM T n m)(I:m.kind=1)(x:m.to=R.me):dA T n (nE P m) (gZ R m):=by
 obtain⟨O,c,y⟩:=hm;have y:m.aX= -1/\m.to=gp O n/\m.ops=O:=by grind
 obtain⟨h1,A,e⟩:=y;unfold nE gZ;rcases H.bF b m.tx with⟨l,o⟩|⟨d,r,l,o,B⟩
 .rw[l,o];simp only;rcases qo (H.cr b) m.tx with⟨q,j⟩|⟨i,a,u,q,j,_⟩
  .rw[q,j];simp only[GI,fW,eQ];have s:l5 T n R.me (m.tx,⟨m.ops,[],[],false,false⟩) ⟨m.tx,m.ops,[],false,false,[]⟩:=⟨rfl,⟨rfl,rfl,rfl,λk=>rfl,by simp,by simp,λk=>rfl,by simp,by simp,by simp⟩,by rw[e];exact c,by rw[e,<- A];exact x⟩;have t:∀ u∈R.under++[(⟨m.tx,m.ops,[],false,false,[]⟩:dS)],u.dec=true->(aM R.log 2 u.tx).isSome=true:=λu s C=>by
    rcases bS.1 s with h|h
    .exact H.ud b u h C
    .grind
   have v:dA T n {P with cr:=bC P.cr m.tx ⟨m.ops,[],[],false,false⟩} {R with under:=R.under++[⟨m.tx,m.ops,[],false,false,[]⟩]}:=
    {H with kl:=λh=>(H.kl h).aS,dn:=λh=>absurd (b.symm.trans h:true=false) (by decide),un:=λ_=>fR<|H.un b,cr:=λ_=>Ww (H.cr b) j s,ud:=λ_=>t}
   have key:=Bf (J:=λp r=>dA T n p r/\r.me=R.me) (O:=m.ops) (f:=λz k p=>fI z {bA with kind:=2,to:=k,tx:=m.tx,ops:=p}) (g:=λz k p=>ee z {bA with kind:=2,to:=k,tx:=m.tx,ops:=p}) v.n1 v.n2
    (λp r k w D _ _=>⟨w.1.send ⟨O,c,.inr<|.inl ⟨rfl,by show r.me=_;rw[w.2,<- x,A],by rw[<- e];exact D,by show br m.ops k n=br O k n;rw[e]⟩⟩,w.2⟩) ⟨v,rfl⟩
   exact key.1.ve (by rw[c];rfl)
  .rw[q,j];simpa using H
 .rw[l,o];simp only;rw[H.aE];split
  .have hl:(P.log[(d:Int).toNat]?.map aR.aZ).getD dz=r:=by
    have:(P.log.map aR.aZ)[d]? =some r:=by rw[H.log];exact B
    grind
   rw[hl,B,iG];exact H.send ⟨O,c,.inr<|.inr<|.inr<|.inr<|.inr<|.inr ⟨rfl,rfl,rfl⟩⟩
  .exact H
theorem Wy(H:dA T n P R)(b:R.up=true)(hm:jM T n m)(s:m.kind=6)(o:m.to=R.me):dA T n (C3 P m) (pE R m):=by
 obtain⟨O,l,f⟩:=hm;have f:m.to=gp O n/\cu O m.aX n=true:=by grind
 have c:∀ (y:Bool),jM T n {({bA with kind:=4,to:=m.aX,tx:=m.tx,yes:=y}:MsgR)with aX:=R.me}:=λy=>⟨O,l,.inr<|.inr<|.inr<|.inl ⟨rfl,by show R.me=_;rw[<- o,f.1],f.2,rfl⟩⟩;unfold C3 pE;rcases H.bF b m.tx with⟨g,h⟩|⟨d,r,g,h,p⟩
 .rw[g,h];simp only;rcases qo (H.cr b) m.tx with⟨j,k⟩|⟨i,a,u,j,k,_⟩
  .rw[j,k];simp only[GI,fW,eQ];have q:=H.FB b (e:=.dec m.tx false []) (P':={P with log:=P.log++[.dec m.tx false []],bF:=bC P.bF m.tx ⟨P.log.length,false⟩}) (R':={R with log:=R.log++[{dz with kind:=2,tx:=m.tx}]})
    (.dec H.tA (by rw[l];rfl)) rfl rfl (KL.dec (tx:=m.tx) (yes:=false) (reads:=[])<|H.kl b).aS
   exact q.wait b<|c false
  .rw[j,k];simpa using H
 .rw[g,h];simp only;rw[H.aE];split
  .rw[p,iG];exact H.send<|c _
  .exact H
theorem seen_eq{V:List Int}{vs:List (Int×Int)}(hv:∀ k,97<=k->k<=122->(aB vs k).getD 0=V[(k-97).toNat]?.getD 0){O:List bO}(a:∀ o∈O,97<=o.k/\o.k<=122):ji vs O=fH V O:=by
 unfold ji fH;refine List.map_congr_left λo h=>?_
 grind
theorem D9(V:List Int)(O:List bO):(fH V O).length=Oj O:=by simp[fH,Oj]
theorem Hy(H:dA T n P R)(C:vd T)(f:R.up=true)(hm:jM T n m)(hk:m.kind=2)(D:m.to=R.me):dA T n (gF P m) (eN R m):=by
 obtain⟨O,a,u⟩:=hm;have u:m.aX=gp O n/\cu O m.to n=true/\m.ops=br O m.to n:=by grind
 obtain⟨h1,j,b⟩:=u;rw[D]at j b;have k:=C.of a;have E:∀ o∈m.ops,97<=o.k/\o.k<=122:=by rw[b];exact k.key
 have v:jM T n {({bA with kind:=3,to:=m.aX,tx:=m.tx}:MsgR)with aX:=R.me}:=⟨O,a,.inr<|.inr<|.inl ⟨rfl,h1,j,(λh=>by cases h),rfl⟩⟩;have w:∀ l:List Int,l.length=Oj (br O R.me n)->jM T n {({bA with kind:=3,to:=m.aX,tx:=m.tx,yes:=true,reads:=l}:MsgR)with aX:=R.me}:=λl hl=>⟨O,a,.inr<|.inr<|.inl ⟨rfl,h1,j,(λ_=>hl),rfl⟩⟩;have K:=H.kl f;unfold gF eN;rcases H.pend f m.tx with⟨p,c⟩|⟨d,r,F,p,c,I,x,p5,y,p7⟩
 .rw[p,c];simp only;rcases H.done f m.tx with⟨q,g⟩|⟨d,r,q,g,J⟩
  .rw[q,g];simp only;have L:(m.ops.any λo=>(aB P.aQ o.k).isSome)=m.ops.any λo=>decide (zV R.aQ o.k>=0):=by
    have M:∀ o:bO,(aB P.aQ o.k).isSome=decide (zV R.aQ o.k>=0):=λo=>by
     unfold zV;rw[K.lock];cases N:R.aQ.find? λh=>h.key==o.k with
     |none=>rfl
     |some h=>
      obtain⟨i,r,e1,e2,_⟩:=K.lk h<|GU N;obtain⟨F,Q,_⟩:=H.tA.ready e1 e2;have:=(ie Q).1
      grind
    simp only[M]
   rw[<- L];split
   .exact H.send v
   .rename_i S;have A:∀ o∈m.ops,aB P.aQ o.k=none:=λo hm=>by have:¬ (aB P.aQ o.k).isSome=true:=λz=>S<|uV.2 ⟨o,hm,z⟩;simpa using this
    have e1:aM (P.log.map aR.aZ) 3 m.tx=none:=by rw[H.log];exact g
    have e0:aM (P.log.map aR.aZ) 1 m.tx=none:=by unfold aL at c;rw[g]at c;rw[H.log];simpa using c
    have U:eH T n R.me (P.log++[.cK m.tx m.aX m.ops]):=by
     have:=eH.cK H.tA a j e0 e1 (λt i r W hi o X Y s e=>by have:=K.lo t i r W hi o X;have B:=(qn K.ln).2 this;rw[<- K.lock,e,A Y (by rw[b];exact s)]at B;cases B)
     rw[h1,b];exact this
    have Z:=H.FB f (e:=.cK m.tx m.aX m.ops) (P':=u7 {P with log:=P.log++[.cK m.tx m.aX m.ops]} m.tx m.aX m.ops P.log.length) (R':={R with aQ:=u6 R.aQ m.tx m.ops,log:=R.log++[{dz with kind:=1,tx:=m.tx,home:=m.aX,ops:=m.ops}]})
     U rfl rfl (KL.cK (P:=P) (home:=m.aX) K e0 e1 A (by rw[b];exact k.nod)).aS
    have wT:ji (u7 {P with log:=P.log++[.cK m.tx m.aX m.ops]} m.tx m.aX m.ops P.log.length).values m.ops=fH R.bX m.ops:=seen_eq K.bX E;rw[wT];have H2:=Z.wait f (m:={bA with kind:=3,to:=m.aX,tx:=m.tx,yes:=true,reads:=fH R.bX m.ops}) (w _<|by rw[D9,b]);exact H2.ve (tx:=m.tx) (ticks:=3) (ag:=false) (by rw[a];rfl)
  .rw[q,g];simp only;rw[J,iG];split
   .exact H
   .exact H.send v
 .rw[p,c];simp only;rw[I,iG];rw[H.aE];rw[a]at x;obtain rfl:=cA x;split
  .have:ji P.values r.ops=fH R.bX r.ops:=seen_eq K.bX (by rw[y];exact k.key);rw[this];exact H.send<|w _<|by rw[D9,y]
  .exact H
theorem Km(H:dA T n P R)(q:vd T)(b:R.up=true)(hm:jM T n m)(B:m.kind=4)(u:m.to=R.me):dA T n (j0 P m) (fY R m):=by
 obtain⟨O,j,k⟩:=hm;have k:m.aX=gp O n/\cu O m.to n=true:=by grind
 have C:=q.of j;have a:jM T n {({bA with kind:=5,to:=m.aX,tx:=m.tx}:MsgR)with aX:=R.me}:=⟨O,j,.inr<|.inr<|.inr<|.inr<|.inl ⟨rfl,k.1,by rw[<- u];exact k.2,rfl⟩⟩;have K:=H.kl b;have D:=H.log;have fin:aM R.log 3 m.tx=none->∀ l,l=(match aL R.log m.tx with|some i=>if m.yes then cS R.bX ((R.log[i]?).getD dz).ops else R.bX|none=>R.bX)->
   dA T n (qV {P with log:=P.log++[.kY m.tx m.yes]} m.tx m.yes P.log.length) {R with bX:=l,aQ:=yO R.aQ m.tx,log:=R.log++[{dz with kind:=3,tx:=m.tx,yes:=m.yes}]}:=λv l w=>by
  have f:aM (P.log.map aR.aZ) 3 m.tx=none:=by rw[H.log];exact v
  refine H.FB b (e:=.kY m.tx m.yes) (.kY H.tA (by rw[j];rfl) f) rfl rfl (KL.kY (P:=P) (yes:=m.yes) K f (λi r x hi=>?_) (by rw[H.log];exact w)).aS;obtain⟨y,e1,_,e2,_⟩:=H.tA.ready x hi;rw[e2];exact(q.of e1).key
 unfold j0 fY;rcases H.pend b m.tx with⟨o,c⟩|⟨d,r,y,o,c,s,E,F,I,J⟩
 .rw[o,c];simp only;rcases H.done b m.tx with⟨p,g⟩|⟨d,r,p,g,L⟩
  .rw[p,g];simp only;split
   .exact H
   .have z:yO R.aQ m.tx=R.aQ:=by
     unfold yO;rw[List.filter_eq_self];intro h A;obtain⟨i,r,e1,_⟩:=K.lk h A
     grind
    have:=fin g R.bX (by rw[c]);rw[z]at this;exact this.wait b a
  .rw[p,g];simp only;rw[H.aE];split
   .exact H.send a
   .exact H
 .rw[o,c];simp only;rw[s,iG];have:=fin (cZ c).1 (if m.yes then cS R.bX r.ops else R.bX) (by rw[c];simp only[s,iG]);have key:=this.wait b a;cases t:m.yes with
  |true=>rw[t]at key;exact key
  |false=>rw[t]at key;exact key
end
end Go.Sl
