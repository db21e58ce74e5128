/-
  Texts that the proof needs, joined: part 6.
-/
import Derived.Test.YtjomdboiibakiaaGreatDoorEnE
set_option linter.unusedSimpArgs false
set_option linter.unusedVariables false
set_option maxHeartbeats 4000000
namespace Go.Sl
open Go.Proofs.Tryz
variable{l:List lB}{b off b2 b3:Nat}{ca:Array Value}{a tx home pl o k:Int}{s:dw}{I:HL}{so lg sp:ay}{O:List bO}{yes:Bool}{m:MsgR}{p:AT}{v z1 z2:Value}{t:dU}{σ:Gh}
section
open Go.Proofs
variable{ao:Bool}
abbrev alI(b off:Nat):Value:=.iface 265<|.pointer<|some ⟨b,off,none⟩
abbrev O4(b:Nat)(c:Array Value):HP:=dq b<|.cells c 180 (0,0)
abbrev TQ(tm:ay)(l:List lB):HP:=bK uG 4 263 tm l
theorem FV(j:Nat):((j:Int)-1).tdiv 2=(((j-1)/2:Nat):Int):=by
 cases j with
 |zero=>rfl
 |succ j=>
  have e:((j+1:Nat):Int)-1=(j:Int):=ai;rw[e,Nat.add_sub_cancel];exact L7 j 2 |>.symm
set_option maxRecDepth 100000 in
theorem TR{tm:ay}{j:Nat}(hc:ca[off]? =some tm.v)(hj:j<l.length)(hl:l.length<2^60)(hh:pF l j):
  aI prog ao cX 215 #[alI b off,aF j] [O4 b ca,TQ tm l] (λv As=>∃ a,a.Perm l/\iL a a.length/\As=[O4 b ca,TQ tm a]):=by
 refine aI.of λR C kd d F c cs g k=>?_;refine uz ?_;refine C.cN (X:=Nat×List lB) (λx=>[(0,alI b off),(1,aF x.1)]) (λx=>O4 b ca::TQ tm x.2::F) (λx=>x.1<x.2.length/\x.2.Perm l/\pF x.2 x.1) (λx=>x.1) (j,l) ⟨rfl,rfl,trivial⟩ ⟨hj,.refl _,hh⟩ ?_;rintro⟨j,m⟩ e ⟨hj,hp,hh⟩ o;dsimp only at hj hp hh⊢;have p:m.length=l.length:=hp.length_eq;have f:(j-1)/2<m.length:=ai;refine dY ?_;refine C.quo rfl ?_ (hr:=by rw[FV j];exact v9 ai ai);rw[FV j];refine fB ?_;refine C.cmp rfl (λq=>?_) λq=>?_
 .refine pP ?_;exact C.eY g k ⟨m,hp,hh.fin<|.inl ai,rfl⟩
 .refine dY ?_;refine C.Y4 (KS hc Fo.au) (tN (tm:=tm) (l:=m) (i:=j) (j:=(j-1)/2) hj f) ?_;rintro v aT ⟨z,rfl,n,rfl⟩;refine cH ?_;rcases n8 z with rfl|rfl
  .refine oN ?_;refine C.Y4 (KT hc Fo.au) (tO (tm:=tm) (l:=m) (i:=(j-1)/2) (j:=j) f hj) ?_;rintro v aT rfl;refine vI ?_;exact again o ((j-1)/2,Fv m ((j-1)/2) j) ⟨by dsimp only;rw[zW];omega,(A6 f hj).trans hp,hh.step hj rfl ai<|n.1 rfl⟩<|dE
  .refine dY ?_;exact C.eY g k ⟨m,hp,hh.fin (.inr (λh=>by have:=n.2 h;cases this)),rfl⟩
theorem TS{i j n:Nat}(hi:i<n)(hj:j<n):(Fv l i j).drop n=l.drop n:=by unfold Fv;rw[List.drop_set_of_lt hj,List.drop_set_of_lt hi]
set_option maxRecDepth 100000 in
theorem KU{tm:ay}{n:Nat}(hc:ca[off]? =some tm.v)(O:n<=l.length)(hl:l.length<2^60)(hh:ti l n 0):
  aI prog ao cX 205 #[alI b off,aF 0,aF n] [O4 b ca,TQ tm l] (λv As=>∃ u z,v=.bool z/\u.Perm l/\u.drop n=l.drop n/\iL u n/\As=[O4 b ca,TQ tm u]):=by
 refine aI.of λR C kd d F c cs w y=>?_;refine MY ?_;refine C.cN (X:=Nat×List lB) (λx=>[(0,alI b off),(1,aF 0),(2,aF n),(7,aF x.1)]) (λx=>O4 b ca::TQ tm x.2::F) (λx=>x.1<=n/\x.2.Perm l/\x.2.drop n=l.drop n/\ti x.2 n x.1) (λx=>n-x.1) (0,l) ⟨rfl,rfl,rfl,rfl,trivial⟩ ⟨fp _,.refl _,rfl,hh⟩ ?_;rintro⟨i,m⟩ e ⟨hi,hp,p,hh⟩ E;dsimp only at hi hp p hh⊢;have H:m.length=l.length:=hp.length_eq;refine dT ?_;refine C.ar rfl ?_ (r:=2*(i:Int));refine C.ar rfl ?_ (r:=((2*i+1:Nat):Int)) (ha:=congrArg some ai);refine fB ?_;refine C.cmp rfl (λI=>?_) λI=>?_
 .refine pP ?_;refine C.cmp rfl (λs=>?_) λs=>?_
  .refine bL ?_;refine C.cG w y ⟨m,_,rfl,hp,p,hh.fin λk f g o=>?_,rfl⟩;omega
  .refine bL ?_;refine C.cG w y ⟨m,_,rfl,hp,p,hh.fin λk f g o=>?_,rfl⟩;omega
 .refine bL ?_;refine C.cmp rfl (λJ=>?_) λJ=>?_
  .refine gV ?_;refine C.cmp rfl (λs=>?_) λs=>?_
   .refine bL ?_;omega
   .refine bL ?_;omega
  .refine pP ?_;refine C.ar rfl ?_ (r:=((2*i+2:Nat):Int)) (ha:=congrArg some ai);refine bL ?_;apply m8 (X:=Nat) (λj=>j<n/\0<j/\i=(j-1)/2/\∀ k,0<k->k<n->(k-1)/2=i->wa m k j) (λj=>[(0,alI b off),(1,aF 0),(2,aF n),(7,aF i),(9,aF j)]) (λ_=>O4 b ca::TQ tm m::F) (R:=R) (d:=d) (fn:=205) (kd:=kd) (n:=48) (ds:=[]) (cs:=c::cs)
   .intro A;have K:2*i+1<n:=ai;refine dT ?_;refine C.cmp rfl (λL=>?_) λL=>?_
    .refine dY ?_;refine C.Y4 (KS hc Fo.au) (tN (tm:=tm) (l:=m) (i:=2*i+2) (j:=2*i+1) ai ai) ?_;rintro v aT ⟨z,rfl,q,rfl⟩;refine cH ?_;rcases n8 z with rfl|rfl
     .refine iE ?_;refine bU A (2*i+2) ⟨ai,ai,by omega,λk f g o=>?_⟩;have a:=q.1 rfl;rcases(show k=2*i+1\/k=2*i+2 by omega)with rfl|rfl
      .unfold wa;unfold ov at a⊢;omega
      .unfold wa ov;omega
     .refine dT ?_;refine bU A (2*i+1) ⟨ai,ai,by omega,λk f g o=>?_⟩;have a:¬ ov (gA m<|2*i+2) (gA m<|2*i+1):=λh=>by have:=q.2 h;cases this
      rcases(show k=2*i+1\/k=2*i+2 by omega)with rfl|rfl
      .unfold wa ov;omega
      .exact a
    .refine oN ?_;refine bU A (2*i+1) ⟨ai,ai,by omega,λk f g o=>?_⟩;obtain rfl:k=2*i+1:=ai;unfold wa ov;omega
   .rintro j ⟨t,M,N,B⟩ e;refine dY ?_;refine C.Y4 (KS hc Fo.au) (tN (tm:=tm) (l:=m) (i:=j) (j:=i) ai ai) ?_;rintro v aT ⟨z,rfl,q,rfl⟩;refine cH ?_;rcases n8 z with rfl|rfl
    .refine iE ?_;refine C.Y4 (KT hc Fo.au) (tO (tm:=tm) (l:=m) (i:=i) (j:=j) ai ai) ?_;rintro v aT rfl;refine vI ?_;exact again E (j,Fv m i j) ⟨dE,(A6 ai ai).trans hp,(TS ai t).trans p,hh.step ai t M N B<|q.1 rfl⟩<|dE
    .refine gV ?_;refine C.cmp rfl (λs=>?_) λs=>?_
     .refine bL ?_;refine C.cG w y ⟨m,_,rfl,hp,p,hh.fin λk f g o=>?_,rfl⟩;have a:¬ ov (gA m j) (gA m i):=λh=>by have:=q.2 h;cases this
      have D:=B k f g o;unfold wa at D⊢;unfold ov at*;omega
     .refine bL ?_;refine C.cG w y ⟨m,_,rfl,hp,p,hh.fin λk f g o=>?_,rfl⟩;have a:¬ ov (gA m j) (gA m i):=λh=>by have:=q.2 h;cases this
      have D:=B k f g o;unfold wa at D⊢;unfold ov at*;omega
set_option maxRecDepth 100000 in
theorem KV{tm:ay}{a:lB}(hc:ca[off]? =some tm.v)(hl:l.length<2^34)(hh:iL l l.length):
  aI prog ao cX 207 #[alI b off,.iface 263<|.agg (uG a).toArray] [O4 b ca,TQ tm l] (λv As=>∃ e f,f.Perm (l++[a])/\iL f f.length/\As=[O4 b (ca.setIfInBounds off e.v),TQ e f]):=by
 refine aI.of λR C kd d F c cs k m=>?_;refine cH ?_;have g:off<ca.size:=(iF.1 hc).1;refine dY ?_;refine C.mi0 abf (Iq (a:=a) hc hl) ?_;rintro v aT ⟨e,rfl⟩;refine cH ?_;have i:(ca.setIfInBounds off e.v)[off]? =some e.v:=by simp[g]
 refine dY ?_;refine C.Y4 (Zj i Fo.au) (BW (tm:=e) (l:=l++[a])) ?_;rintro v aT ⟨rfl,rfl⟩;refine cH ?_;refine C.ar rfl ?_ (r:=(l.length:Int)) (ha:=congrArg some<|by simp) (hr:=v9 ai ai);refine C.fZ (TR i (l:=l++[a]) (j:=l.length) (by simp) (by rw[iV,iR];omega)<|pF.push hh a) ?_;rintro v aT ⟨f,hp,h,rfl⟩;refine uz ?_;exact C.eY k m ⟨e,f,hp,h,rfl⟩
set_option maxRecDepth 100000 in
theorem O6{tm:ay}(hc:ca[off]? =some tm.v)(x:0<l.length)(hl:l.length<2^34)(hh:iL l l.length):
  aI prog ao cX 177 #[alI b off] [O4 b ca,TQ tm l] (λv As=>∃ f g,v=.iface 263 (.agg (uG<|gA l 0).toArray)/\l.Perm (gA l 0::g)/\iL g g.length/\As=[O4 b (ca.setIfInBounds off f.v),TQ f g]):=by
 refine aI.of λR C kd d F c cs s t=>?_;refine cH ?_;obtain⟨q,k⟩:∃ q,l.length=q+1:=⟨l.length-1,ai⟩;have e:(Fv l 0 q).length=q+1:=by rw[zW];exact k
 refine gV ?_;refine C.Y4 (Zj hc Fo.au) (BW (tm:=tm) (l:=l)) ?_;rintro v aT ⟨rfl,rfl⟩;refine cH ?_;refine C.ar rfl ?_ (r:=(q:Int)) (ha:=congrArg some ai);refine fB ?_;refine C.Y4 (KT hc Fo.au) (tO (tm:=tm) (l:=l) (i:=0) (j:=q) ai ai) ?_;rintro v aT rfl;refine Ei ?_;refine C.fZ (KU hc (l:=Fv l 0 q) (n:=q) ai ai<|iL.out (by rw[<- k];exact hh) ai) ?_;rintro v aT ⟨m,z,rfl,hp,o,h,rfl⟩;refine cH ?_;have u:m.length=q+1:=hp.length_eq.trans e;refine dT ?_;refine C.mi0 afj (KR (l:=m) hc ai ai) ?_;rintro v aT ⟨f,rfl,rfl⟩;refine pQ ?_;have p:gA m q=gA l 0:=by
  have h1:m.drop q=[gA m q]:=by rw[sA ai,mQ ai,pX ai]
  have w:(Fv l 0 q).drop q=[gA (Fv l 0 q) q]:=by rw[sA ai,mQ ai,pX ai]
  rw[h1,w,zX ai ai,aJ rfl]at o;exact(List.cons.inj o).1
 have a:m.length-1=q:=ai;refine C.cG s t ⟨f,m.take<|m.length-1,?_,?_,?_,rfl⟩
 .rw[<- p,a]
 .rw[<- p,a];refine((A6 ai ai).symm.trans hp.symm).trans ?_;have h1:m=m.take q++[gA m q]:=by
   conv=>lhs;rw[<- wj q m,sA ai,pX ai]
   rw[mQ ai]
  conv=>lhs;rw[h1]
  exact Yf _ _
 .rw[a,nO,CN ai];exact iL.take h
abbrev kK(s:dw)(tx ticks:Int)(again:Bool):dw:={s with order:=s.order+1,timers:=s.timers++[⟨s.clock+ticks,s.order+1,tx,again⟩]}
theorem oG(s:dw)(tx ticks:Int)(again:Bool):(kK s tx ticks again).abs=kj s.abs tx ticks again:=by simp[kK,kj,dw.abs,lB.sj]
set_option maxRecDepth 100000 in
theorem lE{ticks:Int}{again:Bool}(hl:s.timers.length<2^34)(n:0<=s.order/\s.order<2^62)(hc:0<=s.clock/\s.clock<2^62)(ht:0<=ticks/\ticks<=4):
  aI prog ao cX 180 #[az b,aF tx,aF ticks,.bool again] [dB b s] (λv As=>As=[dB b (kK s tx ticks again)]):=by
 refine aI.of λR C kd d F c cs i j=>?_;refine cH ?_;refine dB.opn (h:=λlg wt o tm p q r t u w g f=>?_);have x:g.length=s.timers.length:=f.perm.length_eq;refine lu ?_;refine C.dx (di 17 0 22) 22 [21] 0 ?_;refine Kv ?_;refine Dr.p (λh=>C.mi rfl h) ?_;refine nT ?_;refine QE ?_;refine Dr.p (λh=>C.mi rfl h) ?_;refine Dr.chain rfl ?_;refine Ch.m 21 (bj λe aa k=>?_);refine C.fZ (KV (tm:=tm) (l:=g) (a:=⟨s.clock+ticks,s.order+1,tx,again⟩) rfl ai f.heap) ?_;rintro v aT ⟨y,z,hp,m,rfl⟩;refine cH ?_;refine k _ _ ?_;refine gy ?_;refine dB.cls (kK s tx ticks again) ?_ (ht:=ql.push f rfl hp m);exact C.eY i j rfl
structure y7(o a:Int)(s:dw):Prop where
 z:0<=a
 o:0<=s.order/\s.order<=o
 a:∀ u∈s.cr,∀ p∈u.2.cf,0<=p.2/\p.2<=a
structure sb(s:dw):Prop where
 n:1<=s.n/\s.n<=4
 log:s.log.length<2^30
 aE:0<=s.aE/\s.aE<=s.log.length
 timers:s.timers.length<2^15
 waits:s.waits.length<2^30
 out:s.out.length<2^30
 clock:0<=s.clock/\s.clock<2^60
 order:0<=s.order/\s.order<2^61
 abh:∀ u∈s.cr,np u.2.ops
 cf:∀ u∈s.cr,∀ p∈u.2.cf,0<=p.2/\p.2<2^61
 afn:∀ tx p,aB s.pend tx=some p->np p.ops
 dpl:∀ tx p,aB s.bF tx=some p->0<=p.pl/\p.pl<s.log.length
def ij(b:Nat)(I:HL)(o a:Int)(r:eg):Value->List HP->Prop:=λv As=>∃ I' s',Sub I I'/\ShJ I' s'/\s'.abs=r/\y7 o a s'/\As=[dB b s',bI I']
theorem KX(m:List (Int×Int))(k:Int):((aB m k).map fT).getD (.int .i32 0)=.int .i32 ((aB m k).getD 0):=by cases aB m k<;>rfl
theorem vW(m:List (Int×Int))(k:Int):((aB m k).map eh).getD (aF 0)=aF ((aB m k).getD 0):=by cases aB m k<;>rfl
theorem BX(V:List (Int×Int))(l:List bO)(o:bO):ji V (l++[o])=if o.w then ji V l else ji V l++[(aB V o.k).getD 0]:=by unfold ji;cases h:o.w<;>simp[rA,h]
theorem BZ(L:gg I db 67 so O)(p:np O):
  aI prog ao cX 199 #[az b,so.v] [dB b s,bI I] (λv As=>∃ s':ay,v=s'.v/\As=[bK dk 1 21 s' (ji s.values O),dB b s,bI I]):=by
 have hl:=p.2;refine aI.of λR C kd d F c cs q r=>?_;refine cH ?_;refine dB.opn (h:=λlg wt t tm u w y A B D E M=>?_);refine At.aV dk 1 21 ?_;refine mE ?_;refine ga ?_;refine C.cN (X:=Nat×ay) (λx=>[(0,az b),(5,x.2.v),(8,so.v),(9,aF O.length),(10,aF x.1)]) (λx=>bK dk 1 21 x.2 (ji s.values<|O.take x.1)::O1 b s lg wt t tm u w y A B D E (bI I::F)) (λx=>x.1<=O.length) (λx=>O.length-x.1) (0,aV) ⟨rfl,rfl,rfl,rfl,rfl,trivial⟩ (fp _) ?_ (hI:=.refl);rintro⟨i,g⟩ e hi m;dsimp only at hi⊢;refine bL ?_;refine C.cmp rfl (λj=>?_) λj=>?_
 .refine bL ?_;have a:i<O.length:=by simpa using j
  have N:(ji s.values<|O.take i).length<=i:=by have:=Dx (λo:bO=> !o.w)<|O.take i;simp only[ji,eM,nO]at this⊢;omega
  refine bL ?_;refine C.zx rfl λP=>?_;refine C.al rfl λQ=>?_;refine C.vz rfl ?_ (hv:=λv h=>jf.one (f:=db) O[i] v<|by simpa using h);refine dY ?_;generalize n:O[i].w=z;rcases n8 z with rfl|rfl
  .refine iE ?_;refine again m (i+1,g) a (dE) (hr:=?_);rw[js a,BX,aJ n];exact dg.au
  .refine dT ?_;have H:=KX s.values O[i].k;refine C.dx (di 17 0 11++[(5,11)]) 12 [9,10,11] 1 ?_;refine GA ?_;refine Dr.l (λS h=>C.Hu H rfl h) ?_;refine Dr.chain rfl ?_;refine Ch.m 9 (bj λe aa k=>?_);refine C.CZ rfl λJ=>k _ _ .cons ?_;refine Ch.m 10 (bj λe aa k=>?_);refine C.DR (s:=g) (l:=ji s.values<|O.take i) ((aB s.values O[i].k).getD 0) rfl λK=>?_;refine k _ _ ?_;refine Ch.q 11 (λh=>C.pN rfl h) ?_;refine Bw ?_;refine again m (i+1,K) a (dE) (hr:=?_);rw[js a,BX,ax (by rw[n];decide)];exact dg.au
 .refine gV ?_;have e1:O.take i=O:=lA (by simp at j;omega);rw[e1];refine dB.cls s ?_;exact C.cG q r ⟨g,rfl,rfl⟩
abbrev xm(s:dw)(tx home:Int)(O:List bO)(so:ay)(pl:Int):dw:={s with aQ:=O.foldl (λl o=>bC l o.k tx) s.aQ,pend:=bC s.pend tx ⟨pl,home,O,so⟩}
theorem EE(s:dw)(tx home:Int)(O:List bO)(so:ay)(pl:Int):(xm s tx home O so pl).abs=u7 s.abs tx home O pl:=by unfold u7 dw.abs;simp only[eg.mk.injEq,Av,pU];exact l4 rY.abs s.pend
theorem KY(J:gg I db 67 so O)(m:np O):
  aI prog ao cX 182 #[az b,aF tx,aF home,so.v,aF pl] [dB b s,bI I] (λv As=>As=[dB b (xm s tx home O so pl),bI I]):=by
 have hl:=m.2;refine aI.of λR C kd d F c cs n p=>?_;refine cH ?_;refine dB.opn (h:=λlg wt r tm t u y z A B D K=>?_);refine gV ?_;refine C.cN (X:=Nat×List (Int×Int)) (λx=>[(0,az b),(1,aF tx),(2,aF home),(3,so.v),(4,aF pl),(12,so.v),(13,aF O.length),(14,aF x.1)]) (λx=>O1 b {s with aQ:=x.2} lg wt r tm t u y z A B D<|bI I::F) (λx=>x.1<=O.length/\x.2=(O.take x.1).foldl (λl o=>bC l o.k tx) s.aQ) (λx=>O.length-x.1) (0,s.aQ) ⟨rfl,rfl,rfl,rfl,rfl,rfl,rfl,rfl,trivial⟩ ⟨fp _,rfl⟩ ?_ (hI:=.refl);rintro⟨i,j⟩ e ⟨hi,a⟩ E;dsimp only at hi a⊢;refine bL ?_;refine C.cmp rfl (λg=>?_) λg=>?_
 .refine bL ?_;have k:i<O.length:=by simpa using g
  refine bL ?_;refine C.zx rfl λL=>?_;refine C.al rfl λM=>?_;refine C.vz rfl ?_ (hv:=λv h=>jf.one (f:=db) O[i] v<|by simpa using h);refine C.go ?_;refine C.dx (di 18 0 8) 9 [8] 0 ?_;refine zw8 ?_;refine Ch.m 8 (bj λe aa H=>?_);refine C.mu (w:=tx) (l:=j) (q:=O[i].k) rfl<|H _ undef ?_;refine Bw ?_;refine again E (i+1,bC j O[i].k tx) ⟨k,?_⟩<|dE;rw[js k,lT,<- a];rfl
 .refine bL ?_;have e1:O.take i=O:=lA (by simp at g;omega);rw[e1]at a;subst a;refine mE ?_;refine C.mu (w:=rY.mk pl home O so) (l:=s.pend) (q:=tx) rfl ?_;refine C.go ?_;refine dB.cls (xm s tx home O so pl) ?_;exact C.eY n p rfl
def j4(s:dw)(tx:Int):rY:=(aB s.pend tx).getD ⟨0,0,[],aV⟩
theorem Ng(s:dw)(tx:Int):((aB s.pend tx).map vS).getD (.agg #[aF 0,aF 0,.slice none 0 0])=vS (j4 s tx):=by unfold j4;cases aB s.pend tx<;>rfl
theorem O7(s:dw)(tx:Int):(j4 s tx).ops=((aB s.abs.pend tx).map (·.ops)).getD []:=by show _=((aB (s.pend.map λp=>(p.1,p.2.abs)) tx).map (·.ops)).getD [];rw[wV rY.abs];unfold j4;cases aB s.pend tx<;>rfl
theorem ShJ.j4{I:HL}{s:dw}(h:ShJ I s)(tx:Int):gg I db 67 (j4 s tx).so (j4 s tx).ops:=by
 unfold Go.Sl.j4;cases a:aB s.pend tx with
 |none=>exact .nil ..
 |some p=>exact h.pend _<|cg a
abbrev nV(s:dw)(tx:Int)(yes:Bool)(pl:Int):dw:=
 {s with values:=(j4 s tx).ops.foldl (λv o=>if yes&&o.w then bC v o.k o.v else v) s.values,aQ:=(j4 s tx).ops.foldl (λl o=>eo l o.k) s.aQ,pend:=eo s.pend tx,done:=bC s.done tx ⟨pl,yes⟩}
theorem y9(s:dw)(tx:Int)(yes:Bool)(pl:Int):(nV s tx yes pl).abs=qV s.abs tx yes pl:=by have e1:=Hs (k:=tx) rY.abs s.pend;unfold qV;simp only[<- O7];unfold dw.abs;simp only[eg.mk.injEq,Av,pU];exact e1
theorem rj(H:ShJ I s)(B:(j4 s tx).ops.length<2^30):
  aI prog ao cX 183 #[az b,aF tx,.bool yes,aF pl] [dB b s,bI I] (λv As=>As=[dB b (nV s tx yes pl),bI I]):=by
 refine aI.of λR C kd d F c cs J t=>?_;refine cH ?_;refine dB.opn (h:=λlg wt K tm L M N P Q S T Y=>?_);have n:=Ng s tx;have D:=H.j4 tx;have r:nV s tx yes pl={s with values:=(j4 s tx).ops.foldl (λv o=>if yes&&o.w then bC v o.k o.v else v) s.values,aQ:=(j4 s tx).ops.foldl (λl o=>eo l o.k) s.aQ,pend:=eo s.pend tx,done:=bC s.done tx ⟨pl,yes⟩}:=rfl;rw[r]at t;clear r;generalize j4 s tx=p at n D B t;obtain⟨U,ph,O,so⟩:=p;dsimp only at D B t;refine oN ?_;refine C.Hu n rfl ?_;refine C.al rfl λZ=>?_;refine oN ?_;refine C.cN (X:=Nat×List (Int×Int)×List (Int×Int)) (λx=>[(0,az b),(1,aF tx),(2,.bool yes),(3,aF pl),(19,so.v),(20,aF O.length),(21,aF x.1)]) (λx=>O1 b {s with values:=x.2.1,aQ:=x.2.2} lg wt K tm L M N P Q S T<|bI I::F) (λx=>x.1<=O.length/\x.2.1=(O.take x.1).foldl (λv o=>if yes&&o.w then bC v o.k o.v else v) s.values/\x.2.2=(O.take x.1).foldl (λl o=>eo l o.k) s.aQ) (λx=>O.length-x.1) (0,s.values,s.aQ) ⟨rfl,rfl,rfl,rfl,rfl,rfl,rfl,trivial⟩ ⟨fp _,rfl,rfl⟩ ?_;rintro⟨i,u,j⟩ e ⟨hi,k,m⟩ y;dsimp only at hi k m⊢;refine bL ?_;refine C.cmp rfl (λA=>?_) λA=>?_
 .refine bL ?_;have a:i<O.length:=by simpa using A
  refine bL ?_;refine C.zx rfl λhj=>?_;refine C.al rfl λW=>?_;refine C.vz rfl ?_ (hv:=λv h=>jf.one (f:=db) O[i] v<|by simpa using h);refine dY ?_;rcases n8 yes with rfl|rfl
  .refine bL ?_;generalize E:O[i].w=z;rcases n8 z with rfl|rfl
   .refine dT ?_;refine C.dx (di 30 0 9) 10 [9] 0 ?_;refine VA ?_;refine Ch.m 9 (bj λe aa g=>?_);refine C.mu (w:=O[i].v) (l:=u) (q:=O[i].k) rfl<|g _ undef ?_;refine gy ?_;refine C.dx (di 39 0 7) 8 [7] 0 ?_;refine WO ?_;refine Ch.m 7 (bj λe aa g=>?_);refine C.dl (l:=j) (q:=O[i].k) rfl<|g _ undef ?_;refine Bw ?_;refine again y (i+1,bC u O[i].k O[i].v,eo j O[i].k) ⟨a,?_,?_⟩<|dE
    .rw[js a,lT,<- k,qQ,yF,aJ (by rw[E];rfl)]
    .rw[js a,lT,<- m];rfl
   .refine dT ?_;refine C.dx (di 39 0 7) 8 [7] 0 ?_;refine WO ?_;refine Ch.m 7 (bj λe aa g=>?_);refine C.dl (l:=j) (q:=O[i].k) rfl<|g _ undef ?_;refine Bw ?_;refine again y (i+1,u,eo j O[i].k) ⟨a,?_,?_⟩<|dE
    .rw[js a,lT,<- k,qQ,yF,ax (by rw[E];decide)]
    .rw[js a,lT,<- m];rfl
  .refine fB ?_;refine C.dx (di 39 0 7) 8 [7] 0 ?_;refine WO ?_;refine Ch.m 7 (bj λe aa g=>?_);refine C.dl (l:=j) (q:=O[i].k) rfl<|g _ undef ?_;refine Bw ?_;refine again y (i+1,u,eo j O[i].k) ⟨a,?_,?_⟩<|dE
   .rw[js a,lT,<- k,qQ,yF,ax<|by simp]
   .rw[js a,lT,<- m];rfl
 .refine bL ?_;have e1:O.take i=O:=lA (by simp at A;omega);rw[e1]at k m;subst k m;refine iE ?_;refine C.dl rfl ?_;refine mE ?_;refine C.mu (w:=iK.mk pl yes) (l:=s.done) (q:=tx) rfl ?_;refine C.go ?_;refine dB.cls {s with values:=O.foldl (λv o=>if yes&&o.w then bC v o.k o.v else v) s.values,aQ:=O.foldl (λl o=>eo l o.k) s.aQ,pend:=eo s.pend tx,done:=bC s.done tx ⟨pl,yes⟩} ?_;exact C.eY J t rfl
theorem nW{l:List iQ}{en:iQ}(hc:ca[3]? =some lg.v)(hl:l.length<2^34):aI prog ao cX 200 #[az b,en.val] [O4 b ca,bK pK 1 272 lg l]
  (λv As=>∃ a:ay,v=aF l.length/\As=[O4 b (ca.setIfInBounds 3 a.v),bK pK 1 272 a<|l++[en]]):=by
 refine aI.of λR C kd d F c cs f g=>?_;refine cH ?_;have e:3<ca.size:=(iF.1 hc).1;refine pP ?_;refine C.ld rfl ?_ (hc:=hc);refine ga ?_;refine C.CZ rfl λh=>?_;refine C.DR en rfl λs'=>?_;refine bL ?_;refine C.st rfl ?_ (hz:=e);refine fB ?_;refine C.ld rfl ?_ (hc:=show(ca.setIfInBounds 3 s'.v)[3]? =some s'.v by simp[e]);refine C.qK rfl ?_ (s:=s') (l:=l++[en]);refine C.ar rfl ?_ (r:=l.length) (ha:=congrArg some<|by simp) (hr:=v9 ai ai);refine bL ?_;exact C.cG f g ⟨s',rfl,rfl⟩
theorem jS{V W:Type}(w:V->W)(m:List (Int×V))(k:Int):aB (m.map λp=>(p.1,w p.2)) k=(aB m k).map w:=wV w m
theorem EF{s:eg}{d:iK}(h:aB s.bF m.tx=some d):C3 s m=if d.pl<s.aE then fI s {bA with kind:=4,to:=m.aX,tx:=m.tx,yes:=d.yes}else s:=by unfold C3;rw[h]
theorem yr{s:eg}(h:aB s.bF m.tx=none):C3 s m=if(aB s.cr m.tx).isSome then s else jx {s with log:=s.log++[.dec m.tx false []],bF:=bC s.bF m.tx ⟨s.log.length,false⟩} {bA with kind:=4,to:=m.aX,tx:=m.tx}:=by unfold C3;rw[h]
theorem y7.same{s':dw}(h:y7 o a s)(h1:s'.order=s.order)(c:s'.cr=s.cr):y7 (o+1) (a+1) s':=⟨by have:=h.z;omega,by rw[h1];have:=h.o;omega,λu b p hp=>by rw[c]at b;have:=h.a u b p hp;omega⟩
theorem ShJ.outs(h:ShJ I s){m:dV}(hm:lJ I m):ShJ I {s with out:=s.out++[m]}:=⟨h.log,h.pend,h.cr,h.waits,λx a=>by
 rcases bS.1 a with a|a
 .exact h.out x a
 .obtain rfl:=dR.1 a;exact hm⟩
theorem ShJ.wait(h:ShJ I s){m:dV}(hm:lJ I m):ShJ I {s with waits:=s.waits++[m]}:=⟨h.log,h.pend,h.cr,λx a=>by
 rcases bS.1 a with a|a
 .exact h.waits x a
 .obtain rfl:=dR.1 a;exact hm,h.out⟩
theorem ShJ.uS(h:ShJ I s){e:iQ}(b:e.J I):ShJ I {s with log:=s.log++[e]}:=⟨λx a=>by
 rcases bS.1 a with a|a
 .exact h.log x a
 .obtain rfl:=dR.1 a;exact b,h.pend,h.cr,h.waits,h.out⟩
theorem lJ.nil(I:HL)(m:MsgR)(a:m.ops=[])(hr:m.reads=[]):lJ I ⟨m,aV,aV⟩:=⟨by dsimp only;rw[a];exact .nil ..,by dsimp only;rw[hr];exact .nil ..,by dsimp only;rw[hr];decide⟩
abbrev oH(b:Nat)(m:dV):HP:=dq b<|.cells #[aF m.kind,aF m.aX,aF m.to,aF m.tx,.bool m.yes,m.so.v,m.sr.v] 190 (0,0)
theorem Pa{m:dV}(g:ShJ I s)(z:sb s)(k:y7 o a s):
  aI prog ao cX 175 #[az b,tM m] [dB b s,bI I] (ij b I (o+1) (a+1)<|C3 s.abs m.toMsgR):=by
 have H:=z.log;have J:=z.out;have K:=z.waits;refine aI.of λR C kd d F c cs n r=>?_;refine cH ?_;refine dB.opn (h:=λlg wt L tm M N O P Q S T U=>?_);refine bL ?_;refine C.bx rfl λb3=>?_;refine C.go ?_;cases j:(aB s.bF m.tx)
 .refine C.dx (di 7 0 8++[(6,8)]++[(15,9),(16,10)]++[(4,11)]++[(5,13)]) 14 [11,12] 1 ?_;refine oB ?_;refine Dr.l (λA h=>C.J9 j rfl h) ?_;refine JH ?_;refine Ch.m 11 (bj λe aa f=>?_);refine C.al rfl λb4=>f _ _ .cons ?_;refine Ch.m 12 (bj λe aa f=>?_);refine C.vz rfl<|f _ undef ?_;refine gy ?_;refine C.dx (di 39 0 10++[(38,10)]) 11 [] 0 ?_;refine S6 ?_;refine pR ?_;cases x:(aB s.cr m.tx)
  .refine C.dx (di 59 0 12++[(58,12)]) 13 [] 0 ?_;refine GA ?_;refine lN ?_;refine Dr.l (λA h=>C.J9 x rfl h) ?_;refine Dr.p (λh=>C.Oi rfl h) ?_;refine Da ?_;refine pR ?_;refine C.C9 (di 17 0 14) 15 [4,12,13,14] 3 ?_ (W:=[oH b3 m]);refine nT ?_;refine Dr.p (λh=>C.mi rfl h) ?_;refine Dr.chain rfl ?_ λ_ s=>dg.sat dg.au s;refine Ch.n2 (t:=4) (u:=12) rfl ?_ ?_
   .refine bj λe aa f=>?_;refine C.ld rfl<|f _ _ .refl ?_;refine Ch.m 12 (bj λe aa f=>?_);refine C.fZ (nW (en:=.dec m.tx false [] aV) (l:=s.log) (lg:=lg) rfl ai) ?_;rintro v aT ⟨B,rfl,rfl⟩;refine cH ?_;refine f _ _ qM ?_;refine Ch.q 13 (λh=>C.bd rfl h) ?_;refine Ch.m 14 (bj λe aa f=>?_);refine C.mu (w:=iK.mk s.log.length false) (l:=s.bF) (q:=m.tx) rfl ?_;refine f _ undef qM ?_;refine gy ?_;refine dB.cls {s with log:=s.log++[.dec m.tx false [] aV],bF:=bC s.bF m.tx ⟨s.log.length,false⟩} ?_;refine iE ?_;refine C.fZ (jF (s:={s with log:=s.log++[.dec m.tx false [] aV],bF:=bC s.bF m.tx ⟨s.log.length,false⟩}) (m:=⟨{bA with kind:=4,to:=m.aX,tx:=m.tx},aV,aV⟩) (by show s.waits.length<_;omega)) ?_;rintro v aT rfl;refine uz ?_;have D:ShJ I {s with log:=s.log++[.dec m.tx false [] aV],bF:=bC s.bF m.tx ⟨s.log.length,false⟩}:=⟨(g.uS (e:=.dec m.tx false [] aV) ⟨.nil ..,by decide⟩).log,g.pend,g.cr,g.waits,g.out⟩;refine C.eY n r ⟨I,_,Sub.refl _,D.wait<|lJ.nil I {bA with kind:=4,aX:=s.me,to:=m.aX,tx:=m.tx} rfl rfl,?_,k.same rfl rfl,rfl⟩;rw[yr j,ax (by show¬ (aB (s.cr.map λp=>(p.1,p.2.abs)) m.tx).isSome=true;rw[jS fU.abs,x];decide)];simp[jx,dw.abs,iQ.abs]
   .refine bj λe aa f=>?_;refine C.fZ (nW (en:=.dec m.tx false [] aV) (l:=s.log) (lg:=lg) rfl ai) ?_;rintro v aT ⟨B,rfl,rfl⟩;refine cH ?_;refine f _ _ qM ?_;refine Ch.q 13 (λh=>C.bd rfl h) ?_;refine Ch.m 4 (bj λe aa f=>?_);refine C.ld rfl<|f _ _ .refl ?_;refine Ch.m 14 (bj λe aa f=>?_);refine C.mu (w:=iK.mk s.log.length false) (l:=s.bF) (q:=m.tx) rfl ?_;refine f _ undef qM ?_;refine gy ?_;refine dB.cls {s with log:=s.log++[.dec m.tx false [] aV],bF:=bC s.bF m.tx ⟨s.log.length,false⟩} ?_;refine iE ?_;refine C.fZ (jF (s:={s with log:=s.log++[.dec m.tx false [] aV],bF:=bC s.bF m.tx ⟨s.log.length,false⟩}) (m:=⟨{bA with kind:=4,to:=m.aX,tx:=m.tx},aV,aV⟩) (by show s.waits.length<_;omega)) ?_;rintro v aT rfl;refine uz ?_;have D:ShJ I {s with log:=s.log++[.dec m.tx false [] aV],bF:=bC s.bF m.tx ⟨s.log.length,false⟩}:=⟨(g.uS (e:=.dec m.tx false [] aV) ⟨.nil ..,by decide⟩).log,g.pend,g.cr,g.waits,g.out⟩;refine C.eY n r ⟨I,_,Sub.refl _,D.wait<|lJ.nil I {bA with kind:=4,aX:=s.me,to:=m.aX,tx:=m.tx} rfl rfl,?_,k.same rfl rfl,rfl⟩;rw[yr j,ax (by show¬ (aB (s.cr.map λp=>(p.1,p.2.abs)) m.tx).isSome=true;rw[jS fU.abs,x];decide)];simp[jx,dw.abs,iQ.abs]
  .rename_i E;refine C.dx (di 59 0 12++[(58,12)]) 13 [] 0 ?_;refine GA ?_;refine lN ?_;refine Dr.l (λA h=>C.J8 x rfl h) ?_;refine Dr.p (λh=>C.Oi rfl h) ?_;refine Da ?_;refine pR ?_;refine dB.cls s ?_;refine C.eY n r ⟨I,s,Sub.refl _,g,?_,k.same rfl rfl,rfl⟩;rw[yr j,aJ (by show(aB (s.cr.map λp=>(p.1,p.2.abs)) m.tx).isSome=true;rw[jS fU.abs,x];rfl)]
 .rename_i i;refine C.dx (di 7 0 8++[(6,8)]++[(15,9),(16,10)]++[(4,11)]++[(5,13)]) 14 [11,12] 1 ?_;refine oB ?_;refine Dr.l (λA h=>C.J8 j rfl h) ?_;refine JH ?_;refine Ch.m 11 (bj λe aa f=>?_);refine C.al rfl λb4=>f _ _ .cons ?_;refine Ch.m 12 (bj λe aa f=>?_);refine C.vz rfl<|f _ undef ?_;refine gy ?_;by_cases y:i.pl<s.aE
  .refine C.dx (di 39 0 10++[(38,10)]) 11 [] 0 ?_;refine GA ?_;refine Dr.p (λh=>C.fQ rfl h (hf:=y)) ?_;refine Da ?_;refine pR ?_;refine dB.cls s ?_;refine pP ?_;refine C.fZ (ig (m:=⟨{bA with kind:=4,to:=m.aX,tx:=m.tx,yes:=i.yes},aV,aV⟩) (s:=s) ai) ?_;rintro v aT rfl;refine uz ?_;refine C.eY n r ⟨I,_,Sub.refl _,g.outs<|lJ.nil I {bA with kind:=4,aX:=s.me,to:=m.aX,tx:=m.tx,yes:=i.yes} rfl rfl,?_,k.same rfl rfl,rfl⟩;rw[show C3 s.abs m.toMsgR=_ from(EF (d:=i) j).trans<|aJ y];simp[fI,dw.abs]
  .refine C.dx (di 39 0 10++[(38,10)]) 11 [] 0 ?_;refine GA ?_;refine Dr.p (λh=>C.ed rfl h (hf:=y)) ?_;refine Da ?_;refine pR ?_;refine C.dx (di 59 0 12++[(58,12)]) 13 [] 0 ?_;refine S7 ?_;refine pR ?_;refine dB.cls s ?_;refine C.eY n r ⟨I,s,Sub.refl _,g,?_,k.same rfl rfl,rfl⟩;rw[show C3 s.abs m.toMsgR=_ from(EF (d:=i) j).trans<|ax y]
theorem ShJ.fin(h:ShJ I s)(tx:Int)(yes:Bool)(pl:Int):ShJ I (nV s tx yes pl):=⟨h.log,λp hp=>h.pend p<|wU hp,h.cr,h.waits,h.out⟩
theorem Pb(a:sb s)(tx:Int):(j4 s tx).ops.length<2^30:=by
 unfold j4;cases b:aB s.pend tx with
 |none=>exact n9 _
 |some p=>
  have:=(a.afn _ _ b).2;show p.ops.length<_;omega
def FW(s:eg)(m:MsgR):eg:=jx (qV {s with log:=s.log++[.kY m.tx m.yes]} m.tx m.yes s.log.length) {bA with kind:=5,to:=m.aX,tx:=m.tx}
theorem xo{s:eg}(h:aB s.pend m.tx=some p):j0 s m=FW s m:=by unfold j0;rw[h];rfl
theorem xp{s:eg}{d:iK}(h:aB s.pend m.tx=none)(a:aB s.done m.tx=some d):j0 s m=if d.pl<s.aE then fI s {bA with kind:=5,to:=m.aX,tx:=m.tx}else s:=by unfold j0;rw[h,a]
theorem B1{s:eg}(h:aB s.pend m.tx=none)(a:aB s.done m.tx=none):j0 s m=if m.yes then s else FW s m:=by unfold j0;rw[h,a];rfl
theorem qD{p:rY}(h:aB s.pend tx=some p):aB s.abs.pend tx=some p.abs:=by show aB (s.pend.map λp=>(p.1,p.2.abs)) tx=_;rw[jS rY.abs,h];rfl
theorem kF(h:aB s.pend tx=none):aB s.abs.pend tx=none:=by show aB (s.pend.map λp=>(p.1,p.2.abs)) tx=_;rw[jS rY.abs,h];rfl
theorem kV{p:fU}(h:aB s.cr tx=some p):aB s.abs.cr tx=some p.abs:=by show aB (s.cr.map λp=>(p.1,p.2.abs)) tx=_;rw[jS fU.abs,h];rfl
theorem tP(h:aB s.cr tx=none):aB s.abs.cr tx=none:=by show aB (s.cr.map λp=>(p.1,p.2.abs)) tx=_;rw[jS fU.abs,h];rfl
abbrev Xd(s:dw)(tx:Int)(yes:Bool):dw:=nV {s with log:=s.log++[.kY tx yes]} tx yes s.log.length
theorem B2(s:dw)(m:MsgR):jx (Xd s m.tx m.yes).abs {bA with kind:=5,to:=m.aX,tx:=m.tx}=FW s.abs m:=by
 unfold FW;rw[y9]
 congr 2
 .simp[dw.abs,iQ.abs]
 .simp[dw.abs]
theorem FX{m:dV}(g:ShJ I s)(t:sb s)(n:y7 o a s):
  aI prog ao cX 173 #[az b,tM m] [dB b s,bI I] (ij b I (o+1) (a+1)<|j0 s.abs m.toMsgR):=by
 have z:=t.log;have A:=t.out;have B:=t.waits;have u:=Pb t m.tx;refine aI.of λR C kd d F c cs p q=>?_;refine cH ?_;refine dB.opn (h:=λlg wt D tm E H J K L M N O=>?_);refine bL ?_;refine C.bx rfl λb3=>?_;refine C.go ?_;cases l:(aB s.pend m.tx)
 .refine C.dx (di 9 0 8++[(8,8)]++[(17,9),(18,10)]++[(4,11)]++[(5,13)]) 14 [11,12] 1 ?_;refine oB ?_;refine Dr.l (λr h=>C.J9 l rfl h) ?_;refine JH ?_;refine Ch.m 11 (bj λe aa f=>?_);refine C.al rfl λb4=>f _ _ .cons ?_;refine Ch.m 12 (bj λe aa f=>?_);refine C.vz rfl<|f _ undef ?_;refine gy ?_;cases i:(aB s.done m.tx)
  .refine C.dx (di 20 0 8++[(19,8)]++[(28,9),(29,10)]++[(6,11)]++[(7,13)]) 14 [11,12] 1 ?_;refine oB ?_;refine Dr.l (λr h=>C.J9 i rfl h) ?_;refine JH ?_;refine Ch.m 11 (bj λe aa f=>?_);refine C.al rfl λw=>f _ _ .cons ?_;refine Ch.m 12 (bj λe aa f=>?_);refine C.vz rfl<|f _ undef ?_;refine Ch.fin ?_;refine lu ?_;refine ga ?_;refine C.YZ rfl (λx=>?_) λx=>?_
   .refine fB ?_;refine dB.cls s ?_;refine C.eY p q ⟨I,s,Sub.refl _,g,?_,n.same rfl rfl,rfl⟩;rw[show j0 s.abs m.toMsgR=_ from(B1 (kF l) i).trans<|aJ x]
   .refine fB ?_;refine dB.cls s ?_;refine C.C9 (di 57 0 14) 14 [12,13] 2 ?_ (W:=[oH b3 m,bI I]);refine nT ?_;refine lN ?_;refine Dr.p (λh=>C.mi rfl h) ?_;refine Dr.chain rfl ?_ λ_ s=>dg.sat dg.au s;refine Ch.m 12 (bj λe aa f=>?_);refine C.cE (pb (s:=s) (en:=.kY m.tx m.yes) ai) ?_;refine cH ?_;refine f _ _ qM ?_;refine Ch.m 13 (bj λe aa f=>?_);refine C.fZ (rj (s:={s with log:=s.log++[.kY m.tx m.yes]}) (g.uS (e:=.kY m.tx m.yes) trivial) u) ?_;rintro v aT rfl;refine cH ?_;refine f _ _ qM ?_;refine S5 ?_;refine C.fZ (jF (s:=Xd s m.tx m.yes) (m:=⟨{bA with kind:=5,to:=m.aX,tx:=m.tx},aV,aV⟩) (by show s.waits.length<_;omega)) ?_;rintro v aT rfl;refine uz ?_;refine C.eY p q ⟨I,_,Sub.refl _,((g.uS (e:=.kY m.tx m.yes) trivial).fin m.tx m.yes s.log.length).wait<|lJ.nil I {bA with kind:=5,aX:=s.me,to:=m.aX,tx:=m.tx} rfl rfl,?_,n.same rfl rfl,rfl⟩;rw[show j0 s.abs m.toMsgR=_ from(B1 (kF l) i).trans<|ax (by rw[x];decide)];refine Eq.trans ?_<|B2 s m.toMsgR;simp only[jx,dw.abs,eW,jq,ny]
  .rename_i j;refine C.dx (di 20 0 8++[(19,8)]++[(28,9),(29,10)]++[(6,11)]++[(7,13)]) 14 [11,12] 1 ?_;refine oB ?_;refine Dr.l (λr h=>C.J8 i rfl h) ?_;refine JH ?_;refine Ch.m 11 (bj λe aa f=>?_);refine C.al rfl λw=>f _ _ .cons ?_;refine Ch.m 12 (bj λe aa f=>?_);refine C.vz rfl<|f _ undef ?_;refine Ch.fin ?_;refine vH ?_;by_cases k:j.pl<s.aE
   .refine C.dx (di 36 0 7) 7 [] 0 ?_;refine qv ?_;refine Dr.p (λh=>C.fQ rfl h (hf:=k)) ?_;refine Dr.chain rfl ?_;refine pR ?_;refine dB.cls s ?_;refine iE ?_;refine C.fZ (ig (s:=s) (m:=⟨{bA with kind:=5,to:=m.aX,tx:=m.tx},aV,aV⟩) ai) ?_;rintro v aT rfl;refine uz ?_;refine C.eY p q ⟨I,_,Sub.refl _,g.outs<|lJ.nil I {bA with kind:=5,aX:=s.me,to:=m.aX,tx:=m.tx} rfl rfl,?_,n.same rfl rfl,rfl⟩;rw[show j0 s.abs m.toMsgR=_ from(xp (kF l) (d:=j) i).trans<|aJ k];simp[fI,dw.abs]
   .refine C.dx (di 36 0 7) 7 [] 0 ?_;refine qv ?_;refine Dr.p (λh=>C.ed rfl h (hf:=k)) ?_;refine Dr.chain rfl ?_;refine pR ?_;refine dB.cls s ?_;refine C.eY p q ⟨I,s,Sub.refl _,g,?_,n.same rfl rfl,rfl⟩;rw[show j0 s.abs m.toMsgR=_ from(xp (kF l) (d:=j) i).trans<|ax k]
 .rename_i y;refine C.dx (di 9 0 8++[(8,8)]++[(17,9),(18,10)]++[(4,11)]++[(5,13)]) 14 [11,12] 1 ?_;refine oB ?_;refine Dr.l (λr h=>C.J8 l rfl h) ?_;refine JH ?_;refine Ch.m 11 (bj λe aa f=>?_);refine C.al rfl λb4=>f _ _ .cons ?_;refine Ch.m 12 (bj λe aa f=>?_);refine C.vz rfl<|f _ undef ?_;refine gy ?_;cases i:(aB s.done m.tx)
  .refine C.dx (di 20 0 8++[(19,8)]++[(28,9),(29,10)]++[(6,11)]++[(7,13)]) 14 [11,12] 1 ?_;refine oB ?_;refine Dr.l (λr h=>C.J9 i rfl h) ?_;refine JH ?_;refine Ch.m 11 (bj λe aa f=>?_);refine C.al rfl λw=>f _ _ .cons ?_;refine Ch.m 12 (bj λe aa f=>?_);refine C.vz rfl<|f _ undef ?_;refine Ch.fin ?_;refine lu ?_;refine iE ?_;refine dB.cls s ?_;refine C.C9 (di 57 0 14) 14 [12,13] 2 ?_ (W:=[oH b3 m,bI I]);refine nT ?_;refine lN ?_;refine Dr.p (λh=>C.mi rfl h) ?_;refine Dr.chain rfl ?_ λ_ s=>dg.sat dg.au s;refine Ch.m 12 (bj λe aa f=>?_);refine C.cE (pb (s:=s) (en:=.kY m.tx m.yes) ai) ?_;refine cH ?_;refine f _ _ qM ?_;refine Ch.m 13 (bj λe aa f=>?_);refine C.fZ (rj (s:={s with log:=s.log++[.kY m.tx m.yes]}) (g.uS (e:=.kY m.tx m.yes) trivial) u) ?_;rintro v aT rfl;refine cH ?_;refine f _ _ qM ?_;refine S5 ?_;refine C.fZ (jF (s:=Xd s m.tx m.yes) (m:=⟨{bA with kind:=5,to:=m.aX,tx:=m.tx},aV,aV⟩) (by show s.waits.length<_;omega)) ?_;rintro v aT rfl;refine uz ?_;refine C.eY p q ⟨I,_,Sub.refl _,((g.uS (e:=.kY m.tx m.yes) trivial).fin m.tx m.yes s.log.length).wait<|lJ.nil I {bA with kind:=5,aX:=s.me,to:=m.aX,tx:=m.tx} rfl rfl,?_,n.same rfl rfl,rfl⟩;rw[xo (qD l)];refine Eq.trans ?_<|B2 s m.toMsgR;simp only[jx,dw.abs,eW,jq,ny]
  .rename_i j;refine C.dx (di 20 0 8++[(19,8)]++[(28,9),(29,10)]++[(6,11)]++[(7,13)]) 14 [11,12] 1 ?_;refine oB ?_;refine Dr.l (λr h=>C.J8 i rfl h) ?_;refine JH ?_;refine Ch.m 11 (bj λe aa f=>?_);refine C.al rfl λw=>f _ _ .cons ?_;refine Ch.m 12 (bj λe aa f=>?_);refine C.vz rfl<|f _ undef ?_;refine Ch.fin ?_;refine lu ?_;refine iE ?_;refine dB.cls s ?_;refine C.C9 (di 57 0 14) 14 [12,13] 2 ?_ (W:=[oH b3 m,bI I]);refine nT ?_;refine lN ?_;refine Dr.p (λh=>C.mi rfl h) ?_;refine Dr.chain rfl ?_ λ_ s=>dg.sat dg.au s;refine Ch.m 12 (bj λe aa f=>?_);refine C.cE (pb (s:=s) (en:=.kY m.tx m.yes) ai) ?_;refine cH ?_;refine f _ _ qM ?_;refine Ch.m 13 (bj λe aa f=>?_);refine C.fZ (rj (s:={s with log:=s.log++[.kY m.tx m.yes]}) (g.uS (e:=.kY m.tx m.yes) trivial) u) ?_;rintro v aT rfl;refine cH ?_;refine f _ _ qM ?_;refine S5 ?_;refine C.fZ (jF (s:=Xd s m.tx m.yes) (m:=⟨{bA with kind:=5,to:=m.aX,tx:=m.tx},aV,aV⟩) (by show s.waits.length<_;omega)) ?_;rintro v aT rfl;refine uz ?_;refine C.eY p q ⟨I,_,Sub.refl _,((g.uS (e:=.kY m.tx m.yes) trivial).fin m.tx m.yes s.log.length).wait<|lJ.nil I {bA with kind:=5,aX:=s.me,to:=m.aX,tx:=m.tx} rfl rfl,?_,n.same rfl rfl,rfl⟩;rw[xo (qD l)];refine Eq.trans ?_<|B2 s m.toMsgR;simp only[jx,dw.abs,eW,jq,ny]
variable{R:Nat->aO->Array Obj->Prop}{d:Nat}{As F L:List HP}{g:aO}{l:List (Int×fU)}{tx:Int}{u:fU}
theorem xq(a:aB l tx=some u)(hf:Fo (all<|l.map rZ) As L)(h:At R d (Il u<|all ((eo l tx).map rZ)::L) g):At R d As g:=
 D4 (f:=rZ) a hf λH s=>h H<|Sat.flat (l:=Il u []) s
theorem jb(u:fU)(hr:fK (Il u [all ((eo l tx).map rZ)]) As L)(h:At R d (all ((bC l tx u).map rZ)::L) g):At R d As g:=
 At.perm hr.perm λH s=>(Hr (f:=rZ) (m:=l) (k:=tx) u (.cons .head<|.cons .head .nil) h) H<|Sat.je (l:=Il u []) s
theorem Ir(u:fU)(a:aB l tx=none)(hr:fK (Il u [all (l.map rZ)]) As L)(h:At R d (all ((bC l tx u).map rZ)::L) g):At R d As g:=jb u (by rw[D5 a];exact hr) h
theorem EG{V:Type}{k:Int}{v:V}:∀ {l:List (Int×V)},eo (bC l k v) k=eo l k
 |[]=>by simp[bC,eo]
 |p::l=>by
  unfold bC eo;by_cases h:p.1=k
  .simp[h]
  .simp only[ax h];rw[EG (l:=l)]
theorem Pe{s:eg}(h:aB s.cr m.tx=none):AU s m=s:=by unfold AU;rw[h]
theorem ys{s:eg}{u:m9}(h:aB s.cr m.tx=some u):AU s m=if !u.dec then s else if(bC u.cf m.aX<|(aB u.cf m.aX).getD 0+1).length=(dL u.ops s.n).length then{s with cr:=eo s.cr m.tx}else{s with cr:=bC s.cr m.tx {u with cf:=bC u.cf m.aX<|(aB u.cf m.aX).getD 0+1}}:=by unfold AU;rw[h];simp only[EG]
abbrev Xe(u:fU)(k:Int):fU:={u with cf:=bC u.cf k<|(aB u.cf k).getD 0+1}
theorem Pf{m:dV}(j:ShJ I s)(A:sb s)(r:y7 o a s):
  aI prog ao cX 174 #[az b,tM m] [dB b s,bI I] (ij b I (o+1) (a+1)<|AU s.abs m.toMsgR):=by
 refine aI.of λR C kd d F c cs B D=>?_;refine cH ?_;refine dB.opn (h:=λlg wt T tm U W X Y Z bu tl ht=>?_);refine bL ?_;refine C.bx rfl λb3=>?_;refine C.go ?_;cases t:(aB s.cr m.tx)
 .refine C.dx (di 5 0 8++[(4,8)]) 9 [] 0 ?_;refine oB ?_;refine Dr.l (λO h=>C.J9 t rfl h) ?_;refine zy ?_;refine Ch.fin ?_;refine lu ?_;refine dB.cls s ?_;refine C.cG B D ⟨I,s,Sub.refl _,j,(Pe<|tP t).symm,r.same rfl rfl,rfl⟩
 .rename_i f;refine C.dx (di 5 0 8++[(4,8)]) 9 [] 0 ?_;refine oB ?_;refine Dr.l (λO h=>C.J8 t rfl h) ?_;refine zy ?_;refine gy ?_;refine xq t Fo.au ?_;have x:=cg t;have P:=A.abh _ x;have H:=A.cf _ x;have y:=j.cr _ x;have k:0<=(aB f.cf m.aX).getD 0/\(aB f.cf m.aX).getD 0<2^61:=by
   cases J:aB f.cf m.aX with
   |none=>simp
   |some v=>exact H _<|cg J
  have Q:=vW f.cf m.aX;refine iE ?_;refine C.YZ rfl (λE=>?_) λE=>?_
  .refine dY ?_;refine C.dx (di 22 0 8) 9 [8] 0 ?_;refine qv ?_;refine Dr.l (λO h=>C.Hu Q rfl h) ?_;refine zy ?_;refine Ch.m 8 (bj λe aa k=>?_);refine C.mu (w:=(aB f.cf m.aX).getD 0+1) (l:=f.cf) (q:=m.aX) rfl<|k _ undef ?_;refine gy ?_;by_cases z:((bC f.cf m.aX<|(aB f.cf m.aX).getD 0+1).length:Int)=((dL f.ops s.n).length:Int)
   .refine C.dx (di 30 0 16) 16 [13,14,15] 0 ?_;refine S7 ?_;refine Ch.m 13 (bj λe aa k=>?_);refine C.fZ (oF (n:=s.n) y.o P A.n.1) ?_;rintro v aT ⟨S,K,L,rfl,i,M, -,rfl⟩;refine cH ?_;have N:L.length=(dL f.ops s.n).length:=by rw[<- M];unfold y6;rw[eM]
    refine k _ _ ?_;refine Ch.m 14 (bj λe aa k=>?_);refine ga ?_;rw[N];refine k _ _ ?_;refine Ch.q 15 (λh=>C.fQ rfl h (hf:=z)) ?_;refine pR ?_;refine C.dx (di 46 0 7) 8 [7] 0 ?_;refine WO ?_;refine Ch.m 7 (bj λe aa k=>?_);refine C.dl rfl<|k _ undef ?_;refine gy ?_;refine dB.cls {s with cr:=eo s.cr m.tx} ?_;have hl:(bC f.cf m.aX<|(aB f.cf m.aX).getD 0+1).length=(dL f.ops s.n).length:=ai;refine C.eY B D ⟨K,{s with cr:=eo s.cr m.tx},i,⟨(j.mono i).log,(j.mono i).pend,λu hu=>(j.mono i).cr u<|wU hu,(j.mono i).waits,(j.mono i).out⟩,?_,⟨by have:=r.z;omega,by have:=r.o;show 0<=s.order/\s.order<=o+1;omega,λu hu p hp=>by have:=r.a u (wU hu) p hp;omega⟩,rfl⟩;rw[show AU s.abs m.toMsgR=_ from(ys<|kV t).trans<|(ax (by show¬ (!f.dec)=true;rw[E];decide)).trans<|aJ hl];simp only[dw.abs,Hs]
   .refine C.dx (di 30 0 16) 16 [13,14,15] 0 ?_;refine S7 ?_;refine Ch.m 13 (bj λe aa k=>?_);refine C.fZ (oF (n:=s.n) y.o P A.n.1) ?_;rintro v aT ⟨S,K,L,rfl,i,M, -,rfl⟩;refine cH ?_;have N:L.length=(dL f.ops s.n).length:=by rw[<- M];unfold y6;rw[eM]
    refine k _ _ ?_;refine Ch.m 14 (bj λe aa k=>?_);refine ga ?_;rw[N];refine k _ _ ?_;refine Ch.q 15 (λh=>C.ed rfl h (hf:=z)) ?_;refine pR ?_;refine jb (Xe f m.aX) fK.au ?_;rw[<- uu (g:=yo) (u1:=(Xe f m.aX)) t rfl];refine dB.cls {s with cr:=bC s.cr m.tx<|Xe f m.aX} ?_;have hl:¬ (bC f.cf m.aX<|(aB f.cf m.aX).getD 0+1).length=(dL f.ops s.n).length:=ai;refine C.eY B D ⟨K,{s with cr:=bC s.cr m.tx<|Xe f m.aX},i,⟨(j.mono i).log,(j.mono i).pend,λu hu=>?_,(j.mono i).waits,(j.mono i).out⟩,?_,⟨by have:=r.z;omega,by have:=r.o;show 0<=s.order/\s.order<=o+1;omega,λu hu p hp=>?_⟩,rfl⟩
    .rcases eO hu with rfl|hu
     .exact⟨(y.mono i).o,(y.mono i).r,y.z⟩
     .exact(j.mono i).cr u hu
    .rw[show AU s.abs m.toMsgR=_ from(ys<|kV t).trans<|(ax (by show¬ (!f.dec)=true;rw[E];decide)).trans<|ax hl];simp only[dw.abs,l4];rfl
    .rcases eO hu with rfl|hu
     .rcases eO hp with rfl|hp
      .have h1:(aB f.cf m.aX).getD 0<=a\/(aB f.cf m.aX).getD 0=0:=by
        cases J:aB f.cf m.aX with
        |none=>exact .inr rfl
        |some v=>exact .inl (r.a _ x _<|cg J).2
       have h2:=r.z;dsimp only;omega
      .have:=r.a _ x p hp;omega
     .have:=r.a u hu p hp;omega
  .refine dY ?_;refine jb f fK.au ?_;rw[iy t];refine dB.cls s ?_;refine C.cG B D ⟨I,s,Sub.refl _,j,?_,r.same rfl rfl,rfl⟩;rw[show AU s.abs m.toMsgR=_ from(ys<|kV t).trans<|aJ (by show(!f.dec)=true;rw[E];rfl)]
def xu(m:MsgR):MsgR:={bA with kind:=3,to:=m.aX,tx:=m.tx}
theorem B5{s:eg}(h:aB s.pend m.tx=some p):gF s m=if p.pl<s.aE then fI s {xu m with yes:=true,reads:=ji s.values p.ops}else s:=by unfold gF;rw[h];rfl
theorem B6{s:eg}{d:iK}(h:aB s.pend m.tx=none)(a:aB s.done m.tx=some d):gF s m=if d.yes then s else fI s (xu m):=by unfold gF;rw[h,a];rfl
theorem Is{s:eg}(h:aB s.pend m.tx=none)(a:aB s.done m.tx=none):gF s m=if m.ops.any (λo=>(aB s.aQ o.k).isSome)then fI s (xu m)else
  kj (jx (u7 {s with log:=s.log++[.cK m.tx m.aX m.ops]} m.tx m.aX m.ops s.log.length) {xu m with yes:=true,reads:=ji s.values m.ops}) m.tx 3 false:=by unfold gF;rw[h,a];rfl
theorem ShJ.hold(h:ShJ I s){tx:Int}(a:gg I db 67 so O):ShJ I (xm s tx home O so pl):=⟨h.log,λp hp=>by
 rcases eO hp with rfl|hp
 .exact a
 .exact h.pend p hp,h.cr,h.waits,h.out⟩
abbrev It(s:dw)(m:dV):dw:=xm {s with log:=s.log++[.cK m.tx m.aX m.ops m.so]} m.tx m.aX m.ops m.so s.log.length
abbrev TV(s:dw)(m:dV)(sv:ay):dw:={It s m with waits:=s.waits++[⟨{xu m.toMsgR with aX:=s.me,yes:=true,reads:=ji s.values m.ops},aV,sv⟩]}
theorem Pg(s:dw)(m:dV)(a:ay):(TV s m a).abs=jx (u7 {s.abs with log:=s.abs.log++[.cK m.tx m.aX m.ops]} m.tx m.aX m.ops s.abs.log.length) {xu m.toMsgR with yes:=true,reads:=ji s.abs.values m.ops}:=by
 have e1:=EE {s with log:=s.log++[.cK m.tx m.aX m.ops m.so]} m.tx m.aX m.ops m.so s.log.length;have e2:u7 {s.abs with log:=s.abs.log++[.cK m.tx m.aX m.ops]} m.tx m.aX m.ops s.abs.log.length=(It s m).abs:=by
  rw[e1]
  congr 1
  .simp[dw.abs,iQ.abs]
  .simp[dw.abs]
 rw[e2];simp[jx,dw.abs]
theorem EH(V:List (Int×Int))(O:List bO):(ji V O).length<=O.length:=by unfold ji;rw[eM];exact Dx _ _
theorem Df{m:dV}(w:ShJ I s)(x:sb s)(t:y7 o a s)(D:lJ I m)(E:np m.ops):
  aI prog ao cX 171 #[az b,tM m] [dB b s,bI I] (ij b I (o+1) (a+1)<|gF s.abs m.toMsgR):=by
 have kp:=x.log;have mG:=x.out;have VE:=x.waits;have Y:=x.clock;have TW:=x.order;have Z:=x.timers;have hol:=E.2;have hMo:=D.o;have H:(ji s.values m.ops).length<2^20:=Aw (EH ..) E.2;refine aI.of λR C kd d F c cs A B=>?_;refine cH ?_;refine dB.opn (h:=λlg wt ot tm bv bl bp bd be bu tl ht=>?_);refine bL ?_;refine C.bx rfl λb3=>?_;refine iE ?_;refine C.al rfl λb4=>?_;refine bL ?_;cases l:(aB s.pend m.tx)
 .refine C.dx (di 19 0 8++[(18,8)]++[(27,9),(28,10)]++[(5,11)]++[(6,13)]) 14 [11,12] 1 ?_;refine oB ?_;refine Dr.l (λJ h=>C.J9 l rfl h) ?_;refine JH ?_;refine Ch.m 11 (bj λe aa g=>?_);refine C.al rfl λb5=>g _ _ .cons ?_;refine Ch.m 12 (bj λe aa g=>?_);refine C.vz rfl<|g _ undef ?_;refine Bw ?_;cases k:(aB s.done m.tx)
  .refine C.dx (di 47 0 8++[(46,8)]++[(55,9),(56,10)]++[(7,11)]++[(8,13)]) 14 [11,12] 1 ?_;refine oB ?_;refine Dr.l (λJ h=>C.J9 k rfl h) ?_;refine JH ?_;refine Ch.m 11 (bj λe aa g=>?_);refine C.al rfl λb7=>g _ _ .cons ?_;refine Ch.m 12 (bj λe aa g=>?_);refine C.vz rfl<|g _ undef ?_;refine Ch.fin ?_;refine mE ?_;refine C.cN (X:=Nat) (λi=>[(0,az b),(3,az b3),(4,az b4),(65,m.so.v),(66,aF m.ops.length),(67,aF i)]) (λi=>dq b4 (.cells #[aF 3,aF 0,aF m.aX,aF m.tx,.bool false,.slice none 0 0,.slice none 0 0] 190 (0,0))::oH b3 m::O1 b s lg wt ot tm bv bl bp bd be bu tl (bI I::F)) (λi=>i<=m.ops.length/\∀ j (y:j<m.ops.length),j<i->aB s.aQ m.ops[j].k=none) (λi=>m.ops.length-i) 0 ⟨rfl,rfl,rfl,rfl,rfl,rfl,trivial⟩ ⟨fp _,λj _ y=>absurd y<|Au _⟩ ?_;rintro i e ⟨hi,T⟩ ih;refine bL ?_;refine C.cmp rfl (λU=>?_) λU=>?_
   .refine bL ?_;have N:i<m.ops.length:=by simpa using U
    refine bL ?_;refine C.zx rfl λy=>?_;refine C.al rfl λb10=>?_;refine C.vz rfl ?_ (hv:=λv h=>jf.one (f:=db) m.ops[i] v<|by simpa using h);refine C.go ?_;cases n:(aB s.aQ (m.ops[i]'N).k)
    .refine C.dx (di 72 0 8++[(71,8)]++[(80,9),(81,10)]++[(11,11),(12,12)]) 13 [] 0 ?_;refine oB ?_;refine Dr.l (λJ h=>C.J9 n rfl h) ?_;refine zw5 ?_;refine Ch.fin ?_;refine pP ?_;refine again ih (i+1) ⟨N,λj y WI=>?_⟩ ai;rcases LW.1 WI with h|rfl
     .exact T j y h
     .exact n
    .rename_i w79;refine C.dx (di 72 0 8++[(71,8)]++[(80,9),(81,10)]++[(11,11),(12,12)]) 13 [] 0 ?_;refine oB ?_;refine Dr.l (λJ h=>C.J8 n rfl h) ?_;refine zw5 ?_;refine Bw ?_;refine dB.cls s ?_;refine dT ?_;refine C.fZ (ig (s:=s) (m:=⟨xu m.toMsgR,aV,aV⟩) ai) ?_;rintro v aT rfl;refine uz ?_;refine C.cG A B ⟨I,{s with out:=s.out++[⟨{xu m.toMsgR with aX:=s.me},aV,aV⟩]},Sub.refl _,w.outs<|lJ.nil I _ rfl rfl,?_,t.same rfl rfl,rfl⟩;rw[show gF s.abs m.toMsgR=_ from(Is (kF l) k).trans<|aJ<|uV.2 ⟨_,dG N,by show(aB s.aQ (m.ops[i]'N).k).isSome=true;rw[n];rfl⟩];simp[fI,dw.abs]
   .refine bL ?_;have Oa:m.ops.any (λo=>(aB s.aQ o.k).isSome)=false:=by rw[List.any_eq_false];intro o ho;obtain⟨j,y,rfl⟩:=nJ ho;rw[T j y ai];decide
    have CH:ShJ I (It s m):=(w.uS (e:=.cK m.tx m.aX m.ops m.so) ⟨D.o,E.2⟩).hold D.o;refine dB.cls s ?_;refine C.C9 (di 87 0 18) 18 [16,17] 2 ?_ (W:=[oH b3 m,bI I]);refine nT ?_;refine QE ?_;refine Dr.p (λh=>C.mi rfl h) ?_;refine Dr.chain rfl ?_ λ_ s=>dg.sat dg.au s;refine Ch.m 16 (bj λe aa g=>?_);refine C.cE (pb (s:=s) (en:=.cK m.tx m.aX m.ops m.so) ai) ?_;refine cH ?_;refine g _ _ qM ?_;refine Ch.m 17 (bj λe aa g=>?_);refine C.fZ (KY (s:={s with log:=s.log++[.cK m.tx m.aX m.ops m.so]}) D.o E) ?_;rintro v aT rfl;refine cH ?_;refine g _ _ qM ?_;refine Bw ?_;refine C.fZ (BZ (s:=It s m) D.o E) ?_;rintro v aT ⟨q,rfl,rfl⟩;refine MY ?_;refine C.fZ (jF (s:=It s m) (m:=⟨{xu m.toMsgR with yes:=true,reads:=ji s.values m.ops},aV,q⟩) (by show s.waits.length<_;omega)) ?_;rintro v aT rfl;refine vI ?_;refine C.fZ (lE (ticks:=3) (s:=TV s m q) (by show s.timers.length<_;omega) (by show 0<=s.order/\s.order<_;omega) (by show 0<=s.clock/\s.clock<_;omega)<|by decide) ?_;rintro v aT rfl;refine uz ?_;refine At.Si (I:=I) (s:=q) (f:=dk) Fo.au Fo.au λP K z=>?_;refine C.eY A B ⟨P,kK (TV s m q) m.tx 3 false,K,?_,?_,⟨by have:=t.z;omega,by have:=t.o;show 0<=s.order+1/\s.order+1<=o+1;omega,λu hu p hp=>by have:=t.a u hu p hp;omega⟩,rfl⟩
    .have h1:=(CH.mono K).wait (m:=⟨{xu m.toMsgR with aX:=s.me,yes:=true,reads:=ji s.values m.ops},aV,q⟩) ⟨.nil ..,z,by first|exact L|exact H⟩;exact⟨h1.log,h1.pend,h1.cr,h1.waits,h1.out⟩
    .rw[show gF s.abs m.toMsgR=_ from(Is (kF l) k).trans<|ax (by show¬ m.ops.any (λo=>(aB s.aQ o.k).isSome)=true;rw[Oa];decide)];rw[oG,Pg]
  .rename_i w54;refine C.dx (di 47 0 8++[(46,8)]++[(55,9),(56,10)]++[(7,11)]++[(8,13)]) 14 [11,12] 1 ?_;refine oB ?_;refine Dr.l (λJ h=>C.J8 k rfl h) ?_;refine JH ?_;refine Ch.m 11 (bj λe aa g=>?_);refine C.al rfl λb7=>g _ _ .cons ?_;refine Ch.m 12 (bj λe aa g=>?_);refine C.vz rfl<|g _ undef ?_;refine zv7 ?_;refine C.YZ rfl (λQ=>?_) λQ=>?_
   .refine dT ?_;refine dB.cls s ?_;refine C.cG A B ⟨I,s,Sub.refl _,w,?_,t.same rfl rfl,rfl⟩;rw[show gF s.abs m.toMsgR=_ from(B6 (kF l) k).trans<|aJ Q]
   .refine dT ?_;refine dB.cls s ?_;refine dT ?_;refine C.fZ (ig (s:=s) (m:=⟨xu m.toMsgR,aV,aV⟩) ai) ?_;rintro v aT rfl;refine uz ?_;refine C.cG A B ⟨I,{s with out:=s.out++[⟨{xu m.toMsgR with aX:=s.me},aV,aV⟩]},Sub.refl _,w.outs<|lJ.nil I _ rfl rfl,?_,t.same rfl rfl,rfl⟩;rw[show gF s.abs m.toMsgR=_ from(B6 (kF l) k).trans<|ax (by rw[Q];decide)];simp[fI,dw.abs]
 .rename_i r;refine C.dx (di 19 0 8++[(18,8)]++[(27,9),(28,10)]++[(5,11)]++[(6,13)]) 14 [11,12] 1 ?_;refine oB ?_;refine Dr.l (λJ h=>C.J8 l rfl h) ?_;refine JH ?_;refine Ch.m 11 (bj λe aa g=>?_);refine C.al rfl λb5=>g _ _ .cons ?_;refine Ch.m 12 (bj λe aa g=>?_);refine C.vz rfl<|g _ undef ?_;refine Bw ?_;by_cases O:r.pl<s.aE
  .refine C.dx (di 30 0 7) 7 [] 0 ?_;refine qv ?_;refine Dr.p (λh=>C.fQ rfl h (hf:=O)) ?_;refine Dr.chain rfl ?_;refine pR ?_;refine dB.cls s ?_;have S:=w.pend _<|cg l;have M:=x.afn _ _ l;have L:(ji s.values r.ops).length<2^20:=Aw (EH ..) M.2;refine dY ?_;refine C.fZ (BZ (s:=s) S M) ?_;rintro v aT ⟨q,rfl,rfl⟩;refine MY ?_;refine C.fZ (ig (s:=s) (m:=⟨{xu m.toMsgR with yes:=true,reads:=ji s.values r.ops},aV,q⟩) ai) ?_;rintro v aT rfl;refine uz ?_;refine At.Si (I:=I) (s:=q) (f:=dk) Fo.au Fo.au λP K z=>?_;refine C.cG A B ⟨P,{s with out:=s.out++[⟨{xu m.toMsgR with aX:=s.me,yes:=true,reads:=ji s.values r.ops},aV,q⟩]},K,(w.mono K).outs ⟨.nil ..,z,by first|exact L|exact H⟩,?_,t.same rfl rfl,rfl⟩;rw[show gF s.abs m.toMsgR=_ from(B5<|qD l).trans<|aJ O];simp[fI,dw.abs,rY.abs]
  .refine C.dx (di 30 0 7) 7 [] 0 ?_;refine qv ?_;refine Dr.p (λh=>C.ed rfl h (hf:=O)) ?_;refine Dr.chain rfl ?_;refine pR ?_;refine dB.cls s ?_;refine C.cG A B ⟨I,s,Sub.refl _,w,?_,t.same rfl rfl,rfl⟩;rw[show gF s.abs m.toMsgR=_ from(B5<|qD l).trans<|ax O]
theorem rk{O:List Int}(b:gg I dk 21 so O)(hl:O.length<2^43):aI prog ao cX 79 #[so.v] [bI I] (λv As=>∃ s',v=s'.v/\As=[bK dk 1 21 s' O,bI I]):=by
 refine aI.of λR C kd d F c cs e f=>?_;refine cH ?_;rcases b with⟨rfl,rfl⟩|⟨pad,h1,g⟩
 .refine gV ?_;refine C.YY rfl ?_ (a:=none) (len:=0) (cap:=0);refine fB ?_;refine At.aV dk 1 21 ?_;exact C.cG e f ⟨aV,rfl,rfl⟩
 .have b:gg I dk 21 so O:=.inr ⟨pad,h1,g⟩;have h:so.v=.slice (some ⟨so.b,0,none⟩) so.len so.cap:=by unfold ay.v;rw[show so.a=some ⟨so.b,0,none⟩from congrArg ay.a h1]
  refine gV ?_;refine C.YY rfl ?_ (a:=some ⟨so.b,0,none⟩) (len:=so.len) (cap:=so.cap) (hx:=h);refine dT ?_;refine C.bs0 dk rfl λb5=>?_;refine ga ?_;refine C.YR (l:=[]) O rfl (λs'=>?_) (hsrc:=λH st=>?_) (s:=⟨some ⟨b5,0,none⟩,0,0⟩)
  .refine bL ?_;exact C.cG e f ⟨s',rfl,rfl⟩
  .exact ez.src (ez.bI Fo.au b) st λj=>rfl
theorem iQ.J.small{e:iQ}(h:e.J I):e.abs.aZ.reads.length<2^20:=by
 cases e with
 |cK tx home O so=>exact n9 20
 |dec tx yes reads a=>exact h.2
 |kY tx yes=>exact n9 20
abbrev WL(r:RecR)(so sr:ay):Value:=.agg #[aF r.kind,aF r.tx,.bool r.yes,aF r.home,so.v,sr.v]
def Xg(I:HL)(e:iQ):Value->List HP->Prop:=λv As=>∃ so sr:ay,v=WL e.abs.aZ so sr/\As=[bK db 3 67 so e.abs.aZ.ops,bK dk 1 21 sr e.abs.aZ.reads,bI I]
theorem Ph{tx:Int}(f:gg I db 67 so O)(hl:O.length<2^43):
  aI prog ao cX 276 #[(iQ.cK tx home O so).pay] [bI I] (Xg I<|.cK tx home O so):=by
 refine aI.of λR C kd d F c cs g i=>?_;refine pQ ?_;refine C.bx rfl λb1=>?_;refine C.al rfl λb2=>?_;refine C.go ?_;refine C.C9 (di 3 0 8) 9 [6,7,8] 2 ?_ (W:=[dq b1 (.cells #[aF tx,aF home,so.v] 274 (0,0))]);refine qv ?_;refine Dr.chain rfl ?_ λ_ s=>dg.sat dg.au s;refine Ch.m 6 (bj λe aa a=>?_);refine C.fZ (vU f hl) ?_;rintro v aT ⟨b,rfl,rfl⟩;refine cH ?_;refine a _ _ qM ?_;refine Ch.q 7 (λh=>C.bd rfl h) ?_;refine Ch.m 8 (bj λe aa a=>?_);refine ga ?_;refine a _ undef qM ?_;refine gy ?_;refine At.aV dk 1 21 ?_;exact C.Ws (xs:=#[aF 1,aF tx,.bool false,aF home,b.v,.slice none 0 0]) (A:=[bK db 3 67 b O,bK dk 1 21 aV [],bI I]) rfl g i ⟨b,aV,rfl,rfl⟩
theorem Pj{tx:Int}{reads:List Int}(f:gg I dk 21 so reads)(hl:reads.length<2^43):
  aI prog ao cX 277 #[(iQ.dec tx yes reads so).pay] [bI I] (Xg I<|.dec tx yes reads so):=by
 refine aI.of λR C kd d F c cs g i=>?_;refine pQ ?_;refine C.bx rfl λb1=>?_;refine C.al rfl λb2=>?_;refine C.go ?_;refine C.C9 (di 3 0 8) 9 [6,7,8] 2 ?_ (W:=[dq b1 (.cells #[aF tx,.bool yes,so.v] 277 (0,0))]);refine qv ?_;refine Dr.chain rfl ?_ λ_ s=>dg.sat dg.au s;refine Ch.m 6 (bj λe aa a=>?_);refine C.fZ (rk f hl) ?_;rintro v aT ⟨b,rfl,rfl⟩;refine cH ?_;refine a _ _ qM ?_;refine Ch.q 7 (λh=>C.bd rfl h) ?_;refine Ch.m 8 (bj λe aa a=>?_);refine ga ?_;refine a _ undef qM ?_;refine gy ?_;refine At.aV db 3 67 ?_;exact C.Ws (xs:=#[aF 2,aF tx,.bool yes,aF 0,.slice none 0 0,b.v]) (A:=[bK db 3 67 aV [],bK dk 1 21 b reads,bI I]) rfl g i ⟨aV,b,rfl,rfl⟩
theorem Pk{tx:Int}:
  aI prog ao cX 278 #[(iQ.kY tx yes).pay] [bI I] (Xg I<|.kY tx yes):=by
 refine aI.of λR C kd d F c cs a b=>?_;refine pQ ?_;refine C.bx rfl λb1=>?_;refine C.al rfl λb2=>?_;refine pP ?_;refine At.aV dk 1 21<|At.aV db 3 67 ?_;exact C.Ws (xs:=#[aF 3,aF tx,.bool yes,aF 0,.slice none 0 0,.slice none 0 0]) (A:=[bK db 3 67 aV [],bK dk 1 21 aV [],bI I]) rfl a b ⟨aV,aV,rfl,rfl⟩
theorem abm:gG prog (method (prog.types.size+Made.depth) 274 v "shardlog/shard.record")=some (276,v):=by kernel_rfl
theorem abn:gG prog (method (prog.types.size+Made.depth) 277 v "shardlog/shard.record")=some (277,v):=by kernel_rfl
theorem abo:gG prog (method (prog.types.size+Made.depth) 281 v "shardlog/shard.record")=some (278,v):=by kernel_rfl
variable{fn:bN}{kd:Kd}{n:Nat}{e:Nat->Value}{ds:List eK}{k:List Item}{cs:List Frame}
variable{O:Array Oper}{i:Nat}{aa:List Nat}{dst:Option Nat}{ty:aP}{pos:String}{af:Array Edge}{gd:Option (Nat×Bool)}
set_option maxRecDepth 100000 in
theorem ab.enr(C:ab prog ao cX R){recv:dp}{gY:Array aP}{en:iQ}(a:en.J I)
  (h:∀ v aT,Xg I en v aT->At R d (aT++F) (gr fn kd n (dD e dst v) ds (.inRegion O aa::k) cs)) (b:bk O i=some ⟨dst,.call ⟨.invoke recv "shardlog/shard.record",#[],gY⟩,ty,pos,af,gd⟩:=by rfl) (hr:ev n e recv=en.val:=by rfl)
  (c:fK [bI I] As F:=by exact fK.au) (f:aN O n e gd=true:=by rfl):At R d As (gr fn kd n e ds (.inRegion O (i::aa)::k) cs):=by
 cases en with
 |cK tx home O so=>exact C.mi0 abm (Ph a.1 (by have:=a.2;omega)) h b hr rfl c f
 |dec tx yes reads sr=>exact C.mi0 abn (Pj a.1 (by have:=a.2;omega)) h b hr rfl c f
 |kY tx yes=>exact C.mi0 abo Pk h b hr rfl c f
theorem za{s:eg}{d:iK}(h:aB s.bF m.tx=some d):nE s m=if d.pl<s.aE then fI s {bA with kind:=7,to:= -1,tx:=m.tx,yes:=d.yes,reads:=((s.log[d.pl.toNat]?.map aR.aZ).getD dz).reads}else s:=by unfold nE;rw[h]
theorem KZ{s:eg}(h:aB s.bF m.tx=none)(a:(aB s.cr m.tx).isSome=true):nE s m=s:=by unfold nE;rw[h];simp only[a,fq]
def TX(tx:Int)(z:eg)(k:Int)(p:List bO):eg:=fI z {bA with kind:=2,to:=k,tx:=tx,ops:=p}
theorem B7{s:eg}(h:aB s.bF m.tx=none)(a:aB s.cr m.tx=none):nE s m=kj (sZ {s with cr:=bC s.cr m.tx ⟨m.ops,[],[],false,false⟩} m.ops<|TX m.tx) m.tx 4 true:=by unfold nE;rw[h,a];rfl
theorem zb{x:dw}{m:dV}{k:Int}{part:List bO}(hl:x.out.length<2^31):
  aI prog ao cX 198 #[aF k,sp.v,az b2,az b3] [dB b x,bI I,dq b2<|.cells #[az b] 115 (0,0),oH b3 m]
   (λv As=>As=[dB b {x with out:=x.out++[⟨{bA with kind:=2,aX:=x.me,to:=k,tx:=m.tx,ops:=part},sp,aV⟩]},bI I,dq b2<|.cells #[az b] 115 (0,0),oH b3 m]):=by
 refine aI.of λR C kd d F c cs a e=>?_;refine MY ?_;refine C.fZ (ig (s:=x) (m:=⟨{bA with kind:=2,to:=k,tx:=m.tx,ops:=part},sp,aV⟩) ai) ?_;rintro v aT rfl;refine uz ?_;exact C.eY a e rfl
abbrev sxC(b:Nat)(s:dw)(lg wt ot tm:ay)(bv bl bp bd be bu:Nat):HP:=dq b<|.cells #[aF s.me,aF s.n,.bool s.up,lg.v,aF s.aE,.map<|some bv,.map<|some bl,.map<|some bp,.map<|some bd,.map<|some be,.map<|some bu,tm.v,aF s.order,aF s.clock,wt.v,ot.v] 180 (0,0)
abbrev Ni(b2 b:Nat):HP:=dq b2<|.cells #[az b] 115 (0,0)
theorem ShJ.afu(h:ShJ I s){tx:Int}{u:fU}(hu:FU I u):ShJ I {s with cr:=bC s.cr tx u}:=⟨h.log,h.pend,λp hp=>by
 rcases eO hp with rfl|hp
 .exact hu
 .exact h.cr p hp,h.waits,h.out⟩
theorem Iu{m:dV}(N:ShJ I s)(z:sb s)(A:y7 o a s)(hM:lJ I m)(hO:np m.ops):
  aI prog ao cX 170 #[az b,tM m] [dB b s,bI I] (ij b I (o+1) (a+1)<|nE s.abs m.toMsgR):=by
 have kp:=z.log;have mG:=z.out;have abk:=z.clock;have TW:=z.order;have htm:=z.timers;have B:=hM.o;have hbn:=z.n;refine aI.of λR C kd d F c cs P Q=>?_;refine cH ?_;refine dB.opn (h:=λlg wt ot tm bv bl bp bd be bu tl ht=>?_);refine bL ?_;refine C.bx rfl λb2=>?_;refine C.bx rfl λb3=>?_;refine C.go ?_;cases K:(aB s.bF m.tx)
 .refine C.dx (di 7 0 8++[(6,8)]++[(15,9),(16,10)]++[(4,11)]++[(5,13)]) 14 [11,12] 1 ?_;refine oB ?_;refine Dr.l (λZ h=>C.J9 K rfl h) ?_;refine JH ?_;refine Ch.m 11 (bj λe aa g=>?_);refine C.al rfl λb4=>g _ _ .cons ?_;refine Ch.m 12 (bj λe aa g=>?_);refine C.vz rfl<|g _ undef ?_;refine Bw ?_;cases L:(aB s.cr m.tx)
  .refine C.dx (di 42 0 9) 9 [] 0 ?_;refine oB ?_;refine Dr.l (λZ h=>C.J9 L rfl h) ?_;refine Dr.p (λh=>C.Oi rfl h) ?_;refine Dr.chain rfl ?_;refine pR ?_;refine C.C9 (di 51 0 13) 14 [9,10,11,12,13] 4 ?_ (W:=[Ni b2 b,oH b3 m,sxC b s lg wt ot tm bv bl bp bd be bu]);refine GA ?_;refine lN ?_;refine Dr.chain rfl ?_ λ_ s=>dg.sat dg.au s;refine Ch.n2 (t:=9) (u:=10) rfl ?_ ?_
   .refine bj λe aa g=>?_;refine C.mm .i64 KO rfl λD=>(g _ _ .cons ?_);refine Ch.m 10 (bj λe aa g=>?_);refine C.mm .i64 eh rfl λH=>(g _ _ .cons ?_);refine Ch.q 11 (λh=>C.bd rfl h) ?_;refine Ch.m 12 (bj λe aa g=>?_);refine C.bx rfl λJ=>g _ _ .cons ?_;refine Ch.m 13 (bj λe aa g=>?_);refine C.mu (w:=fU.mk J m.ops m.so [] D [] H false false) (l:=s.cr) (q:=m.tx) rfl ?_;refine g _ undef qM ?_;refine gy ?_;refine Ir (l:=s.cr) (tx:=m.tx) (fU.mk J m.ops m.so [] D [] H false false) L fK.au ?_;refine dB.cls {s with cr:=bC s.cr m.tx<|fU.mk J m.ops m.so [] D [] H false false} ?_;obtain⟨i,n⟩:∃ i:dw,i={s with cr:=bC s.cr m.tx<|fU.mk J m.ops m.so [] D [] H false false}:=⟨_,rfl⟩;have CH:ShJ I i:=by rw[n];exact N.afu ⟨B,by simp,by simp⟩
    have M4:i.out=s.out:=by rw[n]
    have S:i.n=s.n:=by rw[n]
    rw[<- n];refine dY ?_;refine C.mf rfl ?_;refine C.fZ (qC (f:=198) (a1:=#[]) (a2:=#[az b2,az b3]) (s:=i) (I:=I) (E:=[Ni b2 b,oH b3 m]) (inv:=λk x I'=>∃ o,x={i with out:=o}/\o.length<=s.out.length+k/\ShJ I' x) (Zh:=TX m.tx) B hO (by rw[S];exact z.n) (λI' h=>⟨i.out,rfl,by rw[M4];omega,CH.mono h⟩) (λk x I' h=>by
     obtain⟨o,h1,h2,M⟩:=h;exact⟨o,h1,ai,M⟩) (λk x I' sp part VC g r v8 fA Nj=>by
     obtain⟨o,rfl,h2,M⟩:=r;refine aI.post (zb (part:=part) (by dsimp only;rw[S]at g;omega)) λv As h=>⟨_,I',Sub.refl _,⟨_,rfl,?_,M.outs ⟨v8,.nil ..,by exact n9 20⟩⟩,?_,h⟩
     .dsimp only;rw[iV,iR];omega
     .simp[TX,fI,dw.abs])) ?_
    rintro v aT ⟨x',T,O,⟨U,rfl,na,y⟩,ml,rfl⟩;refine vI ?_;refine C.fZ (lE (ticks:=4) (s:={i with out:=U}) (by rw[n];show s.timers.length<_;omega) (by rw[n];show 0<=s.order/\s.order<_;omega) (by rw[n];show 0<=s.clock/\s.clock<_;omega)<|by decide) ?_;rintro v aT rfl;refine uz ?_;refine C.eY P Q ⟨T,kK {i with out:=U} m.tx 4 true,O,⟨y.log,y.pend,y.cr,y.waits,y.out⟩,?_,⟨by have:=A.z;omega,by have:=A.o;rw[n];show 0<=s.order+1/\s.order+1<=o+1;omega,λu hu p hp=>?_⟩,rfl⟩
    .rw[oG,ml,B7 K<|tP L]
     congr 2
     rw[n];unfold dw.abs;simp only[eg.mk.injEq,Av,pU];exact l4 fU.abs s.cr
    .rw[n]at hu;rcases eO hu with rfl|hu
     .cases hp
     .have:=A.a u hu p hp;omega
   .refine bj λe aa g=>?_;refine C.mm .i64 eh rfl λH=>(g _ _ .cons ?_);refine Ch.m 9 (bj λe aa g=>?_);refine C.mm .i64 KO rfl λD=>(g _ _ .cons ?_);refine Ch.q 11 (λh=>C.bd rfl h) ?_;refine Ch.m 12 (bj λe aa g=>?_);refine C.bx rfl λJ=>g _ _ .cons ?_;refine Ch.m 13 (bj λe aa g=>?_);refine C.mu (w:=fU.mk J m.ops m.so [] D [] H false false) (l:=s.cr) (q:=m.tx) rfl ?_;refine g _ undef qM ?_;refine gy ?_;refine Ir (l:=s.cr) (tx:=m.tx) (fU.mk J m.ops m.so [] D [] H false false) L fK.au ?_;refine dB.cls {s with cr:=bC s.cr m.tx<|fU.mk J m.ops m.so [] D [] H false false} ?_;obtain⟨i,n⟩:∃ i:dw,i={s with cr:=bC s.cr m.tx<|fU.mk J m.ops m.so [] D [] H false false}:=⟨_,rfl⟩;have CH:ShJ I i:=by rw[n];exact N.afu ⟨B,by simp,by simp⟩
    have M4:i.out=s.out:=by rw[n]
    have S:i.n=s.n:=by rw[n]
    rw[<- n];refine dY ?_;refine C.mf rfl ?_;refine C.fZ (qC (f:=198) (a1:=#[]) (a2:=#[az b2,az b3]) (s:=i) (I:=I) (E:=[Ni b2 b,oH b3 m]) (inv:=λk x I'=>∃ o,x={i with out:=o}/\o.length<=s.out.length+k/\ShJ I' x) (Zh:=TX m.tx) B hO (by rw[S];exact z.n) (λI' h=>⟨i.out,rfl,by rw[M4];omega,CH.mono h⟩) (λk x I' h=>by
     obtain⟨o,h1,h2,M⟩:=h;exact⟨o,h1,ai,M⟩) (λk x I' sp part VC g r v8 fA Nj=>by
     obtain⟨o,rfl,h2,M⟩:=r;refine aI.post (zb (part:=part) (by dsimp only;rw[S]at g;omega)) λv As h=>⟨_,I',Sub.refl _,⟨_,rfl,?_,M.outs ⟨v8,.nil ..,by exact n9 20⟩⟩,?_,h⟩
     .dsimp only;rw[iV,iR];omega
     .simp[TX,fI,dw.abs])) ?_
    rintro v aT ⟨x',T,O,⟨U,rfl,na,y⟩,ml,rfl⟩;refine vI ?_;refine C.fZ (lE (ticks:=4) (s:={i with out:=U}) (by rw[n];show s.timers.length<_;omega) (by rw[n];show 0<=s.order/\s.order<_;omega) (by rw[n];show 0<=s.clock/\s.clock<_;omega)<|by decide) ?_;rintro v aT rfl;refine uz ?_;refine C.eY P Q ⟨T,kK {i with out:=U} m.tx 4 true,O,⟨y.log,y.pend,y.cr,y.waits,y.out⟩,?_,⟨by have:=A.z;omega,by have:=A.o;rw[n];show 0<=s.order+1/\s.order+1<=o+1;omega,λu hu p hp=>?_⟩,rfl⟩
    .rw[oG,ml,B7 K<|tP L]
     congr 2
     rw[n];unfold dw.abs;simp only[eg.mk.injEq,Av,pU];exact l4 fU.abs s.cr
    .rw[n]at hu;rcases eO hu with rfl|hu
     .cases hp
     .have:=A.a u hu p hp;omega
  .rename_i w49;refine C.dx (di 42 0 9) 9 [] 0 ?_;refine oB ?_;refine Dr.l (λZ h=>C.J8 L rfl h) ?_;refine Dr.p (λh=>C.Oi rfl h) ?_;refine Dr.chain rfl ?_;refine pR ?_;refine dB.cls s ?_;refine C.cG P Q ⟨I,s,Sub.refl _,N,?_,A.same rfl rfl,rfl⟩;rw[KZ K (by rw[kV L];rfl)]
 .rename_i w14;refine C.dx (di 7 0 8++[(6,8)]++[(15,9),(16,10)]++[(4,11)]++[(5,13)]) 14 [11,12] 1 ?_;refine oB ?_;refine Dr.l (λZ h=>C.J8 K rfl h) ?_;refine JH ?_;refine Ch.m 11 (bj λe aa g=>?_);refine C.al rfl λb4=>g _ _ .cons ?_;refine Ch.m 12 (bj λe aa g=>?_);refine C.vz rfl<|g _ undef ?_;refine Bw ?_;obtain⟨Gy,Fa⟩:=z.dpl _ _ K;obtain⟨pl,dy⟩:=w14;dsimp only at Gy Fa;obtain⟨j,rfl⟩:=mJ Gy;have Wk:j<s.log.length:=ai;have X:=N.log _<|dG Wk;by_cases Y:(j:Int)<s.aE
  .refine C.dx (di 18 0 7) 7 [] 0 ?_;refine qv ?_;refine Dr.p (λh=>C.fQ rfl h (hf:=Y)) ?_;refine Dr.chain rfl ?_;refine pR ?_;refine C.C9 (di 25 0 17) 17 [8,11,12,13,14,15,16] 8 ?_ (W:=[Ni b2 b,oH b3 m,dq b4<|.cells #[aF (j:Int),.bool dy] 279 (0,0)]);refine nT ?_;refine Dr.chain rfl ?_ λ_ s=>dg.sat dg.au s;refine Ch.m 8 (bj λe aa g=>?_);refine C.ld rfl<|g _ _ .refl ?_;refine Ch.m 11 (bj λe aa g=>?_);refine C.dZ rfl<|g _ _ .refl ?_;refine Ch.m 12 (bj λe aa g=>?_);refine C.du rfl<|g _ _ .refl ?_;refine Ch.m 13 (bj λe aa g=>?_);refine C.enr X ?_;rintro v aT ⟨so,sr,rfl,rfl⟩;refine cH ?_;refine g _ _ qM ?_;refine Ch.q 14 (λh=>C.fd (ft:=104) ⟨_,_,underlying167,rfl,rfl,rfl⟩ rfl h) ?_;refine Ch.q 15 (λh=>C.bd rfl h) ?_;refine Ch.m 16 (bj λe aa g=>?_);refine dB.cls s ?_;refine C.fZ (ig (s:=s) (m:=⟨{bA with kind:=7,to:= -1,tx:=m.tx,yes:=dy,reads:=s.log[j].abs.aZ.reads},aV,sr⟩) ai) ?_;rintro v aT rfl;refine cH ?_;refine g _ _ qM ?_;refine gy ?_;refine At.Si (I:=I) (s:=sr) (f:=dk) Fo.au Fo.au λT O Gv=>?_;refine C.cG P Q ⟨T,{s with out:=s.out++[⟨{bA with kind:=7,aX:=s.me,to:= -1,tx:=m.tx,yes:=dy,reads:=s.log[j].abs.aZ.reads},aV,sr⟩]},O,(N.mono O).outs ⟨.nil ..,Gv,X.small⟩,?_,A.same rfl rfl,rfl⟩;rw[show nE s.abs m.toMsgR=_ from(za K).trans<|aJ Y];have e1:s.abs.log[(j:Int).toNat]? =some s.log[j].abs:=by simp[dw.abs,Wk]
   simp only[fI,dw.abs,gN]at e1⊢;simp[Wk]
  .refine C.dx (di 18 0 7) 7 [] 0 ?_;refine qv ?_;refine Dr.p (λh=>C.ed rfl h (hf:=Y)) ?_;refine Dr.chain rfl ?_;refine pR ?_;refine dB.cls s ?_;refine C.cG P Q ⟨I,s,Sub.refl _,N,?_,A.same rfl rfl,rfl⟩;rw[show nE s.abs m.toMsgR=_ from(za K).trans<|ax Y]
theorem abp{u:m9}{n:Int}{o:bO}{l:List bO}{next:List (Int×Int)}(a:o.w=true):jg u n (o::l) next=jg u n l next:=by conv=>lhs;unfold jg;rw[aJ a]
theorem abq{u:m9}{n:Int}{o:bO}{l:List bO}{next:List (Int×Int)}{aa:List Int}(c:o.w=false)(h:jg u n (o::l) next=some aa):
  ∃ x a,((aB u.bq<|atR o.k n).getD [])[((aB next<|atR o.k n).getD 0).toNat]? =some x/\jg u n l (bC next (atR o.k n)<|(aB next<|atR o.k n).getD 0+1)=some a/\aa=x::a:=by
 unfold jg at h;rw[ax (by rw[c];decide)]at h;dsimp only at h;split at h
 .cases h
 .rename_i x d;cases b:jg u n l (bC next (atR o.k n)<|(aB next<|atR o.k n).getD 0+1)with
  |none=>rw[b]at h;cases h
  |some r=>rw[b]at h;exact⟨x,r,d,rfl,(cA h).symm⟩
def xv(u:fU)(k:Int):List Int×ay:=(aB u.bq k).getD ([],aV)
theorem Xl(u:fU)(k:Int):((aB u.bq k).map KO).getD (.slice none 0 0)=(xv u k).2.v:=by unfold xv;cases aB u.bq k<;>rfl
theorem Pl(u:fU)(k:Int):(aB u.abs.bq k).getD []=(xv u k).1:=by show(aB (u.bq.map λp=>(p.1,p.2.1)) k).getD []=_;rw[jS (λv:List Int×ay=>v.1)];unfold xv;cases aB u.bq k<;>rfl
theorem Xm{u:fU}(h:FU I u)(k:Int):gg I dk 21 (xv u k).2 (xv u k).1:=by
 unfold xv;cases a:aB u.bq k with
 |none=>exact .nil ..
 |some p=>exact h.r _<|cg a
theorem Iv{u:fU}{n:Int}{rd:List Int}(J:FU I u)(K:np u.ops)(Q:1<=n)(hr:nF u.abs n=some rd):
  aI prog ao cX 203 #[az u.b,aF n] [dq u.b (.cells #[u.so.v,.map<|some u.mv,.map<|some u.ma,.bool u.dec,.bool u.yes] 299 (0,0)),dt .i64 KO u.mv u.bq,bI I]
   (λv As=>∃ s',v=s'.v/\As=[bK dk 1 21 s' rd,dq u.b<|.cells #[u.so.v,.map<|some u.mv,.map<|some u.ma,.bool u.dec,.bool u.yes] 299 (0,0),dt .i64 KO u.mv u.bq,bI I]):=by
 have hl:=K.2;have S:=J.o;refine aI.of λR C kd d F c cs T U=>?_;refine MY ?_;refine C.mm .i64 eh rfl λk=>?_;refine vH ?_;refine At.aV dk 1 21 ?_;refine C.cN (X:=Nat×ay×List Int×List (Int×Int)) (λx=>[(0,az u.b),(1,aF n),(5,x.2.1.v),(6,.map<|some k),(14,u.so.v),(15,aF u.ops.length),(16,aF x.1)]) (λx=>bK dk 1 21 x.2.1 x.2.2.1::dt .i64 eh k x.2.2.2::dq u.b (.cells #[u.so.v,.map<|some u.mv,.map<|some u.ma,.bool u.dec,.bool u.yes] 299 (0,0))::dt .i64 KO u.mv u.bq::bI I::F)
  (λx=>x.1<=u.ops.length/\x.2.2.1.length<=x.1/\(∀ q v,aB x.2.2.2 q=some v->0<=v/\v<=x.1)/\∃ aa,jg u.abs n (u.ops.drop x.1) x.2.2.2=some aa/\x.2.2.1++aa=rd) (λx=>u.ops.length-x.1) (0,aV,[],[]) ⟨rfl,rfl,rfl,rfl,rfl,rfl,rfl,trivial⟩ ⟨fp _,fC _,λq v h=>(nomatch h),rd,hr,rfl⟩ ?_
 rintro⟨i,y,A,g⟩ e ⟨hi,W,m,aa,a,o⟩ L;dsimp only at hi W m a o⊢;refine bL ?_;refine C.cmp rfl (λB=>?_) λB=>?_
 .refine bL ?_;have t:i<u.ops.length:=by simpa using B
  have Y:=K.1 _<|dG t;rw[sA t]at a;refine bL ?_;refine C.zx rfl λp=>?_;refine C.al rfl λb8=>?_;refine C.vz rfl ?_ (hv:=λv h=>jf.one (f:=db) u.ops[i] v<|by simpa using h);refine dY ?_;generalize M:u.ops[i].w=z;rcases n8 z with rfl|rfl
  .refine iE ?_;rw[abp M]at a;exact again L (i+1,y,A,g) ⟨t,dE,λq v h=>by have:=m q v h;dsimp only;omega,aa,a,o⟩<|dE
  .refine dT ?_;obtain⟨x,Z,N,O,rfl⟩:=abq M a;obtain⟨j,p⟩:∃ j:Nat,(aB g<|atR u.ops[i].k n).getD 0=j/\j<=i:=by
    cases P:aB g (atR u.ops[i].k n)with
    |none=>exact⟨0,rfl,fp _⟩
    |some v=>
     obtain⟨j,rfl⟩:=mJ (m _ _ P).1;have:=(m _ _ P).2;exact⟨j,rfl,ai⟩
   obtain⟨p,WI⟩:=p;rw[p,Pl,gN]at N;obtain⟨Wk,D⟩:=dd.1 N;have E:=Xl u<|atR u.ops[i].k n;have b:=vW g<|atR u.ops[i].k n;have hsv:=Xm J<|atR u.ops[i].k n;rw[p]at b O;refine dY ?_;refine C.cE (yp (key:=u.ops[i].k) (n:=n) Y Q) ?_;refine su ?_;refine bL ?_;refine C.dx (di 27 0 14++[(5,14)]) 15 [12,13,14] 1 ?_;refine qv ?_;refine Dr.l (λhE h=>C.Hu E rfl h) ?_;refine lH ?_;refine Dr.l (λhE h=>C.Hu b rfl h) ?_;refine Da ?_;refine Ch.m 12 (bj λe aa H=>?_);refine C.CZ rfl λb39=>H _ _ .cons ?_;refine Ch.m 13 (bj λe aa H=>?_);refine C.DR (s:=y) (l:=A) (xv u<|atR u.ops[i].k n).1[j] rfl λs2=>?_;refine H _ _ ?_;refine Ch.q 14 (λh=>C.pN rfl h) ?_;refine Ch.fin ?_;refine dY ?_;refine C.Hu b rfl ?_;refine C.ar rfl ?_ (r:=((j:Int)+1));refine C.mu (w:=(j:Int)+1) (l:=g) (q:=atR u.ops[i].k n) rfl ?_;refine fB ?_;refine again L (i+1,s2,A++[(xv u<|atR u.ops[i].k n).1[j]],bC g (atR u.ops[i].k n)<|(j:Int)+1) ⟨t,by simp;omega,λq v h=>?_,Z,O,by rw[D,rT];exact o⟩<|dE;rw[gn]at h;by_cases e:q=atR u.ops[i].k n
   .rw[aJ e]at h;obtain rfl:=cA h;dsimp only;omega
   .rw[ax e]at h;have:=m q v h;dsimp only;omega
 .refine gV ?_;have TZ:u.ops.drop i=[]:=pX (by simp at B;omega);rw[TZ]at a;obtain rfl:=cA a;rw[lS]at o;subst o;exact C.cG T U ⟨y,rfl,rfl⟩
def vtS(tx:Int)(yes:Bool)(z:eg)(k:Int)(_:List bO):eg:=jx z {bA with kind:=4,to:=k,tx:=tx,yes:=yes}
def GD(u:m9)(m:MsgR):m9:=if m.yes&& !(aB u.bq m.aX).isSome then{u with bq:=bC u.bq m.aX m.reads}else u
def mo(u:m9)(n:Int)(m:MsgR):Bool:=m.yes&&decide ((GD u m).bq.length<(dL (GD u m).ops n).length)
def T0(s:eg)(m:MsgR)(u1:m9)(rd:List Int):eg:=
 jx (sZ {s with cr:=bC s.cr m.tx {u1 with dec:=true,yes:=m.yes},log:=s.log++[.dec m.tx m.yes rd],bF:=bC s.bF m.tx ⟨s.log.length,m.yes⟩} u1.ops<|vtS m.tx m.yes) {bA with kind:=7,to:= -1,tx:=m.tx,yes:=m.yes,reads:=rd}
def B8(s:eg)(m:MsgR):Prop:=∀ u,aB s.cr m.tx=some u->u.dec=false->m.yes=true->mo u s.n m=false->∃ rd,nF (GD u m) s.n=some rd/\rd.length<2^20
theorem K0{s:eg}(h:aB s.cr m.tx=none):rJ s m=s:=by unfold rJ;rw[h]
theorem rl{s:eg}{u:m9}(h:aB s.cr m.tx=some u):rJ s m=if u.dec then s else if mo u s.n m then{s with cr:=bC s.cr m.tx<|GD u m}else T0 s m (GD u m) (if m.yes then(nF (GD u m) s.n).getD []else[]):=by unfold rJ;rw[h];rfl
theorem B9{x:dw}{m:dV}{k:Int}(hl:x.waits.length<2^31):
  aI prog ao cX 204 #[aF k,sp.v,az b2,az b3] [dB b x,bI I,Ni b2 b,oH b3 m]
   (λv As=>As=[dB b {x with waits:=x.waits++[⟨{bA with kind:=4,aX:=x.me,to:=k,tx:=m.tx,yes:=m.yes},aV,aV⟩]},bI I,Ni b2 b,oH b3 m]):=by
 refine aI.of λR C kd d F c cs a e=>?_;refine Y8 ?_;refine C.fZ (jF (s:=x) (m:=⟨{bA with kind:=4,to:=k,tx:=m.tx,yes:=m.yes},aV,aV⟩) ai) ?_;rintro v aT rfl;refine uz ?_;exact C.eY a e rfl
abbrev EI(u:fU)(vs:List (Int×(List Int×ay))):fU:={u with bq:=vs}
def QM(u:fU)(m:dV):List (Int×(List Int×ay)):=if m.yes&& !(aB u.bq m.aX).isSome then bC u.bq m.aX (m.reads,m.sr)else u.bq
theorem xw(u:fU)(m:dV):(EI u<|QM u m).abs=GD u.abs m.toMsgR:=by
 unfold GD QM;have e:(aB u.abs.bq m.aX).isSome=(aB u.bq m.aX).isSome:=by show(aB (u.bq.map λp=>(p.1,p.2.1)) m.aX).isSome=_;rw[jS (λv:List Int×ay=>v.1)];cases aB u.bq m.aX<;>rfl
 rw[e];split
 .simp only[fU.abs,EI];rw[l4 (λv:List Int×ay=>v.1)]
 .rfl
theorem Nl{u:fU}{m:dV}(h:FU I u)(hm:lJ I m):FU I (EI u<|QM u m):=by
 refine⟨h.o,λv a=>?_,λv a=>?_⟩
 .unfold QM at a;dsimp only at a;split at a
  .rcases eO a with rfl|a
   .exact hm.r
   .exact h.r v a
  .exact h.r v a
 .unfold QM at a;dsimp only at a;split at a
  .rcases eO a with rfl|a
   .exact hm.z
   .exact h.z v a
  .exact h.z v a
abbrev sxU(b:Nat)(s:dw)(tx:Int)(lg wt ot tm:ay)(bv bl bp bd be bu:Nat)(tl:List lB)(F:List HP):List HP:=
 sxC b s lg wt ot tm bv bl bp bd be bu::bK pK 1 272 lg s.log::dt .u8 fT bv s.values::dt .u8 eh bl s.aQ::dt .i64 vS bp s.pend::dt .i64 qB bd s.done::dt .i64 qB be s.bF::dt .i64 yo bu s.cr::all ((eo s.cr tx).map rZ)::
  bK uG 4 263 tm tl::bK dF 7 190 wt s.waits::bK dF 7 190 ot s.out::F
theorem Ca{u:fU}{m:dV}{n:Int}{vs:List (Int×(List Int×ay))}(a:vs=QM u m)(b:m.yes=true):mo u.abs n m.toMsgR=decide (vs.length<(dL u.ops n).length):=by unfold mo;rw[<- xw,<- a];simp only[b,Bool.true_and,fU.abs,EI,eM]
theorem abt{u:fU}{m:dV}(a:m.yes=false):QM u m=u.bq:=by unfold QM;rw[a];rfl
theorem Nm(u:m9)(m:MsgR):(GD u m).ops=u.ops:=by unfold GD;split<;>rfl
theorem K1{m:dV}(O:ShJ I s)(Q:sb s)(D:y7 o a s)(K:lJ I m)(hV:B8 s.abs m.toMsgR):
  aI prog ao cX 172 #[az b,tM m] [dB b s,bI I] (ij b I (o+1) (a+1)<|rJ s.abs m.toMsgR):=by
 have kp:=Q.log;have VE:=Q.waits;have hbn:=Q.n;refine aI.of λR C kd d F c cs aW ak=>?_;refine cH ?_;refine dB.opn (h:=λlg wt ot tm bv bl bp bd be bu tl ht=>?_);refine bL ?_;refine C.bx rfl λb2=>?_;refine C.bx rfl λb3=>?_;refine C.go ?_;cases H:(aB s.cr m.tx)
 .refine C.dx (di 8 0 8++[(4,8)]) 9 [] 0 ?_;refine oB ?_;refine Dr.l (λhE h=>C.J9 H rfl h) ?_;refine zy ?_;refine Ch.fin ?_;refine mE ?_;refine ga ?_;refine dB.cls s ?_;refine C.cG aW ak ⟨I,s,Sub.refl _,O,(K0<|tP H).symm,D.same rfl rfl,rfl⟩
 .rename_i i;refine C.dx (di 8 0 8++[(4,8)]) 9 [] 0 ?_;refine oB ?_;refine Dr.l (λhE h=>C.J8 H rfl h) ?_;refine zy ?_;refine gy ?_;refine xq H Fo.au ?_;have cW:=cg H;have cY:=Q.abh _ cW;have TU:=O.cr _ cW;have ss:=TU.o;refine iE ?_;refine C.YZ rfl (λhd=>?_) λhd=>?_
  .refine dT ?_;refine jb i fK.au ?_;rw[iy H];refine dB.cls s ?_;refine C.cG aW ak ⟨I,s,Sub.refl _,O,?_,D.same rfl rfl,rfl⟩;rw[show rJ s.abs m.toMsgR=_ from(rl<|kV H).trans<|aJ hd]
  .refine gV ?_;apply m8 (X:=ay×List Int×List (Int×(List Int×ay))×HL) (λx=>x.2.2.1=QM i m/\mo i.abs s.n m.toMsgR=false/\x.2.1=(if m.yes then(nF (GD i.abs m.toMsgR) s.n).getD []else[])/\Sub I x.2.2.2/\gg x.2.2.2 dk 21 x.1 x.2.1/\x.2.1.length<2^20) (λx=>[(2,az b2),(3,az b3),(4,az i.b),(5,x.1.v)]) (λx=>Il (EI i x.2.2.1)<|Ni b2 b::oH b3 m::sxU b s m.tx lg wt ot tm bv bl bp bd be bu tl (bI x.2.2.2::F)) (R:=R) (d:=d) (fn:=172) (kd:=kd) (n:=110) (ds:=[]) (cs:=c::cs)
   .intro zd;refine bL ?_;refine C.YZ rfl (λP=>?_) λP=>?_
    .refine bL ?_;apply m8 (X:=List<|Int×(List Int×ay)) (λz=>z=QM i m) (λ_=>[(2,az b2),(3,az b3),(4,az i.b),(5,aV.v)]) (λz=>Il (EI i z)<|Ni b2 b::oH b3 m::sxU b s m.tx lg wt ot tm bv bl bp bd be bu tl (bI I::F)) (R:=R) (d:=d) (fn:=172) (kd:=kd) (n:=110) (ds:=[]) (cs:=c::cs)
     .intro O5;cases Zl:(aB i.bq m.aX)
      .refine C.dx (di 27 0 7++[(26,7)]++[(34,8),(35,9)]++[(6,10),(7,11)]) 12 [] 0 ?_;refine qv ?_;refine Dr.l (λhE h=>C.J9 Zl rfl h) ?_;refine zw5 ?_;refine S4 ?_;refine C.dx (di 38 0 8) 9 [8] 0 ?_;refine zw8 ?_;refine Ch.m 8 (bj λe aa j=>?_);refine C.mu (w:=(m.reads,m.sr)) (l:=i.bq) (q:=m.aX) rfl<|j _ undef ?_;refine gy ?_;refine bU O5 (bC i.bq m.aX (m.reads,m.sr)) ?_;unfold QM;rw[P,Zl];rfl
      .rename_i w33;refine C.dx (di 27 0 7++[(26,7)]++[(34,8),(35,9)]++[(6,10),(7,11)]) 12 [] 0 ?_;refine qv ?_;refine Dr.l (λhE h=>C.J8 Zl rfl h) ?_;refine zw5 ?_;refine S4 ?_;refine bU O5 i.bq ?_;unfold QM;rw[P,Zl];rfl
     .rintro z J e;by_cases FY:((z.length:Nat):Int)<((dL i.ops s.n).length:Int)
      .refine C.dx (di 46 0 16) 16 [13,14,15] 0 ?_;refine S7 ?_;refine Ch.m 13 (bj λe aa j=>?_);refine C.fZ (oF (n:=s.n) ss cY Q.n.1) ?_;rintro v aT ⟨bm,T,pm,rfl,y,VF, -,rfl⟩;refine cH ?_;have yN:pm.length=(dL i.ops s.n).length:=by rw[<- VF];unfold y6;rw[eM]
       refine j _ _ ?_;refine Ch.m 14 (bj λe aa j=>?_);refine ga ?_;rw[yN];refine j _ _ ?_;refine Ch.q 15 (λh=>C.fQ rfl h (hf:=FY)) ?_;refine pR ?_;refine jb (EI i z) fK.au ?_;rw[<- uu (g:=yo) (u1:=EI i z) H rfl];refine dB.cls {s with cr:=bC s.cr m.tx<|EI i z} ?_;refine C.cG aW ak ⟨T,{s with cr:=bC s.cr m.tx<|EI i z},y,⟨(O.mono y).log,(O.mono y).pend,λp hp=>?_,(O.mono y).waits,(O.mono y).out⟩,?_,⟨by have:=D.z;omega,by have:=D.o;show 0<=s.order/\s.order<=o+1;omega,λu hu p hp=>?_⟩,rfl⟩
       .rcases eO hp with rfl|hp
        .rw[J];exact Nl (TU.mono y) ⟨K.o.mono y,K.r.mono y,K.z⟩
        .exact(O.mono y).cr p hp
       .rw[show rJ s.abs m.toMsgR=_ from(rl<|kV H).trans<|(ax (by show¬ i.dec=true;rw[hd];decide)).trans<|aJ (by show mo i.abs s.n m.toMsgR=true;rw[Ca J P];exact wm ai)];rw[<- xw,<- J];simp only[dw.abs,l4]
       .rcases eO hu with rfl|hu
        .have:=D.a _ cW p hp;omega
        .have:=D.a u hu p hp;omega
      .refine C.dx (di 46 0 16) 16 [13,14,15] 0 ?_;refine S7 ?_;refine Ch.m 13 (bj λe aa j=>?_);refine C.fZ (oF (n:=s.n) ss cY Q.n.1) ?_;rintro v aT ⟨bm,T,pm,rfl,y,VF, -,rfl⟩;refine cH ?_;have yN:pm.length=(dL i.ops s.n).length:=by rw[<- VF];unfold y6;rw[eM]
       refine j _ _ ?_;refine Ch.m 14 (bj λe aa j=>?_);refine ga ?_;rw[yN];refine j _ _ ?_;refine Ch.q 15 (λh=>C.ed rfl h (hf:=FY)) ?_;refine pR ?_;have yt:mo i.abs s.n m.toMsgR=false:=by rw[Ca J P];exact rD ai
       obtain⟨U,afx,hrz⟩:=hV _ (kV H) hd P yt;have aja:nF (EI i z).abs s.n=some U:=by rw[J,xw];exact afx
       refine gV ?_;refine C.fZ (Iv (u:=EI i z) (n:=s.n) (by rw[J];exact Nl (TU.mono y) ⟨K.o.mono y,K.r.mono y,K.z⟩) cY Q.n.1 aja) ?_;rintro v aT ⟨s67,rfl,rfl⟩;refine pQ ?_;refine At.Si (I:=T) (s:=s67) (f:=dk) Fo.au Fo.au λI2 Y ajb=>?_;refine bU zd (s67,U,z,I2) ⟨J,yt,?_,y.trans Y,ajb,hrz⟩;dsimp only;rw[aJ P];have:nF (GD i.abs m.toMsgR) s.n=some U:=afx;rw[this];rfl
    .refine bL ?_;refine bU zd (aV,[],i.bq,I) ⟨(abt P).symm,?_,?_,Sub.refl _,.nil ..,n9 20⟩
     .unfold mo;have:m.toMsgR.yes=false:=P;rw[this];rfl
     .rw[ax (by rw[P];decide)]
   .rintro⟨A,rd,z,T⟩ ⟨J,pA,jo,y,L,hz⟩ e;dsimp only at J pA jo y L hz⊢;refine C.C9 (di 68 0 6++[(74,7),(75,8)]) 10 [6,9] 2 ?_ (W:=[oH b3 m]);refine GA ?_;refine Dr.chain rfl ?_ λ_ s=>dg.sat dg.au s;refine Ch.m 6 (bj λe aa j=>?_);refine ga ?_;refine j _ undef qM ?_;refine Ch.m 9 (bj λe aa j=>?_);refine ga ?_;refine j _ undef qM ?_;refine gy ?_;refine C.C9 (di 76 0 19) 20 [4,15,18,19] 3 ?_ (W:=[Ni b2 b,oH b3 m]);refine nT ?_;refine uQ ?_;refine Dr.p (λh=>C.mi rfl h) ?_;refine lH ?_;refine Dr.chain rfl ?_ λ_ s=>dg.sat dg.au s;refine Ch.n2 (t:=4) (u:=15) rfl ?_ ?_
    .refine bj λe aa j=>?_;refine C.ld rfl<|j _ _ .refl ?_;refine Ch.m 15 (bj λe aa j=>?_);refine C.fZ (nW (en:=.dec m.tx m.yes rd A) (l:=s.log) (lg:=lg) rfl ai) ?_;rintro v aT ⟨lg',rfl,rfl⟩;refine cH ?_;refine j _ _ qM ?_;refine Ch.q 18 (λh=>C.bd rfl h) ?_;refine Ch.m 19 (bj λe aa j=>?_);refine C.mu (w:=iK.mk s.log.length m.yes) (l:=s.bF) (q:=m.tx) rfl ?_;refine j _ undef qM ?_;refine gy ?_;refine C.dx (di 95 0 7) 7 [6] 0 ?_;refine QE ?_;refine Dr.p (λh=>C.mf (v1:=[]) (v2:=[az b2,az b3]) rfl h) ?_;refine Dr.chain rfl ?_;refine Ch.m 6 (bj λe aa j=>?_);refine jb {EI i z with dec:=true,yes:=m.yes} fK.au ?_;rw[<- uu (g:=yo) (u1:={EI i z with dec:=true,yes:=m.yes}) H rfl];refine dB.cls {s with log:=s.log++[.dec m.tx m.yes rd A],bF:=bC s.bF m.tx ⟨s.log.length,m.yes⟩,cr:=bC s.cr m.tx {EI i z with dec:=true,yes:=m.yes}} ?_;obtain⟨r,B⟩:∃ r:dw,r={s with log:=s.log++[.dec m.tx m.yes rd A],bF:=bC s.bF m.tx ⟨s.log.length,m.yes⟩,cr:=bC s.cr m.tx {EI i z with dec:=true,yes:=m.yes}}:=⟨_,rfl⟩;have CH:ShJ T r:=by
      have M:=O.mono y;have h1:=Nl (TU.mono y) (m:=m) ⟨K.o.mono y,K.r.mono y,K.z⟩;rw[B];refine⟨(M.uS (e:=.dec m.tx m.yes rd A) ⟨L,hz⟩).log,M.pend,λp hp=>?_,M.waits,M.out⟩;rcases eO hp with rfl|hp
      .rw[J];exact⟨h1.o,h1.r,h1.z⟩
      .exact M.cr p hp
     have M4:r.waits=s.waits:=by rw[B]
     have Z:r.n=s.n:=by rw[B]
     rw[<- B];refine C.fZ (qC (f:=204) (a1:=#[]) (a2:=#[az b2,az b3]) (s:=r) (I:=T) (E:=[Ni b2 b,oH b3 m]) (inv:=λk x I'=>∃ o,x={r with waits:=o}/\o.length<=s.waits.length+k/\ShJ I' x) (Zh:=vtS m.tx m.yes) (ss.mono y) cY (by rw[Z];exact Q.n) (λI' h=>⟨r.waits,rfl,by rw[M4];omega,CH.mono h⟩) (λk x I' h=>by
      obtain⟨o,h1,h2,h3⟩:=h;exact⟨o,h1,ai,h3⟩) (λk x I' sp part VC j N v8 fA Nj=>by
      obtain⟨o,rfl,h2,h3⟩:=N;refine aI.post (B9 (by dsimp only;rw[Z]at j;omega)) λv As h=>⟨_,I',Sub.refl _,⟨_,rfl,?_,h3.wait ⟨.nil ..,.nil ..,by exact n9 20⟩⟩,?_,h⟩
      .dsimp only;rw[iV,iR];omega
      .simp[vtS,jx,dw.abs])) ?_
     rintro v aT ⟨x',I2,Y,⟨S,rfl,na,sO⟩,ml,rfl⟩;refine cH ?_;refine j _ _ ?_;refine Ch.fin ?_;refine pP ?_;refine C.fZ (jF (s:={r with waits:=S}) (m:=⟨{bA with kind:=7,to:= -1,tx:=m.tx,yes:=m.yes,reads:=rd},aV,A⟩) (by dsimp only;rw[Z]at na;omega)) ?_;rintro v aT rfl;refine uz ?_;refine C.eY aW ak ⟨I2,{r with waits:=S++[⟨{bA with kind:=7,aX:=r.me,to:= -1,tx:=m.tx,yes:=m.yes,reads:=rd},aV,A⟩]},y.trans Y,sO.wait (m:=⟨{bA with kind:=7,aX:=r.me,to:= -1,tx:=m.tx,yes:=m.yes,reads:=rd},aV,A⟩) ⟨.nil ..,L.mono Y,hz⟩,?_,⟨by have:=D.z;omega,by have:=D.o;rw[B];show 0<=s.order/\s.order<=o+1;omega,λu hu p hp=>?_⟩,rfl⟩
     .rw[show rJ s.abs m.toMsgR=_ from(rl<|kV H).trans<|(ax (by show¬ i.dec=true;rw[hd];decide)).trans<|ax (by show¬ mo i.abs s.n m.toMsgR=true;rw[pA];decide)];have e2:r.abs={s.abs with cr:=bC s.abs.cr m.tx {GD i.abs m.toMsgR with dec:=true,yes:=m.yes},log:=s.abs.log++[.dec m.tx m.yes rd],bF:=bC s.abs.bF m.tx ⟨s.abs.log.length,m.yes⟩}:=by rw[B,<- xw,<- J];unfold dw.abs;simp only[eg.mk.injEq,Av,pU,eW,eM,jq,ny,iQ.abs];exact l4 fU.abs s.cr
      unfold T0;have e3:(if m.toMsgR.yes=true then(nF (GD i.abs m.toMsgR) s.abs.n).getD []else[])=rd:=jo.symm;rw[e3];have e4:({r with waits:=S++[⟨{bA with kind:=7,aX:=r.me,to:= -1,tx:=m.tx,yes:=m.yes,reads:=rd},aV,A⟩]}:dw).abs=jx ({r with waits:=S}:dw).abs {bA with kind:=7,to:= -1,tx:=m.tx,yes:=m.yes,reads:=rd}:=by simp[jx,dw.abs]
      rw[e4,ml,e2];simp only[Nm];rfl
     .rw[B]at hu;rcases eO hu with rfl|hu
      .have:=D.a _ cW p hp;omega
      .have:=D.a u hu p hp;omega
    .refine bj λe aa j=>?_;refine C.fZ (nW (en:=.dec m.tx m.yes rd A) (l:=s.log) (lg:=lg) rfl ai) ?_;rintro v aT ⟨lg',rfl,rfl⟩;refine cH ?_;refine j _ _ qM ?_;refine Ch.q 18 (λh=>C.bd rfl h) ?_;refine Ch.m 4 (bj λe aa j=>?_);refine C.ld rfl<|j _ _ .refl ?_;refine Ch.m 19 (bj λe aa j=>?_);refine C.mu (w:=iK.mk s.log.length m.yes) (l:=s.bF) (q:=m.tx) rfl ?_;refine j _ undef qM ?_;refine gy ?_;refine C.dx (di 95 0 7) 7 [6] 0 ?_;refine QE ?_;refine Dr.p (λh=>C.mf (v1:=[]) (v2:=[az b2,az b3]) rfl h) ?_;refine Dr.chain rfl ?_;refine Ch.m 6 (bj λe aa j=>?_);refine jb {EI i z with dec:=true,yes:=m.yes} fK.au ?_;rw[<- uu (g:=yo) (u1:={EI i z with dec:=true,yes:=m.yes}) H rfl];refine dB.cls {s with log:=s.log++[.dec m.tx m.yes rd A],bF:=bC s.bF m.tx ⟨s.log.length,m.yes⟩,cr:=bC s.cr m.tx {EI i z with dec:=true,yes:=m.yes}} ?_;obtain⟨r,B⟩:∃ r:dw,r={s with log:=s.log++[.dec m.tx m.yes rd A],bF:=bC s.bF m.tx ⟨s.log.length,m.yes⟩,cr:=bC s.cr m.tx {EI i z with dec:=true,yes:=m.yes}}:=⟨_,rfl⟩;have CH:ShJ T r:=by
      have M:=O.mono y;have h1:=Nl (TU.mono y) (m:=m) ⟨K.o.mono y,K.r.mono y,K.z⟩;rw[B];refine⟨(M.uS (e:=.dec m.tx m.yes rd A) ⟨L,hz⟩).log,M.pend,λp hp=>?_,M.waits,M.out⟩;rcases eO hp with rfl|hp
      .rw[J];exact⟨h1.o,h1.r,h1.z⟩
      .exact M.cr p hp
     have M4:r.waits=s.waits:=by rw[B]
     have Z:r.n=s.n:=by rw[B]
     rw[<- B];refine C.fZ (qC (f:=204) (a1:=#[]) (a2:=#[az b2,az b3]) (s:=r) (I:=T) (E:=[Ni b2 b,oH b3 m]) (inv:=λk x I'=>∃ o,x={r with waits:=o}/\o.length<=s.waits.length+k/\ShJ I' x) (Zh:=vtS m.tx m.yes) (ss.mono y) cY (by rw[Z];exact Q.n) (λI' h=>⟨r.waits,rfl,by rw[M4];omega,CH.mono h⟩) (λk x I' h=>by
      obtain⟨o,h1,h2,h3⟩:=h;exact⟨o,h1,ai,h3⟩) (λk x I' sp part VC j N v8 fA Nj=>by
      obtain⟨o,rfl,h2,h3⟩:=N;refine aI.post (B9 (by dsimp only;rw[Z]at j;omega)) λv As h=>⟨_,I',Sub.refl _,⟨_,rfl,?_,h3.wait ⟨.nil ..,.nil ..,by exact n9 20⟩⟩,?_,h⟩
      .dsimp only;rw[iV,iR];omega
      .simp[vtS,jx,dw.abs])) ?_
     rintro v aT ⟨x',I2,Y,⟨S,rfl,na,sO⟩,ml,rfl⟩;refine cH ?_;refine j _ _ ?_;refine Ch.fin ?_;refine pP ?_;refine C.fZ (jF (s:={r with waits:=S}) (m:=⟨{bA with kind:=7,to:= -1,tx:=m.tx,yes:=m.yes,reads:=rd},aV,A⟩) (by dsimp only;rw[Z]at na;omega)) ?_;rintro v aT rfl;refine uz ?_;refine C.eY aW ak ⟨I2,{r with waits:=S++[⟨{bA with kind:=7,aX:=r.me,to:= -1,tx:=m.tx,yes:=m.yes,reads:=rd},aV,A⟩]},y.trans Y,sO.wait (m:=⟨{bA with kind:=7,aX:=r.me,to:= -1,tx:=m.tx,yes:=m.yes,reads:=rd},aV,A⟩) ⟨.nil ..,L.mono Y,hz⟩,?_,⟨by have:=D.z;omega,by have:=D.o;rw[B];show 0<=s.order/\s.order<=o+1;omega,λu hu p hp=>?_⟩,rfl⟩
     .rw[show rJ s.abs m.toMsgR=_ from(rl<|kV H).trans<|(ax (by show¬ i.dec=true;rw[hd];decide)).trans<|ax (by show¬ mo i.abs s.n m.toMsgR=true;rw[pA];decide)];have e2:r.abs={s.abs with cr:=bC s.abs.cr m.tx {GD i.abs m.toMsgR with dec:=true,yes:=m.yes},log:=s.abs.log++[.dec m.tx m.yes rd],bF:=bC s.abs.bF m.tx ⟨s.abs.log.length,m.yes⟩}:=by rw[B,<- xw,<- J];unfold dw.abs;simp only[eg.mk.injEq,Av,pU,eW,eM,jq,ny,iQ.abs];exact l4 fU.abs s.cr
      unfold T0;have e3:(if m.toMsgR.yes=true then(nF (GD i.abs m.toMsgR) s.abs.n).getD []else[])=rd:=jo.symm;rw[e3];have e4:({r with waits:=S++[⟨{bA with kind:=7,aX:=r.me,to:= -1,tx:=m.tx,yes:=m.yes,reads:=rd},aV,A⟩]}:dw).abs=jx ({r with waits:=S}:dw).abs {bA with kind:=7,to:= -1,tx:=m.tx,yes:=m.yes,reads:=rd}:=by simp[jx,dw.abs]
      rw[e4,ml,e2];simp only[Nm];rfl
     .rw[B]at hu;rcases eO hu with rfl|hu
      .have:=D.a _ cW p hp;omega
      .have:=D.a u hu p hp;omega
abbrev tkA(b:Nat):Array Value:=#[.nilFunc,.func (.func 170) #[az b] #[],.func (.func 171) #[az b] #[],.func (.func 172) #[az b] #[],.func (.func 173) #[az b] #[],.func (.func 174) #[az b] #[],.func (.func 175) #[az b] #[]]
def tkF(k:Int):bN:=if k=1 then 170 else if k=2 then 171 else if k=3 then 172 else if k=4 then 173 else if k=5 then 174 else 175
variable{A:List HP}
theorem ab.tkc(C:ab prog ao cX R){fo:dp}{args:Array dp}{gY:Array aP}{kk:Int}{a1:Array Value}{vl:List Value}{Q:Value->List HP->Prop}(g:1<=kk/\kk<=6)(hs:aI prog ao cX (tkF kk) (a1++vl.toArray++#[]) A Q)
  (h:∀ v aT,Q v aT->At R d (aT++F) (gr fn kd n (dD e dst v) ds (.inRegion O aa::k) cs)) (a:bk O i=some ⟨dst,.call ⟨.value fo,args,gY⟩,ty,pos,af,gd⟩:=by rfl) (hv:args.toList.map (ev n e)=vl:=by rfl) (hf:ev n e fo=.func (.func<|tkF kk) a1 #[]:=by rfl)
  (b:fK A As F:=by exact fK.au) (c:aN O n e gd=true:=by rfl):At R d As (gr fn kd n e ds (.inRegion O (i::aa)::k) cs):=by
 rcases(show kk=1\/kk=2\/kk=3\/kk=4\/kk=5\/kk=6 by omega)with rfl|rfl|rfl|rfl|rfl|rfl
 .exact C.YQ (f:=170) hs h a hv hf b c
 .exact C.YQ (f:=171) hs h a hv hf b c
 .exact C.YQ (f:=172) hs h a hv hf b c
 .exact C.YQ (f:=173) hs h a hv hf b c
 .exact C.YQ (f:=174) hs h a hv hf b c
 .exact C.YQ (f:=175) hs h a hv hf b c
theorem K2{m:dV}(l:1<=m.kind/\m.kind<=6)(f:ShJ I s)(g:sb s)(i:y7 o a s)(j:lJ I m)(k:m.kind=1\/m.kind=2->np m.ops)(n:m.kind=3->B8 s.abs m.toMsgR):
  aI prog ao cX 137 #[az b,tM m] [dB b s,bI I] (ij b I (o+1) (a+1)<|s6 s.abs m.toMsgR):=by
 have hs:aI prog ao cX (tkF m.kind) (#[az b]++[tM m].toArray++#[]) [dB b s,bI I] (ij b I (o+1) (a+1)<|s6 s.abs m.toMsgR):=by
  unfold s6;have e1:m.toMsgR.kind=m.kind:=rfl;rcases(show m.kind=1\/m.kind=2\/m.kind=3\/m.kind=4\/m.kind=5\/m.kind=6 by omega)with h|h|h|h|h|h<;>rw[e1]
  .have e2:=k<|.inl h;rw[aJ h,h];exact Iu f g i j e2
  .have e2:=k<|.inr h;rw[ax ai,aJ h,h];exact Df f g i j e2
  .rw[ax ai,ax ai,aJ h,h];exact K1 f g i j<|n h
  .rw[ax ai,ax ai,ax ai,aJ h,h];exact FX f g i
  .rw[ax ai,ax ai,ax ai,ax ai,aJ h,h];exact Pf f g i
  .rw[ax ai,ax ai,ax ai,ax ai,ax ai,aJ h,h];exact Pa f g i
 have p:∀ x:Array Value,x=tkA b->x[0+m.kind.toNat*1]? =some (.func (.func<|tkF m.kind) #[az b] #[]):=by rintro x rfl;rcases(show m.kind=1\/m.kind=2\/m.kind=3\/m.kind=4\/m.kind=5\/m.kind=6 by omega)with h|h|h|h|h|h<;>rw[h]<;>rfl
 refine aI.of λR C kd d F c cs q r=>?_;refine pQ ?_;refine C.bx rfl λb3=>?_;refine dT ?_;refine C.mf (v1:=[az b]) (v2:=[]) rfl ?_;refine ga ?_;refine C.mf (v1:=[az b]) (v2:=[]) rfl ?_;refine ga ?_;refine C.mf (v1:=[az b]) (v2:=[]) rfl ?_;refine ga ?_;refine C.mf (v1:=[az b]) (v2:=[]) rfl ?_;refine ga ?_;refine C.mf (v1:=[az b]) (v2:=[]) rfl ?_;refine ga ?_;refine C.mf (v1:=[az b]) (v2:=[]) rfl ?_;refine C.bda (xs:=tkA b) underlying261 rfl ?_;refine C.al rfl λb4=>?_;refine bL ?_;refine C.dx (di 18 0 6) 6 [5] 0 ?_;refine lH ?_;refine Dr.l (λt h=>C.iaA underlying261 rfl h) ?_;refine Dr.l (λt h=>C.ld rfl h (hc:=p _ rfl)) ?_;refine zy ?_;refine Ch.m 5 (bj λe aa u=>?_);refine C.tkc l hs ?_;rintro v aT ⟨w,s',y,z,A,B,rfl⟩;refine cH ?_;refine u _ _ ?_;refine gy ?_;exact C.eY q r ⟨w,s',y,z,A,B,rfl⟩
def T3(s:eg)(u:m9)(tx:Int)(z:eg)(k:Int)(p:List bO):eg:=
 if !u.dec&& !(aB u.bq k).isSome then fI z {bA with kind:=2,to:=k,tx:=tx,ops:=p}
 else if u.dec&&decide (((aB s.bF tx).map (·.pl)).getD 0<s.aE)&&decide ((aB u.cf k).getD 0=0)then fI z {bA with kind:=4,to:=k,tx:=tx,yes:=u.yes}
 else z
theorem Iw{s:eg}{tx:Int}(h:aB s.cr tx=none):tc s tx=s:=by unfold tc;rw[h]
theorem Iy{s:eg}{tx:Int}{u:m9}(h:aB s.cr tx=some u):tc s tx=kj (sZ s u.ops<|T3 s u tx) tx 4 true:=by unfold tc;rw[h];rfl
def Pn(s:dw)(tx:Int):iK:=(aB s.bF tx).getD ⟨0,false⟩
theorem abu(s:dw)(tx:Int):((aB s.bF tx).map qB).getD (.agg #[aF 0,.bool false])=qB (Pn s tx):=by unfold Pn;cases aB s.bF tx<;>rfl
theorem Ac(s:dw)(tx:Int):((aB s.bF tx).map (·.pl)).getD 0=(Pn s tx).pl:=by unfold Pn;cases aB s.bF tx<;>rfl
theorem xy(u:fU)(k:Int):(aB u.abs.bq k).isSome=(aB u.bq k).isSome:=by show(aB (u.bq.map λp=>(p.1,p.2.1)) k).isSome=_;rw[jS (λv:List Int×ay=>v.1)];cases aB u.bq k<;>rfl
theorem IA{b4:Nat}{o:List dV}{u:fU}{tx k:Int}{part:List bO}(hu:aB s.cr tx=some u)(hl:o.length<2^31)(j:ShJ I {s with out:=o})(x:gg I db 67 sp part):
  aI prog ao cX 206 #[aF k,sp.v,az b4,az b2,az b3] [dB b {s with out:=o},bI I,dq b4<|.cells #[az u.b] 295 (0,0),Ni b2 b,dq b3<|.cells #[aF tx] 3 (0,0)]
   (λv As=>∃ o',o'.length<=o.length+1/\ShJ I {s with out:=o'}/\({s with out:=o'}:dw).abs=T3 s.abs u.abs tx ({s with out:=o}:dw).abs k part/\As=[dB b {s with out:=o'},bI I,dq b4<|.cells #[az u.b] 295 (0,0),Ni b2 b,dq b3<|.cells #[aF tx] 3 (0,0)]):=by
 refine aI.of λR C kd d F c cs n p=>?_;refine cH ?_;refine dB.opn (h:=λlg wt y tm z A B D E H J K=>?_);refine xq (l:=s.cr) hu Fo.au ?_;have q:=abu s tx;have r:=vW u.cf k;refine iE ?_;refine C.lkC rfl (λL t=>?_) λt=>?_
 .refine vH ?_;refine C.YZ rfl (λa=>?_) λa=>?_
  .refine oN ?_;by_cases g:(Pn s tx).pl<s.aE
   .by_cases i:(aB u.cf k).getD 0=0
    .refine C.dx (di 35 0 28++[(34,28)]) 29 [] 0 ?_;refine uQ ?_;refine Dr.l (λf h=>C.ld rfl h (v:=.bool true) (pO:=congrArg Value.bool a)) ?_;refine oB ?_;refine Dr.l (λf h=>C.Hu q rfl h) ?_;refine Dr.p (λh=>C.fd (ft:=3) ⟨_,_,underlying279,rfl,rfl,rfl⟩ rfl h) ?_;refine Kv ?_;refine Dr.p (λh=>C.fQ rfl h (hf:=g)) ?_;refine oB ?_;refine Dr.l (λf h=>C.Hu r rfl h) ?_;refine Dr.p (λh=>C.fQ rfl h (hf:=i)) ?_;refine Da ?_;refine pR ?_;refine C.dx (di 63 0 9) 9 [8] 0 ?_;refine zw8 ?_;refine Ch.m 8 (bj λe aa w=>?_);refine jb u fK.au ?_;rw[iy hu];refine dB.cls {s with out:=o} ?_;refine C.fZ (ig (s:={s with out:=o}) (m:=⟨{bA with kind:=4,to:=k,tx:=tx,yes:=u.yes},aV,aV⟩)<|dE) ?_;rintro v aT rfl;refine cH ?_;refine w _ _ ?_;refine gy ?_;refine C.eY n p ⟨o++[⟨{bA with kind:=4,aX:=s.me,to:=k,tx:=tx,yes:=u.yes},aV,aV⟩],by simp,j.outs<|lJ.nil I _ rfl rfl,?_,rfl⟩;unfold T3;rw[ax (by show¬ (!u.dec&&_)=true;rw[a];simp),aJ (by show(u.dec&&decide (((aB s.bF tx).map (·.pl)).getD 0<s.aE)&&decide ((aB u.cf k).getD 0=0))=true;rw[a,Ac,wm g,wm i];rfl)];simp[fI,dw.abs,fU.abs]
    .refine C.dx (di 35 0 28++[(34,28)]) 29 [] 0 ?_;refine uQ ?_;refine Dr.l (λf h=>C.ld rfl h (v:=.bool true) (pO:=congrArg Value.bool a)) ?_;refine oB ?_;refine Dr.l (λf h=>C.Hu q rfl h) ?_;refine Dr.p (λh=>C.fd (ft:=3) ⟨_,_,underlying279,rfl,rfl,rfl⟩ rfl h) ?_;refine Kv ?_;refine Dr.p (λh=>C.fQ rfl h (hf:=g)) ?_;refine oB ?_;refine Dr.l (λf h=>C.Hu r rfl h) ?_;refine Dr.p (λh=>C.ed rfl h (hf:=i)) ?_;refine Da ?_;refine pR ?_;refine jb u fK.au ?_;rw[iy hu];refine dB.cls {s with out:=o} ?_;refine C.eY n p ⟨o,ai,j,?_,rfl⟩;unfold T3;rw[ax (by show¬ (!u.dec&&_)=true;rw[a];simp),ax (by show¬ (u.dec&&decide (((aB s.bF tx).map (·.pl)).getD 0<s.aE)&&decide ((aB u.cf k).getD 0=0))=true;rw[rD i];simp)]
   .refine C.dx (di 35 0 28++[(34,28)]) 29 [] 0 ?_;refine uQ ?_;refine Dr.l (λf h=>C.ld rfl h (v:=.bool true) (pO:=congrArg Value.bool a)) ?_;refine oB ?_;refine Dr.l (λf h=>C.Hu q rfl h) ?_;refine Dr.p (λh=>C.fd (ft:=3) ⟨_,_,underlying279,rfl,rfl,rfl⟩ rfl h) ?_;refine Kv ?_;refine Dr.p (λh=>C.ed rfl h (hf:=g)) ?_;refine S6 ?_;refine pR ?_;refine jb u fK.au ?_;rw[iy hu];refine dB.cls {s with out:=o} ?_;refine C.eY n p ⟨o,ai,j,?_,rfl⟩;unfold T3;rw[ax (by show¬ (!u.dec&&_)=true;rw[a];simp),ax (by show¬ (u.dec&&decide (((aB s.bF tx).map (·.pl)).getD 0<s.aE)&&decide ((aB u.cf k).getD 0=0))=true;rw[Ac,rD g];simp)]
  .refine oN ?_;refine C.dx (di 35 0 28++[(34,28)]) 29 [] 0 ?_;refine uQ ?_;refine Dr.l (λf h=>C.ld rfl h (v:=.bool false) (pO:=congrArg Value.bool a)) ?_;refine nT ?_;refine nT ?_;refine QE ?_;refine Dr.chain rfl ?_;refine pR ?_;refine jb u fK.au ?_;rw[iy hu];refine dB.cls {s with out:=o} ?_;refine C.eY n p ⟨o,ai,j,?_,rfl⟩;unfold T3;rw[ax (by rw[xy,t];simp),ax (by show¬ (u.dec&&decide (((aB s.bF tx).map (·.pl)).getD 0<s.aE)&&decide ((aB u.cf k).getD 0=0))=true;rw[a];simp)]
 .refine vH ?_;refine C.YZ rfl (λa=>?_) λa=>?_
  .refine oN ?_;by_cases g:(Pn s tx).pl<s.aE
   .by_cases i:(aB u.cf k).getD 0=0
    .refine C.dx (di 35 0 28++[(34,28)]) 29 [] 0 ?_;refine uQ ?_;refine Dr.l (λf h=>C.ld rfl h (v:=.bool true) (pO:=congrArg Value.bool a)) ?_;refine oB ?_;refine Dr.l (λf h=>C.Hu q rfl h) ?_;refine Dr.p (λh=>C.fd (ft:=3) ⟨_,_,underlying279,rfl,rfl,rfl⟩ rfl h) ?_;refine Kv ?_;refine Dr.p (λh=>C.fQ rfl h (hf:=g)) ?_;refine oB ?_;refine Dr.l (λf h=>C.Hu r rfl h) ?_;refine Dr.p (λh=>C.fQ rfl h (hf:=i)) ?_;refine Da ?_;refine pR ?_;refine C.dx (di 63 0 9) 9 [8] 0 ?_;refine zw8 ?_;refine Ch.m 8 (bj λe aa w=>?_);refine jb u fK.au ?_;rw[iy hu];refine dB.cls {s with out:=o} ?_;refine C.fZ (ig (s:={s with out:=o}) (m:=⟨{bA with kind:=4,to:=k,tx:=tx,yes:=u.yes},aV,aV⟩)<|dE) ?_;rintro v aT rfl;refine cH ?_;refine w _ _ ?_;refine gy ?_;refine C.eY n p ⟨o++[⟨{bA with kind:=4,aX:=s.me,to:=k,tx:=tx,yes:=u.yes},aV,aV⟩],by simp,j.outs<|lJ.nil I _ rfl rfl,?_,rfl⟩;unfold T3;rw[ax (by show¬ (!u.dec&&_)=true;rw[a];simp),aJ (by show(u.dec&&decide (((aB s.bF tx).map (·.pl)).getD 0<s.aE)&&decide ((aB u.cf k).getD 0=0))=true;rw[a,Ac,wm g,wm i];rfl)];simp[fI,dw.abs,fU.abs]
    .refine C.dx (di 35 0 28++[(34,28)]) 29 [] 0 ?_;refine uQ ?_;refine Dr.l (λf h=>C.ld rfl h (v:=.bool true) (pO:=congrArg Value.bool a)) ?_;refine oB ?_;refine Dr.l (λf h=>C.Hu q rfl h) ?_;refine Dr.p (λh=>C.fd (ft:=3) ⟨_,_,underlying279,rfl,rfl,rfl⟩ rfl h) ?_;refine Kv ?_;refine Dr.p (λh=>C.fQ rfl h (hf:=g)) ?_;refine oB ?_;refine Dr.l (λf h=>C.Hu r rfl h) ?_;refine Dr.p (λh=>C.ed rfl h (hf:=i)) ?_;refine Da ?_;refine pR ?_;refine jb u fK.au ?_;rw[iy hu];refine dB.cls {s with out:=o} ?_;refine C.eY n p ⟨o,ai,j,?_,rfl⟩;unfold T3;rw[ax (by show¬ (!u.dec&&_)=true;rw[a];simp),ax (by show¬ (u.dec&&decide (((aB s.bF tx).map (·.pl)).getD 0<s.aE)&&decide ((aB u.cf k).getD 0=0))=true;rw[rD i];simp)]
   .refine C.dx (di 35 0 28++[(34,28)]) 29 [] 0 ?_;refine uQ ?_;refine Dr.l (λf h=>C.ld rfl h (v:=.bool true) (pO:=congrArg Value.bool a)) ?_;refine oB ?_;refine Dr.l (λf h=>C.Hu q rfl h) ?_;refine Dr.p (λh=>C.fd (ft:=3) ⟨_,_,underlying279,rfl,rfl,rfl⟩ rfl h) ?_;refine Kv ?_;refine Dr.p (λh=>C.ed rfl h (hf:=g)) ?_;refine S6 ?_;refine pR ?_;refine jb u fK.au ?_;rw[iy hu];refine dB.cls {s with out:=o} ?_;refine C.eY n p ⟨o,ai,j,?_,rfl⟩;unfold T3;rw[ax (by show¬ (!u.dec&&_)=true;rw[a];simp),ax (by show¬ (u.dec&&decide (((aB s.bF tx).map (·.pl)).getD 0<s.aE)&&decide ((aB u.cf k).getD 0=0))=true;rw[Ac,rD g];simp)]
  .refine oN ?_;refine jb u fK.au ?_;rw[iy hu];refine dB.cls {s with out:=o} ?_;refine gV ?_;refine C.fZ (ig (s:={s with out:=o}) (m:=⟨{bA with kind:=2,to:=k,tx:=tx,ops:=part},sp,aV⟩)<|dE) ?_;rintro v aT rfl;refine uz ?_;refine C.eY n p ⟨o++[⟨{bA with kind:=2,aX:=s.me,to:=k,tx:=tx,ops:=part},sp,aV⟩],by simp,j.outs ⟨x,.nil ..,by exact n9 20⟩,?_,rfl⟩;unfold T3;rw[aJ (by rw[xy,t];show(!u.dec&&_)=true;rw[a];rfl)];simp[fI,dw.abs]
theorem IB{s:dw}{tx:Int}(l:ShJ I s)(w:1<=s.n/\s.n<=4)(y:∀ u∈s.cr,np u.2.ops)(S:s.out.length<2^30+2^20)(z:s.timers.length<2^16)(T:0<=s.order/\s.order<2^61+2^20)(A:0<=s.clock/\s.clock<2^61):
  aI prog ao cX 178 #[az b,aF tx] [dB b s,bI I] (λv As=>∃ (I':HL) (o':List dV) (q:Bool),Sub I I'/\o'.length<=s.out.length+4/\ShJ I' {s with out:=o'}/\(if q then kK {s with out:=o'} tx 4 true else s).abs=tc s.abs tx/\As=[dB b (if q then kK {s with out:=o'} tx 4 true else s),bI I']):=by
 refine aI.of λR C kd d F c cs n p=>?_;refine cH ?_;refine dB.opn (h:=λlg wt U tm W X Y Z be bu tl ht=>?_);refine bL ?_;refine C.bx rfl λb2=>?_;refine C.bx rfl λb3=>?_;refine C.go ?_;cases g:(aB s.cr tx)
 .refine C.dx (di 5 0 7++[(4,7)]) 9 [7,8] 1 ?_;refine qv ?_;refine Dr.l (λB h=>C.J9 g rfl h) ?_;refine Dr.chain rfl ?_;refine Ch.m 7 (bj λe aa a=>?_);refine C.al rfl λb4=>a _ _ .cons ?_;refine Ch.m 8 (bj λe aa a=>?_);refine C.st rfl<|a _ undef ?_;refine S4 ?_;refine dB.cls s ?_;exact C.cG (aT:=[dB b s,bI I]) n p ⟨I,s.out,false,Sub.refl _,ai,l,(Iw<|tP g).symm,rfl⟩
 .rename_i i;refine C.dx (di 5 0 7++[(4,7)]) 9 [7,8] 1 ?_;refine qv ?_;refine Dr.l (λB h=>C.J8 g rfl h) ?_;refine Dr.chain rfl ?_;refine Ch.m 7 (bj λe aa a=>?_);refine C.al rfl λb4=>a _ _ .cons ?_;refine Ch.m 8 (bj λe aa a=>?_);refine C.st rfl<|a _ undef ?_;refine S4 ?_;have r:=cg g;have D:=y _ r;have H:=(l.cr _ r).o;refine xq g Fo.au ?_;refine C.dx (di 14 0 7) 7 [6] 0 ?_;refine QE ?_;refine Dr.p (λh=>C.mf (v1:=[]) (v2:=[az b4,az b2,az b3]) rfl h) ?_;refine Dr.chain rfl ?_;refine Ch.m 6 (bj λe aa a=>?_);refine jb i fK.au ?_;rw[iy g];refine dB.cls s ?_;refine C.fZ (qC (f:=206) (a1:=#[]) (a2:=#[az b4,az b2,az b3]) (s:=s) (I:=I) (E:=[dq b4 (.cells #[az i.b] 295 (0,0)),Ni b2 b,dq b3<|.cells #[aF tx] 3 (0,0)]) (inv:=λk x I'=>∃ o,x={s with out:=o}/\o.length<=s.out.length+k/\ShJ I' x) (Zh:=T3 s.abs i.abs tx) H D w (λI' h=>⟨s.out,rfl,fC _,l.mono h⟩) (λk x I' h=>by
   obtain⟨o,h1,J,m⟩:=h;exact⟨o,h1,ai,m⟩) (λk x I' sp part VC a j K fA Nj=>by
   obtain⟨o,rfl,J,m⟩:=j;refine aI.post (IA g ai m K) λv As h=>?_;obtain⟨o',h4,L,M,N⟩:=h;exact⟨_,I',Sub.refl _,⟨o',rfl,ai,L⟩,M,N⟩)) ?_
  rintro v aT ⟨x',t,O,⟨o',rfl,na,P⟩,Q,rfl⟩;refine cH ?_;refine a _ _ ?_;refine Ch.fin ?_;refine dY ?_;refine C.fZ (lE (ticks:=4) (s:={s with out:=o'}) (by show s.timers.length<_;omega) (by show 0<=s.order/\s.order<_;omega) (by show 0<=s.clock/\s.clock<_;omega)<|by decide) ?_;rintro v aT rfl;refine uz ?_;refine C.eY (aT:=[dB b (kK {s with out:=o'} tx 4 true),bI t]) n p ⟨t,o',true,O,ai,P,?_,rfl⟩;rw[aJ rfl,oG,Q,Iy<|kV g];rfl
def se(c:Int)(L:List dU):Nat:=(L.filter λt=>t.tm<=c).length
theorem K4{c:Int}{L:List dU}{k:Nat}(a:L[k]? =some t)(ht:t.tm<=c):se c (L.eraseIdx k)+1=se c L:=by obtain⟨b,rfl⟩:=dd.1 a;have hp:=(wS b).filter λt=>decide (t.tm<=c);unfold se;rw[hp.length_eq,sC,aJ<|by simpa using ht];rfl
theorem IC{c:Int}{L:List dU}(ht:c<t.tm):se c (L++[t])=se c L:=by unfold se;rw[rA,sC,ax (by simp;omega),GW,lS]
theorem Nn(c:Int)(L:List dU):se c L<=L.length:=Dx _ _
theorem ID{f:Nat}{s:eg}{k:Nat}(h:mD s.clock s.timers 0 none=some (k,t)):lY (f+1) s=lY f (AV {s with timers:=s.timers.eraseIdx k} t):=by conv=>lhs;unfold lY;rw[h]
theorem Cb{f:Nat}{s:eg}(h:mD s.clock s.timers 0 none=none):lY (f+1) s=s:=by conv=>lhs;unfold lY;rw[h]
theorem map_eraseIdx{X Y:Type}(f:X->Y):∀ (l:List X) (n:Nat),(l.eraseIdx n).map f=(l.map f).eraseIdx n
 |[],n=>by simp
 |a::l,0=>rfl
 |a::l,n+1=>by simp[map_eraseIdx f l n]
theorem Cc{s:eg}(h:t.again=true):AV s t=tc s t.tx:=by unfold AV;rw[aJ h]
theorem Po{s:eg}(h:t.again=false)(hp:aB s.pend t.tx=some p):AV s t=kj (fI s {bA with kind:=6,to:=p.home,tx:=t.tx}) t.tx 3 false:=by unfold AV;rw[ax (by rw[h];decide),hp]
theorem Pp{s:eg}(h:t.again=false)(hp:aB s.pend t.tx=none):AV s t=s:=by unfold AV;rw[ax (by rw[h];decide),hp]
abbrev zC(s:dw)(o:List dV)(T:List lB)(q:Int):dw:={s with clock:=s.clock+1,out:=o,timers:=T,order:=q}
structure ajd(I:HL)(s:dw)(x:dw)(J:HL):Prop where
 sub:Sub I J
 j:ShJ J x
 sh:∃ o T q,x=zC s o T q/\T.length<=s.timers.length/\s.order<=q/\q+se (s.clock+1) (T.map (·.sj))<=s.order+se (s.clock+1) (s.timers.map (·.sj))/\o.length+5*se (s.clock+1) (T.map (·.sj))<=s.out.length+5*se (s.clock+1) (s.timers.map (·.sj))
 go:lY (se (s.clock+1) (x.timers.map (·.sj))+1) x.abs=qk s.abs
theorem K5(O:ShJ I s)(M:sb s)(N:y7 o a s):
  aI prog ao cX 142 #[az b] [dB b s,bI I] (ij b I (o+2^15) (a+1)<|qk s.abs):=by
 have mG:=M.out;have abk:=M.clock;have TW:=M.order;have htm:=M.timers;have hD:=Nn (s.clock+1) (s.timers.map (·.sj));rw[eM]at hD;refine aI.of λR C kd d F c cs aW ak=>?_;refine cH ?_;refine dB.opn (h:=λlg wt ot tm bv bl bp bd be bu i B=>?_);refine lu ?_;refine dB.cls (zC s s.out s.timers s.order) ?_;refine C.cN (X:=dw×HL) (λx=>[(0,az b)]) (λx=>dB b x.1::bI x.2::F) (λx=>ajd I s x.1 x.2) (λx=>se (s.clock+1) (x.1.timers.map (·.sj))) (zC s s.out s.timers s.order,I) ⟨rfl,trivial⟩ ⟨Sub.refl _,⟨O.log,O.pend,O.cr,O.waits,O.out⟩,⟨_,_,_,rfl,fC _,mI _,mI _,fC _⟩,rfl⟩ ?_;rintro⟨x,y⟩ e ⟨D,A,⟨o1,T,q,rfl,hT,P,DN,M4⟩,n⟩ W;dsimp only at D A n⊢;have hdT:=Nn (s.clock+1) (T.map (·.sj));rw[eM]at hdT;refine dB.opn (h:=λlg wt ot tm bv bl bp bd be bu i B=>?_);have VD:i.length=T.length:=B.perm.length_eq;refine C.go ?_;by_cases ED:(i.length:Int)>0
 .by_cases E:(i[0]'(by omega)).tm<=s.clock+1
  .refine C.dx (di 14 0 23) 23 [] 0 ?_;refine qv ?_;refine Dr.p (λh=>C.fQ rfl h (hf:=ED)) ?_;refine qv ?_;refine Dr.l (λhE h=>C.dZ rfl h (j:=0)) ?_;refine oB ?_;refine Dr.p (λh=>C.fQ rfl h (hf:=E)) ?_;refine zy ?_;refine S5 ?_;refine C.fZ (O6 (tm:=tm) (l:=i) rfl ai ai B.heap) ?_;rintro v aT ⟨CC,l',rfl,hp,hh,rfl⟩;refine cH ?_;have h0:i[0]? =some (gA i 0):=by rw[mQ ai];exact cQ ai
   have Xn:(gA i 0).tm<=s.clock+1:=by rw[mQ ai];exact E
   obtain⟨kq,H,H8,htj⟩:=B.pop h0 Xn hp hh;generalize gA i 0=t0 at H H8 Xn hp;have Vy:kq<T.length:=(dd.1 H).1;have Q:=K4 (c:=s.clock+1) (L:=T.map (·.sj)) (k:=kq) (t:=t0.sj) (by rw[jJ,H];rfl) Xn;rw[<- map_eraseIdx]at Q;have hel:(T.eraseIdx kq).length+1=T.length:=by rw[Rh,aJ Vy];omega
   refine dB.cls (zC s o1 (T.eraseIdx kq) q) ?_ (ht:=htj);have Y:ShJ y (zC s o1 (T.eraseIdx kq) q):=⟨A.log,A.pend,A.cr,A.waits,A.out⟩;have Z:lY (se (s.clock+1) ((T.eraseIdx kq).map (·.sj))+1) (AV (zC s o1 (T.eraseIdx kq) q).abs t0.sj)=qk s.abs:=by
    rw[<- n,<- Q,ID (s:=(zC s o1 T q).abs) (k:=kq) (t:=t0.sj) H8]
    congr 2
    simp only[dw.abs,map_eraseIdx]
   refine C.ta (ok:=false) underlying263 rfl rfl ?_;refine C.al rfl λb2=>?_;refine C.vz rfl ?_ (hv:=λv h=>jf.one (f:=uG) t0 v<|by simpa using h);refine dT ?_;refine C.YZ rfl (λS=>?_) λS=>?_
   .refine gV ?_;refine C.fZ (IB (tx:=t0.tx) Y M.n M.abh (dE) (dE) (dE)<|dE) ?_;rintro v aT ⟨I2,o2,z,xl,YO,U,ml,rfl⟩;refine uz ?_;cases z with
    |false=>
     rw[ax (by decide)]at ml⊢;refine again W (zC s o1 (T.eraseIdx kq) q,I2) ⟨D.trans xl,Y.mono xl,⟨o1,T.eraseIdx kq,q,rfl,ai,P,ai,ai⟩,?_⟩<|dE;rw[<- Z,Cc (t:=t0.sj) S];exact congrArg _ ml
    |true=>
     rw[aJ rfl]at ml⊢;have r:se (s.clock+1) ((T.eraseIdx kq++[(⟨s.clock+1+4,q+1,t0.tx,true⟩:lB)]).map (·.sj))=se (s.clock+1) ((T.eraseIdx kq).map (·.sj)):=by rw[eW];exact IC (by show s.clock+1<s.clock+1+4;omega)
     refine again W (zC s o2 (T.eraseIdx kq++[⟨s.clock+1+4,q+1,t0.tx,true⟩])<|q+1,I2) ⟨D.trans xl,⟨U.log,U.pend,U.cr,U.waits,U.out⟩,⟨o2,_,_,rfl,by simp;omega,ai,by rw[r];omega,by rw[r];dsimp only at YO;omega⟩,?_⟩ (by dsimp only;rw[r];omega);dsimp only;rw[r,<- Z,Cc (t:=t0.sj) S];exact congrArg _ ml
   .refine bL ?_;refine dB.opn (h:=λlg wt ot tm bv bl bp bd be bu i B=>?_);cases Zm:(aB s.pend t0.tx)
    .refine C.dx (di 51 0 8++[(50,8)]++[(59,9),(60,10)]++[(3,11)]++[(4,13)]) 14 [11,12] 1 ?_;refine oB ?_;refine Dr.l (λhE h=>C.J9 Zm rfl h) ?_;refine JH ?_;refine Ch.m 11 (bj λe aa J=>?_);refine C.al rfl λb3=>J _ _ .cons ?_;refine Ch.m 12 (bj λe aa J=>?_);refine C.vz rfl<|J _ undef ?_;refine Bw ?_;refine dB.cls (zC s o1 (T.eraseIdx kq) q) ?_;refine again W (zC s o1 (T.eraseIdx kq) q,y) ⟨D,Y,⟨o1,T.eraseIdx kq,q,rfl,ai,P,ai,ai⟩,?_⟩<|dE;rw[<- Z,Pp (t:=t0.sj) S<|kF (s:=zC s o1 (T.eraseIdx kq) q) Zm]
    .rename_i w;refine C.dx (di 51 0 8++[(50,8)]++[(59,9),(60,10)]++[(3,11)]++[(4,13)]) 14 [11,12] 1 ?_;refine oB ?_;refine Dr.l (λhE h=>C.J8 Zm rfl h) ?_;refine JH ?_;refine Ch.m 11 (bj λe aa J=>?_);refine C.al rfl λb3=>J _ _ .cons ?_;refine Ch.m 12 (bj λe aa J=>?_);refine C.vz rfl<|J _ undef ?_;refine Bw ?_;refine dB.cls (zC s o1 (T.eraseIdx kq) q) ?_;refine iE ?_;refine C.fZ (ig (s:=zC s o1 (T.eraseIdx kq) q) (m:=⟨{bA with kind:=6,to:=w.home,tx:=t0.tx},aV,aV⟩)<|dE) ?_;rintro v aT rfl;refine vI ?_;refine C.fZ (lE (ticks:=3) (s:=zC s (o1++[⟨{bA with kind:=6,aX:=s.me,to:=w.home,tx:=t0.tx},aV,aV⟩]) (T.eraseIdx kq) q) (dE) (dE) (dE)<|by decide) ?_;rintro v aT rfl;refine uz ?_;have r:se (s.clock+1) ((T.eraseIdx kq++[(⟨s.clock+1+3,q+1,t0.tx,false⟩:lB)]).map (·.sj))=se (s.clock+1) ((T.eraseIdx kq).map (·.sj)):=by rw[eW];exact IC (by show s.clock+1<s.clock+1+3;omega)
     have g:=Y.outs<|lJ.nil y {bA with kind:=6,aX:=s.me,to:=w.home,tx:=t0.tx} rfl rfl;refine again W (zC s (o1++[⟨{bA with kind:=6,aX:=s.me,to:=w.home,tx:=t0.tx},aV,aV⟩]) (T.eraseIdx kq++[⟨s.clock+1+3,q+1,t0.tx,false⟩])<|q+1,y) ⟨D,⟨g.log,g.pend,g.cr,g.waits,g.out⟩,⟨_,_,_,rfl,by simp;omega,ai,by rw[r];omega,by rw[r];simp;omega⟩,?_⟩ (by dsimp only;rw[r];omega);dsimp only;rw[r,<- Z,Po (t:=t0.sj) S<|qD (s:=zC s o1 (T.eraseIdx kq) q) Zm];simp[dw.abs,kj,fI,lB.sj,rY.abs]
  .refine C.dx (di 14 0 23) 23 [] 0 ?_;refine qv ?_;refine Dr.p (λh=>C.fQ rfl h (hf:=ED)) ?_;refine qv ?_;refine Dr.l (λhE h=>C.dZ rfl h (j:=0)) ?_;refine oB ?_;refine Dr.p (λh=>C.ed rfl h (hf:=E)) ?_;refine zy ?_;refine pR ?_;refine dB.cls (zC s o1 T q) ?_;have K:qk s.abs=(zC s o1 T q).abs:=by rw[<- n];exact Cb (s:=(zC s o1 T q).abs)<|B.aeI<|.inr (by rw[mQ ai];show s.clock+1<_;omega)
   exact C.eY (aT:=[dB b (zC s o1 T q),bI y]) aW ak ⟨y,_,D,A,K.symm,⟨by have:=N.z;omega,by have:=N.o;show 0<=q/\q<=_;omega,λu hu p hp=>by have:=N.a u hu p hp;omega⟩,rfl⟩
 .refine C.dx (di 14 0 23) 23 [] 0 ?_;refine qv ?_;refine Dr.p (λh=>C.ed rfl h (hf:=ED)) ?_;refine nT ?_;refine qv ?_;refine Dr.chain rfl ?_;refine pR ?_;refine dB.cls (zC s o1 T q) ?_;have K:qk s.abs=(zC s o1 T q).abs:=by rw[<- n];exact Cb (s:=(zC s o1 T q).abs)<|B.aeI<|.inl<|yD ai
  exact C.eY (aT:=[dB b (zC s o1 T q),bI y]) aW ak ⟨y,_,D,A,K.symm,⟨by have:=N.z;omega,by have:=N.o;show 0<=q/\q<=_;omega,λu hu p hp=>by have:=N.a u hu p hp;omega⟩,rfl⟩
theorem IE{l:List iQ}(hl:l.length<2^40):aI prog ao cX 181 #[lg.v] [bK pK 1 272 lg l] (λv As=>∃ s':ay,v=s'.v/\As=[bK pK 1 272 s' l]):=by
 refine aI.of λR C kd d F c cs b e=>?_;refine cH ?_;refine At.aeS (s:=lg) (l:=l) (f:=pK) Fo.au ?_ ?_
 .rintro rfl rfl;refine gV ?_;refine C.YY rfl ?_ (a:=none) (len:=0) (cap:=0);refine fB ?_;exact C.cG b e ⟨aV,rfl,rfl⟩
 .intro h1 h;have g:lg.v=.slice (some ⟨lg.b,0,none⟩) lg.len lg.cap:=by unfold ay.v;rw[h1]
  refine gV ?_;refine C.YY rfl ?_ (a:=some ⟨lg.b,0,none⟩) (len:=lg.len) (cap:=lg.cap) (hx:=g);refine dT ?_;refine C.bs0 pK rfl λb5=>?_;refine ga ?_;refine C.YR (l:=[]) l rfl (λs'=>?_) (hsrc:=λH st=>?_) (s:=⟨some ⟨b5,0,none⟩,0,0⟩)
  .refine bL ?_;exact C.cG b e ⟨s',rfl,rfl⟩
  .exact ez.src (ez.own (s:=lg) Fo.au) st λj=>rfl
theorem K6(g:ShJ I s)(k:sb s)(m:y7 o a s):
  aI prog ao cX 141 #[az b] [dB b s,bI I] (ij b I (o+1) (a+1)<|u9 s.abs):=by
 have r:=k.out;have t:=k.waits;refine aI.of λR C kd d F c cs n p=>?_;refine cH ?_;refine dB.opn (h:=λlg wt q tm u v w y z A B D=>?_);refine mE ?_;refine ga ?_;refine C.dx (di 10 0 13) 14 [10,13] 0 ?_;refine nT ?_;refine lH ?_;refine Dr.chain rfl ?_;refine Ch.m 10 (bj λe aa i=>?_);refine C.YR (s:=q) (l:=s.out) s.waits rfl (λs'=>?_) (hsrc:=λH st=>ez.src (ez.own (s:=wt) Fo.au) st λj=>rfl);refine i _ _ ?_;refine Ch.m 13 (bj λe aa i=>?_);refine C.st rfl<|i _ undef ?_;refine S5 ?_;refine At.aV dF 7 190 ?_;refine dB.cls {s with aE:=s.log.length,out:=s.out++s.waits,waits:=[]} ?_ (wt:=aV);refine C.eY n p ⟨I,{s with aE:=s.log.length,out:=s.out++s.waits,waits:=[]},Sub.refl _,⟨g.log,g.pend,g.cr,λx f=>(nomatch f),λx f=>?_⟩,?_,m.same rfl rfl,rfl⟩
 .rcases bS.1 f with f|f
  .exact g.out x f
  .exact g.waits x f
 .simp[dw.abs,u9]
theorem Xp{α:Type}{f:α->List Value}{z:Nat}{el:aP}{s:ay}{l:List α}(h:HL)(x:bK f z el s l h):s.len=l.length/\l.length<=s.cap:=by
 rcases x with⟨rfl,rfl⟩|⟨b,pad,e,h1,a,c⟩
 .exact⟨rfl,fC _⟩
 .exact⟨by rw[e],a⟩
def T4(s:dw)(keep:Int):Int:=s.aE+min (max keep 0) ((s.log.length:Int)-s.aE)
abbrev crX(s:dw)(keep:Int):dw:={s with up:=false,aE:=T4 s keep,log:=s.log.take (T4 s keep).toNat,values:=[],aQ:=[],pend:=[],done:=[],bF:=[],cr:=[],timers:=[],order:=0,clock:=0,waits:=[]}
theorem IF{f:Int}(i:ShJ I s)(j:sb s)(k:y7 o a s):
  aI prog ao cX 144 #[az b,aF f] [dB b s,bI I] (ij b I (o+1) (a+1)<|om s.abs f):=by
 have D:=j.log;have E:=j.aE;have H:0<=T4 s f/\T4 s f<=s.log.length:=by unfold T4;omega
 refine aI.of λR C kd d F c cs m p=>?_;refine cH ?_;refine dB.opn (h:=λlg wt J tm K L M N O P Q S=>?_);refine At.G9 (A:=bK pK 1 272 lg s.log) Fo.au Xp λg=>?_;refine iE ?_;refine C.dx (di 7 0 20) 21 [20] 0 ?_;refine QE ?_;refine Dr.p (λh=>C.mx rfl h) ?_;refine nT ?_;refine Dr.p (λh=>C.mn rfl h) ?_;refine Dr.p (λh=>C.ar rfl h (r:=T4 s f) (hr:=v9 ai ai)) ?_;refine Da ?_;refine Ch.m 20 (bj λe aa g=>?_);refine C.st rfl<|g _ undef ?_;refine gy ?_;refine C.dx (di 27 0 13) 14 [10,13] 0 ?_;refine GA ?_;refine lN ?_;refine Dr.p (λh=>C.shi rfl h (hi:=T4 s f) (hh:=by constructor<;>omega)) ?_;refine Da ?_;refine Ch.m 10 (bj λe aa g=>?_);refine At.turn (A:=bK pK 1 272 lg s.log) Fo.au (MI (n:=(T4 s f).toNat) ai) ?_;refine C.fZ (IE (lg:=⟨lg.a,(T4 s f).toNat,lg.cap⟩) (l:=s.log.take (T4 s f).toNat) (by rw[nO];omega)) ?_;rintro v aT ⟨s',rfl,rfl⟩;refine cH ?_;refine g _ _ ?_;refine Ch.m 13 (bj λe aa g=>?_);refine C.st rfl<|g _ undef ?_;refine QF ?_;refine C.fZ vT ?_;rintro v aT ⟨q,t,u,w,y,z,rfl,rfl⟩;refine Ei ?_;refine At.aV uG 4 263<|At.aV dF 7 190 ?_;refine At.He (show At R d (all (([]:List (Int×fU)).map rZ)::_) _ from ?_);refine dB.cls (crX s f) ?_ (tl:=[]) (lg:=s') (wt:=aV) (tm:=aV) (ht:=ql.zero 0);refine C.eY (aT:=[dB b (crX s f),bI I]) m p ⟨I,crX s f,Sub.refl _,⟨λx B=>i.log x<|LZ B,by simp,by simp,by simp,i.out⟩,?_,⟨by have:=k.z;omega,⟨mI 0,by have:=k.o;show 0<=o+1;omega⟩,by simp⟩,rfl⟩;simp[dw.abs,om,jD,T4,Q7]
theorem xz{V:Type}{kk:IntKind}{g:V->Value}{l:List (Int×V)}(h:HL)(x:dt kk g b l h):(l.map (·.1)).Nodup:=by obtain⟨es,clock,m,_⟩:=x;have:=m.nd;simpa[lX,Ao]using this
structure zD{V:Type}(l vl:List (Int×V)):Prop where
 nd:(vl.map (·.1)).Nodup
 sub:∀ p∈vl,p∈l
theorem zD.add{V:Type}{l vl:List (Int×V)}(h:zD l vl){k:Int}{v:V}(hm:(k,v)∈l)(a:k∉vl.map (·.1)):zD l ((k,v)::vl):=
 ⟨qP.2 ⟨a,h.nd⟩,λp hp=>by
  rcases gU.1 hp with rfl|hp
  .exact hm
  .exact h.sub p hp⟩
theorem zD.len{V:Type}:∀ {vl l:List (Int×V)},zD l vl->vl.length<=l.length
 |[],l,_=>fp _
 |p::vl,l,h=>by
  obtain⟨i,hi,e⟩:=nJ<|h.sub p<|fX ..;have nd:=qP.1 h.nd;have c:zD (l.eraseIdx i) vl:=⟨nd.2,λq b=>by
   have h1:=h.sub q<|fg _ b;have d:=(wS hi).mem_iff.1 h1;rcases gU.1 d with a|a
   .exact absurd (cq.2 ⟨q,b,by rw[a,e]⟩) nd.1
   .exact a⟩
  have:=c.len;rw[Rh,aJ hi]at this;simp only[nN];omega
theorem zD.all{V:Type}:∀ {vl l:List (Int×V)},zD l vl->(l.map (·.1)).Nodup->(∀ p∈l,p.1∈vl.map (·.1))->vl.Perm l
 |[],l,_,_,d=>by
  cases l with
  |nil=>exact .refl _
  |cons p l=>have:=d p<|fX ..;cases this
 |p::vl,l,h,hl,d=>by
  obtain⟨i,hi,e⟩:=nJ<|h.sub p<|fX ..;have nd:=qP.1 h.nd;have hp:=wS hi;rw[e]at hp;have g:((p::l.eraseIdx i).map (·.1)).Nodup:=(hp.map (·.1)).nodup_iff.1 hl;have a:=qP.1 g;have j:zD (l.eraseIdx i) vl:=⟨nd.2,λq b=>by
   have k:=hp.mem_iff.1<|h.sub q<|fg _ b;rcases gU.1 k with c|c
   .exact absurd (cq.2 ⟨q,b,by rw[c]⟩) nd.1
   .exact c⟩
  refine((j.all a.2 λq b=>?_).cons p).trans hp.symm;have c:=d q<|hp.mem_iff.2<|fg _ b;rcases gU.1 c with f|f
  .exact absurd (cq.2 ⟨q,b,f⟩) a.1
  .exact f
theorem IG{V:Type}{l:List (Int×V)}{k:Int}{v:V}(h:k∉l.map (·.1)):bC l k v=l++[(k,v)]:=by
 cases hi:rW k l 0 with
 |none=>exact(j8 hi).2.1 v
 |some a=>
  obtain⟨j,w⟩:=a;obtain⟨n, -,h1,b, -, -⟩:=j7 hi;exact absurd (cq.2 ⟨(k,w),bD h1,rfl⟩) h
theorem II:aI prog ao cX 168 #[az b] [dB b s] (λv As=>∃ b' o,v=.map (some b')/\o.Perm s.aQ/\As=[dt .u8 eh b' o,dB b s]):=by
 refine aI.of λR C kd d F c cs I J=>?_;refine cH ?_;refine dB.opn (h:=λlg wt r tm t j u x y z K O=>?_);refine At.G9 (A:=dt .u8 eh j s.aQ) Fo.au xz λB=>?_;refine fB ?_;refine C.mm .u8 eh rfl λk=>?_;refine oN ?_;refine C.rn (g:=eh) (l:=s.aQ) rfl λa=>?_;refine C.go ?_;refine C.cN (X:=List<|Int×Int) (λvl=>[(3,.map<|some k),(12,.pointer<|some ⟨a,0,none⟩)]) (λvl=>dt .u8 eh k vl.reverse::Kk .u8 eh j a s.aQ (vl.map (·.1))::sxC b s lg wt r tm t j u x y z::bK pK 1 272 lg s.log::dt .u8 fT t s.values::dt .i64 vS u s.pend::dt .i64 qB x s.done::dt .i64 qB y s.bF::dt .i64 yo z s.cr::all (s.cr.map rZ)::
 bK uG 4 263 tm K::bK dF 7 190 wt s.waits::bK dF 7 190 r s.out::F) (λvl=>zD s.aQ vl) (λvl=>s.aQ.length-vl.length) [] ⟨rfl,rfl,trivial⟩ ⟨.nil,λp hp=>(nomatch hp)⟩ ?_ (hI:=by rw[GQ,ny];exact dg.au)
 intro vl e D L;refine bL ?_;refine C.nx (g:=eh) (l:=s.aQ) rfl (λm E f i=>?_) λi=>?_
 .refine dT ?_;have n:=eR B f;have H:=D.add f i;have M:=H.len;have N:m∉vl.reverse.map (·.1):=by rw[List.map_reverse,List.mem_reverse];exact i
  refine ga ?_;refine C.ent n rfl ?_ Fo.au;refine pP ?_;refine C.mu (w:=E) (l:=vl.reverse) (q:=m) rfl ?_;refine C.go ?_;refine again L ((m,E)::vl) H (by simp only[nN]at M⊢;omega) (hr:=?_);rw[L8,<- IG N,jq];exact dg.au
 .refine iE ?_;refine At.FA (l:=s.aQ) (g:=eh) Fo.au ?_;refine dB.cls s ?_;exact C.cG I J ⟨k,vl.reverse,rfl,(Ri vl).trans<|D.all B i,rfl⟩
theorem FZ:aI prog ao cX 129 #[az b] [dB b s] (λv As=>∃ b' u,v=.map (some b')/\u.Perm (s.values.filter λp=>p.2 != 0)/\As=[dt .u8 fT b' u,dB b s]):=by
 refine aI.of λR C kd d F c cs L M=>?_;refine cH ?_;refine dB.opn (h:=λlg wt x tm n y z B D E N P=>?_);refine At.G9 (A:=dt .u8 fT n s.values) Fo.au xz λH=>?_;refine fB ?_;refine C.mm .u8 fT rfl λo=>?_;refine oN ?_;refine C.rn (g:=fT) (l:=s.values) rfl λj=>?_;refine C.go ?_;refine C.cN (X:=List<|Int×Int) (λvl=>[(3,.map<|some o),(12,.pointer<|some ⟨j,0,none⟩)]) (λvl=>dt .u8 fT o (vl.reverse.filter λp=>p.2 != 0)::Kk .u8 fT n j s.values (vl.map (·.1))::sxC b s lg wt x tm n y z B D E::bK pK 1 272 lg s.log::dt .u8 eh y s.aQ::dt .i64 vS z s.pend::dt .i64 qB B s.done::dt .i64 qB D s.bF::dt .i64 yo E s.cr::all (s.cr.map rZ)::
 bK uG 4 263 tm N::bK dF 7 190 wt s.waits::bK dF 7 190 x s.out::F) (λvl=>zD s.values vl) (λvl=>s.values.length-vl.length) [] ⟨rfl,rfl,trivial⟩ ⟨.nil,λp hp=>(nomatch hp)⟩ ?_ (hI:=by rw[GQ,GW,ny];exact dg.au)
 intro vl e I J;refine bL ?_;refine C.nx (g:=fT) (l:=s.values) rfl (λa i k m=>?_) λm=>?_
 .refine dT ?_;have r:=eR H k;have t:=I.add k m;have K:=t.len;have O:a∉(vl.reverse.filter λp=>p.2 != 0).map (·.1):=λh=>m (by obtain⟨p,hp,e⟩:=cq.1 h;exact cq.2 ⟨p,List.mem_reverse.1 (gW.1 hp).1,e⟩)
  refine ga ?_;refine C.ent r rfl ?_ Fo.au;refine iE ?_;refine C.cmp rfl (λf=>?_) λf=>?_
  .refine gV ?_;refine C.mu (w:=i) (l:=vl.reverse.filter λp=>p.2 != 0) (q:=a) rfl ?_;refine C.go ?_;refine again J ((a,i)::vl) t (by simp only[nN]at K⊢;omega) (hr:=?_);have e1:((a,i)::vl).reverse.filter (λp=>p.2 != 0)=bC (vl.reverse.filter λp=>p.2 != 0) a i:=by rw[IG O,L8,rA,sC,aJ (by simpa using f),GW]
   rw[e1,jq];exact dg.au
  .refine bL ?_;refine again J ((a,i)::vl) t (by simp only[nN]at K⊢;omega) (hr:=?_);have e1:((a,i)::vl).reverse.filter (λp=>p.2 != 0)=vl.reverse.filter λp=>p.2 != 0:=by rw[L8,rA,sC,ax (by simpa using f),GW,lS]
   rw[e1,jq];exact dg.au
 .refine iE ?_;refine At.FA (l:=s.values) (g:=fT) Fo.au ?_;refine dB.cls s ?_;exact C.cG L M ⟨o,vl.reverse.filter λp=>p.2 != 0,rfl,((Ri vl).trans<|I.all H m).filter _,rfl⟩
abbrev uT(r:vR):HP:=all [bK db 3 67 r.so r.ops,bK dk 1 21 r.sr r.reads]
variable{rs:List vR}
theorem Xr(r:vR)(hr:fK [bK db 3 67 r.so r.ops,bK dk 1 21 r.sr r.reads,all<|rs.map uT] As L)(h:At R d (all ((rs++[r]).map uT)::L) g):At R d As g:=
 At.perm hr.perm λH s=>(zU (f:=uT) r (.cons .head<|.cons .head .nil) h) H<|Sat.je (l:=[bK db 3 67 r.so r.ops,bK dk 1 21 r.sr r.reads]) s
theorem Dg(n:ShJ I s)(hl:s.log.length<2^30):aI prog ao cX 146 #[az b] [dB b s,bI I]
  (λv As=>∃ (sl:ay) (rs:List vR),v=.tuple #[sl.v,aF s.aE]/\rs.map (·.toRecR)=s.log.map (·.abs.aZ)/\As=[bK recC 6 167 sl rs,all<|rs.map uT,dB b s,bI I]):=by
 refine aI.of λR C kd d F c cs o p=>?_;refine cH ?_;refine dB.opn (h:=λlg wt q tm r t u w y z A J=>?_);refine lu ?_;refine dT ?_;refine At.aV recC 6 167 ?_;refine At.He (show At R d (all (([]:List vR).map uT)::_) _ from ?_);refine C.cN (X:=Nat×ay×List vR) (λx=>[(0,az b),(4,x.2.1.v),(10,lg.v),(11,aF s.log.length),(12,aF x.1)]) (λx=>bK recC 6 167 x.2.1 x.2.2::all (x.2.2.map uT)::O1 b s lg wt q tm r t u w y z A (bI I::F)) (λx=>x.1<=s.log.length/\x.2.2.map (·.toRecR)=(s.log.take x.1).map (·.abs.aZ)) (λx=>s.log.length-x.1) (0,aV,[]) ⟨rfl,rfl,rfl,rfl,rfl,trivial⟩ ⟨fp _,rfl⟩ ?_;rintro⟨i,m,rs⟩ e ⟨hi,f⟩ B;dsimp only at hi f⊢;have D:rs.length=i:=by have:=congrArg List.length f;rw[eM,eM,nO]at this;omega
 refine bL ?_;refine C.cmp rfl (λg=>?_) λg=>?_
 .refine bL ?_;have a:i<s.log.length:=by simpa using g
  have j:=n.log _<|dG a;refine oN ?_;refine C.enr j ?_;rintro v aT ⟨so,k,rfl,rfl⟩;refine cH ?_;refine C.CZ rfl λE=>?_;refine C.DR (s:=m) (l:=rs) (vR.mk (s.log[i]'a).abs.aZ so k) rfl λH=>?_;refine gV ?_;refine Xr (rs:=rs) (vR.mk (s.log[i]'a).abs.aZ so k) fK.au ?_;refine again B (i+1,H,rs++[vR.mk (s.log[i]'a).abs.aZ so k]) ⟨a,?_⟩<|dE;rw[js a,eW,eW,f];rfl
 .refine bL ?_;refine C.dx (di 22 0 5++[(2,5),(3,6)]) 7 [] 0 ?_;refine WO ?_;refine gy ?_;have e1:s.log.take i=s.log:=lA (by simp at g;omega);rw[e1]at f;refine dB.cls s ?_;exact C.cG o p ⟨m,rs,rfl,f,rfl⟩
def abz:aP->Nat->Bool:=λt o=>t==23||t==114||(t==92&&o==5)||(t==120&&o==1)
def shG:aP->Nat->Bool:=λt o=>t==92&&(o==7||o==8)
def bM:vC:=⟨⟨cX.rd,shG,0⟩,rfl,abz,shG,λb t o h=>by
 simp only[abz,cX,Am,jK]at h⊢;rcases h with((h|h)|h)|h
 .exact .inl<|.inr h
 .exact .inl<|.inl<|.inr h
 .exact .inl<|.inl<|.inl h.1
 .exact .inr h.1,λt o h=>h⟩
theorem dW(σ:Gh):BLe (bM.bw σ) cX:=⟨λb t o h=>(vC.le bM σ).rd b t o h,λt o h=>by have h:shG t o=true:=h;simp only[shG,cX,Am,jK]at h⊢;exact .inl<|.inl<|.inl h.1,fp _⟩
theorem T6:BLe bM.B0 cX:=⟨λb t o h=>h,(dW ⟨0,λ_=>none,λ_=>False,0⟩).sh,fC _⟩
abbrev Xs(m:Int)(ah aH aC dn:Value)(aj:Bool)(st:Int):Array Value:=#[.int .i32 m,.int .u32 0,ah,aH,aC,dn,.bool aj,.int .u64 st,.int .u32 0]
abbrev pS(b:Nat)(m:Int)(ah aH aC dn:Value)(aj:Bool)(st:Int):HP:=dq b<|.cells (Xs m ah aH aC dn aj st) 92 (0,0)
variable{σ:Gh}{b:Nat}{ah aH aC dn:Value}{aj:Bool}{st:Int}
theorem K7:aI prog true (bM.bw σ) 62 #[.pointer (some ⟨b,0,none⟩)] [pS b 0 ah aH aC dn aj st] (λv As=>v=.tuple #[]/\As=[pS b 1 ah aH aC dn aj st]):=by refine aI.of λR C kd d F c cs e f=>?_;refine pQ ?_;refine C.Wg rfl ?_;refine fB ?_;refine C.aez rfl ?_;refine dY ?_;refine C.aaq rfl ?_;refine dT ?_;refine C.Wh rfl ?_;refine C.xMk (mk:=.acquire) (a:=⟨b,0,none⟩) rfl ?_ (hm:=λH s=>⟨_,_,Has.get Has.au s⟩);refine C.go ?_;exact C.cG e f ⟨rfl,rfl⟩
theorem F0:aI prog true (bM.bw σ) 63 #[.pointer (some ⟨b,0,none⟩)] [pS b 1 ah aH aC dn aj st] (λv As=>v=.tuple #[]/\As=[pS b 0 ah aH aC dn aj st]):=by refine aI.of λR C kd d F c cs e f=>?_;refine cH ?_;refine vH ?_;refine C.Wh rfl ?_;refine C.xMk (mk:=.releaseMerge) (a:=⟨b,0,none⟩) rfl ?_ (hm:=λH s=>⟨_,_,Has.get Has.au s⟩);refine bL ?_;refine C.Wg rfl ?_;refine fB ?_;refine C.aeA (z':=0) rfl ?_;refine dY ?_;refine C.ed rfl ?_;refine dT ?_;refine C.aaq rfl ?_;refine C.go ?_;exact C.eY e f ⟨rfl,rfl⟩
theorem fV:aI prog true (bM.bw σ) 33 #[.pointer (some ⟨b,0,none⟩)] [pS b 0 ah aH aC dn aj st] (λv As=>v=.tuple #[]/\As=[pS b 1 ah aH aC dn aj st]):=by refine aI.of λR C kd d F c cs a e=>?_;refine vI ?_;refine C.cE K7 ?_;refine uz ?_;exact C.eY a e ⟨rfl,rfl⟩
theorem dM:aI prog true (bM.bw σ) 34 #[.pointer (some ⟨b,0,none⟩)] [pS b 1 ah aH aC dn aj st] (λv As=>v=.tuple #[]/\As=[pS b 0 ah aH aC dn aj st]):=by refine aI.of λR C kd d F c cs a e=>?_;refine vI ?_;refine C.cE F0 ?_;refine uz ?_;exact C.eY a e ⟨rfl,rfl⟩
end
section
open Go.Proofs Go.Conc
instance:Zv prog 73 (.agg #[]):=⟨_,aD type73,rfl⟩
variable{P:bT}{n:Nat}{e:Nat->Value}{dst:Option Nat}{ty t1 t2:aP}{pos:String}{af:Array Edge}{gd:Option (Nat×Bool)}{x y:dp}
theorem T7{a:Nat}[c:Zv P t1 z1][d:Zv P t2 z2](hx:ev n e x=.chan (some a))(f:ev n e y=.chan (some b)):gG P (execOp (ev n e) ⟨dst,.select #[⟨x,none,t1⟩,⟨y,none,t2⟩] true,ty,pos,af,gd⟩)=some (.comm #[rcase a z1,rcase b z2] true .select):=by unfold execOp;simp only;refine bH (a:=#[rcase a z1,rcase b z2]) ?_ rfl;have h1:gG P (zeroValue t1)=some z1:=te c.h;have g:gG P (zeroValue t2)=some z2:=te d.h;rw[Q1];simp only[ZM,List.mapM_nil,hx,f,LP,Q2,bind_assoc,pure_bind];refine bH h1<|bH g rfl
structure HG where
 g:Nat
 hb:Nat
 bh:Nat
 bs:Nat
 wk:Nat
 rd:Nat
structure CG where
 b:Nat
 cb:Nat
 dn:Nat
def Zn(C:CG)(cs:List Frame):Prop:=∃ e1,cs=[aX 49 .qJ 11 e1 [⟨.fn (.func 50) #[],#[.pointer (some ⟨C.b,7,none⟩)]⟩] [.inRegion (cO<|cR<|(f49.body).getD .skip) [5]],base prog []]
def F3(h:HG)(C:CG)(r:aO):Prop:=∃ e cs,Zn C cs/\e 0=az h.bh/\e 1=.chan (some C.dn)/\r=gr 51 .rU 30 e [] (.inRegion (cO<|cL<|cR<|cB<|cB<|cB<|(f51.body).getD .skip) [0,1,2,3]:: .code (cR<|cR<|cB<|cB<|cB<|(f51.body).getD .skip):: .inBlock 1:: .inLoop (cB<|cB<|(f51.body).getD .skip)::[.inBlock 0]) cs
def ff(h:HG)(C:CG):dP:=⟨#[rcase h.wk .nilFunc,rcase C.dn<|.agg #[]],.select,F3 h C,[(⟨C.cb,0,none⟩,az C.b),(⟨h.hb,0,none⟩,az h.bh),(⟨C.b,5,none⟩,.chan<|some C.dn),(⟨h.bh,1,none⟩,.chan<|some h.wk)]⟩
theorem IJ{h:HG}{C:CG}{e:Nat->Value}{cs:List Frame}(b:Zn C cs)(c:e 0=az h.bh)(h1:e 1=.chan (some C.dn)):
  Way prog false (ff h C) 200 (gr 51 .rU 30 e [] (.code (cB<|cB<|(f51.body).getD .skip):: .inLoop (cB<|cB<|(f51.body).getD .skip)::[.inBlock 0]) cs):=by
 have M:=Mt.way (P:=prog) (ao:=false) (s:=ff h C);rw[<- kX (e:=e) (l:=[(0,az h.bh),(1,.chan<|some C.dn)]) ⟨c,h1,trivial⟩];refine M.go ?_;refine M.rg [0,1,2,3] ?_;refine M.mv rfl ?_;refine M.nc (a:=⟨h.bh,0,none⟩) rfl ?_;refine M.fa rfl ?_;refine Sz (ad:=⟨h.bh,1,none⟩) (v:=.chan<|some h.wk) rfl ?_ (by simp[ff]);refine M.go ?_;refine M.rg [0] ?_;refine M.mv rfl ?_;refine M.go ?_;refine M.rg [0,1,2,3] ?_;exact Way.mono (n:=0) (aas rfl ⟨_,cs,b,rfl,rfl,rfl⟩ (T7 rfl rfl) rfl) ai
theorem Ps{h:HG}{C:CG}:Way prog false (ff h C) 600 (child prog ⟨.fn (.func 49) #[az C.cb,az h.hb],#[]⟩):=by
 have M:=Mt.way (P:=prog) (ao:=false) (s:=ff h C);refine M.child ?_;refine M.go ?_;refine M.rg [0,1,2,3] ?_;refine Sz (ad:=⟨C.cb,0,none⟩) (v:=az C.b) rfl ?_ (by simp[ff]);refine M.nc (a:=⟨C.b,0,none⟩) rfl ?_;refine M.fa rfl ?_;refine M.qJ rfl ?_;refine M.go ?_;refine Ki [(5,0),(6,1),(7,2),(8,3),(9,4),(10,5)] [0,1,2,3,4] 5 [⟨0,5,az h.bh,false⟩,⟨1,6,az C.b,false⟩,⟨2,7,az C.b,false⟩,⟨3,8,.pointer<|some ⟨C.b,5,none⟩,false⟩,⟨4,9,.chan<|some C.dn,false⟩] ⟨?_,?_,?_,?_,?_⟩ ?_
 .intro i hi;simp only[gU,nY,gR]at hi;rcases hi with rfl|rfl|rfl|rfl|rfl<;>simp
 .simp
 .simp
 .intro x c;simp only[gU,nY,gR]at c;rcases c with rfl|rfl|rfl|rfl|rfl<;>rfl
 .intro x c;simp only[gU,nY,gR]at c;rcases c with rfl|rfl|rfl|rfl|rfl
  .exact⟨[],by simp,λm e aa q=>Hn (ad:=⟨h.hb,0,none⟩) (by simp[ff]) rfl q⟩
  .exact⟨[],by simp,λm e aa q=>Hn (ad:=⟨C.cb,0,none⟩) (by simp[ff]) rfl q⟩
  .exact⟨[⟨1,6,az C.b,false⟩],by simp,λm e aa q=>MD (a:=⟨C.b,0,none⟩) rfl q⟩
  .exact⟨[⟨2,7,az C.b,false⟩],by simp,λm e aa q=>ME (b:=C.b) (off:=0) (o:=5) rfl q⟩
  .exact⟨[⟨3,8,.pointer<|some ⟨C.b,5,none⟩,false⟩],by simp,λm e aa q=>Hn (ad:=⟨C.b,5,none⟩) (by simp[ff]) rfl q⟩
 .refine M.Wi (f:=51) rfl ?_;refine M.go ?_;refine M.lp ?_;exact Way.mono (IJ ⟨_,rfl⟩ rfl rfl) ai
end
section
open Go.Proofs Go.Conc
structure afB(G:sg)(b:Nat):Prop where
 blk:G.blk=b
 o1:G.o1=7
 o2:G.o2=8
 ty:G.ty=92
 sz:G.cs.size=9
theorem abB{a:Nat}{ok:Bool}:commResult #[rcase a z1,rcase b z2] .select 1 v ok=.tuple #[aF 1,.bool ok,z1,v]:=by simp[commResult,rcase,goInt]
theorem abC{a:Nat}{ok:Bool}:commResult #[rcase a z1,rcase b z2] .select 0 v ok=.tuple #[aF 0,.bool ok,v,z2]:=by simp[commResult,rcase,goInt]
theorem leave{h:HG}{C:CG}{G:sg}(q:afB G C.b){r:aO}(hr:F3 h C r):Cl prog G 9000 .rel (Conc.served r<|commResult #[rcase h.wk .nilFunc,rcase C.dn<|.agg #[]] .select 1 (.agg #[]) false):=by
 obtain⟨e,cs,⟨e1,rfl⟩,z,h1,rfl⟩:=hr;obtain⟨s,o1,o2,IK,t⟩:=G;obtain⟨i,j,k,l,n⟩:=q;simp only at i j k l n;subst i j k l;have M:=Mt.cl (P:=prog) (G:=⟨C.b,7,8,IK,92⟩) (x:=.rel);rw[uo rfl,abB];refine M.ext (v:=aF 1) rfl ?_;refine M.bo (v:=.bool false) rfl ?_;refine M.bo (v:=.bool true) rfl ?_;refine M.go ?_;refine M.Fg ?_;refine M.N4 ?_;refine M.ret ?_;refine M.home ?_;unfold fP;rw[cF rfl];show Cl prog _ _ .rel (gr 49 .qJ 11 _ _ _ _);refine M.go ?_;refine M.fin ?_;refine M.dcall ?_;refine M.go ?_;refine M.rg [0,1] ?_;refine M.mv rfl ?_;refine M.Wi (f:=48) rfl ?_;refine M.go ?_;refine M.N4 ?_;refine M.rg [0,1] ?_;refine M.mv rfl ?_;refine M.bo (v:=.bool true) rfl ?_;refine M.go ?_;refine M.N4 ?_;refine M.rg [0,1,2] ?_;refine M.mv rfl ?_;refine M.Wh (ad:=⟨C.b,7,none⟩) (λw ⟨c,h1,u⟩=>⟨c[7]'(by simp only at u;omega),by simp only[World.cell?,h1];simp⟩) rfl ?_;refine aaz rfl (λw=>AZ .releaseMerge rfl rfl (by intro ad g;simp) rfl w) ?_;have M:=Mt.cl (P:=prog) (G:=⟨C.b,7,8,IK,92⟩) (x:=.zN);refine M.go ?_;refine M.rg [0] ?_;refine aaA rfl (λw=>AY .disable rfl rfl (by intro g;simp) w) ?_;have M:=Mt.cl (P:=prog) (G:=⟨C.b,7,8,IK,92⟩) (x:=.add);refine M.go ?_;refine M.rg [0] ?_;refine M.qJ rfl ?_;refine M.go ?_;refine M.rg [0] ?_;refine M.pN rfl ?_;refine M.go ?_;refine M.rg [0] ?_;refine M.xk rfl ?_;refine M.go ?_;refine M.Fg ?_;refine M.rg [0,1,2,3,4,5,6,7] ?_;refine M.mv rfl ?_;refine M.nc (a:=⟨C.b,7,none⟩) rfl ?_;refine M.fa (b:=C.b) (off:=7) (o:=0) rfl ?_;refine M.mv rfl ?_;refine M.cv (r:=18446744073709551615) rfl ?_;refine M.bo (v:=.int .u64 18446744069414584320) rfl ?_;refine M.Wi (f:=96) rfl ?_;refine M.go ?_;refine M.rg [0] ?_;refine M.pN rfl ?_;refine M.go ?_;refine M.rg [0,1,2,3,4,5] ?_;refine M.mv rfl ?_;refine M.nc (a:=⟨C.b,7,none⟩) rfl ?_;refine M.fa (b:=C.b) (off:=7) (o:=0) rfl ?_;refine M.mv rfl ?_;refine Wo rfl ?_ ?_
 .have M:=Mt.cl (P:=prog) (G:=⟨C.b,7,8,IK,92⟩) (x:=.ld);refine M.pN rfl ?_;refine M.go ?_;refine M.ret ?_;refine M.home ?_;unfold fP;rw[cF rfl];show Cl prog _ _ .ld (gr 48 .rU 117 _ _ _ _);refine M.pN rfl ?_;refine M.go ?_;refine M.rg [0,1,2,3,4,5,6] ?_;refine M.mv rfl ?_;refine M.bo rfl ?_;refine M.bo rfl ?_;refine M.mv rfl ?_;refine M.no rfl ?_;refine M.no rfl ?_;refine M.pk rfl ?_;refine M.go ?_;refine M.Fg ?_;refine M.rg [0,1,2,3] ?_;refine M.mv rfl ?_;refine M.bo rfl ?_;refine M.cv rfl ?_;refine M.pN rfl ?_;refine M.go ?_;refine M.rg [0,1,2,3] ?_;refine M.mv rfl ?_;refine M.bo rfl ?_;refine M.cv rfl ?_;refine M.pN rfl ?_;refine M.go ?_;refine M.rg [0,1,2,3,4,5,6,7,8,9] ?_;refine M.mv rfl ?_;refine M.mv rfl ?_;refine M.bo rfl ?_;refine M.pk rfl ?_;refine M.mv rfl ?_;refine M.no rfl ?_;refine M.no rfl ?_;refine M.no rfl ?_;refine M.no rfl ?_;refine M.pk rfl ?_;refine M.go ?_;refine M.Fg ?_;refine M.rg [0,1] ?_;refine M.mv rfl ?_;refine M.bo rfl ?_;refine M.go ?_;refine M.Fg ?_;refine M.rg [0,1,2,3,4,5,6,7,8,9,10,11] ?_;refine M.mv rfl ?_;refine M.bo rfl ?_;refine M.mv rfl ?_
  first|refine M.no rfl ?_|refine M.mv rfl ?_
  first|refine M.no rfl ?_|refine M.bo rfl ?_
  refine M.pk rfl ?_;refine M.mv rfl ?_;refine M.no rfl ?_;refine M.no rfl ?_;refine M.no rfl ?_;refine M.no rfl ?_;refine M.pk rfl ?_;refine M.go ?_;refine M.Fg ?_;refine M.rg [0,1,2,3,4,5] ?_;refine M.mv rfl ?_;refine M.bo rfl ?_;refine M.mv rfl ?_
  first|refine M.no rfl ?_|refine M.mv rfl ?_
  first|refine M.no rfl ?_|refine M.bo rfl ?_
  refine M.pk rfl ?_;refine M.go ?_;refine M.Fg ?_;refine M.rg [0,1,2,3,4,5] ?_;refine M.mv rfl ?_;refine M.nc rfl ?_;refine M.fa rfl ?_;refine M.Wi (f:=65) rfl ?_;refine M.go ?_;refine M.rg [0] ?_;refine M.pN rfl ?_;refine M.go ?_;refine M.rg [0,1,2,3,4] ?_;refine M.mv rfl ?_;refine M.nc rfl ?_;refine M.fa rfl ?_;refine aeN rfl (λw m=>A0 rfl rfl rfl m) ?_;have M:=Mt.cl (P:=prog) (G:=⟨C.b,7,8,IK,92⟩) (x:=.Qv);refine M.pN rfl ?_;refine M.go ?_;refine M.ret ?_;refine M.home ?_;unfold fP;rw[cF rfl];show Cl prog _ _ .Qv (gr 48 .rU 117 _ _ _ _);refine M.mv rfl ?_;refine M.bo rfl ?_;refine M.go ?_;refine M.Fg ?_;refine M.rg [0,1,2,3] ?_;refine M.mv rfl ?_;refine M.nc rfl ?_;refine M.fa rfl ?_;refine M.Wi (f:=98) rfl ?_;refine M.go ?_;refine M.rg [0,1,2,3,4] ?_;refine M.mv rfl ?_;refine M.nc rfl ?_;refine M.fa rfl ?_;refine M.mv rfl ?_;refine aaC rfl (λw m p=>Sq rfl rfl rfl rfl m p) ?_;have M:=Mt.cl (P:=prog) (G:=⟨C.b,7,8,IK,92⟩) (x:=.JS);refine M.go ?_;refine M.fin ?_;refine M.home ?_;unfold fP;rw[cF rfl];show Cl prog _ _ .JS (gr 48 .rU 117 _ _ _ _);refine M.go ?_;refine M.rg [0] ?_;refine M.mv rfl ?_;refine M.go ?_;refine M.Fg ?_;refine M.lp ?_;refine M.go ?_;refine M.rg [0,1] ?_;refine M.mv rfl ?_;refine M.bo rfl ?_;refine M.go ?_;refine M.N4 ?_;refine M.rg [0,1,2,3] ?_;refine M.mv rfl ?_;refine M.nc rfl ?_;refine M.fa rfl ?_;refine aaD rfl (SH rfl) (λw m p=>Sy rfl rfl rfl m p) ?_;have M:=Mt.quits (P:=prog) (d:=1);refine M.go ?_;refine M.rg [0,1,2] ?_;refine M.mv rfl ?_;refine M.bo rfl ?_;refine M.pN rfl ?_;refine M.go ?_;refine M.ilp ?_;refine M.go ?_;refine M.rg [0,1] ?_;refine M.mv rfl ?_;refine M.bo rfl ?_;refine M.go ?_;refine M.Fg ?_;refine M.fin ?_;refine D2 rfl (λw=>DZ .enable (by intro g;simp) w) ?_;have M:=Mt.quits (P:=prog) (d:=0);refine M.home ?_;unfold fP;rw[cF rfl];show QuitsD prog _ 0 (gr 50 .qJ 4 _ _ _ _);refine M.go ?_;refine M.fin ?_;refine M.MB ?_;refine M.MB ?_;exact D3
 .intro v wt A B D;have M:=Mt.quits (P:=prog) (d:=1);have y:(v=0/\wt=0)\/(v=1/\wt=0)\/(v=1/\wt=1)\/(v=2/\wt=0)\/(v=2/\wt=1)\/(v=3/\wt=0)\/(v=3/\wt=1):=ai;rcases y with⟨rfl,rfl⟩|⟨rfl,rfl⟩|⟨rfl,rfl⟩|⟨rfl,rfl⟩|⟨rfl,rfl⟩|⟨rfl,rfl⟩|⟨rfl,rfl⟩
  all_goals
   refine M.pN rfl ?_;refine M.go ?_;refine M.ret ?_;refine M.home ?_;unfold fP;rw[cF rfl];show QuitsD prog _ 1 (gr 48 .rU 117 _ _ _ _);refine M.pN rfl ?_;refine M.go ?_;refine M.rg [0,1,2,3,4,5,6] ?_;refine M.mv rfl ?_;refine M.bo rfl ?_;refine M.bo rfl ?_;refine M.mv rfl ?_;refine M.no rfl ?_;refine M.no rfl ?_;refine M.pk rfl ?_;refine M.go ?_;refine M.Fg ?_;refine M.rg [0,1,2,3] ?_;refine M.mv rfl ?_;refine M.bo rfl ?_;refine M.cv rfl ?_;refine M.pN rfl ?_;refine M.go ?_;refine M.rg [0,1,2,3] ?_;refine M.mv rfl ?_;refine M.bo rfl ?_;refine M.cv rfl ?_;refine M.pN rfl ?_;refine M.go ?_;refine M.rg [0,1,2,3,4,5,6,7,8,9] ?_;refine M.mv rfl ?_;refine M.mv rfl ?_;refine M.bo rfl ?_;refine M.pk rfl ?_;refine M.mv rfl ?_;refine M.no rfl ?_;refine M.no rfl ?_;refine M.no rfl ?_;refine M.no rfl ?_;refine M.pk rfl ?_;refine M.go ?_;refine M.Fg ?_;refine M.rg [0,1] ?_;refine M.mv rfl ?_;refine M.bo rfl ?_;refine M.go ?_;refine M.Fg ?_;refine M.rg [0,1,2,3,4,5,6,7,8,9,10,11] ?_;refine M.mv rfl ?_;refine M.bo rfl ?_;refine M.mv rfl ?_
   first|refine M.no rfl ?_|refine M.mv rfl ?_
   first|refine M.no rfl ?_|refine M.bo rfl ?_
   refine M.pk rfl ?_;refine M.mv rfl ?_;refine M.no rfl ?_;refine M.no rfl ?_;refine M.no rfl ?_;refine M.no rfl ?_;refine M.pk rfl ?_;refine M.go ?_;refine M.Fg ?_;refine M.rg [0,1,2,3,4,5] ?_;refine M.mv rfl ?_;refine M.bo rfl ?_;refine M.mv rfl ?_
   first|refine M.no rfl ?_|refine M.mv rfl ?_
   first|refine M.no rfl ?_|refine M.bo rfl ?_
   refine M.pk rfl ?_;refine M.go ?_;refine M.N4 ?_;refine M.ret ?_;refine D2 rfl (λw=>DZ .enable (by intro g;simp) w) ?_;have M:=Mt.quits (P:=prog) (d:=0);refine M.home ?_;unfold fP;rw[cF rfl];show QuitsD prog _ 0 (gr 50 .qJ 4 _ _ _ _);refine M.go ?_;refine M.fin ?_;refine M.MB ?_;refine M.MB ?_;exact D3
def CJ(P:bT)(G:sg)(Fin:aO->Prop)(x:MS)(_:Nat)(g:aO):Prop:=MW P G Fin x g
variable{R:Nat->aO->Array Obj->Prop}{B:lM}{As:List HP}{b:Nat}{IK:Array Value}{fr:Frame}{cs:List Frame}
theorem F4{w:World}{o:Nat}(hsz:IK.size=9)(d:o<9)(h:Gs ⟨b,7,8,IK,92⟩ w):∃ v,w.cell? ⟨b,o,none⟩=some v:=by obtain⟨c,h1,a⟩:=h;exact⟨c[o]'(by simp only at a;omega),by simp only[World.cell?,h1];simp⟩
theorem Pv(C:ab prog true B R)(hsz:IK.size=9)(g:At R 0 As (fP fr cs<|.tuple #[])):∀ (c:Nat),c<=4->∀ e:Nat->Value,e 0=.pointer (some ⟨b,7,none⟩)->
  MW prog ⟨b,7,8,IK,92⟩ (λa=>At R 0 As a) (.head c) (gr 35 .rU 84 e [] (.code (cB<|cB<|cR<|(f35.body).getD .skip):: .inLoop (cB<|cB<|cR<|(f35.body).getD .skip)::[.inBlock 0])<|fr::cs):=by
 intro c
 induction c using Nat.strongRecOn with
 |ind c i=>
  intro m e j;have M:∀ {x:MS},Mt prog true (Gs ⟨b,7,8,IK,92⟩) (CJ prog ⟨b,7,8,IK,92⟩ (λa=>At R 0 As a) x):=Mt.mw;rw[<- kX (e:=e) (l:=[(0,.pointer<|some ⟨b,7,none⟩)]) ⟨j,trivial⟩];show CJ _ _ _ _ 900 _;refine M.go ?_;refine M.rg [0,1,2,3,4] ?_;refine M.mv rfl ?_;refine M.nc rfl ?_;refine M.fa rfl ?_;refine M.Wi (f:=65) rfl ?_;refine M.go ?_;refine M.rg [0] ?_;refine M.pN rfl ?_;refine M.go ?_;refine M.rg [0,1,2,3,4] ?_;refine M.mv rfl ?_;refine M.nc rfl ?_;refine M.fa rfl ?_;refine Wp rfl ?_ ?_
  .show CJ _ _ _ _ 900 _;refine M.pN rfl ?_;refine M.go ?_;refine M.ret ?_;refine M.home ?_;unfold fP;rw[cF rfl];show CJ _ _ _ _ 900 (gr 35 .rU 84 _ _ _ _);refine M.pN rfl ?_;refine M.go ?_;refine M.rg [0,1,2,3] ?_;refine M.mv rfl ?_;refine M.bo rfl ?_;refine M.cv rfl ?_;refine M.pN rfl ?_;refine M.go ?_;refine M.rg [0,1,2,3] ?_;refine M.mv rfl ?_;refine M.bo rfl ?_;refine M.cv rfl ?_;refine M.pN rfl ?_;refine M.go ?_;refine M.rg [0,1] ?_;refine M.mv rfl ?_;refine M.bo rfl ?_;refine M.go ?_;refine M.N4 ?_;refine M.N4 ?_;refine M.rg [0] ?_;refine SI rfl ?_;show CJ _ _ _ _ 900 _;refine M.go ?_;refine M.rg [0,1,2] ?_;refine M.mv rfl ?_;refine M.Wh (ad:=⟨b,7,none⟩) (λw h=>F4 hsz (by decide) h) rfl ?_;refine SJ rfl ?_;refine dT ?_;refine C.v0 (v:=.bool true) rfl ?_ rfl;refine bL ?_;refine C.v0 (v:=.int .u64 0) rfl ?_ rfl;refine C.v0 (v:=.bool false) rfl ?_ rfl;refine iE ?_;exact C.R3 trivial g rfl rfl
  .intro v h1 n;have k:v=1\/v=2\/v=3\/v=4:=ai;have d:=i (v-1) ai ai;rcases k with rfl|rfl|rfl|rfl
   all_goals
    show CJ _ _ _ _ 900 _;refine M.pN rfl ?_;refine M.go ?_;refine M.ret ?_;refine M.home ?_;unfold fP;rw[cF rfl];show CJ _ _ _ _ 900 (gr 35 .rU 84 _ _ _ _);refine M.pN rfl ?_;refine M.go ?_;refine M.rg [0,1,2,3] ?_;refine M.mv rfl ?_;refine M.bo rfl ?_;refine M.cv rfl ?_;refine M.pN rfl ?_;refine M.go ?_;refine M.rg [0,1,2,3] ?_;refine M.mv rfl ?_;refine M.bo rfl ?_;refine M.cv rfl ?_;refine M.pN rfl ?_;refine M.go ?_;refine M.rg [0,1] ?_;refine M.mv rfl ?_;refine M.bo rfl ?_;refine M.go ?_;refine M.Fg ?_;refine M.rg [0,1,2,3,4,5,6] ?_;refine M.mv rfl ?_;refine M.nc rfl ?_;refine M.fa rfl ?_;refine M.mv rfl ?_;refine M.mv rfl ?_;refine M.bo rfl ?_;refine M.Wi (f:=69) rfl ?_;show CJ _ _ _ _ 900 _;refine M.go ?_;refine M.rg [0] ?_;refine M.pN rfl ?_;refine M.go ?_;refine M.rg [0,1,2,3,4,5,6] ?_;refine M.mv rfl ?_;refine M.nc rfl ?_;refine M.fa rfl ?_;refine M.mv rfl ?_;refine M.mv rfl ?_;refine aaG rfl ?_ ?_
    .show CJ _ _ _ _ 900 _;refine M.pN rfl ?_;refine M.go ?_;refine M.ret ?_;refine M.home ?_;unfold fP;rw[cF rfl];show CJ _ _ _ _ 900 (gr 35 .rU 84 _ _ _ _);refine M.go ?_;refine M.N4 ?_;refine M.rg [0,1,2,3] ?_;refine M.mv rfl ?_;refine M.mv rfl ?_;refine M.bo rfl ?_;refine M.pk rfl ?_;refine M.go ?_;refine M.N4 ?_;refine M.rg [0,1,2,3,4] ?_;refine M.mv rfl ?_;refine M.nc rfl ?_;refine M.fa rfl ?_;refine M.Wh (ad:=⟨b,8,none⟩) (λw h=>F4 hsz (by decide) h) rfl ?_;refine Wq rfl ?_;show CJ _ _ _ _ 900 _;refine M.go ?_;refine M.rg [0] ?_;refine M.pN rfl ?_;refine M.go ?_;refine M.rg [0,1,2,3,4,5] ?_;refine M.mv rfl ?_;refine M.bo rfl ?_;refine M.bo rfl ?_;refine M.mv rfl ?_;refine M.no rfl ?_;refine M.pk rfl ?_;refine M.go ?_;refine M.Fg ?_;refine M.rg [0,1,2,3,4] ?_;refine M.mv rfl ?_;refine M.nc rfl ?_;refine M.fa rfl ?_;refine M.mv rfl ?_;refine aaH rfl ?_;show CJ _ _ _ _ 900 _;refine M.go ?_;refine M.rg [0,1,2,3,4,5] ?_;refine M.mv rfl ?_;refine M.nc rfl ?_;refine M.fa rfl ?_;refine M.Wi (f:=65) rfl ?_;refine M.go ?_;refine M.rg [0] ?_;refine M.pN rfl ?_;refine M.go ?_;refine M.rg [0,1,2,3,4] ?_;refine M.mv rfl ?_;refine M.nc rfl ?_;refine M.fa rfl ?_;refine Wr rfl ?_;show CJ _ _ _ _ 900 _;refine M.pN rfl ?_;refine M.go ?_;refine M.ret ?_;refine M.home ?_;unfold fP;rw[cF rfl];show CJ _ _ _ _ 900 (gr 35 .rU 84 _ _ _ _);refine M.bo rfl ?_;refine M.pN rfl ?_;refine M.go ?_;refine M.N4 ?_;refine M.rg [0] ?_;refine SI rfl ?_;show CJ _ _ _ _ 900 _;refine M.go ?_;refine M.rg [0,1,2] ?_;refine M.mv rfl ?_;refine M.Wh (ad:=⟨b,7,none⟩) (λw h=>F4 hsz (by decide) h) rfl ?_;refine SJ rfl ?_;refine fB ?_;exact C.R3 trivial g rfl rfl
    .show CJ _ _ _ _ 900 _;refine M.pN rfl ?_;refine M.go ?_;refine M.ret ?_;refine M.home ?_;unfold fP;rw[cF rfl];show CJ _ _ _ _ 900 (gr 35 .rU 84 _ _ _ _);refine M.go ?_;refine M.Fg ?_;refine M.ilp ?_;exact d _ rfl
theorem Xt(C:ab prog true B R)(hsz:IK.size=9)(d:At R 0 As (fP fr cs<|.tuple #[])){c:Nat}(hc:c<=4):
  MW prog ⟨b,7,8,IK,92⟩ (λa=>At R 0 As a) (.zN c) (gr 35 .rU 84 (AH #[.pointer (some ⟨b,7,none⟩)]) [] [.code ((f35.body).getD .skip)]<|fr::cs):=by
 have M:∀ {x:MS},Mt prog true (Gs ⟨b,7,8,IK,92⟩) (CJ prog ⟨b,7,8,IK,92⟩ (λa=>At R 0 As a) x):=Mt.mw;show CJ _ _ _ _ 900 _;refine M.go ?_;refine M.N4 ?_;refine M.rg [0] ?_;refine aaF rfl ?_;show CJ _ _ _ _ 900 _;refine M.go ?_;refine M.lp ?_;exact Pv C hsz d c hc _ rfl
variable{σ:Gh}{m:Int}{ah aH aC dn:Value}{aj:Bool}{k:Nat}
theorem Pw(g:k<=3):aI prog true (bM.bw σ) 96 #[.pointer (some ⟨b,7,none⟩),.int .u64 4294967296] [pS b m ah aH aC dn aj ((k:Int)*KQ)] (λv As=>v=.int .u64 (((k+1:Nat):Int)*KQ)/\As=[pS b m ah aH aC dn aj (((k+1:Nat):Int)*KQ)]):=by
 have a:IntKind.u64.wrap ((k:Int)*KQ+4294967296)=((k+1:Nat):Int)*KQ:=by
  have:(2^IntKind.u64.bits:Int)=18446744073709551616:=by decide
  simp only[IntKind.wrap,KQ,this];rw[ax (by simp[IntKind.signed])];omega
 refine aI.of λR C kd d F c cs e f=>?_;refine Y8 ?_;refine C.aeA (z':=((k+1:Nat):Int)*KQ) rfl ?_ (hz:=a);refine bL ?_;exact C.cG e f ⟨rfl,rfl⟩
theorem T8(h:k<=3):aI prog true (bM.bw σ) 48 #[.pointer (some ⟨b,7,none⟩),aF 1] [pS b m ah aH aC dn aj ((k:Int)*KQ)] (λv As=>v=.tuple #[]/\As=[pS b m ah aH aC dn aj (((k+1:Nat):Int)*KQ)]):=by
 refine aI.of λR C kd d F c cs e g=>?_;refine Ei ?_;refine C.v0 rfl ?_ rfl;refine dT ?_;refine C.Wg rfl ?_;refine bL ?_;refine C.df rfl ?_;refine fB ?_;refine C.x0 (f:=72) (v:=.bool false) rfl rfl ?_;refine iE ?_;refine C.cv rfl ?_ (hr:=rfl);refine C.v0 rfl ?_ rfl;refine C.cE (Pw h) ?_;refine cH ?_;have i:k=0\/k=1\/k=2\/k=3:=ai;rcases i with rfl|rfl|rfl|rfl
 .refine dY ?_;refine C.v0 rfl ?_ rfl;refine C.v0 rfl ?_ rfl;refine oN ?_;refine C.v0 rfl ?_ rfl;refine C.cv rfl ?_ (hr:=rfl);refine dY ?_;refine C.v0 rfl ?_ rfl;refine C.cv rfl ?_ (hr:=rfl);refine fB ?_;refine C.v0 rfl ?_ rfl;refine dY ?_;refine C.cv rfl ?_ (hr:=rfl);refine C.v0 rfl ?_ rfl;refine iE ?_;refine C.Wh (b:=b) (off:=8) rfl ?_;refine C.xMk (mk:=.read) (a:=⟨b,8,none⟩) rfl ?_ (hm:=λH s=>⟨_,_,Has.get Has.au s⟩);refine dT ?_;refine C.v0 rfl ?_ rfl;refine dY ?_;refine C.v0 rfl ?_ rfl;refine lu ?_;refine ga ?_;refine C.v0 rfl ?_ rfl;refine gV ?_;refine C.Hq ?_;refine C.aeO ?_;exact C.home (fu:=f48) func48 e rfl<|g _ _ ⟨rfl,rfl⟩
 all_goals
  refine dY ?_;refine C.v0 rfl ?_ rfl;refine C.v0 rfl ?_ rfl;refine oN ?_;refine C.v0 rfl ?_ rfl;refine C.cv rfl ?_ (hr:=rfl);refine dY ?_;refine C.v0 rfl ?_ rfl;refine C.cv rfl ?_ (hr:=rfl);refine fB ?_;refine C.v0 rfl ?_ rfl;refine dY ?_;refine C.cv rfl ?_ (hr:=rfl);refine C.v0 rfl ?_ rfl;refine fB ?_;refine C.v0 rfl ?_ rfl;refine dY ?_;refine C.v0 rfl ?_ rfl;refine lu ?_;refine ga ?_;refine C.v0 rfl ?_ rfl;refine gV ?_;refine C.Hq ?_;refine C.aeO ?_;exact C.home (fu:=f48) func48 e rfl<|g _ _ ⟨rfl,rfl⟩
end
section
open Go.Proofs Go.Conc
structure HV where
 h:HG
 s:dw
 kw:Nat
 kr:Nat
structure CV where
 G:CG
 ah:List HV
 aH:List dV
 aC:List we
 aj:Bool
abbrev vh(v:HV)(F:List HP):List HP:=dq v.h.bh (.cells #[az v.h.bs,.chan<|some v.h.wk,.chan<|some v.h.rd] 120 (0,0))::dq v.h.wk (.chan 0 #[] false v.kw v.kw false)::dq v.h.rd (.chan 0 #[] false v.kr v.kr false)::dq v.h.hb (.cells #[az v.h.bh] 114 (0,0))::dB v.h.bs v.s::F
def jy(v:HV):HP:=all<|vh v []
def CV.st(c:CV):Int:=if c.aj then 0 else(c.ah.length:Int)*KQ
abbrev cvO(c:CV)(m st:Int)(hs bg tx:ay)(F:List HP):List HP:=pS c.G.b m hs.v bg.v tx.v (.chan<|some c.G.dn) c.aj st::bK jP 1 114 hs (c.ah.map (·.h.bh))::bK dF 7 190 bg c.aH::bK EB 3 126 tx c.aC::
 all (c.ah.map jy)::dq c.G.dn (.chan 0 #[] c.aj 0 0 false)::dq c.G.cb (.cells #[az c.G.b] 23 (0,0))::F
def tQ(m:Int)(c:CV):HP:=λh=>∃ hs bg tx:ay,all (cvO c m c.st hs bg tx []) h
abbrev dm(c:CV):HP:=tQ 0 c
section
variable{R:Nat->aO->Array Obj->Prop}{d:Nat}{As F L:List HP}{g:aO}{c:CV}
theorem dm.opn{m z:Int}(hf:Fo (tQ m c) As L:=by exact Fo.au)(h:∀ hs bg tx:ay,At R d (cvO c m z hs bg tx L) g)(hz:c.st=z:=by rfl):At R d As g:=by subst hz;refine At.fo hf λH st=>?_;obtain⟨hs,st⟩:=st.ex;obtain⟨bg,st⟩:=st.ex;obtain⟨tx,st⟩:=st.ex;exact h hs bg tx H st.flat
theorem dm.cls{m:Int}{cc:Array Value}(c:CV)(h:At R d (tQ m c::F) g)(hf:Fo (dq c.G.b<|.cells cc 92 (0,0)) As L:=by exact Fo.au){hs bg tx:ay}(hc:cc=Xs m hs.v bg.v tx.v (.chan<|some c.G.dn) c.aj c.st:=by rfl)
  (hr:fK [bK jP 1 114 hs (c.ah.map (·.h.bh)),bK dF 7 190 bg c.aH,bK EB 3 126 tx c.aC,all<|c.ah.map jy,dq c.G.dn<|.chan 0 #[] c.aj 0 0 false,dq c.G.cb<|.cells #[az c.G.b] 23 (0,0)] L F:=by exact fK.au):At R d As g:=by
 subst hc;refine At.perm (hf.perm.trans<|hr.perm.cons _) λH st=>h H ?_;exact Sat.imp (λa x=>⟨hs,bg,tx,x⟩)<|Sat.je (l:=cvO c m c.st hs bg tx []) st
end
theorem jy.cls{R:Nat->aO->Array Obj->Prop}{d:Nat}{As F:List HP}{g:aO}(v:HV)(h:At R d (jy v::F) g)
  (hr:fK (vh v []) As F:=by exact fK.au):At R d As g:=
 At.perm hr.perm λH st=>h H<|Sat.je (l:=vh v []) st
structure RegC(σ:Gh)(c:CV):Prop where
 aU:∀ v∈c.ah,σ.aU v.h.g=some (ff v.h c.G)
 nd:(c.ah.map (·.h.g)).Nodup
 only:∀ i s,σ.aU i=some s->s.has c.G.dn->∃ v∈c.ah,v.h.g=i
 wk:∀ v∈c.ah,∀ i s,σ.aU i=some s->s.has v.h.wk->i=v.h.g
 wd:∀ v∈c.ah,v.h.wk≠c.G.dn
 sh7:σ.sh (.cell ⟨c.G.b,7,none⟩)
 sh8:σ.sh (.cell ⟨c.G.b,8,none⟩)
 n:1<=c.ah.length/\c.ah.length<=4
section
variable{σ:Gh}{b:Nat}{m:Int}{ah aH aC dn:Value}{aj:Bool}
theorem K8:aI prog true (bM.bw σ) 35 #[.pointer (some ⟨b,7,none⟩)] [pS b m ah aH aC dn aj 0] (λv As=>v=.tuple #[]/\As=[pS b m ah aH aC dn aj 0]):=by
 refine aI.of λR C kd d F c cs e f=>?_;refine cH ?_;have hl:aI prog true (bM.bw σ) 65 #[.pointer (some ⟨b,7,none⟩)] [pS b m ah aH aC dn aj 0] (λv As=>v=.int .u64 0/\As=[pS b m ah aH aC dn aj 0]):=by refine aI.of λR C kd d F c cs e f=>?_;refine MY ?_;refine C.xLd (b:=b) (off:=7) (z:=0) rfl ?_;refine bL ?_;exact C.cG e f ⟨rfl,rfl⟩
 refine dT ?_;refine C.Wg rfl ?_;refine C.go ?_;refine C.lp ?_;refine fB ?_;refine C.cE hl ?_;refine Ei ?_;refine C.v0 rfl ?_ rfl;refine C.cv rfl ?_ (hr:=rfl);refine dY ?_;refine C.v0 rfl ?_ rfl;refine C.cv rfl ?_ (hr:=rfl);refine dY ?_;refine C.v0 rfl ?_ rfl;refine dY ?_;refine C.aaq rfl ?_;refine dT ?_;refine C.Wh (b:=b) (off:=7) rfl ?_;refine C.xMk (mk:=.acquire) (a:=⟨b,7,none⟩) rfl ?_ (hm:=λH s=>⟨_,_,Has.get Has.au s⟩);refine dT ?_;refine C.v0 rfl ?_ rfl;refine bL ?_;refine C.v0 rfl ?_ rfl;refine C.v0 rfl ?_ rfl;refine iE ?_;exact C.cG e f ⟨rfl,rfl⟩
end
end
section
open Go.Proofs Go.Conc
def CV.ids(c:CV):List Nat:=c.ah.map (·.h.g)
theorem Py{c:CV}(hr:c.aj=false->RegC σ c):bB prog bM 21 #[az c.G.b] σ [dm c] (λv σ' As=>v=.tuple #[]/\σ'=(if c.aj then σ else σ.iH c.ids)/\As=[dm {c with aj:=true}]):=by
 refine bB.of ?_;intro Post os out kd F c' cs C e g;refine cH ?_;obtain⟨G,ah,aH,aC,aj⟩:=c;cases aj with
 |true=>
  refine dm.opn (z:=0) (h:=λhs bg tx=>?_);refine fB ?_;refine C.cE fV ?_;refine vI ?_;refine C.df rfl ?_;refine lu ?_;refine C.cE K8 ?_;refine uz ?_;refine C.fnA ?_;refine aG.qJ (aI.g dM) ?_;rintro v σ' aT ⟨rfl,rfl,rfl⟩;refine cH ?_;refine C.home (fu:=f21) func21 e rfl ?_;refine dm.cls ⟨G,ah,aH,aC,true⟩ ?_;exact g _ _ _ ⟨rfl,rfl,rfl⟩
 |false=>
  obtain⟨k,l,m,u,n,o,p,j⟩:=hr rfl;refine dm.opn (z:=(ah.length:Int)*KQ) (h:=λhs bg tx=>?_);refine fB ?_;refine C.cE fV ?_;refine vI ?_;refine C.df rfl ?_;refine lu ?_;refine iE ?_;have q:(⟨G.b,7,8,Xs 1 hs.v bg.v tx.v (.chan<|some G.dn) true<|(ah.length:Int)*KQ,92⟩:sg).row (nB 0 0) (uY 0)=Xs 1 hs.v bg.v tx.v (.chan<|some G.dn) true 0:=rfl;have b:ab prog true (bM.bw (σ.iH (ah.map (·.h.g)))) (aG prog Post bM (σ.iH (ah.map (·.h.g))) 0 os out):=aG.eL;refine aG.shut (ah.map (·.h.g)) ⟨G.b,7,8,Xs 1 hs.v bg.v tx.v (.chan<|some G.dn) true<|(ah.length:Int)*KQ,92⟩ G.dn 0 (λa=>At (aG prog Post bM (σ.iH (ah.map (·.h.g))) 0 os out) 0 (pS G.b 1 hs.v bg.v tx.v (.chan<|some G.dn) true 0::bK jP 1 114 hs (ah.map (·.h.bh))::bK dF 7 190 bg aH::bK EB 3 126 tx aC::
 all (ah.map jy)::dq G.dn (.chan 0 #[] true 0 0 false)::dq G.cb (.cells #[az G.b] 23 (0,0))::F) a) rfl rfl rfl (by rw[func21];rfl) l (by simpa using j.2) ?_ ?_ ⟨(show(7:Nat)≠8 by decide),by simp,by simp⟩ (by simp[nB]) rfl o p (aT:=pS G.b 1 hs.v bg.v tx.v (.chan<|some G.dn) true ((ah.length:Int)*KQ)::bK jP 1 114 hs (ah.map (·.h.bh))::bK dF 7 190 bg aH::bK EB 3 126 tx aC::
 all (ah.map jy)::dq G.dn (.chan 0 #[] true 0 0 false)::dq G.cb (.cells #[az G.b] 23 (0,0))::F) ?_ ?_ ?_ λa h=>h
  .intro i hi;obtain⟨v,d,rfl⟩:=cq.1 hi;exact⟨_,v.h.wk,.nilFunc,.agg #[],k v d,rfl,n v d,9000,λr hr=>leave ⟨rfl,rfl,rfl,rfl,rfl⟩ hr⟩
  .intro i s hi t;obtain⟨v,d,rfl⟩:=m i s hi t;exact cq.2 ⟨v,d,rfl⟩
  .repeat(first|with_reducible exact sT.head|with_reducible apply sT.tail)
  .rw[q];exact sT.head
  .have M:∀ {Fin:aO->Prop} {x:MS},Mt prog true (Gs ⟨G.b,7,8,Xs 1 hs.v bg.v tx.v (.chan<|some G.dn) true<|(ah.length:Int)*KQ,92⟩) (CJ prog ⟨G.b,7,8,Xs 1 hs.v bg.v tx.v (.chan<|some G.dn) true<|(ah.length:Int)*KQ,92⟩ Fin x):=Mt.mw;show CJ _ _ _ _ 900 _;refine M.go ?_;refine M.rg [0,1,2,3] ?_;refine M.mv rfl ?_;refine M.nc rfl ?_;refine M.fa rfl ?_;refine M.Wi (f:=35) rfl ?_;refine Xt b rfl ?_ (by simpa using j.2);unfold fP;rw[cF rfl];show At _ _ _ (gr 21 kd 25 _ _ _ _);refine b.go ?_;refine b.fnA ?_;refine aG.qJ (aI.g dM) ?_;rintro v σ' aT ⟨rfl,rfl,rfl⟩;refine cH ?_;refine b.home (fu:=f21) func21 e rfl ?_;refine dm.cls ⟨G,ah,aH,aC,true⟩ ?_;exact g _ _ _ ⟨rfl,rfl,rfl⟩
def jZ(l:List HV)(k:Int):Option HV:=if k<0 then none else l[k.toNat]?
def EJ(l:List HV)(k:Int):Option Addr:=(jZ l k).map λv=>⟨v.h.bs,0,none⟩
theorem pg{l:List HV}{v:HV}(h:jZ l k=some v):∃ q:Nat,k=q/\∃ a:q<l.length,l[q]=v:=by
 unfold jZ at h;split at h
 .cases h
 .obtain⟨a,e⟩:=dd.1 h;exact⟨k.toNat,ai,a,e⟩
theorem qE{l:List HV}{q:Nat}(a:q<l.length):jZ l (q:Int)=some l[q]:=by unfold jZ;rw[ax ai,gN,cQ a]
variable{R:Nat->aO->Array Obj->Prop}{d:Nat}{As F L:List HP}{g:aO}{l:List HV}{q:Nat}
theorem mq(hi:q<l.length)(hf:Fo (all<|l.map jy) As L)(h:At R d (vh l[q]<|all ((l.eraseIdx q).map jy)::L) g):At R d As g:=
 Ft (f:=jy) hi hf λH s=>h H<|Sat.flat (l:=vh l[q] []) s
theorem Np(hi:q<l.length)(v:HV)(hr:fK (vh v [all ((l.eraseIdx q).map jy)]) As L)(h:At R d (all ((l.set q v).map jy)::L) g):At R d As g:=
 At.perm hr.perm λH s=>(Sj (f:=jy) hi v (.cons .head<|.cons .head .nil) h) H<|Sat.je (l:=vh v []) s
theorem gT(hi:q<l.length)(hr:fK (vh l[q] [all ((l.eraseIdx q).map jy)]) As L)(h:At R d (all (l.map jy)::L) g):At R d As g:=Np hi l[q] hr (by rw[LV];exact h)
variable{σ:Gh}{b:Nat}{m k:Int}{hs:ay}{aH aC dn:Value}{aj:Bool}{st:Int}
theorem nq(hl:l.length<=4):aI prog true (bM.bw σ) 126 #[az b,aF k] [pS b m hs.v aH aC dn aj st,bK jP 1 114 hs (l.map (·.h.bh)),all<|l.map jy]
  (λv As=>v=.pointer (EJ l k)/\As=[pS b m hs.v aH aC dn aj st,bK jP 1 114 hs (l.map (·.h.bh)),all<|l.map jy]):=by
 refine aI.of λR C kd d F c cs a e=>?_;refine cH ?_;have o:(l.map (·.h.bh)).length=l.length:=eM ..;refine gV ?_;refine C.cmp rfl (λh=>?_) λh=>?_
 .refine lu ?_;refine ga ?_;exact C.cG a e ⟨by unfold EJ jZ;rw[aJ ai],rfl⟩
 .refine gV ?_;refine C.qK rfl ?_ (s:=hs) (l:=l.map (·.h.bh)) (f:=jP);refine C.cmp rfl (λi=>?_) λi=>?_
  .refine gV ?_;exact C.cG a e ⟨by unfold EJ jZ;rw[ax ai,L9 ai],rfl⟩
  .refine dT ?_;obtain⟨q,rfl⟩:=mJ (show 0<=k by omega);have g:q<l.length:=ai;have n:(l.map (·.h.bh))[q]'(by omega)=l[q].h.bh:=by simp
   refine mq g Fo.au ?_;refine iE ?_;refine C.du rfl ?_ (s:=hs) (l:=l.map (·.h.bh)) (f:=jP) (j:=q) (v:=az l[q].h.bh) (hj:=by omega) (hv:=by rw[n];rfl);refine fB ?_;refine gT g fK.au ?_;exact C.cG a e ⟨by unfold EJ;rw[qE g],rfl⟩
variable{ao:Bool}
theorem Ce{V:Type}{k:Int}{v:V}:∀ {l:List (Int×V)},(bC l k v).length=if(aB l k).isSome then l.length else l.length+1
 |[]=>rfl
 |p::l=>by
  unfold bC aB;by_cases h:p.1=k
  .simp[h]
  .simp only[ax h,nN,Ce (l:=l)];split<;>rfl
structure MK(m:List (Int×Int))(l:List bO):Prop where
 len:m.length<=l.length
 iff:m.length=l.length↔(l.map (·.k)).Nodup
 key:∀ q,(aB m q).isSome=true↔q∈l.map (·.k)
 vb:∀ q v,aB m q=some v->0<=v/\v<=l.length
theorem MK.zero:MK [] []:=⟨fC _,by simp,by simp[aB],by simp[aB]⟩
theorem MK.add{m:List (Int×Int)}{l:List bO}(h:MK m l)(o:bO):MK (bC m o.k<|(aB m o.k).getD 0+1) (l++[o]):=by
 have h1:=h.len;have d:=h.key o.k;refine⟨?_,?_,λq=>?_,λq v c=>?_⟩
 .rw[Ce,iV,iR];split<;>omega
 .rw[Ce,iV,iR,eW,jc];by_cases e:(aB m o.k).isSome=true
  .rw[aJ e];constructor
   .intro h;omega
   .rintro⟨_,_,h⟩;exact absurd rfl<|h o.k (d.1 e) o.k<|by simp
  .rw[ax e];have g:o.k∉l.map (·.k):=λz=>e<|d.2 z;constructor
   .intro hl;refine⟨h.iff.1 ai,by simp,λa i b f z=>?_⟩;simp at f;subst f;subst z;exact g i
   .rintro⟨j,_⟩;have:=h.iff.2 j;omega
 .rw[gn,eW,bS,jq,ny,dR];by_cases e:q=o.k
  .simp[e]
  .rw[ax e];constructor
   .intro z;exact .inl<|(h.key q).1 z
   .rintro(z|z)
    .exact(h.key q).2 z
    .exact absurd z e
 .rw[gn]at c;rw[iV,iR];by_cases e:q=o.k
  .rw[aJ e]at c;obtain rfl:=cA c;cases k:aB m o.k with
   |none=>simp only[Q5];omega
   |some w=>
    have:=h.vb _ _ k;simp only[iG];omega
  .rw[ax e]at c;have:=h.vb q v c;omega
theorem IL(H:gg I db 67 so O)(hl:O.length<2^43):
  aI prog ao cX 54 #[so.v] [bI I] (λv As=>v=.bool (decide (gw O))/\As=[bI I]):=by
 refine aI.of λR C kd d F c cs b k=>?_;refine vI ?_;refine C.mm .u8 eh rfl λJ=>?_;refine iE ?_;refine C.cN (X:=Nat×List (Int×Int)) (λx=>[(0,so.v),(3,.map<|some J),(7,so.v),(8,aF O.length),(9,aF x.1)]) (λx=>dt .u8 eh J x.2::bI I::F) (λx=>x.1<=O.length/\(∀ j (a:j<O.length),j<x.1->Ke O[j])/\MK x.2 (O.take x.1)) (λx=>O.length-x.1) (0,[]) ⟨rfl,rfl,rfl,rfl,rfl,trivial⟩ ⟨fp _,by intro j _ a;omega,MK.zero⟩ ?_;rintro⟨i,m⟩ e ⟨hi,t,r⟩ K;dsimp only at hi t r⊢;refine bL ?_;refine C.cmp rfl (λu=>?_) λu=>?_
 .refine bL ?_;have n:i<O.length:=by simpa using u
  have W:0<=(aB m O[i].k).getD 0/\(aB m O[i].k).getD 0<=(2:Int)^43:=by
   cases M:aB m O[i].k with
   |none=>simp
   |some w=>
    have:=r.vb _ _ M;rw[nO]at this;simp only[iG];have:((min i O.length:Nat):Int)<=2^43:=ai;omega
  refine bL ?_;refine C.zx rfl λa=>?_;refine C.al rfl λb5=>?_;refine C.vz rfl ?_ (hv:=λv h=>jf.one (f:=db) O[i] v<|by simpa using h);refine fB ?_;have y:((aB m O[i].k).map eh).getD (aF 0)=aF ((aB m O[i].k).getD 0):=by cases aB m O[i].k<;>rfl
  refine C.lkR (co:=false) (g:=eh) (l:=m) (q:=O[i].k) rfl ?_;simp only[fW,eQ];rw[y];refine ga ?_;refine C.mu rfl ?_;refine dY ?_;refine C.cmp rfl (λN=>?_) λN=>?_
  .refine lu ?_;refine iE ?_;refine C.cG b k ⟨?_,rfl⟩;rw[rD (λh=>by have:=(h.1 _<|dG n).1;omega)]
  .refine dT ?_;refine C.cmp rfl (λP=>?_) λP=>?_
   .refine lu ?_;refine dT ?_;refine C.cG b k ⟨?_,rfl⟩;rw[rD (λh=>by have:=(h.1 _<|dG n).2.1;omega)]
   .refine dY ?_;generalize L:O[i].w=z;rcases n8 z with rfl|rfl
    .refine lu ?_;have p:Ke O[i]:=⟨ai,ai,.inl L⟩;refine again K (i+1,bC m O[i].k<|(aB m O[i].k).getD 0+1) ⟨n,λj a A=>?_,by dsimp only;rw[js n];exact r.add _⟩<|dE;rcases LW.1 A with h|rfl
     .exact t j a h
     .exact p
    .refine dY ?_;refine C.cmp rfl (λQ=>?_) λQ=>?_
     .refine iE ?_;refine C.cG b k ⟨?_,rfl⟩;rw[rD (λh=>by
       rcases(h.1 _<|dG n).2.2 with h|h
       .rw[L]at h;cases h
       .omega)]
     .refine oN ?_;have p:Ke O[i]:=⟨ai,ai,.inr ai⟩;refine again K (i+1,bC m O[i].k<|(aB m O[i].k).getD 0+1) ⟨n,λj a A=>?_,by dsimp only;rw[js n];exact r.add _⟩<|dE;rcases LW.1 A with h|rfl
      .exact t j a h
      .exact p
 .refine bL ?_;have S:i=O.length:=by have:¬ i<O.length:=(by simpa using u);omega
  have B:MK m O:=by have:=r;rw[S,L3]at this;exact this
  have T:∀ o∈O,Ke o:=λo H=>by obtain⟨j,a,rfl⟩:=nJ H;exact t j a ai
  have s:=B.iff;refine dT ?_;refine C.cmp rfl (λU=>?_) λU=>?_
  .refine dT ?_;refine C.cmp rfl (λD=>?_) λD=>?_
   .refine gV ?_;refine C.cmp rfl (λE=>?_) λE=>?_
    .refine dT ?_;refine C.cG b k ⟨?_,rfl⟩;rw[wm (show gw O from⟨T,s.1 ai,ai,ai⟩)]
    .refine dT ?_;refine C.cG b k ⟨?_,rfl⟩;rw[rD (λh=>by have:=s.2 h.2.1;omega)]
   .refine vH ?_;refine C.cG b k ⟨?_,rfl⟩;rw[rD (λh=>by have:=h.2.2.2;omega)]
  .refine lu ?_;refine ga ?_;refine C.cG b k ⟨?_,rfl⟩;rw[rD (λh=>by have:=h.2.2.1;omega)]
def Cf(n:Nat)(t:we)(tx:Int):dV:=⟨{bA with kind:=1,aX:= -1,to:=gp t.ops n,tx:=tx,ops:=t.ops},t.so,aV⟩
theorem PA(O:List bO)(n:Int)(h:0<O.length):atR O[0].k n=gp O n:=by
 cases O with
 |nil=>cases h
 |cons o l=>rfl
variable{bg zE:ay}{I:HL}{hl:List Nat}{aH:List dV}{aC:List we}{tx:Nat}
theorem ze(q:1<=hl.length/\hl.length<=4)(r:aH.length<2^30)(t:tx<aC.length)(u:gg I db 67 aC[tx].so aC[tx].ops)(i:np aC[tx].ops/\1<=aC[tx].ops.length):
  aI prog true (bM.bw σ) 56 #[.pointer (some ⟨b,0,none⟩),aF tx] [pS b m hs.v bg.v zE.v dn aj st,bK jP 1 114 hs hl,bK dF 7 190 bg aH,bK EB 3 126 zE aC,bI I]
   (λv As=>∃ j:ay,v=.tuple #[]/\As=[pS b m hs.v j.v zE.v dn aj st,bK jP 1 114 hs hl,bK dF 7 190 j<|aH++[Cf hl.length aC[tx] tx],bK EB 3 126 zE aC,bI I]):=by
 refine aI.of λR C kd d F c cs k l=>?_;refine cH ?_;have f:0<aC[tx].ops.length:=i.2;have w:=i.1.1 _<|dG f;have g:atR aC[tx].ops[0].k (hl.length:Int)=gp aC[tx].ops hl.length:=PA _ _ f;refine mE ?_;refine ga ?_;refine C.C9 (di 13 0 22) 23 [14,17,18,19,22] 3 ?_ (W:=[pS b m hs.v bg.v zE.v dn aj st,bK jP 1 114 hs hl,bI I]);refine nT ?_;refine GA ?_;refine Dr.chain rfl ?_ λ_ s=>dg.sat dg.au s;refine Ch.m 14 (bj λe aa a=>?_);refine C.cE (aI.less (dW σ)<|yp (key:=aC[tx].ops[0].k) (n:=(hl.length:Int)) ai ai) ?_;refine su ?_;rw[g];refine a _ _ qM ?_;refine Ch.q 17 (λh=>C.bd rfl h) ?_;refine Ch.m 18 (bj λe aa a=>?_);refine C.CZ rfl λo=>a _ _ .cons ?_;refine Ch.m 19 (bj λe aa a=>?_);refine C.DR (Cf hl.length aC[tx] tx) rfl λp=>?_;refine a _ _ qM ?_;refine Ch.m 22 (bj λe aa a=>?_);refine C.st rfl<|a _ undef ?_;refine gy ?_;exact C.eY k l ⟨p,rfl,rfl⟩
end
section
open Go.Proofs
def PB(k:Nat):Nat:=[0,1,2,5,6,7,8,9,3].getD k 0
abbrev jQ(a:Nat×Nat):Value:=.iface 339<|.pointer<|some ⟨a.1,a.2,none⟩
structure iX(I:HL)(eb:Nat->Nat×Nat):Prop where
 g:∀ k,k<9->∃ t,I (PB k)=some (.cells #[jQ (eb k)] t (0,0))
 e:∀ k,k<9->∃ c t,I (eb k).1=some (.cells c t (0,0))
 inj:∀ j k,j<9->k<9->eb j=eb k->j=k
 ty:∃ t,I 4=some (.cells #[.iface 231 (.agg #[typeHandle prog 46])] t (0,0))
theorem iX.mono{I':HL}{eb:Nat->Nat×Nat}(h:iX I eb)(hs:Sub I I'):iX I' eb:=
 ⟨λk b=>by obtain⟨t,a⟩:=h.g k b;exact⟨t,hs _ _ a⟩,λk b=>by obtain⟨c,t,a⟩:=h.e k b;exact⟨c,t,hs _ _ a⟩,h.inj,by obtain⟨t,a⟩:=h.ty;exact⟨t,hs _ _ a⟩⟩
theorem ajl(t:aP):shG t 0=false:=by simp[shG]
def Xu(eb:Nat->Nat×Nat):Option Nat->Value
 |none=>.nilIface
 |some k=>jQ<|eb k
open Go.Conc
def K9(eb:Nat->Nat×Nat)(I:HL)(n:Nat)(O:List bO)(aH:List dV)(aC:List we)(er:Option Nat)(t:Int)(I':HL)(iY:List dV)(iZ:List we):Prop:=
 Sub I I'/\((¬ gw O/\er=some 1/\t=0/\iY=aH/\iZ=aC)\/(gw O/\(aC.length=60\/400<=aH.length)/\er=some 2/\t=0/\iY=aH/\iZ=aC)\/
  (gw O/\¬ (aC.length=60\/400<=aH.length)/\er=none/\t=aC.length/\∃ s7,gg I' db 67 s7 O/\iZ=aC++[⟨⟨O,1,[]⟩,s7,aV⟩]/\iY=aH++[Cf n ⟨⟨O,1,[]⟩,s7,aV⟩ aC.length]))
theorem jm(σ:Gh)(t:aP):(bM.bw σ).sh t 0=false:=ajl t
variable{σ:Gh}{b bo bc bt:Nat}{so hs bg zE:ay}{dn:Value}{st:Int}{I J:HL}{hl:List Nat}{aH:List dV}{aC:List we}{eb:Nat->Nat×Nat}{O:List bO}
theorem PC(w:iX I eb)(L:1<=hl.length/\hl.length<=4)(S:aH.length<2^20)(T:aC.length<=60)(i:gg J db 67 so O)(x:O.length<2^43):
  aI prog true (bM.bw σ) 53 #[az bo,az bc,az bt] [dq bo (.cells #[so.v] 36 (0,0)),dq bc<|.cells #[az b] 23 (0,0),dq bt<|.cells #[aF 0] 3 (0,0),pS b 1 hs.v bg.v zE.v dn false st,bK jP 1 114 hs hl,bK dF 7 190 bg aH,bK EB 3 126 zE aC,bI I,bI J]
   (λv As=>∃ (l j:ay) (er:Option Nat) (t:Int) (I':HL) (y:List dV) (A:List we),v=Xu eb er/\K9 eb I hl.length O aH aC er t I' y A/\As=[dq bt (.cells #[aF t] 3 (0,0)),pS b 1 hs.v l.v j.v dn false st,bK jP 1 114 hs hl,bK dF 7 190 l y,bK EB 3 126 j A,bI I',bI J]):=by
 refine aI.of λR C kd d F c cs n p=>?_;refine cH ?_;obtain⟨t1,q⟩:=w.g 1 (by decide);obtain⟨t2,B⟩:=w.g 2 (by decide);refine gV ?_;refine C.cE (aI.less (dW σ)<|IL i x) ?_;refine cH ?_;generalize D:decide (gw O)=z;rcases n8 z with rfl|rfl
 .refine dT ?_;have g:gw O:=by simpa using D
  refine gV ?_;refine C.cmp rfl (λM=>?_) λM=>?_
  .refine mE ?_;refine C.xX Fo.au B (jm _ _) rfl ?_;refine bL ?_;exact C.cG n p ⟨bg,zE,some 2,0,I,aH,aC,rfl,⟨Sub.refl _,.inr<|.inl ⟨g,.inl ai,rfl,rfl,rfl,rfl⟩⟩,rfl⟩
  .refine gV ?_;refine C.cmp rfl (λN=>?_) λN=>?_
   .refine dY ?_;refine C.xX Fo.au B (jm _ _) rfl ?_;refine bL ?_;exact C.cG n p ⟨bg,zE,some 2,0,I,aH,aC,rfl,⟨Sub.refl _,.inr<|.inl ⟨g,.inr ai,rfl,rfl,rfl,rfl⟩⟩,rfl⟩
   .refine mE ?_;refine C.C9 (di 28 0 12) 13 [6,7,8,9,12] 4 ?_ (W:=[pS b 1 hs.v bg.v zE.v dn false st,dq bc<|.cells #[az b] 23 (0,0),dq bo<|.cells #[so.v] 36 (0,0),bI I,bI J]);refine GA ?_;refine Dr.chain rfl ?_ λ_ s=>dg.sat dg.au s;refine Ch.m 6 (bj λe aa a=>?_);refine C.fZ (aI.less (dW σ)<|vU i x) ?_;rintro v aT ⟨h,rfl,rfl⟩;refine cH ?_;refine a _ _ qM ?_;refine Ch.m 7 (bj λe aa a=>?_);refine ga ?_
    skip
    refine a _ _ .refl ?_;refine Ch.m 8 (bj λe aa a=>?_);refine C.CZ rfl λP=>a _ _ .cons ?_;refine Ch.m 9 (bj λe aa a=>?_);refine C.DR (we.mk ⟨O,1,[]⟩ h aV) rfl λE=>?_;refine a _ _ qM ?_;refine Ch.m 12 (bj λe aa a=>?_);refine C.st rfl<|a _ undef ?_;refine gy ?_;refine At.Si (I:=I) (s:=h) (f:=db) Fo.au Fo.au λH Q k=>?_;have r:np O:=⟨λo i=>⟨(g.1 o i).1,(g.1 o i).2.1⟩,by have:=g.2.2.2;omega⟩;have K:=ze (σ:=σ) (b:=b) (m:=1) (hs:=hs) (bg:=bg) (zE:=E) (dn:=dn) (aj:=false) (st:=st) (I:=H) (hl:=hl) (aH:=aH) (aC:=aC++[we.mk ⟨O,1,[]⟩ h aV]) (tx:=aC.length) L ai (by simp) (by simp only[Rj (fC _),Ar];exact k) (by simp only[Rj (fC _),Ar];exact⟨r,g.2.2.1⟩);have u:(aC++[we.mk ⟨O,1,[]⟩ h aV])[aC.length]'(by simp)=we.mk ⟨O,1,[]⟩ h aV:=by simp
    simp only[u]at K;refine dT ?_;refine C.fZ K ?_;rintro v aT ⟨l,rfl,rfl⟩;refine Ei ?_;exact C.cG n p ⟨l,E,none,aC.length,H,_,_,rfl,⟨Q,.inr<|.inr ⟨g,ai,rfl,rfl,h,k,rfl,rfl⟩⟩,rfl⟩
 .refine dY ?_;refine C.xX Fo.au q (jm _ _) rfl ?_;refine bL ?_;exact C.cG n p ⟨bg,zE,some 1,0,I,aH,aC,rfl,⟨Sub.refl _,.inl ⟨by simpa using D,rfl,rfl,rfl,rfl⟩⟩,rfl⟩
def T9(eb:Nat->Nat×Nat)(name:Value)(at_:Int):Option Nat->Value->List HP->Prop
 |none,v,L=>v=.nilIface/\L=[]
 |some k,v,L=>∃ bE,v=.iface 128 (az bE)/\L=[dq bE (.cells #[name,aF at_,jQ<|eb k] 132 (0,0))]
theorem fK.app{F:List HP}:∀ A:List HP,fK A (A++F) F
 |[]=>.nil
 |a::A=>.cons .head<|fK.app A
theorem EK{σ:Gh}{c:CV}{f:bN}{fu:Func}{code:Code}{nf:Nat}[bd:Body prog f fu code nf]{caps:Array Value}{I:HL}{eb:Nat->Nat×Nat}{nm:ByteArray}{at_:Int}{A:List HP}{Q:Option Nat->Gh->CV->HL->List HP->Prop}(n:iX I eb)
  (hf:c.aj=false->bB prog bM f (#[]++([]:List Value).toArray++caps) σ (tQ 1 c::bI I::A) (λv σ' As=>∃ er c' I' A',v=Xu eb er/\(∀ k,er=some k->k<9)/\As=tQ 1 c'::bI I'::A'/\c'.G.b=c.G.b/\Q er σ' c' I' A')):
  bB prog bM 52 #[az c.G.b,.string nm,aF at_,.func (.func f) #[] caps] σ (dm c::bI I::A)
   (λv σ' As=>∃ er c' I' A' L,T9 eb (.string nm) at_ er v L/\As=dm c'::bI I'::(L++A')/\((c.aj=true/\er=some 8/\σ'=σ/\c'=c/\I'=I/\A'=A)\/(c.aj=false/\Q er σ' c' I' A'))):=by
 refine bB.of ?_;intro Post os out kd F c' cs C b d;refine cH ?_;obtain⟨r,e⟩:=n.g 8 (by decide);obtain⟨G,ah,aH,aC,aj⟩:=c;refine dm.opn (h:=λhs bg tx=>?_);refine oN ?_;refine C.cE fV ?_;refine vI ?_;refine C.df rfl ?_;refine bL ?_;refine C.xX (v:=jQ<|eb 8) Fo.au e (jm _ _) rfl ?_;refine pP ?_;cases aj with
 |true=>
  refine dT ?_;refine C.YX underlying46 rfl ?_;refine iE ?_;refine C.bx rfl λbE=>?_;refine dT ?_;refine C.Hq ?_;refine aG.qJ (aI.g dM) ?_;rintro v σ' aT ⟨rfl,rfl,rfl⟩;refine cH ?_;refine C.home (fu:=f52) func52 b rfl ?_;refine dm.cls (m:=0) ⟨G,ah,aH,aC,true⟩ ?_;refine At.mN ?_<|d _ _ _ ⟨some 8,⟨G,ah,aH,aC,true⟩,I,A,[dq bE (.cells #[.string nm,aF at_,jQ<|eb 8] 132 (0,0))],⟨bE,rfl,rfl⟩,rfl,.inl ⟨rfl,rfl,rfl,rfl,rfl,rfl⟩⟩;exact dg.au
 |false=>
  refine dT ?_;refine dm.cls (m:=1) ⟨G,ah,aH,aC,false⟩ ?_;refine aG.cl (hf rfl) ?_ (hr:=.cons .head<|.cons .head<|fK.app A);rintro v σ' aT ⟨er,a,i,j,rfl,s,rfl,o,l⟩;have C:ab prog true (bM.bw σ') (aG prog Post bM σ' 0 os out):=aG.eL;refine Ei ?_;refine dm.opn (m:=1) (c:=a) (h:=λt p q=>?_);rw[<- o];cases er with
  |none=>
   refine C.aay underlying46 rfl ?_;refine fB ?_;refine C.Hq ?_;refine aG.qJ (aI.g dM) ?_;rintro v g aT ⟨rfl,rfl,rfl⟩;refine cH ?_;refine C.home (fu:=f52) func52 b rfl ?_;refine dm.cls (m:=0) a ?_;refine At.mN ?_<|d _ _ _ ⟨none,a,i,j,[],⟨rfl,rfl⟩,rfl,.inr ⟨rfl,l⟩⟩;exact dg.au
  |some k=>
   refine C.YX underlying46 rfl ?_;refine iE ?_;refine C.bx rfl λbE=>?_;refine dT ?_;refine C.Hq ?_;refine aG.qJ (aI.g dM) ?_;rintro v g aT ⟨rfl,rfl,rfl⟩;refine cH ?_;refine C.home (fu:=f52) func52 b rfl ?_;refine dm.cls (m:=0) a ?_;refine At.mN ?_<|d _ _ _ ⟨some k,a,i,j,[dq bE (.cells #[.string nm,aF at_,jQ<|eb k] 132 (0,0))],⟨bE,rfl,rfl⟩,rfl,.inr ⟨rfl,l⟩⟩;exact dg.au
end
section
open Go.Proofs Go.Conc
structure TxJ(I:HL)(t:we):Prop where
 o:gg I db 67 t.so t.ops
 r:gg I dk 21 t.sr t.reads
 z:t.reads.length<2^20
structure wh(I:HL)(c:CV):Prop where
 aH:∀ m∈c.aH,lJ I m
 aC:∀ t∈c.aC,TxJ I t
 sh:∀ v∈c.ah,ShJ I v.s
theorem TxJ.mono{I I':HL}{t:we}(hs:Sub I I')(h:TxJ I t):TxJ I' t:=⟨h.o.mono hs,h.r.mono hs,h.z⟩
theorem wh.mono{I I':HL}{c:CV}(hs:Sub I I')(h:wh I c):wh I' c:=⟨λm a=>(h.aH m a).mono hs,λt b=>(h.aC t b).mono hs,λv d=>(h.sh v d).mono hs⟩
theorem Ua{c:CV}(d:c.ah.length<=4):bB prog bM 76 #[az c.G.b,aF k] σ [dm c] (λv σ' As=>σ'=σ/\v=.bool (((jZ c.ah k).map (·.s.up)).getD false)/\As=[dm c]):=by
 refine bB.of ?_;intro Post os out kd F c' cs C e f;refine cH ?_;obtain⟨G,ah,aH,aC,aj⟩:=c;refine dm.opn (h:=λhs bg tx=>?_);cases a:jZ ah k with
 |none=>
  have b:EJ ah k=none:=by unfold EJ;rw[a];rfl
  refine oN ?_;refine C.cE fV ?_;refine vI ?_;refine C.df rfl ?_;refine dY ?_;refine C.cE (nq (l:=ah) d) ?_;refine cH ?_;rw[b];refine lu ?_;refine C.Hq ?_;refine aG.qJ (aI.g dM) ?_;rintro v σ' aT ⟨rfl,rfl,rfl⟩;refine cH ?_;refine C.home (fu:=f76) func76 e rfl ?_;refine dm.cls (m:=0) ⟨G,ah,aH,aC,aj⟩ ?_;exact f _ _ _ ⟨rfl,by rw[a];rfl,rfl⟩
 |some v0=>
  obtain⟨q,rfl,g,rfl⟩:=pg a;have b:EJ ah (q:Int)=some ⟨ah[q].h.bs,0,none⟩:=by unfold EJ;rw[a];rfl
  refine oN ?_;refine C.cE fV ?_;refine vI ?_;refine C.df rfl ?_;refine dY ?_;refine C.cE (nq (l:=ah) d) ?_;refine cH ?_;rw[b];refine pP ?_;refine mq g Fo.au ?_;refine dB.opn (s:=ah[q].s) (h:=λlg wt i tm j n o p r t u w=>?_);refine ga ?_;refine dB.cls ah[q].s ?_;refine gT g fK.au ?_;refine dT ?_;refine C.Hq ?_;refine aG.qJ (aI.g dM) ?_;rintro v σ' aT ⟨rfl,rfl,rfl⟩;refine cH ?_;refine C.home (fu:=f76) func76 e rfl ?_;refine dm.cls (m:=0) ⟨G,ah,aH,aC,aj⟩ ?_;exact f _ _ _ ⟨rfl,by rw[a];rfl,rfl⟩
theorem F5{c:CV}(f:c.ah.length<=4):bB prog bM 80 #[az c.G.b,aF k] σ [dm c] (λv σ' As=>σ'=σ/\∃ b' a,v=.map (some b')/\(match jZ c.ah k with|none=>a=[]|some v=>a.Perm (v.s.values.filter λp=>p.2 != 0))/\As=[dt .u8 fT b' a,dm c]):=by
 refine bB.of ?_;intro Post os out kd F c' cs C g i;refine cH ?_;obtain⟨G,ah,aH,aC,aj⟩:=c;refine dm.opn (h:=λhs bg tx=>?_);cases b:jZ ah k with
 |none=>
  have d:EJ ah k=none:=by unfold EJ;rw[b];rfl
  refine oN ?_;refine C.cE fV ?_;refine vI ?_;refine C.df rfl ?_;refine dY ?_;refine C.cE (nq (l:=ah) f) ?_;refine cH ?_;rw[d];refine oN ?_;refine C.mm .u8 fT rfl λe=>?_;refine bL ?_;refine C.Hq ?_;refine aG.qJ (aI.g dM) ?_;rintro v σ' aT ⟨rfl,rfl,rfl⟩;refine cH ?_;refine C.home (fu:=f80) func80 g rfl ?_;refine dm.cls (m:=0) ⟨G,ah,aH,aC,aj⟩ ?_;refine At.mN ?_ (i _ _ _ ⟨rfl,e,[],rfl,by rw[b],rfl⟩);exact dg.au
 |some v0=>
  obtain⟨q,rfl,j,rfl⟩:=pg b;have d:EJ ah (q:Int)=some ⟨ah[q].h.bs,0,none⟩:=by unfold EJ;rw[b];rfl
  refine oN ?_;refine C.cE fV ?_;refine vI ?_;refine C.df rfl ?_;refine dY ?_;refine C.cE (nq (l:=ah) f) ?_;refine cH ?_;rw[d];refine pP ?_;refine mq j Fo.au ?_;refine C.fZ (aI.less (dW _)<|FZ (s:=ah[q].s)) ?_;rintro v aT ⟨b',a,rfl,n,rfl⟩;refine cH ?_;refine gT j fK.au ?_;refine bL ?_;refine C.Hq ?_;refine aG.qJ (aI.g dM) ?_;rintro v σ' aT ⟨rfl,rfl,rfl⟩;refine cH ?_;refine C.home (fu:=f80) func80 g rfl ?_;refine dm.cls (m:=0) ⟨G,ah,aH,aC,aj⟩ ?_;refine At.mN ?_ (i _ _ _ ⟨rfl,b',a,rfl,by rw[b];exact n,rfl⟩);exact dg.au
theorem IM{c:CV}(f:c.ah.length<=4):bB prog bM 128 #[az c.G.b,aF k] σ [dm c] (λv σ' As=>σ'=σ/\∃ b' a,v=.map (some b')/\(match jZ c.ah k with|none=>a=[]|some v=>a.Perm v.s.aQ)/\As=[dt .u8 eh b' a,dm c]):=by
 refine bB.of ?_;intro Post os out kd F c' cs C g i;refine cH ?_;obtain⟨G,ah,aH,aC,aj⟩:=c;refine dm.opn (h:=λhs bg tx=>?_);cases b:jZ ah k with
 |none=>
  have d:EJ ah k=none:=by unfold EJ;rw[b];rfl
  refine oN ?_;refine C.cE fV ?_;refine vI ?_;refine C.df rfl ?_;refine dY ?_;refine C.cE (nq (l:=ah) f) ?_;refine cH ?_;rw[d];refine oN ?_;refine C.mm .u8 eh rfl λe=>?_;refine bL ?_;refine C.Hq ?_;refine aG.qJ (aI.g dM) ?_;rintro v σ' aT ⟨rfl,rfl,rfl⟩;refine cH ?_;refine C.home (fu:=f128) func128 g rfl ?_;refine dm.cls (m:=0) ⟨G,ah,aH,aC,aj⟩ ?_;refine At.mN ?_ (i _ _ _ ⟨rfl,e,[],rfl,by rw[b],rfl⟩);exact dg.au
 |some v0=>
  obtain⟨q,rfl,j,rfl⟩:=pg b;have d:EJ ah (q:Int)=some ⟨ah[q].h.bs,0,none⟩:=by unfold EJ;rw[b];rfl
  refine oN ?_;refine C.cE fV ?_;refine vI ?_;refine C.df rfl ?_;refine dY ?_;refine C.cE (nq (l:=ah) f) ?_;refine cH ?_;rw[d];refine pP ?_;refine mq j Fo.au ?_;refine C.fZ (aI.less (dW _)<|II (s:=ah[q].s)) ?_;rintro v aT ⟨b',a,rfl,n,rfl⟩;refine cH ?_;refine gT j fK.au ?_;refine bL ?_;refine C.Hq ?_;refine aG.qJ (aI.g dM) ?_;rintro v σ' aT ⟨rfl,rfl,rfl⟩;refine cH ?_;refine C.home (fu:=f128) func128 g rfl ?_;refine dm.cls (m:=0) ⟨G,ah,aH,aC,aj⟩ ?_;refine At.mN ?_ (i _ _ _ ⟨rfl,b',a,rfl,by rw[b];exact n,rfl⟩);exact dg.au
theorem Dh{c:CV}(e:c.ah.length<=4)(i:wh I c)(j:∀ v∈c.ah,v.s.log.length<2^30):bB prog bM 89 #[az c.G.b,aF k] σ [dm c,bI I] (λv σ' As=>σ'=σ/\∃ (sl:ay) (rs:List vR) (aE:Int),v=.tuple #[sl.v,aF aE]/\(match jZ c.ah k with|none=>rs=[]/\aE=0|some v=>rs.map (·.toRecR)=v.s.log.map (·.abs.aZ)/\aE=v.s.aE)/\As=[bK recC 6 167 sl rs,all<|rs.map uT,dm c,bI I]):=by
 refine bB.of ?_;intro Post os out kd F c' cs C f g;refine cH ?_;obtain⟨G,ah,aH,aC,aj⟩:=c;refine dm.opn (h:=λhs bg tx=>?_);cases a:jZ ah k with
 |none=>
  have d:EJ ah k=none:=by unfold EJ;rw[a];rfl
  refine pP ?_;refine C.cE fV ?_;refine vI ?_;refine C.df rfl ?_;refine dY ?_;refine C.cE (nq (l:=ah) e) ?_;refine cH ?_;rw[d];refine mE ?_;refine C.Hq ?_;refine aG.qJ (aI.g dM) ?_;rintro v σ' aT ⟨rfl,rfl,rfl⟩;refine cH ?_;refine C.home (fu:=f89) func89 f rfl ?_;refine At.aV recC 6 167<|At.He (show At (aG prog Post bM _ 0 os out) 0 (all (([]:List vR).map uT)::_) _ from ?_);refine dm.cls (m:=0) ⟨G,ah,aH,aC,aj⟩ ?_;refine At.mN ?_ (g _ _ _ ⟨rfl,aV,[],0,rfl,by rw[a];exact⟨rfl,rfl⟩,rfl⟩);exact dg.au
 |some v0=>
  obtain⟨q,rfl,b,rfl⟩:=pg a;have d:EJ ah (q:Int)=some ⟨ah[q].h.bs,0,none⟩:=by unfold EJ;rw[a];rfl
  refine pP ?_;refine C.cE fV ?_;refine vI ?_;refine C.df rfl ?_;refine dY ?_;refine C.cE (nq (l:=ah) e) ?_;refine cH ?_;rw[d];refine pP ?_;refine mq b Fo.au ?_;refine C.fZ (aI.less (dW _)<|Dg (i.sh _<|dG b)<|j _<|dG b) ?_;rintro v aT ⟨sl,rs,rfl,n,rfl⟩;refine cH ?_;refine gT b fK.au ?_;refine fB ?_;refine C.Hq ?_;refine aG.qJ (aI.g dM) ?_;rintro v σ' aT ⟨rfl,rfl,rfl⟩;refine cH ?_;refine C.home (fu:=f89) func89 f rfl ?_;refine dm.cls (m:=0) ⟨G,ah,aH,aC,aj⟩ ?_;refine At.mN ?_ (g _ _ _ ⟨rfl,sl,rs,ah[q].s.aE,rfl,by rw[a];exact⟨n,rfl⟩,rfl⟩);exact dg.au
def IP(l:List we)(k:Int):Option we:=if k<0 then none else l[k.toNat]?
theorem xA{c:CV}(j:wh I c)(hl:c.aC.length<=60):bB prog bM 39 #[az c.G.b,aF k] σ [dm c,bI I]
  (λv σ' As=>σ'=σ/\∃ (sl:ay) (n:Int) (rd:List Int),v=.tuple #[aF n,sl.v]/\(match IP c.aC k with|none=>n=0/\rd=[]|some t=>n=t.state/\rd=t.reads)/\As=[bK dk 1 21 sl rd,dm c,bI I]):=by
 refine bB.of ?_;intro Post os out kd F c' cs C b d;refine cH ?_;obtain⟨G,ah,aH,aC,aj⟩:=c;refine dm.opn (h:=λhs bg tx=>?_);dsimp only at hl;refine pP ?_;refine C.cE fV ?_;refine vI ?_;refine C.df rfl ?_;refine dT ?_;refine C.cmp rfl (λa=>?_) λa=>?_
 .refine lu ?_;refine bL ?_;refine C.Hq ?_;refine aG.qJ (aI.g dM) ?_;rintro v σ' aT ⟨rfl,rfl,rfl⟩;refine cH ?_;refine C.home (fu:=f39) func39 b rfl ?_;refine At.aV dk 1 21 ?_;refine dm.cls (m:=0) ⟨G,ah,aH,aC,aj⟩ ?_;refine At.mN ?_ (d _ _ _ ⟨rfl,aV,0,[],rfl,by unfold IP;rw[aJ a];exact⟨rfl,rfl⟩,rfl⟩);exact dg.au
 .refine gV ?_;refine C.qK rfl ?_ (s:=tx) (l:=aC) (f:=EB);refine C.cmp rfl (λo=>?_) λo=>?_
  .refine iE ?_;refine C.Hq ?_;refine aG.qJ (aI.g dM) ?_;rintro v σ' aT ⟨rfl,rfl,rfl⟩;refine cH ?_;refine C.home (fu:=f39) func39 b rfl ?_;refine At.aV dk 1 21 ?_;refine dm.cls (m:=0) ⟨G,ah,aH,aC,aj⟩ ?_;refine At.mN ?_ (d _ _ _ ⟨rfl,aV,0,[],rfl,by unfold IP;rw[ax a,L9 (show aC.length<=k.toNat by omega)];exact⟨rfl,rfl⟩,rfl⟩);exact dg.au
  .refine dT ?_;obtain⟨q,rfl⟩:=mJ (show 0<=k by omega);have g:q<aC.length:=ai;have p:gg I dk 21 aC[q].sr aC[q].reads:=(j.aC _<|dG g).r;have i:aC[q].reads.length<2^20:=(j.aC _<|dG g).z;refine C.C9 (di 24 0 17++[(4,17),(5,18)]) 19 [16,18] 2 ?_ (W:=[pS G.b 1 hs.v bg.v tx.v (.chan<|some G.dn) aj (CV.st ⟨G,ah,aH,aC,aj⟩),bK EB 3 126 tx aC]);refine nT ?_;refine oB ?_;refine Dr.chain rfl ?_ λ_ s=>dg.sat dg.au s;refine Ch.m 16 (bj λe aa r=>?_);refine C.fZ (aI.less (dW _)<|rk p<|Nat.lt_trans i<|by decide) ?_;rintro v aT ⟨s',rfl,rfl⟩;refine cH ?_;refine r _ _ qM ?_;refine Ch.q 18 (λh=>C.pN rfl h) ?_;refine gy ?_;refine C.Hq ?_;refine aG.qJ (aI.g dM) ?_;rintro v σ' aT ⟨rfl,rfl,rfl⟩;refine cH ?_;refine C.home (fu:=f39) func39 b rfl ?_;refine dm.cls (m:=0) ⟨G,ah,aH,aC,aj⟩ ?_;refine At.mN ?_ (d _ _ _ ⟨rfl,s',aC[q].state,aC[q].reads,rfl,by unfold IP;rw[ax a,gN,cQ g];exact⟨rfl,rfl⟩,rfl⟩);exact dg.au
theorem IQ{ao:Bool}{l:List dV}(hl:l.length<2^40):aI prog ao cX 127 #[lg.v] [bK dF 7 190 lg l] (λv As=>∃ s':ay,v=s'.v/\As=[bK dF 7 190 s' l,bK dF 7 190 lg l]):=by
 refine aI.of λR C kd d F c cs b e=>?_;refine cH ?_;refine At.aeS (s:=lg) (l:=l) (f:=dF) Fo.au ?_ ?_
 .rintro rfl rfl;refine gV ?_;refine C.YY rfl ?_ (a:=none) (len:=0) (cap:=0);refine fB ?_;refine At.aV dF 7 190 ?_;exact C.cG b e ⟨aV,rfl,rfl⟩
 .intro h1 h;have g:lg.v=.slice (some ⟨lg.b,0,none⟩) lg.len lg.cap:=by unfold ay.v;rw[h1]
  refine gV ?_;refine C.YY rfl ?_ (a:=some ⟨lg.b,0,none⟩) (len:=lg.len) (cap:=lg.cap) (hx:=g);refine dT ?_;refine C.bs0 dF rfl λb5=>?_;refine ga ?_;refine C.YR (l:=[]) l rfl (λs'=>?_) (hsrc:=λH st=>?_) (s:=⟨some ⟨b5,0,none⟩,0,0⟩)
  .refine bL ?_;exact C.cG b e ⟨s',rfl,rfl⟩
  .exact ez.src (ez.own (s:=lg) Fo.au) st λj=>rfl
abbrev IT(m:dV):HP:=all [bK db 3 67 m.so m.ops,bK dk 1 21 m.sr m.reads]
variable{R:Nat->aO->Array Obj->Prop}{d:Nat}{As F L:List HP}{g:aO}{ms:List dV}
theorem Xv(m:dV)(hr:fK [bK db 3 67 m.so m.ops,bK dk 1 21 m.sr m.reads,all<|ms.map IT] As L)(h:At R d (all ((ms++[m]).map IT)::L) g):At R d As g:=
 At.perm hr.perm λH s=>(zU (f:=IT) m (.cons .head<|.cons .head .nil) h) H<|Sat.je (l:=[bK db 3 67 m.so m.ops,bK dk 1 21 m.sr m.reads]) s
theorem PD{c:CV}(B:wh I c)(z:∀ m∈c.aH,m.ops.length<2^20)(hl:c.aH.length<2^30):bB prog bM 77 #[az c.G.b] σ [dm c,bI I]
  (λv σ' As=>σ'=σ/\∃ (sl:ay) (ms:List dV),v=sl.v/\ms.map (·.toMsgR)=c.aH.map (·.toMsgR)/\As=[bK dF 7 190 sl ms,all<|ms.map IT,dm c,bI I]):=by
 refine bB.of ?_;intro Post os out kd F c' cs C D E;refine cH ?_;obtain⟨G,ah,aH,aC,aj⟩:=c;have q:∀ m∈aH,lJ I m:=B.aH;refine dm.opn (h:=λhs bg tx=>?_);dsimp only at hl z;refine oN ?_;refine C.cE fV ?_;refine vI ?_;refine C.df rfl ?_;refine gV ?_;refine C.fZ (aI.less (dW _)<|IQ (lg:=bg) (l:=aH) ai) ?_;rintro v aT ⟨n,rfl,rfl⟩;refine cH ?_;refine dm.cls (m:=1) ⟨G,ah,aH,aC,aj⟩ ?_;refine dY ?_;refine C.qK rfl ?_ (s:=n) (l:=aH) (f:=dF);refine bL ?_;refine At.He (show At (aG prog Post bM σ 0 os out) 0 (all (([]:List dV).map IT)::_) _ from ?_);refine C.cN (X:=Nat×List dV) (λx=>[(0,az G.b),(3,n.v),(18,n.v),(19,aF aH.length),(20,aF x.1)]) (λx=>bK dF 7 190 n (x.2++aH.drop x.1)::all (x.2.map IT)::tQ 1 ⟨G,ah,aH,aC,aj⟩::bI I::F) (λx=>x.1<=aH.length/\x.2.map (·.toMsgR)=(aH.take x.1).map (·.toMsgR)) (λx=>aH.length-x.1) (0,[]) ⟨rfl,rfl,rfl,rfl,rfl,trivial⟩ ⟨fp _,rfl⟩ ?_ (hI:=by rw[ek,QU];exact dg.au);rintro⟨i,ms⟩ e ⟨hi,r⟩ H;dsimp only at hi r⊢;have t:ms.length=i:=by have:=congrArg List.length r;rw[eM,eM,nO]at this;omega
 refine bL ?_;refine C.cmp rfl (λk=>?_) λk=>?_
 .refine bL ?_;have b:i<aH.length:=by simpa using k
  have a:i<(ms++aH.drop i).length:=by simp;omega
  have A:(ms++aH.drop i)[i]'a=aH[i]:=by rw[Rj ai];simp[t]
  have J:=(q _<|dG b).o;have u:=(q _<|dG b).r;have w:=(q _<|dG b).z;have y:=z _<|dG b;refine dT ?_;refine C.zx rfl (λM=>?_) (s:=n) (l:=ms++aH.drop i) (j:=i) (hj:=a);rw[A];simp only[dF];refine C.al rfl λb5=>?_;refine dT ?_;refine C.C9 (di 25 0 12++[(37,13),(38,14)]) 16 [6,9,10,11,12,13,14,15] 4 ?_ (W:=[oH b5 (aH[i]'b),bI I]);refine GA ?_;refine Dr.chain rfl ?_ λ_ s=>dg.sat dg.au s;refine Ch.m 6 (bj λe aa d=>?_);refine C.fZ (aI.less (dW _)<|vU J<|Nat.lt_trans y<|by decide) ?_;rintro v aT ⟨p,rfl,rfl⟩;refine cH ?_;refine d _ _ qM ?_;refine Ch.m 9 (bj λe aa d=>?_);refine C.fZ (aI.less (dW _)<|rk u<|Nat.lt_trans w<|by decide) ?_;rintro v aT ⟨g,rfl,rfl⟩;refine cH ?_;refine d _ _ qM ?_;refine Ch.m 10 (bj λe aa d=>?_);refine C.dZ rfl<|d _ _ .refl ?_;refine Ch.q 11 (λh=>C.fa rfl h) ?_;refine Ch.m 12 (bj λe aa d=>?_);refine C.YS (s:=n) (l:=ms++aH.drop i) (j:=i) (o:=5) ({(aH[i]'b)with so:=p}:dV) rfl ?_ (hj:=a) (ha:=by rw[A];rfl);refine d _ undef qM ?_;refine Ch.m 13 (bj λe aa d=>?_);refine C.dZ rfl (d _ _ ?_) (hj:=by rw[eF];exact a);refine Ch.q 14 (λh=>C.fa rfl h) ?_;refine Ch.m 15 (bj λe aa d=>?_);refine C.YS (s:=n) (l:=(ms++aH.drop i).set i {(aH[i]'b)with so:=p}) (j:=i) (o:=6) ({(aH[i]'b)with so:=p,sr:=g}:dV) rfl (d _ undef ?_) (hj:=by rw[eF];exact a) (ha:=by rw[Rk];rfl);refine Bw ?_;refine Xv (ms:=ms) ({(aH[i]'b)with so:=p,sr:=g}:dV) fK.au ?_;refine again H (i+1,ms++[({(aH[i]'b)with so:=p,sr:=g}:dV)]) ⟨b,?_⟩ (dE) (hr:=?_)
  .rw[js b,eW,eW,r];rfl
  .have e1:((ms++aH.drop i).set i ({(aH[i]'b)with so:=p}:dV)).set i ({(aH[i]'b)with so:=p,sr:=g}:dV)=(ms++[({(aH[i]'b)with so:=p,sr:=g}:dV)])++aH.drop (i+1):=by rw[List.set_set,ZP _ _ ai,t,Ar,sA b,uK,rT];rfl
   rw[e1];exact dg.au
 .refine gV ?_;have K:aH.drop i=[]:=pX (by simp at k;omega);have L:aH.take i=aH:=lA (by simp at k;omega);rw[K,lS];rw[L]at r;refine C.Hq ?_;refine dm.opn (m:=1) (c:=⟨G,ah,aH,aC,aj⟩) (h:=λhs bg tx=>?_);refine aG.qJ (aI.g dM) ?_;rintro v σ' aT ⟨rfl,rfl,rfl⟩;refine cH ?_;refine C.home (fu:=f77) func77 D rfl ?_;refine dm.cls (m:=0) ⟨G,ah,aH,aC,aj⟩ ?_;refine At.mN ?_<|E _ _ _ ⟨rfl,n,ms,rfl,r,rfl⟩;exact dg.au
variable{ao:Bool}
variable{P:bT}{B:lM}{W:List HP}
variable{fn:bN}{kd:Kd}{n:Nat}{e:Nat->Value}{ds:List eK}{k:List Item}{cs:List Frame}
variable{O:Array Oper}{i:Nat}{aa:List Nat}{t:Nat}{ty:aP}{pos:String}{af:Array Edge}{gd:Option (Nat×Bool)}{x:dp}{v:Value}{b off:Nat}{c:Array Value}{el tt:aP}
theorem Ext.PE{o:Obj}(h:Ext As W)(hf:Fo (bI I) W L)(hI:I b=some o):Kn As b o:=λ_ st=>((h _ st).perm hf.perm).sR hI
theorem ab.ldK(C:ab P ao B R){fr:Nat×Nat}[Ag P tt false](a:Kn As b (.cells c el fr))(hs:b<B.bot)(hc:c[off]? =some v)(f:bk O i=some ⟨some t,.load tt x,ty,pos,af,gd⟩)(h:At R d As (gr fn kd n (put e t v) ds (.inRegion O aa::k) cs))
  (hx:ev n e x=.pointer (some ⟨b,off,none⟩):=by rfl) (g:aN O n e gd=true:=by rfl):At R d As (gr fn kd n e ds (.inRegion O (i::aa)::k) cs):=
 C.gen f g λH st=>by unfold execOp;simp only[hx,Instr.loadAt,Instr.sureAddr];exact ae<|ae<|aA<|Fh (a _ st) hc hs ⟨As,st,h⟩
def Ci{α:Type}(I:HL)(bot:Nat)(f:α->List Value)(z:Nat)(v:Value)(l:List α):Prop:=
 ∃ (a:Option Addr) (cap:Nat),v=.slice a l.length cap/\(l=[]\/∃ b off c ty fr,a=some ⟨b,off,none⟩/\I b=some (.cells c ty fr)/\b<bot/\∀ j (hj:j<l.length) o,o<z->c[off+j*z+o]? =(f l[j])[o]?)
theorem Ci.mono{α:Type}{I':HL}{bot:Nat}{f:α->List Value}{z:Nat}{v:Value}{l:List α}(h:Ci I bot f z v l)(hs:Sub I I'):Ci I' bot f z v l:=by
 obtain⟨a,cap,h1,d⟩:=h;refine⟨a,cap,h1,?_⟩;rcases d with d|⟨b,off,c,ty,fr,e,g,i⟩
 .exact .inl d
 .exact .inr ⟨b,off,c,ty,fr,e,hs _ _ g,i⟩
def OpZ(o:bO):Prop:=(-9223372036854775808<=o.k/\o.k<=9223372036854775807)/\(-9223372036854775808<=o.v/\o.v<=9223372036854775807)
def tR(o:bO):bO:=⟨o.w,IntKind.u8.wrap o.k,IntKind.i32.wrap o.v⟩
theorem Lb(p:Int):0<=IntKind.u8.wrap p/\IntKind.u8.wrap p<=255:=by rw[IntKind.wrap_u8];omega
theorem F6(p:Int): -2147483648<=IntKind.i32.wrap p/\IntKind.i32.wrap p<=2147483647:=by rw[IntKind.wrap_i32];omega
def EL(a b:Int):Int:=(if a<0 then 0-(a+1)else a).tmod b
theorem PF{b:Int}(c:0<b):0<=EL a b/\EL a b<b:=by unfold EL;refine⟨Int.tmod_nonneg _ ?_,Int.tmod_lt_of_pos _ c⟩;split<;>omega
theorem PG{b:Int}(ha: -9223372036854775808<=a/\a<=9223372036854775807)(h:0<b):aI prog ao cX 15 #[aF a,aF b] [] (λv As=>v=aF (EL a b)/\As=[]):=by
 refine aI.of λR C kd d F c cs f g=>?_;refine su ?_;refine gV ?_;refine C.cmp rfl (λe=>?_) λe=>?_
 .refine dY ?_;refine C.ar (p:=a) (q:=1) (r:=a+1) rfl ?_;refine C.ngI rfl ?_ (p:=a+1) (r:=0-(a+1)) (hr:=v9 ai ai);refine fB ?_;refine C.rem rfl ?_;refine bL ?_;exact C.cG f g ⟨by unfold EL;rw[aJ e],rfl⟩
 .refine fB ?_;refine C.rem rfl ?_;refine bL ?_;exact C.cG f g ⟨by unfold EL;rw[ax e],rfl⟩
theorem PH{v:Value}{O:List bO}(hi:Ci I σ.bot uR 3 v O)(hz:∀ o∈O,OpZ o)(hl:O.length*24<=140737488355328):
  aI prog true (bM.bw σ) 17 #[v] [bI I] (λu As=>∃ s':ay,u=s'.v/\As=[bK uR 3 63 s' (O.map tR),bI I]):=by
 refine aI.of λR C kd d F c cs A B=>?_;refine cH ?_;obtain⟨a,cap,D,E⟩:=hi;subst D;refine C.go ?_;refine At.aV uR 3 63 (show At R d (bK uR 3 63 aV ((O.take 0).map tR)::_) _ from ?_);refine pP ?_;refine C.cN (X:=Nat×ay) (λx=>[(0,.slice a O.length cap),(2,aV.v),(3,x.2.v),(4,aF x.1)]) (λx=>bK uR 3 63 x.2 ((O.take x.1).map tR)::bI I::F) (λx=>x.1<=O.length) (λx=>O.length-x.1) (0,aV) ⟨rfl,rfl,rfl,rfl,trivial⟩ (fp _) ?_;rintro⟨i,s⟩ e hi H;dsimp only at hi⊢;refine dY ?_;refine C.ln rfl ?_;refine C.cmp rfl (λJ=>?_) λJ=>?_
 .refine bL ?_;have k:i<O.length:=ai;rcases E with rfl|⟨b,off,cc,ty,fr,rfl,m,n,q⟩
  .exact absurd k<|by simp
  have w:=q i k 0 (by decide);have h1:=q i k 1 (by decide);have y:=q i k 2 (by decide);have K:=hz _<|dG k;obtain⟨o,z⟩:∃ o,o=O[i]:=⟨_,rfl⟩;rw[<- z]at w h1 y K;have l:((O.take i).map tR).length=i:=by simp;omega
  have L:(O.take i).map tR++[tR o]=(O.take<|i+1).map tR:=by rw[z,js k,eW];rfl
  refine C.dx (di 11 0 23++[(3,23)]) 24 [21,22,23] 1 ?_;refine uQ ?_;refine Dr.l (λg h=>C.ia (j:=(i:Int)) (o:=off+i*3) rfl h (hoff:=by simp)) ?_;refine lN ?_;refine Dr.l (λg h=>C.ldK (g.PE Fo.au m) n w rfl h) ?_;refine lH ?_;refine Dr.l (λg h=>C.ia (j:=(i:Int)) (o:=off+i*3) rfl h (hoff:=by simp)) ?_;refine lN ?_;refine Dr.l (λg h=>C.ldK (g.PE Fo.au m) n h1 rfl h) ?_;refine Dr.p (λh=>C.cv (k1:=.i64) (k2:=.u8) (p:=o.k) (r:=IntKind.u8.wrap o.k) rfl h (hr:=rfl)) ?_;refine Dr.p (λh=>C.cv (k1:=.u8) (k2:=.i64) (p:=IntKind.u8.wrap o.k) (r:=IntKind.u8.wrap o.k) rfl h (hr:=v9 (by have:=Lb o.k;omega) (by have:=Lb o.k;omega))) ?_;refine lH ?_;refine Dr.l (λg h=>C.ia (j:=(i:Int)) (o:=off+i*3) rfl h (hoff:=by simp)) ?_;refine lN ?_;refine Dr.l (λg h=>C.ldK (g.PE Fo.au m) n y rfl h) ?_;refine Dr.p (λh=>C.cv (k1:=.i64) (k2:=.i32) (p:=o.v) (r:=IntKind.i32.wrap o.v) rfl h (hr:=rfl)) ?_;refine Dr.p (λh=>C.cv (k1:=.i32) (k2:=.i64) (p:=IntKind.i32.wrap o.v) (r:=IntKind.i32.wrap o.v) rfl h (hr:=v9 (by have:=F6 o.v;omega) (by have:=F6 o.v;omega))) ?_;refine zy ?_;refine Ch.m 21 (bj λe aa t=>?_);refine C.CZ rfl λM=>t _ _ .cons ?_;refine Ch.m 22 (bj λe aa t=>?_);refine C.DR (f:=uR) (tR o) rfl (λN=>?_) (hsz:=by rw[l];omega);refine t _ _ ?_;refine Ch.q 23 (λh=>C.pN rfl h) ?_;refine S4 ?_;rw[L];refine again H (i+1,N) (dE)<|dE
 .refine gV ?_;have P:i=O.length:=ai;subst P;rw[L3];exact C.cG A B ⟨s,rfl,rfl⟩
theorem Lc{O:List bO}(hi:gg I uR 63 so O)(hz:∀ o∈O,(0<=o.k/\o.k<=255)/\(-2147483648<=o.v/\o.v<=2147483647))(hl:O.length*8<=140737488355328):
  aI prog ao cX 19 #[so.v] [bI I] (λu As=>∃ s':ay,u=s'.v/\As=[bK db 3 67 s' O,bI I]):=by
 refine aI.of λR C kd d F c cs m n=>?_;refine uz ?_;refine At.aV db 3 67 (show At R d (bK db 3 67 aV (O.take 0)::_) _ from ?_);refine pP ?_;refine C.cN (X:=Nat×ay) (λx=>[(0,so.v),(2,aV.v),(3,x.2.v),(4,aF x.1)]) (λx=>bK db 3 67 x.2 (O.take x.1)::bI I::F) (λx=>x.1<=O.length) (λx=>O.length-x.1) (0,aV) ⟨rfl,rfl,rfl,rfl,trivial⟩ (fp _) ?_;rintro⟨i,s⟩ e p q;dsimp only at p⊢;refine fB ?_;refine C.cmp rfl (λr=>?_) λr=>?_
 .refine bL ?_;have k:i<O.length:=ai;have z:=hz _<|dG k;have a:(O.take i).length=i:=by simp;omega
  have t:O.take i++[O[i]]=O.take (i+1):=by rw[js k]
  refine C.dx (di 11 0 21++[(3,21)]) 22 [19,20,21] 1 ?_;refine QE ?_;refine Dr.l (λb h=>C.yM (f:=uR) (s:=so) (l:=O) (j:=i) (o:=0) rfl h (hr:=ez.ext b<|.bI Fo.au hi)) ?_;refine Kv ?_;refine Dr.l (λb h=>C.yM (f:=uR) (s:=so) (l:=O) (j:=i) (o:=1) rfl h (hr:=ez.ext b<|.bI Fo.au hi)) ?_;refine QE ?_;refine Dr.l (λb h=>C.yM (f:=uR) (s:=so) (l:=O) (j:=i) (o:=2) rfl h (hr:=ez.ext b<|.bI Fo.au hi)) ?_;refine Da ?_;refine Ch.m 19 (bj λe aa g=>?_);refine C.CZ rfl λv=>g _ _ .cons ?_;refine Ch.m 20 (bj λe aa g=>?_);refine C.DR (f:=db) O[i] rfl (λw=>?_) (hsz:=by rw[a];omega);refine g _ _ ?_;refine Ch.q 21 (λh=>C.pN rfl h) ?_;refine S4 ?_;rw[t];refine again q (i+1,w) (dE)<|dE
 .refine gV ?_;have y:i=O.length:=ai;subst y;rw[L3];exact C.cG m n ⟨s,rfl,rfl⟩
instance:fi prog 106 f106 ((Extern.find f106).getD λ_=>pure undef):=⟨func106,rfl,rfl,by kernel_rfl,by kernel_rfl⟩
instance:fi prog 264 f264 ((Extern.find f264).getD λ_=>pure undef):=⟨func264,rfl,rfl,by kernel_rfl,by kernel_rfl⟩
abbrev F7(t:aP):Value:=.pointer<|some ⟨10,t,none⟩
abbrev Ub(t:aP):Value:=.iface 231<|.agg #[F7 t]
theorem abF(t:aP):typeHandle prog t=F7 t:=by
 have:prog.globals.size=10:=by kernel_rfl
 unfold typeHandle;rw[this]
theorem Ld{v:Value}:gG prog (((Extern.find f106).getD λ_=>pure undef) ([.iface 339 v]:List Value).toArray)=some (Ub 339):=by kernel_rfl
theorem afH:gG prog (method (prog.types.size+Made.depth) 231 (.agg #[F7 339]) "Comparable")=some (264,.agg #[F7 339]):=by kernel_rfl
theorem afI:gG prog (((Extern.find f264).getD λ_=>pure undef)<|#[.agg #[F7 339]]++([]:List Value).toArray)=some (.bool true):=by kernel_rfl
end
end Go.Sl
