/-
  Texts that the proof needs, joined: part 8.
-/
import Derived.Test.YtjomdboiibakiaaGreatDoorEnG
import Derived.Sort.Defs
import Derived.Sort.LotD5
import Derived.Sort.AssemblyPlain
set_option linter.unusedSimpArgs false
set_option linter.unusedVariables false
set_option maxHeartbeats 4000000
namespace Go.Sl
open Go.Proofs.Tryz
variable{l:List Int}{I:HL}{b a i j hi da root p i2 j2 t t0 f bh:Nat}{s so:ay}{d:Array Int}{k:Int}{r:List Nat}{σ:Gh}{c c':CV}{eb:Nat->Nat×Nat}{T:List (List bO)}{w:WR}{h h' h1:cJ}
section
open Go.Proofs
def Zx:Prop:=∀ {s:ay} {l:List Int},l.length<2^20->aI prog false cX 184 #[s.v] [bK aK 1 3 s l] (λv As=>As=[bK aK 1 3 s (km l)])
abbrev Lv(s:dw):dw:={s with up:=true,values:=[],aQ:=[],pend:=[],done:=[],bF:=[],cr:=[],timers:=[],order:=0,clock:=0,waits:=[]}
def JJ(l:List Int)(s:dw):dw:=l.foldl (λz tx=>kK z tx 3 false) s
theorem NB:∀ (l:List Int) (s:dw),(JJ l s).abs=l.foldl (λz tx=>kj z tx 3 false) s.abs
 |[],s=>rfl
 |x::l,s=>by show(JJ l<|kK s x 3 false).abs=_;rw[NB l,oG];rfl
theorem UK(l:List Int)(x:Int)(s:dw):JJ (l++[x]) s=kK (JJ l s) x 3 false:=by unfold JJ;rw[lT];rfl
structure AlS(s z:dw)(k:Nat):Prop where
 log:z.log=s.log
 pend:z.pend=s.pend
 cr:z.cr=s.cr
 waits:z.waits=s.waits
 out:z.out=s.out
 clock:z.clock=s.clock
 order:z.order=s.order+k
 timers:z.timers.length=s.timers.length+k
theorem Je:∀ (l:List Int) (s:dw),AlS s (JJ l s) l.length
 |[],s=>⟨rfl,rfl,rfl,rfl,rfl,rfl,(Int.add_zero _).symm,rfl⟩
 |x::l,s=>by
  have h:=Je l<|kK s x 3 false;refine⟨h.log,h.pend,h.cr,h.waits,h.out,h.clock,?_,?_⟩
  .show(JJ l<|kK s x 3 false).order=_;rw[h.order];show s.order+1+(l.length:Int)=s.order+((l.length+1:Nat):Int);omega
  .show(JJ l<|kK s x 3 false).timers.length=_;rw[h.timers];show(s.timers++[_]).length+l.length=s.timers.length+(l.length+1);rw[iV];simp only[iR];omega
theorem sorted_perm{m:List Int}(h:l.Perm m):km l=km m:=by
 unfold km;have d:∀ a b c:Int,decide (a<=b)=true->decide (b<=c)=true->decide (a<=c)=true:=by intro a b c;simp only[rz];omega
 have e:∀ a b:Int,(decide (a<=b)||decide (b<=a))=true:=by intro a b;simp only[Am,rz];omega
 refine Yi (le:=λa b=>decide (a<=b)=true) ?_ (Rb d e l) (Rb d e m)<|((Rc l _).trans h).trans (Rc m _).symm;intro a b _ _ h1 f;simp only[rz]at h1 f;omega
theorem Dl(hS:Zx){s:dw}{o a:Int}(Q:ShJ I s)(hl:s.log.length<2^15)(cY:∀ tx home O so,iQ.cK tx home O so∈s.log->np O)(hC:y7 o a s):
  aI prog false cX 145 #[az b] [dB b s,bI I] (ij b I (o+2^15) (a+1)<|ko s.abs):=by
 have hJ0:ShJ I (Lv s):=⟨Q.log,by simp,by simp,by simp,Q.out⟩;have hQ0:UJ I (Lv s):=⟨by simp⟩;refine aI.of λR C kd d F c cs aW ak=>?_;refine cH ?_;refine dB.opn (h:=λlg wt S tm T U B W Y Z tl ht=>?_);refine pP ?_;refine C.fZ vT ?_;rintro v aT ⟨bv',bl',bp',bd',be',bu',rfl,rfl⟩;refine Y8 ?_;refine C.qK rfl ?_ (s:=lg) (l:=s.log) (f:=pK);refine bL ?_;refine At.aV uG 4 263<|At.aV dF 7 190 ?_;refine At.He (show At R d (all (([]:List (Int×fU)).map rZ)::_) _ from ?_);refine Co.cls (lg:=lg) (Lv s) (show At R d (Co lg b (zF s.log 0<|Lv s)::_) _ from ?_) (tl:=[]) (wt:=aV) (tm:=aV) (ht:=ql.zero 0);refine C.cN (X:=Nat) (λi=>[(0,az b),(21,lg.v),(22,aF s.log.length),(23,aF i)]) (λi=>Co lg b (zF s.log i<|Lv s)::bI I::F) (λi=>i<=s.log.length) (λi=>s.log.length-i) 0 ⟨rfl,rfl,rfl,rfl,trivial⟩ (fp _) ?_;intro i e hi r;obtain⟨m,hQi⟩:=Zw Q.log cY (s:=Lv s) hJ0 hQ0 i;have D:=Jd s.log (Lv s) i;refine bL ?_;refine C.cmp rfl (λmH=>?_) λmH=>?_
 .refine bL ?_;have u:i<s.log.length:=ai;have E:zF s.log (i+1) (Lv s)=XV (zF s.log i<|Lv s) i s.log[i]:=by show(match s.log[i]? with|none=>_|some e=>_)=_;rw[cQ u]
  have n:=dG u;have H:(zF s.log i<|Lv s).log=s.log:=D.log;generalize zF s.log i (Lv s)=z at*;have hiz:i<z.log.length:=by rw[H];exact u
  have hze:s.log[i]=z.log[i]:=by simp only[H]
  rw[hze]at E n;refine Co.opn (h:=λwt S tm T U B W Y Z tl ht=>?_);refine bL ?_;refine C.dZ rfl ?_ (s:=lg) (l:=z.log) (f:=pK) (j:=i);refine C.yM (v:=(z.log[i]'hiz).val) rfl ?_ (s:=lg) (l:=z.log) (f:=pK) (j:=i) (o:=0);generalize z.log[i]=en at E n;rcases en with⟨tx,home,O,so⟩|⟨tx,yes,reads,sr⟩|⟨tx,yes⟩
  .refine iE ?_;refine C.ta (ok:=true) underlying274 rfl rfl ?_;refine fB ?_;refine C.al rfl λb4=>?_;refine mE ?_;refine Co.cls (lg:=lg) z ?_;refine C.fZ (ab9 (lg:=lg) (so:=so) (pl:=(i:Int)) (Q.log _ n).1<|cY tx home O so n) ?_;rintro v aT rfl;refine vI ?_;exact again r (i+1) u ai (hr:=by rw[E];show dg _ (Co lg b (xm z tx home O so i)::bI I::F);exact dg.au)
  .refine iE ?_;refine C.taN (t0:=277) underlying274 rfl ⟨_,aD type274,rfl⟩ rfl ?_;refine fB ?_;refine C.ta (ok:=true) underlying277 rfl rfl ?_;refine fB ?_;refine C.al rfl λb5=>?_;refine bL ?_;refine C.dx (di 44 0 11) 12 [11] 0 ?_;refine S6 ?_;refine Ch.m 11 (bj λe aa hk=>?_);refine C.mu (w:=iK.mk i yes) (l:=z.bF) (q:=tx) rfl<|hk _ undef ?_;refine Bw ?_;refine Co.cls (lg:=lg) {z with bF:=bC z.bF tx ⟨i,yes⟩} ?_;exact again r (i+1) u ai (hr:=by rw[E];show dg _ (Co lg b {z with bF:=bC z.bF tx ⟨i,yes⟩}::bI I::F);exact dg.au)
  .refine iE ?_;refine C.taN (t0:=281) underlying274 rfl ⟨_,aD type274,rfl⟩ rfl ?_;refine fB ?_;refine C.taN (t0:=281) underlying277 rfl ⟨_,aD type277,rfl⟩ rfl ?_;refine fB ?_;refine C.ta (ok:=true) underlying281 rfl rfl ?_;refine fB ?_;refine C.al rfl λb6=>?_;refine pP ?_;refine Co.cls (lg:=lg) z ?_;refine C.fZ (UH (lg:=lg) (pl:=(i:Int)) m<|hQi.at tx) ?_;rintro v aT rfl;refine vI ?_;exact again r (i+1) u ai (hr:=by rw[E];show dg _ (Co lg b (nV z tx yes i)::bI I::F);exact dg.au)
 .refine fB ?_;have e1:i=s.log.length:=ai;subst e1;have J:=Gd s.log (Lv s) s.log.length;have K:=NA s.log (Lv s) s.log.length;generalize zF s.log s.log.length (Lv s)=z at*;have K:z.pend.length<=s.log.length:=by have h:z.pend.length<=0+s.log.length:=K;omega
  refine Co.opn (h:=λwt S tm T U B W Y Z tl ht=>?_);refine At.G9 (A:=dt .i64 vS B z.pend) Fo.au xz λnS=>?_;refine gV ?_;refine C.rn (g:=vS) (l:=z.pend) rfl λM=>?_;refine C.go ?_;refine At.aV aK 1 3 ?_;refine C.cN (X:=List (Int×rY)×ay) (λx=>[(0,az b),(7,x.2.v),(71,.pointer<|some ⟨M,0,none⟩)]) (λx=>bK aK 1 3 x.2 (x.1.reverse.map (·.1))::Kk .i64 vS B M z.pend (x.1.map (·.1))::sxC b z lg wt S tm T U B W Y Z::bK pK 1 272 lg z.log::dt .u8 fT T z.values::dt .u8 eh U z.aQ::dt .i64 qB W z.done::dt .i64 qB Y z.bF::dt .i64 yo Z z.cr::all (z.cr.map rZ)::bK uG 4 263 tm tl::bK dF 7 190 wt z.waits::bK dF 7 190 S z.out::bI I::F) (λx=>zD z.pend x.1) (λx=>z.pend.length-x.1.length) ([],aV) ⟨rfl,rfl,rfl,trivial⟩ ⟨.nil,λp hp=>(nomatch hp)⟩ ?_ (hI:=by simp only[GQ,ny];exact dg.au);rintro⟨vl,y⟩ e hc r;dsimp only at hc⊢;refine bL ?_;refine C.nx (g:=vS) (l:=z.pend) rfl (λN w72 P t=>?_) λt=>?_
  .refine dT ?_;have ajL:=eR nS P;have lL:=hc.add P t;have sN:=lL.len;have WQ:(vl.reverse.map (·.1)).length=vl.length:=by simp
   simp only[nN]at sN;refine ga ?_;refine C.ent ajL rfl ?_ Fo.au;refine gV ?_;refine C.CZ rfl λb78=>?_;refine C.DR (f:=aK) (l:=vl.reverse.map (·.1)) N rfl λs8=>?_;refine bL ?_;refine again r ((N,w72)::vl,s8) lL (by simp only[nN];omega) (hr:=?_);simp only[L8,eW,jq,ny];exact dg.au
  .refine dT ?_;refine At.FA (l:=z.pend) (g:=vS) Fo.au ?_;refine dB.cls z ?_ (lg:=lg);have VF:=((Ri vl).trans<|hc.all nS t).map (·.1);have WQ:(vl.reverse.map (·.1)).length=z.pend.length:=by rw[VF.length_eq,eM]
   refine bL ?_;refine C.fZ (hS (s:=y) (l:=vl.reverse.map (·.1)) ai) ?_;rintro v aT rfl;refine cH ?_;rw[sorted_perm VF];obtain⟨L,hL⟩:∃ L,L=km (z.pend.map (·.1)):=⟨_,rfl⟩;have hLl:L.length=z.pend.length:=by rw[hL];unfold km;simp
   rw[<- hL];refine dT ?_;refine C.qK rfl ?_ (f:=aK) (s:=y) (l:=L);refine bL ?_;refine C.cN (X:=Nat) (λx=>[(0,az b),(82,y.v),(83,aF L.length),(84,aF x)]) (λx=>bK aK 1 3 y L::dB b (JJ (L.take x) z)::bI I::F) (λx=>x<=L.length) (λx=>L.length-x) 0 ⟨rfl,rfl,rfl,rfl,trivial⟩ (fp _) ?_ (hI:=by rw[show JJ (L.take 0) z=z from rfl];exact dg.au);intro x e hx r;have k:=Je (L.take x) z;have IU:(L.take x).length=x:=by rw[nO];omega
   rw[IU]at k;have h1:=k.order;have h2:=k.timers;have h3:=k.clock;rw[D.order]at h1;rw[D.timers]at h2;rw[D.clock]at h3;have h1:(JJ (L.take x) z).order=0+(x:Int):=h1;have h2:(JJ (L.take x) z).timers.length=0+x:=h2;have h3:(JJ (L.take x) z).clock=0:=h3;refine bL ?_;refine C.cmp rfl (λh85=>?_) λh85=>?_
   .refine bL ?_;have fG:x<L.length:=ai;refine ga ?_;refine C.dZ rfl ?_ (f:=aK) (s:=y) (l:=L) (j:=x);refine C.yM (v:=aF<|L[x]'fG) rfl ?_ (f:=aK) (s:=y) (l:=L) (j:=x) (o:=0);refine fB ?_;refine C.fZ (lE (s:=JJ (L.take x) z) (tx:=L[x]'fG) (ticks:=3) (again:=false) ai ai ai ai) ?_;rintro v aT rfl;refine vI ?_;exact again r (x+1) fG ai (hr:=by rw[js fG,UK];exact dg.au)
   .refine bL ?_;have e2:L.take x=L:=lA ai;rw[e2]at k h1 h2 h3⊢;refine C.eY (aT:=[dB b (JJ L z),bI I]) aW ak ⟨I,JJ L z,Sub.refl _,⟨by rw[k.log];exact m.log,by rw[k.pend];exact m.pend,by rw[k.cr];exact m.cr,by rw[k.waits];exact m.waits,by rw[k.out];exact m.out⟩,?_,⟨by have:=hC.z;omega,⟨ai,by have:=hC.o;omega⟩,?_⟩,rfl⟩
    .rw[NB,J,hL];unfold ko;dsimp only;have e3:(Lv s).abs=jD {s.abs with up:=true}:=by simp[dw.abs,jD]
     have e4:s.abs.log=s.log.map (·.abs):=rfl;have e5:z.pend.map (·.1)=z.abs.pend.map (·.1):=by simp[dw.abs]
     rw[e5,J,e3,e4,eM];rfl
    .rw[k.cr,D.cr];simp
end
section
open Go.Proofs Go.Sort
variable{ao:Bool}
theorem UL{x:Int}:aI prog ao cX 232 #[aF x] [] (λv As=>v=.bool false/\As=[]):=by refine aI.of λR C kd d F c cs a b=>?_;refine Vz ?_;refine C.ed rfl ?_;refine bL ?_;exact C.cG a b ⟨rfl,rfl⟩
theorem gu{x y:Int}:aI prog ao cX 222 #[aF x,aF y] [] (λv As=>v=.bool (decide (x<y))/\As=[]):=by
 refine aI.of λR C kd d F c cs b e=>?_;refine zx6 ?_;refine C.cE UL (A:=[]) ?_;refine su ?_;refine oN ?_;refine C.cmp rfl (λa=>?_) λa=>?_
 .refine dT ?_;exact C.cG b e ⟨by rw[wm a],rfl⟩
 .refine dT ?_;exact C.cG b e ⟨by rw[rD a],rfl⟩
theorem ik(hi:i<d.size)(hj:j<d.size):(swp d i j).toList=(d.toList.set i<|d.toList[j]'(by simpa using hj)).set j (d.toList[i]'(by simpa using hi)):=by unfold swp;simp[hi,hj]
theorem swp_size:(swp d i j).size=d.size:=by simp[swp]
theorem qH(hi:i<d.size):d[i]! =d.toList[i]'(by simpa using hi):=by simp[hi]
end
section
open Go.Proofs Go.Sort
variable{ao:Bool}
theorem vm(h:i<b):insOuter ltInt a b i d=insOuter ltInt a b (i+1) (insInner ltInt a i d):=by
 conv=>lhs;unfold insOuter
 rw[aJ h]
theorem Ge(h:¬ i<b):insOuter ltInt a b i d=d:=by unfold insOuter;rw[ax h]
theorem UM(ha:a<=b)(S:b<=d.size)(hl:d.size<2^40):
  aI prog ao cX 216 #[s.v,aF a,aF b] [bK aK 1 3 s d.toList] (λv As=>As=[bK aK 1 3 s (insertionSort ltInt d a b).toList]):=by
 refine aI.of λR C kd T F c cs M H=>?_;refine cH ?_;refine dT ?_;refine C.ar (p:=(a:Int)) (q:=1) (r:=((a+1:Nat):Int)) rfl ?_ (hr:=v9 ai ai);refine bL ?_;refine C.cN (X:=Nat×Array Int) (λx=>[(0,s.v),(1,aF a),(2,aF b),(6,aF x.1)]) (λx=>bK aK 1 3 s x.2.toList::F) (λx=>x.2.size=d.size/\insOuter ltInt a b x.1 x.2=insertionSort ltInt d a b) (λx=>b-x.1) (a+1,d) ⟨rfl,rfl,rfl,rfl,trivial⟩ ⟨rfl,rfl⟩ ?_;rintro⟨i,I⟩ e ⟨J,z⟩ K;dsimp only at J z⊢;refine dY ?_;refine C.cmp rfl (λN=>?_) λN=>?_
 .refine gV ?_;have L:i<b:=ai;refine C.cN (X:=Nat×Array Int) (λx=>[(0,s.v),(1,aF a),(2,aF b),(6,aF i),(7,aF x.1)]) (λx=>bK aK 1 3 s x.2.toList::F) (λx=>x.1<=i/\x.2.size=d.size/\insInner ltInt a x.1 x.2=insInner ltInt a i I) (λx=>x.1) (i,I) ⟨rfl,rfl,rfl,rfl,rfl,trivial⟩ ⟨fC _,J,rfl⟩ ?_;rintro⟨j,k⟩ e ⟨O,t,B⟩ P;dsimp only at O t B⊢;refine C.go ?_;have U:k.toList.length=d.size:=by simpa using t
  rcases(show(∃ g,j=g+1/\a<g+1)\/¬ a<j from by rcases lP a j with h|h;exact .inl ⟨j-1,ai,ai⟩;exact .inr ai)with⟨g,rfl,u⟩|u
  .refine C.dx (di 16 0 15) 15 [13,14] 0 ?_;refine lH ?_;refine Dr.p (λh=>C.fQ rfl h) ?_;refine uQ ?_;refine Dr.l (λn h=>C.dZ rfl h (s:=s) (l:=k.toList) (f:=aK) (j:=g+1)) ?_;refine Dr.l (v:=aF<|k.toList[g+1]'(by omega)) (λn h=>C.du rfl h (s:=s) (l:=k.toList) (f:=aK) (j:=g+1)) ?_;refine lH ?_;refine Dr.p (v:=aF (g:Int)) (λh=>C.ar (p:=((g+1:Nat):Int)) (q:=1) (r:=(g:Int)) rfl h (ha:=by show some (((g+1:Nat):Int)-1)=some (g:Int);rw[show((g+1:Nat):Int)-1=g by omega]) (hr:=v9 ai ai)) ?_;refine Dr.l (λn h=>C.dZ rfl h (s:=s) (l:=k.toList) (f:=aK) (j:=g)) ?_;refine Dr.l (v:=aF<|k.toList[g]'(by omega)) (λn h=>C.du rfl h (s:=s) (l:=k.toList) (f:=aK) (j:=g)) ?_;refine Dr.chain rfl ?_;refine Ch.m 13 (bj λe aa m=>?_);refine C.cE (gu (x:=k.toList[g+1]'(by omega)) (y:=k.toList[g]'(by omega))) (A:=[]) ?_;refine su ?_;refine m _ _ ?_;refine Ch.q 14 (λh=>C.pk rfl h) ?_;refine gy ?_;refine C.zw (λo=>?_) λo=>?_
   .refine C.go ?_;refine C.dx (di 33 0 15++[(48,16)]) 18 [15,16,17] 0 ?_;refine Kv ?_;refine Dr.p (v:=aF (g:Int)) (λh=>C.ar (p:=((g+1:Nat):Int)) (q:=1) (r:=(g:Int)) rfl h (ha:=by show some (((g+1:Nat):Int)-1)=some (g:Int);rw[show((g+1:Nat):Int)-1=g by omega]) (hr:=v9 ai ai)) ?_;refine lH ?_;refine Dr.p (v:=aF (g:Int)) (λh=>C.ar (p:=((g+1:Nat):Int)) (q:=1) (r:=(g:Int)) rfl h (ha:=by show some (((g+1:Nat):Int)-1)=some (g:Int);rw[show((g+1:Nat):Int)-1=g by omega]) (hr:=v9 ai ai)) ?_;refine Dr.l (λn h=>C.dZ rfl h (s:=s) (l:=k.toList) (f:=aK) (j:=g)) ?_;refine Dr.l (v:=aF<|k.toList[g]'(by omega)) (λn h=>C.du rfl h (s:=s) (l:=k.toList) (f:=aK) (j:=g)) ?_;refine lH ?_;refine Dr.l (λn h=>C.dZ rfl h (s:=s) (l:=k.toList) (f:=aK) (j:=g+1)) ?_;refine Dr.l (v:=aF<|k.toList[g+1]'(by omega)) (λn h=>C.du rfl h (s:=s) (l:=k.toList) (f:=aK) (j:=g+1)) ?_;refine Dr.l (λn h=>C.dZ rfl h (s:=s) (l:=k.toList) (f:=aK) (j:=g+1)) ?_;refine Dr.chain rfl ?_;refine Ch.m 15 (bj λe aa m=>?_);refine C.j5 (s:=s) (l:=k.toList) (f:=aK) (j:=g+1) (k.toList[g]'(by omega)) rfl<|m _ undef ?_;refine Ch.m 16 (bj λe aa m=>?_);refine C.dZ rfl (m _ _ ?_) (s:=s) (l:=k.toList.set (g+1)<|k.toList[g]'(by omega)) (f:=aK) (j:=g) (hj:=by rw[eF];omega);refine Ch.m 17 (bj λe aa m=>?_);refine C.j5 (s:=s) (l:=k.toList.set (g+1)<|k.toList[g]'(by omega)) (f:=aK) (j:=g) (k.toList[g+1]'(by omega)) rfl (m _ undef ?_) (hj:=by rw[eF];omega);refine QF ?_;refine C.ar (p:=((g+1:Nat):Int)) (q:=1) (r:=(g:Int)) rfl ?_ (ha:=by show some (((g+1:Nat):Int)-1)=some (g:Int);rw[show((g+1:Nat):Int)-1=g by omega]) (hr:=v9 ai ai);refine bL ?_;have D:k[g+1]! =k.toList[g+1]'(by omega):=qH ai;have E:k[g]! =k.toList[g]'(by omega):=qH ai;have w:insInner ltInt a (g+1) k=insInner ltInt a g (swp k (g+1) g):=by
     conv=>lhs;unfold insInner
     rw[aJ];simp only[ltInt,D,E,jK,rz];exact⟨u,by simpa using o⟩
    have Q:=ik (d:=k) (i:=g+1) (j:=g) ai ai;exact again P (g,swp k (g+1) g) ⟨ai,by rw[swp_size];exact t,by rw[<- w];exact B⟩ (dE) (hr:=by dsimp only;rw[Q];exact dg.au)
   .refine gV ?_;have D:k[g+1]! =k.toList[g+1]'(by omega):=qH ai;have E:k[g]! =k.toList[g]'(by omega):=qH ai;have w:insInner ltInt a (g+1) k=k:=by unfold insInner;rw[ax];simp only[ltInt,D,E,jK,rz];rintro⟨_,h⟩;exact absurd h<|by simpa using o
    exact again K (i+1,k) ⟨t,by rw[<- z,vm L,<- B,w]⟩<|dE
  .refine C.dx (di 16 0 15) 15 [13,14] 0 ?_;refine lH ?_;refine Dr.p (λh=>C.ed rfl h) ?_;refine Kw ?_;refine Ch.m 13 (bj λe aa m=>?_);refine C.no rfl<|m _ _ ?_;refine Ch.q 14 (λh=>C.pk rfl h) ?_;refine zv7 ?_;have w:insInner ltInt a j k=k:=by
    cases j with
    |zero=>rfl
    |succ j=>
     unfold insInner;rw[ax];simp only[jK,rz];omega
   exact again K (i+1,k) ⟨t,by rw[<- z,vm L,<- B,w]⟩<|dE
 .refine bL ?_;rw[<- z,Ge ai]at H;exact C.eY M H rfl
end
section
open Go.Proofs Go.Sort
variable{ao:Bool}
theorem UN(h:i<j):reverseLoop i j d=reverseLoop (i+1) (j-1) (swp d i j):=by
 conv=>lhs;unfold reverseLoop
 rw[aJ h]
theorem XW(h:¬ i<j):reverseLoop i j d=d:=by unfold reverseLoop;rw[ax h]
theorem UO(h1:1<=b)(ha:a<=b)(E:b<=d.size)(hl:d.size<2^40):
  aI prog ao cX 220 #[s.v,aF a,aF b] [bK aK 1 3 s d.toList] (λv As=>As=[bK aK 1 3 s (reverseRange d a b).toList]):=by
 refine aI.of λR C kd u F c cs w m=>?_;refine cH ?_;obtain⟨b,rfl⟩:∃ b',b=b'+1:=⟨b-1,ai⟩;have m:∀ v aT,aT=[bK aK 1 3 s (reverseLoop a b d).toList]->At R u (aT++F) (after kd c cs v):=m;refine iE ?_;refine C.ar (p:=((b+1:Nat):Int)) (q:=1) (r:=(b:Int)) rfl ?_ (ha:=by show some (((b+1:Nat):Int)-1)=some (b:Int);rw[show((b+1:Nat):Int)-1=b by omega]) (hr:=v9 ai ai);refine bL ?_;refine C.cN (X:=Nat×Nat×Array Int) (λx=>[(0,s.v),(6,aF x.1),(7,aF x.2.1)]) (λx=>bK aK 1 3 s x.2.2.toList::F) (λx=>x.2.1<d.size/\x.2.2.size=d.size/\reverseLoop x.1 x.2.1 x.2.2=reverseLoop a b d) (λx=>x.2.1) (a,b,d) ⟨rfl,rfl,rfl,trivial⟩ ⟨dE,rfl,rfl⟩ ?_;rintro⟨i,j,g⟩ e ⟨y,o,t⟩ z;dsimp only at y o t⊢;refine dY ?_;refine C.cmp rfl (λA=>?_) λA=>?_
 .refine bL ?_;have B:i<j:=ai;have H:g.toList.length=d.size:=by simpa using o
  refine C.dx (di 14 0 13++[(27,14)]) 16 [13,14,15] 0 ?_;refine qv ?_;refine Dr.l (λn h=>C.dZ rfl h (s:=s) (l:=g.toList) (f:=aK) (j:=j)) ?_;refine Dr.l (v:=aF<|g.toList[j]'(by omega)) (λn h=>C.du rfl h (s:=s) (l:=g.toList) (f:=aK) (j:=j)) ?_;refine lH ?_;refine Dr.l (λn h=>C.dZ rfl h (s:=s) (l:=g.toList) (f:=aK) (j:=i)) ?_;refine Dr.l (v:=aF<|g.toList[i]'(by omega)) (λn h=>C.du rfl h (s:=s) (l:=g.toList) (f:=aK) (j:=i)) ?_;refine Dr.l (λn h=>C.dZ rfl h (s:=s) (l:=g.toList) (f:=aK) (j:=i)) ?_;refine Dr.chain rfl ?_;refine Ch.m 13 (bj λe aa k=>?_);refine C.j5 (s:=s) (l:=g.toList) (f:=aK) (j:=i) (g.toList[j]'(by omega)) rfl<|k _ undef ?_;refine Ch.m 14 (bj λe aa k=>?_);refine C.dZ rfl (k _ _ ?_) (s:=s) (l:=g.toList.set i<|g.toList[j]'(by omega)) (f:=aK) (j:=j) (hj:=by rw[eF];omega);refine Ch.m 15 (bj λe aa k=>?_);refine C.j5 (s:=s) (l:=g.toList.set i<|g.toList[j]'(by omega)) (f:=aK) (j:=j) (g.toList[i]'(by omega)) rfl (k _ undef ?_) (hj:=by rw[eF];omega);refine S5 ?_;refine C.jX (j-1) rfl ?_;refine bL ?_;have D:=ik (d:=g) (i:=i) (j:=j) ai ai;exact again z (i+1,j-1,swp g i j) ⟨dE,by rw[swp_size];exact o,by rw[<- UN B];exact t⟩ (dE) (hr:=by dsimp only;rw[D];exact dg.au)
 .refine bL ?_;rw[<- t,XW ai]at m;exact C.eY w m rfl
end
section
open Go.Proofs Go.Sort
variable{ao:Bool}
theorem ET(h:hi<=2*root+1):siftDown ltInt hi da root d=d:=by unfold siftDown;rw[An h]
theorem Lw(a:2*root+2<hi)(hl:ltInt d[da+(2*root+1)]! d[da+(2*root+2)]! =true):
  siftDown ltInt hi da root d=if !ltInt d[da+root]! d[da+(2*root+2)]! then d else siftDown ltInt hi da (2*root+2) (swp d (da+root)<|da+(2*root+2)):=by
 conv=>lhs;unfold siftDown
 rw[dif_neg ai,aJ (by rw[show da+(2*root+1)+1=da+(2*root+2) by omega,hl];simp;omega),An a]
theorem EU(h1:2*root+1<hi)(hl:2*root+2<hi->ltInt d[da+(2*root+1)]! d[da+(2*root+2)]! =false):
  siftDown ltInt hi da root d=if !ltInt d[da+root]! d[da+(2*root+1)]! then d else siftDown ltInt hi da (2*root+1) (swp d (da+root)<|da+(2*root+1)):=by
 conv=>lhs;unfold siftDown
 rw[dif_neg ai,ax];simp only[jK,rz];rintro⟨b,a⟩;have:=hl b;rw[show da+(2*root+1)+1=da+(2*root+2) by omega,this]at a;cases a
theorem Af(hi:i<d.size)(hj:j<d.size):ltInt d[i]! d[j]! =decide (d.toList[i]'(by simpa using hi)<d.toList[j]'(by simpa using hj)):=by unfold ltInt;rw[qH hi,qH hj]
theorem EV{lo:Nat}(M:da+hi<=d.size)(E:lo<=d.size)(hl:d.size<2^40):
  aI prog ao cX 227 #[s.v,aF lo,aF hi,aF da] [bK aK 1 3 s d.toList] (λv As=>As=[bK aK 1 3 s (siftDown ltInt hi da lo d).toList]):=by
 refine aI.of λR C kd H F c cs D r=>?_;refine vI ?_;refine C.cN (X:=Nat×Array Int) (λx=>[(0,s.v),(2,aF hi),(3,aF da),(8,aF x.1)]) (λx=>bK aK 1 3 s x.2.toList::F) (λx=>x.1<=d.size/\x.2.size=d.size/\siftDown ltInt hi da x.1 x.2=siftDown ltInt hi da lo d) (λx=>d.size-x.1) (lo,d) ⟨rfl,rfl,rfl,rfl,trivial⟩ ⟨E,rfl,rfl⟩ ?_;rintro⟨root,a⟩ e ⟨w,z,t⟩ I;dsimp only at w z t⊢;have N:a.toList.length=d.size:=by simpa using z
 refine dT ?_;refine C.jX (2*root) rfl ?_;refine C.jX (2*root+1) rfl ?_;refine fB ?_;refine C.cmp rfl (λJ=>?_) λJ=>?_
 .refine bL ?_;rw[<- t,ET ai]at r;exact C.eY D r rfl
 .refine bL ?_;have u:2*root+1<hi:=ai;apply m8 (X:=Nat) (λq=>2*root+1<=q/\q<hi/\siftDown ltInt hi da root a=if !ltInt a[da+root]! a[da+q]! then a else siftDown ltInt hi da q (swp a (da+root)<|da+q)) (λq=>[(0,s.v),(2,aF hi),(3,aF da),(8,aF root),(9,aF q)]) (λ_=>bK aK 1 3 s a.toList::F) (R:=R) (d:=H) (fn:=227) (kd:=kd) (n:=76) (ds:=[]) (cs:=c::cs)
  .intro k;rcases lP (2*root+2) hi with B|B
   .refine C.dx (di 17 0 20) 20 [18,19] 0 ?_;refine lN ?_;refine Dr.p (v:=aF ((2*root+2:Nat):Int)) (λh=>C.jX (2*root+2) rfl h) ?_;refine lN ?_;refine Dr.p (λh=>C.fQ rfl h) ?_;refine Kv ?_;refine Dr.pu (v:=aF ((da+(2*root+1):Nat):Int)) ⟨_,rfl,rfl⟩ (λ_ _ _ h=>C.jX (da+(2*root+1)) rfl h) ?_;refine Dr.l (λb h=>C.dZ rfl h (s:=s) (l:=a.toList) (f:=aK) (j:=da+(2*root+1))) ?_;refine Dr.l (v:=aF<|a.toList[da+(2*root+1)]'(by omega)) (λb h=>C.du rfl h (s:=s) (l:=a.toList) (f:=aK) (j:=da+(2*root+1))) ?_;refine uQ ?_;refine Dr.pu (v:=aF ((da+(2*root+1):Nat):Int)) ⟨_,rfl,rfl⟩ (λ_ _ _ h=>C.jX (da+(2*root+1)) rfl h) ?_;refine Dr.pu (v:=aF ((da+(2*root+2):Nat):Int)) ⟨_,rfl,rfl⟩ (λ_ _ _ h=>C.jX (da+(2*root+2)) rfl h) ?_;refine Dr.l (λb h=>C.dZ rfl h (s:=s) (l:=a.toList) (f:=aK) (j:=da+(2*root+2))) ?_;refine Dr.l (v:=aF<|a.toList[da+(2*root+2)]'(by omega)) (λb h=>C.du rfl h (s:=s) (l:=a.toList) (f:=aK) (j:=da+(2*root+2))) ?_;refine Dr.chain rfl ?_;refine Ch.m 18 (bj λe aa g=>?_);refine C.cE (gu (x:=a.toList[da+(2*root+1)]'(by omega)) (y:=a.toList[da+(2*root+2)]'(by omega))) (A:=[]) ?_;refine su ?_;refine g _ _ ?_;refine Ch.q 19 (λh=>C.pk rfl h) ?_;refine gy ?_;refine C.zw (λm=>?_) λm=>?_
    .refine C.go ?_;refine bL ?_;refine C.jX (2*root+2) rfl ?_;refine bL ?_;exact bU k (2*root+2) ⟨ai,B,Lw B (by rw[Af ai ai];exact m)⟩
    .refine C.go ?_;exact bU k (2*root+1) ⟨fC _,u,EU u (λ_=>by rw[Af ai ai];exact m)⟩
   .refine C.dx (di 17 0 20) 20 [18,19] 0 ?_;refine lN ?_;refine Dr.p (v:=aF ((2*root+2:Nat):Int)) (λh=>C.jX (2*root+2) rfl h) ?_;refine lN ?_;refine Dr.p (λh=>C.ed rfl h) ?_;refine nT ?_;refine Kv ?_;refine Dr.chain rfl ?_;refine Ch.m 18 (bj λe aa g=>?_);refine C.no rfl<|g _ _ ?_;refine Ch.q 19 (λh=>C.pk rfl h) ?_;refine pR ?_;exact bU k (2*root+1) ⟨fC _,u,EU u λh=>absurd h ai⟩
  .rintro q ⟨K,O,p⟩ e;refine C.dx (di 39 0 14) 14 [12,13] 0 ?_;refine uQ ?_;refine Dr.p (v:=aF ((da+root:Nat):Int)) (λh=>C.jX (da+root) rfl h) ?_;refine Dr.l (λb h=>C.dZ rfl h (s:=s) (l:=a.toList) (f:=aK) (j:=da+root)) ?_;refine Dr.l (v:=aF<|a.toList[da+root]'(by omega)) (λb h=>C.du rfl h (s:=s) (l:=a.toList) (f:=aK) (j:=da+root)) ?_;refine uQ ?_;refine Dr.p (v:=aF ((da+q:Nat):Int)) (λh=>C.jX (da+q) rfl h) ?_;refine Dr.l (λb h=>C.dZ rfl h (s:=s) (l:=a.toList) (f:=aK) (j:=da+q)) ?_;refine Dr.l (v:=aF<|a.toList[da+q]'(by omega)) (λb h=>C.du rfl h (s:=s) (l:=a.toList) (f:=aK) (j:=da+q)) ?_;refine Dr.chain rfl ?_;refine Ch.m 12 (bj λe aa g=>?_);refine C.cE (gu (x:=a.toList[da+root]'(by omega)) (y:=a.toList[da+q]'(by omega))) (A:=[]) ?_;refine su ?_;refine g _ _ ?_;refine Ch.q 13 (λh=>C.nt rfl h) ?_;refine gy ?_;refine C.zw (λo=>?_) λo=>?_
   .refine C.go ?_;rw[<- t,p,aJ (by rw[Af ai ai];exact o)]at r;exact C.cG D r rfl
   .refine C.go ?_;refine C.dx (di 53 0 21++[(74,22)]) 24 [21,22,23] 0 ?_;refine uQ ?_;refine Dr.p (v:=aF ((da+root:Nat):Int)) (λh=>C.jX (da+root) rfl h) ?_;refine uQ ?_;refine Dr.p (v:=aF ((da+q:Nat):Int)) (λh=>C.jX (da+q) rfl h) ?_;refine uQ ?_;refine Dr.p (v:=aF ((da+q:Nat):Int)) (λh=>C.jX (da+q) rfl h) ?_;refine Dr.l (λb h=>C.dZ rfl h (s:=s) (l:=a.toList) (f:=aK) (j:=da+q)) ?_;refine Dr.l (v:=aF<|a.toList[da+q]'(by omega)) (λb h=>C.du rfl h (s:=s) (l:=a.toList) (f:=aK) (j:=da+q)) ?_;refine uQ ?_;refine Dr.p (v:=aF ((da+root:Nat):Int)) (λh=>C.jX (da+root) rfl h) ?_;refine Dr.l (λb h=>C.dZ rfl h (s:=s) (l:=a.toList) (f:=aK) (j:=da+root)) ?_;refine Dr.l (v:=aF<|a.toList[da+root]'(by omega)) (λb h=>C.du rfl h (s:=s) (l:=a.toList) (f:=aK) (j:=da+root)) ?_;refine Dr.l (λb h=>C.dZ rfl h (s:=s) (l:=a.toList) (f:=aK) (j:=da+root)) ?_;refine Dr.chain rfl ?_;refine Ch.m 21 (bj λe aa g=>?_);refine C.j5 (s:=s) (l:=a.toList) (f:=aK) (j:=da+root) (a.toList[da+q]'(by omega)) rfl<|g _ undef ?_;refine Ch.m 22 (bj λe aa g=>?_);refine C.dZ rfl (g _ _ ?_) (s:=s) (l:=a.toList.set (da+root)<|a.toList[da+q]'(by omega)) (f:=aK) (j:=da+q) (hj:=by rw[eF];omega);refine Ch.m 23 (bj λe aa g=>?_);refine C.j5 (s:=s) (l:=a.toList.set (da+root)<|a.toList[da+q]'(by omega)) (f:=aK) (j:=da+q) (a.toList[da+root]'(by omega)) rfl (g _ undef ?_) (hj:=by rw[eF];omega);refine Bw ?_;have L:=ik (d:=a) (i:=da+root) (j:=da+q) ai ai;exact again I (q,swp a (da+root)<|da+q) ⟨dE,by rw[swp_size];exact z,by rw[<- t,p,ax (by rw[Af ai ai];simpa using o)]⟩ (dE) (hr:=by dsimp only;rw[L];exact dg.au)
end
section
open Go.Proofs Go.Sort
variable{ao:Bool}
theorem uI(hi da:Nat):∀ (n root:Nat) (d:Array Int),hi-root<=n->(siftDown ltInt hi da root d).size=d.size
 |0,root,d,h=>by rw[ET ai]
 |n+1,root,d,h=>by
  unfold siftDown;split
  .rfl
  .split
   .split
    .rfl
    .split
     .rw[uI hi da n _ _ ai,swp_size]
     .rfl
   .split
    .rfl
    .rw[uI hi da n _ _ ai,swp_size]
theorem P1(E:a<b)(H:b<=d.size)(hl:d.size<2^40):
  aI prog ao cX 217 #[s.v,aF a,aF b] [bK aK 1 3 s d.toList] (λv As=>As=[bK aK 1 3 s (heapSort ltInt d a b).toList]):=by
 refine aI.of λR C kd I F c cs z w=>?_;refine cH ?_;have y:(((b-a:Nat):Int)-1).tdiv 2=(((b-a-1)/2+1:Nat):Int)-1:=by rw[FV (b-a)];omega
 refine mE ?_;refine C.jX (b-a) rfl ?_;refine fB ?_;refine C.quo rfl ?_ (hr:=by rw[y];exact v9 ai ai);rw[y];refine bL ?_;refine C.cN (X:=Nat×Array Int) (λx=>[(0,s.v),(6,aF a),(7,aF 0),(8,aF ((b-a:Nat):Int)),(9,aF<|(x.1:Int)-1)]) (λx=>bK aK 1 3 s x.2.toList::F) (λx=>x.1<=d.size/\x.2.size=d.size/\heapPop ltInt a (b-a) (heapBuild ltInt (b-a) a x.1 x.2)=heapSort ltInt d a b) (λx=>x.1) ((b-a-1)/2+1,d) ⟨rfl,rfl,rfl,rfl,rfl,trivial⟩ ⟨dE,rfl,rfl⟩ ?_;rintro⟨k,g⟩ e ⟨o,n,m⟩ A;dsimp only at o n m⊢;refine dT ?_;refine C.cmp rfl (λr=>?_) λr=>?_
 .refine bL ?_;obtain⟨k,rfl⟩:∃ k',k=k'+1:=⟨k-1,ai⟩;have t:((k+1:Nat):Int)-1=(k:Int):=ai;rw[t];refine fB ?_;refine C.fZ (EV (d:=g) (lo:=k) (hi:=b-a) (da:=a) ai ai ai) ?_;rintro v aT rfl;refine zx6 ?_;exact again A (k,siftDown ltInt (b-a) a k g) ⟨dE,by dsimp only;rw[uI _ _ _ _ _ (fC _)];exact n,m⟩<|dE
 .refine bL ?_;obtain rfl:k=0:=ai;have m:heapPop ltInt a (b-a) g=heapSort ltInt d a b:=m;refine fB ?_;refine C.cN (X:=Nat×Array Int) (λx=>[(0,s.v),(6,aF a),(7,aF 0),(8,aF ((b-a:Nat):Int)),(10,aF<|(x.1:Int)-1)]) (λx=>bK aK 1 3 s x.2.toList::F) (λx=>x.1<=b-a/\x.2.size=d.size/\heapPop ltInt a x.1 x.2=heapSort ltInt d a b) (λx=>x.1) (b-a,g) ⟨rfl,rfl,rfl,rfl,rfl,trivial⟩ ⟨fC _,n,m⟩ ?_;clear n m;rintro⟨k,g⟩ e ⟨o,n,m⟩ B;dsimp only at o n m⊢;refine dT ?_;refine C.cmp rfl (λu=>?_) λu=>?_
  .refine bL ?_;obtain⟨k,rfl⟩:∃ k',k=k'+1:=⟨k-1,ai⟩;have t:((k+1:Nat):Int)-1=(k:Int):=ai;rw[t];have J:g.toList.length=d.size:=by simpa using n
   refine C.dx (di 33 0 17++[(50,18)]) 20 [17,18,19] 0 ?_;refine QE ?_;refine Dr.p (v:=aF ((a+k:Nat):Int)) (λh=>C.jX (a+k) rfl h) ?_;refine uQ ?_;refine Dr.p (v:=aF ((a+k:Nat):Int)) (λh=>C.jX (a+k) rfl h) ?_;refine Dr.l (λq h=>C.dZ rfl h (s:=s) (l:=g.toList) (f:=aK) (j:=a+k)) ?_;refine Dr.l (v:=aF<|g.toList[a+k]'(by omega)) (λq h=>C.du rfl h (s:=s) (l:=g.toList) (f:=aK) (j:=a+k)) ?_;refine lH ?_;refine Dr.l (λq h=>C.dZ rfl h (s:=s) (l:=g.toList) (f:=aK) (j:=a)) ?_;refine Dr.l (v:=aF<|g.toList[a]'(by omega)) (λq h=>C.du rfl h (s:=s) (l:=g.toList) (f:=aK) (j:=a)) ?_;refine Dr.l (λq h=>C.dZ rfl h (s:=s) (l:=g.toList) (f:=aK) (j:=a)) ?_;refine Dr.chain rfl ?_;refine Ch.m 17 (bj λe aa p=>?_);refine C.j5 (s:=s) (l:=g.toList) (f:=aK) (j:=a) (g.toList[a+k]'(by omega)) rfl<|p _ undef ?_;refine Ch.m 18 (bj λe aa p=>?_);refine C.dZ rfl (p _ _ ?_) (s:=s) (l:=g.toList.set a<|g.toList[a+k]'(by omega)) (f:=aK) (j:=a+k) (hj:=by rw[eF];omega);refine Ch.m 19 (bj λe aa p=>?_);refine C.j5 (s:=s) (l:=g.toList.set a<|g.toList[a+k]'(by omega)) (f:=aK) (j:=a+k) (g.toList[a]'(by omega)) rfl (p _ undef ?_) (hj:=by rw[eF];omega);refine gy ?_;have D:=ik (d:=g) (i:=a) (j:=a+k) ai ai;rw[<- D];refine fB ?_;refine C.fZ (EV (d:=swp g a<|a+k) (lo:=0) (hi:=k) (da:=a) (by rw[swp_size];omega) ai (by rw[swp_size];omega)) ?_;rintro v aT rfl;refine zx6 ?_;exact again B (k,siftDown ltInt k a 0<|swp g a<|a+k) ⟨dE,by dsimp only;rw[uI _ _ _ _ _ (fC _),swp_size];exact n,m⟩<|dE
  .refine bL ?_;obtain rfl:k=0:=ai;have m:g=heapSort ltInt d a b:=m;rw[<- m]at w;exact C.eY z w rfl
end
section
open Go.Proofs Go.Sort
variable{ao:Bool}
abbrev VG(p:Nat)(n:Nat):HP:=dq p<|.cells #[aF n] 3 (0,0)
theorem tX{n:Nat}(ha:a<d.size)(o:b<d.size)(t:n<2^40):
  aI prog ao cX 233 #[s.v,aF a,aF b,az p] [bK aK 1 3 s d.toList,VG p n] (λv As=>v=.tuple #[aF (order2 ltInt d a b n).1,aF (order2 ltInt d a b n).2.1]/\As=[bK aK 1 3 s d.toList,VG p (order2 ltInt d a b n).2.2]):=by
 refine aI.of λR C kd u F c cs m i=>?_;refine cH ?_;have w:d.toList.length=d.size:=by simp
 have q:=Af o ha;refine fB ?_;refine C.dx (di 10 0 9) 9 [8] 0 ?_;refine lH ?_;refine Dr.l (λk h=>C.dZ rfl h (s:=s) (l:=d.toList) (f:=aK) (j:=b)) ?_;refine Dr.l (v:=aF<|d.toList[b]'(by omega)) (λk h=>C.du rfl h (s:=s) (l:=d.toList) (f:=aK) (j:=b)) ?_;refine lH ?_;refine Dr.l (λk h=>C.dZ rfl h (s:=s) (l:=d.toList) (f:=aK) (j:=a)) ?_;refine Dr.l (v:=aF<|d.toList[a]'(by omega)) (λk h=>C.du rfl h (s:=s) (l:=d.toList) (f:=aK) (j:=a)) ?_;refine Dr.chain rfl ?_;refine Ch.m 8 (bj λe aa r=>?_);refine C.cE (gu (x:=d.toList[b]'(by omega)) (y:=d.toList[a]'(by omega))) (A:=[]) ?_;refine su ?_;rw[<- q];refine r _ _ ?_;refine gy ?_;refine C.zw (λg=>?_) λg=>?_
 .refine C.go ?_;refine dY ?_;refine C.jX (n+1) rfl ?_;refine pP ?_;have e:order2 ltInt d a b n=(b,a,n+1):=by unfold order2;rw[aJ g]
  rw[e]at i;exact C.cG m i ⟨rfl,rfl⟩
 .refine iE ?_;have e:order2 ltInt d a b n=(a,b,n):=by unfold order2;rw[ax (by rw[g];decide)]
  rw[e]at i;exact C.cG m i ⟨rfl,rfl⟩
theorem qI{n:Nat}{P:Nat->Prop}(ha:P a)(c:P b):P (order2 ltInt d a b n).1/\P (order2 ltInt d a b n).2.1/\(order2 ltInt d a b n).2.2<=n+1/\n<=(order2 ltInt d a b n).2.2:=by
 unfold order2;split
 .exact⟨c,ha,fC _,pW _⟩
 .exact⟨ha,c,pW _,fC _⟩
theorem tY{q n:Nat}(ha:a<d.size)(i:b<d.size)(j:q<d.size)(u:n<2^39):
  aI prog ao cX 231 #[s.v,aF a,aF b,aF q,az p] [bK aK 1 3 s d.toList,VG p n] (λv As=>v=aF (median ltInt d a b q n).1/\As=[bK aK 1 3 s d.toList,VG p (median ltInt d a b q n).2]):=by
 refine aI.of λR C kd l F c cs m f=>?_;refine cH ?_;obtain⟨h1,k,w,_⟩:=qI (d:=d) (n:=n) (P:=(· <d.size)) ha i;obtain⟨o,x,y,_⟩:=qI (d:=d) (n:=(order2 ltInt d a b n).2.2) (P:=(· <d.size)) k j;have f:∀ v aT,v=aF (order2 ltInt d (order2 ltInt d a b n).1 (order2 ltInt d (order2 ltInt d a b n).2.1 q (order2 ltInt d a b n).2.2).1 (order2 ltInt d (order2 ltInt d a b n).2.1 q (order2 ltInt d a b n).2.2).2.2).2.1/\aT=[bK aK 1 3 s d.toList,VG p (order2 ltInt d (order2 ltInt d a b n).1 (order2 ltInt d (order2 ltInt d a b n).2.1 q (order2 ltInt d a b n).2.2).1 (order2 ltInt d (order2 ltInt d a b n).2.1 q (order2 ltInt d a b n).2.2).2.2).2.2]->At R l (aT++F) (after kd c cs v):=f;generalize r:order2 ltInt d a b n=e at*;generalize t:order2 ltInt d e.2.1 q e.2.2=g at*;generalize h:order2 ltInt d e.1 g.1 g.2.2=z at*;refine pP ?_;refine C.cE (tX (n:=n) ha i ai) ?_;simp only[fJ,ek,r];refine mE ?_;refine C.cE (tX (n:=e.2.2) k j ai) ?_;simp only[fJ,ek,t];refine mE ?_;refine C.cE (tX (n:=g.2.2) h1 o ai) ?_;simp only[fJ,ek,h];refine vH ?_;exact C.cG m f ⟨rfl,rfl⟩
theorem P2{q n:Nat}{P:Nat->Prop}(ha:P a)(c:P b)(e:P q):P (median ltInt d a b q n).1/\(median ltInt d a b q n).2<=n+3/\n<=(median ltInt d a b q n).2:=by
 obtain⟨h1,f,i,j⟩:=qI (d:=d) (n:=n) (P:=P) ha c;obtain⟨g,k,l,m⟩:=qI (d:=d) (n:=(order2 ltInt d a b n).2.2) (P:=P) f e;obtain⟨o,h,p,r⟩:=qI (d:=d) (n:=(order2 ltInt d (order2 ltInt d a b n).2.1 q (order2 ltInt d a b n).2.2).2.2) (P:=P) h1 g;refine⟨h,?_,?_⟩
 .show(order2 ltInt d _ _ _).2.2<=_;omega
 .show n<=(order2 ltInt d _ _ _).2.2;omega
theorem tZ{n:Nat}(h1:1<=a)(ha:a+1<d.size)(hl:d.size<2^40)(f:n<2^39):
  aI prog ao cX 230 #[s.v,aF a,az p] [bK aK 1 3 s d.toList,VG p n] (λv As=>v=aF (medianAdjacent ltInt d a n).1/\As=[bK aK 1 3 s d.toList,VG p (medianAdjacent ltInt d a n).2]):=by
 refine aI.of λR C kd g F c cs h e=>?_;refine cH ?_;have e:∀ v aT,v=aF (median ltInt d (a-1) a (a+1) n).1/\aT=[bK aK 1 3 s d.toList,VG p (median ltInt d (a-1) a (a+1) n).2]->At R g (aT++F) (after kd c cs v):=e;refine iE ?_;refine C.jX (a-1) rfl ?_;refine bL ?_;refine C.jX (a+1) rfl ?_;refine ga ?_;refine C.cE (tY (d:=d) (a:=a-1) (b:=a) (q:=a+1) (n:=n) ai ai ai f) ?_;refine pQ ?_;exact C.cG h e ⟨rfl,rfl⟩
end
section
open Go.Proofs Go.Sort
variable{ao:Bool}
def NC:Hint->Int
 |.unknown=>0
 |.increasing=>1
 |.decreasing=>2
def cpR(d:Array Int)(a b:Nat):Nat×Nat:=
 if b-a>=8 then
  if b-a>=50 then
   median ltInt d (medianAdjacent ltInt d (a+(b-a)/4*1) 0).1 (medianAdjacent ltInt d (a+(b-a)/4*2) (medianAdjacent ltInt d (a+(b-a)/4*1) 0).2).1 (medianAdjacent ltInt d (a+(b-a)/4*3) (medianAdjacent ltInt d (a+(b-a)/4*2) (medianAdjacent ltInt d (a+(b-a)/4*1) 0).2).2).1 (medianAdjacent ltInt d (a+(b-a)/4*3) (medianAdjacent ltInt d (a+(b-a)/4*2) (medianAdjacent ltInt d (a+(b-a)/4*1) 0).2).2).2
  else median ltInt d (a+(b-a)/4*1) (a+(b-a)/4*2) (a+(b-a)/4*3) 0
 else(a+(b-a)/4*2,0)
theorem af2(d:Array Int)(a b:Nat):choosePivot ltInt d a b=((cpR d a b).1,if(cpR d a b).2=0 then .increasing else if(cpR d a b).2=12 then .decreasing else .unknown):=rfl
theorem yu{n:Nat}{P:Nat->Prop}(h1:P (a-1))(b:P a)(c:P (a+1)):P (medianAdjacent ltInt d a n).1/\(medianAdjacent ltInt d a n).2<=n+3/\n<=(medianAdjacent ltInt d a n).2:=P2 h1 b c
theorem Lx(J:a<b)(K:b<=d.size)(hl:d.size<2^40):
  aI prog ao cX 219 #[s.v,aF a,aF b] [bK aK 1 3 s d.toList] (λv As=>v=.tuple #[aF (choosePivot ltInt d a b).1,aF<|NC (choosePivot ltInt d a b).2]/\As=[bK aK 1 3 s d.toList]):=by
 refine aI.of λR C kd A F c cs l f=>?_;refine cH ?_;have g:((b-a:Nat):Int).tdiv 4=(((b-a)/4:Nat):Int):=(L7 (b-a) 4).symm;rw[af2]at f;refine oN ?_;refine C.jX (b-a) rfl ?_;refine dT ?_;refine C.al rfl λo=>?_;refine At.turn (A':=VG o 0) .head (λ_ h=>h) ?_;refine dY ?_;refine C.quo rfl ?_ (hr:=by rw[g];exact v9 ai ai);rw[g];refine C.jX ((b-a)/4*1) rfl ?_;refine C.jX (a+(b-a)/4*1) rfl ?_;refine fB ?_;refine C.quo rfl ?_ (hr:=by rw[g];exact v9 ai ai);rw[g];refine C.jX ((b-a)/4*2) rfl ?_;refine C.jX (a+(b-a)/4*2) rfl ?_;refine fB ?_;refine C.quo rfl ?_ (hr:=by rw[g];exact v9 ai ai);rw[g];refine C.jX ((b-a)/4*3) rfl ?_;refine C.jX (a+(b-a)/4*3) rfl ?_;refine bL ?_;apply m8 (X:=Nat×Nat) (λx=>x=cpR d a b) (λx=>[(9,az o),(11,aF x.1)]) (λx=>VG o x.2::bK aK 1 3 s d.toList::F) (R:=R) (d:=A) (fn:=219) (kd:=kd) (n:=57) (ds:=[]) (cs:=c::cs)
 .intro p;refine bL ?_;refine C.cmp rfl (λr=>?_) λr=>?_
  .refine dY ?_;refine C.cmp rfl (λt=>?_) λt=>?_
   .refine fB ?_;have B:=yu (d:=d) (a:=a+(b-a)/4*1) (n:=0) (P:=(· <d.size)) ai ai ai;refine C.cE (tZ (d:=d) (a:=a+(b-a)/4*1) (n:=0) ai ai hl ai) ?_;refine cH ?_;generalize u:medianAdjacent ltInt d (a+(b-a)/4*1) 0=i at*;refine fB ?_;have D:=yu (d:=d) (a:=a+(b-a)/4*2) (n:=i.2) (P:=(· <d.size)) ai ai ai;refine C.cE (tZ (d:=d) (a:=a+(b-a)/4*2) (n:=i.2) ai ai hl ai) ?_;refine cH ?_;generalize w:medianAdjacent ltInt d (a+(b-a)/4*2) i.2=j at*;refine fB ?_;have E:=yu (d:=d) (a:=a+(b-a)/4*3) (n:=j.2) (P:=(· <d.size)) ai ai ai;refine C.cE (tZ (d:=d) (a:=a+(b-a)/4*3) (n:=j.2) ai ai hl ai) ?_;refine cH ?_;generalize y:medianAdjacent ltInt d (a+(b-a)/4*3) j.2=k at*;refine iE ?_;refine C.cE (tY (d:=d) (a:=i.1) (b:=j.1) (q:=k.1) (n:=k.2) B.1 D.1 E.1 ai) ?_;refine pQ ?_;exact bU p (median ltInt d i.1 j.1 k.1 k.2) (by unfold cpR;rw[aJ ai,aJ ai,u,w,y])
   .refine iE ?_;refine C.cE (tY (d:=d) (a:=a+(b-a)/4*1) (b:=a+(b-a)/4*2) (q:=a+(b-a)/4*3) (n:=0) ai ai ai ai) ?_;refine pQ ?_;exact bU p (median ltInt d (a+(b-a)/4*1) (a+(b-a)/4*2) (a+(b-a)/4*3) 0) (by unfold cpR;rw[aJ ai,ax ai])
  .refine bL ?_;exact bU p (a+(b-a)/4*2,0) (by unfold cpR;rw[ax ai])
 .rintro⟨q,m⟩ H e;dsimp only;rw[<- H]at f;refine dY ?_;refine C.cmp rfl (λI=>?_) λI=>?_
  .refine oN ?_;rw[aJ ai]at f;exact C.cG l f ⟨rfl,rfl⟩
  .refine dY ?_;refine C.cmp rfl (λz=>?_) λz=>?_
   .refine oN ?_;rw[ax ai,aJ ai]at f;exact C.cG l f ⟨rfl,rfl⟩
   .refine oN ?_;rw[ax ai,ax ai]at f;exact C.cG l f ⟨rfl,rfl⟩
end
section
open Go.Proofs Go.Sort
variable{ao:Bool}
section
variable{p:Int->Bool}{d:Array Int}{i j:Nat}
theorem UQ(h:i<=j)(hp:p d[i]! =true):scanUp p d j i=scanUp p d j (i+1):=by
 conv=>lhs;unfold scanUp
 rw[aJ (by simp[h,hp])]
theorem yw(h:¬ (i<=j/\p d[i]! =true)):scanUp p d j i=i:=by unfold scanUp;rw[ax (by simpa using h)]
theorem UR(h:i<=j+1)(hp:p d[j+1]! =true):scanDown p d i (j+1)=scanDown p d i j:=by
 conv=>lhs;unfold scanDown
 rw[aJ (by simp[h,hp])]
theorem yx(hi:1<=i)(h:¬ (i<=j/\p d[j]! =true)):scanDown p d i j=j:=by
 cases j with
 |zero=>rfl
 |succ j=>unfold scanDown;rw[ax (by simpa using h)]
end
theorem aci(b:scanUp (λx=>ltInt x d[a]!) d j i=i2)(c:scanDown (λx=> !ltInt x d[a]!) d i2 j=j2)(h:i2>j2):partLoop ltInt a i j d=(j2,d):=by
 unfold partLoop;rw[b]
 (try dsimp only)
 rw[c]
 (try dsimp only)
 rw[aJ h]
theorem af3(b:scanUp (λx=>ltInt x d[a]!) d j i=i2)(c:scanDown (λx=> !ltInt x d[a]!) d i2 j=j2)(h:¬ i2>j2)(e:(j2-1)+1-(i2+1)<j+1-i):partLoop ltInt a i j d=partLoop ltInt a (i2+1) (j2-1) (swp d i2 j2):=by
 conv=>lhs;unfold partLoop
 rw[b]
 (try dsimp only)
 rw[c]
 (try dsimp only)
 rw[ax h,An e]
theorem Ly{pv:Nat}(FG:a<b)(hb:b<=d.size)(hpv:pv<d.size)(hl:d.size<2^40):
  aI prog ao cX 224 #[s.v,aF a,aF b,aF pv] [bK aK 1 3 s d.toList] (λv As=>v=.tuple #[aF (partition ltInt d a b pv).1,.bool (partition ltInt d a b pv).2.1]/\As=[bK aK 1 3 s (partition ltInt d a b pv).2.2.toList]):=by
 refine aI.of λR C kd L F c cs aW t=>?_;refine cH ?_;have JU:d.toList.length=d.size:=by simp
 have w:(swp d a pv).size=d.size:=swp_size;refine fB ?_;refine C.dx (di 12 0 13++[(25,14)]) 16 [13,14,15] 0 ?_;refine qv ?_;refine Dr.l (λo h=>C.dZ rfl h (s:=s) (l:=d.toList) (f:=aK) (j:=pv)) ?_;refine Dr.l (v:=aF<|d.toList[pv]'(by omega)) (λo h=>C.du rfl h (s:=s) (l:=d.toList) (f:=aK) (j:=pv)) ?_;refine lH ?_;refine Dr.l (λo h=>C.dZ rfl h (s:=s) (l:=d.toList) (f:=aK) (j:=a)) ?_;refine Dr.l (v:=aF<|d.toList[a]'(by omega)) (λo h=>C.du rfl h (s:=s) (l:=d.toList) (f:=aK) (j:=a)) ?_;refine Dr.l (λo h=>C.dZ rfl h (s:=s) (l:=d.toList) (f:=aK) (j:=a)) ?_;refine Dr.chain rfl ?_;refine Ch.m 13 (bj λe aa m=>?_);refine C.j5 (s:=s) (l:=d.toList) (f:=aK) (j:=a) (d.toList[pv]'(by omega)) rfl<|m _ undef ?_;refine Ch.m 14 (bj λe aa m=>?_);refine C.dZ rfl (m _ _ ?_) (s:=s) (l:=d.toList.set (a)<|d.toList[pv]'(by omega)) (f:=aK) (j:=pv) (hj:=by rw[eF];omega);refine Ch.m 15 (bj λe aa m=>?_);refine C.j5 (s:=s) (l:=d.toList.set (a)<|d.toList[pv]'(by omega)) (f:=aK) (j:=pv) (d.toList[a]'(by omega)) rfl (m _ undef ?_) (hj:=by rw[eF];omega);refine gy ?_;have u:=ik (d:=d) (i:=a) (j:=pv) ai ai;rw[<- u];unfold partition at t;dsimp only at t;obtain⟨g,yI⟩:∃ x,x=swp d a pv:=⟨_,rfl⟩;rw[<- yI]at t w⊢;have aok:g.toList.length=d.size:=by simpa using w
 refine bL ?_;refine C.jX (a+1) rfl ?_;refine ga ?_;refine C.jX (b-1) rfl ?_;refine dT ?_;apply m8 (X:=Nat) (λi=>a+1<=i/\i<=b/\scanUp (λx=>ltInt x g[a]!) g (b-1) (a+1)=i) (λi=>[(0,s.v),(1,aF a),(10,aF i),(11,aF ((b-1:Nat):Int))]) (λ_=>bK aK 1 3 s g.toList::F) (R:=R) (d:=L) (fn:=224) (kd:=kd) (n:=168) (ds:=[]) (cs:=c::cs)
 .intro Jf;refine C.cN (X:=Nat) (λi=>[(0,s.v),(1,aF a),(10,aF i),(11,aF ((b-1:Nat):Int))]) (λ_=>bK aK 1 3 s g.toList::F) (λi=>a+1<=i/\i<=b/\scanUp (λx=>ltInt x g[a]!) g (b-1) (a+1)=scanUp (λx=>ltInt x g[a]!) g (b-1) i) (λi=>b-i) (a+1) ⟨rfl,rfl,rfl,rfl,trivial⟩ ⟨fC _,FG,rfl⟩ ?_;rintro i e ⟨Q,S,T⟩ M;refine C.go ?_;rcases lP i ((b-1)+1)with z|z
  .refine C.dx (di 30 0 14) 14 [12,13] 0 ?_;refine lH ?_;refine Dr.p (λh=>C.fQ rfl h) ?_;refine uQ ?_;refine Dr.l (λo h=>C.dZ rfl h (s:=s) (l:=g.toList) (f:=aK) (j:=i)) ?_;refine Dr.l (v:=aF<|g.toList[i]'(by omega)) (λo h=>C.du rfl h (s:=s) (l:=g.toList) (f:=aK) (j:=i)) ?_;refine lH ?_;refine Dr.l (λo h=>C.dZ rfl h (s:=s) (l:=g.toList) (f:=aK) (j:=a)) ?_;refine Dr.l (v:=aF<|g.toList[a]'(by omega)) (λo h=>C.du rfl h (s:=s) (l:=g.toList) (f:=aK) (j:=a)) ?_;refine Dr.chain rfl ?_;refine Ch.m 12 (bj λe aa m=>?_);refine C.cE (gu (x:=(g.toList[i]'(by omega))) (y:=(g.toList[a]'(by omega)))) (A:=[]) ?_;refine su ?_;refine m _ _ ?_;refine Ch.q 13 (λh=>C.pk rfl h) ?_;refine gy ?_;refine C.zw (λU=>?_) λU=>?_
   .refine gV ?_;exact again M (i+1) ⟨ai,ai,by rw[T];exact UQ ai (by rw[Af ai ai];exact U)⟩ ai
   .refine C.go ?_;exact bU Jf i ⟨Q,S,by rw[T];exact yw (by rw[Af ai ai];rintro⟨_,h⟩;rw[U]at h;cases h)⟩
  .refine C.dx (di 30 0 14) 14 [12,13] 0 ?_;refine lH ?_;refine Dr.p (λh=>C.ed rfl h) ?_;refine VA ?_;refine Ch.m 12 (bj λe aa m=>?_);refine C.no rfl<|m _ _ ?_;refine Ch.q 13 (λh=>C.pk rfl h) ?_;refine pR ?_;exact bU Jf i ⟨Q,S,by rw[T];exact yw (by rintro⟨h,_⟩;omega)⟩
 .rintro i ⟨Q,S,hI⟩ e;apply m8 (X:=Nat) (λj=>j<=b-1/\scanDown (λx=> !ltInt x g[a]!) g i (b-1)=j) (λj=>[(0,s.v),(1,aF a),(10,aF i),(11,aF j)]) (λ_=>bK aK 1 3 s g.toList::F) (R:=R) (d:=L) (fn:=224) (kd:=kd) (n:=168) (ds:=[]) (cs:=c::cs)
  .intro Jg;refine C.cN (X:=Nat) (λj=>[(0,s.v),(1,aF a),(10,aF i),(11,aF j)]) (λ_=>bK aK 1 3 s g.toList::F) (λj=>j<=b-1/\scanDown (λx=> !ltInt x g[a]!) g i (b-1)=scanDown (λx=> !ltInt x g[a]!) g i j) (λj=>j) (b-1) ⟨rfl,rfl,rfl,rfl,trivial⟩ ⟨fC _,rfl⟩ ?_;rintro j e ⟨B,D⟩ M;refine C.go ?_;rcases lP i (j+1)with z|z
   .refine C.dx (di 46 0 15) 15 [12,13,14] 0 ?_;refine lH ?_;refine Dr.p (λh=>C.fQ rfl h) ?_;refine uQ ?_;refine Dr.l (λo h=>C.dZ rfl h (s:=s) (l:=g.toList) (f:=aK) (j:=j)) ?_;refine Dr.l (v:=aF<|g.toList[j]'(by omega)) (λo h=>C.du rfl h (s:=s) (l:=g.toList) (f:=aK) (j:=j)) ?_;refine lH ?_;refine Dr.l (λo h=>C.dZ rfl h (s:=s) (l:=g.toList) (f:=aK) (j:=a)) ?_;refine Dr.l (v:=aF<|g.toList[a]'(by omega)) (λo h=>C.du rfl h (s:=s) (l:=g.toList) (f:=aK) (j:=a)) ?_;refine Dr.chain rfl ?_;refine Ch.m 12 (bj λe aa m=>?_);refine C.cE (gu (x:=(g.toList[j]'(by omega))) (y:=(g.toList[a]'(by omega)))) (A:=[]) ?_;refine su ?_;refine m _ _ ?_;refine Ch.q 13 (λh=>C.nt rfl h) ?_;refine Ch.q 14 (λh=>C.pk rfl h) ?_;refine gy ?_;refine C.zw (λE=>?_) λE=>?_
    .refine C.go ?_;refine bL ?_;refine C.jX (j-1) rfl ?_;refine bL ?_;obtain⟨j,rfl⟩:∃ W,j=W+1:=⟨j-1,ai⟩;exact again M j ⟨ai,by rw[D];exact UR ai (by rw[Af ai ai];exact E)⟩ ai
    .refine C.go ?_;exact bU Jg j ⟨B,by rw[D];exact yx ai (by rw[Af ai ai];rintro⟨_,h⟩;rw[E]at h;cases h)⟩
   .refine C.dx (di 46 0 15) 15 [12,13,14] 0 ?_;refine lH ?_;refine Dr.p (λh=>C.ed rfl h) ?_;refine VA ?_;refine Ch.m 12 (bj λe aa m=>?_);refine C.no rfl<|m _ _ ?_;refine Ch.q 13 (λh=>C.no rfl h) ?_;refine Ch.q 14 (λh=>C.pk rfl h) ?_;refine pR ?_;exact bU Jg j ⟨B,by rw[D];exact yx ai (by rintro⟨h,_⟩;omega)⟩
  .rintro j ⟨B,hJ⟩ e;refine dT ?_;refine C.cmp rfl (λY=>?_) λY=>?_
   .refine bL ?_;refine C.dx (di 66 0 13++[(79,14)]) 16 [13,14,15] 0 ?_;refine qv ?_;refine Dr.l (λo h=>C.dZ rfl h (s:=s) (l:=g.toList) (f:=aK) (j:=a)) ?_;refine Dr.l (v:=aF<|g.toList[a]'(by omega)) (λo h=>C.du rfl h (s:=s) (l:=g.toList) (f:=aK) (j:=a)) ?_;refine lH ?_;refine Dr.l (λo h=>C.dZ rfl h (s:=s) (l:=g.toList) (f:=aK) (j:=j)) ?_;refine Dr.l (v:=aF<|g.toList[j]'(by omega)) (λo h=>C.du rfl h (s:=s) (l:=g.toList) (f:=aK) (j:=j)) ?_;refine Dr.l (λo h=>C.dZ rfl h (s:=s) (l:=g.toList) (f:=aK) (j:=j)) ?_;refine Dr.chain rfl ?_;refine Ch.m 13 (bj λe aa m=>?_);refine C.j5 (s:=s) (l:=g.toList) (f:=aK) (j:=j) (g.toList[a]'(by omega)) rfl<|m _ undef ?_;refine Ch.m 14 (bj λe aa m=>?_);refine C.dZ rfl (m _ _ ?_) (s:=s) (l:=g.toList.set (j)<|g.toList[a]'(by omega)) (f:=aK) (j:=a) (hj:=by rw[eF];omega);refine Ch.m 15 (bj λe aa m=>?_);refine C.j5 (s:=s) (l:=g.toList.set (j)<|g.toList[a]'(by omega)) (f:=aK) (j:=a) (g.toList[j]'(by omega)) rfl (m _ undef ?_) (hj:=by rw[eF];omega);refine S4 ?_;rw[hI,hJ,aJ ai]at t;have u:=ik (d:=g) (i:=j) (j:=a) ai ai;rw[<- u];exact C.cG aW t ⟨rfl,rfl⟩
   .refine bL ?_;refine C.dx (di 81 0 13++[(94,14)]) 16 [13,14,15] 0 ?_;refine qv ?_;refine Dr.l (λo h=>C.dZ rfl h (s:=s) (l:=g.toList) (f:=aK) (j:=j)) ?_;refine Dr.l (v:=aF<|g.toList[j]'(by omega)) (λo h=>C.du rfl h (s:=s) (l:=g.toList) (f:=aK) (j:=j)) ?_;refine lH ?_;refine Dr.l (λo h=>C.dZ rfl h (s:=s) (l:=g.toList) (f:=aK) (j:=i)) ?_;refine Dr.l (v:=aF<|g.toList[i]'(by omega)) (λo h=>C.du rfl h (s:=s) (l:=g.toList) (f:=aK) (j:=i)) ?_;refine Dr.l (λo h=>C.dZ rfl h (s:=s) (l:=g.toList) (f:=aK) (j:=i)) ?_;refine Dr.chain rfl ?_;refine Ch.m 13 (bj λe aa m=>?_);refine C.j5 (s:=s) (l:=g.toList) (f:=aK) (j:=i) (g.toList[j]'(by omega)) rfl<|m _ undef ?_;refine Ch.m 14 (bj λe aa m=>?_);refine C.dZ rfl (m _ _ ?_) (s:=s) (l:=g.toList.set (i)<|g.toList[j]'(by omega)) (f:=aK) (j:=j) (hj:=by rw[eF];omega);refine Ch.m 15 (bj λe aa m=>?_);refine C.j5 (s:=s) (l:=g.toList.set (i)<|g.toList[j]'(by omega)) (f:=aK) (j:=j) (g.toList[i]'(by omega)) rfl (m _ undef ?_) (hj:=by rw[eF];omega);refine S5 ?_;refine C.jX (j-1) rfl ?_;refine bL ?_;rw[hI,hJ,ax ai]at t;have u:=ik (d:=g) (i:=i) (j:=j) ai ai;rw[<- u];obtain⟨O,FR⟩:∃ x,x=swp g i j:=⟨_,rfl⟩;have si:O.size=d.size:=by rw[FR,swp_size];exact w
    rw[<- FR]at t⊢;have AD:i<=j:=ai;apply m8 (X:=Nat×Array Int) (λx=>x.1<d.size/\x.2.size=d.size/\partLoop ltInt a (i+1) (j-1) O=x) (λx=>[(0,s.v),(1,aF a),(11,aF x.1)]) (λx=>bK aK 1 3 s x.2.toList::F) (R:=R) (d:=L) (fn:=224) (kd:=kd) (n:=168) (ds:=[]) (cs:=c::cs)
    .intro Z;refine C.cN (X:=Nat×Nat×Array Int) (λx=>[(0,s.v),(1,aF a),(10,aF x.1),(11,aF x.2.1)]) (λx=>bK aK 1 3 s x.2.2.toList::F) (λx=>a+1<=x.1/\x.1<=d.size+1/\x.2.1<d.size/\x.2.2.size=d.size/\partLoop ltInt a (i+1) (j-1) O=partLoop ltInt a x.1 x.2.1 x.2.2) (λx=>x.2.1+1-x.1) (i+1,j-1,O) ⟨rfl,rfl,rfl,rfl,trivial⟩ ⟨dE,dE,dE,si,rfl⟩ ?_;rintro⟨H,r,k⟩ e ⟨Gy,Fa,Vx,P,I⟩ M;dsimp only at Gy Fa Vx P I⊢;have acn:k.toList.length=d.size:=by simpa using P
     refine C.go ?_;apply m8 (X:=Nat) (λq=>H<=q/\(q<=r+1\/q=H)/\scanUp (λx=>ltInt x k[a]!) k r H=q) (λq=>[(0,s.v),(1,aF a),(10,aF q),(11,aF r)]) (λ_=>bK aK 1 3 s k.toList::F) (R:=R) (d:=L) (fn:=224) (kd:=kd) (n:=168) (ds:=[]) (cs:=c::cs)
     .intro US;refine C.cN (X:=Nat) (λq=>[(0,s.v),(1,aF a),(10,aF q),(11,aF r)]) (λ_=>bK aK 1 3 s k.toList::F) (λq=>H<=q/\(q<=r+1\/q=H)/\scanUp (λx=>ltInt x k[a]!) k r H=scanUp (λx=>ltInt x k[a]!) k r q) (λq=>r+1-q) H ⟨rfl,rfl,rfl,rfl,trivial⟩ ⟨fC _,.inr rfl,rfl⟩ ?_;rintro i2 e ⟨CF,UT,J⟩ ND;refine C.go ?_;rcases lP i2 (r+1)with z|z
      .refine C.dx (di 99 0 14) 14 [12,13] 0 ?_;refine lH ?_;refine Dr.p (λh=>C.fQ rfl h) ?_;refine uQ ?_;refine Dr.l (λo h=>C.dZ rfl h (s:=s) (l:=k.toList) (f:=aK) (j:=i2)) ?_;refine Dr.l (v:=aF<|k.toList[i2]'(by omega)) (λo h=>C.du rfl h (s:=s) (l:=k.toList) (f:=aK) (j:=i2)) ?_;refine lH ?_;refine Dr.l (λo h=>C.dZ rfl h (s:=s) (l:=k.toList) (f:=aK) (j:=a)) ?_;refine Dr.l (v:=aF<|k.toList[a]'(by omega)) (λo h=>C.du rfl h (s:=s) (l:=k.toList) (f:=aK) (j:=a)) ?_;refine Dr.chain rfl ?_;refine Ch.m 12 (bj λe aa m=>?_);refine C.cE (gu (x:=(k.toList[i2]'(by omega))) (y:=(k.toList[a]'(by omega)))) (A:=[]) ?_;refine su ?_;refine m _ _ ?_;refine Ch.q 13 (λh=>C.pk rfl h) ?_;refine gy ?_;refine C.zw (λUU=>?_) λUU=>?_
       .refine gV ?_;exact again ND (i2+1) ⟨ai,ai,by rw[J];exact UQ ai (by rw[Af ai ai];exact UU)⟩ ai
       .refine C.go ?_;exact bU US i2 ⟨CF,UT,by rw[J];exact yw (by rw[Af ai ai];rintro⟨_,h⟩;rw[UU]at h;cases h)⟩
      .refine C.dx (di 99 0 14) 14 [12,13] 0 ?_;refine lH ?_;refine Dr.p (λh=>C.ed rfl h) ?_;refine VA ?_;refine Ch.m 12 (bj λe aa m=>?_);refine C.no rfl<|m _ _ ?_;refine Ch.q 13 (λh=>C.pk rfl h) ?_;refine pR ?_;exact bU US i2 ⟨CF,UT,by rw[J];exact yw (by rintro⟨h,_⟩;omega)⟩
     .rintro i2 ⟨CF,UT,hU⟩ e;apply m8 (X:=Nat) (λq=>q<=r/\scanDown (λx=> !ltInt x k[a]!) k i2 r=q) (λq=>[(0,s.v),(1,aF a),(10,aF i2),(11,aF q)]) (λ_=>bK aK 1 3 s k.toList::F) (R:=R) (d:=L) (fn:=224) (kd:=kd) (n:=168) (ds:=[]) (cs:=c::cs)
      .intro uf;refine C.cN (X:=Nat) (λq=>[(0,s.v),(1,aF a),(10,aF i2),(11,aF q)]) (λ_=>bK aK 1 3 s k.toList::F) (λq=>q<=r/\scanDown (λx=> !ltInt x k[a]!) k i2 r=scanDown (λx=> !ltInt x k[a]!) k i2 q) (λq=>q) r ⟨rfl,rfl,rfl,rfl,trivial⟩ ⟨fC _,rfl⟩ ?_;rintro j2 e ⟨ui,K⟩ ih4;refine C.go ?_;rcases lP i2 (j2+1)with z|z
       .refine C.dx (di 115 0 15) 15 [12,13,14] 0 ?_;refine lH ?_;refine Dr.p (λh=>C.fQ rfl h) ?_;refine uQ ?_;refine Dr.l (λo h=>C.dZ rfl h (s:=s) (l:=k.toList) (f:=aK) (j:=j2)) ?_;refine Dr.l (v:=aF<|k.toList[j2]'(by omega)) (λo h=>C.du rfl h (s:=s) (l:=k.toList) (f:=aK) (j:=j2)) ?_;refine lH ?_;refine Dr.l (λo h=>C.dZ rfl h (s:=s) (l:=k.toList) (f:=aK) (j:=a)) ?_;refine Dr.l (v:=aF<|k.toList[a]'(by omega)) (λo h=>C.du rfl h (s:=s) (l:=k.toList) (f:=aK) (j:=a)) ?_;refine Dr.chain rfl ?_;refine Ch.m 12 (bj λe aa m=>?_);refine C.cE (gu (x:=(k.toList[j2]'(by omega))) (y:=(k.toList[a]'(by omega)))) (A:=[]) ?_;refine su ?_;refine m _ _ ?_;refine Ch.q 13 (λh=>C.nt rfl h) ?_;refine Ch.q 14 (λh=>C.pk rfl h) ?_;refine gy ?_;refine C.zw (λUW=>?_) λUW=>?_
        .refine C.go ?_;refine bL ?_;refine C.jX (j2-1) rfl ?_;refine bL ?_;obtain⟨j2,rfl⟩:∃ W,j2=W+1:=⟨j2-1,ai⟩;exact again ih4 j2 ⟨ai,by rw[K];exact UR ai (by rw[Af ai ai];exact UW)⟩ ai
        .refine C.go ?_;exact bU uf j2 ⟨ui,by rw[K];exact yx ai (by rw[Af ai ai];rintro⟨_,h⟩;rw[UW]at h;cases h)⟩
       .refine C.dx (di 115 0 15) 15 [12,13,14] 0 ?_;refine lH ?_;refine Dr.p (λh=>C.ed rfl h) ?_;refine VA ?_;refine Ch.m 12 (bj λe aa m=>?_);refine C.no rfl<|m _ _ ?_;refine Ch.q 13 (λh=>C.no rfl h) ?_;refine Ch.q 14 (λh=>C.pk rfl h) ?_;refine pR ?_;exact bU uf j2 ⟨ui,by rw[K];exact yx ai (by rintro⟨h,_⟩;omega)⟩
      .rintro j2 ⟨ui,hV⟩ e;refine dT ?_;refine C.cmp rfl (λajP=>?_) λajP=>?_
       .refine bL ?_;exact bU Z (j2,k) ⟨dE,P,by rw[I,aci hU hV ai]⟩
       .refine bL ?_;refine C.dx (di 135 0 13++[(148,14)]) 16 [13,14,15] 0 ?_;refine qv ?_;refine Dr.l (λo h=>C.dZ rfl h (s:=s) (l:=k.toList) (f:=aK) (j:=j2)) ?_;refine Dr.l (v:=aF<|k.toList[j2]'(by omega)) (λo h=>C.du rfl h (s:=s) (l:=k.toList) (f:=aK) (j:=j2)) ?_;refine lH ?_;refine Dr.l (λo h=>C.dZ rfl h (s:=s) (l:=k.toList) (f:=aK) (j:=i2)) ?_;refine Dr.l (v:=aF<|k.toList[i2]'(by omega)) (λo h=>C.du rfl h (s:=s) (l:=k.toList) (f:=aK) (j:=i2)) ?_;refine Dr.l (λo h=>C.dZ rfl h (s:=s) (l:=k.toList) (f:=aK) (j:=i2)) ?_;refine Dr.chain rfl ?_;refine Ch.m 13 (bj λe aa m=>?_);refine C.j5 (s:=s) (l:=k.toList) (f:=aK) (j:=i2) (k.toList[j2]'(by omega)) rfl<|m _ undef ?_;refine Ch.m 14 (bj λe aa m=>?_);refine C.dZ rfl (m _ _ ?_) (s:=s) (l:=k.toList.set (i2)<|k.toList[j2]'(by omega)) (f:=aK) (j:=j2) (hj:=by rw[eF];omega);refine Ch.m 15 (bj λe aa m=>?_);refine C.j5 (s:=s) (l:=k.toList.set (i2)<|k.toList[j2]'(by omega)) (f:=aK) (j:=j2) (k.toList[i2]'(by omega)) rfl (m _ undef ?_) (hj:=by rw[eF];omega);refine S5 ?_;refine C.jX (j2-1) rfl ?_;refine bL ?_;have u:=ik (d:=k) (i:=i2) (j:=j2) ai ai;exact again M (i2+1,j2-1,swp k i2 j2) ⟨dE,dE,dE,by dsimp only;rw[swp_size];exact P,by rw[I,af3 hU hV ai ai]⟩ (dE) (hr:=by dsimp only;rw[u];exact dg.au)
    .rintro⟨q,p⟩ ⟨hq1,DN,N⟩ e;have aol:p.toList.length=d.size:=by simpa using DN
     dsimp only at hq1 DN N⊢;rw[N]at t;refine C.dx (di 153 0 13++[(166,14)]) 16 [13,14,15] 0 ?_;refine qv ?_;refine Dr.l (λo h=>C.dZ rfl h (s:=s) (l:=p.toList) (f:=aK) (j:=a)) ?_;refine Dr.l (v:=aF<|p.toList[a]'(by omega)) (λo h=>C.du rfl h (s:=s) (l:=p.toList) (f:=aK) (j:=a)) ?_;refine lH ?_;refine Dr.l (λo h=>C.dZ rfl h (s:=s) (l:=p.toList) (f:=aK) (j:=q)) ?_;refine Dr.l (v:=aF<|p.toList[q]'(by omega)) (λo h=>C.du rfl h (s:=s) (l:=p.toList) (f:=aK) (j:=q)) ?_;refine Dr.l (λo h=>C.dZ rfl h (s:=s) (l:=p.toList) (f:=aK) (j:=q)) ?_;refine Dr.chain rfl ?_;refine Ch.m 13 (bj λe aa m=>?_);refine C.j5 (s:=s) (l:=p.toList) (f:=aK) (j:=q) (p.toList[a]'(by omega)) rfl<|m _ undef ?_;refine Ch.m 14 (bj λe aa m=>?_);refine C.dZ rfl (m _ _ ?_) (s:=s) (l:=p.toList.set (q)<|p.toList[a]'(by omega)) (f:=aK) (j:=a) (hj:=by rw[eF];omega);refine Ch.m 15 (bj λe aa m=>?_);refine C.j5 (s:=s) (l:=p.toList.set (q)<|p.toList[a]'(by omega)) (f:=aK) (j:=a) (p.toList[q]'(by omega)) rfl (m _ undef ?_) (hj:=by rw[eF];omega);refine S4 ?_;have u:=ik (d:=p) (i:=q) (j:=a) ai ai;rw[<- u];exact C.cG aW t ⟨rfl,rfl⟩
end
section
open Go.Proofs Go.Sort
variable{ao:Bool}
theorem acr(b:scanUp (λx=> !ltInt d[a]! x) d j i=i2)(c:scanDown (λx=>ltInt d[a]! x) d i2 j=j2)(h:i2>j2):partEqLoop ltInt a i j d=(i2,d):=by
 unfold partEqLoop;rw[b]
 (try dsimp only)
 rw[c]
 (try dsimp only)
 rw[aJ h]
theorem af6(b:scanUp (λx=> !ltInt d[a]! x) d j i=i2)(c:scanDown (λx=>ltInt d[a]! x) d i2 j=j2)(h:¬ i2>j2)(e:(j2-1)+1-(i2+1)<j+1-i):partEqLoop ltInt a i j d=partEqLoop ltInt a (i2+1) (j2-1) (swp d i2 j2):=by
 conv=>lhs;unfold partEqLoop
 rw[b]
 (try dsimp only)
 rw[c]
 (try dsimp only)
 rw[ax h,An e]
theorem Jh{pv:Nat}(FG:a<b)(hb:b<=d.size)(Z:pv<d.size)(hl:d.size<2^40):
  aI prog ao cX 223 #[s.v,aF a,aF b,aF pv] [bK aK 1 3 s d.toList] (λv As=>v=aF (partitionEqual ltInt d a b pv).1/\As=[bK aK 1 3 s (partitionEqual ltInt d a b pv).2.toList]):=by
 refine aI.of λR C kd D F c cs aW B=>?_;refine cH ?_;have JU:d.toList.length=d.size:=by simp
 have z:(swp d a pv).size=d.size:=swp_size;refine dY ?_;refine C.dx (di 11 0 13++[(24,14)]) 16 [13,14,15] 0 ?_;refine qv ?_;refine Dr.l (λm h=>C.dZ rfl h (s:=s) (l:=d.toList) (f:=aK) (j:=pv)) ?_;refine Dr.l (v:=aF<|d.toList[pv]'(by omega)) (λm h=>C.du rfl h (s:=s) (l:=d.toList) (f:=aK) (j:=pv)) ?_;refine lH ?_;refine Dr.l (λm h=>C.dZ rfl h (s:=s) (l:=d.toList) (f:=aK) (j:=a)) ?_;refine Dr.l (v:=aF<|d.toList[a]'(by omega)) (λm h=>C.du rfl h (s:=s) (l:=d.toList) (f:=aK) (j:=a)) ?_;refine Dr.l (λm h=>C.dZ rfl h (s:=s) (l:=d.toList) (f:=aK) (j:=a)) ?_;refine Dr.chain rfl ?_;refine Ch.m 13 (bj λe aa k=>?_);refine C.j5 (s:=s) (l:=d.toList) (f:=aK) (j:=a) (d.toList[pv]'(by omega)) rfl<|k _ undef ?_;refine Ch.m 14 (bj λe aa k=>?_);refine C.dZ rfl (k _ _ ?_) (s:=s) (l:=d.toList.set (a)<|d.toList[pv]'(by omega)) (f:=aK) (j:=pv) (hj:=by rw[eF];omega);refine Ch.m 15 (bj λe aa k=>?_);refine C.j5 (s:=s) (l:=d.toList.set (a)<|d.toList[pv]'(by omega)) (f:=aK) (j:=pv) (d.toList[a]'(by omega)) rfl (k _ undef ?_) (hj:=by rw[eF];omega);refine gy ?_;have E:=ik (d:=d) (i:=a) (j:=pv) ai ai;rw[<- E];unfold partitionEqual at B;obtain⟨H,yI⟩:∃ x,x=swp d a pv:=⟨_,rfl⟩;rw[<- yI]at B z⊢;refine bL ?_;refine C.jX (a+1) rfl ?_;refine ga ?_;refine C.jX (b-1) rfl ?_;refine dT ?_;apply m8 (X:=Nat×Array Int) (λx=>partEqLoop ltInt a (a+1) (b-1) H=x) (λx=>[(9,aF x.1)]) (λx=>bK aK 1 3 s x.2.toList::F) (R:=R) (d:=D) (fn:=223) (kd:=kd) (n:=84) (ds:=[]) (cs:=c::cs)
 .intro I;refine C.cN (X:=Nat×Nat×Array Int) (λx=>[(0,s.v),(1,aF a),(9,aF x.1),(10,aF x.2.1)]) (λx=>bK aK 1 3 s x.2.2.toList::F) (λx=>a+1<=x.1/\x.1<=d.size+1/\x.2.1<d.size/\x.2.2.size=d.size/\partEqLoop ltInt a (a+1) (b-1) H=partEqLoop ltInt a x.1 x.2.1 x.2.2) (λx=>x.2.1+1-x.1) (a+1,b-1,H) ⟨rfl,rfl,rfl,rfl,trivial⟩ ⟨dE,dE,dE,z,rfl⟩ ?_;rintro⟨p,o,g⟩ e ⟨Gy,Fa,Vx,J,r⟩ ih;dsimp only at Gy Fa Vx J r⊢;have acn:g.toList.length=d.size:=by simpa using J
  refine C.go ?_;apply m8 (X:=Nat) (λq=>p<=q/\(q<=o+1\/q=p)/\scanUp (λx=> !ltInt g[a]! x) g o p=q) (λq=>[(0,s.v),(1,aF a),(9,aF q),(10,aF o)]) (λ_=>bK aK 1 3 s g.toList::F) (R:=R) (d:=D) (fn:=223) (kd:=kd) (n:=84) (ds:=[]) (cs:=c::cs)
  .intro T;refine C.cN (X:=Nat) (λq=>[(0,s.v),(1,aF a),(9,aF q),(10,aF o)]) (λ_=>bK aK 1 3 s g.toList::F) (λq=>p<=q/\(q<=o+1\/q=p)/\scanUp (λx=> !ltInt g[a]! x) g o p=scanUp (λx=> !ltInt g[a]! x) g o q) (λq=>o+1-q) p ⟨rfl,rfl,rfl,rfl,trivial⟩ ⟨fC _,.inr rfl,rfl⟩ ?_;rintro i2 e ⟨K,L,t⟩ ND;refine C.go ?_;rcases lP i2 (o+1)with M|M
   .refine C.dx (di 29 0 15) 15 [12,13,14] 0 ?_;refine lH ?_;refine Dr.p (λh=>C.fQ rfl h) ?_;refine uQ ?_;refine Dr.l (λm h=>C.dZ rfl h (s:=s) (l:=g.toList) (f:=aK) (j:=a)) ?_;refine Dr.l (v:=aF<|g.toList[a]'(by omega)) (λm h=>C.du rfl h (s:=s) (l:=g.toList) (f:=aK) (j:=a)) ?_;refine lH ?_;refine Dr.l (λm h=>C.dZ rfl h (s:=s) (l:=g.toList) (f:=aK) (j:=i2)) ?_;refine Dr.l (v:=aF<|g.toList[i2]'(by omega)) (λm h=>C.du rfl h (s:=s) (l:=g.toList) (f:=aK) (j:=i2)) ?_;refine Dr.chain rfl ?_;refine Ch.m 12 (bj λe aa k=>?_);refine C.cE (gu (x:=(g.toList[a]'(by omega))) (y:=(g.toList[i2]'(by omega)))) (A:=[]) ?_;refine su ?_;refine k _ _ ?_;refine Ch.q 13 (λh=>C.nt rfl h) ?_;refine Ch.q 14 (λh=>C.pk rfl h) ?_;refine gy ?_;refine C.zw (λN=>?_) λN=>?_
    .refine gV ?_;exact again ND (i2+1) ⟨ai,ai,by rw[t];exact UQ ai (by rw[Af ai ai];exact N)⟩ ai
    .refine C.go ?_;exact bU T i2 ⟨K,L,by rw[t];exact yw (by rw[Af ai ai];rintro⟨_,h⟩;rw[N]at h;cases h)⟩
   .refine C.dx (di 29 0 15) 15 [12,13,14] 0 ?_;refine lH ?_;refine Dr.p (λh=>C.ed rfl h) ?_;refine VA ?_;refine Ch.m 12 (bj λe aa k=>?_);refine C.no rfl<|k _ _ ?_;refine Ch.q 13 (λh=>C.no rfl h) ?_;refine Ch.q 14 (λh=>C.pk rfl h) ?_;refine pR ?_;exact bU T i2 ⟨K,L,by rw[t];exact yw (by rintro⟨h,_⟩;omega)⟩
  .rintro i2 ⟨K,L,U⟩ e;apply m8 (X:=Nat) (λq=>q<=o/\scanDown (λx=>ltInt g[a]! x) g i2 o=q) (λq=>[(0,s.v),(1,aF a),(9,aF i2),(10,aF q)]) (λ_=>bK aK 1 3 s g.toList::F) (R:=R) (d:=D) (fn:=223) (kd:=kd) (n:=84) (ds:=[]) (cs:=c::cs)
   .intro W;refine C.cN (X:=Nat) (λq=>[(0,s.v),(1,aF a),(9,aF i2),(10,aF q)]) (λ_=>bK aK 1 3 s g.toList::F) (λq=>q<=o/\scanDown (λx=>ltInt g[a]! x) g i2 o=scanDown (λx=>ltInt g[a]! x) g i2 q) (λq=>q) o ⟨rfl,rfl,rfl,rfl,trivial⟩ ⟨fC _,rfl⟩ ?_;rintro j2 e ⟨O,u⟩ P;refine C.go ?_;rcases lP i2 (j2+1)with M|M
    .refine C.dx (di 46 0 14) 14 [12,13] 0 ?_;refine lH ?_;refine Dr.p (λh=>C.fQ rfl h) ?_;refine uQ ?_;refine Dr.l (λm h=>C.dZ rfl h (s:=s) (l:=g.toList) (f:=aK) (j:=a)) ?_;refine Dr.l (v:=aF<|g.toList[a]'(by omega)) (λm h=>C.du rfl h (s:=s) (l:=g.toList) (f:=aK) (j:=a)) ?_;refine lH ?_;refine Dr.l (λm h=>C.dZ rfl h (s:=s) (l:=g.toList) (f:=aK) (j:=j2)) ?_;refine Dr.l (v:=aF<|g.toList[j2]'(by omega)) (λm h=>C.du rfl h (s:=s) (l:=g.toList) (f:=aK) (j:=j2)) ?_;refine Dr.chain rfl ?_;refine Ch.m 12 (bj λe aa k=>?_);refine C.cE (gu (x:=(g.toList[a]'(by omega))) (y:=(g.toList[j2]'(by omega)))) (A:=[]) ?_;refine su ?_;refine k _ _ ?_;refine Ch.q 13 (λh=>C.pk rfl h) ?_;refine gy ?_;refine C.zw (λw=>?_) λw=>?_
     .refine C.go ?_;refine bL ?_;refine C.jX (j2-1) rfl ?_;refine bL ?_;obtain⟨j2,rfl⟩:∃ j',j2=j'+1:=⟨j2-1,ai⟩;exact again P j2 ⟨ai,by rw[u];exact UR ai (by rw[Af ai ai];exact w)⟩ ai
     .refine C.go ?_;exact bU W j2 ⟨O,by rw[u];exact yx ai (by rw[Af ai ai];rintro⟨_,h⟩;rw[w]at h;cases h)⟩
    .refine C.dx (di 46 0 14) 14 [12,13] 0 ?_;refine lH ?_;refine Dr.p (λh=>C.ed rfl h) ?_;refine VA ?_;refine Ch.m 12 (bj λe aa k=>?_);refine C.no rfl<|k _ _ ?_;refine Ch.q 13 (λh=>C.pk rfl h) ?_;refine pR ?_;exact bU W j2 ⟨O,by rw[u];exact yx ai (by rintro⟨h,_⟩;omega)⟩
   .rintro j2 ⟨O,Y⟩ e;refine dT ?_;refine C.cmp rfl (λQ=>?_) λQ=>?_
    .refine bL ?_;exact bU I (i2,g)<|by rw[r,acr U Y ai]
    .refine bL ?_;refine C.dx (di 65 0 13++[(78,14)]) 16 [13,14,15] 0 ?_;refine qv ?_;refine Dr.l (λm h=>C.dZ rfl h (s:=s) (l:=g.toList) (f:=aK) (j:=j2)) ?_;refine Dr.l (v:=aF<|g.toList[j2]'(by omega)) (λm h=>C.du rfl h (s:=s) (l:=g.toList) (f:=aK) (j:=j2)) ?_;refine lH ?_;refine Dr.l (λm h=>C.dZ rfl h (s:=s) (l:=g.toList) (f:=aK) (j:=i2)) ?_;refine Dr.l (v:=aF<|g.toList[i2]'(by omega)) (λm h=>C.du rfl h (s:=s) (l:=g.toList) (f:=aK) (j:=i2)) ?_;refine Dr.l (λm h=>C.dZ rfl h (s:=s) (l:=g.toList) (f:=aK) (j:=i2)) ?_;refine Dr.chain rfl ?_;refine Ch.m 13 (bj λe aa k=>?_);refine C.j5 (s:=s) (l:=g.toList) (f:=aK) (j:=i2) (g.toList[j2]'(by omega)) rfl<|k _ undef ?_;refine Ch.m 14 (bj λe aa k=>?_);refine C.dZ rfl (k _ _ ?_) (s:=s) (l:=g.toList.set (i2)<|g.toList[j2]'(by omega)) (f:=aK) (j:=j2) (hj:=by rw[eF];omega);refine Ch.m 15 (bj λe aa k=>?_);refine C.j5 (s:=s) (l:=g.toList.set (i2)<|g.toList[j2]'(by omega)) (f:=aK) (j:=j2) (g.toList[i2]'(by omega)) rfl (k _ undef ?_) (hj:=by rw[eF];omega);refine S5 ?_;refine C.jX (j2-1) rfl ?_;refine bL ?_;have E:=ik (d:=g) (i:=i2) (j:=j2) ai ai;exact again ih (i2+1,j2-1,swp g i2 j2) ⟨dE,dE,dE,by dsimp only;rw[swp_size];exact J,by rw[r,af6 U Y ai ai]⟩ (dE) (hr:=by dsimp only;rw[E];exact dg.au)
 .rintro⟨q,d3⟩ S e;refine dY ?_;rw[S]at B;exact C.cG aW B ⟨rfl,rfl⟩
end
section
open Go.Proofs Go.Sort
variable{ao:Bool}
theorem af8(h:i<b)(hp:ltInt d[i]! d[i-1]! =false):scanSorted ltInt d b i=scanSorted ltInt d b (i+1):=by
 conv=>lhs;unfold scanSorted
 rw[aJ (by simp[h,hp])]
theorem UX(h:¬ (i<b/\ltInt d[i]! d[i-1]! =false)):scanSorted ltInt d b i=i:=by unfold scanSorted;rw[ax (by simpa using h)]
theorem af9(h:j<b)(hp:ltInt d[j]! d[j-1]! =true):shiftUp ltInt b j d=shiftUp ltInt b (j+1) (swp d j<|j-1):=by
 conv=>lhs;unfold shiftUp
 rw[aJ h,ax<|by simp[hp]]
theorem UY(h:¬ (j<b/\ltInt d[j]! d[j-1]! =true)):shiftUp ltInt b j d=d:=by
 unfold shiftUp;split
 .rename_i h1;rw[aJ (by
   cases a:ltInt d[j]! d[j-1]! with
   |false=>rfl
   |true=>exact absurd ⟨h1,a⟩ h)]
 .rfl
theorem P5(FG:a<b)(hb:b<=d.size)(hl:d.size<2^40):
  aI prog ao cX 221 #[s.v,aF a,aF b] [bK aK 1 3 s d.toList] (λv As=>v=.bool (partialInsertionSort ltInt d a b).2/\As=[bK aK 1 3 s (partialInsertionSort ltInt d a b).1.toList]):=by
 refine aI.of λR C kd N F c cs O B=>?_;refine cH ?_;unfold partialInsertionSort at B;refine gV ?_;refine C.jX (a+1) rfl ?_;refine fB ?_;refine C.cN (X:=Nat×Nat×Array Int) (λx=>[(0,s.v),(1,aF a),(2,aF b),(7,aF x.2.1),(8,aF x.1)]) (λx=>bK aK 1 3 s x.2.2.toList::F) (λx=>x.1<=5/\a+1<=x.2.1/\x.2.1<=b/\x.2.2.size=d.size/\partialIns ltInt a b 5 (a+1) d=partialIns ltInt a b (5-x.1) x.2.1 x.2.2) (λx=>5-x.1) (0,a+1,d) ⟨rfl,rfl,rfl,rfl,rfl,trivial⟩ ⟨fp _,fC _,FG,rfl,rfl⟩ ?_;rintro⟨m,I,k⟩ e ⟨hm,GZ,zu,P,z⟩ ih;dsimp only at hm GZ zu P z⊢;have JU:k.toList.length=d.size:=by simpa using P
 refine dT ?_;refine C.cmp rfl (λxn=>?_) λxn=>?_
 .refine bL ?_;obtain⟨r,hr⟩:∃ r,5-m=r+1:=⟨4-m,ai⟩;rw[hr]at z;apply m8 (X:=Nat) (λq=>a+1<=q/\q<=b/\scanSorted ltInt k b I=q) (λq=>[(0,s.v),(1,aF a),(2,aF b),(7,aF q),(8,aF m)]) (λ_=>bK aK 1 3 s k.toList::F) (R:=R) (d:=N) (fn:=221) (kd:=kd) (n:=133) (ds:=[]) (cs:=c::cs)
  .intro Jg;refine C.cN (X:=Nat) (λq=>[(0,s.v),(1,aF a),(2,aF b),(7,aF q),(8,aF m)]) (λ_=>bK aK 1 3 s k.toList::F) (λq=>a+1<=q/\q<=b/\scanSorted ltInt k b I=scanSorted ltInt k b q) (λq=>b-q) I ⟨rfl,rfl,rfl,rfl,rfl,trivial⟩ ⟨GZ,zu,rfl⟩ ?_;rintro i e ⟨Q,S,D⟩ zP;refine C.go ?_;rcases lP i b with mB|mB
   .refine C.dx (di 17 0 16) 16 [13,14,15] 0 ?_;refine lH ?_;refine Dr.p (λh=>C.fQ rfl h) ?_;refine uQ ?_;refine Dr.l (λo h=>C.dZ rfl h (s:=s) (l:=k.toList) (f:=aK) (j:=i)) ?_;refine Dr.l (v:=aF<|k.toList[i]'(by omega)) (λo h=>C.du rfl h (s:=s) (l:=k.toList) (f:=aK) (j:=i)) ?_;refine lH ?_;refine Dr.p (v:=aF ((i-1:Nat):Int)) (λh=>C.jX (i-1) rfl h) ?_;refine Dr.l (λo h=>C.dZ rfl h (s:=s) (l:=k.toList) (f:=aK) (j:=i-1)) ?_;refine Dr.l (v:=aF<|k.toList[i-1]'(by omega)) (λo h=>C.du rfl h (s:=s) (l:=k.toList) (f:=aK) (j:=i-1)) ?_;refine Dr.chain rfl ?_;refine Ch.m 13 (bj λe aa p=>?_);refine C.cE (gu (x:=(k.toList[i]'(by omega))) (y:=(k.toList[i-1]'(by omega)))) (A:=[]) ?_;refine su ?_;refine p _ _ ?_;refine Ch.q 14 (λh=>C.nt rfl h) ?_;refine Ch.q 15 (λh=>C.pk rfl h) ?_;refine gy ?_;refine C.zw (λL=>?_) λL=>?_
    .refine gV ?_;exact again zP (i+1) ⟨ai,ai,by rw[D];exact af8 mB (by rw[Af ai ai];simpa using L)⟩ ai
    .refine C.go ?_;exact bU Jg i ⟨Q,S,by rw[D];exact UX (by rw[Af ai ai];rintro⟨_,h⟩;rw[h]at L;cases L)⟩
   .refine C.dx (di 17 0 16) 16 [13,14,15] 0 ?_;refine lH ?_;refine Dr.p (λh=>C.ed rfl h) ?_;refine Kw ?_;refine Ch.m 13 (bj λe aa p=>?_);refine C.no rfl<|p _ _ ?_;refine Ch.q 14 (λh=>C.no rfl h) ?_;refine Ch.q 15 (λh=>C.pk rfl h) ?_;refine pR ?_;exact bU Jg i ⟨Q,S,by rw[D];exact UX (by rintro⟨h,_⟩;omega)⟩
  .rintro i ⟨Q,S,T⟩ e;refine dT ?_;refine C.cmp rfl (λU=>?_) λU=>?_
   .refine fB ?_;obtain rfl:i=b:=ai;have e1:partialIns ltInt a i (r+1) I k=(k,true):=by unfold partialIns;dsimp only;rw[T,aJ rfl]
    rw[z,e1]at B;exact C.cG O B ⟨rfl,rfl⟩
   .refine C.go ?_;refine dY ?_;refine C.jX (b-a) rfl ?_;refine C.cmp rfl (λW=>?_) λW=>?_
    .refine fB ?_;have e1:partialIns ltInt a b (r+1) I k=(k,false):=by unfold partialIns;dsimp only;rw[T,ax ai,aJ ai]
     rw[z,e1]at B;exact C.cG O B ⟨rfl,rfl⟩
    .refine bL ?_;obtain⟨i,rfl⟩:∃ i',i=i'+1:=⟨i-1,ai⟩;refine C.dx (di 42 0 15++[(57,16)]) 18 [15,16,17] 0 ?_;refine Kv ?_;refine Dr.p (v:=aF ((i:Nat):Int)) (λh=>C.jX i rfl h) ?_;refine lH ?_;refine Dr.p (v:=aF ((i:Nat):Int)) (λh=>C.jX i rfl h) ?_;refine Dr.l (λo h=>C.dZ rfl h (s:=s) (l:=k.toList) (f:=aK) (j:=i)) ?_;refine Dr.l (v:=aF<|k.toList[i]'(by omega)) (λo h=>C.du rfl h (s:=s) (l:=k.toList) (f:=aK) (j:=i)) ?_;refine lH ?_;refine Dr.l (λo h=>C.dZ rfl h (s:=s) (l:=k.toList) (f:=aK) (j:=i+1)) ?_;refine Dr.l (v:=aF<|k.toList[i+1]'(by omega)) (λo h=>C.du rfl h (s:=s) (l:=k.toList) (f:=aK) (j:=i+1)) ?_;refine Dr.l (λo h=>C.dZ rfl h (s:=s) (l:=k.toList) (f:=aK) (j:=i+1)) ?_;refine Dr.chain rfl ?_;refine Ch.m 15 (bj λe aa p=>?_);refine C.j5 (s:=s) (l:=k.toList) (f:=aK) (j:=i+1) (k.toList[i]'(by omega)) rfl<|p _ undef ?_;refine Ch.m 16 (bj λe aa p=>?_);refine C.dZ rfl (p _ _ ?_) (s:=s) (l:=k.toList.set (i+1)<|k.toList[i]'(by omega)) (f:=aK) (j:=i) (hj:=by rw[eF];omega);refine Ch.m 17 (bj λe aa p=>?_);refine C.j5 (s:=s) (l:=k.toList.set (i+1)<|k.toList[i]'(by omega)) (f:=aK) (j:=i) (k.toList[i+1]'(by omega)) rfl (p _ undef ?_) (hj:=by rw[eF];omega);refine gy ?_;have J:=ik (d:=k) (i:=i+1) (j:=i) ai ai;rw[<- J];obtain⟨u,Y⟩:∃ x,x=swp k (i+1) i:=⟨_,rfl⟩;have si:u.size=d.size:=by rw[Y,swp_size];exact P
     have YO:partialIns ltInt a b (r+1) I k=partialIns ltInt a b r (i+1) (if b-(i+1)>=2 then shiftUp ltInt b (i+1+1) (if i+1-a>=2 then shiftDown ltInt i u else u)else(if i+1-a>=2 then shiftDown ltInt i u else u)):=by
      conv=>lhs;unfold partialIns
      dsimp only;rw[T,ax ai,ax ai,Y];rfl
     rw[<- Y];apply m8 (X:=Array Int) (λx=>x.size=d.size/\(if i+1-a>=2 then shiftDown ltInt i u else u)=x) (λ_=>[(0,s.v),(1,aF a),(2,aF b),(7,aF ((i+1:Nat):Int)),(8,aF m)]) (λx=>bK aK 1 3 s x.toList::F) (R:=R) (d:=N) (fn:=221) (kd:=kd) (n:=133) (ds:=[]) (cs:=c::cs)
     .intro Z;refine dT ?_;refine C.jX (i+1-a) rfl ?_;refine C.cmp rfl (λFY=>?_) λFY=>?_
      .refine C.go ?_;refine dT ?_;refine C.jX i rfl ?_;refine bL ?_;refine C.cN (X:=Nat×Array Int) (λx=>[(0,s.v),(1,aF a),(2,aF b),(7,aF ((i+1:Nat):Int)),(8,aF m),(9,aF x.1)]) (λx=>bK aK 1 3 s x.2.toList::F) (λx=>x.1<=i/\x.2.size=d.size/\shiftDown ltInt i u=shiftDown ltInt x.1 x.2) (λx=>x.1) (i,u) ⟨rfl,rfl,rfl,rfl,rfl,rfl,trivial⟩ ⟨fC _,si,rfl⟩ ?_;rintro⟨j,g⟩ e ⟨hj,t,w⟩ ND;dsimp only at hj t w⊢;have acn:g.toList.length=d.size:=by simpa using t
       refine dT ?_;refine C.cmp rfl (λh65=>?_) λh65=>?_
       .refine bL ?_;obtain⟨j,rfl⟩:∃ j',j=j'+1:=⟨j-1,ai⟩;refine C.dx (di 68 0 11) 11 [9,10] 0 ?_;refine lH ?_;refine Dr.l (λo h=>C.dZ rfl h (s:=s) (l:=g.toList) (f:=aK) (j:=j+1)) ?_;refine Dr.l (v:=aF<|g.toList[j+1]'(by omega)) (λo h=>C.du rfl h (s:=s) (l:=g.toList) (f:=aK) (j:=j+1)) ?_;refine lH ?_;refine Dr.p (v:=aF ((j:Nat):Int)) (λh=>C.jX j rfl h) ?_;refine Dr.l (λo h=>C.dZ rfl h (s:=s) (l:=g.toList) (f:=aK) (j:=j)) ?_;refine Dr.l (v:=aF<|g.toList[j]'(by omega)) (λo h=>C.du rfl h (s:=s) (l:=g.toList) (f:=aK) (j:=j)) ?_;refine Dr.chain rfl ?_;refine Ch.m 9 (bj λe aa p=>?_);refine C.cE (gu (x:=(g.toList[j+1]'(by omega))) (y:=(g.toList[j]'(by omega)))) (A:=[]) ?_;refine su ?_;refine p _ _ ?_;refine Ch.q 10 (λh=>C.nt rfl h) ?_;refine gy ?_;refine C.zw (λE=>?_) λE=>?_
        .refine C.go ?_;exact bU Z g ⟨t,by rw[aJ ai,w];unfold shiftDown;rw[aJ (by rw[Af ai ai];exact E)]⟩
        .refine C.go ?_;refine C.dx (di 79 0 15++[(94,16)]) 18 [15,16,17] 0 ?_;refine Kv ?_;refine Dr.p (v:=aF ((j:Nat):Int)) (λh=>C.jX j rfl h) ?_;refine lH ?_;refine Dr.p (v:=aF ((j:Nat):Int)) (λh=>C.jX j rfl h) ?_;refine Dr.l (λo h=>C.dZ rfl h (s:=s) (l:=g.toList) (f:=aK) (j:=j)) ?_;refine Dr.l (v:=aF<|g.toList[j]'(by omega)) (λo h=>C.du rfl h (s:=s) (l:=g.toList) (f:=aK) (j:=j)) ?_;refine lH ?_;refine Dr.l (λo h=>C.dZ rfl h (s:=s) (l:=g.toList) (f:=aK) (j:=j+1)) ?_;refine Dr.l (v:=aF<|g.toList[j+1]'(by omega)) (λo h=>C.du rfl h (s:=s) (l:=g.toList) (f:=aK) (j:=j+1)) ?_;refine Dr.l (λo h=>C.dZ rfl h (s:=s) (l:=g.toList) (f:=aK) (j:=j+1)) ?_;refine Dr.chain rfl ?_;refine Ch.m 15 (bj λe aa p=>?_);refine C.j5 (s:=s) (l:=g.toList) (f:=aK) (j:=j+1) (g.toList[j]'(by omega)) rfl<|p _ undef ?_;refine Ch.m 16 (bj λe aa p=>?_);refine C.dZ rfl (p _ _ ?_) (s:=s) (l:=g.toList.set (j+1)<|g.toList[j]'(by omega)) (f:=aK) (j:=j) (hj:=by rw[eF];omega);refine Ch.m 17 (bj λe aa p=>?_);refine C.j5 (s:=s) (l:=g.toList.set (j+1)<|g.toList[j]'(by omega)) (f:=aK) (j:=j) (g.toList[j+1]'(by omega)) rfl (p _ undef ?_) (hj:=by rw[eF];omega);refine QF ?_;refine C.jX j rfl ?_;refine bL ?_;have J:=ik (d:=g) (i:=j+1) (j:=j) ai ai;exact again ND (j,swp g (j+1) j) ⟨dE,by dsimp only;rw[swp_size];exact t,by
          rw[w]
          conv=>lhs;unfold shiftDown
          rw[ax (by rw[Af ai ai];simpa using E)]⟩ (dE) (hr:=by dsimp only;rw[J];exact dg.au)
       .refine bL ?_;obtain rfl:j=0:=ai;exact bU Z g ⟨t,by rw[aJ ai,w];rfl⟩
      .refine bL ?_;exact bU Z u ⟨si,by rw[ax ai]⟩
     .rintro K ⟨NF,hd3⟩ e;apply m8 (X:=Array Int) (λx=>x.size=d.size/\(if b-(i+1)>=2 then shiftUp ltInt b (i+1+1) K else K)=x) (λ_=>[(0,s.v),(1,aF a),(2,aF b),(7,aF ((i+1:Nat):Int)),(8,aF m)]) (λx=>bK aK 1 3 s x.toList::F) (R:=R) (d:=N) (fn:=221) (kd:=kd) (n:=133) (ds:=[]) (cs:=c::cs)
      .intro H;refine dT ?_;refine C.jX (b-(i+1)) rfl ?_;refine C.cmp rfl (λh98=>?_) λh98=>?_
       .refine C.go ?_;refine dT ?_;refine C.jX (i+1+1) rfl ?_;refine bL ?_;refine C.cN (X:=Nat×Array Int) (λx=>[(0,s.v),(1,aF a),(2,aF b),(7,aF ((i+1:Nat):Int)),(8,aF m),(10,aF x.1)]) (λx=>bK aK 1 3 s x.2.toList::F) (λx=>i+1+1<=x.1/\x.2.size=d.size/\shiftUp ltInt b (i+1+1) K=shiftUp ltInt b x.1 x.2) (λx=>b-x.1) (i+1+1,K) ⟨rfl,rfl,rfl,rfl,rfl,rfl,trivial⟩ ⟨fC _,NF,rfl⟩ ?_;rintro⟨j,g⟩ e ⟨hj,t,w⟩ ND;dsimp only at hj t w⊢;have acn:g.toList.length=d.size:=by simpa using t
        refine dY ?_;refine C.cmp rfl (λajS=>?_) λajS=>?_
        .refine bL ?_;refine C.dx (di 106 0 11) 11 [9,10] 0 ?_;refine lH ?_;refine Dr.l (λo h=>C.dZ rfl h (s:=s) (l:=g.toList) (f:=aK) (j:=j)) ?_;refine Dr.l (v:=aF<|g.toList[j]'(by omega)) (λo h=>C.du rfl h (s:=s) (l:=g.toList) (f:=aK) (j:=j)) ?_;refine lH ?_;refine Dr.p (v:=aF ((j-1:Nat):Int)) (λh=>C.jX (j-1) rfl h) ?_;refine Dr.l (λo h=>C.dZ rfl h (s:=s) (l:=g.toList) (f:=aK) (j:=j-1)) ?_;refine Dr.l (v:=aF<|g.toList[j-1]'(by omega)) (λo h=>C.du rfl h (s:=s) (l:=g.toList) (f:=aK) (j:=j-1)) ?_;refine Dr.chain rfl ?_;refine Ch.m 9 (bj λe aa p=>?_);refine C.cE (gu (x:=(g.toList[j]'(by omega))) (y:=(g.toList[j-1]'(by omega)))) (A:=[]) ?_;refine su ?_;refine p _ _ ?_;refine Ch.q 10 (λh=>C.nt rfl h) ?_;refine gy ?_;refine C.zw (λM=>?_) λM=>?_
         .refine C.go ?_;exact bU H g ⟨t,by rw[aJ ai,w];exact UY (by rw[Af ai ai];rintro⟨_,h⟩;rw[h]at M;cases M)⟩
         .refine C.go ?_;refine C.dx (di 117 0 15++[(132,16)]) 18 [15,16,17] 0 ?_;refine Kv ?_;refine Dr.p (v:=aF ((j-1:Nat):Int)) (λh=>C.jX (j-1) rfl h) ?_;refine lH ?_;refine Dr.p (v:=aF ((j-1:Nat):Int)) (λh=>C.jX (j-1) rfl h) ?_;refine Dr.l (λo h=>C.dZ rfl h (s:=s) (l:=g.toList) (f:=aK) (j:=j-1)) ?_;refine Dr.l (v:=aF<|g.toList[j-1]'(by omega)) (λo h=>C.du rfl h (s:=s) (l:=g.toList) (f:=aK) (j:=j-1)) ?_;refine lH ?_;refine Dr.l (λo h=>C.dZ rfl h (s:=s) (l:=g.toList) (f:=aK) (j:=j)) ?_;refine Dr.l (v:=aF<|g.toList[j]'(by omega)) (λo h=>C.du rfl h (s:=s) (l:=g.toList) (f:=aK) (j:=j)) ?_;refine Dr.l (λo h=>C.dZ rfl h (s:=s) (l:=g.toList) (f:=aK) (j:=j)) ?_;refine Dr.chain rfl ?_;refine Ch.m 15 (bj λe aa p=>?_);refine C.j5 (s:=s) (l:=g.toList) (f:=aK) (j:=j) (g.toList[j-1]'(by omega)) rfl<|p _ undef ?_;refine Ch.m 16 (bj λe aa p=>?_);refine C.dZ rfl (p _ _ ?_) (s:=s) (l:=g.toList.set (j)<|g.toList[j-1]'(by omega)) (f:=aK) (j:=j-1) (hj:=by rw[eF];omega);refine Ch.m 17 (bj λe aa p=>?_);refine C.j5 (s:=s) (l:=g.toList.set (j)<|g.toList[j-1]'(by omega)) (f:=aK) (j:=j-1) (g.toList[j]'(by omega)) rfl (p _ undef ?_) (hj:=by rw[eF];omega);refine S4 ?_;have J:=ik (d:=g) (i:=j) (j:=j-1) ai ai;exact again ND (j+1,swp g j<|j-1) ⟨dE,by dsimp only;rw[swp_size];exact t,by rw[w];exact af9 ai (by rw[Af ai ai];simpa using M)⟩ (dE) (hr:=by dsimp only;rw[J];exact dg.au)
        .refine bL ?_;exact bU H g ⟨t,by rw[aJ ai,w];exact UY (by rintro⟨h,_⟩;omega)⟩
       .refine bL ?_;exact bU H K ⟨NF,by rw[ax ai]⟩
      .rintro d5 ⟨hs5,hd5⟩ e;refine fB ?_;exact again ih (m+1,i+1,d5) ⟨dE,dE,dE,hs5,by rw[z,YO,hd3,hd5,show 5-(m+1)=r by omega]⟩<|dE
 .refine fB ?_;obtain rfl:m=5:=ai;have z:partialIns ltInt a b 5 (a+1) d=(k,false):=z;rw[z]at B;exact C.cG O B ⟨rfl,rfl⟩
end
section
open Go.Proofs Go.Sort
variable{ao:Bool}
theorem XZ(a k:Nat)(b:k<=64):((a:Nat):Int).fdiv (2^min ((k:Nat):Int).toNat IntKind.u64.bits)=((a/2^k:Nat):Int):=by rw[gN,show min k IntKind.u64.bits=k from CN b,Int.fdiv_eq_ediv_of_nonneg _<|Int.le_of_lt<|Int.pow_pos<|by decide];simp
theorem xD{n k:Nat}(h:2^k<=n):bitsLen (n/2^k)+k=bitsLen n:=by
 have hp:=n9 k;have h1:=lt_two_pow_bitsLen n;have b:k<=bitsLen n:=by
  rcases lP (bitsLen n) k with a|a
  .have:=Nat.pow_le_pow_right (n:=2) ai<|yC a;omega
  .exact a
 refine Ro ?_ ?_
 .have:bitsLen (n/2^k)<=bitsLen n-k:=(bitsLen_le_iff _ _).2 (by rw[Nat.div_lt_iff_lt_mul hp,<- Nat.pow_add,Nat.sub_add_cancel b];exact h1)
  omega
 .refine(bitsLen_le_iff _ _).2 ?_;rw[Nat.pow_add];exact(Nat.div_lt_iff_lt_mul hp).1<|lt_two_pow_bitsLen _
theorem Ji{n:Nat}(h:n<256):bitsLen n<=8:=(bitsLen_le_iff _ _).2 h
theorem aga{n:Nat}(h:n<256):(UInt8.ofNat<|bitsLen n).toNat=bitsLen n:=by have:=Ji h;rw[UInt8.toNat_ofNat'];exact Al ai
def ajU(s:ByteArray):Bool:=(List.range 256).all λi=>s[i]? ==some (UInt8.ofNat<|bitsLen i)
theorem Ah{s:ByteArray}(h:ajU s=true){m:Nat}(hm:m<256):s[((m:Nat):Int).toNat]? =some (UInt8.ofNat<|bitsLen m):=by have:=lz.1 h m<|iA.2 hm;rw[gN];exact eq_of_beq this
theorem Gf{m:Nat}(hm:m<256):IntKind.i64.wrap ((UInt8.ofNat<|bitsLen m).toNat:Int)=((bitsLen m:Nat):Int):=by have:=Ji hm;rw[aga hm];exact v9 ai ai
theorem X0{n:Nat}(a:n<2^32):IntKind.i64.wrap ((bitsLen n:Nat):Int)=((bitsLen n:Nat):Int):=by have:bitsLen n<=32:=(bitsLen_le_iff _ _).2 a;exact v9 ai ai
set_option maxRecDepth 4000 in
theorem LA{n:Nat}(a:n<2^32):aI prog ao cX 226 #[.int .u64 n] [] (λv As=>v=aF (bitsLen n:Nat)/\As=[]):=by
 refine aI.of λR C kd d F c cs b e=>?_;refine zx6 ?_;refine C.ed rfl ?_;refine dY ?_;refine C.cmp rfl (λg=>?_) λg=>?_
 .refine dY ?_;refine C.sr rfl (XZ n 16<|by decide) ?_;refine pP ?_;refine C.cmp rfl (λf=>?_) λf=>?_
  .refine dY ?_;refine C.sr rfl (XZ (n/2^16) 8<|by decide) ?_;refine vH ?_;refine C.cv rfl ?_ (p:=((n/2^16/2^8:Nat):Int)) (r:=((n/2^16/2^8:Nat):Int)) (hr:=wu8 ai ai);refine C.ixs rfl rfl (tt:=9) (Ah (m:=n/2^16/2^8) (by decide+kernel) ai) ai ?_ (hx:=rfl);refine C.cv rfl ?_ (hr:=Gf (m:=n/2^16/2^8) ai);refine C.ar rfl ?_ (r:=((bitsLen n:Nat):Int)) (ha:=by have h1:=xD (n:=n) (k:=16) ai;have h:=xD (n:=n/2^16) (k:=8) ai;show some (_+_)=some _;congr 1;omega) (hr:=X0 a);refine bL ?_;exact C.cG b e ⟨rfl,rfl⟩
  .refine fB ?_;refine C.cv rfl ?_ (p:=((n/2^16:Nat):Int)) (r:=((n/2^16:Nat):Int)) (hr:=wu8 ai ai);refine C.ixs rfl rfl (tt:=9) (Ah (m:=n/2^16) (by decide+kernel) ai) ai ?_ (hx:=rfl);refine C.cv rfl ?_ (hr:=Gf (m:=n/2^16) ai);refine C.ar rfl ?_ (r:=((bitsLen n:Nat):Int)) (ha:=by have h1:=xD (n:=n) (k:=16) ai;show some (_+_)=some _;congr 1;omega) (hr:=X0 a);refine bL ?_;exact C.cG b e ⟨rfl,rfl⟩
 .refine dY ?_;refine C.cmp rfl (λf=>?_) λf=>?_
  .refine dY ?_;refine C.sr rfl (XZ n 8<|by decide) ?_;refine vH ?_;refine C.cv rfl ?_ (p:=((n/2^8:Nat):Int)) (r:=((n/2^8:Nat):Int)) (hr:=wu8 ai ai);refine C.ixs rfl rfl (tt:=9) (Ah (m:=n/2^8) (by decide+kernel) ai) ai ?_ (hx:=rfl);refine C.cv rfl ?_ (hr:=Gf (m:=n/2^8) ai);refine C.ar rfl ?_ (r:=((bitsLen n:Nat):Int)) (ha:=by have h1:=xD (n:=n) (k:=8) ai;show some (_+_)=some _;congr 1;omega) (hr:=X0 a);refine bL ?_;exact C.cG b e ⟨rfl,rfl⟩
  .refine fB ?_;refine C.cv rfl ?_ (p:=((n:Nat):Int)) (r:=((n:Nat):Int)) (hr:=wu8 ai ai);refine C.ixs rfl rfl (tt:=9) (Ah (m:=n) (by decide+kernel) ai) ai ?_ (hx:=rfl);refine C.cv rfl ?_ (hr:=Gf (m:=n) ai);refine C.ar rfl ?_ (r:=((bitsLen n:Nat):Int)) (ha:=by show some (_+_)=some _;congr 1;omega) (hr:=X0 a);refine bL ?_;exact C.cG b e ⟨rfl,rfl⟩
theorem Jj{n:Nat}(a:n<2^32):aI prog ao cX 209 #[.int .u64 n] [] (λv As=>v=aF (bitsLen n:Nat)/\As=[]):=by refine aI.of λR C kd d F c cs b e=>?_;refine Vz ?_;refine C.cE (LA a) (A:=[]) ?_;refine su ?_;refine bL ?_;exact C.cG b e ⟨rfl,rfl⟩
theorem U0{n:Nat}(a:n<2^32):aI prog ao cX 228 #[aF n] [] (λv As=>v=.int .u64 (1<<<bitsLen n:Nat)/\As=[]):=by refine aI.of λR C kd d F c cs b e=>?_;refine cH ?_;have f:bitsLen n<=32:=(bitsLen_le_iff _ _).2 a;have g:2^bitsLen n<=2^32:=Nat.pow_le_pow_right ai f;refine gV ?_;refine C.cv rfl ?_ (r:=((n:Nat):Int)) (hr:=Ku n ai);refine C.cE (Jj a) (A:=[]) ?_;refine su ?_;refine C.sl rfl (r:=((1<<<bitsLen n:Nat):Int)) (q:=((bitsLen n:Nat):Int)) (p:=1) (by rw[gN,show min (bitsLen n) IntKind.u64.bits=bitsLen n from CN (by show bitsLen n<=64;omega),Rp,Int.one_mul,show((2:Int)^bitsLen n)=((2^bitsLen n:Nat):Int) by simp];exact Ku _ ai) ?_ (hx:=rfl);refine bL ?_;exact C.cG b e ⟨rfl,rfl⟩
abbrev xoC(b:Nat)(r:UInt64):HP:=dq b<|.cells #[.int .u64 (r.toNat:Int)] 332 (0,0)
theorem xo1(a:Nat)(ha:a<2^64):IntKind.u64.wrap (((a:Nat):Int)*2^min (13:Int).toNat IntKind.u64.bits)=((a*8192%18446744073709551616:Nat):Int):=by show IntKind.u64.wrap (((a:Nat):Int)*8192)=_;simp only[IntKind.wrap,IntKind.bits,IntKind.signed,yA,fW,false_and,eQ];omega
theorem xo3(a:Nat)(ha:a<2^64):IntKind.u64.wrap (((a:Nat):Int)*2^min (17:Int).toNat IntKind.u64.bits)=((a*131072%18446744073709551616:Nat):Int):=by show IntKind.u64.wrap (((a:Nat):Int)*131072)=_;simp only[IntKind.wrap,IntKind.bits,IntKind.signed,yA,fW,false_and,eQ];omega
theorem P6{r:UInt64}:aI prog ao cX 229 #[az b] [xoC b r] (λv As=>v=.int .u64 ((xorNext r).toNat:Int)/\As=[xoC b (xorNext r)]):=by
 refine aI.of λR C kd d F c cs q k=>?_;refine cH ?_;obtain⟨x,l⟩:∃ x,x=r.toNat:=⟨_,rfl⟩;have f:x<2^64:=by rw[l];exact r.toNat_lt
 have p:x*8192%18446744073709551616<2^64:=GR _ (by decide);obtain⟨a,m⟩:∃ a,a=x^^^(x*8192%18446744073709551616):=⟨_,rfl⟩;have j:a<2^64:=by rw[m];exact Rd f p
 obtain⟨y,n⟩:∃ y,y=a^^^(a/2^7):=⟨_,rfl⟩;have g:y<2^64:=by rw[n];exact Rd j<|Aw (Nat.div_le_self _ _) j
 have s:y*131072%18446744073709551616<2^64:=GR _ (by decide);have o:a/2^7<2^64:=Aw (Nat.div_le_self _ _) j;have t:(xorNext r).toNat=y^^^(y*131072%18446744073709551616):=by rw[xorNext_toNat,<- l,n,m];rfl
 unfold xoC at k⊢;rw[t]at k;rw[<- l];refine dY ?_;refine C.dx (di 3 0 9) 10 [9] 0 ?_;refine qv ?_;refine Dr.p (λh=>C.sl rfl (xo1 x f) h) ?_;refine Dr.p (λh=>C.bt rfl (aaP x _ f p) h) ?_;refine zy ?_;refine Ch.m 9 (bj λe aa i=>?_);refine C.st rfl<|i _ undef ?_;refine gy ?_;rw[<- m];refine C.dx (di 12 0 9) 10 [9] 0 ?_;refine qv ?_;refine Dr.p (λh=>C.sr rfl (XZ a 7<|by decide) h) ?_;refine Dr.p (λh=>C.bt rfl (aaP a _ j o) h) ?_;refine zy ?_;refine Ch.m 9 (bj λe aa i=>?_);refine C.st rfl<|i _ undef ?_;refine gy ?_;rw[<- n];refine C.dx (di 21 0 9) 10 [9] 0 ?_;refine qv ?_;refine Dr.p (λh=>C.sl rfl (xo3 y g) h) ?_;refine Dr.p (λh=>C.bt rfl (aaP y _ g s) h) ?_;refine zy ?_;refine Ch.m 9 (bj λe aa i=>?_);refine C.st rfl<|i _ undef ?_;refine zv7 ?_;exact C.cG q k ⟨rfl,rfl⟩
end
section
open Go.Proofs Go.Sort
variable{ao:Bool}
def U1(a L M i0:Nat)(d:Array Int):Nat->UInt64×Array Int
 |0=>(UInt64.ofNat L,d)
 |t+1=>breakStep a L M (U1 a L M i0 d t)<|i0+t
def bpO(L M:Nat)(r:UInt64):Nat:=if(xorNext r).toNat&&& (M-1)>=L then((xorNext r).toNat&&& (M-1))-L else(xorNext r).toNat&&& (M-1)
theorem agd(h:b-a>=8):breakPatterns d a b=(U1 a (b-a) (1<<<bitsLen (b-a)) (a+(b-a)/4*2-1) d 3).2:=by unfold breakPatterns;simp only[];rw[aJ h];rfl
theorem age(h:¬ b-a>=8):breakPatterns d a b=d:=by unfold breakPatterns;simp only[];rw[ax h]
theorem U2{L M i0:Nat}{b:Array Int}{r:UInt64}(h:U1 a L M i0 d t=(r,b)):U1 a L M i0 d (t+1)=(xorNext r,swp b (i0+t)<|a+bpO L M r):=by show breakStep a L M (U1 a L M i0 d t) (i0+t)=_;rw[h];rfl
theorem acx{L M:Nat}{r:UInt64}(a:0<L)(b:M<=2*L):bpO L M r<L:=by have:(xorNext r).toNat&&& (M-1)<=M-1:=Nat.and_le_right;unfold bpO;split<;>omega
theorem LB(FG:a<=b)(hb:b<=d.size)(hl:d.size<2^31):
  aI prog ao cX 218 #[s.v,aF a,aF b] [bK aK 1 3 s d.toList] (λv As=>As=[bK aK 1 3 s (breakPatterns d a b).toList]):=by
 refine aI.of λR C kd T F c cs U u=>?_;refine cH ?_;obtain⟨L,Z⟩:∃ L,L=b-a:=⟨_,rfl⟩;obtain⟨M,D⟩:∃ M,M=1<<<bitsLen L:=⟨_,rfl⟩;have E:((L:Nat):Int).tdiv 4=((L/4:Nat):Int):=(L7 L 4).symm;refine dY ?_;refine C.jX L rfl ?_;refine dY ?_;refine C.cmp rfl (λuH=>?_) λuH=>?_
 .refine bL ?_;have hL8:L>=8:=ai;have u:∀ v aT,aT=[bK aK 1 3 s (U1 a L M (a+L/4*2-1) d 3).2.toList]->At R T (aT++F) (after kd c cs v):=by rw[agd ai,<- Z,<- D]at u;exact u
  have K:M<=2*L:=by rw[D,Rp];exact two_pow_bitsLen_le ai
  have hM0:0<M:=by rw[D,Rp];exact n9 _
  have N:(UInt64.ofNat L).toNat=L:=by rw[UInt64.toNat_ofNat'];exact Al ai
  refine bL ?_;refine C.cv rfl ?_ (r:=((UInt64.ofNat L).toNat:Int)) (hr:=by rw[N];exact Ku L ai);refine C.al rfl λx=>?_;refine dY ?_;refine C.cE (U0 (n:=L) ai) (A:=[]) ?_;refine su ?_;rw[<- D];refine fB ?_;refine C.quo rfl ?_ (hr:=by rw[E];exact v9 ai ai);rw[E];refine C.jX (L/4*2) rfl ?_;refine C.jX (a+L/4*2) rfl ?_;refine C.jX (a+L/4*2-1) rfl ?_;refine bL ?_;refine C.cN (X:=Nat) (λt=>[(0,s.v),(1,aF a),(2,aF b),(6,aF L),(7,az x),(8,.int .u64 M),(9,aF ((a+L/4*2-1+t:Nat):Int))]) (λt=>xoC x (U1 a L M (a+L/4*2-1) d t).1::bK aK 1 3 s (U1 a L M (a+L/4*2-1) d t).2.toList::F) (λt=>t<=3/\(U1 a L M (a+L/4*2-1) d t).2.size=d.size) (λt=>3-t) 0 ⟨rfl,rfl,rfl,rfl,rfl,rfl,rfl,trivial⟩ ⟨fp _,rfl⟩ ?_ (hI:=by(try dsimp only);rw[show U1 a L M (a+L/4*2-1) d 0=(UInt64.ofNat L,d)from rfl];(try dsimp only);exact dg.au);rintro t e ⟨ht,H⟩ ih;generalize y:U1 a L M (a+L/4*2-1) d t=st at H⊢;obtain⟨r,g⟩:=st;dsimp only at H⊢;have JU:g.toList.length=d.size:=by simpa using H
  generalize GZ:a+L/4*2-1=k at*;have hO:=acx (r:=r) (L:=L) (M:=M) ai K;obtain⟨o,I⟩:∃ o,o=bpO L M r:=⟨_,rfl⟩;rw[<- I]at hO;refine fB ?_;refine C.quo rfl ?_ (hr:=by rw[E];exact v9 ai ai);rw[E];refine C.jX (L/4*2) rfl ?_;refine C.jX (a+L/4*2) rfl ?_;refine C.jX (a+L/4*2+1) rfl ?_;refine C.cmp rfl (λZl=>?_) λZl=>?_
  .refine dT ?_;refine C.cE (P6 (b:=x) (r:=r)) (A:=[xoC x r]) ?_;refine cH ?_;have W:(xorNext r).toNat&&& (M-1)<=M-1:=Nat.and_le_right;have w:bpO L M r=if(xorNext r).toNat&&& (M-1)>=L then((xorNext r).toNat&&& (M-1))-L else(xorNext r).toNat&&& (M-1):=rfl
   have z:=aiQ (xorNext r).toNat (M-1) (xorNext r).toNat_lt ai;generalize hm:(xorNext r).toNat&&& (M-1)=m at*;refine ga ?_;refine C.ar (p:=((M:Nat):Int)) (q:=(1:Int)) (r:=((M-1:Nat):Int)) rfl ?_ (ha:=by show some (((M:Nat):Int)-(1:Int))=some ((M-1:Nat):Int);rw[show((M:Nat):Int)-1=((M-1:Nat):Int) by omega]) (hr:=Ku _ ai);refine C.bt rfl z ?_;refine C.cv rfl ?_ (r:=((m:Nat):Int)) (hr:=v9 ai ai);refine bL ?_;apply m8 (X:=Nat) (λq=>q=o) (λq=>[(0,s.v),(1,aF a),(2,aF b),(6,aF L),(7,az x),(8,.int .u64 M),(9,aF ((k+t:Nat):Int)),(10,aF q)]) (λ_=>xoC x (xorNext r)::bK aK 1 3 s g.toList::F) (R:=R) (d:=T) (fn:=218) (kd:=kd) (n:=65) (ds:=[]) (cs:=c::cs)
   .intro Y;refine dT ?_;refine C.cmp rfl (λO=>?_) λO=>?_
    .refine C.go ?_;refine dY ?_;refine C.jX (m-L) rfl ?_;refine bL ?_;exact bU Y (m-L)<|by rw[I,w,aJ ai]
    .refine bL ?_;exact bU Y m<|by rw[I,w,ax ai]
   .rintro q P e;subst P;clear w z;refine C.dx (di 47 0 17++[(64,18)]) 20 [17,18,19] 0 ?_;refine QE ?_;refine Dr.p (v:=aF ((a+q:Nat):Int)) (λh=>C.jX (a+q) rfl h) ?_;refine uQ ?_;refine Dr.p (v:=aF ((a+q:Nat):Int)) (λh=>C.jX (a+q) rfl h) ?_;refine Dr.l (λJ h=>C.dZ rfl h (s:=s) (l:=g.toList) (f:=aK) (j:=a+q)) ?_;refine Dr.l (v:=aF<|g.toList[a+q]'(by omega)) (λJ h=>C.du rfl h (s:=s) (l:=g.toList) (f:=aK) (j:=a+q)) ?_;refine lH ?_;refine Dr.l (λJ h=>C.dZ rfl h (s:=s) (l:=g.toList) (f:=aK) (j:=k+t)) ?_;refine Dr.l (v:=aF<|g.toList[k+t]'(by omega)) (λJ h=>C.du rfl h (s:=s) (l:=g.toList) (f:=aK) (j:=k+t)) ?_;refine Dr.l (λJ h=>C.dZ rfl h (s:=s) (l:=g.toList) (f:=aK) (j:=k+t)) ?_;refine Dr.chain rfl ?_;refine Ch.m 17 (bj λe aa B=>?_);refine C.j5 (s:=s) (l:=g.toList) (f:=aK) (j:=k+t) (g.toList[a+q]'(by omega)) rfl<|B _ undef ?_;refine Ch.m 18 (bj λe aa B=>?_);refine C.dZ rfl (B _ _ ?_) (s:=s) (l:=g.toList.set (k+t)<|g.toList[a+q]'(by omega)) (f:=aK) (j:=a+q) (hj:=by rw[eF];omega);refine Ch.m 19 (bj λe aa B=>?_);refine C.j5 (s:=s) (l:=g.toList.set (k+t)<|g.toList[a+q]'(by omega)) (f:=aK) (j:=a+q) (g.toList[k+t]'(by omega)) rfl (B _ undef ?_) (hj:=by rw[eF];omega);refine QF ?_;refine C.jX (k+(t+1)) rfl ?_;refine bL ?_;have pz:=ik (d:=g) (i:=k+t) (j:=a+q) ai ai;have Q:=U2 (a:=a) (L:=L) (M:=M) (i0:=k) (t:=t) (d:=d) y;rw[<- I]at Q;exact again ih (t+1) ⟨ai,by rw[Q];(try dsimp only);rw[swp_size];exact H⟩ ai (hr:=by(try dsimp only);rw[Q];(try dsimp only);rw[pz];exact dg.au)
  .refine bL ?_;have S:t=3:=ai;subst S;rw[y]at u;exact C.eY U u rfl
 .refine bL ?_;rw[age ai]at u;exact C.eY U u rfl
end
section
open Go.Proofs Go.Sort
variable{ao:Bool}
theorem U3(n:Nat):∀ {s:ay} {d:Array Int} {a b lim:Nat},b-a<=n->a<=b->b<=d.size->d.size<2^31->lim<2^40->Below ltInt a b d->
  aI prog ao cX 208 #[s.v,aF a,aF b,aF lim] [bK aK 1 3 s d.toList] (λv As=>∃ Z,PermIn a b d Z/\SortedIn ltInt a b Z/\As=[bK aK 1 3 s Z.toList]):=by
 induction n using Nat.strongRecOn with
 |ind n IH=>
 intro s d a b lim hn FG hb hl ajW hB;refine aI.of λR C kd d0 F c cs aW ak=>?_;refine Vz ?_;refine C.cN (X:=Nat×Nat×Nat×Bool×Bool×Array Int) (λx=>[(0,s.v),(1,aF x.1),(2,aF x.2.1),(3,aF x.2.2.1),(8,.bool x.2.2.2.1),(9,.bool x.2.2.2.2.1)]) (λx=>bK aK 1 3 s x.2.2.2.2.2.toList::F) (λx=>x.1<=x.2.1/\x.2.1-x.1<=n/\x.2.1<=d.size/\x.2.2.2.2.2.size=d.size/\x.2.2.1<2^40/\Below ltInt x.1 x.2.1 x.2.2.2.2.2/\∀ Z,PermIn x.1 x.2.1 x.2.2.2.2.2 Z->SortedIn ltInt x.1 x.2.1 Z->PermIn a b d Z/\SortedIn ltInt a b Z) (λx=>x.2.1-x.1) (a,b,lim,true,true,d) ⟨rfl,rfl,rfl,rfl,rfl,rfl,trivial⟩ ⟨FG,hn,hb,rfl,ajW,hB,λZ h1 h2=>⟨h1,h2⟩⟩ ?_;rintro⟨a1,b1,lm,H,O,k⟩ e ⟨h1,h2,h3,iu,Q,I,J⟩ ih;dsimp only at h1 h2 h3 iu Q I J⊢;have S:((b1-a1:Nat):Int).tdiv 8=(((b1-a1)/8:Nat):Int):=(L7 (b1-a1) 8).symm;refine dY ?_;refine C.jX (b1-a1) rfl ?_;refine dY ?_;refine C.cmp rfl (λh23=>?_) λh23=>?_
 .refine gV ?_;refine C.fZ (UM (d:=k) (a:=a1) (b:=b1) h1 ai ai) ?_;rintro v aT rfl;refine uz ?_;have hp:=insertionSort_holds swo_ltInt k a1 b1 h1 ai;have q:=J _ hp.1 hp.2;exact C.cG aW ak ⟨_,q.1,q.2,rfl⟩
 .refine dY ?_;refine C.cmp rfl (λZt=>?_) λZt=>?_
  .refine gV ?_;refine C.fZ (P1 (d:=k) (a:=a1) (b:=b1) ai ai ai) ?_;rintro v aT rfl;refine uz ?_;have hp:=heapSort_holds swo_ltInt k a1 b1 h1 ai;have q:=J _ hp.1 hp.2;exact C.cG aW ak ⟨_,q.1,q.2,rfl⟩
  .refine bL ?_;apply m8 (X:=Nat×Array Int) (λx=>x.1<2^40/\PermIn a1 b1 k x.2) (λx=>[(0,s.v),(1,aF a1),(2,aF b1),(3,aF x.1),(8,.bool H),(9,.bool O),(10,aF ((b1-a1:Nat):Int))]) (λx=>bK aK 1 3 s x.2.toList::F) (R:=R) (d:=d0) (fn:=208) (kd:=kd) (n:=134) (ds:=[]) (cs:=c::cs)
   .intro zd;refine bL ?_;rcases n8 H with rfl|rfl
    .refine dT ?_;exact bU zd (lm,k) ⟨Q,permIn_refl _ _ _⟩
    .refine iE ?_;refine C.fZ (LB (d:=k) (a:=a1) (b:=b1) h1 ai ai) ?_;rintro v aT rfl;refine cH ?_;refine dT ?_;refine C.jX (lm-1) rfl ?_;refine bL ?_;exact bU zd (lm-1,breakPatterns k a1 b1) ⟨dE,breakPatterns_holds k a1 b1 h1 ai⟩
   .rintro⟨E,w⟩ ⟨P,Fa⟩ e;dsimp only at P Fa⊢;have si:w.size=d.size:=by rw[Fa.1];exact iu
    have B:=choosePivot_holds ltInt w a1 b1 ai;refine dY ?_;refine C.cE (Lx (d:=w) (a:=a1) (b:=b1) ai ai ai) ?_;refine cH ?_;generalize choosePivot ltInt w a1 b1=cp at B⊢;obtain⟨pv,hi⟩:=cp;dsimp only at B⊢;refine gV ?_;apply m8 (X:=Nat×Hint×Array Int) (λx=>a1<=x.1/\x.1<b1/\PermIn a1 b1 w x.2.2) (λx=>[(0,s.v),(1,aF a1),(2,aF b1),(3,aF E),(8,.bool H),(9,.bool O),(10,aF ((b1-a1:Nat):Int)),(11,aF x.1),(12,aF<|NC x.2.1)]) (λx=>bK aK 1 3 s x.2.2.toList::F) (R:=R) (d:=d0) (fn:=208) (kd:=kd) (n:=134) (ds:=[]) (cs:=c::cs)
    .intro Zz;refine bL ?_;refine C.cmp rfl (λh50=>?_) λh50=>?_
     .refine gV ?_;refine C.fZ (UO (d:=w) (a:=a1) (b:=b1) ai h1 ai ai) ?_;rintro v aT rfl;refine cH ?_;refine dT ?_;refine C.jX (b1-1) rfl ?_;refine bL ?_;refine C.jX (pv-a1) rfl ?_;refine C.jX (b1-1-(pv-a1)) rfl ?_;refine fB ?_;exact bU Zz (b1-1-(pv-a1),.increasing,reverseRange w a1 b1) ⟨dE,dE,reverseRange_holds w a1 b1 h1 ai⟩
     .refine bL ?_;exact bU Zz (pv,hi,w) ⟨B.1,B.2,permIn_refl _ _ _⟩
    .rintro⟨o,VH,r⟩ ⟨K,L,Vx⟩ e;apply m8 (X:=Array Int) (λx=>PermIn a1 b1 r x) (λx=>[(0,s.v),(1,aF a1),(2,aF b1),(3,aF E),(8,.bool H),(9,.bool O),(10,aF ((b1-a1:Nat):Int)),(11,aF o),(12,aF<|NC VH)]) (λx=>bK aK 1 3 s x.toList::F) (R:=R) (d:=d0) (fn:=208) (kd:=kd) (n:=134) (ds:=[]) (cs:=c::cs)
     .intro uf;dsimp only at K L Vx⊢;have NF:r.size=d.size:=by rw[Vx.1];exact si
      have P3:PermIn a1 b1 k r:=permIn_trans _ _ _ a1 b1 Fa Vx;have B3:Below ltInt a1 b1 r:=I.perm ai P3;refine dT ?_;rcases n8 H with rfl|rfl
      .refine ga ?_;rcases n8 O with rfl|rfl
       .refine dT ?_;refine C.cmp rfl (λh67=>?_) λh67=>?_
        .refine iE ?_;refine C.cE (P5 (d:=r) (a:=a1) (b:=b1) ai ai ai) ?_;refine cH ?_;have t:=partialInsertionSort_holds swo_ltInt r a1 b1 ai ai B3;generalize partialInsertionSort ltInt r a1 b1=pi at t⊢;obtain⟨D,ok⟩:=pi;dsimp only at t⊢;refine C.go ?_;refine C.zw (λT=>?_) λT=>?_
         .refine C.go ?_;have q:=J D (permIn_trans _ _ _ a1 b1 P3 t.1)<|t.2 T;exact C.cG aW ak ⟨_,q.1,q.2,rfl⟩
         .refine C.go ?_;exact bU uf D t.1
        .refine dT ?_;exact bU uf r<|permIn_refl _ _ _
       .refine iE ?_;exact bU uf r<|permIn_refl _ _ _
      .refine oN ?_;exact bU uf r<|permIn_refl _ _ _
     .rintro g QD e;have P3:PermIn a1 b1 k r:=permIn_trans _ _ _ a1 b1 Fa Vx;have U:PermIn a1 b1 k g:=permIn_trans _ _ _ a1 b1 P3 QD;have B4:Below ltInt a1 b1 g:=I.perm ai U;have JK:g.size=d.size:=by rw[U.1];exact iu
      have JU:g.toList.length=d.size:=by simpa using JK
      apply m8 (X:=Unit) (λ_=>True) (λ_=>[(0,s.v),(1,aF a1),(2,aF b1),(3,aF E),(8,.bool H),(9,.bool O),(10,aF ((b1-a1:Nat):Int)),(11,aF o),(12,aF<|NC VH)]) (λ_=>bK aK 1 3 s g.toList::F) (R:=R) (d:=d0) (fn:=208) (kd:=kd) (n:=134) (ds:=[]) (cs:=c::cs)
      .intro Jk;rcases lP 0 a1 with mB|mB
       .refine C.dx (di 73 0 15) 15 [12,13,14] 0 ?_;refine lN ?_;refine Dr.p (λh=>C.fQ rfl h) ?_;refine uQ ?_;refine Dr.p (v:=aF ((a1-1:Nat):Int)) (λh=>C.jX (a1-1) rfl h) ?_;refine Dr.l (λhE h=>C.dZ rfl h (s:=s) (l:=g.toList) (f:=aK) (j:=a1-1)) ?_;refine Dr.l (v:=aF<|g.toList[a1-1]'(by omega)) (λhE h=>C.du rfl h (s:=s) (l:=g.toList) (f:=aK) (j:=a1-1)) ?_;refine lH ?_;refine Dr.l (λhE h=>C.dZ rfl h (s:=s) (l:=g.toList) (f:=aK) (j:=o)) ?_;refine Dr.l (v:=aF<|g.toList[o]'(by omega)) (λhE h=>C.du rfl h (s:=s) (l:=g.toList) (f:=aK) (j:=o)) ?_;refine Dr.chain rfl ?_;refine Ch.m 12 (bj λe aa hk=>?_);refine C.cE (gu (x:=(g.toList[a1-1]'(by omega))) (y:=(g.toList[o]'(by omega)))) (A:=[]) ?_;refine su ?_;refine hk _ _ ?_;refine Ch.q 13 (λh=>C.nt rfl h) ?_;refine Ch.q 14 (λh=>C.pk rfl h) ?_;refine gy ?_;refine C.zw (λW=>?_) λW=>?_
        .refine gV ?_;refine C.cE (Jh (d:=g) (a:=a1) (b:=b1) (pv:=o) ai ai ai ai) ?_;refine cH ?_;have CA:ltInt g[a1-1]! g[o]! =false:=by rw[Af ai ai];simpa using W
         obtain⟨i,D,Y⟩:∃ m z,partitionEqual ltInt g a1 b1 o=(m,z):=⟨_,_,rfl⟩;obtain⟨hm1,hm2,hs5,hB5,Wt⟩:=round_eq swo_ltInt (partitionEqual_holds ltInt) mB K L ai B4 CA Y;rw[Y];dsimp only;refine gV ?_;exact again ih (i,b1,E,H,O,D) ⟨dE,dE,dE,dE,P,hB5,λZ z1 z2=>by have q:=Wt Z z1 z2;exact J Z (permIn_trans _ _ _ a1 b1 U q.1) q.2⟩<|dE
        .refine C.go ?_;exact bU Jk () trivial
       .refine C.dx (di 73 0 15) 15 [12,13,14] 0 ?_;refine lN ?_;refine Dr.p (λh=>C.ed rfl h) ?_;refine Kw ?_;refine Ch.m 12 (bj λe aa hk=>?_);refine C.no rfl<|hk _ _ ?_;refine Ch.q 13 (λh=>C.no rfl h) ?_;refine Ch.q 14 (λh=>C.pk rfl h) ?_;refine pR ?_;exact bU Jk () trivial
      .rintro _ _ e;refine fB ?_;refine C.cE (Ly (d:=g) (a:=a1) (b:=b1) (pv:=o) ai ai ai ai) ?_;refine cH ?_;obtain⟨i,ap,D,Y⟩:∃ m p z,partition ltInt g a1 b1 o=(m,p,z):=⟨_,_,_,rfl⟩;obtain⟨hm1,hm2,hs5,hBl,hBr,YI,hfr⟩:=round_part swo_ltInt (partition_holds ltInt) K L ai B4 Y;rw[Y];dsimp only;refine lu ?_;refine C.jX (i-a1) rfl ?_;refine bL ?_;refine C.jX (b1-i) rfl ?_;refine fB ?_;refine C.quo rfl ?_ (hr:=by rw[S];exact v9 ai ai);rw[S];refine fB ?_;refine C.cmp rfl (λajX=>?_) λajX=>?_
       .refine fB ?_;refine C.aeg rfl ?_;refine iE ?_;refine C.fZ (IH (i-a1) ai (s:=s) (d:=D) (a:=a1) (b:=i) (lim:=E) (fC _) hm1 ai ai P hBl) ?_;rintro v aT ⟨M,u,N,rfl⟩;refine cH ?_;refine dT ?_;refine C.jX (i+1) rfl ?_;refine bL ?_;have hq:=YI M u N;have hs7:M.size=D.size:=u.1;exact again ih (i+1,b1,E,G5 .geq ((i-a1:Nat):Int) (((b1-a1)/8:Nat):Int),ap,M) ⟨dE,dE,dE,dE,P,hq.1,λZ z1 z2=>by have q:=hq.2 Z z1 z2;exact J Z (permIn_trans _ _ _ a1 b1 U q.1) q.2⟩<|dE
       .refine fB ?_;refine C.aeg rfl ?_;refine fB ?_;refine C.jX (i+1) rfl ?_;refine bL ?_;refine C.fZ (IH (b1-(i+1)) ai (s:=s) (d:=D) (a:=i+1) (b:=b1) (lim:=E) (fC _) ai ai ai P hBr) ?_;rintro v aT ⟨M,u,N,rfl⟩;refine vI ?_;have hq:=hfr M u N;have hs7:M.size=D.size:=u.1;exact again ih (a1,i,E,G5 .geq ((b1-i:Nat):Int) (((b1-a1)/8:Nat):Int),ap,M) ⟨dE,dE,dE,dE,P,hq.1,λZ z1 z2=>by have q:=hq.2 Z z1 z2;exact J Z (permIn_trans _ _ _ a1 b1 U q.1) q.2⟩<|dE
theorem P7:Zx:=by
 intro s l hl;refine aI.of λR C kd o F c cs j f=>?_;refine cH ?_;obtain⟨d,g⟩:∃ d:Array Int,d=l.toArray:=⟨_,rfl⟩;have e:l=d.toList:=by rw[g]
 have k:d.size<2^20:=by rw[g];simpa using hl
 have i:d.toList.length=d.size:=by simp
 rw[e]at f⊢;refine vH ?_;refine C.cv rfl ?_ (r:=((d.size:Nat):Int)) (hr:=by rw[i];exact Ku _ ai);refine C.cE (Jj (n:=d.size) ai) (A:=[]) ?_;refine su ?_;rw[i];have p:bitsLen d.size<=40:=(bitsLen_le_iff _ _).2 ai;refine C.fZ (U3 d.size (d:=d) (a:=0) (b:=d.size) (lim:=bitsLen d.size) ai ai ai ai ai<|Or.inl rfl) ?_;rintro v aT ⟨Z,hp,hs,rfl⟩;refine uz ?_;have h:=sorted_unique_holds swo_ltInt (λx y h1 m=>by simp only[ltInt,Rl]at h1 m;omega) d Z hp hs;have h':Z.toList=km d.toList:=by
  rw[h];unfold km
  congr 1
  funext x y
  show(!decide (y<x))=decide (x<=y);by_cases h:x<=y
  .have h':¬ y<x:=ai;simp[h,h']
  .have h':y<x:=ai;simp[h,h']
 rw[h'];exact C.eY j f rfl
end
section
open Go.Proofs
theorem Dm:Cn:=λa hl b c=>Dl P7 a hl b c
open Go.Conc
theorem Dp{O:List bO}(m:iX I eb)(w:1<=c.ah.length/\c.ah.length<=4)(y:c.aH.length<2^20)(B:c.aC.length<=60)(D:O.length<2^43)(E:gg I db 67 so O):
  bB prog bM 18 #[az c.G.b,so.v] σ [dm c,bI I] (λv σ' As=>∃ er t d g I',σ'=σ/\v=.tuple #[aF t,aF<|Cj er]/\As=[dm {c with aH:=d,aC:=g},bI I']/\
   ((c.aj=true/\er=some 8/\t=0/\d=c.aH/\g=c.aC/\I'=I)\/(c.aj=false/\K9 eb I c.ah.length O c.aH c.aC er t I' d g))):=by
 refine bB.of ?_;intro Post os out kd F c' cs C p q;refine Vz ?_;refine At.aV db 3 67 ?_;refine C.YR (f:=db) (s:=aV) (l:=[]) O rfl (λa=>?_) (hsrc:=λH st=>ez.src (f:=db) (el:=67) (s:=so) (.bI Fo.au E) st λ_=>rfl) (hsz:=by simp only[CM];omega);rw[ek];refine At.mN (show dg _ (bK db 3 67 a O::dm c::bI I::F) by exact dg.au) ?_;refine fB ?_;refine At.ajv (s:=a) (f:=db) (z:=3) (el:=67) (l:=O) Fo.au λJ K n=>?_;refine aG.lj (F8 m w y B K D) ?_;rintro v σ' aT ⟨er,t,d,g,I',L,u,rfl,rfl,r,rfl,b⟩;refine cH ?_;refine At.turn (A:=bI J) (A':=bK db 3 67 a O) Fo.au n ?_;refine oN ?_;refine C.qK (f:=db) (s:=a) (l:=O) rfl ?_;refine bL ?_;have o:iX I' eb:=by
  rcases b with⟨_,_,_,_,_,rfl⟩|⟨_,hs,_⟩
  .exact m
  .exact m.mono hs
 refine C.cN (X:=Nat×List bO) (λx=>[(6,a.v),(7,aF t),(8,u),(18,a.v),(19,aF O.length),(20,aF x.1)]) (λx=>bK db 3 67 a x.2::dm {c with aH:=d,aC:=g}::bI I'::(L++F)) (λx=>x.1<=O.length/\x.2.length=O.length) (λx=>O.length-x.1) (0,O) ⟨rfl,rfl,rfl,rfl,rfl,rfl,trivial⟩ ⟨fp _,rfl⟩ ?_;rintro⟨i,l⟩ e ⟨hi,hl⟩ M;dsimp only at hi hl⊢;refine bL ?_;by_cases P:(i:Int)<O.length
 .refine C.fQ rfl ?_;refine vH ?_;refine C.dZ (f:=db) (s:=a) (l:=l) (j:=i) rfl ?_ (hj:=by omega);refine C.aao (f:=db) (s:=a) (l:=l) (j:=i) ⟨true,122, -1⟩ rfl ?_;refine fB ?_;exact again M (i+1,l.set i ⟨true,122, -1⟩) ⟨dE,by dsimp only;rw[eF];exact hl⟩<|dE
 .refine C.ed rfl ?_;refine fB ?_;cases er with
  |none=>
   obtain⟨rfl,rfl⟩:=r;refine su ?_;refine C.cE (aI.less (dW _) gM) (A:=[]) ?_;refine su ?_;refine dT ?_;exact aG.fe p q ⟨none,t,d,g,I',rfl,rfl,rfl,b⟩
  |some k=>
   obtain⟨bE,rfl,rfl⟩:=r;have N:k<9:=by
    rcases b with⟨_,h,_⟩|⟨_,_,h|h|h⟩
    .cases h;decide
    .have:=h.2.1;cases this;decide
    .have:=h.2.2.1;cases this;decide
    .have:=h.2.2.1;cases this
   refine cH ?_;refine C.cE (iD o (bE:=bE) (k:=k) (nm:=Uh) (at_:=0) N) ?_;refine cH ?_;refine dT ?_;exact aG.fe p q ⟨some k,t,d,g,I',rfl,rfl,rfl,b⟩
structure cU(I:HL)(t:Nat)(c:CV)(w:WR):Prop where
 rel:jl c.abs w
 inv:kJ t w
 rng:ya QQ w
 J:wh I c
 cn:oP (t*2^15) t c
 lt:t<=2^42
variable{I I':HL}{t:Nat}{c c':CV}{w:WR}
theorem cU.len(h:cU I t c w):c.ah.length=w.sh.length:=by have:=h.rel.len;simpa[CV.abs]using this
theorem cU.n(h:cU I t c w):1<=c.ah.length/\c.ah.length<=4:=by have:=h.rel.n;rw[h.len];exact this
theorem cU.nn(h:cU I t c w):(1:Int)<=w.sh.length/\(w.sh.length:Int)<=4:=by have h1:=h.n;have a:=h.len;omega
theorem cU.aH(h:cU I t c w):c.aH.map (·.toMsgR)=w.aH:=h.rel.aH
theorem cU.aC(h:cU I t c w):c.aC.map (·.toTxR)=w.aC:=h.rel.aC
theorem cU.at(h:cU I t c w){q:Nat}(h1:q<c.ah.length)(e:q<w.sh.length):dA (cy w.aC) w.sh.length (c.ah[q]).s.abs (w.sh[q])/\Bp t (w.sh[q])/\(w.sh[q]).out=[]/\(w.sh[q]).me=q:=by
 have e1:c.abs.sh[q]? =some (c.ah[q]).s.abs:=by simp[CV.abs,h1]
 have e2:w.sh[q]? =some (w.sh[q]):=cQ e;obtain⟨a,b,d⟩:=h.rel.sh q _ _ e1 e2;have hs:=h.inv.size h.rel<|bD e2;exact⟨a,hs.1,d,b⟩
theorem cU.host(h:cU I t c w){v:HV}(hv:v∈c.ah):∃ R,R∈w.sh/\dA (cy w.aC) w.sh.length v.s.abs R/\Bp t R/\R.out=[]:=by
 obtain⟨q,e,rfl⟩:=nJ hv;have f:q<w.sh.length:=by rw[<- h.len];exact e
 obtain⟨a,b,d,_⟩:=h.at e f;exact⟨_,dG f,a,b,d⟩
theorem cU.msg(h:cU I t c w){m:dV}(hm:m∈c.aH):m.toMsgR∈w.aH:=by have:m.toMsgR∈c.aH.map (·.toMsgR):=cq.2 ⟨m,hm,rfl⟩;rw[h.aH]at this;exact this
theorem cU.acB(h:cU I t c w):c.aH.length<=300000:=by have h1:=h.inv.aH;have:=congrArg List.length h.aH;simp only[eM]at this;omega
theorem cU.tx(h:cU I t c w){x:we}(hx:x∈c.aC):x.toTxR∈w.aC:=by have:x.toTxR∈c.aC.map (·.toTxR):=cq.2 ⟨x,hx,rfl⟩;rw[h.aC]at this;exact this
theorem cU.ntx(h:cU I t c w):c.aC.length=w.aC.length/\c.aC.length<=60:=by have h1:=h.rel.aiP;have:=congrArg List.length h.aC;simp only[eM]at this;omega
theorem cU.cvb(h:cU I t c w):PM c:=by refine⟨h.n,by have:=h.acB;omega,h.ntx.2,λx a=>?_⟩;have:=h.rel.ae4<|h.tx a;exact⟨⟨this.1,by have:=this.2.1;omega⟩,this.2.2⟩
theorem cU.ab8(h:cU I t c w){v:HV}(hv:v∈c.ah)(hu:v.s.up=true):sb v.s:=by obtain⟨R,_,a,b,d⟩:=h.host hv;exact a.ab8 h.rel.tok b h.nn h.lt (h.cn v hv) (a.up.symm.trans hu) d
theorem cU.del(h:cU I t c w){m:dV}(hm:m∈c.aH):Nv c m:=by
 have j:=h.msg hm;have o:=h.rel.ae3 j;have l:=h.rel.msg _ j;have g:=h.rel.mto j;have hl:=h.len;refine⟨λe=>?_,λe=>?_,λe v r u=>?_⟩
 .have g:m.to= -1/\0<=m.tx/\m.tx<w.aC.length:=by
   rcases g with h1|h1
   .exact h1
   .have n:0<=m.to:=h1.1;omega
  have:=congrArg List.length h.aC;simp only[eM]at this;omega
 .have g:0<=m.to/\m.to<w.sh.length:=by
   rcases g with h1|h1
   .exact absurd h1.1 e
   .exact h1
  have k:1<=m.kind/\m.kind<=6:=by
   obtain⟨O,_,p⟩:=l;have p:(m.kind=1\/m.kind=2\/m.kind=3\/m.kind=4\/m.kind=5\/m.kind=6):=by
    rcases p with h1|h1|h1|h1|h1|h1|h1
    .exact .inl h1.1
    .exact .inr<|.inl h1.1
    .exact .inr<|.inr<|.inl h1.1
    .exact .inr<|.inr<|.inr<|.inl h1.1
    .exact .inr<|.inr<|.inr<|.inr<|.inl h1.1
    .exact .inr<|.inr<|.inr<|.inr<|.inr h1.1
    .exact absurd h1.2.1 e
   omega
  exact⟨g.1,ai,k.1,k.2,λ_=>⟨o.1,by have:m.ops.length<=6:=o.2;omega⟩⟩
 .have g:0<=m.to/\m.to<w.sh.length:=by
   rcases g with h1|h1
   .exact absurd h1.1 e
   .exact h1
  obtain⟨h1,rfl⟩:=dd.1 r;have n:m.to.toNat<w.sh.length:=ai;obtain⟨a,b,d,f⟩:=h.at h1 n;have q:(w.sh[m.to.toNat]).up=true:=a.up.symm.trans u;have x:m.toMsgR.to=(w.sh[m.to.toNat]).me:=by rw[f];show m.to=_;omega
  have i:(0:Int)<w.sh.length:=by have:=h.nn;omega
  refine⟨λk=>XR a h.rel.tok i q l k,?_⟩;have y:=HD a h.rel.tok i q l x;rw[y.out];have:=h.inv.take h.rel (s:=(w.sh[m.to.toNat])) (dG n) j;omega
theorem cU.ajZ(h:cU I t c w){i b:Int}(j:k=8->Cn):PX c k i b:=by
 refine⟨h.cvb,λ_ v f e=>h.ab8 f e,λ_ q l _=>h.del<|dG l,λv f=>?_,λm=>⟨j m,λv f=>?_⟩⟩
 .obtain⟨R,g,a,b',d⟩:=h.host f;have n:=h.inv.sh R g;refine⟨λ_ e=>?_,λ_ e=>?_,λ_ e=>?_,λ_ e=>?_⟩
  .have:=(HE a<|a.up.symm.trans e).out;rw[this];show(R.out++R.waits).length<_;rw[d];have:=b'.waits;simp only[ek];omega
  .have:=(HI a h.rel.tok<|a.up.symm.trans e).out;rw[this];obtain⟨_,o,e1,e2,_⟩:=wZ n (by have:=h.nn;have:=a.n2;omega) b'.timers;rw[e1,d];simp only[ek];omega
  .have:=(Ea a b).out;rw[this];show R.out.length<_;rw[d];decide
  .have:=(yQ a h.rel.tok).out;rw[this,(tB R).2,d];decide
 .obtain⟨R,g,a,b',d⟩:=h.host f;have r:v.s.log.length=R.log.length:=by have:=congrArg List.length a.log;simpa[dw.abs]using this
  refine⟨by have:=b'.log;omega,λtx home O so p=>?_⟩;have h1:aR.aZ (.cK tx home O)∈R.log:=by rw[<- a.log];exact cq.2 ⟨_,cq.2 ⟨_,p,rfl⟩,rfl⟩
  have:=b'.aiN _ h1;exact⟨this.1,by have:O.length<=6:=this.2;omega⟩
theorem cU.mono(h:cU I t c w)(hs:Sub I I'):cU I' t c w:={h with J:=h.J.mono hs}
theorem cU.new{n:Int}(f:1<=n/\n<=4)(h1:c.ah.map (·.s)=((upto n).map λk=>kU k n))(b:c.aH=[])(d:c.aC=[])(g:c.aj=false):cU I 0 c (kP n):=by
 have h:c.abs=Ed n:=by
  unfold CV.abs Ed;rw[b,d,g];have:c.ah.map (λv=>v.s.abs)=(c.ah.map (·.s)).map (·.abs):=by simp[Ap,Ao]
  rw[this,h1];simp[Ap,Ao,O2]
 have key:∀ v∈c.ah,∃ k,v.s=kU k n:=λv a=>by have:v.s∈c.ah.map (·.s):=yz a;rw[h1]at this;obtain⟨k,_,e⟩:=cq.1 this;exact⟨k,e.symm⟩
 refine⟨by rw[h];exact MP f,MV,WN (by unfold QQ;omega) n,⟨by simp[b],by simp[d],λv a=>?_⟩,λv a=>?_,fp _⟩
 .obtain⟨k,e⟩:=key v a;rw[e];exact Xb I k n
 .obtain⟨k,e⟩:=key v a;rw[e];exact⟨by simp,by simp[kU],by simp[kU]⟩
theorem cU.l9{O:List bO}{er:Option Nat}{tt:Int}{a:List dV}{b:List we}(h:cU I t c w)(e:(c.aj=true/\er=some 8/\tt=0/\a=c.aH/\b=c.aC/\I'=I)\/(c.aj=false/\K9 eb I c.ah.length O c.aH c.aC er tt I' a b))
  (g:∀ o∈O,QQ o.v) (i:t+1<=2^42):Sub I I'/\cU I' (t+1) {c with aH:=a,aC:=b} (bZ w O).1/\tt=(bZ w O).2.1/\Cj er=(bZ w O).2.2:=by
 have j:=XT e;obtain⟨hs,k⟩:=af1 h.J e;obtain⟨f,d⟩:=yS h.rel O;rw[<- j]at f d;refine⟨hs,⟨f,yT h.inv h.rel O,Kt h.rng g,k,λv l=>(h.cn v l).mono ai ai,i⟩,?_,?_⟩
 .exact congrArg Prod.fst d
 .exact congrArg Prod.snd d
theorem cU.do{i b:Int}{er:Option Nat}(h:cU I t c w)(a:fy c I (t*2^15+2^15) (t+1) (gS c.abs k i b) er c' I')(f:t+1<=2^42):cU I' (t+1) c' (eV w k i b).1/\Cj er=(eV w k i b).2:=by obtain⟨d,e⟩:=MR h.rel k i b;rw[<- a.r]at d e;refine⟨⟨d,MU h.inv h.rel k i b,aaO (by unfold QQ;omega) h.rng k i b,a.j,λv g=>(a.cn v g).mono ai ai,f⟩,e⟩
structure mK(c c':CV):Prop where
 g:c'.G=c.G
 h:c'.ah.map (·.h)=c.ah.map (·.h)
 st:c'.aj=c.aj
theorem mK.refl(c:CV):mK c c:=⟨rfl,rfl,rfl⟩
theorem mK.trans{a b c:CV}(h:mK a b)(k:mK b c):mK a c:=⟨k.g.trans h.g,k.h.trans h.h,k.st.trans h.st⟩
theorem EX{c:CV}{i b:Int}{I:HL}{t:Nat}{w:WR}(e:iX I eb)(d:cU I t c w)(hr:c.aj=false->nX σ c)(f:t+1<=2^42):
  bB prog bM 42 #[az c.G.b,aF k,aF i,aF b] σ [dm c,bI I] (λv σ' As=>∃ c' I',σ'=σ/\v=aF (eV w k i b).2/\Sub I I'/\mK c c'/\cU I' (t+1) c' (eV w k i b).1/\As=[dm c',bI I']):=
 (UF e d.J d.cn hr (d.ajZ λ_=>Dm)).post λv σ' As ⟨er,c',I',h1,g,a,h⟩=>by
  obtain⟨j,l⟩:=d.do a f;have m:c'.aj=c.aj:=by have:=congrArg (λr:WP×Int=>r.1.aj) a.r;exact this.trans<|XU _ _ _ _
  exact⟨c',I',h1,by rw[g,l],a.sub,⟨a.g,a.h,m⟩,j,h⟩
theorem Cp{c:CV}{O:List bO}{I:HL}{t:Nat}{w:WR}(b:iX I eb)(a:cU I t c w)(d:t+1<=2^42)(e:O.length<2^43)(f:gg I db 67 so O)(g:∀ o∈O,QQ o.v):
  bB prog bM 18 #[az c.G.b,so.v] σ [dm c,bI I] (λv σ' As=>∃ c' I',σ'=σ/\v=.tuple #[aF (bZ w O).2.1,aF (bZ w O).2.2]/\Sub I I'/\mK c c'/\cU I' (t+1) c' (bZ w O).1/\As=[dm c',bI I']):=
 (Dp b a.n (by have:=a.acB;omega) a.ntx.2 e f).post λv σ' As ⟨er,tt,h,i,I',h1,j,k,l⟩=>by obtain⟨m,n,p,q⟩:=a.l9 l g d;exact⟨{c with aH:=h,aC:=i},I',h1,by rw[j,p,q],m,⟨rfl,rfl,rfl⟩,n,k⟩
def lK{α:Type}(p:ay×α):List Value:=[p.1.v]
instance{α:Type}:jf (lK (α:=α)) 1:=⟨λ_=>rfl,λa v h=>by simp[lK]at h;subst h;rfl⟩
def xE(n:Nat):List Value:=[aF n]
instance:jf xE 1:=⟨λ_=>rfl,λa v h=>by simp[xE]at h;subst h;rfl⟩
structure kW where
 so:ay
 sd:ay
 sr:ay
 sk:ay
 oL:List (ay×List bO)
 ord:List Int
 rL:List (ay×List Int)
 lk:List Nat
abbrev eP(b:Nat)(h:kW)(F:List HP):List HP:=dq b (.cells #[h.so.v,h.sd.v,h.sr.v,h.sk.v] 102 (0,0))::bK lK 1 36 h.so h.oL::bK aK 1 3 h.sd h.ord::bK lK 1 104 h.sr h.rL::bK xE 1 3 h.sk h.lk::F
structure Cq(I:HL)(h:kW):Prop where
 o:∀ p∈h.oL,gg I db 67 p.1 p.2
 r:∀ p∈h.rL,gg I dk 21 p.1 p.2
theorem Cq.mono{I I':HL}{h:kW}(hs:Sub I I')(J:Cq I h):Cq I' h:=⟨λp hp=>(J.o p hp).mono hs,λp hp=>(J.r p hp).mono hs⟩
def kW.abs(h:kW):cJ:=⟨h.oL.map (·.2),h.ord,h.rL.map (·.2),h.lk⟩
def Gg(l:List Int)(t:Int):Int:=match l.findIdx? (· ==t)with|some i=>i|none=> -1
variable{ao:Bool}
theorem xF{h:kW}{t:Int}(hl:h.ord.length<2^60):aI prog ao cX 90 #[az b,aF t] (eP b h []) (λv As=>v=aF (Gg h.ord t)/\As=eP b h []):=by
 refine aI.of λR C kd d F c cs n o=>?_;simp only[eP,fJ,ek];refine iE ?_;refine C.cN (X:=Nat) (λi=>[(0,az b),(1,aF t),(4,aF 0),(5,aF i)]) (λ_=>eP b h F) (λi=>i<=h.ord.length/\∀ (j:Nat) (g:j<h.ord.length),j<i->h.ord[j]≠t) (λi=>h.ord.length-i) 0 ⟨rfl,rfl,rfl,rfl,trivial⟩ ⟨fp _,λj _ h=>absurd h<|Au _⟩ ?_;rintro i e ⟨hi,k⟩ p;refine iE ?_;refine C.qK rfl ?_ (s:=h.sd) (l:=h.ord) (f:=aK);refine C.cmp rfl (λq=>?_) λq=>?_
 .refine bL ?_;have m:i<h.ord.length:=ai;refine gV ?_;refine C.dZ rfl ?_ (s:=h.sd) (l:=h.ord) (f:=aK) (j:=i);refine C.du (v:=aF<|h.ord[i]'m) rfl ?_ (s:=h.sd) (l:=h.ord) (f:=aK) (j:=i);refine ga ?_;refine C.cmp rfl (λa=>?_) λa=>?_
  .refine gV ?_;refine C.cG n o ⟨?_,rfl⟩;unfold Gg;rw[yB.2 ⟨m,by simpa using a,λj g=>by simpa using k j ai g⟩]
  .refine iE ?_;exact again p (i+1) ⟨m,λj g u=>by
    by_cases e:j=i
    .subst e;exact a
    .exact k j g ai⟩ ai
 .refine fB ?_;refine C.cG n o ⟨?_,rfl⟩;unfold Gg;rw[Yl.2 λx r=>by obtain⟨j,g,rfl⟩:=nJ r;simpa using k j g ai]
end
section
open Go.Proofs Go.Conc
theorem acE{t:Int}(a:l.Nodup)(hj:l[j]? =some t):Gg l t=j:=KA (h:=⟨[],l,[],[]⟩) a hj
theorem P8{q:Nat}(a:q<T.length):opsOf T (q:Int)=some T[q]:=by unfold opsOf;rw[ax ai,gN,cQ a]
structure P9(T:List (List bO))(h:kW):Prop where
 t:T=h.oL.map (·.2)
 ok:vd T
 nd:h.ord.Nodup
 len:h.rL.length=h.ord.length
 ops:∀ t∈h.ord,(opsOf T t).isSome=true
 val:∀ (j:Nat) (t:Int) rd,h.ord[j]? =some t->(h.rL.map (·.2))[j]? =some rd->nU (runT T (h.ord.take j) bQ) ((opsOf T t).getD []) rd=true
theorem P9.ol{h:kW}(S:P9 T h):h.ord.length<=60:=iO (c:=60) S.nd λt a=>by obtain⟨o,b⟩:=oM.1<|S.ops t a;have h1:=ie b;have d:=S.ok.2;omega
theorem P9.at{T:List (List bO)}{h:kW}(S:P9 T h){i:Nat}(hi:i<h.ord.length):∃ q:Nat,h.ord[i]=(q:Int)/\∃ a:q<h.oL.length,opsOf T (q:Int)=some (h.oL[q]).2:=by
 obtain⟨o,b⟩:=oM.1<|S.ops _<|dG hi;obtain⟨h1,c,_⟩:=ie b;obtain⟨q,a⟩:=mJ h1;have hl:q<h.oL.length:=by rw[S.t,eM]at c;omega
 refine⟨q,a,hl,?_⟩;have:=P8 (T:=T) (q:=q) (by rw[S.t,eM];exact hl);rw[this];congr 1;simp[S.t]
theorem Qa{v:List Int}(hi:i<l.length):runT T (l.take<|i+1) v=cS (runT T (l.take i) v) ((opsOf T l[i]).getD []):=by rw[GV,cQ hi,BD];rfl
theorem zg{l:List bO}{v:List Int}(hj:j<l.length):cS v (l.take<|j+1)=(if l[j].w then(cS v<|l.take j).set (l[j].k-97).toNat l[j].v else cS v (l.take j)):=by rw[GV,cQ hj];unfold cS;rw[lT];rfl
variable{ao:Bool}
theorem Gi{Y:kW}(J:Cq I Y)(S:P9 T Y):aI prog ao cX 46 #[az b] (eP b Y [bI I]) (λv As=>∃ sl:ay,v=.tuple #[sl.v,.bool true]/\As=bK dk 1 21 sl (runT T Y.ord bQ)::eP b Y [bI I]):=by
 refine aI.of λR C kd d F c cs aW ak=>?_;simp only[eP,fJ,ek];have hol:=S.ol;refine gV ?_;refine C.ms (f:=dk) (a0:=0) rfl rfl λm=>?_;refine bL ?_;refine At.own (l:=runT T (Y.ord.take 0) bQ) (f:=dk) (z:=1) ⟨some ⟨m,0,none⟩,26,26⟩ [] rfl rfl (fC _) .head ?_;refine dT ?_;refine C.cN (X:=Nat) (λi=>[(0,az b),(4,.slice (some ⟨m,0,none⟩) 26 26),(5,aF i)]) (λi=>bK dk 1 21 ⟨some ⟨m,0,none⟩,26,26⟩ (runT T (Y.ord.take i) bQ)::eP b Y (bI I::F)) (λi=>i<=Y.ord.length) (λi=>Y.ord.length-i) 0 ⟨rfl,rfl,rfl,trivial⟩ (fp _) ?_;intro i e hi ih;refine iE ?_;refine C.qK rfl ?_ (s:=Y.sd) (l:=Y.ord) (f:=aK);refine C.cmp rfl (λh18=>?_) λh18=>?_
 .refine bL ?_;have K:i<Y.ord.length:=ai;obtain⟨q,M,hq,t⟩:=S.at K;have N:=J.o _<|dG hq;have YV:i<Y.rL.length:=by rw[S.len];exact K
  have Qu:=J.r _<|dG YV;have vp:Gg Y.ord (q:Int)=i:=acE S.nd (by rw[cQ K,M]);have y:=S.val i q (Y.rL[i]).2 (by rw[cQ K,M]) (by simp[YV]);obtain⟨so,lo,JB⟩:∃ a b,Y.oL[q]'hq=(a,b):=⟨_,_,rfl⟩;obtain⟨B,u,Z⟩:∃ a b,Y.rL[i]'YV=(a,b):=⟨_,_,rfl⟩;rw[JB]at N t;rw[Z]at Qu y;dsimp only at N t Qu y;have O:=S.ok.of t;have hl6:lo.length<=6:=O.2.2.2;rw[t,iG]at y;have P:(runT T (Y.ord.take i) bQ).length=26:=xb _ _ _;refine iE ?_;refine C.dZ rfl ?_ (s:=Y.sd) (l:=Y.ord) (f:=aK) (j:=i);refine C.du (v:=aF (q:Int)) rfl ?_ (s:=Y.sd) (l:=Y.ord) (f:=aK) (j:=i) (hv:=by rw[M];rfl);refine C.cE (xF (h:=Y) ai) ?_;rw[vp];simp only[eP,fJ,ek];refine fB ?_;refine C.ed rfl ?_ (hf:=by intro h;exact h rfl);refine bL ?_;refine C.dx (di 33 0 13++[(7,13)]) 14 [] 0 ?_;refine GA ?_;refine lN ?_;refine Dr.l (λg h=>C.dZ rfl h (s:=Y.sd) (l:=Y.ord) (f:=aK) (j:=i)) ?_;refine Dr.l (v:=aF (q:Int)) (λg h=>C.du rfl h (s:=Y.sd) (l:=Y.ord) (f:=aK) (j:=i) (hv:=by rw[M];rfl)) ?_;refine Dr.l (λg h=>C.dZ rfl h (s:=Y.so) (l:=Y.oL) (f:=lK) (j:=q)) ?_;refine Dr.l (v:=so.v) (λg h=>C.du rfl h (s:=Y.so) (l:=Y.oL) (f:=lK) (j:=q) (hv:=by rw[JB];rfl)) ?_;refine zy ?_;refine zv7 ?_;refine C.cN (X:=Nat×Nat) (λx=>[(0,az b),(4,.slice (some ⟨m,0,none⟩) 26 26),(5,aF i),(7,so.v),(8,aF x.2),(9,aF x.1)]) (λx=>bK dk 1 21 ⟨some ⟨m,0,none⟩,26,26⟩ (runT T (Y.ord.take i) bQ)::eP b Y (bI I::F)) (λx=>x.1<=lo.length/\x.2<=u.length/\x.2<=x.1/\nU (runT T (Y.ord.take i) bQ) (lo.drop x.1) (u.drop x.2)=true) (λx=>lo.length-x.1) (0,0) ⟨rfl,rfl,rfl,rfl,rfl,rfl,trivial⟩ ⟨fp _,fp _,fC _,y⟩ ?_;rintro⟨j,n⟩ e ⟨hj,Q,hnj,k⟩ NV;dsimp only at hj Q hnj k⊢;refine dY ?_;refine C.qK rfl ?_ (s:=so) (l:=lo) (f:=db);refine C.cmp rfl (λXh=>?_) λXh=>?_
  .refine bL ?_;have L:j<lo.length:=ai;rw[sA L]at k;have k:=k;unfold nU at k;have yH:=(O.1 _<|dG L).1;have D8:=(O.1 _<|dG L).2.1;refine dT ?_;refine C.dZ rfl ?_ (s:=so) (l:=lo) (f:=db) (j:=j);refine ga ?_;refine C.yM rfl ?_ (s:=so) (l:=lo) (f:=db) (j:=j) (o:=0);refine C.go ?_;refine C.zw (λD=>?_) λD=>?_
   .refine gV ?_;rw[aJ D]at k;exact again NV (j+1,n) ⟨L,Q,dE,k⟩<|dE
   .refine C.go ?_;rw[ax (by rw[D];decide)]at k;have E:n<u.length:=by
     rcases lP n u.length with z|z
     .exact z
     .rw[pX z]at k;cases k
    rw[sA E]at k;simp only[jK,uU]at k;obtain⟨p,hp⟩:=mJ (show(0:Int)<=lo[j].k-97 by omega);have H:p<26:=ai;rw[hp,gN,cQ (by rw[P];exact H),iG]at k;refine C.dx (di 57 0 32) 32 [] 0 ?_;refine qv ?_;refine Dr.l (λg h=>C.dZ rfl h (s:=Y.sr) (l:=Y.rL) (f:=lK) (j:=i)) ?_;refine Dr.l (v:=B.v) (λg h=>C.du rfl h (s:=Y.sr) (l:=Y.rL) (f:=lK) (j:=i) (hv:=by rw[Z];rfl)) ?_;refine Dr.l (λg h=>C.qK rfl h (s:=B) (l:=u) (f:=dk)) ?_;refine Dr.p (λh=>C.ed rfl h) ?_;refine qv ?_;refine Dr.l (λg h=>C.dZ rfl h (s:=Y.sr) (l:=Y.rL) (f:=lK) (j:=i)) ?_;refine Dr.l (v:=B.v) (λg h=>C.du rfl h (s:=Y.sr) (l:=Y.rL) (f:=lK) (j:=i) (hv:=by rw[Z];rfl)) ?_;refine lN ?_;refine Dr.l (λg h=>C.dZ rfl h (s:=B) (l:=u) (f:=dk) (j:=n)) ?_;refine Dr.l (v:=.int .i32<|u[n]'E) (λg h=>C.du rfl h (s:=B) (l:=u) (f:=dk) (j:=n)) ?_;refine uQ ?_;refine Dr.l (λg h=>C.dZ rfl h (s:=so) (l:=lo) (f:=db) (j:=j)) ?_;refine lN ?_;refine Dr.l (v:=.int .u8 (lo[j]'L).k) (λg h=>C.yM rfl h (s:=so) (l:=lo) (f:=db) (j:=j) (o:=1)) ?_;refine Dr.p (v:=.int .u8 (p:Int)) (λh=>C.ar rfl h (r:=(p:Int)) (ha:=congrArg some hp)) ?_;refine Dr.l (λg h=>C.dZ rfl h (s:=⟨some ⟨m,0,none⟩,26,26⟩) (l:=runT T (Y.ord.take i) bQ) (f:=dk) (j:=p) (hj:=by rw[P];exact H)) ?_;refine Dr.ld (v:=.int .i32<|(runT T (Y.ord.take i) bQ)[p]'(by rw[P];exact H)) ⟨_,rfl,rfl⟩ (λ_ g _ _ h=>C.du rfl h (s:=⟨some ⟨m,0,none⟩,26,26⟩) (l:=runT T (Y.ord.take i) bQ) (f:=dk) (j:=p) (hj:=by rw[P];exact H)) ?_;refine Dr.p (λh=>C.ed rfl h (hf:=by intro z;exact z k.1)) ?_;refine zy ?_;refine Ch.fin ?_;refine mE ?_;refine ga ?_;exact again NV (j+1,n+1) ⟨L,E,dE,k.2⟩<|dE
  .refine bL ?_;have hje:j=lo.length:=ai;rw[pX (Ma hje.symm)]at k;have fA:(u.drop n).isEmpty=true:=k;have CA:u.length<=n:=by rw[Rg,List.drop_eq_nil_iff]at fA;exact fA
   refine iE ?_;refine C.dZ rfl ?_ (s:=Y.sr) (l:=Y.rL) (f:=lK) (j:=i);refine C.du (v:=B.v) rfl ?_ (s:=Y.sr) (l:=Y.rL) (f:=lK) (j:=i) (hv:=by rw[Z];rfl);refine C.qK rfl ?_ (s:=B) (l:=u) (f:=dk);refine C.ed rfl ?_ (hf:=by intro z;exact z ai);refine fB ?_;refine At.turn (A:=bK dk 1 21 ⟨some ⟨m,0,none⟩,26,26⟩<|runT T (Y.ord.take i) bQ) (A':=bK dk 1 21 ⟨some ⟨m,0,none⟩,26,26⟩<|cS (runT T (Y.ord.take i) bQ)<|lo.take 0) Fo.au (λ_ hh=>hh) ?_;refine C.cN (X:=Nat) (λx=>[(0,az b),(4,.slice (some ⟨m,0,none⟩) 26 26),(5,aF i),(7,so.v),(10,aF x)]) (λx=>bK dk 1 21 ⟨some ⟨m,0,none⟩,26,26⟩ (cS (runT T (Y.ord.take i) bQ)<|lo.take x)::eP b Y (bI I::F)) (λx=>x<=lo.length) (λx=>lo.length-x) 0 ⟨rfl,rfl,rfl,rfl,rfl,trivial⟩ (fp _) ?_;intro x e2 hx zP;refine dY ?_;refine C.qK rfl ?_ (s:=so) (l:=lo) (f:=db);refine C.cmp rfl (λacG=>?_) λacG=>?_
   .refine bL ?_;have w:x<lo.length:=ai;have yH:=(O.1 _<|dG w).1;have D8:=(O.1 _<|dG w).2.1;have U:(cS (runT T (Y.ord.take i) bQ)<|lo.take x).length=26:=by rw[ox];exact P
    refine dT ?_;refine C.dZ rfl ?_ (s:=so) (l:=lo) (f:=db) (j:=x);refine ga ?_;refine C.yM rfl ?_ (s:=so) (l:=lo) (f:=db) (j:=x) (o:=0);refine C.go ?_;refine C.zw (λU4=>?_) λU4=>?_
    .refine C.go ?_;obtain⟨p,hp⟩:=mJ (show(0:Int)<=lo[x].k-97 by omega);have H:p<26:=ai;refine C.dx (di 112 0 13) 14 [13] 0 ?_;refine uQ ?_;refine Dr.l (λg h=>C.dZ rfl h (s:=so) (l:=lo) (f:=db) (j:=x)) ?_;refine lN ?_;refine Dr.l (v:=.int .u8 (lo[x]'w).k) (λg h=>C.yM rfl h (s:=so) (l:=lo) (f:=db) (j:=x) (o:=1)) ?_;refine Dr.p (v:=.int .u8 (p:Int)) (λh=>C.ar rfl h (r:=(p:Int)) (ha:=congrArg some hp)) ?_;refine lH ?_;refine Dr.l (λg h=>C.dZ rfl h (s:=so) (l:=lo) (f:=db) (j:=x)) ?_;refine lN ?_;refine Dr.l (v:=.int .i32 (lo[x]'w).v) (λg h=>C.yM rfl h (s:=so) (l:=lo) (f:=db) (j:=x) (o:=2)) ?_;refine Dr.l (λg h=>C.dZ rfl h (s:=⟨some ⟨m,0,none⟩,26,26⟩) (l:=cS (runT T (Y.ord.take i) bQ)<|lo.take x) (f:=dk) (j:=p) (hj:=by rw[U];exact H)) ?_;refine Dr.chain rfl ?_;refine Ch.m 13 (bj λe aa hk=>?_);refine C.j5 (s:=⟨some ⟨m,0,none⟩,26,26⟩) (l:=cS (runT T (Y.ord.take i) bQ)<|lo.take x) (j:=p) (lo[x]'w).v rfl (hk _ undef ?_) (hj:=by rw[U];exact H);refine S4 ?_;have W:cS (runT T (Y.ord.take i) bQ) (lo.take<|x+1)=(cS (runT T (Y.ord.take i) bQ)<|lo.take x).set p (lo[x]'w).v:=by rw[zg w,aJ U4,hp,gN]
     rw[<- W];exact again zP (x+1) w ai
    .refine gV ?_;have W:cS (runT T (Y.ord.take i) bQ) (lo.take<|x+1)=cS (runT T (Y.ord.take i) bQ) (lo.take x):=by rw[zg w,ax (by rw[U4];decide)]
     rw[<- W];exact again zP (x+1) w ai
   .refine iE ?_;have hxe:x=lo.length:=ai;have W:cS (runT T (Y.ord.take i) bQ) (lo.take x)=runT T (Y.ord.take<|i+1) bQ:=by rw[Qa K,M,t,iG,lA<|Ma hxe.symm]
    rw[W];exact again ih (i+1) K ai
 .refine iE ?_;have TZ:i=Y.ord.length:=ai;rw[lA (Ma TZ.symm)];exact C.cG aW ak ⟨⟨some ⟨m,0,none⟩,26,26⟩,rfl,rfl⟩
theorem X2{t:Int}(h:0<=Gg l t):∃ j:Nat,j<l.length/\Gg l t=j:=by
 unfold Gg at h⊢;cases a:l.findIdx? (· ==t)with
 |none=>rw[a]at h;dsimp only at h;omega
 |some j=>exact⟨j,(yB.1 a).1,rfl⟩
theorem NH{Y:kW}(d:Ej w Y.abs=true)(a:Y.rL.length=Y.ord.length)(ht:t<Y.oL.length):∃ x,w.aC[t]? =some x/\1<=x.state/\x.state<=3/\
  (x.state=2->∃ (j:Nat) (hj:j<Y.rL.length),Gg Y.ord t=(j:Int)/\x.reads=(Y.rL[j]).2)/\(x.state=3->Gg Y.ord t<0):=by
 unfold Ej at d;rw[lz]at d;have:=d t (by rw[iA];simpa[kW.abs]using ht);have k:MZ Y.abs (t:Int)=Gg Y.ord t:=rfl;rw[k]at this;cases g:w.aC[t]? with
 |none=>rw[g]at this;cases this
 |some x=>
  rw[g]at this;simp only[jK,GN,Bool.or_eq_false_iff,Bool.and_eq_false_iff,Rl,Am,bne_iff_ne,uU]at this;obtain⟨⟨⟨⟨a1,n⟩,b⟩,c⟩,f⟩:=this;refine⟨x,rfl,ai,by omega,λh=>?_,λl=>?_⟩
  .have m:0<=Gg Y.ord t:=by
    rcases b with b|b
    .simp[h]at b
    .omega
   obtain⟨j,hj,e⟩:=X2 m;have i:j<Y.rL.length:=by rw[a];exact hj
   refine⟨j,i,e,?_⟩;have f:=f.resolve_left λz=>z h;rw[f,e];simp[kW.abs,i]
  .rcases c with c|c
   .simp[l]at c
   .omega
theorem LD{Y:kW}(u:cU I t0 c w)(J:Cq I Y)(N:Ej w Y.abs=true)(g:Y.rL.length=Y.ord.length)(U:Y.ord.length<=60):
  bB prog bM 45 #[az b,az c.G.b] σ (eP b Y [dm c,bI I]) (λv σ' As=>σ'=σ/\v=.bool true/\As=eP b Y [dm c,bI I]):=by
 refine bB.of ?_;intro Post os out kd F c' cs C W Z;simp only[eP,fJ,ek];have B:=u.ntx;have hoT:Y.oL.length<=w.aC.length:=by
  rcases lP w.aC.length Y.oL.length with h|h
  .obtain⟨x,o,_⟩:=NH N g h;rw[L9 (fC _)]at o;cases o
  .exact h
 refine iE ?_;refine C.cN (X:=Nat) (λi=>[(0,az b),(1,az c.G.b),(5,aF i)]) (λ_=>eP b Y<|dm c::bI I::F) (λi=>i<=Y.oL.length) (λi=>Y.oL.length-i) 0 ⟨rfl,rfl,rfl,trivial⟩ (fp _) ?_;intro i e hi D;refine iE ?_;refine C.qK rfl ?_ (s:=Y.so) (l:=Y.oL) (f:=lK);refine C.cmp rfl (λGC=>?_) λGC=>?_
 .refine bL ?_;have y:i<Y.oL.length:=ai;obtain⟨x,o,x1,x3,O,E⟩:=NH N g y;have k:i<c.aC.length:=ai;have P:(c.aC[i]).toTxR=x:=by
   have:=u.aC;have Q:(c.aC.map (·.toTxR))[i]? =some x:=by rw[this];exact o
   rw[jJ,cQ k]at Q;exact cA Q
  refine dT ?_;refine aG.lj (xA u.J B.2) ?_;rintro v σ' aT ⟨rfl,sl,n,rd,rfl,R,rfl⟩;have lG:IP c.aC (i:Int)=some c.aC[i]:=by unfold IP;rw[ax ai,gN,cQ k]
  rw[lG]at R;obtain⟨rfl,rfl⟩:=R;have dI:(c.aC[i]).state=x.state:=congrArg TxR.state P;have S:(c.aC[i]).reads=x.reads:=congrArg TxR.reads P;rw[dI,S];refine Y8 ?_;refine C.cE (aI.less (dW _)<|xF (h:=Y) ai) ?_;simp only[eP,fJ,ek];refine dY ?_;refine C.ed rfl ?_;refine bL ?_;refine C.ed rfl ?_;refine dT ?_;refine C.cmp rfl (λm=>?_) λm=>?_
  .refine bL ?_;refine C.ed rfl ?_ (hf:=by obtain⟨j,_,e,_⟩:=O m;rw[e];omega);refine dY ?_;refine C.ed rfl ?_ (hf:=by rw[m];decide);refine pP ?_;refine C.fQ rfl ?_ (hf:=m);refine bL ?_;obtain⟨j,T,H,A⟩:=O m;have p:=J.r _<|dG T;obtain⟨q,d,K⟩:∃ a b,Y.rL[j]'T=(a,b):=⟨_,_,rfl⟩;rw[K]at p A;dsimp only at p A;rw[H,A];have aoC:d.length<2^20:=by rw[<- A,<- S];exact(u.J.aC _<|dG k).z
   refine bL ?_;refine C.qK rfl ?_ (s:=sl) (l:=d) (f:=dk);refine fB ?_;refine C.dZ rfl ?_ (s:=Y.sr) (l:=Y.rL) (f:=lK) (j:=j);refine C.du (v:=q.v) rfl ?_ (s:=Y.sr) (l:=Y.rL) (f:=lK) (j:=j) (hv:=by rw[K];rfl);refine C.qK rfl ?_ (s:=q) (l:=d) (f:=dk);refine C.ed rfl ?_ (hf:=by intro z;exact z rfl);refine fB ?_;refine C.cN (X:=Nat) (λx=>[(0,az b),(1,az c.G.b),(5,aF i),(7,sl.v),(8,aF j),(9,aF x)]) (λ_=>bK dk 1 21 sl d::eP b Y (dm c::bI I::F)) (λx=>x<=d.length) (λx=>d.length-x) 0 ⟨rfl,rfl,rfl,rfl,rfl,rfl,trivial⟩ (fp _) ?_;intro x e2 o zP;refine dY ?_;refine C.qK rfl ?_ (s:=sl) (l:=d) (f:=dk);refine C.cmp rfl (λL=>?_) λL=>?_
   .refine bL ?_;have M:x<d.length:=ai;refine C.dx (di 69 0 15) 15 [] 0 ?_;refine lH ?_;refine Dr.l (λr h=>C.dZ rfl h (s:=sl) (l:=d) (f:=dk) (j:=x)) ?_;refine Dr.l (v:=.int .i32<|d[x]'M) (λr h=>C.du rfl h (s:=sl) (l:=d) (f:=dk) (j:=x)) ?_;refine QE ?_;refine Dr.l (λr h=>C.dZ rfl h (s:=Y.sr) (l:=Y.rL) (f:=lK) (j:=j)) ?_;refine Dr.l (v:=q.v) (λr h=>C.du rfl h (s:=Y.sr) (l:=Y.rL) (f:=lK) (j:=j) (hv:=by rw[K];rfl)) ?_;refine lN ?_;refine Dr.l (λr h=>C.dZ rfl h (s:=q) (l:=d) (f:=dk) (j:=x)) ?_;refine Dr.l (v:=.int .i32<|d[x]'M) (λr h=>C.du rfl h (s:=q) (l:=d) (f:=dk) (j:=x)) ?_;refine Dr.p (λh=>C.ed rfl h (hf:=by intro z;exact z rfl)) ?_;refine Dr.chain rfl ?_;refine zv7 ?_;exact again zP (x+1) M ai
   .refine iE ?_;exact again D (i+1) y ai
  .refine iE ?_;refine C.cmp rfl (λt=>?_) λt=>?_
   .refine bL ?_;refine C.ed rfl ?_ (hf:=by have:=E t;omega);refine gV ?_;refine C.ed rfl ?_ (hf:=m);refine iE ?_;exact again D (i+1) y ai
   .refine pP ?_;refine C.ed rfl ?_ (hf:=m);refine iE ?_;exact again D (i+1) y ai
 .refine fB ?_;exact aG.fe W Z ⟨rfl,rfl,rfl⟩
variable{I:HL}{t:Nat}{c:CV}{w:WR}
theorem cU.uS(h:cU I t c w){q:Nat}(h1:q<c.ah.length)(b:q<w.sh.length):(c.ah[q]).s.log.map (·.abs.aZ)=(w.sh[q]).log/\(c.ah[q]).s.aE=(w.sh[q]).aE/\(w.sh[q]).log.length<=240/\0<=(w.sh[q]).aE/\(w.sh[q]).aE<=(w.sh[q]).log.length:=by obtain⟨a,z,_,_⟩:=h.at h1 b;refine⟨?_,a.aE,z.log,a.gl⟩;have:=a.log;simpa[dw.abs,Ap,Ao]using this
theorem cU.aj1(h:cU I t c w):∀ v∈c.ah,v.s.log.length<2^30:=λv b=>by
 obtain⟨q,a,rfl⟩:=nJ b;have d:q<w.sh.length:=by rw[<- h.len];exact a
 obtain⟨e,_,l,_⟩:=h.uS a d;have:=congrArg List.length e;rw[eM]at this;omega
theorem Cr{c:CV}{q t:Nat}{I:HL}{w:WR}(a:cU I t c w)(d:q<w.sh.length):bB prog bM 89 #[az c.G.b,aF q] σ [dm c,bI I]
  (λv σ' As=>σ'=σ/\∃ (sl:ay) (rs:List vR),v=.tuple #[sl.v,aF (w.sh[q]).aE]/\rs.map (·.toRecR)=(w.sh[q]).log/\As=[bK recC 6 167 sl rs,all<|rs.map uT,dm c,bI I]):=
 (Dh (k:=q) a.n.2 a.J a.aj1).post λv σ' As ⟨h1,sl,rs,aE,f,b,g⟩=>by
  have e:q<c.ah.length:=by rw[a.len];exact d
  rw[qE e]at b;obtain⟨e1,e2,_⟩:=a.uS e d;exact⟨h1,sl,rs,by rw[f,b.2,e2],by rw[b.1,e1],g⟩
theorem acH{Y:kW}{w:WR}(h:HT w Y.abs=true){s:ShR}(hs:s∈w.sh){r:RecR}(hr:r∈s.log)(b:r.kind=3):(r.yes=true->0<=Gg Y.ord r.tx)/\(r.yes=false->Gg Y.ord r.tx<0):=by
 unfold HT at h;rw[lz]at h;have:=h s hs;rw[lz]at this;have:=this r hr;have c:(r.kind != 3)=false:=by simp[b]
 rw[c,Bool.false_or]at this;have d:MZ Y.abs r.tx=Gg Y.ord r.tx:=rfl;rw[d]at this;exact⟨λa=>by rw[a,aJ rfl]at this;simpa using this,λa=>by rw[a,ax<|by decide]at this;simpa using this⟩
theorem Qb{c:CV}{Y:kW}{I:HL}{w:WR}(L:cU I t0 c w)(h1:HT w Y.abs=true)(hol:Y.ord.length<=60):
  bB prog bM 44 #[az b,az c.G.b,aF w.sh.length] σ (eP b Y [dm c,bI I]) (λv σ' As=>σ'=σ/\v=.bool true/\As=eP b Y [dm c,bI I]):=by
 refine bB.of ?_;intro Post os out kd F c' cs C aW ak;simp only[eP,fJ,ek];have Ib:=L.nn;refine mE ?_;refine At.aV aK 1 3 ?_;refine At.aV aK 1 3 ?_;refine C.cN (X:=Nat×(ay×List Int)×(ay×List Int)) (λx=>[(0,az b),(1,az c.G.b),(2,aF w.sh.length),(7,x.2.1.1.v),(8,x.2.2.1.v),(9,aF x.1)]) (λx=>bK aK 1 3 x.2.1.1 x.2.1.2::bK aK 1 3 x.2.2.1 x.2.2.2::eP b Y (dm c::bI I::F)) (λx=>x.1<=w.sh.length/\(x.2.1.2.length<=240*x.1/\x.2.2.2.length<=240*x.1)/\(∀ t∈x.2.1.2,0<=Gg Y.ord t)/\∀ t∈x.2.2.2,Gg Y.ord t<0) (λx=>w.sh.length-x.1) (0,(aV,[]),(aV,[])) ⟨rfl,rfl,rfl,rfl,rfl,rfl,trivial⟩ ⟨fp _,⟨by simp,by simp⟩,by simp,by simp⟩ ?_;rintro⟨i,⟨B,n⟩,⟨r,m⟩⟩ e ⟨hi,⟨D,E⟩,u,y⟩ ih;dsimp only at hi D E u y⊢;refine dY ?_;refine C.cmp rfl (λM=>?_) λM=>?_
 .refine bL ?_;have H:i<w.sh.length:=ai;refine dT ?_;refine aG.lj (Cr L H) ?_;rintro v σ' aT ⟨rfl,sl,rs,rfl,W,rfl⟩;refine cH ?_;have agq:rs.length<=240:=by have:=congrArg List.length W;rw[eM]at this;have h2:=(L.uS (by rw[L.len];exact H) H).2.2.1;omega
  refine pP ?_;refine C.cN (X:=Nat×(ay×List Int)×(ay×List Int)) (λx=>[(0,az b),(1,az c.G.b),(2,aF w.sh.length),(7,x.2.1.1.v),(8,x.2.2.1.v),(9,aF i),(10,sl.v),(12,aF x.1)]) (λx=>bK aK 1 3 x.2.1.1 x.2.1.2::bK aK 1 3 x.2.2.1 x.2.2.2::bK recC 6 167 sl rs::eP b Y (dm c::bI I::F)) (λx=>x.1<=rs.length/\(x.2.1.2.length<=240*i+x.1/\x.2.2.2.length<=240*i+x.1)/\(∀ t∈x.2.1.2,0<=Gg Y.ord t)/\∀ t∈x.2.2.2,Gg Y.ord t<0) (λx=>rs.length-x.1) (0,(B,n),(r,m)) ⟨rfl,rfl,rfl,rfl,rfl,rfl,rfl,rfl,trivial⟩ ⟨fp _,⟨D,E⟩,u,y⟩ ?_;rintro⟨j,⟨p,d⟩,⟨q,g⟩⟩ e1 ⟨hj,⟨N,O⟩,J,K⟩ P;dsimp only at hj N O J K⊢;refine dY ?_;refine C.qK rfl ?_ (s:=sl) (l:=rs) (f:=recC);refine C.cmp rfl (λQ=>?_) λQ=>?_
  .refine bL ?_;have a:j<rs.length:=ai;have cW:(rs[j]).toRecR∈(w.sh[i]).log:=by rw[<- W];exact cq.2 ⟨_,dG a,rfl⟩
   refine dT ?_;refine C.dZ rfl ?_ (s:=sl) (l:=rs) (f:=recC) (j:=j);refine ga ?_;refine C.yM (v:=aF (rs[j]'a).kind) rfl ?_ (s:=sl) (l:=rs) (f:=recC) (j:=j) (o:=0);refine C.cmp rfl (λZ=>?_) λZ=>?_
   .refine iE ?_;exact again P (j+1,(p,d),(q,g)) ⟨a,⟨dE,dE⟩,J,K⟩<|dE
   .refine bL ?_;have Ot:(rs[j]'a).kind=3:=sB.1 Z;have vp:=acH h1 (dG H) cW Ot;refine dT ?_;refine C.dZ rfl ?_ (s:=sl) (l:=rs) (f:=recC) (j:=j);refine ga ?_;refine C.yM (v:=.bool (rs[j]'a).yes) rfl ?_ (s:=sl) (l:=rs) (f:=recC) (j:=j) (o:=2);refine C.go ?_;refine C.zw (λz=>?_) λz=>?_
    .refine C.go ?_;refine dY ?_;refine C.dZ rfl ?_ (s:=sl) (l:=rs) (f:=recC) (j:=j);refine ga ?_;refine C.yM (v:=aF (rs[j]'a).tx) rfl ?_ (s:=sl) (l:=rs) (f:=recC) (j:=j) (o:=1);refine C.CZ rfl λb51=>?_;refine C.DR (f:=aK) (s:=p) (l:=d) (rs[j]'a).tx rfl (λR=>?_) (hsz:=by omega);refine iE ?_;refine again P (j+1,(R,d++[(rs[j]'a).tx]),(q,g)) ⟨a,⟨by dsimp only;rw[iV,iR];omega,dE⟩,λt k=>?_,K⟩<|dE;rcases bS.1 k with k|k
     .exact J t k
     .rw[dR.1 k];exact vp.1 z
    .refine C.go ?_;refine dY ?_;refine C.dZ rfl ?_ (s:=sl) (l:=rs) (f:=recC) (j:=j);refine ga ?_;refine C.yM (v:=aF (rs[j]'a).tx) rfl ?_ (s:=sl) (l:=rs) (f:=recC) (j:=j) (o:=1);refine C.CZ rfl λb59=>?_;refine C.DR (f:=aK) (s:=q) (l:=g) (rs[j]'a).tx rfl (λR=>?_) (hsz:=by omega);refine iE ?_;refine again P (j+1,(p,d),(R,g++[(rs[j]'a).tx])) ⟨a,⟨dE,by dsimp only;rw[iV,iR];omega⟩,J,λt k=>?_⟩<|dE;rcases bS.1 k with k|k
     .exact K t k
     .rw[dR.1 k];exact vp.2 z
  .refine iE ?_;exact again ih (i+1,(p,d),(q,g)) ⟨H,⟨dE,dE⟩,J,K⟩<|dE
 .refine C.go ?_;refine dY ?_;refine C.cN (X:=Nat) (λx=>[(0,az b),(1,az c.G.b),(2,aF w.sh.length),(7,B.v),(8,r.v),(13,aF x)]) (λx=>bK aK 1 3 B n::bK aK 1 3 r m::eP b Y (dm c::bI I::F)) (λx=>x<=n.length) (λx=>n.length-x) 0 ⟨rfl,rfl,rfl,rfl,rfl,rfl,trivial⟩ (fp _) ?_;intro x e2 hx zP;refine dY ?_;refine C.qK rfl ?_ (s:=B) (l:=n) (f:=aK);refine C.cmp rfl (λS=>?_) λS=>?_
  .refine bL ?_;have A:x<n.length:=ai;have T:=u _<|dG A;refine dY ?_;refine C.dZ rfl ?_ (s:=B) (l:=n) (f:=aK) (j:=x);refine C.du (v:=aF<|n[x]'A) rfl ?_ (s:=B) (l:=n) (f:=aK) (j:=x);refine C.cE (aI.less (dW _)<|xF (h:=Y) ai) ?_;simp only[eP,fJ,ek];refine dY ?_;refine C.ed rfl ?_;refine iE ?_;exact again zP (x+1) A ai
  .refine C.go ?_;refine dY ?_;refine C.cN (X:=Nat) (λx=>[(0,az b),(1,az c.G.b),(2,aF w.sh.length),(8,r.v),(15,aF x)]) (λx=>bK aK 1 3 r m::eP b Y (dm c::bI I::F)) (λx=>x<=m.length) (λx=>m.length-x) 0 ⟨rfl,rfl,rfl,rfl,rfl,trivial⟩ (fp _) ?_;intro x e3 hx ND;refine dY ?_;refine C.qK rfl ?_ (s:=r) (l:=m) (f:=aK);refine C.cmp rfl (λU=>?_) λU=>?_
   .refine bL ?_;have A:x<m.length:=ai;have T:=y _<|dG A;refine dY ?_;refine C.dZ rfl ?_ (s:=r) (l:=m) (f:=aK) (j:=x);refine C.du (v:=aF<|m[x]'A) rfl ?_ (s:=r) (l:=m) (f:=aK) (j:=x);refine C.cE (aI.less (dW _)<|xF (h:=Y) ai) ?_;simp only[eP,fJ,ek];refine dY ?_;refine C.ed rfl ?_;refine iE ?_;exact again ND (x+1) A ai
   .refine C.go ?_;refine dY ?_;exact aG.fe aW ak ⟨rfl,rfl,rfl⟩
theorem Cs{s:ShR}{r:List ShR}{k:Nat}(e:nL (s::r) k h=(h',true)):∃ h1,tD s k h=(h1,true)/\nL r (k+1) h1=(h',true):=by
 unfold nL at e;dsimp only at e;generalize tD s k h=x at e;obtain⟨h1,b⟩:=x;cases b with
 |true=>exact⟨h1,rfl,e⟩
 |false=>cases e
theorem Ct{s:ShR}{k:Nat}(e:tD s k h=(h1,true)):((h.looked[k]?.getD 0:Nat):Int)<=s.aE/\s.aE<=s.log.length/\∃ x,jY s.log s.aE.toNat (s.aE.toNat+1) h (h.looked[k]?.getD 0)=(x,true)/\h1={x with looked:=x.looked.set k s.aE.toNat}:=by
 unfold tD at e;dsimp only at e;split at e
 .cases e
 .rename_i c;refine⟨ai,ai,?_⟩;generalize jY s.log s.aE.toNat (s.aE.toNat+1) h (h.looked[k]?.getD 0)=x at e;obtain⟨a,b⟩:=x;cases b with
  |true=>injection e with e1 e2;exact⟨a,rfl,e1.symm⟩
  |false=>cases e
theorem zh{log:List RecR}{g:Nat}{x:cJ}(e:jY log g f h i=(x,true))(hf:g+1<=f+i):(g<=i/\x=h)\/
  (i<g/\∃ r f',log[i]? =some r/\0<=r.tx/\r.tx<h.ops.length/\g+1<=f'+(i+1)/\jY log g f' (if(r.kind==2&&r.yes)=true then{h with order:=h.order++[r.tx],reads:=h.reads++[r.reads]}else h) (i+1)=(x,true)):=by
 cases f with
 |zero=>unfold jY at e;injection e with e;exact .inl ⟨ai,e.symm⟩
 |succ f=>
  unfold jY at e;by_cases hi:g<=i
  .rw[aJ hi]at e;injection e with e;exact .inl ⟨hi,e.symm⟩
  .rw[ax hi]at e;refine .inr ⟨ai,?_⟩;cases a:log[i]? with
   |none=>rw[a]at e;cases e
   |some r=>
    rw[a]at e;dsimp only at e;split at e
    .cases e
    .rename_i b;exact⟨r,f,rfl,ai,by omega,ai,e⟩
variable{R:Nat->aO->Array Obj->Prop}{d:Nat}{As L:List HP}{g:aO}
theorem Cu{α:Type}{f:α->HP}{rs:List α}(k:Nat)(h:At R d (all ((rs.drop k).map f)::As) g):At R d (all (rs.map f)::As) g:=by
 have e:rs.map f=(rs.take k).map f++(rs.drop k).map f:=by rw[<- eW,wj]
 rw[e];refine At.flat ?_;rw[rT];exact At.mN (dg.rP _)<|At.je h
theorem vY{c:CV}{Y:kW}{I:HL}{w:WR}(W:cU I t0 c w)(J:Cq I Y)(oJ:l8 w Y.abs=(h',true))(m:Y.lk.length=w.sh.length)(ho:Y.ord.length<=60)(hr:Y.rL.length=Y.ord.length):
  bB prog bM 43 #[az b,az c.G.b,aF w.sh.length] σ (eP b Y [dm c,bI I]) (λv σ' As=>σ'=σ/\v=.bool true/\∃ H I',Sub I I'/\Cq I' H/\H.abs=h'/\H.lk.length=w.sh.length/\H.rL.length=H.ord.length/\As=eP b H [dm c,bI I']):=by
 refine bB.of ?_;intro Post os out kd F c' cs C aW ak;simp only[eP,fJ,ek];have Ib:=W.nn;refine iE ?_;refine C.cN (X:=Nat×kW×HL) (λx=>[(0,az b),(1,az c.G.b),(2,aF w.sh.length),(7,aF x.1)]) (λx=>eP b x.2.1<|dm c::bI x.2.2::F) (λx=>x.1<=w.sh.length/\nL (w.sh.drop x.1) x.1 x.2.1.abs=(h',true)/\Sub I x.2.2/\Cq x.2.2 x.2.1/\x.2.1.lk.length=w.sh.length/\x.2.1.ord.length<=60+240*x.1/\x.2.1.rL.length=x.2.1.ord.length) (λx=>w.sh.length-x.1) (0,Y,I) ⟨rfl,rfl,rfl,rfl,trivial⟩ ⟨fp _,oJ,Sub.refl _,J,m,dE,hr⟩ ?_;rintro⟨i,k,I1⟩ e ⟨hi,K,Z,J1,yH,M4,L⟩ ih;dsimp only at hi K Z J1 yH M4 L⊢;refine dY ?_;refine C.cmp rfl (λvV=>?_) λvV=>?_
 .refine bL ?_;have N:i<w.sh.length:=ai;rw[sA N]at K;obtain⟨h1,hls,O⟩:=Cs K;obtain⟨Gw,Yn,x1,t,y⟩:=Ct hls;have n:i<k.lk.length:=ai;have uL:k.abs.looked[i]?.getD 0=k.lk[i]:=by show k.lk[i]?.getD 0=_;rw[cQ n];rfl
  rw[uL]at Gw t;have hP1:=W.mono Z;refine dT ?_;refine aG.lj (Cr hP1 N) ?_;rintro v σ' aT ⟨rfl,sl,rs,rfl,xI,rfl⟩;refine cH ?_;have QO:=congrArg List.length xI;rw[eM]at QO;have agq:=(W.uS (by rw[W.len];exact N) N).2.2.1;obtain⟨g,hg⟩:=mJ (show(0:Int)<=(w.sh[i]).aE by omega);rw[hg]at Gw Yn t y⊢;rw[gN]at t y;refine lu ?_;refine C.dZ rfl ?_ (s:=k.sk) (l:=k.lk) (f:=xE) (j:=i);refine C.du (v:=aF (k.lk[i]'n:Nat)) rfl ?_ (s:=k.sk) (l:=k.lk) (f:=xE) (j:=i);refine C.ed rfl ?_;refine dT ?_;refine C.qK rfl ?_ (s:=sl) (l:=rs) (f:=recC);refine C.ed rfl ?_;refine pP ?_;refine C.dZ rfl ?_ (s:=k.sk) (l:=k.lk) (f:=xE) (j:=i);refine C.du (v:=aF (k.lk[i]'n:Nat)) rfl ?_ (s:=k.sk) (l:=k.lk) (f:=xE) (j:=i);refine bL ?_;refine At.fo (A:=all<|rs.map uT) Fo.au ?_;refine Cu (k.lk[i]'n) ?_;refine C.cN (X:=Nat×kW×HL) (λx=>[(0,az b),(1,az c.G.b),(2,aF w.sh.length),(7,aF i),(8,sl.v),(9,aF g),(10,aF x.1)]) (λx=>eP b x.2.1<|bK recC 6 167 sl rs::all ((rs.drop x.1).map uT)::dm c::bI x.2.2::F) (λx=>x.1<=g/\(∃ f,g+1<=f+x.1/\jY (w.sh[i]).log g f x.2.1.abs x.1=(x1,true))/\Sub I x.2.2/\Cq x.2.2 x.2.1/\x.2.1.lk.length=w.sh.length/\x.2.1.ord.length<=60+240*i+x.1/\x.2.1.rL.length=x.2.1.ord.length) (λx=>g-x.1) (k.lk[i]'n,k,I1) ⟨rfl,rfl,rfl,rfl,rfl,rfl,rfl,trivial⟩ ⟨dE,⟨g+1,dE,t⟩,Z,J1,yH,dE,L⟩ ?_;rintro⟨x,d,I2⟩ e2 ⟨hx,⟨f,hf,Mo⟩,P,B,Q,YO,R⟩ zP;dsimp only at hx hf Mo P B Q YO R⊢;refine dY ?_;refine C.cmp rfl (λh46=>?_) λh46=>?_
  .refine bL ?_;have a:x<rs.length:=ai;obtain⟨_,r,f',L,S,T,hf',M⟩:=(zh Mo hf).resolve_left (λz=>by omega);have hrx:(rs[x]'a).toRecR=r:=by rw[<- xI,jJ,cQ a]at L;exact cA L
   subst hrx;have T:(rs[x]'a).tx<d.oL.length:=by have:(rs[x]'a).tx<((d.oL.map (·.2)).length:Nat):=T;rw[eM]at this;exact this
   have S:0<=(rs[x]'a).tx:=S;refine C.dx (di 49 0 19) 19 [] 0 ?_;refine lH ?_;refine Dr.l (λu h=>C.dZ rfl h (s:=sl) (l:=rs) (f:=recC) (j:=x)) ?_;refine lN ?_;refine Dr.l (v:=aF (rs[x]'a).tx) (λu h=>C.yM rfl h (s:=sl) (l:=rs) (f:=recC) (j:=x) (o:=1)) ?_;refine Dr.p (λh=>C.ed rfl h) ?_;refine uQ ?_;refine Dr.l (λu h=>C.dZ rfl h (s:=sl) (l:=rs) (f:=recC) (j:=x)) ?_;refine lN ?_;refine Dr.l (v:=aF (rs[x]'a).tx) (λu h=>C.yM rfl h (s:=sl) (l:=rs) (f:=recC) (j:=x) (o:=1)) ?_;refine Kv ?_;refine Dr.l (λu h=>C.qK rfl h (s:=d.so) (l:=d.oL) (f:=lK)) ?_;refine Dr.p (λh=>C.ed rfl h) ?_;refine zy ?_;refine Bw ?_;refine C.dZ rfl ?_ (s:=sl) (l:=rs) (f:=recC) (j:=x);refine ga ?_;refine C.yM (v:=aF (rs[x]'a).kind) rfl ?_ (s:=sl) (l:=rs) (f:=recC) (j:=x) (o:=0);refine C.cmp rfl (λD=>?_) λD=>?_
   .refine dT ?_;refine C.dZ rfl ?_ (s:=sl) (l:=rs) (f:=recC) (j:=x);refine ga ?_;refine C.yM (v:=.bool (rs[x]'a).yes) rfl ?_ (s:=sl) (l:=rs) (f:=recC) (j:=x) (o:=2);refine bL ?_;refine C.zw (λE=>?_) λE=>?_
    .refine C.go ?_;refine XE (q:=0) (rs:=rs.drop x) (by rw[E6];omega) Fo.au ?_;rw[show(rs.drop x)[0]'(by rw[E6];omega)=rs[x]'a by simp,show(rs.drop x).eraseIdx 0=rs.drop (x+1) by rw[sA a];rfl];refine At.Si (s:=(rs[x]'a).sr) (l:=(rs[x]'a).reads) (f:=dk) (el:=21) Fo.au Fo.au λI3 NF him=>?_;refine C.dx (di 81 0 14) 15 [10,11,14] 1 ?_;refine oB ?_;refine Dr.l (λu h=>C.dZ rfl h (s:=sl) (l:=rs) (f:=recC) (j:=x)) ?_;refine lN ?_;refine Dr.l (v:=aF (rs[x]'a).tx) (λu h=>C.yM rfl h (s:=sl) (l:=rs) (f:=recC) (j:=x) (o:=1)) ?_;refine Da ?_;refine Ch.m 10 (bj λe aa m=>?_);refine C.CZ rfl λb91=>m _ _ .cons ?_;refine Ch.m 11 (bj λe aa m=>?_);refine C.DR (f:=aK) (s:=d.sd) (l:=d.ord) (rs[x]'a).tx rfl λs92=>?_;refine m _ _ ?_;refine Ch.m 14 (bj λe aa m=>?_);refine C.st rfl<|m _ undef ?_;refine gy ?_;refine C.dx (di 95 0 14) 15 [10,11,14] 1 ?_;refine oB ?_;refine Dr.l (λu h=>C.dZ rfl h (s:=sl) (l:=rs) (f:=recC) (j:=x)) ?_;refine lN ?_;refine Dr.l (v:=(rs[x]'a).sr.v) (λu h=>C.yM rfl h (s:=sl) (l:=rs) (f:=recC) (j:=x) (o:=5)) ?_;refine Da ?_;refine Ch.m 10 (bj λe aa m=>?_);refine C.CZ rfl λaoI=>m _ _ .cons ?_;refine Ch.m 11 (bj λe aa m=>?_);refine C.DR (f:=lK) (s:=d.sr) (l:=d.rL) ((rs[x]'a).sr,(rs[x]'a).reads) rfl λaj8=>?_;refine m _ _ ?_;refine Ch.m 14 (bj λe aa m=>?_);refine C.st rfl<|m _ undef ?_;refine S4 ?_;have U:((rs[x]'a).toRecR.kind==2&&(rs[x]'a).toRecR.yes)=true:=by have e1:(rs[x]'a).toRecR.kind=2:=D;have e2:(rs[x]'a).toRecR.yes=true:=E;rw[e1,e2];rfl
     rw[aJ U]at M;refine again zP (x+1,{d with sd:=s92,ord:=d.ord++[(rs[x]'a).tx],sr:=aj8,rL:=d.rL++[((rs[x]'a).sr,(rs[x]'a).reads)]},I3) ⟨dE,⟨f',dE,?_⟩,P.trans NF,⟨λp hp=>(B.o p hp).mono NF,λp hp=>?_⟩,Q,by dsimp only;rw[iV,iR];omega,by dsimp only;rw[iV,iV,R];rfl⟩<|dE
     .rw[<- M];unfold kW.abs;simp only[eW,jq,ny]
     .rcases bS.1 hp with hp|hp
      .exact(B.r p hp).mono NF
      .rw[dR.1 hp];exact him
    .refine gV ?_;have U:((rs[x]'a).toRecR.kind==2&&(rs[x]'a).toRecR.yes)=false:=by have e2:(rs[x]'a).toRecR.yes=false:=E;rw[e2,LS]
     rw[ax (by rw[U];decide)]at M;refine At.fo (A:=all<|(rs.drop x).map uT) Fo.au ?_;refine Cu 1 ?_;rw[LQ];exact again zP (x+1,d,I2) ⟨dE,⟨f',dE,M⟩,P,B,Q,dE,R⟩<|dE
   .refine lu ?_;refine ga ?_;have U:((rs[x]'a).toRecR.kind==2&&(rs[x]'a).toRecR.yes)=false:=by
     have e2:((rs[x]'a).toRecR.kind==2)=false:=by have:¬ (rs[x]'a).toRecR.kind=2:=D;simpa using this
     rw[e2,yA]
    rw[ax (by rw[U];decide)]at M;refine At.fo (A:=all<|(rs.drop x).map uT) Fo.au ?_;refine Cu 1 ?_;rw[LQ];exact again zP (x+1,d,I2) ⟨dE,⟨f',dE,M⟩,P,B,Q,dE,R⟩<|dE
  .refine bL ?_;have hxe:x1=d.abs:=by
    rcases zh Mo hf with z|z
    .exact z.2
    .exact absurd z.1 ai
   have aoJ:i<d.lk.length:=ai;refine iE ?_;refine C.dZ rfl ?_ (s:=d.sk) (l:=d.lk) (f:=xE) (j:=i);refine C.j5 (s:=d.sk) (l:=d.lk) (j:=i) g rfl ?_;refine gV ?_;refine again ih (i+1,{d with lk:=d.lk.set i g},I2) ⟨N,?_,P,⟨B.o,B.r⟩,by dsimp only;rw[eF];exact Q,dE,R⟩<|dE;dsimp only;rw[y,hxe]at O;exact O
 .refine fB ?_;have TZ:i=w.sh.length:=ai;rw[pX (Ma TZ.symm)]at K;have:k.abs=h':=by unfold nL at K;injection K
  exact aG.fe aW ak ⟨rfl,rfl,k,I1,Z,J1,this,yH,L,rfl⟩
theorem mK.X3{c:CV}(h:mK c c')(r:nX σ c):nX σ c':=r.same h.g h.h
theorem Qc{c:CV}{q t:Nat}{I:HL}{w:WR}(a:cU I t c w)(b:q<w.sh.length):bB prog bM 78 #[az c.G.b,aF q] σ [dm c]
  (λv σ' As=>σ'=σ/\∃ (u:Value) (A:HP),v=.tuple #[u,aF (w.sh[q]).aQ.length]/\As=[A,dm c]):=
 (PL (k:=q) a.n.2).post λv σ' As ⟨h1,sl,f,g,h,d,i⟩=>by
  have e:q<c.ah.length:=by rw[a.len];exact b
  rw[qE e]at d;have:=((a.at e b).1.ab6 a.rel.tok).eq f h d;exact⟨h1,sl.v,_,by rw[g,this.1],i⟩
theorem LF{c:CV}{q t:Nat}{I:HL}{w:WR}(a:cU I t c w)(b:q<w.sh.length):bB prog bM 40 #[az c.G.b,aF q] σ [dm c]
  (λv σ' As=>σ'=σ/\∃ (sl:ay) (m:Nat),v=.tuple #[sl.v,aF m]/\m=Un (w.sh[q]).bX/\As=[bK dk 1 21 sl (w.sh[q]).bX,dm c]):=
 (Lh (k:=q) a.n.2).post λv σ' As ⟨h1,sl,d,g,h,e,i⟩=>by
  have f:q<c.ah.length:=by rw[a.len];exact b
  rw[qE f]at e;have:=((a.at f b).1.ab5 (a.rng.sh _<|dG b).bX).eq d h e;exact⟨h1,sl,d.length,g,this.2,by rw[i,this.1]⟩
theorem Qd{c:CV}{q t:Nat}{I:HL}{w:WR}(a:cU I t c w)(b:q<w.sh.length):bB prog bM 76 #[az c.G.b,aF q] σ [dm c]
  (λv σ' As=>σ'=σ/\v=.bool (w.sh[q]).up/\As=[dm c]):=
 (Ua (k:=q) a.n.2).post λv σ' As ⟨h1,d,f⟩=>by
  have e:q<c.ah.length:=by rw[a.len];exact b
  rw[qE e]at d;exact⟨h1,by rw[d];exact congrArg Value.bool (a.at e b).1.up,f⟩
theorem LG{c:CV}{q t:Nat}{I:HL}{w:WR}(a:cU I t c w)(d:q<w.aC.length):bB prog bM 39 #[az c.G.b,aF q] σ [dm c,bI I]
  (λv σ' As=>σ'=σ/\∃ sl:ay,v=.tuple #[aF (w.aC[q]).state,sl.v]/\As=[bK dk 1 21 sl (w.aC[q]).reads,dm c,bI I]):=
 (xA (k:=q) a.J a.ntx.2).post λv σ' As ⟨h1,sl,n,rd,b,e,h⟩=>by
  have f:q<c.aC.length:=by rw[a.ntx.1];exact d
  have i:IP c.aC (q:Int)=some c.aC[q]:=by unfold IP;rw[ax ai,gN,cQ f]
  rw[i]at e;have g:(c.aC[q]).toTxR=w.aC[q]:=by
   have b:(c.aC.map (·.toTxR))[q]? =some (w.aC[q]):=by rw[a.aC];exact cQ d
   rw[jJ,cQ f]at b;exact cA b
  obtain⟨rfl,rfl⟩:=e;exact⟨h1,sl,by rw[b,<- g],by rw[h,<- g]⟩
theorem LH{c:CV}{t:Nat}{I:HL}{w:WR}(a:cU I t c w):bB prog bM 77 #[az c.G.b] σ [dm c,bI I]
  (λv σ' As=>σ'=σ/\∃ (sl:ay) (ms:List dV),v=sl.v/\ms.length=w.aH.length/\As=[bK dF 7 190 sl ms,all<|ms.map IT,dm c,bI I]):=
 (PD a.J (λm d=>by have:=(a.rel.ae3<|a.msg d).2;have b:m.ops.length<=6:=this;omega) (by have:=a.acB;omega)).post λv σ' As ⟨h1,sl,ms,b,e,f⟩=>by refine⟨h1,sl,ms,b,?_,f⟩;have e1:=congrArg List.length e;have e2:=congrArg List.length a.aH;simp only[eM]at e1 e2;omega
end
section
open Go.Proofs Go.Conc
theorem rq{n s:Nat}(h:s<n):(List.range n).drop s=s::(List.range n).drop (s+1):=by rw[sA (by simpa using h),List.getElem_range]
theorem U7{s:Nat}{b:WR}(h:JI (s::r) w=(b,true))(hs:s<w.sh.length):((w.sh[s]).up=true/\JI r w=(b,true))\/((w.sh[s]).up=false/\(eV w 8 s 0).2=0/\JI r (eV w 8 s 0).1=(b,true)):=by
 unfold JI at h;rw[cQ hs,lQ,iG]at h;by_cases a:(w.sh[s]).up=true
 .rw[aJ a]at h;exact .inl ⟨a,h⟩
 .rw[ax a]at h;dsimp only at h;split at h
  .cases h
  .rename_i c;exact .inr ⟨by simpa using a,sB.1 c,h⟩
theorem LI{s:Nat}{c:WR}{d:cJ}(e:tF (s::r) w h=(c,d,true)):(eV w 5 s 0).2=0/\∃ h1,l8 (eV w 5 s 0).1 h=(h1,true)/\tF r (eV w 5 s 0).1 h1=(c,d,true):=by
 unfold tF at e;dsimp only at e;split at e
 .cases e
 .rename_i a;rw[not_or]at a;have f:(l8 (eV w 5 s 0).1 h).2=true:=by simpa using a.2
  generalize hl:l8 (eV w 5 s 0).1 h=x at*;obtain⟨h1,b⟩:=x;dsimp only at f e;subst f;exact⟨sB.1 a.1,h1,rfl,e⟩
theorem LJ{n:Nat}{d:WR}{g:cJ}(e:turns n (f+1) w h=(d,g,true)):∃ a c,tF (List.range n) (dC 3000 w) h=(a,c,true)/\turns n f a c=(d,g,true):=by
 unfold turns at e;dsimp only at e;generalize tF (List.range n) (dC 3000 w) h=x at*;obtain⟨a,c,b⟩:=x;cases b with
 |true=>exact⟨a,c,rfl,e⟩
 |false=>cases e
theorem rR(f:Nat)(w:WR):((eV w 2 0 0).2≠0/\dC (f+1) w=(eV w 2 0 0).1)\/((eV w 2 0 0).2=0/\dC (f+1) w=dC f (eV w 2 0 0).1):=by
 by_cases h:(eV w 2 0 0).2≠0
 .exact .inl ⟨h,by rw[dC,aJ h]⟩
 .exact .inr ⟨sB.1 h,by rw[dC,ax h]⟩
theorem EY{left b:Nat}{c:WR}(h:asks (t::r) w left=(c,b,true))(ht:t<w.aC.length):((w.aC[t]).state=1/\(eV w 1 t 0).2=0/\asks r (eV w 1 t 0).1 (left+1)=(c,b,true))\/((w.aC[t]).state≠1/\asks r w left=(c,b,true)):=by
 unfold asks at h;rw[cQ ht,lQ,iG]at h;by_cases a:(w.aC[t]).state=1
 .rw[aJ a]at h;dsimp only at h;split at h
  .cases h
  .rename_i d;exact .inl ⟨a,sB.1 d,h⟩
 .rw[ax a]at h;exact .inr ⟨a,h⟩
theorem Cv{s left a:Nat}{b:WR}(h:gz (s::r) w left=(b,a,true))(hs:s<w.sh.length):(0<left+(w.sh[s]).aQ.length/\((eV w 6 s 0).2=0\/(eV w 6 s 0).2=3)/\gz r (eV w 6 s 0).1 (left+(w.sh[s]).aQ.length)=(b,a,true))\/(left+(w.sh[s]).aQ.length=0/\gz r w (left+(w.sh[s]).aQ.length)=(b,a,true)):=by
 unfold gz at h;rw[cQ hs,lQ,iG]at h;dsimp only at h;by_cases c:0<left+(w.sh[s]).aQ.length
 .rw[aJ c]at h;split at h
  .cases h
  .rename_i e;refine .inl ⟨c,?_,h⟩;by_cases d:(eV w 6 s 0).2=0
   .exact .inl d
   .exact .inr (sB.1 λf=>e ⟨d,f⟩)
 .rw[ax c]at h;exact .inr ⟨ai,h⟩
theorem Jm{n aC:Nat}{w':WR}(e:im n aC (f+1) w h=(w',h',true)):∃ j g k l m o i,JI (List.range n) w=(j,true)/\turns n 10 j h=(g,k,true)/\asks (List.range aC) g g.aH.length=(l,m,true)/\gz (List.range n) l m=(o,i,true)/\((i=0/\o=w'/\k=h')\/(i≠0/\im n aC f o k=(w',h',true))):=by
 unfold im at e;dsimp only at e;generalize v:JI (List.range n) w=a at e;obtain⟨j,p⟩:=a;cases p with
 |false=>cases e
 |true=>
  simp only[uX,fW,eQ]at e;generalize q:turns n 10 j h=b at e;obtain⟨g,k,r⟩:=b;cases r with
  |false=>cases e
  |true=>
   simp only[uX,fW,eQ]at e;generalize s:asks (List.range aC) g g.aH.length=c at e;obtain⟨l,m,bc⟩:=c;cases bc with
   |false=>cases e
   |true=>
    simp only[uX,fW,eQ]at e;generalize t:gz (List.range n) l m=d at e;obtain⟨o,i,u⟩:=d;cases u with
    |false=>cases e
    |true=>
     simp only[uX,fW,eQ]at e;refine⟨j,g,k,l,m,o,i,rfl,q,s,t,?_⟩;by_cases hl:i=0
     .rw[aJ hl]at e;injection e with e1 e2;injection e2 with e2
      exact .inl ⟨hl,e1,e2⟩
     .rw[ax hl]at e;exact .inr ⟨hl,e⟩
theorem U8{a b:Int}(f:k≠5/\k≠7):(eV w k a b).1.sh.map (·.aE)=w.sh.map (·.aE):=by
 have d:∀ (i:Nat) (s x:ShR),w.sh[i]? =some s->x.aE=s.aE->(w.sh.set i x).map (·.aE)=w.sh.map (·.aE):=λi s x hs c=>by
  rw[Aq,c];obtain⟨hi,rfl⟩:=dd.1 hs;apply Du;intro j;rw[wi];by_cases e:i=j
  .subst e;rw[aJ rfl,aJ (by simpa using hi),jJ,cQ hi];rfl
  .rw[ax e]
 generalize c:eV w k a b=x;unfold eV at c;split at c
 .subst c;rfl
 split at c
 .subst c;rfl
 split at c
 .split at c
  .subst c;rfl
  split at c
  .subst c;rfl
  .subst c;rw[show(ic w a.toNat,(0:Int)).1.sh=w.sh from(qw w _).1]
 split at c
 .unfold fE at c;split at c
  .subst c;rfl
  .split at c
   .subst c;rfl
   .rename_i m h;split at c
    .split at c<;>(subst c;rfl)
    .dsimp only at c;split at c
     .subst c;rfl
     .split at c
      .subst c;rw[show(jV {w with aH:=w.aH.eraseIdx a.toNat} m,(0:Int)).1.sh=w.sh from fS _ _]
      .split at c
       .subst c;rfl
       .rename_i s hs;split at c
        .subst c;exact d _ s _ hs (yd s m).1
        .subst c;rfl
 split at c
 .subst c;rfl
 split at c
 .subst c;rfl
 .rename_i s hs;split at c
  .split at c
   .subst c;rfl
   .subst c;exact d _ s _ hs (q5 s).2
  split at c
  .subst c;rfl
  split at c
  .rename_i g;exact absurd g f.1
  split at c
  .split at c
   .subst c;rfl
   .subst c;exact d _ s _ hs (ye s).2
  .omega
theorem nH.still{n:Nat}(S:nH n w h){a b:Int}(f:k≠5/\k≠7):nH n (Go.Sl.eV w k a b).1 h:=by
 obtain⟨h',e,_,d⟩:=S.eV k a b;have hl:h.looked=w.sh.map λs=>s.aE.toNat:=by obtain⟨_,W,G,t,F,I,V⟩:=S;exact I.looked
 have g:∀ s∈(Go.Sl.eV w k a b).1.sh,0<=s.aE/\s.aE<=s.log.length:=λs hs=>by obtain⟨_,W,G,t,F,I,V⟩:=d;obtain⟨i,hi⟩:=eX.1 hs;exact F.aE hi
 have:l8 (Go.Sl.eV w k a b).1 h=(h,true):=by
  unfold l8;refine pa _ 0 h g λj s hs=>?_;rw[lR,hl];have h1:((Go.Sl.eV w k a b).1.sh.map (·.aE))[j]? =some s.aE:=by rw[jJ,hs];rfl
  rw[U8 f,jJ]at h1;obtain⟨z,l,c⟩:=LO.1 h1;rw[jJ,l,lQ,c]
 rw[this]at e;injection e with e
 rw[e];exact d
theorem vZ{log:List RecR}{g:Nat}{o:List (List bO)}:∀ (f i:Nat) {h x:cJ},jY log g f h i=(x,true)->h.ops.length<=o.length->jY log g f {h with ops:=o} i=({x with ops:=o},true)/\x.ops=h.ops
 |0,i,h,x,e,hl=>by unfold jY at e⊢;injection e with e;subst e;exact⟨rfl,rfl⟩
 |f+1,i,h,x,e,hl=>by
  unfold jY at e⊢;by_cases hi:g<=i
  .rw[aJ hi]at e⊢;injection e with e;subst e;exact⟨rfl,rfl⟩
  .rw[ax hi]at e⊢;cases a:log[i]? with
   |none=>rw[a]at e;cases e
   |some r=>
    rw[a]at e;dsimp only at e⊢;split at e
    .cases e
    .rename_i c;rw[ax ai];by_cases b:(r.kind==2&&r.yes)=true
     .rw[aJ b]at e⊢;exact vZ f (i+1) (h:={h with order:=h.order++[r.tx],reads:=h.reads++[r.reads]}) e hl
     .rw[ax b]at e⊢;exact vZ f (i+1) e hl
theorem EZ{o:List (List bO)}:∀ (l:List ShR) (k:Nat) {h x:cJ},nL l k h=(x,true)->h.ops.length<=o.length->nL l k {h with ops:=o}=({x with ops:=o},true)/\x.ops=h.ops
 |[],k,h,x,e,hl=>by unfold nL at e⊢;injection e with e;subst e;exact⟨rfl,rfl⟩
 |s::l,k,h,x,e,hl=>by
  obtain⟨h1,e1,e2⟩:=Cs e;obtain⟨b1,b2,y,b,a⟩:=Ct e1;obtain⟨z1,z2⟩:=vZ (o:=o) _ _ b hl;have hs:tD s k {h with ops:=o}=({h1 with ops:=o},true):=by unfold tD;dsimp only;rw[ax ai,z1];simp only[fq];rw[a]
  obtain⟨c,d⟩:=EZ l (k+1) e2 (by rw[a];show y.ops.length<=_;rw[z2];exact hl);refine⟨?_,by rw[d,a];exact z2⟩;unfold nL;rw[hs];simp only[fq];exact c
def v5(n:Nat)(w:WR)(h:cJ):Prop:=∃ o,o.length<=h.ops.length/\nH n w {h with ops:=o}
theorem nH.q{n:Nat}(S:nH n w h):v5 n w h:=⟨h.ops,fC _,S⟩
theorem v5.still{n:Nat}{w:WR}{h:cJ}(S:v5 n w h){k a b:Int}(c:k≠5/\k≠7):v5 n (Go.Sl.eV w k a b).1 h:=by obtain⟨o,h1,d⟩:=S;exact⟨o,h1,d.still c⟩
theorem v5.look{n:Nat}(S:v5 n w h){a b:Int}(hl:l8 (Go.Sl.eV w k a b).1 h=(h1,true)):v5 n (Go.Sl.eV w k a b).1 h1:=by
 obtain⟨o,d,S⟩:=S;obtain⟨c,e,_,f⟩:=S.eV k a b;obtain⟨z1,z2⟩:=EZ (o:=h.ops) _ _ e d;have z1:l8 (Go.Sl.eV w k a b).1 h=({c with ops:=h.ops},true):=z1;rw[hl]at z1;injection z1 with z1
 refine⟨o,by rw[z1];exact d,?_⟩;have:({h1 with ops:=o}:cJ)=c:=by rw[z1];have z2:c.ops=o:=z2;rw[<- z2]
 rw[this];exact f
theorem v5.facts{n:Nat}{Y:kW}(S:v5 n w Y.abs):w.sh.length=n/\Y.lk.length=n/\Y.rL.length=Y.ord.length/\Y.ord.length<=60:=by
 obtain⟨o,_,h1,W,G,t,F,I,V⟩:=S;have a:=congrArg List.length I.looked;rw[eM]at a;have a:Y.lk.length=w.sh.length:=a;have b:Y.rL.length=Y.ord.length:=by have:=I.p.len;simpa[kW.abs]using this
 have d:Y.ord.length<=60:=iO (c:=60) I.p.nd λt e=>by obtain⟨o,f⟩:=oM.1<|I.FM F t e;have h1:=ie f;have a:=F.rel.tok.2;omega
 exact⟨h1,a.trans h1,b,d⟩
structure E0 where
 c:CV
 w:WR
 Y:kW
 I:HL
 t:Nat
structure mW(c0:CV)(I0:HL)(n aC:Nat)(x:E0):Prop where
 p:cU x.I x.t x.c x.w
 j:Cq x.I x.Y
 s:v5 n x.w x.Y.abs
 c:mK c0 x.c
 i:Sub I0 x.I
 tx:x.w.aC.length=aC
variable{σ:Gh}{c0:CV}{I0:HL}{n aC:Nat}{x:E0}{eb:Nat->Nat×Nat}
theorem NK(w:WR)(k a b:Int):(eV w k a b).1.aC.length=w.aC.length:=by have:=congrArg List.length<|xc w k a b;simpa[cy]using this
theorem NL{i b:Int}(c:iX I0 eb)(ok:mW c0 I0 n aC x)(m:c0.aj=false)(hr:nX σ c0)(d:x.t+1<=2^42)(e:k≠5/\k≠7):
  bB prog bM 42 #[az c0.G.b,aF k,aF i,aF b] σ [dm x.c,bI x.I] (λv σ' As=>σ'=σ/\v=aF (eV x.w k i b).2/\∃ c' I',mW c0 I0 n aC ⟨c',(eV x.w k i b).1,x.Y,I',x.t+1⟩/\As=[dm c',bI I']):=by
 have f:az c0.G.b=az x.c.G.b:=by rw[ok.c.g]
 rw[f];refine(EX (c.mono ok.i) ok.p (λ_=>ok.c.X3 hr) d).post ?_;rintro v σ' As ⟨c',I',h1,g,a,h,j,l⟩;exact⟨h1,g,c',I',⟨j,ok.j.mono a,ok.s.still e,ok.c.trans h,ok.i.trans a,by show(eV x.w k i b).1.aC.length=aC;rw[NK];exact ok.tx⟩,l⟩
theorem U9{i b:Int}(a:iX I0 eb)(ok:mW c0 I0 n aC x)(l:c0.aj=false)(hr:nX σ c0)(c:x.t+1<=2^42):
  bB prog bM 42 #[az c0.G.b,aF k,aF i,aF b] σ [dm x.c,bI x.I] (λv σ' As=>σ'=σ/\v=aF (eV x.w k i b).2/\∃ c' I',(cU I' (x.t+1) c' (eV x.w k i b).1/\mK c0 c'/\Sub x.I I')/\As=[dm c',bI I']):=by
 have d:az c0.G.b=az x.c.G.b:=by rw[ok.c.g]
 rw[d];refine(EX (a.mono ok.i) ok.p (λ_=>ok.c.X3 hr) c).post ?_;rintro v σ' As ⟨c',I',h1,e,f,g,h,j⟩;exact⟨h1,e,c',I',⟨h,ok.c.trans g,f⟩,j⟩
theorem X4{i b:Int}{I':HL}(ok:mW c0 I0 n aC x)(d:cU I' (x.t+1) c' (eV x.w k i b).1)(hc:mK c0 c')(hs:Sub x.I I')(hl:l8 (eV x.w k i b).1 x.Y.abs=(h1,true)):
  bB prog bM 43 #[az bh,az c0.G.b,aF n] σ (eP bh x.Y [dm c',bI I']) (λv σ' As=>σ'=σ/\v=.bool true/\∃ c a,c.abs=h1/\mW c0 I0 n aC ⟨c',(eV x.w k i b).1,c,a,x.t+1⟩/\As=eP bh c [dm c',bI a]):=by
 obtain⟨f1,f2,f3,f4⟩:=ok.s.facts;have h:=ok.s.look hl;have j:(n:Int)=(eV x.w k i b).1.sh.length:=by rw[o8,f1]
 have l:az c0.G.b=az c'.G.b:=by rw[hc.g]
 rw[j,l];refine(vY d (ok.j.mono hs) hl (by rw[o8,f2,f1]) f4 f3).post ?_;rintro v σ' As ⟨a1,m,e,a,f,o,g,q,r,p⟩;refine⟨a1,m,e,a,g,⟨d.mono f,o,by show v5 n _ e.abs;rw[g];exact h,hc,(ok.i.trans hs).trans f,by show(eV x.w k i b).1.aC.length=aC;rw[NK];exact ok.tx⟩,p⟩
theorem agu{s:Nat}(ok:mW c0 I0 n aC x)(hs:s<x.w.sh.length):bB prog bM 76 #[az c0.G.b,aF s] σ [dm x.c] (λv σ' As=>σ'=σ/\v=.bool (x.w.sh[s]).up/\As=[dm x.c]):=by
 have a:az c0.G.b=az x.c.G.b:=by rw[ok.c.g]
 rw[a];exact Qd ok.p hs
theorem acK(ok:mW c0 I0 n aC x):bB prog bM 77 #[az c0.G.b] σ [dm x.c,bI x.I] (λv σ' As=>σ'=σ/\∃ (sl:ay) (ms:List dV),v=sl.v/\ms.length=x.w.aH.length/\As=[bK dF 7 190 sl ms,all<|ms.map IT,dm x.c,bI x.I]):=by
 have a:az c0.G.b=az x.c.G.b:=by rw[ok.c.g]
 rw[a];exact LH ok.p
theorem LK{q:Nat}(ok:mW c0 I0 n aC x)(a:q<x.w.aC.length):bB prog bM 39 #[az c0.G.b,aF q] σ [dm x.c,bI x.I] (λv σ' As=>σ'=σ/\∃ sl:ay,v=.tuple #[aF (x.w.aC[q]).state,sl.v]/\As=[bK dk 1 21 sl (x.w.aC[q]).reads,dm x.c,bI x.I]):=by
 have b:az c0.G.b=az x.c.G.b:=by rw[ok.c.g]
 rw[b];exact LG ok.p a
theorem acL{q:Nat}(ok:mW c0 I0 n aC x)(a:q<x.w.sh.length):bB prog bM 78 #[az c0.G.b,aF q] σ [dm x.c] (λv σ' As=>σ'=σ/\∃ (u:Value) (A:HP),v=.tuple #[u,aF (x.w.sh[q]).aQ.length]/\As=[A,dm x.c]):=by
 have b:az c0.G.b=az x.c.G.b:=by rw[ok.c.g]
 rw[b];exact Qc ok.p a
theorem mW.aj9(ok:mW c0 I0 n aC x){q:Nat}(a:q<x.w.sh.length):(x.w.sh[q]).aQ.length<=26:=(ok.p.at (by rw[ok.p.len];exact a) a).2.1.aQ
theorem ru{σ:Gh}{n aC:Nat}{c0:CV}{I0:HL}{x0:E0}{eb:Nat->Nat×Nat}{w':WR}(hE:iX I0 eb)(D:mW c0 I0 n aC x0)(dI:c0.aj=false)(hr:nX σ c0)(hs:im n aC 60 x0.w x0.Y.abs=(w',h',true))(dH:x0.t+4194304<=2^42):
  bB prog bM 38 #[az c0.G.b,aF n,aF aC,az b] σ (eP b x0.Y [dm x0.c,bI x0.I]) (λv σ' As=>σ'=σ/\v=.bool true/\∃ x,mW c0 I0 n aC x/\x.w=w'/\x.Y.abs=h'/\x.t<=x0.t+4194304/\As=eP b x.Y [dm x.c,bI x.I]):=by
 refine bB.of ?_;intro Post os out kd F c' cs C aW ak;simp only[eP,fJ,ek];have Ib:n<=4/\1<=n:=by have h1:=D.p.nn;have h2:=D.s.facts.1;omega
 have al9:aC<=60:=by have:=D.p.ntx;have:=D.tx;omega
 obtain⟨K,hK⟩:∃ K,K=3000:=⟨_,rfl⟩;refine iE ?_;refine C.cN (X:=Nat×E0) (λx=>[(0,az c0.G.b),(1,aF n),(2,aF aC),(3,az b),(9,aF x.1)]) (λx=>eP b x.2.Y<|dm x.2.c::bI x.2.I::F) (λx=>x.1<=60/\mW c0 I0 n aC x.2/\im n aC (60-x.1) x.2.w x.2.Y.abs=(w',h',true)/\x.2.t<=x0.t+31000*x.1) (λx=>60-x.1) (0,x0) ⟨rfl,rfl,rfl,rfl,rfl,trivial⟩ ⟨fp _,D,hs,dE⟩ ?_;rintro⟨r,xr⟩ e ⟨aka,okr,Gv,htr⟩ ih;dsimp only at aka okr Gv htr⊢;refine dT ?_;refine C.cmp rfl (λZt=>?_) λZt=>?_
 .refine bL ?_;have mA:r<60:=ai;rw[show 60-r=(59-r)+1 by omega]at Gv;obtain⟨wA,wB,hB,wC,lC,wD,lD,eA,eB,eC,eD,eZ⟩:=Jm Gv;refine dT ?_;refine C.cN (X:=Nat×E0) (λx=>[(0,az c0.G.b),(1,aF n),(2,aF aC),(3,az b),(9,aF r),(10,aF x.1)]) (λx=>eP b x.2.Y<|dm x.2.c::bI x.2.I::F) (λx=>x.1<=n/\mW c0 I0 n aC x.2/\JI ((List.range n).drop x.1) x.2.w=(wA,true)/\x.2.Y.abs=xr.Y.abs/\x.2.t<=xr.t+x.1) (λx=>n-x.1) (0,xr) ⟨rfl,rfl,rfl,rfl,rfl,rfl,trivial⟩ ⟨fp _,okr,eA,rfl,dE⟩ ?_;rintro⟨s,⟨c,w,Y,I,t⟩⟩ e1 ⟨ON,a,Z,p,ht⟩ NV;dsimp only at ON a Z p ht⊢;refine dY ?_;refine C.cmp rfl (λh34=>?_) λh34=>?_
  .refine bL ?_;have E:s<n:=ai;have h:s<w.sh.length:=by have:=a.s.facts.1;dsimp only at this;omega
   rw[rq E]at Z;refine dT ?_;refine aG.lj (agu a h) ?_;rintro v σ' aT ⟨rfl,rfl,rfl⟩;refine cH ?_;rcases U7 Z h with⟨bR,UT⟩|⟨bR,L,UT⟩
   all_goals rw[bR]
   .refine mE ?_;refine ga ?_;exact again NV (s+1,⟨c,w,Y,I,t⟩) ⟨E,a,UT,p,dE⟩<|dE
   .refine vH ?_;refine aG.lj (NL (k:=8) (i:=s) (b:=0) hE a dI hr (dE)<|by decide) ?_;rintro v σ' aT ⟨rfl,rfl,M,O,y,rfl⟩;dsimp only at y⊢;rw[L];refine Ei ?_;refine C.ed rfl ?_ (hf:=by intro z;exact z rfl);refine iE ?_;exact again NV (s+1,⟨M,(eV w 8 s 0).1,Y,O,t+1⟩) ⟨E,y,UT,p,dE⟩<|dE
  .refine fB ?_;have hse:s=n:=ai;rw[pX (by rw[wq];omega)]at Z;have hwA:w=wA:=by unfold JI at Z;injection Z
   subst hwA;refine C.cN (X:=Nat×E0) (λx=>[(0,az c0.G.b),(1,aF n),(2,aF aC),(3,az b),(9,aF r),(13,aF x.1)]) (λx=>eP b x.2.Y<|dm x.2.c::bI x.2.I::F) (λx=>x.1<=10/\mW c0 I0 n aC x.2/\turns n (10-x.1) x.2.w x.2.Y.abs=(wB,hB,true)/\x.2.t<=t+3010*x.1) (λx=>10-x.1) (0,⟨c,w,Y,I,t⟩) ⟨rfl,rfl,rfl,rfl,rfl,rfl,trivial⟩ ⟨fp _,a,by dsimp only;rw[p];exact eB,dE⟩ ?_;rintro⟨H,xt⟩ e2 ⟨htn,j,Jn,htt⟩ zP;dsimp only at htn j Jn htt⊢;refine dT ?_;refine C.cmp rfl (λh48=>?_) λh48=>?_
   .refine bL ?_;have akb:H<10:=ai;rw[show 10-H=(9-H)+1 by omega]at Jn;obtain⟨wE,Jc,eS,eT⟩:=LJ Jn;refine dT ?_;apply m8 (X:=E0) (λx=>mW c0 I0 n aC x/\x.w=dC 3000 xt.w/\x.Y.abs=xt.Y.abs/\x.t<=xt.t+K) (λ_=>[(0,az c0.G.b),(1,aF n),(2,aF aC),(3,az b),(9,aF r),(13,aF H)]) (λx=>eP b x.Y<|dm x.c::bI x.I::F) (R:=aG prog Post bM σ 0 os out) (d:=0) (fn:=38) (kd:=kd) (n:=127) (ds:=[]) (cs:=c'::cs)
    .intro Jk;refine C.cN (X:=Nat×E0) (λx=>[(0,az c0.G.b),(1,aF n),(2,aF aC),(3,az b),(9,aF r),(13,aF H),(14,aF x.1)]) (λx=>eP b x.2.Y<|dm x.2.c::bI x.2.I::F) (λx=>x.1<=3000/\mW c0 I0 n aC x.2/\dC (3000-x.1) x.2.w=dC 3000 xt.w/\x.2.Y.abs=xt.Y.abs/\x.2.t<=xt.t+x.1) (λx=>3000-x.1) (0,xt) ⟨rfl,rfl,rfl,rfl,rfl,rfl,rfl,trivial⟩ ⟨fp _,j,by dsimp only,rfl,dE⟩ ?_;rintro⟨k,⟨c,w,Y,I,t'⟩⟩ e3 ⟨hk,a,hd,p,QC⟩ ND;dsimp only at hk a hd p QC⊢;refine dT ?_;refine C.cmp rfl (λK3=>?_) λK3=>?_
     .refine bL ?_;have p9:k<3000:=ai;rw[show 3000-k=(2999-k)+1 by omega]at hd;refine bL ?_;refine aG.lj (NL (k:=2) (i:=0) (b:=0) hE a dI hr (dE)<|by decide) ?_;rintro v σ' aT ⟨rfl,rfl,M,O,y,rfl⟩;dsimp only at y⊢;refine Ei ?_;refine C.cmp rfl (λZm=>?_) λZm=>?_
      .refine bL ?_;exact bU Jk ⟨M,(eV w 2 0 0).1,Y,O,t'+1⟩ ⟨y,by dsimp only;rw[<- hd];exact(((rR (2999-k) w).resolve_right λz=>Zm z.1).2).symm,p,dE⟩
      .refine iE ?_;exact again ND (k+1,⟨M,(eV w 2 0 0).1,Y,O,t'+1⟩) ⟨p9,y,by dsimp only;rw[show 3000-(k+1)=2999-k by omega,<- hd];exact(((rR (2999-k) w).resolve_left λz=>Zm z.1).2).symm,p,dE⟩<|dE
     .refine bL ?_;have Ot:k=3000:=ai;rw[show 3000-k=0 by omega,dC]at hd;exact bU Jk ⟨c,w,Y,I,t'⟩ ⟨a,hd,p,dE⟩
    .rintro⟨c,w,Y,I,t2⟩ ⟨a,hw,p,ht2⟩ ev;dsimp only at a hw p ht2;subst hw;refine dT ?_;refine C.cN (X:=Nat×E0) (λx=>[(0,az c0.G.b),(1,aF n),(2,aF aC),(3,az b),(9,aF r),(13,aF H),(16,aF x.1)]) (λx=>eP b x.2.Y<|dm x.2.c::bI x.2.I::F) (λx=>x.1<=n/\mW c0 I0 n aC x.2/\tF ((List.range n).drop x.1) x.2.w x.2.Y.abs=(wE,Jc,true)/\x.2.t<=t2+x.1) (λx=>n-x.1) (0,⟨c,dC 3000 xt.w,Y,I,t2⟩) ⟨rfl,rfl,rfl,rfl,rfl,rfl,rfl,trivial⟩ ⟨fp _,a,by dsimp only;rw[p];exact eS,dE⟩ ?_;rintro⟨s,⟨c,w,Y,I,t4⟩⟩ e4 ⟨ON,a,QA,ht4⟩ ih4;dsimp only at ON a QA ht4⊢;refine dY ?_;refine C.cmp rfl (λFY=>?_) λFY=>?_
     .refine bL ?_;have E:s<n:=ai;rw[rq E]at QA;obtain⟨L,h1,Oq,akc⟩:=LI QA;refine dT ?_;refine aG.lj (U9 (k:=5) (i:=s) (b:=0) hE a dI hr<|dE) ?_;rintro v σ' aT ⟨rfl,rfl,M,O,⟨hP2,Tg,si⟩,rfl⟩;dsimp only at hP2 si⊢;rw[L];refine zx6 ?_;refine aG.lj (X4 (k:=5) (i:=s) (b:=0) a hP2 Tg si Oq) ?_;rintro v σ' aT ⟨rfl,rfl,Y2,I3,hY2,y,rfl⟩;dsimp only at y⊢;simp only[eP,fJ,ek];refine dY ?_;refine C.ed rfl ?_ (hf:=by intro z;exact z rfl);refine mE ?_;exact again ih4 (s+1,⟨M,(eV w 5 s 0).1,Y2,I3,t4+1⟩) ⟨E,y,by dsimp only;rw[hY2];exact akc,dE⟩<|dE
     .refine iE ?_;have aoO:s=n:=ai;rw[pX (by rw[wq];omega)]at QA;unfold tF at QA;injection QA with e1 e2
      injection e2 with e2
      subst e1 e2;exact again zP (H+1,⟨c,w,Y,I,t4⟩) ⟨akb,a,by dsimp only;rw[show 10-(H+1)=9-H by omega];exact eT,dE⟩<|dE
   .refine bL ?_;have hte:H=10:=ai;subst hte;unfold turns at Jn;injection Jn with e1 e2
    injection e2 with e2
    obtain⟨c,w,Y,I,t5⟩:=xt;dsimp only at j htt e1 e2⊢;subst e1 e2;obtain⟨B,hB⟩:∃ B,B=300000:=⟨_,rfl⟩;have Ex:w.aH.length<=B:=by rw[hB];exact j.p.inv.aH
    refine bL ?_;refine aG.lj (acK j) ?_;rintro v σ' aT ⟨rfl,sl,ms,rfl,Zo,rfl⟩;dsimp only at Zo;refine cH ?_;refine C.qK rfl ?_ (s:=sl) (l:=ms) (f:=dF);refine fB ?_;refine C.cN (X:=Nat×Nat×E0) (λx=>[(0,az c0.G.b),(1,aF n),(2,aF aC),(3,az b),(9,aF r),(19,aF x.2.1),(20,aF x.1)]) (λx=>eP b x.2.2.Y<|dm x.2.2.c::bI x.2.2.I::F) (λx=>x.1<=aC/\mW c0 I0 n aC x.2.2/\asks ((List.range aC).drop x.1) x.2.2.w x.2.1=(wC,lC,true)/\x.2.2.Y.abs=Y.abs/\x.2.1<=B+x.1/\x.2.2.t<=t5+x.1) (λx=>aC-x.1) (0,ms.length,⟨c,w,Y,I,t5⟩) ⟨rfl,rfl,rfl,rfl,rfl,rfl,rfl,trivial⟩ ⟨fp _,j,by dsimp only;rw[Zo];exact eC,rfl,(show ms.length<=B+0 by omega),fC _⟩ ?_;rintro⟨q,lf,⟨c1,w1,Y1,I1,t1⟩⟩ e5 ⟨hq,a,P,J,hlf,Ek⟩ ih5;dsimp only at hq a P J hlf Ek⊢;refine dY ?_;refine C.cmp rfl (λh82=>?_) λh82=>?_
    .refine bL ?_;have CP:q<aC:=ai;have Qe:q<w1.aC.length:=by have:=a.tx;dsimp only at this;omega
     rw[rq CP]at P;refine dT ?_;refine aG.lj (LK a Qe) ?_;rintro v σ' aT ⟨rfl,V0,rfl,rfl⟩;refine MY ?_;refine C.cmp rfl (λQ=>?_) λQ=>?_
     .refine bL ?_;obtain⟨_,L,S⟩:=(EY P Qe).resolve_right λz=>z.1 Q;refine oN ?_;refine aG.lj (NL (k:=1) (i:=q) (b:=0) hE a dI hr (dE)<|by decide) ?_;rintro v σ' aT ⟨rfl,rfl,M,O,y,rfl⟩;dsimp only at y⊢;rw[L];refine Ei ?_;refine C.ed rfl ?_ (hf:=by intro z;exact z rfl);refine iE ?_;exact again ih5 (q+1,lf+1,⟨M,(eV w1 1 q 0).1,Y1,O,t1+1⟩) ⟨CP,y,S,J,(show lf+1<=B+(q+1) by omega),(show t1+1<=t5+(q+1) by omega)⟩<|dE
     .refine iE ?_;have S:=((EY P Qe).resolve_left λz=>Q z.1).2;exact again ih5 (q+1,lf,⟨c1,w1,Y1,I1,t1⟩) ⟨CP,a,S,J,(show lf<=B+(q+1) by omega),(show t1<=t5+(q+1) by omega)⟩<|dE
    .refine fB ?_;have hqe:q=aC:=ai;rw[pX (by rw[wq];omega)]at P;unfold asks at P;injection P with e1 e2
     injection e2 with e2
     subst e1 e2;refine C.cN (X:=Nat×Nat×E0) (λx=>[(0,az c0.G.b),(1,aF n),(2,aF aC),(3,az b),(9,aF r),(19,aF x.2.1),(24,aF x.1)]) (λx=>eP b x.2.2.Y<|dm x.2.2.c::bI x.2.2.I::F) (λx=>x.1<=n/\mW c0 I0 n aC x.2.2/\gz ((List.range n).drop x.1) x.2.2.w x.2.1=(wD,lD,true)/\x.2.2.Y.abs=Y.abs/\x.2.1<=B+60+26*x.1/\x.2.2.t<=t1+x.1) (λx=>n-x.1) (0,lf,⟨c1,w1,Y1,I1,t1⟩) ⟨rfl,rfl,rfl,rfl,rfl,rfl,rfl,trivial⟩ ⟨fp _,a,eD,J,(show lf<=B+60+26*0 by omega),fC _⟩ ?_;rintro⟨s,g,⟨c3,m,Y3,I3,t3⟩⟩ e6 ⟨ON,N,T,o,akf,ht3⟩ U;dsimp only at ON N T o akf ht3⊢;refine dY ?_;refine C.cmp rfl (λakh=>?_) λakh=>?_
     .refine bL ?_;have E:s<n:=ai;have h:s<m.sh.length:=by have:=N.s.facts.1;dsimp only at this;omega
      have aki:=N.aj9 h;dsimp only at aki;rw[rq E]at T;refine dT ?_;refine aG.lj (acL N h) ?_;rintro v σ' aT ⟨rfl,u,A,rfl,rfl⟩;refine Y8 ?_;refine C.ar rfl ?_ (r:=((g+(m.sh[s]'h).aQ.length:Nat):Int)) (ha:=congrArg some (Int.natCast_add _ _).symm);refine dY ?_;refine C.cmp rfl (λakj=>?_) λakj=>?_
      .refine bL ?_;obtain⟨_,akk,X5⟩:=(Cv T h).resolve_right λz=>by omega
       refine dT ?_;refine aG.lj (NL (k:=6) (i:=s) (b:=0) hE N dI hr (dE)<|by decide) ?_;rintro v σ' aT ⟨rfl,rfl,c4,I4,W,rfl⟩;dsimp only at W⊢;rcases akk with L|L
       all_goals rw[L]
       all_goals simp only[fJ,ek]
       .refine dY ?_;refine C.ed rfl ?_ (hf:=by intro z;exact z rfl);refine mE ?_;exact again U (s+1,g+(m.sh[s]'h).aQ.length,⟨c4,(eV m 6 s 0).1,Y3,I4,t3+1⟩) ⟨E,W,X5,o,(show g+(m.sh[s]'h).aQ.length<=B+60+26*(s+1) by omega),(show t3+1<=t1+(s+1) by omega)⟩<|dE
       .refine dY ?_;refine C.fQ rfl ?_ (hf:=by decide);refine bL ?_;refine C.ed rfl ?_ (hf:=by intro z;exact z rfl);refine oN ?_;exact again U (s+1,g+(m.sh[s]'h).aQ.length,⟨c4,(eV m 6 s 0).1,Y3,I4,t3+1⟩) ⟨E,W,X5,o,(show g+(m.sh[s]'h).aQ.length<=B+60+26*(s+1) by omega),(show t3+1<=t1+(s+1) by omega)⟩<|dE
      .refine iE ?_;have X5:=((Cv T h).resolve_left λz=>by omega).2;exact again U (s+1,g+(m.sh[s]'h).aQ.length,⟨c3,m,Y3,I3,t3⟩) ⟨E,N,X5,o,(show g+(m.sh[s]'h).aQ.length<=B+60+26*(s+1) by omega),(show t3<=t1+(s+1) by omega)⟩<|dE
     .refine bL ?_;have aoS:s=n:=ai;rw[pX (by rw[wq];omega)]at T;unfold gz at T;injection T with e1 e2
      injection e2 with e2
      subst e1 e2;refine bL ?_;refine C.cmp rfl (λagv=>?_) λagv=>?_
      .refine fB ?_;obtain⟨_,z2,z3⟩:=eZ.resolve_right λz=>z.1 ai;exact aG.fe aW ak ⟨rfl,rfl,⟨c3,m,Y3,I3,t3⟩,N,z2,by dsimp only;rw[o];exact z3,dE,rfl⟩
      .refine iE ?_;have z2:=(eZ.resolve_left λz=>agv ai).2;exact again ih (r+1,⟨c3,m,Y3,I3,t3⟩) ⟨mA,N,by dsimp only;rw[o,show 60-(r+1)=59-r by omega];exact z2,dE⟩<|dE
 .refine fB ?_;have hre:r=60:=ai;subst hre;unfold im at Gv;injection Gv with _ z
  injection z with _ z
  cases z
theorem At.chans{R:Nat->aO->Array Obj->Prop}{d:Nat}{As W:List HP}{g:aO}(hf:Fo (dm c) As W)(h:c.chans.Nodup->At R d As g):At R d As g:=λH st=>by obtain⟨h1,a,_,_⟩:=st.perm hf.perm;exact h (UG 0 c h1 a).1 H st
theorem NM{σ a:Gh}(j:qF σ)(N:tT σ a c.G c.ah)(k:1<=c.ah.length/\c.ah.length<=4)(hs:c.aj=false)(d:c.chans.Nodup):
  nX a c/\∀ c',mK c c'->nX a c'/\qF (a.iH c'.ids):=by
 have e:=(Nz.nil j).new N k hs (by simpa using d);have f:=e.reg c (by simp) hs;refine⟨f,λc' b=>⟨b.X3 f,?_⟩⟩;have l:c'.aj=false:=by rw[b.st];exact hs
 have h1:=e.set (i:=0) (by simp) (c':=c') (by simpa using b.g) (by simpa using b.h) (by simpa using b.st);have m:=h1.stop (i:=0) (by simp) (by simp only[ek,uK,GK,List.flatMap_nil,lS];rw[CV.Lt b.g b.h];exact d)
 have g:=m.idle (by intro z h;simp only[ek,uK,dR]at h;rw[h])
 simp only[ek,uK,ZN,l,fW,eQ]at g;exact g
theorem Qf{σ:Gh}{v:Value}{f:List zf}(hi:Ci I σ.bot vi 6 v f)(hs:∀ s∈f,vj I σ.bot s)(hl:f.length<=2^41):
  aI prog true (bM.bw σ) 41 #[v] [bI I] (λv As=>∃ n:Nat,(1<=n/\n<=4)/\v=aF n/\As=[bI I]):=by
 refine aI.of λR C kd d F c cs u w=>?_;refine cH ?_;obtain⟨a,cap,rfl,B⟩:=hi;refine iE ?_;refine C.cN (X:=Nat) (λi=>[(0,.slice a f.length cap),(3,aF i)]) (λ_=>bI I::F) (λi=>i<=f.length) (λi=>f.length-i) 0 ⟨rfl,rfl,trivial⟩ (fp _) ?_;intro i e M D;refine dY ?_;refine C.ln rfl ?_;refine C.cmp rfl (λE=>?_) λE=>?_
 .refine bL ?_;have g:i<f.length:=ai;rcases B with rfl|⟨b,off,cc,ty,fr,rfl,x,H,y⟩
  .exact absurd g<|by simp
  have J:=hs _<|dG g;have h:=y i g 0 (by decide);have k:=y i g 2 (by decide);obtain⟨s,m⟩:∃ s,s=f[i]:=⟨_,rfl⟩;rw[<- m]at J h k;have z:b<(bM.bw σ).bot:=H;refine dT ?_;refine C.ia (j:=(i:Int)) (o:=off+i*6) rfl ?_ (hoff:=by simp);refine ga ?_;refine C.ldK (Ext.PE (λ_ st=>st) Fo.au x) z h rfl ?_;refine C.cmp rfl (λK=>?_) λK=>?_
  .refine fB ?_;refine C.ia (j:=(i:Int)) (o:=off+i*6) rfl ?_ (hoff:=by simp);refine ga ?_;refine C.ldK (Ext.PE (λ_ st=>st) Fo.au x) z k rfl ?_;refine C.arw (p:=s.a) (q:=1) (r:=s.a-1) rfl ?_;have t: -9223372036854775808<=IntKind.i64.wrap (s.a-1)/\IntKind.i64.wrap (s.a-1)<=9223372036854775807:=by rw[IntKind.wrap_i64];omega
   refine C.cE (aI.less (dW _)<|PG (b:=4) t<|by decide) (A:=[]) ?_;refine su ?_;have l:=PF (a:=IntKind.i64.wrap<|s.a-1) (b:=4) (by decide);obtain⟨q,L⟩:=mJ l.1;rw[L]at l⊢;refine C.ar rfl ?_ (r:=((1+q:Nat):Int)) (ha:=congrArg some (Int.natCast_add _ _).symm);refine bL ?_;exact C.cG u w ⟨1+q,ai,rfl,rfl⟩
  .refine iE ?_;exact again D (i+1) g ai
 .refine fB ?_;exact C.cG u w ⟨3,ai,rfl,rfl⟩
def zG:List bO:=[⟨true,97,5⟩,⟨true,98,7⟩]
def Gj:List bO:=[⟨false,98,0⟩,⟨false,97,0⟩]
def lvH:cJ:=⟨[[],[]],[],[],[0,0]⟩
def VI:WR×Int×Int:=bZ (kP 2) zG
def Jo:WR×cJ×Bool:=im 2 1 60 VI.1 lvH
def X7:WR×Int×Int:=bZ Jo.1 Gj
def zH:WR×cJ×Bool:=im 2 2 60 X7.1 Jo.2.1
def agw:Bool:=VI.2.1==0&&VI.2.2==0&&Jo.2.2&&Jo.2.1.ops.length==2&&X7.2.1==1&&X7.2.2==0&&zH.2.2&&((zH.1.aC[0]?).map (·.state)).getD 0==2&&((zH.1.aC[1]?).map (·.state)).getD 0==2&&((zH.1.aC[1]?).map (·.reads)).getD []==[7,5]&&((zH.1.sh[1]?).map (·.bX)).getD []==bQ.set 1 7
theorem Qg:agw=true:=by decide+kernel
theorem ry:(VI.2.1=0/\VI.2.2=0)/\Jo.2.2=true/\Jo.2.1.ops.length=2/\(X7.2.1=1/\X7.2.2=0)/\zH.2.2=true/\((zH.1.aC[0]?).map (·.state)).getD 0=2/\((zH.1.aC[1]?).map (·.state)).getD 0=2/\((zH.1.aC[1]?).map (·.reads)).getD []=[7,5]/\((zH.1.sh[1]?).map (·.bX)).getD []=bQ.set 1 7:=by have h:=Qg;unfold agw at h;simp only[jK,uU]at h;obtain⟨⟨⟨⟨⟨⟨⟨⟨⟨⟨h1,a⟩,b⟩,c⟩,d⟩,e⟩,f⟩,g⟩,i⟩,j⟩,k⟩:=h;exact⟨⟨h1,a⟩,b,c,⟨d,e⟩,f,g,i,j,k⟩
theorem acQ:im 2 1 60 VI.1 lvH=(Jo.1,Jo.2.1,true):=by have h:=ry.2.1;show Jo=_;generalize Jo=x at h;obtain⟨a,b,c⟩:=x;dsimp only at h;subst h;rfl
theorem acR:im 2 2 60 X7.1 Jo.2.1=(zH.1,zH.2.1,true):=by have h:=ry.2.2.2.2.1;show zH=_;generalize zH=x at h;obtain⟨a,b,c⟩:=x;dsimp only at h;subst h;rfl
theorem Va:(∀ o∈zG,QQ o.v)/\∀ o∈Gj,QQ o.v:=by constructor<;>intro o a<;>simp[zG,Gj]at a<;>rcases a with h|h<;>subst h<;>(unfold QQ;decide)
theorem ZB:v5 2 VI.1 lvH/\VI.1.aC.length=1:=by have S:=nH.new (n:=2) (by decide);obtain⟨a,_⟩:=S.l9 zG;have c:(bZ (kP 2) zG).2.2=0:=ry.1.2;have b:(bZ (kP (2:Nat)) zG).2.2=0:=c;rw[aJ b]at a;refine⟨⟨[zG],by decide,a⟩,?_⟩;obtain⟨_,W,G,t,F,I,V⟩:=a;have:=congrArg List.length I.ops;have d:1=(cy VI.1.aC).length:=this;simpa[cy]using d.symm
theorem v5.l9{n:Nat}{w:WR}{h:cJ}(S:v5 n w h){O:List bO}(d:(bZ w O).2.2=0)(hl:w.aC.length+1<=h.ops.length):v5 n (bZ w O).1 h/\(bZ w O).1.aC.length=w.aC.length+1:=by
 obtain⟨o,e,S⟩:=S;have b:o.length=w.aC.length:=by obtain⟨_,W,G,t,F,I,V⟩:=S;have:=congrArg List.length I.ops;simpa[cy]using this
 obtain⟨a,_⟩:=S.l9 O;rw[aJ d]at a;refine⟨⟨o++[O],by rw[iV,iR];omega,a⟩,?_⟩;obtain⟨_,W,G,t,F,I,V⟩:=a;have:=congrArg List.length I.ops;have c:(o++[O]).length=(cy (bZ w O).1.aC).length:=this;rw[iV,iR]at c;simp[cy]at c;omega
theorem Vb{σ:Gh}{c0:CV}{I0 a:HL}{n aC:Nat}{x:E0}{eb:Nat->Nat×Nat}{O:List bO}(b:iX I0 eb)(ok:mW c0 I0 n aC x)(hs:Sub x.I a)(c:x.t+1<=2^42)(d:O.length<2^43)(e:gg a db 67 so O)(f:∀ o∈O,QQ o.v):
  bB prog bM 18 #[az c0.G.b,so.v] σ [dm x.c,bI a] (λv σ' As=>∃ c' I',σ'=σ/\v=.tuple #[aF (bZ x.w O).2.1,aF (bZ x.w O).2.2]/\Sub a I'/\mK c0 c'/\cU I' (x.t+1) c' (bZ x.w O).1/\As=[dm c',bI I']):=by
 have g:az c0.G.b=az x.c.G.b:=by rw[ok.c.g]
 rw[g];refine(Cp (b.mono<|ok.i.trans hs) (ok.p.mono hs) c d e f).post ?_;rintro v σ' As ⟨c',I',h1,h,i,j,k,l⟩;exact⟨c',I',h1,h,i,ok.c.trans j,k,l⟩
theorem Vd{σ:Gh}{c0:CV}{I0:HL}{n aC q:Nat}{x:E0}(ok:mW c0 I0 n aC x)(a:q<x.w.sh.length):bB prog bM 40 #[az c0.G.b,aF q] σ [dm x.c]
  (λv σ' As=>σ'=σ/\∃ (sl:ay) (m:Nat),v=.tuple #[sl.v,aF m]/\m=Un (x.w.sh[q]).bX/\As=[bK dk 1 21 sl (x.w.sh[q]).bX,dm x.c]):=by
 have b:az c0.G.b=az x.c.G.b:=by rw[ok.c.g]
 rw[b];exact LF ok.p a
theorem Gk{σ:Gh}{c0:CV}{I0:HL}{n aC:Nat}{x:E0}(ok:mW c0 I0 n aC x)(b:c0.aj=false)(hr:nX σ c0):bB prog bM 21 #[az c0.G.b] σ [dm x.c]
  (λv σ' As=>v=.tuple #[]/\σ'=σ.iH x.c.ids/\∃ A,As=[A]):=by
 have d:az c0.G.b=az x.c.G.b:=by rw[ok.c.g]
 rw[d];refine(Py (c:=x.c) λ_=>(ok.c.X3 hr).toRegC).post ?_;rintro v σ' As ⟨h1,a,e⟩;rw[ok.c.st,b,ax<|by decide]at a;exact⟨h1,a,_,e⟩
theorem LL{σ:Gh}{eb:Nat->Nat×Nat}(Q:iX I eb)(h0:qF σ):bB prog bM 24 #[] σ [bI I] (λv σ' As=>v=.bool true/\σ'.bot=σ.bot/\qF σ'/\∃ I',Sub I I'/\As=[bI I']):=by
 refine bB.of ?_;intro Post os out kd F c' cs C aW ak;refine vI ?_;refine aG.lj (A:=[]) (EM (n:=2) (by decide) h0.ok) ?_;rintro v w aT ⟨c,N,rfl,rfl,q1,q2,q3,y⟩;have C:ab prog true (bM.bw w) (aG prog Post bM w 0 os out):=aG.eL;refine cH ?_;have S:1<=c.ah.length/\c.ah.length<=4:=by have:=congrArg List.length q1;simp only[eM,upto,wq]at this;have h2:(2:Int).toNat=2:=rfl;omega
 refine At.chans (c:=c) Fo.au λnd=>?_;obtain⟨T,Dz⟩:=NM h0 N S y nd;have U:cU I 0 c (kP 2):=cU.new (by decide) q1 q2 q3 y;refine oN ?_;refine C.eqQ rfl ?_;refine bL ?_;refine C.ed rfl ?_ (hf:=by intro z;exact z rfl);refine iE ?_;refine C.bs (vs:=[.agg #[.bool true,.int .u8 97,.int .i32 5],.agg #[.bool true,.int .u8 98,.int .i32 7]]) rfl λB=>?_;refine At.own (l:=zG) (f:=db) (z:=3) ⟨some ⟨B,0,none⟩,2,2⟩ [] rfl rfl (fC _) .head ?_;refine At.Si (s:=⟨some ⟨B,0,none⟩,2,2⟩) (l:=zG) (f:=db) Fo.au Fo.au λI1 W Y=>?_;refine aG.lj (Cp (O:=zG) (Q.mono W) (U.mono W) (by decide) (by decide) Y Va.1) ?_;rintro v σ' aT ⟨c1,I2,rfl,rfl,si,Zd,Z,rfl⟩;rw[show(bZ (kP 2) zG).2.1=0 from ry.1.1,show(bZ (kP 2) zG).2.2=0 from ry.1.2];refine zx6 ?_;apply m8 (X:=Nat×ay×ay) (λ_=>True) (λx=>[(1,az c.G.b),(3,aF 0),(4,aF 0),(5,az x.1)]) (λx=>eP x.1 ⟨x.2.1,aV,aV,x.2.2,[(aV,[]),(aV,[])],[],[],[0,0]⟩<|dm c1::bI I2::F) (R:=aG prog Post bM σ' 0 os out) (d:=0) (fn:=24) (kd:=kd) (n:=124) (ds:=[]) (cs:=c'::cs)
 .intro D;refine C.dx (di 34 0 4++[(5,4)]) 5 [0,1,2,3,4] 3 ?_;refine Dr.chain rfl ?_;refine Ch.n2 (t:=0) (u:=1) rfl ?_ ?_
  .refine bj λe aa g=>?_;refine C.ms (f:=xE) (a0:=0) rfl rfl λo=>(g _ _ .cons ?_);refine Ch.m 1 (bj λe aa g=>?_);refine C.ms (f:=lK (α:=List bO)) (a0:=(aV,[])) rfl rfl λa=>(g _ _ .cons ?_);refine Ch.q 2 (λh=>C.bd rfl h) ?_;refine Ch.m 3 (bj λe aa g=>?_);refine C.bx rfl λb=>g _ _ .cons ?_;refine Ch.q 4 (λh=>C.pN rfl h) ?_;refine gy ?_;refine At.turn (A':=dq b<|.cells #[(⟨some ⟨a,0,none⟩,2,2⟩:ay).v,aV.v,aV.v,(⟨some ⟨o,0,none⟩,2,2⟩:ay).v] 102 (0,0)) .head (λ_ h=>h) ?_;refine At.own (l:=[0,0]) (f:=xE) (z:=1) ⟨some ⟨o,0,none⟩,2,2⟩ [] rfl rfl (fC _) (.tail<|.tail .head) ?_;refine At.own (l:=[((aV,[]):ay×List bO),(aV,[])]) (f:=lK) (z:=1) ⟨some ⟨a,0,none⟩,2,2⟩ [] rfl rfl (fC _) (.tail<|.tail .head) ?_;refine At.aV aK 1 3 ?_;refine At.aV (α:=ay×List Int) lK 1 104 ?_;exact bU D (b,(⟨some ⟨a,0,none⟩,2,2⟩:ay),(⟨some ⟨o,0,none⟩,2,2⟩:ay)) trivial
  .refine bj λe aa g=>?_;refine C.ms (f:=lK (α:=List bO)) (a0:=(aV,[])) rfl rfl λa=>(g _ _ .cons ?_);refine Ch.m 0 (bj λe aa g=>?_);refine C.ms (f:=xE) (a0:=0) rfl rfl λo=>(g _ _ .cons ?_);refine Ch.q 2 (λh=>C.bd rfl h) ?_;refine Ch.m 3 (bj λe aa g=>?_);refine C.bx rfl λb=>g _ _ .cons ?_;refine Ch.q 4 (λh=>C.pN rfl h) ?_;refine gy ?_;refine At.turn (A':=dq b<|.cells #[(⟨some ⟨a,0,none⟩,2,2⟩:ay).v,aV.v,aV.v,(⟨some ⟨o,0,none⟩,2,2⟩:ay).v] 102 (0,0)) .head (λ_ h=>h) ?_;refine At.own (l:=[0,0]) (f:=xE) (z:=1) ⟨some ⟨o,0,none⟩,2,2⟩ [] rfl rfl (fC _) (.tail .head) ?_;refine At.own (l:=[((aV,[]):ay×List bO),(aV,[])]) (f:=lK) (z:=1) ⟨some ⟨a,0,none⟩,2,2⟩ [] rfl rfl (fC _) (.tail<|.tail .head) ?_;refine At.aV aK 1 3 ?_;refine At.aV (α:=ay×List Int) lK 1 104 ?_;exact bU D (b,(⟨some ⟨a,0,none⟩,2,2⟩:ay),(⟨some ⟨o,0,none⟩,2,2⟩:ay)) trivial
 .rintro⟨b,so,sk⟩ _ ev;have akp:mW c I 2 1 ⟨c1,VI.1,⟨so,aV,aV,sk,[(aV,[]),(aV,[])],[],[],[0,0]⟩,I2,1⟩:=by refine⟨Z,⟨λp hp=>?_,λp hp=>by cases hp⟩,ZB.1,Zd,W.trans si,ZB.2⟩;simp only[gU,nY,gR,or_self]at hp;rw[hp];exact .inl ⟨rfl,rfl⟩
  refine dT ?_;refine aG.lj (ru (n:=2) (aC:=1) Q akp y T acQ (by show 1+4194304<=2^42;decide)) ?_;rintro v σ' aT ⟨rfl,rfl,x1,r,Z8,i,Ek,rfl⟩;obtain⟨cx,wx,E,Ix,tx⟩:=x1;dsimp only at Z8 i Ek⊢;subst Z8;simp only[eP,fJ,ek];obtain⟨hB1,H⟩:=ry.2.2.2.1;have hYl:E.oL.length=2:=by
   have h1:E.abs.ops.length=2:=by rw[i];exact ry.2.2.1
   simpa[kW.abs]using h1
  obtain⟨DN,hn2⟩:=r.s.l9 (O:=Gj) H (by
   show Jo.1.aC.length+1<=E.abs.ops.length;have h1:E.abs.ops.length=2:=by rw[i];exact ry.2.2.1
   have h2:Jo.1.aC.length=1:=r.tx;omega)
  refine gV ?_;refine C.bs (vs:=[.agg #[.bool false,.int .u8 98,.int .i32 0],.agg #[.bool false,.int .u8 97,.int .i32 0]]) rfl λJ=>?_;refine At.own (l:=Gj) (f:=db) (z:=3) ⟨some ⟨J,0,none⟩,2,2⟩ [] rfl rfl (fC _) .head ?_;refine At.Si (s:=⟨some ⟨J,0,none⟩,2,2⟩) (l:=Gj) (f:=db) Fo.au Fo.au λI3 NF akq=>?_;refine aG.lj (Vb (O:=Gj) Q r NF (dE) (by decide) akq Va.2) ?_;rintro v σ' aT ⟨c3,I4,rfl,rfl,JK,K,L,rfl⟩;dsimp only at K L⊢;rw[show(bZ Jo.1 Gj).2.1=1 from hB1,show(bZ Jo.1 Gj).2.2=0 from H];refine cH ?_;have akr:mW c I 2 2 ⟨c3,X7.1,E,I4,tx+1⟩:=⟨L,r.j.mono<|NF.trans JK,DN,K,(r.i.trans NF).trans JK,by have h2:Jo.1.aC.length=1:=r.tx;have aoV:X7.1.aC.length=Jo.1.aC.length+1:=hn2;show X7.1.aC.length=2;omega⟩
  refine pP ?_;refine aG.lj (ru (n:=2) (aC:=2) (w':=zH.1) (h':=zH.2.1) Q akr y T (by dsimp only;rw[i];exact acR)<|dE) ?_;rintro v σ' aT ⟨rfl,rfl,x2,k,RX,hh2,ht2,rfl⟩;obtain⟨cz,wz,Yz,Iz,tz⟩:=x2;dsimp only at RX hh2 ht2⊢;subst RX;simp only[eP,fJ,ek];obtain⟨_,_,_,_,_,r1,r2,r3,r4⟩:=ry;have htz:zH.1.aC.length=2:=k.tx;have hsz:zH.1.sh.length=2:=k.s.facts.1;have e0:(zH.1.aC[0]'(by omega)).state=2:=by rw[cQ ai]at r1;exact r1
  have e1:(zH.1.aC[1]'(by omega)).state=2:=by rw[cQ ai]at r2;exact r2
  have e2:(zH.1.aC[1]'(by omega)).reads=[7,5]:=by rw[cQ ai]at r3;exact r3
  have e3:(zH.1.sh[1]'(by omega)).bX=bQ.set 1 7:=by rw[cQ ai]at r4;exact r4
  refine dY ?_;refine aG.lj (LK (q:=0) k (by show 0<zH.1.aC.length;omega)) ?_;rintro v σ' aT ⟨rfl,sl0,rfl,rfl⟩;dsimp only;rw[e0];refine MY ?_;refine aG.lj (LK (q:=1) k (by show 1<zH.1.aC.length;omega)) ?_;rintro v σ' aT ⟨rfl,M,rfl,rfl⟩;dsimp only;rw[e1,e2];refine MY ?_;refine aG.lj (Vd (q:=1) k (by show 1<zH.1.sh.length;omega)) ?_;rintro v σ' aT ⟨rfl,P,m,rfl,rfl,rfl⟩;dsimp only;rw[e3];refine MY ?_;refine aG.lj (Gk k y T) ?_;rintro v σ2 aT ⟨rfl,rfl,A,rfl⟩;refine cH ?_;have C:ab prog true (bM.bw<|σ'.iH cz.ids) (aG prog Post bM (σ'.iH cz.ids) 0 os out):=aG.eL;refine C.go ?_;refine C.rg [0,1,2,3,4,5,6,7,8,9,10,11,12,13,14,15,16,17,18,19,20,21,22,23,24,25,26,27,28,29,30,31,32,33,34,35,36,37,38,39,40,41,42,43,44,45,46,47,48,49,50,51,52,53,54,55] ?_;refine ga ?_;refine C.fQ rfl ?_ (hf:=by rfl);refine bL ?_;refine C.fQ rfl ?_ (hf:=by rfl);refine gV ?_;refine C.fQ rfl ?_ (hf:=by rfl);refine dT ?_;refine C.fQ rfl ?_ (hf:=by rfl);refine gV ?_;refine C.fQ rfl ?_ (hf:=by rfl);refine dT ?_;refine C.fQ rfl ?_ (hf:=by rfl);refine dT ?_;refine C.qK rfl ?_ (s:=M) (l:=[7,5]) (f:=dk);refine C.fQ rfl ?_ (hf:=by rfl);refine dT ?_;refine C.dZ rfl ?_ (s:=M) (l:=[7,5]) (f:=dk) (j:=0) (hj:=by decide);refine C.du (v:=.int .i32 7) rfl ?_ (s:=M) (l:=[7,5]) (f:=dk) (j:=0) (hj:=by decide);refine C.fQ rfl ?_ (hf:=by rfl);refine dT ?_;refine C.dZ rfl ?_ (s:=M) (l:=[7,5]) (f:=dk) (j:=1) (hj:=by decide);refine C.du (v:=.int .i32 5) rfl ?_ (s:=M) (l:=[7,5]) (f:=dk) (j:=1) (hj:=by decide);refine C.fQ rfl ?_ (hf:=by rfl);refine dT ?_;refine C.fQ rfl ?_ (hf:=by decide);refine dT ?_;refine C.dZ rfl ?_ (s:=P) (l:=bQ.set 1 7) (f:=dk) (j:=1) (hj:=by decide);refine C.du (v:=.int .i32 7) rfl ?_ (s:=P) (l:=bQ.set 1 7) (f:=dk) (j:=1) (hj:=by decide);refine C.fQ rfl ?_ (hf:=by rfl);refine dT ?_;exact aG.fe aW ak ⟨rfl,N.bot,(Dz cz k.c).2,Iz,k.i,rfl⟩
def agy(n:Nat):Prop:=∀ (w:WR) (h:cJ),fO n w h->∃ w' h',im n w.aC.length 60 w h=(w',h',true)/\fO n w' h'/\
 ∀ (q:Nat) (hq:q<w'.sh.length) (k:Nat),k<26->k%n=q->(w'.sh[q]).bX[k]? =(runT (cy w'.aC) h'.order bQ)[k]?
theorem aks(n:Nat):agy n:=λw h S=>by obtain⟨w',h',e,a⟩:=Xa S;exact⟨w',h',e,a.s,a.bX⟩
theorem nH.akt{n:Nat}{Y:kW}(S:nH n w Y.abs):P9 (cy w.aC) Y:=by obtain⟨_,W,G,t,F,I,V⟩:=S;refine⟨I.ops.symm,F.rel.tok,I.p.nd,by have:=I.p.len;simpa[kW.abs]using this,I.FM F,λj t rd a b=>I.p.val j t rd a b⟩
theorem nH.same{n:Nat}(S:nH n w h):l8 w h=(h,true)/\HT w h=true:=by
 obtain⟨_,W,G,t,F,I,V⟩:=S;refine⟨?_,I.one F⟩;unfold l8;refine pa _ 0 h (λs hs=>?_) λj s hs=>?_
 .obtain⟨i,hi⟩:=eX.1 hs;exact F.aE hi
 .rw[lR,I.looked,jJ,hs];rfl
structure Qi(I0:HL)(c0:CV)(n:Nat)(x:E0):Prop where
 p:cU x.I x.t x.c x.w
 j:Cq x.I x.Y
 s:fO n x.w x.Y.abs
 c:mK c0 x.c
 i:Sub I0 x.I
theorem Qi.ok{I0:HL}{c0:CV}{n:Nat}{x:E0}(h:Qi I0 c0 n x):mW c0 I0 n x.w.aC.length x:=⟨h.p,h.j,h.s.1.q,h.c,h.i,rfl⟩
theorem X8(ok:Qi I0 c0 n x):bB prog bM 43 #[az bh,az c0.G.b,aF n] σ (eP bh x.Y [dm x.c,bI x.I]) (λv σ' As=>σ'=σ/\v=.bool true/\∃ b a,Qi I0 c0 n ⟨x.c,x.w,b,a,x.t⟩/\b.abs=x.Y.abs/\As=eP bh b [dm x.c,bI a]):=by
 obtain⟨f1,f2,f3,f4⟩:=ok.s.1.q.facts;have f:(n:Int)=x.w.sh.length:=by rw[f1]
 have g:az c0.G.b=az x.c.G.b:=by rw[ok.c.g]
 rw[f,g];refine(vY ok.p ok.j ok.s.1.same.1 (by rw[f2,f1]) f4 f3).post ?_;rintro v σ' As ⟨a1,h,c,a,d,i,e,k,l,j⟩;exact⟨a1,h,c,a,⟨ok.p.mono d,i,by show fO n _ c.abs;rw[e];exact ok.s,ok.c,ok.i.trans d⟩,e,j⟩
theorem X9{i b:Int}{I':HL}(ok:Qi I0 c0 n x)(c:cU I' (x.t+1) c' (eV x.w k i b).1)(hc:mK c0 c')(hs:Sub x.I I'):
  bB prog bM 43 #[az bh,az c0.G.b,aF n] σ (eP bh x.Y [dm c',bI I']) (λv σ' As=>σ'=σ/\v=.bool true/\∃ d a,Qi I0 c0 n ⟨c',(eV x.w k i b).1,d,a,x.t+1⟩/\As=eP bh d [dm c',bI a]):=by
 obtain⟨f1,f2,f3,f4⟩:=ok.s.1.q.facts;obtain⟨h',e,_,h⟩:=ok.s.eV k i b;have j:(n:Int)=(eV x.w k i b).1.sh.length:=by rw[o8,f1]
 have l:az c0.G.b=az c'.G.b:=by rw[hc.g]
 rw[j,l];refine(vY c (ok.j.mono hs) e (by rw[o8,f2,f1]) f4 f3).post ?_;rintro v σ' As ⟨a1,m,f,a,g,o,p,r,s,q⟩;exact⟨a1,m,f,a,⟨c.mono g,o,by show fO n _ f.abs;rw[p];exact h,hc,(ok.i.trans hs).trans g⟩,q⟩
theorem Ve(ok:Qi I0 c0 n x):bB prog bM 44 #[az bh,az c0.G.b,aF n] σ (eP bh x.Y [dm x.c,bI x.I]) (λv σ' As=>σ'=σ/\v=.bool true/\As=eP bh x.Y [dm x.c,bI x.I]):=by
 obtain⟨f1,f2,f3,f4⟩:=ok.s.1.q.facts;have a:(n:Int)=x.w.sh.length:=by rw[f1]
 have b:az c0.G.b=az x.c.G.b:=by rw[ok.c.g]
 rw[a,b];exact Qb ok.p ok.s.1.same.2 f4
theorem Ya(ok:Qi I0 c0 n x):bB prog bM 45 #[az bh,az c0.G.b] σ (eP bh x.Y [dm x.c,bI x.I]) (λv σ' As=>σ'=σ/\v=.bool true/\As=eP bh x.Y [dm x.c,bI x.I]):=by
 obtain⟨f1,f2,f3,f4⟩:=ok.s.1.q.facts;have a:az c0.G.b=az x.c.G.b:=by rw[ok.c.g]
 rw[a];exact LD ok.p ok.j ok.s.1.aiW.1 f3 f4
end
end Go.Sl
