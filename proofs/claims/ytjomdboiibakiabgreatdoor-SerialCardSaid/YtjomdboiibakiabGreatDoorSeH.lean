/-
  Texts that the proof needs, joined: part 8.
-/
import Derived.Test.YtjomdboiibakiabGreatDoorSeG
import Derived.Sort.AssemblyPlain
import Derived.Conc.HoldsTime
import Derived.LaidHandle
import Derived.Carry
import Derived.LaidLaws
import Derived.FnData
import Derived.ChangeArms
import GoSem.ClaimJoined
import Derived.RowKit
set_option linter.unusedSimpArgs false
set_option linter.unusedVariables false
set_option maxHeartbeats 4000000
namespace Go.Sl
open Go.Proofs.Tryz
section
open Go.Proofs Go.Sort
variable{ao:Bool}
theorem Rn(n:Nat):∀ {s:az} {d:Array Int} {a b YJ:Nat},b-a<=n->a<=b->b<=d.size->d.size<2^31->YJ<2^40->Below ltInt a b d->
  aI prog ao cH 187 #[s.v,aD a,aD b,aD YJ] [bG aJ 1 3 s d.toList] (λv As=>∃ Z,PermIn a b d Z/\SortedIn ltInt a b Z/\As=[bG aJ 1 3 s Z.toList]):=by
 induction n using Nat.strongRecOn with
 |ind n IH=>
 intro s d a b YJ hn Dq hb hl af1 hB;refine aI.of λR C kd d0 F c cs aT ak=>?_;refine RZ ?_;refine C.cu (X:=Nat×Nat×Nat×Bool×Bool×Array Int) (λx=>[(0,s.v),(1,aD x.1),(2,aD x.2.1),(3,aD x.2.2.1),(8,.bool x.2.2.2.1),(9,.bool x.2.2.2.2.1)]) (λx=>bG aJ 1 3 s x.2.2.2.2.2.toList::F) (λx=>x.1<=x.2.1/\x.2.1-x.1<=n/\x.2.1<=d.size/\x.2.2.2.2.2.size=d.size/\x.2.2.1<2^40/\Below ltInt x.1 x.2.1 x.2.2.2.2.2/\∀ Z,PermIn x.1 x.2.1 x.2.2.2.2.2 Z->SortedIn ltInt x.1 x.2.1 Z->PermIn a b d Z/\SortedIn ltInt a b Z) (λx=>x.2.1-x.1) (a,b,YJ,true,true,d) ⟨rfl,rfl,rfl,rfl,rfl,rfl,trivial⟩ ⟨Dq,hn,hb,rfl,af1,hB,λZ h1 h2=>⟨h1,h2⟩⟩ ?_;rintro⟨a1,b1,lm,wb,wp,d1⟩ e ⟨h1,h2,h3,gT,hlm,hB1,Hm⟩ ih;dsimp only at h1 h2 h3 gT hlm hB1 Hm⊢;have hq8:((b1-a1:Nat):Int).tdiv 8=(((b1-a1)/8:Nat):Int):=(JK (b1-a1) 8).symm;refine dX ?_;refine C.jq (b1-a1) rfl ?_;refine dX ?_;refine C.cmp rfl (λh23=>?_) (λh23=>?_)
 ·refine gu ?_;refine C.fF (Q7 (d:=d1) (a:=a1) (b:=b1) h1 ai ai) ?_;rintro v aP rfl;refine sB ?_;have hp:=insertionSort_holds swo_ltInt d1 a1 b1 h1 ai;have q:=Hm _ hp.1 hp.2;exact C.cm aT ak ⟨_,q.1,q.2,rfl⟩
 ·refine dX ?_;refine C.cmp rfl (λVK=>?_) (λVK=>?_)
  ·refine gu ?_;refine C.fF (MY (d:=d1) (a:=a1) (b:=b1) ai ai ai) ?_;rintro v aP rfl;refine sB ?_;have hp:=heapSort_holds swo_ltInt d1 a1 b1 h1 ai;have q:=Hm _ hp.1 hp.2;exact C.cm aT ak ⟨_,q.1,q.2,rfl⟩
  ·refine bH ?_;apply mj (X:=Nat×Array Int) (λx=>x.1<2^40/\PermIn a1 b1 d1 x.2) (λx=>[(0,s.v),(1,aD a1),(2,aD b1),(3,aD x.1),(8,.bool wb),(9,.bool wp),(10,aD ((b1-a1:Nat):Int))]) (λx=>bG aJ 1 3 s x.2.toList::F) (R:=R) (d:=d0) (fn:=187) (kd:=kd) (n:=134) (ds:=[]) (cs:=c::cs)
   ·intro xv;refine bH ?_;rcases nj wb with rfl|rfl
    ·refine dK ?_;exact bN xv (lm,d1) ⟨hlm,permIn_refl _ _ _⟩
    ·refine gU ?_;refine C.fF (Jc (d:=d1) (a:=a1) (b:=b1) h1 ai ai) ?_;rintro v aP rfl;refine cr ?_;refine dK ?_;refine C.jq (lm-1) rfl ?_;refine bH ?_;exact bN xv (lm-1,breakPatterns d1 a1 b1) ⟨dq,breakPatterns_holds d1 a1 b1 h1 ai⟩
   ·rintro⟨l2,d2⟩ ⟨Kq,CZ⟩ e;dsimp only at Kq CZ⊢;have qU:d2.size=d.size:=by rw[CZ.1];exact gT
    have hcp:=choosePivot_holds ltInt d2 a1 b1 ai;refine dX ?_;refine C.cE (I8 (d:=d2) (a:=a1) (b:=b1) ai ai ai) ?_;refine cr ?_;generalize choosePivot ltInt d2 a1 b1=cp at hcp⊢;obtain⟨pv,hi⟩:=cp;dsimp only at hcp⊢;refine gu ?_;apply mj (X:=Nat×Hint×Array Int) (λx=>a1<=x.1/\x.1<b1/\PermIn a1 b1 d2 x.2.2) (λx=>[(0,s.v),(1,aD a1),(2,aD b1),(3,aD l2),(8,.bool wb),(9,.bool wp),(10,aD ((b1-a1:Nat):Int)),(11,aD x.1),(12,aD (K2 x.2.1))]) (λx=>bG aJ 1 3 s x.2.2.toList::F) (R:=R) (d:=d0) (fn:=187) (kd:=kd) (n:=134) (ds:=[]) (cs:=c::cs)
    ·intro VR;refine bH ?_;refine C.cmp rfl (λh50=>?_) (λh50=>?_)
     ·refine gu ?_;refine C.fF (Q9 (d:=d2) (a:=a1) (b:=b1) ai h1 ai ai) ?_;rintro v aP rfl;refine cr ?_;refine dK ?_;refine C.jq (b1-1) rfl ?_;refine bH ?_;refine C.jq (pv-a1) rfl ?_;refine C.jq (b1-1-(pv-a1)) rfl ?_;refine eP ?_;exact bN VR (b1-1-(pv-a1),.increasing,reverseRange d2 a1 b1) ⟨dq,dq,reverseRange_holds d2 a1 b1 h1 ai⟩
     ·refine bH ?_;exact bN VR (pv,hi,d2) ⟨hcp.1,hcp.2,permIn_refl _ _ _⟩
    ·rintro⟨p3,R8,d3⟩ ⟨YK,YL,RS⟩ e;apply mj (X:=Array Int) (λx=>PermIn a1 b1 d3 x) (λx=>[(0,s.v),(1,aD a1),(2,aD b1),(3,aD l2),(8,.bool wb),(9,.bool wp),(10,aD ((b1-a1:Nat):Int)),(11,aD p3),(12,aD (K2 R8))]) (λx=>bG aJ 1 3 s x.toList::F) (R:=R) (d:=d0) (fn:=187) (kd:=kd) (n:=134) (ds:=[]) (cs:=c::cs)
     ·intro r9;dsimp only at YK YL RS⊢;have K4:d3.size=d.size:=by rw[RS.1];exact qU
      have P3:PermIn a1 b1 d1 d3:=permIn_trans _ _ _ a1 b1 CZ RS;have B3:Below ltInt a1 b1 d3:=hB1.perm ai P3;refine dK ?_;rcases nj wb with rfl|rfl
      ·refine fG ?_;rcases nj wp with rfl|rfl
       ·refine dK ?_;refine C.cmp rfl (λh67=>?_) (λh67=>?_)
        ·refine gU ?_;refine C.cE (M0 (d:=d3) (a:=a1) (b:=b1) ai ai ai) ?_;refine cr ?_;have hpi:=partialInsertionSort_holds swo_ltInt d3 a1 b1 ai ai B3;generalize partialInsertionSort ltInt d3 a1 b1=pi at hpi⊢;obtain⟨d5,ok⟩:=pi;dsimp only at hpi⊢;refine C.go ?_;refine C.xQ (λacx=>?_) (λacx=>?_)
         ·refine C.go ?_;have q:=Hm d5 (permIn_trans _ _ _ a1 b1 P3 hpi.1) (hpi.2 acx);exact C.cm aT ak ⟨_,q.1,q.2,rfl⟩
         ·refine C.go ?_;exact bN r9 d5 hpi.1
        ·refine dK ?_;exact bN r9 d3 (permIn_refl _ _ _)
       ·refine gU ?_;exact bN r9 d3 (permIn_refl _ _ _)
      ·refine nT ?_;exact bN r9 d3 (permIn_refl _ _ _)
     ·rintro d4 NB e;have P3:PermIn a1 b1 d1 d3:=permIn_trans _ _ _ a1 b1 CZ RS;have P4:PermIn a1 b1 d1 d4:=permIn_trans _ _ _ a1 b1 P3 NB;have B4:Below ltInt a1 b1 d4:=hB1.perm ai P4;have Hd:d4.size=d.size:=by rw[P4.1];exact gT
      have Hl:d4.toList.length=d.size:=by simpa using Hd
      apply mj (X:=Unit) (λ_=>True) (λ_=>[(0,s.v),(1,aD a1),(2,aD b1),(3,aD l2),(8,.bool wb),(9,.bool wp),(10,aD ((b1-a1:Nat):Int)),(11,aD p3),(12,aD (K2 R8))]) (λ_=>bG aJ 1 3 s d4.toList::F) (R:=R) (d:=d0) (fn:=187) (kd:=kd) (n:=134) (ds:=[]) (cs:=c::cs)
      ·intro GL;rcases lH 0 a1 with lF|lF
       ·refine C.dx (cW 73 0 15) 15 [12,13,14] 0 ?_;refine kK ?_;refine Dr.p (λh=>C.fA rfl h) ?_;refine sV ?_;refine Dr.p (v:=aD ((a1-1:Nat):Int)) (λh=>C.jq (a1-1) rfl h) ?_;refine Dr.l (λhE h=>C.dQ rfl h (s:=s) (l:=d4.toList) (f:=aJ) (j:=a1-1)) ?_;refine Dr.l (v:=aD (d4.toList[a1-1]'(by omega))) (λhE h=>C.dd rfl h (s:=s) (l:=d4.toList) (f:=aJ) (j:=a1-1)) ?_;refine kD ?_;refine Dr.l (λhE h=>C.dQ rfl h (s:=s) (l:=d4.toList) (f:=aJ) (j:=p3)) ?_;refine Dr.l (v:=aD (d4.toList[p3]'(by omega))) (λhE h=>C.dd rfl h (s:=s) (l:=d4.toList) (f:=aJ) (j:=p3)) ?_;refine Dr.chain rfl ?_;refine Ch.m 12 (aY λe aa hk=>?_);refine C.cE (fM (x:=(d4.toList[a1-1]'(by omega))) (y:=(d4.toList[p3]'(by omega)))) (A:=[]) ?_;refine qY ?_;refine hk _ _ ?_;refine Ch.q 13 (λh=>C.nt rfl h) ?_;refine Ch.q 14 (λh=>C.pk rfl h) ?_;refine fP ?_;refine C.xQ (λacy=>?_) (λacy=>?_)
        ·refine gu ?_;refine C.cE (GI (d:=d4) (a:=a1) (b:=b1) (pv:=p3) ai ai ai ai) ?_;refine cr ?_;have AA:ltInt d4[a1-1]! d4[p3]! =false:=by rw[yu ai ai];simpa using acy
         obtain⟨Gt,d5,hx⟩:∃ m z,partitionEqual ltInt d4 a1 b1 p3=(m,z):=⟨_,_,rfl⟩;obtain⟨ZF,XU,hs5,hB5,S5⟩:=round_eq swo_ltInt (partitionEqual_holds ltInt) lF YK YL ai B4 AA hx;rw[hx];dsimp only;refine gu ?_;exact again ih (Gt,b1,l2,wb,wp,d5) ⟨dq,dq,dq,dq,Kq,hB5,λZ z1 z2=>by have q:=S5 Z z1 z2;exact Hm Z (permIn_trans _ _ _ a1 b1 P4 q.1) q.2⟩ (dq)
        ·refine C.go ?_;exact bN GL () trivial
       ·refine C.dx (cW 73 0 15) 15 [12,13,14] 0 ?_;refine kK ?_;refine Dr.p (λh=>C.dS rfl h) ?_;refine H5 ?_;refine Ch.m 12 (aY λe aa hk=>?_);refine C.no rfl (hk _ _ ?_);refine Ch.q 13 (λh=>C.no rfl h) ?_;refine Ch.q 14 (λh=>C.pk rfl h) ?_;refine oV ?_;exact bN GL () trivial
      ·rintro _ _ e;refine eP ?_;refine C.cE (I9 (d:=d4) (a:=a1) (b:=b1) (pv:=p3) ai ai ai ai) ?_;refine cr ?_;obtain⟨Gt,ap,d5,hx⟩:∃ m p z,partition ltInt d4 a1 b1 p3=(m,p,z):=⟨_,_,_,rfl⟩;obtain⟨ZF,XU,hs5,hBl,hBr,U3,hfr⟩:=round_part swo_ltInt (partition_holds ltInt) YK YL ai B4 hx;rw[hx];dsimp only;refine kj ?_;refine C.jq (Gt-a1) rfl ?_;refine bH ?_;refine C.jq (b1-Gt) rfl ?_;refine eP ?_;refine C.quo rfl ?_ (hr:=by rw[hq8];exact uy ai ai);rw[hq8];refine eP ?_;refine C.cmp rfl (λaf2=>?_) (λaf2=>?_)
       ·refine eP ?_;refine C.aan rfl ?_;refine gU ?_;refine C.fF (IH (Gt-a1) ai (s:=s) (d:=d5) (a:=a1) (b:=Gt) (YJ:=l2) (e8 _) ZF ai ai Kq hBl) ?_;rintro v aP ⟨d6,hp6,hs6,rfl⟩;refine cr ?_;refine dK ?_;refine C.jq (Gt+1) rfl ?_;refine bH ?_;have hq:=U3 d6 hp6 hs6;have hs7:d6.size=d5.size:=hp6.1;exact again ih (Gt+1,b1,l2,EP .geq ((Gt-a1:Nat):Int) (((b1-a1)/8:Nat):Int),ap,d6) ⟨dq,dq,dq,dq,Kq,hq.1,λZ z1 z2=>by have q:=hq.2 Z z1 z2;exact Hm Z (permIn_trans _ _ _ a1 b1 P4 q.1) q.2⟩ (dq)
       ·refine eP ?_;refine C.aan rfl ?_;refine eP ?_;refine C.jq (Gt+1) rfl ?_;refine bH ?_;refine C.fF (IH (b1-(Gt+1)) ai (s:=s) (d:=d5) (a:=Gt+1) (b:=b1) (YJ:=l2) (e8 _) ai ai ai Kq hBr) ?_;rintro v aP ⟨d6,hp6,hs6,rfl⟩;refine tV ?_;have hq:=hfr d6 hp6 hs6;have hs7:d6.size=d5.size:=hp6.1;exact again ih (a1,Gt,l2,EP .geq ((b1-Gt:Nat):Int) (((b1-a1)/8:Nat):Int),ap,d6) ⟨dq,dq,dq,dq,Kq,hq.1,λZ z1 z2=>by have q:=hq.2 Z z1 z2;exact Hm Z (permIn_trans _ _ _ a1 b1 P4 q.1) q.2⟩ (dq)
theorem M2:VN:=by
 intro s l hl;refine aI.of λR C kd d0 F c cs aT ak=>?_;refine cr ?_;obtain⟨d,hd⟩:∃ d:Array Int,d=l.toArray:=⟨_,rfl⟩;have hdl:l=d.toList:=by rw[hd]
 have hsz:d.size<2^20:=by rw[hd];simpa using hl
 have NN:d.toList.length=d.size:=by simp
 rw[hdl]at ak⊢;refine tU ?_;refine C.cv rfl ?_ (r:=((d.size:Nat):Int)) (hr:=by rw[NN];exact H0 _ ai);refine C.cE (GK (n:=d.size) ai) (A:=[]) ?_;refine qY ?_;rw[NN];have DX:bitsLen d.size<=40:=(bitsLen_le_iff _ _).2 ai;refine C.fF (Rn d.size (d:=d) (a:=0) (b:=d.size) (YJ:=bitsLen d.size) ai ai ai ai ai (Or.inl rfl)) ?_;rintro v aP ⟨Z,hp,hs,rfl⟩;refine sB ?_;have h:=sorted_unique_holds swo_ltInt (λx y h1 h2=>by simp only[ltInt,Og]at h1 h2;omega) d Z hp hs;have h':Z.toList=jI d.toList:=by
  rw[h];unfold jI
  congr 1
  funext x y
  show(!decide (y<x))=decide (x<=y);by_cases h:x<=y
  ·have h':¬ y<x:=ai;simp[h,h']
  ·have h':y<x:=ai;simp[h,h']
 rw[h'];exact C.eJ aT ak rfl
end
section
open Go.Proofs
theorem Bh:Al:=λhJ hl ho hC=>Bg M2 hJ hl ho hC
open Go.Conc
theorem Bi{σ:Gh}{c:CV}{so:az}{ops:List bP}{I:HL}{eb:Nat->Nat×Nat}(hE:ir I eb)(hn:1<=c.ah.length/\c.ah.length<=4)(nU:c.aK.length<2^20)(m9:c.aF.length<=60)(sO:ops.length<2^43)(G6:fI I cS 37 so ops):
  bA prog bI 11 #[ay c.G.b,so.v] σ [cY c,bD I] (λv σ' As=>∃ er t iu iv I',σ'=σ/\v=.tuple #[aD t,aD (Ai er)]/\As=[cY {c with aK:=iu,aF:=iv},bD I']/\
   ((c.aj=true/\er=some 8/\t=0/\iu=c.aK/\iv=c.aF/\I'=I)\/(c.aj=false/\IC eb I c.ah.length ops c.aK c.aF er t I' iu iv))):=by
 refine bA.of ?_;intro Post os out kd F c' cs C aT ak;refine RZ ?_;refine At.aR cS 3 37 ?_;refine C.Vd (f:=cS) (s:=aR) (l:=[]) ops rfl (λs1=>?_) (hsrc:=λH st=>dZ.src (f:=cS) (el:=37) (s:=so) (.bD Fo.au G6) st (λ_=>rfl)) (hsz:=by simp only[CR];omega);rw[ez];refine At.lP (show cV _ (bG cS 3 37 s1 ops::cY c::bD I::F) by exact cV.au) ?_;refine eP ?_;refine At.afA (s:=s1) (f:=cS) (z:=3) (el:=37) (l:=ops) Fo.au (λJ hJ acA=>?_);refine aE.j9 (DT hE hn nU m9 hJ sO) ?_;rintro v σ' aP ⟨er,t,iu,iv,I',L,u,rfl,rfl,oS,rfl,ZG⟩;refine cr ?_;refine At.turn (A:=bD J) (A':=bG cS 3 37 s1 ops) Fo.au acA ?_;refine nT ?_;refine C.pS (f:=cS) (s:=s1) (l:=ops) rfl ?_;refine bH ?_;have hE':ir I' eb:=by
  rcases ZG with⟨_,_,_,_,_,rfl⟩|⟨_,hs,_⟩
  ·exact hE
  ·exact hE.mono hs
 refine C.cu (X:=Nat×List bP) (λx=>[(6,s1.v),(7,aD t),(8,u),(18,s1.v),(19,aD ops.length),(20,aD x.1)]) (λx=>bG cS 3 37 s1 x.2::cY {c with aK:=iu,aF:=iv}::bD I'::(L++F)) (λx=>x.1<=ops.length/\x.2.length=ops.length) (λx=>ops.length-x.1) (0,ops) ⟨rfl,rfl,rfl,rfl,rfl,rfl,trivial⟩ ⟨eW _,rfl⟩ ?_;rintro⟨i,l⟩ e ⟨hi,hl⟩ ih;dsimp only at hi hl⊢;refine bH ?_;by_cases du:(i:Int)<ops.length
 ·refine C.fA rfl ?_;refine tU ?_;refine C.dQ (f:=cS) (s:=s1) (l:=l) (j:=i) rfl ?_ (hj:=by omega);refine C.WJ (f:=cS) (s:=s1) (l:=l) (j:=i) ⟨true,122, -1⟩ rfl ?_;refine eP ?_;exact again ih (i+1,l.set i ⟨true,122, -1⟩) ⟨dq,by dsimp only;rw[eg];exact hl⟩ (dq)
 ·refine C.dS rfl ?_;refine eP ?_;cases er with
  |none=>
   obtain⟨rfl,rfl⟩:=oS;refine qY ?_;refine C.cE (aI.less (dN _) gg) (A:=[]) ?_;refine qY ?_;refine dK ?_;exact aE.eK aT ak ⟨none,t,iu,iv,I',rfl,rfl,rfl,ZG⟩
  |some k=>
   obtain⟨bE,rfl,rfl⟩:=oS;have hk:k<9:=by
    rcases ZG with⟨_,h,_⟩|⟨_,_,h|h|h⟩
    ·cases h;decide
    ·have:=h.2.1;cases this;decide
    ·have:=h.2.2.1;cases this;decide
    ·have:=h.2.2.1;cases this
   refine cr ?_;refine C.cE (gS hE' (bE:=bE) (k:=k) (nm:=QE) (at_:=0) hk) ?_;refine cr ?_;refine dK ?_;exact aE.eK aT ak ⟨some k,t,iu,iv,I',rfl,rfl,rfl,ZG⟩
structure cF(I:HL)(t:Nat)(c:CV)(w:WR):Prop where
 rel:iI c.abs w
 inv:lq t w
 rng:we NP w
 J:uD I c
 cn:nV (t*2^15) t c
 lt:t<=2^42
variable{I I':HL}{t:Nat}{c c':CV}{w:WR}
theorem cF.len(h:cF I t c w):c.ah.length=w.sh.length:=by have:=h.rel.len;simpa[CV.abs]using this
theorem cF.n(h:cF I t c w):1<=c.ah.length/\c.ah.length<=4:=by have:=h.rel.n;rw[h.len];exact this
theorem cF.nn(h:cF I t c w):(1:Int)<=w.sh.length/\(w.sh.length:Int)<=4:=by have h1:=h.n;have h2:=h.len;omega
theorem cF.aK(h:cF I t c w):c.aK.map (·.toMsgR)=w.aK:=h.rel.aK
theorem cF.aF(h:cF I t c w):c.aF.map (·.toTxR)=w.aF:=h.rel.aF
theorem cF.at(h:cF I t c w){q:Nat}(h1:q<c.ah.length)(h2:q<w.sh.length):dB (cJ w.aF) w.sh.length (c.ah[q]).s.abs (w.sh[q])/\zB t (w.sh[q])/\(w.sh[q]).out=[]/\(w.sh[q]).me=q:=by
 have e1:c.abs.sh[q]? =some (c.ah[q]).s.abs:=by simp[CV.abs,h1]
 have e2:w.sh[q]? =some (w.sh[q]):=cK h2;obtain⟨a,b,d⟩:=h.rel.sh q _ _ e1 e2;have hs:=h.inv.size h.rel (dg e2);exact⟨a,hs.1,d,b⟩
theorem cF.host(h:cF I t c w){v:HV}(hv:v∈c.ah):∃ R,R∈w.sh/\dB (cJ w.aF) w.sh.length v.s.abs R/\zB t R/\R.out=[]:=by
 obtain⟨q,hq,rfl⟩:=mN hv;have h2:q<w.sh.length:=by rw[<- h.len];exact hq
 obtain⟨a,b,d,_⟩:=h.at hq h2;exact⟨_,dp h2,a,b,d⟩
theorem cF.msg(h:cF I t c w){m:dM}(hm:m∈c.aK):m.toMsgR∈w.aK:=by have:m.toMsgR∈c.aK.map (·.toMsgR):=bM.2 ⟨m,hm,rfl⟩;rw[h.aK]at this;exact this
theorem cF.YM(h:cF I t c w):c.aK.length<=300000:=by have h1:=h.inv.aK;have:=congrArg List.length h.aK;simp only[dW]at this;omega
theorem cF.tx(h:cF I t c w){x:uC}(hx:x∈c.aF):x.toTxR∈w.aF:=by have:x.toTxR∈c.aF.map (·.toTxR):=bM.2 ⟨x,hx,rfl⟩;rw[h.aF]at this;exact this
theorem cF.YN(h:cF I t c w):c.aF.length=w.aF.length/\c.aF.length<=60:=by have h1:=h.rel.aeW;have:=congrArg List.length h.aF;simp only[dW]at this;omega
theorem cF.cvb(h:cF I t c w):MI c:=by refine⟨h.n,by have:=h.YM;omega,h.YN.2,λx hx=>?_⟩;have:=h.rel.abb (h.tx hx);exact⟨⟨this.1,by have:=this.2.1;omega⟩,this.2.2⟩
theorem cF.Ym(h:cF I t c w){v:HV}(hv:v∈c.ah)(hu:v.s.up=true):qQ v.s:=by obtain⟨R,_,a,b,d⟩:=h.host hv;exact a.Ym h.rel.tok b h.nn h.lt (h.cn v hv) (a.up.symm.trans hu) d
theorem cF.del(h:cF I t c w){m:dM}(hm:m∈c.aK):KX c m:=by
 have RQ:=h.msg hm;have Vr:=h.rel.aba RQ;have Lo:=h.rel.msg _ RQ;have YO:=h.rel.mto RQ;have hl:=h.len;refine⟨λe=>?_,λe=>?_,λe v hv hu=>?_⟩
 ·have YO:m.to= -1/\0<=m.tx/\m.tx<w.aF.length:=by
   rcases YO with h1|h1
   ·exact h1
   ·have h2:0<=m.to:=h1.1;omega
  have:=congrArg List.length h.aF;simp only[dW]at this;omega
 ·have YO:0<=m.to/\m.to<w.sh.length:=by
   rcases YO with h1|h1
   ·exact absurd h1.1 e
   ·exact h1
  have hk:1<=m.kind/\m.kind<=6:=by
   obtain⟨ops,_,hc⟩:=Lo;have hc:(m.kind=1\/m.kind=2\/m.kind=3\/m.kind=4\/m.kind=5\/m.kind=6):=by
    rcases hc with h1|h1|h1|h1|h1|h1|h1
    ·exact .inl h1.1
    ·exact .inr (.inl h1.1)
    ·exact .inr (.inr (.inl h1.1))
    ·exact .inr (.inr (.inr (.inl h1.1)))
    ·exact .inr (.inr (.inr (.inr (.inl h1.1))))
    ·exact .inr (.inr (.inr (.inr (.inr h1.1))))
    ·exact absurd h1.2.1 e
   omega
  exact⟨YO.1,ai,hk.1,hk.2,λ_=>⟨Vr.1,by have:m.ops.length<=6:=Vr.2;omega⟩⟩
 ·have YO:0<=m.to/\m.to<w.sh.length:=by
   rcases YO with h1|h1
   ·exact absurd h1.1 e
   ·exact h1
  obtain⟨h1,rfl⟩:=dG.1 hv;have h2:m.to.toNat<w.sh.length:=ai;obtain⟨a,b,d,f⟩:=h.at h1 h2;have dP:(w.sh[m.to.toNat]).up=true:=a.up.symm.trans hu;have uA:m.toMsgR.to=(w.sh[m.to.toNat]).me:=by rw[f];show m.to=_;omega
  have Zx:(0:Int)<w.sh.length:=by have:=h.nn;omega
  refine⟨λhk=>Uc a h.rel.tok Zx dP Lo hk,?_⟩;have hr:=Fx a h.rel.tok Zx dP Lo uA;rw[hr.out];have:=h.inv.take h.rel (s:=(w.sh[m.to.toNat])) (dp h2) RQ;omega
theorem cF.af4(h:cF I t c w){k i b:Int}(hR:k=8->Al):MU c k i b:=by
 refine⟨h.cvb,λ_ v hv hu=>h.Ym hv hu,λ_ q hq _=>h.del (dp hq),λv hv=>?_,λhk=>⟨hR hk,λv hv=>?_⟩⟩
 ·obtain⟨R,hRm,a,b',d⟩:=h.host hv;have hI:=h.inv.sh R hRm;refine⟨λ_ hu=>?_,λ_ hu=>?_,λ_ hu=>?_,λ_ hu=>?_⟩
  ·have:=(Fy a (a.up.symm.trans hu)).out;rw[this];show(R.out++R.waits).length<_;rw[d];have:=b'.waits;simp only[ez];omega
  ·have:=(FB a h.rel.tok (a.up.symm.trans hu)).out;rw[this];obtain⟨_,o,e1,e2,_⟩:=FH hI (by have:=h.nn;have:=a.n2;omega) b'.timers;rw[e1,d];simp only[ez];omega
  ·have:=(BX a b).out;rw[this];show R.out.length<_;rw[d];decide
  ·have:=(xb a h.rel.tok).out;rw[this,(rI R).2,d];decide
 ·obtain⟨R,hRm,a,b',d⟩:=h.host hv;have jL:v.s.log.length=R.log.length:=by have:=congrArg List.length a.log;simpa[di.abs]using this
  refine⟨by have:=b'.log;omega,λtx home ops so hm=>?_⟩;have h1:aN.aV (.cg tx home ops)∈R.log:=by rw[<- a.log];exact bM.2 ⟨_,bM.2 ⟨_,hm,rfl⟩,rfl⟩
  have:=b'.aeU _ h1;exact⟨this.1,by have:ops.length<=6:=this.2;omega⟩
theorem cF.mono(h:cF I t c w)(hs:Sub I I'):cF I' t c w:={h with J:=h.J.mono hs}
theorem cF.new{n:Int}(hn:1<=n/\n<=4)(h1:c.ah.map (·.s)=((upto n).map λk=>j0 k n))(h2:c.aK=[])(h3:c.aF=[])(h4:c.aj=false):cF I 0 c (kU n):=by
 have hc:c.abs=B2 n:=by
  unfold CV.abs B2;rw[h2,h3,h4];have:c.ah.map (λv=>v.s.abs)=(c.ah.map (·.s)).map (·.abs):=by simp[uG,Bq]
  rw[this,h1];simp[uG,Bq,L3]
 have key:∀ v∈c.ah,∃ k,v.s=j0 k n:=λv hv=>by have:v.s∈c.ah.map (·.s):=wQ hv;rw[h1]at this;obtain⟨k,_,e⟩:=bM.1 this;exact⟨k,e.symm⟩
 refine⟨by rw[hc];exact Kr hn,Kw,Tn (by unfold NP;omega) n,⟨by simp[h2],by simp[h3],λv hv=>?_⟩,λv hv=>?_,eW _⟩
 ·obtain⟨k,e⟩:=key v hv;rw[e];exact Tt I k n
 ·obtain⟨k,e⟩:=key v hv;rw[e];exact⟨by simp,by simp[j0],by simp[j0]⟩
theorem cF.nJ{eb:Nat->Nat×Nat}{ops:List bP}{er:Option Nat}{tt:Int}{iu:List dM}{iv:List uC}(h:cF I t c w)(hQ:(c.aj=true/\er=some 8/\tt=0/\iu=c.aK/\iv=c.aF/\I'=I)\/(c.aj=false/\IC eb I c.ah.length ops c.aK c.aF er tt I' iu iv))
  (ho:∀ o∈ops,NP o.v) (du:t+1<=2^42):Sub I I'/\cF I' (t+1) {c with aK:=iu,aF:=iv} (bZ w ops).1/\tt=(bZ w ops).2.1/\Ai er=(bZ w ops).2.2:=by
 have hk:=Ue hQ;obtain⟨hs,hJ⟩:=acb h.J hQ;obtain⟨hr,hn⟩:=xe h.rel ops;rw[<- hk]at hr hn;refine⟨hs,⟨hr,xf h.inv h.rel ops,HZ h.rng ho,hJ,λv hv=>(h.cn v hv).mono ai ai,du⟩,?_,?_⟩
 ·exact congrArg Prod.fst hn
 ·exact congrArg Prod.snd hn
theorem cF.do{k i b:Int}{er:Option Nat}(h:cF I t c w)(hQ:eQ c I (t*2^15+2^15) (t+1) (gp c.abs k i b) er c' I')(du:t+1<=2^42):cF I' (t+1) c' (gH w k i b).1/\Ai er=(gH w k i b).2:=by obtain⟨hr,hn⟩:=Ks h.rel k i b;rw[<- hQ.r]at hr hn;refine⟨⟨hr,Kv h.inv h.rel k i b,Xc (by unfold NP;omega) h.rng k i b,hQ.j,λv hv=>(hQ.cn v hv).mono ai ai,du⟩,hn⟩
structure lM(c c':CV):Prop where
 g:c'.G=c.G
 h:c'.ah.map (·.h)=c.ah.map (·.h)
 st:c'.aj=c.aj
theorem lM.refl(c:CV):lM c c:=⟨rfl,rfl,rfl⟩
theorem lM.trans{a b c:CV}(h:lM a b)(k:lM b c):lM a c:=⟨k.g.trans h.g,k.h.trans h.h,k.st.trans h.st⟩
theorem CH{σ:Gh}{c:CV}{k i b:Int}{I:HL}{eb:Nat->Nat×Nat}{t:Nat}{w:WR}(hE:ir I eb)(hP:cF I t c w)(hr:c.aj=false->m5 σ c)(du:t+1<=2^42):
  bA prog bI 19 #[ay c.G.b,aD k,aD i,aD b] σ [cY c,bD I] (λv σ' As=>∃ c' I',σ'=σ/\v=aD (gH w k i b).2/\Sub I I'/\lM c c'/\cF I' (t+1) c' (gH w k i b).1/\As=[cY c',bD I']):=
 (Q0 hE hP.J hP.cn hr (hP.af4 λ_=>Bh)).post λv σ' As ⟨er,c',I',h1,h2,h3,h4⟩=>by
  obtain⟨p1,p2⟩:=hP.do h3 du;have dI:c'.aj=c.aj:=by have:=congrArg (λr:WP×Int=>r.1.aj) h3.r;exact this.trans (Uf _ _ _ _)
  exact⟨c',I',h1,by rw[h2,p2],h3.sub,⟨h3.g,h3.h,dI⟩,p1,h4⟩
theorem An{σ:Gh}{c:CV}{so:az}{ops:List bP}{I:HL}{eb:Nat->Nat×Nat}{t:Nat}{w:WR}(hE:ir I eb)(hP:cF I t c w)(du:t+1<=2^42)(sO:ops.length<2^43)(G6:fI I cS 37 so ops)(ho:∀ o∈ops,NP o.v):
  bA prog bI 11 #[ay c.G.b,so.v] σ [cY c,bD I] (λv σ' As=>∃ c' I',σ'=σ/\v=.tuple #[aD (bZ w ops).2.1,aD (bZ w ops).2.2]/\Sub I I'/\lM c c'/\cF I' (t+1) c' (bZ w ops).1/\As=[cY c',bD I']):=
 (Bi hE hP.n (by have:=hP.YM;omega) hP.YN.2 sO G6).post λv σ' As ⟨er,tt,iu,iv,I',h1,h2,h3,h4⟩=>by obtain⟨p1,p2,p3,p4⟩:=hP.nJ h4 ho du;exact⟨{c with aK:=iu,aF:=iv},I',h1,by rw[h2,p3,p4],p1,⟨rfl,rfl,rfl⟩,p2,h3⟩
def kH{α:Type}(p:az×α):List Value:=[p.1.v]
instance{α:Type}:iD (kH (α:=α)) 1:=⟨λ_=>rfl,λa v h=>by simp[kH]at h;subst h;rfl⟩
def vM(n:Nat):List Value:=[aD n]
instance:iD vM 1:=⟨λ_=>rfl,λa v h=>by simp[vM]at h;subst h;rfl⟩
structure j4 where
 so:az
 sd:az
 sr:az
 sk:az
 oL:List (az×List bP)
 ord:List Int
 rL:List (az×List Int)
 lk:List Nat
abbrev eF(b:Nat)(h:j4)(F:List HP):List HP:=da b (.cells #[h.so.v,h.sd.v,h.sr.v,h.sk.v] 44 (0,0))::bG kH 1 38 h.so h.oL::bG aJ 1 3 h.sd h.ord::bG kH 1 46 h.sr h.rL::bG vM 1 3 h.sk h.lk::F
structure Ao(I:HL)(h:j4):Prop where
 o:∀ p∈h.oL,fI I cS 37 p.1 p.2
 r:∀ p∈h.rL,fI I cX 21 p.1 p.2
theorem Ao.mono{I I':HL}{h:j4}(hs:Sub I I')(J:Ao I h):Ao I' h:=⟨λp hp=>(J.o p hp).mono hs,λp hp=>(J.r p hp).mono hs⟩
def j4.abs(h:j4):dU:=⟨h.oL.map (·.2),h.ord,h.rL.map (·.2),h.lk⟩
def D4(l:List Int)(t:Int):Int:=match l.findIdx? (· ==t)with|some i=>i|none=> -1
variable{ao:Bool}
theorem vN{b:Nat}{h:j4}{t:Int}(hl:h.ord.length<2^60):aI prog ao cH 47 #[ay b,aD t] (eF b h []) (λv As=>v=aD (D4 h.ord t)/\As=eF b h []):=by
 refine aI.of λR C kd d F c cs aT ak=>?_;simp only[eF,fi,ez];refine gU ?_;refine C.cu (X:=Nat) (λi=>[(0,ay b),(1,aD t),(4,aD 0),(5,aD i)]) (λ_=>eF b h F) (λi=>i<=h.ord.length/\∀ (j:Nat) (hj:j<h.ord.length),j<i->h.ord[j]≠t) (λi=>h.ord.length-i) 0 ⟨rfl,rfl,rfl,rfl,trivial⟩ ⟨eW _,λj _ h=>absurd h (Nat.not_lt_zero _)⟩ ?_;rintro i e ⟨hi,eV⟩ ih;refine gU ?_;refine C.pS rfl ?_ (s:=h.sd) (l:=h.ord) (f:=aJ);refine C.cmp rfl (λKH=>?_) (λKH=>?_)
 ·refine bH ?_;have ee:i<h.ord.length:=ai;refine gu ?_;refine C.dQ rfl ?_ (s:=h.sd) (l:=h.ord) (f:=aJ) (j:=i);refine C.dd (v:=aD (h.ord[i]'ee)) rfl ?_ (s:=h.sd) (l:=h.ord) (f:=aJ) (j:=i);refine fG ?_;refine C.cmp rfl (λh23=>?_) (λh23=>?_)
  ·refine gu ?_;refine C.cm aT ak ⟨?_,rfl⟩;unfold D4;rw[uH.2 ⟨ee,by simpa using h23,λj hj=>by simpa using eV j ai hj⟩]
  ·refine gU ?_;exact again ih (i+1) ⟨ee,λj hj du=>by
    by_cases e:j=i
    ·subst e;exact h23
    ·exact eV j hj ai⟩ ai
 ·refine eP ?_;refine C.cm aT ak ⟨?_,rfl⟩;unfold D4;rw[JD.2 λx hx=>by obtain⟨j,hj,rfl⟩:=mN hx;simpa using eV j hj ai]
end
section
open Go.Proofs Go.Conc
theorem YP{l:List Int}{t:Int}{j:Nat}(hn:l.Nodup)(hj:l[j]? =some t):D4 l t=j:=Ic (h:=⟨[],l,[],[]⟩) hn hj
theorem M3{T:List (List bP)}{q:Nat}(hq:q<T.length):opsOf T (q:Int)=some T[q]:=by unfold opsOf;rw[ax ai,gv,cK hq]
structure M4(T:List (List bP))(h:j4):Prop where
 t:T=h.oL.map (·.2)
 ok:vg T
 nd:h.ord.Nodup
 len:h.rL.length=h.ord.length
 ops:∀ t∈h.ord,(opsOf T t).isSome=true
 val:∀ (j:Nat) (t:Int) rd,h.ord[j]? =some t->(h.rL.map (·.2))[j]? =some rd->mY (runT T (h.ord.take j) bO) ((opsOf T t).getD []) rd=true
theorem M4.ol{T:List (List bP)}{h:j4}(S:M4 T h):h.ord.length<=60:=kh (c:=60) S.nd λt ht=>by obtain⟨o,ho⟩:=oC.1 (S.ops t ht);have h1:=je ho;have h2:=S.ok.2;omega
theorem M4.at{T:List (List bP)}{h:j4}(S:M4 T h){i:Nat}(hi:i<h.ord.length):∃ q:Nat,h.ord[i]=(q:Int)/\∃ hq:q<h.oL.length,opsOf T (q:Int)=some (h.oL[q]).2:=by
 obtain⟨o,ho⟩:=oC.1 (S.ops _ (dp hi));obtain⟨h1,h2,_⟩:=je ho;obtain⟨q,hq⟩:=lK h1;have hl:q<h.oL.length:=by rw[S.t,dW]at h2;omega
 refine⟨q,hq,hl,?_⟩;have:=M3 (T:=T) (q:=q) (by rw[S.t,dW];exact hl);rw[this];congr 1;simp[S.t]
theorem M5{T:List (List bP)}{l:List Int}{i:Nat}{v:List Int}(hi:i<l.length):runT T (l.take (i+1)) v=cA (runT T (l.take i) v) ((opsOf T l[i]).getD []):=by rw[ED,cK hi,zM];rfl
theorem xz{l:List bP}{j:Nat}{v:List Int}(hj:j<l.length):cA v (l.take (j+1))=(if l[j].w then(cA v (l.take j)).set (l[j].k-97).toNat l[j].v else cA v (l.take j)):=by rw[ED,cK hj];unfold cA;rw[kM];rfl
variable{ao:Bool}
theorem D5{b:Nat}{Y:j4}{I:HL}{T:List (List bP)}(J:Ao I Y)(S:M4 T Y):aI prog ao cH 23 #[ay b] (eF b Y [bD I]) (λv As=>∃ sl:az,v=.tuple #[sl.v,.bool true]/\As=bG cX 1 21 sl (runT T Y.ord bO)::eF b Y [bD I]):=by
 refine aI.of λR C kd d F c cs aT ak=>?_;simp only[eF,fi,ez];have Xp:=S.ol;refine gu ?_;refine C.ms (f:=cX) (a0:=0) rfl rfl (λwH=>?_);refine bH ?_;refine At.own (l:=runT T (Y.ord.take 0) bO) (f:=cX) (z:=1) ⟨some ⟨wH,0,none⟩,26,26⟩ [] rfl rfl (e8 _) .head ?_;refine dK ?_;refine C.cu (X:=Nat) (λi=>[(0,ay b),(4,.slice (some ⟨wH,0,none⟩) 26 26),(5,aD i)]) (λi=>bG cX 1 21 ⟨some ⟨wH,0,none⟩,26,26⟩ (runT T (Y.ord.take i) bO)::eF b Y (bD I::F)) (λi=>i<=Y.ord.length) (λi=>Y.ord.length-i) 0 ⟨rfl,rfl,rfl,trivial⟩ (eW _) ?_;intro i e hi ih;refine gU ?_;refine C.pS rfl ?_ (s:=Y.sd) (l:=Y.ord) (f:=aJ);refine C.cmp rfl (λh18=>?_) (λh18=>?_)
 ·refine bH ?_;have ee:i<Y.ord.length:=ai;obtain⟨q,JO,hq,hoq⟩:=S.at ee;have hjo:=J.o _ (dp hq);have Vh:i<Y.rL.length:=by rw[S.len];exact ee
  have Ns:=J.r _ (dp Vh);have yM:D4 Y.ord (q:Int)=i:=YP S.nd (by rw[cK ee,JO]);have hvv:=S.val i q (Y.rL[i]).2 (by rw[cK ee,JO]) (by simp[Vh]);obtain⟨so,lo,G6⟩:∃ a b,Y.oL[q]'hq=(a,b):=⟨_,_,rfl⟩;obtain⟨sr,lr,Ef⟩:∃ a b,Y.rL[i]'Vh=(a,b):=⟨_,_,rfl⟩;rw[G6]at hjo hoq;rw[Ef]at Ns hvv;dsimp only at hjo hoq Ns hvv;have Vv:=S.ok.of hoq;have hl6:lo.length<=6:=Vv.2.2.2;rw[hoq,iA]at hvv;have Tp:(runT T (Y.ord.take i) bO).length=26:=vu _ _ _;refine gU ?_;refine C.dQ rfl ?_ (s:=Y.sd) (l:=Y.ord) (f:=aJ) (j:=i);refine C.dd (v:=aD (q:Int)) rfl ?_ (s:=Y.sd) (l:=Y.ord) (f:=aJ) (j:=i) (hv:=by rw[JO];rfl);refine C.cE (vN (h:=Y) ai) ?_;rw[yM];simp only[eF,fi,ez];refine eP ?_;refine C.dS rfl ?_ (hf:=by intro h;exact h rfl);refine bH ?_;refine C.dx (cW 33 0 13++[(7,13)]) 14 [] 0 ?_;refine Em ?_;refine kK ?_;refine Dr.l (λhE h=>C.dQ rfl h (s:=Y.sd) (l:=Y.ord) (f:=aJ) (j:=i)) ?_;refine Dr.l (v:=aD (q:Int)) (λhE h=>C.dd rfl h (s:=Y.sd) (l:=Y.ord) (f:=aJ) (j:=i) (hv:=by rw[JO];rfl)) ?_;refine Dr.l (λhE h=>C.dQ rfl h (s:=Y.so) (l:=Y.oL) (f:=kH) (j:=q)) ?_;refine Dr.l (v:=so.v) (λhE h=>C.dd rfl h (s:=Y.so) (l:=Y.oL) (f:=kH) (j:=q) (hv:=by rw[G6];rfl)) ?_;refine xT ?_;refine Xf ?_;refine C.cu (X:=Nat×Nat) (λx=>[(0,ay b),(4,.slice (some ⟨wH,0,none⟩) 26 26),(5,aD i),(7,so.v),(8,aD x.2),(9,aD x.1)]) (λx=>bG cX 1 21 ⟨some ⟨wH,0,none⟩,26,26⟩ (runT T (Y.ord.take i) bO)::eF b Y (bD I::F)) (λx=>x.1<=lo.length/\x.2<=lr.length/\x.2<=x.1/\mY (runT T (Y.ord.take i) bO) (lo.drop x.1) (lr.drop x.2)=true) (λx=>lo.length-x.1) (0,0) ⟨rfl,rfl,rfl,rfl,rfl,rfl,trivial⟩ ⟨eW _,eW _,e8 _,hvv⟩ ?_;rintro⟨j,n⟩ e ⟨hj,acC,hnj,GM⟩ Lq;dsimp only at hj acC hnj GM⊢;refine dX ?_;refine C.pS rfl ?_ (s:=so) (l:=lo) (f:=cS);refine C.cmp rfl (λTz=>?_) (λTz=>?_)
  ·refine bH ?_;have Ap:j<lo.length:=ai;rw[o3 Ap]at GM;have GM:=GM;unfold mY at GM;have wX:=(Vv.1 _ (dp Ap)).1;have HO:=(Vv.1 _ (dp Ap)).2.1;refine dK ?_;refine C.dQ rfl ?_ (s:=so) (l:=lo) (f:=cS) (j:=j);refine fG ?_;refine C.w7 rfl ?_ (s:=so) (l:=lo) (f:=cS) (j:=j) (o:=0);refine C.go ?_;refine C.xQ (λYQ=>?_) (λYQ=>?_)
   ·refine gu ?_;rw[aG YQ]at GM;exact again Lq (j+1,n) ⟨Ap,acC,dq,GM⟩ (dq)
   ·refine C.go ?_;rw[ax (by rw[YQ];decide)]at GM;have hn':n<lr.length:=by
     rcases lH n lr.length with z|z
     ·exact z
     ·rw[ni z]at GM;cases GM
    rw[o3 hn']at GM;simp only[jc,sY]at GM;obtain⟨p,hp⟩:=lK (show(0:Int)<=lo[j].k-97 by omega);have Jd:p<26:=ai;rw[hp,gv,cK (by rw[Tp];exact Jd),iA]at GM;refine C.dx (cW 57 0 32) 32 [] 0 ?_;refine pF ?_;refine Dr.l (λhE h=>C.dQ rfl h (s:=Y.sr) (l:=Y.rL) (f:=kH) (j:=i)) ?_;refine Dr.l (v:=sr.v) (λhE h=>C.dd rfl h (s:=Y.sr) (l:=Y.rL) (f:=kH) (j:=i) (hv:=by rw[Ef];rfl)) ?_;refine Dr.l (λhE h=>C.pS rfl h (s:=sr) (l:=lr) (f:=cX)) ?_;refine Dr.p (λh=>C.dS rfl h) ?_;refine pF ?_;refine Dr.l (λhE h=>C.dQ rfl h (s:=Y.sr) (l:=Y.rL) (f:=kH) (j:=i)) ?_;refine Dr.l (v:=sr.v) (λhE h=>C.dd rfl h (s:=Y.sr) (l:=Y.rL) (f:=kH) (j:=i) (hv:=by rw[Ef];rfl)) ?_;refine kK ?_;refine Dr.l (λhE h=>C.dQ rfl h (s:=sr) (l:=lr) (f:=cX) (j:=n)) ?_;refine Dr.l (v:=.int .i32 (lr[n]'hn')) (λhE h=>C.dd rfl h (s:=sr) (l:=lr) (f:=cX) (j:=n)) ?_;refine sV ?_;refine Dr.l (λhE h=>C.dQ rfl h (s:=so) (l:=lo) (f:=cS) (j:=j)) ?_;refine kK ?_;refine Dr.l (v:=.int .u8 (lo[j]'Ap).k) (λhE h=>C.w7 rfl h (s:=so) (l:=lo) (f:=cS) (j:=j) (o:=1)) ?_;refine Dr.p (v:=.int .u8 (p:Int)) (λh=>C.ar rfl h (r:=(p:Int)) (ha:=congrArg some hp)) ?_;refine Dr.l (λhE h=>C.dQ rfl h (s:=⟨some ⟨wH,0,none⟩,26,26⟩) (l:=runT T (Y.ord.take i) bO) (f:=cX) (j:=p) (hj:=by rw[Tp];exact Jd)) ?_;refine Dr.ld (v:=.int .i32 ((runT T (Y.ord.take i) bO)[p]'(by rw[Tp];exact Jd))) ⟨_,rfl,rfl⟩ (λ_ hE _ _ h=>C.dd rfl h (s:=⟨some ⟨wH,0,none⟩,26,26⟩) (l:=runT T (Y.ord.take i) bO) (f:=cX) (j:=p) (hj:=by rw[Tp];exact Jd)) ?_;refine Dr.p (λh=>C.dS rfl h (hf:=by intro z;exact z GM.1)) ?_;refine xT ?_;refine Ch.fin ?_;refine lI ?_;refine fG ?_;exact again Lq (j+1,n+1) ⟨Ap,hn',dq,GM.2⟩ (dq)
  ·refine bH ?_;have ZB:j=lo.length:=ai;rw[ni (JM ZB.symm)]at GM;have eV:(lr.drop n).isEmpty=true:=GM;have AA:lr.length<=n:=by rw[Oc,List.drop_eq_nil_iff]at eV;exact eV
   refine gU ?_;refine C.dQ rfl ?_ (s:=Y.sr) (l:=Y.rL) (f:=kH) (j:=i);refine C.dd (v:=sr.v) rfl ?_ (s:=Y.sr) (l:=Y.rL) (f:=kH) (j:=i) (hv:=by rw[Ef];rfl);refine C.pS rfl ?_ (s:=sr) (l:=lr) (f:=cX);refine C.dS rfl ?_ (hf:=by intro z;exact z ai);refine eP ?_;refine At.turn (A:=bG cX 1 21 ⟨some ⟨wH,0,none⟩,26,26⟩ (runT T (Y.ord.take i) bO)) (A':=bG cX 1 21 ⟨some ⟨wH,0,none⟩,26,26⟩ (cA (runT T (Y.ord.take i) bO) (lo.take 0))) Fo.au (λ_ hh=>hh) ?_;refine C.cu (X:=Nat) (λx=>[(0,ay b),(4,.slice (some ⟨wH,0,none⟩) 26 26),(5,aD i),(7,so.v),(10,aD x)]) (λx=>bG cX 1 21 ⟨some ⟨wH,0,none⟩,26,26⟩ (cA (runT T (Y.ord.take i) bO) (lo.take x))::eF b Y (bD I::F)) (λx=>x<=lo.length) (λx=>lo.length-x) 0 ⟨rfl,rfl,rfl,rfl,rfl,trivial⟩ (eW _) ?_;intro x e2 hx yd;refine dX ?_;refine C.pS rfl ?_ (s:=so) (l:=lo) (f:=cS);refine C.cmp rfl (λYR=>?_) (λYR=>?_)
   ·refine bH ?_;have fb:x<lo.length:=ai;have wX:=(Vv.1 _ (dp fb)).1;have HO:=(Vv.1 _ (dp fb)).2.1;have hwl:(cA (runT T (Y.ord.take i) bO) (lo.take x)).length=26:=by rw[nE];exact Tp
    refine dK ?_;refine C.dQ rfl ?_ (s:=so) (l:=lo) (f:=cS) (j:=x);refine fG ?_;refine C.w7 rfl ?_ (s:=so) (l:=lo) (f:=cS) (j:=x) (o:=0);refine C.go ?_;refine C.xQ (λRo=>?_) (λRo=>?_)
    ·refine C.go ?_;obtain⟨p,hp⟩:=lK (show(0:Int)<=lo[x].k-97 by omega);have Jd:p<26:=ai;refine C.dx (cW 112 0 13) 14 [13] 0 ?_;refine sV ?_;refine Dr.l (λhE h=>C.dQ rfl h (s:=so) (l:=lo) (f:=cS) (j:=x)) ?_;refine kK ?_;refine Dr.l (v:=.int .u8 (lo[x]'fb).k) (λhE h=>C.w7 rfl h (s:=so) (l:=lo) (f:=cS) (j:=x) (o:=1)) ?_;refine Dr.p (v:=.int .u8 (p:Int)) (λh=>C.ar rfl h (r:=(p:Int)) (ha:=congrArg some hp)) ?_;refine kD ?_;refine Dr.l (λhE h=>C.dQ rfl h (s:=so) (l:=lo) (f:=cS) (j:=x)) ?_;refine kK ?_;refine Dr.l (v:=.int .i32 (lo[x]'fb).v) (λhE h=>C.w7 rfl h (s:=so) (l:=lo) (f:=cS) (j:=x) (o:=2)) ?_;refine Dr.l (λhE h=>C.dQ rfl h (s:=⟨some ⟨wH,0,none⟩,26,26⟩) (l:=cA (runT T (Y.ord.take i) bO) (lo.take x)) (f:=cX) (j:=p) (hj:=by rw[hwl];exact Jd)) ?_;refine Dr.chain rfl ?_;refine Ch.m 13 (aY λe aa hk=>?_);refine C.jA (s:=⟨some ⟨wH,0,none⟩,26,26⟩) (l:=cA (runT T (Y.ord.take i) bO) (lo.take x)) (j:=p) (lo[x]'fb).v rfl (hk _ undef ?_) (hj:=by rw[hwl];exact Jd);refine PW ?_;have kS:cA (runT T (Y.ord.take i) bO) (lo.take (x+1))=(cA (runT T (Y.ord.take i) bO) (lo.take x)).set p (lo[x]'fb).v:=by rw[xz fb,aG Ro,hp,gv]
     rw[<- kS];exact again yd (x+1) fb ai
    ·refine gu ?_;have kS:cA (runT T (Y.ord.take i) bO) (lo.take (x+1))=cA (runT T (Y.ord.take i) bO) (lo.take x):=by rw[xz fb,ax (by rw[Ro];decide)]
     rw[<- kS];exact again yd (x+1) fb ai
   ·refine gU ?_;have hxe:x=lo.length:=ai;have kS:cA (runT T (Y.ord.take i) bO) (lo.take x)=runT T (Y.ord.take (i+1)) bO:=by rw[M5 ee,JO,hoq,iA,jD (JM hxe.symm)]
    rw[kS];exact again ih (i+1) ee ai
 ·refine gU ?_;have Qo:i=Y.ord.length:=ai;rw[jD (JM Qo.symm)];exact C.cm aT ak ⟨⟨some ⟨wH,0,none⟩,26,26⟩,rfl,rfl⟩
theorem Un{l:List Int}{t:Int}(h:0<=D4 l t):∃ j:Nat,j<l.length/\D4 l t=j:=by
 unfold D4 at h⊢;cases hf:l.findIdx? (· ==t)with
 |none=>rw[hf]at h;dsimp only at h;omega
 |some j=>exact⟨j,(uH.1 hf).1,rfl⟩
theorem K6{Y:j4}{w:WR}(hT:Cb w Y.abs=true)(hlen:Y.rL.length=Y.ord.length){t:Nat}(ht:t<Y.oL.length):∃ x,w.aF[t]? =some x/\1<=x.state/\x.state<=3/\
  (x.state=2->∃ (j:Nat) (hj:j<Y.rL.length),D4 Y.ord t=(j:Int)/\x.reads=(Y.rL[j]).2)/\(x.state=3->D4 Y.ord t<0):=by
 unfold Cb at hT;rw[kp]at hT;have:=hT t (by rw[l8];simpa[j4.abs]using ht);have yM:Kz Y.abs (t:Int)=D4 Y.ord t:=rfl;rw[yM]at this;cases hx:w.aF[t]? with
 |none=>rw[hx]at this;cases this
 |some x=>
  rw[hx]at this;simp only[jc,Ex,Bool.or_eq_false_iff,Bool.and_eq_false_iff,Og,yB,bne_iff_ne,sY]at this;obtain⟨⟨⟨⟨a1,a2⟩,a3⟩,a4⟩,a5⟩:=this;refine⟨x,rfl,ai,by omega,λh2=>?_,λh3=>?_⟩
  ·have h0:0<=D4 Y.ord t:=by
    rcases a3 with a3|a3
    ·simp[h2]at a3
    ·omega
   obtain⟨j,hj,e⟩:=Un h0;have Ns:j<Y.rL.length:=by rw[hlen];exact hj
   refine⟨j,Ns,e,?_⟩;have a5:=a5.resolve_left λz=>z h2;rw[a5,e];simp[j4.abs,Ns]
  ·rcases a4 with a4|a4
   ·simp[h3]at a4
   ·omega
theorem Je{σ:Gh}{b t0:Nat}{c:CV}{Y:j4}{I:HL}{w:WR}(hP:cF I t0 c w)(J:Ao I Y)(hT:Cb w Y.abs=true)(hlen:Y.rL.length=Y.ord.length)(Xp:Y.ord.length<=60):
  bA prog bI 22 #[ay b,ay c.G.b] σ (eF b Y [cY c,bD I]) (λv σ' As=>σ'=σ/\v=.bool true/\As=eF b Y [cY c,bD I]):=by
 refine bA.of ?_;intro Post os out kd F c' cs C aT ak;simp only[eF,fi,ez];have hnt:=hP.YN;have hoT:Y.oL.length<=w.aF.length:=by
  rcases lH w.aF.length Y.oL.length with h|h
  ·obtain⟨x,hx,_⟩:=K6 hT hlen h;rw[wR (e8 _)]at hx;cases hx
  ·exact h
 refine gU ?_;refine C.cu (X:=Nat) (λi=>[(0,ay b),(1,ay c.G.b),(5,aD i)]) (λ_=>eF b Y (cY c::bD I::F)) (λi=>i<=Y.oL.length) (λi=>Y.oL.length-i) 0 ⟨rfl,rfl,rfl,trivial⟩ (eW _) ?_;intro i e hi ih;refine gU ?_;refine C.pS rfl ?_ (s:=Y.so) (l:=Y.oL) (f:=kH);refine C.cmp rfl (λEo=>?_) (λEo=>?_)
 ·refine bH ?_;have ee:i<Y.oL.length:=ai;obtain⟨x,hx,x1,x3,x2,x33⟩:=K6 hT hlen ee;have hic:i<c.aF.length:=ai;have UZ:(c.aF[i]).toTxR=x:=by
   have:=hP.aF;have h2:(c.aF.map (·.toTxR))[i]? =some x:=by rw[this];exact hx
   rw[fH,cK hic]at h2;exact bR h2
  refine dK ?_;refine aE.j9 (vI hP.J hnt.2) ?_;rintro v σ' aP ⟨rfl,sl,n,rd,rfl,hm,rfl⟩;have m9:Gj c.aF (i:Int)=some c.aF[i]:=by unfold Gj;rw[ax ai,gv,cK hic]
  rw[m9]at hm;obtain⟨rfl,rfl⟩:=hm;have dI:(c.aF[i]).state=x.state:=congrArg TxR.state UZ;have iw:(c.aF[i]).reads=x.reads:=congrArg TxR.reads UZ;rw[dI,iw];refine Vu ?_;refine C.cE (aI.less (dN _) (vN (h:=Y) ai)) ?_;simp only[eF,fi,ez];refine dX ?_;refine C.dS rfl ?_;refine bH ?_;refine C.dS rfl ?_;refine dK ?_;refine C.cmp rfl (λNK=>?_) (λNK=>?_)
  ·refine bH ?_;refine C.dS rfl ?_ (hf:=by obtain⟨j,_,e,_⟩:=x2 NK;rw[e];omega);refine dX ?_;refine C.dS rfl ?_ (hf:=by rw[NK];decide);refine oT ?_;refine C.fA rfl ?_ (hf:=NK);refine bH ?_;obtain⟨j,hj,hja,Ns⟩:=x2 NK;have acD:=J.r _ (dp hj);obtain⟨sr,lr,Ef⟩:∃ a b,Y.rL[j]'hj=(a,b):=⟨_,_,rfl⟩;rw[Ef]at acD Ns;dsimp only at acD Ns;rw[hja,Ns];have akz:lr.length<2^20:=by rw[<- Ns,<- iw];exact(hP.J.aF _ (dp hic)).z
   refine bH ?_;refine C.pS rfl ?_ (s:=sl) (l:=lr) (f:=cX);refine eP ?_;refine C.dQ rfl ?_ (s:=Y.sr) (l:=Y.rL) (f:=kH) (j:=j);refine C.dd (v:=sr.v) rfl ?_ (s:=Y.sr) (l:=Y.rL) (f:=kH) (j:=j) (hv:=by rw[Ef];rfl);refine C.pS rfl ?_ (s:=sr) (l:=lr) (f:=cX);refine C.dS rfl ?_ (hf:=by intro z;exact z rfl);refine eP ?_;refine C.cu (X:=Nat) (λx=>[(0,ay b),(1,ay c.G.b),(5,aD i),(7,sl.v),(8,aD j),(9,aD x)]) (λ_=>bG cX 1 21 sl lr::eF b Y (cY c::bD I::F)) (λx=>x<=lr.length) (λx=>lr.length-x) 0 ⟨rfl,rfl,rfl,rfl,rfl,rfl,trivial⟩ (eW _) ?_;intro x e2 hx yd;refine dX ?_;refine C.pS rfl ?_ (s:=sl) (l:=lr) (f:=cX);refine C.cmp rfl (λh66=>?_) (λh66=>?_)
   ·refine bH ?_;have fb:x<lr.length:=ai;refine C.dx (cW 69 0 15) 15 [] 0 ?_;refine kD ?_;refine Dr.l (λhE h=>C.dQ rfl h (s:=sl) (l:=lr) (f:=cX) (j:=x)) ?_;refine Dr.l (v:=.int .i32 (lr[x]'fb)) (λhE h=>C.dd rfl h (s:=sl) (l:=lr) (f:=cX) (j:=x)) ?_;refine NC ?_;refine Dr.l (λhE h=>C.dQ rfl h (s:=Y.sr) (l:=Y.rL) (f:=kH) (j:=j)) ?_;refine Dr.l (v:=sr.v) (λhE h=>C.dd rfl h (s:=Y.sr) (l:=Y.rL) (f:=kH) (j:=j) (hv:=by rw[Ef];rfl)) ?_;refine kK ?_;refine Dr.l (λhE h=>C.dQ rfl h (s:=sr) (l:=lr) (f:=cX) (j:=x)) ?_;refine Dr.l (v:=.int .i32 (lr[x]'fb)) (λhE h=>C.dd rfl h (s:=sr) (l:=lr) (f:=cX) (j:=x)) ?_;refine Dr.p (λh=>C.dS rfl h (hf:=by intro z;exact z rfl)) ?_;refine Dr.chain rfl ?_;refine Xf ?_;exact again yd (x+1) fb ai
   ·refine gU ?_;exact again ih (i+1) ee ai
  ·refine gU ?_;refine C.cmp rfl (λh44=>?_) (λh44=>?_)
   ·refine bH ?_;refine C.dS rfl ?_ (hf:=by have:=x33 h44;omega);refine gu ?_;refine C.dS rfl ?_ (hf:=NK);refine gU ?_;exact again ih (i+1) ee ai
   ·refine oT ?_;refine C.dS rfl ?_ (hf:=NK);refine gU ?_;exact again ih (i+1) ee ai
 ·refine eP ?_;exact aE.eK aT ak ⟨rfl,rfl,rfl⟩
variable{I:HL}{t:Nat}{c:CV}{w:WR}
theorem cF.logs(h:cF I t c w){q:Nat}(h1:q<c.ah.length)(h2:q<w.sh.length):(c.ah[q]).s.log.map (·.abs.aV)=(w.sh[q]).log/\(c.ah[q]).s.aH=(w.sh[q]).aH/\(w.sh[q]).log.length<=240/\0<=(w.sh[q]).aH/\(w.sh[q]).aH<=(w.sh[q]).log.length:=by obtain⟨a,z,_,_⟩:=h.at h1 h2;refine⟨?_,a.aH,z.log,a.gl⟩;have:=a.log;simpa[di.abs,uG,Bq]using this
theorem cF.af6(h:cF I t c w):∀ v∈c.ah,v.s.log.length<2^30:=λv hv=>by
 obtain⟨q,hq,rfl⟩:=mN hv;have h2:q<w.sh.length:=by rw[<- h.len];exact hq
 obtain⟨e,_,l,_⟩:=h.logs hq h2;have:=congrArg List.length e;rw[dW]at this;omega
theorem Aq{σ:Gh}{c:CV}{q t:Nat}{I:HL}{w:WR}(hP:cF I t c w)(hq:q<w.sh.length):bA prog bI 46 #[ay c.G.b,aD q] σ [cY c,bD I]
  (λv σ' As=>σ'=σ/\∃ (sl:az) (rs:List tZ),v=.tuple #[sl.v,aD (w.sh[q]).aH]/\rs.map (·.toRecR)=(w.sh[q]).log/\As=[bG recC 6 109 sl rs,all (rs.map sX),cY c,bD I]):=
 (Bb (k:=q) hP.n.2 hP.J hP.af6).post λv σ' As ⟨h1,sl,rs,aH,h2,h3,h4⟩=>by
  have K7:q<c.ah.length:=by rw[hP.len];exact hq
  rw[pM K7]at h3;obtain⟨e1,e2,_⟩:=hP.logs K7 hq;exact⟨h1,sl,rs,by rw[h2,h3.2,e2],by rw[h3.1,e1],h4⟩
theorem YS{Y:j4}{w:WR}(h:H6 w Y.abs=true){s:ShR}(hs:s∈w.sh){r:RecR}(hr:r∈s.log)(hk:r.kind=3):(r.yes=true->0<=D4 Y.ord r.tx)/\(r.yes=false->D4 Y.ord r.tx<0):=by
 unfold H6 at h;rw[kp]at h;have:=h s hs;rw[kp]at this;have:=this r hr;have e3:(r.kind != 3)=false:=by simp[hk]
 rw[e3,Jx]at this;have yM:Kz Y.abs r.tx=D4 Y.ord r.tx:=rfl;rw[yM]at this;exact⟨λhy=>by rw[hy,aG rfl]at this;simpa using this,λhy=>by rw[hy,ax (by decide)]at this;simpa using this⟩
theorem M6{σ:Gh}{b t0:Nat}{c:CV}{Y:j4}{I:HL}{w:WR}(hP:cF I t0 c w)(h1:H6 w Y.abs=true)(Xp:Y.ord.length<=60):
  bA prog bI 21 #[ay b,ay c.G.b,aD w.sh.length] σ (eF b Y [cY c,bD I]) (λv σ' As=>σ'=σ/\v=.bool true/\As=eF b Y [cY c,bD I]):=by
 refine bA.of ?_;intro Post os out kd F c' cs C aT ak;simp only[eF,fi,ez];have hn4:=hP.nn;refine lI ?_;refine At.aR aJ 1 3 ?_;refine At.aR aJ 1 3 ?_;refine C.cu (X:=Nat×(az×List Int)×(az×List Int)) (λx=>[(0,ay b),(1,ay c.G.b),(2,aD w.sh.length),(7,x.2.1.1.v),(8,x.2.2.1.v),(9,aD x.1)]) (λx=>bG aJ 1 3 x.2.1.1 x.2.1.2::bG aJ 1 3 x.2.2.1 x.2.2.2::eF b Y (cY c::bD I::F)) (λx=>x.1<=w.sh.length/\(x.2.1.2.length<=240*x.1/\x.2.2.2.length<=240*x.1)/\(∀ t∈x.2.1.2,0<=D4 Y.ord t)/\∀ t∈x.2.2.2,D4 Y.ord t<0) (λx=>w.sh.length-x.1) (0,(aR,[]),(aR,[])) ⟨rfl,rfl,rfl,rfl,rfl,rfl,trivial⟩ ⟨eW _,⟨by simp,by simp⟩,by simp,by simp⟩ ?_;rintro⟨i,⟨sy,ly⟩,⟨sn,ln⟩⟩ e ⟨hi,⟨hly,hln⟩,hyy,hnn⟩ ih;dsimp only at hi hly hln hyy hnn⊢;refine dX ?_;refine C.cmp rfl (λXM=>?_) (λXM=>?_)
 ·refine bH ?_;have ee:i<w.sh.length:=ai;refine dK ?_;refine aE.j9 (Aq hP ee) ?_;rintro v σ' aP ⟨rfl,sl,rs,rfl,vQ,rfl⟩;refine cr ?_;have acE:rs.length<=240:=by have:=congrArg List.length vQ;rw[dW]at this;have h2:=(hP.logs (by rw[hP.len];exact ee) ee).2.2.1;omega
  refine oT ?_;refine C.cu (X:=Nat×(az×List Int)×(az×List Int)) (λx=>[(0,ay b),(1,ay c.G.b),(2,aD w.sh.length),(7,x.2.1.1.v),(8,x.2.2.1.v),(9,aD i),(10,sl.v),(12,aD x.1)]) (λx=>bG aJ 1 3 x.2.1.1 x.2.1.2::bG aJ 1 3 x.2.2.1 x.2.2.2::bG recC 6 109 sl rs::eF b Y (cY c::bD I::F)) (λx=>x.1<=rs.length/\(x.2.1.2.length<=240*i+x.1/\x.2.2.2.length<=240*i+x.1)/\(∀ t∈x.2.1.2,0<=D4 Y.ord t)/\∀ t∈x.2.2.2,D4 Y.ord t<0) (λx=>rs.length-x.1) (0,(sy,ly),(sn,ln)) ⟨rfl,rfl,rfl,rfl,rfl,rfl,rfl,rfl,trivial⟩ ⟨eW _,⟨hly,hln⟩,hyy,hnn⟩ ?_;rintro⟨j,⟨sy1,ly1⟩,⟨sn1,ln1⟩⟩ e1 ⟨hj,⟨af9,aga⟩,Rp,Rq⟩ Lq;dsimp only at hj af9 aga Rp Rq⊢;refine dX ?_;refine C.pS rfl ?_ (s:=sl) (l:=rs) (f:=recC);refine C.cmp rfl (λh31=>?_) (λh31=>?_)
  ·refine bH ?_;have Ap:j<rs.length:=ai;have dR:(rs[j]).toRecR∈(w.sh[i]).log:=by rw[<- vQ];exact bM.2 ⟨_,dp Ap,rfl⟩
   refine dK ?_;refine C.dQ rfl ?_ (s:=sl) (l:=rs) (f:=recC) (j:=j);refine fG ?_;refine C.w7 (v:=aD (rs[j]'Ap).kind) rfl ?_ (s:=sl) (l:=rs) (f:=recC) (j:=j) (o:=0);refine C.cmp rfl (λQd=>?_) (λQd=>?_)
   ·refine gU ?_;exact again Lq (j+1,(sy1,ly1),(sn1,ln1)) ⟨Ap,⟨dq,dq⟩,Rp,Rq⟩ (dq)
   ·refine bH ?_;have LQ:(rs[j]'Ap).kind=3:=uF.1 Qd;have yM:=YS h1 (dp ee) dR LQ;refine dK ?_;refine C.dQ rfl ?_ (s:=sl) (l:=rs) (f:=recC) (j:=j);refine fG ?_;refine C.w7 (v:=.bool (rs[j]'Ap).yes) rfl ?_ (s:=sl) (l:=rs) (f:=recC) (j:=j) (o:=2);refine C.go ?_;refine C.xQ (λYT=>?_) (λYT=>?_)
    ·refine C.go ?_;refine dX ?_;refine C.dQ rfl ?_ (s:=sl) (l:=rs) (f:=recC) (j:=j);refine fG ?_;refine C.w7 (v:=aD (rs[j]'Ap).tx) rfl ?_ (s:=sl) (l:=rs) (f:=recC) (j:=j) (o:=1);refine C.AV rfl (λb51=>?_);refine C.BI (f:=aJ) (s:=sy1) (l:=ly1) (rs[j]'Ap).tx rfl (λs2=>?_) (hsz:=by omega);refine gU ?_;refine again Lq (j+1,(s2,ly1++[(rs[j]'Ap).tx]),(sn1,ln1)) ⟨Ap,⟨by dsimp only;rw[gO,gJ];omega,dq⟩,λt ht=>?_,Rq⟩ (dq);rcases bS.1 ht with ht|ht
     ·exact Rp t ht
     ·rw[dL.1 ht];exact yM.1 YT
    ·refine C.go ?_;refine dX ?_;refine C.dQ rfl ?_ (s:=sl) (l:=rs) (f:=recC) (j:=j);refine fG ?_;refine C.w7 (v:=aD (rs[j]'Ap).tx) rfl ?_ (s:=sl) (l:=rs) (f:=recC) (j:=j) (o:=1);refine C.AV rfl (λb59=>?_);refine C.BI (f:=aJ) (s:=sn1) (l:=ln1) (rs[j]'Ap).tx rfl (λs2=>?_) (hsz:=by omega);refine gU ?_;refine again Lq (j+1,(sy1,ly1),(s2,ln1++[(rs[j]'Ap).tx])) ⟨Ap,⟨dq,by dsimp only;rw[gO,gJ];omega⟩,Rp,λt ht=>?_⟩ (dq);rcases bS.1 ht with ht|ht
     ·exact Rq t ht
     ·rw[dL.1 ht];exact yM.2 YT
  ·refine gU ?_;exact again ih (i+1,(sy1,ly1),(sn1,ln1)) ⟨ee,⟨dq,dq⟩,Rp,Rq⟩ (dq)
 ·refine C.go ?_;refine dX ?_;refine C.cu (X:=Nat) (λx=>[(0,ay b),(1,ay c.G.b),(2,aD w.sh.length),(7,sy.v),(8,sn.v),(13,aD x)]) (λx=>bG aJ 1 3 sy ly::bG aJ 1 3 sn ln::eF b Y (cY c::bD I::F)) (λx=>x<=ly.length) (λx=>ly.length-x) 0 ⟨rfl,rfl,rfl,rfl,rfl,rfl,trivial⟩ (eW _) ?_;intro x e2 hx yd;refine dX ?_;refine C.pS rfl ?_ (s:=sy) (l:=ly) (f:=aJ);refine C.cmp rfl (λh64=>?_) (λh64=>?_)
  ·refine bH ?_;have fb:x<ly.length:=ai;have hax:=hyy _ (dp fb);refine dX ?_;refine C.dQ rfl ?_ (s:=sy) (l:=ly) (f:=aJ) (j:=x);refine C.dd (v:=aD (ly[x]'fb)) rfl ?_ (s:=sy) (l:=ly) (f:=aJ) (j:=x);refine C.cE (aI.less (dN _) (vN (h:=Y) ai)) ?_;simp only[eF,fi,ez];refine dX ?_;refine C.dS rfl ?_;refine gU ?_;exact again yd (x+1) fb ai
  ·refine C.go ?_;refine dX ?_;refine C.cu (X:=Nat) (λx=>[(0,ay b),(1,ay c.G.b),(2,aD w.sh.length),(8,sn.v),(15,aD x)]) (λx=>bG aJ 1 3 sn ln::eF b Y (cY c::bD I::F)) (λx=>x<=ln.length) (λx=>ln.length-x) 0 ⟨rfl,rfl,rfl,rfl,rfl,trivial⟩ (eW _) ?_;intro x e3 hx K3;refine dX ?_;refine C.pS rfl ?_ (s:=sn) (l:=ln) (f:=aJ);refine C.cmp rfl (λh78=>?_) (λh78=>?_)
   ·refine bH ?_;have fb:x<ln.length:=ai;have hax:=hnn _ (dp fb);refine dX ?_;refine C.dQ rfl ?_ (s:=sn) (l:=ln) (f:=aJ) (j:=x);refine C.dd (v:=aD (ln[x]'fb)) rfl ?_ (s:=sn) (l:=ln) (f:=aJ) (j:=x);refine C.cE (aI.less (dN _) (vN (h:=Y) ai)) ?_;simp only[eF,fi,ez];refine dX ?_;refine C.dS rfl ?_;refine gU ?_;exact again K3 (x+1) fb ai
   ·refine C.go ?_;refine dX ?_;exact aE.eK aT ak ⟨rfl,rfl,rfl⟩
theorem Ar{s:ShR}{r:List ShR}{k:Nat}{h h':dU}(e:mR (s::r) k h=(h',true)):∃ h1,rJ s k h=(h1,true)/\mR r (k+1) h1=(h',true):=by
 unfold mR at e;dsimp only at e;generalize rJ s k h=x at e;obtain⟨h1,b⟩:=x;cases b with
 |true=>exact⟨h1,rfl,e⟩
 |false=>cases e
theorem Au{s:ShR}{k:Nat}{h h1:dU}(e:rJ s k h=(h1,true)):((h.looked[k]?.getD 0:Nat):Int)<=s.aH/\s.aH<=s.log.length/\∃ x,jr s.log s.aH.toNat (s.aH.toNat+1) h (h.looked[k]?.getD 0)=(x,true)/\h1={x with looked:=x.looked.set k s.aH.toNat}:=by
 unfold rJ at e;dsimp only at e;split at e
 ·cases e
 ·rename_i hc;refine⟨ai,ai,?_⟩;generalize jr s.log s.aH.toNat (s.aH.toNat+1) h (h.looked[k]?.getD 0)=x at e;obtain⟨x1,b⟩:=x;cases b with
  |true=>injection e with e1 e2;exact⟨x1,rfl,e1.symm⟩
  |false=>cases e
theorem xA{log:List RecR}{g f i:Nat}{h x:dU}(e:jr log g f h i=(x,true))(hf:g+1<=f+i):(g<=i/\x=h)\/
  (i<g/\∃ r f',log[i]? =some r/\0<=r.tx/\r.tx<h.ops.length/\g+1<=f'+(i+1)/\jr log g f' (if(r.kind==2&&r.yes)=true then{h with order:=h.order++[r.tx],reads:=h.reads++[r.reads]}else h) (i+1)=(x,true)):=by
 cases f with
 |zero=>unfold jr at e;injection e with e;exact .inl ⟨ai,e.symm⟩
 |succ f=>
  unfold jr at e;by_cases hi:g<=i
  ·rw[aG hi]at e;injection e with e;exact .inl ⟨hi,e.symm⟩
  ·rw[ax hi]at e;refine .inr ⟨ai,?_⟩;cases hr:log[i]? with
   |none=>rw[hr]at e;cases e
   |some r=>
    rw[hr]at e;dsimp only at e;split at e
    ·cases e
    ·rename_i hb;exact⟨r,f,rfl,ai,by omega,ai,e⟩
variable{R:Nat->aM->Array Obj->Prop}{d:Nat}{As L:List HP}{g:aM}
theorem Av{α:Type}{f:α->HP}{rs:List α}(k:Nat)(h:At R d (all ((rs.drop k).map f)::As) g):At R d (all (rs.map f)::As) g:=by
 have e:rs.map f=(rs.take k).map f++(rs.drop k).map f:=by rw[<- eI,sZ]
 rw[e];refine At.flat ?_;rw[sN];exact At.lP (cV.qF _) (At.iC h)
theorem um{σ:Gh}{b t0:Nat}{c:CV}{Y:j4}{I:HL}{w:WR}{h':dU}(hP:cF I t0 c w)(J:Ao I Y)(oI:mS w Y.abs=(h',true))(hk:Y.lk.length=w.sh.length)(ho:Y.ord.length<=60)(hr:Y.rL.length=Y.ord.length):
  bA prog bI 20 #[ay b,ay c.G.b,aD w.sh.length] σ (eF b Y [cY c,bD I]) (λv σ' As=>σ'=σ/\v=.bool true/\∃ Y' I',Sub I I'/\Ao I' Y'/\Y'.abs=h'/\Y'.lk.length=w.sh.length/\Y'.rL.length=Y'.ord.length/\As=eF b Y' [cY c,bD I']):=by
 refine bA.of ?_;intro Post os out kd F c' cs C aT ak;simp only[eF,fi,ez];have hn4:=hP.nn;refine gU ?_;refine C.cu (X:=Nat×j4×HL) (λx=>[(0,ay b),(1,ay c.G.b),(2,aD w.sh.length),(7,aD x.1)]) (λx=>eF b x.2.1 (cY c::bD x.2.2::F)) (λx=>x.1<=w.sh.length/\mR (w.sh.drop x.1) x.1 x.2.1.abs=(h',true)/\Sub I x.2.2/\Ao x.2.2 x.2.1/\x.2.1.lk.length=w.sh.length/\x.2.1.ord.length<=60+240*x.1/\x.2.1.rL.length=x.2.1.ord.length) (λx=>w.sh.length-x.1) (0,Y,I) ⟨rfl,rfl,rfl,rfl,trivial⟩ ⟨eW _,oI,Sub.refl _,J,hk,dq,hr⟩ ?_;rintro⟨i,Y1,I1⟩ e ⟨hi,LP,gT,J1,wX,KE,VP⟩ ih;dsimp only at hi LP gT J1 wX KE VP⊢;refine dX ?_;refine C.cmp rfl (λui=>?_) (λui=>?_)
 ·refine bH ?_;have ee:i<w.sh.length:=ai;rw[o3 ee]at LP;obtain⟨h1,hls,hlr⟩:=Ar LP;obtain⟨G4,UJ,x1,hgo,hx1⟩:=Au hls;have hik:i<Y1.lk.length:=ai;have sO:Y1.abs.looked[i]?.getD 0=Y1.lk[i]:=by show Y1.lk[i]?.getD 0=_;rw[cK hik];rfl
  rw[sO]at G4 hgo;have hP1:=hP.mono gT;refine dK ?_;refine aE.j9 (Aq hP1 ee) ?_;rintro v σ' aP ⟨rfl,sl,rs,rfl,vQ,rfl⟩;refine cr ?_;have NN:=congrArg List.length vQ;rw[dW]at NN;have acE:=(hP.logs (by rw[hP.len];exact ee) ee).2.2.1;obtain⟨g,hg⟩:=lK (show(0:Int)<=(w.sh[i]).aH by omega);rw[hg]at G4 UJ hgo hx1⊢;rw[gv]at hgo hx1;refine kj ?_;refine C.dQ rfl ?_ (s:=Y1.sk) (l:=Y1.lk) (f:=vM) (j:=i);refine C.dd (v:=aD (Y1.lk[i]'hik:Nat)) rfl ?_ (s:=Y1.sk) (l:=Y1.lk) (f:=vM) (j:=i);refine C.dS rfl ?_;refine dK ?_;refine C.pS rfl ?_ (s:=sl) (l:=rs) (f:=recC);refine C.dS rfl ?_;refine oT ?_;refine C.dQ rfl ?_ (s:=Y1.sk) (l:=Y1.lk) (f:=vM) (j:=i);refine C.dd (v:=aD (Y1.lk[i]'hik:Nat)) rfl ?_ (s:=Y1.sk) (l:=Y1.lk) (f:=vM) (j:=i);refine bH ?_;refine At.fo (A:=all (rs.map sX)) Fo.au ?_;refine Av (Y1.lk[i]'hik) ?_;refine C.cu (X:=Nat×j4×HL) (λx=>[(0,ay b),(1,ay c.G.b),(2,aD w.sh.length),(7,aD i),(8,sl.v),(9,aD g),(10,aD x.1)]) (λx=>eF b x.2.1 (bG recC 6 109 sl rs::all ((rs.drop x.1).map sX)::cY c::bD x.2.2::F)) (λx=>x.1<=g/\(∃ f,g+1<=f+x.1/\jr (w.sh[i]).log g f x.2.1.abs x.1=(x1,true))/\Sub I x.2.2/\Ao x.2.2 x.2.1/\x.2.1.lk.length=w.sh.length/\x.2.1.ord.length<=60+240*i+x.1/\x.2.1.rL.length=x.2.1.ord.length) (λx=>g-x.1) (Y1.lk[i]'hik,Y1,I1) ⟨rfl,rfl,rfl,rfl,rfl,rfl,rfl,trivial⟩ ⟨dq,⟨g+1,dq,hgo⟩,gT,J1,wX,dq,VP⟩ ?_;rintro⟨x,Y2,I2⟩ e2 ⟨hx,⟨f,hf,JZ⟩,qU,J2,HO,U9,T5⟩ yd;dsimp only at hx hf JZ qU J2 HO U9 T5⊢;refine dX ?_;refine C.cmp rfl (λh46=>?_) (λh46=>?_)
  ·refine bH ?_;have fb:x<rs.length:=ai;obtain⟨_,r,f',VP,ZJ,hrn,hf',TY⟩:=(xA JZ hf).resolve_left (λz=>by omega);have hrx:(rs[x]'fb).toRecR=r:=by rw[<- vQ,fH,cK fb]at VP;exact bR VP
   subst hrx;have hrn:(rs[x]'fb).tx<Y2.oL.length:=by have:(rs[x]'fb).tx<((Y2.oL.map (·.2)).length:Nat):=hrn;rw[dW]at this;exact this
   have ZJ:0<=(rs[x]'fb).tx:=ZJ;refine C.dx (cW 49 0 19) 19 [] 0 ?_;refine kD ?_;refine Dr.l (λhE h=>C.dQ rfl h (s:=sl) (l:=rs) (f:=recC) (j:=x)) ?_;refine kK ?_;refine Dr.l (v:=aD (rs[x]'fb).tx) (λhE h=>C.w7 rfl h (s:=sl) (l:=rs) (f:=recC) (j:=x) (o:=1)) ?_;refine Dr.p (λh=>C.dS rfl h) ?_;refine sV ?_;refine Dr.l (λhE h=>C.dQ rfl h (s:=sl) (l:=rs) (f:=recC) (j:=x)) ?_;refine kK ?_;refine Dr.l (v:=aD (rs[x]'fb).tx) (λhE h=>C.w7 rfl h (s:=sl) (l:=rs) (f:=recC) (j:=x) (o:=1)) ?_;refine H4 ?_;refine Dr.l (λhE h=>C.pS rfl h (s:=Y2.so) (l:=Y2.oL) (f:=kH)) ?_;refine Dr.p (λh=>C.dS rfl h) ?_;refine xT ?_;refine zI ?_;refine C.dQ rfl ?_ (s:=sl) (l:=rs) (f:=recC) (j:=x);refine fG ?_;refine C.w7 (v:=aD (rs[x]'fb).kind) rfl ?_ (s:=sl) (l:=rs) (f:=recC) (j:=x) (o:=0);refine C.cmp rfl (λh73=>?_) (λh73=>?_)
   ·refine dK ?_;refine C.dQ rfl ?_ (s:=sl) (l:=rs) (f:=recC) (j:=x);refine fG ?_;refine C.w7 (v:=.bool (rs[x]'fb).yes) rfl ?_ (s:=sl) (l:=rs) (f:=recC) (j:=x) (o:=2);refine bH ?_;refine C.xQ (λYU=>?_) (λYU=>?_)
    ·refine C.go ?_;refine TW (q:=0) (rs:=rs.drop x) (by rw[CU];omega) Fo.au ?_;rw[show(rs.drop x)[0]'(by rw[CU];omega)=rs[x]'fb by simp,show(rs.drop x).eraseIdx 0=rs.drop (x+1) by rw[o3 fb];rfl];refine At.O9 (s:=(rs[x]'fb).sr) (l:=(rs[x]'fb).reads) (f:=cX) (el:=21) Fo.au Fo.au (λI3 K4 him=>?_);refine C.dx (cW 81 0 14) 15 [10,11,14] 1 ?_;refine nH ?_;refine Dr.l (λhE h=>C.dQ rfl h (s:=sl) (l:=rs) (f:=recC) (j:=x)) ?_;refine kK ?_;refine Dr.l (v:=aD (rs[x]'fb).tx) (λhE h=>C.w7 rfl h (s:=sl) (l:=rs) (f:=recC) (j:=x) (o:=1)) ?_;refine A5 ?_;refine Ch.m 10 (aY λe aa hk=>?_);refine C.AV rfl (λb91=>hk _ _ .cons ?_);refine Ch.m 11 (aY λe aa hk=>?_);refine C.BI (f:=aJ) (s:=Y2.sd) (l:=Y2.ord) (rs[x]'fb).tx rfl (λs92=>?_);refine hk _ _ ?_;refine Ch.m 14 (aY λe aa hk=>?_);refine C.st rfl (hk _ undef ?_);refine fP ?_;refine C.dx (cW 95 0 14) 15 [10,11,14] 1 ?_;refine nH ?_;refine Dr.l (λhE h=>C.dQ rfl h (s:=sl) (l:=rs) (f:=recC) (j:=x)) ?_;refine kK ?_;refine Dr.l (v:=(rs[x]'fb).sr.v) (λhE h=>C.w7 rfl h (s:=sl) (l:=rs) (f:=recC) (j:=x) (o:=5)) ?_;refine A5 ?_;refine Ch.m 10 (aY λe aa hk=>?_);refine C.AV rfl (λakF=>hk _ _ .cons ?_);refine Ch.m 11 (aY λe aa hk=>?_);refine C.BI (f:=kH) (s:=Y2.sr) (l:=Y2.rL) ((rs[x]'fb).sr,(rs[x]'fb).reads) rfl (λage=>?_);refine hk _ _ ?_;refine Ch.m 14 (aY λe aa hk=>?_);refine C.st rfl (hk _ undef ?_);refine PW ?_;have hy:((rs[x]'fb).toRecR.kind==2&&(rs[x]'fb).toRecR.yes)=true:=by have e1:(rs[x]'fb).toRecR.kind=2:=h73;have e2:(rs[x]'fb).toRecR.yes=true:=YU;rw[e1,e2];rfl
     rw[aG hy]at TY;refine again yd (x+1,{Y2 with sd:=s92,ord:=Y2.ord++[(rs[x]'fb).tx],sr:=age,rL:=Y2.rL++[((rs[x]'fb).sr,(rs[x]'fb).reads)]},I3) ⟨dq,⟨f',dq,?_⟩,qU.trans K4,⟨λp hp=>(J2.o p hp).mono K4,λp hp=>?_⟩,HO,by dsimp only;rw[gO,gJ];omega,by dsimp only;rw[gO,gO,T5];rfl⟩ (dq)
     ·rw[<- TY];unfold j4.abs;simp only[eI,gW,l6]
     ·rcases bS.1 hp with hp|hp
      ·exact(J2.r p hp).mono K4
      ·rw[dL.1 hp];exact him
    ·refine gu ?_;have hy:((rs[x]'fb).toRecR.kind==2&&(rs[x]'fb).toRecR.yes)=false:=by have e2:(rs[x]'fb).toRecR.yes=false:=YU;rw[e2,Ju]
     rw[ax (by rw[hy];decide)]at TY;refine At.fo (A:=all ((rs.drop x).map sX)) Fo.au ?_;refine Av 1 ?_;rw[Jr];exact again yd (x+1,Y2,I2) ⟨dq,⟨f',dq,TY⟩,qU,J2,HO,dq,T5⟩ (dq)
   ·refine kj ?_;refine fG ?_;have hy:((rs[x]'fb).toRecR.kind==2&&(rs[x]'fb).toRecR.yes)=false:=by
     have e2:((rs[x]'fb).toRecR.kind==2)=false:=by have:¬ (rs[x]'fb).toRecR.kind=2:=h73;simpa using this
     rw[e2,yD]
    rw[ax (by rw[hy];decide)]at TY;refine At.fo (A:=all ((rs.drop x).map sX)) Fo.au ?_;refine Av 1 ?_;rw[Jr];exact again yd (x+1,Y2,I2) ⟨dq,⟨f',dq,TY⟩,qU,J2,HO,dq,T5⟩ (dq)
  ·refine bH ?_;have hxe:x1=Y2.abs:=by
    rcases xA JZ hf with z|z
    ·exact z.2
    ·exact absurd z.1 ai
   have akG:i<Y2.lk.length:=ai;refine gU ?_;refine C.dQ rfl ?_ (s:=Y2.sk) (l:=Y2.lk) (f:=vM) (j:=i);refine C.jA (s:=Y2.sk) (l:=Y2.lk) (j:=i) g rfl ?_;refine gu ?_;refine again ih (i+1,{Y2 with lk:=Y2.lk.set i g},I2) ⟨ee,?_,qU,⟨J2.o,J2.r⟩,by dsimp only;rw[eg];exact HO,dq,T5⟩ (dq);dsimp only;rw[hx1,hxe]at hlr;exact hlr
 ·refine eP ?_;have Qo:i=w.sh.length:=ai;rw[ni (JM Qo.symm)]at LP;have:Y1.abs=h':=by unfold mR at LP;injection LP
  exact aE.eK aT ak ⟨rfl,rfl,Y1,I1,gT,J1,this,wX,VP,rfl⟩
theorem lM.Uo{σ:Gh}{c c':CV}(h:lM c c')(r:m5 σ c):m5 σ c':=r.same h.g h.h
theorem M7{σ:Gh}{c:CV}{q t:Nat}{I:HL}{w:WR}(hP:cF I t c w)(hq:q<w.sh.length):bA prog bI 31 #[ay c.G.b,aD q] σ [cY c]
  (λv σ' As=>σ'=σ/\∃ (u:Value) (A:HP),v=.tuple #[u,aD (w.sh[q]).aX.length]/\As=[A,cY c]):=
 (MH (k:=q) hP.n.2).post λv σ' As ⟨h1,sl,l',h2,h3,h4,h5⟩=>by
  have K7:q<c.ah.length:=by rw[hP.len];exact hq
  rw[pM K7]at h4;have:=((hP.at K7 hq).1.Yk hP.rel.tok).eq l' h3 h4;exact⟨h1,sl.v,_,by rw[h2,this.1],h5⟩
theorem Jf{σ:Gh}{c:CV}{q t:Nat}{I:HL}{w:WR}(hP:cF I t c w)(hq:q<w.sh.length):bA prog bI 14 #[ay c.G.b,aD q] σ [cY c]
  (λv σ' As=>σ'=σ/\∃ (sl:az) (m:Nat),v=.tuple #[sl.v,aD m]/\m=QK (w.sh[q]).bT/\As=[bG cX 1 21 sl (w.sh[q]).bT,cY c]):=
 (IK (k:=q) hP.n.2).post λv σ' As ⟨h1,sl,l',h2,h3,h4,h5⟩=>by
  have K7:q<c.ah.length:=by rw[hP.len];exact hq
  rw[pM K7]at h4;have:=((hP.at K7 hq).1.Yj (hP.rng.sh _ (dp hq)).bT).eq l' h3 h4;exact⟨h1,sl,l'.length,h2,this.2,by rw[h5,this.1]⟩
theorem M8{σ:Gh}{c:CV}{q t:Nat}{I:HL}{w:WR}(hP:cF I t c w)(hq:q<w.sh.length):bA prog bI 29 #[ay c.G.b,aD q] σ [cY c]
  (λv σ' As=>σ'=σ/\v=.bool (w.sh[q]).up/\As=[cY c]):=
 (Qx (k:=q) hP.n.2).post λv σ' As ⟨h1,h2,h3⟩=>by
  have K7:q<c.ah.length:=by rw[hP.len];exact hq
  rw[pM K7]at h2;exact⟨h1,by rw[h2];exact congrArg Value.bool (hP.at K7 hq).1.up,h3⟩
theorem Jg{σ:Gh}{c:CV}{q t:Nat}{I:HL}{w:WR}(hP:cF I t c w)(hq:q<w.aF.length):bA prog bI 13 #[ay c.G.b,aD q] σ [cY c,bD I]
  (λv σ' As=>σ'=σ/\∃ sl:az,v=.tuple #[aD (w.aF[q]).state,sl.v]/\As=[bG cX 1 21 sl (w.aF[q]).reads,cY c,bD I]):=
 (vI (k:=q) hP.J hP.YN.2).post λv σ' As ⟨h1,sl,n,rd,h2,h3,h4⟩=>by
  have K7:q<c.aF.length:=by rw[hP.YN.1];exact hq
  have m9:Gj c.aF (q:Int)=some c.aF[q]:=by unfold Gj;rw[ax ai,gv,cK K7]
  rw[m9]at h3;have UZ:(c.aF[q]).toTxR=w.aF[q]:=by
   have h2:(c.aF.map (·.toTxR))[q]? =some (w.aF[q]):=by rw[hP.aF];exact cK hq
   rw[fH,cK K7]at h2;exact bR h2
  obtain⟨rfl,rfl⟩:=h3;exact⟨h1,sl,by rw[h2,<- UZ],by rw[h4,<- UZ]⟩
theorem Jh{σ:Gh}{c:CV}{t:Nat}{I:HL}{w:WR}(hP:cF I t c w):bA prog bI 30 #[ay c.G.b] σ [cY c,bD I]
  (λv σ' As=>σ'=σ/\∃ (sl:az) (ms:List dM),v=sl.v/\ms.length=w.aK.length/\As=[bG dt 7 159 sl ms,all (ms.map Gm),cY c,bD I]):=
 (Mz hP.J (λm hm=>by have:=(hP.rel.aba (hP.msg hm)).2;have h2:m.ops.length<=6:=this;omega) (by have:=hP.YM;omega)).post λv σ' As ⟨h1,sl,ms,h2,h3,h4⟩=>by refine⟨h1,sl,ms,h2,?_,h4⟩;have e1:=congrArg List.length h3;have e2:=congrArg List.length hP.aK;simp only[dW]at e1 e2;omega
end
section
open Go.Proofs Go.Conc
theorem qp{n s:Nat}(h:s<n):(List.range n).drop s=s::(List.range n).drop (s+1):=by rw[o3 (by simpa using h),JC]
theorem Rr{s:Nat}{r:List Nat}{w wA:WR}(h:P0 (s::r) w=(wA,true))(hs:s<w.sh.length):((w.sh[s]).up=true/\P0 r w=(wA,true))\/((w.sh[s]).up=false/\(gH w 8 s 0).2=0/\P0 r (gH w 8 s 0).1=(wA,true)):=by
 unfold P0 at h;rw[cK hs,jR,iA]at h;by_cases hu:(w.sh[s]).up=true
 ·rw[aG hu]at h;exact .inl ⟨hu,h⟩
 ·rw[ax hu]at h;dsimp only at h;split at h
  ·cases h
  ·rename_i hz;exact .inr ⟨by simpa using hu,uF.1 hz,h⟩
theorem Ji{s:Nat}{r:List Nat}{w wE:WR}{h hE:dU}(e:vp (s::r) w h=(wE,hE,true)):(gH w 5 s 0).2=0/\∃ h1,mS (gH w 5 s 0).1 h=(h1,true)/\vp r (gH w 5 s 0).1 h1=(wE,hE,true):=by
 unfold vp at e;dsimp only at e;split at e
 ·cases e
 ·rename_i hz;rw[not_or]at hz;have h2:(mS (gH w 5 s 0).1 h).2=true:=by simpa using hz.2
  generalize hl:mS (gH w 5 s 0).1 h=x at*;obtain⟨h1,b⟩:=x;dsimp only at h2 e;subst h2;exact⟨uF.1 hz.1,h1,rfl,e⟩
theorem Jj{n f:Nat}{w wB:WR}{h hB:dU}(e:turns n (f+1) w h=(wB,hB,true)):∃ wE hE,vp (List.range n) (eY 3000 w) h=(wE,hE,true)/\turns n f wE hE=(wB,hB,true):=by
 unfold turns at e;dsimp only at e;generalize vp (List.range n) (eY 3000 w) h=x at*;obtain⟨wE,hE,b⟩:=x;cases b with
 |true=>exact⟨wE,hE,rfl,e⟩
 |false=>cases e
theorem qH(f:Nat)(w:WR):((gH w 2 0 0).2≠0/\eY (f+1) w=(gH w 2 0 0).1)\/((gH w 2 0 0).2=0/\eY (f+1) w=eY f (gH w 2 0 0).1):=by
 by_cases h:(gH w 2 0 0).2≠0
 ·exact .inl ⟨h,by rw[eY,aG h]⟩
 ·exact .inr ⟨uF.1 h,by rw[eY,ax h]⟩
theorem CJ{t left lC:Nat}{r:List Nat}{w wC:WR}(h:asks (t::r) w left=(wC,lC,true))(ht:t<w.aF.length):((w.aF[t]).state=1/\(gH w 1 t 0).2=0/\asks r (gH w 1 t 0).1 (left+1)=(wC,lC,true))\/((w.aF[t]).state≠1/\asks r w left=(wC,lC,true)):=by
 unfold asks at h;rw[cK ht,jR,iA]at h;by_cases hu:(w.aF[t]).state=1
 ·rw[aG hu]at h;dsimp only at h;split at h
  ·cases h
  ·rename_i hz;exact .inl ⟨hu,uF.1 hz,h⟩
 ·rw[ax hu]at h;exact .inr ⟨hu,h⟩
theorem Aw{s left lD:Nat}{r:List Nat}{w wD:WR}(h:nI (s::r) w left=(wD,lD,true))(hs:s<w.sh.length):(0<left+(w.sh[s]).aX.length/\((gH w 6 s 0).2=0\/(gH w 6 s 0).2=3)/\nI r (gH w 6 s 0).1 (left+(w.sh[s]).aX.length)=(wD,lD,true))\/(left+(w.sh[s]).aX.length=0/\nI r w (left+(w.sh[s]).aX.length)=(wD,lD,true)):=by
 unfold nI at h;rw[cK hs,jR,iA]at h;dsimp only at h;by_cases hu:0<left+(w.sh[s]).aX.length
 ·rw[aG hu]at h;split at h
  ·cases h
  ·rename_i hz;refine .inl ⟨hu,?_,h⟩;by_cases h0:(gH w 6 s 0).2=0
   ·exact .inl h0
   ·exact .inr (uF.1 λh3=>hz ⟨h0,h3⟩)
 ·rw[ax hu]at h;exact .inr ⟨ai,h⟩
theorem GN{n aF f:Nat}{w w':WR}{h h':dU}(e:j6 n aF (f+1) w h=(w',h',true)):∃ wA wB hB wC lC wD lD,P0 (List.range n) w=(wA,true)/\turns n 10 wA h=(wB,hB,true)/\asks (List.range aF) wB wB.aK.length=(wC,lC,true)/\nI (List.range n) wC lC=(wD,lD,true)/\((lD=0/\wD=w'/\hB=h')\/(lD≠0/\j6 n aF f wD hB=(w',h',true))):=by
 unfold j6 at e;dsimp only at e;generalize ha:P0 (List.range n) w=a at e;obtain⟨wA,ba⟩:=a;cases ba with
 |false=>cases e
 |true=>
  simp only[s5,gn,eR]at e;generalize hb:turns n 10 wA h=b at e;obtain⟨wB,hB,bb⟩:=b;cases bb with
  |false=>cases e
  |true=>
   simp only[s5,gn,eR]at e;generalize hc:asks (List.range aF) wB wB.aK.length=c at e;obtain⟨wC,lC,bc⟩:=c;cases bc with
   |false=>cases e
   |true=>
    simp only[s5,gn,eR]at e;generalize hd:nI (List.range n) wC lC=d at e;obtain⟨wD,lD,bd⟩:=d;cases bd with
    |false=>cases e
    |true=>
     simp only[s5,gn,eR]at e;refine⟨wA,wB,hB,wC,lC,wD,lD,rfl,hb,hc,hd,?_⟩;by_cases hl:lD=0
     ·rw[aG hl]at e;injection e with e1 e2;injection e2 with e2
      exact .inl ⟨hl,e1,e2⟩
     ·rw[ax hl]at e;exact .inr ⟨hl,e⟩
theorem sa:∀ (l:List ShR) (k:Nat) (h:dU),(∀ s∈l,0<=s.aH/\s.aH<=s.log.length)->(∀ (j:Nat) s,l[j]? =some s->h.looked[k+j]? =some s.aH.toNat)->mR l k h=(h,true)
 |[],_,_,_,_=>rfl
 |s::l,k,h,hg,hl=>by
  have h0:=hl 0 s rfl;rw[Nat.add_zero]at h0;obtain⟨g1,g2⟩:=hg s (fY ..);have e:rJ s k h=(h,true):=by
   unfold rJ;rw[h0,iA];rw[ax ai];have:jr s.log s.aH.toNat (s.aH.toNat+1) h s.aH.toNat=(h,true):=by unfold jr;rw[aG (e8 _)]
   rw[this];simp only[eN]
   congr 1
   have hs:h.looked.set k s.aH.toNat=h.looked:=by
    apply Ew;intro j;rw[oY];by_cases hj:k=j
    ·subst hj;obtain⟨hk,HO⟩:=dG.1 h0;rw[aG rfl,aG hk,h0]
    ·rw[ax hj]
   rw[hs]
  unfold mR;rw[e];simp only[eN];exact sa l (k+1) h (λz hz=>hg z (fp _ hz)) λj z hz=>by have:=hl (j+1) z (by simpa using hz);rw[show k+1+j=k+(j+1) by omega];exact this
theorem Rs{w:WR}{k a b:Int}(hk:k≠5/\k≠7):(gH w k a b).1.sh.map (·.aH)=w.sh.map (·.aH):=by
 have kS:∀ (i:Nat) (s x:ShR),w.sh[i]? =some s->x.aH=s.aH->(w.sh.set i x).map (·.aH)=w.sh.map (·.aH):=λi s x hs hx=>by
  rw[wT,hx];obtain⟨hi,rfl⟩:=dG.1 hs;apply Ew;intro j;rw[oY];by_cases hj:i=j
  ·subst hj;rw[aG rfl,aG (by simpa using hi),fH,cK hi];rfl
  ·rw[ax hj]
 generalize hx:gH w k a b=x;unfold gH at hx;split at hx
 ·subst hx;rfl
 split at hx
 ·subst hx;rfl
 split at hx
 ·split at hx
  ·subst hx;rfl
  split at hx
  ·subst hx;rfl
  ·subst hx;rw[show(iW w a.toNat,(0:Int)).1.sh=w.sh from(pG w _).1]
 split at hx
 ·unfold gR at hx;split at hx
  ·subst hx;rfl
  ·split at hx
   ·subst hx;rfl
   ·rename_i m hm;split at hx
    ·split at hx<;>(subst hx;rfl)
    ·dsimp only at hx;split at hx
     ·subst hx;rfl
     ·split at hx
      ·subst hx;rw[show(p9 {w with aK:=w.aK.eraseIdx a.toNat} m,(0:Int)).1.sh=w.sh from wq _ _]
      ·split at hx
       ·subst hx;rfl
       ·rename_i s hs;split at hx
        ·subst hx;exact kS _ s _ hs (wj s m).1
        ·subst hx;rfl
 split at hx
 ·subst hx;rfl
 split at hx
 ·subst hx;rfl
 ·rename_i s hs;split at hx
  ·split at hx
   ·subst hx;rfl
   ·subst hx;exact kS _ s _ hs (qi s).2
  split at hx
  ·subst hx;rfl
  split at hx
  ·rename_i h5;exact absurd h5 hk.1
  split at hx
  ·split at hx
   ·subst hx;rfl
   ·subst hx;exact kS _ s _ hs (wm s).2
  ·omega
theorem kF.still{n:Nat}{w:WR}{h:dU}(S:kF n w h){k a b:Int}(hk:k≠5/\k≠7):kF n (Go.Sl.gH w k a b).1 h:=by
 obtain⟨h',e,_,S'⟩:=S.gH k a b;have hl:h.looked=w.sh.map λs=>s.aH.toNat:=by obtain⟨_,W,G,t,F,I,V⟩:=S;exact I.looked
 have hg:∀ s∈(Go.Sl.gH w k a b).1.sh,0<=s.aH/\s.aH<=s.log.length:=λs hs=>by obtain⟨_,W,G,t,F,I,V⟩:=S';obtain⟨i,hi⟩:=l9.1 hs;exact F.aH hi
 have:mS (Go.Sl.gH w k a b).1 h=(h,true):=by
  unfold mS;refine sa _ 0 h hg λj s hs=>?_;rw[l5,hl];have h1:((Go.Sl.gH w k a b).1.sh.map (·.aH))[j]? =some s.aH:=by rw[fH,hs];rfl
  rw[Rs hk,fH]at h1;obtain⟨z,hz,hz2⟩:=G3.1 h1;rw[fH,hz,jR,hz2]
 rw[this]at e;injection e with e
 rw[e];exact S'
theorem uo{log:List RecR}{g:Nat}{o:List (List bP)}:∀ (f i:Nat) {h x:dU},jr log g f h i=(x,true)->h.ops.length<=o.length->jr log g f {h with ops:=o} i=({x with ops:=o},true)/\x.ops=h.ops
 |0,i,h,x,e,hl=>by unfold jr at e⊢;injection e with e;subst e;exact⟨rfl,rfl⟩
 |f+1,i,h,x,e,hl=>by
  unfold jr at e⊢;by_cases hi:g<=i
  ·rw[aG hi]at e⊢;injection e with e;subst e;exact⟨rfl,rfl⟩
  ·rw[ax hi]at e⊢;cases hr:log[i]? with
   |none=>rw[hr]at e;cases e
   |some r=>
    rw[hr]at e;dsimp only at e⊢;split at e
    ·cases e
    ·rename_i hb;rw[ax ai];by_cases hy:(r.kind==2&&r.yes)=true
     ·rw[aG hy]at e⊢;exact uo f (i+1) (h:={h with order:=h.order++[r.tx],reads:=h.reads++[r.reads]}) e hl
     ·rw[ax hy]at e⊢;exact uo f (i+1) e hl
theorem CL{o:List (List bP)}:∀ (l:List ShR) (k:Nat) {h x:dU},mR l k h=(x,true)->h.ops.length<=o.length->mR l k {h with ops:=o}=({x with ops:=o},true)/\x.ops=h.ops
 |[],k,h,x,e,hl=>by unfold mR at e⊢;injection e with e;subst e;exact⟨rfl,rfl⟩
 |s::l,k,h,x,e,hl=>by
  obtain⟨h1,e1,e2⟩:=Ar e;obtain⟨b1,b2,y,e3,e4⟩:=Au e1;obtain⟨z1,z2⟩:=uo (o:=o) _ _ e3 hl;have hs:rJ s k {h with ops:=o}=({h1 with ops:=o},true):=by unfold rJ;dsimp only;rw[ax ai,z1];simp only[eN];rw[e4]
  obtain⟨w1,w2⟩:=CL l (k+1) e2 (by rw[e4];show y.ops.length<=_;rw[z2];exact hl);refine⟨?_,by rw[w2,e4];exact z2⟩;unfold mR;rw[hs];simp only[eN];exact w1
def uu(n:Nat)(w:WR)(h:dU):Prop:=∃ o,o.length<=h.ops.length/\kF n w {h with ops:=o}
theorem kF.q{n:Nat}{w:WR}{h:dU}(S:kF n w h):uu n w h:=⟨h.ops,e8 _,S⟩
theorem uu.still{n:Nat}{w:WR}{h:dU}(S:uu n w h){k a b:Int}(hk:k≠5/\k≠7):uu n (Go.Sl.gH w k a b).1 h:=by obtain⟨o,h1,h2⟩:=S;exact⟨o,h1,h2.still hk⟩
theorem uu.look{n:Nat}{w:WR}{h h1:dU}(S:uu n w h){k a b:Int}(hl:mS (Go.Sl.gH w k a b).1 h=(h1,true)):uu n (Go.Sl.gH w k a b).1 h1:=by
 obtain⟨o,ho,S⟩:=S;obtain⟨h2,e,_,S2⟩:=S.gH k a b;obtain⟨z1,z2⟩:=CL (o:=h.ops) _ _ e ho;have z1:mS (Go.Sl.gH w k a b).1 h=({h2 with ops:=h.ops},true):=z1;rw[hl]at z1;injection z1 with z1
 refine⟨o,by rw[z1];exact ho,?_⟩;have:({h1 with ops:=o}:dU)=h2:=by rw[z1];have z2:h2.ops=o:=z2;rw[<- z2]
 rw[this];exact S2
theorem uu.facts{n:Nat}{w:WR}{Y:j4}(S:uu n w Y.abs):w.sh.length=n/\Y.lk.length=n/\Y.rL.length=Y.ord.length/\Y.ord.length<=60:=by
 obtain⟨o,_,h1,W,G,t,F,I,V⟩:=S;have h2:=congrArg List.length I.looked;rw[dW]at h2;have h2:Y.lk.length=w.sh.length:=h2;have h3:Y.rL.length=Y.ord.length:=by have:=I.p.len;simpa[j4.abs]using this
 have h4:Y.ord.length<=60:=kh (c:=60) I.p.nd λt ht=>by obtain⟨o,ho⟩:=oC.1 (I.Dz F t ht);have h1:=je ho;have h2:=F.rel.tok.2;omega
 exact⟨h1,h2.trans h1,h3,h4⟩
structure CM where
 c:CV
 w:WR
 Y:j4
 I:HL
 t:Nat
structure lV(c0:CV)(I0:HL)(n aF:Nat)(x:CM):Prop where
 p:cF x.I x.t x.c x.w
 j:Ao x.I x.Y
 s:uu n x.w x.Y.abs
 c:lM c0 x.c
 i:Sub I0 x.I
 tx:x.w.aF.length=aF
variable{σ:Gh}{c0:CV}{I0:HL}{n aF:Nat}{x:CM}{eb:Nat->Nat×Nat}
theorem K8(w:WR)(k a b:Int):(gH w k a b).1.aF.length=w.aF.length:=by have:=congrArg List.length (yp w k a b);simpa[cJ]using this
theorem K9{k i b:Int}(hE:ir I0 eb)(ok:lV c0 I0 n aF x)(dI:c0.aj=false)(hr:m5 σ c0)(du:x.t+1<=2^42)(hk:k≠5/\k≠7):
  bA prog bI 19 #[ay c0.G.b,aD k,aD i,aD b] σ [cY x.c,bD x.I] (λv σ' As=>σ'=σ/\v=aD (gH x.w k i b).2/\∃ c' I',lV c0 I0 n aF ⟨c',(gH x.w k i b).1,x.Y,I',x.t+1⟩/\As=[cY c',bD I']):=by
 have hG:ay c0.G.b=ay x.c.G.b:=by rw[ok.c.g]
 rw[hG];refine(CH (hE.mono ok.i) ok.p (λ_=>ok.c.Uo hr) du).post ?_;rintro v σ' As ⟨c',I',h1,h2,h3,h4,h5,h6⟩;exact⟨h1,h2,c',I',⟨h5,ok.j.mono h3,ok.s.still hk,ok.c.trans h4,ok.i.trans h3,by show(gH x.w k i b).1.aF.length=aF;rw[K8];exact ok.tx⟩,h6⟩
theorem Rt{i b:Int}(hE:ir I0 eb)(ok:lV c0 I0 n aF x)(dI:c0.aj=false)(hr:m5 σ c0)(du:x.t+1<=2^42){k:Int}:
  bA prog bI 19 #[ay c0.G.b,aD k,aD i,aD b] σ [cY x.c,bD x.I] (λv σ' As=>σ'=σ/\v=aD (gH x.w k i b).2/\∃ c' I',(cF I' (x.t+1) c' (gH x.w k i b).1/\lM c0 c'/\Sub x.I I')/\As=[cY c',bD I']):=by
 have hG:ay c0.G.b=ay x.c.G.b:=by rw[ok.c.g]
 rw[hG];refine(CH (hE.mono ok.i) ok.p (λ_=>ok.c.Uo hr) du).post ?_;rintro v σ' As ⟨c',I',h1,h2,h3,h4,h5,h6⟩;exact⟨h1,h2,c',I',⟨h5,ok.c.trans h4,h3⟩,h6⟩
theorem Uq{k i b:Int}{bh:Nat}{c':CV}{I':HL}{h1:dU}(ok:lV c0 I0 n aF x)(hP:cF I' (x.t+1) c' (gH x.w k i b).1)(hc:lM c0 c')(hs:Sub x.I I')(hl:mS (gH x.w k i b).1 x.Y.abs=(h1,true)):
  bA prog bI 20 #[ay bh,ay c0.G.b,aD n] σ (eF bh x.Y [cY c',bD I']) (λv σ' As=>σ'=σ/\v=.bool true/\∃ Y2 I2,Y2.abs=h1/\lV c0 I0 n aF ⟨c',(gH x.w k i b).1,Y2,I2,x.t+1⟩/\As=eF bh Y2 [cY c',bD I2]):=by
 obtain⟨f1,f2,f3,f4⟩:=ok.s.facts;have S':=ok.s.look hl;have hn:(n:Int)=(gH x.w k i b).1.sh.length:=by rw[oi,f1]
 have hG:ay c0.G.b=ay c'.G.b:=by rw[hc.g]
 rw[hn,hG];refine(um hP (ok.j.mono hs) hl (by rw[oi,f2,f1]) f4 f3).post ?_;rintro v σ' As ⟨a1,a2,Y',I2,a3,a4,a5,a6,a7,a8⟩;refine⟨a1,a2,Y',I2,a5,⟨hP.mono a3,a4,by show uu n _ Y'.abs;rw[a5];exact S',hc,(ok.i.trans hs).trans a3,by show(gH x.w k i b).1.aF.length=aF;rw[K8];exact ok.tx⟩,a8⟩
theorem acI{s:Nat}(ok:lV c0 I0 n aF x)(hs:s<x.w.sh.length):bA prog bI 29 #[ay c0.G.b,aD s] σ [cY x.c] (λv σ' As=>σ'=σ/\v=.bool (x.w.sh[s]).up/\As=[cY x.c]):=by
 have hG:ay c0.G.b=ay x.c.G.b:=by rw[ok.c.g]
 rw[hG];exact M8 ok.p hs
theorem YV(ok:lV c0 I0 n aF x):bA prog bI 30 #[ay c0.G.b] σ [cY x.c,bD x.I] (λv σ' As=>σ'=σ/\∃ (sl:az) (ms:List dM),v=sl.v/\ms.length=x.w.aK.length/\As=[bG dt 7 159 sl ms,all (ms.map Gm),cY x.c,bD x.I]):=by
 have hG:ay c0.G.b=ay x.c.G.b:=by rw[ok.c.g]
 rw[hG];exact Jh ok.p
theorem Jk{q:Nat}(ok:lV c0 I0 n aF x)(hq:q<x.w.aF.length):bA prog bI 13 #[ay c0.G.b,aD q] σ [cY x.c,bD x.I] (λv σ' As=>σ'=σ/\∃ sl:az,v=.tuple #[aD (x.w.aF[q]).state,sl.v]/\As=[bG cX 1 21 sl (x.w.aF[q]).reads,cY x.c,bD x.I]):=by
 have hG:ay c0.G.b=ay x.c.G.b:=by rw[ok.c.g]
 rw[hG];exact Jg ok.p hq
theorem YW{q:Nat}(ok:lV c0 I0 n aF x)(hq:q<x.w.sh.length):bA prog bI 31 #[ay c0.G.b,aD q] σ [cY x.c] (λv σ' As=>σ'=σ/\∃ (u:Value) (A:HP),v=.tuple #[u,aD (x.w.sh[q]).aX.length]/\As=[A,cY x.c]):=by
 have hG:ay c0.G.b=ay x.c.G.b:=by rw[ok.c.g]
 rw[hG];exact M7 ok.p hq
theorem lV.agf(ok:lV c0 I0 n aF x){q:Nat}(hq:q<x.w.sh.length):(x.w.sh[q]).aX.length<=26:=(ok.p.at (by rw[ok.p.len];exact hq) hq).2.1.aX
theorem qq{σ:Gh}{b n aF:Nat}{c0:CV}{I0:HL}{x0:CM}{eb:Nat->Nat×Nat}{w':WR}{h':dU}(hE:ir I0 eb)(YX:lV c0 I0 n aF x0)(dI:c0.aj=false)(hr:m5 σ c0)(hs:j6 n aF 60 x0.w x0.Y.abs=(w',h',true))(du:x0.t+4194304<=2^42):
  bA prog bI 12 #[ay c0.G.b,aD n,aD aF,ay b] σ (eF b x0.Y [cY x0.c,bD x0.I]) (λv σ' As=>σ'=σ/\v=.bool true/\∃ x,lV c0 I0 n aF x/\x.w=w'/\x.Y.abs=h'/\x.t<=x0.t+4194304/\As=eF b x.Y [cY x.c,bD x.I]):=by
 refine bA.of ?_;intro Post os out kd F c' cs C aT ak;simp only[eF,fi,ez];have hn4:n<=4/\1<=n:=by have h1:=YX.p.nn;have h2:=YX.s.facts.1;omega
 have ah6:aF<=60:=by have:=YX.p.YN;have:=YX.tx;omega
 obtain⟨K,hK⟩:∃ K,K=3000:=⟨_,rfl⟩;refine gU ?_;refine C.cu (X:=Nat×CM) (λx=>[(0,ay c0.G.b),(1,aD n),(2,aD aF),(3,ay b),(9,aD x.1)]) (λx=>eF b x.2.Y (cY x.2.c::bD x.2.I::F)) (λx=>x.1<=60/\lV c0 I0 n aF x.2/\j6 n aF (60-x.1) x.2.w x.2.Y.abs=(w',h',true)/\x.2.t<=x0.t+31000*x.1) (λx=>60-x.1) (0,x0) ⟨rfl,rfl,rfl,rfl,rfl,trivial⟩ ⟨eW _,YX,hs,dq⟩ ?_;rintro⟨r,xr⟩ e ⟨agh,okr,Ef,htr⟩ ih;dsimp only at agh okr Ef htr⊢;refine dK ?_;refine C.cmp rfl (λVK=>?_) (λVK=>?_)
 ·refine bH ?_;have oD:r<60:=ai;rw[show 60-r=(59-r)+1 by omega]at Ef;obtain⟨wA,wB,hB,wC,lC,wD,lD,eA,eB,eC,eD,eZ⟩:=GN Ef;refine dK ?_;refine C.cu (X:=Nat×CM) (λx=>[(0,ay c0.G.b),(1,aD n),(2,aD aF),(3,ay b),(9,aD r),(10,aD x.1)]) (λx=>eF b x.2.Y (cY x.2.c::bD x.2.I::F)) (λx=>x.1<=n/\lV c0 I0 n aF x.2/\P0 ((List.range n).drop x.1) x.2.w=(wA,true)/\x.2.Y.abs=xr.Y.abs/\x.2.t<=xr.t+x.1) (λx=>n-x.1) (0,xr) ⟨rfl,rfl,rfl,rfl,rfl,rfl,trivial⟩ ⟨eW _,okr,eA,rfl,dq⟩ ?_;rintro⟨s,⟨c,w,Y,I,t⟩⟩ e1 ⟨hsn,ok,hu,hY,ht⟩ Lq;dsimp only at hsn ok hu hY ht⊢;refine dX ?_;refine C.cmp rfl (λh34=>?_) (λh34=>?_)
  ·refine bH ?_;have Ax:s<n:=ai;have oB:s<w.sh.length:=by have:=ok.s.facts.1;dsimp only at this;omega
   rw[qp Ax]at hu;refine dK ?_;refine aE.j9 (acI ok oB) ?_;rintro v σ' aP ⟨rfl,rfl,rfl⟩;refine cr ?_;rcases Rr hu oB with⟨dP,Re⟩|⟨dP,Eg,Re⟩
   all_goals rw[dP]
   ·refine lI ?_;refine fG ?_;exact again Lq (s+1,⟨c,w,Y,I,t⟩) ⟨Ax,ok,Re,hY,dq⟩ (dq)
   ·refine tU ?_;refine aE.j9 (K9 (k:=8) (i:=s) (b:=0) hE ok dI hr (dq) (by decide)) ?_;rintro v σ' aP ⟨rfl,rfl,c2,I2,Es,rfl⟩;dsimp only at Es⊢;rw[Eg];refine Ca ?_;refine C.dS rfl ?_ (hf:=by intro z;exact z rfl);refine gU ?_;exact again Lq (s+1,⟨c2,(gH w 8 s 0).1,Y,I2,t+1⟩) ⟨Ax,Es,Re,hY,dq⟩ (dq)
  ·refine eP ?_;have hse:s=n:=ai;rw[ni (by rw[yI];omega)]at hu;have hwA:w=wA:=by unfold P0 at hu;injection hu
   subst hwA;refine C.cu (X:=Nat×CM) (λx=>[(0,ay c0.G.b),(1,aD n),(2,aD aF),(3,ay b),(9,aD r),(13,aD x.1)]) (λx=>eF b x.2.Y (cY x.2.c::bD x.2.I::F)) (λx=>x.1<=10/\lV c0 I0 n aF x.2/\turns n (10-x.1) x.2.w x.2.Y.abs=(wB,hB,true)/\x.2.t<=t+3010*x.1) (λx=>10-x.1) (0,⟨c,w,Y,I,t⟩) ⟨rfl,rfl,rfl,rfl,rfl,rfl,trivial⟩ ⟨eW _,ok,by dsimp only;rw[hY];exact eB,dq⟩ ?_;rintro⟨tn,xt⟩ e2 ⟨htn,ZP,GP,htt⟩ yd;dsimp only at htn ZP GP htt⊢;refine dK ?_;refine C.cmp rfl (λh48=>?_) (λh48=>?_)
   ·refine bH ?_;have agi:tn<10:=ai;rw[show 10-tn=(9-tn)+1 by omega]at GP;obtain⟨wE,GC,eS,eT⟩:=Jj GP;refine dK ?_;apply mj (X:=CM) (λx=>lV c0 I0 n aF x/\x.w=eY 3000 xt.w/\x.Y.abs=xt.Y.abs/\x.t<=xt.t+K) (λ_=>[(0,ay c0.G.b),(1,aD n),(2,aD aF),(3,ay b),(9,aD r),(13,aD tn)]) (λx=>eF b x.Y (cY x.c::bD x.I::F)) (R:=aE prog Post bI σ 0 os out) (d:=0) (fn:=12) (kd:=kd) (n:=127) (ds:=[]) (cs:=c'::cs)
    ·intro GL;refine C.cu (X:=Nat×CM) (λx=>[(0,ay c0.G.b),(1,aD n),(2,aD aF),(3,ay b),(9,aD r),(13,aD tn),(14,aD x.1)]) (λx=>eF b x.2.Y (cY x.2.c::bD x.2.I::F)) (λx=>x.1<=3000/\lV c0 I0 n aF x.2/\eY (3000-x.1) x.2.w=eY 3000 xt.w/\x.2.Y.abs=xt.Y.abs/\x.2.t<=xt.t+x.1) (λx=>3000-x.1) (0,xt) ⟨rfl,rfl,rfl,rfl,rfl,rfl,rfl,trivial⟩ ⟨eW _,ZP,by dsimp only,rfl,dq⟩ ?_;rintro⟨k,⟨c,w,Y,I,t'⟩⟩ e3 ⟨hk,ok,hd,hY,Ps⟩ K3;dsimp only at hk ok hd hY Ps⊢;refine dK ?_;refine C.cmp rfl (λIu=>?_) (λIu=>?_)
     ·refine bH ?_;have nP:k<3000:=ai;rw[show 3000-k=(2999-k)+1 by omega]at hd;refine bH ?_;refine aE.j9 (K9 (k:=2) (i:=0) (b:=0) hE ok dI hr (dq) (by decide)) ?_;rintro v σ' aP ⟨rfl,rfl,c2,I2,Es,rfl⟩;dsimp only at Es⊢;refine Ca ?_;refine C.cmp rfl (λVD=>?_) (λVD=>?_)
      ·refine bH ?_;exact bN GL ⟨c2,(gH w 2 0 0).1,Y,I2,t'+1⟩ ⟨Es,by dsimp only;rw[<- hd];exact(((qH (2999-k) w).resolve_right λz=>VD z.1).2).symm,hY,dq⟩
      ·refine gU ?_;exact again K3 (k+1,⟨c2,(gH w 2 0 0).1,Y,I2,t'+1⟩) ⟨nP,Es,by dsimp only;rw[show 3000-(k+1)=2999-k by omega,<- hd];exact(((qH (2999-k) w).resolve_left λz=>VD z.1).2).symm,hY,dq⟩ (dq)
     ·refine bH ?_;have LQ:k=3000:=ai;rw[show 3000-k=0 by omega,eY]at hd;exact bN GL ⟨c,w,Y,I,t'⟩ ⟨ok,hd,hY,dq⟩
    ·rintro⟨c,w,Y,I,t2⟩ ⟨ok,hw,hY,ht2⟩ ev;dsimp only at ok hw hY ht2;subst hw;refine dK ?_;refine C.cu (X:=Nat×CM) (λx=>[(0,ay c0.G.b),(1,aD n),(2,aD aF),(3,ay b),(9,aD r),(13,aD tn),(16,aD x.1)]) (λx=>eF b x.2.Y (cY x.2.c::bD x.2.I::F)) (λx=>x.1<=n/\lV c0 I0 n aF x.2/\vp ((List.range n).drop x.1) x.2.w x.2.Y.abs=(wE,GC,true)/\x.2.t<=t2+x.1) (λx=>n-x.1) (0,⟨c,eY 3000 xt.w,Y,I,t2⟩) ⟨rfl,rfl,rfl,rfl,rfl,rfl,rfl,trivial⟩ ⟨eW _,ok,by dsimp only;rw[hY];exact eS,dq⟩ ?_;rintro⟨s,⟨c,w,Y,I,t4⟩⟩ e4 ⟨hsn,ok,Sz,ht4⟩ ih4;dsimp only at hsn ok Sz ht4⊢;refine dX ?_;refine C.cmp rfl (λDI=>?_) (λDI=>?_)
     ·refine bH ?_;have Ax:s<n:=ai;rw[qp Ax]at Sz;obtain⟨Eg,h1,LP,agj⟩:=Ji Sz;refine dK ?_;refine aE.j9 (Rt (k:=5) (i:=s) (b:=0) hE ok dI hr (dq)) ?_;rintro v σ' aP ⟨rfl,rfl,c2,I2,⟨YY,P8,qU⟩,rfl⟩;dsimp only at YY qU⊢;rw[Eg];refine Xe ?_;refine aE.j9 (Uq (k:=5) (i:=s) (b:=0) ok YY P8 qU LP) ?_;rintro v σ' aP ⟨rfl,rfl,Y2,I3,hY2,Es,rfl⟩;dsimp only at Es⊢;simp only[eF,fi,ez];refine dX ?_;refine C.dS rfl ?_ (hf:=by intro z;exact z rfl);refine lI ?_;exact again ih4 (s+1,⟨c2,(gH w 5 s 0).1,Y2,I3,t4+1⟩) ⟨Ax,Es,by dsimp only;rw[hY2];exact agj,dq⟩ (dq)
     ·refine gU ?_;have akL:s=n:=ai;rw[ni (by rw[yI];omega)]at Sz;unfold vp at Sz;injection Sz with e1 e2
      injection e2 with e2
      subst e1 e2;exact again yd (tn+1,⟨c,w,Y,I,t4⟩) ⟨agi,ok,by dsimp only;rw[show 10-(tn+1)=9-tn by omega];exact eT,dq⟩ (dq)
   ·refine bH ?_;have hte:tn=10:=ai;subst hte;unfold turns at GP;injection GP with e1 e2
    injection e2 with e2
    obtain⟨c,w,Y,I,t5⟩:=xt;dsimp only at ZP htt e1 e2⊢;subst e1 e2;obtain⟨B,hB⟩:∃ B,B=300000:=⟨_,rfl⟩;have DX:w.aK.length<=B:=by rw[hB];exact ZP.p.inv.aK
    refine bH ?_;refine aE.j9 (YV ZP) ?_;rintro v σ' aP ⟨rfl,sl,ms,rfl,VF,rfl⟩;dsimp only at VF;refine cr ?_;refine C.pS rfl ?_ (s:=sl) (l:=ms) (f:=dt);refine eP ?_;refine C.cu (X:=Nat×Nat×CM) (λx=>[(0,ay c0.G.b),(1,aD n),(2,aD aF),(3,ay b),(9,aD r),(19,aD x.2.1),(20,aD x.1)]) (λx=>eF b x.2.2.Y (cY x.2.2.c::bD x.2.2.I::F)) (λx=>x.1<=aF/\lV c0 I0 n aF x.2.2/\asks ((List.range aF).drop x.1) x.2.2.w x.2.1=(wC,lC,true)/\x.2.2.Y.abs=Y.abs/\x.2.1<=B+x.1/\x.2.2.t<=t5+x.1) (λx=>aF-x.1) (0,ms.length,⟨c,w,Y,I,t5⟩) ⟨rfl,rfl,rfl,rfl,rfl,rfl,rfl,trivial⟩ ⟨eW _,ZP,by dsimp only;rw[VF];exact eC,rfl,(show ms.length<=B+0 by omega),e8 _⟩ ?_;rintro⟨q,lf,⟨c1,w1,Y1,I1,t1⟩⟩ e5 ⟨hq,ok,NM,hY1,hlf,Cc⟩ ih5;dsimp only at hq ok NM hY1 hlf Cc⊢;refine dX ?_;refine C.cmp rfl (λh82=>?_) (λh82=>?_)
    ·refine bH ?_;have AN:q<aF:=ai;have M9:q<w1.aF.length:=by have:=ok.tx;dsimp only at this;omega
     rw[qp AN]at NM;refine dK ?_;refine aE.j9 (Jk ok M9) ?_;rintro v σ' aP ⟨rfl,Sv,rfl,rfl⟩;refine Ky ?_;refine C.cmp rfl (λh92=>?_) (λh92=>?_)
     ·refine bH ?_;obtain⟨_,Eg,YZ⟩:=(CJ NM M9).resolve_right λz=>z.1 h92;refine nT ?_;refine aE.j9 (K9 (k:=1) (i:=q) (b:=0) hE ok dI hr (dq) (by decide)) ?_;rintro v σ' aP ⟨rfl,rfl,c2,I2,Es,rfl⟩;dsimp only at Es⊢;rw[Eg];refine Ca ?_;refine C.dS rfl ?_ (hf:=by intro z;exact z rfl);refine gU ?_;exact again ih5 (q+1,lf+1,⟨c2,(gH w1 1 q 0).1,Y1,I2,t1+1⟩) ⟨AN,Es,YZ,hY1,(show lf+1<=B+(q+1) by omega),(show t1+1<=t5+(q+1) by omega)⟩ (dq)
     ·refine gU ?_;have YZ:=((CJ NM M9).resolve_left λz=>h92 z.1).2;exact again ih5 (q+1,lf,⟨c1,w1,Y1,I1,t1⟩) ⟨AN,ok,YZ,hY1,(show lf<=B+(q+1) by omega),(show t1<=t5+(q+1) by omega)⟩ (dq)
    ·refine eP ?_;have hqe:q=aF:=ai;rw[ni (by rw[yI];omega)]at NM;unfold asks at NM;injection NM with e1 e2
     injection e2 with e2
     subst e1 e2;refine C.cu (X:=Nat×Nat×CM) (λx=>[(0,ay c0.G.b),(1,aD n),(2,aD aF),(3,ay b),(9,aD r),(19,aD x.2.1),(24,aD x.1)]) (λx=>eF b x.2.2.Y (cY x.2.2.c::bD x.2.2.I::F)) (λx=>x.1<=n/\lV c0 I0 n aF x.2.2/\nI ((List.range n).drop x.1) x.2.2.w x.2.1=(wD,lD,true)/\x.2.2.Y.abs=Y.abs/\x.2.1<=B+60+26*x.1/\x.2.2.t<=t1+x.1) (λx=>n-x.1) (0,lf,⟨c1,w1,Y1,I1,t1⟩) ⟨rfl,rfl,rfl,rfl,rfl,rfl,rfl,trivial⟩ ⟨eW _,ok,eD,hY1,(show lf<=B+60+26*0 by omega),e8 _⟩ ?_;rintro⟨s,Y0,⟨c3,w3,Y3,I3,t3⟩⟩ e6 ⟨hsn,VS,Gn,ZQ,agm,ht3⟩ ih6;dsimp only at hsn VS Gn ZQ agm ht3⊢;refine dX ?_;refine C.cmp rfl (λago=>?_) (λago=>?_)
     ·refine bH ?_;have Ax:s<n:=ai;have oB:s<w3.sh.length:=by have:=VS.s.facts.1;dsimp only at this;omega
      have agp:=VS.agf oB;dsimp only at agp;rw[qp Ax]at Gn;refine dK ?_;refine aE.j9 (YW VS oB) ?_;rintro v σ' aP ⟨rfl,u,A,rfl,rfl⟩;refine Vu ?_;refine C.ar rfl ?_ (r:=((Y0+(w3.sh[s]'oB).aX.length:Nat):Int)) (ha:=congrArg some (Int.natCast_add _ _).symm);refine dX ?_;refine C.cmp rfl (λagq=>?_) (λagq=>?_)
      ·refine bH ?_;obtain⟨_,agr,Ur⟩:=(Aw Gn oB).resolve_right λz=>by omega
       refine dK ?_;refine aE.j9 (K9 (k:=6) (i:=s) (b:=0) hE VS dI hr (dq) (by decide)) ?_;rintro v σ' aP ⟨rfl,rfl,c4,I4,ok4,rfl⟩;dsimp only at ok4⊢;rcases agr with Eg|Eg
       all_goals rw[Eg]
       all_goals simp only[fi,ez]
       ·refine dX ?_;refine C.dS rfl ?_ (hf:=by intro z;exact z rfl);refine lI ?_;exact again ih6 (s+1,Y0+(w3.sh[s]'oB).aX.length,⟨c4,(gH w3 6 s 0).1,Y3,I4,t3+1⟩) ⟨Ax,ok4,Ur,ZQ,(show Y0+(w3.sh[s]'oB).aX.length<=B+60+26*(s+1) by omega),(show t3+1<=t1+(s+1) by omega)⟩ (dq)
       ·refine dX ?_;refine C.fA rfl ?_ (hf:=by decide);refine bH ?_;refine C.dS rfl ?_ (hf:=by intro z;exact z rfl);refine nT ?_;exact again ih6 (s+1,Y0+(w3.sh[s]'oB).aX.length,⟨c4,(gH w3 6 s 0).1,Y3,I4,t3+1⟩) ⟨Ax,ok4,Ur,ZQ,(show Y0+(w3.sh[s]'oB).aX.length<=B+60+26*(s+1) by omega),(show t3+1<=t1+(s+1) by omega)⟩ (dq)
      ·refine gU ?_;have Ur:=((Aw Gn oB).resolve_left λz=>by omega).2;exact again ih6 (s+1,Y0+(w3.sh[s]'oB).aX.length,⟨c3,w3,Y3,I3,t3⟩) ⟨Ax,VS,Ur,ZQ,(show Y0+(w3.sh[s]'oB).aX.length<=B+60+26*(s+1) by omega),(show t3<=t1+(s+1) by omega)⟩ (dq)
     ·refine bH ?_;have akP:s=n:=ai;rw[ni (by rw[yI];omega)]at Gn;unfold nI at Gn;injection Gn with e1 e2
      injection e2 with e2
      subst e1 e2;refine bH ?_;refine C.cmp rfl (λacK=>?_) (λacK=>?_)
      ·refine eP ?_;obtain⟨_,z2,z3⟩:=eZ.resolve_right λz=>z.1 ai;exact aE.eK aT ak ⟨rfl,rfl,⟨c3,w3,Y3,I3,t3⟩,VS,z2,by dsimp only;rw[ZQ];exact z3,dq,rfl⟩
      ·refine gU ?_;have z2:=(eZ.resolve_left λz=>acK ai).2;exact again ih (r+1,⟨c3,w3,Y3,I3,t3⟩) ⟨oD,VS,by dsimp only;rw[ZQ,show 60-(r+1)=59-r by omega];exact z2,dq⟩ (dq)
 ·refine eP ?_;have hre:r=60:=ai;subst hre;unfold j6 at Ef;injection Ef with _ z
  injection z with _ z
  cases z
theorem At.chans{R:Nat->aM->Array Obj->Prop}{d:Nat}{As W:List HP}{g:aM}{c:CV}(hf:Fo (cY c) As W)(h:c.chans.Nodup->At R d As g):At R d As g:=λH st=>by obtain⟨h1,a,_,_⟩:=st.perm hf.perm;exact h (Q1 0 c h1 a).1 H st
theorem La{σ σ1:Gh}{c:CV}(h0:pN σ)(N:rT σ σ1 c.G c.ah)(hn:1<=c.ah.length/\c.ah.length<=4)(hs:c.aj=false)(nd:c.chans.Nodup):
  m5 σ1 c/\∀ c',lM c c'->m5 σ1 c'/\pN (σ1.gX c'.ids):=by
 have hr:=(KZ.nil h0).new N hn hs (by simpa using nd);have hd:=hr.reg c (by simp) hs;refine⟨hd,λc' hc=>⟨hc.Uo hd,?_⟩⟩;have nO:c'.aj=false:=by rw[hc.st];exact hs
 have h1:=hr.set (i:=0) (by simp) (c':=c') (by simpa using hc.g) (by simpa using hc.h) (by simpa using hc.st);have h2:=h1.stop (i:=0) (by simp) (by simp only[ez,sK,Lj,List.flatMap_nil,l7];rw[CV.IZ hc.g hc.h];exact nd)
 have h3:=h2.idle (by intro z hz;simp only[ez,sK,dL]at hz;rw[hz])
 simp only[ez,sK,V5,nO,gn,eR]at h3;exact h3
theorem Na{σ:Gh}{I:HL}{v:Value}{sc:List xy}(hi:Ah I σ.bot tw 6 v sc)(hs:∀ s∈sc,tA I σ.bot s)(hl:sc.length<=2^41):
  aI prog true (bI.bw σ) 16 #[v] [bD I] (λv As=>∃ n:Nat,(1<=n/\n<=4)/\v=aD n/\As=[bD I]):=by
 refine aI.of λR C kd d F c cs aT ak=>?_;refine cr ?_;obtain⟨a,cap,rfl,jB⟩:=hi;refine gU ?_;refine C.cu (X:=Nat) (λi=>[(0,.slice a sc.length cap),(3,aD i)]) (λ_=>bD I::F) (λi=>i<=sc.length) (λi=>sc.length-i) 0 ⟨rfl,rfl,trivial⟩ (eW _) ?_;intro i e TO ih;refine dX ?_;refine C.ln rfl ?_;refine C.cmp rfl (λh7=>?_) (λh7=>?_)
 ·refine bH ?_;have hj:i<sc.length:=ai;rcases jB with rfl|⟨b,off,cc,ty,fr,rfl,hI,qJ,sR⟩
  ·exact absurd hj (by simp)
  have dI:=hs _ (dp hj);have Z5:=sR i hj 0 (by decide);have hz2:=sR i hj 2 (by decide);obtain⟨s,hs0⟩:∃ s,s=sc[i]:=⟨_,rfl⟩;rw[<- hs0]at dI Z5 hz2;have Us:b<(bI.bw σ).bot:=qJ;refine dK ?_;refine C.ia (j:=(i:Int)) (o:=off+i*6) rfl ?_ (hoff:=by simp);refine fG ?_;refine C.ldK (Ext.MA (λ_ st=>st) Fo.au hI) Us Z5 rfl ?_;refine C.cmp rfl (λsF=>?_) (λsF=>?_)
  ·refine eP ?_;refine C.ia (j:=(i:Int)) (o:=off+i*6) rfl ?_ (hoff:=by simp);refine fG ?_;refine C.ldK (Ext.MA (λ_ st=>st) Fo.au hI) Us hz2 rfl ?_;refine C.arw (p:=s.a) (q:=1) (r:=s.a-1) rfl ?_;have Ze: -9223372036854775808<=IntKind.i64.wrap (s.a-1)/\IntKind.i64.wrap (s.a-1)<=9223372036854775807:=by rw[IntKind.wrap_i64];omega
   refine C.cE (aI.less (dN _) (MC (b:=4) Ze (by decide))) (A:=[]) ?_;refine qY ?_;have hpr:=MB (a:=IntKind.i64.wrap (s.a-1)) (b:=4) (by decide);obtain⟨q,hq⟩:=lK hpr.1;rw[hq]at hpr⊢;refine C.ar rfl ?_ (r:=((1+q:Nat):Int)) (ha:=congrArg some (Int.natCast_add _ _).symm);refine bH ?_;exact C.cm aT ak ⟨1+q,ai,rfl,rfl⟩
  ·refine gU ?_;exact again ih (i+1) hj ai
 ·refine eP ?_;exact C.cm aT ak ⟨3,ai,rfl,rfl⟩
def x6:List bP:=[⟨true,97,5⟩,⟨true,98,7⟩]
def D6:List bP:=[⟨false,98,0⟩,⟨false,97,0⟩]
def lvH:dU:=⟨[[],[]],[],[],[0,0]⟩
def R9:WR×Int×Int:=bZ (kU 2) x6
def GQ:WR×dU×Bool:=j6 2 1 60 R9.1 lvH
def Ut:WR×Int×Int:=bZ GQ.1 D6
def x7:WR×dU×Bool:=j6 2 2 60 Ut.1 GQ.2.1
def acL:Bool:=R9.2.1==0&&R9.2.2==0&&GQ.2.2&&GQ.2.1.ops.length==2&&Ut.2.1==1&&Ut.2.2==0&&x7.2.2&&((x7.1.aF[0]?).map (·.state)).getD 0==2&&((x7.1.aF[1]?).map (·.state)).getD 0==2&&((x7.1.aF[1]?).map (·.reads)).getD []==[7,5]&&((x7.1.sh[1]?).map (·.bT)).getD []==bO.set 1 7
theorem Nb:acL=true:=by decide+kernel
theorem qu:(R9.2.1=0/\R9.2.2=0)/\GQ.2.2=true/\GQ.2.1.ops.length=2/\(Ut.2.1=1/\Ut.2.2=0)/\x7.2.2=true/\((x7.1.aF[0]?).map (·.state)).getD 0=2/\((x7.1.aF[1]?).map (·.state)).getD 0=2/\((x7.1.aF[1]?).map (·.reads)).getD []=[7,5]/\((x7.1.sh[1]?).map (·.bT)).getD []=bO.set 1 7:=by have h:=Nb;unfold acL at h;simp only[jc,sY]at h;obtain⟨⟨⟨⟨⟨⟨⟨⟨⟨⟨h1,h2⟩,h3⟩,h4⟩,h5⟩,h6⟩,h7⟩,h8⟩,h9⟩,Xv⟩,xo⟩:=h;exact⟨⟨h1,h2⟩,h3,h4,⟨h5,h6⟩,h7,h8,h9,Xv,xo⟩
theorem Y4:j6 2 1 60 R9.1 lvH=(GQ.1,GQ.2.1,true):=by have h:=qu.2.1;show GQ=_;generalize GQ=x at h;obtain⟨a,b,c⟩:=x;dsimp only at h;subst h;rfl
theorem Y5:j6 2 2 60 Ut.1 GQ.2.1=(x7.1,x7.2.1,true):=by have h:=qu.2.2.2.2.1;show x7=_;generalize x7=x at h;obtain⟨a,b,c⟩:=x;dsimp only at h;subst h;rfl
theorem Ru:(∀ o∈x6,NP o.v)/\∀ o∈D6,NP o.v:=by constructor<;>intro o ho<;>simp[x6,D6]at ho<;>rcases ho with h|h<;>subst h<;>(unfold NP;decide)
theorem VT:uu 2 R9.1 lvH/\R9.1.aF.length=1:=by have S:=kF.new (n:=2) (by decide);obtain⟨S1,_⟩:=S.nJ x6;have h0:(bZ (kU 2) x6).2.2=0:=qu.1.2;have h0':(bZ (kU (2:Nat)) x6).2.2=0:=h0;rw[aG h0']at S1;refine⟨⟨[x6],by decide,S1⟩,?_⟩;obtain⟨_,W,G,t,F,I,V⟩:=S1;have:=congrArg List.length I.ops;have h2:1=(cJ R9.1.aF).length:=this;simpa[cJ]using h2.symm
theorem uu.nJ{n:Nat}{w:WR}{h:dU}(S:uu n w h){ops:List bP}(h0:(bZ w ops).2.2=0)(hl:w.aF.length+1<=h.ops.length):uu n (bZ w ops).1 h/\(bZ w ops).1.aF.length=w.aF.length+1:=by
 obtain⟨o,ho,S⟩:=S;have hlen:o.length=w.aF.length:=by obtain⟨_,W,G,t,F,I,V⟩:=S;have:=congrArg List.length I.ops;simpa[cJ]using this
 obtain⟨S1,_⟩:=S.nJ ops;rw[aG h0]at S1;refine⟨⟨o++[ops],by rw[gO,gJ];omega,S1⟩,?_⟩;obtain⟨_,W,G,t,F,I,V⟩:=S1;have:=congrArg List.length I.ops;have h2:(o++[ops]).length=(cJ (bZ w ops).1.aF).length:=this;rw[gO,gJ]at h2;simp[cJ]at h2;omega
theorem Rv{σ:Gh}{c0:CV}{I0 I1:HL}{n aF:Nat}{x:CM}{eb:Nat->Nat×Nat}{so:az}{ops:List bP}(hE:ir I0 eb)(ok:lV c0 I0 n aF x)(hs:Sub x.I I1)(du:x.t+1<=2^42)(sO:ops.length<2^43)(G6:fI I1 cS 37 so ops)(ho:∀ o∈ops,NP o.v):
  bA prog bI 11 #[ay c0.G.b,so.v] σ [cY x.c,bD I1] (λv σ' As=>∃ c' I',σ'=σ/\v=.tuple #[aD (bZ x.w ops).2.1,aD (bZ x.w ops).2.2]/\Sub I1 I'/\lM c0 c'/\cF I' (x.t+1) c' (bZ x.w ops).1/\As=[cY c',bD I']):=by
 have hG:ay c0.G.b=ay x.c.G.b:=by rw[ok.c.g]
 rw[hG];refine(An (hE.mono (ok.i.trans hs)) (ok.p.mono hs) du sO G6 ho).post ?_;rintro v σ' As ⟨c',I',h1,h2,h3,h4,h5,h6⟩;exact⟨c',I',h1,h2,h3,ok.c.trans h4,h5,h6⟩
theorem Rw{σ:Gh}{c0:CV}{I0:HL}{n aF q:Nat}{x:CM}(ok:lV c0 I0 n aF x)(hq:q<x.w.sh.length):bA prog bI 14 #[ay c0.G.b,aD q] σ [cY x.c]
  (λv σ' As=>σ'=σ/\∃ (sl:az) (m:Nat),v=.tuple #[sl.v,aD m]/\m=QK (x.w.sh[q]).bT/\As=[bG cX 1 21 sl (x.w.sh[q]).bT,cY x.c]):=by
 have hG:ay c0.G.b=ay x.c.G.b:=by rw[ok.c.g]
 rw[hG];exact Jf ok.p hq
theorem D7{σ:Gh}{c0:CV}{I0:HL}{n aF:Nat}{x:CM}(ok:lV c0 I0 n aF x)(dI:c0.aj=false)(hr:m5 σ c0):bA prog bI 15 #[ay c0.G.b] σ [cY x.c]
  (λv σ' As=>v=.tuple #[]/\σ'=σ.gX x.c.ids/\∃ A,As=[A]):=by
 have hG:ay c0.G.b=ay x.c.G.b:=by rw[ok.c.g]
 rw[hG];refine(Mv (c:=x.c) (λ_=>(ok.c.Uo hr).toRegC)).post ?_;rintro v σ' As ⟨h1,h2,h3⟩;rw[ok.c.st,dI,ax (by decide)]at h2;exact⟨h1,h2,_,h3⟩
theorem Jl{σ:Gh}{I:HL}{eb:Nat->Nat×Nat}(hE:ir I eb)(h0:pN σ):bA prog bI 7 #[] σ [bD I] (λv σ' As=>v=.bool true/\σ'.bot=σ.bot/\pN σ'/\∃ I',Sub I I'/\As=[bD I']):=by
 refine bA.of ?_;intro Post os out kd F c' cs C aT ak;refine tV ?_;refine aE.j9 (A:=[]) (Cv (n:=2) (by decide) h0.ok) ?_;rintro v σ1 aP ⟨c,N,rfl,rfl,q1,q2,q3,q4⟩;have C:ab prog true (bI.bw σ1) (aE prog Post bI σ1 0 os out):=aE.ew;refine cr ?_;have hnh:1<=c.ah.length/\c.ah.length<=4:=by have:=congrArg List.length q1;simp only[dW,upto,yI]at this;have h2:(2:Int).toNat=2:=rfl;omega
 refine At.chans (c:=c) Fo.au λnd=>?_;obtain⟨GR,Bv⟩:=La h0 N hnh q4 nd;have hP0:cF I 0 c (kU 2):=cF.new (by decide) q1 q2 q3 q4;refine nT ?_;refine C.eqQ rfl ?_;refine bH ?_;refine C.dS rfl ?_ (hf:=by intro z;exact z rfl);refine gU ?_;refine C.bs (vs:=[.agg #[.bool true,.int .u8 97,.int .i32 5],.agg #[.bool true,.int .u8 98,.int .i32 7]]) rfl (λb30=>?_);refine At.own (l:=x6) (f:=cS) (z:=3) ⟨some ⟨b30,0,none⟩,2,2⟩ [] rfl rfl (e8 _) .head ?_;refine At.O9 (s:=⟨some ⟨b30,0,none⟩,2,2⟩) (l:=x6) (f:=cS) Fo.au Fo.au λI1 gT agv=>?_;refine aE.j9 (An (ops:=x6) (hE.mono gT) (hP0.mono gT) (by decide) (by decide) agv Ru.1) ?_;rintro v σ' aP ⟨c1,I2,rfl,rfl,qU,hc1,hP1,rfl⟩;rw[show(bZ (kU 2) x6).2.1=0 from qu.1.1,show(bZ (kU 2) x6).2.2=0 from qu.1.2];refine Xe ?_;apply mj (X:=Nat×az×az) (λ_=>True) (λx=>[(1,ay c.G.b),(3,aD 0),(4,aD 0),(5,ay x.1)]) (λx=>eF x.1 ⟨x.2.1,aR,aR,x.2.2,[(aR,[]),(aR,[])],[],[],[0,0]⟩ (cY c1::bD I2::F)) (R:=aE prog Post bI σ' 0 os out) (d:=0) (fn:=7) (kd:=kd) (n:=124) (ds:=[]) (cs:=c'::cs)
 ·intro acM;refine C.dx (cW 34 0 4++[(5,4)]) 5 [0,1,2,3,4] 3 ?_;refine Dr.chain rfl ?_;refine Ch.n2 (t:=0) (u:=1) rfl ?_ ?_
  ·refine aY λe aa hk=>?_;refine C.ms (f:=vM) (a0:=0) rfl rfl (λTV=>(hk _ _ .cons ?_));refine Ch.m 1 (aY λe aa hk=>?_);refine C.ms (f:=kH (α:=List bP)) (a0:=(aR,[])) rfl rfl (λY6=>(hk _ _ .cons ?_));refine Ch.q 2 (λh=>C.bd rfl h) ?_;refine Ch.m 3 (aY λe aa hk=>?_);refine C.bx rfl (λZR=>hk _ _ .cons ?_);refine Ch.q 4 (λh=>C.oR rfl h) ?_;refine fP ?_;refine At.turn (A':=da ZR (.cells #[(⟨some ⟨Y6,0,none⟩,2,2⟩:az).v,aR.v,aR.v,(⟨some ⟨TV,0,none⟩,2,2⟩:az).v] 44 (0,0))) .head (λ_ h=>h) ?_;refine At.own (l:=[0,0]) (f:=vM) (z:=1) ⟨some ⟨TV,0,none⟩,2,2⟩ [] rfl rfl (e8 _) (.tail (.tail .head)) ?_;refine At.own (l:=[((aR,[]):az×List bP),(aR,[])]) (f:=kH) (z:=1) ⟨some ⟨Y6,0,none⟩,2,2⟩ [] rfl rfl (e8 _) (.tail (.tail .head)) ?_;refine At.aR aJ 1 3 ?_;refine At.aR (α:=az×List Int) kH 1 46 ?_;exact bN acM (ZR,(⟨some ⟨Y6,0,none⟩,2,2⟩:az),(⟨some ⟨TV,0,none⟩,2,2⟩:az)) trivial
  ·refine aY λe aa hk=>?_;refine C.ms (f:=kH (α:=List bP)) (a0:=(aR,[])) rfl rfl (λY6=>(hk _ _ .cons ?_));refine Ch.m 0 (aY λe aa hk=>?_);refine C.ms (f:=vM) (a0:=0) rfl rfl (λTV=>(hk _ _ .cons ?_));refine Ch.q 2 (λh=>C.bd rfl h) ?_;refine Ch.m 3 (aY λe aa hk=>?_);refine C.bx rfl (λZR=>hk _ _ .cons ?_);refine Ch.q 4 (λh=>C.oR rfl h) ?_;refine fP ?_;refine At.turn (A':=da ZR (.cells #[(⟨some ⟨Y6,0,none⟩,2,2⟩:az).v,aR.v,aR.v,(⟨some ⟨TV,0,none⟩,2,2⟩:az).v] 44 (0,0))) .head (λ_ h=>h) ?_;refine At.own (l:=[0,0]) (f:=vM) (z:=1) ⟨some ⟨TV,0,none⟩,2,2⟩ [] rfl rfl (e8 _) (.tail .head) ?_;refine At.own (l:=[((aR,[]):az×List bP),(aR,[])]) (f:=kH) (z:=1) ⟨some ⟨Y6,0,none⟩,2,2⟩ [] rfl rfl (e8 _) (.tail (.tail .head)) ?_;refine At.aR aJ 1 3 ?_;refine At.aR (α:=az×List Int) kH 1 46 ?_;exact bN acM (ZR,(⟨some ⟨Y6,0,none⟩,2,2⟩:az),(⟨some ⟨TV,0,none⟩,2,2⟩:az)) trivial
 ·rintro⟨ZR,so,sk⟩ _ ev;have agw:lV c I 2 1 ⟨c1,R9.1,⟨so,aR,aR,sk,[(aR,[]),(aR,[])],[],[],[0,0]⟩,I2,1⟩:=by refine⟨hP1,⟨λp hp=>?_,λp hp=>by cases hp⟩,VT.1,hc1,gT.trans qU,VT.2⟩;simp only[fR,m6,gm,or_self]at hp;rw[hp];exact .inl ⟨rfl,rfl⟩
  refine dK ?_;refine aE.j9 (qq (n:=2) (aF:=1) hE agw q4 GR Y4 (by show 1+4194304<=2^42;decide)) ?_;rintro v σ' aP ⟨rfl,rfl,x1,Nc,Wq,Y7,Cc,rfl⟩;obtain⟨cx,wx,Yx,Ix,tx⟩:=x1;dsimp only at Wq Y7 Cc⊢;subst Wq;simp only[eF,fi,ez];obtain⟨hB1,hB2⟩:=qu.2.2.2.1;have hYl:Yx.oL.length=2:=by
   have h1:Yx.abs.ops.length=2:=by rw[Y7];exact qu.2.2.1
   simpa[j4.abs]using h1
  obtain⟨Ej,hn2⟩:=Nc.s.nJ (ops:=D6) hB2 (by
   show GQ.1.aF.length+1<=Yx.abs.ops.length;have h1:Yx.abs.ops.length=2:=by rw[Y7];exact qu.2.2.1
   have h2:GQ.1.aF.length=1:=Nc.tx;omega)
  refine gu ?_;refine C.bs (vs:=[.agg #[.bool false,.int .u8 98,.int .i32 0],.agg #[.bool false,.int .u8 97,.int .i32 0]]) rfl (λb45=>?_);refine At.own (l:=D6) (f:=cS) (z:=3) ⟨some ⟨b45,0,none⟩,2,2⟩ [] rfl rfl (e8 _) .head ?_;refine At.O9 (s:=⟨some ⟨b45,0,none⟩,2,2⟩) (l:=D6) (f:=cS) Fo.au Fo.au λI3 K4 agx=>?_;refine aE.j9 (Rv (ops:=D6) hE Nc K4 (dq) (by decide) agx Ru.2) ?_;rintro v σ' aP ⟨c3,I4,rfl,rfl,Hd,hc3,hP3,rfl⟩;dsimp only at hc3 hP3⊢;rw[show(bZ GQ.1 D6).2.1=1 from hB1,show(bZ GQ.1 D6).2.2=0 from hB2];refine cr ?_;have agy:lV c I 2 2 ⟨c3,Ut.1,Yx,I4,tx+1⟩:=⟨hP3,Nc.j.mono (K4.trans Hd),Ej,hc3,(Nc.i.trans K4).trans Hd,by have h2:GQ.1.aF.length=1:=Nc.tx;have akS:Ut.1.aF.length=GQ.1.aF.length+1:=hn2;show Ut.1.aF.length=2;omega⟩
  refine oT ?_;refine aE.j9 (qq (n:=2) (aF:=2) (w':=x7.1) (h':=x7.2.1) hE agy q4 GR (by dsimp only;rw[Y7];exact Y5) (dq)) ?_;rintro v σ' aP ⟨rfl,rfl,x2,GU,Sw,hh2,ht2,rfl⟩;obtain⟨cz,wz,Yz,Iz,tz⟩:=x2;dsimp only at Sw hh2 ht2⊢;subst Sw;simp only[eF,fi,ez];obtain⟨_,_,_,_,_,r1,r2,r3,r4⟩:=qu;have htz:x7.1.aF.length=2:=GU.tx;have hsz:x7.1.sh.length=2:=GU.s.facts.1;have e0:(x7.1.aF[0]'(by omega)).state=2:=by rw[cK ai]at r1;exact r1
  have e1:(x7.1.aF[1]'(by omega)).state=2:=by rw[cK ai]at r2;exact r2
  have e2:(x7.1.aF[1]'(by omega)).reads=[7,5]:=by rw[cK ai]at r3;exact r3
  have e3:(x7.1.sh[1]'(by omega)).bT=bO.set 1 7:=by rw[cK ai]at r4;exact r4
  refine dX ?_;refine aE.j9 (Jk (q:=0) GU (by show 0<x7.1.aF.length;omega)) ?_;rintro v σ' aP ⟨rfl,sl0,rfl,rfl⟩;dsimp only;rw[e0];refine Ky ?_;refine aE.j9 (Jk (q:=1) GU (by show 1<x7.1.aF.length;omega)) ?_;rintro v σ' aP ⟨rfl,Ny,rfl,rfl⟩;dsimp only;rw[e1,e2];refine Ky ?_;refine aE.j9 (Rw (q:=1) GU (by show 1<x7.1.sh.length;omega)) ?_;rintro v σ' aP ⟨rfl,slv,m,rfl,rfl,rfl⟩;dsimp only;rw[e3];refine Ky ?_;refine aE.j9 (D7 GU q4 GR) ?_;rintro v σ2 aP ⟨rfl,rfl,A,rfl⟩;refine cr ?_;have C:ab prog true (bI.bw (σ'.gX cz.ids)) (aE prog Post bI (σ'.gX cz.ids) 0 os out):=aE.ew;refine C.go ?_;refine C.rg [0,1,2,3,4,5,6,7,8,9,10,11,12,13,14,15,16,17,18,19,20,21,22,23,24,25,26,27,28,29,30,31,32,33,34,35,36,37,38,39,40,41,42,43,44,45,46,47,48,49,50,51,52,53,54,55] ?_;refine fG ?_;refine C.fA rfl ?_ (hf:=by rfl);refine bH ?_;refine C.fA rfl ?_ (hf:=by rfl);refine gu ?_;refine C.fA rfl ?_ (hf:=by rfl);refine dK ?_;refine C.fA rfl ?_ (hf:=by rfl);refine gu ?_;refine C.fA rfl ?_ (hf:=by rfl);refine dK ?_;refine C.fA rfl ?_ (hf:=by rfl);refine dK ?_;refine C.pS rfl ?_ (s:=Ny) (l:=[7,5]) (f:=cX);refine C.fA rfl ?_ (hf:=by rfl);refine dK ?_;refine C.dQ rfl ?_ (s:=Ny) (l:=[7,5]) (f:=cX) (j:=0) (hj:=by decide);refine C.dd (v:=.int .i32 7) rfl ?_ (s:=Ny) (l:=[7,5]) (f:=cX) (j:=0) (hj:=by decide);refine C.fA rfl ?_ (hf:=by rfl);refine dK ?_;refine C.dQ rfl ?_ (s:=Ny) (l:=[7,5]) (f:=cX) (j:=1) (hj:=by decide);refine C.dd (v:=.int .i32 5) rfl ?_ (s:=Ny) (l:=[7,5]) (f:=cX) (j:=1) (hj:=by decide);refine C.fA rfl ?_ (hf:=by rfl);refine dK ?_;refine C.fA rfl ?_ (hf:=by decide);refine dK ?_;refine C.dQ rfl ?_ (s:=slv) (l:=bO.set 1 7) (f:=cX) (j:=1) (hj:=by decide);refine C.dd (v:=.int .i32 7) rfl ?_ (s:=slv) (l:=bO.set 1 7) (f:=cX) (j:=1) (hj:=by decide);refine C.fA rfl ?_ (hf:=by rfl);refine dK ?_;exact aE.eK aT ak ⟨rfl,N.bot,(Bv cz GU.c).2,Iz,GU.i,rfl⟩
def agz(n:Nat):Prop:=∀ (w:WR) (h:dU),kF n w h->∃ w' h',j6 n w.aF.length 60 w h=(w',h',true)/\kF n w' h'/\
 ∀ (q:Nat) (hq:q<w'.sh.length) (k:Nat),k<26->k%n=q->(w'.sh[q]).bT[k]? =(runT (cJ w'.aF) h'.order bO)[k]?
theorem kF.agA{n:Nat}{w:WR}{Y:j4}(S:kF n w Y.abs):M4 (cJ w.aF) Y:=by obtain⟨_,W,G,t,F,I,V⟩:=S;refine⟨I.ops.symm,F.rel.tok,I.p.nd,by have:=I.p.len;simpa[j4.abs]using this,I.Dz F,λj t rd a b=>I.p.val j t rd a b⟩
theorem kF.same{n:Nat}{w:WR}{h:dU}(S:kF n w h):mS w h=(h,true)/\H6 w h=true:=by
 obtain⟨_,W,G,t,F,I,V⟩:=S;refine⟨?_,I.one F⟩;unfold mS;refine sa _ 0 h (λs hs=>?_) λj s hs=>?_
 ·obtain⟨i,hi⟩:=l9.1 hs;exact F.aH hi
 ·rw[l5,I.looked,fH,hs];rfl
structure Nf(I0:HL)(c0:CV)(n:Nat)(x:CM):Prop where
 p:cF x.I x.t x.c x.w
 j:Ao x.I x.Y
 s:kF n x.w x.Y.abs
 c:lM c0 x.c
 i:Sub I0 x.I
theorem Nf.ok{I0:HL}{c0:CV}{n:Nat}{x:CM}(h:Nf I0 c0 n x):lV c0 I0 n x.w.aF.length x:=⟨h.p,h.j,h.s.q,h.c,h.i,rfl⟩
theorem Uu{bh:Nat}(ok:Nf I0 c0 n x):bA prog bI 20 #[ay bh,ay c0.G.b,aD n] σ (eF bh x.Y [cY x.c,bD x.I]) (λv σ' As=>σ'=σ/\v=.bool true/\∃ Y2 I2,Nf I0 c0 n ⟨x.c,x.w,Y2,I2,x.t⟩/\Y2.abs=x.Y.abs/\As=eF bh Y2 [cY x.c,bD I2]):=by
 obtain⟨f1,f2,f3,f4⟩:=ok.s.q.facts;have hn:(n:Int)=x.w.sh.length:=by rw[f1]
 have hG:ay c0.G.b=ay x.c.G.b:=by rw[ok.c.g]
 rw[hn,hG];refine(um ok.p ok.j ok.s.same.1 (by rw[f2,f1]) f4 f3).post ?_;rintro v σ' As ⟨a1,a2,Y',I2,a3,a4,a5,a6,a7,a8⟩;exact⟨a1,a2,Y',I2,⟨ok.p.mono a3,a4,by show kF n _ Y'.abs;rw[a5];exact ok.s,ok.c,ok.i.trans a3⟩,a5,a8⟩
theorem Uv{k i b:Int}{bh:Nat}{c':CV}{I':HL}(ok:Nf I0 c0 n x)(hP:cF I' (x.t+1) c' (gH x.w k i b).1)(hc:lM c0 c')(hs:Sub x.I I'):
  bA prog bI 20 #[ay bh,ay c0.G.b,aD n] σ (eF bh x.Y [cY c',bD I']) (λv σ' As=>σ'=σ/\v=.bool true/\∃ Y2 I2,Nf I0 c0 n ⟨c',(gH x.w k i b).1,Y2,I2,x.t+1⟩/\As=eF bh Y2 [cY c',bD I2]):=by
 obtain⟨f1,f2,f3,f4⟩:=ok.s.q.facts;obtain⟨h',e,_,S'⟩:=ok.s.gH k i b;have hn:(n:Int)=(gH x.w k i b).1.sh.length:=by rw[oi,f1]
 have hG:ay c0.G.b=ay c'.G.b:=by rw[hc.g]
 rw[hn,hG];refine(um hP (ok.j.mono hs) e (by rw[oi,f2,f1]) f4 f3).post ?_;rintro v σ' As ⟨a1,a2,Y',I2,a3,a4,a5,a6,a7,a8⟩;exact⟨a1,a2,Y',I2,⟨hP.mono a3,a4,by show kF n _ Y'.abs;rw[a5];exact S',hc,(ok.i.trans hs).trans a3⟩,a8⟩
theorem Rx{bh:Nat}(ok:Nf I0 c0 n x):bA prog bI 21 #[ay bh,ay c0.G.b,aD n] σ (eF bh x.Y [cY x.c,bD x.I]) (λv σ' As=>σ'=σ/\v=.bool true/\As=eF bh x.Y [cY x.c,bD x.I]):=by
 obtain⟨f1,f2,f3,f4⟩:=ok.s.q.facts;have hn:(n:Int)=x.w.sh.length:=by rw[f1]
 have hG:ay c0.G.b=ay x.c.G.b:=by rw[ok.c.g]
 rw[hn,hG];exact M6 ok.p ok.s.same.2 f4
theorem Uw{bh:Nat}(ok:Nf I0 c0 n x):bA prog bI 22 #[ay bh,ay c0.G.b] σ (eF bh x.Y [cY x.c,bD x.I]) (λv σ' As=>σ'=σ/\v=.bool true/\As=eF bh x.Y [cY x.c,bD x.I]):=by
 obtain⟨f1,f2,f3,f4⟩:=ok.s.q.facts;have hG:ay c0.G.b=ay x.c.G.b:=by rw[ok.c.g]
 rw[hG];exact Je ok.p ok.j ok.s.ae7.1 f3 f4
theorem kF.ol{n:Nat}{w:WR}{Y:j4}(S:kF n w Y.abs):Y.oL.length=w.aF.length:=by obtain⟨h1,W,G,t,F,I,V⟩:=S;have h5:=congrArg List.length I.ops;simpa[j4.abs,cJ]using h5
theorem D8{σ:Gh}{I:HL}{eb:Nat->Nat×Nat}{v:Value}{sc:List xy}{e:Bool}(hE:ir I eb)(hi:Ah I σ.bot tw 6 v sc)(hs:∀ s∈sc,tA I σ.bot s)(hl:sc.length<=2^41)(h0:pN σ)(agB:e=true->∀ n,1<=n/\n<=4->agz n):
  bA prog bI 8 #[v,.bool e] σ [bD I] (λv σ' As=>v=.bool true/\σ'.bot=σ.bot/\pN σ'/\∃ I',Sub I I'/\As=[bD I']):=by
 refine bA.of ?_;intro Post os out kd F c' cs C aT ak;refine cr ?_;have xO:=hi;obtain⟨a,cap,rfl,jB⟩:=hi;refine gu ?_;refine C.fF (Na xO hs hl) ?_;rintro v aP ⟨n,hn,rfl,rfl⟩;refine Ca ?_;refine aE.j9 (A:=[]) (Cv (n:=(n:Int)) ai h0.ok) ?_;rintro v σ1 aP ⟨c,N,rfl,rfl,q1,q2,q3,q4⟩;have C:ab prog true (bI.bw σ1) (aE prog Post bI σ1 0 os out):=aE.ew;refine cr ?_;have hnh:1<=c.ah.length/\c.ah.length<=4:=by have:=congrArg List.length q1;simp only[dW,upto,yI,gv]at this;omega
 refine At.chans (c:=c) Fo.au λnd=>?_;obtain⟨GR,Bv⟩:=La h0 N hnh q4 nd;have hP0:cF I 0 c (kU (n:Int)):=cF.new ai q1 q2 q3 q4;have G4:σ1.bot=σ.bot:=N.bot;refine nT ?_;refine C.eqQ rfl ?_;refine bH ?_;refine C.dS rfl ?_ (hf:=by intro z;exact z rfl);refine eP ?_;refine C.ms (f:=vM) (a0:=0) rfl rfl (λb41=>?_);refine At.own (l:=List.replicate n 0) (f:=vM) (z:=1) ⟨some ⟨b41,0,none⟩,n,n⟩ [] (by simp) (by simp) (by simp) .head ?_;refine fG ?_;refine C.bx rfl (λMG=>?_);refine bH ?_;refine At.aR (α:=az×List bP) kH 1 38 ?_;refine At.aR aJ 1 3 ?_;refine At.aR (α:=az×List Int) kH 1 46 ?_;obtain⟨sk,hsk⟩:∃ sk:az,sk=⟨some ⟨b41,0,none⟩,n,n⟩:=⟨_,rfl⟩;refine At.turn (A:=da MG (.cells #[.slice none 0 0,.slice none 0 0,.slice none 0 0,.slice (some ⟨b41,0,none⟩) n n] 44 (0,0))) (A':=da MG (.cells #[aR.v,aR.v,aR.v,sk.v] 44 (0,0))) (.tail (.tail (.tail .head))) (λ_ h=>by rw[hsk];exact h) ?_;rw[<- hsk];have hW0:Nf I c n ⟨c,kU (n:Int),⟨aR,aR,aR,sk,[],[],[],List.replicate n 0⟩,I,0⟩:=⟨hP0,⟨λp hp=>(by cases hp),λp hp=>(by cases hp)⟩,kF.new hn,lM.refl _,Sub.refl _⟩;refine gu ?_;refine C.cu (X:=Nat×CM) (λx=>[(0,.slice a sc.length cap),(1,.bool e),(5,aD n),(6,ay c.G.b),(8,ay MG),(9,.bool true),(10,aD x.1)]) (λx=>eF MG x.2.Y (cY x.2.c::bD x.2.I::F)) (λx=>x.1<=sc.length/\Nf I c n x.2/\x.2.t<=x.1) (λx=>sc.length-x.1) (0,⟨c,kU (n:Int),⟨aR,aR,aR,sk,[],[],[],List.replicate n 0⟩,I,0⟩) ⟨rfl,rfl,rfl,rfl,rfl,rfl,rfl,trivial⟩ ⟨eW _,hW0,e8 _⟩ ?_;rintro⟨i,x⟩ e1 ⟨TO,ok,ht⟩ ih;dsimp only at TO ok ht⊢;refine dX ?_;refine C.ln rfl ?_;refine C.cmp rfl (λNJ=>?_) (λNJ=>?_)
 ·refine bH ?_;refine C.fA rfl ?_;refine gu ?_;have hj:i<sc.length:=ai;rcases jB with rfl|⟨b,off,cc,ty,fr,rfl,hI,qJ,sR⟩
  ·exact absurd hj (by simp)
  have dI:=hs _ (dp hj);have hx:=I5 (p:=off+i*6) (l:=tw sc[i]) (z:=6) rfl (by decide) (sR i hj);obtain⟨s,hs0⟩:∃ s,s=sc[i]:=⟨_,rfl⟩;rw[<- hs0]at dI hx;have iK:=ok.i _ _ hI;have G6:fZ s.so=true:=by obtain⟨_,_,h,_⟩:=dI.o;rw[h];rfl
  have Ux:tA x.I σ1.bot s:=G4▸dI.mono ok.i;have Us:b<(bI.bw σ1).bot\/∀ j,(bI.bw σ1).sh ty j=false:=.inl (by show b<σ1.bot;omega);refine dK ?_;refine C.ia (j:=(i:Int)) (o:=off+i*6) rfl ?_ (hoff:=by simp);refine C.afO (l:=tw s) (z:=6) (Ext.MA (λ_ st=>st) Fo.au iK) Us hx rfl ?_;rw[show(tw s).toArray=#[aD s.kind,aD s.cl,aD s.a,aD s.b,aD s.c,s.so]from rfl];refine C.al rfl (λwH=>?_);refine C.tL rfl ?_ (hv:=by simp[fZ];exact G6);refine C.go ?_;apply mj (X:=CM) (λy=>Nf I c n y/\y.t<=(if s.kind=2 then i+1 else i)) (λ_=>[(0,.slice (some ⟨b,off,none⟩) sc.length cap),(1,.bool e),(5,aD n),(6,ay c.G.b),(8,ay MG),(9,.bool true),(10,aD i),(11,ay wH)]) (λy=>eF MG y.Y (da wH (.cells #[aD s.kind,aD s.cl,aD s.a,aD s.b,aD s.c,s.so] 30 (0,0))::cY y.c::bD y.I::F)) (R:=aE prog Post bI σ1 0 os out) (d:=0) (fn:=8) (kd:=kd) (n:=212) (ds:=[]) (cs:=c'::cs)
  ·intro r9;refine dK ?_;refine C.cmp rfl (λh63=>?_) (λh63=>?_)
   ·refine eP ?_;refine C.fF (MD Ux.o Ux.z Ux.len) ?_;rintro v aP ⟨s1,rfl,rfl⟩;refine cr ?_;have oI:(s.ops.map rR).length=s.ops.length:=dW ..;have hlen:=Ux.len;have hrg:∀ o∈s.ops.map rR,(0<=o.k/\o.k<=255)/\(-2147483648<=o.v/\o.v<=2147483647):=by intro o ho;obtain⟨q,_,rfl⟩:=bM.1 ho;exact⟨IE _,DQ _⟩
    generalize cN:s.ops.map rR=ops at*;refine At.O9 (I:=x.I) (s:=s1) (f:=sW) Fo.au Fo.au λI2 vx qU=>?_;refine C.fF (aI.less (dN _) (IF qU hrg ai)) ?_;rintro v aP ⟨s2,rfl,rfl⟩;refine cr ?_;refine At.O9 (I:=I2) (s:=s2) (f:=cS) Fo.au Fo.au λI3 hI3 K4=>?_;refine eP ?_;refine aE.j9 (Rv (ops:=ops) hE ok.ok (vx.trans hI3) ai ai K4 (λo ho=>by have:=(hrg o ho).2;unfold NP;omega)) ?_;rintro v σ' aP ⟨c2,I4,rfl,rfl,hI4,P8,YY,rfl⟩;refine cr ?_;obtain⟨S1,S2⟩:=ok.s.nJ ops;have hIx:Sub x.I I4:=(vx.trans hI3).trans hI4;have hx4:Sub I I4:=ok.i.trans hIx;refine nT ?_;refine C.cmp rfl (λh75=>?_) (λh75=>?_)
    ·refine nT ?_;refine C.pS rfl ?_ (s:=x.Y.so) (l:=x.Y.oL) (f:=kH);refine C.fA rfl ?_ (hf:=by have:=S2 h75;rw[this];simp[j4.abs]);refine oT ?_;refine C.AV rfl (λb89=>?_);refine C.BI (f:=kH) (s:=x.Y.so) (l:=x.Y.oL) (s2,ops) rfl (λs90=>?_) (hsz:=by have:=ok.s.ol;have:=ok.p.YN;omega);refine dX ?_;rw[aG h75]at S1;refine bN r9 ⟨c2,(bZ x.w ops).1,{x.Y with so:=s90,oL:=x.Y.oL++[(s2,ops)]},I4,x.t+1⟩ ⟨⟨YY,⟨λp hp=>?_,λp hp=>(ok.j.r p hp).mono hIx⟩,?_,P8,hx4⟩,by rw[aG h63];dsimp only;omega⟩
     ·rcases bS.1 hp with hp|hp
      ·exact(ok.j.o p hp).mono hIx
      ·rw[dL.1 hp];exact K4.mono hI4
     ·show kF n _ (j4.abs _);have e2:j4.abs {x.Y with so:=s90,oL:=x.Y.oL++[(s2,ops)]}={x.Y.abs with ops:=x.Y.abs.ops++[ops]}:=by unfold j4.abs;simp
      rw[e2];exact S1
    ·refine bH ?_;rw[ax h75]at S1;exact bN r9 ⟨c2,(bZ x.w ops).1,x.Y,I4,x.t+1⟩ ⟨⟨YY,ok.j.mono hIx,S1,P8,hx4⟩,by rw[aG h63];dsimp only;omega⟩
   ·refine bH ?_;exact bN r9 x ⟨ok,by rw[ax h63];exact ht⟩
  ·rintro y ⟨D9,VJ⟩ ev;have lF:c.aj=false:=q4;refine dK ?_;refine C.cmp rfl (λh95=>?_) (λh95=>?_)
   ·refine dK ?_;refine C.cmp rfl (λh99=>?_) (λh99=>?_)
    ·refine dX ?_;refine C.cmp rfl (λYR=>?_) (λYR=>?_)
     ·refine lI ?_;refine aE.j9 (Rt (k:=s.a) (i:=s.b) (b:=s.c) hE D9.ok lF GR (by rw[ax ai]at VJ;omega)) ?_;rintro v σ' aP ⟨rfl,rfl,c2,I2,⟨YY,P8,qU⟩,rfl⟩;refine tV ?_;refine aE.j9 (Uv (k:=s.a) (i:=s.b) (b:=s.c) D9 YY P8 qU) ?_;rintro v σ' aP ⟨rfl,rfl,Y2,I3,Es,rfl⟩;simp only[eF,fi,ez];refine gu ?_;refine aE.j9 (Rx Es) ?_;rintro v σ' aP ⟨rfl,rfl,rfl⟩;simp only[eF,fi,ez];refine kj ?_;refine dX ?_;exact again ih (i+1,⟨c2,(gH y.w s.a s.b s.c).1,Y2,I3,y.t+1⟩) ⟨hj,Es,by rw[ax ai]at VJ;dsimp only;omega⟩ (dq)
     ·refine nT ?_;exact again ih (i+1,y) ⟨hj,D9,by dsimp only;split at VJ<;>omega⟩ (dq)
    ·refine kj ?_;exact again ih (i+1,y) ⟨hj,D9,by dsimp only;split at VJ<;>omega⟩ (dq)
   ·refine kj ?_;refine dX ?_;exact again ih (i+1,y) ⟨hj,D9,by dsimp only;split at VJ<;>omega⟩ (dq)
 ·refine oT ?_;apply mj (X:=CM) (λy=>Nf I c n y/\(e=true->∀ (q:Nat) (hq:q<y.w.sh.length) (k:Nat),k<26->k%n=q->(y.w.sh[q]).bT[k]? =(runT (cJ y.w.aF) y.Y.ord bO)[k]?)) (λ_=>[(1,.bool e),(5,aD n),(6,ay c.G.b),(8,ay MG),(9,.bool true)]) (λy=>eF MG y.Y (cY y.c::bD y.I::F)) (R:=aE prog Post bI σ1 0 os out) (d:=0) (fn:=8) (kd:=kd) (n:=212) (ds:=[]) (cs:=c'::cs)
  ·intro VU;refine gu ?_;refine C.xQ (λRy=>?_) (λRy=>?_)
   ·refine C.go ?_;obtain⟨w',h',eS,S',qK⟩:=agB Ry n hn x.w x.Y.abs ok.s;refine gU ?_;refine C.pS rfl ?_ (s:=x.Y.so) (l:=x.Y.oL) (f:=kH);refine fG ?_;rw[ok.s.ol];refine aE.j9 (qq (n:=n) hE ok.ok q4 GR eS ai) ?_;rintro v σ' aP ⟨rfl,rfl,x1,ok1,Wq,Y7,Cc,rfl⟩;simp only[eF,fi,ez];have agD:Nf I c n x1:=⟨ok1.p,ok1.j,by rw[Wq,Y7];exact S',ok1.c,ok1.i⟩;refine gu ?_;refine aE.j9 (Uu agD) ?_;rintro v σ' aP ⟨rfl,rfl,Y2,I2,Es,hY2,rfl⟩;simp only[eF,fi,ez];refine gu ?_;refine aE.j9 (Rx Es) ?_;rintro v σ' aP ⟨rfl,rfl,rfl⟩;simp only[eF,fi,ez];refine lI ?_;refine fG ?_;refine bN VU ⟨x1.c,x1.w,Y2,I2,x1.t⟩ ⟨Es,λ_=>?_⟩;dsimp only;have Ql:Y2.ord=h'.order:=by have:=congrArg dU.order (hY2.trans Y7);exact this
    rw[Ql,Wq];exact qK
   ·refine C.go ?_;exact bN VU x ⟨ok,λh=>absurd h (by rw[Ry];decide)⟩
  ·rintro y ⟨D9,hvy⟩ ev;refine dK ?_;refine aE.j9 (Uw D9) ?_;rintro v σ' aP ⟨rfl,rfl,rfl⟩;simp only[eF,fi,ez];refine dX ?_;refine C.fF (aI.less (dN _) (D5 D9.j D9.s.agA)) ?_;rintro v aP ⟨ZS,rfl,rfl⟩;simp only[eF,fi,ez];refine kj ?_;refine gu ?_;have hyn:y.w.sh.length=n:=D9.s.q.facts.1;refine C.cu (X:=Nat) (λq=>[(1,.bool e),(5,aD n),(6,ay c.G.b),(9,.bool true),(21,ZS.v),(23,aD q)]) (λ_=>bG cX 1 21 ZS (runT (cJ y.w.aF) y.Y.ord bO)::eF MG y.Y (cY y.c::bD y.I::F)) (λq=>q<=n) (λq=>n-q) 0 ⟨rfl,rfl,rfl,rfl,rfl,rfl,trivial⟩ (eW _) ?_;intro q e2 hq yd;refine dX ?_;refine C.cmp rfl (λagE=>?_) (λagE=>?_)
   ·refine gU ?_;refine C.xQ (λVV=>?_) (λVV=>?_)
    ·refine C.go ?_;have AN:q<n:=ai;have M9:q<y.w.sh.length:=ai;have he:e=true:=VV;have Rz:(y.w.sh[q]).bT.length=26:=(D9.p.at (by rw[D9.p.len];exact M9) M9).2.1.bT;have RA:(runT (cJ y.w.aF) y.Y.ord bO).length=26:=vu _ _ _;refine dK ?_;refine aE.j9 (Rw D9.ok M9) ?_;rintro v σ' aP ⟨rfl,sl,m,rfl,hm,rfl⟩;refine Vu ?_;refine C.cu (X:=Nat) (λk=>[(1,.bool e),(5,aD n),(6,ay c.G.b),(9,.bool true),(21,ZS.v),(23,aD q),(24,sl.v),(26,aD k)]) (λ_=>bG cX 1 21 sl (y.w.sh[q]'M9).bT::bG cX 1 21 ZS (runT (cJ y.w.aF) y.Y.ord bO)::eF MG y.Y (cY y.c::bD y.I::F)) (λk=>k<=26) (λk=>26-k) 0 ⟨rfl,rfl,rfl,rfl,rfl,rfl,rfl,rfl,trivial⟩ (eW _) ?_;intro k e3 hk K3;refine dK ?_;refine C.cmp rfl (λagF=>?_) (λagF=>?_)
     ·refine bH ?_;have nP:k<26:=ai;have hcm:((k:Int).tmod (n:Int))=(q:Int)->(y.w.sh[q]'M9).bT[k]'(by rw[Rz];exact nP)=(runT (cJ y.w.aF) y.Y.ord bO)[k]'(by rw[RA];exact nP):=λXU=>by
       have HA:((k:Int).tmod (n:Int))=((k%n:Nat):Int):=by rw[Int.ofNat_tmod]
       have h1:=hvy he q M9 k nP (by rw[HA]at XU;omega);rw[cK (by rw[Rz];exact nP),cK (by rw[RA];exact nP)]at h1;exact bR h1
      by_cases Y8:((k:Int).tmod (n:Int))=(q:Int)
      ·refine C.dx (cW 193 0 16) 16 [] 0 ?_;refine kD ?_;refine Dr.p (v:=aD ((k:Int).tmod (n:Int))) (λh=>C.rem rfl h) ?_;refine kK ?_;refine Dr.p (λh=>C.fA rfl h (hf:=Y8)) ?_;refine sV ?_;refine Dr.l (λhE h=>C.dQ rfl h (s:=sl) (l:=(y.w.sh[q]'M9).bT) (f:=cX) (j:=k) (hj:=by rw[Rz];exact nP)) ?_;refine Dr.l (v:=.int .i32 ((y.w.sh[q]'M9).bT[k]'(by rw[Rz];exact nP))) (λhE h=>C.dd rfl h (s:=sl) (l:=(y.w.sh[q]'M9).bT) (f:=cX) (j:=k) (hj:=by rw[Rz];exact nP)) ?_;refine kD ?_;refine Dr.l (λhE h=>C.dQ rfl h (s:=ZS) (l:=runT (cJ y.w.aF) y.Y.ord bO) (f:=cX) (j:=k) (hj:=by rw[RA];exact nP)) ?_;refine Dr.ld (v:=.int .i32 ((runT (cJ y.w.aF) y.Y.ord bO)[k]'(by rw[RA];exact nP))) ⟨_,rfl,rfl⟩ (λ_ hE _ _ h=>C.dd rfl h (s:=ZS) (l:=runT (cJ y.w.aF) y.Y.ord bO) (f:=cX) (j:=k) (hj:=by rw[RA];exact nP)) ?_;refine Dr.p (λh=>C.dS rfl h (hf:=by intro z;exact z (hcm Y8))) ?_;refine xT ?_;refine Xf ?_;exact again K3 (k+1) nP ai
      ·refine C.dx (cW 193 0 16) 16 [] 0 ?_;refine kD ?_;refine Dr.p (v:=aD ((k:Int).tmod (n:Int))) (λh=>C.rem rfl h) ?_;refine kK ?_;refine Dr.p (λh=>C.dS rfl h (hf:=Y8)) ?_;refine PY ?_;refine Xf ?_;exact again K3 (k+1) nP ai
     ·refine gU ?_;exact again yd (q+1) AN ai
    ·refine dK ?_;refine aE.j9 (D7 D9.ok q4 GR) ?_;rintro v σ2 aP ⟨rfl,RB,A,rfl⟩;refine cr ?_;have C:ab prog true (bI.bw σ2) (aE prog Post bI σ2 0 os out):=aE.ew;refine eP ?_;exact aE.eK aT ak ⟨rfl,by rw[RB];exact G4,by rw[RB];exact(Bv y.c D9.c).2,y.I,D9.i,rfl⟩
   ·refine tU ?_;refine aE.j9 (D7 D9.ok q4 GR) ?_;rintro v σ2 aP ⟨rfl,RB,A,rfl⟩;refine cr ?_;have C:ab prog true (bI.bw σ2) (aE prog Post bI σ2 0 os out):=aE.ew;refine eP ?_;exact aE.eK aT ak ⟨rfl,by rw[RB];exact G4,by rw[RB];exact(Bv y.c D9.c).2,y.I,D9.i,rfl⟩
variable{P:bL}{Post:Value->World->Prop}{X:tO}{os:Os}{out:Array (Nat×ByteArray)}{d:Nat}{As F:List HP}{R:Nat->aM->Array Obj->Prop}
variable{fn:bJ}{kd:Kd}{e:Nat->Value}{k:List Item}
theorem At.enter{f:bJ}{fu:Func}{c:Code}{nf:Nat}[b:Body P f fu c nf]{args:Array Value}(h:At R d As (gr f .qL nf (yT args) [] [.code c] []))(hn:Nat.ble args.size nf=true:=by rfl):At R d As (iS P f args .qL []):=by rw[m8 b.func b.body (by rw[b.tmps];exact xD hn),b.tmps];exact h
theorem aE.quit{fu:Func}{cc:Code}{n':Nat}[b:Body P fn fu cc n']{v:Value}{x:Code}(aP:List HP)(hi:P.inits.idxOf? fn=none)(hn:∀ i,σ.aQ i=none)(hp:∀ w:World,Sat aP (hp w.heap)->w.os=os->w.output=out->Post v w)(hv:tK fu n e=some v:=by rfl)(hx:ck x=.ret:=by rfl)
  (hr:cV As aP:=by exact cV.au):At (aE P Post X σ 0 os out) 0 As (gr fn .qL n e [] (.code x::k) []):=by
 have C:ab P true (X.bw σ) (aE P Post X σ 0 os out):=aE.ew;refine At.lP hr λH st=>?_;have z:=fN hx;simp only at z;subst z;exact C.ret (aE.done hv hi hn hp H st)
open Go.ConcM Go.RowKit
variable{H:Type}{enc:aO×Value->H}
theorem x8{a:Assume}{C:Checked}{os:Os}{f:bJ}{fn:Func}{s:ChangeSpec}{F:Stop.Interp}{conds:List PathCond}{apart fresh handsOn:Bool}{X:World->Array Value->Prop}
  (hX:∀ (w w':World) (args:Array Value),w.heap=w'.heap->X w args->X w' args)
  (own:ownKnob C.prog.godebug=none) (started:os.Started) (Vn:C.prog.funcs[f]? =some fn)
  (witness:∃ (w:World) (tape:Tape) (i:Input),w.os=os/\(w.forCall tape i).Shaped C.prog/\i.vars=[]/\Input.okWide C.prog (w.forCall tape i) .any w.heap.size f i/\
   ((s.pre enc C.prog fn conds apart (w.forCall tape i).memory i.args/\X (w.forCall tape i).memory i.args)/\sizedMet enc C.prog fn (OpenSpec.ofChange s) apart (w.forCall tape i).memory i.args)/\a.holds C.prog (lone (Frame.enter C.prog f i.args .normal) [] (w.forCall tape i)))
  (runs:∀ (W:World) (base:Nat) (args:Array Value) (ds gs:List (DataW H)) (before:List MemPlace),W.ShapedOpen C.prog->
   (∀ (j:Nat) t v,fn.params[j]? =some t->args[j]? =some v->Value.okWide C.prog W .any base t v)->
   DataW.Whole enc C.prog fn.params.toList s.vars apart W args.toList ds gs before->
   conds.all (PathCond.test C.prog ⟨fn.params.toList,ds,s.plain.varTypes C.prog,gs⟩)=true->
   (DataW.weightsEach C.prog (fn.params.toList++s.plain.varTypes C.prog) (ds++gs)).all (· <=reachBytes)=true->X W args->
   Ends C.prog (λv W'=>s.post enc C.prog fn apart fresh handsOn false W args v {W' with os:=W.os}/\OsLater W.os W'.os) (solo (Conc.G (Frame.enter C.prog f args .normal) []) W) #[]):
  ReturnsInLeavingWide a C os f .any (λw args=>(s.pre enc C.prog fn conds apart w args/\X w args)/\sizedMet enc C.prog fn (OpenSpec.ofChange s) apart w args) ((OpenSpec.ofChange s).postWith enc C.prog fn F (outsideKept [.timePasses]) apart fresh handsOn):=by
 refine returnsInLeavingWide_of_good own started witness ?_;intro w tape i _ qJ _ mG Y9 agG;obtain⟨_,_,_,fn',agH,_,_,_,_,HQ⟩:=mG;have e:fn'=fn:=bR (agH.symm.trans Vn);subst e;obtain⟨⟨⟨ds,gs,before,hw,hc⟩,hx⟩,hz⟩:=Y9;have np:=DataW.Whole.of_heap (w':=w.forCall tape i) (by rfl) hw;obtain⟨M,last,o,w',t',h1,h2,h3,h4⟩:=runs (w.forCall tape i) w.heap.size i.args ds gs before qJ HQ np hc (hz.weights hw) (hX _ _ _ (by rfl) hx);obtain⟨v,e,hp,r1,r2,r3,r4⟩:=h4;exact⟨M,last,o,w',t',h1,h2,h3,v,e,postWith_blind (postWith_of_post hp.1 hp.2),r1,r2,r3,r4⟩
theorem Ea{C:Checked}{os:Os}{f:bJ}{fn:Func}{s:ChangeSpec}{conds:List PathCond}{apart:Bool}{X:World->Array Value->Prop}(w0:World)(args:Array Value)(fuel:Nat)(Tr:w0.os=os)
  (hv:(w0.forCall (λ_ _=>0) ⟨#[],args,[]⟩).variablesB C.prog=true)
  (hr:((w0.forCall (λ_ _=>0) ⟨#[],args,[]⟩).heap.toList.drop C.prog.globals.size).take ((begin C.prog (λ_ _=>0) default).world.heap.size-C.prog.globals.size)=
   (begin C.prog (λ_ _=>0) default).world.heap.toList.drop C.prog.globals.size)
  (mG:Input.okWideB C.prog (w0.forCall (λ_ _=>0) ⟨#[],args,[]⟩) f ⟨#[],args,[]⟩=true)
  (Y9:s.preB enc C.prog fn conds apart (w0.forCall (λ_ _=>0) ⟨#[],args,[]⟩).memory args fuel=true)
  (hsz:s.sizedB enc C.prog fn apart (w0.forCall (λ_ _=>0) ⟨#[],args,[]⟩).memory args fuel=true)
  (hx:X (w0.forCall (λ_ _=>0) ⟨#[],args,[]⟩).memory args):
  ∃ (w:World) (tape:Tape) (i:Input),w.os=os/\(w.forCall tape i).Shaped C.prog/\i.vars=[]/\Input.okWide C.prog (w.forCall tape i) .any w.heap.size f i/\
   ((s.pre enc C.prog fn conds apart (w.forCall tape i).memory i.args/\X (w.forCall tape i).memory i.args)/\sizedMet enc C.prog fn (OpenSpec.ofChange s) apart (w.forCall tape i).memory i.args)/\({calm:=true}:Assume).holds C.prog (lone (Frame.enter C.prog f i.args .normal) [] (w.forCall tape i)):=
 ⟨w0,λ_ _=>0,⟨#[],args,[]⟩,Tr,World.shaped_of_B hv hr,(Input.okWide_of_okWideB (base:=0) mG).1,(Input.okWide_of_okWideB mG).2,⟨⟨ChangeSpec.pre_of_preB Y9,hx⟩,sizedMet_of_sizedB hsz⟩,by simp only[Assume.holds];exact⟨by simp,λ_ _ _ _=>rfl,by simp,by simp,by simp⟩⟩
theorem GV{W w':World}(mB:w'.output=W.output)(h:∀ k,k<W.heap.size->w'.heap[k]? =W.heap[k]?)(hs:W.heap.size<=w'.heap.size):Below W.heap.size W {w' with os:=W.os,tape:=W.tape}:=
 ⟨rfl,rfl,mB,hs,h⟩
theorem Uy{W w':World}(mB:w'.output=W.output)(h:∀ k,k<W.heap.size->w'.heap[k]? =W.heap[k]?)(hs:W.heap.size<=w'.heap.size)(may:MemPlace->Prop):W.keptBut {w' with os:=W.os} may:=
 (GV mB h hs).frame may
theorem Eb:prog.cellsOf 358=1:=by kernel_rfl
theorem GW:prog.cellsOf 9=1:=by kernel_rfl
theorem RD: "*"++ "errors.errorString"= "*errors.errorString":=by decide
theorem Za(u:aO)(h:prog.typeName? 3 u=some "*errors.errorString"):u=338:=
 typeName_ptr_named (nm:= "errors.errorString") (by rw[RD];kernel_rfl) (by kernel_rfl) (by decide) u (by rw[RD];exact h)
theorem Ng(ty:Nat)(hl:ty<prog.types.size)(h:prog.rowNamed ty [101,114,114,111,114]=true):ty=64:=by
 have k:((List.range prog.types.size).all λu=> !prog.rowNamed u [101,114,114,111,114]||u==64)=true:=by kernel_rfl
 have:=kp.1 k ty (l8.2 hl);rw[h]at this;simpa using this
def Zb(x:String×List UInt8):String×DataW Unit:=(x.1,.iface "*errors.errorString" (.ptr (.agg [.lit (.string x.2)])))
set_option maxRecDepth 100000 in
theorem Nh{W:World}:∀ (l:List (String×List UInt8)) (ps:List MemPlace),DataW.LaidVars prog W (l.map Zb) ps->ps.Nodup->
  (∀ b off,MemPlace.cell b off∈ps->(∃ c t,W.heap[b]? =some (.cells c t (0,0)))/\∀ u v,W.cell? ⟨b,off,none⟩=some (.iface u v)->Value.okWide prog W .any 0 u v)->
  (∀ n,n∈l.map (·.1)->∃ g,prog.globalNamed n=some g/\(prog.globals[g]?).map (·.type)=some 64)->
  ∃ Ni:List (Nat×Nat),Ni.length=l.length/\(∀ (k:Nat) (x:String×List UInt8),l[k]? =some x->∃ a,Ni[k]? =some a/\W.var? prog x.1=some #[ji a])/\
   Ni.Pairwise (· ≠ ·)/\(∀ a∈Ni,MemPlace.cell a.1 a.2∈ps):=by
 intro l
 induction l with
 |nil=>intro ps _ _ _ _;exact⟨[],rfl,λk x h=>by simp at h,List.Pairwise.nil,λa h=>by simp at h⟩
 |cons x l ih=>
  intro ps hL mP GX hg;obtain⟨g0,t0,cs0,f0,p0,q0,hg0,ht0,Wr,Eg,hq,e0⟩:=hL;obtain⟨g,Sk,Ps⟩:=hg x.1 (by simp);have xI:prog.globalNamed x.1=some g0:=hg0;obtain rfl:=bR (xI.symm.trans Sk);obtain rfl:=bR (Ps.symm.trans ht0);obtain⟨l0⟩:=cs0;subst e0;have YX:∀ u v,l0=[.iface u v]->Value.okWide prog W .any 0 u v:=λu v e=>by subst e;exact(GX g0 0 (by simp[MemPlace.row])).2 u v (by simpa using World.var?_cell hg0 Wr 0)
  obtain⟨a0,s0,rfl,TF,hs0,Z5,rfl⟩:=errorString_of_trod underlying64 Za underlying338 underlying358 rfl rfl underlying9 Eb GW Eg YX;have jB:MemPlace.cell a0.block a0.off∈MemPlace.row a0 1:=by simp[MemPlace.row]
  have uw:a0.spot=none:=by
   unfold World.cell? at TF;split at TF
   ·split at TF
    ·cases TF
    ·rename_i hs;simpa using hs
   ·cases TF
  have hnq:q0.Nodup:=List.Nodup.sublist (List.sublist_append_right _ _) mP;obtain⟨Ni,hl,kC,hp,hm⟩:=ih q0 hq hnq (λb off h=>GX b off (jU _ h)) (λn hn=>hg n (by simp at hn⊢;exact .inr hn));obtain⟨b0,o0,sp0⟩:=a0;dsimp only at uw;subst uw;refine⟨(b0,o0)::Ni,by simp[hl],λk y hk=>?_,List.Pairwise.cons (λa ha e=>?_) hp,λa ha=>?_⟩
  ·cases k with
   |zero=>simp at hk;subst hk;exact⟨(b0,o0),rfl,Wr⟩
   |succ k=>simp at hk;simpa using kC k y hk
  ·subst e;rw[il]at mP;exact mP.2.2 _ (jU _ jB) _ (hm _ ha) rfl
  ·rcases fR.1 ha with rfl|ha
   ·exact ks _ (jU _ jB)
   ·exact jU _ (hm a ha)
def CN(k:Nat):String:=["shardlog/cluster.ErrShape", "shardlog/cluster.ErrOps", "shardlog/cluster.ErrMany", "shardlog/cluster.ErrTx", "shardlog/cluster.ErrMessage", "shardlog/cluster.ErrShard", "shardlog/cluster.ErrDown", "shardlog/cluster.ErrUp", "shardlog/cluster.ErrStopped"].getD k ""
theorem gE:∀ k,k<9->prog.globalNamed (CN k)=some (Mx k)/\(prog.globals[Mx k]?).map (·.type)=some 64
 |0,_=>⟨by kernel_rfl,by kernel_rfl⟩
 |1,_=>⟨by kernel_rfl,by kernel_rfl⟩
 |2,_=>⟨by kernel_rfl,by kernel_rfl⟩
 |3,_=>⟨by kernel_rfl,by kernel_rfl⟩
 |4,_=>⟨by kernel_rfl,by kernel_rfl⟩
 |5,_=>⟨by kernel_rfl,by kernel_rfl⟩
 |6,_=>⟨by kernel_rfl,by kernel_rfl⟩
 |7,_=>⟨by kernel_rfl,by kernel_rfl⟩
 |8,_=>⟨by kernel_rfl,by kernel_rfl⟩
theorem gTy:prog.globalNamed "errors.errorType"=some 5:=by kernel_rfl
def oQ:List (List UInt8):=[[110,111,32,115,117,99,104,32,99,108,117,115,116,101,114],[110,111,32,116,114,97,110,115,97,99,116,105,111,110],[116,111,111,32,109,97,110,121],
 [110,111,32,115,117,99,104,32,116,114,97,110,115,97,99,116,105,111,110],[110,111,32,115,117,99,104,32,109,101,115,115,97,103,101],[110,111,32,115,117,99,104,32,115,104,97,114,100],
 [97,32,115,104,97,114,100,32,116,104,97,116,32,105,115,32,100,111,119,110],[97,32,115,104,97,114,100,32,116,104,97,116,32,105,115,32,117,112],[116,104,101,32,99,108,117,115,116,101,114,32,104,97,115,32,98,101,101,110,32,115,116,111,112,112,101,100]]
def wO:List (String×List UInt8):=[(CN 0,oQ.getD 0 []),(CN 1,oQ.getD 1 []),(CN 2,oQ.getD 2 []),(CN 3,oQ.getD 3 []),(CN 4,oQ.getD 4 []),(CN 5,oQ.getD 5 []),(CN 6,oQ.getD 6 []),(CN 7,oQ.getD 7 []),(CN 8,oQ.getD 8 [])]
theorem Nj:∀ k,k<9->(wO[k]?).map (·.1)=some (CN k)
 |0,_=>rfl
 |1,_=>rfl
 |2,_=>rfl
 |3,_=>rfl
 |4,_=>rfl
 |5,_=>rfl
 |6,_=>rfl
 |7,_=>rfl
 |8,_=>rfl
theorem RE:(prog.cutTypes.find? (·.1== "internal/reflectlite.rtype")).map (·.2)=some 271:=by kernel_rfl
theorem GY{W:World}{l:List (String×DataW Unit)}{d:DataW Unit}(B7:(l.filter λx=>x.2.handleName?.isNone)=wO.map Zb)(yO:(l.filter λx=>x.2.handleName?.isSome)=[("errors.errorType",d)])(hfd:d.funcsIn?=none)(mP:d.handleName?=some [101,114,114,111,114])
  (h:laidMetH prog l W) (hS:W.ShapedOpen prog):∃ eb,ir (hp W.heap) eb:=by
 unfold laidMetH at h;rw[yO]at h;dsimp only at h;rw[B7]at h;obtain⟨⟨ps,hL,agI,GX⟩,hH⟩:=h;have hgs:∀ n,n∈wO.map (·.1)->∃ g,prog.globalNamed n=some g/\(prog.globals[g]?).map (·.type)=some 64:=λn hn=>by
  rw[show wO.map (·.1)=[CN 0,CN 1,CN 2,CN 3,CN 4,CN 5,CN 6,CN 7,CN 8]from rfl]at hn;simp only[fR,m6,gm]at hn;rcases hn with h|h|h|h|h|h|h|h|h
  all_goals rw[h];exact⟨_,gE _ ai⟩
 obtain⟨Ni,hl,kC,hp,hm⟩:=Nh wO ps hL agI GX hgs;have hl9:Ni.length=9:=hl;have GZ:∀ {n:String} {g:Nat} {cs:Array Value},prog.globalNamed n=some g->W.var? prog n=some cs->g<prog.globals.size->∃ t,W.heap[g]? =some (.cells cs t (0,0)):=by
  intro n g cs hg hv du;have hz:∃ zero t,((begin prog (λ_ _=>0) default).world.heap[g]?).bind Obj.row?=some (zero,t):=by
   have k:((List.range prog.globals.size).all λg=>(((begin prog (λ_ _=>0) default).world.heap[g]?).bind Obj.row?).isSome)=true:=by kernel_rfl
   have:=kp.1 k g (l8.2 du);obtain⟨⟨a,b⟩,Dq⟩:=oC.1 this;exact⟨a,b,Dq⟩
  obtain⟨zero,t,hz⟩:=hz;obtain⟨cs',h1,_⟩:=hS.1 g zero t du hz;unfold World.var? at hv;rw[hg,nh,h1]at hv;cases hv;exact⟨t,h1⟩
 have gsz:∀ k,k<9->Mx k<prog.globals.size:=λk hk=>by
  have:=(gE k hk).2;cases hx:prog.globals[Mx k]? with
  |none=>rw[hx]at this;cases this
  |some _=>exact(gV.1 hx).1
 refine⟨λk=>Ni.getD k (0,0),λk hk=>?_,λk hk=>?_,λj k hj hk e=>?_,?_⟩
 ·obtain⟨x,hx,fb⟩:=G3.1 (Nj k hk);obtain⟨a,ha,hv⟩:=kC k x hx;rw[fb]at hv;obtain⟨t,ht⟩:=GZ (gE k hk).1 hv (gsz k hk);refine⟨t,?_⟩;simp only[List.getD,ha,iA];exact ht
 ·have h2:k<Ni.length:=ai;have:=hm Ni[k] (dp h2);obtain⟨c,t,h3⟩:=(GX _ _ this).1;refine⟨c,t,?_⟩;simp only[List.getD,cK h2,iA];exact h3
 ·have h1:j<Ni.length:=ai;have h2:k<Ni.length:=ai;simp only[List.getD,cK h1,cK h2,iA]at e;rcases yA j k with h|h|h
  ·exact absurd e (yz.1 hp j k h1 h2 h)
  ·exact h
  ·exact absurd e.symm (yz.1 hp k j h2 h1 h)
 ·have:=hH ("errors.errorType",d) (by simp);dsimp only at this;rw[hfd]at this;dsimp only at this;obtain⟨name,u,ty,h1,h2,h3,h4,h5⟩:=this;rw[mP]at h1;cases h1;rw[RE]at h2;cases h2;obtain rfl:=Ng ty h3 h4;exact GZ gTy h5 (xD (by kernel_rfl))
theorem acN{α:Type}{l:List α}(h:l.length=3):∃ a b c,l=[a,b,c]:=by
 match l,h with
 |[a,b,c],_=>exact⟨a,b,c,rfl⟩
theorem VW{α:Type}{l:List α}(h:l.length=6):∃ a b c d e f,l=[a,b,c,d,e,f]:=by
 match l,h with
 |[a,b,c,d,e,f],_=>exact⟨a,b,c,d,e,f,rfl⟩
theorem RF{w:World}{base:Nat}{a:Addr}{z:Nat}{cs:List Value}(hz:0<z)(h:w.cells? base a z=some cs):a.spot=none/\cs.length=z/\∃ c ty fr,w.heap[a.block]? =some (.cells c ty fr)/\∀ o,o<z->c[a.off+o]? =cs[o]? :=by
 obtain⟨_,hl,hc⟩:=World.cells?_some h;have h0:=hc 0 hz;have sQ:cs[0]? =some (cs[0]'(by omega)):=cK _;rw[sQ,add_zero]at h0;unfold World.cell? at h0;split at h0
 ·rename_i c ty fr hb;split at h0
  ·cases h0
  ·rename_i hs;have uw:a.spot=none:=by simpa using hs
   refine⟨uw,hl,c,ty,fr,hb,λo ho=>?_⟩;have:=hc o ho;obtain⟨b,off,sp⟩:=a;dsimp only at uw hb⊢;subst uw;rw[gY]at this;unfold World.cell? at this;dsimp only at this;rw[hb]at this;simpa using this
 ·cases h0
variable{w:World}{spare:Nat->Bool}{held:Bool}
theorem Lb{α:Type}{f:α->List Value}{z:Nat}{t e:aO}{Q:α->DataW H->Prop}(hz:0<z)(ht:P.underlying t=some (.slice e))(hc:P.cellsOf e=z)
  (he:∀ n cs y,DataW.trod enc P w 0 spare held n e cs=some y->∃ a,f a=cs/\Q a y.1) {n:Nat} {cs:List Value} {x:DataW H×List MemPlace} (h:DataW.trod enc P w 0 spare held n t cs=some x):
  ∃ v l es,cs=[v]/\Ah (hp w.heap) w.heap.size f z v l/\(x.1=.nil/\es=[]\/∃ sp,x.1=.slice es sp)/\es.length=l.length/\∀ a∈l,∃ d∈es,Q a d:=by
 rcases DataW.trod_slice ht h with⟨rfl,rfl⟩|⟨a,len,cap,elems,aa,m,rfl,rfl,rfl,_,_,_,hlen,XJ,_,_⟩
 ·exact⟨_,[],[],rfl,⟨none,0,rfl,.inl rfl⟩,.inl ⟨rfl,rfl⟩,rfl,by simp⟩
 subst hlen;rw[hc]at XJ;have key:∀ i:Fin elems.length,∃ b,w.cells? 0 (a.add (i.1*z)) z=some (f b)/\Q b elems[i.1].1:=λi=>by have h1:=XJ i.1 i.2;rw[cK i.2,Option.bind_eq_some_iff]at h1;obtain⟨cs',h2,h3⟩:=h1;obtain⟨b,rfl,hb⟩:=he _ _ _ h3;exact⟨b,h2,hb⟩
 let l:List α:=List.ofFn λi=>Classical.choose (key i)
 have hl:l.length=elems.length:=List.length_ofFn;have hg:∀ (i:Nat) (hi:i<elems.length),w.cells? 0 (a.add (i*z)) z=some (f (l[i]'(by omega)))/\Q (l[i]'(by omega)) elems[i].1:=λi hi=>by have e:l[i]'(by omega)=Classical.choose (key ⟨i,hi⟩):=List.getElem_ofFn _;rw[e];exact Jt (key ⟨i,hi⟩)
 refine⟨_,l,elems.map (·.1),rfl,?_,.inr ⟨_,rfl⟩,by rw[dW,hl],λb hb=>?_⟩
 ·refine⟨some a,cap,by rw[hl],?_⟩;by_cases hn:elems.length=0
  ·exact .inl (JJ ai)
  ·have h0:=(hg 0 ai).1;rw[NT,add_zero]at h0;obtain⟨uw,_,c,ty,fr,hb,_⟩:=RF hz h0;obtain⟨b,off,sp⟩:=a;dsimp only at uw hb;subst uw;refine .inr ⟨b,off,c,ty,fr,rfl,hb,(gV.1 hb).1,λj hj o ho=>?_⟩;have Ap:=(hg j ai).1;rw[gY]at Ap;obtain⟨_,_,c',U1,fr',oG,hr⟩:=RF hz Ap;dsimp only at oG hr;rw[hb]at oG;cases oG;exact hr o ho
 ·obtain⟨i,hi,rfl⟩:=mN hb;have ee:i<elems.length:=ai;exact⟨elems[i].1,bM.2 ⟨_,dp ee,rfl⟩,(hg i ee).2⟩
theorem Ec:prog.cellsOf 4=1:=by kernel_rfl
theorem xB:prog.cellsOf 3=1:=by kernel_rfl
theorem G0:prog.cellsOf 28=1:=by kernel_rfl
theorem Ay:prog.cellsOf 102=3:=by kernel_rfl
theorem vO:prog.cellsOf 30=6:=by kernel_rfl
theorem Jm:prog.bytesOf 102=24:=by kernel_rfl
theorem Ed:prog.bytesOf 30=64:=by kernel_rfl
theorem uv{n:Nat}{v:Value}{y:DataW H×List MemPlace}(h:DataW.trod enc prog w 0 spare held n 3 [v]=some y):∃ k,v=aD k/\ZH k:=by obtain⟨k,h1,_,h3⟩:=DataW.trod_int underlying3 h;refine⟨k,by simpa using h1,?_⟩;simp only[Lit.wf,jc,qv]at h3;exact h3
theorem acO{n:Nat}{cs:List Value}{y:DataW H×List MemPlace}(h:DataW.trod enc prog w 0 spare held n 102 cs=some y):∃ o,sW o=cs/\OpZ o:=by obtain⟨xs,m,_,_,hl,Ou,hf⟩:=DataW.trod_struct underlying102 h;rw[Ay]at hl;have Ou:xs.length=3:=Ou;obtain⟨a,b,c,rfl⟩:=acN hl;have f0:DataW.trod enc prog w 0 spare held m 4 (([a,b,c].drop 0).take (prog.cellsOf 4))=xs[0]? :=hf 0 _ rfl;have f1:DataW.trod enc prog w 0 spare held m 3 (([a,b,c].drop 1).take (prog.cellsOf 3))=xs[1]? :=hf 1 _ rfl;have f2:DataW.trod enc prog w 0 spare held m 3 (([a,b,c].drop 2).take (prog.cellsOf 3))=xs[2]? :=hf 2 _ rfl;rw[cK ai]at f0 f1 f2;rw[Ec]at f0;rw[xB]at f1 f2;obtain⟨p,hp,_⟩:=DataW.trod_bool underlying4 f0;obtain⟨q,rfl,hq⟩:=uv f1;obtain⟨r,rfl,hr⟩:=uv f2;have hp:[a]=[.bool p]:=hp;cases hp;exact⟨⟨p,q,r⟩,rfl,hq,hr⟩
def VX(w:World)(s:xy)(d:DataW H):Prop:=(∀ x∈d.weights prog 30,x<=reachBytes)->tA (hp w.heap) w.heap.size s
theorem RG{n:Nat}{cs:List Value}{y:DataW H×List MemPlace}(h:DataW.trod enc prog w 0 spare held n 30 cs=some y):∃ s,tw s=cs/\VX w s y.1:=by
 obtain⟨xs,m,_,hy,hl,Ou,hf⟩:=DataW.trod_struct underlying30 h;rw[vO]at hl;have Ou:xs.length=6:=Ou;obtain⟨a,b,c,d,e,u,rfl⟩:=VW hl;have f0:DataW.trod enc prog w 0 spare held m 3 (([a,b,c,d,e,u].drop 0).take (prog.cellsOf 3))=xs[0]? :=hf 0 _ rfl;have f1:DataW.trod enc prog w 0 spare held m 3 (([a,b,c,d,e,u].drop 1).take (prog.cellsOf 3))=xs[1]? :=hf 1 _ rfl;have f2:DataW.trod enc prog w 0 spare held m 3 (([a,b,c,d,e,u].drop 2).take (prog.cellsOf 3))=xs[2]? :=hf 2 _ rfl;have f3:DataW.trod enc prog w 0 spare held m 3 (([a,b,c,d,e,u].drop 3).take (prog.cellsOf 3))=xs[3]? :=hf 3 _ rfl;have f4:DataW.trod enc prog w 0 spare held m 3 (([a,b,c,d,e,u].drop 4).take (prog.cellsOf 3))=xs[4]? :=hf 4 _ rfl;have f5:DataW.trod enc prog w 0 spare held m 28 (([a,b,c,d,e,u].drop 5).take (prog.cellsOf 28))=xs[5]? :=hf 5 _ rfl;rw[cK ai]at f0 f1 f2 f3 f4 f5;rw[xB]at f0 f1 f2 f3 f4;rw[G0]at f5;obtain⟨p0,rfl,h0⟩:=uv f0;obtain⟨p1,rfl,h1⟩:=uv f1;obtain⟨p2,rfl,h2⟩:=uv f2;obtain⟨p3,rfl,h3⟩:=uv f3;obtain⟨p4,rfl,h4⟩:=uv f4;obtain⟨v,l,es,hv,jB,hd,hlen,hq⟩:=Lb (f:=sW) (z:=3) (Q:=λo _=>OpZ o) (by decide) underlying28 Ay (λn cs y h=>acO h) f5;have hv:[u]=[v]:=hv;cases hv;refine⟨⟨p0,p1,p2,p3,p4,u,l⟩,rfl,λhw=>⟨h0,h1,h2,h3,h4,jB,λo ho=>?_,?_⟩⟩
 ·obtain⟨_,_,h⟩:=hq o ho;exact h
 ·show l.length*24<=_;rcases hd with⟨_,rfl⟩|⟨sp,hd⟩
  ·have:l.length=0:=hlen.symm;omega
  ·rw[hy]at hw;obtain⟨x0,x1,x2,x3,x4,x5,rfl⟩:=VW Ou;have hd:x5.1=.slice es sp:=hd;have:=hw ((es.length+sp.length)*24) (by unfold DataW.weights;rw[underlying30];simp only[gW,l6,DataW.weightsEach,bS];rw[hd];refine .inr (.inr (.inr (.inr (.inr (.inl ?_)))));unfold DataW.weights;rw[underlying28];simp only[Jm];exact fY ..)
   unfold reachBytes at this;rw[<- hlen];have h9:es.length*24<=(es.length+sp.length)*24:=CS _ (Nat.le_add_right ..);omega
theorem sb{P:bL}{e:aO}:∀ {es:List (DataW H)} {d:DataW H},d∈es->∀ x∈d.weights P e,x∈DataW.weightsAll P e es
 |[],_,h,_,_=>by cases h
 |a::es,d,h,x,hx=>by
  unfold DataW.weightsAll;rcases fR.1 h with rfl|h
  ·exact ks _ hx
  ·exact jU _ (sb h x hx)
theorem Nk{n:Nat}{cs:List Value}{y:DataW H×List MemPlace}(h:DataW.trod enc prog w 0 spare held n 22 cs=some y)(hw:∀ x∈y.1.weights prog 22,x<=reachBytes):
  ∃ v sc,cs=[v]/\Ah (hp w.heap) w.heap.size tw 6 v sc/\(∀ s∈sc,tA (hp w.heap) w.heap.size s)/\sc.length*64<=140737488355328:=by
 obtain⟨v,l,es,hv,jB,hd,hlen,hq⟩:=Lb (f:=tw) (z:=6) (Q:=λs d=>VX w s d) (by decide) underlying22 vO (λn cs y h=>RG h) h;refine⟨v,l,hv,jB,λs hs=>?_,?_⟩
 ·obtain⟨d,wY,VQ⟩:=hq s hs;refine VQ λx hx=>?_;rcases hd with⟨_,rfl⟩|⟨sp,hd⟩
  ·cases wY
  ·refine hw x ?_;rw[hd];unfold DataW.weights;rw[underlying22];simp only[fR,bS];exact .inr (.inl (sb wY x hx))
 ·rcases hd with⟨_,rfl⟩|⟨sp,hd⟩
  ·have:l.length=0:=hlen.symm;omega
  ·have:=hw ((es.length+sp.length)*64) (by rw[hd];unfold DataW.weights;rw[underlying22];simp only[Ed];exact fY ..)
   unfold reachBytes at this;rw[<- hlen];have h9:es.length*64<=(es.length+sp.length)*64:=CS _ (Nat.le_add_right ..);omega
open Go.ChangeShapes Go.WideShapes
theorem laidOut:laidOutB prog=true:=by kernel_rfl
theorem G1:prog.readableRec 22=true:=by kernel_rfl
theorem Jn:22<prog.types.size:=xD (by kernel_rfl)
set_option maxRecDepth 100000 in
theorem RH{f:bJ}{fu:Func}{s:ChangeSpec}{apart fresh handsOn:Bool}{W:World}{base:Nat}{args:Array Value}{ds gs:List (DataW H)}{before:List MemPlace}
  (Uz:fu.params.toList=[22]) (agJ:fu.resultTypes=#[4]) (VY:s.vars=[]) (Vn:∀ d:DataW H,(s.fn H [d]).results=[.lit (.bool true)]/\(s.fn H [d]).args=[d]/\(s.fn H [d]).vars=[])
  (HQ:∀ (j:Nat) t v,fu.params[j]? =some t->args[j]? =some v->Value.okWide prog W .any base t v)
  (hW:DataW.Whole enc prog fu.params.toList s.vars apart W args.toList ds gs before) (R4:(DataW.weightsEach prog (fu.params.toList++s.plain.varTypes prog) (ds++gs)).all (· <=reachBytes)=true)
  (hE:∃ eb,ir (hp W.heap) eb)
  (run:∀ {Post:Value->World->Prop} {os:Os} {out:Array (Nat×ByteArray)} {σ:Gh} {I:HL} {v:Value} {sc:List xy} {eb:Nat->Nat×Nat},ir I eb->Ah I σ.bot tw 6 v sc->(∀ s∈sc,tA I σ.bot s)->sc.length<=2^41->pN σ->
   (∀ (I':HL) (w:World),Sub I I'->Sat [bD I'] (hp w.heap)->w.os=os->w.output=out->Post (.bool true) w)->At (aE prog Post bI σ 0 os out) 0 [bD I] (iS prog f #[v] .qL [])):
  Ends prog (λv W'=>s.post enc prog fu apart fresh handsOn false W args v {W' with os:=W.os}/\OsLater W.os W'.os) (solo (G (Frame.enter prog f args .normal) []) W) #[]:=by
 have hW':=hW;obtain⟨p,q,hA,hV,rfl,hfz,mP⟩:=hW;rw[VY]at hV;obtain⟨rfl,rfl⟩:=trodVars_none hV;rw[Uz]at hA;obtain⟨v,d,rfl,rfl,hd⟩:=trodAll_one hA;obtain⟨n,ht⟩:=hd;rw[Uz]at R4;obtain⟨v',sc,sQ,jB,dI,hlen⟩:=Nk ht (λx hx=>by
  have:=kp.1 R4 x (by simp only[fi,ez,DataW.weightsEach,bS];exact .inl hx)
  simpa using this)
 have hp0:fu.params[0]? =some 22:=by rw[<- Array.getElem?_toList,Uz];rfl
 have Wr:=HQ 0 22 v hp0 (by simp);obtain⟨a0,acP,acQ,rfl⟩:=okWide_slice underlying22 Wr;obtain rfl:Value.slice a0 acP acQ=v':=(List.cons.inj sQ).1;obtain⟨eb,hE⟩:=hE;have h0:pN {n:=1,aQ:=λ_=>none,sh:=λ_=>False,bot:=W.heap.size}:=⟨Nat.one_ne_zero,λ_=>rfl⟩;refine wZ.whole (bot:=W.heap.size) ?_;have hr:=run (Post:=λv W'=>s.post enc prog fu apart fresh handsOn false W #[.slice a0 acP acQ] v {W' with os:=W.os}/\OsLater W.os W'.os) (os:=W.os) (out:=W.output) (σ:={n:=1,aQ:=λ_=>none,sh:=λ_=>False,bot:=W.heap.size}) (I:=hp W.heap) hE jB dI ai h0 ?_
 ·exact hr W.heap ⟨_,rfl,λ_ _ h=>h,trivial⟩ rfl (GO.mk (λi s h=>by cases h) (λi s c h=>by cases h) (λi s p h=>by cases h) (λl h=>False.elim h) (e8 _)) W rfl rfl rfl
 ·intro I' w jd agL Tr mB;obtain⟨h1,rfl,gT,_⟩:=agL;have Hz:∀ k,k<W.heap.size->w.heap[k]? =W.heap[k]? :=λk hk=>by have e:W.heap[k]? =some (W.heap[k]'hk):=Ee hk;rw[e];exact gT _ _ (jd _ _ e)
  have hsz:W.heap.size<=w.heap.size:=by
   by_cases h:W.heap.size=0
   ·omega
   ·have e:W.heap[W.heap.size-1]? =some (W.heap[W.heap.size-1]'(by omega)):=Ee ai;have:=(gV.1 (Hz (W.heap.size-1) ai |>.trans e)).1;omega
  have hb:=GV (w':=w) mB Hz hsz;obtain⟨e1,e2,e3⟩:=Vn d;simp only[l7]at hW';have acR:=Below.trod laidOut G1 Jn ⟨n,ht⟩ hb (λx hx=>hW'.lt x hx);refine⟨⟨[d],[],p,[],p,[],hW',?_,?_,?_,Uy mB Hz hsz _,λh=>by cases h⟩,by rw[Tr];exact OsLater.refl _⟩
  ·rw[l7,e1,agJ];exact trodAll_mk1 (shut_bool underlying4 true)
  ·rw[l7,e2,Uz];exact trodAll_mk1 (DataW.Trod.of_heap (w':={w with os:=W.os}) (by rfl) acR)
  ·rw[l7,e3,VY];rfl
end
end Go.Sl
