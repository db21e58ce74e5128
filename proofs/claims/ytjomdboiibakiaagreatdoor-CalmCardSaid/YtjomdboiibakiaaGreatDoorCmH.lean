/-
  Texts that the proof needs, joined: part 8.
-/
import Derived.Test.YtjomdboiibakiaaGreatDoorCmG
import Derived.Conc.HoldsTime
import Derived.LaidHandle
import Derived.Carry
import Derived.LaidLaws
import Derived.FnData
import Derived.ChangeArms
import GoSem.ClaimJoined
import Derived.RowKit
set_option linter.unusedSimpArgs false
set_option linter.unusedVariables false
set_option maxHeartbeats 4000000
namespace Go.Sl
open Go.Proofs.Tryz
section
open Go.Proofs Go.Conc
structure zO where
 c:CV
 w:WV
 bw:Nat
def fg(p:zO):List Value:=[aF p.c.G.b,aF p.bw]
instance:fC fg 2:=⟨λ_=>rfl,λa v h=>by simp[fg]at h;rcases h with h|h<;>subst h<;>rfl⟩
def Tj(p:zO):HP:=all [dw p.c,wP p.bw p.w]
abbrev tf(L:List zO):HP:=all (L.map Tj)
structure th(σ:Gh)(I:HL)(T:Nat)(L:List zO):Prop where
 reg:Fs σ (L.map (·.c))
 WM:∀ p∈L,∃ t,t<=T/\de I t p.c p.w
 len:L.length<=T
theorem OZ(L:List zO):l6 (tf L) ((L.map (·.c)).flatMap CV.chans):=by
 have:l6 (tf L) (L.map (λp=>p.c.chans)).flatten:=by
  refine l6.all ?_
  induction L with
  |nil=>exact .nil
  |cons p L ih=>
   refine .cons ?_ ih;have:=l6.all (As:=[dw p.c,wP p.bw p.w]) (ls:=[p.c.chans,[]]) (.cons (OX 0 p.c) (.cons .nil .nil));simpa[Tj]using this
 simpa[List.flatMap,tC,vC]using this
theorem At.pvs{R:Nat->aP->Array Obj->Prop}{d:Nat}{As W:List HP}{g:aP}{L:List zO}(hf:Fo (tf L) As W)(h:((L.map (·.c)).flatMap CV.chans).Nodup->At R d As g):At R d As g:=λH st=>by obtain⟨h1,a,_,_⟩:=st.perm hf.perm;exact h (OZ L h1 a).1 H st
theorem O0{σ:Gh}{n:Int}{I:HL}{eb:Nat->Nat×Nat}(hE:ig I eb)(hσ:KJ σ):bC prog bP 14 #[aI n] σ [a7 I] (λv σ' As=>((1<=n/\n<=4)/\∃ c:CV,pw σ σ' c.G c.ae/\v=.tuple #[aF c.G.b,aI 0]/\As=[dw c,a7 I]/\c.ae.map (·.s)=((upto n).map λk=>jm k n)/\c.aE=[]/\c.aL=[]/\c.ai=false)\/((n<1\/4<n)/\σ'=σ/\v=.tuple #[.pointer none,aI 1]/\As=[a7 I])):=by
 by_cases hn:1<=n/\n<=4
 ·refine λPost os out kd F c cs aJ hr=>KM hn hσ Post os out kd (a7 I::F) c cs aJ ?_;rintro v σ' aN ⟨c,N,hv,rfl,h⟩;exact hr v σ' [dw c,a7 I] (.inl ⟨hn,c,N,hv,rfl,h⟩)
 ·exact(aD.g (OY hE az)).post λv σ' aN ⟨h1,h2,h3⟩=>.inr ⟨az,h1,h2,h3⟩
theorem q8{α:Type}{f:α->List Value}{z:Nat}{el:aQ}{s:ay}{l l':List α}(h:l'.map f=l.map f):∀ H,a9 f z el s l H->a9 f z el s l' H:=by
 have hl:l'.length=l.length:=by have:=congrArg List.length h;simpa using this
 have hf:flat f l'=flat f l:=by
  have key:∀ k:List α,flat f k=(k.map f).flatten:=λk=>by
   induction k with
   |nil=>rfl
    |cons a k ih=>rw[iJ,List.flatten_cons,<- ih];rfl
  rw[key,key,h]
 rintro H (⟨h1,rfl⟩|⟨b,pad,h1,h2,h3,h4⟩)
 ·exact .inl ⟨h1,zh.1 (by simpa using hl)⟩
 ·refine .inr ⟨b,pad,by rw[hl];exact h1,by rw[hl];exact h2,by rw[hl];exact h3,?_⟩;unfold gf at h4⊢;rw[hf];exact h4
theorem Cq(w:WP)(k i:Int):(ie w k i).1.ai=w.ai:=by
 unfold ie;split
 ·rfl
 split
 ·rfl
 split
 ·split<;>rfl
 dsimp only;split
 ·rfl
 split
 ·rfl
 split
 ·rfl
 ·split<;>rfl
theorem RL(w:WP)(k a b:Int):(fJ w k a b).1.ai=w.ai:=by
 unfold fJ;split
 ·rfl
 split
 ·rfl
 split
 ·split
  ·rfl
  split
  ·rfl
  ·unfold np;split<;>rfl
 split
 ·exact Cq ..
 split
 ·rfl
 split
 ·rfl
 split
 ·split<;>rfl
 split
 ·rfl
 split
 ·rfl
 split
 ·split<;>rfl
 ·rfl
section
variable{R:Nat->aP->Array Obj->Prop}{d:Nat}{As W:List HP}{g:aP}{L:List zO}{q:Nat}
theorem O1(hq:q<L.length)(hf:Fo (tf L) As W)(h:At R d (dw L[q].c::wP L[q].bw L[q].w::all ((L.eraseIdx q).map Tj)::W) g):At R d As g:=
 j7 (f:=Tj) hq hf λH st=>h H (Sat.flat (l:=[dw L[q].c,wP L[q].bw L[q].w]) st)
theorem Ft(hq:q<L.length)(p:zO)(hr:dB [dw p.c,wP p.bw p.w,all ((L.eraseIdx q).map Tj)] As W)(h:At R d (tf (L.set q p)::W) g):At R d As g:=
 At.perm hr.perm λH st=>(mF (f:=Tj) hq p (.cons .head (.cons .head .nil)) h) H (Sat.fS (l:=[dw p.c,wP p.bw p.w]) st)
theorem o3{c:CV}{w:WV}{bw:Nat}(hq:q<L.length)(hp:(⟨c,w,bw⟩:zO)=L[q])(hr:dB [dw c,wP bw w,all ((L.eraseIdx q).map Tj)] As W)(h:At R d (tf L::W) g):At R d As g:=
 Ft hq ⟨c,w,bw⟩ hr (by rw[hp,lO];exact h)
theorem VS(p:zO)(hr:dB [dw p.c,wP p.bw p.w,tf L] As W)(h:At R d (tf (L++[p])::W) g):At R d As g:=
 At.perm hr.perm λH st=>(qU (f:=Tj) p (.cons .head (.cons .head .nil)) h) H (Sat.fS (l:=[dw p.c,wP p.bw p.w]) st)
end
section
variable{σ σ':Gh}{I I':HL}{T q:Nat}{L:List zO}{c c':CV}{w w':WV}{bw:Nat}
theorem th.same(h:th σ I T L):th σ I (T+1) L:=⟨h.reg,λp hp=>by obtain⟨t,ht,x⟩:=h.WM p hp;exact⟨t,az,x⟩,by have:=h.len;omega⟩
theorem th.set(h:th σ I T L)(hq:q<L.length)(hp:(⟨c,w,bw⟩:zO)=L[q]){t:Nat}(hG:c'.G=c.G)(hh:c'.ae.map (·.h)=c.ae.map (·.h))(dJ:c'.ai=c.ai)(hs:Sub I I')(hP:de I' t c' w')(ht:t<=T+1):th σ I' (T+1) (L.set q ⟨c',w',bw⟩):=by
 refine⟨?_,λp hp=>?_,by rw[fM];have:=h.len;omega⟩
 ·rw[j1];have e:(L.map (·.c))[q]'(by simpa using hq)=c:=by simp[<- hp]
  exact h.reg.set (by simpa using hq) (by rw[e];exact hG) (by rw[e];exact hh) (by rw[e];exact dJ)
 ·rcases fN hp with hp|rfl
  ·obtain⟨t,ht,x⟩:=h.WM p hp;exact⟨t,az,x.mono hs⟩
  ·exact⟨t,ht,hP⟩
theorem th.stop(h:th σ I T L)(hq:q<L.length)(hp:(⟨c,w,bw⟩:zO)=L[q])(nd:((L.map (·.c)).flatMap CV.chans).Nodup):th (if c.ai then σ else σ.fR c.ids) I (T+1) (L.set q ⟨{c with ai:=true},{w with ai:=true},bw⟩):=by
 have e:(L.map (·.c))[q]'(by simpa using hq)=c:=by simp[<- hp]
 refine⟨?_,λp Ga=>?_,by rw[fM];have:=h.len;omega⟩
 ·rw[j1];have:=h.reg.stop (i:=q) (by simpa using hq) nd;rw[e]at this;exact this
 ·rcases fN Ga with Ga|rfl
  ·obtain⟨t,ht,x⟩:=h.WM p Ga;exact⟨t,az,x⟩
  ·obtain⟨t,ht,x⟩:=h.WM _ (br hq);rw[<- hp]at x;exact⟨t,az,x.stop⟩
theorem th.new(h:th σ I T L)(N:pw σ σ' c.G c.ae)(dJ:c.ai=false)(nd:(((L++[(⟨c,w,bw⟩:zO)]).map (·.c)).flatMap CV.chans).Nodup)(hP:de I 0 c w):th σ' I (T+1) (L++[⟨c,w,bw⟩]):=by
 refine⟨?_,λp hp=>?_,by simp;exact h.len⟩
 ·rw[eF]at nd⊢;exact h.reg.new N hP.n dJ nd
 ·rcases bU.1 hp with hp|hp
  ·obtain⟨t,ht,x⟩:=h.WM p hp;exact⟨t,az,x⟩
  ·obtain rfl:=dF.1 hp;exact⟨0,eK _,hP⟩
theorem q9(hq:q<L.length)(hp:(⟨c,w,bw⟩:zO)=L[q])(hG:c'.G=c.G):(L.set q ⟨c',w',bw⟩).map fg=L.map fg:=by
 rw[j1];have:fg ⟨c',w',bw⟩=(L.map fg)[q]'(by simpa using hq):=by simp[<- hp,fg,hG]
 rw[this,lO]
end
theorem K2(s:lC):(ny s).toArray=#[aI s.kind,aI s.cl,aI s.a,aI s.b,aI s.c,s.so]:=rfl
theorem K3{σ:Gh}{I:HL}{T bW:Nat}{L:List zO}{sl:ay}{s:lC}{eb:Nat->Nat×Nat}(hE:ig I eb)(hL:th σ I T L)(hT:T+1<=2^41)(hs:py I σ.bot s)(hR:s.kind=3->Z8 s.a s.b s.c):
  bC prog bP 36 #[aF bW,opA s.kind s.cl s.a s.b s.c s.so] σ [bR bW (.cells #[sl.v] 96 (0,0)),a9 fg 2 150 sl L,tf L,a7 I]
   (λv σ' As=>∃ (nG:ay) (L':List zO) (I':HL),v=.bool true/\σ'.bot=σ.bot/\Sub I I'/\th σ' I' (T+1) L'/\As=[bR bW (.cells #[nG.v] 96 (0,0)),a9 fg 2 150 nG L',tf L',a7 I']):=by
 refine bC.of ?_;intro Post os out kd F c' cs C aJ aj;refine bM ?_;have Q7:=hL.len;have Jc:eA s.so=true:=by obtain⟨_,_,h,_⟩:=hs.o;rw[h];rfl
 refine bJ ?_;refine C.bx rfl (λb3=>?_);refine dD ?_;refine C.cmp rfl (λyG=>?_) (λyG=>?_)
 ·refine dD ?_;refine aC.kK (O0 hE hL.reg.ok) ?_;rintro v σ' aN (⟨hn,c,N,rfl,rfl,q1,q2,q3,q4⟩|⟨hn,rfl,rfl,rfl⟩)
  all_goals simp only[iX,fi]
  ·have C:ab prog true (bP.bw σ') (aC prog Post bP σ' 0 os out):=aC.dK;refine kL ?_;refine C.dv (aD.less (cy _) (AP)) (A:=[]) ?_;intro v aN Hl;obtain⟨_,bw,w,rfl,hw,hwI,rfl⟩:=Hl.resolve_right (λh=>absurd h.1 az);clear Hl;refine Ul ?_;refine C.dP rfl ?_;refine bJ ?_;refine C.IQ rfl ?_;refine fI ?_;refine C.IQ rfl ?_;refine C.GH underlying4 rfl ?_;refine dD ?_;refine C.IQ rfl ?_;refine m4 ?_;refine C.nj rfl (λb52=>?_);refine C.nM (f:=fg) (l:=L) (zO.mk c w bw) rfl (λs2=>?_);refine dV ?_;refine VS (L:=L) ⟨c,w,bw⟩ dB.au ?_;refine At.pvs (L:=L++[⟨c,w,bw⟩]) .head λnd=>?_;exact aC.cK aJ aj ⟨s2,L++[⟨c,w,bw⟩],I,rfl,N.bot,Sub.refl _,hL.new N q4 nd (de.new hn q1 q2 q3 q4 hw (hwI I)),rfl⟩
  ·refine kL ?_;refine C.dv (aD.less (cy _) (AP)) (A:=[]) ?_;intro v aN Hl;obtain⟨_,rfl,rfl⟩:=Hl.resolve_left (λh=>absurd h.1 az);clear Hl;refine Ul ?_;refine C.dP rfl ?_;refine bJ ?_;refine C.IQ rfl ?_;refine fI ?_;refine C.IQ rfl ?_;refine C.GH underlying4 rfl ?_;refine dD ?_;refine C.IQ rfl ?_;refine dD ?_;exact aC.cK aJ aj ⟨sl,L,I,rfl,rfl,Sub.refl _,hL.same,rfl⟩
 ·refine kE ?_;refine C.cmp rfl (λEG=>?_) (λEG=>?_)
  ·refine dD ?_;exact aC.cK aJ aj ⟨sl,L,I,rfl,rfl,Sub.refl _,hL.same,rfl⟩
  ·refine bJ ?_;obtain⟨q,hq⟩:=gR (A4 (a:=s.cl) (b:=(L.length:Int)) az).1;have q7:q<L.length:=by have:=(A4 (a:=s.cl) (b:=(L.length:Int)) az).2;omega
   apply xB (X:=Nat) (λ_=>True) (λb9=>[(0,aF bW),(3,aF b3),(9,aF b9)]) (λb9=>bR b9 (.cells #[aF L[q].c.G.b,aF L[q].bw] 150 (0,0))::bR b3 (.cells #[aI s.kind,aI s.cl,aI s.a,aI s.b,aI s.c,s.so] 29 (0,0))::bR bW (.cells #[sl.v] 96 (0,0))::a9 fg 2 150 sl L::tf L::a7 I::F) (R:=aC prog Post bP σ 0 os out) (d:=0) (fn:=36) (kd:=kd) (n:=148) (ds:=[]) (cs:=c'::cs)
   ·intro IY;refine C.vL (cG 62 0 14++[(9,14)]) 16 [11,12,13,14,15] 2 ?_ (W:=[bR b3 (.cells #[aI s.kind,aI s.cl,aI s.a,aI s.b,aI s.c,s.so] 29 (0,0)),bR bW (.cells #[sl.v] 96 (0,0)),a9 fg 2 150 sl L]);refine gg ?_;refine Dr.l (v:=aI L.length) (λhE h=>C.m3 rfl h (f:=fg) (s:=sl) (l:=L)) ?_;refine Dr.chain rfl ?_ (λ_ s=>bZ.sat bZ.au s);refine Ch.n2 (t:=11) (u:=14) rfl ?_ ?_
    ·refine aW λe aa hk=>?_;refine C.cE (aD.less (cy _) (A5 (b:=(L.length:Int)) hs.cl az)) (A:=[]) ?_;rw[hq];refine bM ?_;refine hk _ _ lu ?_;refine Ch.n2 (t:=12) (u:=14) rfl ?_ ?_
     ·refine aW λe aa hk=>?_;refine C.kJ rfl (hk _ _ .refl ?_) (s:=sl) (f:=fg) (l:=L);refine Ch.n2 (t:=13) (u:=14) rfl ?_ ?_
      ·refine aW λe aa hk=>?_;refine C.mE rfl (λhj=>?_) (s:=sl) (l:=L) (f:=fg) (j:=q);rw[show(fg L[q]).toArray=#[aF L[q].c.G.b,aF L[q].bw]from rfl];refine hk _ _ ?_;refine Ch.m 14 (aW λe aa hk=>?_);refine C.al rfl (λb9=>hk _ _ ?_);refine Ch.m 15 (aW λe aa hk=>?_);refine C.pd rfl (hk _ undef ?_);refine eQ ?_;exact cZ IY b9 trivial
      ·refine aW λe aa hk=>?_;refine C.al rfl (λb9=>hk _ _ ?_);refine Ch.m 13 (aW λe aa hk=>?_);refine C.mE rfl (λhj=>?_) (s:=sl) (l:=L) (f:=fg) (j:=q);rw[show(fg L[q]).toArray=#[aF L[q].c.G.b,aF L[q].bw]from rfl];refine hk _ _ ?_;refine Ch.m 15 (aW λe aa hk=>?_);refine C.pd rfl (hk _ undef ?_);refine eQ ?_;exact cZ IY b9 trivial
     ·refine aW λe aa hk=>?_;refine C.al rfl (λb9=>hk _ _ .cons ?_);refine Ch.m 12 (aW λe aa hk=>?_);refine C.kJ rfl (hk _ _ ?_) (s:=sl) (f:=fg) (l:=L);refine Ch.m 13 (aW λe aa hk=>?_);refine C.mE rfl (λhj=>?_) (s:=sl) (l:=L) (f:=fg) (j:=q);rw[show(fg L[q]).toArray=#[aF L[q].c.G.b,aF L[q].bw]from rfl];refine hk _ _ ?_;refine Ch.m 15 (aW λe aa hk=>?_);refine C.pd rfl (hk _ undef ?_);refine eQ ?_;exact cZ IY b9 trivial
    ·refine aW λe aa hk=>?_;refine C.al rfl (λb9=>hk _ _ .cons ?_);refine Ch.m 11 (aW λe aa hk=>?_);refine C.cE (aD.less (cy _) (A5 (b:=(L.length:Int)) hs.cl az)) (A:=[]) ?_;rw[hq];refine bM ?_;refine hk _ _ lu ?_;refine Ch.m 12 (aW λe aa hk=>?_);refine C.kJ rfl (hk _ _ ?_) (s:=sl) (f:=fg) (l:=L);refine Ch.m 13 (aW λe aa hk=>?_);refine C.mE rfl (λhj=>?_) (s:=sl) (l:=L) (f:=fg) (j:=q);rw[show(fg L[q]).toArray=#[aF L[q].c.G.b,aF L[q].bw]from rfl];refine hk _ _ ?_;refine Ch.m 15 (aW λe aa hk=>?_);refine C.pd rfl (hk _ undef ?_);refine eQ ?_;exact cZ IY b9 trivial
   ·rintro b9-e;obtain⟨t,ht,hP⟩:=hL.WM _ (br q7);refine At.pvs (L:=L) Fo.au λnd0=>?_;have Cr:=hL.reg.reg L[q].c (rF (br q7));refine O1 (L:=L) q7 Fo.au ?_;obtain⟨p,hp⟩:∃ p,p=L[q]:=⟨_,rfl⟩;rw[<- hp]at hP Cr⊢;obtain⟨c,w,bw⟩:=p;dsimp only at hP Cr⊢;refine dD ?_;refine C.cmp rfl (λLt=>?_) (λLt=>?_)
    ·refine dH ?_;refine C.dv (KG hs.o hs.z hs.len) ?_;rintro v aN ⟨s1,rfl,rfl⟩;refine bM ?_;have tX:(s.ops.map qH).length=s.ops.length:=cV ..;have hlen:=hs.len;have WE:∀ o∈s.ops.map qH,(0<=o.k/\o.k<=255)/\(-2147483648<=o.v/\o.v<=2147483647):=by intro o ho;obtain⟨q,_,rfl⟩:=bH.1 ho;exact⟨Hg _,Cf _⟩
     generalize cJ:s.ops.map qH=ops at*;refine At.Gk (I:=I) (s:=s1) (f:=fX) Fo.au Fo.au λI2 jO zl=>?_;refine bJ ?_;refine C.vL (cG 84 0 5++[(83,5)]++[(89,6),(90,7)]++[(11,8),(12,9)]) 10 [3,4,5,6,7,8,9] 1 ?_ (W:=[bR b9 (.cells #[aF c.G.b,aF bw] 150 (0,0))]);refine CH ?_;refine Dr.chain rfl ?_ (λ_ s=>bZ.sat bZ.au s);refine Ch.m 3 (aW λe aa hk=>?_);refine C.dv (aD.less (cy _) (Hh zl WE az)) ?_;rintro v aN ⟨s2,rfl,rfl⟩;refine bM ?_;refine hk _ _ lu ?_;refine Ch.m 4 (aW λe aa hk=>?_);refine aC.kK (Ck (c:=c) (so:=s2) (ops:=ops) (hE.mono jO) hP.n (by have:=hP.VQ;omega) hP.cvb.aL az) ?_;rintro v σ' aN ⟨er,tt,gD,gF,I3,rfl,rfl,rfl,Hl⟩;refine bM ?_;refine hk _ _ ?_;refine Ch.q 5 (λh=>C.mv rfl h) ?_;refine Ch.q 6 (λh=>C.ext rfl h) ?_;refine Ch.q 7 (λh=>C.ext rfl h) ?_;refine Ch.q 8 (λh=>C.kH rfl h) ?_;refine Ch.q 9 (λh=>C.kH rfl h) ?_;refine zD ?_;have Wm:Sub I2 I3:=(Tg (hP.J.mono jO) Hl).1;refine C.dv (aD.less (cy _) (B6 (hP.W.mono (jO.trans Wm)) hP.b0 (zl.mono Wm) az)) ?_;rintro v aN ⟨I4,w4,VT,VU,hw4,rfl,rfl⟩;refine bM ?_;obtain⟨hP4,e1,e2⟩:=(hP.mono jO).VR Hl (λo ho=>by have:=(WE o ho).2;unfold Lx;omega) az VT VU hw4;subst e1;rw[e2];refine kL ?_;refine C.fe rfl ?_ (hf:=rfl);refine dN ?_;refine C.fe rfl ?_ (hf:=rfl);refine dN ?_;refine Ft (L:=L) q7 ⟨{c with aE:=gD,aL:=gF},w4,bw⟩ dB.au ?_;refine At.turn (A:=a9 fg 2 150 sl L) Fo.au (q8 (q9 (c':={c with aE:=gD,aL:=gF}) (w':=w4) q7 hp rfl)) ?_;exact aC.cK aJ aj ⟨sl,L.set q ⟨{c with aE:=gD,aL:=gF},w4,bw⟩,I4,rfl,rfl,(jO.trans Wm).trans VT,hL.set (t:=t+1) q7 hp rfl rfl rfl ((jO.trans Wm).trans VT) hP4 az,rfl⟩
    ·refine cW ?_;refine C.cmp rfl (λY8=>?_) (λY8=>?_)
     ·refine ow ?_;have hD:=hR Y8;refine aC.kK (hD.p hE hP Cr) ?_;rintro v σ' aN ⟨er,c2,I2,rfl,rfl,hQ,rfl⟩;refine bM ?_;refine m4 ?_;refine C.dv (aD.less (cy _) (hD.w hP hQ.sub)) ?_;rintro v aN ⟨I4,w4,VT,VU,hw4,rfl,rfl⟩;refine bM ?_;obtain⟨hP4,e2⟩:=hP.do hD hQ az VT VU hw4;rw[e2];refine dD ?_;refine C.fe rfl ?_ (hf:=rfl);refine bJ ?_;have dJ:c2.ai=c.ai:=by have h1:=congrArg (λx=>x.1.ai) hQ.r;exact h1.trans (RL ..)
      refine Ft (L:=L) q7 ⟨c2,w4,bw⟩ dB.au ?_;refine At.turn (A:=a9 fg 2 150 sl L) Fo.au (q8 (q9 (c':=c2) (w':=w4) q7 hp hQ.g)) ?_;exact aC.cK aJ aj ⟨sl,L.set q ⟨c2,w4,bw⟩,I4,rfl,rfl,hQ.sub.trans VT,hL.set (t:=t+1) q7 hp hQ.g hQ.h dJ (hQ.sub.trans VT) hP4 az,rfl⟩
     ·refine cW ?_;refine C.cmp rfl (λack=>?_) (λack=>?_)
      ·refine dH ?_;refine aC.kK (AL (c:=c) (λh=>(Cr h).toRegC)) ?_;rintro v σ' aN ⟨rfl,rfl,rfl⟩;refine bM ?_;have C:ab prog true (bP.bw (if c.ai then σ else σ.fR c.ids)) (aC prog Post bP (if c.ai then σ else σ.fR c.ids) 0 os out):=aC.dK;refine C.go ?_;refine wP.opn (b:=bw) (w:=w) (h:=λsh bg tx=>?_);refine i6 ?_;refine wP.cls (b:=bw) {w with ai:=true} ?_;refine Ft (L:=L) q7 ⟨{c with ai:=true},{w with ai:=true},bw⟩ dB.au ?_;refine At.turn (A:=a9 fg 2 150 sl L) Fo.au (q8 (q9 (c':={c with ai:=true}) (w':={w with ai:=true}) q7 hp rfl)) ?_;exact aC.cK aJ aj ⟨sl,L.set q ⟨{c with ai:=true},{w with ai:=true},bw⟩,I,rfl,(by split<;>rfl),Sub.refl _,hL.stop q7 hp nd0,rfl⟩
      ·refine cW ?_;refine C.cmp rfl (λacm=>?_) (λacm=>?_)
       ·refine dV ?_;refine aC.kK (jT (k:=s.kind) (cl:=s.cl) (a:=s.a) (b:=s.b) (z:=s.c) hP.ask az Jc) ?_;rintro v σ' aN ⟨rfl,rfl,rfl⟩;refine jK ?_;refine o3 (L:=L) q7 hp dB.au ?_;exact aC.cK aJ aj ⟨sl,L,I,rfl,rfl,Sub.refl _,hL.same,rfl⟩
       ·refine cW ?_;refine C.cmp rfl (λacn=>?_) (λacn=>?_)
        ·refine dV ?_;refine aC.kK (jT (k:=s.kind) (cl:=s.cl) (a:=s.a) (b:=s.b) (z:=s.c) hP.ask az Jc) ?_;rintro v σ' aN ⟨rfl,rfl,rfl⟩;refine jK ?_;refine o3 (L:=L) q7 hp dB.au ?_;exact aC.cK aJ aj ⟨sl,L,I,rfl,rfl,Sub.refl _,hL.same,rfl⟩
        ·refine cW ?_;refine C.cmp rfl (λaco=>?_) (λaco=>?_)
         ·refine dV ?_;refine aC.kK (jT (k:=s.kind) (cl:=s.cl) (a:=s.a) (b:=s.b) (z:=s.c) hP.ask az Jc) ?_;rintro v σ' aN ⟨rfl,rfl,rfl⟩;refine jK ?_;refine o3 (L:=L) q7 hp dB.au ?_;exact aC.cK aJ aj ⟨sl,L,I,rfl,rfl,Sub.refl _,hL.same,rfl⟩
         ·refine cW ?_;refine C.cmp rfl (λacp=>?_) (λacp=>?_)
          ·refine dV ?_;refine aC.kK (jT (k:=s.kind) (cl:=s.cl) (a:=s.a) (b:=s.b) (z:=s.c) hP.ask az Jc) ?_;rintro v σ' aN ⟨rfl,rfl,rfl⟩;refine jK ?_;refine o3 (L:=L) q7 hp dB.au ?_;exact aC.cK aJ aj ⟨sl,L,I,rfl,rfl,Sub.refl _,hL.same,rfl⟩
          ·refine cW ?_;refine C.cmp rfl (λacr=>?_) (λacr=>?_)
           ·refine dV ?_;refine aC.kK (jT (k:=s.kind) (cl:=s.cl) (a:=s.a) (b:=s.b) (z:=s.c) hP.ask az Jc) ?_;rintro v σ' aN ⟨rfl,rfl,rfl⟩;refine jK ?_;refine o3 (L:=L) q7 hp dB.au ?_;exact aC.cK aJ aj ⟨sl,L,I,rfl,rfl,Sub.refl _,hL.same,rfl⟩
           ·refine cW ?_;refine C.cmp rfl (λacs=>?_) (λacs=>?_)
            ·refine dH ?_;refine aC.kK (jT (k:=s.kind) (cl:=s.cl) (a:=s.a) (b:=s.b) (z:=s.c) hP.ask az Jc) ?_;rintro v σ' aN ⟨rfl,rfl,rfl⟩;refine jK ?_;refine o3 (L:=L) q7 hp dB.au ?_;exact aC.cK aJ aj ⟨sl,L,I,rfl,rfl,Sub.refl _,hL.same,rfl⟩
            ·refine dH ?_;refine o3 (L:=L) q7 hp dB.au ?_;exact aC.cK aJ aj ⟨sl,L,I,rfl,rfl,Sub.refl _,hL.same,rfl⟩
end
section
open Go.Proofs Go.Conc
theorem Cs{σ:Gh}{bW:Nat}{L:List zO}{sl:ay}(hR:Fs σ (L.map (·.c)))(hl:L.length<=2^41):
  bC prog bP 37 #[aF bW] σ [bR bW (.cells #[sl.v] 96 (0,0)),a9 fg 2 150 sl L,tf L] (λv σ' As=>v=.tuple #[]/\σ'.bot=σ.bot/\sb σ'/\As=[]):=by
 refine bC.of ?_;intro Post os out kd F c' cs C aJ aj;refine rS ?_;refine Nc (Y:=Nat×Gh×List zO) (λy=>y.2.1) (λy=>[(0,aF bW),(2,aI y.1)]) (λy=>bR bW (.cells #[sl.v] 96 (0,0))::a9 fg 2 150 sl y.2.2::tf y.2.2::F) (λy=>y.1<=y.2.2.length/\y.2.2.length<=2^41/\y.2.1.bot=σ.bot/\Fs y.2.1 (y.2.2.map (·.c))/\∀ p∈y.2.2.take y.1,p.c.ai=true) (λy=>y.2.2.length-y.1) (0,σ,L) rfl ⟨rfl,rfl,trivial⟩ ⟨eK _,hl,rfl,hR,by simp⟩ ?_;rintro⟨i,σ1,L1⟩ e ⟨Hi,ZF,Fu,Cr,dJ⟩ ih;dsimp only at Hi ZF Fu Cr dJ⊢;have C:ab prog true (bP.bw σ1) (aC prog Post bP σ1 0 os out):=aC.dK;refine dV ?_;refine C.m3 rfl ?_ (f:=fg) (s:=sl) (l:=L1);refine C.cmp rfl (λh9=>?_) (λh9=>?_)
 ·refine bJ ?_;have hi:i<L1.length:=az;refine At.pvs (L:=L1) Fo.au λnd0=>?_;refine O1 (L:=L1) hi Fo.au ?_;refine dH ?_;refine C.kJ rfl ?_ (f:=fg) (s:=sl) (l:=L1) (j:=i);refine fI ?_;refine C.vI (v:=aF L1[i].c.G.b) rfl ?_ (f:=fg) (s:=sl) (l:=L1) (j:=i) (o:=0);refine aC.kK (AL (c:=L1[i].c) (λh=>(Cr.reg _ (rF (br hi)) h).toRegC)) ?_;rintro v σ' aN ⟨rfl,rfl,rfl⟩;refine bM ?_;obtain⟨p,hp⟩:∃ p,p=L1[i]:=⟨_,rfl⟩;have pB:=Cr.stop (i:=i) (by simpa using hi) nd0;have e0:(L1.map (·.c))[i]'(by simpa using hi)=p.c:=by rw[hp];simp
  rw[e0]at pB;rw[<- hp];obtain⟨c,w,bw⟩:=p;dsimp only at pB⊢;have C:ab prog true (bP.bw (if c.ai then σ1 else σ1.fR c.ids)) (aC prog Post bP (if c.ai then σ1 else σ1.fR c.ids) 0 os out):=aC.dK;refine Ft (L:=L1) hi ⟨{c with ai:=true},w,bw⟩ dB.au ?_;refine At.turn (A:=a9 fg 2 150 sl L1) Fo.au (q8 (q9 (c':={c with ai:=true}) (w':=w) hi hp rfl)) ?_;refine dH ?_;have Tz:(if c.ai=true then σ1 else σ1.fR c.ids).bot=σ.bot:=by rw[<- Fu];split<;>rfl
  refine Gq (c:=.skip) ih (i+1,_,L1.set i ⟨{c with ai:=true},w,bw⟩) rfl ⟨by dsimp only;rw[fM];omega,by dsimp only;rw[fM];omega,Tz,?_,?_⟩ (by dsimp only;rw[fM];omega)
  ·dsimp only;rw[j1];exact pB
  ·dsimp only;intro p Ga;obtain⟨q,hq,rfl⟩:=jx Ga;rw[ik,fM]at hq;rw[LZ];by_cases z:q=i
   ·subst z;rw[vD]
   ·rw[C5 az];exact dJ _ (w8.2 ⟨q,by rw[ik];omega,by rw[LZ]⟩)
 ·refine bJ ?_;have iK:∀ c∈L1.map (·.c),c.ai=true:=λc hc=>by obtain⟨p,hp,rfl⟩:=bH.1 hc;exact dJ p (by rw[iq az];exact hp)
  refine At.jB (show bZ _ F by exact bZ.au) ?_;exact aC.cX aJ aj ⟨rfl,Fu,Cr.idle iK,rfl⟩
variable{P:bL}{B:jW}{H:Array Obj}{d:Nat}
theorem qM{b off:Nat}{c:Array Value}{ty:aQ}{fr:Nat×Nat}(h1:hp H b=some (.cells c ty fr))(hs:b<B.bot\/∀ j,B.sh ty j=false):∀ (z i:Nat) (acc:Array Value) {Q:Array Value->Array Obj->Nat->Prop},off+i+z<=c.size->Q (acc++c.extract (off+i) (off+i+z)) H d->di P B (loadCellsFrom ⟨b,off,none⟩ i z acc) H d Q
 |0,i,acc,Q,_,q=>by
  unfold loadCellsFrom;refine aA ?_;have:c.extract (off+i) (off+i+0)=#[]:=by simp;omega
  rw[this,vV]at q;exact q
 |z+1,i,acc,Q,hz,q=>by
  unfold loadCellsFrom;refine ah ?_;have dA:off+i<c.size:=az;have h2:∀ {Q:Value->Array Obj->Nat->Prop},Q c[off+i] H d->di P B (load ((⟨b,off,none⟩:Addr).add i) .plain) H d Q:=λ{Q} q=>by
   rcases hs with hs|hs
   ·exact z7 (c:=c) (ty:=ty) (v:=c[off+i]) (by rw[gK];exact h1) (by rw[gK]) (by rw[gK];exact CA dA) (by rw[gK];exact hs) q
   ·exact tQ (c:=c) (ty:=ty) (v:=c[off+i]) (by rw[gK];exact h1) (by rw[gK]) (by rw[gK];exact CA dA) (λ_=>hs _) q
  refine h2 ?_;refine qM h1 hs z (i+1) _ az ?_;have:acc.push c[off+i]++c.extract (off+(i+1)) (off+(i+1)+z)=acc++c.extract (off+i) (off+i+(z+1)):=by
   apply re;intro j;simp only[Tq,I6,Ly,Tr];by_cases h1:j<acc.size
   ·simp[h1,Nat.lt_succ_of_lt h1,tw h1]
   ·by_cases h2:j=acc.size
    ·subst h2;simp;omega
    ·have:¬ j<acc.size+1:=az;simp only[this,h1,fB,h2];have e1:off+(i+1)+(j-(acc.size+1))=off+i+(j-acc.size):=az;rw[e1]
     congr 1
     simp only[eq_iff_iff];omega
  rw[this];exact q
theorem yY{c:Array Value}{p z:Nat}{l:List Value}(hl:l.length=z)(hz:0<z)(h:∀ o,o<z->c[p+o]? =l[o]?):p+z<=c.size/\c.extract p (p+z)=l.toArray:=by
 have h1:p+z<=c.size:=by have:=h (z-1) az;rw[e9 az]at this;have:=(gJ.1 this).1;omega
 refine⟨h1,re λj=>?_⟩;rw[Tr,show l.toArray[j]? =l[j]? by simp];by_cases hj:j<z
 ·rw[aK az,h j hj]
 ·rw[ao az,vB (l:=l) az]
def IZ(I:HL)(bot:Nat)(v:Value)(sc:List lC):Prop:=
 ∃ (a:Option Addr) (cap:Nat),v=.slice a sc.length cap/\(sc=[]\/∃ b off c ty fr,a=some ⟨b,off,none⟩/\I b=some (.cells c ty fr)/\(b<bot\/ty=29)/\∀ j (hj:j<sc.length) o,o<6->c[off+j*6+o]? =(ny sc[j])[o]?)
theorem yT.scr{I:HL}{bot:Nat}{v:Value}{sc:List lC}(h:yT I bot ny 6 v sc):IZ I bot v sc:=by
 obtain⟨a,cap,h1,h2⟩:=h;refine⟨a,cap,h1,?_⟩;rcases h2 with h2|⟨b,off,c,ty,fr,h3,h4,h5,h6⟩
 ·exact .inl h2
 ·exact .inr ⟨b,off,c,ty,fr,h3,h4,.inl h5,h6⟩
variable{ak:Bool}{R:Nat->aP->Array Obj->Prop}{As W L:List HP}
variable{fn:bI}{kd:Kd}{n:Nat}{e:Nat->Value}{ds:List dQ}{k:List Item}{cs:List Frame}
variable{ops:Array Oper}{i:Nat}{aa:List Nat}{t:Nat}{ty:aQ}{pos:String}{af:Array Edge}{gd:Option (Nat×Bool)}{x:cA}{v:Value}{b off:Nat}{c:Array Value}{el tt:aQ}
theorem ab.Y9(C:ab P ak B R){fr:Nat×Nat}{z:Nat}{l:List Value}[Ag P tt true][Cz P tt z](hk:Kn As b (.cells c el fr))(hs:b<B.bot\/∀ j,B.sh el j=false)(hc:off+z<=c.size/\c.extract off (off+z)=l.toArray)(ho:aZ ops i=some ⟨some t,.load tt x,ty,pos,af,gd⟩)(h:At R d As (gr fn kd n (put e t (.agg l.toArray)) ds (.inRegion ops aa::k) cs))
  (hx:ev n e x=.pointer (some ⟨b,off,none⟩):=by rfl) (hw:aM ops n e gd=true:=by rfl):At R d As (gr fn kd n e ds (.inRegion ops (i::aa)::k) cs):=
 C.gen ho hw λH st=>by unfold execOp;simp only[hx,Instr.loadAt,Instr.sureAddr];refine ah (ah (aA ?_));unfold loadVar;refine ah (xo B H d _ ?_);simp only[eM];refine ah (gW B H d _ (ah ?_));unfold loadCells;refine qM (off:=off) (hk _ st) hs z 0 #[] az ?_;simp only[Nat.add_zero,zf];rw[hc.2];exact⟨As,st,h⟩
theorem K4{σ:Gh}{I:HL}{v:Value}{sc:List lC}{eb:Nat->Nat×Nat}(hE:ig I eb)(hi:IZ I σ.bot v sc)(hs:∀ s∈sc,py I σ.bot s)(hl:sc.length<=2^41)(h0:sb σ)(hR:∀ s∈sc,s.kind=3->Z8 s.a s.b s.c):
  bC prog bP 23 #[v] σ [a7 I] (λv σ' As=>∃ I',v=aI (-1)/\σ'.bot=σ.bot/\sb σ'/\Sub I I'/\As=[a7 I']):=by
 refine bC.of ?_;intro Post os out kd F c' cs C aJ aj;refine bM ?_;obtain⟨a,cap,rfl,jC⟩:=hi;refine dH ?_;refine C.bx rfl (λb8=>?_);refine kE ?_;refine At.turn (A':=bR b8 (.cells #[aG.v] 96 (0,0))) .head (λ_ h=>h) ?_;refine At.aG fg 2 150 ?_;refine At.zr (show At (aC prog Post bP σ 0 os out) 0 (tf []::_) _ from ?_);refine Nc (Y:=Nat×Gh×HL×ay×List zO) (λy=>y.2.1) (λy=>[(0,.slice a sc.length cap),(3,aF b8),(4,aI (-1)),(5,aI y.1)]) (λy=>bR b8 (.cells #[y.2.2.2.1.v] 96 (0,0))::a9 fg 2 150 y.2.2.2.1 y.2.2.2.2::tf y.2.2.2.2::a7 y.2.2.1::F) (λy=>y.1<=sc.length/\y.2.1.bot=σ.bot/\Sub I y.2.2.1/\th y.2.1 y.2.2.1 y.1 y.2.2.2.2) (λy=>sc.length-y.1) (0,σ,I,aG,[]) rfl ⟨rfl,rfl,rfl,rfl,trivial⟩ ⟨eK _,rfl,Sub.refl _,Fs.nil h0,by simp,by simp⟩ ?_;rintro⟨i,σ1,I1,sl,L⟩ e ⟨Hi,Fu,gu,hL⟩ ih;dsimp only at Hi Fu gu hL⊢;have C:ab prog true (bP.bw σ1) (aC prog Post bP σ1 0 os out):=aC.dK;have hE1:ig I1 eb:=hE.mono gu;refine cW ?_;refine C.ln rfl ?_;refine C.cmp rfl (λoy=>?_) (λoy=>?_)
 ·refine bJ ?_;refine C.fe rfl ?_;refine dN ?_;have hj:i<sc.length:=az;rcases jC with rfl|⟨b,off,cc,ty,fr,rfl,hI,rJ,su⟩
  ·exact absurd hj (by simp)
  have dJ:=hs _ (br hj);have hRs:=hR _ (br hj);have hx:=yY (p:=off+i*6) (l:=ny sc[i]) (z:=6) rfl (by decide) (su i hj);obtain⟨s,Z9⟩:∃ s,s=sc[i]:=⟨_,rfl⟩;rw[<- Z9]at dJ hRs hx;have fp:=gu _ _ hI;have acu:py I1 σ1.bot s:=Fu▸dJ.mono gu;have VV:b<(bP.bw σ1).bot\/∀ j,(bP.bw σ1).sh ty j=false:=by
   rcases rJ with h|rfl
   ·left;show b<σ1.bot;omega
   ·exact .inr λ_=>rfl
  refine cW ?_;refine C.ia (j:=(i:Int)) (o:=off+i*6) rfl ?_ (hoff:=by simp);refine C.Y9 (l:=ny s) (z:=6) (Ext.Hf (λ_ st=>st) Fo.au fp) VV hx rfl ?_;refine aC.kK (K3 (s:=s) hE1 hL az acu hRs) ?_;rintro v σ' aN ⟨nG,L',I2,rfl,Tz,zl,hL2,rfl⟩;refine bM ?_;have C:ab prog true (bP.bw σ') (aC prog Post bP σ' 0 os out):=aC.dK;refine ow ?_;exact Gq (c:=.skip) ih (i+1,_,I2,nG,L') rfl ⟨dI,Tz.trans Fu,gu.trans zl,hL2⟩ (dI)
 ·refine kE ?_;refine aC.kK (Cs hL.reg (by have:=hL.len;omega)) ?_;rintro v σ' aN ⟨rfl,Tz,o6,rfl⟩;refine bM ?_;have C:ab prog true (bP.bw σ') (aC prog Post bP σ' 0 os out):=aC.dK;refine dD ?_;exact aC.cK aJ aj ⟨I1,rfl,Tz.trans Fu,o6,gu,rfl⟩
def nD(s:lC):List Value:=[aI s.kind,aI s.cl,aI s.a,aI s.b,aI s.c,if eA s.so then s.so else aI 0]
instance:fC nD 6:=⟨λ_=>rfl,λa v h=>by
 simp only[nD,ga,l7,fO]at h;rcases h with h|h|h|h|h|h
 all_goals subst h
 all_goals try rfl
 split
 ·assumption
 ·rfl⟩
theorem uM{s:lC}(h:eA s.so=true):nD s=ny s:=by unfold nD ny;rw[aK h]
theorem K5{I:HL}{bot:Nat}{s:ay}{l:List lC}(h:dS I nD 29 s l)(ho:∀ x∈l,eA x.so=true):IZ I bot s.v l:=by
 rcases h with⟨rfl,rfl⟩|⟨pad,h1,h2⟩
 ·exact⟨none,0,rfl,.inl rfl⟩
 ·refine⟨some ⟨s.b,0,none⟩,s.cap,by rw[h1];rfl,.inr ⟨s.b,0,_,_,_,rfl,h2,.inr rfl,λj hj o po=>?_⟩⟩;rw[<- uM (ho _ (br hj))];exact Dn (fC.len (f:=nD)) hj po az
def kB(a b:Int)(s:lC):Bool:=decide (s.kind≠3\/(a<=s.a/\s.a<=b))
theorem Fv{α:Type}{p:α->Bool}{l:List α}{i:Nat}(hi:i<l.length):(l.take (i+1)).filter p=if p l[i]then(l.take i).filter p++[l[i]]else(l.take i).filter p:=by
 rw[<- List.take_append_getElem hi,ml];by_cases h:p l[i]=true
 ·rw[aK h,List.filter_cons_of_pos h];rfl
 ·rw[ao h,List.filter_cons_of_neg h];simp
theorem K6{σ:Gh}{I:HL}{v:Value}{sc:List lC}{a b:Int}(hi:IZ I σ.bot v sc)(ho:∀ x∈sc,eA x.so=true)(hl:sc.length<=2^41):
  aD prog true (bP.bw σ) 22 #[v,aI a,aI b] [a7 I] (λu As=>∃ s':ay,u=s'.v/\As=[a9 nD 6 29 s' (sc.filter (kB a b)),a7 I]):=by
 refine aD.of λR C kd d F c cs aJ aj=>?_;refine bM ?_;obtain⟨a0,cap,rfl,jC⟩:=hi;refine i6 ?_;refine At.aG nD 6 29 (show At R d (a9 nD 6 29 aG ((sc.take 0).filter (kB a b))::_) _ from ?_);refine C.cx (X:=Nat×ay) (λx=>[(0,.slice a0 sc.length cap),(1,aI a),(2,aI b),(7,x.2.v),(8,aI x.1)]) (λx=>a9 nD 6 29 x.2 ((sc.take x.1).filter (kB a b))::a7 I::F) (λx=>x.1<=sc.length) (λx=>sc.length-x.1) (0,aG) ⟨rfl,rfl,rfl,rfl,rfl,trivial⟩ (eK _) ?_;rintro⟨i,s'⟩ e Hi ih;dsimp only at Hi⊢;refine cW ?_;refine C.ln rfl ?_;refine C.cmp rfl (λqz=>?_) (λqz=>?_)
 ·refine bJ ?_;refine C.fe rfl ?_;refine dN ?_;have hj:i<sc.length:=az;rcases jC with rfl|⟨bb,off,cc,ty,fr,rfl,hI,rJ,su⟩
  ·exact absurd hj (by simp)
  have hot:=ho _ (br hj);have hx:=yY (p:=off+i*6) (l:=ny sc[i]) (z:=6) rfl (by decide) (su i hj);have RN:=Fv (p:=kB a b) hj;have Sr:((sc.take i).filter (kB a b)).length<=i:=Be (m8 _ _) (by rw[ik];omega);obtain⟨s,Z9⟩:∃ s,s=sc[i]:=⟨_,rfl⟩;rw[<- Z9]at hot hx RN;have VV:bb<(bP.bw σ).bot\/∀ j,(bP.bw σ).sh ty j=false:=by
   rcases rJ with h|rfl
   ·left;exact h
   ·exact .inr λ_=>rfl
  refine dN ?_;refine C.ia (j:=(i:Int)) (o:=off+i*6) rfl ?_ (hoff:=by simp);refine C.Y9 (l:=ny s) (z:=6) (Ext.Hf (λ_ st=>st) Fo.au hI) VV hx rfl ?_;rw[K2];refine C.al rfl (λb9=>?_);refine C.pd rfl ?_ (hv:=λx hx=>fC.one (f:=nD) s x (by rw[uM hot];exact hx));refine cW ?_;refine C.cmp rfl (λFQ=>?_) (λFQ=>?_)
  ·refine jr ?_;refine bJ ?_;refine C.nj rfl (λb41=>?_);refine C.nM (f:=nD) (l:=(sc.take i).filter (kB a b)) s rfl (λs2=>?_) (hc:=by rw[uM hot];rfl);refine dV ?_;have hp:kB a b s=true:=by unfold kB;simp only[o4];omega
   rw[aK hp]at RN;exact again ih (i+1,s2) (dI) (dI) (hr:=by dsimp only;rw[RN];exact bZ.au)
  ·refine cW ?_;refine C.cmp rfl (λWv=>?_) (λWv=>?_)
   ·refine cW ?_;refine C.cmp rfl (λS2=>?_) (λS2=>?_)
    ·refine dV ?_;refine C.nj rfl (λb41=>?_);refine C.nM (f:=nD) (l:=(sc.take i).filter (kB a b)) s rfl (λs2=>?_) (hc:=by rw[uM hot];rfl);refine dV ?_;have hp:kB a b s=true:=by unfold kB;simp only[o4];omega
     rw[aK hp]at RN;exact again ih (i+1,s2) (dI) (dI) (hr:=by dsimp only;rw[RN];exact bZ.au)
    ·refine kL ?_;have hp:¬ kB a b s=true:=by unfold kB;simp only[o4];omega
     rw[ao hp]at RN;exact again ih (i+1,s') (dI) (dI) (hr:=by dsimp only;rw[RN];exact bZ.au)
   ·refine nO ?_;have hp:¬ kB a b s=true:=by unfold kB;simp only[o4];omega
    rw[ao hp]at RN;exact again ih (i+1,s') (dI) (dI) (hr:=by dsimp only;rw[RN];exact bZ.au)
 ·refine i6 ?_;have iK:(sc.take i).filter (kB a b)=sc.filter (kB a b):=by rw[iq az]
  rw[iK];exact C.bk aJ aj ⟨s',rfl,rfl⟩
variable{Post:Value->World->Prop}{X:sB}{σ:Gh}{os:Os}{out:Array (Nat×ByteArray)}{F:List HP}
theorem At.enter{f:bI}{fu:Func}{c:Code}{nf:Nat}[b:Body P f fu c nf]{args:Array Value}(h:At R d As (gr f .pb nf (xj args) [] [.code c] []))(hn:Nat.ble args.size nf=true:=by rfl):At R d As (iB P f args .pb []):=by rw[l8 b.func b.body (by rw[b.tmps];exact vW hn),b.tmps];exact h
theorem aC.quit{fu:Func}{cc:Code}{n':Nat}[b:Body P fn fu cc n']{v:Value}{x:Code}(aN:List HP)(hi:P.inits.idxOf? fn=none)(hn:∀ i,σ.aT i=none)(hp:∀ w:World,Sat aN (hp w.heap)->w.os=os->w.output=out->Post v w)(hv:rl fu n e=some v:=by rfl)(hx:ck x=.ret:=by rfl)
  (hr:bZ As aN:=by exact bZ.au):At (aC P Post X σ 0 os out) 0 As (gr fn .pb n e [] (.code x::k) []):=by
 have C:ab P true (X.bw σ) (aC P Post X σ 0 os out):=aC.dK;refine At.jB hr λH st=>?_;have z:=fb hx;simp only at z;subst z;exact C.ret (aC.done hv hi hn hp H st)
variable{W:WP}{w:WR}
theorem RO{k i b:Int}(hR:k=8->yX):Z8 k i b:=
 ⟨λhE h hr=>OW hE h.J h.cn hr (h.acd hR),λh hs=>Ow (h.W.mono hs) (h.inv.wbr h.rel h.lt) (h.inv.rU h.rel),λH=>QD H k i b,λI H=>QH I H k i b,λh=>Ux (by unfold Lx;omega) h k i b⟩
theorem py.one{I:HL}{bot:Nat}{s:lC}(h:py I bot s):eA s.so=true:=by obtain⟨_,_,h,_⟩:=h.o;rw[h];rfl
variable{I:HL}{sc:List lC}{eb:Nat->Nat×Nat}
theorem O2(hE:ig I eb)(hi:yT I σ.bot ny 6 v sc)(hs:∀ s∈sc,py I σ.bot s)(hl:sc.length<=2^41)(h0:sb σ)
  (hp:∀ (I':HL) (w:World),Sub I I'->Sat [a7 I'] (hp w.heap)->w.os=os->w.output=out->Post (.bool true) w):
  At (aC prog Post bP σ 0 os out) 0 [a7 I] (iB prog 7 #[v] .pb []):=by
 refine At.enter ?_;have C:ab prog true (bP.bw σ) (aC prog Post bP σ 0 os out):=aC.dK;refine dH ?_;refine C.dv (K6 hi.scr (λx hx=>(hs x hx).one) hl) ?_;rintro v aN ⟨s1,rfl,rfl⟩;refine bM ?_;refine At.Gk (I:=I) (s:=s1) (f:=nD) Fo.au Fo.au λI2 jO zl=>?_;refine aC.kK (F:=[]) (K4 (sc:=sc.filter (kB 1 5)) (hE.mono jO) (K5 zl λx hx=>(hs x (gP.1 hx).1).one) (λx hx=>(hs x (gP.1 hx).1).mono jO) (Be (m8 _ _) hl) h0 (λs uP h1=>RO λh2=>by have:=(gP.1 uP).2;simp only[kB,o4]at this;omega)) ?_
 rintro v σ1 aN ⟨I1,rfl,FF,o6,m2,rfl⟩;refine bM ?_;have C:ab prog true (bP.bw σ1) (aC prog Post bP σ1 0 os out):=aC.dK;refine C.fe rfl ?_ (hf:=rfl);refine bJ ?_;exact aC.quit [a7 I1] (by kernel_rfl) o6.no (hp I1 · (jO.trans m2))
open Go.ConcM Go.RowKit
variable{H:Type}{enc:aQ×Value->H}
theorem wB{a:Assume}{C:Checked}{os:Os}{f:bI}{fn:Func}{s:ChangeSpec}{F:Stop.Interp}{conds:List PathCond}{apart fresh handsOn:Bool}{X:World->Array Value->Prop}
  (hX:∀ (w w':World) (args:Array Value),w.heap=w'.heap->X w args->X w' args)
  (own:ownKnob C.prog.godebug=none) (started:os.Started) (SJ:C.prog.funcs[f]? =some fn)
  (witness:∃ (w:World) (tape:Tape) (i:Input),w.os=os/\(w.forCall tape i).Shaped C.prog/\i.vars=[]/\Input.okWide C.prog (w.forCall tape i) .any w.heap.size f i/\
   ((s.pre enc C.prog fn conds apart (w.forCall tape i).memory i.args/\X (w.forCall tape i).memory i.args)/\sizedMet enc C.prog fn (OpenSpec.ofChange s) apart (w.forCall tape i).memory i.args)/\a.holds C.prog (lone (Frame.enter C.prog f i.args .normal) [] (w.forCall tape i)))
  (runs:∀ (W:World) (base:Nat) (args:Array Value) (ds gs:List (DataW H)) (before:List MemPlace),W.ShapedOpen C.prog->
   (∀ (j:Nat) t v,fn.params[j]? =some t->args[j]? =some v->Value.okWide C.prog W .any base t v)->
   DataW.Whole enc C.prog fn.params.toList s.vars apart W args.toList ds gs before->
   conds.all (PathCond.test C.prog ⟨fn.params.toList,ds,s.plain.varTypes C.prog,gs⟩)=true->
   (DataW.weightsEach C.prog (fn.params.toList++s.plain.varTypes C.prog) (ds++gs)).all (· <=reachBytes)=true->X W args->
   Ends C.prog (λv W'=>s.post enc C.prog fn apart fresh handsOn false W args v {W' with os:=W.os}/\OsLater W.os W'.os) (solo (Conc.G (Frame.enter C.prog f args .normal) []) W) #[]):
  ReturnsInLeavingWide a C os f .any (λw args=>(s.pre enc C.prog fn conds apart w args/\X w args)/\sizedMet enc C.prog fn (OpenSpec.ofChange s) apart w args) ((OpenSpec.ofChange s).postWith enc C.prog fn F (outsideKept [.timePasses]) apart fresh handsOn):=by
 refine returnsInLeavingWide_of_good own started witness ?_;intro w tape i _ rJ _ kV VW acv;obtain⟨_,_,_,fn',acw,_,_,_,_,xX⟩:=kV;have e:fn'=fn:=bS (acw.symm.trans SJ);subst e;obtain⟨⟨⟨ds,gs,before,hw,hc⟩,hx⟩,hz⟩:=VW;have nF:=DataW.Whole.of_heap (w':=w.forCall tape i) (by rfl) hw;obtain⟨M,last,o,w',t',h1,h2,h3,h4⟩:=runs (w.forCall tape i) w.heap.size i.args ds gs before rJ xX nF hc (hz.weights hw) (hX _ _ _ (by rfl) hx);obtain⟨v,e,hp,r1,r2,r3,r4⟩:=h4;exact⟨M,last,o,w',t',h1,h2,h3,v,e,postWith_blind (postWith_of_post hp.1 hp.2),r1,r2,r3,r4⟩
theorem Ct{C:Checked}{os:Os}{f:bI}{fn:Func}{s:ChangeSpec}{conds:List PathCond}{apart:Bool}{X:World->Array Value->Prop}(w0:World)(args:Array Value)(fuel:Nat)(hos:w0.os=os)
  (hv:(w0.forCall (λ_ _=>0) ⟨#[],args,[]⟩).variablesB C.prog=true)
  (hr:((w0.forCall (λ_ _=>0) ⟨#[],args,[]⟩).heap.toList.drop C.prog.globals.size).take ((begin C.prog (λ_ _=>0) default).world.heap.size-C.prog.globals.size)=
   (begin C.prog (λ_ _=>0) default).world.heap.toList.drop C.prog.globals.size)
  (kV:Input.okWideB C.prog (w0.forCall (λ_ _=>0) ⟨#[],args,[]⟩) f ⟨#[],args,[]⟩=true)
  (VW:s.preB enc C.prog fn conds apart (w0.forCall (λ_ _=>0) ⟨#[],args,[]⟩).memory args fuel=true)
  (hsz:s.sizedB enc C.prog fn apart (w0.forCall (λ_ _=>0) ⟨#[],args,[]⟩).memory args fuel=true)
  (hx:X (w0.forCall (λ_ _=>0) ⟨#[],args,[]⟩).memory args):
  ∃ (w:World) (tape:Tape) (i:Input),w.os=os/\(w.forCall tape i).Shaped C.prog/\i.vars=[]/\Input.okWide C.prog (w.forCall tape i) .any w.heap.size f i/\
   ((s.pre enc C.prog fn conds apart (w.forCall tape i).memory i.args/\X (w.forCall tape i).memory i.args)/\sizedMet enc C.prog fn (OpenSpec.ofChange s) apart (w.forCall tape i).memory i.args)/\({calm:=true}:Assume).holds C.prog (lone (Frame.enter C.prog f i.args .normal) [] (w.forCall tape i)):=
 ⟨w0,λ_ _=>0,⟨#[],args,[]⟩,hos,World.shaped_of_B hv hr,(Input.okWide_of_okWideB (base:=0) kV).1,(Input.okWide_of_okWideB kV).2,⟨⟨ChangeSpec.pre_of_preB VW,hx⟩,sizedMet_of_sizedB hsz⟩,by simp only[Assume.holds];exact⟨by simp,λ_ _ _ _=>rfl,by simp,by simp,by simp⟩⟩
theorem Fw{W w':World}(iW:w'.output=W.output)(h:∀ k,k<W.heap.size->w'.heap[k]? =W.heap[k]?)(hs:W.heap.size<=w'.heap.size):Below W.heap.size W {w' with os:=W.os,tape:=W.tape}:=
 ⟨rfl,rfl,iW,hs,h⟩
theorem RP{W w':World}(iW:w'.output=W.output)(h:∀ k,k<W.heap.size->w'.heap[k]? =W.heap[k]?)(hs:W.heap.size<=w'.heap.size)(may:MemPlace->Prop):W.keptBut {w' with os:=W.os} may:=
 (Fw iW h hs).frame may
theorem Cu:prog.cellsOf 359=1:=by kernel_rfl
theorem Fx:prog.cellsOf 9=1:=by kernel_rfl
theorem O3: "*"++ "errors.errorString"= "*errors.errorString":=by decide
theorem VX(u:aQ)(h:prog.typeName? 3 u=some "*errors.errorString"):u=339:=
 typeName_ptr_named (nm:= "errors.errorString") (by rw[O3];kernel_rfl) (by kernel_rfl) (by decide) u (by rw[O3];exact h)
theorem K7(ty:Nat)(hl:ty<prog.types.size)(h:prog.rowNamed ty [101,114,114,111,114]=true):ty=46:=by
 have k:((List.range prog.types.size).all λu=> !prog.rowNamed u [101,114,114,111,114]||u==46)=true:=by kernel_rfl
 have:=k9.1 k ty (m7.2 hl);rw[h]at this;simpa using this
def VY(x:String×List UInt8):String×DataW Unit:=(x.1,.iface "*errors.errorString" (.ptr (.agg [.lit (.string x.2)])))
set_option maxRecDepth 100000 in
theorem K8{W:World}:∀ (l:List (String×List UInt8)) (ps:List MemPlace),DataW.LaidVars prog W (l.map VY) ps->ps.Nodup->
  (∀ b off,MemPlace.cell b off∈ps->(∃ c t,W.heap[b]? =some (.cells c t (0,0)))/\∀ u v,W.cell? ⟨b,off,none⟩=some (.iface u v)->Value.okWide prog W .any 0 u v)->
  (∀ n,n∈l.map (·.1)->∃ g,prog.globalNamed n=some g/\(prog.globals[g]?).map (·.type)=some 46)->
  ∃ K9:List (Nat×Nat),K9.length=l.length/\(∀ (k:Nat) (x:String×List UInt8),l[k]? =some x->∃ a,K9[k]? =some a/\W.var? prog x.1=some #[gV a])/\
   K9.Pairwise (· ≠ ·)/\(∀ a∈K9,MemPlace.cell a.1 a.2∈ps):=by
 intro l
 induction l with
 |nil=>intro ps _ _ _ _;exact⟨[],rfl,λk x h=>by simp at h,List.Pairwise.nil,λa h=>by simp at h⟩
 |cons x l ih=>
  intro ps hL lR Fy hg;obtain⟨g0,t0,cs0,f0,p0,q0,hg0,ht0,Mz,PQ,hq,e0⟩:=hL;obtain⟨g,VZ,ht'⟩:=hg x.1 (by simp);have wa:prog.globalNamed x.1=some g0:=hg0;obtain rfl:=bS (wa.symm.trans VZ);obtain rfl:=bS (ht'.symm.trans ht0);obtain⟨l0⟩:=cs0;subst e0;have ok0:∀ u v,l0=[.iface u v]->Value.okWide prog W .any 0 u v:=λu v e=>by subst e;exact(Fy g0 0 (by simp[MemPlace.row])).2 u v (by simpa using World.var?_cell hg0 Mz 0)
  obtain⟨a0,s0,rfl,Q0,Z9,hz0,rfl⟩:=errorString_of_trod underlying46 VX underlying339 underlying359 rfl rfl underlying9 Cu Fx PQ ok0;have jC:MemPlace.cell a0.block a0.off∈MemPlace.row a0 1:=by simp[MemPlace.row]
  have qO:a0.spot=none:=by
   unfold World.cell? at Q0;split at Q0
   ·split at Q0
    ·cases Q0
    ·rename_i hs;simpa using hs
   ·cases Q0
  have hnq:q0.Nodup:=List.Nodup.sublist (List.sublist_append_right _ _) lR;obtain⟨K9,hl,iK,hp,hm⟩:=ih q0 hq hnq (λb off h=>Fy b off (jw _ h)) (λn hn=>hg n (by simp at hn⊢;exact .inr hn));obtain⟨b0,o0,sp0⟩:=a0;dsimp only at qO;subst qO;refine⟨(b0,o0)::K9,by simp[hl],λk y hk=>?_,List.Pairwise.cons (λa ha e=>?_) hp,λa ha=>?_⟩
  ·cases k with
   |zero=>simp at hk;subst hk;exact⟨(b0,o0),rfl,Mz⟩
   |succ k=>simp at hk;simpa using iK k y hk
  ·subst e;rw[im]at lR;exact lR.2.2 _ (jw _ jC) _ (hm _ ha) rfl
  ·rcases ga.1 ha with rfl|ha
   ·exact j0 _ (jw _ jC)
   ·exact jw _ (hm a ha)
def Ba(k:Nat):String:=["shardlog/cluster.ErrShape", "shardlog/cluster.ErrOps", "shardlog/cluster.ErrMany", "shardlog/cluster.ErrTx", "shardlog/cluster.ErrMessage", "shardlog/cluster.ErrShard", "shardlog/cluster.ErrDown", "shardlog/cluster.ErrUp", "shardlog/cluster.ErrStopped"].getD k ""
theorem gE:∀ k,k<9->prog.globalNamed (Ba k)=some (Kp k)/\(prog.globals[Kp k]?).map (·.type)=some 46
 |0,_=>⟨by kernel_rfl,by kernel_rfl⟩
 |1,_=>⟨by kernel_rfl,by kernel_rfl⟩
 |2,_=>⟨by kernel_rfl,by kernel_rfl⟩
 |3,_=>⟨by kernel_rfl,by kernel_rfl⟩
 |4,_=>⟨by kernel_rfl,by kernel_rfl⟩
 |5,_=>⟨by kernel_rfl,by kernel_rfl⟩
 |6,_=>⟨by kernel_rfl,by kernel_rfl⟩
 |7,_=>⟨by kernel_rfl,by kernel_rfl⟩
 |8,_=>⟨by kernel_rfl,by kernel_rfl⟩
theorem gTy:prog.globalNamed "errors.errorType"=some 4:=by kernel_rfl
def nT:List (List UInt8):=[[110,111,32,115,117,99,104,32,99,108,117,115,116,101,114],[110,111,32,116,114,97,110,115,97,99,116,105,111,110],[116,111,111,32,109,97,110,121],
 [110,111,32,115,117,99,104,32,116,114,97,110,115,97,99,116,105,111,110],[110,111,32,115,117,99,104,32,109,101,115,115,97,103,101],[110,111,32,115,117,99,104,32,115,104,97,114,100],
 [97,32,115,104,97,114,100,32,116,104,97,116,32,105,115,32,100,111,119,110],[97,32,115,104,97,114,100,32,116,104,97,116,32,105,115,32,117,112],[116,104,101,32,99,108,117,115,116,101,114,32,104,97,115,32,98,101,101,110,32,115,116,111,112,112,101,100]]
def vz:List (String×List UInt8):=[(Ba 0,nT.getD 0 []),(Ba 1,nT.getD 1 []),(Ba 2,nT.getD 2 []),(Ba 3,nT.getD 3 []),(Ba 4,nT.getD 4 []),(Ba 5,nT.getD 5 []),(Ba 6,nT.getD 6 []),(Ba 7,nT.getD 7 []),(Ba 8,nT.getD 8 [])]
theorem La:∀ k,k<9->(vz[k]?).map (·.1)=some (Ba k)
 |0,_=>rfl
 |1,_=>rfl
 |2,_=>rfl
 |3,_=>rfl
 |4,_=>rfl
 |5,_=>rfl
 |6,_=>rfl
 |7,_=>rfl
 |8,_=>rfl
theorem O4:(prog.cutTypes.find? (·.1== "internal/reflectlite.rtype")).map (·.2)=some 231:=by kernel_rfl
theorem Fz{W:World}{l:List (String×DataW Unit)}{d:DataW Unit}(ND:(l.filter λx=>x.2.handleName?.isNone)=vz.map VY)(De:(l.filter λx=>x.2.handleName?.isSome)=[("errors.errorType",d)])(hfd:d.funcsIn?=none)(lR:d.handleName?=some [101,114,114,111,114])
  (h:laidMetH prog l W) (hS:W.ShapedOpen prog):∃ eb,ig (hp W.heap) eb:=by
 unfold laidMetH at h;rw[De]at h;dsimp only at h;rw[ND]at h;obtain⟨⟨ps,hL,acy,Fy⟩,hH⟩:=h;have Zn:∀ n,n∈vz.map (·.1)->∃ g,prog.globalNamed n=some g/\(prog.globals[g]?).map (·.type)=some 46:=λn hn=>by
  rw[show vz.map (·.1)=[Ba 0,Ba 1,Ba 2,Ba 3,Ba 4,Ba 5,Ba 6,Ba 7,Ba 8]from rfl]at hn;simp only[ga,l7,fO]at hn;rcases hn with h|h|h|h|h|h|h|h|h
  all_goals rw[h];exact⟨_,gE _ az⟩
 obtain⟨K9,hl,iK,hp,hm⟩:=K8 vz ps hL acy Fy Zn;have hl9:K9.length=9:=hl;have FA:∀ {n:String} {g:Nat} {cs:Array Value},prog.globalNamed n=some g->W.var? prog n=some cs->g<prog.globals.size->∃ t,W.heap[g]? =some (.cells cs t (0,0)):=by
  intro n g cs hg hv dA;have hz:∃ zero t,((begin prog (λ_ _=>0) default).world.heap[g]?).bind Obj.row?=some (zero,t):=by
   have k:((List.range prog.globals.size).all λg=>(((begin prog (λ_ _=>0) default).world.heap[g]?).bind Obj.row?).isSome)=true:=by kernel_rfl
   have:=k9.1 k g (m7.2 dA);obtain⟨⟨a,b⟩,SS⟩:=tv.1 this;exact⟨a,b,SS⟩
  obtain⟨zero,t,hz⟩:=hz;obtain⟨cs',h1,_⟩:=hS.1 g zero t dA hz;unfold World.var? at hv;rw[hg,nE,h1]at hv;cases hv;exact⟨t,h1⟩
 have gsz:∀ k,k<9->Kp k<prog.globals.size:=λk hk=>by
  have:=(gE k hk).2;cases hx:prog.globals[Kp k]? with
  |none=>rw[hx]at this;cases this
  |some _=>exact(gJ.1 hx).1
 refine⟨λk=>K9.getD k (0,0),λk hk=>?_,λk hk=>?_,λj k hj hk e=>?_,?_⟩
 ·obtain⟨x,hx,jV⟩:=Lf.1 (La k hk);obtain⟨a,ha,hv⟩:=iK k x hx;rw[jV]at hv;obtain⟨t,ht⟩:=FA (gE k hk).1 hv (gsz k hk);refine⟨t,?_⟩;simp only[List.getD,ha,jU];exact ht
 ·have h2:k<K9.length:=az;have:=hm K9[k] (br h2);obtain⟨c,t,h3⟩:=(Fy _ _ this).1;refine⟨c,t,?_⟩;simp only[List.getD,e9 h2,jU];exact h3
 ·have h1:j<K9.length:=az;have h2:k<K9.length:=az;simp only[List.getD,e9 h1,e9 h2,jU]at e;rcases Nat.lt_trichotomy j k with h|h|h
  ·exact absurd e (w5.1 hp j k h1 h2 h)
  ·exact h
  ·exact absurd e.symm (w5.1 hp k j h2 h1 h)
 ·have:=hH ("errors.errorType",d) (by simp);dsimp only at this;rw[hfd]at this;dsimp only at this;obtain⟨name,u,ty,h1,h2,h3,h4,h5⟩:=this;rw[lR]at h1;cases h1;rw[O4]at h2;cases h2;obtain rfl:=K7 ty h3 h4;exact FA gTy h5 (vW (by kernel_rfl))
theorem Za{α:Type}{l:List α}(h:l.length=3):∃ a b c,l=[a,b,c]:=by
 match l,h with
 |[a,b,c],_=>exact⟨a,b,c,rfl⟩
theorem Tk{α:Type}{l:List α}(h:l.length=6):∃ a b c d e f,l=[a,b,c,d,e,f]:=by
 match l,h with
 |[a,b,c,d,e,f],_=>exact⟨a,b,c,d,e,f,rfl⟩
theorem O5{w:World}{base:Nat}{a:Addr}{z:Nat}{cs:List Value}(hz:0<z)(h:w.cells? base a z=some cs):a.spot=none/\cs.length=z/\∃ c ty fr,w.heap[a.block]? =some (.cells c ty fr)/\∀ o,o<z->c[a.off+o]? =cs[o]? :=by
 obtain⟨_,hl,hc⟩:=World.cells?_some h;have h0:=hc 0 hz;have rk:cs[0]? =some (cs[0]'(by omega)):=e9 _;rw[rk,add_zero]at h0;unfold World.cell? at h0;split at h0
 ·rename_i c ty fr hb;split at h0
  ·cases h0
  ·rename_i hs;have qO:a.spot=none:=by simpa using hs
   refine⟨qO,hl,c,ty,fr,hb,λo ho=>?_⟩;have:=hc o ho;obtain⟨b,off,sp⟩:=a;dsimp only at qO hb⊢;subst qO;rw[gK]at this;unfold World.cell? at this;dsimp only at this;rw[hb]at this;simpa using this
 ·cases h0
variable{w:World}{spare:Nat->Bool}{held:Bool}
theorem I0{α:Type}{f:α->List Value}{z:Nat}{t e:aQ}{Q:α->DataW H->Prop}(hz:0<z)(ht:P.underlying t=some (.slice e))(hc:P.cellsOf e=z)
  (he:∀ n cs y,DataW.trod enc P w 0 spare held n e cs=some y->∃ a,f a=cs/\Q a y.1) {n:Nat} {cs:List Value} {x:DataW H×List MemPlace} (h:DataW.trod enc P w 0 spare held n t cs=some x):
  ∃ v l es,cs=[v]/\yT (hp w.heap) w.heap.size f z v l/\(x.1=.nil/\es=[]\/∃ sp,x.1=.slice es sp)/\es.length=l.length/\∀ a∈l,∃ d∈es,Q a d:=by
 rcases DataW.trod_slice ht h with⟨rfl,rfl⟩|⟨a,len,cap,elems,aa,m,rfl,rfl,rfl,_,_,_,hlen,N7,_,_⟩
 ·exact⟨_,[],[],rfl,⟨none,0,rfl,.inl rfl⟩,.inl ⟨rfl,rfl⟩,rfl,by simp⟩
 subst hlen;rw[hc]at N7;have key:∀ i:Fin elems.length,∃ b,w.cells? 0 (a.add (i.1*z)) z=some (f b)/\Q b elems[i.1].1:=λi=>by have h1:=N7 i.1 i.2;rw[e9 i.2,Option.bind_eq_some_iff]at h1;obtain⟨cs',h2,h3⟩:=h1;obtain⟨b,rfl,hb⟩:=he _ _ _ h3;exact⟨b,h2,hb⟩
 let l:List α:=List.ofFn λi=>Classical.choose (key i)
 have hl:l.length=elems.length:=List.length_ofFn;have hg:∀ (i:Nat) (hi:i<elems.length),w.cells? 0 (a.add (i*z)) z=some (f (l[i]'(by omega)))/\Q (l[i]'(by omega)) elems[i].1:=λi hi=>by have e:l[i]'(by omega)=Classical.choose (key ⟨i,hi⟩):=List.getElem_ofFn _;rw[e];exact HD (key ⟨i,hi⟩)
 refine⟨_,l,elems.map (·.1),rfl,?_,.inr ⟨_,rfl⟩,by rw[cV,hl],λb hb=>?_⟩
 ·refine⟨some a,cap,by rw[hl],?_⟩;by_cases hn:elems.length=0
  ·exact .inl (L0 az)
  ·have h0:=(hg 0 az).1;rw[I8,add_zero]at h0;obtain⟨qO,_,c,ty,fr,hb,_⟩:=O5 hz h0;obtain⟨b,off,sp⟩:=a;dsimp only at qO hb;subst qO;refine .inr ⟨b,off,c,ty,fr,rfl,hb,(gJ.1 hb).1,λj hj o ho=>?_⟩;have QO:=(hg j az).1;rw[gK]at QO;obtain⟨_,_,c',So,fr',nI,hr⟩:=O5 hz QO;dsimp only at nI hr;rw[hb]at nI;cases nI;exact hr o ho
 ·obtain⟨i,hi,rfl⟩:=jx hb;have cN:i<elems.length:=az;exact⟨elems[i].1,bH.2 ⟨_,br cN,rfl⟩,(hg i cN).2⟩
theorem Cv:prog.cellsOf 4=1:=by kernel_rfl
theorem vU:prog.cellsOf 3=1:=by kernel_rfl
theorem FB:prog.cellsOf 27=1:=by kernel_rfl
theorem yZ:prog.cellsOf 63=3:=by kernel_rfl
theorem uN:prog.cellsOf 29=6:=by kernel_rfl
theorem Hw:prog.bytesOf 63=24:=by kernel_rfl
theorem Cx:prog.bytesOf 29=64:=by kernel_rfl
theorem ti{n:Nat}{v:Value}{y:DataW H×List MemPlace}(h:DataW.trod enc prog w 0 spare held n 3 [v]=some y):∃ k,v=aI k/\WC k:=by obtain⟨k,h1,_,h3⟩:=DataW.trod_int underlying3 h;refine⟨k,by simpa using h1,?_⟩;simp only[Lit.wf,lN,o4]at h3;exact h3
theorem Zb{n:Nat}{cs:List Value}{y:DataW H×List MemPlace}(h:DataW.trod enc prog w 0 spare held n 63 cs=some y):∃ o,fX o=cs/\Z0 o:=by obtain⟨xs,m,_,_,hl,Ma,hf⟩:=DataW.trod_struct underlying63 h;rw[yZ]at hl;have Ma:xs.length=3:=Ma;obtain⟨a,b,c,rfl⟩:=Za hl;have f0:DataW.trod enc prog w 0 spare held m 4 (([a,b,c].drop 0).take (prog.cellsOf 4))=xs[0]? :=hf 0 _ rfl;have f1:DataW.trod enc prog w 0 spare held m 3 (([a,b,c].drop 1).take (prog.cellsOf 3))=xs[1]? :=hf 1 _ rfl;have f2:DataW.trod enc prog w 0 spare held m 3 (([a,b,c].drop 2).take (prog.cellsOf 3))=xs[2]? :=hf 2 _ rfl;rw[e9 az]at f0 f1 f2;rw[Cv]at f0;rw[vU]at f1 f2;obtain⟨p,hp,_⟩:=DataW.trod_bool underlying4 f0;obtain⟨q,rfl,hq⟩:=ti f1;obtain⟨r,rfl,hr⟩:=ti f2;have hp:[a]=[.bool p]:=hp;cases hp;exact⟨⟨p,q,r⟩,rfl,hq,hr⟩
def Tl(w:World)(s:lC)(d:DataW H):Prop:=(∀ x∈d.weights prog 29,x<=reachBytes)->py (hp w.heap) w.heap.size s
theorem O6{n:Nat}{cs:List Value}{y:DataW H×List MemPlace}(h:DataW.trod enc prog w 0 spare held n 29 cs=some y):∃ s,ny s=cs/\Tl w s y.1:=by
 obtain⟨xs,m,_,hy,hl,Ma,hf⟩:=DataW.trod_struct underlying29 h;rw[uN]at hl;have Ma:xs.length=6:=Ma;obtain⟨a,b,c,d,e,u,rfl⟩:=Tk hl;have f0:DataW.trod enc prog w 0 spare held m 3 (([a,b,c,d,e,u].drop 0).take (prog.cellsOf 3))=xs[0]? :=hf 0 _ rfl;have f1:DataW.trod enc prog w 0 spare held m 3 (([a,b,c,d,e,u].drop 1).take (prog.cellsOf 3))=xs[1]? :=hf 1 _ rfl;have f2:DataW.trod enc prog w 0 spare held m 3 (([a,b,c,d,e,u].drop 2).take (prog.cellsOf 3))=xs[2]? :=hf 2 _ rfl;have f3:DataW.trod enc prog w 0 spare held m 3 (([a,b,c,d,e,u].drop 3).take (prog.cellsOf 3))=xs[3]? :=hf 3 _ rfl;have f4:DataW.trod enc prog w 0 spare held m 3 (([a,b,c,d,e,u].drop 4).take (prog.cellsOf 3))=xs[4]? :=hf 4 _ rfl;have f5:DataW.trod enc prog w 0 spare held m 27 (([a,b,c,d,e,u].drop 5).take (prog.cellsOf 27))=xs[5]? :=hf 5 _ rfl;rw[e9 az]at f0 f1 f2 f3 f4 f5;rw[vU]at f0 f1 f2 f3 f4;rw[FB]at f5;obtain⟨p0,rfl,h0⟩:=ti f0;obtain⟨p1,rfl,h1⟩:=ti f1;obtain⟨p2,rfl,h2⟩:=ti f2;obtain⟨p3,rfl,h3⟩:=ti f3;obtain⟨p4,rfl,h4⟩:=ti f4;obtain⟨v,l,es,hv,jC,hd,hlen,hq⟩:=I0 (f:=fX) (z:=3) (Q:=λo _=>Z0 o) (by decide) underlying27 yZ (λn cs y h=>Zb h) f5;have hv:[u]=[v]:=hv;cases hv;refine⟨⟨p0,p1,p2,p3,p4,u,l⟩,rfl,λhw=>⟨h0,h1,h2,h3,h4,jC,λo ho=>?_,?_⟩⟩
 ·obtain⟨_,_,h⟩:=hq o ho;exact h
 ·show l.length*24<=_;rcases hd with⟨_,rfl⟩|⟨sp,hd⟩
  ·have:l.length=0:=hlen.symm;omega
  ·rw[hy]at hw;obtain⟨x0,x1,x2,x3,x4,x5,rfl⟩:=Tk Ma;have hd:x5.1=.slice es sp:=hd;have:=hw ((es.length+sp.length)*24) (by unfold DataW.weights;rw[underlying29];simp only[iJ,m1,DataW.weightsEach,bU];rw[hd];refine .inr (.inr (.inr (.inr (.inr (.inl ?_)))));unfold DataW.weights;rw[underlying27];simp only[Hw];exact iz ..)
   unfold reachBytes at this;rw[<- hlen];have h9:es.length*24<=(es.length+sp.length)*24:=se _ (Nat.le_add_right ..);omega
theorem qN{P:bL}{e:aQ}:∀ {es:List (DataW H)} {d:DataW H},d∈es->∀ x∈d.weights P e,x∈DataW.weightsAll P e es
 |[],_,h,_,_=>by cases h
 |a::es,d,h,x,hx=>by
  unfold DataW.weightsAll;rcases ga.1 h with rfl|h
  ·exact j0 _ hx
  ·exact jw _ (qN h x hx)
theorem Lb{n:Nat}{cs:List Value}{y:DataW H×List MemPlace}(h:DataW.trod enc prog w 0 spare held n 22 cs=some y)(hw:∀ x∈y.1.weights prog 22,x<=reachBytes):
  ∃ v sc,cs=[v]/\yT (hp w.heap) w.heap.size ny 6 v sc/\(∀ s∈sc,py (hp w.heap) w.heap.size s)/\sc.length*64<=140737488355328:=by
 obtain⟨v,l,es,hv,jC,hd,hlen,hq⟩:=I0 (f:=ny) (z:=6) (Q:=λs d=>Tl w s d) (by decide) underlying22 uN (λn cs y h=>O6 h) h;refine⟨v,l,hv,jC,λs hs=>?_,?_⟩
 ·obtain⟨d,y7,hd2⟩:=hq s hs;refine hd2 λx hx=>?_;rcases hd with⟨_,rfl⟩|⟨sp,hd⟩
  ·cases y7
  ·refine hw x ?_;rw[hd];unfold DataW.weights;rw[underlying22];simp only[ga,bU];exact .inr (.inl (qN y7 x hx))
 ·rcases hd with⟨_,rfl⟩|⟨sp,hd⟩
  ·have:l.length=0:=hlen.symm;omega
  ·have:=hw ((es.length+sp.length)*64) (by rw[hd];unfold DataW.weights;rw[underlying22];simp only[Cx];exact iz ..)
   unfold reachBytes at this;rw[<- hlen];have h9:es.length*64<=(es.length+sp.length)*64:=se _ (Nat.le_add_right ..);omega
open Go.ChangeShapes Go.WideShapes
theorem laidOut:laidOutB prog=true:=by kernel_rfl
theorem FC:prog.readableRec 22=true:=by kernel_rfl
theorem Hx:22<prog.types.size:=vW (by kernel_rfl)
set_option maxRecDepth 100000 in
theorem O7{f:bI}{fu:Func}{s:ChangeSpec}{apart fresh handsOn:Bool}{W:World}{base:Nat}{args:Array Value}{ds gs:List (DataW H)}{before:List MemPlace}
  (RQ:fu.params.toList=[22]) (acz:fu.resultTypes=#[4]) (Tm:s.vars=[]) (SJ:∀ d:DataW H,(s.fn H [d]).results=[.lit (.bool true)]/\(s.fn H [d]).args=[d]/\(s.fn H [d]).vars=[])
  (xX:∀ (j:Nat) t v,fu.params[j]? =some t->args[j]? =some v->Value.okWide prog W .any base t v)
  (hW:DataW.Whole enc prog fu.params.toList s.vars apart W args.toList ds gs before) (BU:(DataW.weightsEach prog (fu.params.toList++s.plain.varTypes prog) (ds++gs)).all (· <=reachBytes)=true)
  (hE:∃ eb,ig (hp W.heap) eb)
  (run:∀ {Post:Value->World->Prop} {os:Os} {out:Array (Nat×ByteArray)} {σ:Gh} {I:HL} {v:Value} {sc:List lC} {eb:Nat->Nat×Nat},ig I eb->yT I σ.bot ny 6 v sc->(∀ s∈sc,py I σ.bot s)->sc.length<=2^41->sb σ->
   (∀ (I':HL) (w:World),Sub I I'->Sat [a7 I'] (hp w.heap)->w.os=os->w.output=out->Post (.bool true) w)->At (aC prog Post bP σ 0 os out) 0 [a7 I] (iB prog f #[v] .pb [])):
  Ends prog (λv W'=>s.post enc prog fu apart fresh handsOn false W args v {W' with os:=W.os}/\OsLater W.os W'.os) (solo (G (Frame.enter prog f args .normal) []) W) #[]:=by
 have hW':=hW;obtain⟨p,q,hA,hV,rfl,hfz,lR⟩:=hW;rw[Tm]at hV;obtain⟨rfl,rfl⟩:=trodVars_none hV;rw[RQ]at hA;obtain⟨v,d,rfl,rfl,hd⟩:=trodAll_one hA;obtain⟨n,ht⟩:=hd;rw[RQ]at BU;obtain⟨v',sc,rk,jC,dJ,hlen⟩:=Lb ht (λx hx=>by
  have:=k9.1 BU x (by simp only[iX,fi,DataW.weightsEach,bU];exact .inl hx)
  simpa using this)
 have XQ:fu.params[0]? =some 22:=by rw[<- Array.getElem?_toList,RQ];rfl
 have Mz:=xX 0 22 v XQ (by simp);obtain⟨a0,Zc,Zd,rfl⟩:=okWide_slice underlying22 Mz;obtain rfl:Value.slice a0 Zc Zd=v':=(zW rk).1;obtain⟨eb,hE⟩:=hE;have h0:sb {n:=1,aT:=λ_=>none,sh:=λ_=>False,bot:=W.heap.size}:=⟨Nat.one_ne_zero,λ_=>rfl⟩;refine vF.whole (bot:=W.heap.size) ?_;have hr:=run (Post:=λv W'=>s.post enc prog fu apart fresh handsOn false W #[.slice a0 Zc Zd] v {W' with os:=W.os}/\OsLater W.os W'.os) (os:=W.os) (out:=W.output) (σ:={n:=1,aT:=λ_=>none,sh:=λ_=>False,bot:=W.heap.size}) (I:=hp W.heap) hE jC dJ az h0 ?_
 ·exact hr W.heap ⟨_,rfl,λ_ _ h=>h,trivial⟩ rfl (GO.mk (λi s h=>by cases h) (λi s c h=>by cases h) (λi s p h=>by cases h) (λl h=>False.elim h) (gZ _)) W rfl rfl rfl
 ·intro I' w gu acB hos iW;obtain⟨h1,rfl,m2,_⟩:=acB;have Gf:∀ k,k<W.heap.size->w.heap[k]? =W.heap[k]? :=λk hk=>by have e:W.heap[k]? =some (W.heap[k]'hk):=CA hk;rw[e];exact m2 _ _ (gu _ _ e)
  have hsz:W.heap.size<=w.heap.size:=by
   by_cases h:W.heap.size=0
   ·omega
   ·have e:W.heap[W.heap.size-1]? =some (W.heap[W.heap.size-1]'(by omega)):=CA az;have:=(gJ.1 (Gf (W.heap.size-1) az |>.trans e)).1;omega
  have hb:=Fw (w':=w) iW Gf hsz;obtain⟨e1,e2,e3⟩:=SJ d;simp only[k8]at hW';have Ze:=Below.trod laidOut FC Hx ⟨n,ht⟩ hb (λx hx=>hW'.lt x hx);refine⟨⟨[d],[],p,[],p,[],hW',?_,?_,?_,RP iW Gf hsz _,λh=>by cases h⟩,by rw[hos];exact OsLater.refl _⟩
  ·rw[k8,e1,acz];exact trodAll_mk1 (shut_bool underlying4 true)
  ·rw[k8,e2,RQ];exact trodAll_mk1 (DataW.Trod.of_heap (w':={w with os:=W.os}) (by rfl) Ze)
  ·rw[k8,e3,Tm];rfl
end
end Go.Sl
