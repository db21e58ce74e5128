/-
  Texts that the proof needs, joined: part 6.
-/
import Derived.Test.YtjomdboiibakiaaGreatDoorCmE
set_option linter.unusedSimpArgs false
set_option linter.unusedVariables false
set_option maxHeartbeats 4000000
namespace Go.Sl
open Go.Proofs.Tryz
section
open Go.Proofs Go.Conc
def EY(l:List l4)(k:Int):Option l4:=if k<0 then none else l[k.toNat]?
theorem B4{σ:Gh}{c:CV}{k:Int}{I:HL}(hJ:q6 I c)(hl:c.aL.length<=60):bC prog bP 39 #[aF c.G.b,aI k] σ [dw c,a7 I]
  (λv σ' As=>σ'=σ/\∃ (sl:ay) (n:Int) (rd:List Int),v=.tuple #[aI n,sl.v]/\(match EY c.aL k with|none=>n=0/\rd=[]|some t=>n=t.state/\rd=t.reads)/\As=[a9 da 1 21 sl rd,dw c,a7 I]):=by
 refine bC.of ?_;intro Post os out kd F c' cs C aJ aj;refine bM ?_;obtain⟨G,ae,aE,aL,ai⟩:=c;refine dw.opn (h:=λhs bg tx=>?_);dsimp only at hl;refine kL ?_;refine C.cE eX ?_;refine ve ?_;refine C.df rfl ?_;refine dN ?_;refine C.cmp rfl (λpM=>?_) (λpM=>?_)
 ·refine jr ?_;refine C.DO ?_;refine aC.n7 (aD.g dm) ?_;rintro v σ' aN ⟨rfl,rfl,rfl⟩;refine bM ?_;refine C.home (fu:=f39) func39 aJ rfl ?_;refine At.aG da 1 21 ?_;refine dw.cls (m:=0) ⟨G,ae,aE,aL,ai⟩ ?_;refine At.jB ?_ (aj _ _ _ ⟨rfl,aG,0,[],rfl,by unfold EY;rw[aK pM];exact⟨rfl,rfl⟩,rfl⟩);exact bZ.au
 ·refine dH ?_;refine C.m3 rfl ?_ (s:=tx) (l:=aL) (f:=qZ);refine C.cmp rfl (λys=>?_) (λys=>?_)
  ·refine dV ?_;refine C.DO ?_;refine aC.n7 (aD.g dm) ?_;rintro v σ' aN ⟨rfl,rfl,rfl⟩;refine bM ?_;refine C.home (fu:=f39) func39 aJ rfl ?_;refine At.aG da 1 21 ?_;refine dw.cls (m:=0) ⟨G,ae,aE,aL,ai⟩ ?_;refine At.jB ?_ (aj _ _ _ ⟨rfl,aG,0,[],rfl,by unfold EY;rw[ao pM,vB (show aL.length<=k.toNat by omega)];exact⟨rfl,rfl⟩,rfl⟩);exact bZ.au
  ·refine dN ?_;obtain⟨q,rfl⟩:=gR (show 0<=k by omega);have hq:q<aL.length:=az;have rU:dS I da 21 aL[q].sr aL[q].reads:=(hJ.aL _ (br hq)).r;have htz:aL[q].reads.length<2^20:=(hJ.aL _ (br hq)).z;refine C.vL (cG 24 0 17++[(4,17),(5,18)]) 19 [16,18] 2 ?_ (W:=[nU G.b 1 hs.v bg.v tx.v (.chan (some G.dn)) ai (CV.st ⟨G,ae,aE,aL,ai⟩),a9 qZ 3 126 tx aL]);refine gg ?_;refine lZ ?_;refine Dr.chain rfl ?_ (λ_ s=>bZ.sat bZ.au s);refine Ch.m 16 (aW λe aa hk=>?_);refine C.dv (aD.less (cy _) (oW rU (Nat.lt_trans htz (by decide)))) ?_;rintro v aN ⟨s',rfl,rfl⟩;refine bM ?_;refine hk _ _ lu ?_;refine Ch.q 18 (λh=>C.kH rfl h) ?_;refine eQ ?_;refine C.DO ?_;refine aC.n7 (aD.g dm) ?_;rintro v σ' aN ⟨rfl,rfl,rfl⟩;refine bM ?_;refine C.home (fu:=f39) func39 aJ rfl ?_;refine dw.cls (m:=0) ⟨G,ae,aE,aL,ai⟩ ?_;refine At.jB ?_ (aj _ _ _ ⟨rfl,s',aL[q].state,aL[q].reads,rfl,by unfold EY;rw[ao pM,g5,e9 hq];exact⟨rfl,rfl⟩,rfl⟩);exact bZ.au
theorem EZ{ak:Bool}{lg:ay}{l:List cm}(hl:l.length<2^40):aD prog ak bQ 127 #[lg.v] [a9 bN 7 190 lg l] (λv As=>∃ s':ay,v=s'.v/\As=[a9 bN 7 190 s' l,a9 bN 7 190 lg l]):=by
 refine aD.of λR C kd d F c cs aJ aj=>?_;refine bM ?_;refine At.XR (s:=lg) (l:=l) (f:=bN) Fo.au ?_ ?_
 ·rintro rfl rfl;refine dH ?_;refine C.SG rfl ?_ (a:=none) (len:=0) (cap:=0);refine dD ?_;refine At.aG bN 7 190 ?_;exact C.bk aJ aj ⟨aG,rfl,rfl⟩
 ·intro h1 h2;have hv:lg.v=.slice (some ⟨lg.b,0,none⟩) lg.len lg.cap:=by unfold ay.v;rw[h1]
  refine dH ?_;refine C.SG rfl ?_ (a:=some ⟨lg.b,0,none⟩) (len:=lg.len) (cap:=lg.cap) (hx:=hv);refine dN ?_;refine C.ZA bN rfl (λb5=>?_);refine fI ?_;refine C.Dw (l:=[]) l rfl (λs'=>?_) (hsrc:=λH st=>?_) (s:=⟨some ⟨b5,0,none⟩,0,0⟩)
  ·refine bJ ?_;exact C.bk aJ aj ⟨s',rfl,rfl⟩
  ·exact dt.src (dt.own (s:=lg) Fo.au) st (λj=>rfl)
abbrev wz(m:cm):HP:=all [a9 cF 3 67 m.so m.ops,a9 da 1 21 m.sr m.reads]
variable{R:Nat->aP->Array Obj->Prop}{d:Nat}{As F L:List HP}{g:aP}{ms:List cm}
theorem Q9(m:cm)(hr:dB [a9 cF 3 67 m.so m.ops,a9 da 1 21 m.sr m.reads,all (ms.map wz)] As L)(h:At R d (all ((ms++[m]).map wz)::L) g):At R d As g:=
 At.perm hr.perm λH s=>(qU (f:=wz) m (.cons .head (.cons .head .nil)) h) H (Sat.fS (l:=[a9 cF 3 67 m.so m.ops,a9 da 1 21 m.sr m.reads]) s)
theorem Kr{σ:Gh}{c:CV}{I:HL}(hJ:q6 I c)(hO:∀ m∈c.aE,m.ops.length<2^20)(hl:c.aE.length<2^30):bC prog bP 77 #[aF c.G.b] σ [dw c,a7 I]
  (λv σ' As=>σ'=σ/\∃ (sl:ay) (ms:List cm),v=sl.v/\ms.map (·.toMsgR)=c.aE.map (·.toMsgR)/\As=[a9 bN 7 190 sl ms,all (ms.map wz),dw c,a7 I]):=by
 refine bC.of ?_;intro Post os out kd F c' cs C aJ aj;refine bM ?_;obtain⟨G,ae,aE,aL,ai⟩:=c;have hJb:∀ m∈aE,jX I m:=hJ.aE;refine dw.opn (h:=λhs bg tx=>?_);dsimp only at hl hO;refine kE ?_;refine C.cE eX ?_;refine ve ?_;refine C.df rfl ?_;refine dH ?_;refine C.dv (aD.less (cy _) (EZ (lg:=bg) (l:=aE) az)) ?_;rintro v aN ⟨s3,rfl,rfl⟩;refine bM ?_;refine dw.cls (m:=1) ⟨G,ae,aE,aL,ai⟩ ?_;refine cW ?_;refine C.m3 rfl ?_ (s:=s3) (l:=aE) (f:=bN);refine bJ ?_;refine At.zr (show At (aC prog Post bP σ 0 os out) 0 (all (([]:List cm).map wz)::_) _ from ?_);refine C.cx (X:=Nat×List cm) (λx=>[(0,aF G.b),(3,s3.v),(18,s3.v),(19,aI aE.length),(20,aI x.1)]) (λx=>a9 bN 7 190 s3 (x.2++aE.drop x.1)::all (x.2.map wz)::qD 1 ⟨G,ae,aE,aL,ai⟩::a7 I::F) (λx=>x.1<=aE.length/\x.2.map (·.toMsgR)=(aE.take x.1).map (·.toMsgR)) (λx=>aE.length-x.1) (0,[]) ⟨rfl,rfl,rfl,rfl,rfl,trivial⟩ ⟨eK _,rfl⟩ ?_ (hI:=by rw[fi,zg];exact bZ.au);rintro⟨i,ms⟩ e ⟨hi,Ps⟩ ih;dsimp only at hi Ps⊢;have Sq:ms.length=i:=by have:=congrArg List.length Ps;rw[cV,cV,ik]at this;omega
 refine bJ ?_;refine C.cmp rfl (λrW=>?_) (λrW=>?_)
 ·refine bJ ?_;have cN:i<aE.length:=by simpa using rW
  have hlen:i<(ms++aE.drop i).length:=by simp;omega
  have il:(ms++aE.drop i)[i]'hlen=aE[i]:=by rw[HK az];simp[Sq]
  have JO:=(hJb _ (br cN)).o;have hmr:=(hJb _ (br cN)).r;have hmz:=(hJb _ (br cN)).z;have hoz:=hO _ (br cN);refine dN ?_;refine C.mE rfl (λhj=>?_) (s:=s3) (l:=ms++aE.drop i) (j:=i) (hj:=hlen);rw[il];simp only[bN];refine C.al rfl (λb5=>?_);refine dN ?_;refine C.vL (cG 25 0 12++[(37,13),(38,14)]) 16 [6,9,10,11,12,13,14,15] 4 ?_ (W:=[lM b5 (aE[i]'cN),a7 I]);refine CJ ?_;refine Dr.chain rfl ?_ (λ_ s=>bZ.sat bZ.au s);refine Ch.m 6 (aW λe aa hk=>?_);refine C.dv (aD.less (cy _) (sW JO (Nat.lt_trans hoz (by decide)))) ?_;rintro v aN ⟨S6,rfl,rfl⟩;refine bM ?_;refine hk _ _ lu ?_;refine Ch.m 9 (aW λe aa hk=>?_);refine C.dv (aD.less (cy _) (oW hmr (Nat.lt_trans hmz (by decide)))) ?_;rintro v aN ⟨Yq,rfl,rfl⟩;refine bM ?_;refine hk _ _ lu ?_;refine Ch.m 10 (aW λe aa hk=>?_);refine C.kJ rfl (hk _ _ .refl ?_);refine Ch.q 11 (λh=>C.fa rfl h) ?_;refine Ch.m 12 (aW λe aa hk=>?_);refine C.Gl (s:=s3) (l:=ms++aE.drop i) (j:=i) (o:=5) ({(aE[i]'cN)with so:=S6}:cm) rfl ?_ (hj:=hlen) (ha:=by rw[il];rfl);refine hk _ undef lu ?_;refine Ch.m 13 (aW λe aa hk=>?_);refine C.kJ rfl (hk _ _ ?_) (hj:=by rw[fM];exact hlen);refine Ch.q 14 (λh=>C.fa rfl h) ?_;refine Ch.m 15 (aW λe aa hk=>?_);refine C.Gl (s:=s3) (l:=(ms++aE.drop i).set i {(aE[i]'cN)with so:=S6}) (j:=i) (o:=6) ({(aE[i]'cN)with so:=S6,sr:=Yq}:cm) rfl (hk _ undef ?_) (hj:=by rw[fM];exact hlen) (ha:=by rw[vD];rfl);refine zD ?_;refine Q9 (ms:=ms) ({(aE[i]'cN)with so:=S6,sr:=Yq}:cm) dB.au ?_;refine again ih (i+1,ms++[({(aE[i]'cN)with so:=S6,sr:=Yq}:cm)]) ⟨cN,?_⟩ (dI) (hr:=?_)
  ·rw[gQ cN,eF,eF,Ps];rfl
  ·have e1:((ms++aE.drop i).set i ({(aE[i]'cN)with so:=S6}:cm)).set i ({(aE[i]'cN)with so:=S6,sr:=Yq}:cm)=(ms++[({(aE[i]'cN)with so:=S6,sr:=Yq}:cm)])++aE.drop (i+1):=by rw[zX,Tw _ _ az,Sq,zV,iR cN,uT,pQ];rfl
   rw[e1];exact bZ.au
 ·refine dH ?_;have BS:aE.drop i=[]:=pS (by simp at rW;omega);have CN:aE.take i=aE:=iq (by simp at rW;omega);rw[BS,k8];rw[CN]at Ps;refine C.DO ?_;refine dw.opn (m:=1) (c:=⟨G,ae,aE,aL,ai⟩) (h:=λhs bg tx=>?_);refine aC.n7 (aD.g dm) ?_;rintro v σ' aN ⟨rfl,rfl,rfl⟩;refine bM ?_;refine C.home (fu:=f77) func77 aJ rfl ?_;refine dw.cls (m:=0) ⟨G,ae,aE,aL,ai⟩ ?_;refine At.jB ?_ (aj _ _ _ ⟨rfl,s3,ms,rfl,Ps,rfl⟩);exact bZ.au
variable{q:Nat}
theorem Og(hi:q<ms.length)(hf:Fo (all (ms.map wz)) As L)(h:At R d (a9 cF 3 67 ms[q].so ms[q].ops::a9 da 1 21 ms[q].sr ms[q].reads::all ((ms.eraseIdx q).map wz)::L) g):At R d As g:=
 j7 (f:=wz) hi hf λH s=>h H (Sat.flat (l:=[a9 cF 3 67 ms[q].so ms[q].ops,a9 da 1 21 ms[q].sr ms[q].reads]) s)
def Yr(m:MsgR):Prop:=(∀ o∈m.ops,(-9223372036854775808<=o.k/\o.k<=9223372036854775807)/\(-9223372036854775808<=o.v/\o.v<=9223372036854775807))/\(∀ x∈m.reads, -9223372036854775808<=x/\x<=9223372036854775807)
abbrev mT(b x y:Nat):HP:=bR b (.cells #[aF x,aF y] 150 (0,0))
theorem Ks{σ:Gh}{c:CV}{I:HL}{w:WV}{bw:Nat}(hJ:q6 I c)(hW:WI I w)(hO:∀ m∈c.aE,m.ops.length<2^20)(hl:c.aE.length<2^30)(he:c.aE.map (·.toMsgR)=w.aE.map (·.toMsgR))(hz:∀ m∈w.aE,Yr m.toMsgR)(hRl:∀ m∈c.aE,m.reads.length<2^20):
  bC prog bP 120 #[.agg #[aF c.G.b,aF bw]] σ [dw c,wP bw w,a7 I] (λv σ' As=>σ'=σ/\v=.bool true/\As=[dw c,wP bw w,a7 I]):=by
 refine bC.of ?_;intro Post os out kd F c' cs C aJ aj;refine bM ?_;have hlen:c.aE.length=w.aE.length:=by have:=congrArg List.length he;simpa using this
 refine bJ ?_;refine C.bx rfl (λb1=>?_);refine dD ?_;refine C.cx (X:=Nat) (λx=>[(1,aF b1),(3,aI x)]) (λ_=>mT b1 c.G.b bw::dw c::wP bw w::a7 I::F) (λx=>x<=2) (λx=>2-x) 0 ⟨rfl,rfl,trivial⟩ (eK _) ?_;intro x e hx ih;refine dN ?_;refine C.cmp rfl (λqz=>?_) (λqz=>?_)
 ·refine dD ?_;refine aC.kK (Kr hJ hO hl) ?_;rintro v σ' aN ⟨rfl,sl,ms,rfl,Ps,rfl⟩;refine bM ?_;have Sq:ms.length=c.aE.length:=by have:=congrArg List.length Ps;simpa using this
  refine wP.opn (b:=bw) (w:=w) (h:=λsh bg tx=>?_);refine cW ?_;refine C.m3 rfl ?_ (s:=sl) (l:=ms) (f:=bN);refine dD ?_;refine C.m3 rfl ?_ (s:=bg) (l:=w.aE) (f:=bN);refine C.dP rfl ?_;refine dD ?_;refine C.cx (X:=Nat×List cm) (λy=>[(1,aF b1),(3,aI x),(4,sl.v),(5,aI y.1)]) (λy=>a9 bN 7 190 sl y.2::all ((ms.drop y.1).map wz)::mT b1 c.G.b bw::dw c::wO bw w sh bg tx (a7 I::F)) (λy=>y.1<=ms.length/\y.2.length=ms.length/\y.2.drop y.1=ms.drop y.1) (λy=>ms.length-y.1) (0,ms) ⟨rfl,rfl,rfl,rfl,trivial⟩ ⟨eK _,rfl,rfl⟩ ?_ (hI:=by rw[zg];exact bZ.au);rintro⟨i,mx⟩ e ⟨hi,Ys,BS⟩ Lm;dsimp only at hi Ys BS⊢;refine cW ?_;refine C.m3 rfl ?_ (s:=sl) (l:=mx) (f:=bN);refine C.cmp rfl (λWv=>?_) (λWv=>?_)
  ·refine bJ ?_;have cN:i<ms.length:=az;have Yt:i<mx.length:=az;have MN:i<w.aE.length:=az;have SN:mx[i]=ms[i]:=by have h1:=iR Yt;have h2:=iR cN;rw[BS,h2]at h1;exact(zW h1).1.symm
   obtain⟨ma,Ra⟩:∃ ma,ma=ms[i]:=⟨_,rfl⟩;obtain⟨mb,Kt⟩:∃ mb,mb=w.aE[i]:=⟨_,rfl⟩;have heq:ma.toMsgR=mb.toMsgR:=by
    have h1:(ms.map (·.toMsgR))[i]'(by simpa using cN)=(w.aE.map (·.toMsgR))[i]'(by simpa using MN):=by simp only[Ps,he]
    rw[pR,pR]at h1;rw[Ra,Kt];exact h1
   have Rb:=hW.aE mb (Kt▸br MN);have Ww:=hz mb (Kt▸br MN);have hmO:ma.ops.length<2^20:=by
    have h1:ma.toMsgR∈c.aE.map (·.toMsgR):=by rw[<- Ps];exact bH.2 ⟨ma,Ra▸br cN,rfl⟩
    obtain⟨mc,h2,h3⟩:=bH.1 h1;have:=hO mc h2;rw[<- h3];exact this
   have hmR:ma.reads.length<2^40:=by
    have h1:ma.toMsgR∈c.aE.map (·.toMsgR):=by rw[<- Ps];exact bH.2 ⟨ma,Ra▸br cN,rfl⟩
    obtain⟨mc,h2,h3⟩:=bH.1 h1;have:=hRl mc h2;rw[<- h3];omega
   rw[iR cN,<- Ra];obtain⟨ra,E0,B5⟩:=ma;obtain⟨rb,sob,srb⟩:=mb;obtain rfl:ra=rb:=heq;dsimp only at hmO Ww hmR;refine dN ?_;refine C.kJ rfl ?_ (s:=sl) (l:=mx) (f:=bN) (j:=i);refine C.mE rfl (λhj=>?_) (s:=sl) (l:=mx) (f:=bN) (j:=i);rw[SN,<- Ra];simp only[bN];refine C.al rfl (λb6=>?_);refine kL ?_;refine C.kJ rfl ?_ (s:=bg) (l:=w.aE) (f:=bN) (j:=i);refine C.mE rfl (λhj=>?_) (s:=bg) (l:=w.aE) (f:=bN) (j:=i);rw[<- Kt];simp only[bN];refine C.al rfl (λb7=>?_);refine dV ?_;refine Og (ms:=(⟨ra,E0,B5⟩:cm)::ms.drop (i+1)) (q:=0) (Nat.zero_lt_succ _) Fo.au ?_;simp only[PJ,List.eraseIdx_cons_zero];refine C.cE (aD.less (cy _) (uw (so:=E0) (ro:=sob) (ops:=ra.ops) rfl Rb.o Ww.1 az)) ?_;refine Lp ?_;refine C.cE (aD.less (cy _) (mO (so:=B5) (ro:=srb) (l:=ra.reads) rfl Rb.r Ww.2 hmR)) ?_;refine jK ?_;refine C.rg [0,1,2,3,4,5,6,7,8,9,10,11,12,13,14,15,16,17,18,19,20,21,22,23,24,25,26,27,28,29,30,31,32,33,34,35,36,37,38,39,40] ?_;refine cW ?_;refine C.dP rfl ?_ (hf:=by intro h;exact h rfl);refine dD ?_;refine C.dP rfl ?_ (hf:=by intro h;exact h rfl);refine dH ?_;refine C.dP rfl ?_ (hf:=by intro h;exact h rfl);refine dH ?_;refine C.dP rfl ?_ (hf:=by intro h;exact h rfl);refine dH ?_;refine C.GH underlying4 rfl ?_;refine nO ?_;refine C.cx (X:=Nat×List cr) (λy=>[(1,aF b1),(3,aI x),(4,sl.v),(5,aI i),(6,aF b6),(7,aF b7),(10,aI y.1)]) (λy=>a9 cF 3 67 E0 y.2::a9 da 1 21 B5 ra.reads::lM b6 ⟨ra,E0,B5⟩::a9 bN 7 190 sl mx::all ((ms.drop (i+1)).map wz)::mT b1 c.G.b bw::dw c::wO bw w sh bg tx (a7 I::F)) (λy=>y.1<=ra.ops.length/\y.2.length=ra.ops.length) (λy=>ra.ops.length-y.1) (0,ra.ops) ⟨rfl,rfl,rfl,rfl,rfl,rfl,rfl,trivial⟩ ⟨eK _,rfl⟩ ?_;rintro⟨k,lo⟩ e ⟨hk,oE⟩ IJ;dsimp only at hk oE⊢;refine dD ?_;refine C.m3 rfl ?_ (s:=E0) (l:=lo) (f:=cF);refine C.cmp rfl (λabw=>?_) (λabw=>?_)
   ·refine dV ?_;refine C.kJ rfl ?_ (s:=E0) (l:=lo) (f:=cF) (j:=k);refine C.Gm (s:=E0) (l:=lo) (f:=cF) (j:=k) ⟨false,113,0⟩ rfl ?_;refine dH ?_;exact again IJ (k+1,lo.set k ⟨false,113,0⟩) ⟨dI,by dsimp only;rw[fM];exact oE⟩ (dI)
   ·refine dD ?_;refine C.cx (X:=Nat×List Int) (λy=>[(1,aF b1),(3,aI x),(4,sl.v),(5,aI i),(6,aF b6),(11,aI y.1)]) (λy=>a9 da 1 21 B5 y.2::lM b6 ⟨ra,E0,B5⟩::a9 bN 7 190 sl mx::all ((ms.drop (i+1)).map wz)::mT b1 c.G.b bw::dw c::wO bw w sh bg tx (a7 I::F)) (λy=>y.1<=ra.reads.length/\y.2.length=ra.reads.length) (λy=>ra.reads.length-y.1) (0,ra.reads) ⟨rfl,rfl,rfl,rfl,rfl,rfl,trivial⟩ ⟨eK _,rfl⟩ ?_;rintro⟨k,lo⟩ e ⟨hk,oE⟩ IJ;dsimp only at hk oE⊢;refine dD ?_;refine C.m3 rfl ?_ (s:=B5) (l:=lo) (f:=da);refine C.cmp rfl (λabx=>?_) (λabx=>?_)
    ·refine dH ?_;refine C.kJ rfl ?_ (s:=B5) (l:=lo) (f:=da) (j:=k);refine C.zt (s:=B5) (l:=lo) (f:=da) (j:=k) 99 rfl ?_;refine dH ?_;exact again IJ (k+1,lo.set k 99) ⟨dI,by dsimp only;rw[fM];exact oE⟩ (dI)
    ·refine dH ?_;refine C.kJ rfl ?_ (s:=sl) (l:=mx) (f:=bN) (j:=i);refine C.Gm (s:=sl) (l:=mx) (f:=bN) (j:=i) ⟨bj,aG,aG⟩ rfl ?_;refine dH ?_;refine again Lm (i+1,mx.set i ⟨bj,aG,aG⟩) ⟨cN,by dsimp only;rw[fM];exact Ys,?_⟩ (dI);dsimp only;rw[HJ az];have h1:=iR Yt;have h2:=iR cN;rw[BS,h2]at h1;exact(zW h1).2.symm
  ·refine dV ?_;refine wP.cls (b:=bw) w ?_;exact again ih (x+1) az az
 ·refine dD ?_;exact aC.cK aJ aj ⟨rfl,rfl,rfl⟩
variable{ak:Bool}
def Ku(k n:Int):eS:=⟨k,n,true,[],0,gX,[],[],[],[],0,[]⟩
theorem AP{n:Int}:aD prog ak bQ 16 #[aI n] [] (λv As=>((1<=n/\n<=4)/\∃ b w,v=.tuple #[.pointer (some ⟨b,0,none⟩),aI 0]/\w.abs=pE n/\(∀ I,WI I w)/\As=[wP b w])\/((n<1\/4<n)/\v=.tuple #[.pointer none,aI 1]/\As=[])):=by
 refine aD.of λR C kd d F c cs aJ aj=>?_;refine zB ?_;refine dV ?_;refine C.cmp rfl (λh8=>?_) (λh8=>?_)
 ·refine i6 ?_;exact C.bk aJ aj (.inr ⟨.inl h8,rfl,rfl⟩)
 ·refine bJ ?_;refine C.cmp rfl (λqw=>?_) (λqw=>?_)
  ·refine dV ?_;exact C.bk aJ aj (.inr ⟨.inr az,rfl,rfl⟩)
  ·refine dD ?_;refine C.bx rfl (λYu=>?_);refine bJ ?_;have hn:1<=n/\n<=4:=⟨az,az⟩;refine At.turn (A:=bR Yu (.cells #[.slice none 0 0,.slice none 0 0,.slice none 0 0,.bool false] 53 (0,0))) Fo.au (A':=bR Yu (.cells #[aG.v,aG.v,aG.v,.bool false] 53 (0,0))) (λ_ h=>h) ?_;refine At.aG ek 1 54 (show At R d (a9 ek 1 54 aG (([]:List (Nat×eS)).map (·.1))::_) _ from(At.aG bN 7 137 (At.aG qZ 3 71 ?_)));refine At.zr (show At R d (all (([]:List (Nat×eS)).map nP)::_) _ from ?_);refine dN ?_;refine C.cx (X:=Nat×ay×List (Nat×eS)) (λx=>[(0,aI n),(4,.pointer (some ⟨Yu,0,none⟩)),(5,aI x.1)]) (λx=>wO Yu ⟨x.2.2,[],[],false⟩ x.2.1 aG aG F) (λx=>(x.1:Int)<=n/\x.2.2.length=x.1/\x.2.2.map (·.2)=((upto n).take x.1).map λk=>Ku k n) (λx=>(n-x.1).toNat) (0,aG,[]) ⟨rfl,rfl,rfl,trivial⟩ (And.intro (by show(0:Int)<=n;omega) (And.intro rfl rfl)) ?_;rintro⟨k,s1,l⟩ e ⟨hk,hl,hm⟩ ih;dsimp only at hk hl hm⊢;refine cW ?_;refine C.cmp rfl (λwv=>?_) (λwv=>?_)
   ·refine dH ?_;refine C.bx rfl (λja=>?_);refine bJ ?_;refine At.aG recC 6 247 (At.aG eE 1 3 (At.aG lT 2 258 (At.aG pG 6 287 (X6 (At.aG rz 3 251 (At.aG bN 7 137 (At.aG bN 7 137 ?_)))))));refine cY.cls (b:=ja) ⟨k,n,true,[],0,[],[],[],[],[],0,[]⟩ ?_ (lg:=aG) (vl:=aG) (lk:=aG) (un:=aG) (tm:=aG) (wt:=aG) (ot:=aG);refine bJ ?_;refine C.dv (qx (b:=ja) (s:=⟨k,n,true,[],0,[],[],[],[],[],0,[]⟩)) ?_;rintro v aN rfl;refine bM ?_;refine At.turn (A:=cY ja _) (A':=nP (ja,Ku k n)) (.head) (λ_ h=>h) ?_;refine kE ?_;refine C.nj rfl (λb32=>?_);refine C.nM (f:=ek) ja rfl (λs2=>?_) (hsz:=by simp only[cV,hl];omega);refine kL ?_;have rq:l.map (·.1)++[ja]=(l++[(ja,Ku k n)]).map (·.1):=by simp
    refine At.turn (A:=a9 ek 1 54 s2 (l.map (·.1)++[ja])) (A':=a9 ek 1 54 s2 ((l++[(ja,Ku k n)]).map (·.1))) Fo.au (λ_ h=>by rw[<- rq];exact h) ?_;refine qU (f:=nP) (l:=l) (ja,Ku k n) dB.au ?_;refine again ih (k+1,s2,l++[(ja,Ku k n)]) ⟨dI,by simp[hl],?_⟩ (dI);rw[cQ az,eF,hm,eF];rfl
   ·refine dV ?_;rw[oA az]at hm;refine wP.cls ⟨l,[],[],false⟩ ?_;refine C.bk aJ aj (.inl ⟨hn,Yu,⟨l,[],[],false⟩,rfl,?_,λI=>⟨λp hp=>?_,λm hm=>(by cases hm),λt ht=>(by cases ht)⟩,rfl⟩)
    ·have e1:l.map (·.2.abs)=(l.map (·.2)).map (·.abs):=by rw[tC];rfl
     unfold pE WV.abs;dsimp only;rw[e1,hm,tC];rfl
    ·have Je:p.2∈l.map (·.2):=bH.2 ⟨p,hp,rfl⟩;rw[hm]at Je;obtain⟨j,_,e⟩:=bH.1 Je;rw[<- e];exact⟨λr hr=>(by cases hr),λr hr=>(by cases hr),λr hr=>(by cases hr),λr hr=>(by cases hr)⟩
structure WB0(w:WR):Prop where
 n:1<=w.sh.length/\w.sh.length<=4
 aE:w.aE.length<2^20
 aL:w.aL.length<=60
theorem WV.mU(w:WV):w.abs.sh.length=w.sh.length:=by simp[WV.abs]
theorem WV.fA(w:WV):w.abs.aE.length=w.aE.length:=by simp[WV.abs]
theorem WV.jL(w:WV):w.abs.aL.length=w.aL.length:=by simp[WV.abs]
theorem Oh(ops:List cr)(n:Int)(h:0<ops.length):gU ops[0].k n=fW ops n:=by
 cases ops with
 |nil=>cases h
 |cons o l=>rfl
def E1(w:WV)(t:l4)(tx:Int):cm:=⟨{bj with kind:=1,aU:= -1,to:=fW t.ops w.sh.length,tx:=tx,ops:=t.ops},t.so,aG⟩
theorem vT{I:HL}{b tx:Nat}{w:WV}(hI:WI I w)(hn:1<=w.sh.length/\w.sh.length<=4)(mS:w.aE.length<2^30)(um:tx<w.aL.length)(cJ:jf w.aL[tx].ops/\1<=w.aL[tx].ops.length):
  aD prog ak bQ 32 #[.pointer (some ⟨b,0,none⟩),aI tx] [wP b w,a7 I] (λv As=>As=[wP b {w with aE:=w.aE++[E1 w w.aL[tx] tx]},a7 I]):=by
 refine aD.of λR C kd d F c cs aJ aj=>?_;refine bM ?_;refine wP.opn (h:=λsh bg pO=>?_);have rU:=(hI.aL _ (br um)).o;have Wq:0<w.aL[tx].ops.length:=cJ.2;have wq:=cJ.1.1 _ (br Wq);have Od:gU w.aL[tx].ops[0].k ((w.sh.map (·.1)).length:Int)=fW w.aL[tx].ops w.sh.length:=by rw[cV];exact Oh _ _ Wq
 refine ow ?_;refine C.vL (cG 13 0 22) 23 [14,17,18,19,22] 3 ?_ (W:=[bR b (.cells #[sh.v,bg.v,pO.v,.bool w.ai] 53 (0,0)),a9 ek 1 54 sh (w.sh.map (·.1)),a7 I]);refine gg ?_;refine CJ ?_;refine Dr.chain rfl ?_ (λ_ s=>bZ.sat bZ.au s);refine Ch.m 14 (aW λe aa hk=>?_);refine C.cE (BR (key:=w.aL[tx].ops[0].k) (n:=((w.sh.map (·.1)).length:Int)) az az (by rw[cV];omega)) ?_;refine zB ?_;rw[Od];refine hk _ _ lu ?_;refine Ch.q 17 (λh=>C.bd rfl h) ?_;refine Ch.m 18 (aW λe aa hk=>?_);refine C.nj rfl (λb31=>hk _ _ .cons ?_);refine Ch.m 19 (aW λe aa hk=>?_);refine C.nM (E1 w w.aL[tx] tx) rfl (λs2=>?_);refine hk _ _ lu ?_;refine Ch.m 22 (aW λe aa hk=>?_);refine C.st rfl (hk _ undef ?_);refine eQ ?_;refine wP.cls {w with aE:=w.aE++[E1 w w.aL[tx] tx]} ?_;exact C.cX aJ aj rfl
def WQ(b:Nat)(I:HL)(r:WR)(y:Value)(v:Value)(As:List HP):Prop:=∃ I' w',Sub I I'/\WI I' w'/\w'.abs=r/\v=y/\As=[wP b w',a7 I']
theorem B6{I:HL}{b:Nat}{w:WV}{so:ay}{ops:List cr}(hI:WI I w)(hb:WB0 w.abs)(ho:dS I fX 63 so ops)(hl:ops.length<2^44):
  aD prog ak bQ 20 #[.pointer (some ⟨b,0,none⟩),so.v] [wP b w,a7 I] (WQ b I (eG w.abs ops).1 (.tuple #[aI (eG w.abs ops).2.1,aI (eG w.abs ops).2.2])):=by
 refine aD.of λR C kd d F c cs aJ aj=>?_;refine bM ?_;refine wP.opn (h:=λsh bg pO=>?_);have um:=hb.aL;rw[WV.jL]at um;have Yv:=hb.aE;rw[WV.fA]at Yv;refine m4 ?_;refine C.xA (λU3=>?_) (λU3=>?_)
 ·refine dD ?_;refine wP.cls w ?_;have e1:eG w.abs ops=(w.abs,0,9):=by unfold eG;rw[aK (show w.abs.ai=true from U3)]
  rw[e1]at aj;exact C.bk aJ aj ⟨I,w,Sub.refl _,hI,rfl,rfl,rfl⟩
 ·refine C.go ?_;have dJ:¬ w.abs.ai=true:=by show¬ w.ai=true;simp[U3]
  refine bJ ?_;refine C.cE (GF ho az) ?_;refine bM ?_;generalize hz:decide (eV ops)=z;rcases g6 z with rfl|rfl
  ·refine dV ?_;have hr:eV ops:=by simpa using hz
   refine dH ?_;refine C.cmp rfl (λrW=>?_) (λrW=>?_)
   ·refine nO ?_;refine wP.cls w ?_;have e1:eG w.abs ops=(w.abs,0,3):=by unfold eG;rw[ao dJ,ao (by simpa using hr),aK (.inl (by rw[WV.jL];omega))]
    rw[e1]at aj;exact C.bk aJ aj ⟨I,w,Sub.refl _,hI,rfl,rfl,rfl⟩
   ·refine dH ?_;refine C.cmp rfl (λX9=>?_) (λX9=>?_)
    ·refine dV ?_;refine wP.cls w ?_;have e1:eG w.abs ops=(w.abs,0,3):=by unfold eG;rw[ao dJ,ao (by simpa using hr),aK (.inr (by rw[WV.fA];omega))]
     rw[e1]at aj;exact C.bk aJ aj ⟨I,w,Sub.refl _,hI,rfl,rfl,rfl⟩
    ·refine dH ?_;refine At.aG fX 3 63 ?_;refine dN ?_;refine C.Dw (f:=fX) (s:=aG) (l:=[]) ops rfl (λs7=>?_) (hsrc:=λH st=>dt.src (f:=fX) (el:=63) (.a7 Fo.au ho) st (λ_=>rfl)) (hsz:=by have:=hr.2.2.2;simp only[tA];omega);refine bJ ?_;refine At.Gk (s:=s7) (f:=fX) Fo.au Fo.au λI1 fp Wt=>?_;rw[fi]at Wt;refine kE ?_;refine C.nj rfl (λZU=>?_);refine C.nM (l4.mk ⟨ops,1,[]⟩ s7 aG) rfl (λs8=>?_);refine cW ?_;have Oi:WI I1 {w with aL:=w.aL++[l4.mk ⟨ops,1,[]⟩ s7 aG]}:=⟨(hI.mono fp).sh,(hI.mono fp).aE,λt ht=>by
      rcases bU.1 ht with ht|ht
      ·exact(hI.mono fp).aL t ht
      ·obtain rfl:=dF.1 ht;exact⟨Wt,.nil ..⟩⟩
     refine dV ?_;refine C.ar rfl ?_ (r:=(w.aL.length:Int)) (ha:=congrArg some (show(((w.aL++[l4.mk ⟨ops,1,[]⟩ s7 aG]).length:Nat):Int)-1=w.aL.length by rw[jd,lP];omega));have Oe:jf ops:=⟨λo ho=>⟨(hr.1 o ho).1,(hr.1 o ho).2.1⟩,by have:=hr.2.2.2;omega⟩;have hn:=hb.n;rw[WV.mU]at hn;refine wP.cls {w with aL:=w.aL++[l4.mk ⟨ops,1,[]⟩ s7 aG]} ?_;have U2:(w.aL++[l4.mk ⟨ops,1,[]⟩ s7 aG])[w.aL.length]'(by simp)=l4.mk ⟨ops,1,[]⟩ s7 aG:=by simp
     have qO:=vT (ak:=ak) (b:=b) (tx:=w.aL.length) (w:={w with aL:=w.aL++[l4.mk ⟨ops,1,[]⟩ s7 aG]}) Oi hn (by show w.aE.length<_;omega) (by simp) (by simp only[HK (gZ _),zV];exact⟨Oe,hr.2.2.1⟩);dsimp only at qO;simp only[U2]at qO;refine C.dv qO ?_;rintro v aN rfl;refine bM ?_;refine wP.opn (h:=λsh bg pO=>?_);dsimp only[wO];refine dV ?_;refine C.ar rfl ?_ (r:=(w.aL.length:Int)) (ha:=congrArg some (show(((w.aL++[l4.mk ⟨ops,1,[]⟩ s7 aG]).length:Nat):Int)-1=w.aL.length by rw[jd,lP];omega));refine dN ?_;obtain⟨w2,Ji⟩:∃ w2:WV,w2={w with aL:=w.aL++[l4.mk ⟨ops,1,[]⟩ s7 aG],aE:=w.aE++[E1 {w with aL:=w.aL++[l4.mk ⟨ops,1,[]⟩ s7 aG]} (l4.mk ⟨ops,1,[]⟩ s7 aG) w.aL.length]}:=⟨_,rfl⟩;refine wP.cls w2 ?_ (hc:=by rw[Ji]) (hr:=by rw[Ji];exact dB.au);have e1:eG w.abs ops=(w2.abs,(w.aL.length:Int),0):=by unfold eG;rw[ao dJ,ao (by simpa using hr),ao (by rw[WV.jL,WV.fA];omega),Ji];simp[WV.abs,mH,E1]
     rw[e1]at aj;refine C.bk aJ aj ⟨I1,w2,fp,⟨?_,?_,?_⟩,rfl,rfl,rfl⟩
     ·rw[Ji];exact Oi.sh
     ·rw[Ji];exact λm hm=>by
       rcases bU.1 hm with hm|hm
       ·exact Oi.aE m hm
       ·obtain rfl:=dF.1 hm;exact⟨Wt,.nil ..⟩
     ·rw[Ji];exact Oi.aL
  ·refine m4 ?_;refine wP.cls w ?_;have e1:eG w.abs ops=(w.abs,0,2):=by unfold eG;rw[ao dJ,aK (by simpa using hz)]
   rw[e1]at aj;exact C.bk aJ aj ⟨I,w,Sub.refl _,hI,rfl,rfl,rfl⟩
theorem jP{o:Option Nat}(h:sX o>=0):∃ i,o=some i:=by cases o with|none=>exact absurd h (by decide)|some i=>exact⟨i,rfl⟩
theorem kz{o:Option Nat}(h:¬ sX o>=0):o=none:=by cases o with|none=>rfl|some i=>exact absurd (show sX (some i)>=0 from C6 i) h
theorem sZ{o:Option Nat}(h:sX o<0):o=none:=kz az
structure Kv(s:eS):Prop where
 n:0<s.n/\s.n<=4
 log:s.log.length<2^30
 sO:∀ r∈s.log,jf r.ops
 aX:0<=s.aX/\s.aX<=s.log.length
 bD:s.bD.length=26
 aH:s.aH.length<2^30
 under:s.under.length<2^30
 yp:∀ u∈s.under,jf u.ops/\u.aR.length<2^30/\u.bG.length<2^42
 timers:s.timers.length<2^30
 waits:s.waits.length<2^30
 out:s.out.length<2^30
 clock:0<=s.clock/\s.clock<2^60
theorem gG{s:eS}{i:Nat}(hi:i<s.log.length):s.abs.log[i]? =some (s.log[i]).toRecR:=by simp[eS.abs,hi]
theorem wU(s:eS):s.abs.log.length=s.log.length:=by simp[eS.abs]
theorem yJ{s:eS}{tx:Int}{i:Nat}(h:bF s.abs.log tx=some i):i<s.log.length:=by have:=(dG (ez h).2).1;rwa[wU]at this
theorem wV{s:eS}{k tx:Int}{i:Nat}(h:bB s.abs.log k tx=some i):i<s.log.length:=by have:=(dG h).1;rwa[wU]at this
theorem uv.vf{I:HL}{s:eS}(h:uv I s){m:cm}(hm:sQ I m):uv I {s with out:=s.out++[m]}:=⟨h.log,h.cg,h.waits,λx hx=>by
 rcases bU.1 hx with hx|hx
 ·exact h.out x hx
 ·obtain rfl:=dF.1 hx;exact hm⟩
theorem uv.waited{I:HL}{s:eS}(h:uv I s){m:cm}(hm:sQ I m):uv I {s with waits:=s.waits++[m]}:=⟨h.log,h.cg,λx hx=>by
 rcases bU.1 hx with hx|hx
 ·exact h.waits x hx
 ·obtain rfl:=dF.1 hx;exact hm,h.out⟩
theorem uv.qq{I:HL}{s:eS}(h:uv I s){r:i7}(hr:NM I r):uv I {s with log:=s.log++[r]}:=⟨λx hx=>by
 rcases bU.1 hx with hx|hx
 ·exact h.log x hx
 ·obtain rfl:=dF.1 hx;exact hr,h.cg,h.waits,h.out⟩
def rZ(b:Nat)(I:HL)(r:ShR)(v:Value)(As:List HP):Prop:=∃ I' s',Sub I I'/\uv I' s'/\s'.abs=r/\As=[cY b s',a7 I']
theorem B7{I:HL}{b:Nat}{s:eS}{m:cm}(hI:uv I s)(hM:sQ I m)(hb:Kv s)(hm:jf m.ops):
  aD prog ak bQ 186 #[.pointer (some ⟨b,0,none⟩),.agg #[aI m.kind,aI m.aU,aI m.to,aI m.tx,.bool m.yes,m.so.v,m.sr.v]] [cY b s,a7 I] (rZ b I (gB s.abs m.toMsgR)):=by
 refine aD.of λR C kd d F c cs aJ aj=>?_;refine bM ?_;have ks:=hb.log;have iW:=hb.out;have BU:=hb.waits;have Po:=hb.timers;have tL:=hb.clock;have tX:=hb.aH;have JO:=hM.o;have hm2:=hm.2;refine bJ ?_;refine C.bx rfl (λb3=>?_);refine dV ?_;refine C.al rfl (λb4=>?_);refine bJ ?_;apply xB (X:=Nat×ay) (λ_=>True) (λx=>[(0,.pointer (some ⟨b,0,none⟩)),(3,.pointer (some ⟨b3,0,none⟩)),(4,.pointer (some ⟨b4,0,none⟩)),(5,.pointer (some ⟨x.1,0,none⟩))]) (λx=>bR x.1 (.cells #[aI 3,aI 0,aI m.aU,aI m.tx,.bool true,.slice none 0 0,x.2.v] 137)::bR b4 (.cells #[aI 3,aI 0,aI m.aU,aI m.tx,.bool false,.slice none 0 0,.slice none 0 0] 137)::bR b3 (.cells #[aI m.kind,aI m.aU,aI m.to,aI m.tx,.bool m.yes,m.so.v,m.sr.v] 137)::a9 eE 1 3 x.2 (gS s.bD m.ops)::cY b s::a7 I::F) (R:=R) (d:=d) (fn:=186) (kd:=kd) (n:=132) (ds:=[]) (cs:=c::cs)
 ·intro Yw;refine C.vL (cG 15 0 9++[(5,9)]) 11 [7,8,9,10] 5 ?_ (W:=[bR b3 (.cells #[aI m.kind,aI m.aU,aI m.to,aI m.tx,.bool m.yes,m.so.v,m.sr.v] 137)]);refine lZ ?_;refine Dr.chain rfl ?_ (λ_ s=>bZ.sat bZ.au s);refine Ch.n2 (t:=7) (u:=9) rfl ?_ ?_
  ·refine aW λe aa hk=>?_;refine C.dv (vj JO hm.1 hb.bD (by have:=hm.2;omega)) ?_;rintro v aN ⟨s2,rfl,rfl⟩;refine bM ?_;refine hk _ _ lu ?_;refine Ch.q 8 (λh=>C.bd rfl h) ?_;refine Ch.m 9 (aW λe aa hk=>?_);refine C.al rfl (λb5=>hk _ _ .cons ?_);refine Ch.m 10 (aW λe aa hk=>?_);refine fI ?_;refine hk _ undef lu ?_;refine eQ ?_;exact cZ Yw (b5,s2) trivial
  ·refine aW λe aa hk=>?_;refine C.al rfl (λb5=>hk _ _ .cons ?_);refine Ch.m 7 (aW λe aa hk=>?_);refine C.dv (vj JO hm.1 hb.bD (by have:=hm.2;omega)) ?_;rintro v aN ⟨s2,rfl,rfl⟩;refine bM ?_;refine hk _ _ lu ?_;refine Ch.q 8 (λh=>C.bd rfl h) ?_;refine Ch.m 10 (aW λe aa hk=>?_);refine fI ?_;refine hk _ undef lu ?_;refine eQ ?_;exact cZ Yw (b5,s2) trivial
 ·rintro⟨b5,s2⟩-e;dsimp only;refine cW ?_;refine C.cE (oQ (s:=s) az) ?_;refine JG ?_;refine C.cE (find_spec (s:=s) az) ?_;refine rS ?_;refine C.cmp rfl (λG6=>?_) (λG6=>?_)
  ·refine dN ?_;obtain⟨r,hr⟩:=jP G6;have Bh:=yJ hr;simp only[hr,sX];refine cY.opn (h:=λlg vl lk un tm wt ot=>?_);refine dH ?_;refine C.cmp rfl (λGt=>?_) (λGt=>?_)
   ·refine ow ?_;refine cY.cls s ?_;refine C.dv (vj (hI.log _ (br Bh)).o (hb.sO _ (br Bh)).1 hb.bD (by have:=(hb.sO _ (br Bh)).2;omega)) ?_;rintro v aN ⟨s3,rfl,rfl⟩;refine bM ?_;refine At.Gk (s:=s3) (f:=eE) Fo.au Fo.au λI' rC hs3=>?_;refine dH ?_;refine C.dv (jR (s:=s) (m:=⟨{bj with kind:=3,to:=m.aU,tx:=m.tx,yes:=true,reads:=gS s.bD s.log[r].ops},aG,s3⟩) az) ?_;rintro v aN rfl;refine k6 ?_;refine C.bk aJ aj ⟨I',_,rC,(hI.mono rC).vf ⟨.nil ..,hs3⟩,?_,rfl⟩;have U4:(r:Int)<s.abs.aX:=Gt;unfold gB;simp only[hr];rw[aK U4,gG Bh];simp[cu,eS.abs]
   ·refine bJ ?_;refine cY.cls s ?_;refine C.bk aJ aj ⟨I,s,Sub.refl _,hI,?_,rfl⟩;have U4:¬ (r:Int)<s.abs.aX:=Gt;unfold gB;simp only[hr];rw[ao U4]
  ·refine dN ?_;have Kw:=kz G6;refine bJ ?_;refine C.cmp rfl (λOj=>?_) (λOj=>?_)
   ·refine dN ?_;obtain⟨q,hq⟩:=jP Oj;have q7:=wV hq;simp only[hq,sX];refine cY.opn (h:=λlg vl lk un tm wt ot=>?_);refine m4 ?_;refine C.xA (λG7=>?_) (λG7=>?_)
    ·refine C.go ?_;refine cY.cls s ?_;refine dN ?_;refine C.dv (jR (s:=s) (m:=⟨{bj with kind:=3,to:=m.aU,tx:=m.tx},aG,aG⟩) az) ?_;rintro v aN rfl;refine k6 ?_;refine C.bk aJ aj ⟨I,_,Sub.refl _,hI.vf ⟨.nil ..,.nil ..⟩,?_,rfl⟩;have G7:s.log[q].yes=false:=by simpa using G7
     unfold gB;simp only[Kw,hq];rw[gG q7,jU,ao (by simp[G7])];simp[cu,eS.abs]
    ·refine C.go ?_;refine cY.cls s ?_;refine C.bk aJ aj ⟨I,s,Sub.refl _,hI,?_,rfl⟩;have G7:s.log[q].yes=true:=by simpa using G7
     unfold gB;simp only[Kw,hq];rw[gG q7,jU,aK G7]
   ·refine dN ?_;have Pv:=kz Oj;refine dN ?_;refine C.cx (X:=Nat) (λi=>[(0,.pointer (some ⟨b,0,none⟩)),(3,.pointer (some ⟨b3,0,none⟩)),(4,.pointer (some ⟨b4,0,none⟩)),(5,.pointer (some ⟨b5,0,none⟩)),(8,aI i)]) (λ_=>bR b5 _::bR b4 _::bR b3 _::a9 eE 1 3 s2 (gS s.bD m.ops)::cY b s::a7 I::F) (λi=>i<=m.ops.length/\∀ j (hj:j<m.ops.length),j<i->¬ iT s.aH m.ops[j].k>=0) (λi=>m.ops.length-i) 0 ⟨rfl,rfl,rfl,rfl,rfl,trivial⟩ ⟨az,by intro j _ hj;omega⟩ ?_;intro i e ⟨hi,y3⟩ ih;refine dH ?_;refine C.cmp rfl (λYx=>?_) (λYx=>?_)
    ·refine i6 ?_;have cN:i<m.ops.length:=az;refine C.cE (Eu (s:=s) az) ?_;refine rS ?_;refine C.cmp rfl (λh86=>?_) (λh86=>?_)
     ·refine dD ?_;refine C.dv (jR (s:=s) (m:=⟨{bj with kind:=3,to:=m.aU,tx:=m.tx},aG,aG⟩) az) ?_;rintro v aN rfl;refine k6 ?_;refine C.bk aJ aj ⟨I,_,Sub.refl _,hI.vf ⟨.nil ..,.nil ..⟩,?_,rfl⟩;have zq:(m.ops.any λo=>decide (iT s.abs.aH o.k>=0))=true:=m6.2 ⟨_,br cN,show decide (iT s.aH m.ops[i].k>=0)=true by simpa using h86⟩;unfold gB;simp only[Kw,Pv];rw[aK zq];simp[cu,eS.abs]
     ·refine dV ?_;refine again ih (i+1) ⟨az,λj hj Eh=>?_⟩ az;rcases mq.1 Eh with h|rfl
      ·exact y3 j hj h
      ·exact h86
    ·refine bJ ?_;have zq:¬ (m.ops.any λo=>decide (iT s.abs.aH o.k>=0))=true:=λh=>by obtain⟨o,ho,hd⟩:=m6.1 h;obtain⟨j,hj,rfl⟩:=jx ho;exact y3 j hj az (by have:decide (iT s.aH m.ops[j].k>=0)=true:=hd;simpa using this)
     refine dH ?_;refine C.dv (AF (s:=s) JO (by have:=hm.2;omega) az) ?_;rintro v aN rfl;refine k6 ?_;refine cY.opn (h:=λlg vl lk un tm wt ot=>?_);refine C.dx (cG 96 0 16) 17 [12,13,16] 1 ?_;refine gg ?_;refine JF ?_;refine Dr.chain rfl ?_;refine Ch.m 12 (aW λe aa hk=>?_);refine C.nj rfl (λafC=>hk _ _ .cons ?_);refine Ch.m 13 (aW λe aa hk=>?_);refine C.nM (i7.mk {eh with kind:=1,tx:=m.tx,home:=m.aU,ops:=m.ops} m.so aG) rfl (λs4=>?_) (hsz:=by show(s.log.length+1)*_<=_;omega);refine hk _ _ ?_;refine Ch.m 16 (aW λe aa hk=>?_);refine C.st rfl (hk _ undef ?_);refine eQ ?_;refine cY.cls {s with aH:=i3 s.aH m.tx m.ops,log:=s.log++[i7.mk {eh with kind:=1,tx:=m.tx,home:=m.aU,ops:=m.ops} m.so aG]} ?_;refine At.Gk (s:=s2) (f:=eE) Fo.au Fo.au λI' rC zl=>?_;refine dN ?_;refine C.dv (q5 (s:={s with aH:=i3 s.aH m.tx m.ops,log:=s.log++[i7.mk {eh with kind:=1,tx:=m.tx,home:=m.aU,ops:=m.ops} m.so aG]}) (m:=⟨{bj with kind:=3,to:=m.aU,tx:=m.tx,yes:=true,reads:=gS s.bD m.ops},aG,s2⟩) (by show s.waits.length<_;omega)) ?_;rintro v aN rfl;refine k6 ?_;refine cY.opn (h:=λlg vl lk un tm wt ot=>?_);dsimp only[y9];refine C.dx (cG 115 0 17) 18 [13,14,17] 1 ?_;refine gg ?_;refine Nr ?_;refine Dr.chain rfl ?_;refine Ch.m 13 (aW λe aa hk=>?_);refine C.nj rfl (λafD=>hk _ _ .cons ?_);refine Ch.m 14 (aW λe aa hk=>?_);refine C.nM (dM.mk (s.clock+3) false m.tx) rfl (λs5=>?_) (hsz:=by show(s.timers.length+1)*_<=_;omega);refine hk _ _ ?_;refine Ch.m 17 (aW λe aa hk=>?_);refine C.st rfl (hk _ undef ?_);refine eQ ?_;refine cY.cls {s with aH:=i3 s.aH m.tx m.ops,log:=s.log++[i7.mk {eh with kind:=1,tx:=m.tx,home:=m.aU,ops:=m.ops} m.so aG],waits:=s.waits++[⟨{bj with kind:=3,aU:=s.me,to:=m.aU,tx:=m.tx,yes:=true,reads:=gS s.bD m.ops},aG,s2⟩],timers:=s.timers++[⟨s.clock+3,false,m.tx⟩]} ?_;refine C.cX aJ aj ⟨I',_,rC,?_,?_,rfl⟩
     ·have h1:=((hI.mono rC).qq (r:=i7.mk {eh with kind:=1,tx:=m.tx,home:=m.aU,ops:=m.ops} m.so aG) ⟨JO.mono rC,.nil ..⟩).waited (m:=⟨{bj with kind:=3,aU:=s.me,to:=m.aU,tx:=m.tx,yes:=true,reads:=gS s.bD m.ops},aG,s2⟩) ⟨.nil ..,zl⟩;exact⟨h1.log,h1.cg,h1.waits,h1.out⟩
     ·unfold gB;simp only[Kw,Pv];rw[ao zq];simp[eP,eS.abs]
theorem E2{I:HL}{b:Nat}{s:eS}{m:cm}(hI:uv I s)(hb:Kv s):
  aD prog ak bQ 188 #[.pointer (some ⟨b,0,none⟩),.agg #[aI m.kind,aI m.aU,aI m.to,aI m.tx,.bool m.yes,m.so.v,m.sr.v]] [cY b s,a7 I] (rZ b I (iD s.abs m.toMsgR)):=by
 refine aD.of λR C kd d F c cs aJ aj=>?_;refine bM ?_;have ks:=hb.log;have iW:=hb.out;have BU:=hb.waits;have tX:=hb.aH;refine bJ ?_;refine C.bx rfl (λb3=>?_);refine dD ?_;refine C.cE (oQ (s:=s) az) ?_;refine JG ?_;refine C.cE (find_spec (s:=s) az) ?_;refine jK ?_;apply MT (bF s.abs.log m.tx=none->bB s.abs.log 3 m.tx=none) [(0,.pointer (some ⟨b,0,none⟩)),(3,.pointer (some ⟨b3,0,none⟩)),(4,aI (sX (bF s.abs.log m.tx)))] (bR b3 (.cells #[aI m.kind,aI m.aU,aI m.to,aI m.tx,.bool m.yes,m.so.v,m.sr.v] 137)::cY b s::a7 I::F) (R:=R) (d:=d) (fn:=188) (kd:=kd) (n:=78) (ds:=[]) (cs:=c::cs)
 ·intro qv;refine bJ ?_;refine C.cmp rfl (λpN=>?_) (λpN=>?_)
  ·refine bJ ?_;refine C.cmp rfl (λWx=>?_) (λWx=>?_)
   ·refine dN ?_;have Kw:=sZ pN;obtain⟨q,hq⟩:=jP Wx;simp only[hq,sX];refine cY.opn (h:=λlg vl lk un tm wt ot=>?_);refine dH ?_;refine C.cmp rfl (λzd=>?_) (λzd=>?_)
    ·refine bJ ?_;refine cY.cls s ?_;refine dV ?_;refine C.dv (jR (s:=s) (m:=⟨{bj with kind:=5,to:=m.aU,tx:=m.tx},aG,aG⟩) az) ?_;rintro v aN rfl;refine k6 ?_;refine C.bk aJ aj ⟨I,_,Sub.refl _,hI.vf ⟨.nil ..,.nil ..⟩,?_,rfl⟩;unfold iD;simp only[Kw,hq];rw[aK (show(q:Int)<s.abs.aX from zd)];simp[cu,eS.abs]
    ·refine bJ ?_;refine cY.cls s ?_;refine C.bk aJ aj ⟨I,s,Sub.refl _,hI,?_,rfl⟩;unfold iD;simp only[Kw,hq];rw[ao (show¬ (q:Int)<s.abs.aX from zd)]
   ·refine dN ?_;exact join qv (λ_=>kz Wx)
  ·refine dH ?_;exact join qv (λh=>by rw[h]at pN;exact absurd pN (by decide))
 ·rintro hj6 e;apply xB (X:=eS) (λs1=>uv I s1/\s1.log.length<2^30/\s1.waits.length<2^30/\iD s.abs m.toMsgR=eP {s1.abs with log:=s1.abs.log++[{eh with kind:=3,tx:=m.tx,yes:=m.yes}]} {bj with kind:=5,to:=m.aU,tx:=m.tx}) (λ_=>[(0,.pointer (some ⟨b,0,none⟩)),(3,.pointer (some ⟨b3,0,none⟩))]) (λs1=>bR b3 (.cells #[aI m.kind,aI m.aU,aI m.to,aI m.tx,.bool m.yes,m.so.v,m.sr.v] 137)::cY b s1::a7 I::F) (R:=R) (d:=d) (fn:=188) (kd:=kd) (n:=78) (ds:=[]) (cs:=c::cs)
  ·intro Ol;refine bJ ?_;refine C.cmp rfl (λG6=>?_) (λG6=>?_)
   ·refine dD ?_;refine C.xA (λtc=>?_) (λtc=>?_)
    ·refine C.go ?_;refine C.bk aJ aj ⟨I,s,Sub.refl _,hI,?_,rfl⟩;have Kw:=sZ G6;unfold iD;simp only[Kw,hj6 Kw];rw[aK tc]
    ·refine dN ?_;refine C.dP rfl ?_ (hf:=by omega);refine bJ ?_;have Kw:=sZ G6;refine cZ Ol s ⟨hI,ks,BU,?_⟩;unfold iD;simp only[Kw,hj6 Kw];rw[ao (by simp[tc])]
   ·refine kE ?_;refine C.fe rfl ?_ (hf:=by omega);refine bJ ?_;obtain⟨r,hr⟩:∃ r,bF s.abs.log m.tx=some r:=jP az;have Bh:=yJ hr;simp only[hr,sX];refine cW ?_;refine C.xA (λU5=>?_) (λU5=>?_)
    ·refine C.go ?_;refine cY.opn (h:=λlg vl lk un tm wt ot=>?_);refine i6 ?_;refine cY.cls s ?_;refine C.dv (ym (s:=s) (hI.log _ (br Bh)).o (hb.sO _ (br Bh)).1 hb.bD (by have:=(hb.sO _ (br Bh)).2;omega)) ?_;rintro v aN rfl;refine ve ?_;refine C.dv (free_spec (s:={s with bD:=eC s.bD s.log[r].ops}) (by show s.aH.length<_;omega)) ?_;rintro v aN rfl;refine k6 ?_;refine cZ Ol {s with bD:=eC s.bD s.log[r].ops,aH:=iL s.aH m.tx} ⟨⟨hI.log,hI.cg,hI.waits,hI.out⟩,ks,BU,?_⟩;unfold iD;simp only[hr];rw[gG Bh,jU,aK U5];rfl
    ·refine dD ?_;refine C.dv (free_spec (s:=s) az) ?_;rintro v aN rfl;refine k6 ?_;refine cZ Ol {s with aH:=iL s.aH m.tx} ⟨⟨hI.log,hI.cg,hI.waits,hI.out⟩,ks,BU,?_⟩;unfold iD;simp only[hr];rw[gG Bh,jU,ao (by simp[U5])];rfl
  ·rintro s1 ⟨fp,ZF,hw1,y7⟩ e;refine cY.opn (h:=λlg vl lk un tm wt ot=>?_);refine C.dx (cG 57 0 14) 15 [10,11,14] 1 ?_;refine Qv ?_;refine Ch.m 10 (aW λe aa hk=>?_);refine C.nj rfl (λb67=>hk _ _ .cons ?_);refine Ch.m 11 (aW λe aa hk=>?_);refine C.nM (i7.mk {eh with kind:=3,tx:=m.tx,yes:=m.yes} aG aG) rfl (λs4=>?_) (hsz:=by show(s1.log.length+1)*_<=_;omega);refine hk _ _ ?_;refine Ch.m 14 (aW λe aa hk=>?_);refine C.st rfl (hk _ undef ?_);refine eQ ?_;refine cY.cls {s1 with log:=s1.log++[i7.mk {eh with kind:=3,tx:=m.tx,yes:=m.yes} aG aG]} ?_;refine dV ?_;refine C.dv (q5 (s:={s1 with log:=s1.log++[i7.mk {eh with kind:=3,tx:=m.tx,yes:=m.yes} aG aG]}) (m:=⟨{bj with kind:=5,to:=m.aU,tx:=m.tx},aG,aG⟩) (by show s1.waits.length<_;omega)) ?_;rintro v aN rfl;refine k6 ?_;refine C.cX aJ aj ⟨I,_,Sub.refl _,(fp.qq ⟨.nil ..,.nil ..⟩).waited ⟨.nil ..,.nil ..⟩,?_,rfl⟩;rw[y7];simp[eP,eS.abs]
theorem Om{I:HL}{b:Nat}{s:eS}{m:cm}(hI:uv I s)(hb:Kv s):
  aD prog ak bQ 190 #[.pointer (some ⟨b,0,none⟩),.agg #[aI m.kind,aI m.aU,aI m.to,aI m.tx,.bool m.yes,m.so.v,m.sr.v]] [cY b s,a7 I] (rZ b I (wj s.abs m.toMsgR)):=by
 refine aD.of λR C kd d F c cs aJ aj=>?_;refine bM ?_;have ks:=hb.log;have iW:=hb.out;have BU:=hb.waits;have Gz:=hb.under;refine bJ ?_;refine C.bx rfl (λb3=>?_);refine dD ?_;refine C.cE (find_spec (s:=s) az) ?_;refine rS ?_;refine C.cmp rfl (λqw=>?_) (λqw=>?_)
 ·refine bJ ?_;obtain⟨q,hq⟩:=jP qw;have q7:=wV hq;simp only[hq,sX];refine cY.opn (h:=λlg vl lk un tm wt ot=>?_);refine dH ?_;refine C.cmp rfl (λwv=>?_) (λwv=>?_)
  ·refine bJ ?_;refine C.dx (cG 18 0 15) 15 [14] 0 ?_;refine gg ?_;refine JF ?_;refine Dr.chain rfl ?_;refine Ch.m 14 (aW λe aa hk=>?_);refine cY.cls s ?_;refine C.dv (jR (s:=s) (m:=⟨{bj with kind:=4,to:=m.aU,tx:=m.tx,yes:=s.log[q].yes},aG,aG⟩) az) ?_;rintro v aN rfl;refine bM ?_;refine hk _ _ ?_;refine eQ ?_;refine C.bk aJ aj ⟨I,_,Sub.refl _,hI.vf ⟨.nil ..,.nil ..⟩,?_,rfl⟩;unfold wj;simp only[hq];rw[aK (show(q:Int)<s.abs.aX from wv),gG q7];simp[cu,eS.abs]
  ·refine bJ ?_;refine cY.cls s ?_;refine C.bk aJ aj ⟨I,s,Sub.refl _,hI,?_,rfl⟩;unfold wj;simp only[hq];rw[ao (show¬ (q:Int)<s.abs.aX from wv)]
 ·refine bJ ?_;have Pv:=kz qw;refine cW ?_;refine C.cE (mP (s:=s) az) ?_;refine rS ?_;refine C.cmp rfl (λNN=>?_) (λNN=>?_)
  ·refine bJ ?_;refine C.bk aJ aj ⟨I,s,Sub.refl _,hI,?_,rfl⟩;obtain⟨u,hu⟩:=jP NN;unfold wj;simp only[Pv,hu];rfl
  ·refine bJ ?_;have Gz:=kz NN;refine cY.opn (h:=λlg vl lk un tm wt ot=>?_);refine C.dx (cG 39 0 12) 13 [8,9,12] 1 ?_;refine JI ?_;refine Ch.m 8 (aW λe aa hk=>?_);refine C.nj rfl (λb47=>hk _ _ .cons ?_);refine Ch.m 9 (aW λe aa hk=>?_);refine C.nM (i7.mk {eh with kind:=2,tx:=m.tx} aG aG) rfl (λs4=>?_);refine hk _ _ ?_;refine Ch.m 12 (aW λe aa hk=>?_);refine C.st rfl (hk _ undef ?_);refine eQ ?_;refine cY.cls {s with log:=s.log++[i7.mk {eh with kind:=2,tx:=m.tx} aG aG]} ?_;refine dV ?_;refine C.dv (q5 (s:={s with log:=s.log++[i7.mk {eh with kind:=2,tx:=m.tx} aG aG]}) (m:=⟨{bj with kind:=4,to:=m.aU,tx:=m.tx},aG,aG⟩) (by show s.waits.length<_;omega)) ?_;rintro v aN rfl;refine k6 ?_;refine C.cX aJ aj ⟨I,_,Sub.refl _,(hI.qq ⟨.nil ..,.nil ..⟩).waited ⟨.nil ..,.nil ..⟩,?_,rfl⟩;unfold wj;simp only[Pv,Gz];simp[eP,eS.abs]
variable{us:List fP}{i:Nat}
theorem vr{u:fP}{l As:List HP}{h:HL}:Sat (all (qu u::l)::As) h↔Sat (a9 pF 2 290 u.sv u.aR::a9 eE 1 3 u.sa u.bG::all l::As) h:=by
 constructor
 ·intro s;have s1:Sat (qu u::(l++As)) h:=s.flat;have s2:Sat ([a9 pF 2 290 u.sv u.aR,a9 eE 1 3 u.sa u.bG]++(l++As)) h:=Sat.flat s1;exact Sat.under (λ_ s=>Sat.under (λ_ s=>s.fS) s) s2
 ·intro s;have s2:Sat (a9 pF 2 290 u.sv u.aR::a9 eE 1 3 u.sa u.bG::(l++As)) h:=Sat.under (λ_ s=>Sat.under (λ_ s=>s.flat) s) s;exact Sat.fS (l:=qu u::l) (Sat.fS (l:=[a9 pF 2 290 u.sv u.aR,a9 eE 1 3 u.sa u.bG]) s2)
theorem B8(hi:i<us.length)(hf:Fo (all (us.map qu)) As L)(h:At R d (a9 pF 2 290 us[i].sv us[i].aR::a9 eE 1 3 us[i].sa us[i].bG::all ((us.eraseIdx i).map qu)::L) g):At R d As g:=
 At.fo hf λH s=>h H (vr.1 (og ((oh hi).map qu) s))
theorem B9(hi:i<us.length)(u:fP)(hr:dB [a9 pF 2 290 u.sv u.aR,a9 eE 1 3 u.sa u.bG,all ((us.eraseIdx i).map qu)] As L)(h:At R d (all ((us.set i u).map qu)::L) g):At R d As g:=
 At.perm hr.perm λH s=>h H (og ((Ie hi u).symm.map qu) (vr.2 s))
theorem Rc(u:fP)(hr:dB [a9 pF 2 290 u.sv u.aR,a9 eE 1 3 u.sa u.bG,all (us.map qu)] As L)(h:At R d (all ((us++[u]).map qu)::L) g):At R d As g:=
 At.perm hr.perm λH s=>h H (og (by have:=(LN u us).symm.map qu;exact this) (vr.2 s))
def vu(n:Int)(ops:List cr)(tx:Int)(z:ShR)(k:Int):ShR:=if(aV ops k n).isEmpty then z else cu z {bj with kind:=2,to:=k,tx:=tx,ops:=aV ops k n}
theorem G8{I:HL}{b:Nat}{s:eS}{m:cm}(hI:uv I s)(hM:sQ I m)(hb:Kv s)(hm:jf m.ops):
  aD prog ak bQ 185 #[.pointer (some ⟨b,0,none⟩),.agg #[aI m.kind,aI m.aU,aI m.to,aI m.tx,.bool m.yes,m.so.v,m.sr.v]] [cY b s,a7 I] (rZ b I (lH s.abs m.toMsgR)):=by
 refine aD.of λR C kd d F c cs aJ aj=>?_;refine bM ?_;have ks:=hb.log;have iW:=hb.out;have Gz:=hb.under;have Po:=hb.timers;have tL:=hb.clock;have hn:=hb.n;have hm2:=hm.2;refine bJ ?_;refine C.bx rfl (λb3=>?_);refine dD ?_;refine C.cE (find_spec (s:=s) az) ?_;refine rS ?_;refine C.cmp rfl (λqz=>?_) (λqz=>?_)
 ·refine bJ ?_;obtain⟨q,hq⟩:=jP qz;have q7:=wV hq;simp only[hq,sX];refine cY.opn (h:=λlg vl lk un tm wt ot=>?_);refine dH ?_;refine C.cmp rfl (λyG=>?_) (λyG=>?_)
  ·refine bJ ?_;refine C.dx (cG 20 0 21) 21 [20] 0 ?_;refine gg ?_;refine gg ?_;refine Dr.chain rfl ?_;refine Ch.m 20 (aW λe aa hk=>?_);refine cY.cls s ?_;refine C.dv (jR (s:=s) (m:=⟨{bj with kind:=7,to:= -1,tx:=m.tx,yes:=s.log[q].yes,reads:=s.log[q].reads},aG,s.log[q].sr⟩) az) ?_;rintro v aN rfl;refine bM ?_;refine hk _ _ ?_;refine eQ ?_;refine C.bk aJ aj ⟨I,_,Sub.refl _,hI.vf ⟨.nil ..,(hI.log _ (br q7)).r⟩,?_,rfl⟩;unfold lH;simp only[hq];rw[aK (show(q:Int)<s.abs.aX from yG),gG q7];simp[cu,eS.abs]
  ·refine bJ ?_;refine cY.cls s ?_;refine C.bk aJ aj ⟨I,s,Sub.refl _,hI,?_,rfl⟩;unfold lH;simp only[hq];rw[ao (show¬ (q:Int)<s.abs.aX from yG)]
 ·refine bJ ?_;have Pv:=kz qz;refine cW ?_;refine C.cE (mP (s:=s) az) ?_;refine rS ?_;refine C.cmp rfl (λWy=>?_) (λWy=>?_)
  ·refine bJ ?_;refine C.bk aJ aj ⟨I,s,Sub.refl _,hI,?_,rfl⟩;obtain⟨u,hu⟩:=jP Wy;unfold lH;simp only[Pv,hu];rfl
  ·refine bJ ?_;have abB:=kz Wy;refine cY.opn (h:=λlg vl lk un tm wt ot=>?_);refine C.dx (cG 47 0 14) 15 [10,11,14] 1 ?_;refine Qv ?_;refine Ch.m 10 (aW λe aa hk=>?_);refine C.nj rfl (λb57=>hk _ _ .cons ?_);refine Ch.m 11 (aW λe aa hk=>?_);refine C.nM (fP.mk m.tx m.ops m.so [] aG false false [] aG) rfl (λs4=>?_);refine hk _ _ ?_;refine Ch.m 14 (aW λe aa hk=>?_);refine C.st rfl (hk _ undef ?_);refine eQ ?_;refine At.aG pF 2 290 (At.aG eE 1 3 ?_);refine Rc (us:=s.under) (fP.mk m.tx m.ops m.so [] aG false false [] aG) dB.au ?_;refine cY.cls {s with under:=s.under++[fP.mk m.tx m.ops m.so [] aG false false [] aG]} ?_;refine dN ?_;have fp:uv I {s with under:=s.under++[fP.mk m.tx m.ops m.so [] aG false false [] aG]}:=⟨hI.log,λu hu=>by
    rcases bU.1 hu with hu|hu
    ·exact hI.cg u hu
    ·obtain rfl:=dF.1 hu;exact⟨hM.o,λv hv=>by cases hv⟩,hI.waits,hI.out⟩
   refine C.cx (X:=Nat×HL×eS) (λx=>[(0,.pointer (some ⟨b,0,none⟩)),(3,.pointer (some ⟨b3,0,none⟩)),(6,aI x.1)]) (λx=>bR b3 _::cY b x.2.2::a7 x.2.1::F)
    (λx=>(x.1:Int)<=s.n/\Sub I x.2.1/\uv x.2.1 x.2.2/\x.2.2.n=s.n/\x.2.2.out.length<=s.out.length+x.1/\x.2.2.timers=s.timers/\x.2.2.clock=s.clock/\
     x.2.2.abs=((upto s.n).take x.1).foldl (vu s.n m.ops m.tx) {s.abs with under:=s.abs.under++[⟨m.tx,m.ops,[],false,false,[]⟩]}) (λx=>(s.n-x.1).toNat) (0,I,{s with under:=s.under++[fP.mk m.tx m.ops m.so [] aG false false [] aG]}) ⟨rfl,rfl,rfl,trivial⟩ ⟨dI,Sub.refl _,fp,rfl,gZ _,rfl,rfl,by simp[eS.abs,fP.abs]⟩ ?_
   rintro⟨i,I1,s1⟩ e ⟨hi,hS,fp,xz,Pq,Ya,hc1,ha⟩ ih;dsimp only at hi hS fp xz Pq Ya hc1 ha⊢;refine C.go ?_;refine cY.opn (h:=λlg vl lk un tm wt ot=>?_);refine dH ?_;refine C.cmp rfl (λPw=>?_) (λPw=>?_)
   ·refine bJ ?_;refine C.dx (cG 69 0 8++[(7,8)]) 9 [7,8] 0 ?_;refine Qu ?_;refine Ch.m 7 (aW λe aa hk=>?_);refine cY.cls s1 ?_;refine C.dv (vi (n:=s1.n) (hM.o.mono hS) hm.1 az az) ?_;rintro v aN ⟨s2,rfl,rfl⟩;refine bM ?_;refine hk _ _ ?_;refine Ch.q 8 (λh=>C.kH rfl h) ?_;refine Qs ?_;refine C.cmp rfl (λLt=>?_) (λLt=>?_)
    ·refine kL ?_;refine At.Gk (s:=s2) (f:=fX) Fo.au Fo.au λI2 jO zl=>?_;refine C.dv (jR (s:=s1) (m:=⟨{bj with kind:=2,to:=i,tx:=m.tx,ops:=aV m.ops i s1.n},s2,aG⟩) az) ?_;rintro v aN rfl;refine JG ?_;refine again ih (i+1,I2,_) ⟨dI,hS.trans jO,(fp.mono jO).vf ⟨zl,.nil ..⟩,xz,by simp;omega,Ya,hc1,?_⟩ (dI);rw[cQ az,gm,<- ha];have eI:(aV m.ops i s.n).isEmpty=false:=by
      rw[<- xz];cases hp:aV m.ops i s1.n with
      |nil=>rw[hp]at Lt;simp at Lt
      |cons _ _=>rfl
     simp only[kM,rH,vu,eI];simp[cu,eS.abs,xz]
    ·refine dV ?_;refine again ih (i+1,I1,s1) ⟨dI,hS,fp,xz,by simp;omega,Ya,hc1,?_⟩ (dI);rw[cQ az,gm,<- ha];have eI:(aV m.ops i s.n).isEmpty=true:=by
      rw[<- xz];cases hp:aV m.ops i s1.n with
      |nil=>rfl
      |cons _ _=>rw[hp]at Lt;simp at Lt
     simp only[kM,rH,vu,eI];simp
   ·refine bJ ?_;refine C.dx (cG 87 0 17) 18 [13,14,17] 1 ?_;refine Qq ?_;refine Dr.p (λh=>C.ar rfl h (hr:=xp az az)) ?_;refine Nt ?_;refine Ch.m 13 (aW λe aa hk=>?_);refine C.nj rfl (λafE=>hk _ _ .cons ?_);refine Ch.m 14 (aW λe aa hk=>?_);refine C.nM (dM.mk (s1.clock+4) true m.tx) rfl (λs5=>?_) (hsz:=by rw[Ya];omega);refine hk _ _ ?_;refine Ch.m 17 (aW λe aa hk=>?_);refine C.st rfl (hk _ undef ?_);refine eQ ?_;refine cY.cls {s1 with timers:=s1.timers++[⟨s1.clock+4,true,m.tx⟩]} ?_;refine C.cX aJ aj ⟨I1,{s1 with timers:=s1.timers++[⟨s1.clock+4,true,m.tx⟩]},hS,⟨fp.log,fp.cg,fp.waits,fp.out⟩,?_,rfl⟩;rw[oA az]at ha;have e1:fV {s.abs with under:=s.abs.under++[⟨m.tx,m.ops,[],false,false,[]⟩]} m.ops (λz k p=>cu z {bj with kind:=2,to:=k,tx:=m.tx,ops:=p})=s1.abs:=ha.symm;unfold lH;simp only[Pv,abB];rw[e1];rfl
abbrev IK(b:Nat)(s:eS)(lg vl lk un tm wt ot:ay)(us:List fP)(i:Nat)(u:fP)(F:List HP):List HP:=bR b (.cells #[aI s.me,aI s.n,.bool s.up,lg.v,aI s.aX,vl.v,lk.v,un.v,tm.v,wt.v,aI s.clock,ot.v] 61 (0,0))::
  a9 recC 6 247 lg s.log::a9 eE 1 3 vl s.bD::a9 lT 2 258 lk s.aH::a9 pG 6 287 un us::
  a9 pF 2 290 u.sv u.aR::a9 eE 1 3 u.sa u.bG::all ((s.under.eraseIdx i).map qu)::
  a9 rz 3 251 tm s.timers::a9 bN 7 137 wt s.waits::a9 bN 7 137 ot s.out::F
theorem yK{s:eS}{tx:Int}{i:Nat}(h:cH s.abs.under tx=some i):∃ hi:i<s.under.length,s.abs.under[i]? =some (s.under[i]).abs:=by
 unfold cH at h;have:=(RY.1 h).1;have hi:i<s.under.length:=by simpa[eS.abs]using this
 exact⟨hi,by simp[eS.abs,hi]⟩
theorem On{I:HL}{b:Nat}{s:eS}{m:cm}(hI:uv I s)(hb:Kv s):
  aD prog ak bQ 189 #[.pointer (some ⟨b,0,none⟩),.agg #[aI m.kind,aI m.aU,aI m.to,aI m.tx,.bool m.yes,m.so.v,m.sr.v]] [cY b s,a7 I] (rZ b I (wi s.abs m.toMsgR)):=by
 refine aD.of λR C kd d F c cs aJ aj=>?_;refine bM ?_;have Gz:=hb.under;have hn:=hb.n;refine bJ ?_;refine C.bx rfl (λb3=>?_);refine dD ?_;refine C.cE (mP (s:=s) az) ?_;refine jK ?_;refine cY.opn (h:=λlg vl lk un tm wt ot=>?_);refine bJ ?_;refine C.cmp rfl (λpN=>?_) (λpN=>?_)
 ·refine zC ?_;refine cY.cls s ?_;refine C.bk aJ aj ⟨I,s,Sub.refl _,hI,?_,rfl⟩;unfold wi;simp only[sZ pN]
 ·refine fI ?_;obtain⟨i,hu⟩:∃ i,cH s.abs.under m.tx=some i:=jP az;obtain⟨hi,FK⟩:=yK hu;simp only[hu,sX];refine m4 ?_;refine C.xA (λU6=>?_) (λU6=>?_)
  ·refine C.go ?_;refine cY.cls s ?_;refine C.bk aJ aj ⟨I,s,Sub.refl _,hI,?_,rfl⟩;unfold wi;simp only[hu,FK];have hd:(s.under[i]).abs.dec=false:=by show s.under[i].dec=false;simpa using U6
   rw[hd];rfl
  ·refine i6 ?_;have rD:(s.under[i]).abs.dec=true:=by show s.under[i].dec=true;simpa using U6
   have FR:=hb.yp _ (br hi);have SQ:=FR.2.2;have hul:=FR.1.2;refine B8 hi Fo.au ?_;refine C.dx (cG 33 0 11) 12 [7,8,11] 1 ?_;refine XW ?_;refine Ch.m 7 (aW λe aa hk=>?_);refine C.nj rfl (λZU=>hk _ _ .cons ?_);refine Ch.m 8 (aW λe aa hk=>?_);refine C.nM (l:=s.under[i].bG) m.aU rfl (λs6=>?_);refine hk _ _ ?_;refine Ch.m 11 (aW λe aa hk=>?_);refine C.Gl ({s.under[i]with sa:=s6,bG:=s.under[i].bG++[m.aU]}:fP) rfl ?_;refine hk _ undef ?_;refine eQ ?_;obtain⟨u,wW⟩:∃ u,u={s.under[i]with sa:=s6,bG:=s.under[i].bG++[m.aU]}:=⟨_,rfl⟩;obtain⟨us,oD⟩:∃ us,us=s.under.set i u:=⟨_,rfl⟩;have Yy:us.length=s.under.length:=by rw[oD];simp
   have Rd:i<us.length:=az;have zZ:us[i]=u:=by simp[oD]
   have l3:u.ops=s.under[i].ops:=by rw[wW]
   have Re:u.so=s.under[i].so:=by rw[wW]
   have huv:dS I fX 63 u.so u.ops:=by rw[l3,Re];exact(hI.cg _ (br hi)).o
   have hua:u.bG=s.under[i].bG++[m.aU]:=by rw[wW]
   have Yz:u.bG.length<2^60:=by rw[hua];simp;omega
   have oe:s.abs.under.set i {(s.under[i]).abs with bG:=(s.under[i]).abs.bG++[m.aU]}=us.map (·.abs):=by rw[oD,wW,j1];rfl
   have hIu:∀ x∈us,wu I x:=λx hx=>by
    rw[oD]at hx;rcases fN hx with h|rfl
    ·exact hI.cg x h
    ·rw[wW];exact⟨(hI.cg _ (br hi)).o,(hI.cg _ (br hi)).r⟩
   refine At.jB (Bs:=IK b s lg vl lk un tm wt ot us i u (a7 I::F)) ?_ ?_
   ·subst oD wW;exact bZ.au
   refine dN ?_;refine C.cx (X:=Nat) (λk=>[(0,.pointer (some ⟨b,0,none⟩)),(4,aI (i:Int)),(5,.pointer (some ⟨un.b,i*6,none⟩)),(6,aI k)]) (λ_=>IK b s lg vl lk un tm wt ot us i u (a7 I::F)) (λk=>(k:Int)<=s.n/\∀ j:Nat,j<k->bX u.ops j s.n=true->u.bG.contains (j:Int)=true) (λk=>(s.n-k).toNat) 0 ⟨rfl,rfl,rfl,rfl,trivial⟩ ⟨az,by intro j hj;omega⟩ ?_;intro k e ⟨CD,FN⟩ ih;refine dV ?_;refine C.cmp rfl (λKc=>?_) (λKc=>?_)
   ·refine bJ ?_;refine C.dx (cG 52 0 10++[(7,10)]) 11 [9,10] 0 ?_;refine CH ?_;refine Dr.l (λhE h=>C.vI rfl h (j:=i) (s:=un) (l:=us) (hv:=by simp only[zZ];rfl)) ?_;refine Nt ?_;refine Ch.m 9 (aW λe aa hk=>?_);refine C.cE (oR (k:=k) (n:=s.n) huv (by rw[l3];exact FR.1.1) az (by rw[l3];omega)) ?_;refine bM ?_;generalize CN:bX u.ops k s.n=z;rcases g6 z with rfl|rfl
    ·refine hk _ _ ?_;refine Ch.q 10 (λh=>C.kH rfl h) ?_;refine zD ?_;refine C.vI rfl ?_ (j:=i) (s:=un) (l:=us) (hv:=by simp only[zZ];rfl);refine fI ?_;refine C.cE (oP (s:=u.sa) (l:=u.bG) (x:=k) Yz) ?_;refine bM ?_;generalize Rf:u.bG.contains (k:Int)=z;rcases g6 z with rfl|rfl
     ·refine jr ?_;refine again ih (k+1) ⟨az,λj hj ze=>?_⟩ az;rcases mq.1 hj with h|rfl
      ·exact FN j h ze
      ·exact Rf
     ·refine i6 ?_;refine B9 (us:=s.under) hi u dB.au ?_;rw[<- oD];refine cY.cls {s with under:=us} ?_;refine C.bk aJ aj ⟨I,{s with under:=us},Sub.refl _,⟨hI.log,hIu,hI.waits,hI.out⟩,?_,rfl⟩;have pa:¬ (mG s.abs.n (s.under[i]).abs.ops λk=>((s.under[i]).abs.bG++[m.aU]).contains k)=true:=λh=>by
       have h1:=k9.1 h (k:Int) (kp.2 (by constructor<;>first|omega|exact Kc));have h2:bX (s.under[i]).abs.ops k s.abs.n=true:=by rw[<- CN,l3];rfl
       have h3:((s.under[i]).abs.bG++[m.aU]).contains (k:Int)=false:=by rw[<- Rf,hua];rfl
       simp only[h2,h3]at h1;cases h1
      unfold wi;simp only[hu,FK];rw[ao (by rw[rD];simp),ao pa,oe];rfl
    ·refine hk _ _ ?_;refine Ch.q 10 (λh=>C.kH rfl h) ?_;refine zD ?_;refine C.vI rfl ?_ (j:=i) (s:=un) (l:=us) (hv:=by simp only[zZ];rfl);refine fI ?_;refine C.cE (oP (s:=u.sa) (l:=u.bG) (x:=k) Yz) ?_;refine bM ?_;generalize Rf:u.bG.contains (k:Int)=z;rcases g6 z with rfl|rfl
     ·refine jr ?_;refine again ih (k+1) ⟨az,λj hj ze=>?_⟩ az;rcases mq.1 hj with h|rfl
      ·exact FN j h ze
      ·rw[CN]at ze;cases ze
     ·refine jr ?_;refine again ih (k+1) ⟨az,λj hj ze=>?_⟩ az;rcases mq.1 hj with h|rfl
      ·exact FN j h ze
      ·rw[CN]at ze;cases ze
   ·refine bJ ?_;have iK:(mG s.abs.n (s.under[i]).abs.ops λk=>((s.under[i]).abs.bG++[m.aU]).contains k)=true:=by
     refine k9.2 λx hx=>?_;obtain⟨h1,h2⟩:=kp.1 hx;obtain⟨j,rfl⟩:=gR h1;have h2:(j:Int)<s.n:=h2;have:=FN j az;rw[l3,hua]at this;cases ht:bX (s.under[i]).abs.ops j s.abs.n with
     |false=>rfl
     |true=>
      show(!true||(s.under[i].bG++[m.aU]).contains (j:Int))=true;rw[this ht];rfl
    refine At.xr (A:=a9 pG 6 287 un us) Fo.au (qd az) λ⟨CL,S7,YA⟩=>?_;refine At.aG pG 6 287 ?_;refine i6 ?_;refine C.TW rfl ?_ (hi:=(i:Int)) (hh:=by constructor<;>omega);refine C.Dw (f:=pG) (s:=aG) (l:=[]) (us.take i) rfl (λs7=>?_) (hsrc:=λH st=>?_) (hsz:=by simp only[tA,ik];omega)
    rotate_left
    ·show kI bQ H 6 _ (.slice un.a i un.cap) _;have e1:(us.take i).length=i:=by rw[ik];omega
     rw[e1];have h:=dt.Jw (B:=bQ) (f:=pG) (el:=287) (s:=un) (l:=us) (.own Fo.au) st (λ_=>rfl) 0 i az un.cap un.a (λ_=>by rw[CL]) (λ_=>.inr ⟨0,CL,by intro z;rw[z]at Rd;simp at Rd,az⟩)
     rwa[zg]at h
    refine m4 ?_;refine C.Xo rfl ?_ (hx:=by show Value.slice un.a un.len un.cap=_;rw[CL,S7]) (lo:=((i+1:Nat):Int)) (hh:=by constructor<;>omega);refine C.Dw (f:=pG) (s:=s7) (l:=[]++us.take i) (us.drop (i+1)) rfl (λs8=>?_) (hsrc:=λH st=>?_) (hsz:=by simp only[fi,tB,ik];omega)
    rotate_left
    ·show kI bQ H 6 _ (.slice (some (if un.cap=i+1 then⟨un.b,0,none⟩else⟨un.b,0+(i+1)*6,none⟩)) (us.length-(i+1)) (un.cap-(i+1))) _;have e1:(us.drop (i+1)).length=us.length-(i+1):=by rw[tB]
     rw[e1];have h:=dt.Jw (B:=bQ) (f:=pG) (el:=287) (s:=un) (l:=us) (.own Fo.au) st (λ_=>rfl) (i+1) (us.length-(i+1)) az (un.cap-(i+1)) (some (if un.cap=i+1 then⟨un.b,0,none⟩else⟨un.b,0+(i+1)*6,none⟩)) (λhm=>by rw[ao az];simp) (λ_=>.inr (by
      by_cases hc:un.cap=i+1
      ·exact⟨0,by rw[aK hc],by intro z;rw[z]at Rd;simp at Rd,az⟩
      ·exact⟨(i+1)*6,by rw[ao hc];simp,by intro z;rw[z]at Rd;simp at Rd,by have:=se 6 (show i+1<=us.length by omega);omega⟩))
     rwa[iq (by rw[tB];exact gZ _)]at h
    refine cW ?_;have DQ:[]++us.take i++us.drop (i+1)=s.under.eraseIdx i:=by rw[fi,<- w7,oD,List.eraseIdx_set_eq]
    rw[DQ];refine cY.cls {s with under:=s.under.eraseIdx i} ?_ (un:=s8);refine C.cX aJ aj ⟨I,{s with under:=s.under.eraseIdx i},Sub.refl _,⟨hI.log,λx hx=>hI.cg x ((ju ..).mem hx),hI.waits,hI.out⟩,?_,rfl⟩;unfold wi;simp only[hu,FK];rw[ao (by rw[rD];simp),aK iK];simp[eS.abs,od]
theorem G9{b:Nat}{me:Int}{v1 v2 v3 v4 v5 v6 v7 v8 v10 v11:Value}{wt:ay}{l:List cm}{m:cm}(hl:l.length<2^34):
  aD prog ak bQ 212 #[.pointer (some ⟨b,0,none⟩),.agg #[aI m.kind,aI m.aU,aI m.to,aI m.tx,.bool m.yes,m.so.v,m.sr.v]]
   [bR b (.cells #[aI me,v1,v2,v3,v4,v5,v6,v7,v8,wt.v,v10,v11] 61 (0,0)),a9 bN 7 137 wt l]
  (λv As=>∃ wt':ay,As=[bR b (.cells #[aI me,v1,v2,v3,v4,v5,v6,v7,v8,wt'.v,v10,v11] 61 (0,0)),a9 bN 7 137 wt' (l++[{m with aU:=me}])]):=by
 refine aD.of λR C kd d F c cs aJ aj=>?_;refine jK ?_;refine C.bx rfl (λb3=>?_);refine kL ?_;refine C.dx (cG 9 0 10) 11 [6,7,10] 1 ?_;refine Lq ?_;refine Ch.m 6 (aW λe aa hk=>?_);refine C.nj rfl (λZJ=>hk _ _ .cons ?_);refine Ch.m 7 (aW λe aa hk=>?_);refine C.nM {m with aU:=me} rfl (λs'=>?_);refine hk _ _ ?_;refine Ch.m 10 (aW λe aa hk=>?_);refine C.st rfl (hk _ undef ?_);refine eQ ?_;exact C.cX aJ aj ⟨s',rfl⟩
def Kx(n:Nat):List Value:=[aI (n:Int)]
instance:fC Kx 1:=⟨λ_=>rfl,λa v h=>by simp[Kx]at h;subst h;rfl⟩
theorem kA{I:HL}{u:fP}(h:wu I u)(k:Int):∃ (fr:Int) (sr:ay),NO (oS u.aR k)=.tuple #[.agg #[aI fr,sr.v],.bool (bK u.abs k).isSome]/\dS I eE 3 sr (((bK u.abs k).map (·.reads)).getD []):=by
 rw[GI];cases hv:oS u.aR k with
 |none=>exact⟨0,aG,rfl,.nil ..⟩
 |some w=>exact⟨w.aU,w.sr,rfl,h.r w (zU hv)⟩
theorem jH{u:gM}{n:Int}:∀ {l:List cr} {f g:Int->Nat},(∀ o∈l,f (gU o.k n)=g (gU o.k n))->eB u n l f=eB u n l g
 |[],_,_,_=>rfl
 |o::l,f,g,h=>by
  unfold eB;have h0:=h o (iz ..);cases o.w with
  |true=>simp only[eM];exact jH λo ho=>h o (gb _ ho)
  |false=>
   simp only[ij,fB,h0];rw[jH (f:=λj=>if j=gU o.k n then g (gU o.k n)+1 else f j) (g:=λj=>if j=gU o.k n then g (gU o.k n)+1 else g j) λo' po=>by
    split
    ·rfl
    ·exact h o' (gb _ po)]
def uf(U:List Nat)(k:Int):Nat:=U[k.toNat]?.getD 0
theorem Ha{I:HL}{b:Nat}{n:Int}{v0 v2 v3 v4 v5 v6 v7 v8 v9 v10 v11:Value}{u:fP}(hu:wu I u)(ho:jf u.ops)(hn:0<n/\n<=4)(hv:u.aR.length<2^32):
  aD prog ak bQ 214 #[.pointer (some ⟨b,0,none⟩),.agg #[aI u.tx,u.so.v,u.sv.v,.bool u.dec,.bool u.yes,u.sa.v]]
   [bR b (.cells #[v0,aI n,v2,v3,v4,v5,v6,v7,v8,v9,v10,v11] 61 (0,0)),a9 pF 2 290 u.sv u.aR,a7 I]
   (λv As=>∃ s':ay,v=s'.v/\As=[a9 eE 1 3 s' (jo u.abs n),bR b (.cells #[v0,aI n,v2,v3,v4,v5,v6,v7,v8,v9,v10,v11] 61 (0,0)),a9 pF 2 290 u.sv u.aR,a7 I]):=by
 refine aD.of λR C kd d F c cs aJ aj=>?_;refine bM ?_;have l3:=hu.o;have Sz:=ho.2;refine At.aG eE 1 3 ?_;refine bJ ?_;refine C.bx rfl (λb3=>?_);refine i6 ?_;refine C.ms (f:=Kx) (a0:=0) rfl rfl (λuR=>?_);refine At.own (l:=List.replicate n.toNat 0) (f:=Kx) (z:=1) ⟨some ⟨uR,0,none⟩,n.toNat,n.toNat⟩ [] (by simp) (by simp) (by simp) .head ?_;refine At.turn .head (A':=a9 Kx 1 3 ⟨some ⟨uR,0,none⟩,n.toNat,n.toNat⟩ (List.replicate n.toNat 0)) (λ_ h=>h) ?_;refine bJ ?_;obtain⟨us,zZ⟩:∃ us:ay,us=⟨some ⟨uR,0,none⟩,n.toNat,n.toNat⟩:=⟨_,rfl⟩;refine dN ?_;refine C.cx (X:=Nat×ay×List Int×List Nat) (λx=>[(0,.pointer (some ⟨b,0,none⟩)),(3,.pointer (some ⟨b3,0,none⟩)),(5,x.2.1.v),(6,us.v),(7,aI x.1)]) (λx=>a9 eE 1 3 x.2.1 x.2.2.1::a9 Kx 1 3 us x.2.2.2::bR b (.cells #[v0,aI n,v2,v3,v4,v5,v6,v7,v8,v9,v10,v11] 61 (0,0))::bR b3 (.cells #[aI u.tx,u.so.v,u.sv.v,.bool u.dec,.bool u.yes,u.sa.v] 287 (0,0))::a9 pF 2 290 u.sv u.aR::a7 I::F)
  (λx=>x.1<=u.ops.length/\x.2.2.1.length<=x.1/\x.2.2.2.length=n.toNat/\(∀ y∈x.2.2.2,y<=x.1)/\jo u.abs n=x.2.2.1++eB u.abs n (u.ops.drop x.1) (uf x.2.2.2)) (λx=>u.ops.length-x.1) (0,aG,[],List.replicate n.toNat 0) ⟨rfl,rfl,rfl,by rw[zZ];rfl,rfl,trivial⟩ ⟨by simp,by simp,by simp,by simp,by simp only[zg,fi];unfold jo;refine jH λo ho=>?_;unfold uf;rw[List.getElem?_replicate];split<;>rfl⟩ ?_ (hI:=by rw[zZ];exact bZ.au)
 rintro⟨i,s1,acc,U⟩ e ⟨hi,SQ,hU,YB,hr⟩ ih;dsimp only at hi SQ hU YB hr⊢;refine dH ?_;refine C.cmp rfl (λrW=>?_) (λrW=>?_)
 ·refine bJ ?_;have cN:i<u.ops.length:=by simpa using rW
  have wq:=ho.1 _ (br cN);rw[iR cN]at hr;refine kE ?_;refine C.xA (λRg=>?_) (λRg=>?_)
  ·refine dH ?_;refine again ih (i+1,s1,acc,U) ⟨dI,dI,hU,λy hy=>CY (YB y hy),?_⟩ (dI);rw[hr,eB,aK Rg]
  ·refine C.go ?_;refine C.dx (cG 30 0 11++[(8,11)]) 12 [10,11] 0 ?_;refine JI ?_;refine Ch.m 10 (aW λe aa hk=>?_);have dA:=BI (n:=n) wq.1 hn.1;refine C.cE (BR (key:=u.ops[i].k) (n:=n) az az hn.1) ?_;refine zB ?_;obtain⟨q,hq⟩:∃ q:Nat,gU u.ops[i].k n=q:=gR dA.1;rw[hq];refine hk _ _ ?_;refine Ch.q 11 (λh=>C.kH rfl h) ?_;refine Qs ?_;have YC:q<U.length:=az;have hUq:=YB _ (br YC);refine C.cE (mQ (l:=u.aR) (k:=(q:Int)) az) ?_;refine bM ?_;obtain⟨fr,sr,e1,Zu⟩:=kA hu q;rw[e1];generalize iS:((bK u.abs q).map (·.reads)).getD []=rd at Zu;refine dN ?_;refine C.al rfl (λb9=>?_);refine dH ?_;refine C.dx (cG 47 0 8) 8 [] 0 ?_;refine lZ ?_;refine Dr.p (λh=>C.aaA rfl h) ?_;refine Dr.chain rfl ?_;refine eQ ?_;refine C.xA (λU7=>?_) (λU7=>?_)
   ·refine C.go ?_;have YD:U[q]<rd.length:=by simpa[Dl]using U7
    refine C.dx (cG 55 0 8++[(11,8)]) 9 [] 0 ?_;refine XW ?_;refine Qs ?_;refine C.nj rfl (λb65=>?_);refine C.nM (s:=s1) (l:=acc) rd[U[q]] rfl (λs2=>?_);refine kL ?_;refine C.zt (U[q]+1) rfl ?_ (j:=q) (s:=us) (l:=U);refine dH ?_;refine again ih (i+1,s2,acc++[rd[U[q]]'YD],U.set q (U[q]+1)) ⟨dI,by simp;omega,by simpa using hU,λy hy=>?_,?_⟩ (dI)
    ·rcases fN hy with h|rfl
     ·exact CY (YB y h)
     ·dsimp only;omega
    ·have U8:uf U q=U[q]:=by unfold uf;rw[show((q:Nat):Int).toNat=q from rfl,e9 YC];rfl
     rw[hr,eB,ao (by simp[Rg])];simp only[hq,iS,U8];rw[pQ]
     congr 1
     have xX:rd[U[q]]?.getD 0=_:=(by rw[e9 YD];rfl:rd[U[q]]?.getD 0=rd[U[q]]);rw[xX];simp only[List.singleton_append,LG,mo];refine jH λo po=>?_;have Wk:=BI (n:=n) (ho.1 o (List.mem_of_mem_drop po)).1 hn.1;obtain⟨p,hp⟩:∃ p:Nat,gU o.k n=p:=gR Wk.1;rw[hp];unfold uf;rw[show((p:Nat):Int).toNat=p from rfl,w6];by_cases e:p=q
     ·subst e;simp[YC]
     ·have e2:¬ q=p:=λz=>e z.symm;have e3:¬ (p:Int)=q:=az;simp[e2,e3]
   ·refine cW ?_;refine C.nj rfl (λb65=>?_);refine C.nM (s:=s1) (l:=acc) (0:Int) rfl (λs2=>?_);refine kL ?_;refine C.zt (U[q]+1) rfl ?_ (j:=q) (s:=us) (l:=U);refine dH ?_;refine again ih (i+1,s2,acc++[0],U.set q (U[q]+1)) ⟨dI,by simp;omega,by simpa using hU,λy hy=>?_,?_⟩ (dI)
    ·rcases fN hy with h|rfl
     ·exact CY (YB y h)
     ·dsimp only;omega
    ·have U8:uf U q=U[q]:=by unfold uf;rw[show((q:Nat):Int).toNat=q from rfl,e9 YC];rfl
     rw[hr,eB,ao (by simp[Rg])];simp only[hq,iS,U8];rw[pQ]
     congr 1
     have xX:rd[U[q]]?.getD 0=_:=(by rw[vB (by have:¬ U[q]<rd.length:=(by simpa[Dl]using U7);omega)];rfl:rd[U[q]]?.getD 0=0);rw[xX];simp only[List.singleton_append,LG,mo];refine jH λo po=>?_;have Wk:=BI (n:=n) (ho.1 o (List.mem_of_mem_drop po)).1 hn.1;obtain⟨p,hp⟩:∃ p:Nat,gU o.k n=p:=gR Wk.1;rw[hp];unfold uf;rw[show((p:Nat):Int).toNat=p from rfl,w6];by_cases e:p=q
     ·subst e;simp[YC]
     ·have e2:¬ q=p:=λz=>e z.symm;have e3:¬ (p:Int)=q:=az;simp[e2,e3]
 ·refine dH ?_;have e1:u.ops.drop i=[]:=pS (by simp at rW;omega);rw[e1,eB,k8]at hr;rw[<- hr];exact C.bk aJ aj ⟨s1,rfl,rfl⟩
def r9(u:fP)(m:cm):List vg:=if m.yes&& !(bK u.abs m.aU).isSome then u.aR++[⟨⟨m.aU,m.reads⟩,m.sr⟩]else u.aR
def gT(u:fP)(m:cm)(sv:ay):fP:={u with sv:=sv,aR:=r9 u m}
def yL(n:Int)(ops:List cr)(tx:Int)(yes:Bool)(z:ShR)(k:Int):ShR:=if(aV ops k n).isEmpty then z else eP z {bj with kind:=4,to:=k,tx:=tx,yes:=yes}
theorem AQ(u:fP)(m:cm)(sv:ay):(gT u m sv).abs=if m.yes&& !(bK u.abs m.aU).isSome then{u.abs with aR:=u.abs.aR++[⟨m.aU,m.reads⟩]}else u.abs:=by
 unfold gT r9;by_cases h:(m.yes&& !(bK u.abs m.aU).isSome)=true
 ·simp only[aK h];simp[fP.abs]
 ·simp only[ao h];simp[fP.abs]
theorem AR(u:fP)(m:cm)(sv:ay):(gT u m sv).aR.length<=u.aR.length+1:=by unfold gT r9;dsimp only;split<;>simp
theorem IL{I:HL}{u:fP}{m:cm}(h:wu I u)(hm:sQ I m)(sv:ay):wu I (gT u m sv):=by
 refine⟨h.o,λv hv=>?_⟩;unfold gT r9 at hv;dsimp only at hv;split at hv
 ·rcases bU.1 hv with hv|hv
  ·exact h.r v hv
  ·obtain rfl:=dF.1 hv;exact hm.r
 ·exact h.r v hv
def Ca(s:ShR)(m:MsgR)(i:Nat)(u1:gM):ShR:=
 let u2:={u1 with dec:=true,yes:=m.yes}
 let rd:=if m.yes then jo u2 s.n else[]
 let s1:={s with under:=s.under.set i u2,log:=s.log++[{eh with kind:=2,tx:=m.tx,yes:=m.yes,reads:=rd}]}
 let s2:=fV s1 u2.ops λz k _=>eP z {bj with kind:=4,to:=k,tx:=m.tx,yes:=m.yes}
 eP s2 {bj with kind:=7,to:= -1,tx:=m.tx,yes:=m.yes,reads:=rd}
theorem E3{s:ShR}{m:MsgR}{i:Nat}{u:gM}(h1:cH s.under m.tx=some i)(h2:s.under[i]? =some u)(hd:u.dec=false){u1:gM}(ZG:u1=if m.yes&& !(bK u m.aU).isSome then{u with aR:=u.aR++[⟨m.aU,m.reads⟩]}else u):
  pf s m=if m.yes&& !mG s.n u1.ops (λk=>(bK u1 k).isSome)then{s with under:=s.under.set i u1}else Ca s m i u1:=by
 subst ZG;unfold pf;simp only[h1,h2,hd];rfl
abbrev yM(b:Nat)(m:cm):HP:=bR b (.cells #[aI m.kind,aI m.aU,aI m.to,aI m.tx,.bool m.yes,m.so.v,m.sr.v] 137 (0,0))
theorem Ky{I:HL}{b:Nat}{s:eS}{m:cm}(hI:uv I s)(hM:sQ I m)(hb:Kv s):
  aD prog ak bQ 187 #[.pointer (some ⟨b,0,none⟩),.agg #[aI m.kind,aI m.aU,aI m.to,aI m.tx,.bool m.yes,m.so.v,m.sr.v]] [cY b s,a7 I] (rZ b I (pf s.abs m.toMsgR)):=by
 refine aD.of λR C kd d F c cs aJ aj=>?_;refine bM ?_;have Gz:=hb.under;have hn:=hb.n;have ks:=hb.log;have BU:=hb.waits;refine bJ ?_;refine C.bx rfl (λb3=>?_);refine dD ?_;refine C.cE (mP (s:=s) az) ?_;refine jK ?_;refine cY.opn (h:=λlg vl lk un tm wt ot=>?_);refine bJ ?_;refine C.cmp rfl (λtu=>?_) (λtu=>?_)
 ·refine ow ?_;refine cY.cls s ?_;refine C.bk aJ aj ⟨I,s,Sub.refl _,hI,?_,rfl⟩;unfold pf;simp only[sZ tu]
 ·refine fI ?_;obtain⟨i,hu⟩:∃ i,cH s.abs.under m.tx=some i:=jP az;obtain⟨hi,FK⟩:=yK hu;simp only[hu,sX];refine i6 ?_;refine C.xA (λU9=>?_) (λU9=>?_)
  ·refine C.go ?_;refine cY.cls s ?_;refine C.bk aJ aj ⟨I,s,Sub.refl _,hI,?_,rfl⟩;unfold pf;simp only[hu,FK];have hd:(s.under[i]).abs.dec=true:=U9;rw[hd];rfl
  ·refine C.go ?_;have rD:(s.under[i]).abs.dec=false:=by show s.under[i].dec=false;simpa using U9
   have FR:=hb.yp _ (br hi);have Wz:=FR.2.1;have hul:=FR.1.2;have S8:=hI.cg _ (br hi);refine kL ?_;apply xB (X:=ay) (λ_=>m.yes=true->(mG s.n s.under[i].ops λk=>(bK (gT s.under[i] m aG).abs k).isSome)=true) (λ_=>[(0,.pointer (some ⟨b,0,none⟩)),(3,.pointer (some ⟨b3,0,none⟩)),(5,.pointer (some ⟨un.b,i*6,none⟩))]) (λsv=>IK b s lg vl lk un tm wt ot (s.under.set i (gT s.under[i] m sv)) i (gT s.under[i] m sv) (yM b3 m::a7 I::F)) (R:=R) (d:=d) (fn:=187) (kd:=kd) (n:=162) (ds:=[]) (cs:=c::cs)
   ·intro S9;refine B8 hi Fo.au ?_;refine cW ?_;refine C.xA (λtc=>?_) (λtc=>?_)
    ·refine C.go ?_;apply MT True [(0,.pointer (some ⟨b,0,none⟩)),(3,.pointer (some ⟨b3,0,none⟩)),(5,.pointer (some ⟨un.b,i*6,none⟩)),(7,.bool (bK (s.under[i]).abs m.aU).isSome)] (IK b s lg vl lk un tm wt ot s.under i s.under[i] (yM b3 m::a7 I::F)) (R:=R) (d:=d) (fn:=187) (kd:=kd) (n:=162) (ds:=[]) (cs:=c::cs)
     ·intro qv;refine C.vL (cG 40 0 6++[(39,6)]++[(46,7),(47,8)]++[(6,9)]++[(7,11)]) 12 [5,6,7,8,9,10,11] 8 ?_ (W:=[bR b3 (.cells #[aI m.kind,aI m.aU,aI m.to,aI m.tx,.bool m.yes,m.so.v,m.sr.v] 137 (0,0)),a9 pG 6 287 un s.under]);refine Ar ?_;refine Dr.l (λhE h=>C.Dv hi rfl h (s:=un) (f:=pG)) ?_;refine Ar ?_;refine Dr.chain rfl ?_ (λ_ s=>bZ.sat bZ.au s);refine Ch.n2 (t:=5) (u:=9) rfl ?_ ?_
      ·refine aW λe aa hk=>?_;refine C.cE (mQ (l:=s.under[i].aR) (k:=m.aU) az) ?_;refine bM ?_;obtain⟨fr,sr,e1, -⟩:=kA S8 m.aU;rw[e1];refine hk _ _ lu ?_;refine Ch.q 6 (λh=>C.mv rfl h) ?_;refine Ch.q 7 (λh=>C.ext rfl h) ?_;refine Ch.q 8 (λh=>C.ext rfl h) ?_;refine Ch.q 11 (λh=>C.kH rfl h) ?_;refine Ch.m 9 (aW λe aa hk=>?_);refine C.al rfl (λb6=>hk _ _ .cons ?_);refine Ch.m 10 (aW λe aa hk=>?_);refine fI ?_;refine hk _ undef lu ?_;refine eQ ?_;exact join qv trivial
      ·refine aW λe aa hk=>?_;refine C.al rfl (λb6=>hk _ _ .cons ?_);refine Ch.m 5 (aW λe aa hk=>?_);refine C.cE (mQ (l:=s.under[i].aR) (k:=m.aU) az) ?_;refine bM ?_;obtain⟨fr,sr,e1, -⟩:=kA S8 m.aU;rw[e1];refine hk _ _ lu ?_;refine Ch.q 6 (λh=>C.mv rfl h) ?_;refine Ch.q 7 (λh=>C.ext rfl h) ?_;refine Ch.q 8 (λh=>C.ext rfl h) ?_;refine Ch.q 11 (λh=>C.kH rfl h) ?_;refine Ch.m 10 (aW λe aa hk=>?_);refine fI ?_;refine hk _ undef lu ?_;refine eQ ?_;exact join qv trivial
     ·rintro - e;apply xB (X:=ay) (λ_=>True) (λ_=>[(0,.pointer (some ⟨b,0,none⟩)),(3,.pointer (some ⟨b3,0,none⟩)),(5,.pointer (some ⟨un.b,i*6,none⟩))]) (λsv=>IK b s lg vl lk un tm wt ot (s.under.set i (gT s.under[i] m sv)) i (gT s.under[i] m sv) (yM b3 m::a7 I::F)) (R:=R) (d:=d) (fn:=187) (kd:=kd) (n:=162) (ds:=[]) (cs:=c::cs)
      ·intro BT;refine cW ?_;refine C.xA (λVa=>?_) (λVa=>?_)
       ·refine C.go ?_;refine C.dx (cG 50 0 14) 15 [10,11,14] 1 ?_;refine JF ?_;refine Dr.l (λhE h=>C.vI rfl h (j:=i) (s:=un) (l:=s.under)) ?_;refine Qu ?_;refine Ch.m 10 (aW λe aa hk=>?_);refine C.nj rfl (λPp=>hk _ _ .cons ?_);refine Ch.m 11 (aW λe aa hk=>?_);refine C.nM (l:=s.under[i].aR) (vg.mk ⟨m.aU,m.reads⟩ m.sr) rfl (λs6=>?_);refine hk _ _ ?_;refine Ch.m 14 (aW λe aa hk=>?_);refine C.Gl ({s.under[i]with sv:=s6,aR:=s.under[i].aR++[vg.mk ⟨m.aU,m.reads⟩ m.sr]}:fP) rfl ?_;refine hk _ undef ?_;refine eQ ?_;have Mz:(bK s.under[i].abs m.aU).isSome=false:=by simpa using Va
        have YE:s.under[i].aR++[vg.mk ⟨m.aU,m.reads⟩ m.sr]=r9 s.under[i] m:=by unfold r9;rw[aK (by rw[Mz,tc];rfl)]
        have Vb:({s.under[i]with sv:=s6,aR:=s.under[i].aR++[vg.mk ⟨m.aU,m.reads⟩ m.sr]}:fP)=gT s.under[i] m s6:=by unfold gT;rw[<- YE]
        refine At.jB (Bs:=IK b s lg vl lk un tm wt ot (s.under.set i ({s.under[i]with sv:=s6,aR:=s.under[i].aR++[vg.mk ⟨m.aU,m.reads⟩ m.sr]}:fP)) i ({s.under[i]with sv:=s6,aR:=s.under[i].aR++[vg.mk ⟨m.aU,m.reads⟩ m.sr]}:fP) (yM b3 m::a7 I::F)) ?_ ?_
        ·exact bZ.au
        rw[Vb];exact cZ BT s6 trivial
       ·refine C.go ?_;have Mz:(bK s.under[i].abs m.aU).isSome=true:=by simpa using Va
        have YE:s.under[i].aR=r9 s.under[i] m:=by unfold r9;rw[ao (by rw[Mz,tc];simp)]
        have Vb:s.under[i]=gT s.under[i] m s.under[i].sv:=by unfold gT;rw[<- YE]
        have oe:s.under=s.under.set i (gT s.under[i] m s.under[i].sv):=by rw[<- Vb,lO]
        refine At.jB (Bs:=IK b s lg vl lk un tm wt ot (s.under.set i (gT s.under[i] m s.under[i].sv)) i (gT s.under[i] m s.under[i].sv) (yM b3 m::a7 I::F)) ?_ ?_
        ·rw[<- oe,<- Vb];exact bZ.au
        exact cZ BT s.under[i].sv trivial
      ·rintro YF-e;obtain⟨u,wW⟩:∃ u,u=gT s.under[i] m YF:=⟨_,rfl⟩;obtain⟨us,oD⟩:∃ us,us=s.under.set i u:=⟨_,rfl⟩;have Yy:us.length=s.under.length:=by rw[oD];simp
       have Rd:i<us.length:=az;have zZ:us[i]=u:=by simp[oD]
       have l3:u.ops=s.under[i].ops:=by rw[wW];rfl
       have Rh:wu I u:=by rw[wW];exact IL S8 hM YF
       have huv:u.aR.length<2^31:=by rw[wW];have:=AR s.under[i] m YF;omega
       rw[<- wW,<- oD];refine dN ?_;refine C.cx (X:=Nat) (λk=>[(0,.pointer (some ⟨b,0,none⟩)),(3,.pointer (some ⟨b3,0,none⟩)),(5,.pointer (some ⟨un.b,i*6,none⟩)),(8,aI k)]) (λ_=>IK b s lg vl lk un tm wt ot us i u (yM b3 m::a7 I::F)) (λk=>(k:Int)<=s.n/\∀ j:Nat,j<k->bX u.ops j s.n=true->(bK u.abs j).isSome=true) (λk=>(s.n-k).toNat) 0 ⟨rfl,rfl,rfl,rfl,trivial⟩ ⟨az,by intro j hj;omega⟩ ?_;intro k e ⟨CD,FN⟩ ih;refine dV ?_;refine C.cmp rfl (λh69=>?_) (λh69=>?_)
       ·refine dD ?_;refine C.mE rfl (λ_=>?_) (j:=i) (s:=un) (l:=us);simp only[zZ];refine fI ?_;refine C.cE (mQ (l:=u.aR) (k:=(k:Int)) az) ?_;refine bM ?_;obtain⟨fr,sr,e1, -⟩:=kA Rh k;rw[e1];generalize Lv:(bK u.abs k).isSome=z;rcases g6 z with rfl|rfl
        ·refine dN ?_;refine C.al rfl (λb9=>?_);refine dN ?_;refine C.dx (cG 80 0 10++[(11,10)]) 11 [9,10] 0 ?_;refine CH ?_;refine Dr.l (λhE h=>C.vI rfl h (j:=i) (s:=un) (l:=us) (hv:=by simp only[zZ];rfl)) ?_;refine Nt ?_;refine Ch.m 9 (aW λe aa hk=>?_);refine C.cE (oR (k:=k) (n:=s.n) Rh.o (by rw[l3];exact FR.1.1) az (by rw[l3];omega)) ?_;refine bM ?_;generalize CN:bX u.ops k s.n=z;rcases g6 z with rfl|rfl
         ·refine hk _ _ ?_;refine Ch.q 10 (λh=>C.kH rfl h) ?_;refine Ch.fin ?_;refine nO ?_;refine again ih (k+1) ⟨az,λj hj ze=>?_⟩ az;rcases mq.1 hj with h|rfl
          ·exact FN j h ze
          ·exact Lv
         ·refine hk _ _ ?_;refine Ch.q 10 (λh=>C.kH rfl h) ?_;refine Ch.fin ?_;refine nO ?_;refine again ih (k+1) ⟨az,λj hj ze=>?_⟩ az;rcases mq.1 hj with h|rfl
          ·exact FN j h ze
          ·exact Lv
        ·refine dN ?_;refine C.al rfl (λb9=>?_);refine dN ?_;refine C.dx (cG 80 0 10++[(11,10)]) 11 [9,10] 0 ?_;refine CH ?_;refine Dr.l (λhE h=>C.vI rfl h (j:=i) (s:=un) (l:=us) (hv:=by simp only[zZ];rfl)) ?_;refine Nt ?_;refine Ch.m 9 (aW λe aa hk=>?_);refine C.cE (oR (k:=k) (n:=s.n) Rh.o (by rw[l3];exact FR.1.1) az (by rw[l3];omega)) ?_;refine bM ?_;generalize CN:bX u.ops k s.n=z;rcases g6 z with rfl|rfl
         ·refine hk _ _ ?_;refine Ch.q 10 (λh=>C.kH rfl h) ?_;refine Ch.fin ?_;refine kL ?_;have hIu:∀ x∈us,wu I x:=λx hx=>by
           rw[oD]at hx;rcases fN hx with h|rfl
           ·exact hI.cg x h
           ·exact Rh
          refine B9 (us:=s.under) hi u dB.au ?_;rw[<- oD];refine cY.cls {s with under:=us} ?_;refine C.bk aJ aj ⟨I,{s with under:=us},Sub.refl _,⟨hI.log,hIu,hI.waits,hI.out⟩,?_,rfl⟩;have pa:¬ (mG s.abs.n u.abs.ops λk=>(bK u.abs k).isSome)=true:=λh=>by have h1:=k9.1 h (k:Int) (kp.2 (by constructor<;>first|omega|exact h69));have h2:bX u.abs.ops k s.abs.n=true:=CN;simp only[h2,Lv]at h1;cases h1
          rw[E3 (m:=m.toMsgR) hu FK rD (u1:=u.abs) (by rw[wW];exact AQ ..),aK (by rw[show m.toMsgR.yes=true from tc];simpa using pa),oD];simp[eS.abs,j1]
         ·refine hk _ _ ?_;refine Ch.q 10 (λh=>C.kH rfl h) ?_;refine Ch.fin ?_;refine nO ?_;refine again ih (k+1) ⟨az,λj hj ze=>?_⟩ az;rcases mq.1 hj with h|rfl
          ·exact FN j h ze
          ·rw[CN]at ze;cases ze
       ·refine bJ ?_;subst oD wW;refine cZ S9 YF λ_=>?_;refine k9.2 λx hx=>?_;obtain⟨h1,h2⟩:=kp.1 hx;obtain⟨j,rfl⟩:=gR h1;have h2:(j:Int)<s.n:=h2;have h3:=FN j az;rw[l3]at h3;cases ht:bX s.under[i].ops j s.n with
        |false=>rfl
        |true=>
         show(!true||(bK (gT s.under[i] m YF).abs (j:Int)).isSome)=true;rw[h3 ht];rfl
    ·refine C.go ?_;have YE:s.under[i].aR=r9 s.under[i] m:=by unfold r9;rw[ao (by simp[show m.yes=false by simpa using tc])]
     have Vb:s.under[i]=gT s.under[i] m s.under[i].sv:=by unfold gT;rw[<- YE]
     have oe:s.under=s.under.set i (gT s.under[i] m s.under[i].sv):=by rw[<- Vb,lO]
     refine At.jB (Bs:=IK b s lg vl lk un tm wt ot (s.under.set i (gT s.under[i] m s.under[i].sv)) i (gT s.under[i] m s.under[i].sv) (yM b3 m::a7 I::F)) ?_ ?_
     ·rw[<- oe,<- Vb];exact bZ.au
     exact cZ S9 s.under[i].sv λh=>absurd h (by simpa using tc)
   ·rintro ZV iK e;obtain⟨u,wW⟩:∃ u,u=gT s.under[i] m ZV:=⟨_,rfl⟩;obtain⟨us,oD⟩:∃ us,us=s.under.set i u:=⟨_,rfl⟩;have Yy:us.length=s.under.length:=by rw[oD];simp
    have Rd:i<us.length:=az;have zZ:us[i]=u:=by simp[oD]
    rw[<- wW,<- oD];refine cW ?_;refine C.Gl ({u with dec:=true}:fP) rfl ?_ (ha:=by rw[zZ];rfl);refine dV ?_;refine C.Gl ({u with dec:=true,yes:=m.yes}:fP) rfl ?_ (hj:=by rw[fM];exact Rd) (ha:=by rw[vD];rfl);refine C.go ?_;obtain⟨u2,Hb⟩:∃ u2:fP,u2={u with dec:=true,yes:=m.yes}:=⟨_,rfl⟩;obtain⟨AT,AU⟩:∃ AT,AT=s.under.set i u2:=⟨_,rfl⟩;have afG:AT.length=s.under.length:=by rw[AU];simp
    have afH:i<AT.length:=az;have Re:AT[i]=u2:=by simp[AU]
    have Vd:u2.ops=s.under[i].ops:=by rw[Hb,wW];rfl
    have Ve:wu I u2:=by have:=IL S8 hM ZV;rw[Hb,wW];exact⟨this.o,this.r⟩
    have afI:u2.aR.length<2^30+1:=by rw[Hb,wW];have:=AR s.under[i] m ZV;show(gT s.under[i] m ZV).aR.length<_;omega
    have abG:u2.abs={u.abs with dec:=true,yes:=m.yes}:=by rw[Hb];rfl
    refine At.jB (Bs:=IK b s lg vl lk un tm wt ot AT i u2 (yM b3 m::a7 I::F)) ?_ ?_
    ·have e1:AT=(us.set i ({u with dec:=true}:fP)).set i ({u with dec:=true,yes:=m.yes}:fP):=by rw[AU,oD,zX,zX,Hb]
     rw[e1];subst Hb;exact bZ.au
    refine dH ?_;refine C.al rfl (λPr=>?_);refine bJ ?_;apply xB (X:=ay×HL) (λx=>Sub I x.2/\dS x.2 eE 3 x.1 (if m.yes then jo u2.abs s.n else[])) (λ_=>[(0,.pointer (some ⟨b,0,none⟩)),(3,.pointer (some ⟨b3,0,none⟩)),(5,.pointer (some ⟨un.b,i*6,none⟩)),(12,.pointer (some ⟨Pr,0,none⟩))]) (λx=>bR Pr (.cells #[aI 2,aI m.tx,.bool m.yes,aI 0,.slice none 0 0,x.1.v] 247 (0,0))::IK b s lg vl lk un tm wt ot AT i u2 (yM b3 m::a7 x.2::F)) (R:=R) (d:=d) (fn:=187) (kd:=kd) (n:=162) (ds:=[]) (cs:=c::cs)
    ·intro Ta;refine cW ?_;refine C.xA (λOo=>?_) (λOo=>?_)
     ·refine dD ?_;refine C.mE rfl (λ_=>?_) (j:=i) (s:=un) (l:=AT);simp only[Re];refine C.dv (Ha (u:=u2) (n:=s.n) Ve (by rw[Vd];exact FR.1) az az) ?_;rintro v aN ⟨s3,rfl,rfl⟩;refine bM ?_;refine At.Gk (s:=s3) (f:=eE) Fo.au Fo.au λI' rC hs3=>?_;refine dN ?_;exact cZ Ta (s3,I') ⟨rC,by rw[aK Oo];exact hs3⟩
     ·refine C.go ?_;exact cZ Ta ((⟨none,0,0⟩:ay),I) ⟨Sub.refl _,by rw[ao (by simp[Oo])];exact dS.nil ..⟩
    ·rintro⟨rs,I1⟩ ⟨qE,pB⟩ e;dsimp only at qE pB⊢;generalize iS:(if m.yes then jo u2.abs s.n else[])=rd at pB;refine C.dx (cG 116 0 10) 11 [6,7,10] 1 ?_;refine Lq ?_;refine Ch.m 6 (aW λe aa hk=>?_);refine C.nj rfl (λafJ=>hk _ _ .cons ?_);refine Ch.m 7 (aW λe aa hk=>?_);refine C.nM (i7.mk {eh with kind:=2,tx:=m.tx,yes:=m.yes,reads:=rd} aG rs) rfl (λs4=>?_);refine hk _ _ ?_;refine Ch.m 10 (aW λe aa hk=>?_);refine C.st rfl (hk _ undef ?_);refine eQ ?_;obtain⟨r,hr⟩:∃ r:i7,r=i7.mk {eh with kind:=2,tx:=m.tx,yes:=m.yes,reads:=rd} aG rs:=⟨_,rfl⟩;rw[<- hr];refine dN ?_;refine C.cx (X:=Nat×ay×List cm) (λx=>[(0,.pointer (some ⟨b,0,none⟩)),(3,.pointer (some ⟨b3,0,none⟩)),(5,.pointer (some ⟨un.b,i*6,none⟩)),(12,.pointer (some ⟨Pr,0,none⟩)),(13,aI x.1)]) (λx=>bR Pr (.cells #[aI 2,aI m.tx,.bool m.yes,aI 0,.slice none 0 0,rs.v] 247 (0,0))::IK b {s with log:=s.log++[r],waits:=x.2.2} s4 vl lk un tm x.2.1 ot AT i u2 (yM b3 m::a7 I1::F))
      (λx=>(x.1:Int)<=s.n/\x.2.2.length<=s.waits.length+x.1/\(∀ w∈x.2.2,sQ I1 w)/\({s with log:=s.log++[r],under:=AT,waits:=x.2.2}:eS).abs=((upto s.n).take x.1).foldl (yL s.n u2.ops m.tx m.yes) ({s with log:=s.log++[r],under:=AT}:eS).abs) (λx=>(s.n-x.1).toNat) (0,wt,s.waits) ⟨rfl,rfl,rfl,rfl,rfl,trivial⟩ ⟨dI,gZ _,λw hw=>(hI.waits w hw).mono qE,rfl⟩ ?_
     rintro⟨k,wt1,W⟩ e ⟨hk,hW,yN,fZ⟩ ih;dsimp only at hk hW yN fZ⊢;refine dV ?_;refine C.cmp rfl (λVf=>?_) (λVf=>?_)
     ·refine bJ ?_;have NR:(k:Int)<s.n:=Vf;refine C.dx (cG 134 0 10++[(14,10)]) 11 [9,10] 0 ?_;refine CH ?_;refine Dr.l (λhE h=>C.vI rfl h (j:=i) (s:=un) (l:=AT) (hv:=by simp only[Re];rfl)) ?_;refine Nt ?_;refine Ch.m 9 (aW λe aa hk=>?_);refine C.cE (oR (k:=k) (n:=s.n) (Ve.o.mono qE) (by rw[Vd];exact FR.1.1) az (by rw[Vd];omega)) ?_;refine bM ?_;generalize CN:bX u2.ops k s.n=z;rcases g6 z with rfl|rfl
      ·refine hk _ _ ?_;refine Ch.q 10 (λh=>C.kH rfl h) ?_;refine Ch.fin ?_;refine zC ?_;refine C.dv (G9 (wt:=wt1) (l:=W) (m:=⟨{bj with kind:=4,to:=k,tx:=m.tx,yes:=m.yes},aG,aG⟩) az) ?_;rintro v aN ⟨wt2,rfl⟩;refine JG ?_;refine again ih (k+1,wt2,W++[⟨{bj with kind:=4,aU:=s.me,to:=k,tx:=m.tx,yes:=m.yes},aG,aG⟩]) ⟨dI,by simp;omega,λw hw=>?_,?_⟩ (dI)
       ·rcases bU.1 hw with hw|hw
        ·exact yN w hw
        ·obtain rfl:=dF.1 hw;exact⟨.nil ..,.nil ..⟩
       ·rw[cQ az,gm,<- fZ];have eI:(aV u2.ops k s.n).isEmpty=false:=by simpa[bX]using CN
        simp only[kM,rH,yL,eI];simp[eP,eS.abs]
      ·refine hk _ _ ?_;refine Ch.q 10 (λh=>C.kH rfl h) ?_;refine Ch.fin ?_;refine i6 ?_;refine again ih (k+1,wt1,W) ⟨dI,dI,yN,?_⟩ (dI);rw[cQ az,gm,<- fZ];have eI:(aV u2.ops k s.n).isEmpty=true:=by simpa[bX]using CN
       simp only[kM,rH,yL,eI];simp
     ·refine bJ ?_;have NR:¬ (k:Int)<s.n:=Vf;rw[oA az]at fZ;refine B9 (us:=s.under) hi u2 dB.au ?_;rw[<- AU];refine cY.cls {s with log:=s.log++[r],under:=AT,waits:=W} ?_;refine kL ?_;refine C.dv (q5 (s:={s with log:=s.log++[r],under:=AT,waits:=W}) (m:=⟨{bj with kind:=7,to:= -1,tx:=m.tx,yes:=m.yes,reads:=rd},aG,rs⟩) (by show W.length<_;omega)) ?_;rintro v aN rfl;refine k6 ?_;refine C.cX aJ aj ⟨I1,{s with log:=s.log++[r],under:=AT,waits:=W++[⟨{bj with kind:=7,aU:=s.me,to:= -1,tx:=m.tx,yes:=m.yes,reads:=rd},aG,rs⟩]},qE,⟨λx hx=>?_,λx hx=>?_,λx hx=>?_,λx hx=>(hI.out x hx).mono qE⟩,?_,rfl⟩
      ·rcases bU.1 hx with hx|hx
       ·exact(hI.log x hx).mono qE
       ·obtain rfl:=dF.1 hx;rw[hr];exact⟨.nil ..,pB⟩
      ·rw[AU]at hx;rcases fN hx with h|rfl
       ·exact(hI.cg x h).mono qE
       ·exact Ve.mono qE
      ·rcases bU.1 hx with hx|hx
       ·exact yN x hx
       ·obtain rfl:=dF.1 hx;exact⟨.nil ..,pB⟩
      have m2:({s.abs with under:=s.abs.under.set i u2.abs,log:=s.abs.log++[{eh with kind:=2,tx:=m.tx,yes:=m.yes,reads:=rd}]}:ShR)=({s with log:=s.log++[r],under:=AT}:eS).abs:=by simp[eS.abs,hr,AU,j1]
      have e1:Ca s.abs m.toMsgR i u.abs=eP (fV ({s with log:=s.log++[r],under:=AT}:eS).abs u2.ops λz k _=>eP z {bj with kind:=4,to:=k,tx:=m.tx,yes:=m.yes}) {bj with kind:=7,to:= -1,tx:=m.tx,yes:=m.yes,reads:=rd}:=by
       rw[<- m2];unfold Ca;have ho:u2.ops=u.abs.ops:=by rw[Hb];rfl
       simp only[<- abG,<- iS,ho];rfl
      have e2:(fV ({s with log:=s.log++[r],under:=AT}:eS).abs u2.ops λz k _=>eP z {bj with kind:=4,to:=k,tx:=m.tx,yes:=m.yes})=({s with log:=s.log++[r],under:=AT,waits:=W}:eS).abs:=fZ.symm;rw[E3 (m:=m.toMsgR) hu FK rD (u1:=u.abs) (by rw[wW];exact AQ ..),ao (λh=>by
       simp only[lN,CX]at h;have h1:=iK h.1;have h2:(mG s.n s.under[i].ops λk=>(bK (gT s.under[i] m aG).abs k).isSome)=false:=by have:=h.2;rw[wW]at this;exact this
       rw[h1]at h2;cases h2),e1,e2]
      simp[eP,eS.abs]
theorem Kz{I:HL}{b:Nat}{s:eS}{m:cm}(hI:uv I s)(hM:sQ I m)(hb:Kv s)(hm:jf m.ops):
  aD prog ak bQ 159 #[.pointer (some ⟨b,0,none⟩),.agg #[aI m.kind,aI m.aU,aI m.to,aI m.tx,.bool m.yes,m.so.v,m.sr.v]] [cY b s,a7 I] (rZ b I (jl s.abs m.toMsgR)):=by
 refine aD.of λR C kd d F c cs aJ aj=>?_;refine jK ?_;refine C.bx rfl (λb3=>?_);refine dH ?_;refine C.cmp rfl (λh7=>?_) (λh7=>?_)
 ·refine dH ?_;refine C.dv (G8 (m:=m) hI hM hb hm) ?_;rintro v aN ⟨I',s',hS,rC,ha,rfl⟩;refine k6 ?_;exact C.cX aJ aj ⟨I',s',hS,rC,by rw[ha];unfold jl;rw[aK h7],rfl⟩
 ·refine cW ?_;refine C.cmp rfl (λoy=>?_) (λoy=>?_)
  ·refine dH ?_;refine C.dv (B7 (m:=m) hI hM hb hm) ?_;rintro v aN ⟨I',s',hS,rC,ha,rfl⟩;refine k6 ?_;exact C.cX aJ aj ⟨I',s',hS,rC,by rw[ha];unfold jl;rw[ao h7,aK oy],rfl⟩
  ·refine cW ?_;refine C.cmp rfl (λwv=>?_) (λwv=>?_)
   ·refine dH ?_;refine C.dv (Ky (m:=m) hI hM hb) ?_;rintro v aN ⟨I',s',hS,rC,ha,rfl⟩;refine k6 ?_;exact C.cX aJ aj ⟨I',s',hS,rC,by rw[ha];unfold jl;rw[ao h7,ao oy,aK wv],rfl⟩
   ·refine cW ?_;refine C.cmp rfl (λys=>?_) (λys=>?_)
    ·refine dH ?_;refine C.dv (E2 (m:=m) hI hb) ?_;rintro v aN ⟨I',s',hS,rC,ha,rfl⟩;refine k6 ?_;exact C.cX aJ aj ⟨I',s',hS,rC,by rw[ha];unfold jl;rw[ao h7,ao oy,ao wv,aK ys],rfl⟩
    ·refine cW ?_;refine C.cmp rfl (λts=>?_) (λts=>?_)
     ·refine dH ?_;refine C.dv (On (m:=m) hI hb) ?_;rintro v aN ⟨I',s',hS,rC,ha,rfl⟩;refine k6 ?_;exact C.cX aJ aj ⟨I',s',hS,rC,by rw[ha];unfold jl;rw[ao h7,ao oy,ao wv,ao ys,aK ts],rfl⟩
     ·refine cW ?_;refine C.cmp rfl (λPy=>?_) (λPy=>?_)
      ·refine dH ?_;refine C.dv (Om (m:=m) hI hb) ?_;rintro v aN ⟨I',s',hS,rC,ha,rfl⟩;refine k6 ?_;exact C.cX aJ aj ⟨I',s',hS,rC,by rw[ha];unfold jl;rw[ao h7,ao oy,ao wv,ao ys,ao ts,aK Py],rfl⟩
      ·refine dN ?_;exact C.cX aJ aj ⟨I,s,Sub.refl _,hI,by unfold jl;rw[ao h7,ao oy,ao wv,ao ys,ao ts,ao Py],rfl⟩
theorem KA{b:Nat}{s:eS}(hb:Kv s):
  aD prog ak bQ 116 #[.pointer (some ⟨b,0,none⟩)] [cY b s] (λv As=>As=[cY b {s with aX:=s.log.length,out:=s.out++s.waits,waits:=[]}]):=by
 refine aD.of λR C kd d F c cs aJ aj=>?_;refine bM ?_;have ks:=hb.log;have iW:=hb.out;have BU:=hb.waits;refine cY.opn (h:=λlg vl lk un tm wt ot=>?_);refine ow ?_;refine C.dx (cG 10 0 12) 13 [9,12] 0 ?_;refine JJ ?_;refine Ch.m 9 (aW λe aa hk=>?_);refine C.Dw (f:=bN) (s:=ot) (l:=s.out) s.waits rfl (λs'=>?_) (hsrc:=λH st=>dt.src (f:=bN) (el:=137) (.own Fo.au) st (λ_=>rfl));refine hk _ _ ?_;refine Ch.m 12 (aW λe aa hk=>?_);refine C.st rfl (hk _ undef ?_);refine Ns ?_;refine At.aG bN 7 137 ?_;refine cY.cls {s with aX:=s.log.length,out:=s.out++s.waits,waits:=[]} ?_ (wt:=aG);exact C.cX aJ aj rfl
def gH(s:eS)(k:Int):Int:=s.aX+(if(if k<0 then 0 else k)<(s.log.length:Int)-s.aX then(if k<0 then 0 else k)else(s.log.length:Int)-s.aX)
theorem Ri{s:eS}(hb:Kv s)(k:Int):0<=gH s k/\gH s k<=s.log.length:=by have:=hb.aX;unfold gH;constructor<;>split<;>split<;>omega
theorem KB(s:eS)(k:Int):({s with up:=false,aX:=gH s k,log:=s.log.take (gH s k).toNat,bD:=gX,aH:=[],under:=[],timers:=[],waits:=[],clock:=0}:eS).abs=oM s.abs k:=by simp[oM,eL,eS.abs,gH,C3]
theorem Oq{α:Type}{f:α->List Value}{z:Nat}{el:aQ}{s:ay}{l:List α}(h:HL)(x:a9 f z el s l h):s.len=l.length/\l.length<=s.cap:=by
 rcases x with⟨rfl,rfl⟩|⟨b,pad,e,_,h2,_⟩
 ·exact⟨rfl,gZ _⟩
 ·exact⟨congrArg ay.len e,h2⟩
theorem Hc{b:Nat}{s:eS}{k:Int}(hb:Kv s):
  aD prog ak bQ 118 #[.pointer (some ⟨b,0,none⟩),aI k] [cY b s] (λv As=>As=[cY b {s with up:=false,aX:=gH s k,log:=s.log.take (gH s k).toNat,bD:=gX,aH:=[],under:=[],timers:=[],waits:=[],clock:=0}]):=by
 refine aD.of λR C kd d F c cs aJ aj=>?_;refine bM ?_;have ks:=hb.log;have Wl:=hb.aX;refine cY.opn (h:=λlg vl lk un tm wt ot=>?_);refine At.xr (A:=a9 recC 6 247 lg s.log) Fo.au Oq λ⟨CL,S7⟩=>?_;have xm:=Ri hb k;refine dV ?_;refine C.dx (cG 8 0 10++[(4,10)]) 11 [] 0 ?_;refine JJ ?_;refine eQ ?_;apply MT True [(0,.pointer (some ⟨b,0,none⟩)),(4,aI (gH s k-s.aX))] (y9 b {s with up:=false} lg vl lk un tm wt ot F) (R:=R) (d:=d) (fn:=118) (kd:=kd) (n:=47) (ds:=[]) (cs:=c::cs)
 ·intro qv;refine bJ ?_;refine C.cmp rfl (λyG=>?_) (λyG=>?_)
  ·refine kE ?_;refine C.cmp rfl (λys=>?_) (λys=>?_)
   ·refine dH ?_;have e1:gH s k-s.aX=0:=by unfold gH;rw[aK yG,aK ys];omega
    rw[e1]at qv;exact join qv trivial
   ·refine bJ ?_;have e1:gH s k-s.aX=(s.log.length:Int)-s.aX:=by unfold gH;rw[aK yG,ao ys];omega
    rw[e1]at qv;exact join qv trivial
  ·refine dD ?_;refine C.cmp rfl (λys=>?_) (λys=>?_)
   ·refine dH ?_;have e1:gH s k-s.aX=k:=by unfold gH;rw[ao yG,aK ys];omega
    rw[e1]at qv;exact join qv trivial
   ·refine bJ ?_;have e1:gH s k-s.aX=(s.log.length:Int)-s.aX:=by unfold gH;rw[ao yG,ao ys];omega
    rw[e1]at qv;exact join qv trivial
 ·rintro - e;refine dV ?_;refine C.ar rfl ?_ (r:=gH s k) (ha:=congrArg some (show s.aX+(gH s k-s.aX)=gH s k by omega));refine cW ?_;refine C.dx (cG 33 0 12) 13 [12] 0 ?_;refine Qq ?_;refine Dr.p (λh=>C.TW rfl h (hi:=gH s k) (hh:=⟨az,az⟩)) ?_;refine wm ?_;refine Ch.m 12 (aW λe aa hk=>?_);refine C.st rfl (hk _ undef ?_);refine eQ ?_;refine At.turn (A:=a9 recC 6 247 lg s.log) Fo.au (BE (n:=(gH s k).toNat) az) ?_;refine cY.cls {s with up:=false,aX:=gH s k,log:=s.log.take (gH s k).toNat} ?_ (lg:=⟨lg.a,(gH s k).toNat,lg.cap⟩);refine bJ ?_;refine C.dv (qx (s:={s with up:=false,aX:=gH s k,log:=s.log.take (gH s k).toNat})) ?_;rintro v aN rfl;refine k6 ?_;exact C.cX aJ aj rfl
theorem oY{b:Nat}{me:Int}{v1 v2 v3 v4 v5 v6 v7 v8 v9 v10:Value}{ot:ay}{l:List cm}{m:cm}(hl:l.length<2^34):
  aD prog ak bQ 192 #[.pointer (some ⟨b,0,none⟩),.agg #[aI m.kind,aI m.aU,aI m.to,aI m.tx,.bool m.yes,m.so.v,m.sr.v]]
   [bR b (.cells #[aI me,v1,v2,v3,v4,v5,v6,v7,v8,v9,v10,ot.v] 61 (0,0)),a9 bN 7 137 ot l]
  (λv As=>∃ ot':ay,As=[bR b (.cells #[aI me,v1,v2,v3,v4,v5,v6,v7,v8,v9,v10,ot'.v] 61 (0,0)),a9 bN 7 137 ot' (l++[{m with aU:=me}])]):=by
 refine aD.of λR C kd d F c cs aJ aj=>?_;refine jK ?_;refine C.bx rfl (λb3=>?_);refine kL ?_;refine C.dx (cG 9 0 10) 11 [6,7,10] 1 ?_;refine Lq ?_;refine Ch.m 6 (aW λe aa hk=>?_);refine C.nj rfl (λZJ=>hk _ _ .cons ?_);refine Ch.m 7 (aW λe aa hk=>?_);refine C.nM {m with aU:=me} rfl (λs'=>?_);refine hk _ _ ?_;refine Ch.m 10 (aW λe aa hk=>?_);refine C.st rfl (hk _ undef ?_);refine eQ ?_;exact C.cX aJ aj ⟨s',rfl⟩
def jj(n:Int)(u:gM)(tx:Int)(aX:Bool)(z:ShR)(k:Int):ShR:=
 if(aV u.ops k n).isEmpty then z else
  if !u.dec&& !(bK u k).isSome then cu z {bj with kind:=2,to:=k,tx:=tx,ops:=aV u.ops k n}
  else if u.dec&&aX&& !u.bG.contains k then cu z {bj with kind:=4,to:=k,tx:=tx,yes:=u.yes}else z
theorem nu{n:Int}{u:gM}{tx:Int}{g:Bool}{z:ShR}{k:Int}(h:(aV u.ops k n).isEmpty=true):jj n u tx g z k=z:=by unfold jj;rw[aK h]
theorem AV{n:Int}{u:gM}{tx:Int}{g:Bool}{z:ShR}{k:Int}(h:¬ (aV u.ops k n).isEmpty=true)(hd:u.dec=false)(hv:(bK u k).isSome=false):jj n u tx g z k=cu z {bj with kind:=2,to:=k,tx:=tx,ops:=aV u.ops k n}:=by unfold jj;rw[ao h,hd,hv];rfl
theorem AW{n:Int}{u:gM}{tx:Int}{g:Bool}{z:ShR}{k:Int}(h:¬ (aV u.ops k n).isEmpty=true)(hd:u.dec=true)(hg:g=true)(hc:u.bG.contains k=false):jj n u tx g z k=cu z {bj with kind:=4,to:=k,tx:=tx,yes:=u.yes}:=by unfold jj;rw[ao h,hd,hg,hc];rfl
theorem jS{n:Int}{u:gM}{tx:Int}{g:Bool}{z:ShR}{k:Int}(h:¬ (aV u.ops k n).isEmpty=true)(h1:(!u.dec&& !(bK u k).isSome)=false)(h2:(u.dec&&g&& !u.bG.contains k)=false):jj n u tx g z k=z:=by unfold jj;rw[ao h,h1,h2];rfl
theorem yO{s:ShR}{t:dM}{i:Nat}{u:gM}{fd:Int}(ha:t.again=true)(h1:cH s.under t.tx=some i)(h2:s.under[i]? =some u)(hf:sX (bB s.log 2 t.tx)=fd):
  kS s t={fV s u.ops (λz k p=>
     if !u.dec&& !(bK u k).isSome then cu z {bj with kind:=2,to:=k,tx:=t.tx,ops:=p}
     else if u.dec&&decide (fd<s.aX)&& !u.bG.contains k then cu z {bj with kind:=4,to:=k,tx:=t.tx,yes:=u.yes}
     else z)with timers:=(fV s u.ops (λz k p=>
     if !u.dec&& !(bK u k).isSome then cu z {bj with kind:=2,to:=k,tx:=t.tx,ops:=p}
     else if u.dec&&decide (fd<s.aX)&& !u.bG.contains k then cu z {bj with kind:=4,to:=k,tx:=t.tx,yes:=u.yes}
     else z)).timers++[⟨(fV s u.ops (λz k p=>
     if !u.dec&& !(bK u k).isSome then cu z {bj with kind:=2,to:=k,tx:=t.tx,ops:=p}
     else if u.dec&&decide (fd<s.aX)&& !u.bG.contains k then cu z {bj with kind:=4,to:=k,tx:=t.tx,yes:=u.yes}
     else z)).clock+4,true,t.tx⟩]}:=by
 subst hf;unfold kS;rw[ha];simp only[h1,h2];cases bB s.log 2 t.tx<;>rfl
theorem Ot{I:HL}{b:Nat}{s:eS}{t:dM}(hI:uv I s)(hb:Kv s):
  aD prog ak bQ 164 #[.pointer (some ⟨b,0,none⟩),.agg #[aI t.tm,.bool t.again,aI t.tx]] [cY b s,a7 I] (rZ b I (kS s.abs t)):=by
 refine aD.of λR C kd d F c cs aJ aj=>?_;refine bM ?_;have hn:=hb.n;have ks:=hb.log;have iW:=hb.out;have Gz:=hb.under;have Po:=hb.timers;have tL:=hb.clock;have Wl:=hb.aX;refine bJ ?_;refine C.bx rfl (λb3=>?_);refine dH ?_;refine C.xA (λuy=>?_) (λuy=>?_)
 ·refine dD ?_;refine C.cE (oQ (s:=s) az) ?_;refine rS ?_;refine C.cmp rfl (λrW=>?_) (λrW=>?_)
  ·refine bJ ?_;obtain⟨r,hr⟩:=jP rW;have Bh:=yJ hr;simp only[hr,sX];refine cY.opn (h:=λlg vl lk un tm wt ot=>?_);refine C.dx (cG 22 0 13) 13 [12] 0 ?_;refine Qv ?_;refine Ch.m 12 (aW λe aa hk=>?_);refine cY.cls s ?_;refine C.dv (jR (s:=s) (m:=⟨{bj with kind:=6,to:=s.log[r].home,tx:=t.tx},aG,aG⟩) az) ?_;rintro v aN rfl;refine bM ?_;refine hk _ _ ?_;refine eQ ?_;refine cY.opn (h:=λlg vl lk un tm wt ot=>?_);dsimp only[y9];refine C.dx (cG 35 0 17) 18 [13,14,17] 1 ?_;refine Qq ?_;refine Dr.p (λh=>C.ar rfl h (hr:=xp az az)) ?_;refine Nt ?_;refine Ch.m 13 (aW λe aa hk=>?_);refine C.nj rfl (λb48=>hk _ _ .cons ?_);refine Ch.m 14 (aW λe aa hk=>?_);refine C.nM (dM.mk (s.clock+3) false t.tx) rfl (λs5=>?_);refine hk _ _ ?_;refine Ch.m 17 (aW λe aa hk=>?_);refine C.st rfl (hk _ undef ?_);refine eQ ?_;refine cY.cls {s with out:=s.out++[⟨{bj with kind:=6,aU:=s.me,to:=s.log[r].home,tx:=t.tx},aG,aG⟩],timers:=s.timers++[⟨s.clock+3,false,t.tx⟩]} ?_;refine C.bk aJ aj ⟨I,{s with out:=s.out++[⟨{bj with kind:=6,aU:=s.me,to:=s.log[r].home,tx:=t.tx},aG,aG⟩],timers:=s.timers++[⟨s.clock+3,false,t.tx⟩]},Sub.refl _,⟨hI.log,hI.cg,hI.waits,(hI.vf (m:=⟨{bj with kind:=6,aU:=s.me,to:=s.log[r].home,tx:=t.tx},aG,aG⟩) ⟨.nil ..,.nil ..⟩).out⟩,?_,rfl⟩;have ha:t.again=false:=by simpa using uy
   unfold kS;rw[ha];simp only[hr,Bg,eM];rw[gG Bh];simp[cu,eS.abs]
  ·refine bJ ?_;refine C.bk aJ aj ⟨I,s,Sub.refl _,hI,?_,rfl⟩;have ha:t.again=false:=by simpa using uy
   unfold kS;rw[ha];simp[kz rW]
 ·refine C.go ?_;have hag:t.again=true:=by simpa using uy
  refine cW ?_;refine C.cE (mP (s:=s) az) ?_;refine rS ?_;refine C.cmp rfl (λOj=>?_) (λOj=>?_)
  ·refine bJ ?_;refine C.bk aJ aj ⟨I,s,Sub.refl _,hI,?_,rfl⟩;unfold kS;rw[hag];simp[sZ Oj]
  ·refine bJ ?_;obtain⟨i,hu⟩:∃ i,cH s.abs.under t.tx=some i:=jP az;obtain⟨hi,FK⟩:=yK hu;have FR:=hb.yp _ (br hi);have Wz:=FR.2.1;have SQ:=FR.2.2;have hul:=FR.1.2;have S8:=hI.cg _ (br hi);simp only[hu,sX];refine cY.opn (h:=λlg vl lk un tm wt ot=>?_);refine dV ?_;refine C.Dv hi rfl ?_ (s:=un) (f:=pG);refine C.al rfl (λb6=>?_);refine C.pd rfl ?_ (hv:=λv hv=>fC.one s.under[i] v (by simpa using hv));refine C.go ?_;refine At.turn (A:=bR b6 (.cells (wr #[aI 0,.slice none 0 0,.slice none 0 0,.bool false,.bool false,.slice none 0 0] 0 (pG s.under[i])) 287 (0,0))) Fo.au (A':=bR b6 (.cells #[aI s.under[i].tx,s.under[i].so.v,s.under[i].sv.v,.bool s.under[i].dec,.bool s.under[i].yes,s.under[i].sa.v] 287 (0,0))) (λ_ h=>h) ?_;refine cY.cls s ?_;refine cW ?_;refine C.cE (find_spec (s:=s) az) ?_;refine jK ?_;have hfb:sX (bB s.abs.log 2 t.tx)<2^31:=by
    cases hf:bB s.abs.log 2 t.tx with
    |none=>decide
    |some d=>have:=wV hf;show(d:Int)<_;omega
   generalize hfd:sX (bB s.abs.log 2 t.tx)=fd at hfb;refine cY.opn (h:=λlg vl lk un tm wt ot=>?_);refine B8 hi Fo.au ?_;obtain⟨u,wW⟩:∃ u,u=s.under[i]:=⟨_,rfl⟩;rw[<- wW]at S8 SQ hul Wz FR⊢;refine dN ?_;refine C.cx (X:=Nat×HL×ay×List cm) (λx=>[(0,.pointer (some ⟨b,0,none⟩)),(3,.pointer (some ⟨b3,0,none⟩)),(6,.pointer (some ⟨b6,0,none⟩)),(7,aI fd),(8,aI x.1)]) (λx=>bR b6 (.cells #[aI u.tx,u.so.v,u.sv.v,.bool u.dec,.bool u.yes,u.sa.v] 287 (0,0))::bR b3 (.cells #[aI t.tm,.bool t.again,aI t.tx] 251 (0,0))::IK b {s with out:=x.2.2.2} lg vl lk un tm wt x.2.2.1 s.under i u (a7 x.2.1::F))
    (λx=>(x.1:Int)<=s.n/\x.2.2.2.length<=s.out.length+x.1/\Sub I x.2.1/\(∀ w∈x.2.2.2,sQ x.2.1 w)/\({s with out:=x.2.2.2}:eS).abs=((upto s.n).take x.1).foldl (jj s.n u.abs t.tx (decide (fd<s.aX))) s.abs) (λx=>(s.n-x.1).toNat) (0,I,ot,s.out) ⟨rfl,rfl,rfl,rfl,rfl,trivial⟩ ⟨dI,gZ _,Sub.refl _,hI.out,rfl⟩ ?_
   rintro⟨k,I1,FT,W⟩ e ⟨hk,hW,qE,yN,fZ⟩ ih;dsimp only at hk hW qE yN fZ⊢;refine dV ?_;refine C.cmp rfl (λYx=>?_) (λYx=>?_)
   ·refine bJ ?_;refine C.dx (cG 77 0 8++[(9,8)]) 9 [7,8] 0 ?_;refine Qu ?_;refine Ch.m 7 (aW λe aa hk=>?_);have NR:(k:Int)<s.n:=Yx;refine C.dv (vi (k:=k) (n:=s.n) (S8.o.mono qE) FR.1.1 az az) ?_;rintro v aN ⟨s2,rfl,rfl⟩;refine bM ?_;refine hk _ _ ?_;refine Ch.q 8 (λh=>C.kH rfl h) ?_;refine Qs ?_;refine C.cE (mQ (l:=u.aR) (k:=(k:Int)) az) ?_;refine bM ?_;obtain⟨fr,sr,e1, -⟩:=kA S8 k;rw[e1];generalize Lv:(bK u.abs k).isSome=z;rcases g6 z with rfl|rfl
    ·refine dN ?_;refine C.al rfl (λUC=>?_);refine dV ?_;refine C.cE (oP (s:=u.sa) (l:=u.bG) (x:=k) az) ?_;refine bM ?_;generalize Rf:u.bG.contains (k:Int)=z;rcases g6 z with rfl|rfl
     ·refine dD ?_;refine C.cmp rfl (λHd=>?_) (λHd=>?_)
      ·refine dV ?_;refine again ih (k+1,I1,FT,W) ⟨dI,dI,qE,yN,?_⟩ (dI);rw[cQ az,gm,<- fZ];exact(nu (by rw[rI];exact zh.1 (show(aV u.ops k s.n).length=0 by omega))).symm
      ·refine bJ ?_;have eI:¬ (aV u.abs.ops k s.n).isEmpty=true:=λh=>Hd (by rw[rI]at h;show((aV u.abs.ops k s.n).length:Int)=0;rw[h];rfl);refine dN ?_;generalize rD:u.dec=z;rcases g6 z with rfl|rfl
       ·refine jr ?_;refine fI ?_;refine C.cmp rfl (λvw=>?_) (λvw=>?_)
        ·refine ow ?_;refine again ih (k+1,I1,FT,W) ⟨dI,dI,qE,yN,?_⟩ (dI) (hr:=by rw[rD];exact bZ.au);rw[cQ az,gm,<- fZ];exact(jS eI (by rw[show u.abs.dec=true from rD];rfl) (by rw[show u.abs.bG.contains (k:Int)=true from Rf];simp)).symm
        ·refine ow ?_;refine again ih (k+1,I1,FT,W) ⟨dI,dI,qE,yN,?_⟩ (dI) (hr:=by rw[rD];exact bZ.au);rw[cQ az,gm,<- fZ];exact(jS eI (by rw[show u.abs.dec=true from rD];rfl) (by rw[jy (show¬ fd<s.aX from vw)];simp)).symm
       ·refine jr ?_;refine nO ?_;refine again ih (k+1,I1,FT,W) ⟨dI,dI,qE,yN,?_⟩ (dI) (hr:=by rw[rD];exact bZ.au);rw[cQ az,gm,<- fZ];exact(jS eI (by rw[Lv];simp) (by rw[show u.abs.dec=false from rD];rfl)).symm
     ·refine dD ?_;refine C.cmp rfl (λHd=>?_) (λHd=>?_)
      ·refine dV ?_;refine again ih (k+1,I1,FT,W) ⟨dI,dI,qE,yN,?_⟩ (dI);rw[cQ az,gm,<- fZ];exact(nu (by rw[rI];exact zh.1 (show(aV u.ops k s.n).length=0 by omega))).symm
      ·refine bJ ?_;have eI:¬ (aV u.abs.ops k s.n).isEmpty=true:=λh=>Hd (by rw[rI]at h;show((aV u.abs.ops k s.n).length:Int)=0;rw[h];rfl);refine dN ?_;generalize rD:u.dec=z;rcases g6 z with rfl|rfl
       ·refine jr ?_;refine fI ?_;refine C.cmp rfl (λvw=>?_) (λvw=>?_)
        ·refine jr ?_;refine C.dv (oY (ot:=FT) (l:=W) (m:=⟨{bj with kind:=4,to:=k,tx:=t.tx,yes:=u.yes},aG,aG⟩) az) ?_;rintro v aN ⟨Vg,rfl⟩;refine JG ?_;refine again ih (k+1,I1,Vg,W++[⟨{bj with kind:=4,aU:=s.me,to:=k,tx:=t.tx,yes:=u.yes},aG,aG⟩]) ⟨dI,by simp;omega,qE,λw hw=>?_,?_⟩ (dI) (hr:=by rw[rD];exact bZ.au)
         ·rcases bU.1 hw with hw|hw
          ·exact yN w hw
          ·obtain rfl:=dF.1 hw;exact⟨.nil ..,.nil ..⟩
         ·rw[cQ az,gm,<- fZ];refine xa ?_ (AW eI rD (tF vw) Rf).symm;simp[cu,eS.abs,fP.abs]
        ·refine ow ?_;refine again ih (k+1,I1,FT,W) ⟨dI,dI,qE,yN,?_⟩ (dI) (hr:=by rw[rD];exact bZ.au);rw[cQ az,gm,<- fZ];exact(jS eI (by rw[show u.abs.dec=true from rD];rfl) (by rw[jy (show¬ fd<s.aX from vw)];simp)).symm
       ·refine jr ?_;refine nO ?_;refine again ih (k+1,I1,FT,W) ⟨dI,dI,qE,yN,?_⟩ (dI) (hr:=by rw[rD];exact bZ.au);rw[cQ az,gm,<- fZ];exact(jS eI (by rw[Lv];simp) (by rw[show u.abs.dec=false from rD];rfl)).symm
    ·refine dN ?_;refine C.al rfl (λUC=>?_);refine dV ?_;refine C.cE (oP (s:=u.sa) (l:=u.bG) (x:=k) az) ?_;refine bM ?_;generalize Rf:u.bG.contains (k:Int)=z;rcases g6 z with rfl|rfl
     ·refine dD ?_;refine C.cmp rfl (λHd=>?_) (λHd=>?_)
      ·refine dV ?_;refine again ih (k+1,I1,FT,W) ⟨dI,dI,qE,yN,?_⟩ (dI);rw[cQ az,gm,<- fZ];exact(nu (by rw[rI];exact zh.1 (show(aV u.ops k s.n).length=0 by omega))).symm
      ·refine bJ ?_;have eI:¬ (aV u.abs.ops k s.n).isEmpty=true:=λh=>Hd (by rw[rI]at h;show((aV u.abs.ops k s.n).length:Int)=0;rw[h];rfl);refine dN ?_;generalize rD:u.dec=z;rcases g6 z with rfl|rfl
       ·refine jr ?_;refine fI ?_;refine C.cmp rfl (λvw=>?_) (λvw=>?_)
        ·refine ow ?_;refine again ih (k+1,I1,FT,W) ⟨dI,dI,qE,yN,?_⟩ (dI) (hr:=by rw[rD];exact bZ.au);rw[cQ az,gm,<- fZ];exact(jS eI (by rw[show u.abs.dec=true from rD];rfl) (by rw[show u.abs.bG.contains (k:Int)=true from Rf];simp)).symm
        ·refine ow ?_;refine again ih (k+1,I1,FT,W) ⟨dI,dI,qE,yN,?_⟩ (dI) (hr:=by rw[rD];exact bZ.au);rw[cQ az,gm,<- fZ];exact(jS eI (by rw[show u.abs.dec=true from rD];rfl) (by rw[jy (show¬ fd<s.aX from vw)];simp)).symm
       ·refine nO ?_;refine At.Gk (s:=s2) (f:=fX) Fo.au Fo.au λI2 jO zl=>?_;refine C.dv (oY (ot:=FT) (l:=W) (m:=⟨{bj with kind:=2,to:=k,tx:=t.tx,ops:=aV u.ops k s.n},s2,aG⟩) az) ?_;rintro v aN ⟨Vg,rfl⟩;refine bM ?_;refine jr ?_;refine kE ?_;refine again ih (k+1,I2,Vg,W++[⟨{bj with kind:=2,aU:=s.me,to:=k,tx:=t.tx,ops:=aV u.ops k s.n},s2,aG⟩]) ⟨dI,by simp;omega,qE.trans jO,λw hw=>?_,?_⟩ (dI) (hr:=by rw[rD];exact bZ.au)
        ·rcases bU.1 hw with hw|hw
         ·exact(yN w hw).mono jO
         ·obtain rfl:=dF.1 hw;exact⟨zl,.nil ..⟩
        ·rw[cQ az,gm,<- fZ];refine xa ?_ (AV eI rD Lv).symm;simp[cu,eS.abs,fP.abs]
     ·refine dD ?_;refine C.cmp rfl (λHd=>?_) (λHd=>?_)
      ·refine dV ?_;refine again ih (k+1,I1,FT,W) ⟨dI,dI,qE,yN,?_⟩ (dI);rw[cQ az,gm,<- fZ];exact(nu (by rw[rI];exact zh.1 (show(aV u.ops k s.n).length=0 by omega))).symm
      ·refine bJ ?_;have eI:¬ (aV u.abs.ops k s.n).isEmpty=true:=λh=>Hd (by rw[rI]at h;show((aV u.abs.ops k s.n).length:Int)=0;rw[h];rfl);refine dN ?_;generalize rD:u.dec=z;rcases g6 z with rfl|rfl
       ·refine jr ?_;refine fI ?_;refine C.cmp rfl (λvw=>?_) (λvw=>?_)
        ·refine jr ?_;refine C.dv (oY (ot:=FT) (l:=W) (m:=⟨{bj with kind:=4,to:=k,tx:=t.tx,yes:=u.yes},aG,aG⟩) az) ?_;rintro v aN ⟨Vg,rfl⟩;refine JG ?_;refine again ih (k+1,I1,Vg,W++[⟨{bj with kind:=4,aU:=s.me,to:=k,tx:=t.tx,yes:=u.yes},aG,aG⟩]) ⟨dI,by simp;omega,qE,λw hw=>?_,?_⟩ (dI) (hr:=by rw[rD];exact bZ.au)
         ·rcases bU.1 hw with hw|hw
          ·exact yN w hw
          ·obtain rfl:=dF.1 hw;exact⟨.nil ..,.nil ..⟩
         ·rw[cQ az,gm,<- fZ];refine xa ?_ (AW eI rD (tF vw) Rf).symm;simp[cu,eS.abs,fP.abs]
        ·refine ow ?_;refine again ih (k+1,I1,FT,W) ⟨dI,dI,qE,yN,?_⟩ (dI) (hr:=by rw[rD];exact bZ.au);rw[cQ az,gm,<- fZ];exact(jS eI (by rw[show u.abs.dec=true from rD];rfl) (by rw[jy (show¬ fd<s.aX from vw)];simp)).symm
       ·refine nO ?_;refine At.Gk (s:=s2) (f:=fX) Fo.au Fo.au λI2 jO zl=>?_;refine C.dv (oY (ot:=FT) (l:=W) (m:=⟨{bj with kind:=2,to:=k,tx:=t.tx,ops:=aV u.ops k s.n},s2,aG⟩) az) ?_;rintro v aN ⟨Vg,rfl⟩;refine bM ?_;refine jr ?_;refine kE ?_;refine again ih (k+1,I2,Vg,W++[⟨{bj with kind:=2,aU:=s.me,to:=k,tx:=t.tx,ops:=aV u.ops k s.n},s2,aG⟩]) ⟨dI,by simp;omega,qE.trans jO,λw hw=>?_,?_⟩ (dI) (hr:=by rw[rD];exact bZ.au)
        ·rcases bU.1 hw with hw|hw
         ·exact(yN w hw).mono jO
         ·obtain rfl:=dF.1 hw;exact⟨zl,.nil ..⟩
        ·rw[cQ az,gm,<- fZ];refine xa ?_ (AV eI rD Lv).symm;simp[cu,eS.abs,fP.abs]
   ·refine bJ ?_;have NR:¬ (k:Int)<s.n:=Yx;rw[oA az]at fZ;dsimp only[IK];refine C.dx (cG 134 0 17) 18 [13,14,17] 1 ?_;refine Qq ?_;refine Dr.p (λh=>C.ar rfl h (hr:=xp az az)) ?_;refine Nt ?_;refine Ch.m 13 (aW λe aa hk=>?_);refine C.nj rfl (λafM=>hk _ _ .cons ?_);refine Ch.m 14 (aW λe aa hk=>?_);refine C.nM (dM.mk (s.clock+4) true t.tx) rfl (λs5=>?_);refine hk _ _ ?_;refine Ch.m 17 (aW λe aa hk=>?_);refine C.st rfl (hk _ undef ?_);refine eQ ?_;refine B9 (us:=s.under) hi u dB.au ?_;rw[wW,lO];refine cY.cls {s with out:=W,timers:=s.timers++[⟨s.clock+4,true,t.tx⟩]} ?_;refine C.cX aJ aj ⟨I1,{s with out:=W,timers:=s.timers++[⟨s.clock+4,true,t.tx⟩]},qE,⟨λx hx=>(hI.log x hx).mono qE,λx hx=>(hI.cg x hx).mono qE,λx hx=>(hI.waits x hx).mono qE,yN⟩,?_,rfl⟩;have e1:fV s.abs u.abs.ops (λz k p=>
      if !u.abs.dec&& !(bK u.abs k).isSome then cu z {bj with kind:=2,to:=k,tx:=t.tx,ops:=p}
      else if u.abs.dec&&decide (fd<s.aX)&& !u.abs.bG.contains k then cu z {bj with kind:=4,to:=k,tx:=t.tx,yes:=u.abs.yes}
      else z)=({s with out:=W}:eS).abs:=fZ.symm
    rw[<- wW]at FK;rw[yO hag hu FK hfd,show s.abs.aX=s.aX from rfl,e1];rfl
structure Ou(s:ShR):Prop where
 n:0<s.n/\s.n<=4
 log:s.log.length<2^30
 sO:∀ r∈s.log,jf r.ops
 aX:0<=s.aX/\s.aX<=s.log.length
 bD:s.bD.length=26
 aH:s.aH.length<2^30
 under:s.under.length<2^30
 yp:∀ u∈s.under,jf u.ops/\u.aR.length<2^30/\u.bG.length<2^42
 timers:s.timers.length<2^30
 waits:s.waits.length<2^30
 out:s.out.length<2^30
 clock:0<=s.clock/\s.clock<2^60
theorem Ou.v{s:eS}(h:Ou s.abs):Kv s:=
 ⟨h.n,by have:=h.log;simpa[eS.abs]using this,λr hr=>h.sO r.toRecR (bH.2 ⟨r,hr,rfl⟩),by have:=h.aX;simpa[eS.abs]using this,h.bD,h.aH,by have:=h.under;simpa[eS.abs]using this,
  λu hu=>by have:=h.yp u.abs (bH.2 ⟨u,hu,rfl⟩);simpa[fP.abs]using this,h.timers,by have:=h.waits;simpa[eS.abs]using this,by have:=h.out;simpa[eS.abs]using this,h.clock⟩
theorem IM{n:Int}{u:gM}{tx:Int}{g:Bool}:∀ (l:List Int) (z:ShR),∃ o,l.foldl (jj n u tx g) z={z with out:=z.out++o}/\o.length<=l.length
 |[],z=>⟨[],by simp,gZ _⟩
 |k::l,z=>by
  have h1:∃ o,jj n u tx g z k={z with out:=z.out++o}/\o.length<=1:=by
   unfold jj;split
   ·exact⟨[],by simp,by simp⟩
   ·split
    ·exact⟨[_],rfl,gZ _⟩
    ·split
     ·exact⟨[_],rfl,gZ _⟩
     ·exact⟨[],by simp,by simp⟩
  obtain⟨o,e,h⟩:=h1;obtain⟨o2,e2,h2⟩:=IM l (jj n u tx g z k);refine⟨o++o2,?_,by simp;omega⟩;rw[kM,e2,e];simp
theorem yP(r:ShR)(t:dM):∃ o tl,kS r t={r with out:=r.out++o,timers:=r.timers++tl}/\o.length<=r.n.toNat+1/\tl.length<=1/\∀ x∈tl,r.clock<x.tm:=by
 cases ha:t.again with
 |false=>
  unfold kS;rw[ha];simp only[Bg,eM];cases bF r.log t.tx with
  |none=>exact⟨[],[],by simp,by simp,by simp,by simp⟩
  |some q=>exact⟨[_],[_],rfl,by simp,by simp,λx hx=>by obtain rfl:=dF.1 hx;show r.clock<r.clock+3;omega⟩
 |true=>
  cases hu:cH r.under t.tx with
  |none=>exact⟨[],[],by unfold kS;rw[ha];simp[hu],by simp,by simp,by simp⟩
  |some i=>
   cases FK:r.under[i]? with
   |none=>exact⟨[],[],by unfold kS;rw[ha];simp[hu,FK],by simp,by simp,by simp⟩
   |some u=>
    rw[yO ha hu FK rfl];obtain⟨o,e,h⟩:=IM (n:=r.n) (u:=u) (tx:=t.tx) (g:=decide (sX (bB r.log 2 t.tx)<r.aX)) (upto r.n) r;have e1:fV r u.ops (λz k p=>
     if !u.dec&& !(bK u k).isSome then cu z {bj with kind:=2,to:=k,tx:=t.tx,ops:=p}
     else if u.dec&&decide (sX (bB r.log 2 t.tx)<r.aX)&& !u.bG.contains k then cu z {bj with kind:=4,to:=k,tx:=t.tx,yes:=u.yes}
     else z)={r with out:=r.out++o}:=e
    rw[e1];exact⟨o,[_],rfl,(by have h9:(upto r.n).length=r.n.toNat:=(by simp[upto]);omega),by simp,λx hx=>by obtain rfl:=dF.1 hx;show r.clock<r.clock+4;omega⟩
theorem vx{c:Int}{L:List dM}:∀ (l:List dM) (i:Nat) (acc:Option (Nat×dM)),(∀ p,acc=some p->L[p.1]? =some p.2/\p.2.tm<=c)->L.drop i=l->∀ p,jD c l i acc=some p->L[p.1]? =some p.2/\p.2.tm<=c
 |[],i,acc,h,_,p,hp=>h p hp
 |t::l,i,acc,h,hl,p,hp=>by
  unfold jD at hp;have hi:L[i]? =some t:=by have h0:(L.drop i)[0]? =L[i]? :=(by simp);rw[hl]at h0;exact h0.symm
  refine vx l (i+1) _ (λq hq=>?_) ?_ p hp
  ·cases acc with
   |none=>
    simp only[Bool.and_true,o4]at hq;split at hq
    ·rename_i hc;cases hq;exact⟨hi,hc⟩
    ·cases hq
   |some w=>
    simp only[lN,o4]at hq;split at hq
    ·rename_i hc;cases hq;exact⟨hi,hc.1⟩
    ·exact h q hq
  ·rw[<- LM,hl];rfl
theorem E4{r:ShR}{k:Nat}{t:dM}(hk:r.timers[k]? =some t)(ht:t.tm<=r.clock):rm (kS {r with timers:=r.timers.eraseIdx k} t)+1=rm r:=by
 obtain⟨o,tl,e, -, -,h⟩:=yP {r with timers:=r.timers.eraseIdx k} t;rw[e];unfold rm;dsimp only;have h0:tl.filter (λt=>decide (t.tm<=r.clock))=[]:=List.filter_eq_nil_iff.2 λx hx=>by have h1:r.clock<x.tm:=h x hx;simp;omega
 rw[ml,h0,k8];obtain⟨xW,rfl⟩:=jk.1 hk;have hp:=(oh xW).filter (λt=>decide (t.tm<=r.clock));rw[hp.length_eq,tD,aK (by simpa using ht)];rfl
structure qF(r:ShR):Prop where
 b:Ou r
 o:r.out.length+5*rm r<2^30
theorem qF.off{r:ShR}{k:Nat}{t:dM}(h:qF r)(hk:r.timers[k]? =some t)(ht:t.tm<=r.clock):qF (kS {r with timers:=r.timers.eraseIdx k} t):=by
 have h1:=E4 hk ht;have h2:=h.o;have h3:=h.b.n;obtain⟨xW,_⟩:=jk.1 hk;obtain⟨o,tl,e,ho,NW,_⟩:=yP {r with timers:=r.timers.eraseIdx k} t;have ho:o.length<=r.n.toNat+1:=ho;rw[e]at h1⊢;have Po:=h.b.timers;refine⟨⟨h.b.n,h.b.log,h.b.sO,h.b.aX,h.b.bD,h.b.aH,h.b.under,h.b.yp,?_,h.b.waits,?_,h.b.clock⟩,?_⟩
 ·simp only[jd,C9,xW,eM];omega
 ·have h5:=h.o;show(r.out++o).length<_;rw[jd];omega
 ·show(r.out++o).length+5*rm _<_;rw[jd];omega
def dq(L:List dM)(o:Option Nat):Option (Nat×dM):=o.bind λq=>L[q]?.map λt=>(q,t)
theorem KC{c:Int}{L:List dM}{i:Nat}(hi:i<L.length)(acc:Option (Nat×dM)):jD c (L.drop i) i acc=jD c (L.drop (i+1)) (i+1) (if decide (L[i].tm<=c)&&(match acc with|none=>true|some (_,u)=>decide (L[i].tm<u.tm))then some (i,L[i])else acc):=by rw[iR hi];rfl
theorem uI{L:List dM}{q:Nat}(hq:q<L.length):dq L (some q)=some (q,L[q]):=by simp[dq,hq]
theorem KD{I:HL}{b:Nat}{s:eS}(hI:uv I s)(hb:qF {s.abs with clock:=s.clock+1}):
  aD prog ak bQ 117 #[.pointer (some ⟨b,0,none⟩)] [cY b s,a7 I] (rZ b I (qe s.abs)):=by
 refine aD.of λR C kd d F c cs aJ aj=>?_;refine bM ?_;have tL:=hb.b.clock;have tL:0<=s.clock+1/\s.clock+1<2^60:=tL;refine cY.opn (h:=λlg vl lk un tm wt ot=>?_);refine dH ?_;refine C.ar rfl ?_ (hr:=xp az az);refine cW ?_;refine cY.cls {s with clock:=s.clock+1} ?_;refine C.cx (X:=HL×eS) (λx=>[(0,.pointer (some ⟨b,0,none⟩))]) (λx=>cY b x.2::a7 x.1::F) (λx=>Sub I x.1/\uv x.1 x.2/\qF x.2.abs/\qe s.abs=iE (rm x.2.abs+1) x.2.abs) (λx=>rm x.2.abs) (I,{s with clock:=s.clock+1}) ⟨rfl,trivial⟩ ⟨Sub.refl _,⟨hI.log,hI.cg,hI.waits,hI.out⟩,hb,rfl⟩ ?_;rintro⟨I1,s1⟩ e ⟨qE,fp,Wg,yQ⟩ ih;dsimp only at qE fp Wg yQ⊢;clear hb tL;have FF:=Wg.b.v;have Po:=FF.timers;refine cY.opn (h:=λlg vl lk un tm wt ot=>?_);refine dV ?_;refine C.cx (X:=Nat×Option Nat) (λx=>[(0,.pointer (some ⟨b,0,none⟩)),(2,aI (sX x.2)),(3,aI x.1)]) (λ_=>y9 b s1 lg vl lk un tm wt ot (a7 I1::F)) (λx=>x.1<=s1.timers.length/\(∀ q,x.2=some q->q<s1.timers.length)/\jD s1.clock s1.timers 0 none=jD s1.clock (s1.timers.drop x.1) x.1 (dq s1.timers x.2)) (λx=>s1.timers.length-x.1) (0,none) ⟨rfl,rfl,rfl,trivial⟩ (And.intro (eK _) (And.intro (λq (h:(none:Option Nat)=some q)=>nomatch h) rfl)) ?_;rintro⟨i,q⟩ e ⟨hi,hq,hd⟩ IJ;dsimp only at hi hq hd⊢;refine kE ?_;refine C.cmp rfl (λyG=>?_) (λyG=>?_)
 ·refine bJ ?_;have cN:i<s1.timers.length:=by simpa using yG
  rw[KC cN]at hd;by_cases G6:s1.timers[i].tm<=s1.clock
  ·obtain rfl|⟨q',rfl,q7⟩:q=none\/∃ q',q=some q'/\q'<s1.timers.length:=by
    cases q with
    |none=>exact .inl rfl
    |some q'=>exact .inr ⟨q',rfl,hq q' rfl⟩
   ·refine C.dx (cG 22 0 36) 36 [] 0 ?_;refine gg ?_;refine Ar ?_;refine Dr.p (λh=>C.fe rfl h (hf:=G6)) ?_;refine Ar ?_;refine Dr.p (λh=>C.fe rfl h) ?_;refine gg ?_;refine gg ?_;refine Dr.chain rfl ?_;refine Ch.fin ?_;refine m4 ?_;refine again IJ (i+1,some i) ⟨cN,by intro q h;cases h;exact cN,?_⟩ (dI);rw[hd,aK (by simp[dq,G6]),uI cN]
   ·by_cases ZW:s1.timers[i].tm<s1.timers[q'].tm
    ·refine C.dx (cG 22 0 36) 36 [] 0 ?_;refine gg ?_;refine Ar ?_;refine Dr.p (λh=>C.fe rfl h (hf:=G6)) ?_;refine Ar ?_;refine Dr.p (λh=>C.dP rfl h (hf:=Int.not_lt.2 (C6 _))) ?_;refine gg ?_;refine lZ ?_;refine Dr.p (λh=>C.fe rfl h (hf:=ZW)) ?_;refine wm ?_;refine Ch.fin ?_;refine m4 ?_;refine again IJ (i+1,some i) ⟨cN,by intro q h;cases h;exact cN,?_⟩ (dI);rw[hd,uI q7,aK (by simp[G6,ZW]),uI cN]
    ·refine C.dx (cG 22 0 36) 36 [] 0 ?_;refine gg ?_;refine Ar ?_;refine Dr.p (λh=>C.fe rfl h (hf:=G6)) ?_;refine Ar ?_;refine Dr.p (λh=>C.dP rfl h (hf:=Int.not_lt.2 (C6 _))) ?_;refine gg ?_;refine lZ ?_;refine Dr.p (λh=>C.dP rfl h (hf:=ZW)) ?_;refine wm ?_;refine Ns ?_;refine again IJ (i+1,some q') ⟨cN,hq,?_⟩ (dI);rw[hd,uI q7,ao (by simp[ZW])]
  ·refine C.dx (cG 22 0 36) 36 [] 0 ?_;refine gg ?_;refine Ar ?_;refine Dr.p (λh=>C.dP rfl h (hf:=G6)) ?_;refine gg ?_;refine gg ?_;refine CH ?_;refine Dr.chain rfl ?_;refine Ns ?_;refine again IJ (i+1,q) ⟨cN,hq,?_⟩ (dI);rw[hd,ao (by simp[G6])]
 ·refine bJ ?_;have JW:s1.timers.drop i=[]:=pS (by simp at yG;omega);rw[JW,jD]at hd;refine bJ ?_;refine C.cmp rfl (λh60=>?_) (λh60=>?_)
  ·refine bJ ?_;have Pv:=sZ h60;subst Pv;refine cY.cls s1 ?_;refine C.bk aJ aj ⟨I1,s1,qE,fp,?_,rfl⟩;rw[yQ,iE];have hd:jD s1.abs.clock s1.abs.timers 0 none=none:=hd;rw[hd]
  ·refine bJ ?_;obtain⟨k,rfl⟩:=jP (o:=q) az;have xW:=hq k rfl;rw[uI xW]at hd;simp only[sX];refine At.xr (A:=a9 rz 3 251 tm s1.timers) Fo.au (qd az) λ⟨CL,S7,YA⟩=>?_;refine dV ?_;refine C.Dv xW rfl ?_ (s:=tm) (f:=rz);refine C.al rfl (λb4=>?_);refine C.pd rfl ?_ (hv:=λv hv=>fC.one s1.timers[k] v (by simpa using hv));refine C.go ?_;refine At.turn (A:=bR b4 (.cells (wr #[aI 0,.bool false,aI 0] 0 (rz s1.timers[k])) 251 (0,0))) Fo.au (A':=bR b4 (.cells #[aI s1.timers[k].tm,.bool s1.timers[k].again,aI s1.timers[k].tx] 251 (0,0))) (λ_ h=>h) ?_;refine At.aG rz 3 251 ?_;refine i6 ?_;refine C.TW rfl ?_ (hi:=(k:Int)) (hh:=by constructor<;>omega);refine C.Dw (f:=rz) (s:=aG) (l:=[]) (s1.timers.take k) rfl (λs7=>?_) (hsrc:=λH st=>?_) (hsz:=by simp only[tA,ik];omega)
   rotate_left
   ·show kI bQ H 3 _ (.slice tm.a k tm.cap) _;have e1:(s1.timers.take k).length=k:=by rw[ik];omega
    rw[e1];have h:=dt.Jw (B:=bQ) (f:=rz) (el:=251) (s:=tm) (l:=s1.timers) (.own Fo.au) st (λ_=>rfl) 0 k az tm.cap tm.a (λ_=>by rw[CL,I8]) (λ_=>.inr ⟨0,CL,by intro z;rw[z]at xW;simp at xW,az⟩)
    rwa[zg]at h
   refine m4 ?_;refine C.Xo rfl ?_ (hx:=by show Value.slice tm.a tm.len tm.cap=_;rw[CL,S7]) (lo:=((k+1:Nat):Int)) (hh:=by constructor<;>omega);refine C.Dw (f:=rz) (s:=s7) (l:=[]++s1.timers.take k) (s1.timers.drop (k+1)) rfl (λs8=>?_) (hsrc:=λH st=>?_) (hsz:=by simp only[fi,tB,ik];omega)
   rotate_left
   ·show kI bQ H 3 _ (.slice (some (if tm.cap=k+1 then⟨tm.b,0,none⟩else⟨tm.b,0+(k+1)*3,none⟩)) (s1.timers.length-(k+1)) (tm.cap-(k+1))) _;have e1:(s1.timers.drop (k+1)).length=s1.timers.length-(k+1):=by rw[tB]
    rw[e1];have h:=dt.Jw (B:=bQ) (f:=rz) (el:=251) (s:=tm) (l:=s1.timers) (.own Fo.au) st (λ_=>rfl) (k+1) (s1.timers.length-(k+1)) az (tm.cap-(k+1)) (some (if tm.cap=k+1 then⟨tm.b,0,none⟩else⟨tm.b,0+(k+1)*3,none⟩)) (λhm=>by rw[ao az];simp) (λ_=>.inr (by
     by_cases hc:tm.cap=k+1
     ·exact⟨0,by rw[aK hc],by intro z;rw[z]at xW;simp at xW,az⟩
     ·exact⟨(k+1)*3,by rw[ao hc];simp,by intro z;rw[z]at xW;simp at xW,az⟩))
    rwa[iq (by rw[tB];exact gZ _)]at h
   refine cW ?_;have DQ:[]++s1.timers.take k++s1.timers.drop (k+1)=s1.timers.eraseIdx k:=by rw[fi,<- w7]
   rw[DQ];refine cY.cls {s1 with timers:=s1.timers.eraseIdx k} ?_ (tm:=s8);obtain⟨hk6,hk7⟩:=vx (L:=s1.timers) s1.timers 0 none (by intro p hp;cases hp) rfl (k,s1.timers[k]) hd;have hT2:=Wg.off (k:=k) (t:=s1.timers[k]) hk6 hk7;have Wh:=E4 (r:=s1.abs) (k:=k) (t:=s1.timers[k]) hk6 hk7;refine dN ?_;refine C.dv (Ot (s:={s1 with timers:=s1.timers.eraseIdx k}) (t:=s1.timers[k]) ⟨fp.log,fp.cg,fp.waits,fp.out⟩ ⟨FF.n,FF.log,FF.sO,FF.aX,FF.bD,FF.aH,FF.under,FF.yp,by show(s1.timers.eraseIdx k).length<_;rw[C9];split<;>omega,FF.waits,FF.out,FF.clock⟩) ?_;rintro v aN ⟨I2,s2,Cb,jO,Lw,rfl⟩;refine k6 ?_;have Lw:s2.abs=kS {s1.abs with timers:=s1.abs.timers.eraseIdx k} s1.timers[k]:=Lw;rw[<- Lw]at hT2 Wh;refine again ih (I2,s2) ⟨qE.trans Cb,jO,hT2,?_⟩ (dI);rw[yQ,iE];have hd:jD s1.abs.clock s1.abs.timers 0 none=some (k,s1.timers[k]):=hd;rw[hd,<- Wh,Lw]
abbrev m5(s:eS)(V:List Int)(L:List gn)(T:List dM):eS:={s with up:=true,bD:=V,aH:=L,under:=[],timers:=T,waits:=[],clock:=0}
theorem E5{log:List RecR}{i:Nat}{z:ShR}{r:RecR}(h:log[i]? =some r)(hk:r.kind=1):dC log (i+1) z={dC log i z with aH:=i3 (dC log i z).aH r.tx r.ops}:=by rw[dC];simp only[h,aK hk]
theorem E6{log:List RecR}{i:Nat}{z:ShR}{r:RecR}(h:log[i]? =some r)(h1:¬ r.kind=1)(h3:¬ r.kind=3):dC log (i+1) z=dC log i z:=by rw[dC];simp only[h,ao h1,ao h3]
theorem AX{log:List RecR}{i:Nat}{z:ShR}{r:RecR}(h:log[i]? =some r)(h3:r.kind=3)(hn:r.yes=false\/findD log 1 r.tx i=none):dC log (i+1) z={dC log i z with aH:=iL (dC log i z).aH r.tx}:=by
 rw[dC];simp only[h,aK h3,ao (show¬ r.kind=1 by omega),Ig];cases hf:findD log 1 r.tx i with
 |none=>rfl
 |some p=>
  have hy:r.yes=false:=hn.resolve_right (by rw[hf];simp);simp only[hy];rfl
theorem He{log:List RecR}{i p:Nat}{z:ShR}{r q:RecR}(h:log[i]? =some r)(h3:r.kind=3)(hy:r.yes=true)(hf:findD log 1 r.tx i=some p)(hp:log[p]? =some q):dC log (i+1) z={dC log i z with bD:=eC (dC log i z).bD q.ops,aH:=iL (dC log i z).aH r.tx}:=by rw[dC];simp only[h,aK h3,ao (show¬ r.kind=1 by omega),Ig,hf,hy,hp];rfl
theorem AY{log:List RecR}{k tx:Int}:∀ {i p:Nat},findD log k tx i=some p->p<i
 |0,p,h=>by cases h
 |i+1,p,h=>by
  unfold findD at h;split at h
  ·cases h;omega
  ·have:=AY h;omega
theorem vy(L:List gn)(tx:Int):(iL L tx).length<=L.length:=m8 ..
theorem AZ{log:List RecR}{k:Nat}(hk:(k:Int)<60):((((upto 60).take (k+1)).filter λtx=>(bF log tx).isSome).map λtx=>dM.mk 3 false tx)=(((upto 60).take k).filter λtx=>(bF log tx).isSome).map (λtx=>dM.mk 3 false tx)++(if(bF log k).isSome then[dM.mk 3 false k]else[]):=by rw[cQ hk,ml,eF,tD];split<;>simp
theorem Cc{I:HL}{b:Nat}{s:eS}(hI:uv I s)(hb:Kv s)(hl:s.log.length<=2^12):
  aD prog ak bQ 115 #[.pointer (some ⟨b,0,none⟩)] [cY b s,a7 I] (rZ b I (dO s.abs)):=by
 refine aD.of λR C kd d F c cs aJ aj=>?_;refine bM ?_;refine cY.opn (h:=λlg vl lk un tm wt ot=>?_);refine dV ?_;refine cY.cls {s with up:=true} ?_;refine bJ ?_;refine C.dv (qx (s:={s with up:=true})) ?_;rintro v aN rfl;refine bM ?_;refine At.turn (A:=cY b {{s with up:=true}with bD:=gX,aH:=[],under:=[],timers:=[],waits:=[],clock:=0}) (A':=cY b (m5 s gX [] [])) Fo.au (λ_ h=>h) ?_;refine cW ?_;refine C.cx (X:=Nat×List Int×List gn) (λx=>[(0,.pointer (some ⟨b,0,none⟩)),(2,aI x.1)]) (λx=>cY b (m5 s x.2.1 x.2.2 [])::a7 I::F) (λx=>x.1<=s.log.length/\x.2.1.length=26/\x.2.2.length<=x.1*2^20/\(m5 s x.2.1 x.2.2 []).abs=dC s.abs.log x.1 (eL {s.abs with up:=true})) (λx=>s.log.length-x.1) (0,gX,[]) ⟨rfl,rfl,trivial⟩ (And.intro (eK _) (And.intro rfl (And.intro (eK _) rfl))) ?_;rintro⟨i,V,L⟩ e ⟨hi,hV,hL,yQ⟩ ih;dsimp only at hi hV hL yQ⊢;refine C.go ?_;refine cY.opn (h:=λlg vl lk un tm wt ot=>?_);dsimp only[y9,m5];refine dV ?_;refine C.cmp rfl (λyG=>?_) (λyG=>?_)
 ·refine bJ ?_;have cN:i<s.log.length:=by simpa using yG
  have cJ:=hb.sO _ (br cN);have hrI:=hI.log _ (br cN);refine dV ?_;refine C.Dv cN rfl ?_ (s:=lg) (f:=recC);refine C.al rfl (λb3=>?_);refine C.pd rfl ?_ (hv:=λv hv=>fC.one s.log[i] v (by simpa using hv));refine C.go ?_;refine At.turn (A:=bR b3 (.cells (wr #[aI 0,aI 0,.bool false,aI 0,.slice none 0 0,.slice none 0 0] 0 (recC s.log[i])) 247 (0,0))) Fo.au (A':=bR b3 (.cells #[aI s.log[i].kind,aI s.log[i].tx,.bool s.log[i].yes,aI s.log[i].home,s.log[i].so.v,s.log[i].sr.v] 247 (0,0))) (λ_ h=>h) ?_;refine dD ?_;refine C.cmp rfl (λPy=>?_) (λPy=>?_)
  ·refine kL ?_;refine cY.cls (m5 s V L []) ?_;refine C.dv (AF (s:=m5 s V L []) (tx:=s.log[i].tx) hrI.o (by have:=cJ.2;omega) (by show L.length<_;have:=se (2^20) (show i<=2^12 by omega);omega)) ?_;rintro v aN rfl;refine JG ?_;refine again ih (i+1,V,i3 L s.log[i].tx s.log[i].ops) ⟨cN,hV,by dsimp only;simp only[i3,jd,cV];have:=cJ.2;omega,?_⟩ (dI);rw[E5 (gG cN) Py,<- yQ];rfl
  ·refine cW ?_;refine C.cmp rfl (λGt=>?_) (λGt=>?_)
   ·refine kL ?_;refine C.cx (X:=Nat×Option Nat) (λx=>[(0,.pointer (some ⟨b,0,none⟩)),(2,aI i),(3,.pointer (some ⟨b3,0,none⟩)),(4,aI (sX x.2)),(5,aI x.1)]) (λ_=>bR b3 _::y9 b (m5 s V L []) lg vl lk un tm wt ot (a7 I::F)) (λx=>x.1<=i/\x.2=findD s.abs.log 1 s.log[i].tx x.1) (λx=>i-x.1) (0,none) ⟨rfl,rfl,rfl,rfl,rfl,trivial⟩ (And.intro (eK _) rfl) ?_;rintro⟨j,q⟩ e ⟨hj,hq⟩ ih5;dsimp only[y9,m5]at hj hq⊢;refine cW ?_;refine C.cmp rfl (λEr=>?_) (λEr=>?_)
    ·refine bJ ?_;have QO:j<i:=by simpa using Er
     have JR:j<s.log.length:=az;by_cases J8:s.log[j].kind=1
     ·by_cases Pw:s.log[j].tx=s.log[i].tx
      ·refine C.dx (cG 46 0 22) 22 [] 0 ?_;refine CJ ?_;refine Dr.p (λh=>C.fe rfl h (hf:=J8)) ?_;refine gg ?_;refine lS ?_;refine Dr.p (λh=>C.fe rfl h (hf:=Pw)) ?_;refine xY ?_;refine Ch.fin ?_;refine m4 ?_;refine again ih5 (j+1,some j) ⟨QO,?_⟩ (dI);rw[findD,gG JR,aK (by simp[isRec,J8,Pw])]
      ·refine C.dx (cG 46 0 22) 22 [] 0 ?_;refine CJ ?_;refine Dr.p (λh=>C.fe rfl h (hf:=J8)) ?_;refine gg ?_;refine lS ?_;refine Dr.p (λh=>C.dP rfl h (hf:=Pw)) ?_;refine xY ?_;refine Ns ?_;refine again ih5 (j+1,q) ⟨QO,?_⟩ (dI);rw[findD,gG JR,ao (by simp[isRec,J8,Pw]),hq]
     ·refine C.dx (cG 46 0 22) 22 [] 0 ?_;refine CJ ?_;refine Dr.p (λh=>C.dP rfl h (hf:=J8)) ?_;refine JK ?_;refine Ns ?_;refine again ih5 (j+1,q) ⟨QO,?_⟩ (dI);rw[findD,gG JR,ao (by simp[isRec,J8]),hq]
    ·refine bJ ?_;have Eh:j=i:=by have:¬ j<i:=(by simpa using Er);omega
     subst Eh;refine dN ?_;generalize hy:s.log[j].yes=z;rcases g6 z with rfl|rfl
     ·refine bJ ?_;refine C.cmp rfl (λh73=>?_) (λh73=>?_)
      ·refine dN ?_;obtain⟨p,rfl⟩:=jP h73;have hpf:findD s.abs.log 1 s.log[j].tx j=some p:=hq.symm;have wh:p<s.log.length:=by have:=AY hpf;omega
       have ZM:=hb.sO _ (br wh);simp only[sX];refine dV ?_;refine C.kJ rfl ?_ (l:=s.log) (j:=p);refine bJ ?_;refine cY.cls (m5 s V L []) ?_;refine C.dv (ym (s:=m5 s V L []) (hI.log _ (br wh)).o ZM.1 hV (by have:=ZM.2;omega)) ?_;rintro v aN rfl;refine ve ?_;refine C.dv (free_spec (s:=m5 s (eC V s.log[p].ops) L []) (tx:=s.log[j].tx) (by show L.length<_;have:=se (2^20) (show j<=2^12 by omega);omega)) ?_;rintro v aN rfl;refine JG ?_;refine again ih (j+1,eC V s.log[p].ops,iL L s.log[j].tx) ⟨cN,by dsimp only;rw[sD];exact hV,by have:=vy L s.log[j].tx;dsimp only;omega,?_⟩ (dI);rw[He (gG cN) Gt hy hpf (gG wh),<- yQ];rfl
      ·refine dV ?_;refine cY.cls (m5 s V L []) ?_;refine C.dv (free_spec (s:=m5 s V L []) (tx:=s.log[j].tx) (by show L.length<_;have:=se (2^20) (show j<=2^12 by omega);omega)) ?_;rintro v aN rfl;refine JG ?_;refine again ih (j+1,V,iL L s.log[j].tx) ⟨cN,hV,by have:=vy L s.log[j].tx;dsimp only;omega,?_⟩ (dI);rw[AX (gG cN) Gt (.inr (by rw[<- kz h73];exact hq.symm)),<- yQ];rfl
     ·refine i6 ?_;refine cY.cls (m5 s V L []) ?_;refine C.dv (free_spec (s:=m5 s V L []) (tx:=s.log[j].tx) (by show L.length<_;have:=se (2^20) (show j<=2^12 by omega);omega)) ?_;rintro v aN rfl;refine JG ?_;refine again ih (j+1,V,iL L s.log[j].tx) ⟨cN,hV,by have:=vy L s.log[j].tx;dsimp only;omega,?_⟩ (dI);rw[AX (gG cN) Gt (.inl hy),<- yQ];rfl
   ·refine kE ?_;refine cY.cls (m5 s V L []) ?_;refine again ih (i+1,V,L) ⟨cN,hV,Be hL (se _ (nW i)),?_⟩ (dI);exact yQ.trans (E6 (gG cN) Py Gt).symm
 ·refine dD ?_;have JW:i=s.log.length:=by simp at yG;omega
  subst JW;refine cY.cls (m5 s V L []) ?_;refine C.cx (X:=Nat×List dM) (λx=>[(0,.pointer (some ⟨b,0,none⟩)),(6,aI x.1)]) (λx=>cY b (m5 s V L x.2)::a7 I::F) (λx=>x.1<=60/\x.2.length<=x.1/\x.2=(((upto 60).take x.1).filter λtx=>(bF s.abs.log tx).isSome).map λtx=>dM.mk 3 false tx) (λx=>60-x.1) (0,[]) ⟨rfl,rfl,trivial⟩ (And.intro (eK _) (And.intro (eK _) rfl)) ?_;rintro⟨k,T⟩ e ⟨hk,hT,YG⟩ Lm;dsimp only at hk hT YG⊢;refine dN ?_;refine C.cmp rfl (λh90=>?_) (λh90=>?_)
  ·refine dD ?_;have Rj:(k:Int)<60:=h90;refine C.cE (oQ (s:=m5 s V L T) (by show s.log.length<_;omega)) ?_;refine rS ?_;refine C.cmp rfl (λHd=>?_) (λHd=>?_)
   ·refine bJ ?_;refine cY.opn (h:=λlg vl lk un tm wt ot=>?_);dsimp only[y9,m5];refine kE ?_;refine C.nj rfl (λafO=>?_);refine C.nM (dM.mk 3 false k) rfl (λs5=>?_);refine kL ?_;refine cY.cls (m5 s V L (T++[dM.mk 3 false k])) ?_;refine again Lm (k+1,T++[dM.mk 3 false k]) ⟨dI,by simp;omega,?_⟩ (dI);obtain⟨p,hp⟩:=jP Hd;have hp:bF s.abs.log k=some p:=hp;rw[AZ Rj,<- YG,hp];rfl
   ·refine dV ?_;refine again Lm (k+1,T) ⟨dI,dI,?_⟩ (dI);have hp:bF s.abs.log k=none:=kz Hd;rw[AZ Rj,<- YG,hp];simp
  ·refine bJ ?_;have Rj:¬ (k:Int)<60:=h90;rw[oA Rj]at YG;refine C.cX aJ aj ⟨I,m5 s V L T,Sub.refl _,⟨hI.log,λu hu=>(by cases hu),λw hw=>(by cases hw),hI.out⟩,?_,rfl⟩;unfold dO;rw[wU,<- yQ,YG];simp[eS.abs,je]
structure WBR(w:WR):Prop where
 n:1<=w.sh.length/\w.sh.length<=4
 sn:∀ s∈w.sh,s.n=w.sh.length
 sh:∀ s∈w.sh,Ou s/\s.log.length<=2^12/\qF {s with clock:=s.clock+1}
 aE:w.aE.length<2^20
 msgs:∀ m∈w.aE,jf m.ops/\((m.to= -1/\0<=m.tx/\m.tx<w.aL.length)\/(0<=m.to/\m.to<w.sh.length))
 aL:w.aL.length<=60
 GC:∀ t∈w.aL,jf t.ops/\1<=t.ops.length
theorem yR{b p:Nat}{v0 v2 v3:Value}{bg:ay}{aE:List cm}{s:eS}(hl:aE.length<2^34)(ho:s.out.length<2^34):
  aD prog ak bQ 119 #[.pointer (some ⟨b,0,none⟩),.pointer (some ⟨p,0,none⟩)] [bR b (.cells #[v0,bg.v,v2,v3] 53 (0,0)),a9 bN 7 137 bg aE,cY p s]
   (λv As=>∃ EV:ay,As=[bR b (.cells #[v0,EV.v,v2,v3] 53 (0,0)),a9 bN 7 137 EV (aE++s.out),cY p {s with out:=[]}]):=by
 refine aD.of λR C kd d F c cs aJ aj=>?_;refine bM ?_;refine cY.opn (b:=p) (s:=s) (h:=λlg vl lk un tm wt ot=>?_);refine C.go ?_;refine C.dx (cG 4 0 12) 13 [9,12] 0 ?_;refine JJ ?_;refine Ch.m 9 (aW λe aa hk=>?_);refine C.Dw (f:=bN) (s:=bg) (l:=aE) s.out rfl (λs'=>?_) (hsrc:=λH st=>dt.src (f:=bN) (el:=137) (s:=ot) (l:=s.out) (.own Fo.au) st (λ_=>rfl));refine hk _ _ ?_;refine Ch.m 12 (aW λe aa hk=>?_);refine C.st rfl (hk _ undef ?_);refine Ns ?_;refine At.aG bN 7 137 ?_;refine cY.cls (b:=p) {s with out:=[]} ?_ (ot:=aG);exact C.cX aJ aj ⟨s',rfl⟩
theorem qG(l:List (Nat×eS))(a:Nat)(h:a<l.length)(x:eS):l.map (·.1)=(l.set a (l[a].1,x)).map (·.1):=by
 rw[j1];have:l[a].1=(l.map (·.1))[a]'(by rw[cV];exact h):=by simp
 show l.map (·.1)=(l.map (·.1)).set a l[a].1;rw[this,lO]
theorem zJ{I:HL}{b:Nat}{w:WV}{k i:Int}(hI:WI I w)(hb:WBR w.abs)(rU:∀ s∈w.abs.sh,∀ m∈w.abs.aE,(jl s m).out.length<2^30):
  aD prog ak bQ 114 #[.pointer (some ⟨b,0,none⟩),aI k,aI i] [wP b w,a7 I] (WQ b I (cD w.abs k i).1 (aI (cD w.abs k i).2)):=by
 refine aD.of λR C kd d F c cs aJ aj=>?_;refine bM ?_;refine wP.opn (h:=λsh bg pO=>?_);have Yv:=hb.aE;rw[WV.fA]at Yv;refine dH ?_;refine C.cmp rfl (λoy=>?_) (λoy=>?_)
 ·refine nO ?_;refine wP.cls w ?_;have e1:cD w.abs k i=(w.abs,5):=by unfold cD;rw[aK (.inl oy)]
  rw[e1]at aj;exact C.bk aJ aj ⟨I,w,Sub.refl _,hI,rfl,rfl,rfl⟩
 ·refine dV ?_;refine C.cmp rfl (λtu=>?_) (λtu=>?_)
  ·refine dH ?_;refine wP.cls w ?_;have e1:cD w.abs k i=(w.abs,5):=by unfold cD;rw[aK (.inr (by rw[WV.fA];exact tu))]
   rw[e1]at aj;exact C.bk aJ aj ⟨I,w,Sub.refl _,hI,rfl,rfl,rfl⟩
  ·refine dN ?_;obtain⟨q,rfl⟩:=gR (show 0<=i by omega);have hq:q<w.aE.length:=az;have KE:¬ ((q:Int)<0\/(w.abs.aE.length:Int)<=q):=by rw[WV.fA];omega
   have wT:w.abs.aE[q]? =some w.aE[q].toMsgR:=by simp[WV.abs,hq]
   have hmI:=hI.aE _ (br hq);have Kt:=hb.msgs w.aE[q].toMsgR (eY wT);refine dV ?_;refine C.Dv hq rfl ?_ (s:=bg) (f:=bN);refine C.al rfl (λb7=>?_);refine C.pd rfl ?_ (hv:=λv hv=>fC.one w.aE[q] v (by simpa using hv));refine C.go ?_;refine At.turn (A:=bR b7 (.cells (wr #[aI 0,aI 0,aI 0,aI 0,.bool false,.slice none 0 0,.slice none 0 0] 0 (bN w.aE[q])) 137 (0,0))) Fo.au (A':=yM b7 w.aE[q]) (λ_ h=>h) ?_;refine bJ ?_;refine C.cmp rfl (λVh=>?_) (λVh=>?_)
   ·refine kE ?_;refine C.cmp rfl (λS2=>?_) (λS2=>?_)
    ·refine dD ?_;refine wP.cls w ?_;have e1:cD w.abs k q=(w.abs,3):=by unfold cD;rw[ao KE];simp only[g5,wT];rw[aK Vh,aK (by rw[WV.fA];omega)]
     rw[e1]at aj;exact C.bk aJ aj ⟨I,w,Sub.refl _,hI,rfl,rfl,rfl⟩
    ·refine bJ ?_;refine C.dx (cG 37 0 10) 11 [6,7,10] 1 ?_;refine Lq ?_;refine Ch.m 6 (aW λe aa hk=>?_);refine C.nj rfl (λb43=>hk _ _ .cons ?_);refine Ch.m 7 (aW λe aa hk=>?_);refine C.nM w.aE[q] rfl (λs8=>?_);refine hk _ _ ?_;refine Ch.m 10 (aW λe aa hk=>?_);refine C.st rfl (hk _ undef ?_);refine Qs ?_;refine wP.cls {w with aE:=w.aE++[w.aE[q]]} ?_;have e1:cD w.abs k q=(({w with aE:=w.aE++[w.aE[q]]}:WV).abs,0):=by unfold cD;rw[ao KE];simp only[g5,wT];rw[aK Vh,ao (by rw[WV.fA];omega)];simp[WV.abs]
     rw[e1]at aj;exact C.bk aJ aj ⟨I,{w with aE:=w.aE++[w.aE[q]]},Sub.refl _,⟨hI.sh,λm hm=>by
      rcases bU.1 hm with hm|hm
      ·exact hI.aE m hm
      ·obtain rfl:=dF.1 hm;exact hmI,hI.aL⟩,rfl,rfl,rfl⟩
   ·refine bJ ?_;refine At.xr (A:=a9 bN 7 137 bg w.aE) Fo.au (qd az) λ⟨CL,S7,YA⟩=>?_;refine At.aG bN 7 137 ?_;refine i6 ?_;refine C.TW rfl ?_ (hi:=(q:Int)) (hh:=by constructor<;>omega);refine C.Dw (f:=bN) (s:=aG) (l:=[]) (w.aE.take q) rfl (λs7=>?_) (hsrc:=λH st=>D2 Fo.au st (λ_=>rfl) q hq CL) (hsz:=by simp only[tA,ik];omega);refine m4 ?_;refine C.Xo rfl ?_ (hx:=by show Value.slice bg.a bg.len bg.cap=_;rw[CL,S7]) (lo:=((q+1:Nat):Int)) (hh:=by constructor<;>omega);refine C.Dw (f:=bN) (s:=s7) (l:=[]++w.aE.take q) (w.aE.drop (q+1)) rfl (λs8=>?_) (hsrc:=λH st=>D3 (s:=bg) Fo.au st (λ_=>rfl) q hq YA) (hsz:=by simp only[fi,tB,ik];omega);refine cW ?_;have DQ:[]++w.aE.take q++w.aE.drop (q+1)=w.aE.eraseIdx q:=by rw[fi,<- w7]
    rw[DQ];have Oi:WI I {w with aE:=w.aE.eraseIdx q}:=⟨hI.sh,λm hm=>hI.aE m ((ju ..).mem hm),hI.aL⟩;have SS:({w with aE:=w.aE.eraseIdx q}:WV).abs={w.abs with aE:=w.abs.aE.eraseIdx q}:=by simp[WV.abs,od]
    refine bJ ?_;refine C.cmp rfl (λIB=>?_) (λIB=>?_)
    ·refine dD ?_;refine wP.cls {w with aE:=w.aE.eraseIdx q} ?_ (bg:=s8);have e1:cD w.abs k q=(({w with aE:=w.aE.eraseIdx q}:WV).abs,0):=by unfold cD;rw[ao KE];simp only[g5,wT];rw[ao Vh,aK IB,SS]
     rw[e1]at aj;exact C.bk aJ aj ⟨I,_,Sub.refl _,Oi,rfl,rfl,rfl⟩
    ·refine dD ?_;refine C.cmp rfl (λWA=>?_) (λWA=>?_)
     ·refine bJ ?_;have YH:0<=w.aE[q].tx/\w.aE[q].tx<w.abs.aL.length:=by
       rcases Kt.2 with h|h
       ·exact h.2
       ·have h1:w.aE[q].to= -1:=WA;have h2:0<=w.aE[q].to:=h.1;omega
      obtain⟨jt,ze⟩:=gR YH.1;have FL:jt<w.aL.length:=by have:=YH.2;rw[WV.jL]at this;omega
      have Vi:cD w.abs k q=(qf ({w with aE:=w.aE.eraseIdx q}:WV).abs w.aE[q].toMsgR,0):=by unfold cD;rw[ao KE];simp only[g5,wT];rw[ao Vh,ao IB,aK WA,SS]
      have hjm:({w with aE:=w.aE.eraseIdx q}:WV).abs.aL[w.aE[q].toMsgR.tx.toNat]? =some w.aL[jt].toTxR:=by rw[ze];simp[WV.abs,FL]
      refine C.dx (cG 72 0 7++[(9,7)]) 8 [] 0 ?_;refine rR ?_;refine Dr.l (λhE h=>C.kJ rfl h (j:=jt) (hy:=congrArg (Value.int .i64) ze)) ?_;refine xY ?_;refine zD ?_;refine C.vI rfl ?_ (j:=jt) (s:=pO) (l:=w.aL);refine C.cmp rfl (λZX=>?_) (λZX=>?_)
      ·refine dH ?_;refine C.Gl ({w.aL[jt]with state:=3}:l4) rfl ?_ (j:=jt);refine dD ?_;refine C.xA (λVj=>?_) (λVj=>?_)
       ·refine dD ?_;refine C.Gl ({w.aL[jt]with state:=2}:l4) rfl ?_ (j:=jt) (hj:=by rw[fM];exact FL) (ha:=by rw[vD];rfl);refine dV ?_;refine C.Gl ({w.aL[jt]with state:=2,reads:=w.aE[q].reads,sr:=w.aE[q].sr}:l4) rfl ?_ (j:=jt) (hj:=by rw[fM,fM];exact FL) (ha:=by rw[vD];rfl);refine cW ?_;rw[zX,zX];refine wP.cls {w with aE:=w.aE.eraseIdx q,aL:=w.aL.set jt {w.aL[jt]with state:=2,reads:=w.aE[q].reads,sr:=w.aE[q].sr}} ?_ (bg:=s8);have e1:cD w.abs k q=(({w with aE:=w.aE.eraseIdx q,aL:=w.aL.set jt {w.aL[jt]with state:=2,reads:=w.aE[q].reads,sr:=w.aE[q].sr}}:WV).abs,0):=by rw[Vi];unfold qf;rw[hjm];simp only;rw[aK ZX,aK (show w.aE[q].toMsgR.yes=true from Vj),ze];simp[WV.abs,j1]
        rw[e1]at aj;refine C.bk aJ aj ⟨I,{w with aE:=w.aE.eraseIdx q,aL:=w.aL.set jt {w.aL[jt]with state:=2,reads:=w.aE[q].reads,sr:=w.aE[q].sr}},Sub.refl _,⟨hI.sh,Oi.aE,λt ht=>?_⟩,rfl,rfl,rfl⟩;rcases fN ht with h|rfl
        ·exact hI.aL t h
        ·exact⟨(hI.aL _ (br FL)).o,hmI.r⟩
       ·refine cW ?_;refine wP.cls {w with aE:=w.aE.eraseIdx q,aL:=w.aL.set jt {w.aL[jt]with state:=3}} ?_ (bg:=s8);have e1:cD w.abs k q=(({w with aE:=w.aE.eraseIdx q,aL:=w.aL.set jt {w.aL[jt]with state:=3}}:WV).abs,0):=by rw[Vi];unfold qf;rw[hjm];simp only;rw[aK ZX,ao (show¬ w.aE[q].toMsgR.yes=true by show¬ w.aE[q].yes=true;simp[Vj]),ze];simp[WV.abs,j1]
        rw[e1]at aj;refine C.bk aJ aj ⟨I,{w with aE:=w.aE.eraseIdx q,aL:=w.aL.set jt {w.aL[jt]with state:=3}},Sub.refl _,⟨hI.sh,Oi.aE,λt ht=>?_⟩,rfl,rfl,rfl⟩;rcases fN ht with h|rfl
        ·exact hI.aL t h
        ·exact⟨(hI.aL _ (br FL)).o,(hI.aL _ (br FL)).r⟩
      ·refine dD ?_;refine wP.cls {w with aE:=w.aE.eraseIdx q} ?_ (bg:=s8);have e1:cD w.abs k q=(({w with aE:=w.aE.eraseIdx q}:WV).abs,0):=by rw[Vi];unfold qf;rw[hjm];simp only;rw[ao ZX]
       rw[e1]at aj;exact C.bk aJ aj ⟨I,{w with aE:=w.aE.eraseIdx q},Sub.refl _,Oi,rfl,rfl,rfl⟩
     ·refine bJ ?_;have YI:0<=w.aE[q].to/\w.aE[q].to<w.abs.sh.length:=by
       rcases Kt.2 with h|h
       ·exact absurd h.1 WA
       ·exact h
      obtain⟨a,CC⟩:=gR YI.1;have wQ:a<w.sh.length:=by have:=YI.2;rw[WV.mU]at this;omega
      have Jg:w.abs.sh[a]? =some w.sh[a].2.abs:=by simp[WV.abs,wQ]
      have Pl:=hb.sh _ (eY Jg);refine C.dx (cG 97 0 8++[(10,8)]) 9 [] 0 ?_;refine rR ?_;refine Dr.l (λhE h=>C.kJ rfl h (j:=a) (hy:=congrArg (Value.int .i64) CC) (hj:=by rw[cV];exact wQ)) ?_;refine Dr.l (λhE h=>C.nL rfl h (j:=a) (l:=w.sh.map (·.1)) (hj:=by rw[cV];exact wQ)) ?_;refine xY ?_;refine eQ ?_;simp only[pR];refine j7 (f:=nP) wQ Fo.au ?_;refine At.turn (A:=nP w.sh[a]) (A':=cY w.sh[a].1 w.sh[a].2) Fo.au (λ_ h=>h) ?_;refine cY.opn (b:=w.sh[a].1) (s:=w.sh[a].2) (h:=λlg vl lk un tm wt ot=>?_);refine dH ?_;refine C.xA (λOv=>?_) (λOv=>?_)
      ·refine C.go ?_;refine cY.cls (b:=w.sh[a].1) w.sh[a].2 ?_;refine dN ?_;refine C.dv (Kz (b:=w.sh[a].1) (s:=w.sh[a].2) (m:=w.aE[q]) (hI.sh _ (br wQ)) hmI Pl.1.v Kt.1) ?_;rintro v aN ⟨I2,s2,Cb,jO,Lw,rfl⟩;refine rS ?_;refine C.dv (yR (b:=b) (p:=w.sh[a].1) (bg:=s8) (aE:=w.aE.eraseIdx q) (s:=s2) (by have:=(ju w.aE q).length_le;omega) (by
        have h1:=rU _ (eY Jg) _ (eY wT);rw[<- Lw]at h1;have h2:s2.abs.out.length=s2.out.length:=by simp[eS.abs]
        omega)) ?_
       rintro v aN ⟨ZT,rfl⟩;refine rS ?_;have rq:w.sh.map (·.1)=(w.sh.set a (w.sh[a].1,{s2 with out:=[]})).map (·.1):=qG w.sh a wQ _;refine mF (f:=nP) (l:=w.sh) wQ (w.sh[a].1,{s2 with out:=[]}) dB.au ?_;refine At.turn (A:=a9 ek 1 54 sh (w.sh.map (·.1))) (A':=a9 ek 1 54 sh ((w.sh.set a (w.sh[a].1,{s2 with out:=[]})).map (·.1))) Fo.au (λ_ h=>by rw[<- rq];exact h) ?_;refine wP.cls {w with aE:=w.aE.eraseIdx q++s2.out,sh:=w.sh.set a (w.sh[a].1,{s2 with out:=[]})} ?_ (bg:=ZT);have e1:cD w.abs k q=(({w with aE:=w.aE.eraseIdx q++s2.out,sh:=w.sh.set a (w.sh[a].1,{s2 with out:=[]})}:WV).abs,0):=by unfold cD;rw[ao KE];simp only[g5,wT];rw[ao Vh,ao IB,ao WA,<- SS,show w.aE[q].toMsgR.to=(a:Int)from CC];have h9:w.abs.sh[((a:Nat):Int).toNat]? =some w.sh[a].2.abs:=Jg;simp only[h9];rw[aK (show w.sh[a].2.abs.up=true from Ov),<- Lw];simp[lj,WV.abs,eS.abs,j1]
       rw[e1]at aj;refine C.bk aJ aj ⟨I2,{w with aE:=w.aE.eraseIdx q++s2.out,sh:=w.sh.set a (w.sh[a].1,{s2 with out:=[]})},Cb,⟨λp hp=>?_,λm hm=>?_,λt ht=>(hI.aL t ht).mono Cb⟩,rfl,rfl,rfl⟩
       ·rcases fN hp with h|rfl
        ·exact(hI.sh p h).mono Cb
        ·exact⟨jO.log,jO.cg,jO.waits,λx hx=>by cases hx⟩
       ·rcases bU.1 hm with h|h
        ·exact(Oi.aE m h).mono Cb
        ·exact jO.out m h
      ·refine cW ?_;refine cY.cls (b:=w.sh[a].1) w.sh[a].2 ?_;refine mF (f:=nP) (l:=w.sh) wQ w.sh[a] dB.au ?_;rw[lO];refine wP.cls {w with aE:=w.aE.eraseIdx q} ?_ (bg:=s8);have e1:cD w.abs k q=(({w with aE:=w.aE.eraseIdx q}:WV).abs,0):=by unfold cD;rw[ao KE];simp only[g5,wT];rw[ao Vh,ao IB,ao WA,<- SS,show w.aE[q].toMsgR.to=(a:Int)from CC];have h9:w.abs.sh[((a:Nat):Int).toNat]? =some w.sh[a].2.abs:=Jg;simp only[h9];rw[ao (show¬ w.sh[a].2.abs.up=true by show¬ w.sh[a].2.up=true;simp[Ov])]
       rw[e1]at aj;exact C.bk aJ aj ⟨I,{w with aE:=w.aE.eraseIdx q},Sub.refl _,Oi,rfl,rfl,rfl⟩
theorem A0:∀ (f:Nat) (r:ShR),qF r->qF (iE f r)
 |0,r,h=>h
 |f+1,r,h=>by
  unfold iE;cases hd:jD r.clock r.timers 0 none with
  |none=>exact h
  |some p=>
   obtain⟨k,t⟩:=p;obtain⟨h1,h2⟩:=vx (L:=r.timers) r.timers 0 none (by intro p hp;cases hp) rfl (k,t) hd;exact A0 f _ (h.off h1 h2)
theorem KF{w:WR}{k a c:Int}{s:ShR}(hk:¬ (k<1\/8<k))(hs:¬ w.ai=true)(h1:¬ k=1)(h4:¬ k<=4)(ha:¬ (a<0\/(w.sh.length:Int)<=a))(hw:w.sh[a.toNat]? =some s):
  mY w k a c=if k=8 then(if s.up then(w,8)else({w with sh:=w.sh.set a.toNat (dO s)},0))
   else if !s.up then(w,7)
   else if k=5 then(lj w a.toNat (xD s),0)
   else if k=6 then(if 150<w.aE.length then(w,3)else(lj w a.toNat (qe s),0))
   else(lj w a.toNat (oM s c),0):=by
 unfold mY;rw[ao hk,ao hs,ao h1,ao h4,ao ha];simp only[hw]
theorem Ow{I:HL}{b:Nat}{w:WV}{k a c:Int}(hI:WI I w)(hb:WBR w.abs)(rU:∀ s∈w.abs.sh,∀ m∈w.abs.aE,(jl s m).out.length<2^30):
  aD prog ak bQ 74 #[.pointer (some ⟨b,0,none⟩),aI k,aI a,aI c] [wP b w,a7 I] (WQ b I (mY w.abs k a c).1 (aI (mY w.abs k a c).2)):=by
 refine aD.of λR C kd d F c cs aJ aj=>?_;refine bM ?_;rename_i c0;refine wP.opn (h:=λsh bg pO=>?_);have Yv:=hb.aE;rw[WV.fA]at Yv;refine dH ?_;refine C.cmp rfl (λqw=>?_) (λqw=>?_)
 ·refine kL ?_;refine wP.cls w ?_;have e1:mY w.abs k a c0=(w.abs,0):=by unfold mY;rw[aK (.inl qw)]
  rw[e1]at aj;exact C.bk aJ aj ⟨I,w,Sub.refl _,hI,rfl,rfl,rfl⟩
 ·refine bJ ?_;refine C.cmp rfl (λpM=>?_) (λpM=>?_)
  ·refine dH ?_;refine wP.cls w ?_;have e1:mY w.abs k a c0=(w.abs,0):=by unfold mY;rw[aK (.inr az)]
   rw[e1]at aj;exact C.bk aJ aj ⟨I,w,Sub.refl _,hI,rfl,rfl,rfl⟩
  ·refine kL ?_;have Di:¬ (k<1\/8<k):=az;refine C.xA (λyS=>?_) (λyS=>?_)
   ·refine cW ?_;refine wP.cls w ?_;have e1:mY w.abs k a c0=(w.abs,9):=by unfold mY;rw[ao Di,aK (show w.abs.ai=true from yS)]
    rw[e1]at aj;exact C.bk aJ aj ⟨I,w,Sub.refl _,hI,rfl,rfl,rfl⟩
   ·refine C.go ?_;have dJ:¬ w.abs.ai=true:=by show¬ w.ai=true;simp[yS]
    refine bJ ?_;refine C.cmp rfl (λrW=>?_) (λrW=>?_)
    ·refine cW ?_;refine C.cmp rfl (λSW=>?_) (λSW=>?_)
     ·refine nO ?_;refine wP.cls w ?_;have e1:mY w.abs k a c0=(w.abs,4):=by unfold mY;rw[ao Di,ao dJ,aK rW,aK (.inl SW)]
      rw[e1]at aj;exact C.bk aJ aj ⟨I,w,Sub.refl _,hI,rfl,rfl,rfl⟩
     ·refine dV ?_;refine C.cmp rfl (λWv=>?_) (λWv=>?_)
      ·refine dH ?_;refine wP.cls w ?_;have e1:mY w.abs k a c0=(w.abs,4):=by unfold mY;rw[ao Di,ao dJ,aK rW,aK (.inr (by rw[WV.jL];exact Wv))]
       rw[e1]at aj;exact C.bk aJ aj ⟨I,w,Sub.refl _,hI,rfl,rfl,rfl⟩
      ·refine dN ?_;obtain⟨q,rfl⟩:=gR (show 0<=a by omega);have q7:q<w.aL.length:=az;have ZY:¬ ((q:Int)<0\/(w.abs.aL.length:Int)<=q):=by rw[WV.jL];omega
       refine dH ?_;refine C.cmp rfl (λNN=>?_) (λNN=>?_)
       ·refine dD ?_;refine wP.cls w ?_;have e1:mY w.abs k q c0=(w.abs,3):=by unfold mY;rw[ao Di,ao dJ,aK rW,ao ZY,aK (by rw[WV.fA];omega)]
        rw[e1]at aj;exact C.bk aJ aj ⟨I,w,Sub.refl _,hI,rfl,rfl,rfl⟩
       ·refine dD ?_;have wT:w.abs.aL[q]? =some w.aL[q].toTxR:=by simp[WV.abs,q7]
        have htb:=hb.GC _ (eY wT);have hn:=hb.n;rw[WV.mU]at hn;refine wP.cls w ?_;refine C.dv (vT (tx:=q) hI hn az q7 htb) ?_;rintro v aN rfl;refine rS ?_;have e1:mY w.abs k q c0=(({w with aE:=w.aE++[E1 w w.aL[q] q]}:WV).abs,0):=by unfold mY;rw[ao Di,ao dJ,aK rW,ao ZY,ao (by rw[WV.fA];omega)];simp only[g5,mH,wT];simp[WV.abs,E1]
        rw[e1]at aj;refine C.bk aJ aj ⟨I,{w with aE:=w.aE++[E1 w w.aL[q] q]},Sub.refl _,⟨hI.sh,λm hm=>?_,hI.aL⟩,rfl,rfl,rfl⟩;rcases bU.1 hm with hm|hm
        ·exact hI.aE m hm
        ·obtain rfl:=dF.1 hm;exact⟨(hI.aL _ (br q7)).o,.nil ..⟩
    ·refine cW ?_;refine C.cmp rfl (λEr=>?_) (λEr=>?_)
     ·refine dH ?_;refine wP.cls w ?_;refine C.dv (zJ (k:=k) (i:=a) hI hb rU) ?_;rintro v aN ⟨I',w',hS,rC,HO,rfl,rfl⟩;refine jK ?_;have e1:mY w.abs k a c0=cD w.abs k a:=by unfold mY;rw[ao Di,ao dJ,ao rW,aK Er]
      rw[e1]at aj;exact C.bk aJ aj ⟨I',w',hS,rC,HO,rfl,rfl⟩
     ·refine cW ?_;refine C.cmp rfl (λKc=>?_) (λKc=>?_)
      ·refine nO ?_;refine wP.cls w ?_;have e1:mY w.abs k a c0=(w.abs,6):=by unfold mY;rw[ao Di,ao dJ,ao rW,ao Er,aK (.inl Kc)]
       rw[e1]at aj;exact C.bk aJ aj ⟨I,w,Sub.refl _,hI,rfl,rfl,rfl⟩
      ·refine dV ?_;refine C.cmp rfl (λOj=>?_) (λOj=>?_)
       ·refine dH ?_;refine wP.cls w ?_;have e1:mY w.abs k a c0=(w.abs,6):=by unfold mY;rw[ao Di,ao dJ,ao rW,ao Er,aK (.inr (by rw[WV.mU];rw[cV]at Oj;exact Oj))]
        rw[e1]at aj;exact C.bk aJ aj ⟨I,w,Sub.refl _,hI,rfl,rfl,rfl⟩
       ·refine dN ?_;obtain⟨q,rfl⟩:=gR (show 0<=a by omega);have wQ:q<w.sh.length:=by rw[cV]at Oj;omega
        have ZY:¬ ((q:Int)<0\/(w.abs.sh.length:Int)<=q):=by rw[WV.mU];omega
        have Jg:w.abs.sh[((q:Nat):Int).toNat]? =some w.sh[q].2.abs:=by simp[WV.abs,wQ]
        have Pl:=hb.sh _ (eY Jg);have Tb:=hI.sh _ (br wQ);have WB:=Pl.1.v;have FU:=KF (c:=c0) Di dJ rW Er ZY Jg;refine dH ?_;refine C.kJ rfl ?_ (hj:=by rw[cV];exact wQ);refine C.nL rfl ?_ (j:=q) (l:=w.sh.map (·.1)) (hj:=by rw[cV];exact wQ);refine bJ ?_;simp only[pR];refine j7 (f:=nP) wQ Fo.au ?_;refine At.turn (A:=nP w.sh[q]) (A':=cY w.sh[q].1 w.sh[q].2) Fo.au (λ_ h=>h) ?_;refine cY.opn (b:=w.sh[q].1) (s:=w.sh[q].2) (h:=λlg vl lk un tm wt ot=>?_);refine bJ ?_;refine C.cmp rfl (λYJ=>?_) (λYJ=>?_)
        ·refine kE ?_;refine C.xA (λVk=>?_) (λVk=>?_)
         ·refine cW ?_;refine cY.cls (b:=w.sh[q].1) w.sh[q].2 ?_;refine mF (f:=nP) (l:=w.sh) wQ w.sh[q] dB.au ?_;rw[lO];refine wP.cls w ?_;have e1:mY w.abs k q c0=(w.abs,8):=by rw[FU,aK YJ,aK (show w.sh[q].2.abs.up=true from Vk)]
          rw[e1]at aj;exact C.bk aJ aj ⟨I,w,Sub.refl _,hI,rfl,rfl,rfl⟩
         ·refine dN ?_;refine cY.cls (b:=w.sh[q].1) w.sh[q].2 ?_;refine C.dv (Cc (b:=w.sh[q].1) (s:=w.sh[q].2) Tb WB (by have:=Pl.2.1;rwa[wU]at this)) ?_;rintro v aN ⟨I2,s2,Cb,jO,Lw,rfl⟩;refine rS ?_;refine mF (f:=nP) (l:=w.sh) wQ (w.sh[q].1,s2) dB.au ?_;have rq:=qG w.sh q wQ s2;refine At.turn (A:=a9 ek 1 54 sh (w.sh.map (·.1))) (A':=a9 ek 1 54 sh ((w.sh.set q (w.sh[q].1,s2)).map (·.1))) Fo.au (λ_ h=>by rw[<- rq];exact h) ?_;refine wP.cls {w with sh:=w.sh.set q (w.sh[q].1,s2)} ?_;have e1:mY w.abs k q c0=(({w with sh:=w.sh.set q (w.sh[q].1,s2)}:WV).abs,0):=by rw[FU,aK YJ,ao (show¬ w.sh[q].2.abs.up=true by show¬ w.sh[q].2.up=true;simp[Vk]),<- Lw];simp[WV.abs,j1]
          rw[e1]at aj;refine C.bk aJ aj ⟨I2,{w with sh:=w.sh.set q (w.sh[q].1,s2)},Cb,⟨λp hp=>?_,λm hm=>(hI.aE m hm).mono Cb,λt ht=>(hI.aL t ht).mono Cb⟩,rfl,rfl,rfl⟩;rcases fN hp with h|rfl
          ·exact(hI.sh p h).mono Cb
          ·exact jO
        ·refine kL ?_;refine C.xA (λVl=>?_) (λVl=>?_)
         ·refine cW ?_;refine cY.cls (b:=w.sh[q].1) w.sh[q].2 ?_;refine mF (f:=nP) (l:=w.sh) wQ w.sh[q] dB.au ?_;rw[lO];refine wP.cls w ?_;have ed:w.sh[q].2.abs.up=false:=by show w.sh[q].2.up=false;simpa using Vl
          have e1:mY w.abs k q c0=(w.abs,7):=by rw[FU,ao YJ,aK (by rw[ed];rfl)]
          rw[e1]at aj;exact C.bk aJ aj ⟨I,w,Sub.refl _,hI,rfl,rfl,rfl⟩
         ·refine C.go ?_;have ed:¬ (!w.sh[q].2.abs.up)=true:=by show¬ (!w.sh[q].2.up)=true;simpa using Vl
          rw[ao YJ,ao ed]at FU;refine cY.cls (b:=w.sh[q].1) w.sh[q].2 ?_;apply xB (X:=HL×eS) (λx=>Sub I x.1/\uv x.1 x.2/\x.2.out.length<2^34/\mY w.abs k q c0=(lj w.abs q x.2.abs,0)) (λ_=>[(0,.pointer (some ⟨b,0,none⟩)),(9,.pointer (some ⟨w.sh[q].1,0,none⟩))]) (λx=>bR b (.cells #[sh.v,bg.v,pO.v,.bool w.ai] 53 (0,0))::a9 ek 1 54 sh (w.sh.map (·.1))::a9 bN 7 137 bg w.aE::a9 qZ 3 71 pO w.aL::cY w.sh[q].1 x.2::all ((w.sh.eraseIdx q).map nP)::a7 x.1::F) (R:=R) (d:=d) (fn:=74) (kd:=kd) (n:=102) (ds:=[]) (cs:=c::cs)
          ·intro Ox;refine cW ?_;refine C.cmp rfl (λYK=>?_) (λYK=>?_)
           ·refine dD ?_;refine C.dv (KA (b:=w.sh[q].1) (s:=w.sh[q].2) WB) ?_;rintro v aN rfl;refine k6 ?_;refine cZ Ox (I,{w.sh[q].2 with aX:=w.sh[q].2.log.length,out:=w.sh[q].2.out++w.sh[q].2.waits,waits:=[]}) ⟨Sub.refl _,⟨Tb.log,Tb.cg,λx hx=>(by cases hx),λx hx=>?_⟩,?_,?_⟩
            ·rcases bU.1 hx with h|h
             ·exact Tb.out x h
             ·exact Tb.waits x h
            ·have h1:=WB.out;have h2:=WB.waits;simp only[jd];omega
            ·rw[FU,aK YK];simp[xD,eS.abs]
           ·refine cW ?_;refine C.cmp rfl (λZZ=>?_) (λZZ=>?_)
            ·refine kL ?_;refine C.cmp rfl (λh91=>?_) (λh91=>?_)
             ·refine dD ?_;refine mF (f:=nP) (l:=w.sh) wQ w.sh[q] dB.au ?_;rw[lO];refine wP.cls w ?_;have e1:mY w.abs k q c0=(w.abs,3):=by rw[FU,ao YK,aK ZZ,aK (by rw[WV.fA];omega)]
              rw[e1]at aj;exact C.bk aJ aj ⟨I,w,Sub.refl _,hI,rfl,rfl,rfl⟩
             ·refine cW ?_;refine C.dv (KD (b:=w.sh[q].1) (s:=w.sh[q].2) Tb Pl.2.2) ?_;rintro v aN ⟨I2,s2,Cb,jO,Lw,rfl⟩;refine k6 ?_;refine cZ Ox (I2,s2) ⟨Cb,jO,?_,?_⟩
              ·have h1:=(A0 (rm {w.sh[q].2.abs with clock:=w.sh[q].2.abs.clock+1}+1) _ Pl.2.2).b.out;have h3:iE (rm {w.sh[q].2.abs with clock:=w.sh[q].2.abs.clock+1}+1) {w.sh[q].2.abs with clock:=w.sh[q].2.abs.clock+1}=s2.abs:=Lw.symm;rw[h3]at h1;have h2:s2.abs.out.length=s2.out.length:=by simp[eS.abs]
               dsimp only;omega
              ·rw[FU,ao YK,aK ZZ,ao (by rw[WV.fA];omega),Lw];rfl
            ·refine cW ?_;refine C.cmp rfl (λh95=>?_) (λh95=>?_)
             ·refine dH ?_;refine C.dv (Hc (b:=w.sh[q].1) (s:=w.sh[q].2) (k:=c0) WB) ?_;rintro v aN rfl;refine k6 ?_;refine cZ Ox (I,{w.sh[q].2 with up:=false,aX:=gH w.sh[q].2 c0,log:=w.sh[q].2.log.take (gH w.sh[q].2 c0).toNat,bD:=gX,aH:=[],under:=[],timers:=[],waits:=[],clock:=0}) ⟨Sub.refl _,⟨λr hr=>Tb.log r (LY hr),λx hx=>(by cases hx),λx hx=>(by cases hx),Tb.out⟩,?_,?_⟩
              ·have h1:=WB.out;dsimp only;omega
              ·rw[FU,ao YK,ao ZZ,<- KB];rfl
             ·refine dN ?_;exact absurd h95 az
          ·rintro⟨I2,s2⟩ ⟨Cb,jO,Sz,Rk⟩ e;dsimp only at Cb jO Sz Rk⊢;refine dN ?_;refine C.dv (yR (b:=b) (p:=w.sh[q].1) (bg:=bg) (aE:=w.aE) (s:=s2) az Sz) ?_;rintro v aN ⟨ZT,rfl⟩;refine rS ?_;refine mF (f:=nP) (l:=w.sh) wQ (w.sh[q].1,{s2 with out:=[]}) dB.au ?_;have rq:=qG w.sh q wQ {s2 with out:=[]};refine At.turn (A:=a9 ek 1 54 sh (w.sh.map (·.1))) (A':=a9 ek 1 54 sh ((w.sh.set q (w.sh[q].1,{s2 with out:=[]})).map (·.1))) Fo.au (λ_ h=>by rw[<- rq];exact h) ?_;refine wP.cls {w with aE:=w.aE++s2.out,sh:=w.sh.set q (w.sh[q].1,{s2 with out:=[]})} ?_ (bg:=ZT);have e1:mY w.abs k q c0=(({w with aE:=w.aE++s2.out,sh:=w.sh.set q (w.sh[q].1,{s2 with out:=[]})}:WV).abs,0):=by have Rk:mY w.abs k q c0=(lj w.abs q s2.abs,0):=Rk;rw[Rk];simp[lj,WV.abs,eS.abs,j1]
           rw[e1]at aj;refine C.bk aJ aj ⟨I2,{w with aE:=w.aE++s2.out,sh:=w.sh.set q (w.sh[q].1,{s2 with out:=[]})},Cb,⟨λp hp=>?_,λm hm=>?_,λt ht=>(hI.aL t ht).mono Cb⟩,rfl,rfl,rfl⟩
           ·rcases fN hp with h|rfl
            ·exact(hI.sh p h).mono Cb
            ·exact⟨jO.log,jO.cg,jO.waits,λx hx=>by cases hx⟩
           ·rcases bU.1 hm with h|h
            ·exact(hI.aE m h).mono Cb
            ·exact jO.out m h
theorem Ce{I:HL}{b:Nat}{w:WV}{i:Int}(hI:WI I w)(um:w.aL.length<2^40):aD prog ak bQ 167 #[.pointer (some ⟨b,0,none⟩),aI i] [wP b w,a7 I]
  (λv As=>∃ (st:Int) (rs:ay) (rd:List Int),v=.tuple #[aI st,rs.v]/\dS I eE 3 rs rd/\(st,rd)=(if i<0\/(w.aL.length:Int)<=i then(0,[])else match w.abs.aL[i.toNat]? with|some t=>(t.state,t.reads)|none=>(0,[]))/\As=[wP b w,a7 I]):=by
 refine aD.of λR C kd d F c cs aJ aj=>?_;refine bM ?_;refine wP.opn (h:=λsh bg pO=>?_);refine dV ?_;refine C.cmp rfl (λh7=>?_) (λh7=>?_)
 ·refine jr ?_;refine wP.cls w ?_;exact C.bk aJ aj ⟨0,aG,[],rfl,.nil ..,by rw[aK (.inl h7)],rfl⟩
 ·refine dV ?_;refine C.cmp rfl (λpN=>?_) (λpN=>?_)
  ·refine dV ?_;refine wP.cls w ?_;exact C.bk aJ aj ⟨0,aG,[],rfl,.nil ..,by rw[aK (.inr pN)],rfl⟩
  ·refine dN ?_;obtain⟨q,rfl⟩:=gR (show 0<=i by omega);have hq:q<w.aL.length:=az;have wT:w.abs.aL[((q:Nat):Int).toNat]? =some w.aL[q].toTxR:=by simp[WV.abs,hq]
   refine C.dx (cG 17 0 16++[(4,16),(5,17)]) 18 [] 0 ?_;refine gg ?_;refine CJ ?_;refine Dr.chain rfl ?_;refine eQ ?_;refine wP.cls w ?_;exact C.bk aJ aj ⟨w.aL[q].state,w.aL[q].sr,w.aL[q].reads,rfl,(hI.aL _ (br hq)).r,by rw[ao az,wT],rfl⟩
theorem mV{b:Nat}{w:WV}{i:Int}:aD prog ak bQ 122 #[.pointer (some ⟨b,0,none⟩),aI i] [wP b w]
  (λv As=>((i<0\/(w.sh.length:Int)<=i)/\v=.pointer none\/∃ (q:Nat) (hq:q<w.sh.length),i=q/\v=.pointer (some ⟨w.sh[q].1,0,none⟩))/\As=[wP b w]):=by
 refine aD.of λR C kd d F c cs aJ aj=>?_;refine bM ?_;refine wP.opn (h:=λsh bg pO=>?_);refine dH ?_;refine C.cmp rfl (λh6=>?_) (λh6=>?_)
 ·refine nO ?_;refine wP.cls w ?_;exact C.bk aJ aj ⟨.inl ⟨.inl h6,rfl⟩,rfl⟩
 ·refine dV ?_;refine C.cmp rfl (λpM=>?_) (λpM=>?_)
  ·refine dH ?_;refine wP.cls w ?_;exact C.bk aJ aj ⟨.inl ⟨.inr (by rw[cV]at pM;exact pM),rfl⟩,rfl⟩
  ·refine dN ?_;obtain⟨q,rfl⟩:=gR (show 0<=i by omega);have hq:q<w.sh.length:=by rw[cV]at pM;omega
   refine dH ?_;refine C.kJ rfl ?_ (hj:=by rw[cV];exact hq);refine C.nL rfl ?_ (j:=q) (l:=w.sh.map (·.1)) (hj:=by rw[cV];exact hq);refine bJ ?_;refine wP.cls w ?_;exact C.bk (v:=.pointer (some ⟨(w.sh.map (·.1))[q]'(by rw[cV];exact hq),0,none⟩)) aJ aj ⟨.inr ⟨q,hq,rfl,by rw[pR]⟩,rfl⟩
variable{P:bL}{B:jW}{W:List HP}
variable{fn:bI}{kd:Kd}{n:Nat}{e:Nat->Value}{ds:List dQ}{k:List Item}{cs:List Frame}
variable{ops:Array Oper}{aa:List Nat}{t:Nat}{ty:aQ}{pos:String}{af:Array Edge}{gd:Option (Nat×Bool)}{x:cA}{v:Value}{b off:Nat}{c:Array Value}{el tt:aQ}
theorem Ext.Hf{I:HL}{o:Obj}(h:Ext As W)(hf:Fo (a7 I) W L)(hI:I b=some o):Kn As b o:=λ_ st=>((h _ st).perm hf.perm).oJ hI
theorem ab.ldK(C:ab P ak B R){fr:Nat×Nat}[Ag P tt false](hk:Kn As b (.cells c el fr))(hs:b<B.bot)(hc:c[off]? =some v)(ho:aZ ops i=some ⟨some t,.load tt x,ty,pos,af,gd⟩)(h:At R d As (gr fn kd n (put e t v) ds (.inRegion ops aa::k) cs))
  (hx:ev n e x=.pointer (some ⟨b,off,none⟩):=by rfl) (hw:aM ops n e gd=true:=by rfl):At R d As (gr fn kd n e ds (.inRegion ops (i::aa)::k) cs):=
 C.gen ho hw λH st=>by unfold execOp;simp only[hx,Instr.loadAt,Instr.sureAddr];exact ah (ah (aA (Bt (hk _ st) hc hs ⟨As,st,h⟩)))
def yT{α:Type}(I:HL)(bot:Nat)(f:α->List Value)(z:Nat)(v:Value)(l:List α):Prop:=
 ∃ (a:Option Addr) (cap:Nat),v=.slice a l.length cap/\(l=[]\/∃ b off c ty fr,a=some ⟨b,off,none⟩/\I b=some (.cells c ty fr)/\b<bot/\∀ j (hj:j<l.length) o,o<z->c[off+j*z+o]? =(f l[j])[o]?)
theorem yT.mono{α:Type}{I I':HL}{bot:Nat}{f:α->List Value}{z:Nat}{v:Value}{l:List α}(h:yT I bot f z v l)(hs:Sub I I'):yT I' bot f z v l:=by
 obtain⟨a,cap,h1,h2⟩:=h;refine⟨a,cap,h1,?_⟩;rcases h2 with h2|⟨b,off,c,ty,fr,h3,h4,h5⟩
 ·exact .inl h2
 ·exact .inr ⟨b,off,c,ty,fr,h3,hs _ _ h4,h5⟩
def Z0(o:cr):Prop:=(-9223372036854775808<=o.k/\o.k<=9223372036854775807)/\(-9223372036854775808<=o.v/\o.v<=9223372036854775807)
def qH(o:cr):cr:=⟨o.w,IntKind.u8.wrap o.k,IntKind.i32.wrap o.v⟩
theorem Hg(p:Int):0<=IntKind.u8.wrap p/\IntKind.u8.wrap p<=255:=by rw[IntKind.wrap_u8];omega
theorem Cf(p:Int): -2147483648<=IntKind.i32.wrap p/\IntKind.i32.wrap p<=2147483647:=by rw[IntKind.wrap_i32];omega
def A3(a b:Int):Int:=(if a<0 then 0-(a+1)else a).tmod b
theorem A4{a b:Int}(hb:0<b):0<=A3 a b/\A3 a b<b:=by unfold A3;refine⟨Int.tmod_nonneg _ ?_,Int.tmod_lt_of_pos _ hb⟩;split<;>omega
theorem A5{a b:Int}(ha: -9223372036854775808<=a/\a<=9223372036854775807)(hb:0<b):aD prog ak bQ 15 #[aI a,aI b] [] (λv As=>v=aI (A3 a b)/\As=[]):=by
 refine aD.of λR C kd d F c cs aJ aj=>?_;refine zB ?_;refine dH ?_;refine C.cmp rfl (λh6=>?_) (λh6=>?_)
 ·refine cW ?_;refine C.ar (p:=a) (q:=1) (r:=a+1) rfl ?_;refine C.ngI rfl ?_ (p:=a+1) (r:=0-(a+1)) (hr:=xp az az);refine dD ?_;refine C.rem rfl ?_;refine bJ ?_;exact C.bk aJ aj ⟨by unfold A3;rw[aK h6],rfl⟩
 ·refine dD ?_;refine C.rem rfl ?_;refine bJ ?_;exact C.bk aJ aj ⟨by unfold A3;rw[ao h6],rfl⟩
theorem KG{σ:Gh}{I:HL}{v:Value}{ops:List cr}(hi:yT I σ.bot fX 3 v ops)(hz:∀ o∈ops,Z0 o)(hl:ops.length*24<=140737488355328):
  aD prog true (bP.bw σ) 17 #[v] [a7 I] (λu As=>∃ s':ay,u=s'.v/\As=[a9 fX 3 63 s' (ops.map qH),a7 I]):=by
 refine aD.of λR C kd d F c cs aJ aj=>?_;refine bM ?_;obtain⟨a,cap,hv,jC⟩:=hi;subst hv;refine C.go ?_;refine At.aG fX 3 63 (show At R d (a9 fX 3 63 aG ((ops.take 0).map qH)::_) _ from ?_);refine kL ?_;refine C.cx (X:=Nat×ay) (λx=>[(0,.slice a ops.length cap),(2,aG.v),(3,x.2.v),(4,aI x.1)]) (λx=>a9 fX 3 63 x.2 ((ops.take x.1).map qH)::a7 I::F) (λx=>x.1<=ops.length) (λx=>ops.length-x.1) (0,aG) ⟨rfl,rfl,rfl,rfl,trivial⟩ (eK _) ?_;rintro⟨i,s⟩ e hi ih;dsimp only at hi⊢;refine cW ?_;refine C.ln rfl ?_;refine C.cmp rfl (λh8=>?_) (λh8=>?_)
 ·refine bJ ?_;have hj:i<ops.length:=az;rcases jC with rfl|⟨b,off,cc,ty,fr,rfl,hI,rJ,su⟩
  ·exact absurd hj (by simp)
  have h0:=su i hj 0 (by decide);have h1:=su i hj 1 (by decide);have h2:=su i hj 2 (by decide);have P0:=hz _ (br hj);obtain⟨o,ho⟩:∃ o,o=ops[i]:=⟨_,rfl⟩;rw[<- ho]at h0 h1 h2 P0;have hlen:((ops.take i).map qH).length=i:=by simp;omega
  have CN:(ops.take i).map qH++[qH o]=(ops.take (i+1)).map qH:=by rw[ho,gQ hj,eF];rfl
  refine C.dx (cG 11 0 23++[(3,23)]) 24 [21,22,23] 1 ?_;refine CH ?_;refine Dr.l (λhE h=>C.ia (j:=(i:Int)) (o:=off+i*3) rfl h (hoff:=by simp)) ?_;refine lS ?_;refine Dr.l (λhE h=>C.ldK (hE.Hf Fo.au hI) rJ h0 rfl h) ?_;refine Ar ?_;refine Dr.l (λhE h=>C.ia (j:=(i:Int)) (o:=off+i*3) rfl h (hoff:=by simp)) ?_;refine lS ?_;refine Dr.l (λhE h=>C.ldK (hE.Hf Fo.au hI) rJ h1 rfl h) ?_;refine Dr.p (λh=>C.cv (k1:=.i64) (k2:=.u8) (p:=o.k) (r:=IntKind.u8.wrap o.k) rfl h (hr:=rfl)) ?_;refine Dr.p (λh=>C.cv (k1:=.u8) (k2:=.i64) (p:=IntKind.u8.wrap o.k) (r:=IntKind.u8.wrap o.k) rfl h (hr:=xp (by have:=Hg o.k;omega) (by have:=Hg o.k;omega))) ?_;refine Ar ?_;refine Dr.l (λhE h=>C.ia (j:=(i:Int)) (o:=off+i*3) rfl h (hoff:=by simp)) ?_;refine lS ?_;refine Dr.l (λhE h=>C.ldK (hE.Hf Fo.au hI) rJ h2 rfl h) ?_;refine Dr.p (λh=>C.cv (k1:=.i64) (k2:=.i32) (p:=o.v) (r:=IntKind.i32.wrap o.v) rfl h (hr:=rfl)) ?_;refine Dr.p (λh=>C.cv (k1:=.i32) (k2:=.i64) (p:=IntKind.i32.wrap o.v) (r:=IntKind.i32.wrap o.v) rfl h (hr:=xp (by have:=Cf o.v;omega) (by have:=Cf o.v;omega))) ?_;refine xY ?_;refine Ch.m 21 (aW λe aa hk=>?_);refine C.nj rfl (λb32=>hk _ _ .cons ?_);refine Ch.m 22 (aW λe aa hk=>?_);refine C.nM (f:=fX) (qH o) rfl (λs2=>?_) (hsz:=by rw[hlen];omega);refine hk _ _ ?_;refine Ch.q 23 (λh=>C.kH rfl h) ?_;refine Qt ?_;rw[CN];refine again ih (i+1,s2) (dI) (dI)
 ·refine dH ?_;have JW:i=ops.length:=az;subst JW;rw[HI];exact C.bk aJ aj ⟨s,rfl,rfl⟩
theorem Hh{I:HL}{so:ay}{ops:List cr}(hi:dS I fX 63 so ops)(hz:∀ o∈ops,(0<=o.k/\o.k<=255)/\(-2147483648<=o.v/\o.v<=2147483647))(hl:ops.length*8<=140737488355328):
  aD prog ak bQ 19 #[so.v] [a7 I] (λu As=>∃ s':ay,u=s'.v/\As=[a9 cF 3 67 s' ops,a7 I]):=by
 refine aD.of λR C kd d F c cs aJ aj=>?_;refine k6 ?_;refine At.aG cF 3 67 (show At R d (a9 cF 3 67 aG (ops.take 0)::_) _ from ?_);refine kL ?_;refine C.cx (X:=Nat×ay) (λx=>[(0,so.v),(2,aG.v),(3,x.2.v),(4,aI x.1)]) (λx=>a9 cF 3 67 x.2 (ops.take x.1)::a7 I::F) (λx=>x.1<=ops.length) (λx=>ops.length-x.1) (0,aG) ⟨rfl,rfl,rfl,rfl,trivial⟩ (eK _) ?_;rintro⟨i,s⟩ e Hi ih;dsimp only at Hi⊢;refine dD ?_;refine C.cmp rfl (λh8=>?_) (λh8=>?_)
 ·refine bJ ?_;have hj:i<ops.length:=az;have P0:=hz _ (br hj);have hlen:(ops.take i).length=i:=by simp;omega
  have CN:ops.take i++[ops[i]]=ops.take (i+1):=by rw[gQ hj]
  refine C.dx (cG 11 0 21++[(3,21)]) 22 [19,20,21] 1 ?_;refine Nr ?_;refine Dr.l (λhE h=>C.vI (f:=fX) (s:=so) (l:=ops) (j:=i) (o:=0) rfl h (hr:=dt.ext hE (.a7 Fo.au hi))) ?_;refine JF ?_;refine Dr.l (λhE h=>C.vI (f:=fX) (s:=so) (l:=ops) (j:=i) (o:=1) rfl h (hr:=dt.ext hE (.a7 Fo.au hi))) ?_;refine Nr ?_;refine Dr.l (λhE h=>C.vI (f:=fX) (s:=so) (l:=ops) (j:=i) (o:=2) rfl h (hr:=dt.ext hE (.a7 Fo.au hi))) ?_;refine wm ?_;refine Ch.m 19 (aW λe aa hk=>?_);refine C.nj rfl (λb30=>hk _ _ .cons ?_);refine Ch.m 20 (aW λe aa hk=>?_);refine C.nM (f:=cF) ops[i] rfl (λs2=>?_) (hsz:=by rw[hlen];omega);refine hk _ _ ?_;refine Ch.q 21 (λh=>C.kH rfl h) ?_;refine Qt ?_;rw[CN];refine again ih (i+1,s2) (dI) (dI)
 ·refine dH ?_;have JW:i=ops.length:=az;subst JW;rw[HI];exact C.bk aJ aj ⟨s,rfl,rfl⟩
instance:ef prog 106 f106 ((Extern.find f106).getD λ_=>pure undef):=⟨func106,rfl,rfl,by kernel_rfl,by kernel_rfl⟩
instance:ef prog 264 f264 ((Extern.find f264).getD λ_=>pure undef):=⟨func264,rfl,rfl,by kernel_rfl,by kernel_rfl⟩
abbrev Cg(t:aQ):Value:=.pointer (some ⟨10,t,none⟩)
abbrev Oy(t:aQ):Value:=.iface 231 (.agg #[Cg t])
theorem Vm(t:aQ):typeHandle prog t=Cg t:=by
 have:prog.globals.size=10:=by kernel_rfl
 unfold typeHandle;rw[this]
theorem Hj{v:Value}:fD prog (((Extern.find f106).getD λ_=>pure undef) ([.iface 339 v]:List Value).toArray)=some (Oy 339):=by kernel_rfl
theorem YL:fD prog (method (prog.types.size+Made.depth) 231 (.agg #[Cg 339]) "Comparable")=some (264,.agg #[Cg 339]):=by kernel_rfl
theorem YM:fD prog (((Extern.find f264).getD λ_=>pure undef) (#[.agg #[Cg 339]]++([]:List Value).toArray))=some (.bool true):=by kernel_rfl
theorem IP{s:String}{sig:aQ}{got:Array Method}(h:(got.toList.any λm=>m.name==s&&m.sig==sig)=false):∃ mm,Instr.missingMethod #[(s,sig)] got=some mm:=by
 have h':(got.any λm=>m.name==s&&m.sig==sig)=false:=by rw[<- h];simp
 unfold Instr.missingMethod;simp only[tD,C8,h',Bg,eM,iJ,m1];cases hc:s.contains (Char.ofNat 46)
 ·exact⟨s,by simp only[List.partition,List.partition.loop,hc];rfl⟩
 ·exact⟨(s.splitOn ".").getLastD s,by simp only[List.partition,List.partition.loop,hc];rfl⟩
theorem YN{s:String}{sig:aQ}{got:Array Method}(h:(got.toList.any λm=>m.name==s&&m.sig==sig)=true):Instr.missingMethod #[(s,sig)] got=none:=by
 have h':(got.any λm=>m.name==s&&m.sig==sig)=true:=by rw[<- h];simp
 unfold Instr.missingMethod;simp[h',Instr.least]
theorem jb{bE:Nat}{nm w:Value}{at_:Int}:aD prog ak bQ 58 #[aF bE] [bR bE (.cells #[nm,aI at_,w] 132 (0,0))] (λv As=>v=w/\As=[bR bE (.cells #[nm,aI at_,w] 132 (0,0))]):=by refine aD.of λR C kd d F c cs aJ aj=>?_;refine bM ?_;refine m4 ?_;exact C.bk aJ aj ⟨rfl,rfl⟩
theorem YO{bE:Nat}:fD prog (method (prog.types.size+Made.depth) 128 (aF bE) "Unwrap")=some (58,aF bE):=by kernel_rfl
instance:Pt prog 339 359:=⟨underlying339⟩
instance:Cz prog 359 1:=⟨_,ax type359,rfl⟩
theorem Oz{I:HL}{eb:Nat->Nat×Nat}(hE:ig I eb){bE j k:Nat}(hj:j<9)(hk:k<9){nm:Value}{at_:Int}:aD prog ak bQ 107 #[.iface 128 (aF bE),gV (eb j),.bool true] [bR bE (.cells #[nm,aI at_,gV (eb k)] 132 (0,0)),a7 I]
  (λv As=>v=.bool (decide (k=j))/\As=[bR bE (.cells #[nm,aI at_,gV (eb k)] 132 (0,0)),a7 I]):=by
 refine aD.of λR C kd d F c cs aJ aj=>?_;refine bM ?_;obtain⟨cj,tj,hcj⟩:=hE.e j hj;obtain⟨ck,tk,Ci⟩:=hE.e k hk;refine cW ?_;refine C.lp ?_;refine dH ?_;refine C.eqN underlying46 rfl ?_;obtain⟨mm1,hm1⟩:=IP (s:= "Is") (sig:=242) (got:=t128.methods) (by kernel_rfl);obtain⟨mm2,hm2⟩:=IP (s:= "Is") (sig:=242) (got:=t339.methods) (by kernel_rfl);refine dD ?_;refine C.ZC underlying240 (ax type128) hm1 ⟨_,ax type240,rfl⟩ rfl ?_;refine jr ?_;refine cW ?_;refine C.taY underlying238 (ax type128) (YN (by kernel_rfl)) rfl ?_;refine kL ?_;refine C.Wj YO jb ?_;rintro v aN ⟨rfl,rfl⟩;refine rS ?_;refine C.Qh underlying46 rfl ?_;refine bJ ?_;refine C.TQ ?_;refine dH ?_;refine C.Qg underlying46 (ax type339) rfl rfl ?_ (λH s=>(s.perm (Fo.perm (show Fo (a7 I) _ _ from Fo.au))).oJ Ci) (λH s=>(s.perm (Fo.perm (show Fo (a7 I) _ _ from Fo.au))).oJ hcj);by_cases XI:k=j
 ·subst XI;rw[show(decide ((eb k).1=(eb k).1/\(eb k).2=(eb k).2)==true)=true by simp];refine dH ?_;refine C.bk aJ aj ⟨?_,rfl⟩;simp
 ·rw[show(decide ((eb k).1=(eb j).1/\(eb k).2=(eb j).2)==true)=false by rw[beq_true,decide_eq_false_iff_not];rintro⟨h1,h2⟩;exact XI (hE.inj k j hk hj (Prod.ext h1 h2))]
  refine dD ?_;refine C.ZC underlying240 (ax type339) hm2 ⟨_,ax type240,rfl⟩ rfl ?_;refine jr ?_;refine cW ?_;refine C.ZC underlying238 (ax type339) (IP (by kernel_rfl)).choose_spec ⟨_,ax type238,rfl⟩ rfl ?_;refine dD ?_;refine C.ZC underlying239 (ax type339) (IP (by kernel_rfl)).choose_spec ⟨_,ax type239,rfl⟩ rfl ?_;refine i6 ?_;refine C.bk aJ aj ⟨?_,rfl⟩;simp[XI]
theorem OA{I:HL}{eb:Nat->Nat×Nat}(hE:ig I eb){bE j k:Nat}(hj:j<9)(hk:k<9){nm:Value}{at_:Int}:aD prog ak bQ 60 #[.iface 128 (aF bE),gV (eb j)] [bR bE (.cells #[nm,aI at_,gV (eb k)] 132 (0,0)),a7 I]
  (λv As=>v=.bool (decide (k=j))/\As=[bR bE (.cells #[nm,aI at_,gV (eb k)] 132 (0,0)),a7 I]):=by
 refine aD.of λR C kd d F c cs aJ aj=>?_;refine JG ?_;refine C.Qh underlying46 rfl ?_;refine bJ ?_;refine C.Qh underlying46 rfl ?_;refine dD ?_;refine C.x0 (f:=106) (v:=Oy 339) Hj rfl ?_;refine C.Wi YL YM ?_;refine dH ?_;refine C.cE (Oz hE hj hk) ?_;refine jK ?_;exact C.bk aJ aj ⟨rfl,rfl⟩
instance:ef prog 102 f102 (λargs=>Extern.ReflectliteValue.unpack (args.getD 0 (.tuple #[]))):=⟨func102,rfl,rfl,by kernel_rfl,by kernel_rfl⟩
instance:ef prog 103 f103 ((Extern.find f103).getD λ_=>pure undef):=⟨func103,rfl,rfl,by kernel_rfl,by kernel_rfl⟩
instance:ef prog 104 f104 (Extern.ReflectliteValue.method (Extern.ReflectliteValue.valueError "reflectlite.Value.IsNil" 0) Extern.ReflectliteValue.isNil):=⟨func104,rfl,rfl,by kernel_rfl,by kernel_rfl⟩
instance:ef prog 150 f150 (Extern.ReflectliteValue.method (Extern.ReflectliteValue.valueError "reflectlite.Value.Elem" 0) Extern.ReflectliteValue.elem):=⟨func150,rfl,rfl,by kernel_rfl,by kernel_rfl⟩
instance:ef prog 151 f151 Extern.ReflectliteValue.set:=⟨func151,rfl,rfl,by kernel_rfl,by kernel_rfl⟩
instance:ef prog 265 f265 ((Extern.find f265).getD λ_=>pure undef):=⟨func265,rfl,rfl,by kernel_rfl,by kernel_rfl⟩
instance:ef prog 266 f266 ((Extern.find f266).getD λ_=>pure undef):=⟨func266,rfl,rfl,by kernel_rfl,by kernel_rfl⟩
instance:ef prog 263 f263 ((Extern.find f263).getD λ_=>pure undef):=⟨func263,rfl,rfl,by kernel_rfl,by kernel_rfl⟩
instance:ef prog 248 f248 ((Extern.find f248).getD λ_=>pure undef):=⟨func248,rfl,rfl,by kernel_rfl,by kernel_rfl⟩
abbrev Tc(t:aQ)(b:Nat)(f:Int):Value:=.agg #[Cg t,.pointer (some ⟨b,0,none⟩),.int .u64 f]
theorem Vn{b:Nat}:fD prog (Extern.ReflectliteValue.mk 130 ⟨b,0,none⟩ 0)=some (Tc 130 b 150):=by kernel_rfl
theorem Vo{b:Nat}:fD prog (Extern.ReflectliteValue.mk 128 ⟨b,0,none⟩ 0)=some (Tc 128 b 150):=by kernel_rfl
theorem Rl{b:Nat}:fD prog (Extern.ReflectliteValue.mk 128 ⟨b,0,none⟩ 256)=some (Tc 128 b 406):=by kernel_rfl
theorem Vp{b:Nat}:fD prog (((Extern.find f103).getD λ_=>pure undef) ([Tc 130 b 150]:List Value).toArray)=some (Oy 130):=by kernel_rfl
theorem OB(t:aQ):fD prog (method (prog.types.size+Made.depth) 231 (.agg #[Cg t]) "Kind")=some (248,Cg t):=by kernel_rfl
theorem Rm:fD prog (((Extern.find f248).getD λ_=>pure undef) (#[Cg 130]++([]:List Value).toArray))=some (.int .u8 22):=by kernel_rfl
theorem Rn:fD prog (((Extern.find f248).getD λ_=>pure undef) (#[Cg 128]++([]:List Value).toArray))=some (.int .u8 22):=by kernel_rfl
theorem Vq:fD prog (method (prog.types.size+Made.depth) 231 (.agg #[Cg 130]) "Elem")=some (265,.agg #[Cg 130]):=by kernel_rfl
theorem Vr:fD prog (((Extern.find f265).getD λ_=>pure undef) (#[.agg #[Cg 130]]++([]:List Value).toArray))=some (Oy 128):=by kernel_rfl
theorem Vs:fD prog (method (prog.types.size+Made.depth) 231 (.agg #[Cg 128]) "Implements")=some (266,.agg #[Cg 128]):=by kernel_rfl
theorem Vt:fD prog (((Extern.find f266).getD λ_=>pure undef) (#[.agg #[Cg 128]]++([Oy 46]:List Value).toArray))=some (.bool true):=by kernel_rfl
theorem YP:fD prog (method (prog.types.size+Made.depth) 231 (.agg #[Cg 128]) "AssignableTo")=some (263,.agg #[Cg 128]):=by kernel_rfl
theorem YQ:fD prog (((Extern.find f263).getD λ_=>pure undef) (#[.agg #[Cg 128]]++([Oy 128]:List Value).toArray))=some (.bool true):=by kernel_rfl
theorem KH{v:Value}:fD prog (((Extern.find f106).getD λ_=>pure undef) ([.iface 128 v]:List Value).toArray)=some (Oy 128):=by kernel_rfl
open Go.Extern.ReflectliteValue
variable{H:Array Obj}{Q:Value->Array Obj->Nat->Prop}
theorem Ro{P:bL}{t:aQ}{v w:Value}(HY:fD P (Extern.ReflectliteValue.mk t ⟨H.size,0,none⟩ 0)=some w)(q:Q w (H.push (.cells v.cells t (0,0))) d):di P B (unpack (.iface t v)) H d Q:=by show di P B (newVar t v >>= λa=>mk t a 0) H d Q;refine ah ?_;unfold newVar newRow;refine ah ?_;show di P B (.new _ _) H d _;simp only[di];show di P B (pure _) _ d _;exact aA (dd HY q)
theorem Hk{P:bL}{t:aQ}{b p:Nat}{u:Value}[Ag P t false](Ga:fD P (parts u)=some (some (t,⟨b,0,none⟩,150)))(hg:hp H b=some (.cells #[aF p] t (0,0)))(hs:B.sh t 0=false)(q:Q (.bool false) H d):di P B (Extern.ReflectliteValue.method (valueError "reflectlite.Value.IsNil" 0) isNil #[u]) H d Q:=by unfold Extern.ReflectliteValue.method;refine ah (dd Ga ?_);show di P B (isNil t ⟨b,0,none⟩ 150 22) H d Q;unfold isNil;simp only[List.contains_cons,List.contains_nil,Nat.reduceBEq,Bool.or_false,Bool.false_or,Bool.or_true,Bool.true_or,zR,ij,fB];refine ah (gy hg rfl hs ?_);exact aA q
theorem KI{P:bL}{t t2:aQ}{b p:Nat}{u w:Value}[Ag P t false](Ga:fD P (parts u)=some (some (t,⟨b,0,none⟩,150)))(he:fD P (Extern.Rtype.elem? t)=some (some t2))(HY:fD P (Extern.ReflectliteValue.mk t2 ⟨p,0,none⟩ 256)=some w)(hg:hp H b=some (.cells #[aF p] t (0,0)))(hs:B.sh t 0=false)(q:Q w H d):di P B (Extern.ReflectliteValue.method (valueError "reflectlite.Value.Elem" 0) Extern.ReflectliteValue.elem #[u]) H d Q:=by unfold Extern.ReflectliteValue.method;refine ah (dd Ga ?_);show di P B (Extern.ReflectliteValue.elem t ⟨b,0,none⟩ 150 22) H d Q;unfold Extern.ReflectliteValue.elem;simp only[Nat.reduceBNe,LO,LP,ij,fB];refine ah (gy hg rfl hs ?_);refine ah (dd he ?_);exact dd HY q
theorem OC{P:bL}{t:aQ}{b p:Nat}{u w x0 v:Value}[Ag P t false][Cz P t 1](hu:fD P (parts u)=some (some (t,⟨p,0,none⟩,406)))(hw:fD P (parts w)=some (some (t,⟨b,0,none⟩,150)))(hd:fD P (Extern.Rtype.directlyAssignable t t)=some true)(h1:hp H b=some (.cells #[v] t (0,0)))(h2:hp H p=some (.cells #[x0] t (0,0)))
  (hv:v.cells=#[v]) (h1v:eA v=true) (hs:B.sh t 0=false) (hr:B.rd p t 0=false) (q:Q (.tuple #[]) (H.setIfInBounds p (.cells #[v] t (0,0))) d):di P B (Extern.ReflectliteValue.set #[u,w]) H d Q:=by
 unfold Extern.ReflectliteValue.set;refine ah (dd hu ?_);refine ah (dd hw ?_);show di P B _ H d Q;simp only[show((406/flagAddr%2==0):Bool)=false from rfl,ij,fB];refine ah (gy (v:=v) h1 rfl hs ?_);refine ah (dd hd ?_);simp only[eM];refine ah (oK (z:=1) h2 (by rw[hv];rfl) (by simp) (by rw[hv];intro x hx;simp at hx;subst hx;exact h1v) (λj h0 h3=>?_) ?_)
 ·obtain rfl:j=0:=az;exact⟨hr,hs⟩
 ·rw[hv];exact aA q
theorem Te{b:Nat}:fD prog (parts (Tc 130 b 150))=some (some (130,⟨b,0,none⟩,150)):=by kernel_rfl
theorem YR{b:Nat}:fD prog (parts (Tc 128 b 150))=some (some (128,⟨b,0,none⟩,150)):=by kernel_rfl
theorem Vu{b:Nat}:fD prog (parts (Tc 128 b 406))=some (some (128,⟨b,0,none⟩,406)):=by kernel_rfl
theorem Vv:fD prog (Extern.Rtype.elem? 130)=some (some 128):=by kernel_rfl
theorem Vw:fD prog (Extern.Rtype.directlyAssignable 128 128)=some true:=by kernel_rfl
variable{aN:List HP}
variable{dst:Option Nat}
variable{f:bI}{fu:Func}{fo:cA}{args:Array cA}{fU:Array aQ}{t t2:aQ}{p:Nat}{u w x0:Value}
theorem ab.YS(C:ab P ak B R)[x:ef P f fu (λargs=>unpack (args.getD 0 (.tuple #[])))]{w:Nat->Value}{c:Array Value}(hc:v.cells=c)(HY:∀ b,fD P (Extern.ReflectliteValue.mk t ⟨b,0,none⟩ 0)=some (w b))(ho:aZ ops i=some ⟨dst,.call ⟨.value fo,args,fU⟩,ty,pos,af,gd⟩)(h:∀ b,At R d (bR b (.cells c t (0,0))::As) (gr fn kd n (cS e dst (w b)) ds (.inRegion ops aa::k) cs))
  (hf:ev n e fo=.func (.func f) #[] #[]:=by rfl) (hv:args.toList.map (ev n e)=[.iface t v]:=by rfl) (hw:aM ops n e gd=true:=by rfl):At R d As (gr fn kd n e ds (.inRegion ops (i::aa)::k) cs):=
 C.xt (f:=f) (vl:=[.iface t v]) (λH s=>Ro (HY H.size) ⟨_,s.push _,hc▸h _⟩) ho hw hf hv
theorem ab.abR(C:ab P ak B R)[x:ef P f fu (Extern.ReflectliteValue.method (valueError "reflectlite.Value.IsNil" 0) isNil)][Ag P t false](Ga:fD P (parts u)=some (some (t,⟨b,0,none⟩,150)))(ho:aZ ops i=some ⟨dst,.call ⟨.value fo,args,fU⟩,ty,pos,af,gd⟩)(h:At R d As (gr fn kd n (cS e dst (.bool false)) ds (.inRegion ops aa::k) cs))
  (hh:Kn As b (.cells #[aF p] t (0,0)):=by apply Has.kn;(repeat(first|with_reducible exact Has.head|with_reducible apply Has.tail));done) (hs:B.sh t 0=false:=by rfl) (hf:ev n e fo=.func (.func f) #[] #[]:=by rfl) (hv:args.toList.map (ev n e)=[u]:=by rfl) (hw:aM ops n e gd=true:=by rfl):At R d As (gr fn kd n e ds (.inRegion ops (i::aa)::k) cs):=
 C.xt (f:=f) (vl:=[u]) (λH s=>Hk Ga (hh _ s) hs ⟨_,s,h⟩) ho hw hf hv
theorem ab.abS(C:ab P ak B R)[x:ef P f fu (Extern.ReflectliteValue.method (valueError "reflectlite.Value.Elem" 0) Extern.ReflectliteValue.elem)][Ag P t false](Ga:fD P (parts u)=some (some (t,⟨b,0,none⟩,150)))(he:fD P (Extern.Rtype.elem? t)=some (some t2))(HY:fD P (Extern.ReflectliteValue.mk t2 ⟨p,0,none⟩ 256)=some w)(ho:aZ ops i=some ⟨dst,.call ⟨.value fo,args,fU⟩,ty,pos,af,gd⟩)(h:At R d As (gr fn kd n (cS e dst w) ds (.inRegion ops aa::k) cs))
  (hh:Kn As b (.cells #[aF p] t (0,0)):=by apply Has.kn;(repeat(first|with_reducible exact Has.head|with_reducible apply Has.tail));done) (hs:B.sh t 0=false:=by rfl) (hf:ev n e fo=.func (.func f) #[] #[]:=by rfl) (hv:args.toList.map (ev n e)=[u]:=by rfl) (hw:aM ops n e gd=true:=by rfl):At R d As (gr fn kd n e ds (.inRegion ops (i::aa)::k) cs):=
 C.xt (f:=f) (vl:=[u]) (λH s=>KI Ga he HY (hh _ s) hs ⟨_,s,h⟩) ho hw hf hv
theorem ab.abT(C:ab P ak B R)[x:ef P f fu Extern.ReflectliteValue.set][Ag P t false][Cz P t 1](hu:fD P (parts u)=some (some (t,⟨p,0,none⟩,406)))(nF:fD P (parts w)=some (some (t,⟨b,0,none⟩,150)))(hd:fD P (Extern.Rtype.directlyAssignable t t)=some true)(ho:aZ ops i=some ⟨dst,.call ⟨.value fo,args,fU⟩,ty,pos,af,gd⟩)(h:At R d aN (gr fn kd n (cS e dst (.tuple #[])) ds (.inRegion ops aa::k) cs))
  (hh:Kn As b (.cells #[v] t (0,0)):=by apply Has.kn;(repeat(first|with_reducible exact Has.head|with_reducible apply Has.tail));done) (hU:p8 p (.cells #[x0] t (0,0)) (.cells #[v] t (0,0)) As aN:=by repeat(first|with_reducible exact p8.head|with_reducible apply p8.tail)) (hvc:v.cells=#[v]:=by rfl) (h1v:eA v=true:=by rfl)
  (hs:B.sh t 0=false:=by rfl) (hr:B.rd p t 0=false:=by rfl) (hf:ev n e fo=.func (.func f) #[] #[]:=by rfl) (hv:args.toList.map (ev n e)=[u,w]:=by rfl) (hw:aM ops n e gd=true:=by rfl):At R d As (gr fn kd n e ds (.inRegion ops (i::aa)::k) cs):=
 C.xt (f:=f) (vl:=[u,w]) (λH s=>OC hu nF hd (hh _ s) (hU.has.get s) hvc h1v hs hr ⟨_,hU.set s,h⟩) ho hw hf hv
theorem OD{bE b7 bV:Nat}{tg:Value}:aD prog ak bQ 105 #[.iface 128 (aF bE),tg,Tc 130 bV 150,Oy 128] [bR bV (.cells #[aF b7] 130 (0,0)),bR b7 (.cells #[.pointer none] 128 (0,0))]
  (λv As=>v=.bool true/\As=[bR b7 (.cells #[aF bE] 128 (0,0))]):=by
 refine aD.of λR C kd d F c cs aJ aj=>?_;refine jK ?_;refine C.bx rfl (λb6=>?_);refine bJ ?_;refine C.lp ?_;refine dN ?_;refine C.x0 (f:=106) (v:=Oy 128) KH rfl ?_;refine fI ?_;refine C.Wi YP YQ ?_;refine cW ?_;refine C.abS (f:=150) Te Vv (Rl (b:=b7)) rfl ?_;refine fI ?_;refine C.YS (f:=102) (t:=128) (c:=#[aF bE]) rfl (λb=>Vo (b:=b)) rfl (λbW=>?_) (v:=aF bE);refine C.abT (f:=151) (Vu (b:=b7)) (YR (b:=bW)) Vw rfl ?_ (v:=aF bE);refine cW ?_;exact C.bk aJ aj ⟨rfl,rfl⟩
def OE:ByteArray:=⟨#[83,117,98,109,105,116]⟩
theorem Cj{σ:Gh}{c:CV}{so:ay}{ops:List cr}{I J:HL}{eb:Nat->Nat×Nat}(hE:ig I eb)(hn:1<=c.ae.length/\c.ae.length<=4)(mS:c.aE.length<2^20)(um:c.aL.length<=60)(ho:dS J cF 67 so ops)(oE:ops.length<2^43):
  bC prog bP 29 #[aF c.G.b,so.v] σ [dw c,a7 I,a7 J] (λv σ' As=>∃ er t gD gF I' L u,σ'=σ/\v=.tuple #[aI t,u]/\Of eb (.string OE) 0 er u L/\As=dw {c with aE:=gD,aL:=gF}::a7 I'::a7 J::L/\
   ((c.ai=true/\er=some 8/\t=0/\gD=c.aE/\gF=c.aL/\I'=I)\/(c.ai=false/\G4 eb I c.ae.length ops c.aE c.aL er t I' gD gF))):=by
 refine bC.of ?_;intro Post os out kd F c' cs C aJ aj;refine jK ?_;refine C.bx rfl (λbc=>?_);refine C.bx rfl (λbo=>?_);refine cW ?_;refine C.al rfl (λbt=>?_);refine cW ?_;refine C.mf rfl ?_;have hf:c.ai=false->bC prog bP 53 (#[]++([]:List Value).toArray++#[aF bo,aF bc,aF bt]) σ (qD 1 c::a7 I::[a7 J,bR bo (.cells #[so.v] 36 (0,0)),bR bc (.cells #[aF c.G.b] 23 (0,0)),bR bt (.cells #[aI 0] 3 (0,0))])
   (λv σ' As=>∃ er c' I' A',v=Q8 eb er/\(∀ k,er=some k->k<9)/\As=qD 1 c'::a7 I'::A'/\c'.G.b=c.G.b/\(∃ t gD gF,σ'=σ/\c'={c with aE:=gD,aL:=gF}/\A'=[a7 J,bR bt (.cells #[aI t] 3 (0,0))]/\G4 eb I c.ae.length ops c.aE c.aL er t I' gD gF)):=by
  intro dJ Post os out kd F fr cs aJ aj;obtain⟨G,ae,aE,aL,ai⟩:=c;obtain rfl:ai=false:=dJ;refine bM ?_;refine dw.opn (m:=1) (h:=λhs bg tx=>?_);have qO:=Kq (σ:=σ) (b:=G.b) (bo:=bo) (bc:=bc) (bt:=bt) (so:=so) (hs:=hs) (bg:=bg) (pO:=tx) (dn:=.chan (some G.dn)) (st:=CV.st ⟨G,ae,aE,aL,false⟩) (hl:=ae.map (·.h.bh)) (aE:=aE) (aL:=aL) hE (by simpa using hn) mS um ho oE;refine At.perm (dB.perm dB.au) (aD.g qO Post os out kd _ fr cs aJ ?_);rintro v σ' aN ⟨rfl,EV,U1,er,t,I',gD,gF,rfl,hQ,rfl⟩;refine bM ?_;refine dw.cls (m:=1) ⟨G,ae,gD,gF,false⟩ ?_;refine At.jB ?_ (aj _ _ _ ⟨er,⟨G,ae,gD,gF,false⟩,I',_,rfl,?_,rfl,rfl,t,gD,gF,rfl,rfl,rfl,by simpa using hQ⟩)
  ·exact bZ.au
  ·intro k hk;obtain⟨_,h|h|h⟩:=hQ
   ·have:=h.2.1;rw[this]at hk;cases hk;decide
   ·have:=h.2.2.1;rw[this]at hk;cases hk;decide
   ·have:=h.2.2.1;rw[this]at hk;cases hk
 refine aC.kK (AO (nm:=OE) (at_:=0) hE hf) ?_;rintro v σ' aN ⟨er,c2,I2,A2,L,nK,rfl,Hl⟩;have C:ab prog true (bP.bw σ') (aC prog Post bP σ' 0 os out):=aC.dK;refine bM ?_;refine dN ?_;rcases Hl with⟨dJ,rfl,rfl,rfl,rfl,rfl⟩|⟨dJ,t,gD,gF,rfl,rfl,rfl,hQ⟩
 ·obtain⟨bE,rfl,rfl⟩:=nK;simp only[pQ,iX,fi];refine dD ?_;exact aC.cK aJ aj ⟨some 8,0,c2.aE,c2.aL,I2,[bR bE (.cells #[.string OE,aI 0,gV (eb 8)] 132 (0,0))],.iface 128 (aF bE),rfl,rfl,⟨bE,rfl,rfl⟩,rfl,.inl ⟨dJ,rfl,rfl,rfl,rfl,rfl⟩⟩
 ·cases er with
  |none=>
   obtain⟨rfl,rfl⟩:=nK;simp only[pQ,iX,fi];refine dD ?_;exact aC.cK aJ aj ⟨none,t,gD,gF,I2,[],.nilIface,rfl,rfl,⟨rfl,rfl⟩,rfl,.inr ⟨dJ,hQ⟩⟩
  |some k=>
   obtain⟨bE,rfl,rfl⟩:=nK;simp only[pQ,iX,fi];refine dD ?_;exact aC.cK aJ aj ⟨some k,t,gD,gF,I2,[bR bE (.cells #[.string OE,aI 0,gV (eb k)] 132 (0,0))],.iface 128 (aF bE),rfl,rfl,⟨bE,rfl,rfl⟩,rfl,.inr ⟨dJ,hQ⟩⟩
theorem OG{σ:Gh}{I:HL}{eb:Nat->Nat×Nat}(hE:ig I eb){bE b7:Nat}:aD prog true (bP.bw σ) 57 #[.iface 128 (aF bE),.iface 130 (aF b7)] [bR b7 (.cells #[.pointer none] 128 (0,0)),a7 I]
  (λv As=>v=.bool true/\As=[bR b7 (.cells #[aF bE] 128 (0,0)),a7 I]):=by
 refine aD.of λR C kd d F c cs aJ aj=>?_;refine bM ?_;obtain⟨tE,hty⟩:=hE.ty;rw[Vm]at hty;refine dH ?_;refine C.Qh underlying46 rfl ?_;refine cW ?_;refine C.Qh underlying20 rfl ?_;refine cW ?_;refine C.YS (f:=102) (t:=130) (c:=#[aF b7]) rfl (λb=>Vn (b:=b)) rfl (λbV=>?_) (v:=aF b7);refine C.al rfl (λb5=>?_);refine cW ?_;refine C.x0 (f:=103) (v:=Oy 130) Vp rfl ?_;refine cW ?_;refine C.Wi (OB _) Rm ?_;refine C.v0 rfl ?_ rfl;refine bJ ?_;refine C.abR (f:=104) (Te (b:=bV)) rfl ?_;refine dD ?_;refine C.Wi Vq Vr ?_;refine cW ?_;refine C.Wi (OB _) Rn ?_;refine C.v0 rfl ?_ rfl;refine bJ ?_;refine C.uQ (v:=Oy 46) Fo.au hty (gp _ _) rfl ?_;refine C.Wi Vs Vt ?_;refine kL ?_;refine C.cE (aD.less (cy σ) (OD (bE:=bE) (b7:=b7) (bV:=bV))) ?_;refine jK ?_;exact C.bk aJ aj ⟨rfl,rfl⟩
def E7(eb:Nat->Nat×Nat)(k:Nat):List Value:=[gV (eb k)]
instance(eb:Nat->Nat×Nat):fC (E7 eb) 1:=⟨λ_=>rfl,λa v h=>by simp[E7]at h;subst h;rfl⟩
theorem OH{σ:Gh}{I:HL}{eb:Nat->Nat×Nat}(hE:ig I eb):aD prog true (bP.bw σ) 59 #[] [a7 I] (λv As=>∃ s:ay,v=s.v/\As=[a9 (E7 eb) 1 46 s [0,1,2,3,4,5,6,7,8],a7 I]):=by refine aD.of λR C kd d F c cs aJ aj=>?_;refine bM ?_;obtain⟨t0,h0⟩:=hE.g 0 (by decide);obtain⟨t1,h1⟩:=hE.g 1 (by decide);obtain⟨t2,h2⟩:=hE.g 2 (by decide);obtain⟨t3,h3⟩:=hE.g 3 (by decide);obtain⟨t4,h4⟩:=hE.g 4 (by decide);obtain⟨t5,h5⟩:=hE.g 5 (by decide);obtain⟨t6,h6⟩:=hE.g 6 (by decide);obtain⟨t7,h7⟩:=hE.g 7 (by decide);obtain⟨t8,h8⟩:=hE.g 8 (by decide);refine dD ?_;refine C.uQ (v:=gV (eb 0)) Fo.au h0 (gp _ _) rfl ?_;refine C.uQ (v:=gV (eb 1)) Fo.au h1 (gp _ _) rfl ?_;refine C.uQ (v:=gV (eb 2)) Fo.au h2 (gp _ _) rfl ?_;refine C.uQ (v:=gV (eb 3)) Fo.au h3 (gp _ _) rfl ?_;refine C.uQ (v:=gV (eb 4)) Fo.au h4 (gp _ _) rfl ?_;refine C.uQ (v:=gV (eb 5)) Fo.au h5 (gp _ _) rfl ?_;refine C.uQ (v:=gV (eb 6)) Fo.au h6 (gp _ _) rfl ?_;refine C.uQ (v:=gV (eb 7)) Fo.au h7 (gp _ _) rfl ?_;refine C.uQ (v:=gV (eb 8)) Fo.au h8 (gp _ _) rfl ?_;refine C.bs (vs:=[gV (eb 0),gV (eb 1),gV (eb 2),gV (eb 3),gV (eb 4),gV (eb 5),gV (eb 6),gV (eb 7),gV (eb 8)]) rfl (λb=>?_);refine bJ ?_;refine At.turn (A':=a9 (E7 eb) 1 46 ⟨some ⟨b,0,none⟩,9,9⟩ [0,1,2,3,4,5,6,7,8]) .head (λh x=>.inr ⟨b,[],rfl,rfl,gZ 9,x⟩) ?_;exact C.bk aJ aj ⟨⟨some ⟨b,0,none⟩,9,9⟩,rfl,rfl⟩
theorem Rp{P:bL}{n:Nat}{e:Nat->Value}{t:Nat}{ty tt t2:aQ}{pos:String}{af:Array Edge}{gd:Option (Nat×Bool)}{x y:cA}{nm:ByteArray}(hx:ev n e x=.string nm)(hy:ev n e y=.string nm):fD P (execOp (ev n e) ⟨some t,.binOp .neq tt x y t2,ty,pos,af,gd⟩)=some (.value (.bool false)):=by unfold execOp;simp only[hx,hy];refine bq (a:=.bool false) ?_ rfl;refine bq (a:=()) (by unfold eqGuard;rfl) ?_;show fD P (Op.stringOp .neq nm nm)=_;unfold Op.stringOp;simp;rfl
theorem gI{σ:Gh}{I:HL}{eb:Nat->Nat×Nat}(hE:ig I eb){bE k:Nat}{nm:ByteArray}{at_:Int}(hk:k<9):aD prog true (bP.bw σ) 30 #[.iface 128 (aF bE),.string nm,aI at_] [bR bE (.cells #[.string nm,aI at_,gV (eb k)] 132 (0,0)),a7 I] (λv As=>v=aI (k+1)/\As=[a7 I]):=by
 refine aD.of λR C kd d F c cs aJ aj=>?_;refine bM ?_;obtain⟨ck,tk,Ci⟩:=hE.e k hk;refine dH ?_;refine C.Qh underlying46 rfl ?_;refine dN ?_;refine C.al rfl (λb7=>?_);refine C.go ?_;apply MT True [(0,.iface 128 (aF bE)),(46,.bool false)] (bR bE (.cells #[.string nm,aI at_,gV (eb k)] 132 (0,0))::a7 I::F)
 ·intro jC;refine C.dx (cG 12 0 35) 35 [2,3,4,5,6,7,8,9,10,11,12,13,14,15,16,17,18,19,20,21,22,23,24,25,26,27,28,29,30,31,32,33,34] 0 ?_;refine lS ?_;refine Dr.p (λh=>C.mi rfl h) ?_;refine Dr.chain rfl ?_;refine Ch.nk [2] (fF ?_);refine aW λe aa hk=>?_;refine C.cE (OG hE (bE:=bE) (b7:=b7)) ?_;refine hk _ _ ?_
  (try simp only[iX,fi])
  refine Ch.q 3 (λh=>C.nt rfl h) ?_;refine Ch.q 4 (λh=>C.mv rfl h) ?_;refine Ch.q 5 (λh=>C.mv rfl h) ?_;refine Ch.nk [6] (fF ?_);refine aW λe aa hk=>?_;refine C.ld rfl (hk _ _ ?_);refine Ch.q 7 (λh=>C.mi rfl h) ?_;refine Ch.nk [8] (fF ?_);refine aW λe aa hk=>?_;refine C.Qg (r:=false) (b1:=bE) (o1:=0) (b2:=bE) (o2:=0) underlying46 (ax type128) rfl rfl ?_ (λH s=>Has.get Has.au s) (λH s=>Has.get Has.au s);rw[show(decide (bE=bE/\0=0)==false)=false by simp];refine hk _ _ ?_;refine Ch.q 9 (λh=>C.pk rfl h) ?_;refine Ch.q 10 (λh=>C.mv rfl h) ?_;refine Ch.q 15 (λh=>C.mv rfl h) ?_;refine Ch.nk [11] (fF ?_);refine aW λe aa hk=>?_;refine C.ld rfl (hk _ _ ?_);refine Ch.q 12 (λh=>C.nc rfl h) ?_;refine Ch.q 13 (λh=>C.fa rfl h) ?_;refine Ch.nk [14] (fF ?_);refine aW λe aa hk=>?_;refine C.ld rfl (hk _ _ ?_);refine Ch.q 16 (λh=>C.v0 (v:=.bool false) rfl h (Rp rfl rfl)) ?_;refine Ch.q 17 (λh=>C.pk rfl h) ?_;refine Ch.q 18 (λh=>C.mv rfl h) ?_;refine Ch.q 23 (λh=>C.mv rfl h) ?_;refine Ch.nk [19] (fF ?_);refine aW λe aa hk=>?_;refine C.ld rfl (hk _ _ ?_);refine Ch.q 20 (λh=>C.nc rfl h) ?_;refine Ch.q 21 (λh=>C.fa rfl h) ?_;refine Ch.nk [22] (fF ?_);refine aW λe aa hk=>?_;refine C.ld rfl (hk _ _ ?_);refine Ch.q 24 (λh=>C.dP rfl h) ?_;refine Ch.q 25 (λh=>C.pk rfl h) ?_;refine Ch.q 26 (λh=>C.mv rfl h) ?_;refine Ch.nk [27,29] (xS ?_ ?_)
  ·refine aW λe aa hk=>?_;refine C.ld rfl (hk _ _ ?_);refine Ch.nk [28,29] (xS ?_ ?_)
   ·refine aW λe aa hk=>?_;refine C.cE (aD.less (cy σ) jb) ?_;refine hk _ _ ?_
    (try simp only[iX,fi])
    refine Ch.nk [29] (fF ?_);refine aW λe aa hk=>?_;refine C.ld rfl (hk _ _ ?_);refine Ch.q 30 (λh=>C.nc rfl h) ?_;refine Ch.q 31 (λh=>C.fa rfl h) ?_;refine Ch.nk [32] (fF ?_);refine aW λe aa hk=>?_;refine C.ld rfl (hk _ _ ?_);refine Ch.nk [33] (fF ?_);refine aW λe aa hk=>?_;refine C.Qg (r:=false) (b1:=(eb k).1) (o1:=(eb k).2) (b2:=(eb k).1) (o2:=(eb k).2) underlying46 (ax type339) rfl rfl ?_ (λH s=>(s.perm (Fo.perm (show Fo (a7 I) _ _ from Fo.au))).oJ Ci) (λH s=>(s.perm (Fo.perm (show Fo (a7 I) _ _ from Fo.au))).oJ Ci);rw[show(decide ((eb k).1=(eb k).1/\(eb k).2=(eb k).2)==false)=false by simp];refine hk _ _ ?_;refine Ch.q 34 (λh=>C.pk rfl h) ?_;refine eQ ?_;exact join jC trivial
   ·refine aW λe aa hk=>?_;refine C.ld rfl (hk _ _ ?_);refine Ch.q 30 (λh=>C.nc rfl h) ?_;refine Ch.q 31 (λh=>C.fa rfl h) ?_;refine Ch.nk [28,32] (xS ?_ ?_)
    ·refine aW λe aa hk=>?_;refine C.cE (aD.less (cy σ) jb) ?_;refine hk _ _ ?_
     (try simp only[iX,fi])
     refine Ch.nk [32] (fF ?_);refine aW λe aa hk=>?_;refine C.ld rfl (hk _ _ ?_);refine Ch.nk [33] (fF ?_);refine aW λe aa hk=>?_;refine C.Qg (r:=false) (b1:=(eb k).1) (o1:=(eb k).2) (b2:=(eb k).1) (o2:=(eb k).2) underlying46 (ax type339) rfl rfl ?_ (λH s=>(s.perm (Fo.perm (show Fo (a7 I) _ _ from Fo.au))).oJ Ci) (λH s=>(s.perm (Fo.perm (show Fo (a7 I) _ _ from Fo.au))).oJ Ci);rw[show(decide ((eb k).1=(eb k).1/\(eb k).2=(eb k).2)==false)=false by simp];refine hk _ _ ?_;refine Ch.q 34 (λh=>C.pk rfl h) ?_;refine eQ ?_;exact join jC trivial
    ·refine aW λe aa hk=>?_;refine C.ld rfl (hk _ _ ?_);refine Ch.nk [28] (fF ?_);refine aW λe aa hk=>?_;refine C.cE (aD.less (cy σ) jb) ?_;refine hk _ _ ?_
     (try simp only[iX,fi])
     refine Ch.nk [33] (fF ?_);refine aW λe aa hk=>?_;refine C.Qg (r:=false) (b1:=(eb k).1) (o1:=(eb k).2) (b2:=(eb k).1) (o2:=(eb k).2) underlying46 (ax type339) rfl rfl ?_ (λH s=>(s.perm (Fo.perm (show Fo (a7 I) _ _ from Fo.au))).oJ Ci) (λH s=>(s.perm (Fo.perm (show Fo (a7 I) _ _ from Fo.au))).oJ Ci);rw[show(decide ((eb k).1=(eb k).1/\(eb k).2=(eb k).2)==false)=false by simp];refine hk _ _ ?_;refine Ch.q 34 (λh=>C.pk rfl h) ?_;refine eQ ?_;exact join jC trivial
  ·refine aW λe aa hk=>?_;refine C.ld rfl (hk _ _ ?_);refine Ch.q 30 (λh=>C.nc rfl h) ?_;refine Ch.q 31 (λh=>C.fa rfl h) ?_;refine Ch.nk [27,32] (xS ?_ ?_)
   ·refine aW λe aa hk=>?_;refine C.ld rfl (hk _ _ ?_);refine Ch.nk [28,32] (xS ?_ ?_)
    ·refine aW λe aa hk=>?_;refine C.cE (aD.less (cy σ) jb) ?_;refine hk _ _ ?_
     (try simp only[iX,fi])
     refine Ch.nk [32] (fF ?_);refine aW λe aa hk=>?_;refine C.ld rfl (hk _ _ ?_);refine Ch.nk [33] (fF ?_);refine aW λe aa hk=>?_;refine C.Qg (r:=false) (b1:=(eb k).1) (o1:=(eb k).2) (b2:=(eb k).1) (o2:=(eb k).2) underlying46 (ax type339) rfl rfl ?_ (λH s=>(s.perm (Fo.perm (show Fo (a7 I) _ _ from Fo.au))).oJ Ci) (λH s=>(s.perm (Fo.perm (show Fo (a7 I) _ _ from Fo.au))).oJ Ci);rw[show(decide ((eb k).1=(eb k).1/\(eb k).2=(eb k).2)==false)=false by simp];refine hk _ _ ?_;refine Ch.q 34 (λh=>C.pk rfl h) ?_;refine eQ ?_;exact join jC trivial
    ·refine aW λe aa hk=>?_;refine C.ld rfl (hk _ _ ?_);refine Ch.nk [28] (fF ?_);refine aW λe aa hk=>?_;refine C.cE (aD.less (cy σ) jb) ?_;refine hk _ _ ?_
     (try simp only[iX,fi])
     refine Ch.nk [33] (fF ?_);refine aW λe aa hk=>?_;refine C.Qg (r:=false) (b1:=(eb k).1) (o1:=(eb k).2) (b2:=(eb k).1) (o2:=(eb k).2) underlying46 (ax type339) rfl rfl ?_ (λH s=>(s.perm (Fo.perm (show Fo (a7 I) _ _ from Fo.au))).oJ Ci) (λH s=>(s.perm (Fo.perm (show Fo (a7 I) _ _ from Fo.au))).oJ Ci);rw[show(decide ((eb k).1=(eb k).1/\(eb k).2=(eb k).2)==false)=false by simp];refine hk _ _ ?_;refine Ch.q 34 (λh=>C.pk rfl h) ?_;refine eQ ?_;exact join jC trivial
   ·refine aW λe aa hk=>?_;refine C.ld rfl (hk _ _ ?_);refine Ch.nk [27] (fF ?_);refine aW λe aa hk=>?_;refine C.ld rfl (hk _ _ ?_);refine Ch.nk [28] (fF ?_);refine aW λe aa hk=>?_;refine C.cE (aD.less (cy σ) jb) ?_;refine hk _ _ ?_
    (try simp only[iX,fi])
    refine Ch.nk [33] (fF ?_);refine aW λe aa hk=>?_;refine C.Qg (r:=false) (b1:=(eb k).1) (o1:=(eb k).2) (b2:=(eb k).1) (o2:=(eb k).2) underlying46 (ax type339) rfl rfl ?_ (λH s=>(s.perm (Fo.perm (show Fo (a7 I) _ _ from Fo.au))).oJ Ci) (λH s=>(s.perm (Fo.perm (show Fo (a7 I) _ _ from Fo.au))).oJ Ci);rw[show(decide ((eb k).1=(eb k).1/\(eb k).2=(eb k).2)==false)=false by simp];refine hk _ _ ?_;refine Ch.q 34 (λh=>C.pk rfl h) ?_;refine eQ ?_;exact join jC trivial
 ·intro _ e;refine bJ ?_;refine C.dv (OH hE) ?_;rintro v aN ⟨s,rfl,rfl⟩;refine bM ?_;refine C.m3 (f:=E7 eb) (s:=s) (l:=[0,1,2,3,4,5,6,7,8]) rfl ?_;refine bJ ?_;refine C.cx (X:=Nat) (λi=>[(0,.iface 128 (aF bE)),(47,s.v),(48,aI 9),(49,aI i)]) (λ_=>a9 (E7 eb) 1 46 s [0,1,2,3,4,5,6,7,8]::bR bE (.cells #[.string nm,aI at_,gV (eb k)] 132 (0,0))::a7 I::F) (λi=>i<=k) (λi=>9-i) 0 ⟨rfl,rfl,rfl,rfl,trivial⟩ (eK _) ?_;intro i e hi ih;have hi9:i<9:=az;have hl:∀ (h:i<([0,1,2,3,4,5,6,7,8]:List Nat).length),([0,1,2,3,4,5,6,7,8]:List Nat)[i]=i:=by have hc:i=0\/i=1\/i=2\/i=3\/i=4\/i=5\/i=6\/i=7\/i=8:=az;intro h;rcases hc with rfl|rfl|rfl|rfl|rfl|rfl|rfl|rfl|rfl<;>rfl
  refine bJ ?_;refine C.fe rfl ?_;refine cW ?_;refine C.kJ (f:=E7 eb) (s:=s) (l:=[0,1,2,3,4,5,6,7,8]) (j:=i) rfl ?_ (hj:=hi9);refine C.nL (f:=E7 eb) (s:=s) (l:=[0,1,2,3,4,5,6,7,8]) (j:=i) (v:=gV (eb i)) rfl ?_ (hj:=hi9) (hv:=by rw[hl];rfl);refine dH ?_;refine C.cE (aD.less (cy σ) (OA hE (bE:=bE) (j:=i) (k:=k) hi9 hk)) ?_;refine bM ?_;by_cases Gr:k=i
  ·subst Gr;rw[show decide (k=k)=true by simp];refine dV ?_;exact C.bk aJ aj ⟨rfl,rfl⟩
  ·rw[show decide (k=i)=false by simp[Gr]];refine dH ?_;exact again ih (i+1) az az
end
section
open Go.Proofs Go.Conc
theorem Rq{P:bL}{n:Nat}{e:Nat->Value}{dst:Option Nat}{ty:aQ}{fU:Array aQ}{pos:String}{af:Array Edge}{gd:Option (Nat×Bool)}{fo:cA}{f:bI}{a2:Array Value}(hf:ev n e fo=.func (.func f) #[] a2):fD P (execOp (ev n e) ⟨dst,.go ⟨.value fo,#[],fU⟩,ty,pos,af,gd⟩)=some (.spawn ⟨.fn (.func f) a2,#[]⟩):=by unfold execOp;simp only;refine bq (a:=⟨.fn (.func f) a2,#[]⟩) ?_ rfl;unfold resolve;simp only[hf,Deferred.ofValue];simp;rfl
theorem mg{h:HG}{C:CG}{c:Nat}:(dZ h C).has c↔c=h.wk\/c=C.dn:=by
 unfold du.has dZ;constructor
 ·rintro⟨k,z,e⟩;rcases k with _|_|k
  ·left;simp[rcase]at e;exact e.1.symm
  ·right;simp[rcase]at e;exact e.1.symm
  ·simp at e
 ·rintro(rfl|rfl)
  ·exact⟨0,_,rfl⟩
  ·exact⟨1,_,rfl⟩
theorem E8{h:HG}{C:CG}(eI:h.wk≠C.dn):(dZ h C).Wf:=by
 refine⟨λcc o5=>?_,λk m c z z' h1 h2=>?_⟩
 ·simp[dZ]at o5;rcases o5 with rfl|rfl<;>exact⟨_,_,rfl⟩
 ·simp only[dZ]at h1 h2;rcases k with _|_|k<;>rcases m with _|_|m<;>simp[rcase]at h1 h2<;>first|rfl|(exfalso;omega)
theorem qI{h:HG}{C:CG}{H:Array Obj}{kw kd i:Nat}{c1 c2:Array Value}(hi:i≠0)(h1:hp H C.cb=some (.cells #[aF C.b] 23 (0,0)))(h2:hp H h.hb=some (.cells #[aF h.bh] 114 (0,0)))
  (h3:hp H C.b=some (.cells c1 92 (0,0))) (ZE:c1[5]? =some (.chan (some C.dn))) (h4:hp H h.bh=some (.cells c2 120 (0,0))) (h4':c2[1]? =some (.chan (some h.wk))) (h5:hp H h.wk=some (.chan 0 #[] false kw kw false)) (h6:hp H C.dn=some (.chan 0 #[] false kd kd false)):
  xN (bP.rd i) (dZ h C) H/\∀ p∈(dZ h C).mem,∀ c ty,H[p.1.block]? =some (.cells c ty (0,0))->bP.sh ty p.1.off=false:=by
 have iS:∀ b t o,bP.rd i b t o=UW t o:=λb t o=>by unfold sB.rd;rw[ao hi];rfl
 have key:∀ p∈(dZ h C).mem,p.1.spot=none/\∃ c ty,H[p.1.block]? =some (.cells c ty (0,0))/\c[p.1.off]? =some p.2/\bP.rd i p.1.block ty p.1.off=true/\UX ty p.1.off=false:=by
  intro p hp;simp only[dZ,ga,l7,fO]at hp;rcases hp with rfl|rfl|rfl|rfl
  ·exact⟨rfl,_,_,h1,rfl,by rw[iS];rfl,rfl⟩
  ·exact⟨rfl,_,_,h2,rfl,by rw[iS];rfl,rfl⟩
  ·exact⟨rfl,_,_,h3,ZE,by rw[iS];rfl,rfl⟩
  ·exact⟨rfl,_,_,h4,h4',by rw[iS];rfl,rfl⟩
 refine⟨⟨λc hc=>?_,λp hp=>?_⟩,λp hp c ty o5=>?_⟩
 ·rcases mg.1 hc with rfl|rfl
  ·exact⟨_,h5⟩
  ·exact⟨_,h6⟩
 ·obtain⟨a,c,ty,b1,b2,b3,_⟩:=key p hp;exact⟨a,c,ty,b1,b2,b3⟩
 ·obtain⟨a,c',So,b1,b2,b3,b4⟩:=key p hp;rw[o5]at b1;cases b1;exact b4
structure pw(σ σ':Gh)(G:CG)(l:List HV):Prop where
 n:σ'.n=σ.n+l.length
 old:∀ i,i<σ.n->σ'.aT i=σ.aT i
 new:∀ i s,σ.n<=i->σ'.aT i=some s->∃ v∈l,v.h.g=i/\s=dZ v.h G
 has:∀ v∈l,σ'.aT v.h.g=some (dZ v.h G)/\σ.n<=v.h.g/\v.h.g<σ'.n
 gnd:(l.map (·.h.g)).Nodup
 fw:∀ v∈l,∀ i s,σ.aT i=some s->¬ s.has v.h.wk
 fd:∀ i s,σ.aT i=some s->¬ s.has G.dn
 wnd:(l.map (·.h.wk)).Nodup
 wd:∀ v∈l,v.h.wk≠G.dn
 sh:∀ x,σ'.sh x↔σ.sh x\/x=.cell ⟨G.b,7,none⟩\/x=.cell ⟨G.b,8,none⟩
 bot:σ'.bot=σ.bot
structure KJ(σ:Gh):Prop where
 n:σ.n≠0
 lt:∀ i s,σ.aT i=some s->i<σ.n
theorem pw.start{σ:Gh}(h:KJ σ){G:CG}(fd:∀ i s,σ.aT i=some s->¬ s.has G.dn):pw σ (σ.zx G.b [7,8]) G []:=by
 refine⟨rfl,λ_ _=>rfl,λi s hi hs=>?_,by simp,by simp,by simp,fd,by simp,by simp,λx=>?_,rfl⟩
 ·have:=h.lt i s hs;omega
 ·simp[Gh.zx]
theorem pw.hire{σ σ':Gh}{G:CG}{l:List HV}(N:pw σ σ' G l){v:HV}(hg:v.h.g=σ'.n)(dA:∀ i s,σ.aT i=some s->i<σ.n)(hw:∀ i s,σ'.aT i=some s->¬ s.has v.h.wk)(Pe:v.h.wk≠G.dn):pw σ (σ'.n0 (dZ v.h G)) G (l++[v]):=by
 have hs:∀ i,(σ'.n0 (dZ v.h G)).aT i=if i=σ'.n then some (dZ v.h G)else σ'.aT i:=λi=>by
  show Go.ConcN.upd σ'.aT σ'.n (some (dZ v.h G)) i=_;by_cases e:i=σ'.n
  ·subst e;rw[Go.ConcN.upd_same,aK rfl]
  ·rw[Go.ConcN.upd_ne _ _ e,ao e]
 have hn:=N.n;refine⟨?_,λi hi=>?_,λi s hi e=>?_,λu hu=>?_,?_,λu hu i s e=>?_,N.fd,?_,λu hu=>?_,N.sh,N.bot⟩
 ·show σ'.n+1=_;rw[jd,lP];omega
 ·rw[hs,ao az];exact N.old i hi
 ·rw[hs]at e;by_cases z:i=σ'.n
  ·rw[aK z]at e;exact⟨v,by simp,by rw[hg,z],(bS e).symm⟩
  ·rw[ao z]at e;obtain⟨u,hu,h1,h2⟩:=N.new i s hi e;exact⟨u,by simp[hu],h1,h2⟩
 ·rcases bU.1 hu with hu|hu
  ·obtain⟨h1,h2,h3⟩:=N.has u hu;refine⟨by rw[hs,ao az];exact h1,h2,?_⟩;show _<σ'.n+1;omega
  ·obtain rfl:=dF.1 hu;refine⟨by rw[hs,aK hg],az,?_⟩;show _<σ'.n+1;omega
 ·rw[eF,im];refine⟨N.gnd,by simp,λa ha b hb=>?_⟩;obtain⟨u,hu,rfl⟩:=bH.1 ha;simp at hb;subst hb;have:=(N.has u hu).2.2;omega
 ·rcases bU.1 hu with hu|hu
  ·exact N.fw u hu i s e
  ·obtain rfl:=dF.1 hu;exact hw i s (by rw[N.old i (dA i s e)];exact e)
 ·rw[eF,im];refine⟨N.wnd,by simp,λa ha b hb z=>?_⟩;obtain⟨u,hu,rfl⟩:=bH.1 ha;simp at hb;subst hb;exact hw _ _ (N.has u hu).1 (mg.2 (.inl z.symm))
 ·rcases bU.1 hu with hu|hu
  ·exact N.wd u hu
  ·obtain rfl:=dF.1 hu;exact Pe
end
end Go.Sl
