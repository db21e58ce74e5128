/-
  Texts that the proof needs, joined: part 6.
-/
import Derived.Test.YtjomdboiibakiaaGreatDoorUnE
set_option linter.unusedSimpArgs false
set_option linter.unusedVariables false
set_option maxHeartbeats 4000000
namespace Go.Sl
open Go.Proofs.Tryz
section
open Go.Proofs Go.Conc
structure Zg(I:HL)(t:mC):Prop where
 o:dX I cK 67 t.so t.ops
 r:dX I dv 21 t.sr t.reads
 z:t.reads.length<2^20
structure rY(I:HL)(c:CV):Prop where
 aF:∀ m∈c.aF,ku I m
 aL:∀ t∈c.aL,Zg I t
 sh:∀ v∈c.ae,ShJ I v.s
theorem Zg.mono{I I':HL}{t:mC}(hs:Sub I I')(h:Zg I t):Zg I' t:=⟨h.o.mono hs,h.r.mono hs,h.z⟩
theorem rY.mono{I I':HL}{c:CV}(hs:Sub I I')(h:rY I c):rY I' c:=⟨λm hm=>(h.aF m hm).mono hs,λt ht=>(h.aL t ht).mono hs,λv hv=>(h.sh v hv).mono hs⟩
theorem F8{σ:Gh}{c:CV}{k:Int}(hn:c.ae.length<=4):bD prog bT 76 #[aE c.G.b,az k] σ [dK c] (λv σ' As=>σ'=σ/\v=.bool (((fB c.ae k).map (·.s.up)).getD false)/\As=[dK c]):=by
 refine bD.of ?_;intro Post os out kd F c' cs C aJ ai;refine bI ?_;obtain⟨G,ae,aF,aL,aj⟩:=c;refine dK.opn (h:=λhs bg tx=>?_);cases nA:fB ae k with
 |none=>
  have Ix:BL ae k=none:=by unfold BL;rw[nA];rfl
  refine jL ?_;refine C.cE fi ?_;refine sY ?_;refine C.df rfl ?_;refine cN ?_;refine C.cE (lV (l:=ae) hn) ?_;refine bI ?_;rw[Ix];refine zb ?_;refine C.E3 ?_;refine aD.oF (aB.g dD) ?_;rintro v σ' aO ⟨rfl,rfl,rfl⟩;refine bI ?_;refine C.home (fu:=f76) func76 aJ rfl ?_;refine dK.cls (m:=0) ⟨G,ae,aF,aL,aj⟩ ?_;exact ai _ _ _ ⟨rfl,by rw[nA];rfl,rfl⟩
 |some v0=>
  obtain⟨q,rfl,hq,rfl⟩:=js nA;have Ix:BL ae (q:Int)=some ⟨ae[q].h.bs,0,none⟩:=by unfold BL;rw[nA];rfl
  refine jL ?_;refine C.cE fi ?_;refine sY ?_;refine C.df rfl ?_;refine cN ?_;refine C.cE (lV (l:=ae) hn) ?_;refine bI ?_;rw[Ix];refine ky ?_;refine kW hq Fo.au ?_;refine de.opn (s:=ae[q].s) (h:=λlg wt ot tm bv bl bp bd be bu tl ht=>?_);refine fy ?_;refine de.cls ae[q].s ?_;refine fW hq dJ.au ?_;refine da ?_;refine C.E3 ?_;refine aD.oF (aB.g dD) ?_;rintro v σ' aO ⟨rfl,rfl,rfl⟩;refine bI ?_;refine C.home (fu:=f76) func76 aJ rfl ?_;refine dK.cls (m:=0) ⟨G,ae,aF,aL,aj⟩ ?_;exact ai _ _ _ ⟨rfl,by rw[nA];rfl,rfl⟩
theorem Dm{σ:Gh}{c:CV}{k:Int}(hn:c.ae.length<=4):bD prog bT 80 #[aE c.G.b,az k] σ [dK c] (λv σ' As=>σ'=σ/\∃ b' l',v=.map (some b')/\(match fB c.ae k with|none=>l'=[]|some v=>l'.Perm (v.s.values.filter λp=>p.2 != 0))/\As=[cW .u8 ff b' l',dK c]):=by
 refine bD.of ?_;intro Post os out kd F c' cs C aJ ai;refine bI ?_;obtain⟨G,ae,aF,aL,aj⟩:=c;refine dK.opn (h:=λhs bg tx=>?_);cases nA:fB ae k with
 |none=>
  have Ix:BL ae k=none:=by unfold BL;rw[nA];rfl
  refine jL ?_;refine C.cE fi ?_;refine sY ?_;refine C.df rfl ?_;refine cN ?_;refine C.cE (lV (l:=ae) hn) ?_;refine bI ?_;rw[Ix];refine jL ?_;refine C.mm .u8 ff rfl (λb20=>?_);refine bj ?_;refine C.E3 ?_;refine aD.oF (aB.g dD) ?_;rintro v σ' aO ⟨rfl,rfl,rfl⟩;refine bI ?_;refine C.home (fu:=f80) func80 aJ rfl ?_;refine dK.cls (m:=0) ⟨G,ae,aF,aL,aj⟩ ?_;refine At.jR ?_ (ai _ _ _ ⟨rfl,b20,[],rfl,by rw[nA],rfl⟩);exact bZ.au
 |some v0=>
  obtain⟨q,rfl,hq,rfl⟩:=js nA;have Ix:BL ae (q:Int)=some ⟨ae[q].h.bs,0,none⟩:=by unfold BL;rw[nA];rfl
  refine jL ?_;refine C.cE fi ?_;refine sY ?_;refine C.df rfl ?_;refine cN ?_;refine C.cE (lV (l:=ae) hn) ?_;refine bI ?_;rw[Ix];refine ky ?_;refine kW hq Fo.au ?_;refine C.dk (aB.less (cH _) (Di (s:=ae[q].s))) ?_;rintro v aO ⟨b',l',rfl,wE,rfl⟩;refine bI ?_;refine fW hq dJ.au ?_;refine bj ?_;refine C.E3 ?_;refine aD.oF (aB.g dD) ?_;rintro v σ' aO ⟨rfl,rfl,rfl⟩;refine bI ?_;refine C.home (fu:=f80) func80 aJ rfl ?_;refine dK.cls (m:=0) ⟨G,ae,aF,aL,aj⟩ ?_;refine At.jR ?_ (ai _ _ _ ⟨rfl,b',l',rfl,by rw[nA];exact wE,rfl⟩);exact bZ.au
theorem F9{σ:Gh}{c:CV}{k:Int}(hn:c.ae.length<=4):bD prog bT 128 #[aE c.G.b,az k] σ [dK c] (λv σ' As=>σ'=σ/\∃ b' l',v=.map (some b')/\(match fB c.ae k with|none=>l'=[]|some v=>l'.Perm v.s.aH)/\As=[cW .u8 dS b' l',dK c]):=by
 refine bD.of ?_;intro Post os out kd F c' cs C aJ ai;refine bI ?_;obtain⟨G,ae,aF,aL,aj⟩:=c;refine dK.opn (h:=λhs bg tx=>?_);cases nA:fB ae k with
 |none=>
  have Ix:BL ae k=none:=by unfold BL;rw[nA];rfl
  refine jL ?_;refine C.cE fi ?_;refine sY ?_;refine C.df rfl ?_;refine cN ?_;refine C.cE (lV (l:=ae) hn) ?_;refine bI ?_;rw[Ix];refine jL ?_;refine C.mm .u8 dS rfl (λb20=>?_);refine bj ?_;refine C.E3 ?_;refine aD.oF (aB.g dD) ?_;rintro v σ' aO ⟨rfl,rfl,rfl⟩;refine bI ?_;refine C.home (fu:=f128) func128 aJ rfl ?_;refine dK.cls (m:=0) ⟨G,ae,aF,aL,aj⟩ ?_;refine At.jR ?_ (ai _ _ _ ⟨rfl,b20,[],rfl,by rw[nA],rfl⟩);exact bZ.au
 |some v0=>
  obtain⟨q,rfl,hq,rfl⟩:=js nA;have Ix:BL ae (q:Int)=some ⟨ae[q].h.bs,0,none⟩:=by unfold BL;rw[nA];rfl
  refine jL ?_;refine C.cE fi ?_;refine sY ?_;refine C.df rfl ?_;refine cN ?_;refine C.cE (lV (l:=ae) hn) ?_;refine bI ?_;rw[Ix];refine ky ?_;refine kW hq Fo.au ?_;refine C.dk (aB.less (cH _) (F3 (s:=ae[q].s))) ?_;rintro v aO ⟨b',l',rfl,wE,rfl⟩;refine bI ?_;refine fW hq dJ.au ?_;refine bj ?_;refine C.E3 ?_;refine aD.oF (aB.g dD) ?_;rintro v σ' aO ⟨rfl,rfl,rfl⟩;refine bI ?_;refine C.home (fu:=f128) func128 aJ rfl ?_;refine dK.cls (m:=0) ⟨G,ae,aF,aL,aj⟩ ?_;refine At.jR ?_ (ai _ _ _ ⟨rfl,b',l',rfl,by rw[nA];exact wE,rfl⟩);exact bZ.au
theorem te{σ:Gh}{c:CV}{k:Int}{I:HL}(hn:c.ae.length<=4)(hJ:rY I c)(jV:∀ v∈c.ae,v.s.log.length<2^30):bD prog bT 89 #[aE c.G.b,az k] σ [dK c,a9 I] (λv σ' As=>σ'=σ/\∃ (sl:ax) (rs:List jr) (aX:Int),v=.tuple #[sl.v,az aX]/\(match fB c.ae k with|none=>rs=[]/\aX=0|some v=>rs.map (·.toRecR)=v.s.log.map (·.abs.bk)/\aX=v.s.aX)/\As=[aW recC 6 167 sl rs,all (rs.map vj),dK c,a9 I]):=by
 refine bD.of ?_;intro Post os out kd F c' cs C aJ ai;refine bI ?_;obtain⟨G,ae,aF,aL,aj⟩:=c;refine dK.opn (h:=λhs bg tx=>?_);cases nA:fB ae k with
 |none=>
  have Ix:BL ae k=none:=by unfold BL;rw[nA];rfl
  refine ky ?_;refine C.cE fi ?_;refine sY ?_;refine C.df rfl ?_;refine cN ?_;refine C.cE (lV (l:=ae) hn) ?_;refine bI ?_;rw[Ix];refine k7 ?_;refine C.E3 ?_;refine aD.oF (aB.g dD) ?_;rintro v σ' aO ⟨rfl,rfl,rfl⟩;refine bI ?_;refine C.home (fu:=f89) func89 aJ rfl ?_;refine At.aG recC 6 167 (At.yB (show At (aD prog Post bT _ 0 os out) 0 (all (([]:List jr).map vj)::_) _ from ?_));refine dK.cls (m:=0) ⟨G,ae,aF,aL,aj⟩ ?_;refine At.jR ?_ (ai _ _ _ ⟨rfl,aG,[],0,rfl,by rw[nA];exact⟨rfl,rfl⟩,rfl⟩);exact bZ.au
 |some v0=>
  obtain⟨q,rfl,hq,rfl⟩:=js nA;have Ix:BL ae (q:Int)=some ⟨ae[q].h.bs,0,none⟩:=by unfold BL;rw[nA];rfl
  refine ky ?_;refine C.cE fi ?_;refine sY ?_;refine C.df rfl ?_;refine cN ?_;refine C.cE (lV (l:=ae) hn) ?_;refine bI ?_;rw[Ix];refine ky ?_;refine kW hq Fo.au ?_;refine C.dk (aB.less (cH _) (AD (hJ.sh _ (bC hq)) (jV _ (bC hq)))) ?_;rintro v aO ⟨sl,rs,rfl,qc,rfl⟩;refine bI ?_;refine fW hq dJ.au ?_;refine cF ?_;refine C.E3 ?_;refine aD.oF (aB.g dD) ?_;rintro v σ' aO ⟨rfl,rfl,rfl⟩;refine bI ?_;refine C.home (fu:=f89) func89 aJ rfl ?_;refine dK.cls (m:=0) ⟨G,ae,aF,aL,aj⟩ ?_;refine At.jR ?_ (ai _ _ _ ⟨rfl,sl,rs,ae[q].s.aX,rfl,by rw[nA];exact⟨qc,rfl⟩,rfl⟩);exact bZ.au
def Ga(l:List mC)(k:Int):Option mC:=if k<0 then none else l[k.toNat]?
theorem Dn{σ:Gh}{c:CV}{k:Int}{I:HL}(hJ:rY I c)(hl:c.aL.length<=60):bD prog bT 39 #[aE c.G.b,az k] σ [dK c,a9 I]
  (λv σ' As=>σ'=σ/\∃ (sl:ax) (n:Int) (rd:List Int),v=.tuple #[az n,sl.v]/\(match Ga c.aL k with|none=>n=0/\rd=[]|some t=>n=t.state/\rd=t.reads)/\As=[aW dv 1 21 sl rd,dK c,a9 I]):=by
 refine bD.of ?_;intro Post os out kd F c' cs C aJ ai;refine bI ?_;obtain⟨G,ae,aF,aL,aj⟩:=c;refine dK.opn (h:=λhs bg tx=>?_);dsimp only at hl;refine ky ?_;refine C.cE fi ?_;refine sY ?_;refine C.df rfl ?_;refine da ?_;refine C.cmp rfl (λoj=>?_) (λoj=>?_)
 ·refine jW ?_;refine C.E3 ?_;refine aD.oF (aB.g dD) ?_;rintro v σ' aO ⟨rfl,rfl,rfl⟩;refine bI ?_;refine C.home (fu:=f39) func39 aJ rfl ?_;refine At.aG dv 1 21 ?_;refine dK.cls (m:=0) ⟨G,ae,aF,aL,aj⟩ ?_;refine At.jR ?_ (ai _ _ _ ⟨rfl,aG,0,[],rfl,by unfold Ga;rw[aK oj];exact⟨rfl,rfl⟩,rfl⟩);exact bZ.au
 ·refine dm ?_;refine C.mW rfl ?_ (s:=tx) (l:=aL) (f:=rV);refine C.cmp rfl (λvZ=>?_) (λvZ=>?_)
  ·refine dV ?_;refine C.E3 ?_;refine aD.oF (aB.g dD) ?_;rintro v σ' aO ⟨rfl,rfl,rfl⟩;refine bI ?_;refine C.home (fu:=f39) func39 aJ rfl ?_;refine At.aG dv 1 21 ?_;refine dK.cls (m:=0) ⟨G,ae,aF,aL,aj⟩ ?_;refine At.jR ?_ (ai _ _ _ ⟨rfl,aG,0,[],rfl,by unfold Ga;rw[aq oj,wA (show aL.length<=k.toNat by omega)];exact⟨rfl,rfl⟩,rfl⟩);exact bZ.au
  ·refine da ?_;obtain⟨q,rfl⟩:=g7 (show 0<=k by omega);have hq:q<aL.length:=ak;have sV:dX I dv 21 aL[q].sr aL[q].reads:=(hJ.aL _ (bC hq)).r;have htz:aL[q].reads.length<2^20:=(hJ.aL _ (bC hq)).z;refine C.wR (cm 24 0 17++[(4,17),(5,18)]) 19 [16,18] 2 ?_ (W:=[om G.b 1 hs.v bg.v tx.v (.chan (some G.dn)) aj (CV.st ⟨G,ae,aF,aL,aj⟩),aW rV 3 126 tx aL]);refine gY ?_;refine mB ?_;refine Dr.chain rfl ?_ (λ_ s=>bZ.sat bZ.au s);refine Ch.m 16 (aP λe aa hk=>?_);refine C.dk (aB.less (cH _) (pG sV (Nat.lt_trans htz (by decide)))) ?_;rintro v aO ⟨s',rfl,rfl⟩;refine bI ?_;refine hk _ _ lU ?_;refine Ch.q 18 (λh=>C.lh rfl h) ?_;refine ee ?_;refine C.E3 ?_;refine aD.oF (aB.g dD) ?_;rintro v σ' aO ⟨rfl,rfl,rfl⟩;refine bI ?_;refine C.home (fu:=f39) func39 aJ rfl ?_;refine dK.cls (m:=0) ⟨G,ae,aF,aL,aj⟩ ?_;refine At.jR ?_ (ai _ _ _ ⟨rfl,s',aL[q].state,aL[q].reads,rfl,by unfold Ga;rw[aq oj,gy,fp hq];exact⟨rfl,rfl⟩,rfl⟩);exact bZ.au
theorem Gb{ao:Bool}{lg:ax}{l:List cu}(hl:l.length<2^40):aB prog ao bG 127 #[lg.v] [aW bQ 7 190 lg l] (λv As=>∃ s':ax,v=s'.v/\As=[aW bQ 7 190 s' l,aW bQ 7 190 lg l]):=by
 refine aB.of λR C kd d F c cs aJ ai=>?_;refine bI ?_;refine At.aaA (s:=lg) (l:=l) (f:=bQ) Fo.au ?_ ?_
 ·rintro rfl rfl;refine dm ?_;refine C.U4 rfl ?_ (a:=none) (len:=0) (cap:=0);refine cF ?_;refine At.aG bQ 7 190 ?_;exact C.a8 aJ ai ⟨aG,rfl,rfl⟩
 ·intro h1 h2;have hv:lg.v=.slice (some ⟨lg.b,0,none⟩) lg.len lg.cap:=by unfold ax.v;rw[h1]
  refine dm ?_;refine C.U4 rfl ?_ (a:=some ⟨lg.b,0,none⟩) (len:=lg.len) (cap:=lg.cap) (hx:=hv);refine da ?_;refine C.bs0 bQ rfl (λb5=>?_);refine fy ?_;refine C.EP (l:=[]) l rfl (λs'=>?_) (hsrc:=λH st=>?_) (s:=⟨some ⟨b5,0,none⟩,0,0⟩)
  ·refine bj ?_;exact C.a8 aJ ai ⟨s',rfl,rfl⟩
  ·exact dF.src (dF.own (s:=lg) Fo.au) st (λj=>rfl)
abbrev xA(m:cu):HP:=all [aW cK 3 67 m.so m.ops,aW dv 1 21 m.sr m.reads]
variable{R:Nat->aQ->Array Obj->Prop}{d:Nat}{As F L:List HP}{g:aQ}{ms:List cu}
theorem TA(m:cu)(hr:dJ [aW cK 3 67 m.so m.ops,aW dv 1 21 m.sr m.reads,all (ms.map xA)] As L)(h:At R d (all ((ms++[m]).map xA)::L) g):At R d As g:=
 At.perm hr.perm λH s=>(rQ (f:=xA) m (.cons .head (.cons .head .nil)) h) H (Sat.fR (l:=[aW cK 3 67 m.so m.ops,aW dv 1 21 m.sr m.reads]) s)
theorem L5{σ:Gh}{c:CV}{I:HL}(hJ:rY I c)(hO:∀ m∈c.aF,m.ops.length<2^20)(hl:c.aF.length<2^30):bD prog bT 77 #[aE c.G.b] σ [dK c,a9 I]
  (λv σ' As=>σ'=σ/\∃ (sl:ax) (ms:List cu),v=sl.v/\ms.map (·.toMsgR)=c.aF.map (·.toMsgR)/\As=[aW bQ 7 190 sl ms,all (ms.map xA),dK c,a9 I]):=by
 refine bD.of ?_;intro Post os out kd F c' cs C aJ ai;refine bI ?_;obtain⟨G,ae,aF,aL,aj⟩:=c;have hJb:∀ m∈aF,ku I m:=hJ.aF;refine dK.opn (h:=λhs bg tx=>?_);dsimp only at hl hO;refine jL ?_;refine C.cE fi ?_;refine sY ?_;refine C.df rfl ?_;refine dm ?_;refine C.dk (aB.less (cH _) (Gb (lg:=bg) (l:=aF) ak)) ?_;rintro v aO ⟨s3,rfl,rfl⟩;refine bI ?_;refine dK.cls (m:=1) ⟨G,ae,aF,aL,aj⟩ ?_;refine cN ?_;refine C.mW rfl ?_ (s:=s3) (l:=aF) (f:=bQ);refine bj ?_;refine At.yB (show At (aD prog Post bT σ 0 os out) 0 (all (([]:List cu).map xA)::_) _ from ?_);refine C.bS (X:=Nat×List cu) (λx=>[(0,aE G.b),(3,s3.v),(18,s3.v),(19,az aF.length),(20,az x.1)]) (λx=>aW bQ 7 190 s3 (x.2++aF.drop x.1)::all (x.2.map xA)::rl 1 ⟨G,ae,aF,aL,aj⟩::a9 I::F) (λx=>x.1<=aF.length/\x.2.map (·.toMsgR)=(aF.take x.1).map (·.toMsgR)) (λx=>aF.length-x.1) (0,[]) ⟨rfl,rfl,rfl,rfl,rfl,trivial⟩ ⟨eC _,rfl⟩ ?_ (hI:=by rw[eZ,Ac];exact bZ.au);rintro⟨i,ms⟩ e ⟨hi,RN⟩ ih;dsimp only at hi RN⊢;have UT:ms.length=i:=by have:=congrArg List.length RN;rw[dd,dd,iz]at this;omega
 refine bj ?_;refine C.cmp rfl (λsZ=>?_) (λsZ=>?_)
 ·refine bj ?_;have cG:i<aF.length:=by simpa using sZ
  have hlen:i<(ms++aF.drop i).length:=by simp;omega
  have iA:(ms++aF.drop i)[i]'hlen=aF[i]:=by rw[Jx ak];simp[UT]
  have Lj:=(hJb _ (bC cG)).o;have hmr:=(hJb _ (bC cG)).r;have hmz:=(hJb _ (bC cG)).z;have hoz:=hO _ (bC cG);refine da ?_;refine C.lZ rfl (λhj=>?_) (s:=s3) (l:=ms++aF.drop i) (j:=i) (hj:=hlen);rw[iA];simp only[bQ];refine C.al rfl (λb5=>?_);refine da ?_;refine C.wR (cm 25 0 12++[(37,13),(38,14)]) 16 [6,9,10,11,12,13,14,15] 4 ?_ (W:=[l8 b5 (aF[i]'cG),a9 I]);refine Eb ?_;refine Dr.chain rfl ?_ (λ_ s=>bZ.sat bZ.au s);refine Ch.m 6 (aP λe aa hk=>?_);refine C.dk (aB.less (cH _) (tV Lj (Nat.lt_trans hoz (by decide)))) ?_;rintro v aO ⟨Vp,rfl,rfl⟩;refine bI ?_;refine hk _ _ lU ?_;refine Ch.m 9 (aP λe aa hk=>?_);refine C.dk (aB.less (cH _) (pG hmr (Nat.lt_trans hmz (by decide)))) ?_;rintro v aO ⟨s34,rfl,rfl⟩;refine bI ?_;refine hk _ _ lU ?_;refine Ch.m 10 (aP λe aa hk=>?_);refine C.dT rfl (hk _ _ .refl ?_);refine Ch.q 11 (λh=>C.fa rfl h) ?_;refine Ch.m 12 (aP λe aa hk=>?_);refine C.HC (s:=s3) (l:=ms++aF.drop i) (j:=i) (o:=5) ({(aF[i]'cG)with so:=Vp}:cu) rfl ?_ (hj:=hlen) (ha:=by rw[iA];rfl);refine hk _ undef lU ?_;refine Ch.m 13 (aP λe aa hk=>?_);refine C.dT rfl (hk _ _ ?_) (hj:=by rw[cS];exact hlen);refine Ch.q 14 (λh=>C.fa rfl h) ?_;refine Ch.m 15 (aP λe aa hk=>?_);refine C.HC (s:=s3) (l:=(ms++aF.drop i).set i {(aF[i]'cG)with so:=Vp}) (j:=i) (o:=6) ({(aF[i]'cG)with so:=Vp,sr:=s34}:cu) rfl (hk _ undef ?_) (hj:=by rw[cS];exact hlen) (ha:=by rw[wC];rfl);refine vT ?_;refine TA (ms:=ms) ({(aF[i]'cG)with so:=Vp,sr:=s34}:cu) dJ.au ?_;refine again ih (i+1,ms++[({(aF[i]'cG)with so:=Vp,sr:=s34}:cu)]) ⟨cG,?_⟩ (cD) (hr:=?_)
  ·rw[fq cG,eI,eI,RN];rfl
  ·have e1:((ms++aF.drop i).set i ({(aF[i]'cG)with so:=Vp}:cu)).set i ({(aF[i]'cG)with so:=Vp,sr:=s34}:cu)=(ms++[({(aF[i]'cG)with so:=Vp,sr:=s34}:cu)])++aF.drop (i+1):=by rw[AY,VV _ _ ak,UT,AW,i7 cG,vD,qw];rfl
   rw[e1];exact bZ.au
 ·refine dm ?_;have Dc:aF.drop i=[]:=qy (by simp at sZ;omega);have BO:aF.take i=aF:=g5 (by simp at sZ;omega);rw[Dc,lK];rw[BO]at RN;refine C.E3 ?_;refine dK.opn (m:=1) (c:=⟨G,ae,aF,aL,aj⟩) (h:=λhs bg tx=>?_);refine aD.oF (aB.g dD) ?_;rintro v σ' aO ⟨rfl,rfl,rfl⟩;refine bI ?_;refine C.home (fu:=f77) func77 aJ rfl ?_;refine dK.cls (m:=0) ⟨G,ae,aF,aL,aj⟩ ?_;refine At.jR ?_ (ai _ _ _ ⟨rfl,s3,ms,rfl,RN,rfl⟩);exact bZ.au
variable{q:Nat}
theorem Qe(hi:q<ms.length)(hf:Fo (all (ms.map xA)) As L)(h:At R d (aW cK 3 67 ms[q].so ms[q].ops::aW dv 1 21 ms[q].sr ms[q].reads::all ((ms.eraseIdx q).map xA)::L) g):At R d As g:=
 kJ (f:=xA) hi hf λH s=>h H (Sat.flat (l:=[aW cK 3 67 ms[q].so ms[q].ops,aW dv 1 21 ms[q].sr ms[q].reads]) s)
def abc(m:MsgR):Prop:=(∀ o∈m.ops,(-9223372036854775808<=o.k/\o.k<=9223372036854775807)/\(-9223372036854775808<=o.v/\o.v<=9223372036854775807))/\(∀ x∈m.reads, -9223372036854775808<=x/\x<=9223372036854775807)
abbrev nl(b x y:Nat):HP:=bX b (.cells #[aE x,aE y] 150 (0,0))
theorem L6{σ:Gh}{c:CV}{I:HL}{w:WV}{bw:Nat}(hJ:rY I c)(hW:WI I w)(hO:∀ m∈c.aF,m.ops.length<2^20)(hl:c.aF.length<2^30)(he:c.aF.map (·.toMsgR)=w.aF.map (·.toMsgR))(hz:∀ m∈w.aF,abc m.toMsgR)(hRl:∀ m∈c.aF,m.reads.length<2^20):
  bD prog bT 120 #[.agg #[aE c.G.b,aE bw]] σ [dK c,wP bw w,a9 I] (λv σ' As=>σ'=σ/\v=.bool true/\As=[dK c,wP bw w,a9 I]):=by
 refine bD.of ?_;intro Post os out kd F c' cs C aJ ai;refine bI ?_;have hlen:c.aF.length=w.aF.length:=by have:=congrArg List.length he;simpa using this
 refine bj ?_;refine C.bx rfl (λb1=>?_);refine cF ?_;refine C.bS (X:=Nat) (λx=>[(1,aE b1),(3,az x)]) (λ_=>nl b1 c.G.b bw::dK c::wP bw w::a9 I::F) (λx=>x<=2) (λx=>2-x) 0 ⟨rfl,rfl,trivial⟩ (eC _) ?_;intro x e hx ih;refine da ?_;refine C.cmp rfl (λre=>?_) (λre=>?_)
 ·refine cF ?_;refine aD.k5 (L5 hJ hO hl) ?_;rintro v σ' aO ⟨rfl,sl,ms,rfl,RN,rfl⟩;refine bI ?_;have UT:ms.length=c.aF.length:=by have:=congrArg List.length RN;simpa using this
  refine wP.opn (b:=bw) (w:=w) (h:=λsh bg tx=>?_);refine cN ?_;refine C.mW rfl ?_ (s:=sl) (l:=ms) (f:=bQ);refine cF ?_;refine C.mW rfl ?_ (s:=bg) (l:=w.aF) (f:=bQ);refine C.du rfl ?_;refine cF ?_;refine C.bS (X:=Nat×List cu) (λy=>[(1,aE b1),(3,az x),(4,sl.v),(5,az y.1)]) (λy=>aW bQ 7 190 sl y.2::all ((ms.drop y.1).map xA)::nl b1 c.G.b bw::dK c::wO bw w sh bg tx (a9 I::F)) (λy=>y.1<=ms.length/\y.2.length=ms.length/\y.2.drop y.1=ms.drop y.1) (λy=>ms.length-y.1) (0,ms) ⟨rfl,rfl,rfl,rfl,trivial⟩ ⟨eC _,rfl,rfl⟩ ?_ (hI:=by rw[Ac];exact bZ.au);rintro⟨i,mx⟩ e ⟨hi,hmx,Dc⟩ D7;dsimp only at hi hmx Dc⊢;refine cN ?_;refine C.mW rfl ?_ (s:=sl) (l:=mx) (f:=bQ);refine C.cmp rfl (λh31=>?_) (λh31=>?_)
  ·refine bj ?_;have cG:i<ms.length:=ak;have hix:i<mx.length:=ak;have OS:i<w.aF.length:=ak;have Vb:mx[i]=ms[i]:=by have h1:=i7 hix;have h2:=i7 cG;rw[Dc,h2]at h1;exact(AX h1).1.symm
   obtain⟨ma,TB⟩:∃ ma,ma=ms[i]:=⟨_,rfl⟩;obtain⟨mb,L7⟩:∃ mb,mb=w.aF[i]:=⟨_,rfl⟩;have heq:ma.toMsgR=mb.toMsgR:=by
    have h1:(ms.map (·.toMsgR))[i]'(by simpa using cG)=(w.aF.map (·.toMsgR))[i]'(by simpa using OS):=by simp only[RN,he]
    rw[qx,qx]at h1;rw[TB,L7];exact h1
   have TC:=hW.aF mb (L7▸bC OS);have Zh:=hz mb (L7▸bC OS);have hmO:ma.ops.length<2^20:=by
    have h1:ma.toMsgR∈c.aF.map (·.toMsgR):=by rw[<- RN];exact bL.2 ⟨ma,TB▸bC cG,rfl⟩
    obtain⟨mc,h2,h3⟩:=bL.1 h1;have:=hO mc h2;rw[<- h3];exact this
   have hmR:ma.reads.length<2^40:=by
    have h1:ma.toMsgR∈c.aF.map (·.toMsgR):=by rw[<- RN];exact bL.2 ⟨ma,TB▸bC cG,rfl⟩
    obtain⟨mc,h2,h3⟩:=bL.1 h1;have:=hRl mc h2;rw[<- h3];omega
   rw[i7 cG,<- TB];obtain⟨ra,Gc,Dp⟩:=ma;obtain⟨rb,sob,srb⟩:=mb;obtain rfl:ra=rb:=heq;dsimp only at hmO Zh hmR;refine da ?_;refine C.dT rfl ?_ (s:=sl) (l:=mx) (f:=bQ) (j:=i);refine C.lZ rfl (λhj=>?_) (s:=sl) (l:=mx) (f:=bQ) (j:=i);rw[Vb,<- TB];simp only[bQ];refine C.al rfl (λb6=>?_);refine ky ?_;refine C.dT rfl ?_ (s:=bg) (l:=w.aF) (f:=bQ) (j:=i);refine C.lZ rfl (λhj=>?_) (s:=bg) (l:=w.aF) (f:=bQ) (j:=i);rw[<- L7];simp only[bQ];refine C.al rfl (λb7=>?_);refine dV ?_;refine Qe (ms:=(⟨ra,Gc,Dp⟩:cu)::ms.drop (i+1)) (q:=0) (Nat.zero_lt_succ _) Fo.au ?_;simp only[R5,List.eraseIdx_cons_zero];refine C.cE (aB.less (cH _) (u5 (so:=Gc) (ro:=sob) (ops:=ra.ops) rfl TC.o Zh.1 ak)) ?_;refine H0 ?_;refine C.cE (aB.less (cH _) (na (so:=Dp) (ro:=srb) (l:=ra.reads) rfl TC.r Zh.2 hmR)) ?_;refine jI ?_;refine C.rg [0,1,2,3,4,5,6,7,8,9,10,11,12,13,14,15,16,17,18,19,20,21,22,23,24,25,26,27,28,29,30,31,32,33,34,35,36,37,38,39,40] ?_;refine cN ?_;refine C.du rfl ?_ (hf:=by intro h;exact h rfl);refine cF ?_;refine C.du rfl ?_ (hf:=by intro h;exact h rfl);refine dm ?_;refine C.du rfl ?_ (hf:=by intro h;exact h rfl);refine dm ?_;refine C.du rfl ?_ (hf:=by intro h;exact h rfl);refine dm ?_;refine C.H7 underlying4 rfl ?_;refine oX ?_;refine C.bS (X:=Nat×List cy) (λy=>[(1,aE b1),(3,az x),(4,sl.v),(5,az i),(6,aE b6),(7,aE b7),(10,az y.1)]) (λy=>aW cK 3 67 Gc y.2::aW dv 1 21 Dp ra.reads::l8 b6 ⟨ra,Gc,Dp⟩::aW bQ 7 190 sl mx::all ((ms.drop (i+1)).map xA)::nl b1 c.G.b bw::dK c::wO bw w sh bg tx (a9 I::F)) (λy=>y.1<=ra.ops.length/\y.2.length=ra.ops.length) (λy=>ra.ops.length-y.1) (0,ra.ops) ⟨rfl,rfl,rfl,rfl,rfl,rfl,rfl,trivial⟩ ⟨eC _,rfl⟩ ?_;rintro⟨k,lo⟩ e ⟨hk,og⟩ z8;dsimp only at hk og⊢;refine cF ?_;refine C.mW rfl ?_ (s:=Gc) (l:=lo) (f:=cK);refine C.cmp rfl (λaeB=>?_) (λaeB=>?_)
   ·refine dV ?_;refine C.dT rfl ?_ (s:=Gc) (l:=lo) (f:=cK) (j:=k);refine C.HD (s:=Gc) (l:=lo) (f:=cK) (j:=k) ⟨false,113,0⟩ rfl ?_;refine dm ?_;exact again z8 (k+1,lo.set k ⟨false,113,0⟩) ⟨cD,by dsimp only;rw[cS];exact og⟩ (cD)
   ·refine cF ?_;refine C.bS (X:=Nat×List Int) (λy=>[(1,aE b1),(3,az x),(4,sl.v),(5,az i),(6,aE b6),(11,az y.1)]) (λy=>aW dv 1 21 Dp y.2::l8 b6 ⟨ra,Gc,Dp⟩::aW bQ 7 190 sl mx::all ((ms.drop (i+1)).map xA)::nl b1 c.G.b bw::dK c::wO bw w sh bg tx (a9 I::F)) (λy=>y.1<=ra.reads.length/\y.2.length=ra.reads.length) (λy=>ra.reads.length-y.1) (0,ra.reads) ⟨rfl,rfl,rfl,rfl,rfl,rfl,trivial⟩ ⟨eC _,rfl⟩ ?_;rintro⟨k,lo⟩ e ⟨hk,og⟩ z8;dsimp only at hk og⊢;refine cF ?_;refine C.mW rfl ?_ (s:=Dp) (l:=lo) (f:=dv);refine C.cmp rfl (λXy=>?_) (λXy=>?_)
    ·refine dm ?_;refine C.dT rfl ?_ (s:=Dp) (l:=lo) (f:=dv) (j:=k);refine C.iB (s:=Dp) (l:=lo) (f:=dv) (j:=k) 99 rfl ?_;refine dm ?_;exact again z8 (k+1,lo.set k 99) ⟨cD,by dsimp only;rw[cS];exact og⟩ (cD)
    ·refine dm ?_;refine C.dT rfl ?_ (s:=sl) (l:=mx) (f:=bQ) (j:=i);refine C.HD (s:=sl) (l:=mx) (f:=bQ) (j:=i) ⟨bq,aG,aG⟩ rfl ?_;refine dm ?_;refine again D7 (i+1,mx.set i ⟨bq,aG,aG⟩) ⟨cG,by dsimp only;rw[cS];exact hmx,?_⟩ (cD);dsimp only;rw[Jv ak];have h1:=i7 hix;have h2:=i7 cG;rw[Dc,h2]at h1;exact(AX h1).2.symm
  ·refine dV ?_;refine wP.cls (b:=bw) w ?_;exact again ih (x+1) ak ak
 ·refine cF ?_;exact aD.db aJ ai ⟨rfl,rfl,rfl⟩
variable{ao:Bool}
def L8(k n:Int):eX:=⟨k,n,true,[],0,il,[],[],[],[],0,[]⟩
theorem BP{n:Int}:aB prog ao bG 16 #[az n] [] (λv As=>((1<=n/\n<=4)/\∃ b w,v=.tuple #[.pointer (some ⟨b,0,none⟩),az 0]/\w.abs=qg n/\(∀ I,WI I w)/\As=[wP b w])\/((n<1\/4<n)/\v=.tuple #[.pointer none,az 1]/\As=[])):=by
 refine aB.of λR C kd d F c cs aJ ai=>?_;refine pb ?_;refine dV ?_;refine C.cmp rfl (λh8=>?_) (λh8=>?_)
 ·refine i6 ?_;exact C.a8 aJ ai (.inr ⟨.inl h8,rfl,rfl⟩)
 ·refine bj ?_;refine C.cmp rfl (λq7=>?_) (λq7=>?_)
  ·refine dV ?_;exact C.a8 aJ ai (.inr ⟨.inr ak,rfl,rfl⟩)
  ·refine cF ?_;refine C.bx rfl (λb14=>?_);refine bj ?_;have hn:1<=n/\n<=4:=⟨ak,ak⟩;refine At.turn (A:=bX b14 (.cells #[.slice none 0 0,.slice none 0 0,.slice none 0 0,.bool false] 53 (0,0))) Fo.au (A':=bX b14 (.cells #[aG.v,aG.v,aG.v,.bool false] 53 (0,0))) (λ_ h=>h) ?_;refine At.aG eB 1 54 (show At R d (aW eB 1 54 aG (([]:List (Nat×eX)).map (·.1))::_) _ from(At.aG bQ 7 137 (At.aG rV 3 71 ?_)));refine At.yB (show At R d (all (([]:List (Nat×eX)).map n8)::_) _ from ?_);refine da ?_;refine C.bS (X:=Nat×ax×List (Nat×eX)) (λx=>[(0,az n),(4,.pointer (some ⟨b14,0,none⟩)),(5,az x.1)]) (λx=>wO b14 ⟨x.2.2,[],[],false⟩ x.2.1 aG aG F) (λx=>(x.1:Int)<=n/\x.2.2.length=x.1/\x.2.2.map (·.2)=((upto n).take x.1).map λk=>L8 k n) (λx=>(n-x.1).toNat) (0,aG,[]) ⟨rfl,rfl,rfl,trivial⟩ (And.intro (by show(0:Int)<=n;omega) (And.intro rfl rfl)) ?_;rintro⟨k,s1,l⟩ e ⟨hk,hl,hm⟩ ih;dsimp only at hk hl hm⊢;refine cN ?_;refine C.cmp rfl (λxv=>?_) (λxv=>?_)
   ·refine dm ?_;refine C.bx rfl (λju=>?_);refine bj ?_;refine At.aG recC 6 247 (At.aG aI 1 3 (At.aG mj 2 258 (At.aG qj 6 287 (aaO (At.aG su 3 251 (At.aG bQ 7 137 (At.aG bQ 7 137 ?_)))))));refine dp.cls (b:=ju) ⟨k,n,true,[],0,[],[],[],[],[],0,[]⟩ ?_ (lg:=aG) (vl:=aG) (lk:=aG) (un:=aG) (tm:=aG) (wt:=aG) (ot:=aG);refine bj ?_;refine C.dk (q8 (b:=ju) (s:=⟨k,n,true,[],0,[],[],[],[],[],0,[]⟩)) ?_;rintro v aO rfl;refine bI ?_;refine At.turn (A:=dp ju _) (A':=n8 (ju,L8 k n)) (.head) (λ_ h=>h) ?_;refine jL ?_;refine C.n5 rfl (λb32=>?_);refine C.oh (f:=eB) ju rfl (λs2=>?_) (hsz:=by simp only[dd,hl];omega);refine ky ?_;have sq:l.map (·.1)++[ju]=(l++[(ju,L8 k n)]).map (·.1):=by simp
    refine At.turn (A:=aW eB 1 54 s2 (l.map (·.1)++[ju])) (A':=aW eB 1 54 s2 ((l++[(ju,L8 k n)]).map (·.1))) Fo.au (λ_ h=>by rw[<- sq];exact h) ?_;refine rQ (f:=n8) (l:=l) (ju,L8 k n) dJ.au ?_;refine again ih (k+1,s2,l++[(ju,L8 k n)]) ⟨cD,by simp[hl],?_⟩ (cD);rw[dg ak,eI,hm,eI];rfl
   ·refine dV ?_;rw[oZ ak]at hm;refine wP.cls ⟨l,[],[],false⟩ ?_;refine C.a8 aJ ai (.inl ⟨hn,b14,⟨l,[],[],false⟩,rfl,?_,λI=>⟨λp hp=>?_,λm hm=>(by cases hm),λt ht=>(by cases ht)⟩,rfl⟩)
    ·have e1:l.map (·.2.abs)=(l.map (·.2)).map (·.abs):=by rw[ux];rfl
     unfold qg WV.abs;dsimp only;rw[e1,hm,ux];rfl
    ·have z3:p.2∈l.map (·.2):=bL.2 ⟨p,hp,rfl⟩;rw[hm]at z3;obtain⟨j,_,e⟩:=bL.1 z3;rw[<- e];exact⟨λr hr=>(by cases hr),λr hr=>(by cases hr),λr hr=>(by cases hr),λr hr=>(by cases hr)⟩
structure WB0(w:WR):Prop where
 n:1<=w.sh.length/\w.sh.length<=4
 aF:w.aF.length<2^20
 aL:w.aL.length<=60
theorem WV.np(w:WV):w.abs.sh.length=w.sh.length:=by simp[WV.abs]
theorem WV.fG(w:WV):w.abs.aF.length=w.aF.length:=by simp[WV.abs]
theorem WV.j3(w:WV):w.abs.aL.length=w.aL.length:=by simp[WV.abs]
theorem Qf(ops:List cy)(n:Int)(h:0<ops.length):ie ops[0].k n=gf ops n:=by
 cases ops with
 |nil=>cases h
 |cons o l=>rfl
def Gd(w:WV)(t:mC)(tx:Int):cu:=⟨{bq with kind:=1,aV:= -1,to:=gf t.ops w.sh.length,tx:=tx,ops:=t.ops},t.so,aG⟩
theorem w6{I:HL}{b tx:Nat}{w:WV}(hI:WI I w)(hn:1<=w.sh.length/\w.sh.length<=4)(nj:w.aF.length<2^30)(uX:tx<w.aL.length)(cJ:iX w.aL[tx].ops/\1<=w.aL[tx].ops.length):
  aB prog ao bG 32 #[.pointer (some ⟨b,0,none⟩),az tx] [wP b w,a9 I] (λv As=>As=[wP b {w with aF:=w.aF++[Gd w w.aL[tx] tx]},a9 I]):=by
 refine aB.of λR C kd d F c cs aJ ai=>?_;refine bI ?_;refine wP.opn (h:=λsh bg qu=>?_);have sV:=(hI.aL _ (bC uX)).o;have Zc:0<w.aL[tx].ops.length:=cJ.2;have xq:=cJ.1.1 _ (bC Zc);have Qb:ie w.aL[tx].ops[0].k ((w.sh.map (·.1)).length:Int)=gf w.aL[tx].ops w.sh.length:=by rw[dd];exact Qf _ _ Zc
 refine oW ?_;refine C.wR (cm 13 0 22) 23 [14,17,18,19,22] 3 ?_ (W:=[bX b (.cells #[sh.v,bg.v,qu.v,.bool w.aj] 53 (0,0)),aW eB 1 54 sh (w.sh.map (·.1)),a9 I]);refine gY ?_;refine Eb ?_;refine Dr.chain rfl ?_ (λ_ s=>bZ.sat bZ.au s);refine Ch.m 14 (aP λe aa hk=>?_);refine C.cE (Da (key:=w.aL[tx].ops[0].k) (n:=((w.sh.map (·.1)).length:Int)) ak ak (by rw[dd];omega)) ?_;refine pb ?_;rw[Qb];refine hk _ _ lU ?_;refine Ch.q 17 (λh=>C.bd rfl h) ?_;refine Ch.m 18 (aP λe aa hk=>?_);refine C.n5 rfl (λb31=>hk _ _ .cons ?_);refine Ch.m 19 (aP λe aa hk=>?_);refine C.oh (Gd w w.aL[tx] tx) rfl (λs2=>?_);refine hk _ _ lU ?_;refine Ch.m 22 (aP λe aa hk=>?_);refine C.st rfl (hk _ undef ?_);refine ee ?_;refine wP.cls {w with aF:=w.aF++[Gd w w.aL[tx] tx]} ?_;exact C.cQ aJ ai rfl
def WQ(b:Nat)(I:HL)(r:WR)(y:Value)(v:Value)(As:List HP):Prop:=∃ I' w',Sub I I'/\WI I' w'/\w'.abs=r/\v=y/\As=[wP b w',a9 I']
theorem Dq{I:HL}{b:Nat}{w:WV}{so:ax}{ops:List cy}(hI:WI I w)(hb:WB0 w.abs)(ho:dX I gg 63 so ops)(hl:ops.length<2^44):
  aB prog ao bG 20 #[.pointer (some ⟨b,0,none⟩),so.v] [wP b w,a9 I] (WQ b I (eM w.abs ops).1 (.tuple #[az (eM w.abs ops).2.1,az (eM w.abs ops).2.2])):=by
 refine aB.of λR C kd d F c cs aJ ai=>?_;refine bI ?_;refine wP.opn (h:=λsh bg qu=>?_);have uX:=hb.aL;rw[WV.j3]at uX;have hbg:=hb.aF;rw[WV.fG]at hbg;refine k7 ?_;refine C.pU (λXz=>?_) (λXz=>?_)
 ·refine cF ?_;refine wP.cls w ?_;have e1:eM w.abs ops=(w.abs,0,9):=by unfold eM;rw[aK (show w.abs.aj=true from Xz)]
  rw[e1]at ai;exact C.a8 aJ ai ⟨I,w,Sub.refl _,hI,rfl,rfl,rfl⟩
 ·refine C.go ?_;have dt:¬ w.abs.aj=true:=by show¬ w.aj=true;simp[Xz]
  refine bj ?_;refine C.cE (H5 ho ak) ?_;refine bI ?_;generalize hz:decide (fb ops)=z;rcases fU z with rfl|rfl
  ·refine dV ?_;have hr:fb ops:=by simpa using hz
   refine dm ?_;refine C.cmp rfl (λsZ=>?_) (λsZ=>?_)
   ·refine oX ?_;refine wP.cls w ?_;have e1:eM w.abs ops=(w.abs,0,3):=by unfold eM;rw[aq dt,aq (by simpa using hr),aK (.inl (by rw[WV.j3];omega))]
    rw[e1]at ai;exact C.a8 aJ ai ⟨I,w,Sub.refl _,hI,rfl,rfl,rfl⟩
   ·refine dm ?_;refine C.cmp rfl (λh28=>?_) (λh28=>?_)
    ·refine dV ?_;refine wP.cls w ?_;have e1:eM w.abs ops=(w.abs,0,3):=by unfold eM;rw[aq dt,aq (by simpa using hr),aK (.inr (by rw[WV.fG];omega))]
     rw[e1]at ai;exact C.a8 aJ ai ⟨I,w,Sub.refl _,hI,rfl,rfl,rfl⟩
    ·refine dm ?_;refine At.aG gg 3 63 ?_;refine da ?_;refine C.EP (f:=gg) (s:=aG) (l:=[]) ops rfl (λs7=>?_) (hsrc:=λH st=>dF.src (f:=gg) (el:=63) (.a9 Fo.au ho) st (λ_=>rfl)) (hsz:=by have:=hr.2.2.2;simp only[uv];omega);refine bj ?_;refine At.JS (s:=s7) (f:=gg) Fo.au Fo.au λI1 fD Vo=>?_;rw[eZ]at Vo;refine jL ?_;refine C.n5 rfl (λb40=>?_);refine C.oh (mC.mk ⟨ops,1,[]⟩ s7 aG) rfl (λs8=>?_);refine cN ?_;have Qg:WI I1 {w with aL:=w.aL++[mC.mk ⟨ops,1,[]⟩ s7 aG]}:=⟨(hI.mono fD).sh,(hI.mono fD).aF,λt ht=>by
      rcases cg.1 ht with ht|ht
      ·exact(hI.mono fD).aL t ht
      ·obtain rfl:=dN.1 ht;exact⟨Vo,.nil ..⟩⟩
     refine dV ?_;refine C.ar rfl ?_ (r:=(w.aL.length:Int)) (ha:=congrArg some (show(((w.aL++[mC.mk ⟨ops,1,[]⟩ s7 aG]).length:Nat):Int)-1=w.aL.length by rw[ji,lL];omega));have Qc:iX ops:=⟨λo ho=>⟨(hr.1 o ho).1,(hr.1 o ho).2.1⟩,by have:=hr.2.2.2;omega⟩;have hn:=hb.n;rw[WV.np]at hn;refine wP.cls {w with aL:=w.aL++[mC.mk ⟨ops,1,[]⟩ s7 aG]} ?_;have Xx:(w.aL++[mC.mk ⟨ops,1,[]⟩ s7 aG])[w.aL.length]'(by simp)=mC.mk ⟨ops,1,[]⟩ s7 aG:=by simp
     have rL:=w6 (ao:=ao) (b:=b) (tx:=w.aL.length) (w:={w with aL:=w.aL++[mC.mk ⟨ops,1,[]⟩ s7 aG]}) Qg hn (by show w.aF.length<_;omega) (by simp) (by simp only[Jx (fI _),AW];exact⟨Qc,hr.2.2.1⟩);dsimp only at rL;simp only[Xx]at rL;refine C.dk rL ?_;rintro v aO rfl;refine bI ?_;refine wP.opn (h:=λsh bg qu=>?_);dsimp only[wO];refine dV ?_;refine C.ar rfl ?_ (r:=(w.aL.length:Int)) (ha:=congrArg some (show(((w.aL++[mC.mk ⟨ops,1,[]⟩ s7 aG]).length:Nat):Int)-1=w.aL.length by rw[ji,lL];omega));refine da ?_;obtain⟨w2,KU⟩:∃ w2:WV,w2={w with aL:=w.aL++[mC.mk ⟨ops,1,[]⟩ s7 aG],aF:=w.aF++[Gd {w with aL:=w.aL++[mC.mk ⟨ops,1,[]⟩ s7 aG]} (mC.mk ⟨ops,1,[]⟩ s7 aG) w.aL.length]}:=⟨_,rfl⟩;refine wP.cls w2 ?_ (hc:=by rw[KU]) (hr:=by rw[KU];exact dJ.au);have e1:eM w.abs ops=(w2.abs,(w.aL.length:Int),0):=by unfold eM;rw[aq dt,aq (by simpa using hr),aq (by rw[WV.j3,WV.fG];omega),KU];simp[WV.abs,mZ,Gd]
     rw[e1]at ai;refine C.a8 aJ ai ⟨I1,w2,fD,⟨?_,?_,?_⟩,rfl,rfl,rfl⟩
     ·rw[KU];exact Qg.sh
     ·rw[KU];exact λm hm=>by
       rcases cg.1 hm with hm|hm
       ·exact Qg.aF m hm
       ·obtain rfl:=dN.1 hm;exact⟨Vo,.nil ..⟩
     ·rw[KU];exact Qg.aL
  ·refine k7 ?_;refine wP.cls w ?_;have e1:eM w.abs ops=(w.abs,0,2):=by unfold eM;rw[aq dt,aK (by simpa using hz)]
   rw[e1]at ai;exact C.a8 aJ ai ⟨I,w,Sub.refl _,hI,rfl,rfl,rfl⟩
theorem j7{o:Option Nat}(h:tW o>=0):∃ i,o=some i:=by cases o with|none=>exact absurd h (by decide)|some i=>exact⟨i,rfl⟩
theorem kX{o:Option Nat}(h:¬ tW o>=0):o=none:=by cases o with|none=>rfl|some i=>exact absurd (show tW (some i)>=0 from Eu i) h
theorem tY{o:Option Nat}(h:tW o<0):o=none:=kX ak
structure L9(s:eX):Prop where
 n:0<s.n/\s.n<=4
 log:s.log.length<2^30
 tQ:∀ r∈s.log,iX r.ops
 aX:0<=s.aX/\s.aX<=s.log.length
 bH:s.bH.length=26
 aH:s.aH.length<2^30
 under:s.under.length<2^30
 zh:∀ u∈s.under,iX u.ops/\u.aT.length<2^30/\u.bK.length<2^42
 timers:s.timers.length<2^30
 waits:s.waits.length<2^30
 out:s.out.length<2^30
 clock:0<=s.clock/\s.clock<2^60
theorem gN{s:eX}{i:Nat}(hi:i<s.log.length):s.abs.log[i]? =some (s.log[i]).toRecR:=by simp[eX.abs,hi]
theorem xU(s:eX):s.abs.log.length=s.log.length:=by simp[eX.abs]
theorem zA{s:eX}{tx:Int}{i:Nat}(h:bJ s.abs.log tx=some i):i<s.log.length:=by have:=(dO (eF h).2).1;rwa[xU]at this
theorem xV{s:eX}{k tx:Int}{i:Nat}(h:bF s.abs.log k tx=some i):i<s.log.length:=by have:=(dO h).1;rwa[xU]at this
theorem u0.vS{I:HL}{s:eX}(h:u0 I s){m:cu}(hm:tS I m):u0 I {s with out:=s.out++[m]}:=⟨h.log,h.cq,h.waits,λx hx=>by
 rcases cg.1 hx with hx|hx
 ·exact h.out x hx
 ·obtain rfl:=dN.1 hx;exact hm⟩
theorem u0.waited{I:HL}{s:eX}(h:u0 I s){m:cu}(hm:tS I m):u0 I {s with waits:=s.waits++[m]}:=⟨h.log,h.cq,λx hx=>by
 rcases cg.1 hx with hx|hx
 ·exact h.waits x hx
 ·obtain rfl:=dN.1 hx;exact hm,h.out⟩
theorem u0.qY{I:HL}{s:eX}(h:u0 I s){r:jr}(hr:PJ I r):u0 I {s with log:=s.log++[r]}:=⟨λx hx=>by
 rcases cg.1 hx with hx|hx
 ·exact h.log x hx
 ·obtain rfl:=dN.1 hx;exact hr,h.cq,h.waits,h.out⟩
def tf(b:Nat)(I:HL)(r:ShR)(v:Value)(As:List HP):Prop:=∃ I' s',Sub I I'/\u0 I' s'/\s'.abs=r/\As=[dp b s',a9 I']
theorem Ds{I:HL}{b:Nat}{s:eX}{m:cu}(hI:u0 I s)(hM:tS I m)(hb:L9 s)(hm:iX m.ops):
  aB prog ao bG 186 #[.pointer (some ⟨b,0,none⟩),.agg #[az m.kind,az m.aV,az m.to,az m.tx,.bool m.yes,m.so.v,m.sr.v]] [dp b s,a9 I] (tf b I (gJ s.abs m.toMsgR)):=by
 refine aB.of λR C kd d F c cs aJ ai=>?_;refine bI ?_;have jV:=hb.log;have jg:=hb.out;have De:=hb.waits;have RH:=hb.timers;have uE:=hb.clock;have oL:=hb.aH;have Lj:=hM.o;have XA:=hm.2;refine bj ?_;refine C.bx rfl (λb3=>?_);refine dV ?_;refine C.al rfl (λb4=>?_);refine bj ?_;apply kI (X:=Nat×ax) (λ_=>True) (λx=>[(0,.pointer (some ⟨b,0,none⟩)),(3,.pointer (some ⟨b3,0,none⟩)),(4,.pointer (some ⟨b4,0,none⟩)),(5,.pointer (some ⟨x.1,0,none⟩))]) (λx=>bX x.1 (.cells #[az 3,az 0,az m.aV,az m.tx,.bool true,.slice none 0 0,x.2.v] 137)::bX b4 (.cells #[az 3,az 0,az m.aV,az m.tx,.bool false,.slice none 0 0,.slice none 0 0] 137)::bX b3 (.cells #[az m.kind,az m.aV,az m.to,az m.tx,.bool m.yes,m.so.v,m.sr.v] 137)::aW aI 1 3 x.2 (g8 s.bH m.ops)::dp b s::a9 I::F) (R:=R) (d:=d) (fn:=186) (kd:=kd) (n:=132) (ds:=[]) (cs:=c::cs)
 ·intro abh;refine C.wR (cm 15 0 9++[(5,9)]) 11 [7,8,9,10] 5 ?_ (W:=[bX b3 (.cells #[az m.kind,az m.aV,az m.to,az m.tx,.bool m.yes,m.so.v,m.sr.v] 137)]);refine mB ?_;refine Dr.chain rfl ?_ (λ_ s=>bZ.sat bZ.au s);refine Ch.n2 (t:=7) (u:=9) rfl ?_ ?_
  ·refine aP λe aa hk=>?_;refine C.dk (vY Lj hm.1 hb.bH (by have:=hm.2;omega)) ?_;rintro v aO ⟨s2,rfl,rfl⟩;refine bI ?_;refine hk _ _ lU ?_;refine Ch.q 8 (λh=>C.bd rfl h) ?_;refine Ch.m 9 (aP λe aa hk=>?_);refine C.al rfl (λb5=>hk _ _ .cons ?_);refine Ch.m 10 (aP λe aa hk=>?_);refine fy ?_;refine hk _ undef lU ?_;refine ee ?_;exact bN abh (b5,s2) trivial
  ·refine aP λe aa hk=>?_;refine C.al rfl (λb5=>hk _ _ .cons ?_);refine Ch.m 7 (aP λe aa hk=>?_);refine C.dk (vY Lj hm.1 hb.bH (by have:=hm.2;omega)) ?_;rintro v aO ⟨s2,rfl,rfl⟩;refine bI ?_;refine hk _ _ lU ?_;refine Ch.q 8 (λh=>C.bd rfl h) ?_;refine Ch.m 10 (aP λe aa hk=>?_);refine fy ?_;refine hk _ undef lU ?_;refine ee ?_;exact bN abh (b5,s2) trivial
 ·rintro⟨b5,s2⟩-e;dsimp only;refine cN ?_;refine C.cE (pB (s:=s) ak) ?_;refine Ec ?_;refine C.cE (find_spec (s:=s) ak) ?_;refine sX ?_;refine C.cmp rfl (λGe=>?_) (λGe=>?_)
  ·refine da ?_;obtain⟨r,hr⟩:=j7 Ge;have Cn:=zA hr;simp only[hr,tW];refine dp.opn (h:=λlg vl lk un tm wt ot=>?_);refine dm ?_;refine C.cmp rfl (λHJ=>?_) (λHJ=>?_)
   ·refine oW ?_;refine dp.cls s ?_;refine C.dk (vY (hI.log _ (bC Cn)).o (hb.tQ _ (bC Cn)).1 hb.bH (by have:=(hb.tQ _ (bC Cn)).2;omega)) ?_;rintro v aO ⟨s3,rfl,rfl⟩;refine bI ?_;refine At.JS (s:=s3) (f:=aI) Fo.au Fo.au λI' sx XB=>?_;refine dm ?_;refine C.dk (kj (s:=s) (m:=⟨{bq with kind:=3,to:=m.aV,tx:=m.tx,yes:=true,reads:=g8 s.bH s.log[r].ops},aG,s3⟩) ak) ?_;rintro v aO rfl;refine k8 ?_;refine C.a8 aJ ai ⟨I',_,sx,(hI.mono sx).vS ⟨.nil ..,XB⟩,?_,rfl⟩;have XC:(r:Int)<s.abs.aX:=HJ;unfold gJ;simp only[hr];rw[aK XC,gN Cn];simp[cA,eX.abs]
   ·refine bj ?_;refine dp.cls s ?_;refine C.a8 aJ ai ⟨I,s,Sub.refl _,hI,?_,rfl⟩;have XC:¬ (r:Int)<s.abs.aX:=HJ;unfold gJ;simp only[hr];rw[aq XC]
  ·refine da ?_;have Ma:=kX Ge;refine bj ?_;refine C.cmp rfl (λQh=>?_) (λQh=>?_)
   ·refine da ?_;obtain⟨q,hq⟩:=j7 Qh;have rZ:=xV hq;simp only[hq,tW];refine dp.opn (h:=λlg vl lk un tm wt ot=>?_);refine k7 ?_;refine C.pU (λIy=>?_) (λIy=>?_)
    ·refine C.go ?_;refine dp.cls s ?_;refine da ?_;refine C.dk (kj (s:=s) (m:=⟨{bq with kind:=3,to:=m.aV,tx:=m.tx},aG,aG⟩) ak) ?_;rintro v aO rfl;refine k8 ?_;refine C.a8 aJ ai ⟨I,_,Sub.refl _,hI.vS ⟨.nil ..,.nil ..⟩,?_,rfl⟩;have Iy:s.log[q].yes=false:=by simpa using Iy
     unfold gJ;simp only[Ma,hq];rw[gN rZ,kt,aq (by simp[Iy])];simp[cA,eX.abs]
    ·refine C.go ?_;refine dp.cls s ?_;refine C.a8 aJ ai ⟨I,s,Sub.refl _,hI,?_,rfl⟩;have Iy:s.log[q].yes=true:=by simpa using Iy
     unfold gJ;simp only[Ma,hq];rw[gN rZ,kt,aK Iy]
   ·refine da ?_;have RO:=kX Qh;refine da ?_;refine C.bS (X:=Nat) (λi=>[(0,.pointer (some ⟨b,0,none⟩)),(3,.pointer (some ⟨b3,0,none⟩)),(4,.pointer (some ⟨b4,0,none⟩)),(5,.pointer (some ⟨b5,0,none⟩)),(8,az i)]) (λ_=>bX b5 _::bX b4 _::bX b3 _::aW aI 1 3 s2 (g8 s.bH m.ops)::dp b s::a9 I::F) (λi=>i<=m.ops.length/\∀ j (hj:j<m.ops.length),j<i->¬ ja s.aH m.ops[j].k>=0) (λi=>m.ops.length-i) 0 ⟨rfl,rfl,rfl,rfl,rfl,trivial⟩ ⟨ak,by intro j _ hj;omega⟩ ?_;intro i e ⟨hi,xG⟩ ih;refine dm ?_;refine C.cmp rfl (λh74=>?_) (λh74=>?_)
    ·refine i6 ?_;have cG:i<m.ops.length:=ak;refine C.cE (FI (s:=s) ak) ?_;refine sX ?_;refine C.cmp rfl (λh86=>?_) (λh86=>?_)
     ·refine cF ?_;refine C.dk (kj (s:=s) (m:=⟨{bq with kind:=3,to:=m.aV,tx:=m.tx},aG,aG⟩) ak) ?_;rintro v aO rfl;refine k8 ?_;refine C.a8 aJ ai ⟨I,_,Sub.refl _,hI.vS ⟨.nil ..,.nil ..⟩,?_,rfl⟩;have Ao:(m.ops.any λo=>decide (ja s.abs.aH o.k>=0))=true:=nC.2 ⟨_,bC cG,show decide (ja s.aH m.ops[i].k>=0)=true by simpa using h86⟩;unfold gJ;simp only[Ma,RO];rw[aK Ao];simp[cA,eX.abs]
     ·refine dV ?_;refine again ih (i+1) ⟨ak,λj hj C3=>?_⟩ ak;rcases mO.1 C3 with h|rfl
      ·exact xG j hj h
      ·exact h86
    ·refine bj ?_;have Ao:¬ (m.ops.any λo=>decide (ja s.abs.aH o.k>=0))=true:=λh=>by obtain⟨o,ho,hd⟩:=nC.1 h;obtain⟨j,hj,rfl⟩:=jO ho;exact xG j hj ak (by have:decide (ja s.aH m.ops[j].k>=0)=true:=hd;simpa using this)
     refine dm ?_;refine C.dk (BE (s:=s) Lj (by have:=hm.2;omega) ak) ?_;rintro v aO rfl;refine k8 ?_;refine dp.opn (h:=λlg vl lk un tm wt ot=>?_);refine C.dx (cm 96 0 16) 17 [12,13,16] 1 ?_;refine Tb ?_;refine Ch.m 12 (aP λe aa hk=>?_);refine C.n5 rfl (λaiW=>hk _ _ .cons ?_);refine Ch.m 13 (aP λe aa hk=>?_);refine C.oh (jr.mk {eA with kind:=1,tx:=m.tx,home:=m.aV,ops:=m.ops} m.so aG) rfl (λs4=>?_) (hsz:=by show(s.log.length+1)*_<=_;omega);refine hk _ _ ?_;refine Ch.m 16 (aP λe aa hk=>?_);refine C.st rfl (hk _ undef ?_);refine ee ?_;refine dp.cls {s with aH:=jl s.aH m.tx m.ops,log:=s.log++[jr.mk {eA with kind:=1,tx:=m.tx,home:=m.aV,ops:=m.ops} m.so aG]} ?_;refine At.JS (s:=s2) (f:=aI) Fo.au Fo.au λI' sx sK=>?_;refine da ?_;refine C.dk (rX (s:={s with aH:=jl s.aH m.tx m.ops,log:=s.log++[jr.mk {eA with kind:=1,tx:=m.tx,home:=m.aV,ops:=m.ops} m.so aG]}) (m:=⟨{bq with kind:=3,to:=m.aV,tx:=m.tx,yes:=true,reads:=g8 s.bH m.ops},aG,s2⟩) (by show s.waits.length<_;omega)) ?_;rintro v aO rfl;refine k8 ?_;refine dp.opn (h:=λlg vl lk un tm wt ot=>?_);dsimp only[z5];refine C.dx (cm 115 0 17) 18 [13,14,17] 1 ?_;refine gY ?_;refine Lr ?_;refine Dr.chain rfl ?_;refine Ch.m 13 (aP λe aa hk=>?_);refine C.n5 rfl (λaiX=>hk _ _ .cons ?_);refine Ch.m 14 (aP λe aa hk=>?_);refine C.oh (dR.mk (s.clock+3) false m.tx) rfl (λs5=>?_) (hsz:=by show(s.timers.length+1)*_<=_;omega);refine hk _ _ ?_;refine Ch.m 17 (aP λe aa hk=>?_);refine C.st rfl (hk _ undef ?_);refine ee ?_;refine dp.cls {s with aH:=jl s.aH m.tx m.ops,log:=s.log++[jr.mk {eA with kind:=1,tx:=m.tx,home:=m.aV,ops:=m.ops} m.so aG],waits:=s.waits++[⟨{bq with kind:=3,aV:=s.me,to:=m.aV,tx:=m.tx,yes:=true,reads:=g8 s.bH m.ops},aG,s2⟩],timers:=s.timers++[⟨s.clock+3,false,m.tx⟩]} ?_;refine C.cQ aJ ai ⟨I',_,sx,?_,?_,rfl⟩
     ·have h1:=((hI.mono sx).qY (r:=jr.mk {eA with kind:=1,tx:=m.tx,home:=m.aV,ops:=m.ops} m.so aG) ⟨Lj.mono sx,.nil ..⟩).waited (m:=⟨{bq with kind:=3,aV:=s.me,to:=m.aV,tx:=m.tx,yes:=true,reads:=g8 s.bH m.ops},aG,s2⟩) ⟨.nil ..,sK⟩;exact⟨h1.log,h1.cq,h1.waits,h1.out⟩
     ·unfold gJ;simp only[Ma,RO];rw[aq Ao];simp[eV,eX.abs]
theorem Gf{I:HL}{b:Nat}{s:eX}{m:cu}(hI:u0 I s)(hb:L9 s):
  aB prog ao bG 188 #[.pointer (some ⟨b,0,none⟩),.agg #[az m.kind,az m.aV,az m.to,az m.tx,.bool m.yes,m.so.v,m.sr.v]] [dp b s,a9 I] (tf b I (iN s.abs m.toMsgR)):=by
 refine aB.of λR C kd d F c cs aJ ai=>?_;refine bI ?_;have jV:=hb.log;have jg:=hb.out;have De:=hb.waits;have oL:=hb.aH;refine bj ?_;refine C.bx rfl (λb3=>?_);refine cF ?_;refine C.cE (pB (s:=s) ak) ?_;refine Ec ?_;refine C.cE (find_spec (s:=s) ak) ?_;refine jI ?_;apply OW (bJ s.abs.log m.tx=none->bF s.abs.log 3 m.tx=none) [(0,.pointer (some ⟨b,0,none⟩)),(3,.pointer (some ⟨b3,0,none⟩)),(4,az (tW (bJ s.abs.log m.tx)))] (bX b3 (.cells #[az m.kind,az m.aV,az m.to,az m.tx,.bool m.yes,m.so.v,m.sr.v] 137)::dp b s::a9 I::F) (R:=R) (d:=d) (fn:=188) (kd:=kd) (n:=78) (ds:=[]) (cs:=c::cs)
 ·intro q6;refine bj ?_;refine C.cmp rfl (λnz=>?_) (λnz=>?_)
  ·refine bj ?_;refine C.cmp rfl (λZi=>?_) (λZi=>?_)
   ·refine da ?_;have Ma:=tY nz;obtain⟨q,hq⟩:=j7 Zi;simp only[hq,tW];refine dp.opn (h:=λlg vl lk un tm wt ot=>?_);refine dm ?_;refine C.cmp rfl (λz9=>?_) (λz9=>?_)
    ·refine bj ?_;refine dp.cls s ?_;refine dV ?_;refine C.dk (kj (s:=s) (m:=⟨{bq with kind:=5,to:=m.aV,tx:=m.tx},aG,aG⟩) ak) ?_;rintro v aO rfl;refine k8 ?_;refine C.a8 aJ ai ⟨I,_,Sub.refl _,hI.vS ⟨.nil ..,.nil ..⟩,?_,rfl⟩;unfold iN;simp only[Ma,hq];rw[aK (show(q:Int)<s.abs.aX from z9)];simp[cA,eX.abs]
    ·refine bj ?_;refine dp.cls s ?_;refine C.a8 aJ ai ⟨I,s,Sub.refl _,hI,?_,rfl⟩;unfold iN;simp only[Ma,hq];rw[aq (show¬ (q:Int)<s.abs.aX from z9)]
   ·refine da ?_;exact join q6 (λ_=>kX Zi)
  ·refine dm ?_;exact join q6 (λh=>by rw[h]at nz;exact absurd nz (by decide))
 ·rintro hj6 e;apply kI (X:=eX) (λs1=>u0 I s1/\s1.log.length<2^30/\s1.waits.length<2^30/\iN s.abs m.toMsgR=eV {s1.abs with log:=s1.abs.log++[{eA with kind:=3,tx:=m.tx,yes:=m.yes}]} {bq with kind:=5,to:=m.aV,tx:=m.tx}) (λ_=>[(0,.pointer (some ⟨b,0,none⟩)),(3,.pointer (some ⟨b3,0,none⟩))]) (λs1=>bX b3 (.cells #[az m.kind,az m.aV,az m.to,az m.tx,.bool m.yes,m.so.v,m.sr.v] 137)::dp b s1::a9 I::F) (R:=R) (d:=d) (fn:=188) (kd:=kd) (n:=78) (ds:=[]) (cs:=c::cs)
  ·intro Gg;refine bj ?_;refine C.cmp rfl (λGe=>?_) (λGe=>?_)
   ·refine cF ?_;refine C.pU (λtZ=>?_) (λtZ=>?_)
    ·refine C.go ?_;refine C.a8 aJ ai ⟨I,s,Sub.refl _,hI,?_,rfl⟩;have Ma:=tY Ge;unfold iN;simp only[Ma,hj6 Ma];rw[aK tZ]
    ·refine da ?_;refine C.du rfl ?_ (hf:=by omega);refine bj ?_;have Ma:=tY Ge;refine bN Gg s ⟨hI,jV,De,?_⟩;unfold iN;simp only[Ma,hj6 Ma];rw[aq (by simp[tZ])]
   ·refine jL ?_;refine C.eE rfl ?_ (hf:=by omega);refine bj ?_;obtain⟨r,hr⟩:∃ r,bJ s.abs.log m.tx=some r:=j7 ak;have Cn:=zA hr;simp only[hr,tW];refine cN ?_;refine C.pU (λXD=>?_) (λXD=>?_)
    ·refine C.go ?_;refine dp.opn (h:=λlg vl lk un tm wt ot=>?_);refine i6 ?_;refine dp.cls s ?_;refine C.dk (ze (s:=s) (hI.log _ (bC Cn)).o (hb.tQ _ (bC Cn)).1 hb.bH (by have:=(hb.tQ _ (bC Cn)).2;omega)) ?_;rintro v aO rfl;refine sY ?_;refine C.dk (free_spec (s:={s with bH:=eH s.bH s.log[r].ops}) (by show s.aH.length<_;omega)) ?_;rintro v aO rfl;refine k8 ?_;refine bN Gg {s with bH:=eH s.bH s.log[r].ops,aH:=iV s.aH m.tx} ⟨⟨hI.log,hI.cq,hI.waits,hI.out⟩,jV,De,?_⟩;unfold iN;simp only[hr];rw[gN Cn,kt,aK XD];rfl
    ·refine cF ?_;refine C.dk (free_spec (s:=s) ak) ?_;rintro v aO rfl;refine k8 ?_;refine bN Gg {s with aH:=iV s.aH m.tx} ⟨⟨hI.log,hI.cq,hI.waits,hI.out⟩,jV,De,?_⟩;unfold iN;simp only[hr];rw[gN Cn,kt,aq (by simp[XD])];rfl
  ·rintro s1 ⟨fD,WY,hw1,wG⟩ e;refine dp.opn (h:=λlg vl lk un tm wt ot=>?_);refine C.dx (cm 57 0 14) 15 [10,11,14] 1 ?_;refine Ta ?_;refine Ch.m 10 (aP λe aa hk=>?_);refine C.n5 rfl (λb67=>hk _ _ .cons ?_);refine Ch.m 11 (aP λe aa hk=>?_);refine C.oh (jr.mk {eA with kind:=3,tx:=m.tx,yes:=m.yes} aG aG) rfl (λs4=>?_) (hsz:=by show(s1.log.length+1)*_<=_;omega);refine hk _ _ ?_;refine Ch.m 14 (aP λe aa hk=>?_);refine C.st rfl (hk _ undef ?_);refine ee ?_;refine dp.cls {s1 with log:=s1.log++[jr.mk {eA with kind:=3,tx:=m.tx,yes:=m.yes} aG aG]} ?_;refine dV ?_;refine C.dk (rX (s:={s1 with log:=s1.log++[jr.mk {eA with kind:=3,tx:=m.tx,yes:=m.yes} aG aG]}) (m:=⟨{bq with kind:=5,to:=m.aV,tx:=m.tx},aG,aG⟩) (by show s1.waits.length<_;omega)) ?_;rintro v aO rfl;refine k8 ?_;refine C.cQ aJ ai ⟨I,_,Sub.refl _,(fD.qY ⟨.nil ..,.nil ..⟩).waited ⟨.nil ..,.nil ..⟩,?_,rfl⟩;rw[wG];simp[eV,eX.abs]
theorem Qi{I:HL}{b:Nat}{s:eX}{m:cu}(hI:u0 I s)(hb:L9 s):
  aB prog ao bG 190 #[.pointer (some ⟨b,0,none⟩),.agg #[az m.kind,az m.aV,az m.to,az m.tx,.bool m.yes,m.so.v,m.sr.v]] [dp b s,a9 I] (tf b I (xp s.abs m.toMsgR)):=by
 refine aB.of λR C kd d F c cs aJ ai=>?_;refine bI ?_;have jV:=hb.log;have jg:=hb.out;have De:=hb.waits;have HS:=hb.under;refine bj ?_;refine C.bx rfl (λb3=>?_);refine cF ?_;refine C.cE (find_spec (s:=s) ak) ?_;refine sX ?_;refine C.cmp rfl (λq7=>?_) (λq7=>?_)
 ·refine bj ?_;obtain⟨q,hq⟩:=j7 q7;have rZ:=xV hq;simp only[hq,tW];refine dp.opn (h:=λlg vl lk un tm wt ot=>?_);refine dm ?_;refine C.cmp rfl (λxv=>?_) (λxv=>?_)
  ·refine bj ?_;refine C.dx (cm 18 0 15) 15 [14] 0 ?_;refine Tb ?_;refine Ch.m 14 (aP λe aa hk=>?_);refine dp.cls s ?_;refine C.dk (kj (s:=s) (m:=⟨{bq with kind:=4,to:=m.aV,tx:=m.tx,yes:=s.log[q].yes},aG,aG⟩) ak) ?_;rintro v aO rfl;refine bI ?_;refine hk _ _ ?_;refine ee ?_;refine C.a8 aJ ai ⟨I,_,Sub.refl _,hI.vS ⟨.nil ..,.nil ..⟩,?_,rfl⟩;unfold xp;simp only[hq];rw[aK (show(q:Int)<s.abs.aX from xv),gN rZ];simp[cA,eX.abs]
  ·refine bj ?_;refine dp.cls s ?_;refine C.a8 aJ ai ⟨I,s,Sub.refl _,hI,?_,rfl⟩;unfold xp;simp only[hq];rw[aq (show¬ (q:Int)<s.abs.aX from xv)]
 ·refine bj ?_;have RO:=kX q7;refine cN ?_;refine C.cE (nb (s:=s) ak) ?_;refine sX ?_;refine C.cmp rfl (λPK=>?_) (λPK=>?_)
  ·refine bj ?_;refine C.a8 aJ ai ⟨I,s,Sub.refl _,hI,?_,rfl⟩;obtain⟨u,hu⟩:=j7 PK;unfold xp;simp only[RO,hu];rfl
  ·refine bj ?_;have HS:=kX PK;refine dp.opn (h:=λlg vl lk un tm wt ot=>?_);refine C.dx (cm 39 0 12) 13 [8,9,12] 1 ?_;refine C6 ?_;refine Ch.m 8 (aP λe aa hk=>?_);refine C.n5 rfl (λb47=>hk _ _ .cons ?_);refine Ch.m 9 (aP λe aa hk=>?_);refine C.oh (jr.mk {eA with kind:=2,tx:=m.tx} aG aG) rfl (λs4=>?_);refine hk _ _ ?_;refine Ch.m 12 (aP λe aa hk=>?_);refine C.st rfl (hk _ undef ?_);refine ee ?_;refine dp.cls {s with log:=s.log++[jr.mk {eA with kind:=2,tx:=m.tx} aG aG]} ?_;refine dV ?_;refine C.dk (rX (s:={s with log:=s.log++[jr.mk {eA with kind:=2,tx:=m.tx} aG aG]}) (m:=⟨{bq with kind:=4,to:=m.aV,tx:=m.tx},aG,aG⟩) (by show s.waits.length<_;omega)) ?_;rintro v aO rfl;refine k8 ?_;refine C.cQ aJ ai ⟨I,_,Sub.refl _,(hI.qY ⟨.nil ..,.nil ..⟩).waited ⟨.nil ..,.nil ..⟩,?_,rfl⟩;unfold xp;simp only[RO,HS];simp[eV,eX.abs]
variable{us:List fV}{i:Nat}
theorem wh{u:fV}{l As:List HP}{h:HL}:Sat (all (q5 u::l)::As) h↔Sat (aW qi 2 290 u.sv u.aT::aW aI 1 3 u.sa u.bK::all l::As) h:=by
 constructor
 ·intro s;have s1:Sat (q5 u::(l++As)) h:=s.flat;have s2:Sat ([aW qi 2 290 u.sv u.aT,aW aI 1 3 u.sa u.bK]++(l++As)) h:=Sat.flat s1;exact Sat.under (λ_ s=>Sat.under (λ_ s=>s.fR) s) s2
 ·intro s;have s2:Sat (aW qi 2 290 u.sv u.aT::aW aI 1 3 u.sa u.bK::(l++As)) h:=Sat.under (λ_ s=>Sat.under (λ_ s=>s.flat) s) s;exact Sat.fR (l:=q5 u::l) (Sat.fR (l:=[aW qi 2 290 u.sv u.aT,aW aI 1 3 u.sa u.bK]) s2)
theorem Dt(hi:i<us.length)(hf:Fo (all (us.map q5)) As L)(h:At R d (aW qi 2 290 us[i].sv us[i].aT::aW aI 1 3 us[i].sa us[i].bK::all ((us.eraseIdx i).map q5)::L) g):At R d As g:=
 At.fo hf λH s=>h H (wh.1 (oN ((oO hi).map q5) s))
theorem Du(hi:i<us.length)(u:fV)(hr:dJ [aW qi 2 290 u.sv u.aT,aW aI 1 3 u.sa u.bK,all ((us.eraseIdx i).map q5)] As L)(h:At R d (all ((us.set i u).map q5)::L) g):At R d As g:=
 At.perm hr.perm λH s=>h H (oN ((JV hi u).symm.map q5) (wh.2 s))
theorem TD(u:fV)(hr:dJ [aW qi 2 290 u.sv u.aT,aW aI 1 3 u.sa u.bK,all (us.map q5)] As L)(h:At R d (all ((us++[u]).map q5)::L) g):At R d As g:=
 At.perm hr.perm λH s=>h H (oN (by have:=(NK u us).symm.map q5;exact this) (wh.2 s))
def wi(n:Int)(ops:List cy)(tx:Int)(z:ShR)(k:Int):ShR:=if(aY ops k n).isEmpty then z else cA z {bq with kind:=2,to:=k,tx:=tx,ops:=aY ops k n}
theorem Iz{I:HL}{b:Nat}{s:eX}{m:cu}(hI:u0 I s)(hM:tS I m)(hb:L9 s)(hm:iX m.ops):
  aB prog ao bG 185 #[.pointer (some ⟨b,0,none⟩),.agg #[az m.kind,az m.aV,az m.to,az m.tx,.bool m.yes,m.so.v,m.sr.v]] [dp b s,a9 I] (tf b I (l3 s.abs m.toMsgR)):=by
 refine aB.of λR C kd d F c cs aJ ai=>?_;refine bI ?_;have jV:=hb.log;have jg:=hb.out;have HS:=hb.under;have RH:=hb.timers;have uE:=hb.clock;have hn:=hb.n;have XA:=hm.2;refine bj ?_;refine C.bx rfl (λb3=>?_);refine cF ?_;refine C.cE (find_spec (s:=s) ak) ?_;refine sX ?_;refine C.cmp rfl (λre=>?_) (λre=>?_)
 ·refine bj ?_;obtain⟨q,hq⟩:=j7 re;have rZ:=xV hq;simp only[hq,tW];refine dp.opn (h:=λlg vl lk un tm wt ot=>?_);refine dm ?_;refine C.cmp rfl (λxz=>?_) (λxz=>?_)
  ·refine bj ?_;refine C.dx (cm 20 0 21) 21 [20] 0 ?_;refine gY ?_;refine gY ?_;refine Dr.chain rfl ?_;refine Ch.m 20 (aP λe aa hk=>?_);refine dp.cls s ?_;refine C.dk (kj (s:=s) (m:=⟨{bq with kind:=7,to:= -1,tx:=m.tx,yes:=s.log[q].yes,reads:=s.log[q].reads},aG,s.log[q].sr⟩) ak) ?_;rintro v aO rfl;refine bI ?_;refine hk _ _ ?_;refine ee ?_;refine C.a8 aJ ai ⟨I,_,Sub.refl _,hI.vS ⟨.nil ..,(hI.log _ (bC rZ)).r⟩,?_,rfl⟩;unfold l3;simp only[hq];rw[aK (show(q:Int)<s.abs.aX from xz),gN rZ];simp[cA,eX.abs]
  ·refine bj ?_;refine dp.cls s ?_;refine C.a8 aJ ai ⟨I,s,Sub.refl _,hI,?_,rfl⟩;unfold l3;simp only[hq];rw[aq (show¬ (q:Int)<s.abs.aX from xz)]
 ·refine bj ?_;have RO:=kX re;refine cN ?_;refine C.cE (nb (s:=s) ak) ?_;refine sX ?_;refine C.cmp rfl (λZj=>?_) (λZj=>?_)
  ·refine bj ?_;refine C.a8 aJ ai ⟨I,s,Sub.refl _,hI,?_,rfl⟩;obtain⟨u,hu⟩:=j7 Zj;unfold l3;simp only[RO,hu];rfl
  ·refine bj ?_;have aeD:=kX Zj;refine dp.opn (h:=λlg vl lk un tm wt ot=>?_);refine C.dx (cm 47 0 14) 15 [10,11,14] 1 ?_;refine Ta ?_;refine Ch.m 10 (aP λe aa hk=>?_);refine C.n5 rfl (λb57=>hk _ _ .cons ?_);refine Ch.m 11 (aP λe aa hk=>?_);refine C.oh (fV.mk m.tx m.ops m.so [] aG false false [] aG) rfl (λs4=>?_);refine hk _ _ ?_;refine Ch.m 14 (aP λe aa hk=>?_);refine C.st rfl (hk _ undef ?_);refine ee ?_;refine At.aG qi 2 290 (At.aG aI 1 3 ?_);refine TD (us:=s.under) (fV.mk m.tx m.ops m.so [] aG false false [] aG) dJ.au ?_;refine dp.cls {s with under:=s.under++[fV.mk m.tx m.ops m.so [] aG false false [] aG]} ?_;refine da ?_;have fD:u0 I {s with under:=s.under++[fV.mk m.tx m.ops m.so [] aG false false [] aG]}:=⟨hI.log,λu hu=>by
    rcases cg.1 hu with hu|hu
    ·exact hI.cq u hu
    ·obtain rfl:=dN.1 hu;exact⟨hM.o,λv hv=>by cases hv⟩,hI.waits,hI.out⟩
   refine C.bS (X:=Nat×HL×eX) (λx=>[(0,.pointer (some ⟨b,0,none⟩)),(3,.pointer (some ⟨b3,0,none⟩)),(6,az x.1)]) (λx=>bX b3 _::dp b x.2.2::a9 x.2.1::F)
    (λx=>(x.1:Int)<=s.n/\Sub I x.2.1/\u0 x.2.1 x.2.2/\x.2.2.n=s.n/\x.2.2.out.length<=s.out.length+x.1/\x.2.2.timers=s.timers/\x.2.2.clock=s.clock/\
     x.2.2.abs=((upto s.n).take x.1).foldl (wi s.n m.ops m.tx) {s.abs with under:=s.abs.under++[⟨m.tx,m.ops,[],false,false,[]⟩]}) (λx=>(s.n-x.1).toNat) (0,I,{s with under:=s.under++[fV.mk m.tx m.ops m.so [] aG false false [] aG]}) ⟨rfl,rfl,rfl,trivial⟩ ⟨cD,Sub.refl _,fD,rfl,fI _,rfl,rfl,by simp[eX.abs,fV.abs]⟩ ?_
   rintro⟨i,I1,s1⟩ e ⟨hi,hS,fD,yz,RJ,ht1,hc1,ha⟩ ih;dsimp only at hi hS fD yz RJ ht1 hc1 ha⊢;refine C.go ?_;refine dp.opn (h:=λlg vl lk un tm wt ot=>?_);refine dm ?_;refine C.cmp rfl (λRP=>?_) (λRP=>?_)
   ·refine bj ?_;refine C.dx (cm 69 0 8++[(7,8)]) 9 [7,8] 0 ?_;refine Ng ?_;refine Ch.m 7 (aP λe aa hk=>?_);refine dp.cls s1 ?_;refine C.dk (vX (n:=s1.n) (hM.o.mono hS) hm.1 ak ak) ?_;rintro v aO ⟨s2,rfl,rfl⟩;refine bI ?_;refine hk _ _ ?_;refine Ch.q 8 (λh=>C.lh rfl h) ?_;refine S9 ?_;refine C.cmp rfl (λNk=>?_) (λNk=>?_)
    ·refine ky ?_;refine At.JS (s:=s2) (f:=gg) Fo.au Fo.au λI2 kT sK=>?_;refine C.dk (kj (s:=s1) (m:=⟨{bq with kind:=2,to:=i,tx:=m.tx,ops:=aY m.ops i s1.n},s2,aG⟩) ak) ?_;rintro v aO rfl;refine Ec ?_;refine again ih (i+1,I2,_) ⟨cD,hS.trans kT,(fD.mono kT).vS ⟨sK,.nil ..⟩,yz,by simp;omega,ht1,hc1,?_⟩ (cD);rw[dg ak,eO,<- ha];have eL:(aY m.ops i s.n).isEmpty=false:=by
      rw[<- yz];cases hp:aY m.ops i s1.n with
      |nil=>rw[hp]at Nk;simp at Nk
      |cons _ _=>rfl
     simp only[ks,ow,wi,eL];simp[cA,eX.abs,yz]
    ·refine dV ?_;refine again ih (i+1,I1,s1) ⟨cD,hS,fD,yz,by simp;omega,ht1,hc1,?_⟩ (cD);rw[dg ak,eO,<- ha];have eL:(aY m.ops i s.n).isEmpty=true:=by
      rw[<- yz];cases hp:aY m.ops i s1.n with
      |nil=>rfl
      |cons _ _=>rw[hp]at Nk;simp at Nk
     simp only[ks,ow,wi,eL];simp
   ·refine bj ?_;refine C.dx (cm 87 0 17) 18 [13,14,17] 1 ?_;refine S8 ?_;refine Dr.p (λh=>C.ar rfl h (hr:=pq ak ak)) ?_;refine PI ?_;refine Ch.m 13 (aP λe aa hk=>?_);refine C.n5 rfl (λaiY=>hk _ _ .cons ?_);refine Ch.m 14 (aP λe aa hk=>?_);refine C.oh (dR.mk (s1.clock+4) true m.tx) rfl (λs5=>?_) (hsz:=by rw[ht1];omega);refine hk _ _ ?_;refine Ch.m 17 (aP λe aa hk=>?_);refine C.st rfl (hk _ undef ?_);refine ee ?_;refine dp.cls {s1 with timers:=s1.timers++[⟨s1.clock+4,true,m.tx⟩]} ?_;refine C.cQ aJ ai ⟨I1,{s1 with timers:=s1.timers++[⟨s1.clock+4,true,m.tx⟩]},hS,⟨fD.log,fD.cq,fD.waits,fD.out⟩,?_,rfl⟩;rw[oZ ak]at ha;have e1:gb {s.abs with under:=s.abs.under++[⟨m.tx,m.ops,[],false,false,[]⟩]} m.ops (λz k p=>cA z {bq with kind:=2,to:=k,tx:=m.tx,ops:=p})=s1.abs:=ha.symm;unfold l3;simp only[RO,aeD];rw[e1];rfl
abbrev Kr(b:Nat)(s:eX)(lg vl lk un tm wt ot:ax)(us:List fV)(i:Nat)(u:fV)(F:List HP):List HP:=bX b (.cells #[az s.me,az s.n,.bool s.up,lg.v,az s.aX,vl.v,lk.v,un.v,tm.v,wt.v,az s.clock,ot.v] 61 (0,0))::
  aW recC 6 247 lg s.log::aW aI 1 3 vl s.bH::aW mj 2 258 lk s.aH::aW qj 6 287 un us::
  aW qi 2 290 u.sv u.aT::aW aI 1 3 u.sa u.bK::all ((s.under.eraseIdx i).map q5)::
  aW su 3 251 tm s.timers::aW bQ 7 137 wt s.waits::aW bQ 7 137 ot s.out::F
theorem zB{s:eX}{tx:Int}{i:Nat}(h:cX s.abs.under tx=some i):∃ hi:i<s.under.length,s.abs.under[i]? =some (s.under[i]).abs:=by
 unfold cX at h;have:=(Uv.1 h).1;have hi:i<s.under.length:=by simpa[eX.abs]using this
 exact⟨hi,by simp[eX.abs,hi]⟩
theorem Qj{I:HL}{b:Nat}{s:eX}{m:cu}(hI:u0 I s)(hb:L9 s):
  aB prog ao bG 189 #[.pointer (some ⟨b,0,none⟩),.agg #[az m.kind,az m.aV,az m.to,az m.tx,.bool m.yes,m.so.v,m.sr.v]] [dp b s,a9 I] (tf b I (xo s.abs m.toMsgR)):=by
 refine aB.of λR C kd d F c cs aJ ai=>?_;refine bI ?_;have HS:=hb.under;have hn:=hb.n;refine bj ?_;refine C.bx rfl (λb3=>?_);refine cF ?_;refine C.cE (nb (s:=s) ak) ?_;refine jI ?_;refine dp.opn (h:=λlg vl lk un tm wt ot=>?_);refine bj ?_;refine C.cmp rfl (λnz=>?_) (λnz=>?_)
 ·refine zb ?_;refine dp.cls s ?_;refine C.a8 aJ ai ⟨I,s,Sub.refl _,hI,?_,rfl⟩;unfold xo;simp only[tY nz]
 ·refine fy ?_;obtain⟨i,hu⟩:∃ i,cX s.abs.under m.tx=some i:=j7 ak;obtain⟨hi,G4⟩:=zB hu;simp only[hu,tW];refine k7 ?_;refine C.pU (λXE=>?_) (λXE=>?_)
  ·refine C.go ?_;refine dp.cls s ?_;refine C.a8 aJ ai ⟨I,s,Sub.refl _,hI,?_,rfl⟩;unfold xo;simp only[hu,G4];have hd:(s.under[i]).abs.dec=false:=by show s.under[i].dec=false;simpa using XE
   rw[hd];rfl
  ·refine i6 ?_;have sA:(s.under[i]).abs.dec=true:=by show s.under[i].dec=true;simpa using XE
   have G8:=hb.zh _ (bC hi);have Vd:=G8.2.2;have hul:=G8.1.2;refine Dt hi Fo.au ?_;refine C.dx (cm 33 0 11) 12 [7,8,11] 1 ?_;refine Nh ?_;refine Ch.m 7 (aP λe aa hk=>?_);refine C.n5 rfl (λb40=>hk _ _ .cons ?_);refine Ch.m 8 (aP λe aa hk=>?_);refine C.oh (l:=s.under[i].bK) m.aV rfl (λs6=>?_);refine hk _ _ ?_;refine Ch.m 11 (aP λe aa hk=>?_);refine C.HC ({s.under[i]with sa:=s6,bK:=s.under[i].bK++[m.aV]}:fV) rfl ?_;refine hk _ undef ?_;refine ee ?_;obtain⟨u,xW⟩:∃ u,u={s.under[i]with sa:=s6,bK:=s.under[i].bK++[m.aV]}:=⟨_,rfl⟩;obtain⟨us,o5⟩:∃ us,us=s.under.set i u:=⟨_,rfl⟩;have abj:us.length=s.under.length:=by rw[o5];simp
   have TE:i<us.length:=ak;have A0:us[i]=u:=by simp[o5]
   have mA:u.ops=s.under[i].ops:=by rw[xW]
   have TF:u.so=s.under[i].so:=by rw[xW]
   have huv:dX I gg 63 u.so u.ops:=by rw[mA,TF];exact(hI.cq _ (bC hi)).o
   have hua:u.bK=s.under[i].bK++[m.aV]:=by rw[xW]
   have abk:u.bK.length<2^60:=by rw[hua];simp;omega
   have oM:s.abs.under.set i {(s.under[i]).abs with bK:=(s.under[i]).abs.bK++[m.aV]}=us.map (·.abs):=by rw[o5,xW,kD];rfl
   have hIu:∀ x∈us,xu I x:=λx hx=>by
    rw[o5]at hx;rcases fT hx with h|rfl
    ·exact hI.cq x h
    ·rw[xW];exact⟨(hI.cq _ (bC hi)).o,(hI.cq _ (bC hi)).r⟩
   refine At.jR (Bs:=Kr b s lg vl lk un tm wt ot us i u (a9 I::F)) ?_ ?_
   ·subst o5 xW;exact bZ.au
   refine da ?_;refine C.bS (X:=Nat) (λk=>[(0,.pointer (some ⟨b,0,none⟩)),(4,az (i:Int)),(5,.pointer (some ⟨un.b,i*6,none⟩)),(6,az k)]) (λ_=>Kr b s lg vl lk un tm wt ot us i u (a9 I::F)) (λk=>(k:Int)<=s.n/\∀ j:Nat,j<k->cr u.ops j s.n=true->u.bK.contains (j:Int)=true) (λk=>(s.n-k).toNat) 0 ⟨rfl,rfl,rfl,rfl,trivial⟩ ⟨ak,by intro j hj;omega⟩ ?_;intro k e ⟨zZ,G6⟩ ih;refine dV ?_;refine C.cmp rfl (λLO=>?_) (λLO=>?_)
   ·refine bj ?_;refine C.dx (cm 52 0 10++[(7,10)]) 11 [9,10] 0 ?_;refine qs ?_;refine Dr.l (λhE h=>C.vz rfl h (j:=i) (s:=un) (l:=us) (hv:=by simp only[A0];rfl)) ?_;refine PI ?_;refine Ch.m 9 (aP λe aa hk=>?_);refine C.cE (pC (k:=k) (n:=s.n) huv (by rw[mA];exact G8.1.1) ak (by rw[mA];omega)) ?_;refine bI ?_;generalize BO:cr u.ops k s.n=z;rcases fU z with rfl|rfl
    ·refine hk _ _ ?_;refine Ch.q 10 (λh=>C.lh rfl h) ?_;refine vT ?_;refine C.vz rfl ?_ (j:=i) (s:=un) (l:=us) (hv:=by simp only[A0];rfl);refine fy ?_;refine C.cE (pA (s:=u.sa) (l:=u.bK) (x:=k) abk) ?_;refine bI ?_;generalize TG:u.bK.contains (k:Int)=z;rcases fU z with rfl|rfl
     ·refine jW ?_;refine again ih (k+1) ⟨ak,λj hj Aa=>?_⟩ ak;rcases mO.1 hj with h|rfl
      ·exact G6 j h Aa
      ·exact TG
     ·refine i6 ?_;refine Du (us:=s.under) hi u dJ.au ?_;rw[<- o5];refine dp.cls {s with under:=us} ?_;refine C.a8 aJ ai ⟨I,{s with under:=us},Sub.refl _,⟨hI.log,hIu,hI.waits,hI.out⟩,?_,rfl⟩;have pQ:¬ (mY s.abs.n (s.under[i]).abs.ops λk=>((s.under[i]).abs.bK++[m.aV]).contains k)=true:=λh=>by
       have h1:=k9.1 h (k:Int) (kQ.2 (by constructor<;>first|omega|exact LO));have h2:cr (s.under[i]).abs.ops k s.abs.n=true:=by rw[<- BO,mA];rfl
       have h3:((s.under[i]).abs.bK++[m.aV]).contains (k:Int)=false:=by rw[<- TG,hua];rfl
       simp only[h2,h3]at h1;cases h1
      unfold xo;simp only[hu,G4];rw[aq (by rw[sA];simp),aq pQ,oM];rfl
    ·refine hk _ _ ?_;refine Ch.q 10 (λh=>C.lh rfl h) ?_;refine vT ?_;refine C.vz rfl ?_ (j:=i) (s:=un) (l:=us) (hv:=by simp only[A0];rfl);refine fy ?_;refine C.cE (pA (s:=u.sa) (l:=u.bK) (x:=k) abk) ?_;refine bI ?_;generalize TG:u.bK.contains (k:Int)=z;rcases fU z with rfl|rfl
     ·refine jW ?_;refine again ih (k+1) ⟨ak,λj hj Aa=>?_⟩ ak;rcases mO.1 hj with h|rfl
      ·exact G6 j h Aa
      ·rw[BO]at Aa;cases Aa
     ·refine jW ?_;refine again ih (k+1) ⟨ak,λj hj Aa=>?_⟩ ak;rcases mO.1 hj with h|rfl
      ·exact G6 j h Aa
      ·rw[BO]at Aa;cases Aa
   ·refine bj ?_;have je:(mY s.abs.n (s.under[i]).abs.ops λk=>((s.under[i]).abs.bK++[m.aV]).contains k)=true:=by
     refine k9.2 λx hx=>?_;obtain⟨h1,h2⟩:=kQ.1 hx;obtain⟨j,rfl⟩:=g7 h1;have h2:(j:Int)<s.n:=h2;have:=G6 j ak;rw[mA,hua]at this;cases ht:cr (s.under[i]).abs.ops j s.abs.n with
     |false=>rfl
     |true=>
      show(!true||(s.under[i].bK++[m.aV]).contains (j:Int))=true;rw[this ht];rfl
    refine At.xl (A:=aW qj 6 287 un us) Fo.au (qL ak) λ⟨D9,Vq,hk5⟩=>?_;refine At.aG qj 6 287 ?_;refine i6 ?_;refine C.Wn rfl ?_ (hi:=(i:Int)) (hh:=by constructor<;>omega);refine C.EP (f:=qj) (s:=aG) (l:=[]) (us.take i) rfl (λs7=>?_) (hsrc:=λH st=>?_) (hsz:=by simp only[uv,iz];omega)
    rotate_left
    ·show lj bG H 6 _ (.slice un.a i un.cap) _;have e1:(us.take i).length=i:=by rw[iz];omega
     rw[e1];have h:=dF.K7 (B:=bG) (f:=qj) (el:=287) (s:=un) (l:=us) (.own Fo.au) st (λ_=>rfl) 0 i ak un.cap un.a (λ_=>by rw[D9]) (λ_=>.inr ⟨0,D9,by intro z;rw[z]at TE;simp at TE,ak⟩)
     rwa[Ac]at h
    refine k7 ?_;refine C.Z7 rfl ?_ (hx:=by show Value.slice un.a un.len un.cap=_;rw[D9,Vq]) (lo:=((i+1:Nat):Int)) (hh:=by constructor<;>omega);refine C.EP (f:=qj) (s:=s7) (l:=[]++us.take i) (us.drop (i+1)) rfl (λs8=>?_) (hsrc:=λH st=>?_) (hsz:=by simp only[eZ,uw,iz];omega)
    rotate_left
    ·show lj bG H 6 _ (.slice (some (if un.cap=i+1 then⟨un.b,0,none⟩else⟨un.b,0+(i+1)*6,none⟩)) (us.length-(i+1)) (un.cap-(i+1))) _;have e1:(us.drop (i+1)).length=us.length-(i+1):=by rw[uw]
     rw[e1];have h:=dF.K7 (B:=bG) (f:=qj) (el:=287) (s:=un) (l:=us) (.own Fo.au) st (λ_=>rfl) (i+1) (us.length-(i+1)) ak (un.cap-(i+1)) (some (if un.cap=i+1 then⟨un.b,0,none⟩else⟨un.b,0+(i+1)*6,none⟩)) (λhm=>by rw[aq ak];simp) (λ_=>.inr (by
      by_cases hc:un.cap=i+1
      ·exact⟨0,by rw[aK hc],by intro z;rw[z]at TE;simp at TE,ak⟩
      ·exact⟨(i+1)*6,by rw[aq hc];simp,by intro z;rw[z]at TE;simp at TE,by have:=tu 6 (show i+1<=us.length by omega);omega⟩))
     rwa[g5 (by rw[uw];exact fI _)]at h
    refine cN ?_;have Av:[]++us.take i++us.drop (i+1)=s.under.eraseIdx i:=by rw[eZ,<- yc,o5,List.eraseIdx_set_eq]
    rw[Av];refine dp.cls {s with under:=s.under.eraseIdx i} ?_ (un:=s8);refine C.cQ aJ ai ⟨I,{s with under:=s.under.eraseIdx i},Sub.refl _,⟨hI.log,λx hx=>hI.cq x ((jM ..).mem hx),hI.waits,hI.out⟩,?_,rfl⟩;unfold xo;simp only[hu,G4];rw[aq (by rw[sA];simp),aK je];simp[eX.abs,oK]
theorem IA{b:Nat}{me:Int}{v1 v2 v3 v4 v5 v6 v7 v8 v10 v11:Value}{wt:ax}{l:List cu}{m:cu}(hl:l.length<2^34):
  aB prog ao bG 212 #[.pointer (some ⟨b,0,none⟩),.agg #[az m.kind,az m.aV,az m.to,az m.tx,.bool m.yes,m.so.v,m.sr.v]]
   [bX b (.cells #[az me,v1,v2,v3,v4,v5,v6,v7,v8,wt.v,v10,v11] 61 (0,0)),aW bQ 7 137 wt l]
  (λv As=>∃ wt':ax,As=[bX b (.cells #[az me,v1,v2,v3,v4,v5,v6,v7,v8,wt'.v,v10,v11] 61 (0,0)),aW bQ 7 137 wt' (l++[{m with aV:=me}])]):=by
 refine aB.of λR C kd d F c cs aJ ai=>?_;refine jI ?_;refine C.bx rfl (λb3=>?_);refine ky ?_;refine C.dx (cm 9 0 10) 11 [6,7,10] 1 ?_;refine Lu ?_;refine Ch.m 6 (aP λe aa hk=>?_);refine C.n5 rfl (λb15=>hk _ _ .cons ?_);refine Ch.m 7 (aP λe aa hk=>?_);refine C.oh {m with aV:=me} rfl (λs'=>?_);refine hk _ _ ?_;refine Ch.m 10 (aP λe aa hk=>?_);refine C.st rfl (hk _ undef ?_);refine ee ?_;exact C.cQ aJ ai ⟨s',rfl⟩
def Mb(n:Nat):List Value:=[az (n:Int)]
instance:fM Mb 1:=⟨λ_=>rfl,λa v h=>by simp[Mb]at h;subst h;rfl⟩
theorem kY{I:HL}{u:fV}(h:xu I u)(k:Int):∃ (fr:Int) (sr:ax),PL (pD u.aT k)=.tuple #[.agg #[az fr,sr.v],.bool (bP u.abs k).isSome]/\dX I aI 3 sr (((bP u.abs k).map (·.reads)).getD []):=by
 rw[H8];cases hv:pD u.aT k with
 |none=>exact⟨0,aG,rfl,.nil ..⟩
 |some w=>exact⟨w.aV,w.sr,rfl,h.r w (AV hv)⟩
theorem jY{u:gU}{n:Int}:∀ {l:List cy} {f g:Int->Nat},(∀ o∈l,f (ie o.k n)=g (ie o.k n))->eG u n l f=eG u n l g
 |[],_,_,_=>rfl
 |o::l,f,g,h=>by
  unfold eG;have h0:=h o (iI ..);cases o.w with
  |true=>simp only[eQ];exact jY λo ho=>h o (gu _ ho)
  |false=>
   simp only[gR,eY,h0];rw[jY (f:=λj=>if j=ie o.k n then g (ie o.k n)+1 else f j) (g:=λj=>if j=ie o.k n then g (ie o.k n)+1 else g j) λo' qp=>by
    split
    ·rfl
    ·exact h o' (gu _ qp)]
def uf(U:List Nat)(k:Int):Nat:=U[k.toNat]?.getD 0
theorem IB{I:HL}{b:Nat}{n:Int}{v0 v2 v3 v4 v5 v6 v7 v8 v9 v10 v11:Value}{u:fV}(hu:xu I u)(ho:iX u.ops)(hn:0<n/\n<=4)(hv:u.aT.length<2^32):
  aB prog ao bG 214 #[.pointer (some ⟨b,0,none⟩),.agg #[az u.tx,u.so.v,u.sv.v,.bool u.dec,.bool u.yes,u.sa.v]]
   [bX b (.cells #[v0,az n,v2,v3,v4,v5,v6,v7,v8,v9,v10,v11] 61 (0,0)),aW qi 2 290 u.sv u.aT,a9 I]
   (λv As=>∃ s':ax,v=s'.v/\As=[aW aI 1 3 s' (jH u.abs n),bX b (.cells #[v0,az n,v2,v3,v4,v5,v6,v7,v8,v9,v10,v11] 61 (0,0)),aW qi 2 290 u.sv u.aT,a9 I]):=by
 refine aB.of λR C kd d F c cs aJ ai=>?_;refine bI ?_;have mA:=hu.o;have Rx:=ho.2;refine At.aG aI 1 3 ?_;refine bj ?_;refine C.bx rfl (λb3=>?_);refine i6 ?_;refine C.ms (f:=Mb) (a0:=0) rfl rfl (λvB=>?_);refine At.own (l:=List.replicate n.toNat 0) (f:=Mb) (z:=1) ⟨some ⟨vB,0,none⟩,n.toNat,n.toNat⟩ [] (by simp) (by simp) (by simp) .head ?_;refine At.turn .head (A':=aW Mb 1 3 ⟨some ⟨vB,0,none⟩,n.toNat,n.toNat⟩ (List.replicate n.toNat 0)) (λ_ h=>h) ?_;refine bj ?_;obtain⟨us,A0⟩:∃ us:ax,us=⟨some ⟨vB,0,none⟩,n.toNat,n.toNat⟩:=⟨_,rfl⟩;refine da ?_;refine C.bS (X:=Nat×ax×List Int×List Nat) (λx=>[(0,.pointer (some ⟨b,0,none⟩)),(3,.pointer (some ⟨b3,0,none⟩)),(5,x.2.1.v),(6,us.v),(7,az x.1)]) (λx=>aW aI 1 3 x.2.1 x.2.2.1::aW Mb 1 3 us x.2.2.2::bX b (.cells #[v0,az n,v2,v3,v4,v5,v6,v7,v8,v9,v10,v11] 61 (0,0))::bX b3 (.cells #[az u.tx,u.so.v,u.sv.v,.bool u.dec,.bool u.yes,u.sa.v] 287 (0,0))::aW qi 2 290 u.sv u.aT::a9 I::F)
  (λx=>x.1<=u.ops.length/\x.2.2.1.length<=x.1/\x.2.2.2.length=n.toNat/\(∀ y∈x.2.2.2,y<=x.1)/\jH u.abs n=x.2.2.1++eG u.abs n (u.ops.drop x.1) (uf x.2.2.2)) (λx=>u.ops.length-x.1) (0,aG,[],List.replicate n.toNat 0) ⟨rfl,rfl,rfl,by rw[A0];rfl,rfl,trivial⟩ ⟨by simp,by simp,by simp,by simp,by simp only[Ac,eZ];unfold jH;refine jY λo ho=>?_;unfold uf;rw[List.getElem?_replicate];split<;>rfl⟩ ?_ (hI:=by rw[A0];exact bZ.au)
 rintro⟨i,s1,acc,U⟩ e ⟨hi,Vd,hU,hUi,hr⟩ ih;dsimp only at hi Vd hU hUi hr⊢;refine dm ?_;refine C.cmp rfl (λsZ=>?_) (λsZ=>?_)
 ·refine bj ?_;have cG:i<u.ops.length:=by simpa using sZ
  have xq:=ho.1 _ (bC cG);rw[i7 cG]at hr;refine jL ?_;refine C.pU (λTH=>?_) (λTH=>?_)
  ·refine dm ?_;refine again ih (i+1,s1,acc,U) ⟨cD,cD,hU,λy hy=>Eo (hUi y hy),?_⟩ (cD);rw[hr,eG,aK TH]
  ·refine C.go ?_;refine C.dx (cm 30 0 11++[(8,11)]) 12 [10,11] 0 ?_;refine C6 ?_;refine Ch.m 10 (aP λe aa hk=>?_);have dI:=CS (n:=n) xq.1 hn.1;refine C.cE (Da (key:=u.ops[i].k) (n:=n) ak ak hn.1) ?_;refine pb ?_;obtain⟨q,hq⟩:∃ q:Nat,ie u.ops[i].k n=q:=g7 dI.1;rw[hq];refine hk _ _ ?_;refine Ch.q 11 (λh=>C.lh rfl h) ?_;refine S9 ?_;have hqU:q<U.length:=ak;have hUq:=hUi _ (bC hqU);refine C.cE (ng (l:=u.aT) (k:=(q:Int)) ak) ?_;refine bI ?_;obtain⟨fr,sr,e1,him⟩:=kY hu q;rw[e1];generalize i9:((bP u.abs q).map (·.reads)).getD []=rd at him;refine da ?_;refine C.al rfl (λb9=>?_);refine dm ?_;refine C.dx (cm 47 0 8) 8 [] 0 ?_;refine mB ?_;refine Dr.p (λh=>C.Wl rfl h) ?_;refine Dr.chain rfl ?_;refine ee ?_;refine C.pU (λXF=>?_) (λXF=>?_)
   ·refine C.go ?_;have abo:U[q]<rd.length:=by simpa[Al]using XF
    refine C.dx (cm 55 0 8++[(11,8)]) 9 [] 0 ?_;refine Nh ?_;refine S9 ?_;refine C.n5 rfl (λb65=>?_);refine C.oh (s:=s1) (l:=acc) rd[U[q]] rfl (λs2=>?_);refine ky ?_;refine C.iB (U[q]+1) rfl ?_ (j:=q) (s:=us) (l:=U);refine dm ?_;refine again ih (i+1,s2,acc++[rd[U[q]]'abo],U.set q (U[q]+1)) ⟨cD,by simp;omega,by simpa using hU,λy hy=>?_,?_⟩ (cD)
    ·rcases fT hy with h|rfl
     ·exact Eo (hUi y h)
     ·dsimp only;omega
    ·have XG:uf U q=U[q]:=by unfold uf;rw[show((q:Nat):Int).toNat=q from rfl,fp hqU];rfl
     rw[hr,eG,aq (by simp[TH])];simp only[hq,i9,XG];rw[qw]
     congr 1
     have yV:rd[U[q]]?.getD 0=_:=(by rw[fp abo];rfl:rd[U[q]]?.getD 0=rd[U[q]]);rw[yV];simp only[List.singleton_append,NB,mN];refine jY λo qp=>?_;have RB:=CS (n:=n) (ho.1 o (List.mem_of_mem_drop qp)).1 hn.1;obtain⟨p,hp⟩:∃ p:Nat,ie o.k n=p:=g7 RB.1;rw[hp];unfold uf;rw[show((p:Nat):Int).toNat=p from rfl,yb];by_cases e:p=q
     ·subst e;simp[hqU]
     ·have e2:¬ q=p:=λz=>e z.symm;have e3:¬ (p:Int)=q:=ak;simp[e2,e3]
   ·refine cN ?_;refine C.n5 rfl (λb65=>?_);refine C.oh (s:=s1) (l:=acc) (0:Int) rfl (λs2=>?_);refine ky ?_;refine C.iB (U[q]+1) rfl ?_ (j:=q) (s:=us) (l:=U);refine dm ?_;refine again ih (i+1,s2,acc++[0],U.set q (U[q]+1)) ⟨cD,by simp;omega,by simpa using hU,λy hy=>?_,?_⟩ (cD)
    ·rcases fT hy with h|rfl
     ·exact Eo (hUi y h)
     ·dsimp only;omega
    ·have XG:uf U q=U[q]:=by unfold uf;rw[show((q:Nat):Int).toNat=q from rfl,fp hqU];rfl
     rw[hr,eG,aq (by simp[TH])];simp only[hq,i9,XG];rw[qw]
     congr 1
     have yV:rd[U[q]]?.getD 0=_:=(by rw[wA (by have:¬ U[q]<rd.length:=(by simpa[Al]using XF);omega)];rfl:rd[U[q]]?.getD 0=0);rw[yV];simp only[List.singleton_append,NB,mN];refine jY λo qp=>?_;have RB:=CS (n:=n) (ho.1 o (List.mem_of_mem_drop qp)).1 hn.1;obtain⟨p,hp⟩:∃ p:Nat,ie o.k n=p:=g7 RB.1;rw[hp];unfold uf;rw[show((p:Nat):Int).toNat=p from rfl,yb];by_cases e:p=q
     ·subst e;simp[hqU]
     ·have e2:¬ q=p:=λz=>e z.symm;have e3:¬ (p:Int)=q:=ak;simp[e2,e3]
 ·refine dm ?_;have e1:u.ops.drop i=[]:=qy (by simp at sZ;omega);rw[e1,eG,lK]at hr;rw[<- hr];exact C.a8 aJ ai ⟨s1,rfl,rfl⟩
def th(u:fV)(m:cu):List vU:=if m.yes&& !(bP u.abs m.aV).isSome then u.aT++[⟨⟨m.aV,m.reads⟩,m.sr⟩]else u.aT
def ic(u:fV)(m:cu)(sv:ax):fV:={u with sv:=sv,aT:=th u m}
def zC(n:Int)(ops:List cy)(tx:Int)(yes:Bool)(z:ShR)(k:Int):ShR:=if(aY ops k n).isEmpty then z else eV z {bq with kind:=4,to:=k,tx:=tx,yes:=yes}
theorem BQ(u:fV)(m:cu)(sv:ax):(ic u m sv).abs=if m.yes&& !(bP u.abs m.aV).isSome then{u.abs with aT:=u.abs.aT++[⟨m.aV,m.reads⟩]}else u.abs:=by
 unfold ic th;by_cases h:(m.yes&& !(bP u.abs m.aV).isSome)=true
 ·simp only[aK h];simp[fV.abs]
 ·simp only[aq h];simp[fV.abs]
theorem BR(u:fV)(m:cu)(sv:ax):(ic u m sv).aT.length<=u.aT.length+1:=by unfold ic th;dsimp only;split<;>simp
theorem Ks{I:HL}{u:fV}{m:cu}(h:xu I u)(hm:tS I m)(sv:ax):xu I (ic u m sv):=by
 refine⟨h.o,λv hv=>?_⟩;unfold ic th at hv;dsimp only at hv;split at hv
 ·rcases cg.1 hv with hv|hv
  ·exact h.r v hv
  ·obtain rfl:=dN.1 hv;exact hm.r
 ·exact h.r v hv
def Dv(s:ShR)(m:MsgR)(i:Nat)(u1:gU):ShR:=
 let u2:={u1 with dec:=true,yes:=m.yes}
 let rd:=if m.yes then jH u2 s.n else[]
 let s1:={s with under:=s.under.set i u2,log:=s.log++[{eA with kind:=2,tx:=m.tx,yes:=m.yes,reads:=rd}]}
 let s2:=gb s1 u2.ops λz k _=>eV z {bq with kind:=4,to:=k,tx:=m.tx,yes:=m.yes}
 eV s2 {bq with kind:=7,to:= -1,tx:=m.tx,yes:=m.yes,reads:=rd}
theorem Gi{s:ShR}{m:MsgR}{i:Nat}{u:gU}(h1:cX s.under m.tx=some i)(h2:s.under[i]? =some u)(hd:u.dec=false){u1:gU}(Nb:u1=if m.yes&& !(bP u m.aV).isSome then{u with aT:=u.aT++[⟨m.aV,m.reads⟩]}else u):
  pV s m=if m.yes&& !mY s.n u1.ops (λk=>(bP u1 k).isSome)then{s with under:=s.under.set i u1}else Dv s m i u1:=by
 subst Nb;unfold pV;simp only[h1,h2,hd];rfl
abbrev zD(b:Nat)(m:cu):HP:=bX b (.cells #[az m.kind,az m.aV,az m.to,az m.tx,.bool m.yes,m.so.v,m.sr.v] 137 (0,0))
theorem Mc{I:HL}{b:Nat}{s:eX}{m:cu}(hI:u0 I s)(hM:tS I m)(hb:L9 s):
  aB prog ao bG 187 #[.pointer (some ⟨b,0,none⟩),.agg #[az m.kind,az m.aV,az m.to,az m.tx,.bool m.yes,m.so.v,m.sr.v]] [dp b s,a9 I] (tf b I (pV s.abs m.toMsgR)):=by
 refine aB.of λR C kd d F c cs aJ ai=>?_;refine bI ?_;have HS:=hb.under;have hn:=hb.n;have jV:=hb.log;have De:=hb.waits;refine bj ?_;refine C.bx rfl (λb3=>?_);refine cF ?_;refine C.cE (nb (s:=s) ak) ?_;refine jI ?_;refine dp.opn (h:=λlg vl lk un tm wt ot=>?_);refine bj ?_;refine C.cmp rfl (λuo=>?_) (λuo=>?_)
 ·refine oW ?_;refine dp.cls s ?_;refine C.a8 aJ ai ⟨I,s,Sub.refl _,hI,?_,rfl⟩;unfold pV;simp only[tY uo]
 ·refine fy ?_;obtain⟨i,hu⟩:∃ i,cX s.abs.under m.tx=some i:=j7 ak;obtain⟨hi,G4⟩:=zB hu;simp only[hu,tW];refine i6 ?_;refine C.pU (λIC=>?_) (λIC=>?_)
  ·refine C.go ?_;refine dp.cls s ?_;refine C.a8 aJ ai ⟨I,s,Sub.refl _,hI,?_,rfl⟩;unfold pV;simp only[hu,G4];have hd:(s.under[i]).abs.dec=true:=IC;rw[hd];rfl
  ·refine C.go ?_;have sA:(s.under[i]).abs.dec=false:=by show s.under[i].dec=false;simpa using IC
   have G8:=hb.zh _ (bC hi);have Vr:=G8.2.1;have hul:=G8.1.2;have Vs:=hI.cq _ (bC hi);refine ky ?_;apply kI (X:=ax) (λ_=>m.yes=true->(mY s.n s.under[i].ops λk=>(bP (ic s.under[i] m aG).abs k).isSome)=true) (λ_=>[(0,.pointer (some ⟨b,0,none⟩)),(3,.pointer (some ⟨b3,0,none⟩)),(5,.pointer (some ⟨un.b,i*6,none⟩))]) (λsv=>Kr b s lg vl lk un tm wt ot (s.under.set i (ic s.under[i] m sv)) i (ic s.under[i] m sv) (zD b3 m::a9 I::F)) (R:=R) (d:=d) (fn:=187) (kd:=kd) (n:=162) (ds:=[]) (cs:=c::cs)
   ·intro Vt;refine Dt hi Fo.au ?_;refine cN ?_;refine C.pU (λtZ=>?_) (λtZ=>?_)
    ·refine C.go ?_;apply OW True [(0,.pointer (some ⟨b,0,none⟩)),(3,.pointer (some ⟨b3,0,none⟩)),(5,.pointer (some ⟨un.b,i*6,none⟩)),(7,.bool (bP (s.under[i]).abs m.aV).isSome)] (Kr b s lg vl lk un tm wt ot s.under i s.under[i] (zD b3 m::a9 I::F)) (R:=R) (d:=d) (fn:=187) (kd:=kd) (n:=162) (ds:=[]) (cs:=c::cs)
     ·intro q6;refine C.wR (cm 40 0 6++[(39,6)]++[(46,7),(47,8)]++[(6,9)]++[(7,11)]) 12 [5,6,7,8,9,10,11] 8 ?_ (W:=[bX b3 (.cells #[az m.kind,az m.aV,az m.to,az m.tx,.bool m.yes,m.so.v,m.sr.v] 137 (0,0)),aW qj 6 287 un s.under]);refine jy ?_;refine Dr.l (λhE h=>C.EO hi rfl h (s:=un) (f:=qj)) ?_;refine jy ?_;refine Dr.chain rfl ?_ (λ_ s=>bZ.sat bZ.au s);refine Ch.n2 (t:=5) (u:=9) rfl ?_ ?_
      ·refine aP λe aa hk=>?_;refine C.cE (ng (l:=s.under[i].aT) (k:=m.aV) ak) ?_;refine bI ?_;obtain⟨fr,sr,e1, -⟩:=kY Vs m.aV;rw[e1];refine hk _ _ lU ?_;refine Ch.q 6 (λh=>C.mv rfl h) ?_;refine Ch.q 7 (λh=>C.ext rfl h) ?_;refine Ch.q 8 (λh=>C.ext rfl h) ?_;refine Ch.q 11 (λh=>C.lh rfl h) ?_;refine Ch.m 9 (aP λe aa hk=>?_);refine C.al rfl (λb6=>hk _ _ .cons ?_);refine Ch.m 10 (aP λe aa hk=>?_);refine fy ?_;refine hk _ undef lU ?_;refine ee ?_;exact join q6 trivial
      ·refine aP λe aa hk=>?_;refine C.al rfl (λb6=>hk _ _ .cons ?_);refine Ch.m 5 (aP λe aa hk=>?_);refine C.cE (ng (l:=s.under[i].aT) (k:=m.aV) ak) ?_;refine bI ?_;obtain⟨fr,sr,e1, -⟩:=kY Vs m.aV;rw[e1];refine hk _ _ lU ?_;refine Ch.q 6 (λh=>C.mv rfl h) ?_;refine Ch.q 7 (λh=>C.ext rfl h) ?_;refine Ch.q 8 (λh=>C.ext rfl h) ?_;refine Ch.q 11 (λh=>C.lh rfl h) ?_;refine Ch.m 10 (aP λe aa hk=>?_);refine fy ?_;refine hk _ undef lU ?_;refine ee ?_;exact join q6 trivial
     ·rintro - e;apply kI (X:=ax) (λ_=>True) (λ_=>[(0,.pointer (some ⟨b,0,none⟩)),(3,.pointer (some ⟨b3,0,none⟩)),(5,.pointer (some ⟨un.b,i*6,none⟩))]) (λsv=>Kr b s lg vl lk un tm wt ot (s.under.set i (ic s.under[i] m sv)) i (ic s.under[i] m sv) (zD b3 m::a9 I::F)) (R:=R) (d:=d) (fn:=187) (kd:=kd) (n:=162) (ds:=[]) (cs:=c::cs)
      ·intro Dd;refine cN ?_;refine C.pU (λXH=>?_) (λXH=>?_)
       ·refine C.go ?_;refine C.dx (cm 50 0 14) 15 [10,11,14] 1 ?_;refine HZ ?_;refine Dr.l (λhE h=>C.vz rfl h (j:=i) (s:=un) (l:=s.under)) ?_;refine Ng ?_;refine Ch.m 10 (aP λe aa hk=>?_);refine C.n5 rfl (λRI=>hk _ _ .cons ?_);refine Ch.m 11 (aP λe aa hk=>?_);refine C.oh (l:=s.under[i].aT) (vU.mk ⟨m.aV,m.reads⟩ m.sr) rfl (λs6=>?_);refine hk _ _ ?_;refine Ch.m 14 (aP λe aa hk=>?_);refine C.HC ({s.under[i]with sv:=s6,aT:=s.under[i].aT++[vU.mk ⟨m.aV,m.reads⟩ m.sr]}:fV) rfl ?_;refine hk _ undef ?_;refine ee ?_;have OD:(bP s.under[i].abs m.aV).isSome=false:=by simpa using XH
        have hvL:s.under[i].aT++[vU.mk ⟨m.aV,m.reads⟩ m.sr]=th s.under[i] m:=by unfold th;rw[aK (by rw[OD,tZ];rfl)]
        have XI:({s.under[i]with sv:=s6,aT:=s.under[i].aT++[vU.mk ⟨m.aV,m.reads⟩ m.sr]}:fV)=ic s.under[i] m s6:=by unfold ic;rw[<- hvL]
        refine At.jR (Bs:=Kr b s lg vl lk un tm wt ot (s.under.set i ({s.under[i]with sv:=s6,aT:=s.under[i].aT++[vU.mk ⟨m.aV,m.reads⟩ m.sr]}:fV)) i ({s.under[i]with sv:=s6,aT:=s.under[i].aT++[vU.mk ⟨m.aV,m.reads⟩ m.sr]}:fV) (zD b3 m::a9 I::F)) ?_ ?_
        ·exact bZ.au
        rw[XI];exact bN Dd s6 trivial
       ·refine C.go ?_;have OD:(bP s.under[i].abs m.aV).isSome=true:=by simpa using XH
        have hvL:s.under[i].aT=th s.under[i] m:=by unfold th;rw[aq (by rw[OD,tZ];simp)]
        have XI:s.under[i]=ic s.under[i] m s.under[i].sv:=by unfold ic;rw[<- hvL]
        have oM:s.under=s.under.set i (ic s.under[i] m s.under[i].sv):=by rw[<- XI,l9]
        refine At.jR (Bs:=Kr b s lg vl lk un tm wt ot (s.under.set i (ic s.under[i] m s.under[i].sv)) i (ic s.under[i] m s.under[i].sv) (zD b3 m::a9 I::F)) ?_ ?_
        ·rw[<- oM,<- XI];exact bZ.au
        exact bN Dd s.under[i].sv trivial
      ·rintro sv1-e;obtain⟨u,xW⟩:∃ u,u=ic s.under[i] m sv1:=⟨_,rfl⟩;obtain⟨us,o5⟩:∃ us,us=s.under.set i u:=⟨_,rfl⟩;have abj:us.length=s.under.length:=by rw[o5];simp
       have TE:i<us.length:=ak;have A0:us[i]=u:=by simp[o5]
       have mA:u.ops=s.under[i].ops:=by rw[xW];rfl
       have TI:xu I u:=by rw[xW];exact Ks Vs hM sv1
       have huv:u.aT.length<2^31:=by rw[xW];have:=BR s.under[i] m sv1;omega
       rw[<- xW,<- o5];refine da ?_;refine C.bS (X:=Nat) (λk=>[(0,.pointer (some ⟨b,0,none⟩)),(3,.pointer (some ⟨b3,0,none⟩)),(5,.pointer (some ⟨un.b,i*6,none⟩)),(8,az k)]) (λ_=>Kr b s lg vl lk un tm wt ot us i u (zD b3 m::a9 I::F)) (λk=>(k:Int)<=s.n/\∀ j:Nat,j<k->cr u.ops j s.n=true->(bP u.abs j).isSome=true) (λk=>(s.n-k).toNat) 0 ⟨rfl,rfl,rfl,rfl,trivial⟩ ⟨ak,by intro j hj;omega⟩ ?_;intro k e ⟨zZ,G6⟩ ih;refine dV ?_;refine C.cmp rfl (λh69=>?_) (λh69=>?_)
       ·refine cF ?_;refine C.lZ rfl (λ_=>?_) (j:=i) (s:=un) (l:=us);simp only[A0];refine fy ?_;refine C.cE (ng (l:=u.aT) (k:=(k:Int)) ak) ?_;refine bI ?_;obtain⟨fr,sr,e1, -⟩:=kY TI k;rw[e1];generalize Nn:(bP u.abs k).isSome=z;rcases fU z with rfl|rfl
        ·refine da ?_;refine C.al rfl (λb9=>?_);refine da ?_;refine C.dx (cm 80 0 10++[(11,10)]) 11 [9,10] 0 ?_;refine qs ?_;refine Dr.l (λhE h=>C.vz rfl h (j:=i) (s:=un) (l:=us) (hv:=by simp only[A0];rfl)) ?_;refine PI ?_;refine Ch.m 9 (aP λe aa hk=>?_);refine C.cE (pC (k:=k) (n:=s.n) TI.o (by rw[mA];exact G8.1.1) ak (by rw[mA];omega)) ?_;refine bI ?_;generalize BO:cr u.ops k s.n=z;rcases fU z with rfl|rfl
         ·refine hk _ _ ?_;refine Ch.q 10 (λh=>C.lh rfl h) ?_;refine Ch.fin ?_;refine oX ?_;refine again ih (k+1) ⟨ak,λj hj Aa=>?_⟩ ak;rcases mO.1 hj with h|rfl
          ·exact G6 j h Aa
          ·exact Nn
         ·refine hk _ _ ?_;refine Ch.q 10 (λh=>C.lh rfl h) ?_;refine Ch.fin ?_;refine oX ?_;refine again ih (k+1) ⟨ak,λj hj Aa=>?_⟩ ak;rcases mO.1 hj with h|rfl
          ·exact G6 j h Aa
          ·exact Nn
        ·refine da ?_;refine C.al rfl (λb9=>?_);refine da ?_;refine C.dx (cm 80 0 10++[(11,10)]) 11 [9,10] 0 ?_;refine qs ?_;refine Dr.l (λhE h=>C.vz rfl h (j:=i) (s:=un) (l:=us) (hv:=by simp only[A0];rfl)) ?_;refine PI ?_;refine Ch.m 9 (aP λe aa hk=>?_);refine C.cE (pC (k:=k) (n:=s.n) TI.o (by rw[mA];exact G8.1.1) ak (by rw[mA];omega)) ?_;refine bI ?_;generalize BO:cr u.ops k s.n=z;rcases fU z with rfl|rfl
         ·refine hk _ _ ?_;refine Ch.q 10 (λh=>C.lh rfl h) ?_;refine Ch.fin ?_;refine ky ?_;have hIu:∀ x∈us,xu I x:=λx hx=>by
           rw[o5]at hx;rcases fT hx with h|rfl
           ·exact hI.cq x h
           ·exact TI
          refine Du (us:=s.under) hi u dJ.au ?_;rw[<- o5];refine dp.cls {s with under:=us} ?_;refine C.a8 aJ ai ⟨I,{s with under:=us},Sub.refl _,⟨hI.log,hIu,hI.waits,hI.out⟩,?_,rfl⟩;have pQ:¬ (mY s.abs.n u.abs.ops λk=>(bP u.abs k).isSome)=true:=λh=>by have h1:=k9.1 h (k:Int) (kQ.2 (by constructor<;>first|omega|exact h69));have h2:cr u.abs.ops k s.abs.n=true:=BO;simp only[h2,Nn]at h1;cases h1
          rw[Gi (m:=m.toMsgR) hu G4 sA (u1:=u.abs) (by rw[xW];exact BQ ..),aK (by rw[show m.toMsgR.yes=true from tZ];simpa using pQ),o5];simp[eX.abs,kD]
         ·refine hk _ _ ?_;refine Ch.q 10 (λh=>C.lh rfl h) ?_;refine Ch.fin ?_;refine oX ?_;refine again ih (k+1) ⟨ak,λj hj Aa=>?_⟩ ak;rcases mO.1 hj with h|rfl
          ·exact G6 j h Aa
          ·rw[BO]at Aa;cases Aa
       ·refine bj ?_;subst o5 xW;refine bN Vt sv1 λ_=>?_;refine k9.2 λx hx=>?_;obtain⟨h1,h2⟩:=kQ.1 hx;obtain⟨j,rfl⟩:=g7 h1;have h2:(j:Int)<s.n:=h2;have h3:=G6 j ak;rw[mA]at h3;cases ht:cr s.under[i].ops j s.n with
        |false=>rfl
        |true=>
         show(!true||(bP (ic s.under[i] m sv1).abs (j:Int)).isSome)=true;rw[h3 ht];rfl
    ·refine C.go ?_;have hvL:s.under[i].aT=th s.under[i] m:=by unfold th;rw[aq (by simp[show m.yes=false by simpa using tZ])]
     have XI:s.under[i]=ic s.under[i] m s.under[i].sv:=by unfold ic;rw[<- hvL]
     have oM:s.under=s.under.set i (ic s.under[i] m s.under[i].sv):=by rw[<- XI,l9]
     refine At.jR (Bs:=Kr b s lg vl lk un tm wt ot (s.under.set i (ic s.under[i] m s.under[i].sv)) i (ic s.under[i] m s.under[i].sv) (zD b3 m::a9 I::F)) ?_ ?_
     ·rw[<- oM,<- XI];exact bZ.au
     exact bN Vt s.under[i].sv λh=>absurd h (by simpa using tZ)
   ·rintro sv2 je e;obtain⟨u,xW⟩:∃ u,u=ic s.under[i] m sv2:=⟨_,rfl⟩;obtain⟨us,o5⟩:∃ us,us=s.under.set i u:=⟨_,rfl⟩;have abj:us.length=s.under.length:=by rw[o5];simp
    have TE:i<us.length:=ak;have A0:us[i]=u:=by simp[o5]
    rw[<- xW,<- o5];refine cN ?_;refine C.HC ({u with dec:=true}:fV) rfl ?_ (ha:=by rw[A0];rfl);refine dV ?_;refine C.HC ({u with dec:=true,yes:=m.yes}:fV) rfl ?_ (hj:=by rw[cS];exact TE) (ha:=by rw[wC];rfl);refine C.go ?_;obtain⟨u2,ID⟩:∃ u2:fV,u2={u with dec:=true,yes:=m.yes}:=⟨_,rfl⟩;obtain⟨BS,BT⟩:∃ BS,BS=s.under.set i u2:=⟨_,rfl⟩;have ai0:BS.length=s.under.length:=by rw[BT];simp
    have ai1:i<BS.length:=ak;have TF:BS[i]=u2:=by simp[BT]
    have XJ:u2.ops=s.under[i].ops:=by rw[ID,xW];rfl
    have XK:xu I u2:=by have:=Ks Vs hM sv2;rw[ID,xW];exact⟨this.o,this.r⟩
    have ai2:u2.aT.length<2^30+1:=by rw[ID,xW];have:=BR s.under[i] m sv2;show(ic s.under[i] m sv2).aT.length<_;omega
    have aeI:u2.abs={u.abs with dec:=true,yes:=m.yes}:=by rw[ID];rfl
    refine At.jR (Bs:=Kr b s lg vl lk un tm wt ot BS i u2 (zD b3 m::a9 I::F)) ?_ ?_
    ·have e1:BS=(us.set i ({u with dec:=true}:fV)).set i ({u with dec:=true,yes:=m.yes}:fV):=by rw[BT,o5,AY,AY,ID]
     rw[e1];subst ID;exact bZ.au
    refine dm ?_;refine C.al rfl (λRM=>?_);refine bj ?_;apply kI (X:=ax×HL) (λx=>Sub I x.2/\dX x.2 aI 3 x.1 (if m.yes then jH u2.abs s.n else[])) (λ_=>[(0,.pointer (some ⟨b,0,none⟩)),(3,.pointer (some ⟨b3,0,none⟩)),(5,.pointer (some ⟨un.b,i*6,none⟩)),(12,.pointer (some ⟨RM,0,none⟩))]) (λx=>bX RM (.cells #[az 2,az m.tx,.bool m.yes,az 0,.slice none 0 0,x.1.v] 247 (0,0))::Kr b s lg vl lk un tm wt ot BS i u2 (zD b3 m::a9 x.2::F)) (R:=R) (d:=d) (fn:=187) (kd:=kd) (n:=162) (ds:=[]) (cs:=c::cs)
    ·intro Vu;refine cN ?_;refine C.pU (λQk=>?_) (λQk=>?_)
     ·refine cF ?_;refine C.lZ rfl (λ_=>?_) (j:=i) (s:=un) (l:=BS);simp only[TF];refine C.dk (IB (u:=u2) (n:=s.n) XK (by rw[XJ];exact G8.1) ak ak) ?_;rintro v aO ⟨s3,rfl,rfl⟩;refine bI ?_;refine At.JS (s:=s3) (f:=aI) Fo.au Fo.au λI' sx XB=>?_;refine da ?_;exact bN Vu (s3,I') ⟨sx,by rw[aK Qk];exact XB⟩
     ·refine C.go ?_;exact bN Vu ((⟨none,0,0⟩:ax),I) ⟨Sub.refl _,by rw[aq (by simp[Qk])];exact dX.nil ..⟩
    ·rintro⟨rs,I1⟩ ⟨rm,qc⟩ e;dsimp only at rm qc⊢;generalize i9:(if m.yes then jH u2.abs s.n else[])=rd at qc;refine C.dx (cm 116 0 10) 11 [6,7,10] 1 ?_;refine Lu ?_;refine Ch.m 6 (aP λe aa hk=>?_);refine C.n5 rfl (λai3=>hk _ _ .cons ?_);refine Ch.m 7 (aP λe aa hk=>?_);refine C.oh (jr.mk {eA with kind:=2,tx:=m.tx,yes:=m.yes,reads:=rd} aG rs) rfl (λs4=>?_);refine hk _ _ ?_;refine Ch.m 10 (aP λe aa hk=>?_);refine C.st rfl (hk _ undef ?_);refine ee ?_;obtain⟨r,hr⟩:∃ r:jr,r=jr.mk {eA with kind:=2,tx:=m.tx,yes:=m.yes,reads:=rd} aG rs:=⟨_,rfl⟩;rw[<- hr];refine da ?_;refine C.bS (X:=Nat×ax×List cu) (λx=>[(0,.pointer (some ⟨b,0,none⟩)),(3,.pointer (some ⟨b3,0,none⟩)),(5,.pointer (some ⟨un.b,i*6,none⟩)),(12,.pointer (some ⟨RM,0,none⟩)),(13,az x.1)]) (λx=>bX RM (.cells #[az 2,az m.tx,.bool m.yes,az 0,.slice none 0 0,rs.v] 247 (0,0))::Kr b {s with log:=s.log++[r],waits:=x.2.2} s4 vl lk un tm x.2.1 ot BS i u2 (zD b3 m::a9 I1::F))
      (λx=>(x.1:Int)<=s.n/\x.2.2.length<=s.waits.length+x.1/\(∀ w∈x.2.2,tS I1 w)/\({s with log:=s.log++[r],under:=BS,waits:=x.2.2}:eX).abs=((upto s.n).take x.1).foldl (zC s.n u2.ops m.tx m.yes) ({s with log:=s.log++[r],under:=BS}:eX).abs) (λx=>(s.n-x.1).toNat) (0,wt,s.waits) ⟨rfl,rfl,rfl,rfl,rfl,trivial⟩ ⟨cD,fI _,λw hw=>(hI.waits w hw).mono rm,rfl⟩ ?_
     rintro⟨k,wt1,W⟩ e ⟨hk,hW,zE,gm⟩ ih;dsimp only at hk hW zE gm⊢;refine dV ?_;refine C.cmp rfl (λXL=>?_) (λXL=>?_)
     ·refine bj ?_;have PQ:(k:Int)<s.n:=XL;refine C.dx (cm 134 0 10++[(14,10)]) 11 [9,10] 0 ?_;refine qs ?_;refine Dr.l (λhE h=>C.vz rfl h (j:=i) (s:=un) (l:=BS) (hv:=by simp only[TF];rfl)) ?_;refine PI ?_;refine Ch.m 9 (aP λe aa hk=>?_);refine C.cE (pC (k:=k) (n:=s.n) (XK.o.mono rm) (by rw[XJ];exact G8.1.1) ak (by rw[XJ];omega)) ?_;refine bI ?_;generalize BO:cr u2.ops k s.n=z;rcases fU z with rfl|rfl
      ·refine hk _ _ ?_;refine Ch.q 10 (λh=>C.lh rfl h) ?_;refine Ch.fin ?_;refine zb ?_;refine C.dk (IA (wt:=wt1) (l:=W) (m:=⟨{bq with kind:=4,to:=k,tx:=m.tx,yes:=m.yes},aG,aG⟩) ak) ?_;rintro v aO ⟨wt2,rfl⟩;refine Ec ?_;refine again ih (k+1,wt2,W++[⟨{bq with kind:=4,aV:=s.me,to:=k,tx:=m.tx,yes:=m.yes},aG,aG⟩]) ⟨cD,by simp;omega,λw hw=>?_,?_⟩ (cD)
       ·rcases cg.1 hw with hw|hw
        ·exact zE w hw
        ·obtain rfl:=dN.1 hw;exact⟨.nil ..,.nil ..⟩
       ·rw[dg ak,eO,<- gm];have eL:(aY u2.ops k s.n).isEmpty=false:=by simpa[cr]using BO
        simp only[ks,ow,zC,eL];simp[eV,eX.abs]
      ·refine hk _ _ ?_;refine Ch.q 10 (λh=>C.lh rfl h) ?_;refine Ch.fin ?_;refine i6 ?_;refine again ih (k+1,wt1,W) ⟨cD,cD,zE,?_⟩ (cD);rw[dg ak,eO,<- gm];have eL:(aY u2.ops k s.n).isEmpty=true:=by simpa[cr]using BO
       simp only[ks,ow,zC,eL];simp
     ·refine bj ?_;have PQ:¬ (k:Int)<s.n:=XL;rw[oZ ak]at gm;refine Du (us:=s.under) hi u2 dJ.au ?_;rw[<- BT];refine dp.cls {s with log:=s.log++[r],under:=BS,waits:=W} ?_;refine ky ?_;refine C.dk (rX (s:={s with log:=s.log++[r],under:=BS,waits:=W}) (m:=⟨{bq with kind:=7,to:= -1,tx:=m.tx,yes:=m.yes,reads:=rd},aG,rs⟩) (by show W.length<_;omega)) ?_;rintro v aO rfl;refine k8 ?_;refine C.cQ aJ ai ⟨I1,{s with log:=s.log++[r],under:=BS,waits:=W++[⟨{bq with kind:=7,aV:=s.me,to:= -1,tx:=m.tx,yes:=m.yes,reads:=rd},aG,rs⟩]},rm,⟨λx hx=>?_,λx hx=>?_,λx hx=>?_,λx hx=>(hI.out x hx).mono rm⟩,?_,rfl⟩
      ·rcases cg.1 hx with hx|hx
       ·exact(hI.log x hx).mono rm
       ·obtain rfl:=dN.1 hx;rw[hr];exact⟨.nil ..,qc⟩
      ·rw[BT]at hx;rcases fT hx with h|rfl
       ·exact(hI.cq x h).mono rm
       ·exact XK.mono rm
      ·rcases cg.1 hx with hx|hx
       ·exact zE x hx
       ·obtain rfl:=dN.1 hx;exact⟨.nil ..,qc⟩
      have iD:({s.abs with under:=s.abs.under.set i u2.abs,log:=s.abs.log++[{eA with kind:=2,tx:=m.tx,yes:=m.yes,reads:=rd}]}:ShR)=({s with log:=s.log++[r],under:=BS}:eX).abs:=by simp[eX.abs,hr,BT,kD]
      have e1:Dv s.abs m.toMsgR i u.abs=eV (gb ({s with log:=s.log++[r],under:=BS}:eX).abs u2.ops λz k _=>eV z {bq with kind:=4,to:=k,tx:=m.tx,yes:=m.yes}) {bq with kind:=7,to:= -1,tx:=m.tx,yes:=m.yes,reads:=rd}:=by
       rw[<- iD];unfold Dv;have ho:u2.ops=u.abs.ops:=by rw[ID];rfl
       simp only[<- aeI,<- i9,ho];rfl
      have e2:(gb ({s with log:=s.log++[r],under:=BS}:eX).abs u2.ops λz k _=>eV z {bq with kind:=4,to:=k,tx:=m.tx,yes:=m.yes})=({s with log:=s.log++[r],under:=BS,waits:=W}:eX).abs:=gm.symm;rw[Gi (m:=m.toMsgR) hu G4 sA (u1:=u.abs) (by rw[xW];exact BQ ..),aq (λh=>by
       simp only[j8,Ek]at h;have h1:=je h.1;have h2:(mY s.n s.under[i].ops λk=>(bP (ic s.under[i] m aG).abs k).isSome)=false:=by have:=h.2;rw[xW]at this;exact this
       rw[h1]at h2;cases h2),e1,e2]
      simp[eV,eX.abs]
theorem Me{I:HL}{b:Nat}{s:eX}{m:cu}(hI:u0 I s)(hM:tS I m)(hb:L9 s)(hm:iX m.ops):
  aB prog ao bG 159 #[.pointer (some ⟨b,0,none⟩),.agg #[az m.kind,az m.aV,az m.to,az m.tx,.bool m.yes,m.so.v,m.sr.v]] [dp b s,a9 I] (tf b I (jF s.abs m.toMsgR)):=by
 refine aB.of λR C kd d F c cs aJ ai=>?_;refine jI ?_;refine C.bx rfl (λb3=>?_);refine dm ?_;refine C.cmp rfl (λh7=>?_) (λh7=>?_)
 ·refine dm ?_;refine C.dk (Iz (m:=m) hI hM hb hm) ?_;rintro v aO ⟨I',s',hS,sx,ha,rfl⟩;refine k8 ?_;exact C.cQ aJ ai ⟨I',s',hS,sx,by rw[ha];unfold jF;rw[aK h7],rfl⟩
 ·refine cN ?_;refine C.cmp rfl (λoa=>?_) (λoa=>?_)
  ·refine dm ?_;refine C.dk (Ds (m:=m) hI hM hb hm) ?_;rintro v aO ⟨I',s',hS,sx,ha,rfl⟩;refine k8 ?_;exact C.cQ aJ ai ⟨I',s',hS,sx,by rw[ha];unfold jF;rw[aq h7,aK oa],rfl⟩
  ·refine cN ?_;refine C.cmp rfl (λxv=>?_) (λxv=>?_)
   ·refine dm ?_;refine C.dk (Mc (m:=m) hI hM hb) ?_;rintro v aO ⟨I',s',hS,sx,ha,rfl⟩;refine k8 ?_;exact C.cQ aJ ai ⟨I',s',hS,sx,by rw[ha];unfold jF;rw[aq h7,aq oa,aK xv],rfl⟩
   ·refine cN ?_;refine C.cmp rfl (λvZ=>?_) (λvZ=>?_)
    ·refine dm ?_;refine C.dk (Gf (m:=m) hI hb) ?_;rintro v aO ⟨I',s',hS,sx,ha,rfl⟩;refine k8 ?_;exact C.cQ aJ ai ⟨I',s',hS,sx,by rw[ha];unfold jF;rw[aq h7,aq oa,aq xv,aK vZ],rfl⟩
    ·refine cN ?_;refine C.cmp rfl (λum=>?_) (λum=>?_)
     ·refine dm ?_;refine C.dk (Qj (m:=m) hI hb) ?_;rintro v aO ⟨I',s',hS,sx,ha,rfl⟩;refine k8 ?_;exact C.cQ aJ ai ⟨I',s',hS,sx,by rw[ha];unfold jF;rw[aq h7,aq oa,aq xv,aq vZ,aK um],rfl⟩
     ·refine cN ?_;refine C.cmp rfl (λNp=>?_) (λNp=>?_)
      ·refine dm ?_;refine C.dk (Qi (m:=m) hI hb) ?_;rintro v aO ⟨I',s',hS,sx,ha,rfl⟩;refine k8 ?_;exact C.cQ aJ ai ⟨I',s',hS,sx,by rw[ha];unfold jF;rw[aq h7,aq oa,aq xv,aq vZ,aq um,aK Np],rfl⟩
      ·refine da ?_;exact C.cQ aJ ai ⟨I,s,Sub.refl _,hI,by unfold jF;rw[aq h7,aq oa,aq xv,aq vZ,aq um,aq Np],rfl⟩
theorem Mf{b:Nat}{s:eX}(hb:L9 s):
  aB prog ao bG 116 #[.pointer (some ⟨b,0,none⟩)] [dp b s] (λv As=>As=[dp b {s with aX:=s.log.length,out:=s.out++s.waits,waits:=[]}]):=by
 refine aB.of λR C kd d F c cs aJ ai=>?_;refine bI ?_;have jV:=hb.log;have jg:=hb.out;have De:=hb.waits;refine dp.opn (h:=λlg vl lk un tm wt ot=>?_);refine oW ?_;refine C.dx (cm 10 0 12) 13 [9,12] 0 ?_;refine H4 ?_;refine Ch.m 9 (aP λe aa hk=>?_);refine C.EP (f:=bQ) (s:=ot) (l:=s.out) s.waits rfl (λs'=>?_) (hsrc:=λH st=>dF.src (f:=bQ) (el:=137) (.own Fo.au) st (λ_=>rfl));refine hk _ _ ?_;refine Ch.m 12 (aP λe aa hk=>?_);refine C.st rfl (hk _ undef ?_);refine Lt ?_;refine At.aG bQ 7 137 ?_;refine dp.cls {s with aX:=s.log.length,out:=s.out++s.waits,waits:=[]} ?_ (wt:=aG);exact C.cQ aJ ai rfl
def gO(s:eX)(k:Int):Int:=s.aX+(if(if k<0 then 0 else k)<(s.log.length:Int)-s.aX then(if k<0 then 0 else k)else(s.log.length:Int)-s.aX)
theorem TJ{s:eX}(hb:L9 s)(k:Int):0<=gO s k/\gO s k<=s.log.length:=by have:=hb.aX;unfold gO;constructor<;>split<;>split<;>omega
theorem Mg(s:eX)(k:Int):({s with up:=false,aX:=gO s k,log:=s.log.take (gO s k).toNat,bH:=il,aH:=[],under:=[],timers:=[],waits:=[],clock:=0}:eX).abs=pw s.abs k:=by simp[pw,eR,eX.abs,gO,Er]
theorem Ql{α:Type}{f:α->List Value}{z:Nat}{el:aR}{s:ax}{l:List α}(h:HL)(x:aW f z el s l h):s.len=l.length/\l.length<=s.cap:=by
 rcases x with⟨rfl,rfl⟩|⟨b,pad,e,_,h2,_⟩
 ·exact⟨rfl,fI _⟩
 ·exact⟨congrArg ax.len e,h2⟩
theorem IE{b:Nat}{s:eX}{k:Int}(hb:L9 s):
  aB prog ao bG 118 #[.pointer (some ⟨b,0,none⟩),az k] [dp b s] (λv As=>As=[dp b {s with up:=false,aX:=gO s k,log:=s.log.take (gO s k).toNat,bH:=il,aH:=[],under:=[],timers:=[],waits:=[],clock:=0}]):=by
 refine aB.of λR C kd d F c cs aJ ai=>?_;refine bI ?_;have jV:=hb.log;have Y8:=hb.aX;refine dp.opn (h:=λlg vl lk un tm wt ot=>?_);refine At.xl (A:=aW recC 6 247 lg s.log) Fo.au Ql λ⟨D9,Vq⟩=>?_;have yr:=TJ hb k;refine dV ?_;refine C.dx (cm 8 0 10++[(4,10)]) 11 [] 0 ?_;refine H4 ?_;refine ee ?_;apply OW True [(0,.pointer (some ⟨b,0,none⟩)),(4,az (gO s k-s.aX))] (z5 b {s with up:=false} lg vl lk un tm wt ot F) (R:=R) (d:=d) (fn:=118) (kd:=kd) (n:=47) (ds:=[]) (cs:=c::cs)
 ·intro q6;refine bj ?_;refine C.cmp rfl (λxz=>?_) (λxz=>?_)
  ·refine jL ?_;refine C.cmp rfl (λvZ=>?_) (λvZ=>?_)
   ·refine dm ?_;have e1:gO s k-s.aX=0:=by unfold gO;rw[aK xz,aK vZ];omega
    rw[e1]at q6;exact join q6 trivial
   ·refine bj ?_;have e1:gO s k-s.aX=(s.log.length:Int)-s.aX:=by unfold gO;rw[aK xz,aq vZ];omega
    rw[e1]at q6;exact join q6 trivial
  ·refine cF ?_;refine C.cmp rfl (λvZ=>?_) (λvZ=>?_)
   ·refine dm ?_;have e1:gO s k-s.aX=k:=by unfold gO;rw[aq xz,aK vZ];omega
    rw[e1]at q6;exact join q6 trivial
   ·refine bj ?_;have e1:gO s k-s.aX=(s.log.length:Int)-s.aX:=by unfold gO;rw[aq xz,aq vZ];omega
    rw[e1]at q6;exact join q6 trivial
 ·rintro - e;refine dV ?_;refine C.ar rfl ?_ (r:=gO s k) (ha:=congrArg some (show s.aX+(gO s k-s.aX)=gO s k by omega));refine cN ?_;refine C.dx (cm 33 0 12) 13 [12] 0 ?_;refine S8 ?_;refine Dr.p (λh=>C.Wn rfl h (hi:=gO s k) (hh:=⟨ak,ak⟩)) ?_;refine xr ?_;refine Ch.m 12 (aP λe aa hk=>?_);refine C.st rfl (hk _ undef ?_);refine ee ?_;refine At.turn (A:=aW recC 6 247 lg s.log) Fo.au (CN (n:=(gO s k).toNat) ak) ?_;refine dp.cls {s with up:=false,aX:=gO s k,log:=s.log.take (gO s k).toNat} ?_ (lg:=⟨lg.a,(gO s k).toNat,lg.cap⟩);refine bj ?_;refine C.dk (q8 (s:={s with up:=false,aX:=gO s k,log:=s.log.take (gO s k).toNat})) ?_;rintro v aO rfl;refine k8 ?_;exact C.cQ aJ ai rfl
theorem pJ{b:Nat}{me:Int}{v1 v2 v3 v4 v5 v6 v7 v8 v9 v10:Value}{ot:ax}{l:List cu}{m:cu}(hl:l.length<2^34):
  aB prog ao bG 192 #[.pointer (some ⟨b,0,none⟩),.agg #[az m.kind,az m.aV,az m.to,az m.tx,.bool m.yes,m.so.v,m.sr.v]]
   [bX b (.cells #[az me,v1,v2,v3,v4,v5,v6,v7,v8,v9,v10,ot.v] 61 (0,0)),aW bQ 7 137 ot l]
  (λv As=>∃ ot':ax,As=[bX b (.cells #[az me,v1,v2,v3,v4,v5,v6,v7,v8,v9,v10,ot'.v] 61 (0,0)),aW bQ 7 137 ot' (l++[{m with aV:=me}])]):=by
 refine aB.of λR C kd d F c cs aJ ai=>?_;refine jI ?_;refine C.bx rfl (λb3=>?_);refine ky ?_;refine C.dx (cm 9 0 10) 11 [6,7,10] 1 ?_;refine Lu ?_;refine Ch.m 6 (aP λe aa hk=>?_);refine C.n5 rfl (λb15=>hk _ _ .cons ?_);refine Ch.m 7 (aP λe aa hk=>?_);refine C.oh {m with aV:=me} rfl (λs'=>?_);refine hk _ _ ?_;refine Ch.m 10 (aP λe aa hk=>?_);refine C.st rfl (hk _ undef ?_);refine ee ?_;exact C.cQ aJ ai ⟨s',rfl⟩
def jB(n:Int)(u:gU)(tx:Int)(aX:Bool)(z:ShR)(k:Int):ShR:=
 if(aY u.ops k n).isEmpty then z else
  if !u.dec&& !(bP u k).isSome then cA z {bq with kind:=2,to:=k,tx:=tx,ops:=aY u.ops k n}
  else if u.dec&&aX&& !u.bK.contains k then cA z {bq with kind:=4,to:=k,tx:=tx,yes:=u.yes}else z
theorem nO{n:Int}{u:gU}{tx:Int}{g:Bool}{z:ShR}{k:Int}(h:(aY u.ops k n).isEmpty=true):jB n u tx g z k=z:=by unfold jB;rw[aK h]
theorem BU{n:Int}{u:gU}{tx:Int}{g:Bool}{z:ShR}{k:Int}(h:¬ (aY u.ops k n).isEmpty=true)(hd:u.dec=false)(hv:(bP u k).isSome=false):jB n u tx g z k=cA z {bq with kind:=2,to:=k,tx:=tx,ops:=aY u.ops k n}:=by unfold jB;rw[aq h,hd,hv];rfl
theorem BV{n:Int}{u:gU}{tx:Int}{g:Bool}{z:ShR}{k:Int}(h:¬ (aY u.ops k n).isEmpty=true)(hd:u.dec=true)(hg:g=true)(hc:u.bK.contains k=false):jB n u tx g z k=cA z {bq with kind:=4,to:=k,tx:=tx,yes:=u.yes}:=by unfold jB;rw[aq h,hd,hg,hc];rfl
theorem ko{n:Int}{u:gU}{tx:Int}{g:Bool}{z:ShR}{k:Int}(h:¬ (aY u.ops k n).isEmpty=true)(h1:(!u.dec&& !(bP u k).isSome)=false)(h2:(u.dec&&g&& !u.bK.contains k)=false):jB n u tx g z k=z:=by unfold jB;rw[aq h,h1,h2];rfl
theorem zF{s:ShR}{t:dR}{i:Nat}{u:gU}{fd:Int}(ha:t.again=true)(h1:cX s.under t.tx=some i)(h2:s.under[i]? =some u)(hf:tW (bF s.log 2 t.tx)=fd):
  lA s t={gb s u.ops (λz k p=>
     if !u.dec&& !(bP u k).isSome then cA z {bq with kind:=2,to:=k,tx:=t.tx,ops:=p}
     else if u.dec&&decide (fd<s.aX)&& !u.bK.contains k then cA z {bq with kind:=4,to:=k,tx:=t.tx,yes:=u.yes}
     else z)with timers:=(gb s u.ops (λz k p=>
     if !u.dec&& !(bP u k).isSome then cA z {bq with kind:=2,to:=k,tx:=t.tx,ops:=p}
     else if u.dec&&decide (fd<s.aX)&& !u.bK.contains k then cA z {bq with kind:=4,to:=k,tx:=t.tx,yes:=u.yes}
     else z)).timers++[⟨(gb s u.ops (λz k p=>
     if !u.dec&& !(bP u k).isSome then cA z {bq with kind:=2,to:=k,tx:=t.tx,ops:=p}
     else if u.dec&&decide (fd<s.aX)&& !u.bK.contains k then cA z {bq with kind:=4,to:=k,tx:=t.tx,yes:=u.yes}
     else z)).clock+4,true,t.tx⟩]}:=by
 subst hf;unfold lA;rw[ha];simp only[h1,h2];cases bF s.log 2 t.tx<;>rfl
theorem Qm{I:HL}{b:Nat}{s:eX}{t:dR}(hI:u0 I s)(hb:L9 s):
  aB prog ao bG 164 #[.pointer (some ⟨b,0,none⟩),.agg #[az t.tm,.bool t.again,az t.tx]] [dp b s,a9 I] (tf b I (lA s.abs t)):=by
 refine aB.of λR C kd d F c cs aJ ai=>?_;refine bI ?_;have hn:=hb.n;have jV:=hb.log;have jg:=hb.out;have HS:=hb.under;have RH:=hb.timers;have uE:=hb.clock;have Y8:=hb.aX;refine bj ?_;refine C.bx rfl (λb3=>?_);refine dm ?_;refine C.pU (λu6=>?_) (λu6=>?_)
 ·refine cF ?_;refine C.cE (pB (s:=s) ak) ?_;refine sX ?_;refine C.cmp rfl (λsZ=>?_) (λsZ=>?_)
  ·refine bj ?_;obtain⟨r,hr⟩:=j7 sZ;have Cn:=zA hr;simp only[hr,tW];refine dp.opn (h:=λlg vl lk un tm wt ot=>?_);refine C.dx (cm 22 0 13) 13 [12] 0 ?_;refine Ta ?_;refine Ch.m 12 (aP λe aa hk=>?_);refine dp.cls s ?_;refine C.dk (kj (s:=s) (m:=⟨{bq with kind:=6,to:=s.log[r].home,tx:=t.tx},aG,aG⟩) ak) ?_;rintro v aO rfl;refine bI ?_;refine hk _ _ ?_;refine ee ?_;refine dp.opn (h:=λlg vl lk un tm wt ot=>?_);dsimp only[z5];refine C.dx (cm 35 0 17) 18 [13,14,17] 1 ?_;refine S8 ?_;refine Dr.p (λh=>C.ar rfl h (hr:=pq ak ak)) ?_;refine PI ?_;refine Ch.m 13 (aP λe aa hk=>?_);refine C.n5 rfl (λb48=>hk _ _ .cons ?_);refine Ch.m 14 (aP λe aa hk=>?_);refine C.oh (dR.mk (s.clock+3) false t.tx) rfl (λs5=>?_);refine hk _ _ ?_;refine Ch.m 17 (aP λe aa hk=>?_);refine C.st rfl (hk _ undef ?_);refine ee ?_;refine dp.cls {s with out:=s.out++[⟨{bq with kind:=6,aV:=s.me,to:=s.log[r].home,tx:=t.tx},aG,aG⟩],timers:=s.timers++[⟨s.clock+3,false,t.tx⟩]} ?_;refine C.a8 aJ ai ⟨I,{s with out:=s.out++[⟨{bq with kind:=6,aV:=s.me,to:=s.log[r].home,tx:=t.tx},aG,aG⟩],timers:=s.timers++[⟨s.clock+3,false,t.tx⟩]},Sub.refl _,⟨hI.log,hI.cq,hI.waits,(hI.vS (m:=⟨{bq with kind:=6,aV:=s.me,to:=s.log[r].home,tx:=t.tx},aG,aG⟩) ⟨.nil ..,.nil ..⟩).out⟩,?_,rfl⟩;have ha:t.again=false:=by simpa using u6
   unfold lA;rw[ha];simp only[hr,Cm,eQ];rw[gN Cn];simp[cA,eX.abs]
  ·refine bj ?_;refine C.a8 aJ ai ⟨I,s,Sub.refl _,hI,?_,rfl⟩;have ha:t.again=false:=by simpa using u6
   unfold lA;rw[ha];simp[kX sZ]
 ·refine C.go ?_;have hag:t.again=true:=by simpa using u6
  refine cN ?_;refine C.cE (nb (s:=s) ak) ?_;refine sX ?_;refine C.cmp rfl (λQh=>?_) (λQh=>?_)
  ·refine bj ?_;refine C.a8 aJ ai ⟨I,s,Sub.refl _,hI,?_,rfl⟩;unfold lA;rw[hag];simp[tY Qh]
  ·refine bj ?_;obtain⟨i,hu⟩:∃ i,cX s.abs.under t.tx=some i:=j7 ak;obtain⟨hi,G4⟩:=zB hu;have G8:=hb.zh _ (bC hi);have Vr:=G8.2.1;have Vd:=G8.2.2;have hul:=G8.1.2;have Vs:=hI.cq _ (bC hi);simp only[hu,tW];refine dp.opn (h:=λlg vl lk un tm wt ot=>?_);refine dV ?_;refine C.EO hi rfl ?_ (s:=un) (f:=qj);refine C.al rfl (λb6=>?_);refine C.po rfl ?_ (hv:=λv hv=>fM.one s.under[i] v (by simpa using hv));refine C.go ?_;refine At.turn (A:=bX b6 (.cells (wr #[az 0,.slice none 0 0,.slice none 0 0,.bool false,.bool false,.slice none 0 0] 0 (qj s.under[i])) 287 (0,0))) Fo.au (A':=bX b6 (.cells #[az s.under[i].tx,s.under[i].so.v,s.under[i].sv.v,.bool s.under[i].dec,.bool s.under[i].yes,s.under[i].sa.v] 287 (0,0))) (λ_ h=>h) ?_;refine dp.cls s ?_;refine cN ?_;refine C.cE (find_spec (s:=s) ak) ?_;refine jI ?_;have hfb:tW (bF s.abs.log 2 t.tx)<2^31:=by
    cases hf:bF s.abs.log 2 t.tx with
    |none=>decide
    |some d=>have:=xV hf;show(d:Int)<_;omega
   generalize hfd:tW (bF s.abs.log 2 t.tx)=fd at hfb;refine dp.opn (h:=λlg vl lk un tm wt ot=>?_);refine Dt hi Fo.au ?_;obtain⟨u,xW⟩:∃ u,u=s.under[i]:=⟨_,rfl⟩;rw[<- xW]at Vs Vd hul Vr G8⊢;refine da ?_;refine C.bS (X:=Nat×HL×ax×List cu) (λx=>[(0,.pointer (some ⟨b,0,none⟩)),(3,.pointer (some ⟨b3,0,none⟩)),(6,.pointer (some ⟨b6,0,none⟩)),(7,az fd),(8,az x.1)]) (λx=>bX b6 (.cells #[az u.tx,u.so.v,u.sv.v,.bool u.dec,.bool u.yes,u.sa.v] 287 (0,0))::bX b3 (.cells #[az t.tm,.bool t.again,az t.tx] 251 (0,0))::Kr b {s with out:=x.2.2.2} lg vl lk un tm wt x.2.2.1 s.under i u (a9 x.2.1::F))
    (λx=>(x.1:Int)<=s.n/\x.2.2.2.length<=s.out.length+x.1/\Sub I x.2.1/\(∀ w∈x.2.2.2,tS x.2.1 w)/\({s with out:=x.2.2.2}:eX).abs=((upto s.n).take x.1).foldl (jB s.n u.abs t.tx (decide (fd<s.aX))) s.abs) (λx=>(s.n-x.1).toNat) (0,I,ot,s.out) ⟨rfl,rfl,rfl,rfl,rfl,trivial⟩ ⟨cD,fI _,Sub.refl _,hI.out,rfl⟩ ?_
   rintro⟨k,I1,G9,W⟩ e ⟨hk,hW,rm,zE,gm⟩ ih;dsimp only at hk hW rm zE gm⊢;refine dV ?_;refine C.cmp rfl (λh74=>?_) (λh74=>?_)
   ·refine bj ?_;refine C.dx (cm 77 0 8++[(9,8)]) 9 [7,8] 0 ?_;refine Ng ?_;refine Ch.m 7 (aP λe aa hk=>?_);have PQ:(k:Int)<s.n:=h74;refine C.dk (vX (k:=k) (n:=s.n) (Vs.o.mono rm) G8.1.1 ak ak) ?_;rintro v aO ⟨s2,rfl,rfl⟩;refine bI ?_;refine hk _ _ ?_;refine Ch.q 8 (λh=>C.lh rfl h) ?_;refine S9 ?_;refine C.cE (ng (l:=u.aT) (k:=(k:Int)) ak) ?_;refine bI ?_;obtain⟨fr,sr,e1, -⟩:=kY Vs k;rw[e1];generalize Nn:(bP u.abs k).isSome=z;rcases fU z with rfl|rfl
    ·refine da ?_;refine C.al rfl (λVl=>?_);refine dV ?_;refine C.cE (pA (s:=u.sa) (l:=u.bK) (x:=k) ak) ?_;refine bI ?_;generalize TG:u.bK.contains (k:Int)=z;rcases fU z with rfl|rfl
     ·refine cF ?_;refine C.cmp rfl (λIF=>?_) (λIF=>?_)
      ·refine dV ?_;refine again ih (k+1,I1,G9,W) ⟨cD,cD,rm,zE,?_⟩ (cD);rw[dg ak,eO,<- gm];exact(nO (by rw[sF];exact Ad.1 (show(aY u.ops k s.n).length=0 by omega))).symm
      ·refine bj ?_;have eL:¬ (aY u.abs.ops k s.n).isEmpty=true:=λh=>IF (by rw[sF]at h;show((aY u.abs.ops k s.n).length:Int)=0;rw[h];rfl);refine da ?_;generalize sA:u.dec=z;rcases fU z with rfl|rfl
       ·refine jW ?_;refine fy ?_;refine C.cmp rfl (λwj=>?_) (λwj=>?_)
        ·refine oW ?_;refine again ih (k+1,I1,G9,W) ⟨cD,cD,rm,zE,?_⟩ (cD) (hr:=by rw[sA];exact bZ.au);rw[dg ak,eO,<- gm];exact(ko eL (by rw[show u.abs.dec=true from sA];rfl) (by rw[show u.abs.bK.contains (k:Int)=true from TG];simp)).symm
        ·refine oW ?_;refine again ih (k+1,I1,G9,W) ⟨cD,cD,rm,zE,?_⟩ (cD) (hr:=by rw[sA];exact bZ.au);rw[dg ak,eO,<- gm];exact(ko eL (by rw[show u.abs.dec=true from sA];rfl) (by rw[jD (show¬ fd<s.aX from wj)];simp)).symm
       ·refine jW ?_;refine oX ?_;refine again ih (k+1,I1,G9,W) ⟨cD,cD,rm,zE,?_⟩ (cD) (hr:=by rw[sA];exact bZ.au);rw[dg ak,eO,<- gm];exact(ko eL (by rw[Nn];simp) (by rw[show u.abs.dec=false from sA];rfl)).symm
     ·refine cF ?_;refine C.cmp rfl (λIF=>?_) (λIF=>?_)
      ·refine dV ?_;refine again ih (k+1,I1,G9,W) ⟨cD,cD,rm,zE,?_⟩ (cD);rw[dg ak,eO,<- gm];exact(nO (by rw[sF];exact Ad.1 (show(aY u.ops k s.n).length=0 by omega))).symm
      ·refine bj ?_;have eL:¬ (aY u.abs.ops k s.n).isEmpty=true:=λh=>IF (by rw[sF]at h;show((aY u.abs.ops k s.n).length:Int)=0;rw[h];rfl);refine da ?_;generalize sA:u.dec=z;rcases fU z with rfl|rfl
       ·refine jW ?_;refine fy ?_;refine C.cmp rfl (λwj=>?_) (λwj=>?_)
        ·refine jW ?_;refine C.dk (pJ (ot:=G9) (l:=W) (m:=⟨{bq with kind:=4,to:=k,tx:=t.tx,yes:=u.yes},aG,aG⟩) ak) ?_;rintro v aO ⟨XM,rfl⟩;refine Ec ?_;refine again ih (k+1,I1,XM,W++[⟨{bq with kind:=4,aV:=s.me,to:=k,tx:=t.tx,yes:=u.yes},aG,aG⟩]) ⟨cD,by simp;omega,rm,λw hw=>?_,?_⟩ (cD) (hr:=by rw[sA];exact bZ.au)
         ·rcases cg.1 hw with hw|hw
          ·exact zE w hw
          ·obtain rfl:=dN.1 hw;exact⟨.nil ..,.nil ..⟩
         ·rw[dg ak,eO,<- gm];refine yg ?_ (BV eL sA (sE wj) TG).symm;simp[cA,eX.abs,fV.abs]
        ·refine oW ?_;refine again ih (k+1,I1,G9,W) ⟨cD,cD,rm,zE,?_⟩ (cD) (hr:=by rw[sA];exact bZ.au);rw[dg ak,eO,<- gm];exact(ko eL (by rw[show u.abs.dec=true from sA];rfl) (by rw[jD (show¬ fd<s.aX from wj)];simp)).symm
       ·refine jW ?_;refine oX ?_;refine again ih (k+1,I1,G9,W) ⟨cD,cD,rm,zE,?_⟩ (cD) (hr:=by rw[sA];exact bZ.au);rw[dg ak,eO,<- gm];exact(ko eL (by rw[Nn];simp) (by rw[show u.abs.dec=false from sA];rfl)).symm
    ·refine da ?_;refine C.al rfl (λVl=>?_);refine dV ?_;refine C.cE (pA (s:=u.sa) (l:=u.bK) (x:=k) ak) ?_;refine bI ?_;generalize TG:u.bK.contains (k:Int)=z;rcases fU z with rfl|rfl
     ·refine cF ?_;refine C.cmp rfl (λIF=>?_) (λIF=>?_)
      ·refine dV ?_;refine again ih (k+1,I1,G9,W) ⟨cD,cD,rm,zE,?_⟩ (cD);rw[dg ak,eO,<- gm];exact(nO (by rw[sF];exact Ad.1 (show(aY u.ops k s.n).length=0 by omega))).symm
      ·refine bj ?_;have eL:¬ (aY u.abs.ops k s.n).isEmpty=true:=λh=>IF (by rw[sF]at h;show((aY u.abs.ops k s.n).length:Int)=0;rw[h];rfl);refine da ?_;generalize sA:u.dec=z;rcases fU z with rfl|rfl
       ·refine jW ?_;refine fy ?_;refine C.cmp rfl (λwj=>?_) (λwj=>?_)
        ·refine oW ?_;refine again ih (k+1,I1,G9,W) ⟨cD,cD,rm,zE,?_⟩ (cD) (hr:=by rw[sA];exact bZ.au);rw[dg ak,eO,<- gm];exact(ko eL (by rw[show u.abs.dec=true from sA];rfl) (by rw[show u.abs.bK.contains (k:Int)=true from TG];simp)).symm
        ·refine oW ?_;refine again ih (k+1,I1,G9,W) ⟨cD,cD,rm,zE,?_⟩ (cD) (hr:=by rw[sA];exact bZ.au);rw[dg ak,eO,<- gm];exact(ko eL (by rw[show u.abs.dec=true from sA];rfl) (by rw[jD (show¬ fd<s.aX from wj)];simp)).symm
       ·refine oX ?_;refine At.JS (s:=s2) (f:=gg) Fo.au Fo.au λI2 kT sK=>?_;refine C.dk (pJ (ot:=G9) (l:=W) (m:=⟨{bq with kind:=2,to:=k,tx:=t.tx,ops:=aY u.ops k s.n},s2,aG⟩) ak) ?_;rintro v aO ⟨XM,rfl⟩;refine bI ?_;refine jW ?_;refine jL ?_;refine again ih (k+1,I2,XM,W++[⟨{bq with kind:=2,aV:=s.me,to:=k,tx:=t.tx,ops:=aY u.ops k s.n},s2,aG⟩]) ⟨cD,by simp;omega,rm.trans kT,λw hw=>?_,?_⟩ (cD) (hr:=by rw[sA];exact bZ.au)
        ·rcases cg.1 hw with hw|hw
         ·exact(zE w hw).mono kT
         ·obtain rfl:=dN.1 hw;exact⟨sK,.nil ..⟩
        ·rw[dg ak,eO,<- gm];refine yg ?_ (BU eL sA Nn).symm;simp[cA,eX.abs,fV.abs]
     ·refine cF ?_;refine C.cmp rfl (λIF=>?_) (λIF=>?_)
      ·refine dV ?_;refine again ih (k+1,I1,G9,W) ⟨cD,cD,rm,zE,?_⟩ (cD);rw[dg ak,eO,<- gm];exact(nO (by rw[sF];exact Ad.1 (show(aY u.ops k s.n).length=0 by omega))).symm
      ·refine bj ?_;have eL:¬ (aY u.abs.ops k s.n).isEmpty=true:=λh=>IF (by rw[sF]at h;show((aY u.abs.ops k s.n).length:Int)=0;rw[h];rfl);refine da ?_;generalize sA:u.dec=z;rcases fU z with rfl|rfl
       ·refine jW ?_;refine fy ?_;refine C.cmp rfl (λwj=>?_) (λwj=>?_)
        ·refine jW ?_;refine C.dk (pJ (ot:=G9) (l:=W) (m:=⟨{bq with kind:=4,to:=k,tx:=t.tx,yes:=u.yes},aG,aG⟩) ak) ?_;rintro v aO ⟨XM,rfl⟩;refine Ec ?_;refine again ih (k+1,I1,XM,W++[⟨{bq with kind:=4,aV:=s.me,to:=k,tx:=t.tx,yes:=u.yes},aG,aG⟩]) ⟨cD,by simp;omega,rm,λw hw=>?_,?_⟩ (cD) (hr:=by rw[sA];exact bZ.au)
         ·rcases cg.1 hw with hw|hw
          ·exact zE w hw
          ·obtain rfl:=dN.1 hw;exact⟨.nil ..,.nil ..⟩
         ·rw[dg ak,eO,<- gm];refine yg ?_ (BV eL sA (sE wj) TG).symm;simp[cA,eX.abs,fV.abs]
        ·refine oW ?_;refine again ih (k+1,I1,G9,W) ⟨cD,cD,rm,zE,?_⟩ (cD) (hr:=by rw[sA];exact bZ.au);rw[dg ak,eO,<- gm];exact(ko eL (by rw[show u.abs.dec=true from sA];rfl) (by rw[jD (show¬ fd<s.aX from wj)];simp)).symm
       ·refine oX ?_;refine At.JS (s:=s2) (f:=gg) Fo.au Fo.au λI2 kT sK=>?_;refine C.dk (pJ (ot:=G9) (l:=W) (m:=⟨{bq with kind:=2,to:=k,tx:=t.tx,ops:=aY u.ops k s.n},s2,aG⟩) ak) ?_;rintro v aO ⟨XM,rfl⟩;refine bI ?_;refine jW ?_;refine jL ?_;refine again ih (k+1,I2,XM,W++[⟨{bq with kind:=2,aV:=s.me,to:=k,tx:=t.tx,ops:=aY u.ops k s.n},s2,aG⟩]) ⟨cD,by simp;omega,rm.trans kT,λw hw=>?_,?_⟩ (cD) (hr:=by rw[sA];exact bZ.au)
        ·rcases cg.1 hw with hw|hw
         ·exact(zE w hw).mono kT
         ·obtain rfl:=dN.1 hw;exact⟨sK,.nil ..⟩
        ·rw[dg ak,eO,<- gm];refine yg ?_ (BU eL sA Nn).symm;simp[cA,eX.abs,fV.abs]
   ·refine bj ?_;have PQ:¬ (k:Int)<s.n:=h74;rw[oZ ak]at gm;dsimp only[Kr];refine C.dx (cm 134 0 17) 18 [13,14,17] 1 ?_;refine S8 ?_;refine Dr.p (λh=>C.ar rfl h (hr:=pq ak ak)) ?_;refine PI ?_;refine Ch.m 13 (aP λe aa hk=>?_);refine C.n5 rfl (λai6=>hk _ _ .cons ?_);refine Ch.m 14 (aP λe aa hk=>?_);refine C.oh (dR.mk (s.clock+4) true t.tx) rfl (λs5=>?_);refine hk _ _ ?_;refine Ch.m 17 (aP λe aa hk=>?_);refine C.st rfl (hk _ undef ?_);refine ee ?_;refine Du (us:=s.under) hi u dJ.au ?_;rw[xW,l9];refine dp.cls {s with out:=W,timers:=s.timers++[⟨s.clock+4,true,t.tx⟩]} ?_;refine C.cQ aJ ai ⟨I1,{s with out:=W,timers:=s.timers++[⟨s.clock+4,true,t.tx⟩]},rm,⟨λx hx=>(hI.log x hx).mono rm,λx hx=>(hI.cq x hx).mono rm,λx hx=>(hI.waits x hx).mono rm,zE⟩,?_,rfl⟩;have e1:gb s.abs u.abs.ops (λz k p=>
      if !u.abs.dec&& !(bP u.abs k).isSome then cA z {bq with kind:=2,to:=k,tx:=t.tx,ops:=p}
      else if u.abs.dec&&decide (fd<s.aX)&& !u.abs.bK.contains k then cA z {bq with kind:=4,to:=k,tx:=t.tx,yes:=u.abs.yes}
      else z)=({s with out:=W}:eX).abs:=gm.symm
    rw[<- xW]at G4;rw[zF hag hu G4 hfd,show s.abs.aX=s.aX from rfl,e1];rfl
structure Qn(s:ShR):Prop where
 n:0<s.n/\s.n<=4
 log:s.log.length<2^30
 tQ:∀ r∈s.log,iX r.ops
 aX:0<=s.aX/\s.aX<=s.log.length
 bH:s.bH.length=26
 aH:s.aH.length<2^30
 under:s.under.length<2^30
 zh:∀ u∈s.under,iX u.ops/\u.aT.length<2^30/\u.bK.length<2^42
 timers:s.timers.length<2^30
 waits:s.waits.length<2^30
 out:s.out.length<2^30
 clock:0<=s.clock/\s.clock<2^60
theorem Qn.v{s:eX}(h:Qn s.abs):L9 s:=
 ⟨h.n,by have:=h.log;simpa[eX.abs]using this,λr hr=>h.tQ r.toRecR (bL.2 ⟨r,hr,rfl⟩),by have:=h.aX;simpa[eX.abs]using this,h.bH,h.aH,by have:=h.under;simpa[eX.abs]using this,
  λu hu=>by have:=h.zh u.abs (bL.2 ⟨u,hu,rfl⟩);simpa[fV.abs]using this,h.timers,by have:=h.waits;simpa[eX.abs]using this,by have:=h.out;simpa[eX.abs]using this,h.clock⟩
theorem Kt{n:Int}{u:gU}{tx:Int}{g:Bool}:∀ (l:List Int) (z:ShR),∃ o,l.foldl (jB n u tx g) z={z with out:=z.out++o}/\o.length<=l.length
 |[],z=>⟨[],by simp,fI _⟩
 |k::l,z=>by
  have h1:∃ o,jB n u tx g z k={z with out:=z.out++o}/\o.length<=1:=by
   unfold jB;split
   ·exact⟨[],by simp,by simp⟩
   ·split
    ·exact⟨[_],rfl,fI _⟩
    ·split
     ·exact⟨[_],rfl,fI _⟩
     ·exact⟨[],by simp,by simp⟩
  obtain⟨o,e,h⟩:=h1;obtain⟨o2,e2,h2⟩:=Kt l (jB n u tx g z k);refine⟨o++o2,?_,by simp;omega⟩;rw[ks,e2,e];simp
theorem zG(r:ShR)(t:dR):∃ o tl,lA r t={r with out:=r.out++o,timers:=r.timers++tl}/\o.length<=r.n.toNat+1/\tl.length<=1/\∀ x∈tl,r.clock<x.tm:=by
 cases ha:t.again with
 |false=>
  unfold lA;rw[ha];simp only[Cm,eQ];cases bJ r.log t.tx with
  |none=>exact⟨[],[],by simp,by simp,by simp,by simp⟩
  |some q=>exact⟨[_],[_],rfl,by simp,by simp,λx hx=>by obtain rfl:=dN.1 hx;show r.clock<r.clock+3;omega⟩
 |true=>
  cases hu:cX r.under t.tx with
  |none=>exact⟨[],[],by unfold lA;rw[ha];simp[hu],by simp,by simp,by simp⟩
  |some i=>
   cases G4:r.under[i]? with
   |none=>exact⟨[],[],by unfold lA;rw[ha];simp[hu,G4],by simp,by simp,by simp⟩
   |some u=>
    rw[zF ha hu G4 rfl];obtain⟨o,e,h⟩:=Kt (n:=r.n) (u:=u) (tx:=t.tx) (g:=decide (tW (bF r.log 2 t.tx)<r.aX)) (upto r.n) r;have e1:gb r u.ops (λz k p=>
     if !u.dec&& !(bP u k).isSome then cA z {bq with kind:=2,to:=k,tx:=t.tx,ops:=p}
     else if u.dec&&decide (tW (bF r.log 2 t.tx)<r.aX)&& !u.bK.contains k then cA z {bq with kind:=4,to:=k,tx:=t.tx,yes:=u.yes}
     else z)={r with out:=r.out++o}:=e
    rw[e1];exact⟨o,[_],rfl,(by have h9:(upto r.n).length=r.n.toNat:=(by simp[upto]);omega),by simp,λx hx=>by obtain rfl:=dN.1 hx;show r.clock<r.clock+4;omega⟩
theorem wm{c:Int}{L:List dR}:∀ (l:List dR) (i:Nat) (acc:Option (Nat×dR)),(∀ p,acc=some p->L[p.1]? =some p.2/\p.2.tm<=c)->L.drop i=l->∀ p,jS c l i acc=some p->L[p.1]? =some p.2/\p.2.tm<=c
 |[],i,acc,h,_,p,hp=>h p hp
 |t::l,i,acc,h,hl,p,hp=>by
  unfold jS at hp;have hi:L[i]? =some t:=by have h0:(L.drop i)[0]? =L[i]? :=(by simp);rw[hl]at h0;exact h0.symm
  refine wm l (i+1) _ (λq hq=>?_) ?_ p hp
  ·cases acc with
   |none=>
    simp only[Bool.and_true,nD]at hq;split at hq
    ·rename_i hc;cases hq;exact⟨hi,hc⟩
    ·cases hq
   |some w=>
    simp only[j8,nD]at hq;split at hq
    ·rename_i hc;cases hq;exact⟨hi,hc.1⟩
    ·exact h q hq
  ·rw[<- NJ,hl];rfl
theorem Gj{r:ShR}{k:Nat}{t:dR}(hk:r.timers[k]? =some t)(ht:t.tm<=r.clock):sk (lA {r with timers:=r.timers.eraseIdx k} t)+1=sk r:=by
 obtain⟨o,tl,e, -, -,h⟩:=zG {r with timers:=r.timers.eraseIdx k} t;rw[e];unfold sk;dsimp only;have h0:tl.filter (λt=>decide (t.tm<=r.clock))=[]:=List.filter_eq_nil_iff.2 λx hx=>by have h1:r.clock<x.tm:=h x hx;simp;omega
 rw[nE,h0,lK];obtain⟨yU,rfl⟩:=jC.1 hk;have hp:=(oO yU).filter (λt=>decide (t.tm<=r.clock));rw[hp.length_eq,uy,aK (by simpa using ht)];rfl
structure rp(r:ShR):Prop where
 b:Qn r
 o:r.out.length+5*sk r<2^30
theorem rp.off{r:ShR}{k:Nat}{t:dR}(h:rp r)(hk:r.timers[k]? =some t)(ht:t.tm<=r.clock):rp (lA {r with timers:=r.timers.eraseIdx k} t):=by
 have h1:=Gj hk ht;have h2:=h.o;have h3:=h.b.n;obtain⟨yU,_⟩:=jC.1 hk;obtain⟨o,tl,e,ho,PW,_⟩:=zG {r with timers:=r.timers.eraseIdx k} t;have ho:o.length<=r.n.toNat+1:=ho;rw[e]at h1⊢;have RH:=h.b.timers;refine⟨⟨h.b.n,h.b.log,h.b.tQ,h.b.aX,h.b.bH,h.b.aH,h.b.under,h.b.zh,?_,h.b.waits,?_,h.b.clock⟩,?_⟩
 ·simp only[ji,Ew,yU,eQ];omega
 ·have h5:=h.o;show(r.out++o).length<_;rw[ji];omega
 ·show(r.out++o).length+5*sk _<_;rw[ji];omega
def dq(L:List dR)(o:Option Nat):Option (Nat×dR):=o.bind λq=>L[q]?.map λt=>(q,t)
theorem Mh{c:Int}{L:List dR}{i:Nat}(hi:i<L.length)(acc:Option (Nat×dR)):jS c (L.drop i) i acc=jS c (L.drop (i+1)) (i+1) (if decide (L[i].tm<=c)&&(match acc with|none=>true|some (_,u)=>decide (L[i].tm<u.tm))then some (i,L[i])else acc):=by rw[i7 hi];rfl
theorem vm{L:List dR}{q:Nat}(hq:q<L.length):dq L (some q)=some (q,L[q]):=by simp[dq,hq]
theorem Mi{I:HL}{b:Nat}{s:eX}(hI:u0 I s)(hb:rp {s.abs with clock:=s.clock+1}):
  aB prog ao bG 117 #[.pointer (some ⟨b,0,none⟩)] [dp b s,a9 I] (tf b I (qM s.abs)):=by
 refine aB.of λR C kd d F c cs aJ ai=>?_;refine bI ?_;have uE:=hb.b.clock;have uE:0<=s.clock+1/\s.clock+1<2^60:=uE;refine dp.opn (h:=λlg vl lk un tm wt ot=>?_);refine dm ?_;refine C.ar rfl ?_ (hr:=pq ak ak);refine cN ?_;refine dp.cls {s with clock:=s.clock+1} ?_;refine C.bS (X:=HL×eX) (λx=>[(0,.pointer (some ⟨b,0,none⟩))]) (λx=>dp b x.2::a9 x.1::F) (λx=>Sub I x.1/\u0 x.1 x.2/\rp x.2.abs/\qM s.abs=iO (sk x.2.abs+1) x.2.abs) (λx=>sk x.2.abs) (I,{s with clock:=s.clock+1}) ⟨rfl,trivial⟩ ⟨Sub.refl _,⟨hI.log,hI.cq,hI.waits,hI.out⟩,hb,rfl⟩ ?_;rintro⟨I1,s1⟩ e ⟨rm,fD,Y4,zH⟩ ih;dsimp only at rm fD Y4 zH⊢;clear hb uE;have zV:=Y4.b.v;have RH:=zV.timers;refine dp.opn (h:=λlg vl lk un tm wt ot=>?_);refine dV ?_;refine C.bS (X:=Nat×Option Nat) (λx=>[(0,.pointer (some ⟨b,0,none⟩)),(2,az (tW x.2)),(3,az x.1)]) (λ_=>z5 b s1 lg vl lk un tm wt ot (a9 I1::F)) (λx=>x.1<=s1.timers.length/\(∀ q,x.2=some q->q<s1.timers.length)/\jS s1.clock s1.timers 0 none=jS s1.clock (s1.timers.drop x.1) x.1 (dq s1.timers x.2)) (λx=>s1.timers.length-x.1) (0,none) ⟨rfl,rfl,rfl,trivial⟩ (And.intro (eC _) (And.intro (λq (h:(none:Option Nat)=some q)=>nomatch h) rfl)) ?_;rintro⟨i,q⟩ e ⟨hi,hq,hd⟩ z8;dsimp only at hi hq hd⊢;refine jL ?_;refine C.cmp rfl (λxz=>?_) (λxz=>?_)
 ·refine bj ?_;have cG:i<s1.timers.length:=by simpa using xz
  rw[Mh cG]at hd;by_cases Ge:s1.timers[i].tm<=s1.clock
  ·obtain rfl|⟨q',rfl,rZ⟩:q=none\/∃ q',q=some q'/\q'<s1.timers.length:=by
    cases q with
    |none=>exact .inl rfl
    |some q'=>exact .inr ⟨q',rfl,hq q' rfl⟩
   ·refine C.dx (cm 22 0 36) 36 [] 0 ?_;refine gY ?_;refine jy ?_;refine Dr.p (λh=>C.eE rfl h (hf:=Ge)) ?_;refine jy ?_;refine Dr.p (λh=>C.eE rfl h) ?_;refine gY ?_;refine gY ?_;refine Dr.chain rfl ?_;refine Ch.fin ?_;refine k7 ?_;refine again z8 (i+1,some i) ⟨cG,by intro q h;cases h;exact cG,?_⟩ (cD);rw[hd,aK (by simp[dq,Ge]),vm cG]
   ·by_cases Zk:s1.timers[i].tm<s1.timers[q'].tm
    ·refine C.dx (cm 22 0 36) 36 [] 0 ?_;refine gY ?_;refine jy ?_;refine Dr.p (λh=>C.eE rfl h (hf:=Ge)) ?_;refine jy ?_;refine Dr.p (λh=>C.du rfl h (hf:=Int.not_lt.2 (Eu _))) ?_;refine gY ?_;refine mB ?_;refine Dr.p (λh=>C.eE rfl h (hf:=Zk)) ?_;refine xr ?_;refine Ch.fin ?_;refine k7 ?_;refine again z8 (i+1,some i) ⟨cG,by intro q h;cases h;exact cG,?_⟩ (cD);rw[hd,vm rZ,aK (by simp[Ge,Zk]),vm cG]
    ·refine C.dx (cm 22 0 36) 36 [] 0 ?_;refine gY ?_;refine jy ?_;refine Dr.p (λh=>C.eE rfl h (hf:=Ge)) ?_;refine jy ?_;refine Dr.p (λh=>C.du rfl h (hf:=Int.not_lt.2 (Eu _))) ?_;refine gY ?_;refine mB ?_;refine Dr.p (λh=>C.du rfl h (hf:=Zk)) ?_;refine xr ?_;refine Lt ?_;refine again z8 (i+1,some q') ⟨cG,hq,?_⟩ (cD);rw[hd,vm rZ,aq (by simp[Zk])]
  ·refine C.dx (cm 22 0 36) 36 [] 0 ?_;refine gY ?_;refine jy ?_;refine Dr.p (λh=>C.du rfl h (hf:=Ge)) ?_;refine gY ?_;refine gY ?_;refine qs ?_;refine Dr.chain rfl ?_;refine Lt ?_;refine again z8 (i+1,q) ⟨cG,hq,?_⟩ (cD);rw[hd,aq (by simp[Ge])]
 ·refine bj ?_;have Lw:s1.timers.drop i=[]:=qy (by simp at xz;omega);rw[Lw,jS]at hd;refine bj ?_;refine C.cmp rfl (λh60=>?_) (λh60=>?_)
  ·refine bj ?_;have RO:=tY h60;subst RO;refine dp.cls s1 ?_;refine C.a8 aJ ai ⟨I1,s1,rm,fD,?_,rfl⟩;rw[zH,iO];have hd:jS s1.abs.clock s1.abs.timers 0 none=none:=hd;rw[hd]
  ·refine bj ?_;obtain⟨k,rfl⟩:=j7 (o:=q) ak;have yU:=hq k rfl;rw[vm yU]at hd;simp only[tW];refine At.xl (A:=aW su 3 251 tm s1.timers) Fo.au (qL ak) λ⟨D9,Vq,hk5⟩=>?_;refine dV ?_;refine C.EO yU rfl ?_ (s:=tm) (f:=su);refine C.al rfl (λb4=>?_);refine C.po rfl ?_ (hv:=λv hv=>fM.one s1.timers[k] v (by simpa using hv));refine C.go ?_;refine At.turn (A:=bX b4 (.cells (wr #[az 0,.bool false,az 0] 0 (su s1.timers[k])) 251 (0,0))) Fo.au (A':=bX b4 (.cells #[az s1.timers[k].tm,.bool s1.timers[k].again,az s1.timers[k].tx] 251 (0,0))) (λ_ h=>h) ?_;refine At.aG su 3 251 ?_;refine i6 ?_;refine C.Wn rfl ?_ (hi:=(k:Int)) (hh:=by constructor<;>omega);refine C.EP (f:=su) (s:=aG) (l:=[]) (s1.timers.take k) rfl (λs7=>?_) (hsrc:=λH st=>?_) (hsz:=by simp only[uv,iz];omega)
   rotate_left
   ·show lj bG H 3 _ (.slice tm.a k tm.cap) _;have e1:(s1.timers.take k).length=k:=by rw[iz];omega
    rw[e1];have h:=dF.K7 (B:=bG) (f:=su) (el:=251) (s:=tm) (l:=s1.timers) (.own Fo.au) st (λ_=>rfl) 0 k ak tm.cap tm.a (λ_=>by rw[D9,KN]) (λ_=>.inr ⟨0,D9,by intro z;rw[z]at yU;simp at yU,ak⟩)
    rwa[Ac]at h
   refine k7 ?_;refine C.Z7 rfl ?_ (hx:=by show Value.slice tm.a tm.len tm.cap=_;rw[D9,Vq]) (lo:=((k+1:Nat):Int)) (hh:=by constructor<;>omega);refine C.EP (f:=su) (s:=s7) (l:=[]++s1.timers.take k) (s1.timers.drop (k+1)) rfl (λs8=>?_) (hsrc:=λH st=>?_) (hsz:=by simp only[eZ,uw,iz];omega)
   rotate_left
   ·show lj bG H 3 _ (.slice (some (if tm.cap=k+1 then⟨tm.b,0,none⟩else⟨tm.b,0+(k+1)*3,none⟩)) (s1.timers.length-(k+1)) (tm.cap-(k+1))) _;have e1:(s1.timers.drop (k+1)).length=s1.timers.length-(k+1):=by rw[uw]
    rw[e1];have h:=dF.K7 (B:=bG) (f:=su) (el:=251) (s:=tm) (l:=s1.timers) (.own Fo.au) st (λ_=>rfl) (k+1) (s1.timers.length-(k+1)) ak (tm.cap-(k+1)) (some (if tm.cap=k+1 then⟨tm.b,0,none⟩else⟨tm.b,0+(k+1)*3,none⟩)) (λhm=>by rw[aq ak];simp) (λ_=>.inr (by
     by_cases hc:tm.cap=k+1
     ·exact⟨0,by rw[aK hc],by intro z;rw[z]at yU;simp at yU,ak⟩
     ·exact⟨(k+1)*3,by rw[aq hc];simp,by intro z;rw[z]at yU;simp at yU,ak⟩))
    rwa[g5 (by rw[uw];exact fI _)]at h
   refine cN ?_;have Av:[]++s1.timers.take k++s1.timers.drop (k+1)=s1.timers.eraseIdx k:=by rw[eZ,<- yc]
   rw[Av];refine dp.cls {s1 with timers:=s1.timers.eraseIdx k} ?_ (tm:=s8);obtain⟨hk6,hk7⟩:=wm (L:=s1.timers) s1.timers 0 none (by intro p hp;cases hp) rfl (k,s1.timers[k]) hd;have hT2:=Y4.off (k:=k) (t:=s1.timers[k]) hk6 hk7;have Y5:=Gj (r:=s1.abs) (k:=k) (t:=s1.timers[k]) hk6 hk7;refine da ?_;refine C.dk (Qm (s:={s1 with timers:=s1.timers.eraseIdx k}) (t:=s1.timers[k]) ⟨fD.log,fD.cq,fD.waits,fD.out⟩ ⟨zV.n,zV.log,zV.tQ,zV.aX,zV.bH,zV.aH,zV.under,zV.zh,by show(s1.timers.eraseIdx k).length<_;rw[Ew];split<;>omega,zV.waits,zV.out,zV.clock⟩) ?_;rintro v aO ⟨I2,s2,Dw,kT,Nq,rfl⟩;refine k8 ?_;have Nq:s2.abs=lA {s1.abs with timers:=s1.abs.timers.eraseIdx k} s1.timers[k]:=Nq;rw[<- Nq]at hT2 Y5;refine again ih (I2,s2) ⟨rm.trans Dw,kT,hT2,?_⟩ (cD);rw[zH,iO];have hd:jS s1.abs.clock s1.abs.timers 0 none=some (k,s1.timers[k]):=hd;rw[hd,<- Y5,Nq]
abbrev nB(s:eX)(V:List Int)(L:List gz)(T:List dR):eX:={s with up:=true,bH:=V,aH:=L,under:=[],timers:=T,waits:=[],clock:=0}
theorem Gk{log:List RecR}{i:Nat}{z:ShR}{r:RecR}(h:log[i]? =some r)(hk:r.kind=1):dL log (i+1) z={dL log i z with aH:=jl (dL log i z).aH r.tx r.ops}:=by rw[dL];simp only[h,aK hk]
theorem Gl{log:List RecR}{i:Nat}{z:ShR}{r:RecR}(h:log[i]? =some r)(h1:¬ r.kind=1)(h3:¬ r.kind=3):dL log (i+1) z=dL log i z:=by rw[dL];simp only[h,aq h1,aq h3]
theorem BW{log:List RecR}{i:Nat}{z:ShR}{r:RecR}(h:log[i]? =some r)(h3:r.kind=3)(hn:r.yes=false\/findD log 1 r.tx i=none):dL log (i+1) z={dL log i z with aH:=iV (dL log i z).aH r.tx}:=by
 rw[dL];simp only[h,aK h3,aq (show¬ r.kind=1 by omega),JW];cases hf:findD log 1 r.tx i with
 |none=>rfl
 |some p=>
  have hy:r.yes=false:=hn.resolve_right (by rw[hf];simp);simp only[hy];rfl
theorem IG{log:List RecR}{i p:Nat}{z:ShR}{r q:RecR}(h:log[i]? =some r)(h3:r.kind=3)(hy:r.yes=true)(hf:findD log 1 r.tx i=some p)(hp:log[p]? =some q):dL log (i+1) z={dL log i z with bH:=eH (dL log i z).bH q.ops,aH:=iV (dL log i z).aH r.tx}:=by rw[dL];simp only[h,aK h3,aq (show¬ r.kind=1 by omega),JW,hf,hy,hp];rfl
theorem BX{log:List RecR}{k tx:Int}:∀ {i p:Nat},findD log k tx i=some p->p<i
 |0,p,h=>by cases h
 |i+1,p,h=>by
  unfold findD at h;split at h
  ·cases h;omega
  ·have:=BX h;omega
theorem wq(L:List gz)(tx:Int):(iV L tx).length<=L.length:=pN ..
theorem BZ{log:List RecR}{k:Nat}(hk:(k:Int)<60):((((upto 60).take (k+1)).filter λtx=>(bJ log tx).isSome).map λtx=>dR.mk 3 false tx)=(((upto 60).take k).filter λtx=>(bJ log tx).isSome).map (λtx=>dR.mk 3 false tx)++(if(bJ log k).isSome then[dR.mk 3 false k]else[]):=by rw[dg hk,nE,eI,uy];split<;>simp
theorem Dx{I:HL}{b:Nat}{s:eX}(hI:u0 I s)(hb:L9 s)(hl:s.log.length<=2^12):
  aB prog ao bG 115 #[.pointer (some ⟨b,0,none⟩)] [dp b s,a9 I] (tf b I (dU s.abs)):=by
 refine aB.of λR C kd d F c cs aJ ai=>?_;refine bI ?_;refine dp.opn (h:=λlg vl lk un tm wt ot=>?_);refine dV ?_;refine dp.cls {s with up:=true} ?_;refine bj ?_;refine C.dk (q8 (s:={s with up:=true})) ?_;rintro v aO rfl;refine bI ?_;refine At.turn (A:=dp b {{s with up:=true}with bH:=il,aH:=[],under:=[],timers:=[],waits:=[],clock:=0}) (A':=dp b (nB s il [] [])) Fo.au (λ_ h=>h) ?_;refine cN ?_;refine C.bS (X:=Nat×List Int×List gz) (λx=>[(0,.pointer (some ⟨b,0,none⟩)),(2,az x.1)]) (λx=>dp b (nB s x.2.1 x.2.2 [])::a9 I::F) (λx=>x.1<=s.log.length/\x.2.1.length=26/\x.2.2.length<=x.1*2^20/\(nB s x.2.1 x.2.2 []).abs=dL s.abs.log x.1 (eR {s.abs with up:=true})) (λx=>s.log.length-x.1) (0,il,[]) ⟨rfl,rfl,trivial⟩ (And.intro (eC _) (And.intro rfl (And.intro (eC _) rfl))) ?_;rintro⟨i,V,L⟩ e ⟨hi,hV,hL,zH⟩ ih;dsimp only at hi hV hL zH⊢;refine C.go ?_;refine dp.opn (h:=λlg vl lk un tm wt ot=>?_);dsimp only[z5,nB];refine dV ?_;refine C.cmp rfl (λxz=>?_) (λxz=>?_)
 ·refine bj ?_;have cG:i<s.log.length:=by simpa using xz
  have cJ:=hb.tQ _ (bC cG);have hrI:=hI.log _ (bC cG);refine dV ?_;refine C.EO cG rfl ?_ (s:=lg) (f:=recC);refine C.al rfl (λb3=>?_);refine C.po rfl ?_ (hv:=λv hv=>fM.one s.log[i] v (by simpa using hv));refine C.go ?_;refine At.turn (A:=bX b3 (.cells (wr #[az 0,az 0,.bool false,az 0,.slice none 0 0,.slice none 0 0] 0 (recC s.log[i])) 247 (0,0))) Fo.au (A':=bX b3 (.cells #[az s.log[i].kind,az s.log[i].tx,.bool s.log[i].yes,az s.log[i].home,s.log[i].so.v,s.log[i].sr.v] 247 (0,0))) (λ_ h=>h) ?_;refine cF ?_;refine C.cmp rfl (λNp=>?_) (λNp=>?_)
  ·refine ky ?_;refine dp.cls (nB s V L []) ?_;refine C.dk (BE (s:=nB s V L []) (tx:=s.log[i].tx) hrI.o (by have:=cJ.2;omega) (by show L.length<_;have:=tu (2^20) (show i<=2^12 by omega);omega)) ?_;rintro v aO rfl;refine Ec ?_;refine again ih (i+1,V,jl L s.log[i].tx s.log[i].ops) ⟨cG,hV,by dsimp only;simp only[jl,ji,dd];have:=cJ.2;omega,?_⟩ (cD);rw[Gk (gN cG) Np,<- zH];rfl
  ·refine cN ?_;refine C.cmp rfl (λHJ=>?_) (λHJ=>?_)
   ·refine ky ?_;refine C.bS (X:=Nat×Option Nat) (λx=>[(0,.pointer (some ⟨b,0,none⟩)),(2,az i),(3,.pointer (some ⟨b3,0,none⟩)),(4,az (tW x.2)),(5,az x.1)]) (λ_=>bX b3 _::z5 b (nB s V L []) lg vl lk un tm wt ot (a9 I::F)) (λx=>x.1<=i/\x.2=findD s.abs.log 1 s.log[i].tx x.1) (λx=>i-x.1) (0,none) ⟨rfl,rfl,rfl,rfl,rfl,trivial⟩ (And.intro (eC _) rfl) ?_;rintro⟨j,q⟩ e ⟨hj,hq⟩ ih5;dsimp only[z5,nB]at hj hq⊢;refine cN ?_;refine C.cmp rfl (λC8=>?_) (λC8=>?_)
    ·refine bj ?_;have Te:j<i:=by simpa using C8
     have Ln:j<s.log.length:=ak;by_cases LK:s.log[j].kind=1
     ·by_cases RP:s.log[j].tx=s.log[i].tx
      ·refine C.dx (cm 46 0 22) 22 [] 0 ?_;refine Eb ?_;refine Dr.p (λh=>C.eE rfl h (hf:=LK)) ?_;refine gY ?_;refine k6 ?_;refine Dr.p (λh=>C.eE rfl h (hf:=RP)) ?_;refine wS ?_;refine Ch.fin ?_;refine k7 ?_;refine again ih5 (j+1,some j) ⟨Te,?_⟩ (cD);rw[findD,gN Ln,aK (by simp[isRec,LK,RP])]
      ·refine C.dx (cm 46 0 22) 22 [] 0 ?_;refine Eb ?_;refine Dr.p (λh=>C.eE rfl h (hf:=LK)) ?_;refine gY ?_;refine k6 ?_;refine Dr.p (λh=>C.du rfl h (hf:=RP)) ?_;refine wS ?_;refine Lt ?_;refine again ih5 (j+1,q) ⟨Te,?_⟩ (cD);rw[findD,gN Ln,aq (by simp[isRec,LK,RP]),hq]
     ·refine C.dx (cm 46 0 22) 22 [] 0 ?_;refine Eb ?_;refine Dr.p (λh=>C.du rfl h (hf:=LK)) ?_;refine Lv ?_;refine Lt ?_;refine again ih5 (j+1,q) ⟨Te,?_⟩ (cD);rw[findD,gN Ln,aq (by simp[isRec,LK]),hq]
    ·refine bj ?_;have C3:j=i:=by have:¬ j<i:=(by simpa using C8);omega
     subst C3;refine da ?_;generalize hy:s.log[j].yes=z;rcases fU z with rfl|rfl
     ·refine bj ?_;refine C.cmp rfl (λh73=>?_) (λh73=>?_)
      ·refine da ?_;obtain⟨p,rfl⟩:=j7 h73;have hpf:findD s.abs.log 1 s.log[j].tx j=some p:=hq.symm;have xn:p<s.log.length:=by have:=BX hpf;omega
       have hpo:=hb.tQ _ (bC xn);simp only[tW];refine dV ?_;refine C.dT rfl ?_ (l:=s.log) (j:=p);refine bj ?_;refine dp.cls (nB s V L []) ?_;refine C.dk (ze (s:=nB s V L []) (hI.log _ (bC xn)).o hpo.1 hV (by have:=hpo.2;omega)) ?_;rintro v aO rfl;refine sY ?_;refine C.dk (free_spec (s:=nB s (eH V s.log[p].ops) L []) (tx:=s.log[j].tx) (by show L.length<_;have:=tu (2^20) (show j<=2^12 by omega);omega)) ?_;rintro v aO rfl;refine Ec ?_;refine again ih (j+1,eH V s.log[p].ops,iV L s.log[j].tx) ⟨cG,by dsimp only;rw[tJ];exact hV,by have:=wq L s.log[j].tx;dsimp only;omega,?_⟩ (cD);rw[IG (gN cG) HJ hy hpf (gN xn),<- zH];rfl
      ·refine dV ?_;refine dp.cls (nB s V L []) ?_;refine C.dk (free_spec (s:=nB s V L []) (tx:=s.log[j].tx) (by show L.length<_;have:=tu (2^20) (show j<=2^12 by omega);omega)) ?_;rintro v aO rfl;refine Ec ?_;refine again ih (j+1,V,iV L s.log[j].tx) ⟨cG,hV,by have:=wq L s.log[j].tx;dsimp only;omega,?_⟩ (cD);rw[BW (gN cG) HJ (.inr (by rw[<- kX h73];exact hq.symm)),<- zH];rfl
     ·refine i6 ?_;refine dp.cls (nB s V L []) ?_;refine C.dk (free_spec (s:=nB s V L []) (tx:=s.log[j].tx) (by show L.length<_;have:=tu (2^20) (show j<=2^12 by omega);omega)) ?_;rintro v aO rfl;refine Ec ?_;refine again ih (j+1,V,iV L s.log[j].tx) ⟨cG,hV,by have:=wq L s.log[j].tx;dsimp only;omega,?_⟩ (cD);rw[BW (gN cG) HJ (.inl hy),<- zH];rfl
   ·refine jL ?_;refine dp.cls (nB s V L []) ?_;refine again ih (i+1,V,L) ⟨cG,hV,Hf hL (tu _ (mP i)),?_⟩ (cD);exact zH.trans (Gl (gN cG) Np HJ).symm
 ·refine cF ?_;have Lw:i=s.log.length:=by simp at xz;omega
  subst Lw;refine dp.cls (nB s V L []) ?_;refine C.bS (X:=Nat×List dR) (λx=>[(0,.pointer (some ⟨b,0,none⟩)),(6,az x.1)]) (λx=>dp b (nB s V L x.2)::a9 I::F) (λx=>x.1<=60/\x.2.length<=x.1/\x.2=(((upto 60).take x.1).filter λtx=>(bJ s.abs.log tx).isSome).map λtx=>dR.mk 3 false tx) (λx=>60-x.1) (0,[]) ⟨rfl,rfl,trivial⟩ (And.intro (eC _) (And.intro (eC _) rfl)) ?_;rintro⟨k,T⟩ e ⟨hk,hT,hTl⟩ D7;dsimp only at hk hT hTl⊢;refine da ?_;refine C.cmp rfl (λh90=>?_) (λh90=>?_)
  ·refine cF ?_;have TK:(k:Int)<60:=h90;refine C.cE (pB (s:=nB s V L T) (by show s.log.length<_;omega)) ?_;refine sX ?_;refine C.cmp rfl (λIF=>?_) (λIF=>?_)
   ·refine bj ?_;refine dp.opn (h:=λlg vl lk un tm wt ot=>?_);dsimp only[z5,nB];refine jL ?_;refine C.n5 rfl (λai8=>?_);refine C.oh (dR.mk 3 false k) rfl (λs5=>?_);refine ky ?_;refine dp.cls (nB s V L (T++[dR.mk 3 false k])) ?_;refine again D7 (k+1,T++[dR.mk 3 false k]) ⟨cD,by simp;omega,?_⟩ (cD);obtain⟨p,hp⟩:=j7 IF;have hp:bJ s.abs.log k=some p:=hp;rw[BZ TK,<- hTl,hp];rfl
   ·refine dV ?_;refine again D7 (k+1,T) ⟨cD,cD,?_⟩ (cD);have hp:bJ s.abs.log k=none:=kX IF;rw[BZ TK,<- hTl,hp];simp
  ·refine bj ?_;have TK:¬ (k:Int)<60:=h90;rw[oZ TK]at hTl;refine C.cQ aJ ai ⟨I,nB s V L T,Sub.refl _,⟨hI.log,λu hu=>(by cases hu),λw hw=>(by cases hw),hI.out⟩,?_,rfl⟩;unfold dU;rw[xU,<- zH,hTl];simp[eX.abs,jx]
structure WBR(w:WR):Prop where
 n:1<=w.sh.length/\w.sh.length<=4
 sn:∀ s∈w.sh,s.n=w.sh.length
 sh:∀ s∈w.sh,Qn s/\s.log.length<=2^12/\rp {s with clock:=s.clock+1}
 aF:w.aF.length<2^20
 msgs:∀ m∈w.aF,iX m.ops/\((m.to= -1/\0<=m.tx/\m.tx<w.aL.length)\/(0<=m.to/\m.to<w.sh.length))
 aL:w.aL.length<=60
 HW:∀ t∈w.aL,iX t.ops/\1<=t.ops.length
theorem zI{b p:Nat}{v0 v2 v3:Value}{bg:ax}{aF:List cu}{s:eX}(hl:aF.length<2^34)(ho:s.out.length<2^34):
  aB prog ao bG 119 #[.pointer (some ⟨b,0,none⟩),.pointer (some ⟨p,0,none⟩)] [bX b (.cells #[v0,bg.v,v2,v3] 53 (0,0)),aW bQ 7 137 bg aF,dp p s]
   (λv As=>∃ F7:ax,As=[bX b (.cells #[v0,F7.v,v2,v3] 53 (0,0)),aW bQ 7 137 F7 (aF++s.out),dp p {s with out:=[]}]):=by
 refine aB.of λR C kd d F c cs aJ ai=>?_;refine bI ?_;refine dp.opn (b:=p) (s:=s) (h:=λlg vl lk un tm wt ot=>?_);refine C.go ?_;refine C.dx (cm 4 0 12) 13 [9,12] 0 ?_;refine H4 ?_;refine Ch.m 9 (aP λe aa hk=>?_);refine C.EP (f:=bQ) (s:=bg) (l:=aF) s.out rfl (λs'=>?_) (hsrc:=λH st=>dF.src (f:=bQ) (el:=137) (s:=ot) (l:=s.out) (.own Fo.au) st (λ_=>rfl));refine hk _ _ ?_;refine Ch.m 12 (aP λe aa hk=>?_);refine C.st rfl (hk _ undef ?_);refine Lt ?_;refine At.aG bQ 7 137 ?_;refine dp.cls (b:=p) {s with out:=[]} ?_ (ot:=aG);exact C.cQ aJ ai ⟨s',rfl⟩
theorem rq(l:List (Nat×eX))(a:Nat)(h:a<l.length)(x:eX):l.map (·.1)=(l.set a (l[a].1,x)).map (·.1):=by
 rw[kD];have:l[a].1=(l.map (·.1))[a]'(by rw[dd];exact h):=by simp
 show l.map (·.1)=(l.map (·.1)).set a l[a].1;rw[this,l9]
theorem AE{I:HL}{b:Nat}{w:WV}{k i:Int}(hI:WI I w)(hb:WBR w.abs)(sV:∀ s∈w.abs.sh,∀ m∈w.abs.aF,(jF s m).out.length<2^30):
  aB prog ao bG 114 #[.pointer (some ⟨b,0,none⟩),az k,az i] [wP b w,a9 I] (WQ b I (cV w.abs k i).1 (az (cV w.abs k i).2)):=by
 refine aB.of λR C kd d F c cs aJ ai=>?_;refine bI ?_;refine wP.opn (h:=λsh bg qu=>?_);have hbg:=hb.aF;rw[WV.fG]at hbg;refine dm ?_;refine C.cmp rfl (λoa=>?_) (λoa=>?_)
 ·refine oX ?_;refine wP.cls w ?_;have e1:cV w.abs k i=(w.abs,5):=by unfold cV;rw[aK (.inl oa)]
  rw[e1]at ai;exact C.a8 aJ ai ⟨I,w,Sub.refl _,hI,rfl,rfl,rfl⟩
 ·refine dV ?_;refine C.cmp rfl (λuo=>?_) (λuo=>?_)
  ·refine dm ?_;refine wP.cls w ?_;have e1:cV w.abs k i=(w.abs,5):=by unfold cV;rw[aK (.inr (by rw[WV.fG];exact uo))]
   rw[e1]at ai;exact C.a8 aJ ai ⟨I,w,Sub.refl _,hI,rfl,rfl,rfl⟩
  ·refine da ?_;obtain⟨q,rfl⟩:=g7 (show 0<=i by omega);have hq:q<w.aF.length:=ak;have Mj:¬ ((q:Int)<0\/(w.abs.aF.length:Int)<=q):=by rw[WV.fG];omega
   have wZ:w.abs.aF[q]? =some w.aF[q].toMsgR:=by simp[WV.abs,hq]
   have hmI:=hI.aF _ (bC hq);have L7:=hb.msgs w.aF[q].toMsgR (eS wZ);refine dV ?_;refine C.EO hq rfl ?_ (s:=bg) (f:=bQ);refine C.al rfl (λb7=>?_);refine C.po rfl ?_ (hv:=λv hv=>fM.one w.aF[q] v (by simpa using hv));refine C.go ?_;refine At.turn (A:=bX b7 (.cells (wr #[az 0,az 0,az 0,az 0,.bool false,.slice none 0 0,.slice none 0 0] 0 (bQ w.aF[q])) 137 (0,0))) Fo.au (A':=zD b7 w.aF[q]) (λ_ h=>h) ?_;refine bj ?_;refine C.cmp rfl (λTL=>?_) (λTL=>?_)
   ·refine jL ?_;refine C.cmp rfl (λZd=>?_) (λZd=>?_)
    ·refine cF ?_;refine wP.cls w ?_;have e1:cV w.abs k q=(w.abs,3):=by unfold cV;rw[aq Mj];simp only[gy,wZ];rw[aK TL,aK (by rw[WV.fG];omega)]
     rw[e1]at ai;exact C.a8 aJ ai ⟨I,w,Sub.refl _,hI,rfl,rfl,rfl⟩
    ·refine bj ?_;refine C.dx (cm 37 0 10) 11 [6,7,10] 1 ?_;refine Lu ?_;refine Ch.m 6 (aP λe aa hk=>?_);refine C.n5 rfl (λb43=>hk _ _ .cons ?_);refine Ch.m 7 (aP λe aa hk=>?_);refine C.oh w.aF[q] rfl (λs8=>?_);refine hk _ _ ?_;refine Ch.m 10 (aP λe aa hk=>?_);refine C.st rfl (hk _ undef ?_);refine S9 ?_;refine wP.cls {w with aF:=w.aF++[w.aF[q]]} ?_;have e1:cV w.abs k q=(({w with aF:=w.aF++[w.aF[q]]}:WV).abs,0):=by unfold cV;rw[aq Mj];simp only[gy,wZ];rw[aK TL,aq (by rw[WV.fG];omega)];simp[WV.abs]
     rw[e1]at ai;exact C.a8 aJ ai ⟨I,{w with aF:=w.aF++[w.aF[q]]},Sub.refl _,⟨hI.sh,λm hm=>by
      rcases cg.1 hm with hm|hm
      ·exact hI.aF m hm
      ·obtain rfl:=dN.1 hm;exact hmI,hI.aL⟩,rfl,rfl,rfl⟩
   ·refine bj ?_;refine At.xl (A:=aW bQ 7 137 bg w.aF) Fo.au (qL ak) λ⟨D9,Vq,hk5⟩=>?_;refine At.aG bQ 7 137 ?_;refine i6 ?_;refine C.Wn rfl ?_ (hi:=(q:Int)) (hh:=by constructor<;>omega);refine C.EP (f:=bQ) (s:=aG) (l:=[]) (w.aF.take q) rfl (λs7=>?_) (hsrc:=λH st=>Fe Fo.au st (λ_=>rfl) q hq D9) (hsz:=by simp only[uv,iz];omega);refine k7 ?_;refine C.Z7 rfl ?_ (hx:=by show Value.slice bg.a bg.len bg.cap=_;rw[D9,Vq]) (lo:=((q+1:Nat):Int)) (hh:=by constructor<;>omega);refine C.EP (f:=bQ) (s:=s7) (l:=[]++w.aF.take q) (w.aF.drop (q+1)) rfl (λs8=>?_) (hsrc:=λH st=>Ff (s:=bg) Fo.au st (λ_=>rfl) q hq hk5) (hsz:=by simp only[eZ,uw,iz];omega);refine cN ?_;have Av:[]++w.aF.take q++w.aF.drop (q+1)=w.aF.eraseIdx q:=by rw[eZ,<- yc]
    rw[Av];have Qg:WI I {w with aF:=w.aF.eraseIdx q}:=⟨hI.sh,λm hm=>hI.aF m ((jM ..).mem hm),hI.aL⟩;have Ea:({w with aF:=w.aF.eraseIdx q}:WV).abs={w.abs with aF:=w.abs.aF.eraseIdx q}:=by simp[WV.abs,oK]
    refine bj ?_;refine C.cmp rfl (λKh=>?_) (λKh=>?_)
    ·refine cF ?_;refine wP.cls {w with aF:=w.aF.eraseIdx q} ?_ (bg:=s8);have e1:cV w.abs k q=(({w with aF:=w.aF.eraseIdx q}:WV).abs,0):=by unfold cV;rw[aq Mj];simp only[gy,wZ];rw[aq TL,aK Kh,Ea]
     rw[e1]at ai;exact C.a8 aJ ai ⟨I,_,Sub.refl _,Qg,rfl,rfl,rfl⟩
    ·refine cF ?_;refine C.cmp rfl (λZl=>?_) (λZl=>?_)
     ·refine bj ?_;have abt:0<=w.aF[q].tx/\w.aF[q].tx<w.abs.aL.length:=by
       rcases L7.2 with h|h
       ·exact h.2
       ·have h1:w.aF[q].to= -1:=Zl;have h2:0<=w.aF[q].to:=h.1;omega
      obtain⟨jt,Aa⟩:=g7 abt.1;have G5:jt<w.aL.length:=by have:=abt.2;rw[WV.j3]at this;omega
      have XN:cV w.abs k q=(qN ({w with aF:=w.aF.eraseIdx q}:WV).abs w.aF[q].toMsgR,0):=by unfold cV;rw[aq Mj];simp only[gy,wZ];rw[aq TL,aq Kh,aK Zl,Ea]
      have hjm:({w with aF:=w.aF.eraseIdx q}:WV).abs.aL[w.aF[q].toMsgR.tx.toNat]? =some w.aL[jt].toTxR:=by rw[Aa];simp[WV.abs,G5]
      refine C.dx (cm 72 0 7++[(9,7)]) 8 [] 0 ?_;refine n7 ?_;refine Dr.l (λhE h=>C.dT rfl h (j:=jt) (hy:=congrArg (Value.int .i64) Aa)) ?_;refine wS ?_;refine vT ?_;refine C.vz rfl ?_ (j:=jt) (s:=qu) (l:=w.aL);refine C.cmp rfl (λh83=>?_) (λh83=>?_)
      ·refine dm ?_;refine C.HC ({w.aL[jt]with state:=3}:mC) rfl ?_ (j:=jt);refine cF ?_;refine C.pU (λXO=>?_) (λXO=>?_)
       ·refine cF ?_;refine C.HC ({w.aL[jt]with state:=2}:mC) rfl ?_ (j:=jt) (hj:=by rw[cS];exact G5) (ha:=by rw[wC];rfl);refine dV ?_;refine C.HC ({w.aL[jt]with state:=2,reads:=w.aF[q].reads,sr:=w.aF[q].sr}:mC) rfl ?_ (j:=jt) (hj:=by rw[cS,cS];exact G5) (ha:=by rw[wC];rfl);refine cN ?_;rw[AY,AY];refine wP.cls {w with aF:=w.aF.eraseIdx q,aL:=w.aL.set jt {w.aL[jt]with state:=2,reads:=w.aF[q].reads,sr:=w.aF[q].sr}} ?_ (bg:=s8);have e1:cV w.abs k q=(({w with aF:=w.aF.eraseIdx q,aL:=w.aL.set jt {w.aL[jt]with state:=2,reads:=w.aF[q].reads,sr:=w.aF[q].sr}}:WV).abs,0):=by rw[XN];unfold qN;rw[hjm];simp only;rw[aK h83,aK (show w.aF[q].toMsgR.yes=true from XO),Aa];simp[WV.abs,kD]
        rw[e1]at ai;refine C.a8 aJ ai ⟨I,{w with aF:=w.aF.eraseIdx q,aL:=w.aL.set jt {w.aL[jt]with state:=2,reads:=w.aF[q].reads,sr:=w.aF[q].sr}},Sub.refl _,⟨hI.sh,Qg.aF,λt ht=>?_⟩,rfl,rfl,rfl⟩;rcases fT ht with h|rfl
        ·exact hI.aL t h
        ·exact⟨(hI.aL _ (bC G5)).o,hmI.r⟩
       ·refine cN ?_;refine wP.cls {w with aF:=w.aF.eraseIdx q,aL:=w.aL.set jt {w.aL[jt]with state:=3}} ?_ (bg:=s8);have e1:cV w.abs k q=(({w with aF:=w.aF.eraseIdx q,aL:=w.aL.set jt {w.aL[jt]with state:=3}}:WV).abs,0):=by rw[XN];unfold qN;rw[hjm];simp only;rw[aK h83,aq (show¬ w.aF[q].toMsgR.yes=true by show¬ w.aF[q].yes=true;simp[XO]),Aa];simp[WV.abs,kD]
        rw[e1]at ai;refine C.a8 aJ ai ⟨I,{w with aF:=w.aF.eraseIdx q,aL:=w.aL.set jt {w.aL[jt]with state:=3}},Sub.refl _,⟨hI.sh,Qg.aF,λt ht=>?_⟩,rfl,rfl,rfl⟩;rcases fT ht with h|rfl
        ·exact hI.aL t h
        ·exact⟨(hI.aL _ (bC G5)).o,(hI.aL _ (bC G5)).r⟩
      ·refine cF ?_;refine wP.cls {w with aF:=w.aF.eraseIdx q} ?_ (bg:=s8);have e1:cV w.abs k q=(({w with aF:=w.aF.eraseIdx q}:WV).abs,0):=by rw[XN];unfold qN;rw[hjm];simp only;rw[aq h83]
       rw[e1]at ai;exact C.a8 aJ ai ⟨I,{w with aF:=w.aF.eraseIdx q},Sub.refl _,Qg,rfl,rfl,rfl⟩
     ·refine bj ?_;have abu:0<=w.aF[q].to/\w.aF[q].to<w.abs.sh.length:=by
       rcases L7.2 with h|h
       ·exact absurd h.1 Zl
       ·exact h
      obtain⟨a,D4⟩:=g7 abu.1;have xS:a<w.sh.length:=by have:=abu.2;rw[WV.np]at this;omega
      have Ct:w.abs.sh[a]? =some w.sh[a].2.abs:=by simp[WV.abs,xS]
      have Rz:=hb.sh _ (eS Ct);refine C.dx (cm 97 0 8++[(10,8)]) 9 [] 0 ?_;refine n7 ?_;refine Dr.l (λhE h=>C.dT rfl h (j:=a) (hy:=congrArg (Value.int .i64) D4) (hj:=by rw[dd];exact xS)) ?_;refine Dr.l (λhE h=>C.dG rfl h (j:=a) (l:=w.sh.map (·.1)) (hj:=by rw[dd];exact xS)) ?_;refine wS ?_;refine ee ?_;simp only[qx];refine kJ (f:=n8) xS Fo.au ?_;refine At.turn (A:=n8 w.sh[a]) (A':=dp w.sh[a].1 w.sh[a].2) Fo.au (λ_ h=>h) ?_;refine dp.opn (b:=w.sh[a].1) (s:=w.sh[a].2) (h:=λlg vl lk un tm wt ot=>?_);refine dm ?_;refine C.pU (λQo=>?_) (λQo=>?_)
      ·refine C.go ?_;refine dp.cls (b:=w.sh[a].1) w.sh[a].2 ?_;refine da ?_;refine C.dk (Me (b:=w.sh[a].1) (s:=w.sh[a].2) (m:=w.aF[q]) (hI.sh _ (bC xS)) hmI Rz.1.v L7.1) ?_;rintro v aO ⟨I2,s2,Dw,kT,Nq,rfl⟩;refine sX ?_;refine C.dk (zI (b:=b) (p:=w.sh[a].1) (bg:=s8) (aF:=w.aF.eraseIdx q) (s:=s2) (by have:=(jM w.aF q).length_le;omega) (by
        have h1:=sV _ (eS Ct) _ (eS wZ);rw[<- Nq]at h1;have h2:s2.abs.out.length=s2.out.length:=by simp[eX.abs]
        omega)) ?_
       rintro v aO ⟨bg2,rfl⟩;refine sX ?_;have sq:w.sh.map (·.1)=(w.sh.set a (w.sh[a].1,{s2 with out:=[]})).map (·.1):=rq w.sh a xS _;refine mX (f:=n8) (l:=w.sh) xS (w.sh[a].1,{s2 with out:=[]}) dJ.au ?_;refine At.turn (A:=aW eB 1 54 sh (w.sh.map (·.1))) (A':=aW eB 1 54 sh ((w.sh.set a (w.sh[a].1,{s2 with out:=[]})).map (·.1))) Fo.au (λ_ h=>by rw[<- sq];exact h) ?_;refine wP.cls {w with aF:=w.aF.eraseIdx q++s2.out,sh:=w.sh.set a (w.sh[a].1,{s2 with out:=[]})} ?_ (bg:=bg2);have e1:cV w.abs k q=(({w with aF:=w.aF.eraseIdx q++s2.out,sh:=w.sh.set a (w.sh[a].1,{s2 with out:=[]})}:WV).abs,0):=by unfold cV;rw[aq Mj];simp only[gy,wZ];rw[aq TL,aq Kh,aq Zl,<- Ea,show w.aF[q].toMsgR.to=(a:Int)from D4];have h9:w.abs.sh[((a:Nat):Int).toNat]? =some w.sh[a].2.abs:=Ct;simp only[h9];rw[aK (show w.sh[a].2.abs.up=true from Qo),<- Nq];simp[lQ,WV.abs,eX.abs,kD]
       rw[e1]at ai;refine C.a8 aJ ai ⟨I2,{w with aF:=w.aF.eraseIdx q++s2.out,sh:=w.sh.set a (w.sh[a].1,{s2 with out:=[]})},Dw,⟨λp hp=>?_,λm hm=>?_,λt ht=>(hI.aL t ht).mono Dw⟩,rfl,rfl,rfl⟩
       ·rcases fT hp with h|rfl
        ·exact(hI.sh p h).mono Dw
        ·exact⟨kT.log,kT.cq,kT.waits,λx hx=>by cases hx⟩
       ·rcases cg.1 hm with h|h
        ·exact(Qg.aF m h).mono Dw
        ·exact kT.out m h
      ·refine cN ?_;refine dp.cls (b:=w.sh[a].1) w.sh[a].2 ?_;refine mX (f:=n8) (l:=w.sh) xS w.sh[a] dJ.au ?_;rw[l9];refine wP.cls {w with aF:=w.aF.eraseIdx q} ?_ (bg:=s8);have e1:cV w.abs k q=(({w with aF:=w.aF.eraseIdx q}:WV).abs,0):=by unfold cV;rw[aq Mj];simp only[gy,wZ];rw[aq TL,aq Kh,aq Zl,<- Ea,show w.aF[q].toMsgR.to=(a:Int)from D4];have h9:w.abs.sh[((a:Nat):Int).toNat]? =some w.sh[a].2.abs:=Ct;simp only[h9];rw[aq (show¬ w.sh[a].2.abs.up=true by show¬ w.sh[a].2.up=true;simp[Qo])]
       rw[e1]at ai;exact C.a8 aJ ai ⟨I,{w with aF:=w.aF.eraseIdx q},Sub.refl _,Qg,rfl,rfl,rfl⟩
theorem B1:∀ (f:Nat) (r:ShR),rp r->rp (iO f r)
 |0,r,h=>h
 |f+1,r,h=>by
  unfold iO;cases hd:jS r.clock r.timers 0 none with
  |none=>exact h
  |some p=>
   obtain⟨k,t⟩:=p;obtain⟨h1,h2⟩:=wm (L:=r.timers) r.timers 0 none (by intro p hp;cases hp) rfl (k,t) hd;exact B1 f _ (h.off h1 h2)
theorem Mk{w:WR}{k a c:Int}{s:ShR}(hk:¬ (k<1\/8<k))(hs:¬ w.aj=true)(h1:¬ k=1)(h4:¬ k<=4)(ha:¬ (a<0\/(w.sh.length:Int)<=a))(hw:w.sh[a.toNat]? =some s):
  ny w k a c=if k=8 then(if s.up then(w,8)else({w with sh:=w.sh.set a.toNat (dU s)},0))
   else if !s.up then(w,7)
   else if k=5 then(lQ w a.toNat (yC s),0)
   else if k=6 then(if 150<w.aF.length then(w,3)else(lQ w a.toNat (qM s),0))
   else(lQ w a.toNat (pw s c),0):=by
 unfold ny;rw[aq hk,aq hs,aq h1,aq h4,aq ha];simp only[hw]
theorem Qp{I:HL}{b:Nat}{w:WV}{k a c:Int}(hI:WI I w)(hb:WBR w.abs)(sV:∀ s∈w.abs.sh,∀ m∈w.abs.aF,(jF s m).out.length<2^30):
  aB prog ao bG 74 #[.pointer (some ⟨b,0,none⟩),az k,az a,az c] [wP b w,a9 I] (WQ b I (ny w.abs k a c).1 (az (ny w.abs k a c).2)):=by
 refine aB.of λR C kd d F c cs aJ ai=>?_;refine bI ?_;rename_i c0;refine wP.opn (h:=λsh bg qu=>?_);have hbg:=hb.aF;rw[WV.fG]at hbg;refine dm ?_;refine C.cmp rfl (λq7=>?_) (λq7=>?_)
 ·refine ky ?_;refine wP.cls w ?_;have e1:ny w.abs k a c0=(w.abs,0):=by unfold ny;rw[aK (.inl q7)]
  rw[e1]at ai;exact C.a8 aJ ai ⟨I,w,Sub.refl _,hI,rfl,rfl,rfl⟩
 ·refine bj ?_;refine C.cmp rfl (λoj=>?_) (λoj=>?_)
  ·refine dm ?_;refine wP.cls w ?_;have e1:ny w.abs k a c0=(w.abs,0):=by unfold ny;rw[aK (.inr ak)]
   rw[e1]at ai;exact C.a8 aJ ai ⟨I,w,Sub.refl _,hI,rfl,rfl,rfl⟩
  ·refine ky ?_;have xg:¬ (k<1\/8<k):=ak;refine C.pU (λzJ=>?_) (λzJ=>?_)
   ·refine cN ?_;refine wP.cls w ?_;have e1:ny w.abs k a c0=(w.abs,9):=by unfold ny;rw[aq xg,aK (show w.abs.aj=true from zJ)]
    rw[e1]at ai;exact C.a8 aJ ai ⟨I,w,Sub.refl _,hI,rfl,rfl,rfl⟩
   ·refine C.go ?_;have dt:¬ w.abs.aj=true:=by show¬ w.aj=true;simp[zJ]
    refine bj ?_;refine C.cmp rfl (λsZ=>?_) (λsZ=>?_)
    ·refine cN ?_;refine C.cmp rfl (λRD=>?_) (λRD=>?_)
     ·refine oX ?_;refine wP.cls w ?_;have e1:ny w.abs k a c0=(w.abs,4):=by unfold ny;rw[aq xg,aq dt,aK sZ,aK (.inl RD)]
      rw[e1]at ai;exact C.a8 aJ ai ⟨I,w,Sub.refl _,hI,rfl,rfl,rfl⟩
     ·refine dV ?_;refine C.cmp rfl (λh31=>?_) (λh31=>?_)
      ·refine dm ?_;refine wP.cls w ?_;have e1:ny w.abs k a c0=(w.abs,4):=by unfold ny;rw[aq xg,aq dt,aK sZ,aK (.inr (by rw[WV.j3];exact h31))]
       rw[e1]at ai;exact C.a8 aJ ai ⟨I,w,Sub.refl _,hI,rfl,rfl,rfl⟩
      ·refine da ?_;obtain⟨q,rfl⟩:=g7 (show 0<=a by omega);have rZ:q<w.aL.length:=ak;have hna:¬ ((q:Int)<0\/(w.abs.aL.length:Int)<=q):=by rw[WV.j3];omega
       refine dm ?_;refine C.cmp rfl (λPK=>?_) (λPK=>?_)
       ·refine cF ?_;refine wP.cls w ?_;have e1:ny w.abs k q c0=(w.abs,3):=by unfold ny;rw[aq xg,aq dt,aK sZ,aq hna,aK (by rw[WV.fG];omega)]
        rw[e1]at ai;exact C.a8 aJ ai ⟨I,w,Sub.refl _,hI,rfl,rfl,rfl⟩
       ·refine cF ?_;have wZ:w.abs.aL[q]? =some w.aL[q].toTxR:=by simp[WV.abs,rZ]
        have htb:=hb.HW _ (eS wZ);have hn:=hb.n;rw[WV.np]at hn;refine wP.cls w ?_;refine C.dk (w6 (tx:=q) hI hn ak rZ htb) ?_;rintro v aO rfl;refine sX ?_;have e1:ny w.abs k q c0=(({w with aF:=w.aF++[Gd w w.aL[q] q]}:WV).abs,0):=by unfold ny;rw[aq xg,aq dt,aK sZ,aq hna,aq (by rw[WV.fG];omega)];simp only[gy,mZ,wZ];simp[WV.abs,Gd]
        rw[e1]at ai;refine C.a8 aJ ai ⟨I,{w with aF:=w.aF++[Gd w w.aL[q] q]},Sub.refl _,⟨hI.sh,λm hm=>?_,hI.aL⟩,rfl,rfl,rfl⟩;rcases cg.1 hm with hm|hm
        ·exact hI.aF m hm
        ·obtain rfl:=dN.1 hm;exact⟨(hI.aL _ (bC rZ)).o,.nil ..⟩
    ·refine cN ?_;refine C.cmp rfl (λC8=>?_) (λC8=>?_)
     ·refine dm ?_;refine wP.cls w ?_;refine C.dk (AE (k:=k) (i:=a) hI hb sV) ?_;rintro v aO ⟨I',w',hS,sx,JA,rfl,rfl⟩;refine jI ?_;have e1:ny w.abs k a c0=cV w.abs k a:=by unfold ny;rw[aq xg,aq dt,aq sZ,aK C8]
      rw[e1]at ai;exact C.a8 aJ ai ⟨I',w',hS,sx,JA,rfl,rfl⟩
     ·refine cN ?_;refine C.cmp rfl (λLO=>?_) (λLO=>?_)
      ·refine oX ?_;refine wP.cls w ?_;have e1:ny w.abs k a c0=(w.abs,6):=by unfold ny;rw[aq xg,aq dt,aq sZ,aq C8,aK (.inl LO)]
       rw[e1]at ai;exact C.a8 aJ ai ⟨I,w,Sub.refl _,hI,rfl,rfl,rfl⟩
      ·refine dV ?_;refine C.cmp rfl (λQh=>?_) (λQh=>?_)
       ·refine dm ?_;refine wP.cls w ?_;have e1:ny w.abs k a c0=(w.abs,6):=by unfold ny;rw[aq xg,aq dt,aq sZ,aq C8,aK (.inr (by rw[WV.np];rw[dd]at Qh;exact Qh))]
        rw[e1]at ai;exact C.a8 aJ ai ⟨I,w,Sub.refl _,hI,rfl,rfl,rfl⟩
       ·refine da ?_;obtain⟨q,rfl⟩:=g7 (show 0<=a by omega);have xS:q<w.sh.length:=by rw[dd]at Qh;omega
        have hna:¬ ((q:Int)<0\/(w.abs.sh.length:Int)<=q):=by rw[WV.np];omega
        have Ct:w.abs.sh[((q:Nat):Int).toNat]? =some w.sh[q].2.abs:=by simp[WV.abs,xS]
        have Rz:=hb.sh _ (eS Ct);have Vv:=hI.sh _ (bC xS);have Zm:=Rz.1.v;have Ha:=Mk (c:=c0) xg dt sZ C8 hna Ct;refine dm ?_;refine C.dT rfl ?_ (hj:=by rw[dd];exact xS);refine C.dG rfl ?_ (j:=q) (l:=w.sh.map (·.1)) (hj:=by rw[dd];exact xS);refine bj ?_;simp only[qx];refine kJ (f:=n8) xS Fo.au ?_;refine At.turn (A:=n8 w.sh[q]) (A':=dp w.sh[q].1 w.sh[q].2) Fo.au (λ_ h=>h) ?_;refine dp.opn (b:=w.sh[q].1) (s:=w.sh[q].2) (h:=λlg vl lk un tm wt ot=>?_);refine bj ?_;refine C.cmp rfl (λXP=>?_) (λXP=>?_)
        ·refine jL ?_;refine C.pU (λXQ=>?_) (λXQ=>?_)
         ·refine cN ?_;refine dp.cls (b:=w.sh[q].1) w.sh[q].2 ?_;refine mX (f:=n8) (l:=w.sh) xS w.sh[q] dJ.au ?_;rw[l9];refine wP.cls w ?_;have e1:ny w.abs k q c0=(w.abs,8):=by rw[Ha,aK XP,aK (show w.sh[q].2.abs.up=true from XQ)]
          rw[e1]at ai;exact C.a8 aJ ai ⟨I,w,Sub.refl _,hI,rfl,rfl,rfl⟩
         ·refine da ?_;refine dp.cls (b:=w.sh[q].1) w.sh[q].2 ?_;refine C.dk (Dx (b:=w.sh[q].1) (s:=w.sh[q].2) Vv Zm (by have:=Rz.2.1;rwa[xU]at this)) ?_;rintro v aO ⟨I2,s2,Dw,kT,Nq,rfl⟩;refine sX ?_;refine mX (f:=n8) (l:=w.sh) xS (w.sh[q].1,s2) dJ.au ?_;have sq:=rq w.sh q xS s2;refine At.turn (A:=aW eB 1 54 sh (w.sh.map (·.1))) (A':=aW eB 1 54 sh ((w.sh.set q (w.sh[q].1,s2)).map (·.1))) Fo.au (λ_ h=>by rw[<- sq];exact h) ?_;refine wP.cls {w with sh:=w.sh.set q (w.sh[q].1,s2)} ?_;have e1:ny w.abs k q c0=(({w with sh:=w.sh.set q (w.sh[q].1,s2)}:WV).abs,0):=by rw[Ha,aK XP,aq (show¬ w.sh[q].2.abs.up=true by show¬ w.sh[q].2.up=true;simp[XQ]),<- Nq];simp[WV.abs,kD]
          rw[e1]at ai;refine C.a8 aJ ai ⟨I2,{w with sh:=w.sh.set q (w.sh[q].1,s2)},Dw,⟨λp hp=>?_,λm hm=>(hI.aF m hm).mono Dw,λt ht=>(hI.aL t ht).mono Dw⟩,rfl,rfl,rfl⟩;rcases fT hp with h|rfl
          ·exact(hI.sh p h).mono Dw
          ·exact kT
        ·refine ky ?_;refine C.pU (λII=>?_) (λII=>?_)
         ·refine cN ?_;refine dp.cls (b:=w.sh[q].1) w.sh[q].2 ?_;refine mX (f:=n8) (l:=w.sh) xS w.sh[q] dJ.au ?_;rw[l9];refine wP.cls w ?_;have eo:w.sh[q].2.abs.up=false:=by show w.sh[q].2.up=false;simpa using II
          have e1:ny w.abs k q c0=(w.abs,7):=by rw[Ha,aq XP,aK (by rw[eo];rfl)]
          rw[e1]at ai;exact C.a8 aJ ai ⟨I,w,Sub.refl _,hI,rfl,rfl,rfl⟩
         ·refine C.go ?_;have eo:¬ (!w.sh[q].2.abs.up)=true:=by show¬ (!w.sh[q].2.up)=true;simpa using II
          rw[aq XP,aq eo]at Ha;refine dp.cls (b:=w.sh[q].1) w.sh[q].2 ?_;apply kI (X:=HL×eX) (λx=>Sub I x.1/\u0 x.1 x.2/\x.2.out.length<2^34/\ny w.abs k q c0=(lQ w.abs q x.2.abs,0)) (λ_=>[(0,.pointer (some ⟨b,0,none⟩)),(9,.pointer (some ⟨w.sh[q].1,0,none⟩))]) (λx=>bX b (.cells #[sh.v,bg.v,qu.v,.bool w.aj] 53 (0,0))::aW eB 1 54 sh (w.sh.map (·.1))::aW bQ 7 137 bg w.aF::aW rV 3 71 qu w.aL::dp w.sh[q].1 x.2::all ((w.sh.eraseIdx q).map n8)::a9 x.1::F) (R:=R) (d:=d) (fn:=74) (kd:=kd) (n:=102) (ds:=[]) (cs:=c::cs)
          ·intro Qq;refine cN ?_;refine C.cmp rfl (λh81=>?_) (λh81=>?_)
           ·refine cF ?_;refine C.dk (Mf (b:=w.sh[q].1) (s:=w.sh[q].2) Zm) ?_;rintro v aO rfl;refine k8 ?_;refine bN Qq (I,{w.sh[q].2 with aX:=w.sh[q].2.log.length,out:=w.sh[q].2.out++w.sh[q].2.waits,waits:=[]}) ⟨Sub.refl _,⟨Vv.log,Vv.cq,λx hx=>(by cases hx),λx hx=>?_⟩,?_,?_⟩
            ·rcases cg.1 hx with h|h
             ·exact Vv.out x h
             ·exact Vv.waits x h
            ·have h1:=Zm.out;have h2:=Zm.waits;simp only[ji];omega
            ·rw[Ha,aK h81];simp[yC,eX.abs]
           ·refine cN ?_;refine C.cmp rfl (λZn=>?_) (λZn=>?_)
            ·refine ky ?_;refine C.cmp rfl (λh91=>?_) (λh91=>?_)
             ·refine cF ?_;refine mX (f:=n8) (l:=w.sh) xS w.sh[q] dJ.au ?_;rw[l9];refine wP.cls w ?_;have e1:ny w.abs k q c0=(w.abs,3):=by rw[Ha,aq h81,aK Zn,aK (by rw[WV.fG];omega)]
              rw[e1]at ai;exact C.a8 aJ ai ⟨I,w,Sub.refl _,hI,rfl,rfl,rfl⟩
             ·refine cN ?_;refine C.dk (Mi (b:=w.sh[q].1) (s:=w.sh[q].2) Vv Rz.2.2) ?_;rintro v aO ⟨I2,s2,Dw,kT,Nq,rfl⟩;refine k8 ?_;refine bN Qq (I2,s2) ⟨Dw,kT,?_,?_⟩
              ·have h1:=(B1 (sk {w.sh[q].2.abs with clock:=w.sh[q].2.abs.clock+1}+1) _ Rz.2.2).b.out;have h3:iO (sk {w.sh[q].2.abs with clock:=w.sh[q].2.abs.clock+1}+1) {w.sh[q].2.abs with clock:=w.sh[q].2.abs.clock+1}=s2.abs:=Nq.symm;rw[h3]at h1;have h2:s2.abs.out.length=s2.out.length:=by simp[eX.abs]
               dsimp only;omega
              ·rw[Ha,aq h81,aK Zn,aq (by rw[WV.fG];omega),Nq];rfl
            ·refine cN ?_;refine C.cmp rfl (λh95=>?_) (λh95=>?_)
             ·refine dm ?_;refine C.dk (IE (b:=w.sh[q].1) (s:=w.sh[q].2) (k:=c0) Zm) ?_;rintro v aO rfl;refine k8 ?_;refine bN Qq (I,{w.sh[q].2 with up:=false,aX:=gO w.sh[q].2 c0,log:=w.sh[q].2.log.take (gO w.sh[q].2 c0).toNat,bH:=il,aH:=[],under:=[],timers:=[],waits:=[],clock:=0}) ⟨Sub.refl _,⟨λr hr=>Vv.log r (NV hr),λx hx=>(by cases hx),λx hx=>(by cases hx),Vv.out⟩,?_,?_⟩
              ·have h1:=Zm.out;dsimp only;omega
              ·rw[Ha,aq h81,aq Zn,<- Mg];rfl
             ·refine da ?_;exact absurd h95 ak
          ·rintro⟨I2,s2⟩ ⟨Dw,kT,Rx,TM⟩ e;dsimp only at Dw kT Rx TM⊢;refine da ?_;refine C.dk (zI (b:=b) (p:=w.sh[q].1) (bg:=bg) (aF:=w.aF) (s:=s2) ak Rx) ?_;rintro v aO ⟨bg2,rfl⟩;refine sX ?_;refine mX (f:=n8) (l:=w.sh) xS (w.sh[q].1,{s2 with out:=[]}) dJ.au ?_;have sq:=rq w.sh q xS {s2 with out:=[]};refine At.turn (A:=aW eB 1 54 sh (w.sh.map (·.1))) (A':=aW eB 1 54 sh ((w.sh.set q (w.sh[q].1,{s2 with out:=[]})).map (·.1))) Fo.au (λ_ h=>by rw[<- sq];exact h) ?_;refine wP.cls {w with aF:=w.aF++s2.out,sh:=w.sh.set q (w.sh[q].1,{s2 with out:=[]})} ?_ (bg:=bg2);have e1:ny w.abs k q c0=(({w with aF:=w.aF++s2.out,sh:=w.sh.set q (w.sh[q].1,{s2 with out:=[]})}:WV).abs,0):=by have TM:ny w.abs k q c0=(lQ w.abs q s2.abs,0):=TM;rw[TM];simp[lQ,WV.abs,eX.abs,kD]
           rw[e1]at ai;refine C.a8 aJ ai ⟨I2,{w with aF:=w.aF++s2.out,sh:=w.sh.set q (w.sh[q].1,{s2 with out:=[]})},Dw,⟨λp hp=>?_,λm hm=>?_,λt ht=>(hI.aL t ht).mono Dw⟩,rfl,rfl,rfl⟩
           ·rcases fT hp with h|rfl
            ·exact(hI.sh p h).mono Dw
            ·exact⟨kT.log,kT.cq,kT.waits,λx hx=>by cases hx⟩
           ·rcases cg.1 hm with h|h
            ·exact(hI.aF m h).mono Dw
            ·exact kT.out m h
theorem Dy{I:HL}{b:Nat}{w:WV}{i:Int}(hI:WI I w)(uX:w.aL.length<2^40):aB prog ao bG 167 #[.pointer (some ⟨b,0,none⟩),az i] [wP b w,a9 I]
  (λv As=>∃ (st:Int) (rs:ax) (rd:List Int),v=.tuple #[az st,rs.v]/\dX I aI 3 rs rd/\(st,rd)=(if i<0\/(w.aL.length:Int)<=i then(0,[])else match w.abs.aL[i.toNat]? with|some t=>(t.state,t.reads)|none=>(0,[]))/\As=[wP b w,a9 I]):=by
 refine aB.of λR C kd d F c cs aJ ai=>?_;refine bI ?_;refine wP.opn (h:=λsh bg qu=>?_);refine dV ?_;refine C.cmp rfl (λh7=>?_) (λh7=>?_)
 ·refine jW ?_;refine wP.cls w ?_;exact C.a8 aJ ai ⟨0,aG,[],rfl,.nil ..,by rw[aK (.inl h7)],rfl⟩
 ·refine dV ?_;refine C.cmp rfl (λnz=>?_) (λnz=>?_)
  ·refine dV ?_;refine wP.cls w ?_;exact C.a8 aJ ai ⟨0,aG,[],rfl,.nil ..,by rw[aK (.inr nz)],rfl⟩
  ·refine da ?_;obtain⟨q,rfl⟩:=g7 (show 0<=i by omega);have hq:q<w.aL.length:=ak;have wZ:w.abs.aL[((q:Nat):Int).toNat]? =some w.aL[q].toTxR:=by simp[WV.abs,hq]
   refine C.dx (cm 17 0 16++[(4,16),(5,17)]) 18 [] 0 ?_;refine gY ?_;refine Eb ?_;refine Dr.chain rfl ?_;refine ee ?_;refine wP.cls w ?_;exact C.a8 aJ ai ⟨w.aL[q].state,w.aL[q].sr,w.aL[q].reads,rfl,(hI.aL _ (bC hq)).r,by rw[aq ak,wZ],rfl⟩
theorem nq{b:Nat}{w:WV}{i:Int}:aB prog ao bG 122 #[.pointer (some ⟨b,0,none⟩),az i] [wP b w]
  (λv As=>((i<0\/(w.sh.length:Int)<=i)/\v=.pointer none\/∃ (q:Nat) (hq:q<w.sh.length),i=q/\v=.pointer (some ⟨w.sh[q].1,0,none⟩))/\As=[wP b w]):=by
 refine aB.of λR C kd d F c cs aJ ai=>?_;refine bI ?_;refine wP.opn (h:=λsh bg qu=>?_);refine dm ?_;refine C.cmp rfl (λh6=>?_) (λh6=>?_)
 ·refine oX ?_;refine wP.cls w ?_;exact C.a8 aJ ai ⟨.inl ⟨.inl h6,rfl⟩,rfl⟩
 ·refine dV ?_;refine C.cmp rfl (λoj=>?_) (λoj=>?_)
  ·refine dm ?_;refine wP.cls w ?_;exact C.a8 aJ ai ⟨.inl ⟨.inr (by rw[dd]at oj;exact oj),rfl⟩,rfl⟩
  ·refine da ?_;obtain⟨q,rfl⟩:=g7 (show 0<=i by omega);have hq:q<w.sh.length:=by rw[dd]at oj;omega
   refine dm ?_;refine C.dT rfl ?_ (hj:=by rw[dd];exact hq);refine C.dG rfl ?_ (j:=q) (l:=w.sh.map (·.1)) (hj:=by rw[dd];exact hq);refine bj ?_;refine wP.cls w ?_;exact C.a8 (v:=.pointer (some ⟨(w.sh.map (·.1))[q]'(by rw[dd];exact hq),0,none⟩)) aJ ai ⟨.inr ⟨q,hq,rfl,by rw[qx]⟩,rfl⟩
variable{P:bR}{B:j9}{W:List HP}
variable{fn:bM}{kd:Kd}{n:Nat}{e:Nat->Value}{ds:List dW}{k:List Item}{cs:List Frame}
variable{ops:Array Oper}{aa:List Nat}{t:Nat}{ty:aR}{pos:String}{af:Array Edge}{gd:Option (Nat×Bool)}{x:cU}{v:Value}{b off:Nat}{c:Array Value}{el tt:aR}
theorem Ext.Ml{I:HL}{o:Obj}(h:Ext As W)(hf:Fo (a9 I) W L)(hI:I b=some o):Kn As b o:=λ_ st=>((h _ st).perm hf.perm).pf hI
theorem ab.ldK(C:ab P ao B R){fr:Nat×Nat}[Ag P tt false](hk:Kn As b (.cells c el fr))(hs:b<B.bot)(hc:c[off]? =some v)(ho:aZ ops i=some ⟨some t,.load tt x,ty,pos,af,gd⟩)(h:At R d As (gr fn kd n (put e t v) ds (.inRegion ops aa::k) cs))
  (hx:ev n e x=.pointer (some ⟨b,off,none⟩):=by rfl) (hw:aN ops n e gd=true:=by rfl):At R d As (gr fn kd n e ds (.inRegion ops (i::aa)::k) cs):=
 C.gen ho hw λH st=>by unfold execOp;simp only[hx,Instr.loadAt,Instr.sureAddr];exact ah (ah (aA (CB (hk _ st) hc hs ⟨As,st,h⟩)))
def xB{α:Type}(I:HL)(bot:Nat)(f:α->List Value)(z:Nat)(v:Value)(l:List α):Prop:=
 ∃ (a:Option Addr) (cap:Nat),v=.slice a l.length cap/\(l=[]\/∃ b off c ty fr,a=some ⟨b,off,none⟩/\I b=some (.cells c ty fr)/\b<bot/\∀ j (hj:j<l.length) o,o<z->c[off+j*z+o]? =(f l[j])[o]?)
theorem xB.mono{α:Type}{I I':HL}{bot:Nat}{f:α->List Value}{z:Nat}{v:Value}{l:List α}(h:xB I bot f z v l)(hs:Sub I I'):xB I' bot f z v l:=by
 obtain⟨a,cap,h1,h2⟩:=h;refine⟨a,cap,h1,?_⟩;rcases h2 with h2|⟨b,off,c,ty,fr,h3,h4,h5⟩
 ·exact .inl h2
 ·exact .inr ⟨b,off,c,ty,fr,h3,hs _ _ h4,h5⟩
def OpZ(o:cy):Prop:=(-9223372036854775808<=o.k/\o.k<=9223372036854775807)/\(-9223372036854775808<=o.v/\o.v<=9223372036854775807)
def ru(o:cy):cy:=⟨o.w,IntKind.u8.wrap o.k,IntKind.i32.wrap o.v⟩
theorem IJ(p:Int):0<=IntKind.u8.wrap p/\IntKind.u8.wrap p<=255:=by rw[IntKind.wrap_u8];omega
theorem Dz(p:Int): -2147483648<=IntKind.i32.wrap p/\IntKind.i32.wrap p<=2147483647:=by rw[IntKind.wrap_i32];omega
def B2(a b:Int):Int:=(if a<0 then 0-(a+1)else a).tmod b
theorem B5{a b:Int}(hb:0<b):0<=B2 a b/\B2 a b<b:=by unfold B2;refine⟨Int.tmod_nonneg _ ?_,Int.tmod_lt_of_pos _ hb⟩;split<;>omega
theorem B6{a b:Int}(ha: -9223372036854775808<=a/\a<=9223372036854775807)(hb:0<b):aB prog ao bG 15 #[az a,az b] [] (λv As=>v=az (B2 a b)/\As=[]):=by
 refine aB.of λR C kd d F c cs aJ ai=>?_;refine pb ?_;refine dm ?_;refine C.cmp rfl (λh6=>?_) (λh6=>?_)
 ·refine cN ?_;refine C.ar (p:=a) (q:=1) (r:=a+1) rfl ?_;refine C.ngI rfl ?_ (p:=a+1) (r:=0-(a+1)) (hr:=pq ak ak);refine cF ?_;refine C.rem rfl ?_;refine bj ?_;exact C.a8 aJ ai ⟨by unfold B2;rw[aK h6],rfl⟩
 ·refine cF ?_;refine C.rem rfl ?_;refine bj ?_;exact C.a8 aJ ai ⟨by unfold B2;rw[aq h6],rfl⟩
theorem Mm{σ:Gh}{I:HL}{v:Value}{ops:List cy}(hi:xB I σ.bot gg 3 v ops)(hz:∀ o∈ops,OpZ o)(hl:ops.length*24<=140737488355328):
  aB prog true (bT.bw σ) 17 #[v] [a9 I] (λu As=>∃ s':ax,u=s'.v/\As=[aW gg 3 63 s' (ops.map ru),a9 I]):=by
 refine aB.of λR C kd d F c cs aJ ai=>?_;refine bI ?_;obtain⟨a,cap,hv,jE⟩:=hi;subst hv;refine C.go ?_;refine At.aG gg 3 63 (show At R d (aW gg 3 63 aG ((ops.take 0).map ru)::_) _ from ?_);refine ky ?_;refine C.bS (X:=Nat×ax) (λx=>[(0,.slice a ops.length cap),(2,aG.v),(3,x.2.v),(4,az x.1)]) (λx=>aW gg 3 63 x.2 ((ops.take x.1).map ru)::a9 I::F) (λx=>x.1<=ops.length) (λx=>ops.length-x.1) (0,aG) ⟨rfl,rfl,rfl,rfl,trivial⟩ (eC _) ?_;rintro⟨i,s⟩ e hi ih;dsimp only at hi⊢;refine cN ?_;refine C.ln rfl ?_;refine C.cmp rfl (λh8=>?_) (λh8=>?_)
 ·refine bj ?_;have hj:i<ops.length:=ak;rcases jE with rfl|⟨b,off,cc,ty,fr,rfl,hI,ui,vK⟩
  ·exact absurd hj (by simp)
  have h0:=vK i hj 0 (by decide);have h1:=vK i hj 1 (by decide);have h2:=vK i hj 2 (by decide);have Sk:=hz _ (bC hj);obtain⟨o,ho⟩:∃ o,o=ops[i]:=⟨_,rfl⟩;rw[<- ho]at h0 h1 h2 Sk;have hlen:((ops.take i).map ru).length=i:=by simp;omega
  have BO:(ops.take i).map ru++[ru o]=(ops.take (i+1)).map ru:=by rw[ho,fq hj,eI];rfl
  refine C.dx (cm 11 0 23++[(3,23)]) 24 [21,22,23] 1 ?_;refine qs ?_;refine Dr.l (λhE h=>C.ia (j:=(i:Int)) (o:=off+i*3) rfl h (hoff:=by simp)) ?_;refine k6 ?_;refine Dr.l (λhE h=>C.ldK (hE.Ml Fo.au hI) ui h0 rfl h) ?_;refine jy ?_;refine Dr.l (λhE h=>C.ia (j:=(i:Int)) (o:=off+i*3) rfl h (hoff:=by simp)) ?_;refine k6 ?_;refine Dr.l (λhE h=>C.ldK (hE.Ml Fo.au hI) ui h1 rfl h) ?_;refine Dr.p (λh=>C.cv (k1:=.i64) (k2:=.u8) (p:=o.k) (r:=IntKind.u8.wrap o.k) rfl h (hr:=rfl)) ?_;refine Dr.p (λh=>C.cv (k1:=.u8) (k2:=.i64) (p:=IntKind.u8.wrap o.k) (r:=IntKind.u8.wrap o.k) rfl h (hr:=pq (by have:=IJ o.k;omega) (by have:=IJ o.k;omega))) ?_;refine jy ?_;refine Dr.l (λhE h=>C.ia (j:=(i:Int)) (o:=off+i*3) rfl h (hoff:=by simp)) ?_;refine k6 ?_;refine Dr.l (λhE h=>C.ldK (hE.Ml Fo.au hI) ui h2 rfl h) ?_;refine Dr.p (λh=>C.cv (k1:=.i64) (k2:=.i32) (p:=o.v) (r:=IntKind.i32.wrap o.v) rfl h (hr:=rfl)) ?_;refine Dr.p (λh=>C.cv (k1:=.i32) (k2:=.i64) (p:=IntKind.i32.wrap o.v) (r:=IntKind.i32.wrap o.v) rfl h (hr:=pq (by have:=Dz o.v;omega) (by have:=Dz o.v;omega))) ?_;refine wS ?_;refine Ch.m 21 (aP λe aa hk=>?_);refine C.n5 rfl (λb32=>hk _ _ .cons ?_);refine Ch.m 22 (aP λe aa hk=>?_);refine C.oh (f:=gg) (ru o) rfl (λs2=>?_) (hsz:=by rw[hlen];omega);refine hk _ _ ?_;refine Ch.q 23 (λh=>C.lh rfl h) ?_;refine Nf ?_;rw[BO];refine again ih (i+1,s2) (cD) (cD)
 ·refine dm ?_;have Lw:i=ops.length:=ak;subst Lw;rw[Jt];exact C.a8 aJ ai ⟨s,rfl,rfl⟩
theorem IK{I:HL}{so:ax}{ops:List cy}(hi:dX I gg 63 so ops)(hz:∀ o∈ops,(0<=o.k/\o.k<=255)/\(-2147483648<=o.v/\o.v<=2147483647))(hl:ops.length*8<=140737488355328):
  aB prog ao bG 19 #[so.v] [a9 I] (λu As=>∃ s':ax,u=s'.v/\As=[aW cK 3 67 s' ops,a9 I]):=by
 refine aB.of λR C kd d F c cs aJ ai=>?_;refine k8 ?_;refine At.aG cK 3 67 (show At R d (aW cK 3 67 aG (ops.take 0)::_) _ from ?_);refine ky ?_;refine C.bS (X:=Nat×ax) (λx=>[(0,so.v),(2,aG.v),(3,x.2.v),(4,az x.1)]) (λx=>aW cK 3 67 x.2 (ops.take x.1)::a9 I::F) (λx=>x.1<=ops.length) (λx=>ops.length-x.1) (0,aG) ⟨rfl,rfl,rfl,rfl,trivial⟩ (eC _) ?_;rintro⟨i,s⟩ e Qr ih;dsimp only at Qr⊢;refine cF ?_;refine C.cmp rfl (λh8=>?_) (λh8=>?_)
 ·refine bj ?_;have hj:i<ops.length:=ak;have Sk:=hz _ (bC hj);have hlen:(ops.take i).length=i:=by simp;omega
  have BO:ops.take i++[ops[i]]=ops.take (i+1):=by rw[fq hj]
  refine C.dx (cm 11 0 21++[(3,21)]) 22 [19,20,21] 1 ?_;refine Lr ?_;refine Dr.l (λhE h=>C.vz (f:=gg) (s:=so) (l:=ops) (j:=i) (o:=0) rfl h (hr:=dF.ext hE (.a9 Fo.au hi))) ?_;refine HZ ?_;refine Dr.l (λhE h=>C.vz (f:=gg) (s:=so) (l:=ops) (j:=i) (o:=1) rfl h (hr:=dF.ext hE (.a9 Fo.au hi))) ?_;refine Lr ?_;refine Dr.l (λhE h=>C.vz (f:=gg) (s:=so) (l:=ops) (j:=i) (o:=2) rfl h (hr:=dF.ext hE (.a9 Fo.au hi))) ?_;refine xr ?_;refine Ch.m 19 (aP λe aa hk=>?_);refine C.n5 rfl (λb30=>hk _ _ .cons ?_);refine Ch.m 20 (aP λe aa hk=>?_);refine C.oh (f:=cK) ops[i] rfl (λs2=>?_) (hsz:=by rw[hlen];omega);refine hk _ _ ?_;refine Ch.q 21 (λh=>C.lh rfl h) ?_;refine Nf ?_;rw[BO];refine again ih (i+1,s2) (cD) (cD)
 ·refine dm ?_;have Lw:i=ops.length:=ak;subst Lw;rw[Jt];exact C.a8 aJ ai ⟨s,rfl,rfl⟩
instance:ew prog 106 f106 ((Extern.find f106).getD λ_=>pure undef):=⟨func106,rfl,rfl,by kernel_rfl,by kernel_rfl⟩
instance:ew prog 264 f264 ((Extern.find f264).getD λ_=>pure undef):=⟨func264,rfl,rfl,by kernel_rfl,by kernel_rfl⟩
abbrev DC(t:aR):Value:=.pointer (some ⟨10,t,none⟩)
abbrev Qs(t:aR):Value:=.iface 231 (.agg #[DC t])
theorem XR(t:aR):typeHandle prog t=DC t:=by
 have:prog.globals.size=10:=by kernel_rfl
 unfold typeHandle;rw[this]
theorem IL{v:Value}:fJ prog (((Extern.find f106).getD λ_=>pure undef) ([.iface 339 v]:List Value).toArray)=some (Qs 339):=by kernel_rfl
theorem abw:fJ prog (method (prog.types.size+Made.depth) 231 (.agg #[DC 339]) "Comparable")=some (264,.agg #[DC 339]):=by kernel_rfl
theorem abx:fJ prog (((Extern.find f264).getD λ_=>pure undef) (#[.agg #[DC 339]]++([]:List Value).toArray))=some (.bool true):=by kernel_rfl
theorem Ku{s:String}{sig:aR}{got:Array Method}(h:(got.toList.any λm=>m.name==s&&m.sig==sig)=false):∃ mm,Instr.missingMethod #[(s,sig)] got=some mm:=by
 have h':(got.any λm=>m.name==s&&m.sig==sig)=false:=by rw[<- h];simp
 unfold Instr.missingMethod;simp only[uy,Ev,h',Cm,eQ,iJ,ml];cases hc:s.contains (Char.ofNat 46)
 ·exact⟨s,by simp only[List.partition,List.partition.loop,hc];rfl⟩
 ·exact⟨(s.splitOn ".").getLastD s,by simp only[List.partition,List.partition.loop,hc];rfl⟩
theorem aby{s:String}{sig:aR}{got:Array Method}(h:(got.toList.any λm=>m.name==s&&m.sig==sig)=true):Instr.missingMethod #[(s,sig)] got=none:=by
 have h':(got.any λm=>m.name==s&&m.sig==sig)=true:=by rw[<- h];simp
 unfold Instr.missingMethod;simp[h',Instr.least]
theorem jw{bE:Nat}{nm w:Value}{at_:Int}:aB prog ao bG 58 #[aE bE] [bX bE (.cells #[nm,az at_,w] 132 (0,0))] (λv As=>v=w/\As=[bX bE (.cells #[nm,az at_,w] 132 (0,0))]):=by refine aB.of λR C kd d F c cs aJ ai=>?_;refine bI ?_;refine k7 ?_;exact C.a8 aJ ai ⟨rfl,rfl⟩
theorem abz{bE:Nat}:fJ prog (method (prog.types.size+Made.depth) 128 (aE bE) "Unwrap")=some (58,aE bE):=by kernel_rfl
instance:Pt prog 339 359:=⟨underlying339⟩
instance:Cz prog 359 1:=⟨_,ay type359,rfl⟩
theorem Qt{I:HL}{eb:Nat->Nat×Nat}(hE:ij I eb){bE j k:Nat}(hj:j<9)(hk:k<9){nm:Value}{at_:Int}:aB prog ao bG 107 #[.iface 128 (aE bE),ig (eb j),.bool true] [bX bE (.cells #[nm,az at_,ig (eb k)] 132 (0,0)),a9 I]
  (λv As=>v=.bool (decide (k=j))/\As=[bX bE (.cells #[nm,az at_,ig (eb k)] 132 (0,0)),a9 I]):=by
 refine aB.of λR C kd d F c cs aJ ai=>?_;refine bI ?_;obtain⟨cj,tj,hcj⟩:=hE.e j hj;obtain⟨ck,tk,DD⟩:=hE.e k hk;refine cN ?_;refine C.lp ?_;refine dm ?_;refine C.eqN underlying46 rfl ?_;obtain⟨mm1,Zo⟩:=Ku (s:= "Is") (sig:=242) (got:=t128.methods) (by kernel_rfl);obtain⟨mm2,XA⟩:=Ku (s:= "Is") (sig:=242) (got:=t339.methods) (by kernel_rfl);refine cF ?_;refine C.taI underlying240 (ay type128) Zo ⟨_,ay type240,rfl⟩ rfl ?_;refine jW ?_;refine cN ?_;refine C.taY underlying238 (ay type128) (aby (by kernel_rfl)) rfl ?_;refine ky ?_;refine C.Y7 abz jw ?_;rintro v aO ⟨rfl,rfl⟩;refine sX ?_;refine C.SH underlying46 rfl ?_;refine bj ?_;refine C.Wg ?_;refine dm ?_;refine C.SG underlying46 (ay type339) rfl rfl ?_ (λH s=>(s.perm (Fo.perm (show Fo (a9 I) _ _ from Fo.au))).pf DD) (λH s=>(s.perm (Fo.perm (show Fo (a9 I) _ _ from Fo.au))).pf hcj);by_cases hkj:k=j
 ·subst hkj;rw[show(decide ((eb k).1=(eb k).1/\(eb k).2=(eb k).2)==true)=true by simp];refine dm ?_;refine C.a8 aJ ai ⟨?_,rfl⟩;simp
 ·rw[show(decide ((eb k).1=(eb j).1/\(eb k).2=(eb j).2)==true)=false by rw[beq_true,decide_eq_false_iff_not];rintro⟨h1,h2⟩;exact hkj (hE.inj k j hk hj (Prod.ext h1 h2))]
  refine cF ?_;refine C.taI underlying240 (ay type339) XA ⟨_,ay type240,rfl⟩ rfl ?_;refine jW ?_;refine cN ?_;refine C.taI underlying238 (ay type339) (Ku (by kernel_rfl)).choose_spec ⟨_,ay type238,rfl⟩ rfl ?_;refine cF ?_;refine C.taI underlying239 (ay type339) (Ku (by kernel_rfl)).choose_spec ⟨_,ay type239,rfl⟩ rfl ?_;refine i6 ?_;refine C.a8 aJ ai ⟨?_,rfl⟩;simp[hkj]
theorem Qu{I:HL}{eb:Nat->Nat×Nat}(hE:ij I eb){bE j k:Nat}(hj:j<9)(hk:k<9){nm:Value}{at_:Int}:aB prog ao bG 60 #[.iface 128 (aE bE),ig (eb j)] [bX bE (.cells #[nm,az at_,ig (eb k)] 132 (0,0)),a9 I]
  (λv As=>v=.bool (decide (k=j))/\As=[bX bE (.cells #[nm,az at_,ig (eb k)] 132 (0,0)),a9 I]):=by
 refine aB.of λR C kd d F c cs aJ ai=>?_;refine Ec ?_;refine C.SH underlying46 rfl ?_;refine bj ?_;refine C.SH underlying46 rfl ?_;refine cF ?_;refine C.x0 (f:=106) (v:=Qs 339) IL rfl ?_;refine C.Y6 abw abx ?_;refine dm ?_;refine C.cE (Qt hE hj hk) ?_;refine jI ?_;exact C.a8 aJ ai ⟨rfl,rfl⟩
instance:ew prog 102 f102 (λargs=>Extern.ReflectliteValue.unpack (args.getD 0 (.tuple #[]))):=⟨func102,rfl,rfl,by kernel_rfl,by kernel_rfl⟩
instance:ew prog 103 f103 ((Extern.find f103).getD λ_=>pure undef):=⟨func103,rfl,rfl,by kernel_rfl,by kernel_rfl⟩
instance:ew prog 104 f104 (Extern.ReflectliteValue.method (Extern.ReflectliteValue.valueError "reflectlite.Value.IsNil" 0) Extern.ReflectliteValue.isNil):=⟨func104,rfl,rfl,by kernel_rfl,by kernel_rfl⟩
instance:ew prog 150 f150 (Extern.ReflectliteValue.method (Extern.ReflectliteValue.valueError "reflectlite.Value.Elem" 0) Extern.ReflectliteValue.elem):=⟨func150,rfl,rfl,by kernel_rfl,by kernel_rfl⟩
instance:ew prog 151 f151 Extern.ReflectliteValue.set:=⟨func151,rfl,rfl,by kernel_rfl,by kernel_rfl⟩
instance:ew prog 265 f265 ((Extern.find f265).getD λ_=>pure undef):=⟨func265,rfl,rfl,by kernel_rfl,by kernel_rfl⟩
instance:ew prog 266 f266 ((Extern.find f266).getD λ_=>pure undef):=⟨func266,rfl,rfl,by kernel_rfl,by kernel_rfl⟩
instance:ew prog 263 f263 ((Extern.find f263).getD λ_=>pure undef):=⟨func263,rfl,rfl,by kernel_rfl,by kernel_rfl⟩
instance:ew prog 248 f248 ((Extern.find f248).getD λ_=>pure undef):=⟨func248,rfl,rfl,by kernel_rfl,by kernel_rfl⟩
abbrev Vw(t:aR)(b:Nat)(f:Int):Value:=.agg #[DC t,.pointer (some ⟨b,0,none⟩),.int .u64 f]
theorem XS{b:Nat}:fJ prog (Extern.ReflectliteValue.mk 130 ⟨b,0,none⟩ 0)=some (Vw 130 b 150):=by kernel_rfl
theorem XT{b:Nat}:fJ prog (Extern.ReflectliteValue.mk 128 ⟨b,0,none⟩ 0)=some (Vw 128 b 150):=by kernel_rfl
theorem TN{b:Nat}:fJ prog (Extern.ReflectliteValue.mk 128 ⟨b,0,none⟩ 256)=some (Vw 128 b 406):=by kernel_rfl
theorem XU{b:Nat}:fJ prog (((Extern.find f103).getD λ_=>pure undef) ([Vw 130 b 150]:List Value).toArray)=some (Qs 130):=by kernel_rfl
theorem Qv(t:aR):fJ prog (method (prog.types.size+Made.depth) 231 (.agg #[DC t]) "Kind")=some (248,DC t):=by kernel_rfl
theorem TO:fJ prog (((Extern.find f248).getD λ_=>pure undef) (#[DC 130]++([]:List Value).toArray))=some (.int .u8 22):=by kernel_rfl
theorem TP:fJ prog (((Extern.find f248).getD λ_=>pure undef) (#[DC 128]++([]:List Value).toArray))=some (.int .u8 22):=by kernel_rfl
theorem XV:fJ prog (method (prog.types.size+Made.depth) 231 (.agg #[DC 130]) "Elem")=some (265,.agg #[DC 130]):=by kernel_rfl
theorem XW:fJ prog (((Extern.find f265).getD λ_=>pure undef) (#[.agg #[DC 130]]++([]:List Value).toArray))=some (Qs 128):=by kernel_rfl
theorem XX:fJ prog (method (prog.types.size+Made.depth) 231 (.agg #[DC 128]) "Implements")=some (266,.agg #[DC 128]):=by kernel_rfl
theorem XY:fJ prog (((Extern.find f266).getD λ_=>pure undef) (#[.agg #[DC 128]]++([Qs 46]:List Value).toArray))=some (.bool true):=by kernel_rfl
theorem abA:fJ prog (method (prog.types.size+Made.depth) 231 (.agg #[DC 128]) "AssignableTo")=some (263,.agg #[DC 128]):=by kernel_rfl
theorem abB:fJ prog (((Extern.find f263).getD λ_=>pure undef) (#[.agg #[DC 128]]++([Qs 128]:List Value).toArray))=some (.bool true):=by kernel_rfl
theorem Mn{v:Value}:fJ prog (((Extern.find f106).getD λ_=>pure undef) ([.iface 128 v]:List Value).toArray)=some (Qs 128):=by kernel_rfl
open Go.Extern.ReflectliteValue
variable{H:Array Obj}{Q:Value->Array Obj->Nat->Prop}
theorem TQ{P:bR}{t:aR}{v w:Value}(JI:fJ P (Extern.ReflectliteValue.mk t ⟨H.size,0,none⟩ 0)=some w)(q:Q w (H.push (.cells v.cells t (0,0))) d):dC P B (unpack (.iface t v)) H d Q:=by show dC P B (newVar t v >>= λa=>mk t a 0) H d Q;refine ah ?_;unfold newVar newRow;refine ah ?_;show dC P B (.new _ _) H d _;simp only[dC];show dC P B (pure _) _ d _;exact aA (dz JI q)
theorem IM{P:bR}{t:aR}{b p:Nat}{u:Value}[Ag P t false](Hs:fJ P (parts u)=some (some (t,⟨b,0,none⟩,150)))(hg:hp H b=some (.cells #[aE p] t (0,0)))(hs:B.sh t 0=false)(q:Q (.bool false) H d):dC P B (Extern.ReflectliteValue.method (valueError "reflectlite.Value.IsNil" 0) isNil #[u]) H d Q:=by unfold Extern.ReflectliteValue.method;refine ah (dz Hs ?_);show dC P B (isNil t ⟨b,0,none⟩ 150 22) H d Q;unfold isNil;simp only[List.contains_cons,List.contains_nil,Nat.reduceBEq,Bool.or_false,Bool.false_or,Bool.or_true,Bool.true_or,AR,gR,eY];refine ah (gG hg rfl hs ?_);exact aA q
theorem Mo{P:bR}{t t2:aR}{b p:Nat}{u w:Value}[Ag P t false](Hs:fJ P (parts u)=some (some (t,⟨b,0,none⟩,150)))(he:fJ P (Extern.Rtype.elem? t)=some (some t2))(JI:fJ P (Extern.ReflectliteValue.mk t2 ⟨p,0,none⟩ 256)=some w)(hg:hp H b=some (.cells #[aE p] t (0,0)))(hs:B.sh t 0=false)(q:Q w H d):dC P B (Extern.ReflectliteValue.method (valueError "reflectlite.Value.Elem" 0) Extern.ReflectliteValue.elem #[u]) H d Q:=by unfold Extern.ReflectliteValue.method;refine ah (dz Hs ?_);show dC P B (Extern.ReflectliteValue.elem t ⟨b,0,none⟩ 150 22) H d Q;unfold Extern.ReflectliteValue.elem;simp only[Nat.reduceBNe,NL,AQ,gR,eY];refine ah (gG hg rfl hs ?_);refine ah (dz he ?_);exact dz JI q
theorem Qw{P:bR}{t:aR}{b p:Nat}{u w x0 v:Value}[Ag P t false][Cz P t 1](hu:fJ P (parts u)=some (some (t,⟨p,0,none⟩,406)))(hw:fJ P (parts w)=some (some (t,⟨b,0,none⟩,150)))(hd:fJ P (Extern.Rtype.directlyAssignable t t)=some true)(h1:hp H b=some (.cells #[v] t (0,0)))(h2:hp H p=some (.cells #[x0] t (0,0)))
  (hv:v.cells=#[v]) (h1v:fP v=true) (hs:B.sh t 0=false) (hr:B.rd p t 0=false) (q:Q (.tuple #[]) (H.setIfInBounds p (.cells #[v] t (0,0))) d):dC P B (Extern.ReflectliteValue.set #[u,w]) H d Q:=by
 unfold Extern.ReflectliteValue.set;refine ah (dz hu ?_);refine ah (dz hw ?_);show dC P B _ H d Q;simp only[show((406/flagAddr%2==0):Bool)=false from rfl,gR,eY];refine ah (gG (v:=v) h1 rfl hs ?_);refine ah (dz hd ?_);simp only[eQ];refine ah (pg (z:=1) h2 (by rw[hv];rfl) (by simp) (by rw[hv];intro x hx;simp at hx;subst hx;exact h1v) (λj h0 h3=>?_) ?_)
 ·obtain rfl:j=0:=ak;exact⟨hr,hs⟩
 ·rw[hv];exact aA q
theorem Vx{b:Nat}:fJ prog (parts (Vw 130 b 150))=some (some (130,⟨b,0,none⟩,150)):=by kernel_rfl
theorem abC{b:Nat}:fJ prog (parts (Vw 128 b 150))=some (some (128,⟨b,0,none⟩,150)):=by kernel_rfl
theorem XZ{b:Nat}:fJ prog (parts (Vw 128 b 406))=some (some (128,⟨b,0,none⟩,406)):=by kernel_rfl
theorem X0:fJ prog (Extern.Rtype.elem? 130)=some (some 128):=by kernel_rfl
theorem X1:fJ prog (Extern.Rtype.directlyAssignable 128 128)=some true:=by kernel_rfl
variable{aO:List HP}
variable{dst:Option Nat}
variable{f:bM}{fu:Func}{fo:cU}{args:Array cU}{ga:Array aR}{t t2:aR}{p:Nat}{u w x0:Value}
theorem ab.abD(C:ab P ao B R)[x:ew P f fu (λargs=>unpack (args.getD 0 (.tuple #[])))]{w:Nat->Value}{c:Array Value}(hc:v.cells=c)(JI:∀ b,fJ P (Extern.ReflectliteValue.mk t ⟨b,0,none⟩ 0)=some (w b))(ho:aZ ops i=some ⟨dst,.call ⟨.value fo,args,ga⟩,ty,pos,af,gd⟩)(h:∀ b,At R d (bX b (.cells c t (0,0))::As) (gr fn kd n (di e dst (w b)) ds (.inRegion ops aa::k) cs))
  (hf:ev n e fo=.func (.func f) #[] #[]:=by rfl) (hv:args.toList.map (ev n e)=[.iface t v]:=by rfl) (hw:aN ops n e gd=true:=by rfl):At R d As (gr fn kd n e ds (.inRegion ops (i::aa)::k) cs):=
 C.xt (f:=f) (vl:=[.iface t v]) (λH s=>TQ (JI H.size) ⟨_,s.push _,hc▸h _⟩) ho hw hf hv
theorem ab.aeT(C:ab P ao B R)[x:ew P f fu (Extern.ReflectliteValue.method (valueError "reflectlite.Value.IsNil" 0) isNil)][Ag P t false](Hs:fJ P (parts u)=some (some (t,⟨b,0,none⟩,150)))(ho:aZ ops i=some ⟨dst,.call ⟨.value fo,args,ga⟩,ty,pos,af,gd⟩)(h:At R d As (gr fn kd n (di e dst (.bool false)) ds (.inRegion ops aa::k) cs))
  (hh:Kn As b (.cells #[aE p] t (0,0)):=by apply Has.kn;(repeat(first|with_reducible exact Has.head|with_reducible apply Has.tail));done) (hs:B.sh t 0=false:=by rfl) (hf:ev n e fo=.func (.func f) #[] #[]:=by rfl) (hv:args.toList.map (ev n e)=[u]:=by rfl) (hw:aN ops n e gd=true:=by rfl):At R d As (gr fn kd n e ds (.inRegion ops (i::aa)::k) cs):=
 C.xt (f:=f) (vl:=[u]) (λH s=>IM Hs (hh _ s) hs ⟨_,s,h⟩) ho hw hf hv
theorem ab.aeU(C:ab P ao B R)[x:ew P f fu (Extern.ReflectliteValue.method (valueError "reflectlite.Value.Elem" 0) Extern.ReflectliteValue.elem)][Ag P t false](Hs:fJ P (parts u)=some (some (t,⟨b,0,none⟩,150)))(he:fJ P (Extern.Rtype.elem? t)=some (some t2))(JI:fJ P (Extern.ReflectliteValue.mk t2 ⟨p,0,none⟩ 256)=some w)(ho:aZ ops i=some ⟨dst,.call ⟨.value fo,args,ga⟩,ty,pos,af,gd⟩)(h:At R d As (gr fn kd n (di e dst w) ds (.inRegion ops aa::k) cs))
  (hh:Kn As b (.cells #[aE p] t (0,0)):=by apply Has.kn;(repeat(first|with_reducible exact Has.head|with_reducible apply Has.tail));done) (hs:B.sh t 0=false:=by rfl) (hf:ev n e fo=.func (.func f) #[] #[]:=by rfl) (hv:args.toList.map (ev n e)=[u]:=by rfl) (hw:aN ops n e gd=true:=by rfl):At R d As (gr fn kd n e ds (.inRegion ops (i::aa)::k) cs):=
 C.xt (f:=f) (vl:=[u]) (λH s=>Mo Hs he JI (hh _ s) hs ⟨_,s,h⟩) ho hw hf hv
theorem ab.aeV(C:ab P ao B R)[x:ew P f fu Extern.ReflectliteValue.set][Ag P t false][Cz P t 1](hu:fJ P (parts u)=some (some (t,⟨p,0,none⟩,406)))(nV:fJ P (parts w)=some (some (t,⟨b,0,none⟩,150)))(hd:fJ P (Extern.Rtype.directlyAssignable t t)=some true)(ho:aZ ops i=some ⟨dst,.call ⟨.value fo,args,ga⟩,ty,pos,af,gd⟩)(h:At R d aO (gr fn kd n (di e dst (.tuple #[])) ds (.inRegion ops aa::k) cs))
  (hh:Kn As b (.cells #[v] t (0,0)):=by apply Has.kn;(repeat(first|with_reducible exact Has.head|with_reducible apply Has.tail));done) (hU:qG p (.cells #[x0] t (0,0)) (.cells #[v] t (0,0)) As aO:=by repeat(first|with_reducible exact qG.head|with_reducible apply qG.tail)) (hvc:v.cells=#[v]:=by rfl) (h1v:fP v=true:=by rfl)
  (hs:B.sh t 0=false:=by rfl) (hr:B.rd p t 0=false:=by rfl) (hf:ev n e fo=.func (.func f) #[] #[]:=by rfl) (hv:args.toList.map (ev n e)=[u,w]:=by rfl) (hw:aN ops n e gd=true:=by rfl):At R d As (gr fn kd n e ds (.inRegion ops (i::aa)::k) cs):=
 C.xt (f:=f) (vl:=[u,w]) (λH s=>Qw hu nV hd (hh _ s) (hU.has.get s) hvc h1v hs hr ⟨_,hU.set s,h⟩) ho hw hf hv
theorem Qx{bE b7 bV:Nat}{tg:Value}:aB prog ao bG 105 #[.iface 128 (aE bE),tg,Vw 130 bV 150,Qs 128] [bX bV (.cells #[aE b7] 130 (0,0)),bX b7 (.cells #[.pointer none] 128 (0,0))]
  (λv As=>v=.bool true/\As=[bX b7 (.cells #[aE bE] 128 (0,0))]):=by
 refine aB.of λR C kd d F c cs aJ ai=>?_;refine jI ?_;refine C.bx rfl (λb6=>?_);refine bj ?_;refine C.lp ?_;refine da ?_;refine C.x0 (f:=106) (v:=Qs 128) Mn rfl ?_;refine fy ?_;refine C.Y6 abA abB ?_;refine cN ?_;refine C.aeU (f:=150) Vx X0 (TN (b:=b7)) rfl ?_;refine fy ?_;refine C.abD (f:=102) (t:=128) (c:=#[aE bE]) rfl (λb=>XT (b:=b)) rfl (λbW=>?_) (v:=aE bE);refine C.aeV (f:=151) (XZ (b:=b7)) (abC (b:=bW)) X1 rfl ?_ (v:=aE bE);refine cN ?_;exact C.a8 aJ ai ⟨rfl,rfl⟩
def Qy:ByteArray:=⟨#[83,117,98,109,105,116]⟩
theorem DE{σ:Gh}{c:CV}{so:ax}{ops:List cy}{I J:HL}{eb:Nat->Nat×Nat}(hE:ij I eb)(hn:1<=c.ae.length/\c.ae.length<=4)(nj:c.aF.length<2^20)(uX:c.aL.length<=60)(ho:dX J cK 67 so ops)(og:ops.length<2^43):
  bD prog bT 29 #[aE c.G.b,so.v] σ [dK c,a9 I,a9 J] (λv σ' As=>∃ er t gL gM I' L u,σ'=σ/\v=.tuple #[az t,u]/\Qd eb (.string Qy) 0 er u L/\As=dK {c with aF:=gL,aL:=gM}::a9 I'::a9 J::L/\
   ((c.aj=true/\er=some 8/\t=0/\gL=c.aF/\gM=c.aL/\I'=I)\/(c.aj=false/\Iw eb I c.ae.length ops c.aF c.aL er t I' gL gM))):=by
 refine bD.of ?_;intro Post os out kd F c' cs C aJ ai;refine jI ?_;refine C.bx rfl (λbc=>?_);refine C.bx rfl (λbo=>?_);refine cN ?_;refine C.al rfl (λbt=>?_);refine cN ?_;refine C.mf rfl ?_;have hf:c.aj=false->bD prog bT 53 (#[]++([]:List Value).toArray++#[aE bo,aE bc,aE bt]) σ (rl 1 c::a9 I::[a9 J,bX bo (.cells #[so.v] 36 (0,0)),bX bc (.cells #[aE c.G.b] 23 (0,0)),bX bt (.cells #[az 0] 3 (0,0))])
   (λv σ' As=>∃ er c' I' A',v=Tz eb er/\(∀ k,er=some k->k<9)/\As=rl 1 c'::a9 I'::A'/\c'.G.b=c.G.b/\(∃ t gL gM,σ'=σ/\c'={c with aF:=gL,aL:=gM}/\A'=[a9 J,bX bt (.cells #[az t] 3 (0,0))]/\Iw eb I c.ae.length ops c.aF c.aL er t I' gL gM)):=by
  intro dt Post os out kd F fr cs aJ ai;obtain⟨G,ae,aF,aL,aj⟩:=c;obtain rfl:aj=false:=dt;refine bI ?_;refine dK.opn (m:=1) (h:=λhs bg tx=>?_);have rL:=L4 (σ:=σ) (b:=G.b) (bo:=bo) (bc:=bc) (bt:=bt) (so:=so) (hs:=hs) (bg:=bg) (qu:=tx) (dn:=.chan (some G.dn)) (st:=CV.st ⟨G,ae,aF,aL,false⟩) (hl:=ae.map (·.h.bh)) (aF:=aF) (aL:=aL) hE (by simpa using hn) nj uX ho og;refine At.perm (dJ.perm dJ.au) (aB.g rL Post os out kd _ fr cs aJ ?_);rintro v σ' aO ⟨rfl,F7,Xw,er,t,I',gL,gM,rfl,hQ,rfl⟩;refine bI ?_;refine dK.cls (m:=1) ⟨G,ae,gL,gM,false⟩ ?_;refine At.jR ?_ (ai _ _ _ ⟨er,⟨G,ae,gL,gM,false⟩,I',_,rfl,?_,rfl,rfl,t,gL,gM,rfl,rfl,rfl,by simpa using hQ⟩)
  ·exact bZ.au
  ·intro k hk;obtain⟨_,h|h|h⟩:=hQ
   ·have:=h.2.1;rw[this]at hk;cases hk;decide
   ·have:=h.2.2.1;rw[this]at hk;cases hk;decide
   ·have:=h.2.2.1;rw[this]at hk;cases hk
 refine aD.k5 (BN (nm:=Qy) (at_:=0) hE hf) ?_;rintro v σ' aO ⟨er,c2,I2,A2,L,n4,rfl,IP⟩;have C:ab prog true (bT.bw σ') (aD prog Post bT σ' 0 os out):=aD.dM;refine bI ?_;refine da ?_;rcases IP with⟨dt,rfl,rfl,rfl,rfl,rfl⟩|⟨dt,t,gL,gM,rfl,rfl,rfl,hQ⟩
 ·obtain⟨bE,rfl,rfl⟩:=n4;simp only[qw,iT,eZ];refine cF ?_;exact aD.db aJ ai ⟨some 8,0,c2.aF,c2.aL,I2,[bX bE (.cells #[.string Qy,az 0,ig (eb 8)] 132 (0,0))],.iface 128 (aE bE),rfl,rfl,⟨bE,rfl,rfl⟩,rfl,.inl ⟨dt,rfl,rfl,rfl,rfl,rfl⟩⟩
 ·cases er with
  |none=>
   obtain⟨rfl,rfl⟩:=n4;simp only[qw,iT,eZ];refine cF ?_;exact aD.db aJ ai ⟨none,t,gL,gM,I2,[],.nilIface,rfl,rfl,⟨rfl,rfl⟩,rfl,.inr ⟨dt,hQ⟩⟩
  |some k=>
   obtain⟨bE,rfl,rfl⟩:=n4;simp only[qw,iT,eZ];refine cF ?_;exact aD.db aJ ai ⟨some k,t,gL,gM,I2,[bX bE (.cells #[.string Qy,az 0,ig (eb k)] 132 (0,0))],.iface 128 (aE bE),rfl,rfl,⟨bE,rfl,rfl⟩,rfl,.inr ⟨dt,hQ⟩⟩
theorem Qz{σ:Gh}{I:HL}{eb:Nat->Nat×Nat}(hE:ij I eb){bE b7:Nat}:aB prog true (bT.bw σ) 57 #[.iface 128 (aE bE),.iface 130 (aE b7)] [bX b7 (.cells #[.pointer none] 128 (0,0)),a9 I]
  (λv As=>v=.bool true/\As=[bX b7 (.cells #[aE bE] 128 (0,0)),a9 I]):=by
 refine aB.of λR C kd d F c cs aJ ai=>?_;refine bI ?_;obtain⟨tE,hty⟩:=hE.ty;rw[XR]at hty;refine dm ?_;refine C.SH underlying46 rfl ?_;refine cN ?_;refine C.SH underlying20 rfl ?_;refine cN ?_;refine C.abD (f:=102) (t:=130) (c:=#[aE b7]) rfl (λb=>XS (b:=b)) rfl (λbV=>?_) (v:=aE b7);refine C.al rfl (λb5=>?_);refine cN ?_;refine C.x0 (f:=103) (v:=Qs 130) XU rfl ?_;refine cN ?_;refine C.Y6 (Qv _) TO ?_;refine C.v0 rfl ?_ rfl;refine bj ?_;refine C.aeT (f:=104) (Vx (b:=bV)) rfl ?_;refine cF ?_;refine C.Y6 XV XW ?_;refine cN ?_;refine C.Y6 (Qv _) TP ?_;refine C.v0 rfl ?_ rfl;refine bj ?_;refine C.vA (v:=Qs 46) Fo.au hty (gB _ _) rfl ?_;refine C.Y6 XX XY ?_;refine ky ?_;refine C.cE (aB.less (cH σ) (Qx (bE:=bE) (b7:=b7) (bV:=bV))) ?_;refine jI ?_;exact C.a8 aJ ai ⟨rfl,rfl⟩
end
end Go.Sl
