/-
  Texts that the proof needs, joined: part 5.
-/
import Derived.Test.YtjomdboiibakiaaGreatDoorUnD
import Derived.KernelRfl
set_option linter.unusedSimpArgs false
set_option linter.unusedVariables false
set_option maxHeartbeats 4000000
namespace Go.Sl
open Go.Proofs.Tryz
section
open Go.Proofs
variable{ao:Bool}
theorem Ia(L:List gz)(tx:Int)(l:List cy)(o:cy):jl L tx (l++[o])=jl L tx l++[⟨o.k,tx⟩]:=by simp[jl]
theorem BE{I:HL}{b:Nat}{s:eX}{so:ax}{ops:List cy}{tx:Int}(ho:dX I gg 63 so ops)(hl:ops.length<2^30)(hs:s.aH.length<2^34):
  aB prog ao bG 160 #[.pointer (some ⟨b,0,none⟩),az tx,so.v] [dp b s,a9 I] (λv As=>As=[dp b {s with aH:=jl s.aH tx ops},a9 I]):=by
 refine aB.of λR C kd d F c cs aJ ai=>?_;refine bI ?_;refine dp.opn (h:=λlg vl lk un tm wt ot=>?_);refine cN ?_;refine C.bS (X:=Nat×ax×List gz) (λx=>[(0,.pointer (some ⟨b,0,none⟩)),(1,az tx),(2,so.v),(6,az x.1)]) (λx=>z5 b {s with aH:=x.2.2} lg vl x.2.1 un tm wt ot (a9 I::F)) (λx=>x.1<=ops.length/\x.2.2=jl s.aH tx (ops.take x.1)) (λx=>ops.length-x.1) (0,lk,s.aH) ⟨rfl,rfl,rfl,rfl,trivial⟩ ⟨by simp,by simp[jl]⟩ ?_ (hI:=.refl);rintro⟨i,s1,L1⟩ e ⟨hi,hL⟩ ih;dsimp only at hi hL⊢;refine cF ?_;refine C.cmp rfl (λAA=>?_) (λAA=>?_)
 ·refine bj ?_;have cG:i<ops.length:=by simpa using AA
  refine C.dx (cm 13 0 16) 17 [12,13,16] 1 ?_;refine Tb ?_;refine Ch.m 12 (aP λe aa hk=>?_);refine C.n5 rfl (λkz=>hk _ _ .cons ?_);refine Ch.m 13 (aP λe aa hk=>?_);refine C.oh (gz.mk ops[i].k tx) rfl (λs2=>?_) (hsz:=by subst hL;simp only[jl,ji,dd,iz];omega);refine hk _ _ ?_;refine Ch.m 16 (aP λe aa hk=>?_);refine C.st rfl (hk _ undef ?_);refine Nf ?_;refine again ih (i+1,s2,L1++[⟨ops[i].k,tx⟩]) ⟨by simp;omega,?_⟩ (by simp;omega);rw[fq cG,Ia,<- hL]
 ·refine bj ?_;have e1:ops.take i=ops:=g5 (by simp at AA;omega);rw[e1]at hL;subst hL;refine dp.cls {s with aH:=jl s.aH tx ops} ?_;exact C.cQ aJ ai rfl
theorem FJ(V:List Int)(l:List cy)(o:cy):eH V (l++[o])=if o.w then(eH V l).set (o.k-97).toNat o.v else eH V l:=by simp only[eH,eO,ks,ow]
theorem ze{I:HL}{b:Nat}{s:eX}{so:ax}{ops:List cy}(ho:dX I gg 63 so ops)(hk:∀ o∈ops,97<=o.k/\o.k<=122)(hv:s.bH.length=26)(hl:ops.length<2^30):
  aB prog ao bG 161 #[.pointer (some ⟨b,0,none⟩),so.v] [dp b s,a9 I] (λv As=>As=[dp b {s with bH:=eH s.bH ops},a9 I]):=by
 refine aB.of λR C kd d F c cs aJ ai=>?_;refine bI ?_;refine dp.opn (h:=λlg vl lk un tm wt ot=>?_);refine cN ?_;refine C.bS (X:=Nat×List Int) (λx=>[(0,.pointer (some ⟨b,0,none⟩)),(1,so.v),(4,az x.1)]) (λx=>z5 b {s with bH:=x.2} lg vl lk un tm wt ot (a9 I::F)) (λx=>x.1<=ops.length/\x.2=eH s.bH (ops.take x.1)/\x.2.length=26) (λx=>ops.length-x.1) (0,s.bH) ⟨rfl,rfl,rfl,trivial⟩ ⟨by simp,by simp[eH],hv⟩ ?_ (hI:=.refl);rintro⟨i,V⟩ e ⟨hi,hV,hV6⟩ ih;dsimp only at hi hV hV6⊢;refine cF ?_;refine C.cmp rfl (λh8=>?_) (λh8=>?_)
 ·refine bj ?_;have cG:i<ops.length:=by simpa using h8
  have xq:=hk _ (bC cG);obtain⟨q,hq⟩:∃ q:Nat,ops[i].k-97=q:=⟨(ops[i].k-97).toNat,ak⟩;have pT:q<V.length:=ak;have PM:(ops[i].k-97).toNat=q:=ak;have Vj:∀ V',V'=eH s.bH (ops.take i)->eH s.bH (ops.take (i+1))=if ops[i].w then V'.set q ops[i].v else V':=λV' h=>by subst h;rw[fq cG,FJ,PM]
  refine dV ?_;refine C.pU (λu6=>?_) (λu6=>?_)
  ·refine C.go ?_;refine C.dx (cm 16 0 16) 17 [16] 0 ?_;refine S8 ?_;refine Dr.p (λh=>C.ar rfl h (r:=(q:Int)) (ha:=congrArg some hq)) ?_;refine n7 ?_;refine Dr.chain rfl ?_;refine Ch.m 16 (aP λe aa hk=>?_);refine C.iB ops[i].v rfl ?_;refine hk _ undef ?_;refine Nf ?_;refine again ih (i+1,V.set q ops[i].v) ⟨by simp;omega,by rw[Vj V hV,aK u6],by simpa using hV6⟩ (by simp;omega)
  ·refine dm ?_;refine again ih (i+1,V) ⟨by simp;omega,by rw[Vj V hV,u6];rfl,hV6⟩ (by simp;omega)
 ·refine bj ?_;have e1:ops.take i=ops:=g5 (by simp at h8;omega);rw[e1]at hV;subst hV;refine dp.cls {s with bH:=eH s.bH ops} ?_;exact C.cQ aJ ai rfl
theorem zf(L:List gz)(tx:Int)(h:gz):iV (L++[h]) tx=if h.tx=tx then iV L tx else iV L tx++[h]:=by unfold iV;by_cases e:h.tx=tx<;>simp[nE,e]
theorem free_spec{b:Nat}{s:eX}{tx:Int}(hs:s.aH.length<2^34):
  aB prog ao bG 162 #[.pointer (some ⟨b,0,none⟩),az tx] [dp b s] (λv As=>As=[dp b {s with aH:=iV s.aH tx}]):=by
 refine aB.of λR C kd d F c cs aJ ai=>?_;refine bI ?_;refine dp.opn (h:=λlg vl lk un tm wt ot=>?_);refine At.aG mj 2 258 ?_;refine dV ?_;refine C.bS (X:=Nat×ax) (λx=>[(0,.pointer (some ⟨b,0,none⟩)),(1,az tx),(4,x.2.v),(5,az x.1)]) (λx=>aW mj 2 258 x.2 (iV (s.aH.take x.1) tx)::z5 b s lg vl lk un tm wt ot F) (λx=>x.1<=s.aH.length) (λx=>s.aH.length-x.1) (0,aG) ⟨rfl,rfl,rfl,rfl,trivial⟩ (by simp) ?_ (hI:=.refl);rintro⟨i,s1⟩ e hi ih;dsimp only at hi⊢;refine dm ?_;refine C.ld rfl ?_ (n4:=rfl);refine fy ?_;refine C.cmp rfl (λoa=>?_) (λoa=>?_)
 ·refine bj ?_;have cG:i<s.aH.length:=by simpa using oa
  have Sn:(iV (s.aH.take i) tx).length<=i:=by have:=pN (λh:gz=>h.tx != tx) (s.aH.take i);simp only[iV,iz]at this⊢;omega
  refine i6 ?_;refine C.cmp rfl (λjz=>?_) (λjz=>?_)
  ·refine i6 ?_;refine C.lZ rfl (λhj=>?_);refine C.n5 rfl (λb33=>?_);refine C.oh (s:=s1) (l:=iV (s.aH.take i) tx) s.aH[i] rfl (λs2=>?_);refine dV ?_;refine again ih (i+1,s2) (by simp;omega) (by simp;omega) (hr:=?_);rw[fq cG,zf,aq jz];exact bZ.au
  ·refine dV ?_;refine again ih (i+1,s1) (by simp;omega) (by simp;omega) (hr:=?_);rw[fq cG,zf,aK (Ep.1 jz)];exact bZ.au
 ·refine bj ?_;have e1:s.aH.take i=s.aH:=g5 (by simp at oa;omega);rw[e1];refine dV ?_;refine dp.cls {s with aH:=iV s.aH tx} ?_ (lk:=s1);exact C.cQ aJ ai rfl
theorem q8{b:Nat}{s:eX}:aB prog ao bG 28 #[.pointer (some ⟨b,0,none⟩)] [dp b s]
  (λv As=>As=[dp b {s with bH:=il,aH:=[],under:=[],timers:=[],waits:=[],clock:=0}]):=by
 refine aB.of λR C kd d F c cs aJ ai=>?_;refine bI ?_;refine dp.opn (h:=λlg vl lk un tm wt ot=>?_);refine da ?_;refine C.ms (f:=aI) (a0:=(0:Int)) rfl rfl (λb3=>?_);refine At.own (l:=il) (f:=aI) (z:=1) ⟨some ⟨b3,0,none⟩,26,26⟩ [] rfl rfl (fI 26) .head ?_;refine jW ?_;refine jW ?_;refine cN ?_;refine At.aG mj 2 258 (At.aG qj 6 287 (aaO (At.aG su 3 251 (At.aG bQ 7 137 ?_))));refine dp.cls {s with bH:=il,aH:=[],under:=[],timers:=[],waits:=[],clock:=0} ?_ (vl:=⟨some ⟨b3,0,none⟩,26,26⟩) (lk:=aG) (un:=aG) (tm:=aG) (wt:=aG);exact C.cQ aJ ai rfl
theorem dg{n:Int}{i:Nat}(hi:(i:Int)<n):(upto n).take (i+1)=(upto n).take i++[(i:Int)]:=by
 have hl:i<(upto n).length:=by simp[upto];omega
 rw[fq hl]
 congr 2
 simp[upto]
theorem oZ{n:Int}{i:Nat}(hi:¬ (i:Int)<n):(upto n).take i=upto n:=g5 (by simp[upto];omega)
abbrev q9(m:cu):Value:=.agg #[az m.kind,az m.aV,az m.to,az m.tx,.bool m.yes,m.so.v,m.sr.v]
theorem gk{b:Nat}{s:cZ}{m:cu}(hl:s.out.length<2^34):aB prog ao bG 179 #[aE b,q9 m] [de b s]
  (λv As=>As=[de b {s with out:=s.out++[{m with aV:=s.me}]}]):=by
 refine aB.of λR C kd d F c cs aJ ai=>?_;refine bI ?_;refine de.opn (h:=λlg wt ot tm bv bl bp bd be bu tl ht=>?_);refine bj ?_;refine C.bx rfl (λb3=>?_);refine ky ?_;refine C.dx (cm 9 0 10) 11 [6,7,10] 1 ?_;refine Lu ?_;refine Ch.m 6 (aP λe aa hk=>?_);refine C.n5 rfl (λb15=>hk _ _ .cons ?_);refine Ch.m 7 (aP λe aa hk=>?_);refine C.oh {m with aV:=s.me} rfl (λs'=>?_);refine hk _ _ ?_;refine Ch.m 10 (aP λe aa hk=>?_);refine C.st rfl (hk _ undef ?_);refine ee ?_;refine de.cls {s with out:=s.out++[{m with aV:=s.me}]} ?_;exact C.cQ aJ ai rfl
theorem iQ{b:Nat}{s:cZ}{m:cu}(hl:s.waits.length<2^34):aB prog ao bG 201 #[aE b,q9 m] [de b s]
  (λv As=>As=[de b {s with waits:=s.waits++[{m with aV:=s.me}]}]):=by
 refine aB.of λR C kd d F c cs aJ ai=>?_;refine bI ?_;refine de.opn (h:=λlg wt ot tm bv bl bp bd be bu tl ht=>?_);refine bj ?_;refine C.bx rfl (λb3=>?_);refine ky ?_;refine C.dx (cm 9 0 12) 13 [7,8,12] 1 ?_;refine C6 ?_;refine Ch.m 7 (aP λe aa hk=>?_);refine C.n5 rfl (λvB=>hk _ _ .cons ?_);refine Ch.m 8 (aP λe aa hk=>?_);refine C.oh {m with aV:=s.me} rfl (λs'=>?_);refine hk _ _ ?_;refine Ch.m 12 (aP λe aa hk=>?_);refine C.st rfl (hk _ undef ?_);refine ee ?_;refine de.cls {s with waits:=s.waits++[{m with aV:=s.me}]} ?_;exact C.cQ aJ ai rfl
theorem nM{b:Nat}{s:cZ}{en:gZ}(hl:s.log.length<2^34):aB prog ao bG 200 #[aE b,en.val] [de b s]
  (λv As=>v=az s.log.length/\As=[de b {s with log:=s.log++[en]}]):=by
 refine aB.of λR C kd d F c cs aJ ai=>?_;refine bI ?_;refine de.opn (h:=λlg wt ot tm bv bl bp bd be bu tl ht=>?_);refine k7 ?_;refine C.n5 rfl (λTg=>?_);refine C.oh en rfl (λs'=>?_);refine ky ?_;refine C.mW rfl ?_ (s:=s') (l:=s.log++[en]);refine C.ar rfl ?_ (r:=s.log.length) (ha:=congrArg some (by simp)) (hr:=pq ak ak);refine bj ?_;refine de.cls {s with log:=s.log++[en]} ?_;exact C.a8 aJ ai ⟨rfl,rfl⟩
theorem Ib{b:Nat}{s:cZ}:aB prog ao bG 100 #[aE b] [de b s]
  (λv As=>∃ so:ax,v=so.v/\As=[aW bQ 7 190 so s.out,de b {s with out:=[]}]):=by
 refine aB.of λR C kd d F c cs aJ ai=>?_;refine bI ?_;refine de.opn (h:=λlg wt ot tm bv bl bp bd be bu tl ht=>?_);refine jW ?_;refine dm ?_;refine At.aG bQ 7 190 ?_;refine de.cls {s with out:=[]} ?_ (ot:=aG);exact C.a8 aJ ai ⟨ot,rfl,rfl⟩
abbrev Ni:=List cy×ax
def W8(v:Ni):Value:=v.2.v
abbrev PN(p:Int×Ni):HP:=aW cK 3 67 p.2.2 p.2.1
def wT(m:List (Int×Ni)):List (Int×List cy):=m.map λp=>(p.1,p.2.1)
def pE(m:List (Int×Ni))(k:Int):Ni:=(aC m k).getD ([],aG)
theorem PO(m:List (Int×Ni))(k:Int):((aC m k).map W8).getD (.slice none 0 0)=(pE m k).2.v:=by unfold pE;cases aC m k<;>rfl
theorem FK(m:List (Int×Ni))(k:Int):(pE m k).1=(aC (wT m) k).getD []:=by unfold pE wT;rw[uS (w:=λv:Ni=>v.1)];cases aC m k<;>rfl
variable{R:Nat->aQ->Array Obj->Prop}{d:Nat}{As L L2:List HP}{g:aQ}{m:List (Int×Ni)}{k:Int}
theorem At.aei(hf:Fo (all (m.map PN)) As L)(h:At R d (aW cK 3 67 (pE m k).2 (pE m k).1::all ((dQ m k).map PN)::L) g):At R d As g:=by
 unfold pE at h;cases hg:aC m k with
 |none=>
  rw[hg,Bp hg]at h;refine At.aG cK 3 67 (At.perm ?_ h);exact hf.perm.cons _
 |some v=>
  rw[hg]at h;exact Bo hg hf h
theorem At.aej{I:HL}(hf:Fo (all (m.map PN)) As L)(hi:Fo (a9 I) L L2)(h:∀ I',Sub I I'->(∀ p∈m,dX I' cK 67 p.2.2 p.2.1)->At R d (a9 I'::L2) g):At R d As g:=by
 induction m generalizing I As L with
 |nil=>
  refine At.fo hf λH s=>?_;exact(At.fo hi (h I (Sub.refl _) (by simp))) H s.drop
 |cons p m ih=>
  refine At.fo hf λH s=>?_;refine(show At R d (PN p::all (m.map PN)::a9 I::L2) g from ?_) H (Sat.under (λ_ s=>Sat.under (λ_ s=>s.perm hi.perm) s.fR) (Sat.flat (l:=PN p::m.map PN) s));refine At.JS (I:=I) (s:=p.2.2) (f:=cK) .head (.tail .head) λI1 h1 hs=>?_;refine ih (I:=I1) (As:=a9 I1::all (m.map PN)::L2) (L:=a9 I1::L2) (.tail .head) .head λI2 h2 hm=>?_;refine h I2 (h1.trans h2) λq hq=>?_;rcases gq.1 hq with rfl|hq
  ·exact hs.mono h2
  ·exact hm q hq
theorem FL(l:List cy)(o:cy)(n:Int):dB (l++[o]) n=bA (dB l n) (ie o.k n) ((aC (dB l n) (ie o.k n)).getD []++[o]):=by simp[dB]
theorem nh{I:HL}{so:ax}{ops:List cy}{n:Int}(ho:dX I cK 67 so ops)(hb:iX ops)(hn:1<=n):
  aB prog ao bG 202 #[so.v,az n] [a9 I] (λv As=>∃ b I' m,v=.map (some b)/\Sub I I'/\wT m=dB ops n/\(∀ p∈m,dX I' cK 67 p.2.2 p.2.1)/\As=[cW .i64 W8 b m,a9 I']):=by
 have hl:ops.length<2^20:=hb.2;refine aB.of λR C kd d F c cs aJ ai=>?_;refine sY ?_;refine C.mm .i64 W8 rfl (λb9=>?_);refine dV ?_;refine At.yB (show At R d (all (([]:List (Int×Ni)).map PN)::_) _ from ?_);refine C.bS (X:=Nat×List (Int×Ni)) (λx=>[(1,az n),(5,.map (some b9)),(10,so.v),(11,az ops.length),(12,az x.1)]) (λx=>all (x.2.map PN)::cW .i64 W8 b9 x.2::a9 I::F) (λx=>x.1<=ops.length/\wT x.2=dB (ops.take x.1) n/\∀ p∈x.2,p.2.1.length<=x.1) (λx=>ops.length-x.1) (0,[]) ⟨rfl,rfl,rfl,rfl,rfl,trivial⟩ ⟨eC _,rfl,by simp⟩ ?_;rintro⟨i,m⟩ e ⟨hi,hm,hlen⟩ ih;dsimp only at hi hm hlen⊢;refine bj ?_;refine C.cmp rfl (λre=>?_) (λre=>?_)
 ·refine bj ?_;have cG:i<ops.length:=by simpa using re
  have xq:=hb.1 _ (bC cG);refine bj ?_;refine C.lZ rfl (λhj=>?_);refine C.al rfl (λb7=>?_);refine C.po rfl ?_ (hv:=λv h=>fM.one (f:=cK) ops[i] v (by simpa using h));refine cF ?_;refine C.cE (vW (key:=ops[i].k) (n:=n) xq hn) ?_;refine pb ?_;refine bj ?_;have xn:(pE m (ie ops[i].k n)).1.length<=i:=by
   unfold pE;cases hg:aC m (ie ops[i].k n)with
   |none=>exact eC _
   |some v=>exact hlen _ (bU hg)
  refine At.aei (m:=m) (k:=ie ops[i].k n) Fo.au ?_;refine cF ?_;refine C.Y0 (co:=false) (g:=W8) (l:=m) (q:=ie ops[i].k n) rfl ?_;simp only[gR,eY];rw[PO];refine C.YX rfl ?_ (hz:=xa rfl) (hc:=rfl);refine C.n5 rfl (λb26=>?_);refine C.oh (s:=(pE m (ie ops[i].k n)).2) (l:=(pE m (ie ops[i].k n)).1) ops[i] rfl (λs2=>?_);refine C.mu (w:=((pE m (ie ops[i].k n)).1++[ops[i]],s2)) (l:=m) (q:=ie ops[i].k n) rfl ?_;refine cF ?_;refine E4 (f:=PN) (m:=m) (k:=ie ops[i].k n) ((pE m (ie ops[i].k n)).1++[ops[i]],s2) dJ.au ?_;refine again ih (i+1,bA m (ie ops[i].k n) ((pE m (ie ops[i].k n)).1++[ops[i]],s2)) ⟨cG,?_,λp hp=>?_⟩ (cD)
  ·rw[fq cG,FL,<- hm,<- FK];exact kN (λv:Ni=>v.1) m
  ·rcases dY hp with rfl|h
   ·simp;omega
   ·have:=hlen p h;dsimp only at this⊢;omega
 ·refine bj ?_;have e1:ops.take i=ops:=g5 (by simp at re;omega);rw[e1]at hm;refine At.aej (I:=I) (m:=m) Fo.au Fo.au λI' sx hs=>?_;refine cN ?_;exact C.a8 aJ ai ⟨b9,I',m,rfl,sx,hm,hs,rfl⟩
theorem dJ.skip{A:HP}{Bs As F:List HP}(r:dJ Bs As F):dJ Bs (A::As) (A::F):=by
 induction r with
 |nil=>exact .nil
 |cons f _ ih=>exact .cons (.tail f) ih
theorem dJ.aaP{F:List HP}:∀ A:List HP,dJ A (A++F) F
 |[]=>.nil
 |a::A=>.cons .head (dJ.aaP A)
theorem Fo.app{A:HP}{F:List HP}:∀ E:List HP,Fo A (E++A::F) (E++F)
 |[]=>.head
 |_::E=>.tail (Fo.app E)
theorem o3{f:bM}{fu:Func}{cd:Code}{nf:Nat}[bd:Body prog f fu cd nf]{a1 a2:Array Value}{b:Nat}{s:cZ}{I:HL}{so:ax}{ops:List cy}{E:List HP}{inv:Nat->cZ->HL->Prop}{Vk:dZ->Int->List cy->dZ}
  (ho:dX I cK 67 so ops) (hb:iX ops) (hn:1<=s.n/\s.n<=4) (h0:∀ I',Sub I I'->inv 0 s I') (hk:∀ k x I',inv k x I'->inv (k+1) x I')
  (hf:∀ (k:Nat) x I' sp part,Sub I I'->(k:Int)<s.n->inv k x I'->dX I' cK 67 sp part->part≠[]->part=(aC (dB ops s.n) k).getD []->aB prog ao bG f (a1++[az k,sp.v].toArray++a2) (de b x::a9 I'::E)
   (λv As=>∃ x' RE,Sub I' RE/\inv (k+1) x' RE/\x'.abs=Vk x.abs k part/\As=de b x'::a9 RE::E)):
  aB prog ao bG 197 #[aE b,so.v,.func (.func f) a1 a2] (de b s::a9 I::E)
   (λv As=>∃ x' I',Sub I I'/\inv s.n.toNat x' I'/\x'.abs=qO s.abs ops Vk/\As=de b x'::a9 I'::E):=by
 refine aB.of λR C kd d F c cs aJ ai=>?_;refine bI ?_;refine de.opn (h:=λlg wt ot tm bv bl bp bd be bu tl ht=>?_);refine dV ?_;refine C.dk (nh ho hb hn.1) ?_;rintro v aO ⟨bm,I1,m,rfl,fD,hm,hs,rfl⟩;refine Vh ?_;refine de.cls s ?_;refine C.bS (X:=Nat×cZ×HL) (λx=>[(0,aE b),(2,.func (.func f) a1 a2),(6,.map (some bm)),(18,az s.n),(19,az x.1)]) (λx=>de b x.2.1::a9 x.2.2::cW .i64 W8 bm m::(E++F))
  (λx=>(x.1:Int)<=s.n/\Sub I1 x.2.2/\inv x.1 x.2.1 x.2.2/\x.2.1.abs=((upto s.n).take x.1).foldl (λz k=>if((aC (dB ops s.n) k).getD []).isEmpty then z else Vk z k ((aC (dB ops s.n) k).getD [])) s.abs) (λx=>(s.n-x.1).toNat) (0,s,I1) ⟨rfl,rfl,rfl,rfl,rfl,trivial⟩ ⟨cD,Sub.refl _,h0 I1 fD,rfl⟩ ?_
 rintro⟨k,x,I2⟩ e ⟨zZ,kT,hinv,gm⟩ ih;dsimp only at zZ kT hinv gm⊢;refine bj ?_;refine C.cmp rfl (λuo=>?_) (λuo=>?_)
 ·refine bj ?_;have PQ:(k:Int)<s.n:=uo;have hpa:(pE m k).1=(aC (dB ops s.n) k).getD []:=by rw[FK,hm]
  have hps:dX I2 cK 67 (pE m k).2 (pE m k).1:=by
   unfold pE;cases hg:aC m k with
   |none=>exact .nil ..
   |some v=>exact(hs _ (bU hg)).mono kT
  generalize hpe:pE m k=pt at hpa hps;refine dV ?_;refine C.Y0 (co:=false) (g:=W8) (l:=m) (q:=(k:Int)) rfl ?_;simp only[gR,eY];rw[PO,hpe];refine cN ?_;refine C.mW rfl ?_ (s:=pt.2) (l:=pt.1) (f:=cK);refine C.cmp rfl (λum=>?_) (λum=>?_)
  ·refine dm ?_;refine C.U1 (hf k x I2 pt.2 pt.1 (fD.trans kT) PQ hinv hps (by intro h;rw[h]at um;simp at um) hpa) ?_ (hr:=.cons .head (.cons .head (dJ.skip (dJ.aaP E))));rintro v aO ⟨x',I3,Y9,aaQ,kU,rfl⟩;refine sY ?_;refine again ih (k+1,x',I3) ⟨cD,kT.trans Y9,aaQ,?_⟩ (cD) (hr:=.cons .head (.cons .head (.cons (Fo.app E) .refl)));rw[dg PQ,eO,<- gm,ks,ow,<- hpa,aq (by intro h;rw[sF]at h;rw[h]at um;simp at um),kU]
  ·refine dm ?_;refine again ih (k+1,x,I2) ⟨cD,kT,hk _ _ _ hinv,?_⟩ (cD);rw[dg PQ,eO,<- gm,ks,ow,<- hpa,aK (by rw[sF];exact NY ak)]
 ·refine bj ?_;have PQ:¬ (k:Int)<s.n:=uo;rw[oZ PQ]at gm;have hke:s.n.toNat=k:=ak;exact C.cQ (aO:=de b x::a9 I2::E) aJ ai ⟨x,I2,fD.trans kT,by rw[hke];exact hinv,gm,rfl⟩
theorem zg{tm:ax}{l:List kh}:aB prog ao bG 253 #[tm.v] [aW rW 4 263 tm l] (λv As=>v=az l.length/\As=[aW rW 4 263 tm l]):=by refine aB.of λR C kd d F c cs aJ ai=>?_;refine Vh ?_;exact C.a8 aJ ai ⟨rfl,rfl⟩
theorem rh{tm:ax}{l:List kh}{i j:Nat}(hi:i<l.length)(hj:j<l.length):aB prog ao bG 254 #[tm.v,az i,az j] [aW rW 4 263 tm l] (λv As=>∃ z,v=.bool z/\(z=true↔l6 (gA l i) (gA l j))/\As=[aW rW 4 263 tm l]):=by
 refine aB.of λR C kd d F c cs aJ ai=>?_;refine bI ?_;simp only[j5 hi,j5 hj]at ai;refine cN ?_;by_cases xv:l[i].tm≠l[j].tm
 ·refine C.dx (cm 7 0 11) 11 [] 0 ?_;refine gY ?_;refine Dr.p (λh=>C.eE rfl h (hf:=xv)) ?_;refine Dr.chain rfl ?_;refine oi ?_;by_cases h28:l[i].tm<l[j].tm
  ·refine C.dx (cm 18 0 11++[(6,11)]) 12 [] 0 ?_;refine gY ?_;refine Dr.p (λh=>C.eE rfl h (hf:=h28)) ?_;refine wS ?_;refine ee ?_;exact C.a8 aJ ai ⟨true,rfl,⟨λ_=>.inl h28,λ_=>rfl⟩,rfl⟩
  ·refine C.dx (cm 18 0 11++[(6,11)]) 12 [] 0 ?_;refine gY ?_;refine Dr.p (λh=>C.du rfl h (hf:=h28)) ?_;refine wS ?_;refine ee ?_;exact C.a8 aJ ai ⟨false,rfl,⟨nofun,λh=>by rcases h with h|h<;>omega⟩,rfl⟩
 ·refine C.dx (cm 7 0 11) 11 [] 0 ?_;refine gY ?_;refine Dr.p (λh=>C.du rfl h (hf:=xv)) ?_;refine Dr.chain rfl ?_;refine oi ?_;by_cases Nj:l[i].ord<l[j].ord
  ·refine C.dx (cm 29 0 11++[(6,11)]) 12 [] 0 ?_;refine gY ?_;refine Dr.p (λh=>C.eE rfl h (hf:=Nj)) ?_;refine wS ?_;refine ee ?_;exact C.a8 aJ ai ⟨true,rfl,⟨λ_=>.inr ⟨ak,Nj⟩,λ_=>rfl⟩,rfl⟩
  ·refine C.dx (cm 29 0 11++[(6,11)]) 12 [] 0 ?_;refine gY ?_;refine Dr.p (λh=>C.du rfl h (hf:=Nj)) ?_;refine wS ?_;refine ee ?_;exact C.a8 aJ ai ⟨false,rfl,⟨nofun,λh=>by rcases h with h|h<;>omega⟩,rfl⟩
theorem rj{tm:ax}{l:List kh}{i j:Nat}(hi:i<l.length)(hj:j<l.length):aB prog ao bG 255 #[tm.v,az i,az j] [aW rW 4 263 tm l] (λv As=>As=[aW rW 4 263 tm (CJ l i j)]):=by refine aB.of λR C kd d F c cs aJ ai=>?_;refine bI ?_;simp only[CJ,j5 hi,j5 hj]at ai;refine C.go ?_;refine C.dx (cm 6 0 13++[(19,14)]) 16 [13,14,15] 0 ?_;refine mB ?_;refine Dr.l (λhE h=>C.EO hj rfl h (s:=tm) (f:=rW)) ?_;refine qs ?_;refine Dr.l (λhE h=>C.EO hi rfl h (s:=tm) (f:=rW)) ?_;refine wS ?_;refine Ch.m 13 (aP λe aa hk=>?_);refine C.HD l[j] rfl (hk _ undef ?_) (j:=i);refine Ch.m 14 (aP λe aa hk=>?_);refine C.dT rfl (hk _ _ ?_) (hj:=by rw[cS];exact hj);refine Ch.m 15 (aP λe aa hk=>?_);refine C.HD l[i] rfl (hk _ undef ?_) (j:=j) (hj:=by rw[cS];exact hj);refine ee ?_;exact C.cQ aJ ai rfl
theorem FM{tm:ax}{l:List kh}{a:kh}{b off:Nat}{c:Array Value}(hc:c[off]? =some tm.v)(hl:l.length<2^34):aB prog ao bG 275 #[.pointer (some ⟨b,off,none⟩),.iface 263 (.agg (rW a).toArray)] [bX b (.cells c 180 (0,0)),aW rW 4 263 tm l]
  (λv As=>∃ zX:ax,As=[bX b (.cells (c.setIfInBounds off zX.v) 180 (0,0)),aW rW 4 263 zX (l++[a])]):=by
 refine aB.of λR C kd d F cc cs aJ ai=>?_;refine bI ?_;have hsz:off<c.size:=(gQ.1 hc).1;refine C.go ?_;refine C.dx (cm 4 0 9) 10 [6,7,9] 1 ?_;refine qs ?_;refine Dr.l (λhE h=>C.ld rfl h (hc:=hc)) ?_;refine k6 ?_;refine Dr.p (λh=>C.ta (ok:=false) underlying263 rfl rfl h) ?_;refine wS ?_;refine Ch.m 6 (aP λe aa hk=>?_);refine C.n5 rfl (λVl=>hk _ _ .cons ?_);refine Ch.m 7 (aP λe aa hk=>?_);refine C.oh a rfl (λs'=>?_);refine hk _ _ ?_;refine Ch.m 9 (aP λe aa hk=>?_);refine C.st rfl (hk _ undef ?_) (hz:=hsz);refine ee ?_;exact C.cQ aJ ai ⟨s',rfl⟩
theorem Ic{tm:ax}{l:List kh}{b off:Nat}{c:Array Value}(hc:c[off]? =some tm.v)(hl:0<l.length)(Kb:l.length<2^34):aB prog ao bG 274 #[.pointer (some ⟨b,off,none⟩)] [bX b (.cells c 180 (0,0)),aW rW 4 263 tm l]
  (λv As=>∃ zX:ax,v=.iface 263 (.agg (rW (gA l (l.length-1))).toArray)/\As=[bX b (.cells (c.setIfInBounds off zX.v) 180 (0,0)),aW rW 4 263 zX (l.take (l.length-1))]):=by
 refine aB.of λR C kd d F cc cs aJ ai=>?_;refine bI ?_;have hsz:off<c.size:=(gQ.1 hc).1;have dI:l.length-1<l.length:=ak;rw[j5 dI]at ai;refine At.xl (A:=aW rW 4 263 tm l) Fo.au (λh x=>qL hl h x) λhk=>?_;obtain⟨ht1,ht2,ht3⟩:=hk;refine dV ?_;refine C.ld rfl ?_ (hc:=hc);refine dm ?_;refine C.ar rfl ?_ (r:=((l.length-1:Nat):Int)) (ha:=congrArg some ak);refine fy ?_;refine C.EO dI rfl ?_ (s:=tm) (f:=rW);refine C.al rfl (λb4=>?_);refine C.po rfl ?_ (hv:=λv h=>fM.one (f:=rW) l[l.length-1] v (by simpa using h));refine dm ?_;refine C.ar rfl ?_ (r:=((l.length-1:Nat):Int)) (ha:=congrArg some ak);refine C.Wn rfl ?_ (hi:=((l.length-1:Nat):Int)) (hh:=by constructor<;>omega);rw[gy];refine fy ?_;refine C.st rfl ?_ (hz:=hsz);refine bj ?_;refine C.YX rfl ?_ (hz:=xa rfl) (hc:=rfl);refine da ?_;refine At.turn (A:=aW rW 4 263 tm l) Fo.au (CN (n:=l.length-1) ak) ?_;exact C.a8 aJ ai ⟨⟨tm.a,l.length-1,tm.cap⟩,rfl,rfl⟩
set_option maxRecDepth 100000 in
theorem Lz:∃ q,prog.types.size+Made.depth=q+1:=⟨prog.types.size+99,by unfold Made.depth;omega⟩
variable{tm:ax}{b off:Nat}{c:Array Value}
def Th(name:String)(f:bM)(tm:ax)(b off:Nat)(As:List HP):Prop:=∀ H d (Q:bM×Value->Array Obj->Nat->Prop),Sat As (hp H)->Q (f,tm.v) H d->dC prog bG (method (prog.types.size+Made.depth) 265 (.pointer (some ⟨b,off,none⟩)) name) H d Q
set_option maxRecDepth 100000 in
theorem PR{name:String}{f:bM}{m:Go.Method}(hf:t265.methods.find? (·.name==name)=some m)(hp0:m.path=#[])(hfu:m.func=some (f,false))(hc:c[off]? =some tm.v)(hh:Fo (bX b (.cells c 180 (0,0))) As L):Th name f tm b off As:=λH d Q s q=>by obtain⟨q0,hq0⟩:=Lz;rw[hq0];exact Lf (ay type265) hf hp0 hfu underlying265 ((s.perm hh.perm).get) hc rfl q
set_option maxRecDepth 100000 in
theorem Vm(hc:c[off]? =some tm.v)(hh:Fo (bX b (.cells c 180 (0,0))) As L):Th "Len" 253 tm b off As:=PR (m:=(t265.methods.find? (·.name== "Len")).getD default) (by kernel_rfl) (by kernel_rfl) (by kernel_rfl) hc hh
set_option maxRecDepth 100000 in
theorem Ie(hc:c[off]? =some tm.v)(hh:Fo (bX b (.cells c 180 (0,0))) As L):Th "Less" 254 tm b off As:=PR (m:=(t265.methods.find? (·.name== "Less")).getD default) (by kernel_rfl) (by kernel_rfl) (by kernel_rfl) hc hh
set_option maxRecDepth 100000 in
theorem Ig(hc:c[off]? =some tm.v)(hh:Fo (bX b (.cells c 180 (0,0))) As L):Th "Swap" 255 tm b off As:=PR (m:=(t265.methods.find? (·.name== "Swap")).getD default) (by kernel_rfl) (by kernel_rfl) (by kernel_rfl) hc hh
set_option maxRecDepth 100000 in
theorem W9:fJ prog (method (prog.types.size+Made.depth) 265 (.pointer (some ⟨b,off,none⟩)) "Push")=some (275,.pointer (some ⟨b,off,none⟩)):=by kernel_rfl
set_option maxRecDepth 100000 in
theorem aaT:fJ prog (method (prog.types.size+Made.depth) 265 (.pointer (some ⟨b,off,none⟩)) "Pop")=some (274,.pointer (some ⟨b,off,none⟩)):=by kernel_rfl
abbrev Xa(b off:Nat):Value:=.iface 265 (.pointer (some ⟨b,off,none⟩))
abbrev LA(b:Nat)(c:Array Value):HP:=bX b (.cells c 180 (0,0))
abbrev PS(tm:ax)(l:List kh):HP:=aW rW 4 263 tm l
theorem Db(j:Nat):((j:Int)-1).tdiv 2=(((j-1)/2:Nat):Int):=by
 cases j with
 |zero=>rfl
 |succ j=>
  have e:((j+1:Nat):Int)-1=(j:Int):=ak;rw[e,Nat.add_sub_cancel];exact Ju j 2 |>.symm
set_option maxRecDepth 100000 in
theorem PT{tm:ax}{l:List kh}{b off j:Nat}{ca:Array Value}(hc:ca[off]? =some tm.v)(hj:j<l.length)(hl:l.length<2^60)(hh:n6 l j):
  aB prog ao bG 215 #[Xa b off,az j] [LA b ca,PS tm l] (λv As=>∃ l',l'.Perm l/\gW l' l'.length/\As=[LA b ca,PS tm l']):=by
 refine aB.of λR C kd d F c cs aJ ai=>?_;refine k8 ?_;refine C.bS (X:=Nat×List kh) (λx=>[(0,Xa b off),(1,az x.1)]) (λx=>LA b ca::PS tm x.2::F) (λx=>x.1<x.2.length/\x.2.Perm l/\n6 x.2 x.1) (λx=>x.1) (j,l) ⟨rfl,rfl,trivial⟩ ⟨hj,.refl _,hh⟩ ?_;rintro⟨j,m⟩ e ⟨hj,hp,hh⟩ ih;dsimp only at hj hp hh⊢;have UT:m.length=l.length:=hp.length_eq;have U3:(j-1)/2<m.length:=ak;refine cN ?_;refine C.quo rfl ?_ (hr:=by rw[Db j];exact pq ak ak);rw[Db j];refine cF ?_;refine C.cmp rfl (λAA=>?_) (λAA=>?_)
 ·refine ky ?_;exact C.cQ aJ ai ⟨m,hp,hh.fin (.inl ak),rfl⟩
 ·refine cN ?_;refine C.U9 (Ie hc Fo.au) (rh (tm:=tm) (l:=m) (i:=j) (j:=(j-1)/2) hj U3) ?_;rintro v aO ⟨z,rfl,hz,rfl⟩;refine bI ?_;rcases fU z with rfl|rfl
  ·refine jL ?_;refine C.U9 (Ig hc Fo.au) (rj (tm:=tm) (l:=m) (i:=(j-1)/2) (j:=j) U3 hj) ?_;rintro v aO rfl;refine sY ?_;exact again ih ((j-1)/2,CJ m ((j-1)/2) j) ⟨by dsimp only;rw[xO];omega,(yO U3 hj).trans hp,hh.step hj rfl ak (hz.1 rfl)⟩ (cD)
  ·refine cN ?_;exact C.cQ aJ ai ⟨m,hp,hh.fin (.inr (λh=>by have:=hz.2 h;cases this)),rfl⟩
theorem PU{l:List kh}{i j n:Nat}(hi:i<n)(hj:j<n):(CJ l i j).drop n=l.drop n:=by unfold CJ;rw[Jv hj,Jv hi]
set_option maxRecDepth 100000 in
theorem Ih{tm:ax}{l:List kh}{b off n:Nat}{ca:Array Value}(hc:ca[off]? =some tm.v)(hn:n<=l.length)(hl:l.length<2^60)(hh:qU l n 0):
  aB prog ao bG 205 #[Xa b off,az 0,az n] [LA b ca,PS tm l] (λv As=>∃ l' z,v=.bool z/\l'.Perm l/\l'.drop n=l.drop n/\gW l' n/\As=[LA b ca,PS tm l']):=by
 refine aB.of λR C kd d F c cs aJ ai=>?_;refine Ls ?_;refine C.bS (X:=Nat×List kh) (λx=>[(0,Xa b off),(1,az 0),(2,az n),(7,az x.1)]) (λx=>LA b ca::PS tm x.2::F) (λx=>x.1<=n/\x.2.Perm l/\x.2.drop n=l.drop n/\qU x.2 n x.1) (λx=>n-x.1) (0,l) ⟨rfl,rfl,rfl,rfl,trivial⟩ ⟨eC _,.refl _,rfl,hh⟩ ?_;rintro⟨i,m⟩ e ⟨hi,hp,Dc,hh⟩ ih;dsimp only at hi hp Dc hh⊢;have UT:m.length=l.length:=hp.length_eq;refine da ?_;refine C.ar rfl ?_ (r:=2*(i:Int));refine C.ar rfl ?_ (r:=((2*i+1:Nat):Int)) (ha:=congrArg some ak);refine cF ?_;refine C.cmp rfl (λxv=>?_) (λxv=>?_)
 ·refine ky ?_;refine C.cmp rfl (λRF=>?_) (λRF=>?_)
  ·refine bj ?_;refine C.a8 aJ ai ⟨m,_,rfl,hp,Dc,hh.fin λk h0 hk HI=>?_,rfl⟩;omega
  ·refine bj ?_;refine C.a8 aJ ai ⟨m,_,rfl,hp,Dc,hh.fin λk h0 hk HI=>?_,rfl⟩;omega
 ·refine bj ?_;refine C.cmp rfl (λuo=>?_) (λuo=>?_)
  ·refine dm ?_;refine C.cmp rfl (λRF=>?_) (λRF=>?_)
   ·refine bj ?_;omega
   ·refine bj ?_;omega
  ·refine ky ?_;refine C.ar rfl ?_ (r:=((2*i+2:Nat):Int)) (ha:=congrArg some ak);refine bj ?_;apply kI (X:=Nat) (λj=>j<n/\0<j/\i=(j-1)/2/\∀ k,0<k->k<n->(k-1)/2=i->uj m k j) (λj=>[(0,Xa b off),(1,az 0),(2,az n),(7,az i),(9,az j)]) (λ_=>LA b ca::PS tm m::F) (R:=R) (d:=d) (fn:=205) (kd:=kd) (n:=48) (ds:=[]) (cs:=c::cs)
   ·intro Dd;have W1:2*i+1<n:=ak;refine da ?_;refine C.cmp rfl (λum=>?_) (λum=>?_)
    ·refine cN ?_;refine C.U9 (Ie hc Fo.au) (rh (tm:=tm) (l:=m) (i:=2*i+2) (j:=2*i+1) ak ak) ?_;rintro v aO ⟨z,rfl,hz,rfl⟩;refine bI ?_;rcases fU z with rfl|rfl
     ·refine dV ?_;refine bN Dd (2*i+2) ⟨ak,ak,by omega,λk h0 hk HI=>?_⟩;have Xb:=hz.1 rfl;rcases(show k=2*i+1\/k=2*i+2 by omega)with rfl|rfl
      ·unfold uj;unfold l6 at Xb⊢;omega
      ·unfold uj l6;omega
     ·refine da ?_;refine bN Dd (2*i+1) ⟨ak,ak,by omega,λk h0 hk HI=>?_⟩;have Xb:¬ l6 (gA m (2*i+2)) (gA m (2*i+1)):=λh=>by have:=hz.2 h;cases this
      rcases(show k=2*i+1\/k=2*i+2 by omega)with rfl|rfl
      ·unfold uj l6;omega
      ·exact Xb
    ·refine jL ?_;refine bN Dd (2*i+1) ⟨ak,ak,by omega,λk h0 hk HI=>?_⟩;obtain rfl:k=2*i+1:=ak;unfold uj l6;omega
   ·rintro j ⟨hjn,M7,C3,Am⟩ e;refine cN ?_;refine C.U9 (Ie hc Fo.au) (rh (tm:=tm) (l:=m) (i:=j) (j:=i) ak ak) ?_;rintro v aO ⟨z,rfl,hz,rfl⟩;refine bI ?_;rcases fU z with rfl|rfl
    ·refine dV ?_;refine C.U9 (Ig hc Fo.au) (rj (tm:=tm) (l:=m) (i:=i) (j:=j) ak ak) ?_;rintro v aO rfl;refine sY ?_;exact again ih (j,CJ m i j) ⟨cD,(yO ak ak).trans hp,(PU ak hjn).trans Dc,hh.step ak hjn M7 C3 Am (hz.1 rfl)⟩ (cD)
    ·refine dm ?_;refine C.cmp rfl (λRF=>?_) (λRF=>?_)
     ·refine bj ?_;refine C.a8 aJ ai ⟨m,_,rfl,hp,Dc,hh.fin λk h0 hk HI=>?_,rfl⟩;have Xb:¬ l6 (gA m j) (gA m i):=λh=>by have:=hz.2 h;cases this
      have h2:=Am k h0 hk HI;unfold uj at h2⊢;unfold l6 at*;omega
     ·refine bj ?_;refine C.a8 aJ ai ⟨m,_,rfl,hp,Dc,hh.fin λk h0 hk HI=>?_,rfl⟩;have Xb:¬ l6 (gA m j) (gA m i):=λh=>by have:=hz.2 h;cases this
      have h2:=Am k h0 hk HI;unfold uj at h2⊢;unfold l6 at*;omega
set_option maxRecDepth 100000 in
theorem Ii{tm:ax}{l:List kh}{a:kh}{b off:Nat}{ca:Array Value}(hc:ca[off]? =some tm.v)(hl:l.length<2^34)(hh:gW l l.length):
  aB prog ao bG 207 #[Xa b off,.iface 263 (.agg (rW a).toArray)] [LA b ca,PS tm l] (λv As=>∃ zX l',l'.Perm (l++[a])/\gW l' l'.length/\As=[LA b (ca.setIfInBounds off zX.v),PS zX l']):=by
 refine aB.of λR C kd d F c cs aJ ai=>?_;refine bI ?_;have hsz:off<ca.size:=(gQ.1 hc).1;refine cN ?_;refine C.Y7 W9 (FM (a:=a) hc hl) ?_;rintro v aO ⟨zX,rfl⟩;refine bI ?_;have kx:(ca.setIfInBounds off zX.v)[off]? =some zX.v:=by simp[hsz]
 refine cN ?_;refine C.U9 (Vm kx Fo.au) (zg (tm:=zX) (l:=l++[a])) ?_;rintro v aO ⟨rfl,rfl⟩;refine bI ?_;refine C.ar rfl ?_ (r:=(l.length:Int)) (ha:=congrArg some (by simp)) (hr:=pq ak ak);refine C.dk (PT kx (l:=l++[a]) (j:=l.length) (by simp) (by rw[ji,lL];omega) (n6.push hh a)) ?_;rintro v aO ⟨l',hp,Wm,rfl⟩;refine k8 ?_;exact C.cQ aJ ai ⟨zX,l',hp,Wm,rfl⟩
set_option maxRecDepth 100000 in
theorem LB{tm:ax}{l:List kh}{b off:Nat}{ca:Array Value}(hc:ca[off]? =some tm.v)(h0:0<l.length)(hl:l.length<2^34)(hh:gW l l.length):
  aB prog ao bG 177 #[Xa b off] [LA b ca,PS tm l] (λv As=>∃ zX l',v=.iface 263 (.agg (rW (gA l 0)).toArray)/\l.Perm (gA l 0::l')/\gW l' l'.length/\As=[LA b (ca.setIfInBounds off zX.v),PS zX l']):=by
 refine aB.of λR C kd d F c cs aJ ai=>?_;refine bI ?_;obtain⟨q,hq⟩:∃ q,l.length=q+1:=⟨l.length-1,ak⟩;have hlen:(CJ l 0 q).length=q+1:=by rw[xO];exact hq
 refine dm ?_;refine C.U9 (Vm hc Fo.au) (zg (tm:=tm) (l:=l)) ?_;rintro v aO ⟨rfl,rfl⟩;refine bI ?_;refine C.ar rfl ?_ (r:=(q:Int)) (ha:=congrArg some ak);refine cF ?_;refine C.U9 (Ig hc Fo.au) (rj (tm:=tm) (l:=l) (i:=0) (j:=q) ak ak) ?_;rintro v aO rfl;refine sX ?_;refine C.dk (Ih hc (l:=CJ l 0 q) (n:=q) ak ak (gW.out (by rw[<- hq];exact hh) ak)) ?_;rintro v aO ⟨m,z,rfl,hp,Dc,Wm,rfl⟩;refine bI ?_;have UT:m.length=q+1:=hp.length_eq.trans hlen;refine da ?_;refine C.Y7 aaT (Ic (l:=m) hc ak ak) ?_;rintro v aO ⟨zX,rfl,rfl⟩;refine jI ?_;have hg:gA m q=gA l 0:=by
  have h1:m.drop q=[gA m q]:=by rw[i7 ak,j5 ak,qy ak]
  have h2:(CJ l 0 q).drop q=[gA (CJ l 0 q) q]:=by rw[i7 ak,j5 ak,qy ak]
  rw[h1,h2,xP ak ak,aK rfl]at Dc;exact(AX Dc).1
 have hmq:m.length-1=q:=ak;refine C.a8 aJ ai ⟨zX,m.take (m.length-1),?_,?_,?_,rfl⟩
 ·rw[<- hg,hmq]
 ·rw[<- hg,hmq];refine((yO ak ak).symm.trans hp.symm).trans ?_;have h1:m=m.take q++[gA m q]:=by
   conv=>lhs;rw[<- wz q m,i7 ak,qy ak]
   rw[j5 ak]
  conv=>lhs;rw[h1]
  exact NK _ _
 ·rw[hmq,iz,Ae ak];exact gW.take Wm
abbrev jJ(s:cZ)(tx ticks:Int)(again:Bool):cZ:={s with order:=s.order+1,timers:=s.timers++[⟨s.clock+ticks,s.order+1,tx,again⟩]}
theorem ni(s:cZ)(tx ticks:Int)(again:Bool):(jJ s tx ticks again).abs=jm s.abs tx ticks again:=by simp[jJ,jm,cZ.abs,kh.qq]
set_option maxRecDepth 100000 in
theorem km{b:Nat}{s:cZ}{tx ticks:Int}{again:Bool}(hl:s.timers.length<2^34)(ho:0<=s.order/\s.order<2^62)(hc:0<=s.clock/\s.clock<2^62)(ht:0<=ticks/\ticks<=4):
  aB prog ao bG 180 #[aE b,az tx,az ticks,.bool again] [de b s] (λv As=>As=[de b (jJ s tx ticks again)]):=by
 refine aB.of λR C kd d F c cs aJ ai=>?_;refine bI ?_;refine de.opn (h:=λlg wt ot tm bv bl bp bd be bu tl htj=>?_);have PW:tl.length=s.timers.length:=htj.perm.length_eq;refine zb ?_;refine C.dx (cm 17 0 22) 22 [21] 0 ?_;refine HZ ?_;refine Dr.p (λh=>C.mi rfl h) ?_;refine gY ?_;refine Lr ?_;refine Dr.p (λh=>C.mi rfl h) ?_;refine Dr.chain rfl ?_;refine Ch.m 21 (aP λe aa hk=>?_);refine C.dk (Ii (tm:=tm) (l:=tl) (a:=⟨s.clock+ticks,s.order+1,tx,again⟩) rfl ak htj.heap) ?_;rintro v aO ⟨zX,l',hp,hh,rfl⟩;refine bI ?_;refine hk _ _ ?_;refine ee ?_;refine de.cls (jJ s tx ticks again) ?_ (ht:=oQ.push htj rfl hp hh);exact C.cQ aJ ai rfl
structure wU(o a:Int)(s:cZ):Prop where
 z:0<=a
 o:0<=s.order/\s.order<=o
 a:∀ u∈s.cq,∀ p∈u.2.bK,0<=p.2/\p.2<=a
structure qm(s:cZ):Prop where
 n:1<=s.n/\s.n<=4
 log:s.log.length<2^30
 aX:0<=s.aX/\s.aX<=s.log.length
 timers:s.timers.length<2^15
 waits:s.waits.length<2^30
 out:s.out.length<2^30
 clock:0<=s.clock/\s.clock<2^60
 order:0<=s.order/\s.order<2^61
 zh:∀ u∈s.cq,iX u.2.ops
 bK:∀ u∈s.cq,∀ p∈u.2.bK,0<=p.2/\p.2<2^61
 aaW:∀ tx p,aC s.bB tx=some p->iX p.ops
 dpl:∀ tx p,aC s.cf tx=some p->0<=p.pl/\p.pl<s.log.length
def gn(b:Nat)(I:HL)(o a:Int)(r:dZ):Value->List HP->Prop:=λv As=>∃ I' s',Sub I I'/\ShJ I' s'/\s'.abs=r/\wU o a s'/\As=[de b s',a9 I']
theorem Ij(m:List (Int×Int))(k:Int):((aC m k).map ff).getD (.int .i32 0)=.int .i32 ((aC m k).getD 0):=by cases aC m k<;>rfl
theorem tX(m:List (Int×Int))(k:Int):((aC m k).map dS).getD (az 0)=az ((aC m k).getD 0):=by cases aC m k<;>rfl
theorem zi(V:List (Int×Int))(l:List cy)(o:cy):iu V (l++[o])=if o.w then iu V l else iu V l++[(aC V o.k).getD 0]:=by unfold iu;cases h:o.w<;>simp[nE,h]
theorem zj{I:HL}{b:Nat}{s:cZ}{so:ax}{ops:List cy}(ho:dX I cK 67 so ops)(hb:iX ops):
  aB prog ao bG 199 #[aE b,so.v] [de b s,a9 I] (λv As=>∃ s':ax,v=s'.v/\As=[aW dv 1 21 s' (iu s.values ops),de b s,a9 I]):=by
 have hl:=hb.2;refine aB.of λR C kd d F c cs aJ ai=>?_;refine bI ?_;refine de.opn (h:=λlg wt ot tm bv bl bp bd be bu tl ht=>?_);refine At.aG dv 1 21 ?_;refine oW ?_;refine C.bS (X:=Nat×ax) (λx=>[(0,aE b),(5,x.2.v),(8,so.v),(9,az ops.length),(10,az x.1)]) (λx=>aW dv 1 21 x.2 (iu s.values (ops.take x.1))::Lx b s lg wt ot tm bv bl bp bd be bu tl (a9 I::F)) (λx=>x.1<=ops.length) (λx=>ops.length-x.1) (0,aG) ⟨rfl,rfl,rfl,rfl,rfl,trivial⟩ (eC _) ?_ (hI:=.refl);rintro⟨i,s1⟩ e hi ih;dsimp only at hi⊢;refine bj ?_;refine C.cmp rfl (λq7=>?_) (λq7=>?_)
 ·refine bj ?_;have cG:i<ops.length:=by simpa using q7
  have D5:(iu s.values (ops.take i)).length<=i:=by have:=pN (λo:cy=> !o.w) (ops.take i);simp only[iu,dd,iz]at this⊢;omega
  refine bj ?_;refine C.lZ rfl (λhj=>?_);refine C.al rfl (λb7=>?_);refine C.po rfl ?_ (hv:=λv h=>fM.one (f:=cK) ops[i] v (by simpa using h));refine cN ?_;generalize hw:ops[i].w=z;rcases fU z with rfl|rfl
  ·refine dV ?_;refine again ih (i+1,s1) cG (cD) (hr:=?_);rw[fq cG,zi,aK hw];exact bZ.au
  ·refine da ?_;have oL:=Ij s.values ops[i].k;refine C.dx (cm 17 0 11++[(5,11)]) 12 [9,10,11] 1 ?_;refine Eb ?_;refine Dr.l (λhE h=>C.E7 oL rfl h) ?_;refine Dr.chain rfl ?_;refine Ch.m 9 (aP λe aa hk=>?_);refine C.n5 rfl (λb26=>hk _ _ .cons ?_);refine Ch.m 10 (aP λe aa hk=>?_);refine C.oh (s:=s1) (l:=iu s.values (ops.take i)) ((aC s.values ops[i].k).getD 0) rfl (λs2=>?_);refine hk _ _ ?_;refine Ch.q 11 (λh=>C.lh rfl h) ?_;refine vT ?_;refine again ih (i+1,s2) cG (cD) (hr:=?_);rw[fq cG,zi,aq (by rw[hw];decide)];exact bZ.au
 ·refine dm ?_;have e1:ops.take i=ops:=g5 (by simp at q7;omega);rw[e1];refine de.cls s ?_;exact C.a8 aJ ai ⟨s1,rfl,rfl⟩
abbrev u7(s:cZ)(tx home:Int)(ops:List cy)(so:ax)(pl:Int):cZ:={s with aH:=ops.foldl (λl o=>bA l o.k tx) s.aH,bB:=bA s.bB tx ⟨pl,home,ops,so⟩}
theorem BF(s:cZ)(tx home:Int)(ops:List cy)(so:ax)(pl:Int):(u7 s tx home ops so pl).abs=sP s.abs tx home ops pl:=by unfold sP cZ.abs;simp only[dZ.mk.injEq,yf,mN];exact kN qk.abs s.bB
theorem Il{I:HL}{b:Nat}{s:cZ}{so:ax}{ops:List cy}{tx home pl:Int}(ho:dX I cK 67 so ops)(hb:iX ops):
  aB prog ao bG 182 #[aE b,az tx,az home,so.v,az pl] [de b s,a9 I] (λv As=>As=[de b (u7 s tx home ops so pl),a9 I]):=by
 have hl:=hb.2;refine aB.of λR C kd d F c cs aJ ai=>?_;refine bI ?_;refine de.opn (h:=λlg wt ot tm bv bl bp bd be bu tl ht=>?_);refine dm ?_;refine C.bS (X:=Nat×List (Int×Int)) (λx=>[(0,aE b),(1,az tx),(2,az home),(3,so.v),(4,az pl),(12,so.v),(13,az ops.length),(14,az x.1)]) (λx=>Lx b {s with aH:=x.2} lg wt ot tm bv bl bp bd be bu tl (a9 I::F)) (λx=>x.1<=ops.length/\x.2=(ops.take x.1).foldl (λl o=>bA l o.k tx) s.aH) (λx=>ops.length-x.1) (0,s.aH) ⟨rfl,rfl,rfl,rfl,rfl,rfl,rfl,rfl,trivial⟩ ⟨eC _,rfl⟩ ?_ (hI:=.refl);rintro⟨i,lk⟩ e ⟨hi,oL⟩ ih;dsimp only at hi oL⊢;refine bj ?_;refine C.cmp rfl (λnz=>?_) (λnz=>?_)
 ·refine bj ?_;have cG:i<ops.length:=by simpa using nz
  refine bj ?_;refine C.lZ rfl (λhj=>?_);refine C.al rfl (λTg=>?_);refine C.po rfl ?_ (hv:=λv h=>fM.one (f:=cK) ops[i] v (by simpa using h));refine C.go ?_;refine C.dx (cm 18 0 8) 9 [8] 0 ?_;refine Lu ?_;refine Ch.m 8 (aP λe aa hk=>?_);refine C.mu (w:=tx) (l:=lk) (q:=ops[i].k) rfl (hk _ undef ?_);refine vT ?_;refine again ih (i+1,bA lk ops[i].k tx) ⟨cG,?_⟩ (cD);rw[fq cG,eO,<- oL];rfl
 ·refine bj ?_;have e1:ops.take i=ops:=g5 (by simp at nz;omega);rw[e1]at oL;subst oL;refine k7 ?_;refine C.mu (w:=qk.mk pl home ops so) (l:=s.bB) (q:=tx) rfl ?_;refine C.go ?_;refine de.cls (u7 s tx home ops so pl) ?_;exact C.cQ aJ ai rfl
def jc(s:cZ)(tx:Int):qk:=(aC s.bB tx).getD ⟨0,0,[],aG⟩
theorem Kg(s:cZ)(tx:Int):((aC s.bB tx).map tT).getD (.agg #[az 0,az 0,.slice none 0 0])=tT (jc s tx):=by unfold jc;cases aC s.bB tx<;>rfl
theorem LC(s:cZ)(tx:Int):(jc s tx).ops=((aC s.abs.bB tx).map (·.ops)).getD []:=by show _=((aC (s.bB.map λp=>(p.1,p.2.abs)) tx).map (·.ops)).getD [];rw[uS qk.abs];unfold jc;cases aC s.bB tx<;>rfl
theorem ShJ.jc{I:HL}{s:cZ}(h:ShJ I s)(tx:Int):dX I cK 67 (jc s tx).so (jc s tx).ops:=by
 unfold Go.Sl.jc;cases hg:aC s.bB tx with
 |none=>exact .nil ..
 |some p=>exact h.bB _ (bU hg)
abbrev mD(s:cZ)(tx:Int)(yes:Bool)(pl:Int):cZ:=
 {s with values:=(jc s tx).ops.foldl (λv o=>if yes&&o.w then bA v o.k o.v else v) s.values,aH:=(jc s tx).ops.foldl (λl o=>dQ l o.k) s.aH,bB:=dQ s.bB tx,done:=bA s.done tx ⟨pl,yes⟩}
theorem wV(s:cZ)(tx:Int)(yes:Bool)(pl:Int):(mD s tx yes pl).abs=py s.abs tx yes pl:=by have e1:=E5 (k:=tx) qk.abs s.bB;unfold py;simp only[<- LC];unfold cZ.abs;simp only[dZ.mk.injEq,yf,mN];exact e1
theorem pF{I:HL}{b:Nat}{s:cZ}{tx pl:Int}{yes:Bool}(hJ:ShJ I s)(hb:(jc s tx).ops.length<2^30):
  aB prog ao bG 183 #[aE b,az tx,.bool yes,az pl] [de b s,a9 I] (λv As=>As=[de b (mD s tx yes pl),a9 I]):=by
 refine aB.of λR C kd d F c cs aJ ai=>?_;refine bI ?_;refine de.opn (h:=λlg wt ot tm bv bl bp bd be bu tl ht=>?_);have Xc:=Kg s tx;have ho:=hJ.jc tx;have hfx:mD s tx yes pl={s with values:=(jc s tx).ops.foldl (λv o=>if yes&&o.w then bA v o.k o.v else v) s.values,aH:=(jc s tx).ops.foldl (λl o=>dQ l o.k) s.aH,bB:=dQ s.bB tx,done:=bA s.done tx ⟨pl,yes⟩}:=rfl;rw[hfx]at ai;clear hfx;generalize jc s tx=p at Xc ho hb ai;obtain⟨ppl,ph,ops,so⟩:=p;dsimp only at ho hb ai;refine jL ?_;refine C.E7 Xc rfl ?_;refine C.al rfl (λb8=>?_);refine jL ?_;refine C.bS (X:=Nat×List (Int×Int)×List (Int×Int)) (λx=>[(0,aE b),(1,az tx),(2,.bool yes),(3,az pl),(19,so.v),(20,az ops.length),(21,az x.1)]) (λx=>Lx b {s with values:=x.2.1,aH:=x.2.2} lg wt ot tm bv bl bp bd be bu tl (a9 I::F)) (λx=>x.1<=ops.length/\x.2.1=(ops.take x.1).foldl (λv o=>if yes&&o.w then bA v o.k o.v else v) s.values/\x.2.2=(ops.take x.1).foldl (λl o=>dQ l o.k) s.aH) (λx=>ops.length-x.1) (0,s.values,s.aH) ⟨rfl,rfl,rfl,rfl,rfl,rfl,rfl,trivial⟩ ⟨eC _,rfl,rfl⟩ ?_;rintro⟨i,va,lk⟩ e ⟨hi,LD,oL⟩ ih;dsimp only at hi LD oL⊢;refine bj ?_;refine C.cmp rfl (λvZ=>?_) (λvZ=>?_)
 ·refine bj ?_;have cG:i<ops.length:=by simpa using vZ
  refine bj ?_;refine C.lZ rfl (λhj=>?_);refine C.al rfl (λVl=>?_);refine C.po rfl ?_ (hv:=λv h=>fM.one (f:=cK) ops[i] v (by simpa using h));refine cN ?_;rcases fU yes with rfl|rfl
  ·refine bj ?_;generalize hw:ops[i].w=z;rcases fU z with rfl|rfl
   ·refine da ?_;refine C.dx (cm 30 0 9) 10 [9] 0 ?_;refine Nh ?_;refine Ch.m 9 (aP λe aa hk=>?_);refine C.mu (w:=ops[i].v) (l:=va) (q:=ops[i].k) rfl (hk _ undef ?_);refine ee ?_;refine C.dx (cm 39 0 7) 8 [7] 0 ?_;refine Ng ?_;refine Ch.m 7 (aP λe aa hk=>?_);refine C.dl (l:=lk) (q:=ops[i].k) rfl (hk _ undef ?_);refine vT ?_;refine again ih (i+1,bA va ops[i].k ops[i].v,dQ lk ops[i].k) ⟨cG,?_,?_⟩ (cD)
    ·rw[fq cG,eO,<- LD,ks,ow,aK (by rw[hw];rfl)]
    ·rw[fq cG,eO,<- oL];rfl
   ·refine da ?_;refine C.dx (cm 39 0 7) 8 [7] 0 ?_;refine Ng ?_;refine Ch.m 7 (aP λe aa hk=>?_);refine C.dl (l:=lk) (q:=ops[i].k) rfl (hk _ undef ?_);refine vT ?_;refine again ih (i+1,va,dQ lk ops[i].k) ⟨cG,?_,?_⟩ (cD)
    ·rw[fq cG,eO,<- LD,ks,ow,aq (by rw[hw];decide)]
    ·rw[fq cG,eO,<- oL];rfl
  ·refine cF ?_;refine C.dx (cm 39 0 7) 8 [7] 0 ?_;refine Ng ?_;refine Ch.m 7 (aP λe aa hk=>?_);refine C.dl (l:=lk) (q:=ops[i].k) rfl (hk _ undef ?_);refine vT ?_;refine again ih (i+1,va,dQ lk ops[i].k) ⟨cG,?_,?_⟩ (cD)
   ·rw[fq cG,eO,<- LD,ks,ow,aq (by simp)]
   ·rw[fq cG,eO,<- oL];rfl
 ·refine bj ?_;have e1:ops.take i=ops:=g5 (by simp at vZ;omega);rw[e1]at LD oL;subst LD oL;refine dV ?_;refine C.dl rfl ?_;refine k7 ?_;refine C.mu (w:=gV.mk pl yes) (l:=s.done) (q:=tx) rfl ?_;refine C.go ?_;refine de.cls {s with values:=ops.foldl (λv o=>if yes&&o.w then bA v o.k o.v else v) s.values,aH:=ops.foldl (λl o=>dQ l o.k) s.aH,bB:=dQ s.bB tx,done:=bA s.done tx ⟨pl,yes⟩} ?_;exact C.cQ aJ ai rfl
theorem mE{b:Nat}{ca:Array Value}{lg:ax}{l:List gZ}{en:gZ}(hc:ca[3]? =some lg.v)(hl:l.length<2^34):aB prog ao bG 200 #[aE b,en.val] [LA b ca,aW n9 1 272 lg l]
  (λv As=>∃ Za:ax,v=az l.length/\As=[LA b (ca.setIfInBounds 3 Za.v),aW n9 1 272 Za (l++[en])]):=by
 refine aB.of λR C kd d F c cs aJ ai=>?_;refine bI ?_;have hsz:3<ca.size:=(gQ.1 hc).1;refine ky ?_;refine C.ld rfl ?_ (hc:=hc);refine fy ?_;refine C.n5 rfl (λTg=>?_);refine C.oh en rfl (λs'=>?_);refine bj ?_;refine C.st rfl ?_ (hz:=hsz);refine cF ?_;refine C.ld rfl ?_ (hc:=show(ca.setIfInBounds 3 s'.v)[3]? =some s'.v by simp[hsz]);refine C.mW rfl ?_ (s:=s') (l:=l++[en]);refine C.ar rfl ?_ (r:=l.length) (ha:=congrArg some (by simp)) (hr:=pq ak ak);refine bj ?_;exact C.a8 aJ ai ⟨s',rfl,rfl⟩
theorem iZ{V W:Type}(w:V->W)(m:List (Int×V))(k:Int):aC (m.map λp=>(p.1,w p.2)) k=(aC m k).map w:=uS w m
theorem BG{s:dZ}{m:MsgR}{d:gV}(h:aC s.cf m.tx=some d):Ar s m=if d.pl<s.aX then eP s {bq with kind:=4,to:=m.aV,tx:=m.tx,yes:=d.yes}else s:=by unfold Ar;rw[h]
theorem wa{s:dZ}{m:MsgR}(h:aC s.cf m.tx=none):Ar s m=if(aC s.cq m.tx).isSome then s else iG {s with log:=s.log++[.dec m.tx false []],cf:=bA s.cf m.tx ⟨s.log.length,false⟩} {bq with kind:=4,to:=m.aV,tx:=m.tx}:=by unfold Ar;rw[h]
theorem wU.same{o a:Int}{s s':cZ}(h:wU o a s)(h1:s'.order=s.order)(h2:s'.cq=s.cq):wU (o+1) (a+1) s':=⟨by have:=h.z;omega,by rw[h1];have:=h.o;omega,λu hu p hp=>by rw[h2]at hu;have:=h.a u hu p hp;omega⟩
theorem ShJ.outs{I:HL}{s:cZ}(h:ShJ I s){m:cu}(hm:ku I m):ShJ I {s with out:=s.out++[m]}:=⟨h.log,h.bB,h.cq,h.waits,λx hx=>by
 rcases cg.1 hx with hx|hx
 ·exact h.out x hx
 ·obtain rfl:=dN.1 hx;exact hm⟩
theorem ShJ.wait{I:HL}{s:cZ}(h:ShJ I s){m:cu}(hm:ku I m):ShJ I {s with waits:=s.waits++[m]}:=⟨h.log,h.bB,h.cq,λx hx=>by
 rcases cg.1 hx with hx|hx
 ·exact h.waits x hx
 ·obtain rfl:=dN.1 hx;exact hm,h.out⟩
theorem ShJ.zk{I:HL}{s:cZ}(h:ShJ I s){e:gZ}(he:e.J I):ShJ I {s with log:=s.log++[e]}:=⟨λx hx=>by
 rcases cg.1 hx with hx|hx
 ·exact h.log x hx
 ·obtain rfl:=dN.1 hx;exact he,h.bB,h.cq,h.waits,h.out⟩
theorem ku.nil(I:HL)(m:MsgR)(ho:m.ops=[])(hr:m.reads=[]):ku I ⟨m,aG,aG⟩:=⟨by dsimp only;rw[ho];exact .nil ..,by dsimp only;rw[hr];exact .nil ..,by dsimp only;rw[hr];decide⟩
abbrev l8(b:Nat)(m:cu):HP:=bX b (.cells #[az m.kind,az m.aV,az m.to,az m.tx,.bool m.yes,m.so.v,m.sr.v] 190 (0,0))
theorem LF{I:HL}{b:Nat}{s:cZ}{m:cu}{o a:Int}(hJ:ShJ I s)(hb:qm s)(hC:wU o a s):
  aB prog ao bG 175 #[aE b,q9 m] [de b s,a9 I] (gn b I (o+1) (a+1) (Ar s.abs m.toMsgR)):=by
 have jV:=hb.log;have jg:=hb.out;have De:=hb.waits;refine aB.of λR C kd d F c cs aJ ai=>?_;refine bI ?_;refine de.opn (h:=λlg wt ot tm bv bl bp bd be bu tl ht=>?_);refine bj ?_;refine C.bx rfl (λb3=>?_);refine C.go ?_;cases oj:(aC s.cf m.tx)
 ·refine C.dx (cm 7 0 8++[(6,8)]++[(15,9),(16,10)]++[(4,11)]++[(5,13)]) 14 [11,12] 1 ?_;refine mB ?_;refine Dr.l (λhE h=>C.Hw oj rfl h) ?_;refine G7 ?_;refine Ch.m 11 (aP λe aa hk=>?_);refine C.al rfl (λb4=>hk _ _ .cons ?_);refine Ch.m 12 (aP λe aa hk=>?_);refine C.po rfl (hk _ undef ?_);refine ee ?_;refine C.dx (cm 39 0 10++[(38,10)]) 11 [] 0 ?_;refine H4 ?_;refine oi ?_;cases Kh:(aC s.cq m.tx)
  ·refine C.dx (cm 59 0 12++[(58,12)]) 13 [] 0 ?_;refine S8 ?_;refine Dr.l (λhE h=>C.Hw Kh rfl h) ?_;refine Dr.p (λh=>C.Ld rfl h) ?_;refine xr ?_;refine oi ?_;refine C.wR (cm 17 0 14) 15 [4,12,13,14] 3 ?_ (W:=[l8 b3 m]);refine gY ?_;refine Dr.p (λh=>C.mi rfl h) ?_;refine Dr.chain rfl ?_ (λ_ s=>bZ.sat bZ.au s);refine Ch.n2 (t:=4) (u:=12) rfl ?_ ?_
   ·refine aP λe aa hk=>?_;refine C.ld rfl (hk _ _ .refl ?_);refine Ch.m 12 (aP λe aa hk=>?_);refine C.dk (mE (en:=.dec m.tx false [] aG) (l:=s.log) (lg:=lg) rfl ak) ?_;rintro v aO ⟨Za,rfl,rfl⟩;refine bI ?_;refine hk _ _ lU ?_;refine Ch.q 13 (λh=>C.bd rfl h) ?_;refine Ch.m 14 (aP λe aa hk=>?_);refine C.mu (w:=gV.mk s.log.length false) (l:=s.cf) (q:=m.tx) rfl ?_;refine hk _ undef lU ?_;refine ee ?_;refine de.cls {s with log:=s.log++[.dec m.tx false [] aG],cf:=bA s.cf m.tx ⟨s.log.length,false⟩} ?_;refine dV ?_;refine C.dk (iQ (s:={s with log:=s.log++[.dec m.tx false [] aG],cf:=bA s.cf m.tx ⟨s.log.length,false⟩}) (m:=⟨{bq with kind:=4,to:=m.aV,tx:=m.tx},aG,aG⟩) (by show s.waits.length<_;omega)) ?_;rintro v aO rfl;refine k8 ?_;have z6:ShJ I {s with log:=s.log++[.dec m.tx false [] aG],cf:=bA s.cf m.tx ⟨s.log.length,false⟩}:=⟨(hJ.zk (e:=.dec m.tx false [] aG) ⟨.nil ..,by decide⟩).log,hJ.bB,hJ.cq,hJ.waits,hJ.out⟩;refine C.cQ aJ ai ⟨I,_,Sub.refl _,z6.wait (ku.nil I {bq with kind:=4,aV:=s.me,to:=m.aV,tx:=m.tx} rfl rfl),?_,hC.same rfl rfl,rfl⟩;rw[wa oj,aq (by show¬ (aC (s.cq.map λp=>(p.1,p.2.abs)) m.tx).isSome=true;rw[iZ fg.abs,Kh];decide)];simp[iG,cZ.abs,gZ.abs]
   ·refine aP λe aa hk=>?_;refine C.dk (mE (en:=.dec m.tx false [] aG) (l:=s.log) (lg:=lg) rfl ak) ?_;rintro v aO ⟨Za,rfl,rfl⟩;refine bI ?_;refine hk _ _ lU ?_;refine Ch.q 13 (λh=>C.bd rfl h) ?_;refine Ch.m 4 (aP λe aa hk=>?_);refine C.ld rfl (hk _ _ .refl ?_);refine Ch.m 14 (aP λe aa hk=>?_);refine C.mu (w:=gV.mk s.log.length false) (l:=s.cf) (q:=m.tx) rfl ?_;refine hk _ undef lU ?_;refine ee ?_;refine de.cls {s with log:=s.log++[.dec m.tx false [] aG],cf:=bA s.cf m.tx ⟨s.log.length,false⟩} ?_;refine dV ?_;refine C.dk (iQ (s:={s with log:=s.log++[.dec m.tx false [] aG],cf:=bA s.cf m.tx ⟨s.log.length,false⟩}) (m:=⟨{bq with kind:=4,to:=m.aV,tx:=m.tx},aG,aG⟩) (by show s.waits.length<_;omega)) ?_;rintro v aO rfl;refine k8 ?_;have z6:ShJ I {s with log:=s.log++[.dec m.tx false [] aG],cf:=bA s.cf m.tx ⟨s.log.length,false⟩}:=⟨(hJ.zk (e:=.dec m.tx false [] aG) ⟨.nil ..,by decide⟩).log,hJ.bB,hJ.cq,hJ.waits,hJ.out⟩;refine C.cQ aJ ai ⟨I,_,Sub.refl _,z6.wait (ku.nil I {bq with kind:=4,aV:=s.me,to:=m.aV,tx:=m.tx} rfl rfl),?_,hC.same rfl rfl,rfl⟩;rw[wa oj,aq (by show¬ (aC (s.cq.map λp=>(p.1,p.2.abs)) m.tx).isSome=true;rw[iZ fg.abs,Kh];decide)];simp[iG,cZ.abs,gZ.abs]
  ·rename_i w68;refine C.dx (cm 59 0 12++[(58,12)]) 13 [] 0 ?_;refine S8 ?_;refine Dr.l (λhE h=>C.Hv Kh rfl h) ?_;refine Dr.p (λh=>C.Ld rfl h) ?_;refine xr ?_;refine oi ?_;refine de.cls s ?_;refine C.cQ aJ ai ⟨I,s,Sub.refl _,hJ,?_,hC.same rfl rfl,rfl⟩;rw[wa oj,aK (by show(aC (s.cq.map λp=>(p.1,p.2.abs)) m.tx).isSome=true;rw[iZ fg.abs,Kh];rfl)]
 ·rename_i Xd;refine C.dx (cm 7 0 8++[(6,8)]++[(15,9),(16,10)]++[(4,11)]++[(5,13)]) 14 [11,12] 1 ?_;refine mB ?_;refine Dr.l (λhE h=>C.Hv oj rfl h) ?_;refine G7 ?_;refine Ch.m 11 (aP λe aa hk=>?_);refine C.al rfl (λb4=>hk _ _ .cons ?_);refine Ch.m 12 (aP λe aa hk=>?_);refine C.po rfl (hk _ undef ?_);refine ee ?_;by_cases RF:Xd.pl<s.aX
  ·refine C.dx (cm 39 0 10++[(38,10)]) 11 [] 0 ?_;refine Eb ?_;refine Dr.p (λh=>C.eE rfl h (hf:=RF)) ?_;refine xr ?_;refine oi ?_;refine de.cls s ?_;refine ky ?_;refine C.dk (gk (m:=⟨{bq with kind:=4,to:=m.aV,tx:=m.tx,yes:=Xd.yes},aG,aG⟩) (s:=s) ak) ?_;rintro v aO rfl;refine k8 ?_;refine C.cQ aJ ai ⟨I,_,Sub.refl _,hJ.outs (ku.nil I {bq with kind:=4,aV:=s.me,to:=m.aV,tx:=m.tx,yes:=Xd.yes} rfl rfl),?_,hC.same rfl rfl,rfl⟩;rw[show Ar s.abs m.toMsgR=_ from(BG (d:=Xd) oj).trans (aK RF)];simp[eP,cZ.abs]
  ·refine C.dx (cm 39 0 10++[(38,10)]) 11 [] 0 ?_;refine Eb ?_;refine Dr.p (λh=>C.du rfl h (hf:=RF)) ?_;refine xr ?_;refine oi ?_;refine C.dx (cm 59 0 12++[(58,12)]) 13 [] 0 ?_;refine Lv ?_;refine oi ?_;refine de.cls s ?_;refine C.cQ aJ ai ⟨I,s,Sub.refl _,hJ,?_,hC.same rfl rfl,rfl⟩;rw[show Ar s.abs m.toMsgR=_ from(BG (d:=Xd) oj).trans (aq RF)]
theorem ShJ.fin{I:HL}{s:cZ}(h:ShJ I s)(tx:Int)(yes:Bool)(pl:Int):ShJ I (mD s tx yes pl):=⟨h.log,λp hp=>h.bB p (uR hp),h.cq,h.waits,h.out⟩
theorem LG{s:cZ}(hb:qm s)(tx:Int):(jc s tx).ops.length<2^30:=by
 unfold jc;cases hg:aC s.bB tx with
 |none=>exact lM _
 |some p=>
  have:=(hb.aaW _ _ hg).2;show p.ops.length<_;omega
def Df(s:dZ)(m:MsgR):dZ:=iG (py {s with log:=s.log++[.kg m.tx m.yes]} m.tx m.yes s.log.length) {bq with kind:=5,to:=m.aV,tx:=m.tx}
theorem u9{s:dZ}{m:MsgR}{p:yD}(h:aC s.bB m.tx=some p):jb s m=Df s m:=by unfold jb;rw[h];rfl
theorem vc{s:dZ}{m:MsgR}{d:gV}(h:aC s.bB m.tx=none)(h2:aC s.done m.tx=some d):jb s m=if d.pl<s.aX then eP s {bq with kind:=5,to:=m.aV,tx:=m.tx}else s:=by unfold jb;rw[h,h2]
theorem zl{s:dZ}{m:MsgR}(h:aC s.bB m.tx=none)(h2:aC s.done m.tx=none):jb s m=if m.yes then s else Df s m:=by unfold jb;rw[h,h2];rfl
theorem o4{s:cZ}{tx:Int}{p:qk}(h:aC s.bB tx=some p):aC s.abs.bB tx=some p.abs:=by show aC (s.bB.map λp=>(p.1,p.2.abs)) tx=_;rw[iZ qk.abs,h];rfl
theorem jA{s:cZ}{tx:Int}(h:aC s.bB tx=none):aC s.abs.bB tx=none:=by show aC (s.bB.map λp=>(p.1,p.2.abs)) tx=_;rw[iZ qk.abs,h];rfl
theorem jX{s:cZ}{tx:Int}{p:fg}(h:aC s.cq tx=some p):aC s.abs.cq tx=some p.abs:=by show aC (s.cq.map λp=>(p.1,p.2.abs)) tx=_;rw[iZ fg.abs,h];rfl
theorem rk{s:cZ}{tx:Int}(h:aC s.cq tx=none):aC s.abs.cq tx=none:=by show aC (s.cq.map λp=>(p.1,p.2.abs)) tx=_;rw[iZ fg.abs,h];rfl
abbrev Tj(s:cZ)(tx:Int)(yes:Bool):cZ:=mD {s with log:=s.log++[.kg tx yes]} tx yes s.log.length
theorem zm(s:cZ)(m:MsgR):iG (Tj s m.tx m.yes).abs {bq with kind:=5,to:=m.aV,tx:=m.tx}=Df s.abs m:=by
 unfold Df;rw[wV]
 congr 2
 ·simp[cZ.abs,gZ.abs]
 ·simp[cZ.abs]
theorem Dg{I:HL}{b:Nat}{s:cZ}{m:cu}{o a:Int}(hJ:ShJ I s)(hb:qm s)(hC:wU o a s):
  aB prog ao bG 173 #[aE b,q9 m] [de b s,a9 I] (gn b I (o+1) (a+1) (jb s.abs m.toMsgR)):=by
 have jV:=hb.log;have jg:=hb.out;have De:=hb.waits;have xn:=LG hb m.tx;refine aB.of λR C kd d F c cs aJ ai=>?_;refine bI ?_;refine de.opn (h:=λlg wt ot tm bv bl bp bd be bu tl ht=>?_);refine bj ?_;refine C.bx rfl (λb3=>?_);refine C.go ?_;cases Ed:(aC s.bB m.tx)
 ·refine C.dx (cm 9 0 8++[(8,8)]++[(17,9),(18,10)]++[(4,11)]++[(5,13)]) 14 [11,12] 1 ?_;refine mB ?_;refine Dr.l (λhE h=>C.Hw Ed rfl h) ?_;refine G7 ?_;refine Ch.m 11 (aP λe aa hk=>?_);refine C.al rfl (λb4=>hk _ _ .cons ?_);refine Ch.m 12 (aP λe aa hk=>?_);refine C.po rfl (hk _ undef ?_);refine ee ?_;cases um:(aC s.done m.tx)
  ·refine C.dx (cm 20 0 8++[(19,8)]++[(28,9),(29,10)]++[(6,11)]++[(7,13)]) 14 [11,12] 1 ?_;refine mB ?_;refine Dr.l (λhE h=>C.Hw um rfl h) ?_;refine G7 ?_;refine Ch.m 11 (aP λe aa hk=>?_);refine C.al rfl (λb6=>hk _ _ .cons ?_);refine Ch.m 12 (aP λe aa hk=>?_);refine C.po rfl (hk _ undef ?_);refine Ch.fin ?_;refine oX ?_;refine C.U5 rfl (λhy=>?_) (λhy=>?_)
   ·refine cF ?_;refine de.cls s ?_;refine C.cQ aJ ai ⟨I,s,Sub.refl _,hJ,?_,hC.same rfl rfl,rfl⟩;rw[show jb s.abs m.toMsgR=_ from(zl (jA Ed) um).trans (aK hy)]
   ·refine cF ?_;refine de.cls s ?_;refine C.wR (cm 57 0 14) 14 [12,13] 2 ?_ (W:=[l8 b3 m,a9 I]);refine gY ?_;refine k6 ?_;refine Dr.p (λh=>C.mi rfl h) ?_;refine Dr.chain rfl ?_ (λ_ s=>bZ.sat bZ.au s);refine Ch.m 12 (aP λe aa hk=>?_);refine C.cE (nM (s:=s) (en:=.kg m.tx m.yes) ak) ?_;refine bI ?_;refine hk _ _ lU ?_;refine Ch.m 13 (aP λe aa hk=>?_);refine C.dk (pF (s:={s with log:=s.log++[.kg m.tx m.yes]}) (hJ.zk (e:=.kg m.tx m.yes) trivial) xn) ?_;rintro v aO rfl;refine bI ?_;refine hk _ _ lU ?_;refine PH ?_;refine C.dk (iQ (s:=Tj s m.tx m.yes) (m:=⟨{bq with kind:=5,to:=m.aV,tx:=m.tx},aG,aG⟩) (by show s.waits.length<_;omega)) ?_;rintro v aO rfl;refine k8 ?_;refine C.cQ aJ ai ⟨I,_,Sub.refl _,((hJ.zk (e:=.kg m.tx m.yes) trivial).fin m.tx m.yes s.log.length).wait (ku.nil I {bq with kind:=5,aV:=s.me,to:=m.aV,tx:=m.tx} rfl rfl),?_,hC.same rfl rfl,rfl⟩;rw[show jb s.abs m.toMsgR=_ from(zl (jA Ed) um).trans (aq (by rw[hy];decide))];refine yg ?_ (zm s m.toMsgR);simp only[iG,cZ.abs,eI,iJ,ml]
  ·rename_i w27;refine C.dx (cm 20 0 8++[(19,8)]++[(28,9),(29,10)]++[(6,11)]++[(7,13)]) 14 [11,12] 1 ?_;refine mB ?_;refine Dr.l (λhE h=>C.Hv um rfl h) ?_;refine G7 ?_;refine Ch.m 11 (aP λe aa hk=>?_);refine C.al rfl (λb6=>hk _ _ .cons ?_);refine Ch.m 12 (aP λe aa hk=>?_);refine C.po rfl (hk _ undef ?_);refine Ch.fin ?_;refine i6 ?_;by_cases Zb:w27.pl<s.aX
   ·refine C.dx (cm 36 0 7) 7 [] 0 ?_;refine n7 ?_;refine Dr.p (λh=>C.eE rfl h (hf:=Zb)) ?_;refine Dr.chain rfl ?_;refine oi ?_;refine de.cls s ?_;refine dV ?_;refine C.dk (gk (s:=s) (m:=⟨{bq with kind:=5,to:=m.aV,tx:=m.tx},aG,aG⟩) ak) ?_;rintro v aO rfl;refine k8 ?_;refine C.cQ aJ ai ⟨I,_,Sub.refl _,hJ.outs (ku.nil I {bq with kind:=5,aV:=s.me,to:=m.aV,tx:=m.tx} rfl rfl),?_,hC.same rfl rfl,rfl⟩;rw[show jb s.abs m.toMsgR=_ from(vc (jA Ed) (d:=w27) um).trans (aK Zb)];simp[eP,cZ.abs]
   ·refine C.dx (cm 36 0 7) 7 [] 0 ?_;refine n7 ?_;refine Dr.p (λh=>C.du rfl h (hf:=Zb)) ?_;refine Dr.chain rfl ?_;refine oi ?_;refine de.cls s ?_;refine C.cQ aJ ai ⟨I,s,Sub.refl _,hJ,?_,hC.same rfl rfl,rfl⟩;rw[show jb s.abs m.toMsgR=_ from(vc (jA Ed) (d:=w27) um).trans (aq Zb)]
 ·rename_i w16;refine C.dx (cm 9 0 8++[(8,8)]++[(17,9),(18,10)]++[(4,11)]++[(5,13)]) 14 [11,12] 1 ?_;refine mB ?_;refine Dr.l (λhE h=>C.Hv Ed rfl h) ?_;refine G7 ?_;refine Ch.m 11 (aP λe aa hk=>?_);refine C.al rfl (λb4=>hk _ _ .cons ?_);refine Ch.m 12 (aP λe aa hk=>?_);refine C.po rfl (hk _ undef ?_);refine ee ?_;cases um:(aC s.done m.tx)
  ·refine C.dx (cm 20 0 8++[(19,8)]++[(28,9),(29,10)]++[(6,11)]++[(7,13)]) 14 [11,12] 1 ?_;refine mB ?_;refine Dr.l (λhE h=>C.Hw um rfl h) ?_;refine G7 ?_;refine Ch.m 11 (aP λe aa hk=>?_);refine C.al rfl (λb6=>hk _ _ .cons ?_);refine Ch.m 12 (aP λe aa hk=>?_);refine C.po rfl (hk _ undef ?_);refine Ch.fin ?_;refine jW ?_;refine cF ?_;refine de.cls s ?_;refine C.wR (cm 57 0 14) 14 [12,13] 2 ?_ (W:=[l8 b3 m,a9 I]);refine gY ?_;refine k6 ?_;refine Dr.p (λh=>C.mi rfl h) ?_;refine Dr.chain rfl ?_ (λ_ s=>bZ.sat bZ.au s);refine Ch.m 12 (aP λe aa hk=>?_);refine C.cE (nM (s:=s) (en:=.kg m.tx m.yes) ak) ?_;refine bI ?_;refine hk _ _ lU ?_;refine Ch.m 13 (aP λe aa hk=>?_);refine C.dk (pF (s:={s with log:=s.log++[.kg m.tx m.yes]}) (hJ.zk (e:=.kg m.tx m.yes) trivial) xn) ?_;rintro v aO rfl;refine bI ?_;refine hk _ _ lU ?_;refine PH ?_;refine C.dk (iQ (s:=Tj s m.tx m.yes) (m:=⟨{bq with kind:=5,to:=m.aV,tx:=m.tx},aG,aG⟩) (by show s.waits.length<_;omega)) ?_;rintro v aO rfl;refine k8 ?_;refine C.cQ aJ ai ⟨I,_,Sub.refl _,((hJ.zk (e:=.kg m.tx m.yes) trivial).fin m.tx m.yes s.log.length).wait (ku.nil I {bq with kind:=5,aV:=s.me,to:=m.aV,tx:=m.tx} rfl rfl),?_,hC.same rfl rfl,rfl⟩;rw[u9 (o4 Ed)];refine yg ?_ (zm s m.toMsgR);simp only[iG,cZ.abs,eI,iJ,ml]
  ·rename_i w27;refine C.dx (cm 20 0 8++[(19,8)]++[(28,9),(29,10)]++[(6,11)]++[(7,13)]) 14 [11,12] 1 ?_;refine mB ?_;refine Dr.l (λhE h=>C.Hv um rfl h) ?_;refine G7 ?_;refine Ch.m 11 (aP λe aa hk=>?_);refine C.al rfl (λb6=>hk _ _ .cons ?_);refine Ch.m 12 (aP λe aa hk=>?_);refine C.po rfl (hk _ undef ?_);refine Ch.fin ?_;refine jW ?_;refine cF ?_;refine de.cls s ?_;refine C.wR (cm 57 0 14) 14 [12,13] 2 ?_ (W:=[l8 b3 m,a9 I]);refine gY ?_;refine k6 ?_;refine Dr.p (λh=>C.mi rfl h) ?_;refine Dr.chain rfl ?_ (λ_ s=>bZ.sat bZ.au s);refine Ch.m 12 (aP λe aa hk=>?_);refine C.cE (nM (s:=s) (en:=.kg m.tx m.yes) ak) ?_;refine bI ?_;refine hk _ _ lU ?_;refine Ch.m 13 (aP λe aa hk=>?_);refine C.dk (pF (s:={s with log:=s.log++[.kg m.tx m.yes]}) (hJ.zk (e:=.kg m.tx m.yes) trivial) xn) ?_;rintro v aO rfl;refine bI ?_;refine hk _ _ lU ?_;refine PH ?_;refine C.dk (iQ (s:=Tj s m.tx m.yes) (m:=⟨{bq with kind:=5,to:=m.aV,tx:=m.tx},aG,aG⟩) (by show s.waits.length<_;omega)) ?_;rintro v aO rfl;refine k8 ?_;refine C.cQ aJ ai ⟨I,_,Sub.refl _,((hJ.zk (e:=.kg m.tx m.yes) trivial).fin m.tx m.yes s.log.length).wait (ku.nil I {bq with kind:=5,aV:=s.me,to:=m.aV,tx:=m.tx} rfl rfl),?_,hC.same rfl rfl,rfl⟩;rw[u9 (o4 Ed)];refine yg ?_ (zm s m.toMsgR);simp only[iG,cZ.abs,eI,iJ,ml]
variable{F:List HP}{l:List (Int×fg)}{tx:Int}{u:fg}
theorem vd(hg:aC l tx=some u)(hf:Fo (all (l.map ql)) As L)(h:At R d (FG u (all ((dQ l tx).map ql)::L)) g):At R d As g:=
 Bo (f:=ql) hg hf λH s=>h H (Sat.flat (l:=FG u []) s)
theorem im(u:fg)(hr:dJ (FG u [all ((dQ l tx).map ql)]) As L)(h:At R d (all ((bA l tx u).map ql)::L) g):At R d As g:=
 At.perm hr.perm λH s=>(E4 (f:=ql) (m:=l) (k:=tx) u (.cons .head (.cons .head .nil)) h) H (Sat.fR (l:=FG u []) s)
theorem FN(u:fg)(hg:aC l tx=none)(hr:dJ (FG u [all (l.map ql)]) As L)(h:At R d (all ((bA l tx u).map ql)::L) g):At R d As g:=im u (by rw[Bp hg];exact hr) h
theorem BH{V:Type}{k:Int}{v:V}:∀ {l:List (Int×V)},dQ (bA l k v) k=dQ l k
 |[]=>by simp[bA,dQ]
 |p::l=>by
  unfold bA dQ;by_cases h:p.1=k
  ·simp[h]
  ·simp only[aq h];rw[BH (l:=l)]
theorem LH{s:dZ}{m:MsgR}(h:aC s.cq m.tx=none):yE s m=s:=by unfold yE;rw[h]
theorem wc{s:dZ}{m:MsgR}{u:lR}(h:aC s.cq m.tx=some u):yE s m=if !u.dec then s else if(bA u.bK m.aV ((aC u.bK m.aV).getD 0+1)).length=(dB u.ops s.n).length then{s with cq:=dQ s.cq m.tx}else{s with cq:=bA s.cq m.tx {u with bK:=bA u.bK m.aV ((aC u.bK m.aV).getD 0+1)}}:=by unfold yE;rw[h];simp only[BH]
abbrev Tk(u:fg)(k:Int):fg:={u with bK:=bA u.bK k ((aC u.bK k).getD 0+1)}
theorem LI{I:HL}{b:Nat}{s:cZ}{m:cu}{o a:Int}(hJ:ShJ I s)(hb:qm s)(hC:wU o a s):
  aB prog ao bG 174 #[aE b,q9 m] [de b s,a9 I] (gn b I (o+1) (a+1) (yE s.abs m.toMsgR)):=by
 refine aB.of λR C kd d F c cs aJ ai=>?_;refine bI ?_;refine de.opn (h:=λlg wt ot tm bv bl bp bd be bu tl ht=>?_);refine bj ?_;refine C.bx rfl (λb3=>?_);refine C.go ?_;cases oa:(aC s.cq m.tx)
 ·refine C.dx (cm 5 0 8++[(4,8)]) 9 [] 0 ?_;refine mB ?_;refine Dr.l (λhE h=>C.Hw oa rfl h) ?_;refine wS ?_;refine Ch.fin ?_;refine zb ?_;refine de.cls s ?_;refine C.a8 aJ ai ⟨I,s,Sub.refl _,hJ,(LH (rk oa)).symm,hC.same rfl rfl,rfl⟩
 ·rename_i vC;refine C.dx (cm 5 0 8++[(4,8)]) 9 [] 0 ?_;refine mB ?_;refine Dr.l (λhE h=>C.Hv oa rfl h) ?_;refine wS ?_;refine ee ?_;refine vd oa Fo.au ?_;have eT:=bU oa;have cJ:=hb.zh _ eT;have Vd:=hb.bK _ eT;have PX:=hJ.cq _ eT;have hk:0<=(aC vC.bK m.aV).getD 0/\(aC vC.bK m.aV).getD 0<2^61:=by
   cases hg:aC vC.bK m.aV with
   |none=>simp
   |some v=>exact Vd _ (bU hg)
  have oL:=tX vC.bK m.aV;refine dV ?_;refine C.U5 rfl (λhd=>?_) (λhd=>?_)
  ·refine cN ?_;refine C.dx (cm 22 0 8) 9 [8] 0 ?_;refine n7 ?_;refine Dr.l (λhE h=>C.E7 oL rfl h) ?_;refine wS ?_;refine Ch.m 8 (aP λe aa hk=>?_);refine C.mu (w:=(aC vC.bK m.aV).getD 0+1) (l:=vC.bK) (q:=m.aV) rfl (hk _ undef ?_);refine ee ?_;by_cases h45:((bA vC.bK m.aV ((aC vC.bK m.aV).getD 0+1)).length:Int)=((dB vC.ops s.n).length:Int)
   ·refine C.dx (cm 30 0 16) 16 [13,14,15] 0 ?_;refine Lv ?_;refine Ch.m 13 (aP λe aa hk=>?_);refine C.dk (nh (n:=s.n) PX.o cJ hb.n.1) ?_;rintro v aO ⟨bm,I1,pm,rfl,fD,RG, -,rfl⟩;refine bI ?_;have xn:pm.length=(dB vC.ops s.n).length:=by rw[<- RG];unfold wT;rw[dd]
    refine hk _ _ ?_;refine Ch.m 14 (aP λe aa hk=>?_);refine fy ?_;rw[xn];refine hk _ _ ?_;refine Ch.q 15 (λh=>C.eE rfl h (hf:=h45)) ?_;refine oi ?_;refine C.dx (cm 46 0 7) 8 [7] 0 ?_;refine Ng ?_;refine Ch.m 7 (aP λe aa hk=>?_);refine C.dl rfl (hk _ undef ?_);refine ee ?_;refine de.cls {s with cq:=dQ s.cq m.tx} ?_;have hl:(bA vC.bK m.aV ((aC vC.bK m.aV).getD 0+1)).length=(dB vC.ops s.n).length:=ak;refine C.cQ aJ ai ⟨I1,{s with cq:=dQ s.cq m.tx},fD,⟨(hJ.mono fD).log,(hJ.mono fD).bB,λu hu=>(hJ.mono fD).cq u (uR hu),(hJ.mono fD).waits,(hJ.mono fD).out⟩,?_,⟨by have:=hC.z;omega,by have:=hC.o;show 0<=s.order/\s.order<=o+1;omega,λu hu p hp=>by have:=hC.a u (uR hu) p hp;omega⟩,rfl⟩;rw[show yE s.abs m.toMsgR=_ from(wc (jX oa)).trans ((aq (by show¬ (!vC.dec)=true;rw[hd];decide)).trans (aK hl))];simp only[cZ.abs,E5]
   ·refine C.dx (cm 30 0 16) 16 [13,14,15] 0 ?_;refine Lv ?_;refine Ch.m 13 (aP λe aa hk=>?_);refine C.dk (nh (n:=s.n) PX.o cJ hb.n.1) ?_;rintro v aO ⟨bm,I1,pm,rfl,fD,RG, -,rfl⟩;refine bI ?_;have xn:pm.length=(dB vC.ops s.n).length:=by rw[<- RG];unfold wT;rw[dd]
    refine hk _ _ ?_;refine Ch.m 14 (aP λe aa hk=>?_);refine fy ?_;rw[xn];refine hk _ _ ?_;refine Ch.q 15 (λh=>C.du rfl h (hf:=h45)) ?_;refine oi ?_;refine im (Tk vC m.aV) dJ.au ?_;rw[<- rS (g:=vV) (u1:=(Tk vC m.aV)) oa rfl];refine de.cls {s with cq:=bA s.cq m.tx (Tk vC m.aV)} ?_;have hl:¬ (bA vC.bK m.aV ((aC vC.bK m.aV).getD 0+1)).length=(dB vC.ops s.n).length:=ak;refine C.cQ aJ ai ⟨I1,{s with cq:=bA s.cq m.tx (Tk vC m.aV)},fD,⟨(hJ.mono fD).log,(hJ.mono fD).bB,λu hu=>?_,(hJ.mono fD).waits,(hJ.mono fD).out⟩,?_,⟨by have:=hC.z;omega,by have:=hC.o;show 0<=s.order/\s.order<=o+1;omega,λu hu p hp=>?_⟩,rfl⟩
    ·rcases dY hu with rfl|hu
     ·exact⟨(PX.mono fD).o,(PX.mono fD).r,PX.z⟩
     ·exact(hJ.mono fD).cq u hu
    ·rw[show yE s.abs m.toMsgR=_ from(wc (jX oa)).trans ((aq (by show¬ (!vC.dec)=true;rw[hd];decide)).trans (aq hl))];simp only[cZ.abs,kN];rfl
    ·rcases dY hu with rfl|hu
     ·rcases dY hp with rfl|hp
      ·have h1:(aC vC.bK m.aV).getD 0<=a\/(aC vC.bK m.aV).getD 0=0:=by
        cases hg:aC vC.bK m.aV with
        |none=>exact .inr rfl
        |some v=>exact .inl (hC.a _ eT _ (bU hg)).2
       have h2:=hC.z;dsimp only;omega
      ·have:=hC.a _ eT p hp;omega
     ·have:=hC.a u hu p hp;omega
  ·refine cN ?_;refine im vC dJ.au ?_;rw[gF oa];refine de.cls s ?_;refine C.a8 aJ ai ⟨I,s,Sub.refl _,hJ,?_,hC.same rfl rfl,rfl⟩;rw[show yE s.abs m.toMsgR=_ from(wc (jX oa)).trans (aK (by show(!vC.dec)=true;rw[hd];rfl))]
def ve(m:MsgR):MsgR:={bq with kind:=3,to:=m.aV,tx:=m.tx}
theorem zn{s:dZ}{m:MsgR}{p:yD}(h:aC s.bB m.tx=some p):fN s m=if p.pl<s.aX then eP s {ve m with yes:=true,reads:=iu s.values p.ops}else s:=by unfold fN;rw[h];rfl
theorem zo{s:dZ}{m:MsgR}{d:gV}(h:aC s.bB m.tx=none)(h2:aC s.done m.tx=some d):fN s m=if d.yes then s else eP s (ve m):=by unfold fN;rw[h,h2];rfl
theorem FO{s:dZ}{m:MsgR}(h:aC s.bB m.tx=none)(h2:aC s.done m.tx=none):fN s m=if m.ops.any (λo=>(aC s.aH o.k).isSome)then eP s (ve m)else
  jm (iG (sP {s with log:=s.log++[.eK m.tx m.aV m.ops]} m.tx m.aV m.ops s.log.length) {ve m with yes:=true,reads:=iu s.values m.ops}) m.tx 3 false:=by unfold fN;rw[h,h2];rfl
theorem ShJ.hold{I:HL}{s:cZ}(h:ShJ I s){tx home pl:Int}{ops:List cy}{so:ax}(ho:dX I cK 67 so ops):ShJ I (u7 s tx home ops so pl):=⟨h.log,λp hp=>by
 rcases dY hp with rfl|hp
 ·exact ho
 ·exact h.bB p hp,h.cq,h.waits,h.out⟩
abbrev FP(s:cZ)(m:cu):cZ:=u7 {s with log:=s.log++[.eK m.tx m.aV m.ops m.so]} m.tx m.aV m.ops m.so s.log.length
abbrev PY(s:cZ)(m:cu)(sv:ax):cZ:={FP s m with waits:=s.waits++[⟨{ve m.toMsgR with aV:=s.me,yes:=true,reads:=iu s.values m.ops},aG,sv⟩]}
theorem LJ(s:cZ)(m:cu)(sv:ax):(PY s m sv).abs=iG (sP {s.abs with log:=s.abs.log++[.eK m.tx m.aV m.ops]} m.tx m.aV m.ops s.abs.log.length) {ve m.toMsgR with yes:=true,reads:=iu s.abs.values m.ops}:=by
 have e1:=BF {s with log:=s.log++[.eK m.tx m.aV m.ops m.so]} m.tx m.aV m.ops m.so s.log.length;have e2:sP {s.abs with log:=s.abs.log++[.eK m.tx m.aV m.ops]} m.tx m.aV m.ops s.abs.log.length=(FP s m).abs:=by
  rw[e1]
  congr 1
  ·simp[cZ.abs,gZ.abs]
  ·simp[cZ.abs]
 rw[e2];simp[iG,cZ.abs]
theorem BI(V:List (Int×Int))(ops:List cy):(iu V ops).length<=ops.length:=by unfold iu;rw[dd];exact pN _ _
theorem AB{I:HL}{b:Nat}{s:cZ}{m:cu}{o a:Int}(hJ:ShJ I s)(hb:qm s)(hC:wU o a s)(hM:ku I m)(hO:iX m.ops):
  aB prog ao bG 171 #[aE b,q9 m] [de b s,a9 I] (gn b I (o+1) (a+1) (fN s.abs m.toMsgR)):=by
 have jV:=hb.log;have jg:=hb.out;have De:=hb.waits;have Xe:=hb.clock;have Xf:=hb.order;have RH:=hb.timers;have Zc:=hO.2;have hMo:=hM.o;have hzm:(iu s.values m.ops).length<2^20:=yh (BI ..) hO.2;refine aB.of λR C kd d F c cs aJ ai=>?_;refine bI ?_;refine de.opn (h:=λlg wt ot tm bv bl bp bd be bu tl ht=>?_);refine bj ?_;refine C.bx rfl (λb3=>?_);refine dV ?_;refine C.al rfl (λb4=>?_);refine bj ?_;cases Ki:(aC s.bB m.tx)
 ·refine C.dx (cm 19 0 8++[(18,8)]++[(27,9),(28,10)]++[(5,11)]++[(6,13)]) 14 [11,12] 1 ?_;refine mB ?_;refine Dr.l (λhE h=>C.Hw Ki rfl h) ?_;refine G7 ?_;refine Ch.m 11 (aP λe aa hk=>?_);refine C.al rfl (λb5=>hk _ _ .cons ?_);refine Ch.m 12 (aP λe aa hk=>?_);refine C.po rfl (hk _ undef ?_);refine vT ?_;cases LK:(aC s.done m.tx)
  ·refine C.dx (cm 47 0 8++[(46,8)]++[(55,9),(56,10)]++[(7,11)]++[(8,13)]) 14 [11,12] 1 ?_;refine mB ?_;refine Dr.l (λhE h=>C.Hw LK rfl h) ?_;refine G7 ?_;refine Ch.m 11 (aP λe aa hk=>?_);refine C.al rfl (λb7=>hk _ _ .cons ?_);refine Ch.m 12 (aP λe aa hk=>?_);refine C.po rfl (hk _ undef ?_);refine Ch.fin ?_;refine k7 ?_;refine C.bS (X:=Nat) (λi=>[(0,aE b),(3,aE b3),(4,aE b4),(65,m.so.v),(66,az m.ops.length),(67,az i)]) (λi=>bX b4 (.cells #[az 3,az 0,az m.aV,az m.tx,.bool false,.slice none 0 0,.slice none 0 0] 190 (0,0))::l8 b3 m::Lx b s lg wt ot tm bv bl bp bd be bu tl (a9 I::F)) (λi=>i<=m.ops.length/\∀ j (hj:j<m.ops.length),j<i->aC s.aH m.ops[j].k=none) (λi=>m.ops.length-i) 0 ⟨rfl,rfl,rfl,rfl,rfl,rfl,trivial⟩ ⟨eC _,λj _ hj=>absurd hj (Nat.not_lt_zero _)⟩ ?_;rintro i e ⟨hi,pQ⟩ ih;refine bj ?_;refine C.cmp rfl (λKh=>?_) (λKh=>?_)
   ·refine bj ?_;have cG:i<m.ops.length:=by simpa using Kh
    refine bj ?_;refine C.lZ rfl (λhj=>?_);refine C.al rfl (λVl=>?_);refine C.po rfl ?_ (hv:=λv h=>fM.one (f:=cK) m.ops[i] v (by simpa using h));refine C.go ?_;cases Nk:(aC s.aH (m.ops[i]'cG).k)
    ·refine C.dx (cm 72 0 8++[(71,8)]++[(80,9),(81,10)]++[(11,11),(12,12)]) 13 [] 0 ?_;refine mB ?_;refine Dr.l (λhE h=>C.Hw Nk rfl h) ?_;refine PI ?_;refine Ch.fin ?_;refine ky ?_;refine again ih (i+1) ⟨cG,λj hj C3=>?_⟩ ak;rcases mO.1 C3 with h|rfl
     ·exact pQ j hj h
     ·exact Nk
    ·rename_i w79;refine C.dx (cm 72 0 8++[(71,8)]++[(80,9),(81,10)]++[(11,11),(12,12)]) 13 [] 0 ?_;refine mB ?_;refine Dr.l (λhE h=>C.Hv Nk rfl h) ?_;refine PI ?_;refine vT ?_;refine de.cls s ?_;refine da ?_;refine C.dk (gk (s:=s) (m:=⟨ve m.toMsgR,aG,aG⟩) ak) ?_;rintro v aO rfl;refine k8 ?_;refine C.a8 aJ ai ⟨I,{s with out:=s.out++[⟨{ve m.toMsgR with aV:=s.me},aG,aG⟩]},Sub.refl _,hJ.outs (ku.nil I _ rfl rfl),?_,hC.same rfl rfl,rfl⟩;rw[show fN s.abs m.toMsgR=_ from(FO (jA Ki) LK).trans (aK (nC.2 ⟨_,bC cG,by show(aC s.aH (m.ops[i]'cG).k).isSome=true;rw[Nk];rfl⟩))];simp[eP,cZ.abs]
   ·refine bj ?_;have Ao:m.ops.any (λo=>(aC s.aH o.k).isSome)=false:=by rw[List.any_eq_false];intro o ho;obtain⟨j,hj,rfl⟩:=jO ho;rw[pQ j hj ak];decide
    have z6:ShJ I (FP s m):=(hJ.zk (e:=.eK m.tx m.aV m.ops m.so) ⟨hM.o,hO.2⟩).hold hM.o;refine de.cls s ?_;refine C.wR (cm 87 0 18) 18 [16,17] 2 ?_ (W:=[l8 b3 m,a9 I]);refine gY ?_;refine Lr ?_;refine Dr.p (λh=>C.mi rfl h) ?_;refine Dr.chain rfl ?_ (λ_ s=>bZ.sat bZ.au s);refine Ch.m 16 (aP λe aa hk=>?_);refine C.cE (nM (s:=s) (en:=.eK m.tx m.aV m.ops m.so) ak) ?_;refine bI ?_;refine hk _ _ lU ?_;refine Ch.m 17 (aP λe aa hk=>?_);refine C.dk (Il (s:={s with log:=s.log++[.eK m.tx m.aV m.ops m.so]}) hM.o hO) ?_;rintro v aO rfl;refine bI ?_;refine hk _ _ lU ?_;refine vT ?_;refine C.dk (zj (s:=FP s m) hM.o hO) ?_;rintro v aO ⟨Tl,rfl,rfl⟩;refine Ls ?_;refine C.dk (iQ (s:=FP s m) (m:=⟨{ve m.toMsgR with yes:=true,reads:=iu s.values m.ops},aG,Tl⟩) (by show s.waits.length<_;omega)) ?_;rintro v aO rfl;refine sY ?_;refine C.dk (km (ticks:=3) (s:=PY s m Tl) (by show s.timers.length<_;omega) (by show 0<=s.order/\s.order<_;omega) (by show 0<=s.clock/\s.clock<_;omega) (by decide)) ?_;rintro v aO rfl;refine k8 ?_;refine At.JS (I:=I) (s:=Tl) (f:=dv) Fo.au Fo.au λI1 fD Xg=>?_;refine C.cQ aJ ai ⟨I1,jJ (PY s m Tl) m.tx 3 false,fD,?_,?_,⟨by have:=hC.z;omega,by have:=hC.o;show 0<=s.order+1/\s.order+1<=o+1;omega,λu hu p hp=>by have:=hC.a u hu p hp;omega⟩,rfl⟩
    ·have h1:=(z6.mono fD).wait (m:=⟨{ve m.toMsgR with aV:=s.me,yes:=true,reads:=iu s.values m.ops},aG,Tl⟩) ⟨.nil ..,Xg,by first|exact aa0|exact hzm⟩;exact⟨h1.log,h1.bB,h1.cq,h1.waits,h1.out⟩
    ·rw[show fN s.abs m.toMsgR=_ from(FO (jA Ki) LK).trans (aq (by show¬ m.ops.any (λo=>(aC s.aH o.k).isSome)=true;rw[Ao];decide))];rw[ni,LJ]
  ·rename_i w54;refine C.dx (cm 47 0 8++[(46,8)]++[(55,9),(56,10)]++[(7,11)]++[(8,13)]) 14 [11,12] 1 ?_;refine mB ?_;refine Dr.l (λhE h=>C.Hv LK rfl h) ?_;refine G7 ?_;refine Ch.m 11 (aP λe aa hk=>?_);refine C.al rfl (λb7=>hk _ _ .cons ?_);refine Ch.m 12 (aP λe aa hk=>?_);refine C.po rfl (hk _ undef ?_);refine Lt ?_;refine C.U5 rfl (λhd=>?_) (λhd=>?_)
   ·refine da ?_;refine de.cls s ?_;refine C.a8 aJ ai ⟨I,s,Sub.refl _,hJ,?_,hC.same rfl rfl,rfl⟩;rw[show fN s.abs m.toMsgR=_ from(zo (jA Ki) LK).trans (aK hd)]
   ·refine da ?_;refine de.cls s ?_;refine da ?_;refine C.dk (gk (s:=s) (m:=⟨ve m.toMsgR,aG,aG⟩) ak) ?_;rintro v aO rfl;refine k8 ?_;refine C.a8 aJ ai ⟨I,{s with out:=s.out++[⟨{ve m.toMsgR with aV:=s.me},aG,aG⟩]},Sub.refl _,hJ.outs (ku.nil I _ rfl rfl),?_,hC.same rfl rfl,rfl⟩;rw[show fN s.abs m.toMsgR=_ from(zo (jA Ki) LK).trans (aq (by rw[hd];decide))];simp[eP,cZ.abs]
 ·rename_i w26;refine C.dx (cm 19 0 8++[(18,8)]++[(27,9),(28,10)]++[(5,11)]++[(6,13)]) 14 [11,12] 1 ?_;refine mB ?_;refine Dr.l (λhE h=>C.Hv Ki rfl h) ?_;refine G7 ?_;refine Ch.m 11 (aP λe aa hk=>?_);refine C.al rfl (λb5=>hk _ _ .cons ?_);refine Ch.m 12 (aP λe aa hk=>?_);refine C.po rfl (hk _ undef ?_);refine vT ?_;by_cases Zd:w26.pl<s.aX
  ·refine C.dx (cm 30 0 7) 7 [] 0 ?_;refine n7 ?_;refine Dr.p (λh=>C.eE rfl h (hf:=Zd)) ?_;refine Dr.chain rfl ?_;refine oi ?_;refine de.cls s ?_;have hpo:=hJ.bB _ (bU Ki);have hpb:=hb.aaW _ _ Ki;have aa0:(iu s.values w26.ops).length<2^20:=yh (BI ..) hpb.2;refine cN ?_;refine C.dk (zj (s:=s) hpo hpb) ?_;rintro v aO ⟨Tl,rfl,rfl⟩;refine Ls ?_;refine C.dk (gk (s:=s) (m:=⟨{ve m.toMsgR with yes:=true,reads:=iu s.values w26.ops},aG,Tl⟩) ak) ?_;rintro v aO rfl;refine k8 ?_;refine At.JS (I:=I) (s:=Tl) (f:=dv) Fo.au Fo.au λI1 fD Xg=>?_;refine C.a8 aJ ai ⟨I1,{s with out:=s.out++[⟨{ve m.toMsgR with aV:=s.me,yes:=true,reads:=iu s.values w26.ops},aG,Tl⟩]},fD,(hJ.mono fD).outs ⟨.nil ..,Xg,by first|exact aa0|exact hzm⟩,?_,hC.same rfl rfl,rfl⟩;rw[show fN s.abs m.toMsgR=_ from(zn (o4 Ki)).trans (aK Zd)];simp[eP,cZ.abs,qk.abs]
  ·refine C.dx (cm 30 0 7) 7 [] 0 ?_;refine n7 ?_;refine Dr.p (λh=>C.du rfl h (hf:=Zd)) ?_;refine Dr.chain rfl ?_;refine oi ?_;refine de.cls s ?_;refine C.a8 aJ ai ⟨I,s,Sub.refl _,hJ,?_,hC.same rfl rfl,rfl⟩;rw[show fN s.abs m.toMsgR=_ from(zn (o4 Ki)).trans (aq Zd)]
theorem pG{I:HL}{so:ax}{ops:List Int}(ho:dX I dv 21 so ops)(hl:ops.length<2^43):aB prog ao bG 79 #[so.v] [a9 I] (λv As=>∃ s',v=s'.v/\As=[aW dv 1 21 s' ops,a9 I]):=by
 refine aB.of λR C kd d F c cs aJ ai=>?_;refine bI ?_;rcases ho with⟨rfl,rfl⟩|⟨pad,h1,h2⟩
 ·refine dm ?_;refine C.U4 rfl ?_ (a:=none) (len:=0) (cap:=0);refine cF ?_;refine At.aG dv 1 21 ?_;exact C.a8 aJ ai ⟨aG,rfl,rfl⟩
 ·have ho:dX I dv 21 so ops:=.inr ⟨pad,h1,h2⟩;have hv:so.v=.slice (some ⟨so.b,0,none⟩) so.len so.cap:=by unfold ax.v;rw[show so.a=some ⟨so.b,0,none⟩from congrArg ax.a h1]
  refine dm ?_;refine C.U4 rfl ?_ (a:=some ⟨so.b,0,none⟩) (len:=so.len) (cap:=so.cap) (hx:=hv);refine da ?_;refine C.bs0 dv rfl (λb5=>?_);refine fy ?_;refine C.EP (l:=[]) ops rfl (λs'=>?_) (hsrc:=λH st=>?_) (s:=⟨some ⟨b5,0,none⟩,0,0⟩)
  ·refine bj ?_;exact C.a8 aJ ai ⟨s',rfl,rfl⟩
  ·exact dF.src (dF.a9 Fo.au ho) st (λj=>rfl)
theorem gZ.J.small{I:HL}{e:gZ}(h:e.J I):e.abs.bk.reads.length<2^20:=by
 cases e with
 |eK tx home ops so=>exact lM 20
 |dec tx yes reads sr=>exact h.2
 |kg tx yes=>exact lM 20
abbrev S5(r:RecR)(so sr:ax):Value:=.agg #[az r.kind,az r.tx,.bool r.yes,az r.home,so.v,sr.v]
def Tm(I:HL)(e:gZ):Value->List HP->Prop:=λv As=>∃ so sr:ax,v=S5 e.abs.bk so sr/\As=[aW cK 3 67 so e.abs.bk.ops,aW dv 1 21 sr e.abs.bk.reads,a9 I]
theorem LL{I:HL}{tx home:Int}{ops:List cy}{so:ax}(ho:dX I cK 67 so ops)(hl:ops.length<2^43):
  aB prog ao bG 276 #[(gZ.eK tx home ops so).pay] [a9 I] (Tm I (.eK tx home ops so)):=by
 refine aB.of λR C kd d F c cs aJ ai=>?_;refine jI ?_;refine C.bx rfl (λb1=>?_);refine C.al rfl (λb2=>?_);refine C.go ?_;refine C.wR (cm 3 0 8) 9 [6,7,8] 2 ?_ (W:=[bX b1 (.cells #[az tx,az home,so.v] 274 (0,0))]);refine n7 ?_;refine Dr.chain rfl ?_ (λ_ s=>bZ.sat bZ.au s);refine Ch.m 6 (aP λe aa hk=>?_);refine C.dk (tV ho hl) ?_;rintro v aO ⟨s9,rfl,rfl⟩;refine bI ?_;refine hk _ _ lU ?_;refine Ch.q 7 (λh=>C.bd rfl h) ?_;refine Ch.m 8 (aP λe aa hk=>?_);refine fy ?_;refine hk _ undef lU ?_;refine ee ?_;refine At.aG dv 1 21 ?_;exact C.SM (xs:=#[az 1,az tx,.bool false,az home,s9.v,.slice none 0 0]) (A:=[aW cK 3 67 s9 ops,aW dv 1 21 aG [],a9 I]) rfl aJ ai ⟨s9,aG,rfl,rfl⟩
theorem LM{I:HL}{tx:Int}{yes:Bool}{reads:List Int}{so:ax}(ho:dX I dv 21 so reads)(hl:reads.length<2^43):
  aB prog ao bG 277 #[(gZ.dec tx yes reads so).pay] [a9 I] (Tm I (.dec tx yes reads so)):=by
 refine aB.of λR C kd d F c cs aJ ai=>?_;refine jI ?_;refine C.bx rfl (λb1=>?_);refine C.al rfl (λb2=>?_);refine C.go ?_;refine C.wR (cm 3 0 8) 9 [6,7,8] 2 ?_ (W:=[bX b1 (.cells #[az tx,.bool yes,so.v] 277 (0,0))]);refine n7 ?_;refine Dr.chain rfl ?_ (λ_ s=>bZ.sat bZ.au s);refine Ch.m 6 (aP λe aa hk=>?_);refine C.dk (pG ho hl) ?_;rintro v aO ⟨s9,rfl,rfl⟩;refine bI ?_;refine hk _ _ lU ?_;refine Ch.q 7 (λh=>C.bd rfl h) ?_;refine Ch.m 8 (aP λe aa hk=>?_);refine fy ?_;refine hk _ undef lU ?_;refine ee ?_;refine At.aG cK 3 67 ?_;exact C.SM (xs:=#[az 2,az tx,.bool yes,az 0,.slice none 0 0,s9.v]) (A:=[aW cK 3 67 aG [],aW dv 1 21 s9 reads,a9 I]) rfl aJ ai ⟨aG,s9,rfl,rfl⟩
theorem LN{I:HL}{tx:Int}{yes:Bool}:
  aB prog ao bG 278 #[(gZ.kg tx yes).pay] [a9 I] (Tm I (.kg tx yes)):=by
 refine aB.of λR C kd d F c cs aJ ai=>?_;refine jI ?_;refine C.bx rfl (λb1=>?_);refine C.al rfl (λb2=>?_);refine ky ?_;refine At.aG dv 1 21 (At.aG cK 3 67 ?_);exact C.SM (xs:=#[az 3,az tx,.bool yes,az 0,.slice none 0 0,.slice none 0 0]) (A:=[aW cK 3 67 aG [],aW dv 1 21 aG [],a9 I]) rfl aJ ai ⟨aG,aG,rfl,rfl⟩
theorem Xh{v:Value}:fJ prog (method (prog.types.size+Made.depth) 274 v "shardlog/shard.record")=some (276,v):=by kernel_rfl
theorem Xi{v:Value}:fJ prog (method (prog.types.size+Made.depth) 277 v "shardlog/shard.record")=some (277,v):=by kernel_rfl
theorem Xj{v:Value}:fJ prog (method (prog.types.size+Made.depth) 281 v "shardlog/shard.record")=some (278,v):=by kernel_rfl
variable{fn:bM}{kd:Kd}{n:Nat}{e:Nat->Value}{ds:List dW}{k:List Item}{cs:List Frame}
variable{ops:Array Oper}{i:Nat}{aa:List Nat}{dst:Option Nat}{ty:aR}{pos:String}{af:Array Edge}{gd:Option (Nat×Bool)}
set_option maxRecDepth 100000 in
theorem ab.enr(C:ab prog ao bG R){recv:cU}{ga:Array aR}{I:HL}{en:gZ}(hJ:en.J I)
  (h:∀ v aO,Tm I en v aO->At R d (aO++F) (gr fn kd n (di e dst v) ds (.inRegion ops aa::k) cs)) (ho:aZ ops i=some ⟨dst,.call ⟨.invoke recv "shardlog/shard.record",#[],ga⟩,ty,pos,af,gd⟩:=by rfl) (hr:ev n e recv=en.val:=by rfl)
  (hA:dJ [a9 I] As F:=by exact dJ.au) (hw:aN ops n e gd=true:=by rfl):At R d As (gr fn kd n e ds (.inRegion ops (i::aa)::k) cs):=by
 cases en with
 |eK tx home ops so=>exact C.Y7 Xh (LL hJ.1 (by have:=hJ.2;omega)) h ho hr rfl hA hw
 |dec tx yes reads sr=>exact C.Y7 Xi (LM hJ.1 (by have:=hJ.2;omega)) h ho hr rfl hA hw
 |kg tx yes=>exact C.Y7 Xj LN h ho hr rfl hA hw
theorem wW{s:dZ}{m:MsgR}{d:gV}(h:aC s.cf m.tx=some d):l4 s m=if d.pl<s.aX then eP s {bq with kind:=7,to:= -1,tx:=m.tx,yes:=d.yes,reads:=((s.log[d.pl.toNat]?.map a7.bk).getD eA).reads}else s:=by unfold l4;rw[h]
theorem Im{s:dZ}{m:MsgR}(h:aC s.cf m.tx=none)(h2:(aC s.cq m.tx).isSome=true):l4 s m=s:=by unfold l4;rw[h];simp only[h2,eQ]
def PZ(tx:Int)(z:dZ)(k:Int)(p:List cy):dZ:=eP z {bq with kind:=2,to:=k,tx:=tx,ops:=p}
theorem zp{s:dZ}{m:MsgR}(h:aC s.cf m.tx=none)(h2:aC s.cq m.tx=none):l4 s m=jm (qO {s with cq:=bA s.cq m.tx ⟨m.ops,[],[],false,false⟩} m.ops (PZ m.tx)) m.tx 4 true:=by unfold l4;rw[h,h2];rfl
theorem wX{b b2 b3:Nat}{x:cZ}{m:cu}{k:Int}{I:HL}{sp:ax}{part:List cy}(hl:x.out.length<2^31):
  aB prog ao bG 198 #[az k,sp.v,aE b2,aE b3] [de b x,a9 I,bX b2 (.cells #[aE b] 115 (0,0)),l8 b3 m]
   (λv As=>As=[de b {x with out:=x.out++[⟨{bq with kind:=2,aV:=x.me,to:=k,tx:=m.tx,ops:=part},sp,aG⟩]},a9 I,bX b2 (.cells #[aE b] 115 (0,0)),l8 b3 m]):=by
 refine aB.of λR C kd d F c cs aJ ai=>?_;refine Ls ?_;refine C.dk (gk (s:=x) (m:=⟨{bq with kind:=2,to:=k,tx:=m.tx,ops:=part},sp,aG⟩) ak) ?_;rintro v aO rfl;refine k8 ?_;exact C.cQ aJ ai rfl
abbrev sxC(b:Nat)(s:cZ)(lg wt ot tm:ax)(bv bl bp bd be bu:Nat):HP:=bX b (.cells #[az s.me,az s.n,.bool s.up,lg.v,az s.aX,.map (some bv),.map (some bl),.map (some bp),.map (some bd),.map (some be),.map (some bu),tm.v,az s.order,az s.clock,wt.v,ot.v] 180 (0,0))
abbrev Kj(b2 b:Nat):HP:=bX b2 (.cells #[aE b] 115 (0,0))
theorem ShJ.aa2{I:HL}{s:cZ}(h:ShJ I s){tx:Int}{u:fg}(hu:C9 I u):ShJ I {s with cq:=bA s.cq tx u}:=⟨h.log,h.bB,λp hp=>by
 rcases dY hp with rfl|hp
 ·exact hu
 ·exact h.cq p hp,h.waits,h.out⟩
theorem FQ{I:HL}{b:Nat}{s:cZ}{m:cu}{o a:Int}(hJ:ShJ I s)(hb:qm s)(hC:wU o a s)(hM:ku I m)(hO:iX m.ops):
  aB prog ao bG 170 #[aE b,q9 m] [de b s,a9 I] (gn b I (o+1) (a+1) (l4 s.abs m.toMsgR)):=by
 have jV:=hb.log;have jg:=hb.out;have Xe:=hb.clock;have Xf:=hb.order;have RH:=hb.timers;have hMo:=hM.o;have YZ:=hb.n;refine aB.of λR C kd d F c cs aJ ai=>?_;refine bI ?_;refine de.opn (h:=λlg wt ot tm bv bl bp bd be bu tl ht=>?_);refine bj ?_;refine C.bx rfl (λb2=>?_);refine C.bx rfl (λb3=>?_);refine C.go ?_;cases oj:(aC s.cf m.tx)
 ·refine C.dx (cm 7 0 8++[(6,8)]++[(15,9),(16,10)]++[(4,11)]++[(5,13)]) 14 [11,12] 1 ?_;refine mB ?_;refine Dr.l (λhE h=>C.Hw oj rfl h) ?_;refine G7 ?_;refine Ch.m 11 (aP λe aa hk=>?_);refine C.al rfl (λb4=>hk _ _ .cons ?_);refine Ch.m 12 (aP λe aa hk=>?_);refine C.po rfl (hk _ undef ?_);refine vT ?_;cases LO:(aC s.cq m.tx)
  ·refine C.dx (cm 42 0 9) 9 [] 0 ?_;refine mB ?_;refine Dr.l (λhE h=>C.Hw LO rfl h) ?_;refine Dr.p (λh=>C.Ld rfl h) ?_;refine Dr.chain rfl ?_;refine oi ?_;refine C.wR (cm 51 0 13) 14 [9,10,11,12,13] 4 ?_ (W:=[Kj b2 b,l8 b3 m,sxC b s lg wt ot tm bv bl bp bd be bu]);refine S8 ?_;refine Dr.chain rfl ?_ (λ_ s=>bZ.sat bZ.au s);refine Ch.n2 (t:=9) (u:=10) rfl ?_ ?_
   ·refine aP λe aa hk=>?_;refine C.mm .i64 H6 rfl (λRI=>(hk _ _ .cons ?_));refine Ch.m 10 (aP λe aa hk=>?_);refine C.mm .i64 dS rfl (λTn=>(hk _ _ .cons ?_));refine Ch.q 11 (λh=>C.bd rfl h) ?_;refine Ch.m 12 (aP λe aa hk=>?_);refine C.bx rfl (λTo=>hk _ _ .cons ?_);refine Ch.m 13 (aP λe aa hk=>?_);refine C.mu (w:=fg.mk To m.ops m.so [] RI [] Tn false false) (l:=s.cq) (q:=m.tx) rfl ?_;refine hk _ undef lU ?_;refine ee ?_;refine FN (l:=s.cq) (tx:=m.tx) (fg.mk To m.ops m.so [] RI [] Tn false false) LO dJ.au ?_;refine de.cls {s with cq:=bA s.cq m.tx (fg.mk To m.ops m.so [] RI [] Tn false false)} ?_;obtain⟨s1,iD⟩:∃ s1:cZ,s1={s with cq:=bA s.cq m.tx (fg.mk To m.ops m.so [] RI [] Tn false false)}:=⟨_,rfl⟩;have z6:ShJ I s1:=by rw[iD];exact hJ.aa2 ⟨hMo,by simp,by simp⟩
    have RJ:s1.out=s.out:=by rw[iD]
    have yz:s1.n=s.n:=by rw[iD]
    rw[<- iD];refine cN ?_;refine C.mf rfl ?_;refine C.dk (o3 (f:=198) (a1:=#[]) (a2:=#[aE b2,aE b3]) (s:=s1) (I:=I) (E:=[Kj b2 b,l8 b3 m]) (inv:=λk x I'=>∃ o,x={s1 with out:=o}/\o.length<=s.out.length+k/\ShJ I' x) (Vk:=PZ m.tx) hMo hO (by rw[yz];exact hb.n) (λI' h=>⟨s1.out,rfl,by rw[RJ];omega,z6.mono h⟩) (λk x I' h=>by
     obtain⟨o,h1,h2,h3⟩:=h;exact⟨o,h1,ak,h3⟩) (λk x I' sp part sx hk hinv rL eL Kk=>by
     obtain⟨o,rfl,h2,h3⟩:=hinv;refine aB.post (wX (part:=part) (by dsimp only;rw[yz]at hk;omega)) λv As h=>⟨_,I',Sub.refl _,⟨_,rfl,?_,h3.outs ⟨rL,.nil ..,by exact lM 20⟩⟩,?_,h⟩
     ·dsimp only;rw[ji,lL];omega
     ·simp[PZ,eP,cZ.abs])) ?_
    rintro v aO ⟨x',I1,fD,⟨o',rfl,qp,qD⟩,kU,rfl⟩;refine sY ?_;refine C.dk (km (ticks:=4) (s:={s1 with out:=o'}) (by rw[iD];show s.timers.length<_;omega) (by rw[iD];show 0<=s.order/\s.order<_;omega) (by rw[iD];show 0<=s.clock/\s.clock<_;omega) (by decide)) ?_;rintro v aO rfl;refine k8 ?_;refine C.cQ aJ ai ⟨I1,jJ {s1 with out:=o'} m.tx 4 true,fD,⟨qD.log,qD.bB,qD.cq,qD.waits,qD.out⟩,?_,⟨by have:=hC.z;omega,by have:=hC.o;rw[iD];show 0<=s.order+1/\s.order+1<=o+1;omega,λu hu p hp=>?_⟩,rfl⟩
    ·rw[ni,kU,zp oj (rk LO)]
     congr 2
     rw[iD];unfold cZ.abs;simp only[dZ.mk.injEq,yf,mN];exact kN fg.abs s.cq
    ·rw[iD]at hu;rcases dY hu with rfl|hu
     ·cases hp
     ·have:=hC.a u hu p hp;omega
   ·refine aP λe aa hk=>?_;refine C.mm .i64 dS rfl (λTn=>(hk _ _ .cons ?_));refine Ch.m 9 (aP λe aa hk=>?_);refine C.mm .i64 H6 rfl (λRI=>(hk _ _ .cons ?_));refine Ch.q 11 (λh=>C.bd rfl h) ?_;refine Ch.m 12 (aP λe aa hk=>?_);refine C.bx rfl (λTo=>hk _ _ .cons ?_);refine Ch.m 13 (aP λe aa hk=>?_);refine C.mu (w:=fg.mk To m.ops m.so [] RI [] Tn false false) (l:=s.cq) (q:=m.tx) rfl ?_;refine hk _ undef lU ?_;refine ee ?_;refine FN (l:=s.cq) (tx:=m.tx) (fg.mk To m.ops m.so [] RI [] Tn false false) LO dJ.au ?_;refine de.cls {s with cq:=bA s.cq m.tx (fg.mk To m.ops m.so [] RI [] Tn false false)} ?_;obtain⟨s1,iD⟩:∃ s1:cZ,s1={s with cq:=bA s.cq m.tx (fg.mk To m.ops m.so [] RI [] Tn false false)}:=⟨_,rfl⟩;have z6:ShJ I s1:=by rw[iD];exact hJ.aa2 ⟨hMo,by simp,by simp⟩
    have RJ:s1.out=s.out:=by rw[iD]
    have yz:s1.n=s.n:=by rw[iD]
    rw[<- iD];refine cN ?_;refine C.mf rfl ?_;refine C.dk (o3 (f:=198) (a1:=#[]) (a2:=#[aE b2,aE b3]) (s:=s1) (I:=I) (E:=[Kj b2 b,l8 b3 m]) (inv:=λk x I'=>∃ o,x={s1 with out:=o}/\o.length<=s.out.length+k/\ShJ I' x) (Vk:=PZ m.tx) hMo hO (by rw[yz];exact hb.n) (λI' h=>⟨s1.out,rfl,by rw[RJ];omega,z6.mono h⟩) (λk x I' h=>by
     obtain⟨o,h1,h2,h3⟩:=h;exact⟨o,h1,ak,h3⟩) (λk x I' sp part sx hk hinv rL eL Kk=>by
     obtain⟨o,rfl,h2,h3⟩:=hinv;refine aB.post (wX (part:=part) (by dsimp only;rw[yz]at hk;omega)) λv As h=>⟨_,I',Sub.refl _,⟨_,rfl,?_,h3.outs ⟨rL,.nil ..,by exact lM 20⟩⟩,?_,h⟩
     ·dsimp only;rw[ji,lL];omega
     ·simp[PZ,eP,cZ.abs])) ?_
    rintro v aO ⟨x',I1,fD,⟨o',rfl,qp,qD⟩,kU,rfl⟩;refine sY ?_;refine C.dk (km (ticks:=4) (s:={s1 with out:=o'}) (by rw[iD];show s.timers.length<_;omega) (by rw[iD];show 0<=s.order/\s.order<_;omega) (by rw[iD];show 0<=s.clock/\s.clock<_;omega) (by decide)) ?_;rintro v aO rfl;refine k8 ?_;refine C.cQ aJ ai ⟨I1,jJ {s1 with out:=o'} m.tx 4 true,fD,⟨qD.log,qD.bB,qD.cq,qD.waits,qD.out⟩,?_,⟨by have:=hC.z;omega,by have:=hC.o;rw[iD];show 0<=s.order+1/\s.order+1<=o+1;omega,λu hu p hp=>?_⟩,rfl⟩
    ·rw[ni,kU,zp oj (rk LO)]
     congr 2
     rw[iD];unfold cZ.abs;simp only[dZ.mk.injEq,yf,mN];exact kN fg.abs s.cq
    ·rw[iD]at hu;rcases dY hu with rfl|hu
     ·cases hp
     ·have:=hC.a u hu p hp;omega
  ·rename_i w49;refine C.dx (cm 42 0 9) 9 [] 0 ?_;refine mB ?_;refine Dr.l (λhE h=>C.Hv LO rfl h) ?_;refine Dr.p (λh=>C.Ld rfl h) ?_;refine Dr.chain rfl ?_;refine oi ?_;refine de.cls s ?_;refine C.a8 aJ ai ⟨I,s,Sub.refl _,hJ,?_,hC.same rfl rfl,rfl⟩;rw[Im oj (by rw[jX LO];rfl)]
 ·rename_i Xd;refine C.dx (cm 7 0 8++[(6,8)]++[(15,9),(16,10)]++[(4,11)]++[(5,13)]) 14 [11,12] 1 ?_;refine mB ?_;refine Dr.l (λhE h=>C.Hv oj rfl h) ?_;refine G7 ?_;refine Ch.m 11 (aP λe aa hk=>?_);refine C.al rfl (λb4=>hk _ _ .cons ?_);refine Ch.m 12 (aP λe aa hk=>?_);refine C.po rfl (hk _ undef ?_);refine vT ?_;obtain⟨D6,z3⟩:=hb.dpl _ _ oj;obtain⟨pl,dy⟩:=Xd;dsimp only at D6 z3;obtain⟨j,rfl⟩:=g7 D6;have G5:j<s.log.length:=ak;have hje:=hJ.log _ (bC G5);by_cases jz:(j:Int)<s.aX
  ·refine C.dx (cm 18 0 7) 7 [] 0 ?_;refine n7 ?_;refine Dr.p (λh=>C.eE rfl h (hf:=jz)) ?_;refine Dr.chain rfl ?_;refine oi ?_;refine C.wR (cm 25 0 17) 17 [8,11,12,13,14,15,16] 8 ?_ (W:=[Kj b2 b,l8 b3 m,bX b4 (.cells #[az (j:Int),.bool dy] 279 (0,0))]);refine gY ?_;refine Dr.chain rfl ?_ (λ_ s=>bZ.sat bZ.au s);refine Ch.m 8 (aP λe aa hk=>?_);refine C.ld rfl (hk _ _ .refl ?_);refine Ch.m 11 (aP λe aa hk=>?_);refine C.dT rfl (hk _ _ .refl ?_);refine Ch.m 12 (aP λe aa hk=>?_);refine C.dG rfl (hk _ _ .refl ?_);refine Ch.m 13 (aP λe aa hk=>?_);refine C.enr hje ?_;rintro v aO ⟨so,sr,rfl,rfl⟩;refine bI ?_;refine hk _ _ lU ?_;refine Ch.q 14 (λh=>C.fd (ft:=104) ⟨_,_,underlying167,rfl,rfl,rfl⟩ rfl h) ?_;refine Ch.q 15 (λh=>C.bd rfl h) ?_;refine Ch.m 16 (aP λe aa hk=>?_);refine de.cls s ?_;refine C.dk (gk (s:=s) (m:=⟨{bq with kind:=7,to:= -1,tx:=m.tx,yes:=dy,reads:=s.log[j].abs.bk.reads},aG,sr⟩) ak) ?_;rintro v aO rfl;refine bI ?_;refine hk _ _ lU ?_;refine ee ?_;refine At.JS (I:=I) (s:=sr) (f:=dv) Fo.au Fo.au λI1 fD hsr=>?_;refine C.a8 aJ ai ⟨I1,{s with out:=s.out++[⟨{bq with kind:=7,aV:=s.me,to:= -1,tx:=m.tx,yes:=dy,reads:=s.log[j].abs.bk.reads},aG,sr⟩]},fD,(hJ.mono fD).outs ⟨.nil ..,hsr,hje.small⟩,?_,hC.same rfl rfl,rfl⟩;rw[show l4 s.abs m.toMsgR=_ from(wW oj).trans (aK jz)];have e1:s.abs.log[(j:Int).toNat]? =some s.log[j].abs:=by simp[cZ.abs,G5]
   simp only[eP,cZ.abs,gy]at e1⊢;simp[G5]
  ·refine C.dx (cm 18 0 7) 7 [] 0 ?_;refine n7 ?_;refine Dr.p (λh=>C.du rfl h (hf:=jz)) ?_;refine Dr.chain rfl ?_;refine oi ?_;refine de.cls s ?_;refine C.a8 aJ ai ⟨I,s,Sub.refl _,hJ,?_,hC.same rfl rfl,rfl⟩;rw[show l4 s.abs m.toMsgR=_ from(wW oj).trans (aq jz)]
theorem Xk{u:lR}{n:Int}{o:cy}{l:List cy}{next:List (Int×Int)}(hw:o.w=true):ir u n (o::l) next=ir u n l next:=by conv=>lhs;unfold ir;rw[aK hw]
theorem Xl{u:lR}{n:Int}{o:cy}{l:List cy}{next:List (Int×Int)}{aa:List Int}(hw:o.w=false)(h:ir u n (o::l) next=some aa):
  ∃ x Kl,((aC u.aT (ie o.k n)).getD [])[((aC next (ie o.k n)).getD 0).toNat]? =some x/\ir u n l (bA next (ie o.k n) ((aC next (ie o.k n)).getD 0+1))=some Kl/\aa=x::Kl:=by
 unfold ir at h;rw[aq (by rw[hw];decide)]at h;dsimp only at h;split at h
 ·cases h
 ·rename_i x hx;cases hr:ir u n l (bA next (ie o.k n) ((aC next (ie o.k n)).getD 0+1))with
  |none=>rw[hr]at h;cases h
  |some r=>rw[hr]at h;exact⟨x,r,hx,rfl,(bY h).symm⟩
def vf(u:fg)(k:Int):List Int×ax:=(aC u.aT k).getD ([],aG)
theorem Tp(u:fg)(k:Int):((aC u.aT k).map H6).getD (.slice none 0 0)=(vf u k).2.v:=by unfold vf;cases aC u.aT k<;>rfl
theorem LP(u:fg)(k:Int):(aC u.abs.aT k).getD []=(vf u k).1:=by show(aC (u.aT.map λp=>(p.1,p.2.1)) k).getD []=_;rw[iZ (λv:List Int×ax=>v.1)];unfold vf;cases aC u.aT k<;>rfl
theorem Tq{I:HL}{u:fg}(h:C9 I u)(k:Int):dX I dv 21 (vf u k).2 (vf u k).1:=by
 unfold vf;cases hg:aC u.aT k with
 |none=>exact .nil ..
 |some p=>exact h.r _ (bU hg)
theorem FR{I:HL}{u:fg}{n:Int}{rd:List Int}(hU:C9 I u)(hb:iX u.ops)(hn:1<=n)(hr:l5 u.abs n=some rd):
  aB prog ao bG 203 #[aE u.b,az n] [bX u.b (.cells #[u.so.v,.map (some u.mv),.map (some u.ma),.bool u.dec,.bool u.yes] 299 (0,0)),cW .i64 H6 u.mv u.aT,a9 I]
   (λv As=>∃ s',v=s'.v/\As=[aW dv 1 21 s' rd,bX u.b (.cells #[u.so.v,.map (some u.mv),.map (some u.ma),.bool u.dec,.bool u.yes] 299 (0,0)),cW .i64 H6 u.mv u.aT,a9 I]):=by
 have hl:=hb.2;have hUo:=hU.o;refine aB.of λR C kd d F c cs aJ ai=>?_;refine Ls ?_;refine C.mm .i64 dS rfl (λVl=>?_);refine i6 ?_;refine At.aG dv 1 21 ?_;refine C.bS (X:=Nat×ax×List Int×List (Int×Int)) (λx=>[(0,aE u.b),(1,az n),(5,x.2.1.v),(6,.map (some Vl)),(14,u.so.v),(15,az u.ops.length),(16,az x.1)]) (λx=>aW dv 1 21 x.2.1 x.2.2.1::cW .i64 dS Vl x.2.2.2::bX u.b (.cells #[u.so.v,.map (some u.mv),.map (some u.ma),.bool u.dec,.bool u.yes] 299 (0,0))::cW .i64 H6 u.mv u.aT::a9 I::F)
  (λx=>x.1<=u.ops.length/\x.2.2.1.length<=x.1/\(∀ q v,aC x.2.2.2 q=some v->0<=v/\v<=x.1)/\∃ aa,ir u.abs n (u.ops.drop x.1) x.2.2.2=some aa/\x.2.2.1++aa=rd) (λx=>u.ops.length-x.1) (0,aG,[],[]) ⟨rfl,rfl,rfl,rfl,rfl,rfl,rfl,trivial⟩ ⟨eC _,fI _,λq v h=>(nomatch h),rd,hr,rfl⟩ ?_
 rintro⟨i,s1,ou,nx⟩ e ⟨hi,og,P0,aa,qI,i9⟩ ih;dsimp only at hi og P0 qI i9⊢;refine bj ?_;refine C.cmp rfl (λxv=>?_) (λxv=>?_)
 ·refine bj ?_;have cG:i<u.ops.length:=by simpa using xv
  have xq:=hb.1 _ (bC cG);rw[i7 cG]at qI;refine bj ?_;refine C.lZ rfl (λhj=>?_);refine C.al rfl (λb8=>?_);refine C.po rfl ?_ (hv:=λv h=>fM.one (f:=cK) u.ops[i] v (by simpa using h));refine cN ?_;generalize hw:u.ops[i].w=z;rcases fU z with rfl|rfl
  ·refine dV ?_;rw[Xk hw]at qI;exact again ih (i+1,s1,ou,nx) ⟨cG,cD,λq v h=>by have:=P0 q v h;dsimp only;omega,aa,qI,i9⟩ (cD)
  ·refine da ?_;obtain⟨x,Kl,hx,Rp,rfl⟩:=Xl hw qI;obtain⟨j,hj⟩:∃ j:Nat,(aC nx (ie u.ops[i].k n)).getD 0=j/\j<=i:=by
    cases hg:aC nx (ie u.ops[i].k n)with
    |none=>exact⟨0,rfl,eC _⟩
    |some v=>
     obtain⟨j,rfl⟩:=g7 (P0 _ _ hg).1;have:=(P0 _ _ hg).2;exact⟨j,rfl,ak⟩
   obtain⟨hj,C3⟩:=hj;rw[hj,LP,gy]at hx;obtain⟨G5,hxe⟩:=jC.1 hx;have ael:=Tp u (ie u.ops[i].k n);have Xm:=tX nx (ie u.ops[i].k n);have Ze:=Tq hU (ie u.ops[i].k n);rw[hj]at Xm Rp;refine cN ?_;refine C.cE (vW (key:=u.ops[i].k) (n:=n) xq hn) ?_;refine pb ?_;refine bj ?_;refine C.dx (cm 27 0 14++[(5,14)]) 15 [12,13,14] 1 ?_;refine n7 ?_;refine Dr.l (λhE h=>C.E7 ael rfl h) ?_;refine jy ?_;refine Dr.l (λhE h=>C.E7 Xm rfl h) ?_;refine xr ?_;refine Ch.m 12 (aP λe aa hk=>?_);refine C.n5 rfl (λb39=>hk _ _ .cons ?_);refine Ch.m 13 (aP λe aa hk=>?_);refine C.oh (s:=s1) (l:=ou) (vf u (ie u.ops[i].k n)).1[j] rfl (λs2=>?_);refine hk _ _ ?_;refine Ch.q 14 (λh=>C.lh rfl h) ?_;refine S9 ?_;refine C.E7 Xm rfl ?_;refine C.ar rfl ?_ (r:=((j:Int)+1));refine C.mu (w:=(j:Int)+1) (l:=nx) (q:=ie u.ops[i].k n) rfl ?_;refine cF ?_;refine again ih (i+1,s2,ou++[(vf u (ie u.ops[i].k n)).1[j]],bA nx (ie u.ops[i].k n) ((j:Int)+1)) ⟨cG,by simp;omega,λq v h=>?_,Kl,Rp,by rw[hxe,qw];exact i9⟩ (cD);rw[fF]at h;by_cases e:q=ie u.ops[i].k n
   ·rw[aK e]at h;obtain rfl:=bY h;dsimp only;omega
   ·rw[aq e]at h;have:=P0 q v h;dsimp only;omega
 ·refine dm ?_;have Lw:u.ops.drop i=[]:=qy (by simp at xv;omega);rw[Lw]at qI;obtain rfl:=bY qI;rw[lK]at i9;subst i9;exact C.a8 aJ ai ⟨s1,rfl,rfl⟩
def vtS(tx:Int)(yes:Bool)(z:dZ)(k:Int)(_:List cy):dZ:=iG z {bq with kind:=4,to:=k,tx:=tx,yes:=yes}
def Ee(u:lR)(m:MsgR):lR:=if m.yes&& !(aC u.aT m.aV).isSome then{u with aT:=bA u.aT m.aV m.reads}else u
def kV(u:lR)(n:Int)(m:MsgR):Bool:=m.yes&&decide ((Ee u m).aT.length<(dB (Ee u m).ops n).length)
def P1(s:dZ)(m:MsgR)(u1:lR)(rd:List Int):dZ:=
 iG (qO {s with cq:=bA s.cq m.tx {u1 with dec:=true,yes:=m.yes},log:=s.log++[.dec m.tx m.yes rd],cf:=bA s.cf m.tx ⟨s.log.length,m.yes⟩} u1.ops (vtS m.tx m.yes)) {bq with kind:=7,to:= -1,tx:=m.tx,yes:=m.yes,reads:=rd}
def zq(s:dZ)(m:MsgR):Prop:=∀ u,aC s.cq m.tx=some u->u.dec=false->m.yes=true->kV u s.n m=false->∃ rd,l5 (Ee u m) s.n=some rd/\rd.length<2^20
theorem Io{s:dZ}{m:MsgR}(h:aC s.cq m.tx=none):pW s m=s:=by unfold pW;rw[h]
theorem pI{s:dZ}{m:MsgR}{u:lR}(h:aC s.cq m.tx=some u):pW s m=if u.dec then s else if kV u s.n m then{s with cq:=bA s.cq m.tx (Ee u m)}else P1 s m (Ee u m) (if m.yes then(l5 (Ee u m) s.n).getD []else[]):=by unfold pW;rw[h];rfl
theorem zr{b b2 b3:Nat}{x:cZ}{m:cu}{k:Int}{I:HL}{sp:ax}(hl:x.waits.length<2^31):
  aB prog ao bG 204 #[az k,sp.v,aE b2,aE b3] [de b x,a9 I,Kj b2 b,l8 b3 m]
   (λv As=>As=[de b {x with waits:=x.waits++[⟨{bq with kind:=4,aV:=x.me,to:=k,tx:=m.tx,yes:=m.yes},aG,aG⟩]},a9 I,Kj b2 b,l8 b3 m]):=by
 refine aB.of λR C kd d F c cs aJ ai=>?_;refine Vh ?_;refine C.dk (iQ (s:=x) (m:=⟨{bq with kind:=4,to:=k,tx:=m.tx,yes:=m.yes},aG,aG⟩) ak) ?_;rintro v aO rfl;refine k8 ?_;exact C.cQ aJ ai rfl
abbrev BJ(u:fg)(vs:List (Int×(List Int×ax))):fg:={u with aT:=vs}
def Nl(u:fg)(m:cu):List (Int×(List Int×ax)):=if m.yes&& !(aC u.aT m.aV).isSome then bA u.aT m.aV (m.reads,m.sr)else u.aT
theorem vg(u:fg)(m:cu):(BJ u (Nl u m)).abs=Ee u.abs m.toMsgR:=by
 unfold Ee Nl;have e:(aC u.abs.aT m.aV).isSome=(aC u.aT m.aV).isSome:=by show(aC (u.aT.map λp=>(p.1,p.2.1)) m.aV).isSome=_;rw[iZ (λv:List Int×ax=>v.1)];cases aC u.aT m.aV<;>rfl
 rw[e];split
 ·simp only[fg.abs,BJ];rw[kN (λv:List Int×ax=>v.1)]
 ·rfl
theorem Km{I:HL}{u:fg}{m:cu}(h:C9 I u)(hm:ku I m):C9 I (BJ u (Nl u m)):=by
 refine⟨h.o,λv hv=>?_,λv hv=>?_⟩
 ·unfold Nl at hv;dsimp only at hv;split at hv
  ·rcases dY hv with rfl|hv
   ·exact hm.r
   ·exact h.r v hv
  ·exact h.r v hv
 ·unfold Nl at hv;dsimp only at hv;split at hv
  ·rcases dY hv with rfl|hv
   ·exact hm.z
   ·exact h.z v hv
  ·exact h.z v hv
abbrev sxU(b:Nat)(s:cZ)(tx:Int)(lg wt ot tm:ax)(bv bl bp bd be bu:Nat)(tl:List kh)(F:List HP):List HP:=
 sxC b s lg wt ot tm bv bl bp bd be bu::aW n9 1 272 lg s.log::cW .u8 ff bv s.values::cW .u8 dS bl s.aH::cW .i64 tT bp s.bB::cW .i64 oY bd s.done::cW .i64 oY be s.cf::cW .i64 vV bu s.cq::all ((dQ s.cq tx).map ql)::
  aW rW 4 263 tm tl::aW bQ 7 190 wt s.waits::aW bQ 7 190 ot s.out::F
theorem zt{u:fg}{m:cu}{n:Int}{vs:List (Int×(List Int×ax))}(Ay:vs=Nl u m)(hy:m.yes=true):kV u.abs n m.toMsgR=decide (vs.length<(dB u.ops n).length):=by unfold kV;rw[<- vg,<- Ay];simp only[hy,Bool.true_and,fg.abs,BJ,dd]
theorem Xn{u:fg}{m:cu}(hy:m.yes=false):Nl u m=u.aT:=by unfold Nl;rw[hy];rfl
theorem Ko(u:lR)(m:MsgR):(Ee u m).ops=u.ops:=by unfold Ee;split<;>rfl
theorem Ip{I:HL}{b:Nat}{s:cZ}{m:cu}{o a:Int}(hJ:ShJ I s)(hb:qm s)(hC:wU o a s)(hM:ku I m)(hV:zq s.abs m.toMsgR):
  aB prog ao bG 172 #[aE b,q9 m] [de b s,a9 I] (gn b I (o+1) (a+1) (pW s.abs m.toMsgR)):=by
 have jV:=hb.log;have De:=hb.waits;have YZ:=hb.n;refine aB.of λR C kd d F c cs aJ ai=>?_;refine bI ?_;refine de.opn (h:=λlg wt ot tm bv bl bp bd be bu tl ht=>?_);refine bj ?_;refine C.bx rfl (λb2=>?_);refine C.bx rfl (λb3=>?_);refine C.go ?_;cases nz:(aC s.cq m.tx)
 ·refine C.dx (cm 8 0 8++[(4,8)]) 9 [] 0 ?_;refine mB ?_;refine Dr.l (λhE h=>C.Hw nz rfl h) ?_;refine wS ?_;refine Ch.fin ?_;refine oW ?_;refine de.cls s ?_;refine C.a8 aJ ai ⟨I,s,Sub.refl _,hJ,(Io (rk nz)).symm,hC.same rfl rfl,rfl⟩
 ·rename_i nN;refine C.dx (cm 8 0 8++[(4,8)]) 9 [] 0 ?_;refine mB ?_;refine Dr.l (λhE h=>C.Hv nz rfl h) ?_;refine wS ?_;refine ee ?_;refine vd nz Fo.au ?_;have eT:=bU nz;have cJ:=hb.zh _ eT;have PX:=hJ.cq _ eT;have mA:=PX.o;refine dV ?_;refine C.U5 rfl (λhd=>?_) (λhd=>?_)
  ·refine da ?_;refine im nN dJ.au ?_;rw[gF nz];refine de.cls s ?_;refine C.a8 aJ ai ⟨I,s,Sub.refl _,hJ,?_,hC.same rfl rfl,rfl⟩;rw[show pW s.abs m.toMsgR=_ from(pI (jX nz)).trans (aK hd)]
  ·refine dm ?_;apply kI (X:=ax×List Int×List (Int×(List Int×ax))×HL) (λx=>x.2.2.1=Nl nN m/\kV nN.abs s.n m.toMsgR=false/\x.2.1=(if m.yes then(l5 (Ee nN.abs m.toMsgR) s.n).getD []else[])/\Sub I x.2.2.2/\dX x.2.2.2 dv 21 x.1 x.2.1/\x.2.1.length<2^20) (λx=>[(2,aE b2),(3,aE b3),(4,aE nN.b),(5,x.1.v)]) (λx=>FG (BJ nN x.2.2.1) (Kj b2 b::l8 b3 m::sxU b s m.tx lg wt ot tm bv bl bp bd be bu tl (a9 x.2.2.2::F))) (R:=R) (d:=d) (fn:=172) (kd:=kd) (n:=110) (ds:=[]) (cs:=c::cs)
   ·intro wY;refine bj ?_;refine C.U5 rfl (λhy=>?_) (λhy=>?_)
    ·refine bj ?_;apply kI (X:=List (Int×(List Int×ax))) (λvs=>vs=Nl nN m) (λ_=>[(2,aE b2),(3,aE b3),(4,aE nN.b),(5,aG.v)]) (λvs=>FG (BJ nN vs) (Kj b2 b::l8 b3 m::sxU b s m.tx lg wt ot tm bv bl bp bd be bu tl (a9 I::F))) (R:=R) (d:=d) (fn:=172) (kd:=kd) (n:=110) (ds:=[]) (cs:=c::cs)
     ·intro Dd;cases RL:(aC nN.aT m.aV)
      ·refine C.dx (cm 27 0 7++[(26,7)]++[(34,8),(35,9)]++[(6,10),(7,11)]) 12 [] 0 ?_;refine n7 ?_;refine Dr.l (λhE h=>C.Hw RL rfl h) ?_;refine PI ?_;refine Nf ?_;refine C.dx (cm 38 0 8) 9 [8] 0 ?_;refine Lu ?_;refine Ch.m 8 (aP λe aa hk=>?_);refine C.mu (w:=(m.reads,m.sr)) (l:=nN.aT) (q:=m.aV) rfl (hk _ undef ?_);refine ee ?_;refine bN Dd (bA nN.aT m.aV (m.reads,m.sr)) ?_;unfold Nl;rw[hy,RL];rfl
      ·rename_i w33;refine C.dx (cm 27 0 7++[(26,7)]++[(34,8),(35,9)]++[(6,10),(7,11)]) 12 [] 0 ?_;refine n7 ?_;refine Dr.l (λhE h=>C.Hv RL rfl h) ?_;refine PI ?_;refine Nf ?_;refine bN Dd nN.aT ?_;unfold Nl;rw[hy,RL];rfl
     ·rintro vs Ay e;by_cases Dh:((vs.length:Nat):Int)<((dB nN.ops s.n).length:Int)
      ·refine C.dx (cm 46 0 16) 16 [13,14,15] 0 ?_;refine Lv ?_;refine Ch.m 13 (aP λe aa hk=>?_);refine C.dk (nh (n:=s.n) mA cJ hb.n.1) ?_;rintro v aO ⟨bm,I1,pm,rfl,fD,RG, -,rfl⟩;refine bI ?_;have xn:pm.length=(dB nN.ops s.n).length:=by rw[<- RG];unfold wT;rw[dd]
       refine hk _ _ ?_;refine Ch.m 14 (aP λe aa hk=>?_);refine fy ?_;rw[xn];refine hk _ _ ?_;refine Ch.q 15 (λh=>C.eE rfl h (hf:=Dh)) ?_;refine oi ?_;refine im (BJ nN vs) dJ.au ?_;rw[<- rS (g:=vV) (u1:=BJ nN vs) nz rfl];refine de.cls {s with cq:=bA s.cq m.tx (BJ nN vs)} ?_;refine C.a8 aJ ai ⟨I1,{s with cq:=bA s.cq m.tx (BJ nN vs)},fD,⟨(hJ.mono fD).log,(hJ.mono fD).bB,λp hp=>?_,(hJ.mono fD).waits,(hJ.mono fD).out⟩,?_,⟨by have:=hC.z;omega,by have:=hC.o;show 0<=s.order/\s.order<=o+1;omega,λu hu p hp=>?_⟩,rfl⟩
       ·rcases dY hp with rfl|hp
        ·rw[Ay];exact Km (PX.mono fD) ⟨hM.o.mono fD,hM.r.mono fD,hM.z⟩
        ·exact(hJ.mono fD).cq p hp
       ·rw[show pW s.abs m.toMsgR=_ from(pI (jX nz)).trans ((aq (by show¬ nN.dec=true;rw[hd];decide)).trans (aK (by show kV nN.abs s.n m.toMsgR=true;rw[zt Ay hy];exact sE ak)))];rw[<- vg,<- Ay];simp only[cZ.abs,kN]
       ·rcases dY hu with rfl|hu
        ·have:=hC.a _ eT p hp;omega
        ·have:=hC.a u hu p hp;omega
      ·refine C.dx (cm 46 0 16) 16 [13,14,15] 0 ?_;refine Lv ?_;refine Ch.m 13 (aP λe aa hk=>?_);refine C.dk (nh (n:=s.n) mA cJ hb.n.1) ?_;rintro v aO ⟨bm,I1,pm,rfl,fD,RG, -,rfl⟩;refine bI ?_;have xn:pm.length=(dB nN.ops s.n).length:=by rw[<- RG];unfold wT;rw[dd]
       refine hk _ _ ?_;refine Ch.m 14 (aP λe aa hk=>?_);refine fy ?_;rw[xn];refine hk _ _ ?_;refine Ch.q 15 (λh=>C.du rfl h (hf:=Dh)) ?_;refine oi ?_;have we:kV nN.abs s.n m.toMsgR=false:=by rw[zt Ay hy];exact jD ak
       obtain⟨rdv,aa4,hrz⟩:=hV _ (jX nz) hd hy we;have aem:l5 (BJ nN vs).abs s.n=some rdv:=by rw[Ay,vg];exact aa4
       refine dm ?_;refine C.dk (FR (u:=BJ nN vs) (n:=s.n) (by rw[Ay];exact Km (PX.mono fD) ⟨hM.o.mono fD,hM.r.mono fD,hM.z⟩) cJ hb.n.1 aem) ?_;rintro v aO ⟨s67,rfl,rfl⟩;refine jI ?_;refine At.JS (I:=I1) (s:=s67) (f:=dv) Fo.au Fo.au λI2 kT aen=>?_;refine bN wY (s67,rdv,vs,I2) ⟨Ay,we,?_,fD.trans kT,aen,hrz⟩;dsimp only;rw[aK hy];have:l5 (Ee nN.abs m.toMsgR) s.n=some rdv:=aa4;rw[this];rfl
    ·refine bj ?_;refine bN wY (aG,[],nN.aT,I) ⟨(Xn hy).symm,?_,?_,Sub.refl _,.nil ..,lM 20⟩
     ·unfold kV;have:m.toMsgR.yes=false:=hy;rw[this];rfl
     ·rw[aq (by rw[hy];decide)]
   ·rintro⟨sv,rd,vs,I1⟩ ⟨Ay,ui,i9,fD,Ze,hz⟩ e;dsimp only at Ay ui i9 fD Ze hz⊢;refine C.wR (cm 68 0 6++[(74,7),(75,8)]) 10 [6,9] 2 ?_ (W:=[l8 b3 m]);refine Eb ?_;refine Dr.chain rfl ?_ (λ_ s=>bZ.sat bZ.au s);refine Ch.m 6 (aP λe aa hk=>?_);refine fy ?_;refine hk _ undef lU ?_;refine Ch.m 9 (aP λe aa hk=>?_);refine fy ?_;refine hk _ undef lU ?_;refine ee ?_;refine C.wR (cm 76 0 19) 20 [4,15,18,19] 3 ?_ (W:=[Kj b2 b,l8 b3 m]);refine gY ?_;refine qs ?_;refine Dr.p (λh=>C.mi rfl h) ?_;refine jy ?_;refine Dr.chain rfl ?_ (λ_ s=>bZ.sat bZ.au s);refine Ch.n2 (t:=4) (u:=15) rfl ?_ ?_
    ·refine aP λe aa hk=>?_;refine C.ld rfl (hk _ _ .refl ?_);refine Ch.m 15 (aP λe aa hk=>?_);refine C.dk (mE (en:=.dec m.tx m.yes rd sv) (l:=s.log) (lg:=lg) rfl ak) ?_;rintro v aO ⟨Za,rfl,rfl⟩;refine bI ?_;refine hk _ _ lU ?_;refine Ch.q 18 (λh=>C.bd rfl h) ?_;refine Ch.m 19 (aP λe aa hk=>?_);refine C.mu (w:=gV.mk s.log.length m.yes) (l:=s.cf) (q:=m.tx) rfl ?_;refine hk _ undef lU ?_;refine ee ?_;refine C.dx (cm 95 0 7) 7 [6] 0 ?_;refine Lr ?_;refine Dr.p (λh=>C.mf (v1:=[]) (v2:=[aE b2,aE b3]) rfl h) ?_;refine Dr.chain rfl ?_;refine Ch.m 6 (aP λe aa hk=>?_);refine im {BJ nN vs with dec:=true,yes:=m.yes} dJ.au ?_;rw[<- rS (g:=vV) (u1:={BJ nN vs with dec:=true,yes:=m.yes}) nz rfl];refine de.cls {s with log:=s.log++[.dec m.tx m.yes rd sv],cf:=bA s.cf m.tx ⟨s.log.length,m.yes⟩,cq:=bA s.cq m.tx {BJ nN vs with dec:=true,yes:=m.yes}} ?_;obtain⟨s1,iD⟩:∃ s1:cZ,s1={s with log:=s.log++[.dec m.tx m.yes rd sv],cf:=bA s.cf m.tx ⟨s.log.length,m.yes⟩,cq:=bA s.cq m.tx {BJ nN vs with dec:=true,yes:=m.yes}}:=⟨_,rfl⟩;have z6:ShJ I1 s1:=by
      have h0:=hJ.mono fD;have h1:=Km (PX.mono fD) (m:=m) ⟨hM.o.mono fD,hM.r.mono fD,hM.z⟩;rw[iD];refine⟨(h0.zk (e:=.dec m.tx m.yes rd sv) ⟨Ze,hz⟩).log,h0.bB,λp hp=>?_,h0.waits,h0.out⟩;rcases dY hp with rfl|hp
      ·rw[Ay];exact⟨h1.o,h1.r,h1.z⟩
      ·exact h0.cq p hp
     have RJ:s1.waits=s.waits:=by rw[iD]
     have yz:s1.n=s.n:=by rw[iD]
     rw[<- iD];refine C.dk (o3 (f:=204) (a1:=#[]) (a2:=#[aE b2,aE b3]) (s:=s1) (I:=I1) (E:=[Kj b2 b,l8 b3 m]) (inv:=λk x I'=>∃ o,x={s1 with waits:=o}/\o.length<=s.waits.length+k/\ShJ I' x) (Vk:=vtS m.tx m.yes) (mA.mono fD) cJ (by rw[yz];exact hb.n) (λI' h=>⟨s1.waits,rfl,by rw[RJ];omega,z6.mono h⟩) (λk x I' h=>by
      obtain⟨o,h1,h2,h3⟩:=h;exact⟨o,h1,ak,h3⟩) (λk x I' sp part sx hk hinv rL eL Kk=>by
      obtain⟨o,rfl,h2,h3⟩:=hinv;refine aB.post (zr (by dsimp only;rw[yz]at hk;omega)) λv As h=>⟨_,I',Sub.refl _,⟨_,rfl,?_,h3.wait ⟨.nil ..,.nil ..,by exact lM 20⟩⟩,?_,h⟩
      ·dsimp only;rw[ji,lL];omega
      ·simp[vtS,iG,cZ.abs])) ?_
     rintro v aO ⟨x',I2,kT,⟨o',rfl,qp,qD⟩,kU,rfl⟩;refine bI ?_;refine hk _ _ ?_;refine Ch.fin ?_;refine ky ?_;refine C.dk (iQ (s:={s1 with waits:=o'}) (m:=⟨{bq with kind:=7,to:= -1,tx:=m.tx,yes:=m.yes,reads:=rd},aG,sv⟩) (by dsimp only;rw[yz]at qp;omega)) ?_;rintro v aO rfl;refine k8 ?_;refine C.cQ aJ ai ⟨I2,{s1 with waits:=o'++[⟨{bq with kind:=7,aV:=s1.me,to:= -1,tx:=m.tx,yes:=m.yes,reads:=rd},aG,sv⟩]},fD.trans kT,qD.wait (m:=⟨{bq with kind:=7,aV:=s1.me,to:= -1,tx:=m.tx,yes:=m.yes,reads:=rd},aG,sv⟩) ⟨.nil ..,Ze.mono kT,hz⟩,?_,⟨by have:=hC.z;omega,by have:=hC.o;rw[iD];show 0<=s.order/\s.order<=o+1;omega,λu hu p hp=>?_⟩,rfl⟩
     ·rw[show pW s.abs m.toMsgR=_ from(pI (jX nz)).trans ((aq (by show¬ nN.dec=true;rw[hd];decide)).trans (aq (by show¬ kV nN.abs s.n m.toMsgR=true;rw[ui];decide)))];have e2:s1.abs={s.abs with cq:=bA s.abs.cq m.tx {Ee nN.abs m.toMsgR with dec:=true,yes:=m.yes},log:=s.abs.log++[.dec m.tx m.yes rd],cf:=bA s.abs.cf m.tx ⟨s.abs.log.length,m.yes⟩}:=by rw[iD,<- vg,<- Ay];unfold cZ.abs;simp only[dZ.mk.injEq,yf,mN,eI,dd,iJ,ml,gZ.abs];exact kN fg.abs s.cq
      unfold P1;have e3:(if m.toMsgR.yes=true then(l5 (Ee nN.abs m.toMsgR) s.abs.n).getD []else[])=rd:=i9.symm;rw[e3];have e4:({s1 with waits:=o'++[⟨{bq with kind:=7,aV:=s1.me,to:= -1,tx:=m.tx,yes:=m.yes,reads:=rd},aG,sv⟩]}:cZ).abs=iG ({s1 with waits:=o'}:cZ).abs {bq with kind:=7,to:= -1,tx:=m.tx,yes:=m.yes,reads:=rd}:=by simp[iG,cZ.abs]
      rw[e4,kU,e2];simp only[Ko];rfl
     ·rw[iD]at hu;rcases dY hu with rfl|hu
      ·have:=hC.a _ eT p hp;omega
      ·have:=hC.a u hu p hp;omega
    ·refine aP λe aa hk=>?_;refine C.dk (mE (en:=.dec m.tx m.yes rd sv) (l:=s.log) (lg:=lg) rfl ak) ?_;rintro v aO ⟨Za,rfl,rfl⟩;refine bI ?_;refine hk _ _ lU ?_;refine Ch.q 18 (λh=>C.bd rfl h) ?_;refine Ch.m 4 (aP λe aa hk=>?_);refine C.ld rfl (hk _ _ .refl ?_);refine Ch.m 19 (aP λe aa hk=>?_);refine C.mu (w:=gV.mk s.log.length m.yes) (l:=s.cf) (q:=m.tx) rfl ?_;refine hk _ undef lU ?_;refine ee ?_;refine C.dx (cm 95 0 7) 7 [6] 0 ?_;refine Lr ?_;refine Dr.p (λh=>C.mf (v1:=[]) (v2:=[aE b2,aE b3]) rfl h) ?_;refine Dr.chain rfl ?_;refine Ch.m 6 (aP λe aa hk=>?_);refine im {BJ nN vs with dec:=true,yes:=m.yes} dJ.au ?_;rw[<- rS (g:=vV) (u1:={BJ nN vs with dec:=true,yes:=m.yes}) nz rfl];refine de.cls {s with log:=s.log++[.dec m.tx m.yes rd sv],cf:=bA s.cf m.tx ⟨s.log.length,m.yes⟩,cq:=bA s.cq m.tx {BJ nN vs with dec:=true,yes:=m.yes}} ?_;obtain⟨s1,iD⟩:∃ s1:cZ,s1={s with log:=s.log++[.dec m.tx m.yes rd sv],cf:=bA s.cf m.tx ⟨s.log.length,m.yes⟩,cq:=bA s.cq m.tx {BJ nN vs with dec:=true,yes:=m.yes}}:=⟨_,rfl⟩;have z6:ShJ I1 s1:=by
      have h0:=hJ.mono fD;have h1:=Km (PX.mono fD) (m:=m) ⟨hM.o.mono fD,hM.r.mono fD,hM.z⟩;rw[iD];refine⟨(h0.zk (e:=.dec m.tx m.yes rd sv) ⟨Ze,hz⟩).log,h0.bB,λp hp=>?_,h0.waits,h0.out⟩;rcases dY hp with rfl|hp
      ·rw[Ay];exact⟨h1.o,h1.r,h1.z⟩
      ·exact h0.cq p hp
     have RJ:s1.waits=s.waits:=by rw[iD]
     have yz:s1.n=s.n:=by rw[iD]
     rw[<- iD];refine C.dk (o3 (f:=204) (a1:=#[]) (a2:=#[aE b2,aE b3]) (s:=s1) (I:=I1) (E:=[Kj b2 b,l8 b3 m]) (inv:=λk x I'=>∃ o,x={s1 with waits:=o}/\o.length<=s.waits.length+k/\ShJ I' x) (Vk:=vtS m.tx m.yes) (mA.mono fD) cJ (by rw[yz];exact hb.n) (λI' h=>⟨s1.waits,rfl,by rw[RJ];omega,z6.mono h⟩) (λk x I' h=>by
      obtain⟨o,h1,h2,h3⟩:=h;exact⟨o,h1,ak,h3⟩) (λk x I' sp part sx hk hinv rL eL Kk=>by
      obtain⟨o,rfl,h2,h3⟩:=hinv;refine aB.post (zr (by dsimp only;rw[yz]at hk;omega)) λv As h=>⟨_,I',Sub.refl _,⟨_,rfl,?_,h3.wait ⟨.nil ..,.nil ..,by exact lM 20⟩⟩,?_,h⟩
      ·dsimp only;rw[ji,lL];omega
      ·simp[vtS,iG,cZ.abs])) ?_
     rintro v aO ⟨x',I2,kT,⟨o',rfl,qp,qD⟩,kU,rfl⟩;refine bI ?_;refine hk _ _ ?_;refine Ch.fin ?_;refine ky ?_;refine C.dk (iQ (s:={s1 with waits:=o'}) (m:=⟨{bq with kind:=7,to:= -1,tx:=m.tx,yes:=m.yes,reads:=rd},aG,sv⟩) (by dsimp only;rw[yz]at qp;omega)) ?_;rintro v aO rfl;refine k8 ?_;refine C.cQ aJ ai ⟨I2,{s1 with waits:=o'++[⟨{bq with kind:=7,aV:=s1.me,to:= -1,tx:=m.tx,yes:=m.yes,reads:=rd},aG,sv⟩]},fD.trans kT,qD.wait (m:=⟨{bq with kind:=7,aV:=s1.me,to:= -1,tx:=m.tx,yes:=m.yes,reads:=rd},aG,sv⟩) ⟨.nil ..,Ze.mono kT,hz⟩,?_,⟨by have:=hC.z;omega,by have:=hC.o;rw[iD];show 0<=s.order/\s.order<=o+1;omega,λu hu p hp=>?_⟩,rfl⟩
     ·rw[show pW s.abs m.toMsgR=_ from(pI (jX nz)).trans ((aq (by show¬ nN.dec=true;rw[hd];decide)).trans (aq (by show¬ kV nN.abs s.n m.toMsgR=true;rw[ui];decide)))];have e2:s1.abs={s.abs with cq:=bA s.abs.cq m.tx {Ee nN.abs m.toMsgR with dec:=true,yes:=m.yes},log:=s.abs.log++[.dec m.tx m.yes rd],cf:=bA s.abs.cf m.tx ⟨s.abs.log.length,m.yes⟩}:=by rw[iD,<- vg,<- Ay];unfold cZ.abs;simp only[dZ.mk.injEq,yf,mN,eI,dd,iJ,ml,gZ.abs];exact kN fg.abs s.cq
      unfold P1;have e3:(if m.toMsgR.yes=true then(l5 (Ee nN.abs m.toMsgR) s.abs.n).getD []else[])=rd:=i9.symm;rw[e3];have e4:({s1 with waits:=o'++[⟨{bq with kind:=7,aV:=s1.me,to:= -1,tx:=m.tx,yes:=m.yes,reads:=rd},aG,sv⟩]}:cZ).abs=iG ({s1 with waits:=o'}:cZ).abs {bq with kind:=7,to:= -1,tx:=m.tx,yes:=m.yes,reads:=rd}:=by simp[iG,cZ.abs]
      rw[e4,kU,e2];simp only[Ko];rfl
     ·rw[iD]at hu;rcases dY hu with rfl|hu
      ·have:=hC.a _ eT p hp;omega
      ·have:=hC.a u hu p hp;omega
abbrev tkA(b:Nat):Array Value:=#[.nilFunc,.func (.func 170) #[aE b] #[],.func (.func 171) #[aE b] #[],.func (.func 172) #[aE b] #[],.func (.func 173) #[aE b] #[],.func (.func 174) #[aE b] #[],.func (.func 175) #[aE b] #[]]
def tkF(k:Int):bM:=if k=1 then 170 else if k=2 then 171 else if k=3 then 172 else if k=4 then 173 else if k=5 then 174 else 175
variable{A:List HP}
theorem ab.tkc(C:ab prog ao bG R){fo:cU}{args:Array cU}{ga:Array aR}{kk:Int}{a1:Array Value}{vl:List Value}{Q:Value->List HP->Prop}(hk:1<=kk/\kk<=6)(hs:aB prog ao bG (tkF kk) (a1++vl.toArray++#[]) A Q)
  (h:∀ v aO,Q v aO->At R d (aO++F) (gr fn kd n (di e dst v) ds (.inRegion ops aa::k) cs)) (ho:aZ ops i=some ⟨dst,.call ⟨.value fo,args,ga⟩,ty,pos,af,gd⟩:=by rfl) (hv:args.toList.map (ev n e)=vl:=by rfl) (hf:ev n e fo=.func (.func (tkF kk)) a1 #[]:=by rfl)
  (hA:dJ A As F:=by exact dJ.au) (hw:aN ops n e gd=true:=by rfl):At R d As (gr fn kd n e ds (.inRegion ops (i::aa)::k) cs):=by
 rcases(show kk=1\/kk=2\/kk=3\/kk=4\/kk=5\/kk=6 by omega)with rfl|rfl|rfl|rfl|rfl|rfl
 ·exact C.U1 (f:=170) hs h ho hv hf hA hw
 ·exact C.U1 (f:=171) hs h ho hv hf hA hw
 ·exact C.U1 (f:=172) hs h ho hv hf hA hw
 ·exact C.U1 (f:=173) hs h ho hv hf hA hw
 ·exact C.U1 (f:=174) hs h ho hv hf hA hw
 ·exact C.U1 (f:=175) hs h ho hv hf hA hw
theorem Iq{I:HL}{b:Nat}{s:cZ}{m:cu}{o a:Int}(xg:1<=m.kind/\m.kind<=6)(hJ:ShJ I s)(hb:qm s)(hC:wU o a s)(hM:ku I m)(hO:m.kind=1\/m.kind=2->iX m.ops)(hV:m.kind=3->zq s.abs m.toMsgR):
  aB prog ao bG 137 #[aE b,q9 m] [de b s,a9 I] (gn b I (o+1) (a+1) (qP s.abs m.toMsgR)):=by
 have hs:aB prog ao bG (tkF m.kind) (#[aE b]++[q9 m].toArray++#[]) [de b s,a9 I] (gn b I (o+1) (a+1) (qP s.abs m.toMsgR)):=by
  unfold qP;have e1:m.toMsgR.kind=m.kind:=rfl;rcases(show m.kind=1\/m.kind=2\/m.kind=3\/m.kind=4\/m.kind=5\/m.kind=6 by omega)with h|h|h|h|h|h<;>rw[e1]
  ·have e2:=hO (.inl h);rw[aK h,h];exact FQ hJ hb hC hM e2
  ·have e2:=hO (.inr h);rw[aq ak,aK h,h];exact AB hJ hb hC hM e2
  ·rw[aq ak,aq ak,aK h,h];exact Ip hJ hb hC hM (hV h)
  ·rw[aq ak,aq ak,aq ak,aK h,h];exact Dg hJ hb hC
  ·rw[aq ak,aq ak,aq ak,aq ak,aK h,h];exact LI hJ hb hC
  ·rw[aq ak,aq ak,aq ak,aq ak,aq ak,aK h,h];exact LF hJ hb hC
 have Co:∀ x:Array Value,x=tkA b->x[0+m.kind.toNat*1]? =some (.func (.func (tkF m.kind)) #[aE b] #[]):=by rintro x rfl;rcases(show m.kind=1\/m.kind=2\/m.kind=3\/m.kind=4\/m.kind=5\/m.kind=6 by omega)with h|h|h|h|h|h<;>rw[h]<;>rfl
 refine aB.of λR C kd d F c cs aJ ai=>?_;refine jI ?_;refine C.bx rfl (λb3=>?_);refine da ?_;refine C.mf (v1:=[aE b]) (v2:=[]) rfl ?_;refine fy ?_;refine C.mf (v1:=[aE b]) (v2:=[]) rfl ?_;refine fy ?_;refine C.mf (v1:=[aE b]) (v2:=[]) rfl ?_;refine fy ?_;refine C.mf (v1:=[aE b]) (v2:=[]) rfl ?_;refine fy ?_;refine C.mf (v1:=[aE b]) (v2:=[]) rfl ?_;refine fy ?_;refine C.mf (v1:=[aE b]) (v2:=[]) rfl ?_;refine C.bda (xs:=tkA b) underlying261 rfl ?_;refine C.al rfl (λb4=>?_);refine bj ?_;refine C.dx (cm 18 0 6) 6 [5] 0 ?_;refine jy ?_;refine Dr.l (λhE h=>C.iaA underlying261 rfl h) ?_;refine Dr.l (λhE h=>C.ld rfl h (hc:=Co _ rfl)) ?_;refine wS ?_;refine Ch.m 5 (aP λe aa hk=>?_);refine C.tkc xg hs ?_;rintro v aO ⟨I1,s',fD,qD,kU,LQ,rfl⟩;refine bI ?_;refine hk _ _ ?_;refine ee ?_;exact C.cQ aJ ai ⟨I1,s',fD,qD,kU,LQ,rfl⟩
def P2(s:dZ)(u:lR)(tx:Int)(z:dZ)(k:Int)(p:List cy):dZ:=
 if !u.dec&& !(aC u.aT k).isSome then eP z {bq with kind:=2,to:=k,tx:=tx,ops:=p}
 else if u.dec&&decide (((aC s.cf tx).map (·.pl)).getD 0<s.aX)&&decide ((aC u.bK k).getD 0=0)then eP z {bq with kind:=4,to:=k,tx:=tx,yes:=u.yes}
 else z
theorem FT{s:dZ}{tx:Int}(h:aC s.cq tx=none):qQ s tx=s:=by unfold qQ;rw[h]
theorem FU{s:dZ}{tx:Int}{u:lR}(h:aC s.cq tx=some u):qQ s tx=jm (qO s u.ops (P2 s u tx)) tx 4 true:=by unfold qQ;rw[h];rfl
def LR(s:cZ)(tx:Int):gV:=(aC s.cf tx).getD ⟨0,false⟩
theorem Xo(s:cZ)(tx:Int):((aC s.cf tx).map oY).getD (.agg #[az 0,.bool false])=oY (LR s tx):=by unfold LR;cases aC s.cf tx<;>rfl
theorem xT(s:cZ)(tx:Int):((aC s.cf tx).map (·.pl)).getD 0=(LR s tx).pl:=by unfold LR;cases aC s.cf tx<;>rfl
theorem vh(u:fg)(k:Int):(aC u.abs.aT k).isSome=(aC u.aT k).isSome:=by show(aC (u.aT.map λp=>(p.1,p.2.1)) k).isSome=_;rw[iZ (λv:List Int×ax=>v.1)];cases aC u.aT k<;>rfl
theorem FV{b b2 b3 b4:Nat}{s:cZ}{o:List cu}{u:fg}{tx k:Int}{I:HL}{sp:ax}{part:List cy}(hu:aC s.cq tx=some u)(hl:o.length<2^31)(hJ:ShJ I {s with out:=o})(rL:dX I cK 67 sp part):
  aB prog ao bG 206 #[az k,sp.v,aE b4,aE b2,aE b3] [de b {s with out:=o},a9 I,bX b4 (.cells #[aE u.b] 295 (0,0)),Kj b2 b,bX b3 (.cells #[az tx] 3 (0,0))]
   (λv As=>∃ o',o'.length<=o.length+1/\ShJ I {s with out:=o'}/\({s with out:=o'}:cZ).abs=P2 s.abs u.abs tx ({s with out:=o}:cZ).abs k part/\As=[de b {s with out:=o'},a9 I,bX b4 (.cells #[aE u.b] 295 (0,0)),Kj b2 b,bX b3 (.cells #[az tx] 3 (0,0))]):=by
 refine aB.of λR C kd d F c cs aJ ai=>?_;refine bI ?_;refine de.opn (h:=λlg wt ot tm bv bl bp bd be bu tl ht=>?_);refine vd (l:=s.cq) hu Fo.au ?_;have xn:=Xo s tx;have hak:=tX u.bK k;refine dV ?_;refine C.lkC rfl (λnN nz=>?_) (λnz=>?_)
 ·refine i6 ?_;refine C.U5 rfl (λhd=>?_) (λhd=>?_)
  ·refine jL ?_;by_cases LS:(LR s tx).pl<s.aX
   ·by_cases Dh:(aC u.bK k).getD 0=0
    ·refine C.dx (cm 35 0 28++[(34,28)]) 29 [] 0 ?_;refine qs ?_;refine Dr.l (λhE h=>C.ld rfl h (v:=.bool true) (n4:=congrArg Value.bool hd)) ?_;refine mB ?_;refine Dr.l (λhE h=>C.E7 xn rfl h) ?_;refine Dr.p (λh=>C.fd (ft:=3) ⟨_,_,underlying279,rfl,rfl,rfl⟩ rfl h) ?_;refine HZ ?_;refine Dr.p (λh=>C.eE rfl h (hf:=LS)) ?_;refine mB ?_;refine Dr.l (λhE h=>C.E7 hak rfl h) ?_;refine Dr.p (λh=>C.eE rfl h (hf:=Dh)) ?_;refine xr ?_;refine oi ?_;refine C.dx (cm 63 0 9) 9 [8] 0 ?_;refine Lu ?_;refine Ch.m 8 (aP λe aa hk=>?_);refine im u dJ.au ?_;rw[gF hu];refine de.cls {s with out:=o} ?_;refine C.dk (gk (s:={s with out:=o}) (m:=⟨{bq with kind:=4,to:=k,tx:=tx,yes:=u.yes},aG,aG⟩) (cD)) ?_;rintro v aO rfl;refine bI ?_;refine hk _ _ ?_;refine ee ?_;refine C.cQ aJ ai ⟨o++[⟨{bq with kind:=4,aV:=s.me,to:=k,tx:=tx,yes:=u.yes},aG,aG⟩],by simp,hJ.outs (ku.nil I _ rfl rfl),?_,rfl⟩;unfold P2;rw[aq (by show¬ (!u.dec&&_)=true;rw[hd];simp),aK (by show(u.dec&&decide (((aC s.cf tx).map (·.pl)).getD 0<s.aX)&&decide ((aC u.bK k).getD 0=0))=true;rw[hd,xT,sE LS,sE Dh];rfl)];simp[eP,cZ.abs,fg.abs]
    ·refine C.dx (cm 35 0 28++[(34,28)]) 29 [] 0 ?_;refine qs ?_;refine Dr.l (λhE h=>C.ld rfl h (v:=.bool true) (n4:=congrArg Value.bool hd)) ?_;refine mB ?_;refine Dr.l (λhE h=>C.E7 xn rfl h) ?_;refine Dr.p (λh=>C.fd (ft:=3) ⟨_,_,underlying279,rfl,rfl,rfl⟩ rfl h) ?_;refine HZ ?_;refine Dr.p (λh=>C.eE rfl h (hf:=LS)) ?_;refine mB ?_;refine Dr.l (λhE h=>C.E7 hak rfl h) ?_;refine Dr.p (λh=>C.du rfl h (hf:=Dh)) ?_;refine xr ?_;refine oi ?_;refine im u dJ.au ?_;rw[gF hu];refine de.cls {s with out:=o} ?_;refine C.cQ aJ ai ⟨o,ak,hJ,?_,rfl⟩;unfold P2;rw[aq (by show¬ (!u.dec&&_)=true;rw[hd];simp),aq (by show¬ (u.dec&&decide (((aC s.cf tx).map (·.pl)).getD 0<s.aX)&&decide ((aC u.bK k).getD 0=0))=true;rw[jD Dh];simp)]
   ·refine C.dx (cm 35 0 28++[(34,28)]) 29 [] 0 ?_;refine qs ?_;refine Dr.l (λhE h=>C.ld rfl h (v:=.bool true) (n4:=congrArg Value.bool hd)) ?_;refine mB ?_;refine Dr.l (λhE h=>C.E7 xn rfl h) ?_;refine Dr.p (λh=>C.fd (ft:=3) ⟨_,_,underlying279,rfl,rfl,rfl⟩ rfl h) ?_;refine HZ ?_;refine Dr.p (λh=>C.du rfl h (hf:=LS)) ?_;refine H4 ?_;refine oi ?_;refine im u dJ.au ?_;rw[gF hu];refine de.cls {s with out:=o} ?_;refine C.cQ aJ ai ⟨o,ak,hJ,?_,rfl⟩;unfold P2;rw[aq (by show¬ (!u.dec&&_)=true;rw[hd];simp),aq (by show¬ (u.dec&&decide (((aC s.cf tx).map (·.pl)).getD 0<s.aX)&&decide ((aC u.bK k).getD 0=0))=true;rw[xT,jD LS];simp)]
  ·refine jL ?_;refine C.dx (cm 35 0 28++[(34,28)]) 29 [] 0 ?_;refine qs ?_;refine Dr.l (λhE h=>C.ld rfl h (v:=.bool false) (n4:=congrArg Value.bool hd)) ?_;refine gY ?_;refine gY ?_;refine Lr ?_;refine Dr.chain rfl ?_;refine oi ?_;refine im u dJ.au ?_;rw[gF hu];refine de.cls {s with out:=o} ?_;refine C.cQ aJ ai ⟨o,ak,hJ,?_,rfl⟩;unfold P2;rw[aq (by rw[vh,nz];simp),aq (by show¬ (u.dec&&decide (((aC s.cf tx).map (·.pl)).getD 0<s.aX)&&decide ((aC u.bK k).getD 0=0))=true;rw[hd];simp)]
 ·refine i6 ?_;refine C.U5 rfl (λhd=>?_) (λhd=>?_)
  ·refine jL ?_;by_cases LS:(LR s tx).pl<s.aX
   ·by_cases Dh:(aC u.bK k).getD 0=0
    ·refine C.dx (cm 35 0 28++[(34,28)]) 29 [] 0 ?_;refine qs ?_;refine Dr.l (λhE h=>C.ld rfl h (v:=.bool true) (n4:=congrArg Value.bool hd)) ?_;refine mB ?_;refine Dr.l (λhE h=>C.E7 xn rfl h) ?_;refine Dr.p (λh=>C.fd (ft:=3) ⟨_,_,underlying279,rfl,rfl,rfl⟩ rfl h) ?_;refine HZ ?_;refine Dr.p (λh=>C.eE rfl h (hf:=LS)) ?_;refine mB ?_;refine Dr.l (λhE h=>C.E7 hak rfl h) ?_;refine Dr.p (λh=>C.eE rfl h (hf:=Dh)) ?_;refine xr ?_;refine oi ?_;refine C.dx (cm 63 0 9) 9 [8] 0 ?_;refine Lu ?_;refine Ch.m 8 (aP λe aa hk=>?_);refine im u dJ.au ?_;rw[gF hu];refine de.cls {s with out:=o} ?_;refine C.dk (gk (s:={s with out:=o}) (m:=⟨{bq with kind:=4,to:=k,tx:=tx,yes:=u.yes},aG,aG⟩) (cD)) ?_;rintro v aO rfl;refine bI ?_;refine hk _ _ ?_;refine ee ?_;refine C.cQ aJ ai ⟨o++[⟨{bq with kind:=4,aV:=s.me,to:=k,tx:=tx,yes:=u.yes},aG,aG⟩],by simp,hJ.outs (ku.nil I _ rfl rfl),?_,rfl⟩;unfold P2;rw[aq (by show¬ (!u.dec&&_)=true;rw[hd];simp),aK (by show(u.dec&&decide (((aC s.cf tx).map (·.pl)).getD 0<s.aX)&&decide ((aC u.bK k).getD 0=0))=true;rw[hd,xT,sE LS,sE Dh];rfl)];simp[eP,cZ.abs,fg.abs]
    ·refine C.dx (cm 35 0 28++[(34,28)]) 29 [] 0 ?_;refine qs ?_;refine Dr.l (λhE h=>C.ld rfl h (v:=.bool true) (n4:=congrArg Value.bool hd)) ?_;refine mB ?_;refine Dr.l (λhE h=>C.E7 xn rfl h) ?_;refine Dr.p (λh=>C.fd (ft:=3) ⟨_,_,underlying279,rfl,rfl,rfl⟩ rfl h) ?_;refine HZ ?_;refine Dr.p (λh=>C.eE rfl h (hf:=LS)) ?_;refine mB ?_;refine Dr.l (λhE h=>C.E7 hak rfl h) ?_;refine Dr.p (λh=>C.du rfl h (hf:=Dh)) ?_;refine xr ?_;refine oi ?_;refine im u dJ.au ?_;rw[gF hu];refine de.cls {s with out:=o} ?_;refine C.cQ aJ ai ⟨o,ak,hJ,?_,rfl⟩;unfold P2;rw[aq (by show¬ (!u.dec&&_)=true;rw[hd];simp),aq (by show¬ (u.dec&&decide (((aC s.cf tx).map (·.pl)).getD 0<s.aX)&&decide ((aC u.bK k).getD 0=0))=true;rw[jD Dh];simp)]
   ·refine C.dx (cm 35 0 28++[(34,28)]) 29 [] 0 ?_;refine qs ?_;refine Dr.l (λhE h=>C.ld rfl h (v:=.bool true) (n4:=congrArg Value.bool hd)) ?_;refine mB ?_;refine Dr.l (λhE h=>C.E7 xn rfl h) ?_;refine Dr.p (λh=>C.fd (ft:=3) ⟨_,_,underlying279,rfl,rfl,rfl⟩ rfl h) ?_;refine HZ ?_;refine Dr.p (λh=>C.du rfl h (hf:=LS)) ?_;refine H4 ?_;refine oi ?_;refine im u dJ.au ?_;rw[gF hu];refine de.cls {s with out:=o} ?_;refine C.cQ aJ ai ⟨o,ak,hJ,?_,rfl⟩;unfold P2;rw[aq (by show¬ (!u.dec&&_)=true;rw[hd];simp),aq (by show¬ (u.dec&&decide (((aC s.cf tx).map (·.pl)).getD 0<s.aX)&&decide ((aC u.bK k).getD 0=0))=true;rw[xT,jD LS];simp)]
  ·refine jL ?_;refine im u dJ.au ?_;rw[gF hu];refine de.cls {s with out:=o} ?_;refine dm ?_;refine C.dk (gk (s:={s with out:=o}) (m:=⟨{bq with kind:=2,to:=k,tx:=tx,ops:=part},sp,aG⟩) (cD)) ?_;rintro v aO rfl;refine k8 ?_;refine C.cQ aJ ai ⟨o++[⟨{bq with kind:=2,aV:=s.me,to:=k,tx:=tx,ops:=part},sp,aG⟩],by simp,hJ.outs ⟨rL,.nil ..,by exact lM 20⟩,?_,rfl⟩;unfold P2;rw[aK (by rw[vh,nz];show(!u.dec&&_)=true;rw[hd];rfl)];simp[eP,cZ.abs]
theorem FW{I:HL}{b:Nat}{s:cZ}{tx:Int}(hJ:ShJ I s)(hn:1<=s.n/\s.n<=4)(hU:∀ u∈s.cq,iX u.2.ops)(jg:s.out.length<2^30+2^20)(RH:s.timers.length<2^16)(Xf:0<=s.order/\s.order<2^61+2^20)(Xe:0<=s.clock/\s.clock<2^61):
  aB prog ao bG 178 #[aE b,az tx] [de b s,a9 I] (λv As=>∃ (I':HL) (o':List cu) (q:Bool),Sub I I'/\o'.length<=s.out.length+4/\ShJ I' {s with out:=o'}/\(if q then jJ {s with out:=o'} tx 4 true else s).abs=qQ s.abs tx/\As=[de b (if q then jJ {s with out:=o'} tx 4 true else s),a9 I']):=by
 refine aB.of λR C kd d F c cs aJ ai=>?_;refine bI ?_;refine de.opn (h:=λlg wt ot tm bv bl bp bd be bu tl ht=>?_);refine bj ?_;refine C.bx rfl (λb2=>?_);refine C.bx rfl (λb3=>?_);refine C.go ?_;cases q7:(aC s.cq tx)
 ·refine C.dx (cm 5 0 7++[(4,7)]) 9 [7,8] 1 ?_;refine n7 ?_;refine Dr.l (λhE h=>C.Hw q7 rfl h) ?_;refine Dr.chain rfl ?_;refine Ch.m 7 (aP λe aa hk=>?_);refine C.al rfl (λb4=>hk _ _ .cons ?_);refine Ch.m 8 (aP λe aa hk=>?_);refine C.st rfl (hk _ undef ?_);refine Nf ?_;refine de.cls s ?_;exact C.a8 (aO:=[de b s,a9 I]) aJ ai ⟨I,s.out,false,Sub.refl _,ak,hJ,(FT (rk q7)).symm,rfl⟩
 ·rename_i w11;refine C.dx (cm 5 0 7++[(4,7)]) 9 [7,8] 1 ?_;refine n7 ?_;refine Dr.l (λhE h=>C.Hv q7 rfl h) ?_;refine Dr.chain rfl ?_;refine Ch.m 7 (aP λe aa hk=>?_);refine C.al rfl (λb4=>hk _ _ .cons ?_);refine Ch.m 8 (aP λe aa hk=>?_);refine C.st rfl (hk _ undef ?_);refine Nf ?_;have eT:=bU q7;have cJ:=hU _ eT;have mA:=(hJ.cq _ eT).o;refine vd q7 Fo.au ?_;refine C.dx (cm 14 0 7) 7 [6] 0 ?_;refine Lr ?_;refine Dr.p (λh=>C.mf (v1:=[]) (v2:=[aE b4,aE b2,aE b3]) rfl h) ?_;refine Dr.chain rfl ?_;refine Ch.m 6 (aP λe aa hk=>?_);refine im w11 dJ.au ?_;rw[gF q7];refine de.cls s ?_;refine C.dk (o3 (f:=206) (a1:=#[]) (a2:=#[aE b4,aE b2,aE b3]) (s:=s) (I:=I) (E:=[bX b4 (.cells #[aE w11.b] 295 (0,0)),Kj b2 b,bX b3 (.cells #[az tx] 3 (0,0))]) (inv:=λk x I'=>∃ o,x={s with out:=o}/\o.length<=s.out.length+k/\ShJ I' x) (Vk:=P2 s.abs w11.abs tx) mA cJ hn (λI' h=>⟨s.out,rfl,fI _,hJ.mono h⟩) (λk x I' h=>by
   obtain⟨o,h1,h2,h3⟩:=h;exact⟨o,h1,ak,h3⟩) (λk x I' sp part sx hk hinv rL eL Kk=>by
   obtain⟨o,rfl,h2,h3⟩:=hinv;refine aB.post (FV q7 ak h3 rL) λv As h=>?_;obtain⟨o',h4,h5,h6,h7⟩:=h;exact⟨_,I',Sub.refl _,⟨o',rfl,ak,h5⟩,h6,h7⟩)) ?_
  rintro v aO ⟨x',I1,fD,⟨o',rfl,qp,qD⟩,kU,rfl⟩;refine bI ?_;refine hk _ _ ?_;refine S9 ?_;refine C.dk (km (ticks:=4) (s:={s with out:=o'}) (by show s.timers.length<_;omega) (by show 0<=s.order/\s.order<_;omega) (by show 0<=s.clock/\s.clock<_;omega) (by decide)) ?_;rintro v aO rfl;refine k8 ?_;refine C.cQ (aO:=[de b (jJ {s with out:=o'} tx 4 true),a9 I1]) aJ ai ⟨I1,o',true,fD,ak,qD,?_,rfl⟩;rw[aK rfl,ni,kU,FU (jX q7)];rfl
def qn(c:Int)(L:List dR):Nat:=(L.filter λt=>t.tm<=c).length
theorem Ir{c:Int}{L:List dR}{k:Nat}{t:dR}(hk:L[k]? =some t)(ht:t.tm<=c):qn c (L.eraseIdx k)+1=qn c L:=by obtain⟨yU,rfl⟩:=jC.1 hk;have hp:=(oO yU).filter (λt=>decide (t.tm<=c));unfold qn;rw[hp.length_eq,uy,aK (by simpa using ht)];rfl
theorem FX{c:Int}{L:List dR}{t:dR}(ht:c<t.tm):qn c (L++[t])=qn c L:=by unfold qn;rw[nE,uy,aq (by simp;omega),Ev,lK]
theorem Kp(c:Int)(L:List dR):qn c L<=L.length:=pN _ _
theorem FY{f:Nat}{s:dZ}{k:Nat}{t:dR}(h:jS s.clock s.timers 0 none=some (k,t)):kK (f+1) s=kK f (yF {s with timers:=s.timers.eraseIdx k} t):=by conv=>lhs;unfold kK;rw[h]
theorem zu{f:Nat}{s:dZ}(h:jS s.clock s.timers 0 none=none):kK (f+1) s=s:=by conv=>lhs;unfold kK;rw[h]
theorem map_eraseIdx{X Y:Type}(f:X->Y):∀ (l:List X) (n:Nat),(l.eraseIdx n).map f=(l.map f).eraseIdx n
 |[],n=>by simp
 |a::l,0=>rfl
 |a::l,n+1=>by simp[map_eraseIdx f l n]
theorem zw{s:dZ}{t:dR}(h:t.again=true):yF s t=qQ s t.tx:=by unfold yF;rw[aK h]
theorem LU{s:dZ}{t:dR}{p:yD}(h:t.again=false)(hp:aC s.bB t.tx=some p):yF s t=jm (eP s {bq with kind:=6,to:=p.home,tx:=t.tx}) t.tx 3 false:=by unfold yF;rw[aq (by rw[h];decide),hp]
theorem LV{s:dZ}{t:dR}(h:t.again=false)(hp:aC s.bB t.tx=none):yF s t=s:=by unfold yF;rw[aq (by rw[h];decide),hp]
abbrev xw(s:cZ)(o:List cu)(T:List kh)(q:Int):cZ:={s with clock:=s.clock+1,out:=o,timers:=T,order:=q}
structure aep(I:HL)(s:cZ)(x:cZ)(J:HL):Prop where
 sub:Sub I J
 j:ShJ J x
 sh:∃ o T q,x=xw s o T q/\T.length<=s.timers.length/\s.order<=q/\q+qn (s.clock+1) (T.map (·.qq))<=s.order+qn (s.clock+1) (s.timers.map (·.qq))/\o.length+5*qn (s.clock+1) (T.map (·.qq))<=s.out.length+5*qn (s.clock+1) (s.timers.map (·.qq))
 go:kK (qn (s.clock+1) (x.timers.map (·.qq))+1) x.abs=oP s.abs
theorem Is{I:HL}{b:Nat}{s:cZ}{o a:Int}(hJ:ShJ I s)(hb:qm s)(hC:wU o a s):
  aB prog ao bG 142 #[aE b] [de b s,a9 I] (gn b I (o+2^15) (a+1) (oP s.abs)):=by
 have jg:=hb.out;have Xe:=hb.clock;have Xf:=hb.order;have RH:=hb.timers;have hD:=Kp (s.clock+1) (s.timers.map (·.qq));rw[dd]at hD;refine aB.of λR C kd d F c cs aJ ai=>?_;refine bI ?_;refine de.opn (h:=λlg wt ot tm bv bl bp bd be bu tl ht=>?_);refine zb ?_;refine de.cls (xw s s.out s.timers s.order) ?_;refine C.bS (X:=cZ×HL) (λx=>[(0,aE b)]) (λx=>de b x.1::a9 x.2::F) (λx=>aep I s x.1 x.2) (λx=>qn (s.clock+1) (x.1.timers.map (·.qq))) (xw s s.out s.timers s.order,I) ⟨rfl,trivial⟩ ⟨Sub.refl _,⟨hJ.log,hJ.bB,hJ.cq,hJ.waits,hJ.out⟩,⟨_,_,_,rfl,fI _,sD _,sD _,fI _⟩,rfl⟩ ?_;rintro⟨x,I1⟩ e ⟨fD,z6,⟨o1,T,q,rfl,hT,hq1,pT,RJ⟩,hgo⟩ ih;dsimp only at fD z6 hgo⊢;have hdT:=Kp (s.clock+1) (T.map (·.qq));rw[dd]at hdT;refine de.opn (h:=λlg wt ot tm bv bl bp bd be bu tl ht=>?_);have PW:tl.length=T.length:=ht.perm.length_eq;refine C.go ?_;by_cases uo:(tl.length:Int)>0
 ·by_cases h35:(tl[0]'(by omega)).tm<=s.clock+1
  ·refine C.dx (cm 14 0 23) 23 [] 0 ?_;refine n7 ?_;refine Dr.p (λh=>C.eE rfl h (hf:=uo)) ?_;refine n7 ?_;refine Dr.l (λhE h=>C.dT rfl h (j:=0)) ?_;refine mB ?_;refine Dr.p (λh=>C.eE rfl h (hf:=h35)) ?_;refine wS ?_;refine PH ?_;refine C.dk (LB (tm:=tm) (l:=tl) rfl ak ak ht.heap) ?_;rintro v aO ⟨zX,l',rfl,hp,hh,rfl⟩;refine bI ?_;have h0:tl[0]? =some (gA tl 0):=by rw[j5 ak];exact fp ak
   have Tr:(gA tl 0).tm<=s.clock+1:=by rw[j5 ak];exact h35
   obtain⟨kq,hkq,aa6,htj⟩:=ht.pop h0 Tr hp hh;generalize gA tl 0=t0 at hkq aa6 Tr hp;have yU:kq<T.length:=(jC.1 hkq).1;have hde:=Ir (c:=s.clock+1) (L:=T.map (·.qq)) (k:=kq) (t:=t0.qq) (by rw[kB,hkq];rfl) Tr;rw[<- map_eraseIdx]at hde;have P5:(T.eraseIdx kq).length+1=T.length:=by rw[Ew,aK yU];omega
   refine de.cls (xw s o1 (T.eraseIdx kq) q) ?_ (ht:=htj);have zW:ShJ I1 (xw s o1 (T.eraseIdx kq) q):=⟨z6.log,z6.bB,z6.cq,z6.waits,z6.out⟩;have sG:kK (qn (s.clock+1) ((T.eraseIdx kq).map (·.qq))+1) (yF (xw s o1 (T.eraseIdx kq) q).abs t0.qq)=oP s.abs:=by
    rw[<- hgo,<- hde,FY (s:=(xw s o1 T q).abs) (k:=kq) (t:=t0.qq) aa6]
    congr 2
    simp only[cZ.abs,map_eraseIdx]
   refine C.ta (ok:=false) underlying263 rfl rfl ?_;refine C.al rfl (λb2=>?_);refine C.po rfl ?_ (hv:=λv h=>fM.one (f:=rW) t0 v (by simpa using h));refine da ?_;refine C.U5 rfl (λhg=>?_) (λhg=>?_)
   ·refine dm ?_;refine C.dk (FW (tx:=t0.tx) zW hb.n hb.zh (cD) (cD) (cD) (cD)) ?_;rintro v aO ⟨I2,o2,z,kT,Rx,LW,kU,rfl⟩;refine k8 ?_;cases z with
    |false=>
     rw[aq (by decide)]at kU⊢;refine again ih (xw s o1 (T.eraseIdx kq) q,I2) ⟨fD.trans kT,zW.mono kT,⟨o1,T.eraseIdx kq,q,rfl,ak,hq1,ak,ak⟩,?_⟩ (cD);rw[<- sG,zw (t:=t0.qq) hg];exact congrArg _ kU
    |true=>
     rw[aK rfl]at kU⊢;have Tt:qn (s.clock+1) ((T.eraseIdx kq++[(⟨s.clock+1+4,q+1,t0.tx,true⟩:kh)]).map (·.qq))=qn (s.clock+1) ((T.eraseIdx kq).map (·.qq)):=by rw[eI];exact FX (by show s.clock+1<s.clock+1+4;omega)
     refine again ih (xw s o2 (T.eraseIdx kq++[⟨s.clock+1+4,q+1,t0.tx,true⟩]) (q+1),I2) ⟨fD.trans kT,⟨LW.log,LW.bB,LW.cq,LW.waits,LW.out⟩,⟨o2,_,_,rfl,by simp;omega,ak,by rw[Tt];omega,by rw[Tt];dsimp only at Rx;omega⟩,?_⟩ (by dsimp only;rw[Tt];omega);dsimp only;rw[Tt,<- sG,zw (t:=t0.qq) hg];exact congrArg _ kU
   ·refine bj ?_;refine de.opn (h:=λlg wt ot tm bv bl bp bd be bu tl ht=>?_);cases h58:(aC s.bB t0.tx)
    ·refine C.dx (cm 51 0 8++[(50,8)]++[(59,9),(60,10)]++[(3,11)]++[(4,13)]) 14 [11,12] 1 ?_;refine mB ?_;refine Dr.l (λhE h=>C.Hw h58 rfl h) ?_;refine G7 ?_;refine Ch.m 11 (aP λe aa hk=>?_);refine C.al rfl (λb3=>hk _ _ .cons ?_);refine Ch.m 12 (aP λe aa hk=>?_);refine C.po rfl (hk _ undef ?_);refine vT ?_;refine de.cls (xw s o1 (T.eraseIdx kq) q) ?_;refine again ih (xw s o1 (T.eraseIdx kq) q,I1) ⟨fD,zW,⟨o1,T.eraseIdx kq,q,rfl,ak,hq1,ak,ak⟩,?_⟩ (cD);rw[<- sG,LV (t:=t0.qq) hg (jA (s:=xw s o1 (T.eraseIdx kq) q) h58)]
    ·rename_i w58;refine C.dx (cm 51 0 8++[(50,8)]++[(59,9),(60,10)]++[(3,11)]++[(4,13)]) 14 [11,12] 1 ?_;refine mB ?_;refine Dr.l (λhE h=>C.Hv h58 rfl h) ?_;refine G7 ?_;refine Ch.m 11 (aP λe aa hk=>?_);refine C.al rfl (λb3=>hk _ _ .cons ?_);refine Ch.m 12 (aP λe aa hk=>?_);refine C.po rfl (hk _ undef ?_);refine vT ?_;refine de.cls (xw s o1 (T.eraseIdx kq) q) ?_;refine dV ?_;refine C.dk (gk (s:=xw s o1 (T.eraseIdx kq) q) (m:=⟨{bq with kind:=6,to:=w58.home,tx:=t0.tx},aG,aG⟩) (cD)) ?_;rintro v aO rfl;refine sY ?_;refine C.dk (km (ticks:=3) (s:=xw s (o1++[⟨{bq with kind:=6,aV:=s.me,to:=w58.home,tx:=t0.tx},aG,aG⟩]) (T.eraseIdx kq) q) (cD) (cD) (cD) (by decide)) ?_;rintro v aO rfl;refine k8 ?_;have Tt:qn (s.clock+1) ((T.eraseIdx kq++[(⟨s.clock+1+3,q+1,t0.tx,false⟩:kh)]).map (·.qq))=qn (s.clock+1) ((T.eraseIdx kq).map (·.qq)):=by rw[eI];exact FX (by show s.clock+1<s.clock+1+3;omega)
     have hJm:=zW.outs (ku.nil I1 {bq with kind:=6,aV:=s.me,to:=w58.home,tx:=t0.tx} rfl rfl);refine again ih (xw s (o1++[⟨{bq with kind:=6,aV:=s.me,to:=w58.home,tx:=t0.tx},aG,aG⟩]) (T.eraseIdx kq++[⟨s.clock+1+3,q+1,t0.tx,false⟩]) (q+1),I1) ⟨fD,⟨hJm.log,hJm.bB,hJm.cq,hJm.waits,hJm.out⟩,⟨_,_,_,rfl,by simp;omega,ak,by rw[Tt];omega,by rw[Tt];simp;omega⟩,?_⟩ (by dsimp only;rw[Tt];omega);dsimp only;rw[Tt,<- sG,LU (t:=t0.qq) hg (o4 (s:=xw s o1 (T.eraseIdx kq) q) h58)];simp[cZ.abs,jm,eP,kh.qq,qk.abs]
  ·refine C.dx (cm 14 0 23) 23 [] 0 ?_;refine n7 ?_;refine Dr.p (λh=>C.eE rfl h (hf:=uo)) ?_;refine n7 ?_;refine Dr.l (λhE h=>C.dT rfl h (j:=0)) ?_;refine mB ?_;refine Dr.p (λh=>C.du rfl h (hf:=h35)) ?_;refine wS ?_;refine oi ?_;refine de.cls (xw s o1 T q) ?_;have Xp:oP s.abs=(xw s o1 T q).abs:=by rw[<- hgo];exact zu (s:=(xw s o1 T q).abs) (ht.aas (.inr (by rw[j5 ak];show s.clock+1<_;omega)))
   exact C.cQ (aO:=[de b (xw s o1 T q),a9 I1]) aJ ai ⟨I1,_,fD,z6,Xp.symm,⟨by have:=hC.z;omega,by have:=hC.o;show 0<=q/\q<=_;omega,λu hu p hp=>by have:=hC.a u hu p hp;omega⟩,rfl⟩
 ·refine C.dx (cm 14 0 23) 23 [] 0 ?_;refine n7 ?_;refine Dr.p (λh=>C.du rfl h (hf:=uo)) ?_;refine gY ?_;refine n7 ?_;refine Dr.chain rfl ?_;refine oi ?_;refine de.cls (xw s o1 T q) ?_;have Xp:oP s.abs=(xw s o1 T q).abs:=by rw[<- hgo];exact zu (s:=(xw s o1 T q).abs) (ht.aas (.inl (NY ak)))
  exact C.cQ (aO:=[de b (xw s o1 T q),a9 I1]) aJ ai ⟨I1,_,fD,z6,Xp.symm,⟨by have:=hC.z;omega,by have:=hC.o;show 0<=q/\q<=_;omega,λu hu p hp=>by have:=hC.a u hu p hp;omega⟩,rfl⟩
theorem FZ{lg:ax}{l:List gZ}(hl:l.length<2^40):aB prog ao bG 181 #[lg.v] [aW n9 1 272 lg l] (λv As=>∃ s':ax,v=s'.v/\As=[aW n9 1 272 s' l]):=by
 refine aB.of λR C kd d F c cs aJ ai=>?_;refine bI ?_;refine At.aaA (s:=lg) (l:=l) (f:=n9) Fo.au ?_ ?_
 ·rintro rfl rfl;refine dm ?_;refine C.U4 rfl ?_ (a:=none) (len:=0) (cap:=0);refine cF ?_;exact C.a8 aJ ai ⟨aG,rfl,rfl⟩
 ·intro h1 h2;have hv:lg.v=.slice (some ⟨lg.b,0,none⟩) lg.len lg.cap:=by unfold ax.v;rw[h1]
  refine dm ?_;refine C.U4 rfl ?_ (a:=some ⟨lg.b,0,none⟩) (len:=lg.len) (cap:=lg.cap) (hx:=hv);refine da ?_;refine C.bs0 n9 rfl (λb5=>?_);refine fy ?_;refine C.EP (l:=[]) l rfl (λs'=>?_) (hsrc:=λH st=>?_) (s:=⟨some ⟨b5,0,none⟩,0,0⟩)
  ·refine bj ?_;exact C.a8 aJ ai ⟨s',rfl,rfl⟩
  ·exact dF.src (dF.own (s:=lg) Fo.au) st (λj=>rfl)
theorem It{I:HL}{b:Nat}{s:cZ}{o a:Int}(hJ:ShJ I s)(hb:qm s)(hC:wU o a s):
  aB prog ao bG 141 #[aE b] [de b s,a9 I] (gn b I (o+1) (a+1) (sQ s.abs)):=by
 have jg:=hb.out;have De:=hb.waits;refine aB.of λR C kd d F c cs aJ ai=>?_;refine bI ?_;refine de.opn (h:=λlg wt ot tm bv bl bp bd be bu tl ht=>?_);refine oW ?_;refine C.dx (cm 10 0 13) 14 [10,13] 0 ?_;refine Ta ?_;refine Ch.m 10 (aP λe aa hk=>?_);refine C.EP (s:=ot) (l:=s.out) s.waits rfl (λs'=>?_) (hsrc:=λH st=>dF.src (dF.own (s:=wt) Fo.au) st (λj=>rfl));refine hk _ _ ?_;refine Ch.m 13 (aP λe aa hk=>?_);refine C.st rfl (hk _ undef ?_);refine PH ?_;refine At.aG bQ 7 190 ?_;refine de.cls {s with aX:=s.log.length,out:=s.out++s.waits,waits:=[]} ?_ (wt:=aG);refine C.cQ aJ ai ⟨I,{s with aX:=s.log.length,out:=s.out++s.waits,waits:=[]},Sub.refl _,⟨hJ.log,hJ.bB,hJ.cq,λx hx=>(nomatch hx),λx hx=>?_⟩,?_,hC.same rfl rfl,rfl⟩
 ·rcases cg.1 hx with hx|hx
  ·exact hJ.out x hx
  ·exact hJ.waits x hx
 ·simp[cZ.abs,sQ]
theorem Tu{α:Type}{f:α->List Value}{z:Nat}{el:aR}{s:ax}{l:List α}(h:HL)(x:aW f z el s l h):s.len=l.length/\l.length<=s.cap:=by
 rcases x with⟨rfl,rfl⟩|⟨b,pad,e,h1,h2,h3⟩
 ·exact⟨rfl,fI _⟩
 ·exact⟨by rw[e],h2⟩
def P6(s:cZ)(keep:Int):Int:=s.aX+min (max keep 0) ((s.log.length:Int)-s.aX)
abbrev crX(s:cZ)(keep:Int):cZ:={s with up:=false,aX:=P6 s keep,log:=s.log.take (P6 s keep).toNat,values:=[],aH:=[],bB:=[],done:=[],cf:=[],cq:=[],timers:=[],order:=0,clock:=0,waits:=[]}
theorem F0{I:HL}{b:Nat}{s:cZ}{keep o a:Int}(hJ:ShJ I s)(hb:qm s)(hC:wU o a s):
  aB prog ao bG 144 #[aE b,az keep] [de b s,a9 I] (gn b I (o+1) (a+1) (m4 s.abs keep)):=by
 have jV:=hb.log;have wN:=hb.aX;have hg:0<=P6 s keep/\P6 s keep<=s.log.length:=by unfold P6;omega
 refine aB.of λR C kd d F c cs aJ ai=>?_;refine bI ?_;refine de.opn (h:=λlg wt ot tm bv bl bp bd be bu tl ht=>?_);refine At.xl (A:=aW n9 1 272 lg s.log) Fo.au Tu λhk=>?_;refine dV ?_;refine C.dx (cm 7 0 20) 21 [20] 0 ?_;refine Lr ?_;refine Dr.p (λh=>C.mx rfl h) ?_;refine gY ?_;refine Dr.p (λh=>C.mn rfl h) ?_;refine Dr.p (λh=>C.ar rfl h (r:=P6 s keep) (hr:=pq ak ak)) ?_;refine xr ?_;refine Ch.m 20 (aP λe aa hk=>?_);refine C.st rfl (hk _ undef ?_);refine ee ?_;refine C.dx (cm 27 0 13) 14 [10,13] 0 ?_;refine S8 ?_;refine Dr.p (λh=>C.Wn rfl h (hi:=P6 s keep) (hh:=by constructor<;>omega)) ?_;refine xr ?_;refine Ch.m 10 (aP λe aa hk=>?_);refine At.turn (A:=aW n9 1 272 lg s.log) Fo.au (CN (n:=(P6 s keep).toNat) ak) ?_;refine C.dk (FZ (lg:=⟨lg.a,(P6 s keep).toNat,lg.cap⟩) (l:=s.log.take (P6 s keep).toNat) (by rw[iz];omega)) ?_;rintro v aO ⟨s',rfl,rfl⟩;refine bI ?_;refine hk _ _ ?_;refine Ch.m 13 (aP λe aa hk=>?_);refine C.st rfl (hk _ undef ?_);refine Nc ?_;refine C.dk tU ?_;rintro v aO ⟨bv',bl',bp',bd',be',bu',rfl,rfl⟩;refine sX ?_;refine At.aG rW 4 263 (At.aG bQ 7 190 ?_);refine At.yB (show At R d (all (([]:List (Int×fg)).map ql)::_) _ from ?_);refine de.cls (crX s keep) ?_ (tl:=[]) (lg:=s') (wt:=aG) (tm:=aG) (ht:=oQ.zero 0);refine C.cQ (aO:=[de b (crX s keep),a9 I]) aJ ai ⟨I,crX s keep,Sub.refl _,⟨λx hx=>hJ.log x (NV hx),by simp,by simp,by simp,hJ.out⟩,?_,⟨by have:=hC.z;omega,⟨sD 0,by have:=hC.o;show 0<=o+1;omega⟩,by simp⟩,rfl⟩;simp[cZ.abs,m4,iP,P6,Er]
theorem vi{V:Type}{kk:IntKind}{g:V->Value}{b:Nat}{l:List (Int×V)}(h:HL)(x:cW kk g b l h):(l.map (·.1)).Nodup:=by obtain⟨es,clock,m,_⟩:=x;have:=m.nd;simpa[kH,wB]using this
structure xy{V:Type}(l vl:List (Int×V)):Prop where
 nd:(vl.map (·.1)).Nodup
 sub:∀ p∈vl,p∈l
theorem xy.add{V:Type}{l vl:List (Int×V)}(h:xy l vl){k:Int}{v:V}(hm:(k,v)∈l)(hn:k∉vl.map (·.1)):xy l ((k,v)::vl):=
 ⟨sf.2 ⟨hn,h.nd⟩,λp hp=>by
  rcases gq.1 hp with rfl|hp
  ·exact hm
  ·exact h.sub p hp⟩
theorem xy.len{V:Type}:∀ {vl l:List (Int×V)},xy l vl->vl.length<=l.length
 |[],l,_=>eC _
 |p::vl,l,h=>by
  obtain⟨i,hi,e⟩:=jO (h.sub p (iI ..));have nd:=sf.1 h.nd;have hc:xy (l.eraseIdx i) vl:=⟨nd.2,λq hq=>by
   have h1:=h.sub q (gu _ hq);have h2:=(oO hi).mem_iff.1 h1;rcases gq.1 h2 with h3|h3
   ·exact absurd (bL.2 ⟨q,hq,by rw[h3,e]⟩) nd.1
   ·exact h3⟩
  have:=hc.len;rw[Ew,aK hi]at this;simp only[jd];omega
theorem xy.all{V:Type}:∀ {vl l:List (Int×V)},xy l vl->(l.map (·.1)).Nodup->(∀ p∈l,p.1∈vl.map (·.1))->vl.Perm l
 |[],l,_,_,ha=>by
  cases l with
  |nil=>exact .refl _
  |cons p l=>have:=ha p (iI ..);cases this
 |p::vl,l,h,hl,ha=>by
  obtain⟨i,hi,e⟩:=jO (h.sub p (iI ..));have nd:=sf.1 h.nd;have hp:=oO hi;rw[e]at hp;have Kb:((p::l.eraseIdx i).map (·.1)).Nodup:=(hp.map (·.1)).nodup_iff.1 hl;have hl3:=sf.1 Kb;have hc:xy (l.eraseIdx i) vl:=⟨nd.2,λq hq=>by
   have h2:=hp.mem_iff.1 (h.sub q (gu _ hq));rcases gq.1 h2 with h3|h3
   ·exact absurd (bL.2 ⟨q,hq,by rw[h3]⟩) nd.1
   ·exact h3⟩
  refine((hc.all hl3.2 λq hq=>?_).cons p).trans hp.symm;have h3:=ha q (hp.mem_iff.2 (gu _ hq));rcases gq.1 h3 with h4|h4
  ·exact absurd (bL.2 ⟨q,hq,h4⟩) hl3.1
  ·exact h4
theorem F1{V:Type}{l:List (Int×V)}{k:Int}{v:V}(h:k∉l.map (·.1)):bA l k v=l++[(k,v)]:=by
 cases hi:qf k l 0 with
 |none=>exact(jk hi).2.1 v
 |some nv=>
  obtain⟨j,w⟩:=nv;obtain⟨n, -,h1,h2, -, -⟩:=jj hi;exact absurd (bL.2 ⟨(k,w),eS h1,rfl⟩) h
theorem F3{b:Nat}{s:cZ}:aB prog ao bG 168 #[aE b] [de b s] (λv As=>∃ b' l',v=.map (some b')/\l'.Perm s.aH/\As=[cW .u8 dS b' l',de b s]):=by
 refine aB.of λR C kd d F c cs aJ ai=>?_;refine bI ?_;refine de.opn (h:=λlg wt ot tm bv bl bp bd be bu tl ht=>?_);refine At.xl (A:=cW .u8 dS bl s.aH) Fo.au vi λlP=>?_;refine cF ?_;refine C.mm .u8 dS rfl (λb6=>?_);refine jL ?_;refine C.rn (g:=dS) (l:=s.aH) rfl (λRM=>?_);refine C.go ?_;refine C.bS (X:=List (Int×Int)) (λvl=>[(3,.map (some b6)),(12,.pointer (some ⟨RM,0,none⟩))]) (λvl=>cW .u8 dS b6 vl.reverse::HN .u8 dS bl RM s.aH (vl.map (·.1))::sxC b s lg wt ot tm bv bl bp bd be bu::aW n9 1 272 lg s.log::cW .u8 ff bv s.values::cW .i64 tT bp s.bB::cW .i64 oY bd s.done::cW .i64 oY be s.cf::cW .i64 vV bu s.cq::all (s.cq.map ql)::
 aW rW 4 263 tm tl::aW bQ 7 190 wt s.waits::aW bQ 7 190 ot s.out::F) (λvl=>xy s.aH vl) (λvl=>s.aH.length-vl.length) [] ⟨rfl,rfl,trivial⟩ ⟨.nil,λp hp=>(nomatch hp)⟩ ?_ (hI:=by rw[Em,ml];exact bZ.au)
 intro vl e hc ih;refine bj ?_;refine C.nx (g:=dS) (l:=s.aH) rfl (λP7 Tv m13 re=>?_) (λre=>?_)
 ·refine da ?_;have Xq:=ed lP m13;have kx:=hc.add m13 re;have wE:=kx.len;have xc:P7∉vl.reverse.map (·.1):=by rw[List.map_reverse,List.mem_reverse];exact re
  refine fy ?_;refine C.ent Xq rfl ?_ Fo.au;refine ky ?_;refine C.mu (w:=Tv) (l:=vl.reverse) (q:=P7) rfl ?_;refine C.go ?_;refine again ih ((P7,Tv)::vl) kx (by simp only[jd]at wE⊢;omega) (hr:=?_);rw[Jw,<- F1 xc,iJ];exact bZ.au
 ·refine dV ?_;refine At.CU (l:=s.aH) (g:=dS) Fo.au ?_;refine de.cls s ?_;exact C.a8 aJ ai ⟨b6,vl.reverse,rfl,(NZ vl).trans (hc.all lP re),rfl⟩
theorem Di{b:Nat}{s:cZ}:aB prog ao bG 129 #[aE b] [de b s] (λv As=>∃ b' l',v=.map (some b')/\l'.Perm (s.values.filter λp=>p.2 != 0)/\As=[cW .u8 ff b' l',de b s]):=by
 refine aB.of λR C kd d F c cs aJ ai=>?_;refine bI ?_;refine de.opn (h:=λlg wt ot tm bv bl bp bd be bu tl ht=>?_);refine At.xl (A:=cW .u8 ff bv s.values) Fo.au vi λlP=>?_;refine cF ?_;refine C.mm .u8 ff rfl (λb6=>?_);refine jL ?_;refine C.rn (g:=ff) (l:=s.values) rfl (λRM=>?_);refine C.go ?_;refine C.bS (X:=List (Int×Int)) (λvl=>[(3,.map (some b6)),(12,.pointer (some ⟨RM,0,none⟩))]) (λvl=>cW .u8 ff b6 (vl.reverse.filter λp=>p.2 != 0)::HN .u8 ff bv RM s.values (vl.map (·.1))::sxC b s lg wt ot tm bv bl bp bd be bu::aW n9 1 272 lg s.log::cW .u8 dS bl s.aH::cW .i64 tT bp s.bB::cW .i64 oY bd s.done::cW .i64 oY be s.cf::cW .i64 vV bu s.cq::all (s.cq.map ql)::
 aW rW 4 263 tm tl::aW bQ 7 190 wt s.waits::aW bQ 7 190 ot s.out::F) (λvl=>xy s.values vl) (λvl=>s.values.length-vl.length) [] ⟨rfl,rfl,trivial⟩ ⟨.nil,λp hp=>(nomatch hp)⟩ ?_ (hI:=by rw[Em,Ev,ml];exact bZ.au)
 intro vl e hc ih;refine bj ?_;refine C.nx (g:=ff) (l:=s.values) rfl (λP7 Tv m13 re=>?_) (λre=>?_)
 ·refine da ?_;have Xq:=ed lP m13;have kx:=hc.add m13 re;have wE:=kx.len;have xc:P7∉(vl.reverse.filter λp=>p.2 != 0).map (·.1):=λh=>re (by obtain⟨p,hp,e⟩:=bL.1 h;exact bL.2 ⟨p,List.mem_reverse.1 (iU.1 hp).1,e⟩)
  refine fy ?_;refine C.ent Xq rfl ?_ Fo.au;refine dV ?_;refine C.cmp rfl (λxz=>?_) (λxz=>?_)
  ·refine dm ?_;refine C.mu (w:=Tv) (l:=vl.reverse.filter λp=>p.2 != 0) (q:=P7) rfl ?_;refine C.go ?_;refine again ih ((P7,Tv)::vl) kx (by simp only[jd]at wE⊢;omega) (hr:=?_);have e1:((P7,Tv)::vl).reverse.filter (λp=>p.2 != 0)=bA (vl.reverse.filter λp=>p.2 != 0) P7 Tv:=by rw[F1 xc,Jw,nE,uy,aK (by simpa using xz),Ev]
   rw[e1,iJ];exact bZ.au
  ·refine bj ?_;refine again ih ((P7,Tv)::vl) kx (by simp only[jd]at wE⊢;omega) (hr:=?_);have e1:((P7,Tv)::vl).reverse.filter (λp=>p.2 != 0)=vl.reverse.filter λp=>p.2 != 0:=by rw[Jw,nE,uy,aq (by simpa using xz),Ev,lK]
   rw[e1,iJ];exact bZ.au
 ·refine dV ?_;refine At.CU (l:=s.values) (g:=ff) Fo.au ?_;refine de.cls s ?_;exact C.a8 aJ ai ⟨b6,vl.reverse.filter (λp=>p.2 != 0),rfl,((NZ vl).trans (hc.all lP re)).filter _,rfl⟩
abbrev vj(r:jr):HP:=all [aW cK 3 67 r.so r.ops,aW dv 1 21 r.sr r.reads]
variable{rs:List jr}
theorem Tw(r:jr)(hr:dJ [aW cK 3 67 r.so r.ops,aW dv 1 21 r.sr r.reads,all (rs.map vj)] As L)(h:At R d (all ((rs++[r]).map vj)::L) g):At R d As g:=
 At.perm hr.perm λH s=>(rQ (f:=vj) r (.cons .head (.cons .head .nil)) h) H (Sat.fR (l:=[aW cK 3 67 r.so r.ops,aW dv 1 21 r.sr r.reads]) s)
theorem AD{I:HL}{b:Nat}{s:cZ}(hJ:ShJ I s)(hl:s.log.length<2^30):aB prog ao bG 146 #[aE b] [de b s,a9 I]
  (λv As=>∃ (sl:ax) (rs:List jr),v=.tuple #[sl.v,az s.aX]/\rs.map (·.toRecR)=s.log.map (·.abs.bk)/\As=[aW recC 6 167 sl rs,all (rs.map vj),de b s,a9 I]):=by
 refine aB.of λR C kd d F c cs aJ ai=>?_;refine bI ?_;refine de.opn (h:=λlg wt ot tm bv bl bp bd be bu tl ht=>?_);refine jW ?_;refine fy ?_;refine At.aG recC 6 167 ?_;refine At.yB (show At R d (all (([]:List jr).map vj)::_) _ from ?_);refine C.bS (X:=Nat×ax×List jr) (λx=>[(0,aE b),(4,x.2.1.v),(10,lg.v),(11,az s.log.length),(12,az x.1)]) (λx=>aW recC 6 167 x.2.1 x.2.2::all (x.2.2.map vj)::Lx b s lg wt ot tm bv bl bp bd be bu tl (a9 I::F)) (λx=>x.1<=s.log.length/\x.2.2.map (·.toRecR)=(s.log.take x.1).map (·.abs.bk)) (λx=>s.log.length-x.1) (0,aG,[]) ⟨rfl,rfl,rfl,rfl,rfl,trivial⟩ ⟨eC _,rfl⟩ ?_;rintro⟨i,s1,rs⟩ e ⟨hi,qc⟩ ih;dsimp only at hi qc⊢;have Cn:rs.length=i:=by have:=congrArg List.length qc;rw[dd,dd,iz]at this;omega
 refine bj ?_;refine C.cmp rfl (λre=>?_) (λre=>?_)
 ·refine bj ?_;have cG:i<s.log.length:=by simpa using re
  have hje:=hJ.log _ (bC cG);refine jL ?_;refine C.enr hje ?_;rintro v aO ⟨so,sr,rfl,rfl⟩;refine bI ?_;refine C.n5 rfl (λb19=>?_);refine C.oh (s:=s1) (l:=rs) (jr.mk (s.log[i]'cG).abs.bk so sr) rfl (λs2=>?_);refine dm ?_;refine Tw (rs:=rs) (jr.mk (s.log[i]'cG).abs.bk so sr) dJ.au ?_;refine again ih (i+1,s2,rs++[jr.mk (s.log[i]'cG).abs.bk so sr]) ⟨cG,?_⟩ (cD);rw[fq cG,eI,eI,qc];rfl
 ·refine bj ?_;refine C.dx (cm 22 0 5++[(2,5),(3,6)]) 7 [] 0 ?_;refine Ng ?_;refine ee ?_;have e1:s.log.take i=s.log:=g5 (by simp at re;omega);rw[e1]at qc;refine de.cls s ?_;exact C.a8 aJ ai ⟨s1,rs,rfl,qc,rfl⟩
def Xr:aR->Nat->Bool:=λt o=>t==23||t==114||(t==92&&o==5)||(t==120&&o==1)
def Xs:aR->Nat->Bool:=λt o=>t==92&&(o==7||o==8)
def bT:tH:=⟨⟨bG.rd,Xs,0⟩,rfl,Xr,Xs,λb t o h=>by
 simp only[Xr,bG,AP,j8]at h⊢;rcases h with((h|h)|h)|h
 ·exact .inl (.inr h)
 ·exact .inl (.inl (.inr h))
 ·exact .inl (.inl (.inl h.1))
 ·exact .inr h.1,λt o h=>h⟩
theorem cH(σ:Gh):BLe (bT.bw σ) bG:=⟨λb t o h=>(tH.le bT σ).rd b t o h,λt o h=>by have h:Xs t o=true:=h;simp only[Xs,bG,AP,j8]at h⊢;exact .inl (.inl (.inl h.1)),eC _⟩
theorem P8:BLe bT.B0 bG:=⟨λb t o h=>h,(cH ⟨0,λ_=>none,λ_=>False,0⟩).sh,fI _⟩
abbrev Tx(m:Int)(ae aF aL dn:Value)(aj:Bool)(st:Int):Array Value:=#[.int .i32 m,.int .u32 0,ae,aF,aL,dn,.bool aj,.int .u64 st,.int .u32 0]
abbrev om(b:Nat)(m:Int)(ae aF aL dn:Value)(aj:Bool)(st:Int):HP:=bX b (.cells (Tx m ae aF aL dn aj st) 92 (0,0))
variable{σ:Gh}{ae aF aL dn:Value}{aj:Bool}{st:Int}
theorem Iu:aB prog true (bT.bw σ) 62 #[.pointer (some ⟨b,0,none⟩)] [om b 0 ae aF aL dn aj st] (λv As=>v=.tuple #[]/\As=[om b 1 ae aF aL dn aj st]):=by refine aB.of λR C kd d F c cs aJ ai=>?_;refine jI ?_;refine C.Sw rfl ?_;refine cF ?_;refine C.aal rfl ?_;refine cN ?_;refine C.Wu rfl ?_;refine da ?_;refine C.Sy rfl ?_;refine C.xMk (mk:=.acquire) (a:=⟨b,0,none⟩) rfl ?_ (hm:=λH s=>⟨_,_,Has.get Has.au s⟩);refine C.go ?_;exact C.a8 aJ ai ⟨rfl,rfl⟩
theorem Dj:aB prog true (bT.bw σ) 63 #[.pointer (some ⟨b,0,none⟩)] [om b 1 ae aF aL dn aj st] (λv As=>v=.tuple #[]/\As=[om b 0 ae aF aL dn aj st]):=by refine aB.of λR C kd d F c cs aJ ai=>?_;refine bI ?_;refine i6 ?_;refine C.Sy rfl ?_;refine C.xMk (mk:=.releaseMerge) (a:=⟨b,0,none⟩) rfl ?_ (hm:=λH s=>⟨_,_,Has.get Has.au s⟩);refine bj ?_;refine C.Sw rfl ?_;refine cF ?_;refine C.aam (z':=0) rfl ?_;refine cN ?_;refine C.du rfl ?_;refine da ?_;refine C.Wu rfl ?_;refine C.go ?_;exact C.cQ aJ ai ⟨rfl,rfl⟩
theorem fi:aB prog true (bT.bw σ) 33 #[.pointer (some ⟨b,0,none⟩)] [om b 0 ae aF aL dn aj st] (λv As=>v=.tuple #[]/\As=[om b 1 ae aF aL dn aj st]):=by refine aB.of λR C kd d F c cs aJ ai=>?_;refine sY ?_;refine C.cE Iu ?_;refine k8 ?_;exact C.cQ aJ ai ⟨rfl,rfl⟩
theorem dD:aB prog true (bT.bw σ) 34 #[.pointer (some ⟨b,0,none⟩)] [om b 1 ae aF aL dn aj st] (λv As=>v=.tuple #[]/\As=[om b 0 ae aF aL dn aj st]):=by refine aB.of λR C kd d F c cs aJ ai=>?_;refine sY ?_;refine C.cE Dj ?_;refine k8 ?_;exact C.cQ aJ ai ⟨rfl,rfl⟩
end
section
open Go.Proofs Go.Conc
instance:Zv prog 73 (.agg #[]):=⟨_,ay type73,rfl⟩
variable{P:bR}{n:Nat}{e:Nat->Value}{dst:Option Nat}{ty t1 t2:aR}{pos:String}{af:Array Edge}{gd:Option (Nat×Bool)}{x y:cU}
theorem P9{a b:Nat}{z1 z2:Value}[c1:Zv P t1 z1][c2:Zv P t2 z2](hx:ev n e x=.chan (some a))(hy:ev n e y=.chan (some b)):fJ P (execOp (ev n e) ⟨dst,.select #[⟨x,none,t1⟩,⟨y,none,t2⟩] true,ty,pos,af,gd⟩)=some (.comm #[rcase a z1,rcase b z2] true .select):=by unfold execOp;simp only;refine br (a:=#[rcase a z1,rcase b z2]) ?_ rfl;have h1:fJ P (zeroValue t1)=some z1:=qR c1.h;have h2:fJ P (zeroValue t2)=some z2:=qR c2.h;rw[Jl];simp only[Ny,R4,hx,hy,Eh,Jm,bind_assoc,pure_bind];refine br h1 (br h2 rfl)
structure HG where
 g:Nat
 hb:Nat
 bh:Nat
 bs:Nat
 wk:Nat
 rd:Nat
structure CG where
 b:Nat
 cb:Nat
 dn:Nat
def Vn(C:CG)(cs:List Frame):Prop:=∃ e1,cs=[aV 49 .oF 11 e1 [⟨.fn (.func 50) #[],#[.pointer (some ⟨C.b,7,none⟩)]⟩] [.inRegion (cO (cR ((f49.body).getD .skip))) [5]],base prog []]
def Dk(h:HG)(C:CG)(r:aQ):Prop:=∃ e cs,Vn C cs/\e 0=aE h.bh/\e 1=.chan (some C.dn)/\r=gr 51 .pR 30 e [] (.inRegion (cO (cL (cR (cB (cB (cB ((f51.body).getD .skip))))))) [0,1,2,3]:: .code (cR (cR (cB (cB (cB ((f51.body).getD .skip)))))):: .inBlock 1:: .inLoop (cB (cB ((f51.body).getD .skip)))::[.inBlock 0]) cs
def ek(h:HG)(C:CG):dH:=⟨#[rcase h.wk .nilFunc,rcase C.dn (.agg #[])],.select,Dk h C,[(⟨C.cb,0,none⟩,aE C.b),(⟨h.hb,0,none⟩,aE h.bh),(⟨C.b,5,none⟩,.chan (some C.dn)),(⟨h.bh,1,none⟩,.chan (some h.wk))]⟩
theorem F4{h:HG}{C:CG}{e:Nat->Value}{cs:List Frame}(si:Vn C cs)(h0:e 0=aE h.bh)(h1:e 1=.chan (some C.dn)):
  Way prog false (ek h C) 200 (gr 51 .pR 30 e [] (.code (cB (cB ((f51.body).getD .skip))):: .inLoop (cB (cB ((f51.body).getD .skip)))::[.inBlock 0]) cs):=by
 have M:=Mt.way (P:=prog) (ao:=false) (s:=ek h C);rw[<- j0 (e:=e) (l:=[(0,aE h.bh),(1,.chan (some C.dn))]) ⟨h0,h1,trivial⟩];refine M.go ?_;refine M.rg [0,1,2,3] ?_;refine M.mv rfl ?_;refine M.nc (a:=⟨h.bh,0,none⟩) rfl ?_;refine M.fa rfl ?_;refine Pa (ad:=⟨h.bh,1,none⟩) (v:=.chan (some h.wk)) rfl ?_ (by simp[ek]);refine M.go ?_;refine M.rg [0] ?_;refine M.mv rfl ?_;refine M.go ?_;refine M.rg [0,1,2,3] ?_;exact Way.mono (n:=0) (Ww rfl ⟨_,cs,si,rfl,rfl,rfl⟩ (P9 rfl rfl) rfl) ak
theorem LX{h:HG}{C:CG}:Way prog false (ek h C) 600 (child prog ⟨.fn (.func 49) #[aE C.cb,aE h.hb],#[]⟩):=by
 have M:=Mt.way (P:=prog) (ao:=false) (s:=ek h C);refine M.child ?_;refine M.go ?_;refine M.rg [0,1,2,3] ?_;refine Pa (ad:=⟨C.cb,0,none⟩) (v:=aE C.b) rfl ?_ (by simp[ek]);refine M.nc (a:=⟨C.b,0,none⟩) rfl ?_;refine M.fa rfl ?_;refine M.oF rfl ?_;refine M.go ?_;refine HK [(5,0),(6,1),(7,2),(8,3),(9,4),(10,5)] [0,1,2,3,4] 5 [⟨0,5,aE h.bh,false⟩,⟨1,6,aE C.b,false⟩,⟨2,7,aE C.b,false⟩,⟨3,8,.pointer (some ⟨C.b,5,none⟩),false⟩,⟨4,9,.chan (some C.dn),false⟩] ⟨?_,?_,?_,?_,?_⟩ ?_
 ·intro i hi;simp only[gq,mK,fX]at hi;rcases hi with rfl|rfl|rfl|rfl|rfl<;>simp
 ·simp
 ·simp
 ·intro x hx;simp only[gq,mK,fX]at hx;rcases hx with rfl|rfl|rfl|rfl|rfl<;>rfl
 ·intro x hx;simp only[gq,mK,fX]at hx;rcases hx with rfl|rfl|rfl|rfl|rfl
  ·exact⟨[],by simp,λm e aa q=>E0 (ad:=⟨h.hb,0,none⟩) (by simp[ek]) rfl q⟩
  ·exact⟨[],by simp,λm e aa q=>E0 (ad:=⟨C.cb,0,none⟩) (by simp[ek]) rfl q⟩
  ·exact⟨[⟨1,6,aE C.b,false⟩],by simp,λm e aa q=>J1 (a:=⟨C.b,0,none⟩) rfl q⟩
  ·exact⟨[⟨2,7,aE C.b,false⟩],by simp,λm e aa q=>J2 (b:=C.b) (off:=0) (o:=5) rfl q⟩
  ·exact⟨[⟨3,8,.pointer (some ⟨C.b,5,none⟩),false⟩],by simp,λm e aa q=>E0 (ad:=⟨C.b,5,none⟩) (by simp[ek]) rfl q⟩
 ·refine M.Sz (f:=51) rfl ?_;refine M.go ?_;refine M.lp ?_;exact Way.mono (F4 ⟨_,rfl⟩ rfl rfl) ak
end
section
open Go.Proofs Go.Conc
structure aa9(G:qo)(b:Nat):Prop where
 blk:G.blk=b
 o1:G.o1=7
 o2:G.o2=8
 ty:G.ty=92
 sz:G.cs.size=9
theorem Xt{a b:Nat}{z1 z2 v:Value}{ok:Bool}:commResult #[rcase a z1,rcase b z2] .select 1 v ok=.tuple #[az 1,.bool ok,z1,v]:=by simp[commResult,rcase,goInt]
theorem Xu{a b:Nat}{z1 z2 v:Value}{ok:Bool}:commResult #[rcase a z1,rcase b z2] .select 0 v ok=.tuple #[az 0,.bool ok,v,z2]:=by simp[commResult,rcase,goInt]
theorem leave{h:HG}{C:CG}{G:qo}(hG:aa9 G C.b){r:aQ}(hr:Dk h C r):Cl prog G 9000 .rel (Conc.served r (commResult #[rcase h.wk .nilFunc,rcase C.dn (.agg #[])] .select 1 (.agg #[]) false)):=by
 obtain⟨e,cs,⟨e1,rfl⟩,h0,h1,rfl⟩:=hr;obtain⟨blk,o1,o2,F5,gty⟩:=G;obtain⟨e1',e2',e3',e4',hsz⟩:=hG;simp only at e1' e2' e3' e4' hsz;subst e1' e2' e3' e4';have M:=Mt.cl (P:=prog) (G:=⟨C.b,7,8,F5,92⟩) (x:=.rel);rw[rR rfl,Xt];refine M.ext (v:=az 1) rfl ?_;refine M.bo (v:=.bool false) rfl ?_;refine M.bo (v:=.bool true) rfl ?_;refine M.go ?_;refine M.CA ?_;refine M.KY ?_;refine M.ret ?_;refine M.home ?_;unfold e8;rw[ct rfl];show Cl prog _ _ .rel (gr 49 .oF 11 _ _ _ _);refine M.go ?_;refine M.fin ?_;refine M.dcall ?_;refine M.go ?_;refine M.rg [0,1] ?_;refine M.mv rfl ?_;refine M.Sz (f:=48) rfl ?_;refine M.go ?_;refine M.KY ?_;refine M.rg [0,1] ?_;refine M.mv rfl ?_;refine M.bo (v:=.bool true) rfl ?_;refine M.go ?_;refine M.KY ?_;refine M.rg [0,1,2] ?_;refine M.mv rfl ?_;refine M.Sy (ad:=⟨C.b,7,none⟩) (λw ⟨c,h1,h2⟩=>⟨c[7]'(by simp only at h2;omega),by simp only[World.cell?,h1];simp⟩) rfl ?_;refine WB rfl (λw=>yJ .releaseMerge rfl rfl (by intro ad g;simp) rfl w) ?_;have M:=Mt.cl (P:=prog) (G:=⟨C.b,7,8,F5,92⟩) (x:=.xJ);refine M.go ?_;refine M.rg [0] ?_;refine WC rfl (λw=>yI .disable rfl rfl (by intro g;simp) w) ?_;have M:=Mt.cl (P:=prog) (G:=⟨C.b,7,8,F5,92⟩) (x:=.add);refine M.go ?_;refine M.rg [0] ?_;refine M.oF rfl ?_;refine M.go ?_;refine M.rg [0] ?_;refine M.lh rfl ?_;refine M.go ?_;refine M.rg [0] ?_;refine M.xk rfl ?_;refine M.go ?_;refine M.CA ?_;refine M.rg [0,1,2,3,4,5,6,7] ?_;refine M.mv rfl ?_;refine M.nc (a:=⟨C.b,7,none⟩) rfl ?_;refine M.fa (b:=C.b) (off:=7) (o:=0) rfl ?_;refine M.mv rfl ?_;refine M.cv (r:=18446744073709551615) rfl ?_;refine M.bo (v:=.int .u64 18446744069414584320) rfl ?_;refine M.Sz (f:=96) rfl ?_;refine M.go ?_;refine M.rg [0] ?_;refine M.lh rfl ?_;refine M.go ?_;refine M.rg [0,1,2,3,4,5] ?_;refine M.mv rfl ?_;refine M.nc (a:=⟨C.b,7,none⟩) rfl ?_;refine M.fa (b:=C.b) (off:=7) (o:=0) rfl ?_;refine M.mv rfl ?_;refine SI rfl ?_ ?_
 ·have M:=Mt.cl (P:=prog) (G:=⟨C.b,7,8,F5,92⟩) (x:=.ld);refine M.lh rfl ?_;refine M.go ?_;refine M.ret ?_;refine M.home ?_;unfold e8;rw[ct rfl];show Cl prog _ _ .ld (gr 48 .pR 117 _ _ _ _);refine M.lh rfl ?_;refine M.go ?_;refine M.rg [0,1,2,3,4,5,6] ?_;refine M.mv rfl ?_;refine M.bo rfl ?_;refine M.bo rfl ?_;refine M.mv rfl ?_;refine M.no rfl ?_;refine M.no rfl ?_;refine M.pk rfl ?_;refine M.go ?_;refine M.CA ?_;refine M.rg [0,1,2,3] ?_;refine M.mv rfl ?_;refine M.bo rfl ?_;refine M.cv rfl ?_;refine M.lh rfl ?_;refine M.go ?_;refine M.rg [0,1,2,3] ?_;refine M.mv rfl ?_;refine M.bo rfl ?_;refine M.cv rfl ?_;refine M.lh rfl ?_;refine M.go ?_;refine M.rg [0,1,2,3,4,5,6,7,8,9] ?_;refine M.mv rfl ?_;refine M.mv rfl ?_;refine M.bo rfl ?_;refine M.pk rfl ?_;refine M.mv rfl ?_;refine M.no rfl ?_;refine M.no rfl ?_;refine M.no rfl ?_;refine M.no rfl ?_;refine M.pk rfl ?_;refine M.go ?_;refine M.CA ?_;refine M.rg [0,1] ?_;refine M.mv rfl ?_;refine M.bo rfl ?_;refine M.go ?_;refine M.CA ?_;refine M.rg [0,1,2,3,4,5,6,7,8,9,10,11] ?_;refine M.mv rfl ?_;refine M.bo rfl ?_;refine M.mv rfl ?_
  first|refine M.no rfl ?_|refine M.mv rfl ?_
  first|refine M.no rfl ?_|refine M.bo rfl ?_
  refine M.pk rfl ?_;refine M.mv rfl ?_;refine M.no rfl ?_;refine M.no rfl ?_;refine M.no rfl ?_;refine M.no rfl ?_;refine M.pk rfl ?_;refine M.go ?_;refine M.CA ?_;refine M.rg [0,1,2,3,4,5] ?_;refine M.mv rfl ?_;refine M.bo rfl ?_;refine M.mv rfl ?_
  first|refine M.no rfl ?_|refine M.mv rfl ?_
  first|refine M.no rfl ?_|refine M.bo rfl ?_
  refine M.pk rfl ?_;refine M.go ?_;refine M.CA ?_;refine M.rg [0,1,2,3,4,5] ?_;refine M.mv rfl ?_;refine M.nc rfl ?_;refine M.fa rfl ?_;refine M.Sz (f:=65) rfl ?_;refine M.go ?_;refine M.rg [0] ?_;refine M.lh rfl ?_;refine M.go ?_;refine M.rg [0,1,2,3,4] ?_;refine M.mv rfl ?_;refine M.nc rfl ?_;refine M.fa rfl ?_;refine aav rfl (λw hc=>yK rfl rfl rfl hc) ?_;have M:=Mt.cl (P:=prog) (G:=⟨C.b,7,8,F5,92⟩) (x:=.M5);refine M.lh rfl ?_;refine M.go ?_;refine M.ret ?_;refine M.home ?_;unfold e8;rw[ct rfl];show Cl prog _ _ .M5 (gr 48 .pR 117 _ _ _ _);refine M.mv rfl ?_;refine M.bo rfl ?_;refine M.go ?_;refine M.CA ?_;refine M.rg [0,1,2,3] ?_;refine M.mv rfl ?_;refine M.nc rfl ?_;refine M.fa rfl ?_;refine M.Sz (f:=98) rfl ?_;refine M.go ?_;refine M.rg [0,1,2,3,4] ?_;refine M.mv rfl ?_;refine M.nc rfl ?_;refine M.fa rfl ?_;refine M.mv rfl ?_;refine WE rfl (λw hc hz=>O3 rfl rfl rfl rfl hc hz) ?_;have M:=Mt.cl (P:=prog) (G:=⟨C.b,7,8,F5,92⟩) (x:=.Hj);refine M.go ?_;refine M.fin ?_;refine M.home ?_;unfold e8;rw[ct rfl];show Cl prog _ _ .Hj (gr 48 .pR 117 _ _ _ _);refine M.go ?_;refine M.rg [0] ?_;refine M.mv rfl ?_;refine M.go ?_;refine M.CA ?_;refine M.lp ?_;refine M.go ?_;refine M.rg [0,1] ?_;refine M.mv rfl ?_;refine M.bo rfl ?_;refine M.go ?_;refine M.KY ?_;refine M.rg [0,1,2,3] ?_;refine M.mv rfl ?_;refine M.nc rfl ?_;refine M.fa rfl ?_;refine WH rfl (Pj rfl) (λw hc hz=>O9 rfl rfl rfl hc hz) ?_;have M:=Mt.JZ (P:=prog) (d:=1);refine M.go ?_;refine M.rg [0,1,2] ?_;refine M.mv rfl ?_;refine M.bo rfl ?_;refine M.lh rfl ?_;refine M.go ?_;refine M.Wg ?_;refine M.go ?_;refine M.rg [0,1] ?_;refine M.mv rfl ?_;refine M.bo rfl ?_;refine M.go ?_;refine M.CA ?_;refine M.fin ?_;refine Bm rfl (λw=>Bl .enable (by intro g;simp) w) ?_;have M:=Mt.JZ (P:=prog) (d:=0);refine M.home ?_;unfold e8;rw[ct rfl];show QuitsD prog _ 0 (gr 50 .oF 4 _ _ _ _);refine M.go ?_;refine M.fin ?_;refine M.JY ?_;refine M.JY ?_;exact Bn
 ·intro v wt hv hw eL;have M:=Mt.JZ (P:=prog) (d:=1);have oA:(v=0/\wt=0)\/(v=1/\wt=0)\/(v=1/\wt=1)\/(v=2/\wt=0)\/(v=2/\wt=1)\/(v=3/\wt=0)\/(v=3/\wt=1):=ak;rcases oA with⟨rfl,rfl⟩|⟨rfl,rfl⟩|⟨rfl,rfl⟩|⟨rfl,rfl⟩|⟨rfl,rfl⟩|⟨rfl,rfl⟩|⟨rfl,rfl⟩
  all_goals
   refine M.lh rfl ?_;refine M.go ?_;refine M.ret ?_;refine M.home ?_;unfold e8;rw[ct rfl];show QuitsD prog _ 1 (gr 48 .pR 117 _ _ _ _);refine M.lh rfl ?_;refine M.go ?_;refine M.rg [0,1,2,3,4,5,6] ?_;refine M.mv rfl ?_;refine M.bo rfl ?_;refine M.bo rfl ?_;refine M.mv rfl ?_;refine M.no rfl ?_;refine M.no rfl ?_;refine M.pk rfl ?_;refine M.go ?_;refine M.CA ?_;refine M.rg [0,1,2,3] ?_;refine M.mv rfl ?_;refine M.bo rfl ?_;refine M.cv rfl ?_;refine M.lh rfl ?_;refine M.go ?_;refine M.rg [0,1,2,3] ?_;refine M.mv rfl ?_;refine M.bo rfl ?_;refine M.cv rfl ?_;refine M.lh rfl ?_;refine M.go ?_;refine M.rg [0,1,2,3,4,5,6,7,8,9] ?_;refine M.mv rfl ?_;refine M.mv rfl ?_;refine M.bo rfl ?_;refine M.pk rfl ?_;refine M.mv rfl ?_;refine M.no rfl ?_;refine M.no rfl ?_;refine M.no rfl ?_;refine M.no rfl ?_;refine M.pk rfl ?_;refine M.go ?_;refine M.CA ?_;refine M.rg [0,1] ?_;refine M.mv rfl ?_;refine M.bo rfl ?_;refine M.go ?_;refine M.CA ?_;refine M.rg [0,1,2,3,4,5,6,7,8,9,10,11] ?_;refine M.mv rfl ?_;refine M.bo rfl ?_;refine M.mv rfl ?_
   first|refine M.no rfl ?_|refine M.mv rfl ?_
   first|refine M.no rfl ?_|refine M.bo rfl ?_
   refine M.pk rfl ?_;refine M.mv rfl ?_;refine M.no rfl ?_;refine M.no rfl ?_;refine M.no rfl ?_;refine M.no rfl ?_;refine M.pk rfl ?_;refine M.go ?_;refine M.CA ?_;refine M.rg [0,1,2,3,4,5] ?_;refine M.mv rfl ?_;refine M.bo rfl ?_;refine M.mv rfl ?_
   first|refine M.no rfl ?_|refine M.mv rfl ?_
   first|refine M.no rfl ?_|refine M.bo rfl ?_
   refine M.pk rfl ?_;refine M.go ?_;refine M.KY ?_;refine M.ret ?_;refine Bm rfl (λw=>Bl .enable (by intro g;simp) w) ?_;have M:=Mt.JZ (P:=prog) (d:=0);refine M.home ?_;unfold e8;rw[ct rfl];show QuitsD prog _ 0 (gr 50 .oF 4 _ _ _ _);refine M.go ?_;refine M.fin ?_;refine M.JY ?_;refine M.JY ?_;exact Bn
def z7(P:bR)(G:qo)(Fin:aQ->Prop)(x:MS)(_:Nat)(g:aQ):Prop:=MW P G Fin x g
variable{R:Nat->aQ->Array Obj->Prop}{B:j9}{As:List HP}{b:Nat}{F5:Array Value}{fr:Frame}{cs:List Frame}
theorem Dl{w:World}{o:Nat}(hsz:F5.size=9)(ho:o<9)(h:Gs ⟨b,7,8,F5,92⟩ w):∃ v,w.cell? ⟨b,o,none⟩=some v:=by obtain⟨c,h1,h2⟩:=h;exact⟨c[o]'(by simp only at h2;omega),by simp only[World.cell?,h1];simp⟩
theorem LY(C:ab prog true B R)(hsz:F5.size=9)(ai:At R 0 As (e8 fr cs (.tuple #[]))):∀ (c:Nat),c<=4->∀ e:Nat->Value,e 0=.pointer (some ⟨b,7,none⟩)->
  MW prog ⟨b,7,8,F5,92⟩ (λa=>At R 0 As a) (.head c) (gr 35 .pR 84 e [] (.code (cB (cB (cR ((f35.body).getD .skip)))):: .inLoop (cB (cB (cR ((f35.body).getD .skip))))::[.inBlock 0]) (fr::cs)):=by
 intro c
 induction c using Nat.strongRecOn with
 |ind c ih=>
  intro hc e h0;have M:∀ {x:MS},Mt prog true (Gs ⟨b,7,8,F5,92⟩) (z7 prog ⟨b,7,8,F5,92⟩ (λa=>At R 0 As a) x):=Mt.mw;rw[<- j0 (e:=e) (l:=[(0,.pointer (some ⟨b,7,none⟩))]) ⟨h0,trivial⟩];show z7 _ _ _ _ 900 _;refine M.go ?_;refine M.rg [0,1,2,3,4] ?_;refine M.mv rfl ?_;refine M.nc rfl ?_;refine M.fa rfl ?_;refine M.Sz (f:=65) rfl ?_;refine M.go ?_;refine M.rg [0] ?_;refine M.lh rfl ?_;refine M.go ?_;refine M.rg [0,1,2,3,4] ?_;refine M.mv rfl ?_;refine M.nc rfl ?_;refine M.fa rfl ?_;refine SJ rfl ?_ ?_
  ·show z7 _ _ _ _ 900 _;refine M.lh rfl ?_;refine M.go ?_;refine M.ret ?_;refine M.home ?_;unfold e8;rw[ct rfl];show z7 _ _ _ _ 900 (gr 35 .pR 84 _ _ _ _);refine M.lh rfl ?_;refine M.go ?_;refine M.rg [0,1,2,3] ?_;refine M.mv rfl ?_;refine M.bo rfl ?_;refine M.cv rfl ?_;refine M.lh rfl ?_;refine M.go ?_;refine M.rg [0,1,2,3] ?_;refine M.mv rfl ?_;refine M.bo rfl ?_;refine M.cv rfl ?_;refine M.lh rfl ?_;refine M.go ?_;refine M.rg [0,1] ?_;refine M.mv rfl ?_;refine M.bo rfl ?_;refine M.go ?_;refine M.KY ?_;refine M.KY ?_;refine M.rg [0] ?_;refine Pk rfl ?_;show z7 _ _ _ _ 900 _;refine M.go ?_;refine M.rg [0,1,2] ?_;refine M.mv rfl ?_;refine M.Sy (ad:=⟨b,7,none⟩) (λw h=>Dl hsz (by decide) h) rfl ?_;refine Pl rfl ?_;refine da ?_;refine C.v0 (v:=.bool true) rfl ?_ rfl;refine bj ?_;refine C.v0 (v:=.int .u64 0) rfl ?_ rfl;refine C.v0 (v:=.bool false) rfl ?_ rfl;refine dV ?_;exact C.OI trivial ai rfl rfl
  ·intro v h1 h2;have oA:v=1\/v=2\/v=3\/v=4:=ak;have ih':=ih (v-1) ak ak;rcases oA with rfl|rfl|rfl|rfl
   all_goals
    show z7 _ _ _ _ 900 _;refine M.lh rfl ?_;refine M.go ?_;refine M.ret ?_;refine M.home ?_;unfold e8;rw[ct rfl];show z7 _ _ _ _ 900 (gr 35 .pR 84 _ _ _ _);refine M.lh rfl ?_;refine M.go ?_;refine M.rg [0,1,2,3] ?_;refine M.mv rfl ?_;refine M.bo rfl ?_;refine M.cv rfl ?_;refine M.lh rfl ?_;refine M.go ?_;refine M.rg [0,1,2,3] ?_;refine M.mv rfl ?_;refine M.bo rfl ?_;refine M.cv rfl ?_;refine M.lh rfl ?_;refine M.go ?_;refine M.rg [0,1] ?_;refine M.mv rfl ?_;refine M.bo rfl ?_;refine M.go ?_;refine M.CA ?_;refine M.rg [0,1,2,3,4,5,6] ?_;refine M.mv rfl ?_;refine M.nc rfl ?_;refine M.fa rfl ?_;refine M.mv rfl ?_;refine M.mv rfl ?_;refine M.bo rfl ?_;refine M.Sz (f:=69) rfl ?_;show z7 _ _ _ _ 900 _;refine M.go ?_;refine M.rg [0] ?_;refine M.lh rfl ?_;refine M.go ?_;refine M.rg [0,1,2,3,4,5,6] ?_;refine M.mv rfl ?_;refine M.nc rfl ?_;refine M.fa rfl ?_;refine M.mv rfl ?_;refine M.mv rfl ?_;refine WL rfl ?_ ?_
    ·show z7 _ _ _ _ 900 _;refine M.lh rfl ?_;refine M.go ?_;refine M.ret ?_;refine M.home ?_;unfold e8;rw[ct rfl];show z7 _ _ _ _ 900 (gr 35 .pR 84 _ _ _ _);refine M.go ?_;refine M.KY ?_;refine M.rg [0,1,2,3] ?_;refine M.mv rfl ?_;refine M.mv rfl ?_;refine M.bo rfl ?_;refine M.pk rfl ?_;refine M.go ?_;refine M.KY ?_;refine M.rg [0,1,2,3,4] ?_;refine M.mv rfl ?_;refine M.nc rfl ?_;refine M.fa rfl ?_;refine M.Sy (ad:=⟨b,8,none⟩) (λw h=>Dl hsz (by decide) h) rfl ?_;refine SK rfl ?_;show z7 _ _ _ _ 900 _;refine M.go ?_;refine M.rg [0] ?_;refine M.lh rfl ?_;refine M.go ?_;refine M.rg [0,1,2,3,4,5] ?_;refine M.mv rfl ?_;refine M.bo rfl ?_;refine M.bo rfl ?_;refine M.mv rfl ?_;refine M.no rfl ?_;refine M.pk rfl ?_;refine M.go ?_;refine M.CA ?_;refine M.rg [0,1,2,3,4] ?_;refine M.mv rfl ?_;refine M.nc rfl ?_;refine M.fa rfl ?_;refine M.mv rfl ?_;refine WM rfl ?_;show z7 _ _ _ _ 900 _;refine M.go ?_;refine M.rg [0,1,2,3,4,5] ?_;refine M.mv rfl ?_;refine M.nc rfl ?_;refine M.fa rfl ?_;refine M.Sz (f:=65) rfl ?_;refine M.go ?_;refine M.rg [0] ?_;refine M.lh rfl ?_;refine M.go ?_;refine M.rg [0,1,2,3,4] ?_;refine M.mv rfl ?_;refine M.nc rfl ?_;refine M.fa rfl ?_;refine SL rfl ?_;show z7 _ _ _ _ 900 _;refine M.lh rfl ?_;refine M.go ?_;refine M.ret ?_;refine M.home ?_;unfold e8;rw[ct rfl];show z7 _ _ _ _ 900 (gr 35 .pR 84 _ _ _ _);refine M.bo rfl ?_;refine M.lh rfl ?_;refine M.go ?_;refine M.KY ?_;refine M.rg [0] ?_;refine Pk rfl ?_;show z7 _ _ _ _ 900 _;refine M.go ?_;refine M.rg [0,1,2] ?_;refine M.mv rfl ?_;refine M.Sy (ad:=⟨b,7,none⟩) (λw h=>Dl hsz (by decide) h) rfl ?_;refine Pl rfl ?_;refine cF ?_;exact C.OI trivial ai rfl rfl
    ·show z7 _ _ _ _ 900 _;refine M.lh rfl ?_;refine M.go ?_;refine M.ret ?_;refine M.home ?_;unfold e8;rw[ct rfl];show z7 _ _ _ _ 900 (gr 35 .pR 84 _ _ _ _);refine M.go ?_;refine M.CA ?_;refine M.Wg ?_;exact ih' _ rfl
theorem Ty(C:ab prog true B R)(hsz:F5.size=9)(ai:At R 0 As (e8 fr cs (.tuple #[]))){c:Nat}(hc:c<=4):
  MW prog ⟨b,7,8,F5,92⟩ (λa=>At R 0 As a) (.xJ c) (gr 35 .pR 84 (yp #[.pointer (some ⟨b,7,none⟩)]) [] [.code ((f35.body).getD .skip)] (fr::cs)):=by
 have M:∀ {x:MS},Mt prog true (Gs ⟨b,7,8,F5,92⟩) (z7 prog ⟨b,7,8,F5,92⟩ (λa=>At R 0 As a) x):=Mt.mw;show z7 _ _ _ _ 900 _;refine M.go ?_;refine M.KY ?_;refine M.rg [0] ?_;refine WK rfl ?_;show z7 _ _ _ _ 900 _;refine M.go ?_;refine M.lp ?_;exact LY C hsz ai c hc _ rfl
variable{σ:Gh}{m:Int}{ae aF aL dn:Value}{aj:Bool}{k:Nat}
theorem LZ(hk:k<=3):aB prog true (bT.bw σ) 96 #[.pointer (some ⟨b,7,none⟩),.int .u64 4294967296] [om b m ae aF aL dn aj ((k:Int)*KQ)] (λv As=>v=.int .u64 (((k+1:Nat):Int)*KQ)/\As=[om b m ae aF aL dn aj (((k+1:Nat):Int)*KQ)]):=by
 have hw:IntKind.u64.wrap ((k:Int)*KQ+4294967296)=((k+1:Nat):Int)*KQ:=by
  have:(2^IntKind.u64.bits:Int)=18446744073709551616:=by decide
  simp only[IntKind.wrap,KQ,this];rw[aq (by simp[IntKind.signed])];omega
 refine aB.of λR C kd d F c cs aJ ai=>?_;refine Vh ?_;refine C.aam (z':=((k+1:Nat):Int)*KQ) rfl ?_ (hz:=hw);refine bj ?_;exact C.a8 aJ ai ⟨rfl,rfl⟩
theorem Qa(hk:k<=3):aB prog true (bT.bw σ) 48 #[.pointer (some ⟨b,7,none⟩),az 1] [om b m ae aF aL dn aj ((k:Int)*KQ)] (λv As=>v=.tuple #[]/\As=[om b m ae aF aL dn aj (((k+1:Nat):Int)*KQ)]):=by
 refine aB.of λR C kd d F c cs aJ ai=>?_;refine sX ?_;refine C.v0 rfl ?_ rfl;refine da ?_;refine C.Sw rfl ?_;refine bj ?_;refine C.df rfl ?_;refine cF ?_;refine C.x0 (f:=72) (v:=.bool false) rfl rfl ?_;refine dV ?_;refine C.cv rfl ?_ (hr:=rfl);refine C.v0 rfl ?_ rfl;refine C.cE (LZ hk) ?_;refine bI ?_;have oA:k=0\/k=1\/k=2\/k=3:=ak;rcases oA with rfl|rfl|rfl|rfl
 ·refine cN ?_;refine C.v0 rfl ?_ rfl;refine C.v0 rfl ?_ rfl;refine jL ?_;refine C.v0 rfl ?_ rfl;refine C.cv rfl ?_ (hr:=rfl);refine cN ?_;refine C.v0 rfl ?_ rfl;refine C.cv rfl ?_ (hr:=rfl);refine cF ?_;refine C.v0 rfl ?_ rfl;refine cN ?_;refine C.cv rfl ?_ (hr:=rfl);refine C.v0 rfl ?_ rfl;refine dV ?_;refine C.Sy (b:=b) (off:=8) rfl ?_;refine C.xMk (mk:=.read) (a:=⟨b,8,none⟩) rfl ?_ (hm:=λH s=>⟨_,_,Has.get Has.au s⟩);refine da ?_;refine C.v0 rfl ?_ rfl;refine cN ?_;refine C.v0 rfl ?_ rfl;refine oX ?_;refine C.v0 rfl ?_ rfl;refine dm ?_;refine C.E3 ?_;refine C.aaw ?_;exact C.home (fu:=f48) func48 aJ rfl (ai _ _ ⟨rfl,rfl⟩)
 all_goals
  refine cN ?_;refine C.v0 rfl ?_ rfl;refine C.v0 rfl ?_ rfl;refine jL ?_;refine C.v0 rfl ?_ rfl;refine C.cv rfl ?_ (hr:=rfl);refine cN ?_;refine C.v0 rfl ?_ rfl;refine C.cv rfl ?_ (hr:=rfl);refine cF ?_;refine C.v0 rfl ?_ rfl;refine cN ?_;refine C.cv rfl ?_ (hr:=rfl);refine C.v0 rfl ?_ rfl;refine cF ?_;refine C.v0 rfl ?_ rfl;refine cN ?_;refine C.v0 rfl ?_ rfl;refine oX ?_;refine C.v0 rfl ?_ rfl;refine dm ?_;refine C.E3 ?_;refine C.aaw ?_;exact C.home (fu:=f48) func48 aJ rfl (ai _ _ ⟨rfl,rfl⟩)
end
section
open Go.Proofs Go.Conc
structure HV where
 h:HG
 s:cZ
 kw:Nat
 kr:Nat
structure CV where
 G:CG
 ae:List HV
 aF:List cu
 aL:List mC
 aj:Bool
abbrev tc(v:HV)(F:List HP):List HP:=bX v.h.bh (.cells #[aE v.h.bs,.chan (some v.h.wk),.chan (some v.h.rd)] 120 (0,0))::bX v.h.wk (.chan 0 #[] false v.kw v.kw false)::bX v.h.rd (.chan 0 #[] false v.kr v.kr false)::bX v.h.hb (.cells #[aE v.h.bh] 114 (0,0))::de v.h.bs v.s::F
def iH(v:HV):HP:=all (tc v [])
def CV.st(c:CV):Int:=if c.aj then 0 else(c.ae.length:Int)*KQ
abbrev Zf(c:CV)(m st:Int)(hs bg tx:ax)(F:List HP):List HP:=om c.G.b m hs.v bg.v tx.v (.chan (some c.G.dn)) c.aj st::aW eB 1 114 hs (c.ae.map (·.h.bh))::aW bQ 7 190 bg c.aF::aW rV 3 126 tx c.aL::
 all (c.ae.map iH)::bX c.G.dn (.chan 0 #[] c.aj 0 0 false)::bX c.G.cb (.cells #[aE c.G.b] 23 (0,0))::F
def rl(m:Int)(c:CV):HP:=λh=>∃ hs bg tx:ax,all (Zf c m c.st hs bg tx []) h
abbrev dK(c:CV):HP:=rl 0 c
section
variable{R:Nat->aQ->Array Obj->Prop}{d:Nat}{As F L:List HP}{g:aQ}{c:CV}
theorem dK.opn{m z:Int}(hf:Fo (rl m c) As L:=by exact Fo.au)(h:∀ hs bg tx:ax,At R d (Zf c m z hs bg tx L) g)(hz:c.st=z:=by rfl):At R d As g:=by subst hz;refine At.fo hf λH st=>?_;obtain⟨hs,st⟩:=st.ex;obtain⟨bg,st⟩:=st.ex;obtain⟨tx,st⟩:=st.ex;exact h hs bg tx H st.flat
theorem dK.cls{m:Int}{cc:Array Value}(c:CV)(h:At R d (rl m c::F) g)(hf:Fo (bX c.G.b (.cells cc 92 (0,0))) As L:=by exact Fo.au){hs bg tx:ax}(hc:cc=Tx m hs.v bg.v tx.v (.chan (some c.G.dn)) c.aj c.st:=by rfl)
  (hr:dJ [aW eB 1 114 hs (c.ae.map (·.h.bh)),aW bQ 7 190 bg c.aF,aW rV 3 126 tx c.aL,all (c.ae.map iH),bX c.G.dn (.chan 0 #[] c.aj 0 0 false),bX c.G.cb (.cells #[aE c.G.b] 23 (0,0))] L F:=by exact dJ.au):At R d As g:=by
 subst hc;refine At.perm (hf.perm.trans (hr.perm.cons _)) λH st=>h H ?_;exact Sat.imp (λhh x=>⟨hs,bg,tx,x⟩) (Sat.fR (l:=Zf c m c.st hs bg tx []) st)
end
theorem iH.cls{R:Nat->aQ->Array Obj->Prop}{d:Nat}{As F:List HP}{g:aQ}(v:HV)(h:At R d (iH v::F) g)
  (hr:dJ (tc v []) As F:=by exact dJ.au):At R d As g:=
 At.perm hr.perm λH st=>h H (Sat.fR (l:=tc v []) st)
structure RegC(σ:Gh)(c:CV):Prop where
 aU:∀ v∈c.ae,σ.aU v.h.g=some (ek v.h c.G)
 nd:(c.ae.map (·.h.g)).Nodup
 only:∀ i s,σ.aU i=some s->s.has c.G.dn->∃ v∈c.ae,v.h.g=i
 wk:∀ v∈c.ae,∀ i s,σ.aU i=some s->s.has v.h.wk->i=v.h.g
 wd:∀ v∈c.ae,v.h.wk≠c.G.dn
 sh7:σ.sh (.cell ⟨c.G.b,7,none⟩)
 sh8:σ.sh (.cell ⟨c.G.b,8,none⟩)
 n:1<=c.ae.length/\c.ae.length<=4
section
variable{σ:Gh}{b:Nat}{m:Int}{ae aF aL dn:Value}{aj:Bool}
theorem Iv:aB prog true (bT.bw σ) 35 #[.pointer (some ⟨b,7,none⟩)] [om b m ae aF aL dn aj 0] (λv As=>v=.tuple #[]/\As=[om b m ae aF aL dn aj 0]):=by
 refine aB.of λR C kd d F c cs aJ ai=>?_;refine bI ?_;have hl:aB prog true (bT.bw σ) 65 #[.pointer (some ⟨b,7,none⟩)] [om b m ae aF aL dn aj 0] (λv As=>v=.int .u64 0/\As=[om b m ae aF aL dn aj 0]):=by refine aB.of λR C kd d F c cs aJ ai=>?_;refine Ls ?_;refine C.xLd (b:=b) (off:=7) (z:=0) rfl ?_;refine bj ?_;exact C.a8 aJ ai ⟨rfl,rfl⟩
 refine da ?_;refine C.Sw rfl ?_;refine C.go ?_;refine C.lp ?_;refine cF ?_;refine C.cE hl ?_;refine sX ?_;refine C.v0 rfl ?_ rfl;refine C.cv rfl ?_ (hr:=rfl);refine cN ?_;refine C.v0 rfl ?_ rfl;refine C.cv rfl ?_ (hr:=rfl);refine cN ?_;refine C.v0 rfl ?_ rfl;refine cN ?_;refine C.Wu rfl ?_;refine da ?_;refine C.Sy (b:=b) (off:=7) rfl ?_;refine C.xMk (mk:=.acquire) (a:=⟨b,7,none⟩) rfl ?_ (hm:=λH s=>⟨_,_,Has.get Has.au s⟩);refine da ?_;refine C.v0 rfl ?_ rfl;refine bj ?_;refine C.v0 rfl ?_ rfl;refine C.v0 rfl ?_ rfl;refine dV ?_;exact C.a8 aJ ai ⟨rfl,rfl⟩
end
end
section
open Go.Proofs Go.Conc
def CV.ids(c:CV):List Nat:=c.ae.map (·.h.g)
theorem BK{σ:Gh}{c:CV}(hr:c.aj=false->RegC σ c):bD prog bT 21 #[aE c.G.b] σ [dK c] (λv σ' As=>v=.tuple #[]/\σ'=(if c.aj then σ else σ.fY c.ids)/\As=[dK {c with aj:=true}]):=by
 refine bD.of ?_;intro Post os out kd F c' cs C aJ ai;refine bI ?_;obtain⟨G,ae,aF,aL,aj⟩:=c;cases aj with
 |true=>
  refine dK.opn (z:=0) (h:=λhs bg tx=>?_);refine cF ?_;refine C.cE fi ?_;refine sY ?_;refine C.df rfl ?_;refine zb ?_;refine C.cE Iv ?_;refine k8 ?_;refine C.fnA ?_;refine aD.oF (aB.g dD) ?_;rintro v σ' aO ⟨rfl,rfl,rfl⟩;refine bI ?_;refine C.home (fu:=f21) func21 aJ rfl ?_;refine dK.cls ⟨G,ae,aF,aL,true⟩ ?_;exact ai _ _ _ ⟨rfl,rfl,rfl⟩
 |false=>
  obtain⟨r1,r2,r3,r4,r5,r6,r7,r8⟩:=hr rfl;refine dK.opn (z:=(ae.length:Int)*KQ) (h:=λhs bg tx=>?_);refine cF ?_;refine C.cE fi ?_;refine sY ?_;refine C.df rfl ?_;refine jW ?_;refine cF ?_;have vK:(⟨G.b,7,8,Tx 1 hs.v bg.v tx.v (.chan (some G.dn)) true ((ae.length:Int)*KQ),92⟩:qo).row (lX 0 0) (sJ 0)=Tx 1 hs.v bg.v tx.v (.chan (some G.dn)) true 0:=rfl;have C2:ab prog true (bT.bw (σ.fY (ae.map (·.h.g)))) (aD prog Post bT (σ.fY (ae.map (·.h.g))) 0 os out):=aD.dM;refine aD.shut (ae.map (·.h.g)) ⟨G.b,7,8,Tx 1 hs.v bg.v tx.v (.chan (some G.dn)) true ((ae.length:Int)*KQ),92⟩ G.dn 0 (λa=>At (aD prog Post bT (σ.fY (ae.map (·.h.g))) 0 os out) 0 (om G.b 1 hs.v bg.v tx.v (.chan (some G.dn)) true 0::aW eB 1 114 hs (ae.map (·.h.bh))::aW bQ 7 190 bg aF::aW rV 3 126 tx aL::
 all (ae.map iH)::bX G.dn (.chan 0 #[] true 0 0 false)::bX G.cb (.cells #[aE G.b] 23 (0,0))::F) a) rfl rfl rfl (by rw[func21];rfl) r2 (by simpa using r8.2) ?_ ?_ ⟨(show(7:Nat)≠8 by decide),by simp,by simp⟩ (by simp[lX]) rfl r6 r7 (aO:=om G.b 1 hs.v bg.v tx.v (.chan (some G.dn)) true ((ae.length:Int)*KQ)::aW eB 1 114 hs (ae.map (·.h.bh))::aW bQ 7 190 bg aF::aW rV 3 126 tx aL::
 all (ae.map iH)::bX G.dn (.chan 0 #[] true 0 0 false)::bX G.cb (.cells #[aE G.b] 23 (0,0))::F) ?_ ?_ ?_ (λa h=>h)
  ·intro i hi;obtain⟨v,hv,rfl⟩:=bL.1 hi;exact⟨_,v.h.wk,.nilFunc,.agg #[],r1 v hv,rfl,r5 v hv,9000,λr hr=>leave ⟨rfl,rfl,rfl,rfl,rfl⟩ hr⟩
  ·intro i s hi wD;obtain⟨v,hv,rfl⟩:=r3 i s hi wD;exact bL.2 ⟨v,hv,rfl⟩
  ·repeat(first|with_reducible exact qG.head|with_reducible apply qG.tail)
  ·rw[vK];exact qG.head
  ·have M:∀ {Fin:aQ->Prop} {x:MS},Mt prog true (Gs ⟨G.b,7,8,Tx 1 hs.v bg.v tx.v (.chan (some G.dn)) true ((ae.length:Int)*KQ),92⟩) (z7 prog ⟨G.b,7,8,Tx 1 hs.v bg.v tx.v (.chan (some G.dn)) true ((ae.length:Int)*KQ),92⟩ Fin x):=Mt.mw;show z7 _ _ _ _ 900 _;refine M.go ?_;refine M.rg [0,1,2,3] ?_;refine M.mv rfl ?_;refine M.nc rfl ?_;refine M.fa rfl ?_;refine M.Sz (f:=35) rfl ?_;refine Ty C2 rfl ?_ (by simpa using r8.2);unfold e8;rw[ct rfl];show At _ _ _ (gr 21 kd 25 _ _ _ _);refine C2.go ?_;refine C2.fnA ?_;refine aD.oF (aB.g dD) ?_;rintro v σ' aO ⟨rfl,rfl,rfl⟩;refine bI ?_;refine C2.home (fu:=f21) func21 aJ rfl ?_;refine dK.cls ⟨G,ae,aF,aL,true⟩ ?_;exact ai _ _ _ ⟨rfl,rfl,rfl⟩
def fB(l:List HV)(k:Int):Option HV:=if k<0 then none else l[k.toNat]?
def BL(l:List HV)(k:Int):Option Addr:=(fB l k).map λv=>⟨v.h.bs,0,none⟩
theorem js{l:List HV}{k:Int}{v:HV}(h:fB l k=some v):∃ q:Nat,k=q/\∃ hq:q<l.length,l[q]=v:=by
 unfold fB at h;split at h
 ·cases h
 ·obtain⟨hq,e⟩:=jC.1 h;exact⟨k.toNat,ak,hq,e⟩
theorem BM{l:List HV}{q:Nat}(hq:q<l.length):fB l (q:Int)=some l[q]:=by unfold fB;rw[aq ak,gy,fp hq]
variable{R:Nat->aQ->Array Obj->Prop}{d:Nat}{As F L:List HP}{g:aQ}{l:List HV}{q:Nat}
theorem kW(hi:q<l.length)(hf:Fo (all (l.map iH)) As L)(h:At R d (tc l[q] (all ((l.eraseIdx q).map iH)::L)) g):At R d As g:=
 kJ (f:=iH) hi hf λH s=>h H (Sat.flat (l:=tc l[q] []) s)
theorem Kq(hi:q<l.length)(v:HV)(hr:dJ (tc v [all ((l.eraseIdx q).map iH)]) As L)(h:At R d (all ((l.set q v).map iH)::L) g):At R d As g:=
 At.perm hr.perm λH s=>(mX (f:=iH) hi v (.cons .head (.cons .head .nil)) h) H (Sat.fR (l:=tc v []) s)
theorem fW(hi:q<l.length)(hr:dJ (tc l[q] [all ((l.eraseIdx q).map iH)]) As L)(h:At R d (all (l.map iH)::L) g):At R d As g:=Kq hi l[q] hr (by rw[l9];exact h)
variable{σ:Gh}{b:Nat}{m k:Int}{hs:ax}{aF aL dn:Value}{aj:Bool}{st:Int}
theorem lV(hl:l.length<=4):aB prog true (bT.bw σ) 126 #[aE b,az k] [om b m hs.v aF aL dn aj st,aW eB 1 114 hs (l.map (·.h.bh)),all (l.map iH)]
  (λv As=>v=.pointer (BL l k)/\As=[om b m hs.v aF aL dn aj st,aW eB 1 114 hs (l.map (·.h.bh)),all (l.map iH)]):=by
 refine aB.of λR C kd d F c cs aJ ai=>?_;refine bI ?_;have Nm:(l.map (·.h.bh)).length=l.length:=dd ..;refine dm ?_;refine C.cmp rfl (λh6=>?_) (λh6=>?_)
 ·refine oX ?_;exact C.a8 aJ ai ⟨by unfold BL fB;rw[aK ak],rfl⟩
 ·refine dm ?_;refine C.mW rfl ?_ (s:=hs) (l:=l.map (·.h.bh)) (f:=eB);refine C.cmp rfl (λoj=>?_) (λoj=>?_)
  ·refine dm ?_;exact C.a8 aJ ai ⟨by unfold BL fB;rw[aq ak,wA ak],rfl⟩
  ·refine da ?_;obtain⟨q,rfl⟩:=g7 (show 0<=k by omega);have hq:q<l.length:=ak;have wZ:(l.map (·.h.bh))[q]'(by omega)=l[q].h.bh:=by simp
   refine kW hq Fo.au ?_;refine dV ?_;refine C.dG rfl ?_ (s:=hs) (l:=l.map (·.h.bh)) (f:=eB) (j:=q) (v:=aE l[q].h.bh) (hj:=by omega) (hv:=by rw[wZ];rfl);refine cF ?_;refine fW hq dJ.au ?_;exact C.a8 aJ ai ⟨by unfold BL;rw[BM hq],rfl⟩
variable{ao:Bool}
theorem zx{V:Type}{k:Int}{v:V}:∀ {l:List (Int×V)},(bA l k v).length=if(aC l k).isSome then l.length else l.length+1
 |[]=>rfl
 |p::l=>by
  unfold bA aC;by_cases h:p.1=k
  ·simp[h]
  ·simp only[aq h,jd,zx (l:=l)];split<;>rfl
structure MK(m:List (Int×Int))(l:List cy):Prop where
 len:m.length<=l.length
 iff:m.length=l.length↔(l.map (·.k)).Nodup
 key:∀ q,(aC m q).isSome=true↔q∈l.map (·.k)
 vb:∀ q v,aC m q=some v->0<=v/\v<=l.length
theorem MK.zero:MK [] []:=⟨fI _,by simp,by simp[aC],by simp[aC]⟩
theorem MK.add{m:List (Int×Int)}{l:List cy}(h:MK m l)(o:cy):MK (bA m o.k ((aC m o.k).getD 0+1)) (l++[o]):=by
 have h1:=h.len;have h3:=h.key o.k;refine⟨?_,?_,λq=>?_,λq v hv=>?_⟩
 ·rw[zx,ji,lL];split<;>omega
 ·rw[zx,ji,lL,eI,iC];by_cases e:(aC m o.k).isSome=true
  ·rw[aK e];constructor
   ·intro h;omega
   ·rintro⟨_,_,h⟩;exact absurd rfl (h o.k (h3.1 e) o.k (by simp))
  ·rw[aq e];have h4:o.k∉l.map (·.k):=λz=>e (h3.2 z);constructor
   ·intro hl;refine⟨h.iff.1 ak,by simp,λa ha b hb z=>?_⟩;simp at hb;subst hb;subst z;exact h4 ha
   ·rintro⟨hn,_⟩;have:=h.iff.2 hn;omega
 ·rw[fF,eI,cg,iJ,ml,dN];by_cases e:q=o.k
  ·simp[e]
  ·rw[aq e];constructor
   ·intro z;exact .inl ((h.key q).1 z)
   ·rintro(z|z)
    ·exact(h.key q).2 z
    ·exact absurd z e
 ·rw[fF]at hv;rw[ji,lL];by_cases e:q=o.k
  ·rw[aK e]at hv;obtain rfl:=bY hv;cases hg:aC m o.k with
   |none=>simp only[NM];omega
   |some w=>
    have:=h.vb _ _ hg;simp only[kt];omega
  ·rw[aq e]at hv;have:=h.vb q v hv;omega
theorem F6{I:HL}{so:ax}{ops:List cy}(ho:dX I cK 67 so ops)(hl:ops.length<2^43):
  aB prog ao bG 54 #[so.v] [a9 I] (λv As=>v=.bool (decide (fb ops))/\As=[a9 I]):=by
 refine aB.of λR C kd d F c cs aJ ai=>?_;refine sY ?_;refine C.mm .u8 dS rfl (λb6=>?_);refine dV ?_;refine C.bS (X:=Nat×List (Int×Int)) (λx=>[(0,so.v),(3,.map (some b6)),(7,so.v),(8,az ops.length),(9,az x.1)]) (λx=>cW .u8 dS b6 x.2::a9 I::F) (λx=>x.1<=ops.length/\(∀ j (hj:j<ops.length),j<x.1->Aq ops[j])/\MK x.2 (ops.take x.1)) (λx=>ops.length-x.1) (0,[]) ⟨rfl,rfl,rfl,rfl,rfl,trivial⟩ ⟨eC _,by intro j _ hj;omega,MK.zero⟩ ?_;rintro⟨i,m⟩ e ⟨hi,lE,hm⟩ ih;dsimp only at hi lE hm⊢;refine bj ?_;refine C.cmp rfl (λAA=>?_) (λAA=>?_)
 ·refine bj ?_;have cG:i<ops.length:=by simpa using AA
  have hv:0<=(aC m ops[i].k).getD 0/\(aC m ops[i].k).getD 0<=(2:Int)^43:=by
   cases hg:aC m ops[i].k with
   |none=>simp
   |some w=>
    have:=hm.vb _ _ hg;rw[iz]at this;simp only[kt];have:((min i ops.length:Nat):Int)<=2^43:=ak;omega
  refine bj ?_;refine C.lZ rfl (λhj=>?_);refine C.al rfl (λb5=>?_);refine C.po rfl ?_ (hv:=λv h=>fM.one (f:=cK) ops[i] v (by simpa using h));refine cF ?_;have e16:((aC m ops[i].k).map dS).getD (az 0)=az ((aC m ops[i].k).getD 0):=by cases aC m ops[i].k<;>rfl
  refine C.Y0 (co:=false) (g:=dS) (l:=m) (q:=ops[i].k) rfl ?_;simp only[gR,eY];rw[e16];refine fy ?_;refine C.mu rfl ?_;refine cN ?_;refine C.cmp rfl (λuo=>?_) (λuo=>?_)
  ·refine jW ?_;refine cF ?_;refine C.a8 aJ ai ⟨?_,rfl⟩;rw[jD (λh=>by have:=(h.1 _ (bC cG)).1;omega)]
  ·refine da ?_;refine C.cmp rfl (λjz=>?_) (λjz=>?_)
   ·refine jW ?_;refine fy ?_;refine C.a8 aJ ai ⟨?_,rfl⟩;rw[jD (λh=>by have:=(h.1 _ (bC cG)).2.1;omega)]
   ·refine cN ?_;generalize hw:ops[i].w=z;rcases fU z with rfl|rfl
    ·refine zb ?_;have Xv:Aq ops[i]:=⟨ak,ak,.inl hw⟩;refine again ih (i+1,bA m ops[i].k ((aC m ops[i].k).getD 0+1)) ⟨cG,λj hj dI=>?_,by dsimp only;rw[fq cG];exact hm.add _⟩ (cD);rcases mO.1 dI with h|rfl
     ·exact lE j hj h
     ·exact Xv
    ·refine cN ?_;refine C.cmp rfl (λRL=>?_) (λRL=>?_)
     ·refine dV ?_;refine C.a8 aJ ai ⟨?_,rfl⟩;rw[jD (λh=>by
       rcases(h.1 _ (bC cG)).2.2 with h|h
       ·rw[hw]at h;cases h
       ·omega)]
     ·refine jL ?_;have Xv:Aq ops[i]:=⟨ak,ak,.inr ak⟩;refine again ih (i+1,bA m ops[i].k ((aC m ops[i].k).getD 0+1)) ⟨cG,λj hj dI=>?_,by dsimp only;rw[fq cG];exact hm.add _⟩ (cD);rcases mO.1 dI with h|rfl
      ·exact lE j hj h
      ·exact Xv
 ·refine bj ?_;have Lw:i=ops.length:=by have:¬ i<ops.length:=(by simpa using AA);omega
  have hm':MK m ops:=by have:=hm;rw[Lw,Jt]at this;exact this
  have je:∀ o∈ops,Aq o:=λo ho=>by obtain⟨j,hj,rfl⟩:=jO ho;exact lE j hj ak
  have aba:=hm'.iff;refine da ?_;refine C.cmp rfl (λNj=>?_) (λNj=>?_)
  ·refine da ?_;refine C.cmp rfl (λC8=>?_) (λC8=>?_)
   ·refine dm ?_;refine C.cmp rfl (λh50=>?_) (λh50=>?_)
    ·refine da ?_;refine C.a8 aJ ai ⟨?_,rfl⟩;rw[sE (show fb ops from⟨je,aba.1 ak,ak,ak⟩)]
    ·refine da ?_;refine C.a8 aJ ai ⟨?_,rfl⟩;rw[jD (λh=>by have:=aba.2 h.2.1;omega)]
   ·refine i6 ?_;refine C.a8 aJ ai ⟨?_,rfl⟩;rw[jD (λh=>by have:=h.2.2.2;omega)]
  ·refine oX ?_;refine C.a8 aJ ai ⟨?_,rfl⟩;rw[jD (λh=>by have:=h.2.2.1;omega)]
def zy(n:Nat)(t:mC)(tx:Int):cu:=⟨{bq with kind:=1,aV:= -1,to:=gf t.ops n,tx:=tx,ops:=t.ops},t.so,aG⟩
theorem L0(ops:List cy)(n:Int)(h:0<ops.length):ie ops[0].k n=gf ops n:=by
 cases ops with
 |nil=>cases h
 |cons o l=>rfl
variable{bg qu:ax}{I:HL}{hl:List Nat}{aF:List cu}{aL:List mC}{tx:Nat}
theorem w5(hn:1<=hl.length/\hl.length<=4)(nj:aF.length<2^30)(uX:tx<aL.length)(sV:dX I cK 67 aL[tx].so aL[tx].ops)(cJ:iX aL[tx].ops/\1<=aL[tx].ops.length):
  aB prog true (bT.bw σ) 56 #[.pointer (some ⟨b,0,none⟩),az tx] [om b m hs.v bg.v qu.v dn aj st,aW eB 1 114 hs hl,aW bQ 7 190 bg aF,aW rV 3 126 qu aL,a9 I]
   (λv As=>∃ F7:ax,v=.tuple #[]/\As=[om b m hs.v F7.v qu.v dn aj st,aW eB 1 114 hs hl,aW bQ 7 190 F7 (aF++[zy hl.length aL[tx] tx]),aW rV 3 126 qu aL,a9 I]):=by
 refine aB.of λR C kd d F c cs aJ ai=>?_;refine bI ?_;have Zc:0<aL[tx].ops.length:=cJ.2;have xq:=cJ.1.1 _ (bC Zc);have Qb:ie aL[tx].ops[0].k (hl.length:Int)=gf aL[tx].ops hl.length:=L0 _ _ Zc;refine oW ?_;refine C.wR (cm 13 0 22) 23 [14,17,18,19,22] 3 ?_ (W:=[om b m hs.v bg.v qu.v dn aj st,aW eB 1 114 hs hl,a9 I]);refine gY ?_;refine Eb ?_;refine Dr.chain rfl ?_ (λ_ s=>bZ.sat bZ.au s);refine Ch.m 14 (aP λe aa hk=>?_);refine C.cE (aB.less (cH σ) (vW (key:=aL[tx].ops[0].k) (n:=(hl.length:Int)) ak ak)) ?_;refine pb ?_;rw[Qb];refine hk _ _ lU ?_;refine Ch.q 17 (λh=>C.bd rfl h) ?_;refine Ch.m 18 (aP λe aa hk=>?_);refine C.n5 rfl (λb31=>hk _ _ .cons ?_);refine Ch.m 19 (aP λe aa hk=>?_);refine C.oh (zy hl.length aL[tx] tx) rfl (λs2=>?_);refine hk _ _ lU ?_;refine Ch.m 22 (aP λe aa hk=>?_);refine C.st rfl (hk _ undef ?_);refine ee ?_;exact C.cQ aJ ai ⟨s2,rfl,rfl⟩
end
section
open Go.Proofs
def L3(k:Nat):Nat:=[0,1,2,5,6,7,8,9,3].getD k 0
abbrev ig(a:Nat×Nat):Value:=.iface 339 (.pointer (some ⟨a.1,a.2,none⟩))
structure ij(I:HL)(eb:Nat->Nat×Nat):Prop where
 g:∀ k,k<9->∃ t,I (L3 k)=some (.cells #[ig (eb k)] t (0,0))
 e:∀ k,k<9->∃ c t,I (eb k).1=some (.cells c t (0,0))
 inj:∀ j k,j<9->k<9->eb j=eb k->j=k
 ty:∃ t,I 4=some (.cells #[.iface 231 (.agg #[typeHandle prog 46])] t (0,0))
theorem ij.mono{I I':HL}{eb:Nat->Nat×Nat}(h:ij I eb)(hs:Sub I I'):ij I' eb:=
 ⟨λk hk=>by obtain⟨t,ht⟩:=h.g k hk;exact⟨t,hs _ _ ht⟩,λk hk=>by obtain⟨c,t,ht⟩:=h.e k hk;exact⟨c,t,hs _ _ ht⟩,h.inj,by obtain⟨t,ht⟩:=h.ty;exact⟨t,hs _ _ ht⟩⟩
theorem aew(t:aR):Xs t 0=false:=by simp[Xs]
def Tz(eb:Nat->Nat×Nat):Option Nat->Value
 |none=>.nilIface
 |some k=>ig (eb k)
open Go.Conc
def Iw(eb:Nat->Nat×Nat)(I:HL)(n:Nat)(ops:List cy)(aF:List cu)(aL:List mC)(er:Option Nat)(t:Int)(I':HL)(gL:List cu)(gM:List mC):Prop:=
 Sub I I'/\((¬ fb ops/\er=some 1/\t=0/\gL=aF/\gM=aL)\/(fb ops/\(aL.length=60\/400<=aF.length)/\er=some 2/\t=0/\gL=aF/\gM=aL)\/
  (fb ops/\¬ (aL.length=60\/400<=aF.length)/\er=none/\t=aL.length/\∃ s7,dX I' cK 67 s7 ops/\gM=aL++[⟨⟨ops,1,[]⟩,s7,aG⟩]/\gL=aF++[zy n ⟨⟨ops,1,[]⟩,s7,aG⟩ aL.length]))
theorem gB(σ:Gh)(t:aR):(bT.bw σ).sh t 0=false:=aew t
variable{σ:Gh}{b bo bc bt:Nat}{so hs bg qu:ax}{dn:Value}{st:Int}{I J:HL}{hl:List Nat}{aF:List cu}{aL:List mC}{eb:Nat->Nat×Nat}{ops:List cy}
theorem L4(hE:ij I eb)(hn:1<=hl.length/\hl.length<=4)(nj:aF.length<2^20)(uX:aL.length<=60)(ho:dX J cK 67 so ops)(og:ops.length<2^43):
  aB prog true (bT.bw σ) 53 #[aE bo,aE bc,aE bt] [bX bo (.cells #[so.v] 36 (0,0)),bX bc (.cells #[aE b] 23 (0,0)),bX bt (.cells #[az 0] 3 (0,0)),om b 1 hs.v bg.v qu.v dn false st,aW eB 1 114 hs hl,aW bQ 7 190 bg aF,aW rV 3 126 qu aL,a9 I,a9 J]
   (λv As=>∃ (F7 Xw:ax) (er:Option Nat) (t:Int) (I':HL) (gL:List cu) (gM:List mC),v=Tz eb er/\Iw eb I hl.length ops aF aL er t I' gL gM/\As=[bX bt (.cells #[az t] 3 (0,0)),om b 1 hs.v F7.v Xw.v dn false st,aW eB 1 114 hs hl,aW bQ 7 190 F7 gL,aW rV 3 126 Xw gM,a9 I',a9 J]):=by
 refine aB.of λR C kd d F c cs aJ ai=>?_;refine bI ?_;obtain⟨t1,hg1⟩:=hE.g 1 (by decide);obtain⟨t2,Rw⟩:=hE.g 2 (by decide);refine dm ?_;refine C.cE (aB.less (cH σ) (F6 ho og)) ?_;refine bI ?_;generalize hz:decide (fb ops)=z;rcases fU z with rfl|rfl
 ·refine da ?_;have hr:fb ops:=by simpa using hz
  refine dm ?_;refine C.cmp rfl (λre=>?_) (λre=>?_)
  ·refine k7 ?_;refine C.vA Fo.au Rw (gB _ _) rfl ?_;refine bj ?_;exact C.a8 aJ ai ⟨bg,qu,some 2,0,I,aF,aL,rfl,⟨Sub.refl _,.inr (.inl ⟨hr,.inl ak,rfl,rfl,rfl,rfl⟩)⟩,rfl⟩
  ·refine dm ?_;refine C.cmp rfl (λuo=>?_) (λuo=>?_)
   ·refine cN ?_;refine C.vA Fo.au Rw (gB _ _) rfl ?_;refine bj ?_;exact C.a8 aJ ai ⟨bg,qu,some 2,0,I,aF,aL,rfl,⟨Sub.refl _,.inr (.inl ⟨hr,.inr ak,rfl,rfl,rfl,rfl⟩)⟩,rfl⟩
   ·refine k7 ?_;refine C.wR (cm 28 0 12) 13 [6,7,8,9,12] 4 ?_ (W:=[om b 1 hs.v bg.v qu.v dn false st,bX bc (.cells #[aE b] 23 (0,0)),bX bo (.cells #[so.v] 36 (0,0)),a9 I,a9 J]);refine Eb ?_;refine Dr.chain rfl ?_ (λ_ s=>bZ.sat bZ.au s);refine Ch.m 6 (aP λe aa hk=>?_);refine C.dk (aB.less (cH σ) (tV ho og)) ?_;rintro v aO ⟨s7,rfl,rfl⟩;refine bI ?_;refine hk _ _ lU ?_;refine Ch.m 7 (aP λe aa hk=>?_);refine fy ?_
    skip
    refine hk _ _ .refl ?_;refine Ch.m 8 (aP λe aa hk=>?_);refine C.n5 rfl (λb36=>hk _ _ .cons ?_);refine Ch.m 9 (aP λe aa hk=>?_);refine C.oh (mC.mk ⟨ops,1,[]⟩ s7 aG) rfl (λs8=>?_);refine hk _ _ lU ?_;refine Ch.m 12 (aP λe aa hk=>?_);refine C.st rfl (hk _ undef ?_);refine ee ?_;refine At.JS (I:=I) (s:=s7) (f:=cK) Fo.au Fo.au λI1 fD Vo=>?_;have Qc:iX ops:=⟨λo ho=>⟨(hr.1 o ho).1,(hr.1 o ho).2.1⟩,by have:=hr.2.2.2;omega⟩;have rL:=w5 (σ:=σ) (b:=b) (m:=1) (hs:=hs) (bg:=bg) (qu:=s8) (dn:=dn) (aj:=false) (st:=st) (I:=I1) (hl:=hl) (aF:=aF) (aL:=aL++[mC.mk ⟨ops,1,[]⟩ s7 aG]) (tx:=aL.length) hn ak (by simp) (by simp only[Jx (fI _),AW];exact Vo) (by simp only[Jx (fI _),AW];exact⟨Qc,hr.2.2.1⟩);have Xx:(aL++[mC.mk ⟨ops,1,[]⟩ s7 aG])[aL.length]'(by simp)=mC.mk ⟨ops,1,[]⟩ s7 aG:=by simp
    simp only[Xx]at rL;refine da ?_;refine C.dk rL ?_;rintro v aO ⟨F7,rfl,rfl⟩;refine sX ?_;exact C.a8 aJ ai ⟨F7,s8,none,aL.length,I1,_,_,rfl,⟨fD,.inr (.inr ⟨hr,ak,rfl,rfl,s7,Vo,rfl,rfl⟩)⟩,rfl⟩
 ·refine cN ?_;refine C.vA Fo.au hg1 (gB _ _) rfl ?_;refine bj ?_;exact C.a8 aJ ai ⟨bg,qu,some 1,0,I,aF,aL,rfl,⟨Sub.refl _,.inl ⟨by simpa using hz,rfl,rfl,rfl,rfl⟩⟩,rfl⟩
def Qd(eb:Nat->Nat×Nat)(name:Value)(at_:Int):Option Nat->Value->List HP->Prop
 |none,v,L=>v=.nilIface/\L=[]
 |some k,v,L=>∃ bE,v=.iface 128 (aE bE)/\L=[bX bE (.cells #[name,az at_,ig (eb k)] 132 (0,0))]
theorem dJ.app{F:List HP}:∀ A:List HP,dJ A (A++F) F
 |[]=>.nil
 |a::A=>.cons .head (dJ.app A)
theorem BN{σ:Gh}{c:CV}{f:bM}{fu:Func}{code:Code}{nf:Nat}[bd:Body prog f fu code nf]{caps:Array Value}{I:HL}{eb:Nat->Nat×Nat}{nm:ByteArray}{at_:Int}{A:List HP}{Q:Option Nat->Gh->CV->HL->List HP->Prop}(hE:ij I eb)
  (hf:c.aj=false->bD prog bT f (#[]++([]:List Value).toArray++caps) σ (rl 1 c::a9 I::A) (λv σ' As=>∃ er c' I' A',v=Tz eb er/\(∀ k,er=some k->k<9)/\As=rl 1 c'::a9 I'::A'/\c'.G.b=c.G.b/\Q er σ' c' I' A')):
  bD prog bT 52 #[aE c.G.b,.string nm,az at_,.func (.func f) #[] caps] σ (dK c::a9 I::A)
   (λv σ' As=>∃ er c' I' A' L,Qd eb (.string nm) at_ er v L/\As=dK c'::a9 I'::(L++A')/\((c.aj=true/\er=some 8/\σ'=σ/\c'=c/\I'=I/\A'=A)\/(c.aj=false/\Q er σ' c' I' A'))):=by
 refine bD.of ?_;intro Post os out kd F c' cs C aJ ai;refine bI ?_;obtain⟨t8,hg8⟩:=hE.g 8 (by decide);obtain⟨G,ae,aF,aL,aj⟩:=c;refine dK.opn (h:=λhs bg tx=>?_);refine jL ?_;refine C.cE fi ?_;refine sY ?_;refine C.df rfl ?_;refine bj ?_;refine C.vA (v:=ig (eb 8)) Fo.au hg8 (gB _ _) rfl ?_;refine ky ?_;cases aj with
 |true=>
  refine da ?_;refine C.SH underlying46 rfl ?_;refine dV ?_;refine C.bx rfl (λbE=>?_);refine da ?_;refine C.E3 ?_;refine aD.oF (aB.g dD) ?_;rintro v σ' aO ⟨rfl,rfl,rfl⟩;refine bI ?_;refine C.home (fu:=f52) func52 aJ rfl ?_;refine dK.cls (m:=0) ⟨G,ae,aF,aL,true⟩ ?_;refine At.jR ?_ (ai _ _ _ ⟨some 8,⟨G,ae,aF,aL,true⟩,I,A,[bX bE (.cells #[.string nm,az at_,ig (eb 8)] 132 (0,0))],⟨bE,rfl,rfl⟩,rfl,.inl ⟨rfl,rfl,rfl,rfl,rfl,rfl⟩⟩);exact bZ.au
 |false=>
  refine da ?_;refine dK.cls (m:=1) ⟨G,ae,aF,aL,false⟩ ?_;refine aD.cl (hf rfl) ?_ (hr:=.cons .head (.cons .head (dJ.app A)));rintro v σ' aO ⟨er,c2,I2,A2,rfl,hk,rfl,hb,hQ⟩;have C:ab prog true (bT.bw σ') (aD prog Post bT σ' 0 os out):=aD.dM;refine sX ?_;refine dK.opn (m:=1) (c:=c2) (h:=λsK bg2 tx2=>?_);rw[<- hb];cases er with
  |none=>
   refine C.WA underlying46 rfl ?_;refine cF ?_;refine C.E3 ?_;refine aD.oF (aB.g dD) ?_;rintro v σ2 aO ⟨rfl,rfl,rfl⟩;refine bI ?_;refine C.home (fu:=f52) func52 aJ rfl ?_;refine dK.cls (m:=0) c2 ?_;refine At.jR ?_ (ai _ _ _ ⟨none,c2,I2,A2,[],⟨rfl,rfl⟩,rfl,.inr ⟨rfl,hQ⟩⟩);exact bZ.au
  |some k=>
   refine C.SH underlying46 rfl ?_;refine dV ?_;refine C.bx rfl (λbE=>?_);refine da ?_;refine C.E3 ?_;refine aD.oF (aB.g dD) ?_;rintro v σ2 aO ⟨rfl,rfl,rfl⟩;refine bI ?_;refine C.home (fu:=f52) func52 aJ rfl ?_;refine dK.cls (m:=0) c2 ?_;refine At.jR ?_ (ai _ _ _ ⟨some k,c2,I2,A2,[bX bE (.cells #[.string nm,az at_,ig (eb k)] 132 (0,0))],⟨bE,rfl,rfl⟩,rfl,.inr ⟨rfl,hQ⟩⟩);exact bZ.au
end
end Go.Sl
