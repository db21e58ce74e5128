/-
  Texts that the proof needs, joined: part 5.
-/
import Derived.Test.YtjomdboiibakiaaGreatDoorCmD
import Derived.KernelRfl
set_option linter.unusedSimpArgs false
set_option linter.unusedVariables false
set_option maxHeartbeats 4000000
namespace Go.Sl
open Go.Proofs.Tryz
section
open Go.Proofs
variable{ak:Bool}
abbrev qy(m:cm):Value:=.agg #[aI m.kind,aI m.aU,aI m.to,aI m.tx,.bool m.yes,m.so.v,m.sr.v]
theorem fY{b:Nat}{s:dE}{m:cm}(hl:s.out.length<2^34):aD prog ak bQ 179 #[aF b,qy m] [cU b s]
  (λv As=>As=[cU b {s with out:=s.out++[{m with aU:=s.me}]}]):=by
 refine aD.of λR C kd d F c cs aJ aj=>?_;refine bM ?_;refine cU.opn (h:=λlg wt ot tm bv bl bp bd be bu tl ht=>?_);refine bJ ?_;refine C.bx rfl (λb3=>?_);refine kL ?_;refine C.dx (cG 9 0 10) 11 [6,7,10] 1 ?_;refine Lq ?_;refine Ch.m 6 (aW λe aa hk=>?_);refine C.nj rfl (λZJ=>hk _ _ .cons ?_);refine Ch.m 7 (aW λe aa hk=>?_);refine C.nM {m with aU:=s.me} rfl (λs'=>?_);refine hk _ _ ?_;refine Ch.m 10 (aW λe aa hk=>?_);refine C.st rfl (hk _ undef ?_);refine eQ ?_;refine cU.cls {s with out:=s.out++[{m with aU:=s.me}]} ?_;exact C.cX aJ aj rfl
theorem iG{b:Nat}{s:dE}{m:cm}(hl:s.waits.length<2^34):aD prog ak bQ 201 #[aF b,qy m] [cU b s]
  (λv As=>As=[cU b {s with waits:=s.waits++[{m with aU:=s.me}]}]):=by
 refine aD.of λR C kd d F c cs aJ aj=>?_;refine bM ?_;refine cU.opn (h:=λlg wt ot tm bv bl bp bd be bu tl ht=>?_);refine bJ ?_;refine C.bx rfl (λb3=>?_);refine kL ?_;refine C.dx (cG 9 0 12) 13 [7,8,12] 1 ?_;refine JI ?_;refine Ch.m 7 (aW λe aa hk=>?_);refine C.nj rfl (λuR=>hk _ _ .cons ?_);refine Ch.m 8 (aW λe aa hk=>?_);refine C.nM {m with aU:=s.me} rfl (λs'=>?_);refine hk _ _ ?_;refine Ch.m 12 (aW λe aa hk=>?_);refine C.st rfl (hk _ undef ?_);refine eQ ?_;refine cU.cls {s with waits:=s.waits++[{m with aU:=s.me}]} ?_;exact C.cX aJ aj rfl
theorem nq{b:Nat}{s:dE}{en:jg}(hl:s.log.length<2^34):aD prog ak bQ 200 #[aF b,en.val] [cU b s]
  (λv As=>v=aI s.log.length/\As=[cU b {s with log:=s.log++[en]}]):=by
 refine aD.of λR C kd d F c cs aJ aj=>?_;refine bM ?_;refine cU.opn (h:=λlg wt ot tm bv bl bp bd be bu tl ht=>?_);refine m4 ?_;refine C.nj rfl (λSZ=>?_);refine C.nM en rfl (λs'=>?_);refine kL ?_;refine C.m3 rfl ?_ (s:=s') (l:=s.log++[en]);refine C.ar rfl ?_ (r:=s.log.length) (ha:=congrArg some (by simp)) (hr:=xp az az);refine bJ ?_;refine cU.cls {s with log:=s.log++[en]} ?_;exact C.bk aJ aj ⟨rfl,rfl⟩
theorem GK{b:Nat}{s:dE}:aD prog ak bQ 100 #[aF b] [cU b s]
  (λv As=>∃ so:ay,v=so.v/\As=[a9 bN 7 190 so s.out,cU b {s with out:=[]}]):=by
 refine aD.of λR C kd d F c cs aJ aj=>?_;refine bM ?_;refine cU.opn (h:=λlg wt ot tm bv bl bp bd be bu tl ht=>?_);refine jr ?_;refine dH ?_;refine At.aG bN 7 190 ?_;refine cU.cls {s with out:=[]} ?_ (ot:=aG);exact C.bk aJ aj ⟨ot,rfl,rfl⟩
abbrev Lr:=List cr×ay
def UB(v:Lr):Value:=v.2.v
abbrev NP(p:Int×Lr):HP:=a9 cF 3 67 p.2.2 p.2.1
def vP(m:List (Int×Lr)):List (Int×List cr):=m.map λp=>(p.1,p.2.1)
def oT(m:List (Int×Lr))(k:Int):Lr:=(aB m k).getD ([],aG)
theorem NQ(m:List (Int×Lr))(k:Int):((aB m k).map UB).getD (.slice none 0 0)=(oT m k).2.v:=by unfold oT;cases aB m k<;>rfl
theorem Ew(m:List (Int×Lr))(k:Int):(oT m k).1=(aB (vP m) k).getD []:=by unfold oT vP;rw[ug (w:=λv:Lr=>v.1)];cases aB m k<;>rfl
variable{R:Nat->aP->Array Obj->Prop}{d:Nat}{As L L2:List HP}{g:aP}{m:List (Int×Lr)}{k:Int}
theorem At.abd(hf:Fo (all (m.map NP)) As L)(h:At R d (a9 cF 3 67 (oT m k).2 (oT m k).1::all ((ee m k).map NP)::L) g):At R d As g:=by
 unfold oT at h;cases hg:aB m k with
 |none=>
  rw[hg,Ao hg]at h;refine At.aG cF 3 67 (At.perm ?_ h);exact hf.perm.cons _
 |some v=>
  rw[hg]at h;exact An hg hf h
theorem At.abe{I:HL}(hf:Fo (all (m.map NP)) As L)(hi:Fo (a7 I) L L2)(h:∀ I',Sub I I'->(∀ p∈m,dS I' cF 67 p.2.2 p.2.1)->At R d (a7 I'::L2) g):At R d As g:=by
 induction m generalizing I As L with
 |nil=>
  refine At.fo hf λH s=>?_;exact(At.fo hi (h I (Sub.refl _) (by simp))) H s.drop
 |cons p m ih=>
  refine At.fo hf λH s=>?_;refine(show At R d (NP p::all (m.map NP)::a7 I::L2) g from ?_) H (Sat.under (λ_ s=>Sat.under (λ_ s=>s.perm hi.perm) s.fS) (Sat.flat (l:=NP p::m.map NP) s));refine At.Gk (I:=I) (s:=p.2.2) (f:=cF) .head (.tail .head) λI1 h1 hs=>?_;refine ih (I:=I1) (As:=a7 I1::all (m.map NP)::L2) (L:=a7 I1::L2) (.tail .head) .head λI2 h2 hm=>?_;refine h I2 (h1.trans h2) λq hq=>?_;rcases ga.1 hq with rfl|hq
  ·exact hs.mono h2
  ·exact hm q hq
theorem Ex(l:List cr)(o:cr)(n:Int):dg (l++[o]) n=bA (dg l n) (gU o.k n) ((aB (dg l n) (gU o.k n)).getD []++[o]):=by simp[dg]
theorem mR{I:HL}{so:ay}{ops:List cr}{n:Int}(ho:dS I cF 67 so ops)(hb:jf ops)(hn:1<=n):
  aD prog ak bQ 202 #[so.v,aI n] [a7 I] (λv As=>∃ b I' m,v=.map (some b)/\Sub I I'/\vP m=dg ops n/\(∀ p∈m,dS I' cF 67 p.2.2 p.2.1)/\As=[dp .i64 UB b m,a7 I']):=by
 have hl:ops.length<2^20:=hb.2;refine aD.of λR C kd d F c cs aJ aj=>?_;refine ve ?_;refine C.mm .i64 UB rfl (λb9=>?_);refine dV ?_;refine At.zr (show At R d (all (([]:List (Int×Lr)).map NP)::_) _ from ?_);refine C.cx (X:=Nat×List (Int×Lr)) (λx=>[(1,aI n),(5,.map (some b9)),(10,so.v),(11,aI ops.length),(12,aI x.1)]) (λx=>all (x.2.map NP)::dp .i64 UB b9 x.2::a7 I::F) (λx=>x.1<=ops.length/\vP x.2=dg (ops.take x.1) n/\∀ p∈x.2,p.2.1.length<=x.1) (λx=>ops.length-x.1) (0,[]) ⟨rfl,rfl,rfl,rfl,rfl,trivial⟩ ⟨eK _,rfl,by simp⟩ ?_;rintro⟨i,m⟩ e ⟨hi,hm,hlen⟩ ih;dsimp only at hi hm hlen⊢;refine bJ ?_;refine C.cmp rfl (λqz=>?_) (λqz=>?_)
 ·refine bJ ?_;have cN:i<ops.length:=by simpa using qz
  have wq:=hb.1 _ (br cN);refine bJ ?_;refine C.mE rfl (λhj=>?_);refine C.al rfl (λb7=>?_);refine C.pd rfl ?_ (hv:=λv h=>fC.one (f:=cF) ops[i] v (by simpa using h));refine dD ?_;refine C.cE (vh (key:=ops[i].k) (n:=n) wq hn) ?_;refine zB ?_;refine bJ ?_;have wh:(oT m (gU ops[i].k n)).1.length<=i:=by
   unfold oT;cases hg:aB m (gU ops[i].k n)with
   |none=>exact eK _
   |some v=>exact hlen _ (bT hg)
  refine At.abd (m:=m) (k:=gU ops[i].k n) Fo.au ?_;refine dD ?_;refine C.Wb (co:=false) (g:=UB) (l:=m) (q:=gU ops[i].k n) rfl ?_;simp only[ij,fB];rw[NQ];refine C.V9 rfl ?_ (hz:=vW rfl) (hc:=rfl);refine C.nj rfl (λb26=>?_);refine C.nM (s:=(oT m (gU ops[i].k n)).2) (l:=(oT m (gU ops[i].k n)).1) ops[i] rfl (λs2=>?_);refine C.mu (w:=((oT m (gU ops[i].k n)).1++[ops[i]],s2)) (l:=m) (q:=gU ops[i].k n) rfl ?_;refine dD ?_;refine DR (f:=NP) (m:=m) (k:=gU ops[i].k n) ((oT m (gU ops[i].k n)).1++[ops[i]],s2) dB.au ?_;refine again ih (i+1,bA m (gU ops[i].k n) ((oT m (gU ops[i].k n)).1++[ops[i]],s2)) ⟨cN,?_,λp hp=>?_⟩ (dI)
  ·rw[gQ cN,Ex,<- hm,<- Ew];exact kj (λv:Lr=>v.1) m
  ·rcases dY hp with rfl|h
   ·simp;omega
   ·have:=hlen p h;dsimp only at this⊢;omega
 ·refine bJ ?_;have e1:ops.take i=ops:=iq (by simp at qz;omega);rw[e1]at hm;refine At.abe (I:=I) (m:=m) Fo.au Fo.au λI' rC hs=>?_;refine cW ?_;exact C.bk aJ aj ⟨b9,I',m,rfl,rC,hm,hs,rfl⟩
theorem dB.skip{A:HP}{Bs As F:List HP}(r:dB Bs As F):dB Bs (A::As) (A::F):=by
 induction r with
 |nil=>exact .nil
 |cons f _ ih=>exact .cons (.tail f) ih
theorem dB.X7{F:List HP}:∀ A:List HP,dB A (A++F) F
 |[]=>.nil
 |a::A=>.cons .head (dB.X7 A)
theorem Fo.app{A:HP}{F:List HP}:∀ E:List HP,Fo A (E++A::F) (E++F)
 |[]=>.head
 |_::E=>.tail (Fo.app E)
theorem oB{f:bI}{fu:Func}{cd:Code}{nf:Nat}[bd:Body prog f fu cd nf]{a1 a2:Array Value}{b:Nat}{s:dE}{I:HL}{so:ay}{ops:List cr}{E:List HP}{inv:Nat->dE->HL->Prop}{S0:dT->Int->List cr->dT}
  (ho:dS I cF 67 so ops) (hb:jf ops) (hn:1<=s.n/\s.n<=4) (h0:∀ I',Sub I I'->inv 0 s I') (hk:∀ k x I',inv k x I'->inv (k+1) x I')
  (hf:∀ (k:Nat) x I' sp part,Sub I I'->(k:Int)<s.n->inv k x I'->dS I' cF 67 sp part->part≠[]->part=(aB (dg ops s.n) k).getD []->aD prog ak bQ f (a1++[aI k,sp.v].toArray++a2) (cU b x::a7 I'::E)
   (λv As=>∃ x' Pm,Sub I' Pm/\inv (k+1) x' Pm/\x'.abs=S0 x.abs k part/\As=cU b x'::a7 Pm::E)):
  aD prog ak bQ 197 #[aF b,so.v,.func (.func f) a1 a2] (cU b s::a7 I::E)
   (λv As=>∃ x' I',Sub I I'/\inv s.n.toNat x' I'/\x'.abs=qg s.abs ops S0/\As=cU b x'::a7 I'::E):=by
 refine aD.of λR C kd d F c cs aJ aj=>?_;refine bM ?_;refine cU.opn (h:=λlg wt ot tm bv bl bp bd be bu tl ht=>?_);refine dV ?_;refine C.dv (mR ho hb hn.1) ?_;rintro v aN ⟨bm,I1,m,rfl,fp,hm,hs,rfl⟩;refine Ul ?_;refine cU.cls s ?_;refine C.cx (X:=Nat×dE×HL) (λx=>[(0,aF b),(2,.func (.func f) a1 a2),(6,.map (some bm)),(18,aI s.n),(19,aI x.1)]) (λx=>cU b x.2.1::a7 x.2.2::dp .i64 UB bm m::(E++F))
  (λx=>(x.1:Int)<=s.n/\Sub I1 x.2.2/\inv x.1 x.2.1 x.2.2/\x.2.1.abs=((upto s.n).take x.1).foldl (λz k=>if((aB (dg ops s.n) k).getD []).isEmpty then z else S0 z k ((aB (dg ops s.n) k).getD [])) s.abs) (λx=>(s.n-x.1).toNat) (0,s,I1) ⟨rfl,rfl,rfl,rfl,rfl,trivial⟩ ⟨dI,Sub.refl _,h0 I1 fp,rfl⟩ ?_
 rintro⟨k,x,I2⟩ e ⟨CD,jO,hinv,fZ⟩ ih;dsimp only at CD jO hinv fZ⊢;refine bJ ?_;refine C.cmp rfl (λtu=>?_) (λtu=>?_)
 ·refine bJ ?_;have NR:(k:Int)<s.n:=tu;have ZK:(oT m k).1=(aB (dg ops s.n) k).getD []:=by rw[Ew,hm]
  have hps:dS I2 cF 67 (oT m k).2 (oT m k).1:=by
   unfold oT;cases hg:aB m k with
   |none=>exact .nil ..
   |some v=>exact(hs _ (bT hg)).mono jO
  generalize hpe:oT m k=pt at ZK hps;refine dV ?_;refine C.Wb (co:=false) (g:=UB) (l:=m) (q:=(k:Int)) rfl ?_;simp only[ij,fB];rw[NQ,hpe];refine cW ?_;refine C.m3 rfl ?_ (s:=pt.2) (l:=pt.1) (f:=cF);refine C.cmp rfl (λts=>?_) (λts=>?_)
  ·refine dH ?_;refine C.SC (hf k x I2 pt.2 pt.1 (fp.trans jO) NR hinv hps (by intro h;rw[h]at ts;simp at ts) ZK) ?_ (hr:=.cons .head (.cons .head (dB.skip (dB.X7 E))));rintro v aN ⟨x',I3,Wm,X8,ku,rfl⟩;refine ve ?_;refine again ih (k+1,x',I3) ⟨dI,jO.trans Wm,X8,?_⟩ (dI) (hr:=.cons .head (.cons .head (.cons (Fo.app E) .refl)));rw[cQ NR,gm,<- fZ,kM,rH,<- ZK,ao (by intro h;rw[rI]at h;rw[h]at ts;simp at ts),ku]
  ·refine dH ?_;refine again ih (k+1,x,I2) ⟨dI,jO,hk _ _ _ hinv,?_⟩ (dI);rw[cQ NR,gm,<- fZ,kM,rH,<- ZK,aK (by rw[rI];exact L0 az)]
 ·refine bJ ?_;have NR:¬ (k:Int)<s.n:=tu;rw[oA NR]at fZ;have XT:s.n.toNat=k:=az;exact C.cX (aN:=cU b x::a7 I2::E) aJ aj ⟨x,I2,fp.trans jO,by rw[XT];exact hinv,fZ,rfl⟩
theorem yo{tm:ay}{l:List kh}:aD prog ak bQ 253 #[tm.v] [a9 sT 4 263 tm l] (λv As=>v=aI l.length/\As=[a9 sT 4 263 tm l]):=by refine aD.of λR C kd d F c cs aJ aj=>?_;refine Ul ?_;exact C.bk aJ aj ⟨rfl,rfl⟩
theorem qA{tm:ay}{l:List kh}{i j:Nat}(hi:i<l.length)(hj:j<l.length):aD prog ak bQ 254 #[tm.v,aI i,aI j] [a9 sT 4 263 tm l] (λv As=>∃ z,v=.bool z/\(z=true↔lK (gA l i) (gA l j))/\As=[a9 sT 4 263 tm l]):=by
 refine aD.of λR C kd d F c cs aJ aj=>?_;refine bM ?_;simp only[jN hi,jN hj]at aj;refine cW ?_;by_cases wv:l[i].tm≠l[j].tm
 ·refine C.dx (cG 7 0 11) 11 [] 0 ?_;refine gg ?_;refine Dr.p (λh=>C.fe rfl h (hf:=wv)) ?_;refine Dr.chain rfl ?_;refine ru ?_;by_cases X9:l[i].tm<l[j].tm
  ·refine C.dx (cG 18 0 11++[(6,11)]) 12 [] 0 ?_;refine gg ?_;refine Dr.p (λh=>C.fe rfl h (hf:=X9)) ?_;refine xY ?_;refine eQ ?_;exact C.bk aJ aj ⟨true,rfl,⟨λ_=>.inl X9,λ_=>rfl⟩,rfl⟩
  ·refine C.dx (cG 18 0 11++[(6,11)]) 12 [] 0 ?_;refine gg ?_;refine Dr.p (λh=>C.dP rfl h (hf:=X9)) ?_;refine xY ?_;refine eQ ?_;exact C.bk aJ aj ⟨false,rfl,⟨nofun,λh=>by rcases h with h|h<;>omega⟩,rfl⟩
 ·refine C.dx (cG 7 0 11) 11 [] 0 ?_;refine gg ?_;refine Dr.p (λh=>C.dP rfl h (hf:=wv)) ?_;refine Dr.chain rfl ?_;refine ru ?_;by_cases Ls:l[i].ord<l[j].ord
  ·refine C.dx (cG 29 0 11++[(6,11)]) 12 [] 0 ?_;refine gg ?_;refine Dr.p (λh=>C.fe rfl h (hf:=Ls)) ?_;refine xY ?_;refine eQ ?_;exact C.bk aJ aj ⟨true,rfl,⟨λ_=>.inr ⟨az,Ls⟩,λ_=>rfl⟩,rfl⟩
  ·refine C.dx (cG 29 0 11++[(6,11)]) 12 [] 0 ?_;refine gg ?_;refine Dr.p (λh=>C.dP rfl h (hf:=Ls)) ?_;refine xY ?_;refine eQ ?_;exact C.bk aJ aj ⟨false,rfl,⟨nofun,λh=>by rcases h with h|h<;>omega⟩,rfl⟩
theorem qB{tm:ay}{l:List kh}{i j:Nat}(hi:i<l.length)(hj:j<l.length):aD prog ak bQ 255 #[tm.v,aI i,aI j] [a9 sT 4 263 tm l] (λv As=>As=[a9 sT 4 263 tm (BB l i j)]):=by refine aD.of λR C kd d F c cs aJ aj=>?_;refine bM ?_;simp only[BB,jN hi,jN hj]at aj;refine C.go ?_;refine C.dx (cG 6 0 13++[(19,14)]) 16 [13,14,15] 0 ?_;refine lZ ?_;refine Dr.l (λhE h=>C.Dv hj rfl h (s:=tm) (f:=sT)) ?_;refine CH ?_;refine Dr.l (λhE h=>C.Dv hi rfl h (s:=tm) (f:=sT)) ?_;refine xY ?_;refine Ch.m 13 (aW λe aa hk=>?_);refine C.Gm l[j] rfl (hk _ undef ?_) (j:=i);refine Ch.m 14 (aW λe aa hk=>?_);refine C.kJ rfl (hk _ _ ?_) (hj:=by rw[fM];exact hj);refine Ch.m 15 (aW λe aa hk=>?_);refine C.Gm l[i] rfl (hk _ undef ?_) (j:=j) (hj:=by rw[fM];exact hj);refine eQ ?_;exact C.cX aJ aj rfl
theorem Ey{tm:ay}{l:List kh}{a:kh}{b off:Nat}{c:Array Value}(hc:c[off]? =some tm.v)(hl:l.length<2^34):aD prog ak bQ 275 #[.pointer (some ⟨b,off,none⟩),.iface 263 (.agg (sT a).toArray)] [bR b (.cells c 180 (0,0)),a9 sT 4 263 tm l]
  (λv As=>∃ y5:ay,As=[bR b (.cells (c.setIfInBounds off y5.v) 180 (0,0)),a9 sT 4 263 y5 (l++[a])]):=by
 refine aD.of λR C kd d F cc cs aJ aj=>?_;refine bM ?_;have hsz:off<c.size:=(gJ.1 hc).1;refine C.go ?_;refine C.dx (cG 4 0 9) 10 [6,7,9] 1 ?_;refine CH ?_;refine Dr.l (λhE h=>C.ld rfl h (hc:=hc)) ?_;refine lS ?_;refine Dr.p (λh=>C.ta (ok:=false) underlying263 rfl rfl h) ?_;refine xY ?_;refine Ch.m 6 (aW λe aa hk=>?_);refine C.nj rfl (λUC=>hk _ _ .cons ?_);refine Ch.m 7 (aW λe aa hk=>?_);refine C.nM a rfl (λs'=>?_);refine hk _ _ ?_;refine Ch.m 9 (aW λe aa hk=>?_);refine C.st rfl (hk _ undef ?_) (hz:=hsz);refine eQ ?_;exact C.cX aJ aj ⟨s',rfl⟩
theorem GL{tm:ay}{l:List kh}{b off:Nat}{c:Array Value}(hc:c[off]? =some tm.v)(hl:0<l.length)(XZ:l.length<2^34):aD prog ak bQ 274 #[.pointer (some ⟨b,off,none⟩)] [bR b (.cells c 180 (0,0)),a9 sT 4 263 tm l]
  (λv As=>∃ y5:ay,v=.iface 263 (.agg (sT (gA l (l.length-1))).toArray)/\As=[bR b (.cells (c.setIfInBounds off y5.v) 180 (0,0)),a9 sT 4 263 y5 (l.take (l.length-1))]):=by
 refine aD.of λR C kd d F cc cs aJ aj=>?_;refine bM ?_;have hsz:off<c.size:=(gJ.1 hc).1;have dA:l.length-1<l.length:=az;rw[jN dA]at aj;refine At.xr (A:=a9 sT 4 263 tm l) Fo.au (λh x=>qd hl h x) λhk=>?_;obtain⟨Ya,ht2,ht3⟩:=hk;refine dV ?_;refine C.ld rfl ?_ (hc:=hc);refine dH ?_;refine C.ar rfl ?_ (r:=((l.length-1:Nat):Int)) (ha:=congrArg some az);refine fI ?_;refine C.Dv dA rfl ?_ (s:=tm) (f:=sT);refine C.al rfl (λb4=>?_);refine C.pd rfl ?_ (hv:=λv h=>fC.one (f:=sT) l[l.length-1] v (by simpa using h));refine dH ?_;refine C.ar rfl ?_ (r:=((l.length-1:Nat):Int)) (ha:=congrArg some az);refine C.TW rfl ?_ (hi:=((l.length-1:Nat):Int)) (hh:=by constructor<;>omega);rw[g5];refine fI ?_;refine C.st rfl ?_ (hz:=hsz);refine bJ ?_;refine C.V9 rfl ?_ (hz:=vW rfl) (hc:=rfl);refine dN ?_;refine At.turn (A:=a9 sT 4 263 tm l) Fo.au (BE (n:=l.length-1) az) ?_;exact C.bk aJ aj ⟨⟨tm.a,l.length-1,tm.cap⟩,rfl,rfl⟩
set_option maxRecDepth 100000 in
theorem JY:∃ q,prog.types.size+Made.depth=q+1:=⟨prog.types.size+99,by unfold Made.depth;omega⟩
variable{tm:ay}{b off:Nat}{c:Array Value}
def QQ(name:String)(f:bI)(tm:ay)(b off:Nat)(As:List HP):Prop:=∀ H d (Q:bI×Value->Array Obj->Nat->Prop),Sat As (hp H)->Q (f,tm.v) H d->di prog bQ (method (prog.types.size+Made.depth) 265 (.pointer (some ⟨b,off,none⟩)) name) H d Q
set_option maxRecDepth 100000 in
theorem NS{name:String}{f:bI}{m:Go.Method}(hf:t265.methods.find? (·.name==name)=some m)(XQ:m.path=#[])(hfu:m.func=some (f,false))(hc:c[off]? =some tm.v)(hh:Fo (bR b (.cells c 180 (0,0))) As L):QQ name f tm b off As:=λH d Q s q=>by obtain⟨q0,Zl⟩:=JY;rw[Zl];exact JE (ax type265) hf XQ hfu underlying265 ((s.perm hh.perm).get) hc rfl q
set_option maxRecDepth 100000 in
theorem S1(hc:c[off]? =some tm.v)(hh:Fo (bR b (.cells c 180 (0,0))) As L):QQ "Len" 253 tm b off As:=NS (m:=(t265.methods.find? (·.name== "Len")).getD default) (by kernel_rfl) (by kernel_rfl) (by kernel_rfl) hc hh
set_option maxRecDepth 100000 in
theorem GM(hc:c[off]? =some tm.v)(hh:Fo (bR b (.cells c 180 (0,0))) As L):QQ "Less" 254 tm b off As:=NS (m:=(t265.methods.find? (·.name== "Less")).getD default) (by kernel_rfl) (by kernel_rfl) (by kernel_rfl) hc hh
set_option maxRecDepth 100000 in
theorem GN(hc:c[off]? =some tm.v)(hh:Fo (bR b (.cells c 180 (0,0))) As L):QQ "Swap" 255 tm b off As:=NS (m:=(t265.methods.find? (·.name== "Swap")).getD default) (by kernel_rfl) (by kernel_rfl) (by kernel_rfl) hc hh
set_option maxRecDepth 100000 in
theorem UD:fD prog (method (prog.types.size+Made.depth) 265 (.pointer (some ⟨b,off,none⟩)) "Push")=some (275,.pointer (some ⟨b,off,none⟩)):=by kernel_rfl
set_option maxRecDepth 100000 in
theorem Yb:fD prog (method (prog.types.size+Made.depth) 265 (.pointer (some ⟨b,off,none⟩)) "Pop")=some (274,.pointer (some ⟨b,off,none⟩)):=by kernel_rfl
abbrev UE(b off:Nat):Value:=.iface 265 (.pointer (some ⟨b,off,none⟩))
abbrev JZ(b:Nat)(c:Array Value):HP:=bR b (.cells c 180 (0,0))
abbrev NT(tm:ay)(l:List kh):HP:=a9 sT 4 263 tm l
theorem IA(j:Nat):((j:Int)-1).tdiv 2=(((j-1)/2:Nat):Int):=by
 cases j with
 |zero=>rfl
 |succ j=>
  have e:((j+1:Nat):Int)-1=(j:Int):=az;rw[e,Nat.add_sub_cancel];exact Int.ofNat_tdiv j 2 |>.symm
set_option maxRecDepth 100000 in
theorem NU{tm:ay}{l:List kh}{b off j:Nat}{ca:Array Value}(hc:ca[off]? =some tm.v)(hj:j<l.length)(hl:l.length<2^60)(hh:nN l j):
  aD prog ak bQ 215 #[UE b off,aI j] [JZ b ca,NT tm l] (λv As=>∃ l',l'.Perm l/\gN l' l'.length/\As=[JZ b ca,NT tm l']):=by
 refine aD.of λR C kd d F c cs aJ aj=>?_;refine k6 ?_;refine C.cx (X:=Nat×List kh) (λx=>[(0,UE b off),(1,aI x.1)]) (λx=>JZ b ca::NT tm x.2::F) (λx=>x.1<x.2.length/\x.2.Perm l/\nN x.2 x.1) (λx=>x.1) (j,l) ⟨rfl,rfl,trivial⟩ ⟨hj,.refl _,hh⟩ ?_;rintro⟨j,m⟩ e ⟨hj,hp,hh⟩ ih;dsimp only at hj hp hh⊢;have Sq:m.length=l.length:=hp.length_eq;have SF:(j-1)/2<m.length:=az;refine cW ?_;refine C.quo rfl ?_ (hr:=by rw[IA j];exact xp az az);rw[IA j];refine dD ?_;refine C.cmp rfl (λzG=>?_) (λzG=>?_)
 ·refine kL ?_;exact C.cX aJ aj ⟨m,hp,hh.fin (.inl az),rfl⟩
 ·refine cW ?_;refine C.SL (GM hc Fo.au) (qA (tm:=tm) (l:=m) (i:=j) (j:=(j-1)/2) hj SF) ?_;rintro v aN ⟨z,rfl,hz,rfl⟩;refine bM ?_;rcases g6 z with rfl|rfl
  ·refine kE ?_;refine C.SL (GN hc Fo.au) (qB (tm:=tm) (l:=m) (i:=(j-1)/2) (j:=j) SF hj) ?_;rintro v aN rfl;refine ve ?_;exact again ih ((j-1)/2,BB m ((j-1)/2) j) ⟨by dsimp only;rw[wK];omega,(xP SF hj).trans hp,hh.step hj rfl az (hz.1 rfl)⟩ (dI)
  ·refine cW ?_;exact C.cX aJ aj ⟨m,hp,hh.fin (.inr (λh=>by have:=hz.2 h;cases this)),rfl⟩
theorem NV{l:List kh}{i j n:Nat}(hi:i<n)(hj:j<n):(BB l i j).drop n=l.drop n:=by unfold BB;rw[HJ hj,HJ hi]
set_option maxRecDepth 100000 in
theorem GP{tm:ay}{l:List kh}{b off n:Nat}{ca:Array Value}(hc:ca[off]? =some tm.v)(hn:n<=l.length)(hl:l.length<2^60)(hh:qm l n 0):
  aD prog ak bQ 205 #[UE b off,aI 0,aI n] [JZ b ca,NT tm l] (λv As=>∃ l' z,v=.bool z/\l'.Perm l/\l'.drop n=l.drop n/\gN l' n/\As=[JZ b ca,NT tm l']):=by
 refine aD.of λR C kd d F c cs aJ aj=>?_;refine JH ?_;refine C.cx (X:=Nat×List kh) (λx=>[(0,UE b off),(1,aI 0),(2,aI n),(7,aI x.1)]) (λx=>JZ b ca::NT tm x.2::F) (λx=>x.1<=n/\x.2.Perm l/\x.2.drop n=l.drop n/\qm x.2 n x.1) (λx=>n-x.1) (0,l) ⟨rfl,rfl,rfl,rfl,trivial⟩ ⟨eK _,.refl _,rfl,hh⟩ ?_;rintro⟨i,m⟩ e ⟨hi,hp,BS,hh⟩ ih;dsimp only at hi hp BS hh⊢;have Sq:m.length=l.length:=hp.length_eq;refine dN ?_;refine C.ar rfl ?_ (r:=2*(i:Int));refine C.ar rfl ?_ (r:=((2*i+1:Nat):Int)) (ha:=congrArg some az);refine dD ?_;refine C.cmp rfl (λwv=>?_) (λwv=>?_)
 ·refine kL ?_;refine C.cmp rfl (λPn=>?_) (λPn=>?_)
  ·refine bJ ?_;refine C.bk aJ aj ⟨m,_,rfl,hp,BS,hh.fin λk h0 hk Gr=>?_,rfl⟩;omega
  ·refine bJ ?_;refine C.bk aJ aj ⟨m,_,rfl,hp,BS,hh.fin λk h0 hk Gr=>?_,rfl⟩;omega
 ·refine bJ ?_;refine C.cmp rfl (λtu=>?_) (λtu=>?_)
  ·refine dH ?_;refine C.cmp rfl (λPn=>?_) (λPn=>?_)
   ·refine bJ ?_;omega
   ·refine bJ ?_;omega
  ·refine kL ?_;refine C.ar rfl ?_ (r:=((2*i+2:Nat):Int)) (ha:=congrArg some az);refine bJ ?_;apply xB (X:=Nat) (λj=>j<n/\0<j/\i=(j-1)/2/\∀ k,0<k->k<n->(k-1)/2=i->tq m k j) (λj=>[(0,UE b off),(1,aI 0),(2,aI n),(7,aI i),(9,aI j)]) (λ_=>JZ b ca::NT tm m::F) (R:=R) (d:=d) (fn:=205) (kd:=kd) (n:=48) (ds:=[]) (cs:=c::cs)
   ·intro BT;have hj1:2*i+1<n:=az;refine dN ?_;refine C.cmp rfl (λts=>?_) (λts=>?_)
    ·refine cW ?_;refine C.SL (GM hc Fo.au) (qA (tm:=tm) (l:=m) (i:=2*i+2) (j:=2*i+1) az az) ?_;rintro v aN ⟨z,rfl,hz,rfl⟩;refine bM ?_;rcases g6 z with rfl|rfl
     ·refine dV ?_;refine cZ BT (2*i+2) ⟨az,az,by omega,λk h0 hk Gr=>?_⟩;have UF:=hz.1 rfl;rcases(show k=2*i+1\/k=2*i+2 by omega)with rfl|rfl
      ·unfold tq;unfold lK at UF⊢;omega
      ·unfold tq lK;omega
     ·refine dN ?_;refine cZ BT (2*i+1) ⟨az,az,by omega,λk h0 hk Gr=>?_⟩;have UF:¬ lK (gA m (2*i+2)) (gA m (2*i+1)):=λh=>by have:=hz.2 h;cases this
      rcases(show k=2*i+1\/k=2*i+2 by omega)with rfl|rfl
      ·unfold tq lK;omega
      ·exact UF
    ·refine kE ?_;refine cZ BT (2*i+1) ⟨az,az,by omega,λk h0 hk Gr=>?_⟩;obtain rfl:k=2*i+1:=az;unfold tq lK;omega
   ·rintro j ⟨Yc,Ll,Eh,zo⟩ e;refine cW ?_;refine C.SL (GM hc Fo.au) (qA (tm:=tm) (l:=m) (i:=j) (j:=i) az az) ?_;rintro v aN ⟨z,rfl,hz,rfl⟩;refine bM ?_;rcases g6 z with rfl|rfl
    ·refine dV ?_;refine C.SL (GN hc Fo.au) (qB (tm:=tm) (l:=m) (i:=i) (j:=j) az az) ?_;rintro v aN rfl;refine ve ?_;exact again ih (j,BB m i j) ⟨dI,(xP az az).trans hp,(NV az Yc).trans BS,hh.step az Yc Ll Eh zo (hz.1 rfl)⟩ (dI)
    ·refine dH ?_;refine C.cmp rfl (λPn=>?_) (λPn=>?_)
     ·refine bJ ?_;refine C.bk aJ aj ⟨m,_,rfl,hp,BS,hh.fin λk h0 hk Gr=>?_,rfl⟩;have UF:¬ lK (gA m j) (gA m i):=λh=>by have:=hz.2 h;cases this
      have h2:=zo k h0 hk Gr;unfold tq at h2⊢;unfold lK at*;omega
     ·refine bJ ?_;refine C.bk aJ aj ⟨m,_,rfl,hp,BS,hh.fin λk h0 hk Gr=>?_,rfl⟩;have UF:¬ lK (gA m j) (gA m i):=λh=>by have:=hz.2 h;cases this
      have h2:=zo k h0 hk Gr;unfold tq at h2⊢;unfold lK at*;omega
set_option maxRecDepth 100000 in
theorem GQ{tm:ay}{l:List kh}{a:kh}{b off:Nat}{ca:Array Value}(hc:ca[off]? =some tm.v)(hl:l.length<2^34)(hh:gN l l.length):
  aD prog ak bQ 207 #[UE b off,.iface 263 (.agg (sT a).toArray)] [JZ b ca,NT tm l] (λv As=>∃ y5 l',l'.Perm (l++[a])/\gN l' l'.length/\As=[JZ b (ca.setIfInBounds off y5.v),NT y5 l']):=by
 refine aD.of λR C kd d F c cs aJ aj=>?_;refine bM ?_;have hsz:off<ca.size:=(gJ.1 hc).1;refine cW ?_;refine C.Wj UD (Ey (a:=a) hc hl) ?_;rintro v aN ⟨y5,rfl⟩;refine bM ?_;have kF:(ca.setIfInBounds off y5.v)[off]? =some y5.v:=by simp[hsz]
 refine cW ?_;refine C.SL (S1 kF Fo.au) (yo (tm:=y5) (l:=l++[a])) ?_;rintro v aN ⟨rfl,rfl⟩;refine bM ?_;refine C.ar rfl ?_ (r:=(l.length:Int)) (ha:=congrArg some (by simp)) (hr:=xp az az);refine C.dv (NU kF (l:=l++[a]) (j:=l.length) (by simp) (by rw[jd,lP];omega) (nN.push hh a)) ?_;rintro v aN ⟨l',hp,TV,rfl⟩;refine k6 ?_;exact C.cX aJ aj ⟨y5,l',hp,TV,rfl⟩
set_option maxRecDepth 100000 in
theorem J0{tm:ay}{l:List kh}{b off:Nat}{ca:Array Value}(hc:ca[off]? =some tm.v)(h0:0<l.length)(hl:l.length<2^34)(hh:gN l l.length):
  aD prog ak bQ 177 #[UE b off] [JZ b ca,NT tm l] (λv As=>∃ y5 l',v=.iface 263 (.agg (sT (gA l 0)).toArray)/\l.Perm (gA l 0::l')/\gN l' l'.length/\As=[JZ b (ca.setIfInBounds off y5.v),NT y5 l']):=by
 refine aD.of λR C kd d F c cs aJ aj=>?_;refine bM ?_;obtain⟨q,hq⟩:∃ q,l.length=q+1:=⟨l.length-1,az⟩;have hlen:(BB l 0 q).length=q+1:=by rw[wK];exact hq
 refine dH ?_;refine C.SL (S1 hc Fo.au) (yo (tm:=tm) (l:=l)) ?_;rintro v aN ⟨rfl,rfl⟩;refine bM ?_;refine C.ar rfl ?_ (r:=(q:Int)) (ha:=congrArg some az);refine dD ?_;refine C.SL (GN hc Fo.au) (qB (tm:=tm) (l:=l) (i:=0) (j:=q) az az) ?_;rintro v aN rfl;refine rS ?_;refine C.dv (GP hc (l:=BB l 0 q) (n:=q) az az (gN.out (by rw[<- hq];exact hh) az)) ?_;rintro v aN ⟨m,z,rfl,hp,BS,TV,rfl⟩;refine bM ?_;have Sq:m.length=q+1:=hp.length_eq.trans hlen;refine dN ?_;refine C.Wj Yb (GL (l:=m) hc az az) ?_;rintro v aN ⟨y5,rfl,rfl⟩;refine jK ?_;have hg:gA m q=gA l 0:=by
  have h1:m.drop q=[gA m q]:=by rw[iR az,jN az,pS az]
  have h2:(BB l 0 q).drop q=[gA (BB l 0 q) q]:=by rw[iR az,jN az,pS az]
  rw[h1,h2,wL az az,aK rfl]at BS;exact(zW BS).1
 have hmq:m.length-1=q:=az;refine C.bk aJ aj ⟨y5,m.take (m.length-1),?_,?_,?_,rfl⟩
 ·rw[<- hg,hmq]
 ·rw[<- hg,hmq];refine((xP az az).symm.trans hp.symm).trans ?_;have h1:m=m.take q++[gA m q]:=by
   conv=>lhs;rw[<- vA q m,iR az,pS az]
   rw[jN az]
  conv=>lhs;rw[h1]
  exact LN _ _
 ·rw[hmq,ik,CP az];exact gN.take TV
abbrev nQ(s:dE)(tx ticks:Int)(again:Bool):dE:={s with order:=s.order+1,timers:=s.timers++[⟨s.clock+ticks,s.order+1,tx,again⟩]}
theorem oU(s:dE)(tx ticks:Int)(again:Bool):(nQ s tx ticks again).abs=jq s.abs tx ticks again:=by simp[nQ,jq,dE.abs,kh.pL]
set_option maxRecDepth 100000 in
theorem ly{b:Nat}{s:dE}{tx ticks:Int}{again:Bool}(hl:s.timers.length<2^34)(ho:0<=s.order/\s.order<2^62)(hc:0<=s.clock/\s.clock<2^62)(ht:0<=ticks/\ticks<=4):
  aD prog ak bQ 180 #[aF b,aI tx,aI ticks,.bool again] [cU b s] (λv As=>As=[cU b (nQ s tx ticks again)]):=by
 refine aD.of λR C kd d F c cs aJ aj=>?_;refine bM ?_;refine cU.opn (h:=λlg wt ot tm bv bl bp bd be bu tl Yd=>?_);have NW:tl.length=s.timers.length:=Yd.perm.length_eq;refine zC ?_;refine C.dx (cG 17 0 22) 22 [21] 0 ?_;refine JF ?_;refine Dr.p (λh=>C.mi rfl h) ?_;refine gg ?_;refine Nr ?_;refine Dr.p (λh=>C.mi rfl h) ?_;refine Dr.chain rfl ?_;refine Ch.m 21 (aW λe aa hk=>?_);refine C.dv (GQ (tm:=tm) (l:=tl) (a:=⟨s.clock+ticks,s.order+1,tx,again⟩) rfl az Yd.heap) ?_;rintro v aN ⟨y5,l',hp,hh,rfl⟩;refine bM ?_;refine hk _ _ ?_;refine eQ ?_;refine cU.cls (nQ s tx ticks again) ?_ (ht:=rp.push Yd rfl hp hh);exact C.cX aJ aj rfl
structure wx(o a:Int)(s:dE):Prop where
 z:0<=a
 o:0<=s.order/\s.order<=o
 a:∀ u∈s.cg,∀ p∈u.2.bG,0<=p.2/\p.2<=a
structure pI(s:dE):Prop where
 n:1<=s.n/\s.n<=4
 log:s.log.length<2^30
 aX:0<=s.aX/\s.aX<=s.log.length
 timers:s.timers.length<2^15
 waits:s.waits.length<2^30
 out:s.out.length<2^30
 clock:0<=s.clock/\s.clock<2^60
 order:0<=s.order/\s.order<2^61
 yp:∀ u∈s.cg,jf u.2.ops
 bG:∀ u∈s.cg,∀ p∈u.2.bG,0<=p.2/\p.2<2^61
 Ye:∀ tx p,aB s.pend tx=some p->jf p.ops
 dpl:∀ tx p,aB s.cf tx=some p->0<=p.pl/\p.pl<s.log.length
def gv(b:Nat)(I:HL)(o a:Int)(r:dT):Value->List HP->Prop:=λv As=>∃ I' s',Sub I I'/\ShJ I' s'/\s'.abs=r/\wx o a s'/\As=[cU b s',a7 I']
theorem GR(m:List (Int×Int))(k:Int):((aB m k).map fE).getD (.int .i32 0)=.int .i32 ((aB m k).getD 0):=by cases aB m k<;>rfl
theorem sY(m:List (Int×Int))(k:Int):((aB m k).map dR).getD (aI 0)=aI ((aB m k).getD 0):=by cases aB m k<;>rfl
theorem yq(V:List (Int×Int))(l:List cr)(o:cr):g9 V (l++[o])=if o.w then g9 V l else g9 V l++[(aB V o.k).getD 0]:=by unfold g9;cases h:o.w<;>simp[ml,h]
theorem yr{I:HL}{b:Nat}{s:dE}{so:ay}{ops:List cr}(ho:dS I cF 67 so ops)(hb:jf ops):
  aD prog ak bQ 199 #[aF b,so.v] [cU b s,a7 I] (λv As=>∃ s':ay,v=s'.v/\As=[a9 da 1 21 s' (g9 s.values ops),cU b s,a7 I]):=by
 have hl:=hb.2;refine aD.of λR C kd d F c cs aJ aj=>?_;refine bM ?_;refine cU.opn (h:=λlg wt ot tm bv bl bp bd be bu tl ht=>?_);refine At.aG da 1 21 ?_;refine ow ?_;refine C.cx (X:=Nat×ay) (λx=>[(0,aF b),(5,x.2.v),(8,so.v),(9,aI ops.length),(10,aI x.1)]) (λx=>a9 da 1 21 x.2 (g9 s.values (ops.take x.1))::SX b s lg wt ot tm bv bl bp bd be bu tl (a7 I::F)) (λx=>x.1<=ops.length) (λx=>ops.length-x.1) (0,aG) ⟨rfl,rfl,rfl,rfl,rfl,trivial⟩ (eK _) ?_ (hI:=.refl);rintro⟨i,s1⟩ e hi ih;dsimp only at hi⊢;refine bJ ?_;refine C.cmp rfl (λqw=>?_) (λqw=>?_)
 ·refine bJ ?_;have cN:i<ops.length:=by simpa using qw
  have Sd:(g9 s.values (ops.take i)).length<=i:=by have:=m8 (λo:cr=> !o.w) (ops.take i);simp only[g9,cV,ik]at this⊢;omega
  refine bJ ?_;refine C.mE rfl (λhj=>?_);refine C.al rfl (λb7=>?_);refine C.pd rfl ?_ (hv:=λv h=>fC.one (f:=cF) ops[i] v (by simpa using h));refine cW ?_;generalize hw:ops[i].w=z;rcases g6 z with rfl|rfl
  ·refine dV ?_;refine again ih (i+1,s1) cN (dI) (hr:=?_);rw[gQ cN,yq,aK hw];exact bZ.au
  ·refine dN ?_;have tX:=GR s.values ops[i].k;refine C.dx (cG 17 0 11++[(5,11)]) 12 [9,10,11] 1 ?_;refine CJ ?_;refine Dr.l (λhE h=>C.FM tX rfl h) ?_;refine Dr.chain rfl ?_;refine Ch.m 9 (aW λe aa hk=>?_);refine C.nj rfl (λb26=>hk _ _ .cons ?_);refine Ch.m 10 (aW λe aa hk=>?_);refine C.nM (s:=s1) (l:=g9 s.values (ops.take i)) ((aB s.values ops[i].k).getD 0) rfl (λs2=>?_);refine hk _ _ ?_;refine Ch.q 11 (λh=>C.kH rfl h) ?_;refine zD ?_;refine again ih (i+1,s2) cN (dI) (hr:=?_);rw[gQ cN,yq,ao (by rw[hw];decide)];exact bZ.au
 ·refine dH ?_;have e1:ops.take i=ops:=iq (by simp at qw;omega);rw[e1];refine cU.cls s ?_;exact C.bk aJ aj ⟨s1,rfl,rfl⟩
abbrev Ez(s:dE)(tx home:Int)(ops:List cr)(so:ay)(pl:Int):dE:={s with aH:=ops.foldl (λl o=>bA l o.k tx) s.aH,pend:=bA s.pend tx ⟨pl,home,ops,so⟩}
theorem J1(s:dE)(tx home:Int)(ops:List cr)(so:ay)(pl:Int):(Ez s tx home ops so pl).abs=rO s.abs tx home ops pl:=by unfold rO dE.abs;simp only[dT.mk.injEq,w9,mo];exact kj sR.abs s.pend
theorem GU{I:HL}{b:Nat}{s:dE}{so:ay}{ops:List cr}{tx home pl:Int}(ho:dS I cF 67 so ops)(hb:jf ops):
  aD prog ak bQ 182 #[aF b,aI tx,aI home,so.v,aI pl] [cU b s,a7 I] (λv As=>As=[cU b (Ez s tx home ops so pl),a7 I]):=by
 have hl:=hb.2;refine aD.of λR C kd d F c cs aJ aj=>?_;refine bM ?_;refine cU.opn (h:=λlg wt ot tm bv bl bp bd be bu tl ht=>?_);refine dH ?_;refine C.cx (X:=Nat×List (Int×Int)) (λx=>[(0,aF b),(1,aI tx),(2,aI home),(3,so.v),(4,aI pl),(12,so.v),(13,aI ops.length),(14,aI x.1)]) (λx=>SX b {s with aH:=x.2} lg wt ot tm bv bl bp bd be bu tl (a7 I::F)) (λx=>x.1<=ops.length/\x.2=(ops.take x.1).foldl (λl o=>bA l o.k tx) s.aH) (λx=>ops.length-x.1) (0,s.aH) ⟨rfl,rfl,rfl,rfl,rfl,rfl,rfl,rfl,trivial⟩ ⟨eK _,rfl⟩ ?_ (hI:=.refl);rintro⟨i,lk⟩ e ⟨hi,tX⟩ ih;dsimp only at hi tX⊢;refine bJ ?_;refine C.cmp rfl (λpN=>?_) (λpN=>?_)
 ·refine bJ ?_;have cN:i<ops.length:=by simpa using pN
  refine bJ ?_;refine C.mE rfl (λhj=>?_);refine C.al rfl (λSZ=>?_);refine C.pd rfl ?_ (hv:=λv h=>fC.one (f:=cF) ops[i] v (by simpa using h));refine C.go ?_;refine C.dx (cG 18 0 8) 9 [8] 0 ?_;refine Lq ?_;refine Ch.m 8 (aW λe aa hk=>?_);refine C.mu (w:=tx) (l:=lk) (q:=ops[i].k) rfl (hk _ undef ?_);refine zD ?_;refine again ih (i+1,bA lk ops[i].k tx) ⟨cN,?_⟩ (dI);rw[gQ cN,gm,<- tX];rfl
 ·refine bJ ?_;have e1:ops.take i=ops:=iq (by simp at pN;omega);rw[e1]at tX;subst tX;refine m4 ?_;refine C.mu (w:=sR.mk pl home ops so) (l:=s.pend) (q:=tx) rfl ?_;refine C.go ?_;refine cU.cls (Ez s tx home ops so pl) ?_;exact C.cX aJ aj rfl
def lA(s:dE)(tx:Int):sR:=(aB s.pend tx).getD ⟨0,0,[],aG⟩
theorem QR(s:dE)(tx:Int):((aB s.pend tx).map BP).getD (.agg #[aI 0,aI 0,.slice none 0 0])=BP (lA s tx):=by unfold lA;cases aB s.pend tx<;>rfl
theorem J2(s:dE)(tx:Int):(lA s tx).ops=((aB s.abs.pend tx).map (·.ops)).getD []:=by show _=((aB (s.pend.map λp=>(p.1,p.2.abs)) tx).map (·.ops)).getD [];rw[ug sR.abs];unfold lA;cases aB s.pend tx<;>rfl
theorem ShJ.lA{I:HL}{s:dE}(h:ShJ I s)(tx:Int):dS I cF 67 (lA s tx).so (lA s tx).ops:=by
 unfold Go.Sl.lA;cases hg:aB s.pend tx with
 |none=>exact .nil ..
 |some p=>exact h.pend _ (bT hg)
abbrev uz(s:dE)(tx:Int)(yes:Bool)(pl:Int):dE:=
 {s with values:=(lA s tx).ops.foldl (λv o=>if yes&&o.w then bA v o.k o.v else v) s.values,aH:=(lA s tx).ops.foldl (λl o=>ee l o.k) s.aH,pend:=ee s.pend tx,done:=bA s.done tx ⟨pl,yes⟩}
theorem EA(s:dE)(tx:Int)(yes:Bool)(pl:Int):(uz s tx yes pl).abs=oN s.abs tx yes pl:=by have e1:=DT (k:=tx) sR.abs s.pend;unfold oN;simp only[<- J2];unfold dE.abs;simp only[dT.mk.injEq,w9,mo];exact e1
theorem oV{I:HL}{b:Nat}{s:dE}{tx pl:Int}{yes:Bool}(hJ:ShJ I s)(hb:(lA s tx).ops.length<2^30):
  aD prog ak bQ 183 #[aF b,aI tx,.bool yes,aI pl] [cU b s,a7 I] (λv As=>As=[cU b (uz s tx yes pl),a7 I]):=by
 refine aD.of λR C kd d F c cs aJ aj=>?_;refine bM ?_;refine cU.opn (h:=λlg wt ot tm bv bl bp bd be bu tl ht=>?_);have hpv:=QR s tx;have ho:=hJ.lA tx;have hfx:uz s tx yes pl={s with values:=(lA s tx).ops.foldl (λv o=>if yes&&o.w then bA v o.k o.v else v) s.values,aH:=(lA s tx).ops.foldl (λl o=>ee l o.k) s.aH,pend:=ee s.pend tx,done:=bA s.done tx ⟨pl,yes⟩}:=rfl;rw[hfx]at aj;clear hfx;generalize lA s tx=p at hpv ho hb aj;obtain⟨ppl,ph,ops,so⟩:=p;dsimp only at ho hb aj;refine kE ?_;refine C.FM hpv rfl ?_;refine C.al rfl (λb8=>?_);refine kE ?_;refine C.cx (X:=Nat×List (Int×Int)×List (Int×Int)) (λx=>[(0,aF b),(1,aI tx),(2,.bool yes),(3,aI pl),(19,so.v),(20,aI ops.length),(21,aI x.1)]) (λx=>SX b {s with values:=x.2.1,aH:=x.2.2} lg wt ot tm bv bl bp bd be bu tl (a7 I::F)) (λx=>x.1<=ops.length/\x.2.1=(ops.take x.1).foldl (λv o=>if yes&&o.w then bA v o.k o.v else v) s.values/\x.2.2=(ops.take x.1).foldl (λl o=>ee l o.k) s.aH) (λx=>ops.length-x.1) (0,s.values,s.aH) ⟨rfl,rfl,rfl,rfl,rfl,rfl,rfl,trivial⟩ ⟨eK _,rfl,rfl⟩ ?_;rintro⟨i,va,lk⟩ e ⟨hi,Wn,tX⟩ ih;dsimp only at hi Wn tX⊢;refine bJ ?_;refine C.cmp rfl (λys=>?_) (λys=>?_)
 ·refine bJ ?_;have cN:i<ops.length:=by simpa using ys
  refine bJ ?_;refine C.mE rfl (λhj=>?_);refine C.al rfl (λUC=>?_);refine C.pd rfl ?_ (hv:=λv h=>fC.one (f:=cF) ops[i] v (by simpa using h));refine cW ?_;rcases g6 yes with rfl|rfl
  ·refine bJ ?_;generalize hw:ops[i].w=z;rcases g6 z with rfl|rfl
   ·refine dN ?_;refine C.dx (cG 30 0 9) 10 [9] 0 ?_;refine XW ?_;refine Ch.m 9 (aW λe aa hk=>?_);refine C.mu (w:=ops[i].v) (l:=va) (q:=ops[i].k) rfl (hk _ undef ?_);refine eQ ?_;refine C.dx (cG 39 0 7) 8 [7] 0 ?_;refine Qu ?_;refine Ch.m 7 (aW λe aa hk=>?_);refine C.dl (l:=lk) (q:=ops[i].k) rfl (hk _ undef ?_);refine zD ?_;refine again ih (i+1,bA va ops[i].k ops[i].v,ee lk ops[i].k) ⟨cN,?_,?_⟩ (dI)
    ·rw[gQ cN,gm,<- Wn,kM,rH,aK (by rw[hw];rfl)]
    ·rw[gQ cN,gm,<- tX];rfl
   ·refine dN ?_;refine C.dx (cG 39 0 7) 8 [7] 0 ?_;refine Qu ?_;refine Ch.m 7 (aW λe aa hk=>?_);refine C.dl (l:=lk) (q:=ops[i].k) rfl (hk _ undef ?_);refine zD ?_;refine again ih (i+1,va,ee lk ops[i].k) ⟨cN,?_,?_⟩ (dI)
    ·rw[gQ cN,gm,<- Wn,kM,rH,ao (by rw[hw];decide)]
    ·rw[gQ cN,gm,<- tX];rfl
  ·refine dD ?_;refine C.dx (cG 39 0 7) 8 [7] 0 ?_;refine Qu ?_;refine Ch.m 7 (aW λe aa hk=>?_);refine C.dl (l:=lk) (q:=ops[i].k) rfl (hk _ undef ?_);refine zD ?_;refine again ih (i+1,va,ee lk ops[i].k) ⟨cN,?_,?_⟩ (dI)
   ·rw[gQ cN,gm,<- Wn,kM,rH,ao (by simp)]
   ·rw[gQ cN,gm,<- tX];rfl
 ·refine bJ ?_;have e1:ops.take i=ops:=iq (by simp at ys;omega);rw[e1]at Wn tX;subst Wn tX;refine dV ?_;refine C.dl rfl ?_;refine m4 ?_;refine C.mu (w:=iF.mk pl yes) (l:=s.done) (q:=tx) rfl ?_;refine C.go ?_;refine cU.cls {s with values:=ops.foldl (λv o=>if yes&&o.w then bA v o.k o.v else v) s.values,aH:=ops.foldl (λl o=>ee l o.k) s.aH,pend:=ee s.pend tx,done:=bA s.done tx ⟨pl,yes⟩} ?_;exact C.cX aJ aj rfl
theorem l5{b:Nat}{ca:Array Value}{lg:ay}{l:List jg}{en:jg}(hc:ca[3]? =some lg.v)(hl:l.length<2^34):aD prog ak bQ 200 #[aF b,en.val] [JZ b ca,a9 rA 1 272 lg l]
  (λv As=>∃ Wo:ay,v=aI l.length/\As=[JZ b (ca.setIfInBounds 3 Wo.v),a9 rA 1 272 Wo (l++[en])]):=by
 refine aD.of λR C kd d F c cs aJ aj=>?_;refine bM ?_;have hsz:3<ca.size:=(gJ.1 hc).1;refine kL ?_;refine C.ld rfl ?_ (hc:=hc);refine fI ?_;refine C.nj rfl (λSZ=>?_);refine C.nM en rfl (λs'=>?_);refine bJ ?_;refine C.st rfl ?_ (hz:=hsz);refine dD ?_;refine C.ld rfl ?_ (hc:=show(ca.setIfInBounds 3 s'.v)[3]? =some s'.v by simp[hsz]);refine C.m3 rfl ?_ (s:=s') (l:=l++[en]);refine C.ar rfl ?_ (r:=l.length) (ha:=congrArg some (by simp)) (hr:=xp az az);refine bJ ?_;exact C.bk aJ aj ⟨s',rfl,rfl⟩
theorem iO{V W:Type}(w:V->W)(m:List (Int×V))(k:Int):aB (m.map λp=>(p.1,w p.2)) k=(aB m k).map w:=ug w m
theorem AG{s:dT}{m:MsgR}{d:iF}(h:aB s.cf m.tx=some d):zw s m=if d.pl<s.aX then eJ s {bj with kind:=4,to:=m.aU,tx:=m.tx,yes:=d.yes}else s:=by unfold zw;rw[h]
theorem vm{s:dT}{m:MsgR}(h:aB s.cf m.tx=none):zw s m=if(aB s.cg m.tx).isSome then s else iw {s with log:=s.log++[.dec m.tx false []],cf:=bA s.cf m.tx ⟨s.log.length,false⟩} {bj with kind:=4,to:=m.aU,tx:=m.tx}:=by unfold zw;rw[h]
theorem wx.same{o a:Int}{s s':dE}(h:wx o a s)(h1:s'.order=s.order)(h2:s'.cg=s.cg):wx (o+1) (a+1) s':=⟨by have:=h.z;omega,by rw[h1];have:=h.o;omega,λu hu p hp=>by rw[h2]at hu;have:=h.a u hu p hp;omega⟩
theorem ShJ.outs{I:HL}{s:dE}(h:ShJ I s){m:cm}(hm:jX I m):ShJ I {s with out:=s.out++[m]}:=⟨h.log,h.pend,h.cg,h.waits,λx hx=>by
 rcases bU.1 hx with hx|hx
 ·exact h.out x hx
 ·obtain rfl:=dF.1 hx;exact hm⟩
theorem ShJ.wait{I:HL}{s:dE}(h:ShJ I s){m:cm}(hm:jX I m):ShJ I {s with waits:=s.waits++[m]}:=⟨h.log,h.pend,h.cg,λx hx=>by
 rcases bU.1 hx with hx|hx
 ·exact h.waits x hx
 ·obtain rfl:=dF.1 hx;exact hm,h.out⟩
theorem ShJ.yt{I:HL}{s:dE}(h:ShJ I s){e:jg}(he:e.J I):ShJ I {s with log:=s.log++[e]}:=⟨λx hx=>by
 rcases bU.1 hx with hx|hx
 ·exact h.log x hx
 ·obtain rfl:=dF.1 hx;exact he,h.pend,h.cg,h.waits,h.out⟩
theorem jX.nil(I:HL)(m:MsgR)(ho:m.ops=[])(hr:m.reads=[]):jX I ⟨m,aG,aG⟩:=⟨by dsimp only;rw[ho];exact .nil ..,by dsimp only;rw[hr];exact .nil ..,by dsimp only;rw[hr];decide⟩
abbrev lM(b:Nat)(m:cm):HP:=bR b (.cells #[aI m.kind,aI m.aU,aI m.to,aI m.tx,.bool m.yes,m.so.v,m.sr.v] 190 (0,0))
theorem J3{I:HL}{b:Nat}{s:dE}{m:cm}{o a:Int}(hJ:ShJ I s)(hb:pI s)(hC:wx o a s):
  aD prog ak bQ 175 #[aF b,qy m] [cU b s,a7 I] (gv b I (o+1) (a+1) (zw s.abs m.toMsgR)):=by
 have ks:=hb.log;have iW:=hb.out;have BU:=hb.waits;refine aD.of λR C kd d F c cs aJ aj=>?_;refine bM ?_;refine cU.opn (h:=λlg wt ot tm bv bl bp bd be bu tl ht=>?_);refine bJ ?_;refine C.bx rfl (λb3=>?_);refine C.go ?_;cases pM:(aB s.cf m.tx)
 ·refine C.dx (cG 7 0 8++[(6,8)]++[(15,9),(16,10)]++[(4,11)]++[(5,13)]) 14 [11,12] 1 ?_;refine lZ ?_;refine Dr.l (λhE h=>C.Ge pM rfl h) ?_;refine FO ?_;refine Ch.m 11 (aW λe aa hk=>?_);refine C.al rfl (λb4=>hk _ _ .cons ?_);refine Ch.m 12 (aW λe aa hk=>?_);refine C.pd rfl (hk _ undef ?_);refine eQ ?_;refine C.dx (cG 39 0 10++[(38,10)]) 11 [] 0 ?_;refine JJ ?_;refine ru ?_;cases IB:(aB s.cg m.tx)
  ·refine C.dx (cG 59 0 12++[(58,12)]) 13 [] 0 ?_;refine Qq ?_;refine Dr.l (λhE h=>C.Ge IB rfl h) ?_;refine Dr.p (λh=>C.JC rfl h) ?_;refine wm ?_;refine ru ?_;refine C.vL (cG 17 0 14) 15 [4,12,13,14] 3 ?_ (W:=[lM b3 m]);refine gg ?_;refine Dr.p (λh=>C.mi rfl h) ?_;refine Dr.chain rfl ?_ (λ_ s=>bZ.sat bZ.au s);refine Ch.n2 (t:=4) (u:=12) rfl ?_ ?_
   ·refine aW λe aa hk=>?_;refine C.ld rfl (hk _ _ .refl ?_);refine Ch.m 12 (aW λe aa hk=>?_);refine C.dv (l5 (en:=.dec m.tx false [] aG) (l:=s.log) (lg:=lg) rfl az) ?_;rintro v aN ⟨Wo,rfl,rfl⟩;refine bM ?_;refine hk _ _ lu ?_;refine Ch.q 13 (λh=>C.bd rfl h) ?_;refine Ch.m 14 (aW λe aa hk=>?_);refine C.mu (w:=iF.mk s.log.length false) (l:=s.cf) (q:=m.tx) rfl ?_;refine hk _ undef lu ?_;refine eQ ?_;refine cU.cls {s with log:=s.log++[.dec m.tx false [] aG],cf:=bA s.cf m.tx ⟨s.log.length,false⟩} ?_;refine dV ?_;refine C.dv (iG (s:={s with log:=s.log++[.dec m.tx false [] aG],cf:=bA s.cf m.tx ⟨s.log.length,false⟩}) (m:=⟨{bj with kind:=4,to:=m.aU,tx:=m.tx},aG,aG⟩) (by show s.waits.length<_;omega)) ?_;rintro v aN rfl;refine k6 ?_;have za:ShJ I {s with log:=s.log++[.dec m.tx false [] aG],cf:=bA s.cf m.tx ⟨s.log.length,false⟩}:=⟨(hJ.yt (e:=.dec m.tx false [] aG) ⟨.nil ..,by decide⟩).log,hJ.pend,hJ.cg,hJ.waits,hJ.out⟩;refine C.cX aJ aj ⟨I,_,Sub.refl _,za.wait (jX.nil I {bj with kind:=4,aU:=s.me,to:=m.aU,tx:=m.tx} rfl rfl),?_,hC.same rfl rfl,rfl⟩;rw[vm pM,ao (by show¬ (aB (s.cg.map λp=>(p.1,p.2.abs)) m.tx).isSome=true;rw[iO e8.abs,IB];decide)];simp[iw,dE.abs,jg.abs]
   ·refine aW λe aa hk=>?_;refine C.dv (l5 (en:=.dec m.tx false [] aG) (l:=s.log) (lg:=lg) rfl az) ?_;rintro v aN ⟨Wo,rfl,rfl⟩;refine bM ?_;refine hk _ _ lu ?_;refine Ch.q 13 (λh=>C.bd rfl h) ?_;refine Ch.m 4 (aW λe aa hk=>?_);refine C.ld rfl (hk _ _ .refl ?_);refine Ch.m 14 (aW λe aa hk=>?_);refine C.mu (w:=iF.mk s.log.length false) (l:=s.cf) (q:=m.tx) rfl ?_;refine hk _ undef lu ?_;refine eQ ?_;refine cU.cls {s with log:=s.log++[.dec m.tx false [] aG],cf:=bA s.cf m.tx ⟨s.log.length,false⟩} ?_;refine dV ?_;refine C.dv (iG (s:={s with log:=s.log++[.dec m.tx false [] aG],cf:=bA s.cf m.tx ⟨s.log.length,false⟩}) (m:=⟨{bj with kind:=4,to:=m.aU,tx:=m.tx},aG,aG⟩) (by show s.waits.length<_;omega)) ?_;rintro v aN rfl;refine k6 ?_;have za:ShJ I {s with log:=s.log++[.dec m.tx false [] aG],cf:=bA s.cf m.tx ⟨s.log.length,false⟩}:=⟨(hJ.yt (e:=.dec m.tx false [] aG) ⟨.nil ..,by decide⟩).log,hJ.pend,hJ.cg,hJ.waits,hJ.out⟩;refine C.cX aJ aj ⟨I,_,Sub.refl _,za.wait (jX.nil I {bj with kind:=4,aU:=s.me,to:=m.aU,tx:=m.tx} rfl rfl),?_,hC.same rfl rfl,rfl⟩;rw[vm pM,ao (by show¬ (aB (s.cg.map λp=>(p.1,p.2.abs)) m.tx).isSome=true;rw[iO e8.abs,IB];decide)];simp[iw,dE.abs,jg.abs]
  ·rename_i w68;refine C.dx (cG 59 0 12++[(58,12)]) 13 [] 0 ?_;refine Qq ?_;refine Dr.l (λhE h=>C.Gd IB rfl h) ?_;refine Dr.p (λh=>C.JC rfl h) ?_;refine wm ?_;refine ru ?_;refine cU.cls s ?_;refine C.cX aJ aj ⟨I,s,Sub.refl _,hJ,?_,hC.same rfl rfl,rfl⟩;rw[vm pM,aK (by show(aB (s.cg.map λp=>(p.1,p.2.abs)) m.tx).isSome=true;rw[iO e8.abs,IB];rfl)]
 ·rename_i UG;refine C.dx (cG 7 0 8++[(6,8)]++[(15,9),(16,10)]++[(4,11)]++[(5,13)]) 14 [11,12] 1 ?_;refine lZ ?_;refine Dr.l (λhE h=>C.Gd pM rfl h) ?_;refine FO ?_;refine Ch.m 11 (aW λe aa hk=>?_);refine C.al rfl (λb4=>hk _ _ .cons ?_);refine Ch.m 12 (aW λe aa hk=>?_);refine C.pd rfl (hk _ undef ?_);refine eQ ?_;by_cases Pn:UG.pl<s.aX
  ·refine C.dx (cG 39 0 10++[(38,10)]) 11 [] 0 ?_;refine CJ ?_;refine Dr.p (λh=>C.fe rfl h (hf:=Pn)) ?_;refine wm ?_;refine ru ?_;refine cU.cls s ?_;refine kL ?_;refine C.dv (fY (m:=⟨{bj with kind:=4,to:=m.aU,tx:=m.tx,yes:=UG.yes},aG,aG⟩) (s:=s) az) ?_;rintro v aN rfl;refine k6 ?_;refine C.cX aJ aj ⟨I,_,Sub.refl _,hJ.outs (jX.nil I {bj with kind:=4,aU:=s.me,to:=m.aU,tx:=m.tx,yes:=UG.yes} rfl rfl),?_,hC.same rfl rfl,rfl⟩;rw[show zw s.abs m.toMsgR=_ from(AG (d:=UG) pM).trans (aK Pn)];simp[eJ,dE.abs]
  ·refine C.dx (cG 39 0 10++[(38,10)]) 11 [] 0 ?_;refine CJ ?_;refine Dr.p (λh=>C.dP rfl h (hf:=Pn)) ?_;refine wm ?_;refine ru ?_;refine C.dx (cG 59 0 12++[(58,12)]) 13 [] 0 ?_;refine JK ?_;refine ru ?_;refine cU.cls s ?_;refine C.cX aJ aj ⟨I,s,Sub.refl _,hJ,?_,hC.same rfl rfl,rfl⟩;rw[show zw s.abs m.toMsgR=_ from(AG (d:=UG) pM).trans (ao Pn)]
theorem ShJ.fin{I:HL}{s:dE}(h:ShJ I s)(tx:Int)(yes:Bool)(pl:Int):ShJ I (uz s tx yes pl):=⟨h.log,λp hp=>h.pend p (xU hp),h.cg,h.waits,h.out⟩
theorem J4{s:dE}(hb:pI s)(tx:Int):(lA s tx).ops.length<2^30:=by
 unfold lA;cases hg:aB s.pend tx with
 |none=>exact m9 _
 |some p=>
  have:=(hb.Ye _ _ hg).2;show p.ops.length<_;omega
def BV(s:dT)(m:MsgR):dT:=iw (oN {s with log:=s.log++[.kD m.tx m.yes]} m.tx m.yes s.log.length) {bj with kind:=5,to:=m.aU,tx:=m.tx}
theorem uA{s:dT}{m:MsgR}{p:xE}(h:aB s.pend m.tx=some p):iU s m=BV s m:=by unfold iU;rw[h];rfl
theorem uB{s:dT}{m:MsgR}{d:iF}(h:aB s.pend m.tx=none)(h2:aB s.done m.tx=some d):iU s m=if d.pl<s.aX then eJ s {bj with kind:=5,to:=m.aU,tx:=m.tx}else s:=by unfold iU;rw[h,h2]
theorem yu{s:dT}{m:MsgR}(h:aB s.pend m.tx=none)(h2:aB s.done m.tx=none):iU s m=if m.yes then s else BV s m:=by unfold iU;rw[h,h2];rfl
theorem oC{s:dE}{tx:Int}{p:sR}(h:aB s.pend tx=some p):aB s.abs.pend tx=some p.abs:=by show aB (s.pend.map λp=>(p.1,p.2.abs)) tx=_;rw[iO sR.abs,h];rfl
theorem ji{s:dE}{tx:Int}(h:aB s.pend tx=none):aB s.abs.pend tx=none:=by show aB (s.pend.map λp=>(p.1,p.2.abs)) tx=_;rw[iO sR.abs,h];rfl
theorem jG{s:dE}{tx:Int}{p:e8}(h:aB s.cg tx=some p):aB s.abs.cg tx=some p.abs:=by show aB (s.cg.map λp=>(p.1,p.2.abs)) tx=_;rw[iO e8.abs,h];rfl
theorem qC{s:dE}{tx:Int}(h:aB s.cg tx=none):aB s.abs.cg tx=none:=by show aB (s.cg.map λp=>(p.1,p.2.abs)) tx=_;rw[iO e8.abs,h];rfl
abbrev QS(s:dE)(tx:Int)(yes:Bool):dE:=uz {s with log:=s.log++[.kD tx yes]} tx yes s.log.length
theorem yw(s:dE)(m:MsgR):iw (QS s m.tx m.yes).abs {bj with kind:=5,to:=m.aU,tx:=m.tx}=BV s.abs m:=by
 unfold BV;rw[EA]
 congr 2
 ·simp[dE.abs,jg.abs]
 ·simp[dE.abs]
theorem BW{I:HL}{b:Nat}{s:dE}{m:cm}{o a:Int}(hJ:ShJ I s)(hb:pI s)(hC:wx o a s):
  aD prog ak bQ 173 #[aF b,qy m] [cU b s,a7 I] (gv b I (o+1) (a+1) (iU s.abs m.toMsgR)):=by
 have ks:=hb.log;have iW:=hb.out;have BU:=hb.waits;have wh:=J4 hb m.tx;refine aD.of λR C kd d F c cs aJ aj=>?_;refine bM ?_;refine cU.opn (h:=λlg wt ot tm bv bl bp bd be bu tl ht=>?_);refine bJ ?_;refine C.bx rfl (λb3=>?_);refine C.go ?_;cases FP:(aB s.pend m.tx)
 ·refine C.dx (cG 9 0 8++[(8,8)]++[(17,9),(18,10)]++[(4,11)]++[(5,13)]) 14 [11,12] 1 ?_;refine lZ ?_;refine Dr.l (λhE h=>C.Ge FP rfl h) ?_;refine FO ?_;refine Ch.m 11 (aW λe aa hk=>?_);refine C.al rfl (λb4=>hk _ _ .cons ?_);refine Ch.m 12 (aW λe aa hk=>?_);refine C.pd rfl (hk _ undef ?_);refine eQ ?_;cases ts:(aB s.done m.tx)
  ·refine C.dx (cG 20 0 8++[(19,8)]++[(28,9),(29,10)]++[(6,11)]++[(7,13)]) 14 [11,12] 1 ?_;refine lZ ?_;refine Dr.l (λhE h=>C.Ge ts rfl h) ?_;refine FO ?_;refine Ch.m 11 (aW λe aa hk=>?_);refine C.al rfl (λb6=>hk _ _ .cons ?_);refine Ch.m 12 (aW λe aa hk=>?_);refine C.pd rfl (hk _ undef ?_);refine Ch.fin ?_;refine nO ?_;refine C.SH rfl (λhy=>?_) (λhy=>?_)
   ·refine dD ?_;refine cU.cls s ?_;refine C.cX aJ aj ⟨I,s,Sub.refl _,hJ,?_,hC.same rfl rfl,rfl⟩;rw[show iU s.abs m.toMsgR=_ from(yu (ji FP) ts).trans (aK hy)]
   ·refine dD ?_;refine cU.cls s ?_;refine C.vL (cG 57 0 14) 14 [12,13] 2 ?_ (W:=[lM b3 m,a7 I]);refine gg ?_;refine lS ?_;refine Dr.p (λh=>C.mi rfl h) ?_;refine Dr.chain rfl ?_ (λ_ s=>bZ.sat bZ.au s);refine Ch.m 12 (aW λe aa hk=>?_);refine C.cE (nq (s:=s) (en:=.kD m.tx m.yes) az) ?_;refine bM ?_;refine hk _ _ lu ?_;refine Ch.m 13 (aW λe aa hk=>?_);refine C.dv (oV (s:={s with log:=s.log++[.kD m.tx m.yes]}) (hJ.yt (e:=.kD m.tx m.yes) trivial) wh) ?_;rintro v aN rfl;refine bM ?_;refine hk _ _ lu ?_;refine Um ?_;refine C.dv (iG (s:=QS s m.tx m.yes) (m:=⟨{bj with kind:=5,to:=m.aU,tx:=m.tx},aG,aG⟩) (by show s.waits.length<_;omega)) ?_;rintro v aN rfl;refine k6 ?_;refine C.cX aJ aj ⟨I,_,Sub.refl _,((hJ.yt (e:=.kD m.tx m.yes) trivial).fin m.tx m.yes s.log.length).wait (jX.nil I {bj with kind:=5,aU:=s.me,to:=m.aU,tx:=m.tx} rfl rfl),?_,hC.same rfl rfl,rfl⟩;rw[show iU s.abs m.toMsgR=_ from(yu (ji FP) ts).trans (ao (by rw[hy];decide))];refine xa ?_ (yw s m.toMsgR);simp only[iw,dE.abs,eF,iJ,m1]
  ·rename_i Yf;refine C.dx (cG 20 0 8++[(19,8)]++[(28,9),(29,10)]++[(6,11)]++[(7,13)]) 14 [11,12] 1 ?_;refine lZ ?_;refine Dr.l (λhE h=>C.Gd ts rfl h) ?_;refine FO ?_;refine Ch.m 11 (aW λe aa hk=>?_);refine C.al rfl (λb6=>hk _ _ .cons ?_);refine Ch.m 12 (aW λe aa hk=>?_);refine C.pd rfl (hk _ undef ?_);refine Ch.fin ?_;refine i6 ?_;by_cases Wp:Yf.pl<s.aX
   ·refine C.dx (cG 36 0 7) 7 [] 0 ?_;refine rR ?_;refine Dr.p (λh=>C.fe rfl h (hf:=Wp)) ?_;refine Dr.chain rfl ?_;refine ru ?_;refine cU.cls s ?_;refine dV ?_;refine C.dv (fY (s:=s) (m:=⟨{bj with kind:=5,to:=m.aU,tx:=m.tx},aG,aG⟩) az) ?_;rintro v aN rfl;refine k6 ?_;refine C.cX aJ aj ⟨I,_,Sub.refl _,hJ.outs (jX.nil I {bj with kind:=5,aU:=s.me,to:=m.aU,tx:=m.tx} rfl rfl),?_,hC.same rfl rfl,rfl⟩;rw[show iU s.abs m.toMsgR=_ from(uB (ji FP) (d:=Yf) ts).trans (aK Wp)];simp[eJ,dE.abs]
   ·refine C.dx (cG 36 0 7) 7 [] 0 ?_;refine rR ?_;refine Dr.p (λh=>C.dP rfl h (hf:=Wp)) ?_;refine Dr.chain rfl ?_;refine ru ?_;refine cU.cls s ?_;refine C.cX aJ aj ⟨I,s,Sub.refl _,hJ,?_,hC.same rfl rfl,rfl⟩;rw[show iU s.abs m.toMsgR=_ from(uB (ji FP) (d:=Yf) ts).trans (ao Wp)]
 ·rename_i w16;refine C.dx (cG 9 0 8++[(8,8)]++[(17,9),(18,10)]++[(4,11)]++[(5,13)]) 14 [11,12] 1 ?_;refine lZ ?_;refine Dr.l (λhE h=>C.Gd FP rfl h) ?_;refine FO ?_;refine Ch.m 11 (aW λe aa hk=>?_);refine C.al rfl (λb4=>hk _ _ .cons ?_);refine Ch.m 12 (aW λe aa hk=>?_);refine C.pd rfl (hk _ undef ?_);refine eQ ?_;cases ts:(aB s.done m.tx)
  ·refine C.dx (cG 20 0 8++[(19,8)]++[(28,9),(29,10)]++[(6,11)]++[(7,13)]) 14 [11,12] 1 ?_;refine lZ ?_;refine Dr.l (λhE h=>C.Ge ts rfl h) ?_;refine FO ?_;refine Ch.m 11 (aW λe aa hk=>?_);refine C.al rfl (λb6=>hk _ _ .cons ?_);refine Ch.m 12 (aW λe aa hk=>?_);refine C.pd rfl (hk _ undef ?_);refine Ch.fin ?_;refine jr ?_;refine dD ?_;refine cU.cls s ?_;refine C.vL (cG 57 0 14) 14 [12,13] 2 ?_ (W:=[lM b3 m,a7 I]);refine gg ?_;refine lS ?_;refine Dr.p (λh=>C.mi rfl h) ?_;refine Dr.chain rfl ?_ (λ_ s=>bZ.sat bZ.au s);refine Ch.m 12 (aW λe aa hk=>?_);refine C.cE (nq (s:=s) (en:=.kD m.tx m.yes) az) ?_;refine bM ?_;refine hk _ _ lu ?_;refine Ch.m 13 (aW λe aa hk=>?_);refine C.dv (oV (s:={s with log:=s.log++[.kD m.tx m.yes]}) (hJ.yt (e:=.kD m.tx m.yes) trivial) wh) ?_;rintro v aN rfl;refine bM ?_;refine hk _ _ lu ?_;refine Um ?_;refine C.dv (iG (s:=QS s m.tx m.yes) (m:=⟨{bj with kind:=5,to:=m.aU,tx:=m.tx},aG,aG⟩) (by show s.waits.length<_;omega)) ?_;rintro v aN rfl;refine k6 ?_;refine C.cX aJ aj ⟨I,_,Sub.refl _,((hJ.yt (e:=.kD m.tx m.yes) trivial).fin m.tx m.yes s.log.length).wait (jX.nil I {bj with kind:=5,aU:=s.me,to:=m.aU,tx:=m.tx} rfl rfl),?_,hC.same rfl rfl,rfl⟩;rw[uA (oC FP)];refine xa ?_ (yw s m.toMsgR);simp only[iw,dE.abs,eF,iJ,m1]
  ·rename_i Yf;refine C.dx (cG 20 0 8++[(19,8)]++[(28,9),(29,10)]++[(6,11)]++[(7,13)]) 14 [11,12] 1 ?_;refine lZ ?_;refine Dr.l (λhE h=>C.Gd ts rfl h) ?_;refine FO ?_;refine Ch.m 11 (aW λe aa hk=>?_);refine C.al rfl (λb6=>hk _ _ .cons ?_);refine Ch.m 12 (aW λe aa hk=>?_);refine C.pd rfl (hk _ undef ?_);refine Ch.fin ?_;refine jr ?_;refine dD ?_;refine cU.cls s ?_;refine C.vL (cG 57 0 14) 14 [12,13] 2 ?_ (W:=[lM b3 m,a7 I]);refine gg ?_;refine lS ?_;refine Dr.p (λh=>C.mi rfl h) ?_;refine Dr.chain rfl ?_ (λ_ s=>bZ.sat bZ.au s);refine Ch.m 12 (aW λe aa hk=>?_);refine C.cE (nq (s:=s) (en:=.kD m.tx m.yes) az) ?_;refine bM ?_;refine hk _ _ lu ?_;refine Ch.m 13 (aW λe aa hk=>?_);refine C.dv (oV (s:={s with log:=s.log++[.kD m.tx m.yes]}) (hJ.yt (e:=.kD m.tx m.yes) trivial) wh) ?_;rintro v aN rfl;refine bM ?_;refine hk _ _ lu ?_;refine Um ?_;refine C.dv (iG (s:=QS s m.tx m.yes) (m:=⟨{bj with kind:=5,to:=m.aU,tx:=m.tx},aG,aG⟩) (by show s.waits.length<_;omega)) ?_;rintro v aN rfl;refine k6 ?_;refine C.cX aJ aj ⟨I,_,Sub.refl _,((hJ.yt (e:=.kD m.tx m.yes) trivial).fin m.tx m.yes s.log.length).wait (jX.nil I {bj with kind:=5,aU:=s.me,to:=m.aU,tx:=m.tx} rfl rfl),?_,hC.same rfl rfl,rfl⟩;rw[uA (oC FP)];refine xa ?_ (yw s m.toMsgR);simp only[iw,dE.abs,eF,iJ,m1]
variable{F:List HP}{l:List (Int×e8)}{tx:Int}{u:e8}
theorem uC(hg:aB l tx=some u)(hf:Fo (all (l.map sV)) As L)(h:At R d (Es u (all ((ee l tx).map sV)::L)) g):At R d As g:=
 An (f:=sV) hg hf λH s=>h H (Sat.flat (l:=Es u []) s)
theorem gY(u:e8)(hr:dB (Es u [all ((ee l tx).map sV)]) As L)(h:At R d (all ((bA l tx u).map sV)::L) g):At R d As g:=
 At.perm hr.perm λH s=>(DR (f:=sV) (m:=l) (k:=tx) u (.cons .head (.cons .head .nil)) h) H (Sat.fS (l:=Es u []) s)
theorem EB(u:e8)(hg:aB l tx=none)(hr:dB (Es u [all (l.map sV)]) As L)(h:At R d (all ((bA l tx u).map sV)::L) g):At R d As g:=gY u (by rw[Ao hg];exact hr) h
theorem AH{V:Type}{k:Int}{v:V}:∀ {l:List (Int×V)},ee (bA l k v) k=ee l k
 |[]=>by simp[bA,ee]
 |p::l=>by
  unfold bA ee;by_cases h:p.1=k
  ·simp[h]
  ·simp only[ao h];rw[AH (l:=l)]
theorem J5{s:dT}{m:MsgR}(h:aB s.cg m.tx=none):xF s m=s:=by unfold xF;rw[h]
theorem vo{s:dT}{m:MsgR}{u:ll}(h:aB s.cg m.tx=some u):xF s m=if !u.dec then s else if(bA u.bG m.aU ((aB u.bG m.aU).getD 0+1)).length=(dg u.ops s.n).length then{s with cg:=ee s.cg m.tx}else{s with cg:=bA s.cg m.tx {u with bG:=bA u.bG m.aU ((aB u.bG m.aU).getD 0+1)}}:=by unfold xF;rw[h];simp only[AH]
abbrev QT(u:e8)(k:Int):e8:={u with bG:=bA u.bG k ((aB u.bG k).getD 0+1)}
theorem J6{I:HL}{b:Nat}{s:dE}{m:cm}{o a:Int}(hJ:ShJ I s)(hb:pI s)(hC:wx o a s):
  aD prog ak bQ 174 #[aF b,qy m] [cU b s,a7 I] (gv b I (o+1) (a+1) (xF s.abs m.toMsgR)):=by
 refine aD.of λR C kd d F c cs aJ aj=>?_;refine bM ?_;refine cU.opn (h:=λlg wt ot tm bv bl bp bd be bu tl ht=>?_);refine bJ ?_;refine C.bx rfl (λb3=>?_);refine C.go ?_;cases oy:(aB s.cg m.tx)
 ·refine C.dx (cG 5 0 8++[(4,8)]) 9 [] 0 ?_;refine lZ ?_;refine Dr.l (λhE h=>C.Ge oy rfl h) ?_;refine xY ?_;refine Ch.fin ?_;refine zC ?_;refine cU.cls s ?_;refine C.bk aJ aj ⟨I,s,Sub.refl _,hJ,(J5 (qC oy)).symm,hC.same rfl rfl,rfl⟩
 ·rename_i uS;refine C.dx (cG 5 0 8++[(4,8)]) 9 [] 0 ?_;refine lZ ?_;refine Dr.l (λhE h=>C.Gd oy rfl h) ?_;refine xY ?_;refine eQ ?_;refine uC oy Fo.au ?_;have eN:=bT oy;have cJ:=hb.yp _ eN;have SQ:=hb.bG _ eN;have NX:=hJ.cg _ eN;have hk:0<=(aB uS.bG m.aU).getD 0/\(aB uS.bG m.aU).getD 0<2^61:=by
   cases hg:aB uS.bG m.aU with
   |none=>simp
   |some v=>exact SQ _ (bT hg)
  have tX:=sY uS.bG m.aU;refine dV ?_;refine C.SH rfl (λhd=>?_) (λhd=>?_)
  ·refine cW ?_;refine C.dx (cG 22 0 8) 9 [8] 0 ?_;refine rR ?_;refine Dr.l (λhE h=>C.FM tX rfl h) ?_;refine xY ?_;refine Ch.m 8 (aW λe aa hk=>?_);refine C.mu (w:=(aB uS.bG m.aU).getD 0+1) (l:=uS.bG) (q:=m.aU) rfl (hk _ undef ?_);refine eQ ?_;by_cases h45:((bA uS.bG m.aU ((aB uS.bG m.aU).getD 0+1)).length:Int)=((dg uS.ops s.n).length:Int)
   ·refine C.dx (cG 30 0 16) 16 [13,14,15] 0 ?_;refine JK ?_;refine Ch.m 13 (aW λe aa hk=>?_);refine C.dv (mR (n:=s.n) NX.o cJ hb.n.1) ?_;rintro v aN ⟨bm,I1,pm,rfl,fp,UH, -,rfl⟩;refine bM ?_;have wh:pm.length=(dg uS.ops s.n).length:=by rw[<- UH];unfold vP;rw[cV]
    refine hk _ _ ?_;refine Ch.m 14 (aW λe aa hk=>?_);refine fI ?_;rw[wh];refine hk _ _ ?_;refine Ch.q 15 (λh=>C.fe rfl h (hf:=h45)) ?_;refine ru ?_;refine C.dx (cG 46 0 7) 8 [7] 0 ?_;refine Qu ?_;refine Ch.m 7 (aW λe aa hk=>?_);refine C.dl rfl (hk _ undef ?_);refine eQ ?_;refine cU.cls {s with cg:=ee s.cg m.tx} ?_;have hl:(bA uS.bG m.aU ((aB uS.bG m.aU).getD 0+1)).length=(dg uS.ops s.n).length:=az;refine C.cX aJ aj ⟨I1,{s with cg:=ee s.cg m.tx},fp,⟨(hJ.mono fp).log,(hJ.mono fp).pend,λu hu=>(hJ.mono fp).cg u (xU hu),(hJ.mono fp).waits,(hJ.mono fp).out⟩,?_,⟨by have:=hC.z;omega,by have:=hC.o;show 0<=s.order/\s.order<=o+1;omega,λu hu p hp=>by have:=hC.a u (xU hu) p hp;omega⟩,rfl⟩;rw[show xF s.abs m.toMsgR=_ from(vo (jG oy)).trans ((ao (by show¬ (!uS.dec)=true;rw[hd];decide)).trans (aK hl))];simp only[dE.abs,DT]
   ·refine C.dx (cG 30 0 16) 16 [13,14,15] 0 ?_;refine JK ?_;refine Ch.m 13 (aW λe aa hk=>?_);refine C.dv (mR (n:=s.n) NX.o cJ hb.n.1) ?_;rintro v aN ⟨bm,I1,pm,rfl,fp,UH, -,rfl⟩;refine bM ?_;have wh:pm.length=(dg uS.ops s.n).length:=by rw[<- UH];unfold vP;rw[cV]
    refine hk _ _ ?_;refine Ch.m 14 (aW λe aa hk=>?_);refine fI ?_;rw[wh];refine hk _ _ ?_;refine Ch.q 15 (λh=>C.dP rfl h (hf:=h45)) ?_;refine ru ?_;refine gY (QT uS m.aU) dB.au ?_;rw[<- qW (g:=yj) (u1:=(QT uS m.aU)) oy rfl];refine cU.cls {s with cg:=bA s.cg m.tx (QT uS m.aU)} ?_;have hl:¬ (bA uS.bG m.aU ((aB uS.bG m.aU).getD 0+1)).length=(dg uS.ops s.n).length:=az;refine C.cX aJ aj ⟨I1,{s with cg:=bA s.cg m.tx (QT uS m.aU)},fp,⟨(hJ.mono fp).log,(hJ.mono fp).pend,λu hu=>?_,(hJ.mono fp).waits,(hJ.mono fp).out⟩,?_,⟨by have:=hC.z;omega,by have:=hC.o;show 0<=s.order/\s.order<=o+1;omega,λu hu p hp=>?_⟩,rfl⟩
    ·rcases dY hu with rfl|hu
     ·exact⟨(NX.mono fp).o,(NX.mono fp).r,NX.z⟩
     ·exact(hJ.mono fp).cg u hu
    ·rw[show xF s.abs m.toMsgR=_ from(vo (jG oy)).trans ((ao (by show¬ (!uS.dec)=true;rw[hd];decide)).trans (ao hl))];simp only[dE.abs,kj];rfl
    ·rcases dY hu with rfl|hu
     ·rcases dY hp with rfl|hp
      ·have h1:(aB uS.bG m.aU).getD 0<=a\/(aB uS.bG m.aU).getD 0=0:=by
        cases hg:aB uS.bG m.aU with
        |none=>exact .inr rfl
        |some v=>exact .inl (hC.a _ eN _ (bT hg)).2
       have h2:=hC.z;dsimp only;omega
      ·have:=hC.a _ eN p hp;omega
     ·have:=hC.a u hu p hp;omega
  ·refine cW ?_;refine gY uS dB.au ?_;rw[gw oy];refine cU.cls s ?_;refine C.bk aJ aj ⟨I,s,Sub.refl _,hJ,?_,hC.same rfl rfl,rfl⟩;rw[show xF s.abs m.toMsgR=_ from(vo (jG oy)).trans (aK (by show(!uS.dec)=true;rw[hd];rfl))]
def uD(m:MsgR):MsgR:={bj with kind:=3,to:=m.aU,tx:=m.tx}
theorem yx{s:dT}{m:MsgR}{p:xE}(h:aB s.pend m.tx=some p):fH s m=if p.pl<s.aX then eJ s {uD m with yes:=true,reads:=g9 s.values p.ops}else s:=by unfold fH;rw[h];rfl
theorem yy{s:dT}{m:MsgR}{d:iF}(h:aB s.pend m.tx=none)(h2:aB s.done m.tx=some d):fH s m=if d.yes then s else eJ s (uD m):=by unfold fH;rw[h,h2];rfl
theorem EC{s:dT}{m:MsgR}(h:aB s.pend m.tx=none)(h2:aB s.done m.tx=none):fH s m=if m.ops.any (λo=>(aB s.aH o.k).isSome)then eJ s (uD m)else
  jq (iw (rO {s with log:=s.log++[.eZ m.tx m.aU m.ops]} m.tx m.aU m.ops s.log.length) {uD m with yes:=true,reads:=g9 s.values m.ops}) m.tx 3 false:=by unfold fH;rw[h,h2];rfl
theorem ShJ.hold{I:HL}{s:dE}(h:ShJ I s){tx home pl:Int}{ops:List cr}{so:ay}(ho:dS I cF 67 so ops):ShJ I (Ez s tx home ops so pl):=⟨h.log,λp hp=>by
 rcases dY hp with rfl|hp
 ·exact ho
 ·exact h.pend p hp,h.cg,h.waits,h.out⟩
abbrev ED(s:dE)(m:cm):dE:=Ez {s with log:=s.log++[.eZ m.tx m.aU m.ops m.so]} m.tx m.aU m.ops m.so s.log.length
abbrev NY(s:dE)(m:cm)(sv:ay):dE:={ED s m with waits:=s.waits++[⟨{uD m.toMsgR with aU:=s.me,yes:=true,reads:=g9 s.values m.ops},aG,sv⟩]}
theorem J7(s:dE)(m:cm)(sv:ay):(NY s m sv).abs=iw (rO {s.abs with log:=s.abs.log++[.eZ m.tx m.aU m.ops]} m.tx m.aU m.ops s.abs.log.length) {uD m.toMsgR with yes:=true,reads:=g9 s.abs.values m.ops}:=by
 have e1:=J1 {s with log:=s.log++[.eZ m.tx m.aU m.ops m.so]} m.tx m.aU m.ops m.so s.log.length;have e2:rO {s.abs with log:=s.abs.log++[.eZ m.tx m.aU m.ops]} m.tx m.aU m.ops s.abs.log.length=(ED s m).abs:=by
  rw[e1]
  congr 1
  ·simp[dE.abs,jg.abs]
  ·simp[dE.abs]
 rw[e2];simp[iw,dE.abs]
theorem AJ(V:List (Int×Int))(ops:List cr):(g9 V ops).length<=ops.length:=by unfold g9;rw[cV];exact m8 _ _
theorem zH{I:HL}{b:Nat}{s:dE}{m:cm}{o a:Int}(hJ:ShJ I s)(hb:pI s)(hC:wx o a s)(hM:jX I m)(hO:jf m.ops):
  aD prog ak bQ 171 #[aF b,qy m] [cU b s,a7 I] (gv b I (o+1) (a+1) (fH s.abs m.toMsgR)):=by
 have ks:=hb.log;have iW:=hb.out;have BU:=hb.waits;have UI:=hb.clock;have UJ:=hb.order;have Po:=hb.timers;have Wq:=hO.2;have Yg:=hM.o;have hzm:(g9 s.values m.ops).length<2^20:=C7 (AJ ..) hO.2;refine aD.of λR C kd d F c cs aJ aj=>?_;refine bM ?_;refine cU.opn (h:=λlg wt ot tm bv bl bp bd be bu tl ht=>?_);refine bJ ?_;refine C.bx rfl (λb3=>?_);refine dV ?_;refine C.al rfl (λb4=>?_);refine bJ ?_;cases FQ:(aB s.pend m.tx)
 ·refine C.dx (cG 19 0 8++[(18,8)]++[(27,9),(28,10)]++[(5,11)]++[(6,13)]) 14 [11,12] 1 ?_;refine lZ ?_;refine Dr.l (λhE h=>C.Ge FQ rfl h) ?_;refine FO ?_;refine Ch.m 11 (aW λe aa hk=>?_);refine C.al rfl (λb5=>hk _ _ .cons ?_);refine Ch.m 12 (aW λe aa hk=>?_);refine C.pd rfl (hk _ undef ?_);refine zD ?_;cases J8:(aB s.done m.tx)
  ·refine C.dx (cG 47 0 8++[(46,8)]++[(55,9),(56,10)]++[(7,11)]++[(8,13)]) 14 [11,12] 1 ?_;refine lZ ?_;refine Dr.l (λhE h=>C.Ge J8 rfl h) ?_;refine FO ?_;refine Ch.m 11 (aW λe aa hk=>?_);refine C.al rfl (λb7=>hk _ _ .cons ?_);refine Ch.m 12 (aW λe aa hk=>?_);refine C.pd rfl (hk _ undef ?_);refine Ch.fin ?_;refine m4 ?_;refine C.cx (X:=Nat) (λi=>[(0,aF b),(3,aF b3),(4,aF b4),(65,m.so.v),(66,aI m.ops.length),(67,aI i)]) (λi=>bR b4 (.cells #[aI 3,aI 0,aI m.aU,aI m.tx,.bool false,.slice none 0 0,.slice none 0 0] 190 (0,0))::lM b3 m::SX b s lg wt ot tm bv bl bp bd be bu tl (a7 I::F)) (λi=>i<=m.ops.length/\∀ j (hj:j<m.ops.length),j<i->aB s.aH m.ops[j].k=none) (λi=>m.ops.length-i) 0 ⟨rfl,rfl,rfl,rfl,rfl,rfl,trivial⟩ ⟨eK _,λj _ hj=>absurd hj (Nat.not_lt_zero _)⟩ ?_;rintro i e ⟨hi,pa⟩ ih;refine bJ ?_;refine C.cmp rfl (λIB=>?_) (λIB=>?_)
   ·refine bJ ?_;have cN:i<m.ops.length:=by simpa using IB
    refine bJ ?_;refine C.mE rfl (λhj=>?_);refine C.al rfl (λUC=>?_);refine C.pd rfl ?_ (hv:=λv h=>fC.one (f:=cF) m.ops[i] v (by simpa using h));refine C.go ?_;cases Lt:(aB s.aH (m.ops[i]'cN).k)
    ·refine C.dx (cG 72 0 8++[(71,8)]++[(80,9),(81,10)]++[(11,11),(12,12)]) 13 [] 0 ?_;refine lZ ?_;refine Dr.l (λhE h=>C.Ge Lt rfl h) ?_;refine Nt ?_;refine Ch.fin ?_;refine kL ?_;refine again ih (i+1) ⟨cN,λj hj Eh=>?_⟩ az;rcases mq.1 Eh with h|rfl
     ·exact pa j hj h
     ·exact Lt
    ·rename_i w79;refine C.dx (cG 72 0 8++[(71,8)]++[(80,9),(81,10)]++[(11,11),(12,12)]) 13 [] 0 ?_;refine lZ ?_;refine Dr.l (λhE h=>C.Gd Lt rfl h) ?_;refine Nt ?_;refine zD ?_;refine cU.cls s ?_;refine dN ?_;refine C.dv (fY (s:=s) (m:=⟨uD m.toMsgR,aG,aG⟩) az) ?_;rintro v aN rfl;refine k6 ?_;refine C.bk aJ aj ⟨I,{s with out:=s.out++[⟨{uD m.toMsgR with aU:=s.me},aG,aG⟩]},Sub.refl _,hJ.outs (jX.nil I _ rfl rfl),?_,hC.same rfl rfl,rfl⟩;rw[show fH s.abs m.toMsgR=_ from(EC (ji FQ) J8).trans (aK (m6.2 ⟨_,br cN,by show(aB s.aH (m.ops[i]'cN).k).isSome=true;rw[Lt];rfl⟩))];simp[eJ,dE.abs]
   ·refine bJ ?_;have zq:m.ops.any (λo=>(aB s.aH o.k).isSome)=false:=by rw[List.any_eq_false];intro o ho;obtain⟨j,hj,rfl⟩:=jx ho;rw[pa j hj az];decide
    have za:ShJ I (ED s m):=(hJ.yt (e:=.eZ m.tx m.aU m.ops m.so) ⟨hM.o,hO.2⟩).hold hM.o;refine cU.cls s ?_;refine C.vL (cG 87 0 18) 18 [16,17] 2 ?_ (W:=[lM b3 m,a7 I]);refine gg ?_;refine Nr ?_;refine Dr.p (λh=>C.mi rfl h) ?_;refine Dr.chain rfl ?_ (λ_ s=>bZ.sat bZ.au s);refine Ch.m 16 (aW λe aa hk=>?_);refine C.cE (nq (s:=s) (en:=.eZ m.tx m.aU m.ops m.so) az) ?_;refine bM ?_;refine hk _ _ lu ?_;refine Ch.m 17 (aW λe aa hk=>?_);refine C.dv (GU (s:={s with log:=s.log++[.eZ m.tx m.aU m.ops m.so]}) hM.o hO) ?_;rintro v aN rfl;refine bM ?_;refine hk _ _ lu ?_;refine zD ?_;refine C.dv (yr (s:=ED s m) hM.o hO) ?_;rintro v aN ⟨QU,rfl,rfl⟩;refine JH ?_;refine C.dv (iG (s:=ED s m) (m:=⟨{uD m.toMsgR with yes:=true,reads:=g9 s.values m.ops},aG,QU⟩) (by show s.waits.length<_;omega)) ?_;rintro v aN rfl;refine ve ?_;refine C.dv (ly (ticks:=3) (s:=NY s m QU) (by show s.timers.length<_;omega) (by show 0<=s.order/\s.order<_;omega) (by show 0<=s.clock/\s.clock<_;omega) (by decide)) ?_;rintro v aN rfl;refine k6 ?_;refine At.Gk (I:=I) (s:=QU) (f:=da) Fo.au Fo.au λI1 fp UK=>?_;refine C.cX aJ aj ⟨I1,nQ (NY s m QU) m.tx 3 false,fp,?_,?_,⟨by have:=hC.z;omega,by have:=hC.o;show 0<=s.order+1/\s.order+1<=o+1;omega,λu hu p hp=>by have:=hC.a u hu p hp;omega⟩,rfl⟩
    ·have h1:=(za.mono fp).wait (m:=⟨{uD m.toMsgR with aU:=s.me,yes:=true,reads:=g9 s.values m.ops},aG,QU⟩) ⟨.nil ..,UK,by first|exact Yh|exact hzm⟩;exact⟨h1.log,h1.pend,h1.cg,h1.waits,h1.out⟩
    ·rw[show fH s.abs m.toMsgR=_ from(EC (ji FQ) J8).trans (ao (by show¬ m.ops.any (λo=>(aB s.aH o.k).isSome)=true;rw[zq];decide))];rw[oU,J7]
  ·rename_i w54;refine C.dx (cG 47 0 8++[(46,8)]++[(55,9),(56,10)]++[(7,11)]++[(8,13)]) 14 [11,12] 1 ?_;refine lZ ?_;refine Dr.l (λhE h=>C.Gd J8 rfl h) ?_;refine FO ?_;refine Ch.m 11 (aW λe aa hk=>?_);refine C.al rfl (λb7=>hk _ _ .cons ?_);refine Ch.m 12 (aW λe aa hk=>?_);refine C.pd rfl (hk _ undef ?_);refine Ns ?_;refine C.SH rfl (λhd=>?_) (λhd=>?_)
   ·refine dN ?_;refine cU.cls s ?_;refine C.bk aJ aj ⟨I,s,Sub.refl _,hJ,?_,hC.same rfl rfl,rfl⟩;rw[show fH s.abs m.toMsgR=_ from(yy (ji FQ) J8).trans (aK hd)]
   ·refine dN ?_;refine cU.cls s ?_;refine dN ?_;refine C.dv (fY (s:=s) (m:=⟨uD m.toMsgR,aG,aG⟩) az) ?_;rintro v aN rfl;refine k6 ?_;refine C.bk aJ aj ⟨I,{s with out:=s.out++[⟨{uD m.toMsgR with aU:=s.me},aG,aG⟩]},Sub.refl _,hJ.outs (jX.nil I _ rfl rfl),?_,hC.same rfl rfl,rfl⟩;rw[show fH s.abs m.toMsgR=_ from(yy (ji FQ) J8).trans (ao (by rw[hd];decide))];simp[eJ,dE.abs]
 ·rename_i ZL;refine C.dx (cG 19 0 8++[(18,8)]++[(27,9),(28,10)]++[(5,11)]++[(6,13)]) 14 [11,12] 1 ?_;refine lZ ?_;refine Dr.l (λhE h=>C.Gd FQ rfl h) ?_;refine FO ?_;refine Ch.m 11 (aW λe aa hk=>?_);refine C.al rfl (λb5=>hk _ _ .cons ?_);refine Ch.m 12 (aW λe aa hk=>?_);refine C.pd rfl (hk _ undef ?_);refine zD ?_;by_cases S2:ZL.pl<s.aX
  ·refine C.dx (cG 30 0 7) 7 [] 0 ?_;refine rR ?_;refine Dr.p (λh=>C.fe rfl h (hf:=S2)) ?_;refine Dr.chain rfl ?_;refine ru ?_;refine cU.cls s ?_;have ZM:=hJ.pend _ (bT FQ);have hpb:=hb.Ye _ _ FQ;have Yh:(g9 s.values ZL.ops).length<2^20:=C7 (AJ ..) hpb.2;refine cW ?_;refine C.dv (yr (s:=s) ZM hpb) ?_;rintro v aN ⟨QU,rfl,rfl⟩;refine JH ?_;refine C.dv (fY (s:=s) (m:=⟨{uD m.toMsgR with yes:=true,reads:=g9 s.values ZL.ops},aG,QU⟩) az) ?_;rintro v aN rfl;refine k6 ?_;refine At.Gk (I:=I) (s:=QU) (f:=da) Fo.au Fo.au λI1 fp UK=>?_;refine C.bk aJ aj ⟨I1,{s with out:=s.out++[⟨{uD m.toMsgR with aU:=s.me,yes:=true,reads:=g9 s.values ZL.ops},aG,QU⟩]},fp,(hJ.mono fp).outs ⟨.nil ..,UK,by first|exact Yh|exact hzm⟩,?_,hC.same rfl rfl,rfl⟩;rw[show fH s.abs m.toMsgR=_ from(yx (oC FQ)).trans (aK S2)];simp[eJ,dE.abs,sR.abs]
  ·refine C.dx (cG 30 0 7) 7 [] 0 ?_;refine rR ?_;refine Dr.p (λh=>C.dP rfl h (hf:=S2)) ?_;refine Dr.chain rfl ?_;refine ru ?_;refine cU.cls s ?_;refine C.bk aJ aj ⟨I,s,Sub.refl _,hJ,?_,hC.same rfl rfl,rfl⟩;rw[show fH s.abs m.toMsgR=_ from(yx (oC FQ)).trans (ao S2)]
theorem oW{I:HL}{so:ay}{ops:List Int}(ho:dS I da 21 so ops)(hl:ops.length<2^43):aD prog ak bQ 79 #[so.v] [a7 I] (λv As=>∃ s',v=s'.v/\As=[a9 da 1 21 s' ops,a7 I]):=by
 refine aD.of λR C kd d F c cs aJ aj=>?_;refine bM ?_;rcases ho with⟨rfl,rfl⟩|⟨pad,h1,h2⟩
 ·refine dH ?_;refine C.SG rfl ?_ (a:=none) (len:=0) (cap:=0);refine dD ?_;refine At.aG da 1 21 ?_;exact C.bk aJ aj ⟨aG,rfl,rfl⟩
 ·have ho:dS I da 21 so ops:=.inr ⟨pad,h1,h2⟩;have hv:so.v=.slice (some ⟨so.b,0,none⟩) so.len so.cap:=by unfold ay.v;rw[show so.a=some ⟨so.b,0,none⟩from congrArg ay.a h1]
  refine dH ?_;refine C.SG rfl ?_ (a:=some ⟨so.b,0,none⟩) (len:=so.len) (cap:=so.cap) (hx:=hv);refine dN ?_;refine C.ZA da rfl (λb5=>?_);refine fI ?_;refine C.Dw (l:=[]) ops rfl (λs'=>?_) (hsrc:=λH st=>?_) (s:=⟨some ⟨b5,0,none⟩,0,0⟩)
  ·refine bJ ?_;exact C.bk aJ aj ⟨s',rfl,rfl⟩
  ·exact dt.src (dt.a7 Fo.au ho) st (λj=>rfl)
theorem jg.J.small{I:HL}{e:jg}(h:e.J I):e.abs.a8.reads.length<2^20:=by
 cases e with
 |eZ tx home ops so=>exact m9 20
 |dec tx yes reads sr=>exact h.2
 |kD tx yes=>exact m9 20
abbrev QK(r:RecR)(so sr:ay):Value:=.agg #[aI r.kind,aI r.tx,.bool r.yes,aI r.home,so.v,sr.v]
def QV(I:HL)(e:jg):Value->List HP->Prop:=λv As=>∃ so sr:ay,v=QK e.abs.a8 so sr/\As=[a9 cF 3 67 so e.abs.a8.ops,a9 da 1 21 sr e.abs.a8.reads,a7 I]
theorem J9{I:HL}{tx home:Int}{ops:List cr}{so:ay}(ho:dS I cF 67 so ops)(hl:ops.length<2^43):
  aD prog ak bQ 276 #[(jg.eZ tx home ops so).pay] [a7 I] (QV I (.eZ tx home ops so)):=by
 refine aD.of λR C kd d F c cs aJ aj=>?_;refine jK ?_;refine C.bx rfl (λb1=>?_);refine C.al rfl (λb2=>?_);refine C.go ?_;refine C.vL (cG 3 0 8) 9 [6,7,8] 2 ?_ (W:=[bR b1 (.cells #[aI tx,aI home,so.v] 274 (0,0))]);refine rR ?_;refine Dr.chain rfl ?_ (λ_ s=>bZ.sat bZ.au s);refine Ch.m 6 (aW λe aa hk=>?_);refine C.dv (sW ho hl) ?_;rintro v aN ⟨s9,rfl,rfl⟩;refine bM ?_;refine hk _ _ lu ?_;refine Ch.q 7 (λh=>C.bd rfl h) ?_;refine Ch.m 8 (aW λe aa hk=>?_);refine fI ?_;refine hk _ undef lu ?_;refine eQ ?_;refine At.aG da 1 21 ?_;exact C.Qm (xs:=#[aI 1,aI tx,.bool false,aI home,s9.v,.slice none 0 0]) (A:=[a9 cF 3 67 s9 ops,a9 da 1 21 aG [],a7 I]) rfl aJ aj ⟨s9,aG,rfl,rfl⟩
theorem Ka{I:HL}{tx:Int}{yes:Bool}{reads:List Int}{so:ay}(ho:dS I da 21 so reads)(hl:reads.length<2^43):
  aD prog ak bQ 277 #[(jg.dec tx yes reads so).pay] [a7 I] (QV I (.dec tx yes reads so)):=by
 refine aD.of λR C kd d F c cs aJ aj=>?_;refine jK ?_;refine C.bx rfl (λb1=>?_);refine C.al rfl (λb2=>?_);refine C.go ?_;refine C.vL (cG 3 0 8) 9 [6,7,8] 2 ?_ (W:=[bR b1 (.cells #[aI tx,.bool yes,so.v] 277 (0,0))]);refine rR ?_;refine Dr.chain rfl ?_ (λ_ s=>bZ.sat bZ.au s);refine Ch.m 6 (aW λe aa hk=>?_);refine C.dv (oW ho hl) ?_;rintro v aN ⟨s9,rfl,rfl⟩;refine bM ?_;refine hk _ _ lu ?_;refine Ch.q 7 (λh=>C.bd rfl h) ?_;refine Ch.m 8 (aW λe aa hk=>?_);refine fI ?_;refine hk _ undef lu ?_;refine eQ ?_;refine At.aG cF 3 67 ?_;exact C.Qm (xs:=#[aI 2,aI tx,.bool yes,aI 0,.slice none 0 0,s9.v]) (A:=[a9 cF 3 67 aG [],a9 da 1 21 s9 reads,a7 I]) rfl aJ aj ⟨aG,s9,rfl,rfl⟩
theorem Kb{I:HL}{tx:Int}{yes:Bool}:
  aD prog ak bQ 278 #[(jg.kD tx yes).pay] [a7 I] (QV I (.kD tx yes)):=by
 refine aD.of λR C kd d F c cs aJ aj=>?_;refine jK ?_;refine C.bx rfl (λb1=>?_);refine C.al rfl (λb2=>?_);refine kL ?_;refine At.aG da 1 21 (At.aG cF 3 67 ?_);exact C.Qm (xs:=#[aI 3,aI tx,.bool yes,aI 0,.slice none 0 0,.slice none 0 0]) (A:=[a9 cF 3 67 aG [],a9 da 1 21 aG [],a7 I]) rfl aJ aj ⟨aG,aG,rfl,rfl⟩
theorem UL{v:Value}:fD prog (method (prog.types.size+Made.depth) 274 v "shardlog/shard.record")=some (276,v):=by kernel_rfl
theorem UM{v:Value}:fD prog (method (prog.types.size+Made.depth) 277 v "shardlog/shard.record")=some (277,v):=by kernel_rfl
theorem UN{v:Value}:fD prog (method (prog.types.size+Made.depth) 281 v "shardlog/shard.record")=some (278,v):=by kernel_rfl
variable{fn:bI}{kd:Kd}{n:Nat}{e:Nat->Value}{ds:List dQ}{k:List Item}{cs:List Frame}
variable{ops:Array Oper}{i:Nat}{aa:List Nat}{dst:Option Nat}{ty:aQ}{pos:String}{af:Array Edge}{gd:Option (Nat×Bool)}
set_option maxRecDepth 100000 in
theorem ab.enr(C:ab prog ak bQ R){recv:cA}{fU:Array aQ}{I:HL}{en:jg}(hJ:en.J I)
  (h:∀ v aN,QV I en v aN->At R d (aN++F) (gr fn kd n (cS e dst v) ds (.inRegion ops aa::k) cs)) (ho:aZ ops i=some ⟨dst,.call ⟨.invoke recv "shardlog/shard.record",#[],fU⟩,ty,pos,af,gd⟩:=by rfl) (hr:ev n e recv=en.val:=by rfl)
  (hA:dB [a7 I] As F:=by exact dB.au) (hw:aM ops n e gd=true:=by rfl):At R d As (gr fn kd n e ds (.inRegion ops (i::aa)::k) cs):=by
 cases en with
 |eZ tx home ops so=>exact C.Wj UL (J9 hJ.1 (by have:=hJ.2;omega)) h ho hr rfl hA hw
 |dec tx yes reads sr=>exact C.Wj UM (Ka hJ.1 (by have:=hJ.2;omega)) h ho hr rfl hA hw
 |kD tx yes=>exact C.Wj UN Kb h ho hr rfl hA hw
theorem vQ{s:dT}{m:MsgR}{d:iF}(h:aB s.cf m.tx=some d):lI s m=if d.pl<s.aX then eJ s {bj with kind:=7,to:= -1,tx:=m.tx,yes:=d.yes,reads:=((s.log[d.pl.toNat]?.map aY.a8).getD eh).reads}else s:=by unfold lI;rw[h]
theorem GV{s:dT}{m:MsgR}(h:aB s.cf m.tx=none)(h2:(aB s.cg m.tx).isSome=true):lI s m=s:=by unfold lI;rw[h];simp only[h2,eM]
def NZ(tx:Int)(z:dT)(k:Int)(p:List cr):dT:=eJ z {bj with kind:=2,to:=k,tx:=tx,ops:=p}
theorem yz{s:dT}{m:MsgR}(h:aB s.cf m.tx=none)(h2:aB s.cg m.tx=none):lI s m=jq (qg {s with cg:=bA s.cg m.tx ⟨m.ops,[],[],false,false⟩} m.ops (NZ m.tx)) m.tx 4 true:=by unfold lI;rw[h,h2];rfl
theorem vR{b b2 b3:Nat}{x:dE}{m:cm}{k:Int}{I:HL}{sp:ay}{part:List cr}(hl:x.out.length<2^31):
  aD prog ak bQ 198 #[aI k,sp.v,aF b2,aF b3] [cU b x,a7 I,bR b2 (.cells #[aF b] 115 (0,0)),lM b3 m]
   (λv As=>As=[cU b {x with out:=x.out++[⟨{bj with kind:=2,aU:=x.me,to:=k,tx:=m.tx,ops:=part},sp,aG⟩]},a7 I,bR b2 (.cells #[aF b] 115 (0,0)),lM b3 m]):=by
 refine aD.of λR C kd d F c cs aJ aj=>?_;refine JH ?_;refine C.dv (fY (s:=x) (m:=⟨{bj with kind:=2,to:=k,tx:=m.tx,ops:=part},sp,aG⟩) az) ?_;rintro v aN rfl;refine k6 ?_;exact C.cX aJ aj rfl
abbrev ZN(b:Nat)(s:dE)(lg wt ot tm:ay)(bv bl bp bd be bu:Nat):HP:=bR b (.cells #[aI s.me,aI s.n,.bool s.up,lg.v,aI s.aX,.map (some bv),.map (some bl),.map (some bp),.map (some bd),.map (some be),.map (some bu),tm.v,aI s.order,aI s.clock,wt.v,ot.v] 180 (0,0))
abbrev IC(b2 b:Nat):HP:=bR b2 (.cells #[aF b] 115 (0,0))
theorem ShJ.Yi{I:HL}{s:dE}(h:ShJ I s){tx:Int}{u:e8}(hu:BQ I u):ShJ I {s with cg:=bA s.cg tx u}:=⟨h.log,h.pend,λp hp=>by
 rcases dY hp with rfl|hp
 ·exact hu
 ·exact h.cg p hp,h.waits,h.out⟩
theorem EE{I:HL}{b:Nat}{s:dE}{m:cm}{o a:Int}(hJ:ShJ I s)(hb:pI s)(hC:wx o a s)(hM:jX I m)(hO:jf m.ops):
  aD prog ak bQ 170 #[aF b,qy m] [cU b s,a7 I] (gv b I (o+1) (a+1) (lI s.abs m.toMsgR)):=by
 have ks:=hb.log;have iW:=hb.out;have UI:=hb.clock;have UJ:=hb.order;have Po:=hb.timers;have Yg:=hM.o;have Wa:=hb.n;refine aD.of λR C kd d F c cs aJ aj=>?_;refine bM ?_;refine cU.opn (h:=λlg wt ot tm bv bl bp bd be bu tl ht=>?_);refine bJ ?_;refine C.bx rfl (λb2=>?_);refine C.bx rfl (λb3=>?_);refine C.go ?_;cases pM:(aB s.cf m.tx)
 ·refine C.dx (cG 7 0 8++[(6,8)]++[(15,9),(16,10)]++[(4,11)]++[(5,13)]) 14 [11,12] 1 ?_;refine lZ ?_;refine Dr.l (λhE h=>C.Ge pM rfl h) ?_;refine FO ?_;refine Ch.m 11 (aW λe aa hk=>?_);refine C.al rfl (λb4=>hk _ _ .cons ?_);refine Ch.m 12 (aW λe aa hk=>?_);refine C.pd rfl (hk _ undef ?_);refine zD ?_;cases Kc:(aB s.cg m.tx)
  ·refine C.dx (cG 42 0 9) 9 [] 0 ?_;refine lZ ?_;refine Dr.l (λhE h=>C.Ge Kc rfl h) ?_;refine Dr.p (λh=>C.JC rfl h) ?_;refine Dr.chain rfl ?_;refine ru ?_;refine C.vL (cG 51 0 13) 14 [9,10,11,12,13] 4 ?_ (W:=[IC b2 b,lM b3 m,ZN b s lg wt ot tm bv bl bp bd be bu]);refine Qq ?_;refine Dr.chain rfl ?_ (λ_ s=>bZ.sat bZ.au s);refine Ch.n2 (t:=9) (u:=10) rfl ?_ ?_
   ·refine aW λe aa hk=>?_;refine C.mm .i64 GG rfl (λPp=>(hk _ _ .cons ?_));refine Ch.m 10 (aW λe aa hk=>?_);refine C.mm .i64 dR rfl (λQW=>(hk _ _ .cons ?_));refine Ch.q 11 (λh=>C.bd rfl h) ?_;refine Ch.m 12 (aW λe aa hk=>?_);refine C.bx rfl (λQX=>hk _ _ .cons ?_);refine Ch.m 13 (aW λe aa hk=>?_);refine C.mu (w:=e8.mk QX m.ops m.so [] Pp [] QW false false) (l:=s.cg) (q:=m.tx) rfl ?_;refine hk _ undef lu ?_;refine eQ ?_;refine EB (l:=s.cg) (tx:=m.tx) (e8.mk QX m.ops m.so [] Pp [] QW false false) Kc dB.au ?_;refine cU.cls {s with cg:=bA s.cg m.tx (e8.mk QX m.ops m.so [] Pp [] QW false false)} ?_;obtain⟨s1,m2⟩:∃ s1:dE,s1={s with cg:=bA s.cg m.tx (e8.mk QX m.ops m.so [] Pp [] QW false false)}:=⟨_,rfl⟩;have za:ShJ I s1:=by rw[m2];exact hJ.Yi ⟨Yg,by simp,by simp⟩
    have Pq:s1.out=s.out:=by rw[m2]
    have xz:s1.n=s.n:=by rw[m2]
    rw[<- m2];refine cW ?_;refine C.mf rfl ?_;refine C.dv (oB (f:=198) (a1:=#[]) (a2:=#[aF b2,aF b3]) (s:=s1) (I:=I) (E:=[IC b2 b,lM b3 m]) (inv:=λk x I'=>∃ o,x={s1 with out:=o}/\o.length<=s.out.length+k/\ShJ I' x) (S0:=NZ m.tx) Yg hO (by rw[xz];exact hb.n) (λI' h=>⟨s1.out,rfl,by rw[Pq];omega,za.mono h⟩) (λk x I' h=>by
     obtain⟨o,h1,h2,h3⟩:=h;exact⟨o,h1,az,h3⟩) (λk x I' sp part rC hk hinv qO eI ID=>by
     obtain⟨o,rfl,h2,h3⟩:=hinv;refine aD.post (vR (part:=part) (by dsimp only;rw[xz]at hk;omega)) λv As h=>⟨_,I',Sub.refl _,⟨_,rfl,?_,h3.outs ⟨qO,.nil ..,by exact m9 20⟩⟩,?_,h⟩
     ·dsimp only;rw[jd,lP];omega
     ·simp[NZ,eJ,dE.abs])) ?_
    rintro v aN ⟨x',I1,fp,⟨o',rfl,po,pX⟩,ku,rfl⟩;refine ve ?_;refine C.dv (ly (ticks:=4) (s:={s1 with out:=o'}) (by rw[m2];show s.timers.length<_;omega) (by rw[m2];show 0<=s.order/\s.order<_;omega) (by rw[m2];show 0<=s.clock/\s.clock<_;omega) (by decide)) ?_;rintro v aN rfl;refine k6 ?_;refine C.cX aJ aj ⟨I1,nQ {s1 with out:=o'} m.tx 4 true,fp,⟨pX.log,pX.pend,pX.cg,pX.waits,pX.out⟩,?_,⟨by have:=hC.z;omega,by have:=hC.o;rw[m2];show 0<=s.order+1/\s.order+1<=o+1;omega,λu hu p hp=>?_⟩,rfl⟩
    ·rw[oU,ku,yz pM (qC Kc)]
     congr 2
     rw[m2];unfold dE.abs;simp only[dT.mk.injEq,w9,mo];exact kj e8.abs s.cg
    ·rw[m2]at hu;rcases dY hu with rfl|hu
     ·cases hp
     ·have:=hC.a u hu p hp;omega
   ·refine aW λe aa hk=>?_;refine C.mm .i64 dR rfl (λQW=>(hk _ _ .cons ?_));refine Ch.m 9 (aW λe aa hk=>?_);refine C.mm .i64 GG rfl (λPp=>(hk _ _ .cons ?_));refine Ch.q 11 (λh=>C.bd rfl h) ?_;refine Ch.m 12 (aW λe aa hk=>?_);refine C.bx rfl (λQX=>hk _ _ .cons ?_);refine Ch.m 13 (aW λe aa hk=>?_);refine C.mu (w:=e8.mk QX m.ops m.so [] Pp [] QW false false) (l:=s.cg) (q:=m.tx) rfl ?_;refine hk _ undef lu ?_;refine eQ ?_;refine EB (l:=s.cg) (tx:=m.tx) (e8.mk QX m.ops m.so [] Pp [] QW false false) Kc dB.au ?_;refine cU.cls {s with cg:=bA s.cg m.tx (e8.mk QX m.ops m.so [] Pp [] QW false false)} ?_;obtain⟨s1,m2⟩:∃ s1:dE,s1={s with cg:=bA s.cg m.tx (e8.mk QX m.ops m.so [] Pp [] QW false false)}:=⟨_,rfl⟩;have za:ShJ I s1:=by rw[m2];exact hJ.Yi ⟨Yg,by simp,by simp⟩
    have Pq:s1.out=s.out:=by rw[m2]
    have xz:s1.n=s.n:=by rw[m2]
    rw[<- m2];refine cW ?_;refine C.mf rfl ?_;refine C.dv (oB (f:=198) (a1:=#[]) (a2:=#[aF b2,aF b3]) (s:=s1) (I:=I) (E:=[IC b2 b,lM b3 m]) (inv:=λk x I'=>∃ o,x={s1 with out:=o}/\o.length<=s.out.length+k/\ShJ I' x) (S0:=NZ m.tx) Yg hO (by rw[xz];exact hb.n) (λI' h=>⟨s1.out,rfl,by rw[Pq];omega,za.mono h⟩) (λk x I' h=>by
     obtain⟨o,h1,h2,h3⟩:=h;exact⟨o,h1,az,h3⟩) (λk x I' sp part rC hk hinv qO eI ID=>by
     obtain⟨o,rfl,h2,h3⟩:=hinv;refine aD.post (vR (part:=part) (by dsimp only;rw[xz]at hk;omega)) λv As h=>⟨_,I',Sub.refl _,⟨_,rfl,?_,h3.outs ⟨qO,.nil ..,by exact m9 20⟩⟩,?_,h⟩
     ·dsimp only;rw[jd,lP];omega
     ·simp[NZ,eJ,dE.abs])) ?_
    rintro v aN ⟨x',I1,fp,⟨o',rfl,po,pX⟩,ku,rfl⟩;refine ve ?_;refine C.dv (ly (ticks:=4) (s:={s1 with out:=o'}) (by rw[m2];show s.timers.length<_;omega) (by rw[m2];show 0<=s.order/\s.order<_;omega) (by rw[m2];show 0<=s.clock/\s.clock<_;omega) (by decide)) ?_;rintro v aN rfl;refine k6 ?_;refine C.cX aJ aj ⟨I1,nQ {s1 with out:=o'} m.tx 4 true,fp,⟨pX.log,pX.pend,pX.cg,pX.waits,pX.out⟩,?_,⟨by have:=hC.z;omega,by have:=hC.o;rw[m2];show 0<=s.order+1/\s.order+1<=o+1;omega,λu hu p hp=>?_⟩,rfl⟩
    ·rw[oU,ku,yz pM (qC Kc)]
     congr 2
     rw[m2];unfold dE.abs;simp only[dT.mk.injEq,w9,mo];exact kj e8.abs s.cg
    ·rw[m2]at hu;rcases dY hu with rfl|hu
     ·cases hp
     ·have:=hC.a u hu p hp;omega
  ·rename_i w49;refine C.dx (cG 42 0 9) 9 [] 0 ?_;refine lZ ?_;refine Dr.l (λhE h=>C.Gd Kc rfl h) ?_;refine Dr.p (λh=>C.JC rfl h) ?_;refine Dr.chain rfl ?_;refine ru ?_;refine cU.cls s ?_;refine C.bk aJ aj ⟨I,s,Sub.refl _,hJ,?_,hC.same rfl rfl,rfl⟩;rw[GV pM (by rw[jG Kc];rfl)]
 ·rename_i UG;refine C.dx (cG 7 0 8++[(6,8)]++[(15,9),(16,10)]++[(4,11)]++[(5,13)]) 14 [11,12] 1 ?_;refine lZ ?_;refine Dr.l (λhE h=>C.Gd pM rfl h) ?_;refine FO ?_;refine Ch.m 11 (aW λe aa hk=>?_);refine C.al rfl (λb4=>hk _ _ .cons ?_);refine Ch.m 12 (aW λe aa hk=>?_);refine C.pd rfl (hk _ undef ?_);refine zD ?_;obtain⟨HZ,Je⟩:=hb.dpl _ _ pM;obtain⟨pl,dy⟩:=UG;dsimp only at HZ Je;obtain⟨j,rfl⟩:=gR HZ;have FL:j<s.log.length:=az;have ZO:=hJ.log _ (br FL);by_cases js:(j:Int)<s.aX
  ·refine C.dx (cG 18 0 7) 7 [] 0 ?_;refine rR ?_;refine Dr.p (λh=>C.fe rfl h (hf:=js)) ?_;refine Dr.chain rfl ?_;refine ru ?_;refine C.vL (cG 25 0 17) 17 [8,11,12,13,14,15,16] 8 ?_ (W:=[IC b2 b,lM b3 m,bR b4 (.cells #[aI (j:Int),.bool dy] 279 (0,0))]);refine gg ?_;refine Dr.chain rfl ?_ (λ_ s=>bZ.sat bZ.au s);refine Ch.m 8 (aW λe aa hk=>?_);refine C.ld rfl (hk _ _ .refl ?_);refine Ch.m 11 (aW λe aa hk=>?_);refine C.kJ rfl (hk _ _ .refl ?_);refine Ch.m 12 (aW λe aa hk=>?_);refine C.nL rfl (hk _ _ .refl ?_);refine Ch.m 13 (aW λe aa hk=>?_);refine C.enr ZO ?_;rintro v aN ⟨so,sr,rfl,rfl⟩;refine bM ?_;refine hk _ _ lu ?_;refine Ch.q 14 (λh=>C.fd (ft:=104) ⟨_,_,underlying167,rfl,rfl,rfl⟩ rfl h) ?_;refine Ch.q 15 (λh=>C.bd rfl h) ?_;refine Ch.m 16 (aW λe aa hk=>?_);refine cU.cls s ?_;refine C.dv (fY (s:=s) (m:=⟨{bj with kind:=7,to:= -1,tx:=m.tx,yes:=dy,reads:=s.log[j].abs.a8.reads},aG,sr⟩) az) ?_;rintro v aN rfl;refine bM ?_;refine hk _ _ lu ?_;refine eQ ?_;refine At.Gk (I:=I) (s:=sr) (f:=da) Fo.au Fo.au λI1 fp hsr=>?_;refine C.bk aJ aj ⟨I1,{s with out:=s.out++[⟨{bj with kind:=7,aU:=s.me,to:= -1,tx:=m.tx,yes:=dy,reads:=s.log[j].abs.a8.reads},aG,sr⟩]},fp,(hJ.mono fp).outs ⟨.nil ..,hsr,ZO.small⟩,?_,hC.same rfl rfl,rfl⟩;rw[show lI s.abs m.toMsgR=_ from(vQ pM).trans (aK js)];have e1:s.abs.log[(j:Int).toNat]? =some s.log[j].abs:=by simp[dE.abs,FL]
   simp only[eJ,dE.abs,g5]at e1⊢;simp[FL]
  ·refine C.dx (cG 18 0 7) 7 [] 0 ?_;refine rR ?_;refine Dr.p (λh=>C.dP rfl h (hf:=js)) ?_;refine Dr.chain rfl ?_;refine ru ?_;refine cU.cls s ?_;refine C.bk aJ aj ⟨I,s,Sub.refl _,hJ,?_,hC.same rfl rfl,rfl⟩;rw[show lI s.abs m.toMsgR=_ from(vQ pM).trans (ao js)]
theorem UO{u:ll}{n:Int}{o:cr}{l:List cr}{next:List (Int×Int)}(hw:o.w=true):g8 u n (o::l) next=g8 u n l next:=by conv=>lhs;unfold g8;rw[aK hw]
theorem UP{u:ll}{n:Int}{o:cr}{l:List cr}{next:List (Int×Int)}{aa:List Int}(hw:o.w=false)(h:g8 u n (o::l) next=some aa):
  ∃ x IE,((aB u.aR (gU o.k n)).getD [])[((aB next (gU o.k n)).getD 0).toNat]? =some x/\g8 u n l (bA next (gU o.k n) ((aB next (gU o.k n)).getD 0+1))=some IE/\aa=x::IE:=by
 unfold g8 at h;rw[ao (by rw[hw];decide)]at h;dsimp only at h;split at h
 ·cases h
 ·rename_i x hx;cases hr:g8 u n l (bA next (gU o.k n) ((aB next (gU o.k n)).getD 0+1))with
  |none=>rw[hr]at h;cases h
  |some r=>rw[hr]at h;exact⟨x,r,hx,rfl,(bS h).symm⟩
def uE(u:e8)(k:Int):List Int×ay:=(aB u.aR k).getD ([],aG)
theorem QY(u:e8)(k:Int):((aB u.aR k).map GG).getD (.slice none 0 0)=(uE u k).2.v:=by unfold uE;cases aB u.aR k<;>rfl
theorem Ke(u:e8)(k:Int):(aB u.abs.aR k).getD []=(uE u k).1:=by show(aB (u.aR.map λp=>(p.1,p.2.1)) k).getD []=_;rw[iO (λv:List Int×ay=>v.1)];unfold uE;cases aB u.aR k<;>rfl
theorem QZ{I:HL}{u:e8}(h:BQ I u)(k:Int):dS I da 21 (uE u k).2 (uE u k).1:=by
 unfold uE;cases hg:aB u.aR k with
 |none=>exact .nil ..
 |some p=>exact h.r _ (bT hg)
theorem EF{I:HL}{u:e8}{n:Int}{rd:List Int}(hU:BQ I u)(hb:jf u.ops)(hn:1<=n)(hr:lJ u.abs n=some rd):
  aD prog ak bQ 203 #[aF u.b,aI n] [bR u.b (.cells #[u.so.v,.map (some u.mv),.map (some u.ma),.bool u.dec,.bool u.yes] 299 (0,0)),dp .i64 GG u.mv u.aR,a7 I]
   (λv As=>∃ s',v=s'.v/\As=[a9 da 1 21 s' rd,bR u.b (.cells #[u.so.v,.map (some u.mv),.map (some u.ma),.bool u.dec,.bool u.yes] 299 (0,0)),dp .i64 GG u.mv u.aR,a7 I]):=by
 have hl:=hb.2;have hUo:=hU.o;refine aD.of λR C kd d F c cs aJ aj=>?_;refine JH ?_;refine C.mm .i64 dR rfl (λUC=>?_);refine i6 ?_;refine At.aG da 1 21 ?_;refine C.cx (X:=Nat×ay×List Int×List (Int×Int)) (λx=>[(0,aF u.b),(1,aI n),(5,x.2.1.v),(6,.map (some UC)),(14,u.so.v),(15,aI u.ops.length),(16,aI x.1)]) (λx=>a9 da 1 21 x.2.1 x.2.2.1::dp .i64 dR UC x.2.2.2::bR u.b (.cells #[u.so.v,.map (some u.mv),.map (some u.ma),.bool u.dec,.bool u.yes] 299 (0,0))::dp .i64 GG u.mv u.aR::a7 I::F)
  (λx=>x.1<=u.ops.length/\x.2.2.1.length<=x.1/\(∀ q v,aB x.2.2.2 q=some v->0<=v/\v<=x.1)/\∃ aa,g8 u.abs n (u.ops.drop x.1) x.2.2.2=some aa/\x.2.2.1++aa=rd) (λx=>u.ops.length-x.1) (0,aG,[],[]) ⟨rfl,rfl,rfl,rfl,rfl,rfl,rfl,trivial⟩ ⟨eK _,gZ _,λq v h=>(nomatch h),rd,hr,rfl⟩ ?_
 rintro⟨i,s1,ou,nx⟩ e ⟨hi,oE,N3,aa,qa,iS⟩ ih;dsimp only at hi oE N3 qa iS⊢;refine bJ ?_;refine C.cmp rfl (λwv=>?_) (λwv=>?_)
 ·refine bJ ?_;have cN:i<u.ops.length:=by simpa using wv
  have wq:=hb.1 _ (br cN);rw[iR cN]at qa;refine bJ ?_;refine C.mE rfl (λhj=>?_);refine C.al rfl (λb8=>?_);refine C.pd rfl ?_ (hv:=λv h=>fC.one (f:=cF) u.ops[i] v (by simpa using h));refine cW ?_;generalize hw:u.ops[i].w=z;rcases g6 z with rfl|rfl
  ·refine dV ?_;rw[UO hw]at qa;exact again ih (i+1,s1,ou,nx) ⟨cN,dI,λq v h=>by have:=N3 q v h;dsimp only;omega,aa,qa,iS⟩ (dI)
  ·refine dN ?_;obtain⟨x,IE,hx,Pb,rfl⟩:=UP hw qa;obtain⟨j,hj⟩:∃ j:Nat,(aB nx (gU u.ops[i].k n)).getD 0=j/\j<=i:=by
    cases hg:aB nx (gU u.ops[i].k n)with
    |none=>exact⟨0,rfl,eK _⟩
    |some v=>
     obtain⟨j,rfl⟩:=gR (N3 _ _ hg).1;have:=(N3 _ _ hg).2;exact⟨j,rfl,az⟩
   obtain⟨hj,Eh⟩:=hj;rw[hj,Ke,g5]at hx;obtain⟨FL,hxe⟩:=jk.1 hx;have abg:=QY u (gU u.ops[i].k n);have UQ:=sY nx (gU u.ops[i].k n);have Wr:=QZ hU (gU u.ops[i].k n);rw[hj]at UQ Pb;refine cW ?_;refine C.cE (vh (key:=u.ops[i].k) (n:=n) wq hn) ?_;refine zB ?_;refine bJ ?_;refine C.dx (cG 27 0 14++[(5,14)]) 15 [12,13,14] 1 ?_;refine rR ?_;refine Dr.l (λhE h=>C.FM abg rfl h) ?_;refine Ar ?_;refine Dr.l (λhE h=>C.FM UQ rfl h) ?_;refine wm ?_;refine Ch.m 12 (aW λe aa hk=>?_);refine C.nj rfl (λb39=>hk _ _ .cons ?_);refine Ch.m 13 (aW λe aa hk=>?_);refine C.nM (s:=s1) (l:=ou) (uE u (gU u.ops[i].k n)).1[j] rfl (λs2=>?_);refine hk _ _ ?_;refine Ch.q 14 (λh=>C.kH rfl h) ?_;refine Qs ?_;refine C.FM UQ rfl ?_;refine C.ar rfl ?_ (r:=((j:Int)+1));refine C.mu (w:=(j:Int)+1) (l:=nx) (q:=gU u.ops[i].k n) rfl ?_;refine dD ?_;refine again ih (i+1,s2,ou++[(uE u (gU u.ops[i].k n)).1[j]],bA nx (gU u.ops[i].k n) ((j:Int)+1)) ⟨cN,by simp;omega,λq v h=>?_,IE,Pb,by rw[hxe,pQ];exact iS⟩ (dI);rw[fx]at h;by_cases e:q=gU u.ops[i].k n
   ·rw[aK e]at h;obtain rfl:=bS h;dsimp only;omega
   ·rw[ao e]at h;have:=N3 q v h;dsimp only;omega
 ·refine dH ?_;have JW:u.ops.drop i=[]:=pS (by simp at wv;omega);rw[JW]at qa;obtain rfl:=bS qa;rw[k8]at iS;subst iS;exact C.bk aJ aj ⟨s1,rfl,rfl⟩
def Yj(tx:Int)(yes:Bool)(z:dT)(k:Int)(_:List cr):dT:=iw z {bj with kind:=4,to:=k,tx:=tx,yes:=yes}
def CM(u:ll)(m:MsgR):ll:=if m.yes&& !(aB u.aR m.aU).isSome then{u with aR:=bA u.aR m.aU m.reads}else u
def kx(u:ll)(n:Int)(m:MsgR):Bool:=m.yes&&decide ((CM u m).aR.length<(dg (CM u m).ops n).length)
def N4(s:dT)(m:MsgR)(u1:ll)(rd:List Int):dT:=
 iw (qg {s with cg:=bA s.cg m.tx {u1 with dec:=true,yes:=m.yes},log:=s.log++[.dec m.tx m.yes rd],cf:=bA s.cf m.tx ⟨s.log.length,m.yes⟩} u1.ops (Yj m.tx m.yes)) {bj with kind:=7,to:= -1,tx:=m.tx,yes:=m.yes,reads:=rd}
def yA(s:dT)(m:MsgR):Prop:=∀ u,aB s.cg m.tx=some u->u.dec=false->m.yes=true->kx u s.n m=false->∃ rd,lJ (CM u m) s.n=some rd/\rd.length<2^20
theorem GW{s:dT}{m:MsgR}(h:aB s.cg m.tx=none):pg s m=s:=by unfold pg;rw[h]
theorem oX{s:dT}{m:MsgR}{u:ll}(h:aB s.cg m.tx=some u):pg s m=if u.dec then s else if kx u s.n m then{s with cg:=bA s.cg m.tx (CM u m)}else N4 s m (CM u m) (if m.yes then(lJ (CM u m) s.n).getD []else[]):=by unfold pg;rw[h];rfl
theorem yB{b b2 b3:Nat}{x:dE}{m:cm}{k:Int}{I:HL}{sp:ay}(hl:x.waits.length<2^31):
  aD prog ak bQ 204 #[aI k,sp.v,aF b2,aF b3] [cU b x,a7 I,IC b2 b,lM b3 m]
   (λv As=>As=[cU b {x with waits:=x.waits++[⟨{bj with kind:=4,aU:=x.me,to:=k,tx:=m.tx,yes:=m.yes},aG,aG⟩]},a7 I,IC b2 b,lM b3 m]):=by
 refine aD.of λR C kd d F c cs aJ aj=>?_;refine Ul ?_;refine C.dv (iG (s:=x) (m:=⟨{bj with kind:=4,to:=k,tx:=m.tx,yes:=m.yes},aG,aG⟩) az) ?_;rintro v aN rfl;refine k6 ?_;exact C.cX aJ aj rfl
abbrev AK(u:e8)(vs:List (Int×(List Int×ay))):e8:={u with aR:=vs}
def Lu(u:e8)(m:cm):List (Int×(List Int×ay)):=if m.yes&& !(aB u.aR m.aU).isSome then bA u.aR m.aU (m.reads,m.sr)else u.aR
theorem uF(u:e8)(m:cm):(AK u (Lu u m)).abs=CM u.abs m.toMsgR:=by
 unfold CM Lu;have e:(aB u.abs.aR m.aU).isSome=(aB u.aR m.aU).isSome:=by show(aB (u.aR.map λp=>(p.1,p.2.1)) m.aU).isSome=_;rw[iO (λv:List Int×ay=>v.1)];cases aB u.aR m.aU<;>rfl
 rw[e];split
 ·simp only[e8.abs,AK];rw[kj (λv:List Int×ay=>v.1)]
 ·rfl
theorem IF{I:HL}{u:e8}{m:cm}(h:BQ I u)(hm:jX I m):BQ I (AK u (Lu u m)):=by
 refine⟨h.o,λv hv=>?_,λv hv=>?_⟩
 ·unfold Lu at hv;dsimp only at hv;split at hv
  ·rcases dY hv with rfl|hv
   ·exact hm.r
   ·exact h.r v hv
  ·exact h.r v hv
 ·unfold Lu at hv;dsimp only at hv;split at hv
  ·rcases dY hv with rfl|hv
   ·exact hm.z
   ·exact h.z v hv
  ·exact h.z v hv
abbrev sxU(b:Nat)(s:dE)(tx:Int)(lg wt ot tm:ay)(bv bl bp bd be bu:Nat)(tl:List kh)(F:List HP):List HP:=
 ZN b s lg wt ot tm bv bl bp bd be bu::a9 rA 1 272 lg s.log::dp .u8 fE bv s.values::dp .u8 dR bl s.aH::dp .i64 BP bp s.pend::dp .i64 rB bd s.done::dp .i64 rB be s.cf::dp .i64 yj bu s.cg::all ((ee s.cg tx).map sV)::
  a9 sT 4 263 tm tl::a9 bN 7 190 wt s.waits::a9 bN 7 190 ot s.out::F
theorem yC{u:e8}{m:cm}{n:Int}{vs:List (Int×(List Int×ay))}(zE:vs=Lu u m)(hy:m.yes=true):kx u.abs n m.toMsgR=decide (vs.length<(dg u.ops n).length):=by unfold kx;rw[<- uF,<- zE];simp only[hy,Bool.true_and,e8.abs,AK,cV]
theorem UR{u:e8}{m:cm}(hy:m.yes=false):Lu u m=u.aR:=by unfold Lu;rw[hy];rfl
theorem IG(u:ll)(m:MsgR):(CM u m).ops=u.ops:=by unfold CM;split<;>rfl
theorem GX{I:HL}{b:Nat}{s:dE}{m:cm}{o a:Int}(hJ:ShJ I s)(hb:pI s)(hC:wx o a s)(hM:jX I m)(hV:yA s.abs m.toMsgR):
  aD prog ak bQ 172 #[aF b,qy m] [cU b s,a7 I] (gv b I (o+1) (a+1) (pg s.abs m.toMsgR)):=by
 have ks:=hb.log;have BU:=hb.waits;have Wa:=hb.n;refine aD.of λR C kd d F c cs aJ aj=>?_;refine bM ?_;refine cU.opn (h:=λlg wt ot tm bv bl bp bd be bu tl ht=>?_);refine bJ ?_;refine C.bx rfl (λb2=>?_);refine C.bx rfl (λb3=>?_);refine C.go ?_;cases pN:(aB s.cg m.tx)
 ·refine C.dx (cG 8 0 8++[(4,8)]) 9 [] 0 ?_;refine lZ ?_;refine Dr.l (λhE h=>C.Ge pN rfl h) ?_;refine xY ?_;refine Ch.fin ?_;refine ow ?_;refine cU.cls s ?_;refine C.bk aJ aj ⟨I,s,Sub.refl _,hJ,(GW (qC pN)).symm,hC.same rfl rfl,rfl⟩
 ·rename_i ns;refine C.dx (cG 8 0 8++[(4,8)]) 9 [] 0 ?_;refine lZ ?_;refine Dr.l (λhE h=>C.Gd pN rfl h) ?_;refine xY ?_;refine eQ ?_;refine uC pN Fo.au ?_;have eN:=bT pN;have cJ:=hb.yp _ eN;have NX:=hJ.cg _ eN;have l3:=NX.o;refine dV ?_;refine C.SH rfl (λhd=>?_) (λhd=>?_)
  ·refine dN ?_;refine gY ns dB.au ?_;rw[gw pN];refine cU.cls s ?_;refine C.bk aJ aj ⟨I,s,Sub.refl _,hJ,?_,hC.same rfl rfl,rfl⟩;rw[show pg s.abs m.toMsgR=_ from(oX (jG pN)).trans (aK hd)]
  ·refine dH ?_;apply xB (X:=ay×List Int×List (Int×(List Int×ay))×HL) (λx=>x.2.2.1=Lu ns m/\kx ns.abs s.n m.toMsgR=false/\x.2.1=(if m.yes then(lJ (CM ns.abs m.toMsgR) s.n).getD []else[])/\Sub I x.2.2.2/\dS x.2.2.2 da 21 x.1 x.2.1/\x.2.1.length<2^20) (λx=>[(2,aF b2),(3,aF b3),(4,aF ns.b),(5,x.1.v)]) (λx=>Es (AK ns x.2.2.1) (IC b2 b::lM b3 m::sxU b s m.tx lg wt ot tm bv bl bp bd be bu tl (a7 x.2.2.2::F))) (R:=R) (d:=d) (fn:=172) (kd:=kd) (n:=110) (ds:=[]) (cs:=c::cs)
   ·intro S3;refine bJ ?_;refine C.SH rfl (λhy=>?_) (λhy=>?_)
    ·refine bJ ?_;apply xB (X:=List (Int×(List Int×ay))) (λvs=>vs=Lu ns m) (λ_=>[(2,aF b2),(3,aF b3),(4,aF ns.b),(5,aG.v)]) (λvs=>Es (AK ns vs) (IC b2 b::lM b3 m::sxU b s m.tx lg wt ot tm bv bl bp bd be bu tl (a7 I::F))) (R:=R) (d:=d) (fn:=172) (kd:=kd) (n:=110) (ds:=[]) (cs:=c::cs)
     ·intro BT;cases S4:(aB ns.aR m.aU)
      ·refine C.dx (cG 27 0 7++[(26,7)]++[(34,8),(35,9)]++[(6,10),(7,11)]) 12 [] 0 ?_;refine rR ?_;refine Dr.l (λhE h=>C.Ge S4 rfl h) ?_;refine Nt ?_;refine Qt ?_;refine C.dx (cG 38 0 8) 9 [8] 0 ?_;refine Lq ?_;refine Ch.m 8 (aW λe aa hk=>?_);refine C.mu (w:=(m.reads,m.sr)) (l:=ns.aR) (q:=m.aU) rfl (hk _ undef ?_);refine eQ ?_;refine cZ BT (bA ns.aR m.aU (m.reads,m.sr)) ?_;unfold Lu;rw[hy,S4];rfl
      ·rename_i w33;refine C.dx (cG 27 0 7++[(26,7)]++[(34,8),(35,9)]++[(6,10),(7,11)]) 12 [] 0 ?_;refine rR ?_;refine Dr.l (λhE h=>C.Gd S4 rfl h) ?_;refine Nt ?_;refine Qt ?_;refine cZ BT ns.aR ?_;unfold Lu;rw[hy,S4];rfl
     ·rintro vs zE e;by_cases EG:((vs.length:Nat):Int)<((dg ns.ops s.n).length:Int)
      ·refine C.dx (cG 46 0 16) 16 [13,14,15] 0 ?_;refine JK ?_;refine Ch.m 13 (aW λe aa hk=>?_);refine C.dv (mR (n:=s.n) l3 cJ hb.n.1) ?_;rintro v aN ⟨bm,I1,pm,rfl,fp,UH, -,rfl⟩;refine bM ?_;have wh:pm.length=(dg ns.ops s.n).length:=by rw[<- UH];unfold vP;rw[cV]
       refine hk _ _ ?_;refine Ch.m 14 (aW λe aa hk=>?_);refine fI ?_;rw[wh];refine hk _ _ ?_;refine Ch.q 15 (λh=>C.fe rfl h (hf:=EG)) ?_;refine ru ?_;refine gY (AK ns vs) dB.au ?_;rw[<- qW (g:=yj) (u1:=AK ns vs) pN rfl];refine cU.cls {s with cg:=bA s.cg m.tx (AK ns vs)} ?_;refine C.bk aJ aj ⟨I1,{s with cg:=bA s.cg m.tx (AK ns vs)},fp,⟨(hJ.mono fp).log,(hJ.mono fp).pend,λp hp=>?_,(hJ.mono fp).waits,(hJ.mono fp).out⟩,?_,⟨by have:=hC.z;omega,by have:=hC.o;show 0<=s.order/\s.order<=o+1;omega,λu hu p hp=>?_⟩,rfl⟩
       ·rcases dY hp with rfl|hp
        ·rw[zE];exact IF (NX.mono fp) ⟨hM.o.mono fp,hM.r.mono fp,hM.z⟩
        ·exact(hJ.mono fp).cg p hp
       ·rw[show pg s.abs m.toMsgR=_ from(oX (jG pN)).trans ((ao (by show¬ ns.dec=true;rw[hd];decide)).trans (aK (by show kx ns.abs s.n m.toMsgR=true;rw[yC zE hy];exact tF az)))];rw[<- uF,<- zE];simp only[dE.abs,kj]
       ·rcases dY hu with rfl|hu
        ·have:=hC.a _ eN p hp;omega
        ·have:=hC.a u hu p hp;omega
      ·refine C.dx (cG 46 0 16) 16 [13,14,15] 0 ?_;refine JK ?_;refine Ch.m 13 (aW λe aa hk=>?_);refine C.dv (mR (n:=s.n) l3 cJ hb.n.1) ?_;rintro v aN ⟨bm,I1,pm,rfl,fp,UH, -,rfl⟩;refine bM ?_;have wh:pm.length=(dg ns.ops s.n).length:=by rw[<- UH];unfold vP;rw[cV]
       refine hk _ _ ?_;refine Ch.m 14 (aW λe aa hk=>?_);refine fI ?_;rw[wh];refine hk _ _ ?_;refine Ch.q 15 (λh=>C.dP rfl h (hf:=EG)) ?_;refine ru ?_;have vp:kx ns.abs s.n m.toMsgR=false:=by rw[yC zE hy];exact jy az
       obtain⟨rdv,Yk,hrz⟩:=hV _ (jG pN) hd hy vp;have abh:lJ (AK ns vs).abs s.n=some rdv:=by rw[zE,uF];exact Yk
       refine dH ?_;refine C.dv (EF (u:=AK ns vs) (n:=s.n) (by rw[zE];exact IF (NX.mono fp) ⟨hM.o.mono fp,hM.r.mono fp,hM.z⟩) cJ hb.n.1 abh) ?_;rintro v aN ⟨s67,rfl,rfl⟩;refine jK ?_;refine At.Gk (I:=I1) (s:=s67) (f:=da) Fo.au Fo.au λI2 jO abi=>?_;refine cZ S3 (s67,rdv,vs,I2) ⟨zE,vp,?_,fp.trans jO,abi,hrz⟩;dsimp only;rw[aK hy];have:lJ (CM ns.abs m.toMsgR) s.n=some rdv:=Yk;rw[this];rfl
    ·refine bJ ?_;refine cZ S3 (aG,[],ns.aR,I) ⟨(UR hy).symm,?_,?_,Sub.refl _,.nil ..,m9 20⟩
     ·unfold kx;have:m.toMsgR.yes=false:=hy;rw[this];rfl
     ·rw[ao (by rw[hy];decide)]
   ·rintro⟨sv,rd,vs,I1⟩ ⟨zE,rJ,iS,fp,Wr,hz⟩ e;dsimp only at zE rJ iS fp Wr hz⊢;refine C.vL (cG 68 0 6++[(74,7),(75,8)]) 10 [6,9] 2 ?_ (W:=[lM b3 m]);refine CJ ?_;refine Dr.chain rfl ?_ (λ_ s=>bZ.sat bZ.au s);refine Ch.m 6 (aW λe aa hk=>?_);refine fI ?_;refine hk _ undef lu ?_;refine Ch.m 9 (aW λe aa hk=>?_);refine fI ?_;refine hk _ undef lu ?_;refine eQ ?_;refine C.vL (cG 76 0 19) 20 [4,15,18,19] 3 ?_ (W:=[IC b2 b,lM b3 m]);refine gg ?_;refine CH ?_;refine Dr.p (λh=>C.mi rfl h) ?_;refine Ar ?_;refine Dr.chain rfl ?_ (λ_ s=>bZ.sat bZ.au s);refine Ch.n2 (t:=4) (u:=15) rfl ?_ ?_
    ·refine aW λe aa hk=>?_;refine C.ld rfl (hk _ _ .refl ?_);refine Ch.m 15 (aW λe aa hk=>?_);refine C.dv (l5 (en:=.dec m.tx m.yes rd sv) (l:=s.log) (lg:=lg) rfl az) ?_;rintro v aN ⟨Wo,rfl,rfl⟩;refine bM ?_;refine hk _ _ lu ?_;refine Ch.q 18 (λh=>C.bd rfl h) ?_;refine Ch.m 19 (aW λe aa hk=>?_);refine C.mu (w:=iF.mk s.log.length m.yes) (l:=s.cf) (q:=m.tx) rfl ?_;refine hk _ undef lu ?_;refine eQ ?_;refine C.dx (cG 95 0 7) 7 [6] 0 ?_;refine Nr ?_;refine Dr.p (λh=>C.mf (v1:=[]) (v2:=[aF b2,aF b3]) rfl h) ?_;refine Dr.chain rfl ?_;refine Ch.m 6 (aW λe aa hk=>?_);refine gY {AK ns vs with dec:=true,yes:=m.yes} dB.au ?_;rw[<- qW (g:=yj) (u1:={AK ns vs with dec:=true,yes:=m.yes}) pN rfl];refine cU.cls {s with log:=s.log++[.dec m.tx m.yes rd sv],cf:=bA s.cf m.tx ⟨s.log.length,m.yes⟩,cg:=bA s.cg m.tx {AK ns vs with dec:=true,yes:=m.yes}} ?_;obtain⟨s1,m2⟩:∃ s1:dE,s1={s with log:=s.log++[.dec m.tx m.yes rd sv],cf:=bA s.cf m.tx ⟨s.log.length,m.yes⟩,cg:=bA s.cg m.tx {AK ns vs with dec:=true,yes:=m.yes}}:=⟨_,rfl⟩;have za:ShJ I1 s1:=by
      have h0:=hJ.mono fp;have h1:=IF (NX.mono fp) (m:=m) ⟨hM.o.mono fp,hM.r.mono fp,hM.z⟩;rw[m2];refine⟨(h0.yt (e:=.dec m.tx m.yes rd sv) ⟨Wr,hz⟩).log,h0.pend,λp hp=>?_,h0.waits,h0.out⟩;rcases dY hp with rfl|hp
      ·rw[zE];exact⟨h1.o,h1.r,h1.z⟩
      ·exact h0.cg p hp
     have Pq:s1.waits=s.waits:=by rw[m2]
     have xz:s1.n=s.n:=by rw[m2]
     rw[<- m2];refine C.dv (oB (f:=204) (a1:=#[]) (a2:=#[aF b2,aF b3]) (s:=s1) (I:=I1) (E:=[IC b2 b,lM b3 m]) (inv:=λk x I'=>∃ o,x={s1 with waits:=o}/\o.length<=s.waits.length+k/\ShJ I' x) (S0:=Yj m.tx m.yes) (l3.mono fp) cJ (by rw[xz];exact hb.n) (λI' h=>⟨s1.waits,rfl,by rw[Pq];omega,za.mono h⟩) (λk x I' h=>by
      obtain⟨o,h1,h2,h3⟩:=h;exact⟨o,h1,az,h3⟩) (λk x I' sp part rC hk hinv qO eI ID=>by
      obtain⟨o,rfl,h2,h3⟩:=hinv;refine aD.post (yB (by dsimp only;rw[xz]at hk;omega)) λv As h=>⟨_,I',Sub.refl _,⟨_,rfl,?_,h3.wait ⟨.nil ..,.nil ..,by exact m9 20⟩⟩,?_,h⟩
      ·dsimp only;rw[jd,lP];omega
      ·simp[Yj,iw,dE.abs])) ?_
     rintro v aN ⟨x',I2,jO,⟨o',rfl,po,pX⟩,ku,rfl⟩;refine bM ?_;refine hk _ _ ?_;refine Ch.fin ?_;refine kL ?_;refine C.dv (iG (s:={s1 with waits:=o'}) (m:=⟨{bj with kind:=7,to:= -1,tx:=m.tx,yes:=m.yes,reads:=rd},aG,sv⟩) (by dsimp only;rw[xz]at po;omega)) ?_;rintro v aN rfl;refine k6 ?_;refine C.cX aJ aj ⟨I2,{s1 with waits:=o'++[⟨{bj with kind:=7,aU:=s1.me,to:= -1,tx:=m.tx,yes:=m.yes,reads:=rd},aG,sv⟩]},fp.trans jO,pX.wait (m:=⟨{bj with kind:=7,aU:=s1.me,to:= -1,tx:=m.tx,yes:=m.yes,reads:=rd},aG,sv⟩) ⟨.nil ..,Wr.mono jO,hz⟩,?_,⟨by have:=hC.z;omega,by have:=hC.o;rw[m2];show 0<=s.order/\s.order<=o+1;omega,λu hu p hp=>?_⟩,rfl⟩
     ·rw[show pg s.abs m.toMsgR=_ from(oX (jG pN)).trans ((ao (by show¬ ns.dec=true;rw[hd];decide)).trans (ao (by show¬ kx ns.abs s.n m.toMsgR=true;rw[rJ];decide)))];have e2:s1.abs={s.abs with cg:=bA s.abs.cg m.tx {CM ns.abs m.toMsgR with dec:=true,yes:=m.yes},log:=s.abs.log++[.dec m.tx m.yes rd],cf:=bA s.abs.cf m.tx ⟨s.abs.log.length,m.yes⟩}:=by rw[m2,<- uF,<- zE];unfold dE.abs;simp only[dT.mk.injEq,w9,mo,eF,cV,iJ,m1,jg.abs];exact kj e8.abs s.cg
      unfold N4;have e3:(if m.toMsgR.yes=true then(lJ (CM ns.abs m.toMsgR) s.abs.n).getD []else[])=rd:=iS.symm;rw[e3];have e4:({s1 with waits:=o'++[⟨{bj with kind:=7,aU:=s1.me,to:= -1,tx:=m.tx,yes:=m.yes,reads:=rd},aG,sv⟩]}:dE).abs=iw ({s1 with waits:=o'}:dE).abs {bj with kind:=7,to:= -1,tx:=m.tx,yes:=m.yes,reads:=rd}:=by simp[iw,dE.abs]
      rw[e4,ku,e2];simp only[IG];rfl
     ·rw[m2]at hu;rcases dY hu with rfl|hu
      ·have:=hC.a _ eN p hp;omega
      ·have:=hC.a u hu p hp;omega
    ·refine aW λe aa hk=>?_;refine C.dv (l5 (en:=.dec m.tx m.yes rd sv) (l:=s.log) (lg:=lg) rfl az) ?_;rintro v aN ⟨Wo,rfl,rfl⟩;refine bM ?_;refine hk _ _ lu ?_;refine Ch.q 18 (λh=>C.bd rfl h) ?_;refine Ch.m 4 (aW λe aa hk=>?_);refine C.ld rfl (hk _ _ .refl ?_);refine Ch.m 19 (aW λe aa hk=>?_);refine C.mu (w:=iF.mk s.log.length m.yes) (l:=s.cf) (q:=m.tx) rfl ?_;refine hk _ undef lu ?_;refine eQ ?_;refine C.dx (cG 95 0 7) 7 [6] 0 ?_;refine Nr ?_;refine Dr.p (λh=>C.mf (v1:=[]) (v2:=[aF b2,aF b3]) rfl h) ?_;refine Dr.chain rfl ?_;refine Ch.m 6 (aW λe aa hk=>?_);refine gY {AK ns vs with dec:=true,yes:=m.yes} dB.au ?_;rw[<- qW (g:=yj) (u1:={AK ns vs with dec:=true,yes:=m.yes}) pN rfl];refine cU.cls {s with log:=s.log++[.dec m.tx m.yes rd sv],cf:=bA s.cf m.tx ⟨s.log.length,m.yes⟩,cg:=bA s.cg m.tx {AK ns vs with dec:=true,yes:=m.yes}} ?_;obtain⟨s1,m2⟩:∃ s1:dE,s1={s with log:=s.log++[.dec m.tx m.yes rd sv],cf:=bA s.cf m.tx ⟨s.log.length,m.yes⟩,cg:=bA s.cg m.tx {AK ns vs with dec:=true,yes:=m.yes}}:=⟨_,rfl⟩;have za:ShJ I1 s1:=by
      have h0:=hJ.mono fp;have h1:=IF (NX.mono fp) (m:=m) ⟨hM.o.mono fp,hM.r.mono fp,hM.z⟩;rw[m2];refine⟨(h0.yt (e:=.dec m.tx m.yes rd sv) ⟨Wr,hz⟩).log,h0.pend,λp hp=>?_,h0.waits,h0.out⟩;rcases dY hp with rfl|hp
      ·rw[zE];exact⟨h1.o,h1.r,h1.z⟩
      ·exact h0.cg p hp
     have Pq:s1.waits=s.waits:=by rw[m2]
     have xz:s1.n=s.n:=by rw[m2]
     rw[<- m2];refine C.dv (oB (f:=204) (a1:=#[]) (a2:=#[aF b2,aF b3]) (s:=s1) (I:=I1) (E:=[IC b2 b,lM b3 m]) (inv:=λk x I'=>∃ o,x={s1 with waits:=o}/\o.length<=s.waits.length+k/\ShJ I' x) (S0:=Yj m.tx m.yes) (l3.mono fp) cJ (by rw[xz];exact hb.n) (λI' h=>⟨s1.waits,rfl,by rw[Pq];omega,za.mono h⟩) (λk x I' h=>by
      obtain⟨o,h1,h2,h3⟩:=h;exact⟨o,h1,az,h3⟩) (λk x I' sp part rC hk hinv qO eI ID=>by
      obtain⟨o,rfl,h2,h3⟩:=hinv;refine aD.post (yB (by dsimp only;rw[xz]at hk;omega)) λv As h=>⟨_,I',Sub.refl _,⟨_,rfl,?_,h3.wait ⟨.nil ..,.nil ..,by exact m9 20⟩⟩,?_,h⟩
      ·dsimp only;rw[jd,lP];omega
      ·simp[Yj,iw,dE.abs])) ?_
     rintro v aN ⟨x',I2,jO,⟨o',rfl,po,pX⟩,ku,rfl⟩;refine bM ?_;refine hk _ _ ?_;refine Ch.fin ?_;refine kL ?_;refine C.dv (iG (s:={s1 with waits:=o'}) (m:=⟨{bj with kind:=7,to:= -1,tx:=m.tx,yes:=m.yes,reads:=rd},aG,sv⟩) (by dsimp only;rw[xz]at po;omega)) ?_;rintro v aN rfl;refine k6 ?_;refine C.cX aJ aj ⟨I2,{s1 with waits:=o'++[⟨{bj with kind:=7,aU:=s1.me,to:= -1,tx:=m.tx,yes:=m.yes,reads:=rd},aG,sv⟩]},fp.trans jO,pX.wait (m:=⟨{bj with kind:=7,aU:=s1.me,to:= -1,tx:=m.tx,yes:=m.yes,reads:=rd},aG,sv⟩) ⟨.nil ..,Wr.mono jO,hz⟩,?_,⟨by have:=hC.z;omega,by have:=hC.o;rw[m2];show 0<=s.order/\s.order<=o+1;omega,λu hu p hp=>?_⟩,rfl⟩
     ·rw[show pg s.abs m.toMsgR=_ from(oX (jG pN)).trans ((ao (by show¬ ns.dec=true;rw[hd];decide)).trans (ao (by show¬ kx ns.abs s.n m.toMsgR=true;rw[rJ];decide)))];have e2:s1.abs={s.abs with cg:=bA s.abs.cg m.tx {CM ns.abs m.toMsgR with dec:=true,yes:=m.yes},log:=s.abs.log++[.dec m.tx m.yes rd],cf:=bA s.abs.cf m.tx ⟨s.abs.log.length,m.yes⟩}:=by rw[m2,<- uF,<- zE];unfold dE.abs;simp only[dT.mk.injEq,w9,mo,eF,cV,iJ,m1,jg.abs];exact kj e8.abs s.cg
      unfold N4;have e3:(if m.toMsgR.yes=true then(lJ (CM ns.abs m.toMsgR) s.abs.n).getD []else[])=rd:=iS.symm;rw[e3];have e4:({s1 with waits:=o'++[⟨{bj with kind:=7,aU:=s1.me,to:= -1,tx:=m.tx,yes:=m.yes,reads:=rd},aG,sv⟩]}:dE).abs=iw ({s1 with waits:=o'}:dE).abs {bj with kind:=7,to:= -1,tx:=m.tx,yes:=m.yes,reads:=rd}:=by simp[iw,dE.abs]
      rw[e4,ku,e2];simp only[IG];rfl
     ·rw[m2]at hu;rcases dY hu with rfl|hu
      ·have:=hC.a _ eN p hp;omega
      ·have:=hC.a u hu p hp;omega
abbrev tkA(b:Nat):Array Value:=#[.nilFunc,.func (.func 170) #[aF b] #[],.func (.func 171) #[aF b] #[],.func (.func 172) #[aF b] #[],.func (.func 173) #[aF b] #[],.func (.func 174) #[aF b] #[],.func (.func 175) #[aF b] #[]]
def ZP(k:Int):bI:=if k=1 then 170 else if k=2 then 171 else if k=3 then 172 else if k=4 then 173 else if k=5 then 174 else 175
variable{A:List HP}
theorem ab.tkc(C:ab prog ak bQ R){fo:cA}{args:Array cA}{fU:Array aQ}{kk:Int}{a1:Array Value}{vl:List Value}{Q:Value->List HP->Prop}(hk:1<=kk/\kk<=6)(hs:aD prog ak bQ (ZP kk) (a1++vl.toArray++#[]) A Q)
  (h:∀ v aN,Q v aN->At R d (aN++F) (gr fn kd n (cS e dst v) ds (.inRegion ops aa::k) cs)) (ho:aZ ops i=some ⟨dst,.call ⟨.value fo,args,fU⟩,ty,pos,af,gd⟩:=by rfl) (hv:args.toList.map (ev n e)=vl:=by rfl) (hf:ev n e fo=.func (.func (ZP kk)) a1 #[]:=by rfl)
  (hA:dB A As F:=by exact dB.au) (hw:aM ops n e gd=true:=by rfl):At R d As (gr fn kd n e ds (.inRegion ops (i::aa)::k) cs):=by
 rcases(show kk=1\/kk=2\/kk=3\/kk=4\/kk=5\/kk=6 by omega)with rfl|rfl|rfl|rfl|rfl|rfl
 ·exact C.SC (f:=170) hs h ho hv hf hA hw
 ·exact C.SC (f:=171) hs h ho hv hf hA hw
 ·exact C.SC (f:=172) hs h ho hv hf hA hw
 ·exact C.SC (f:=173) hs h ho hv hf hA hw
 ·exact C.SC (f:=174) hs h ho hv hf hA hw
 ·exact C.SC (f:=175) hs h ho hv hf hA hw
theorem GY{I:HL}{b:Nat}{s:dE}{m:cm}{o a:Int}(Di:1<=m.kind/\m.kind<=6)(hJ:ShJ I s)(hb:pI s)(hC:wx o a s)(hM:jX I m)(hO:m.kind=1\/m.kind=2->jf m.ops)(hV:m.kind=3->yA s.abs m.toMsgR):
  aD prog ak bQ 137 #[aF b,qy m] [cU b s,a7 I] (gv b I (o+1) (a+1) (qi s.abs m.toMsgR)):=by
 have hs:aD prog ak bQ (ZP m.kind) (#[aF b]++[qy m].toArray++#[]) [cU b s,a7 I] (gv b I (o+1) (a+1) (qi s.abs m.toMsgR)):=by
  unfold qi;have e1:m.toMsgR.kind=m.kind:=rfl;rcases(show m.kind=1\/m.kind=2\/m.kind=3\/m.kind=4\/m.kind=5\/m.kind=6 by omega)with h|h|h|h|h|h<;>rw[e1]
  ·have e2:=hO (.inl h);rw[aK h,h];exact EE hJ hb hC hM e2
  ·have e2:=hO (.inr h);rw[ao az,aK h,h];exact zH hJ hb hC hM e2
  ·rw[ao az,ao az,aK h,h];exact GX hJ hb hC hM (hV h)
  ·rw[ao az,ao az,ao az,aK h,h];exact BW hJ hb hC
  ·rw[ao az,ao az,ao az,ao az,aK h,h];exact J6 hJ hb hC
  ·rw[ao az,ao az,ao az,ao az,ao az,aK h,h];exact J3 hJ hb hC
 have Bi:∀ x:Array Value,x=tkA b->x[0+m.kind.toNat*1]? =some (.func (.func (ZP m.kind)) #[aF b] #[]):=by rintro x rfl;rcases(show m.kind=1\/m.kind=2\/m.kind=3\/m.kind=4\/m.kind=5\/m.kind=6 by omega)with h|h|h|h|h|h<;>rw[h]<;>rfl
 refine aD.of λR C kd d F c cs aJ aj=>?_;refine jK ?_;refine C.bx rfl (λb3=>?_);refine dN ?_;refine C.mf (v1:=[aF b]) (v2:=[]) rfl ?_;refine fI ?_;refine C.mf (v1:=[aF b]) (v2:=[]) rfl ?_;refine fI ?_;refine C.mf (v1:=[aF b]) (v2:=[]) rfl ?_;refine fI ?_;refine C.mf (v1:=[aF b]) (v2:=[]) rfl ?_;refine fI ?_;refine C.mf (v1:=[aF b]) (v2:=[]) rfl ?_;refine fI ?_;refine C.mf (v1:=[aF b]) (v2:=[]) rfl ?_;refine C.bda (xs:=tkA b) underlying261 rfl ?_;refine C.al rfl (λb4=>?_);refine bJ ?_;refine C.dx (cG 18 0 6) 6 [5] 0 ?_;refine Ar ?_;refine Dr.l (λhE h=>C.iaA underlying261 rfl h) ?_;refine Dr.l (λhE h=>C.ld rfl h (hc:=Bi _ rfl)) ?_;refine xY ?_;refine Ch.m 5 (aW λe aa hk=>?_);refine C.tkc Di hs ?_;rintro v aN ⟨I1,s',fp,pX,ku,Kf,rfl⟩;refine bM ?_;refine hk _ _ ?_;refine eQ ?_;exact C.cX aJ aj ⟨I1,s',fp,pX,ku,Kf,rfl⟩
def N5(s:dT)(u:ll)(tx:Int)(z:dT)(k:Int)(p:List cr):dT:=
 if !u.dec&& !(aB u.aR k).isSome then eJ z {bj with kind:=2,to:=k,tx:=tx,ops:=p}
 else if u.dec&&decide (((aB s.cf tx).map (·.pl)).getD 0<s.aX)&&decide ((aB u.bG k).getD 0=0)then eJ z {bj with kind:=4,to:=k,tx:=tx,yes:=u.yes}
 else z
theorem EH{s:dT}{tx:Int}(h:aB s.cg tx=none):qj s tx=s:=by unfold qj;rw[h]
theorem EI{s:dT}{tx:Int}{u:ll}(h:aB s.cg tx=some u):qj s tx=jq (qg s u.ops (N5 s u tx)) tx 4 true:=by unfold qj;rw[h];rfl
def Kg(s:dE)(tx:Int):iF:=(aB s.cf tx).getD ⟨0,false⟩
theorem US(s:dE)(tx:Int):((aB s.cf tx).map rB).getD (.agg #[aI 0,.bool false])=rB (Kg s tx):=by unfold Kg;cases aB s.cf tx<;>rfl
theorem wR(s:dE)(tx:Int):((aB s.cf tx).map (·.pl)).getD 0=(Kg s tx).pl:=by unfold Kg;cases aB s.cf tx<;>rfl
theorem uG(u:e8)(k:Int):(aB u.abs.aR k).isSome=(aB u.aR k).isSome:=by show(aB (u.aR.map λp=>(p.1,p.2.1)) k).isSome=_;rw[iO (λv:List Int×ay=>v.1)];cases aB u.aR k<;>rfl
theorem EJ{b b2 b3 b4:Nat}{s:dE}{o:List cm}{u:e8}{tx k:Int}{I:HL}{sp:ay}{part:List cr}(hu:aB s.cg tx=some u)(hl:o.length<2^31)(hJ:ShJ I {s with out:=o})(qO:dS I cF 67 sp part):
  aD prog ak bQ 206 #[aI k,sp.v,aF b4,aF b2,aF b3] [cU b {s with out:=o},a7 I,bR b4 (.cells #[aF u.b] 295 (0,0)),IC b2 b,bR b3 (.cells #[aI tx] 3 (0,0))]
   (λv As=>∃ o',o'.length<=o.length+1/\ShJ I {s with out:=o'}/\({s with out:=o'}:dE).abs=N5 s.abs u.abs tx ({s with out:=o}:dE).abs k part/\As=[cU b {s with out:=o'},a7 I,bR b4 (.cells #[aF u.b] 295 (0,0)),IC b2 b,bR b3 (.cells #[aI tx] 3 (0,0))]):=by
 refine aD.of λR C kd d F c cs aJ aj=>?_;refine bM ?_;refine cU.opn (h:=λlg wt ot tm bv bl bp bd be bu tl ht=>?_);refine uC (l:=s.cg) hu Fo.au ?_;have wh:=US s tx;have ZQ:=sY u.bG k;refine dV ?_;refine C.lkC rfl (λns pN=>?_) (λpN=>?_)
 ·refine i6 ?_;refine C.SH rfl (λhd=>?_) (λhd=>?_)
  ·refine kE ?_;by_cases N6:(Kg s tx).pl<s.aX
   ·by_cases EG:(aB u.bG k).getD 0=0
    ·refine C.dx (cG 35 0 28++[(34,28)]) 29 [] 0 ?_;refine CH ?_;refine Dr.l (λhE h=>C.ld rfl h (v:=.bool true) (nK:=congrArg Value.bool hd)) ?_;refine lZ ?_;refine Dr.l (λhE h=>C.FM wh rfl h) ?_;refine Dr.p (λh=>C.fd (ft:=3) ⟨_,_,underlying279,rfl,rfl,rfl⟩ rfl h) ?_;refine JF ?_;refine Dr.p (λh=>C.fe rfl h (hf:=N6)) ?_;refine lZ ?_;refine Dr.l (λhE h=>C.FM ZQ rfl h) ?_;refine Dr.p (λh=>C.fe rfl h (hf:=EG)) ?_;refine wm ?_;refine ru ?_;refine C.dx (cG 63 0 9) 9 [8] 0 ?_;refine Lq ?_;refine Ch.m 8 (aW λe aa hk=>?_);refine gY u dB.au ?_;rw[gw hu];refine cU.cls {s with out:=o} ?_;refine C.dv (fY (s:={s with out:=o}) (m:=⟨{bj with kind:=4,to:=k,tx:=tx,yes:=u.yes},aG,aG⟩) (dI)) ?_;rintro v aN rfl;refine bM ?_;refine hk _ _ ?_;refine eQ ?_;refine C.cX aJ aj ⟨o++[⟨{bj with kind:=4,aU:=s.me,to:=k,tx:=tx,yes:=u.yes},aG,aG⟩],by simp,hJ.outs (jX.nil I _ rfl rfl),?_,rfl⟩;unfold N5;rw[ao (by show¬ (!u.dec&&_)=true;rw[hd];simp),aK (by show(u.dec&&decide (((aB s.cf tx).map (·.pl)).getD 0<s.aX)&&decide ((aB u.bG k).getD 0=0))=true;rw[hd,wR,tF N6,tF EG];rfl)];simp[eJ,dE.abs,e8.abs]
    ·refine C.dx (cG 35 0 28++[(34,28)]) 29 [] 0 ?_;refine CH ?_;refine Dr.l (λhE h=>C.ld rfl h (v:=.bool true) (nK:=congrArg Value.bool hd)) ?_;refine lZ ?_;refine Dr.l (λhE h=>C.FM wh rfl h) ?_;refine Dr.p (λh=>C.fd (ft:=3) ⟨_,_,underlying279,rfl,rfl,rfl⟩ rfl h) ?_;refine JF ?_;refine Dr.p (λh=>C.fe rfl h (hf:=N6)) ?_;refine lZ ?_;refine Dr.l (λhE h=>C.FM ZQ rfl h) ?_;refine Dr.p (λh=>C.dP rfl h (hf:=EG)) ?_;refine wm ?_;refine ru ?_;refine gY u dB.au ?_;rw[gw hu];refine cU.cls {s with out:=o} ?_;refine C.cX aJ aj ⟨o,az,hJ,?_,rfl⟩;unfold N5;rw[ao (by show¬ (!u.dec&&_)=true;rw[hd];simp),ao (by show¬ (u.dec&&decide (((aB s.cf tx).map (·.pl)).getD 0<s.aX)&&decide ((aB u.bG k).getD 0=0))=true;rw[jy EG];simp)]
   ·refine C.dx (cG 35 0 28++[(34,28)]) 29 [] 0 ?_;refine CH ?_;refine Dr.l (λhE h=>C.ld rfl h (v:=.bool true) (nK:=congrArg Value.bool hd)) ?_;refine lZ ?_;refine Dr.l (λhE h=>C.FM wh rfl h) ?_;refine Dr.p (λh=>C.fd (ft:=3) ⟨_,_,underlying279,rfl,rfl,rfl⟩ rfl h) ?_;refine JF ?_;refine Dr.p (λh=>C.dP rfl h (hf:=N6)) ?_;refine JJ ?_;refine ru ?_;refine gY u dB.au ?_;rw[gw hu];refine cU.cls {s with out:=o} ?_;refine C.cX aJ aj ⟨o,az,hJ,?_,rfl⟩;unfold N5;rw[ao (by show¬ (!u.dec&&_)=true;rw[hd];simp),ao (by show¬ (u.dec&&decide (((aB s.cf tx).map (·.pl)).getD 0<s.aX)&&decide ((aB u.bG k).getD 0=0))=true;rw[wR,jy N6];simp)]
  ·refine kE ?_;refine C.dx (cG 35 0 28++[(34,28)]) 29 [] 0 ?_;refine CH ?_;refine Dr.l (λhE h=>C.ld rfl h (v:=.bool false) (nK:=congrArg Value.bool hd)) ?_;refine gg ?_;refine gg ?_;refine Nr ?_;refine Dr.chain rfl ?_;refine ru ?_;refine gY u dB.au ?_;rw[gw hu];refine cU.cls {s with out:=o} ?_;refine C.cX aJ aj ⟨o,az,hJ,?_,rfl⟩;unfold N5;rw[ao (by rw[uG,pN];simp),ao (by show¬ (u.dec&&decide (((aB s.cf tx).map (·.pl)).getD 0<s.aX)&&decide ((aB u.bG k).getD 0=0))=true;rw[hd];simp)]
 ·refine i6 ?_;refine C.SH rfl (λhd=>?_) (λhd=>?_)
  ·refine kE ?_;by_cases N6:(Kg s tx).pl<s.aX
   ·by_cases EG:(aB u.bG k).getD 0=0
    ·refine C.dx (cG 35 0 28++[(34,28)]) 29 [] 0 ?_;refine CH ?_;refine Dr.l (λhE h=>C.ld rfl h (v:=.bool true) (nK:=congrArg Value.bool hd)) ?_;refine lZ ?_;refine Dr.l (λhE h=>C.FM wh rfl h) ?_;refine Dr.p (λh=>C.fd (ft:=3) ⟨_,_,underlying279,rfl,rfl,rfl⟩ rfl h) ?_;refine JF ?_;refine Dr.p (λh=>C.fe rfl h (hf:=N6)) ?_;refine lZ ?_;refine Dr.l (λhE h=>C.FM ZQ rfl h) ?_;refine Dr.p (λh=>C.fe rfl h (hf:=EG)) ?_;refine wm ?_;refine ru ?_;refine C.dx (cG 63 0 9) 9 [8] 0 ?_;refine Lq ?_;refine Ch.m 8 (aW λe aa hk=>?_);refine gY u dB.au ?_;rw[gw hu];refine cU.cls {s with out:=o} ?_;refine C.dv (fY (s:={s with out:=o}) (m:=⟨{bj with kind:=4,to:=k,tx:=tx,yes:=u.yes},aG,aG⟩) (dI)) ?_;rintro v aN rfl;refine bM ?_;refine hk _ _ ?_;refine eQ ?_;refine C.cX aJ aj ⟨o++[⟨{bj with kind:=4,aU:=s.me,to:=k,tx:=tx,yes:=u.yes},aG,aG⟩],by simp,hJ.outs (jX.nil I _ rfl rfl),?_,rfl⟩;unfold N5;rw[ao (by show¬ (!u.dec&&_)=true;rw[hd];simp),aK (by show(u.dec&&decide (((aB s.cf tx).map (·.pl)).getD 0<s.aX)&&decide ((aB u.bG k).getD 0=0))=true;rw[hd,wR,tF N6,tF EG];rfl)];simp[eJ,dE.abs,e8.abs]
    ·refine C.dx (cG 35 0 28++[(34,28)]) 29 [] 0 ?_;refine CH ?_;refine Dr.l (λhE h=>C.ld rfl h (v:=.bool true) (nK:=congrArg Value.bool hd)) ?_;refine lZ ?_;refine Dr.l (λhE h=>C.FM wh rfl h) ?_;refine Dr.p (λh=>C.fd (ft:=3) ⟨_,_,underlying279,rfl,rfl,rfl⟩ rfl h) ?_;refine JF ?_;refine Dr.p (λh=>C.fe rfl h (hf:=N6)) ?_;refine lZ ?_;refine Dr.l (λhE h=>C.FM ZQ rfl h) ?_;refine Dr.p (λh=>C.dP rfl h (hf:=EG)) ?_;refine wm ?_;refine ru ?_;refine gY u dB.au ?_;rw[gw hu];refine cU.cls {s with out:=o} ?_;refine C.cX aJ aj ⟨o,az,hJ,?_,rfl⟩;unfold N5;rw[ao (by show¬ (!u.dec&&_)=true;rw[hd];simp),ao (by show¬ (u.dec&&decide (((aB s.cf tx).map (·.pl)).getD 0<s.aX)&&decide ((aB u.bG k).getD 0=0))=true;rw[jy EG];simp)]
   ·refine C.dx (cG 35 0 28++[(34,28)]) 29 [] 0 ?_;refine CH ?_;refine Dr.l (λhE h=>C.ld rfl h (v:=.bool true) (nK:=congrArg Value.bool hd)) ?_;refine lZ ?_;refine Dr.l (λhE h=>C.FM wh rfl h) ?_;refine Dr.p (λh=>C.fd (ft:=3) ⟨_,_,underlying279,rfl,rfl,rfl⟩ rfl h) ?_;refine JF ?_;refine Dr.p (λh=>C.dP rfl h (hf:=N6)) ?_;refine JJ ?_;refine ru ?_;refine gY u dB.au ?_;rw[gw hu];refine cU.cls {s with out:=o} ?_;refine C.cX aJ aj ⟨o,az,hJ,?_,rfl⟩;unfold N5;rw[ao (by show¬ (!u.dec&&_)=true;rw[hd];simp),ao (by show¬ (u.dec&&decide (((aB s.cf tx).map (·.pl)).getD 0<s.aX)&&decide ((aB u.bG k).getD 0=0))=true;rw[wR,jy N6];simp)]
  ·refine kE ?_;refine gY u dB.au ?_;rw[gw hu];refine cU.cls {s with out:=o} ?_;refine dH ?_;refine C.dv (fY (s:={s with out:=o}) (m:=⟨{bj with kind:=2,to:=k,tx:=tx,ops:=part},sp,aG⟩) (dI)) ?_;rintro v aN rfl;refine k6 ?_;refine C.cX aJ aj ⟨o++[⟨{bj with kind:=2,aU:=s.me,to:=k,tx:=tx,ops:=part},sp,aG⟩],by simp,hJ.outs ⟨qO,.nil ..,by exact m9 20⟩,?_,rfl⟩;unfold N5;rw[aK (by rw[uG,pN];show(!u.dec&&_)=true;rw[hd];rfl)];simp[eJ,dE.abs]
theorem EK{I:HL}{b:Nat}{s:dE}{tx:Int}(hJ:ShJ I s)(hn:1<=s.n/\s.n<=4)(hU:∀ u∈s.cg,jf u.2.ops)(iW:s.out.length<2^30+2^20)(Po:s.timers.length<2^16)(UJ:0<=s.order/\s.order<2^61+2^20)(UI:0<=s.clock/\s.clock<2^61):
  aD prog ak bQ 178 #[aF b,aI tx] [cU b s,a7 I] (λv As=>∃ (I':HL) (o':List cm) (q:Bool),Sub I I'/\o'.length<=s.out.length+4/\ShJ I' {s with out:=o'}/\(if q then nQ {s with out:=o'} tx 4 true else s).abs=qj s.abs tx/\As=[cU b (if q then nQ {s with out:=o'} tx 4 true else s),a7 I']):=by
 refine aD.of λR C kd d F c cs aJ aj=>?_;refine bM ?_;refine cU.opn (h:=λlg wt ot tm bv bl bp bd be bu tl ht=>?_);refine bJ ?_;refine C.bx rfl (λb2=>?_);refine C.bx rfl (λb3=>?_);refine C.go ?_;cases qw:(aB s.cg tx)
 ·refine C.dx (cG 5 0 7++[(4,7)]) 9 [7,8] 1 ?_;refine rR ?_;refine Dr.l (λhE h=>C.Ge qw rfl h) ?_;refine Dr.chain rfl ?_;refine Ch.m 7 (aW λe aa hk=>?_);refine C.al rfl (λb4=>hk _ _ .cons ?_);refine Ch.m 8 (aW λe aa hk=>?_);refine C.st rfl (hk _ undef ?_);refine Qt ?_;refine cU.cls s ?_;exact C.bk (aN:=[cU b s,a7 I]) aJ aj ⟨I,s.out,false,Sub.refl _,az,hJ,(EH (qC qw)).symm,rfl⟩
 ·rename_i w11;refine C.dx (cG 5 0 7++[(4,7)]) 9 [7,8] 1 ?_;refine rR ?_;refine Dr.l (λhE h=>C.Gd qw rfl h) ?_;refine Dr.chain rfl ?_;refine Ch.m 7 (aW λe aa hk=>?_);refine C.al rfl (λb4=>hk _ _ .cons ?_);refine Ch.m 8 (aW λe aa hk=>?_);refine C.st rfl (hk _ undef ?_);refine Qt ?_;have eN:=bT qw;have cJ:=hU _ eN;have l3:=(hJ.cg _ eN).o;refine uC qw Fo.au ?_;refine C.dx (cG 14 0 7) 7 [6] 0 ?_;refine Nr ?_;refine Dr.p (λh=>C.mf (v1:=[]) (v2:=[aF b4,aF b2,aF b3]) rfl h) ?_;refine Dr.chain rfl ?_;refine Ch.m 6 (aW λe aa hk=>?_);refine gY w11 dB.au ?_;rw[gw qw];refine cU.cls s ?_;refine C.dv (oB (f:=206) (a1:=#[]) (a2:=#[aF b4,aF b2,aF b3]) (s:=s) (I:=I) (E:=[bR b4 (.cells #[aF w11.b] 295 (0,0)),IC b2 b,bR b3 (.cells #[aI tx] 3 (0,0))]) (inv:=λk x I'=>∃ o,x={s with out:=o}/\o.length<=s.out.length+k/\ShJ I' x) (S0:=N5 s.abs w11.abs tx) l3 cJ hn (λI' h=>⟨s.out,rfl,gZ _,hJ.mono h⟩) (λk x I' h=>by
   obtain⟨o,h1,h2,h3⟩:=h;exact⟨o,h1,az,h3⟩) (λk x I' sp part rC hk hinv qO eI ID=>by
   obtain⟨o,rfl,h2,h3⟩:=hinv;refine aD.post (EJ qw az h3 qO) λv As h=>?_;obtain⟨o',h4,h5,h6,h7⟩:=h;exact⟨_,I',Sub.refl _,⟨o',rfl,az,h5⟩,h6,h7⟩)) ?_
  rintro v aN ⟨x',I1,fp,⟨o',rfl,po,pX⟩,ku,rfl⟩;refine bM ?_;refine hk _ _ ?_;refine Qs ?_;refine C.dv (ly (ticks:=4) (s:={s with out:=o'}) (by show s.timers.length<_;omega) (by show 0<=s.order/\s.order<_;omega) (by show 0<=s.clock/\s.clock<_;omega) (by decide)) ?_;rintro v aN rfl;refine k6 ?_;refine C.cX (aN:=[cU b (nQ {s with out:=o'} tx 4 true),a7 I1]) aJ aj ⟨I1,o',true,fp,az,pX,?_,rfl⟩;rw[aK rfl,oU,ku,EI (jG qw)];rfl
def pJ(c:Int)(L:List dM):Nat:=(L.filter λt=>t.tm<=c).length
theorem GZ{c:Int}{L:List dM}{k:Nat}{t:dM}(hk:L[k]? =some t)(ht:t.tm<=c):pJ c (L.eraseIdx k)+1=pJ c L:=by obtain⟨xW,rfl⟩:=jk.1 hk;have hp:=(oh xW).filter (λt=>decide (t.tm<=c));unfold pJ;rw[hp.length_eq,tD,aK (by simpa using ht)];rfl
theorem EL{c:Int}{L:List dM}{t:dM}(ht:c<t.tm):pJ c (L++[t])=pJ c L:=by unfold pJ;rw[ml,tD,ao (by simp;omega),C8,k8]
theorem IH(c:Int)(L:List dM):pJ c L<=L.length:=m8 _ _
theorem EM{f:Nat}{s:dT}{k:Nat}{t:dM}(h:jD s.clock s.timers 0 none=some (k,t)):j8 (f+1) s=j8 f (xG {s with timers:=s.timers.eraseIdx k} t):=by conv=>lhs;unfold j8;rw[h]
theorem yD{f:Nat}{s:dT}(h:jD s.clock s.timers 0 none=none):j8 (f+1) s=s:=by conv=>lhs;unfold j8;rw[h]
theorem map_eraseIdx{X Y:Type}(f:X->Y):∀ (l:List X) (n:Nat),(l.eraseIdx n).map f=(l.map f).eraseIdx n
 |[],n=>by simp
 |a::l,0=>rfl
 |a::l,n+1=>by simp[map_eraseIdx f l n]
theorem yE{s:dT}{t:dM}(h:t.again=true):xG s t=qj s t.tx:=by unfold xG;rw[aK h]
theorem Kh{s:dT}{t:dM}{p:xE}(h:t.again=false)(hp:aB s.pend t.tx=some p):xG s t=jq (eJ s {bj with kind:=6,to:=p.home,tx:=t.tx}) t.tx 3 false:=by unfold xG;rw[ao (by rw[h];decide),hp]
theorem Ki{s:dT}{t:dM}(h:t.again=false)(hp:aB s.pend t.tx=none):xG s t=s:=by unfold xG;rw[ao (by rw[h];decide),hp]
abbrev wy(s:dE)(o:List cm)(T:List kh)(q:Int):dE:={s with clock:=s.clock+1,out:=o,timers:=T,order:=q}
structure abk(I:HL)(s:dE)(x:dE)(J:HL):Prop where
 sub:Sub I J
 j:ShJ J x
 sh:∃ o T q,x=wy s o T q/\T.length<=s.timers.length/\s.order<=q/\q+pJ (s.clock+1) (T.map (·.pL))<=s.order+pJ (s.clock+1) (s.timers.map (·.pL))/\o.length+5*pJ (s.clock+1) (T.map (·.pL))<=s.out.length+5*pJ (s.clock+1) (s.timers.map (·.pL))
 go:j8 (pJ (s.clock+1) (x.timers.map (·.pL))+1) x.abs=oi s.abs
theorem G0{I:HL}{b:Nat}{s:dE}{o a:Int}(hJ:ShJ I s)(hb:pI s)(hC:wx o a s):
  aD prog ak bQ 142 #[aF b] [cU b s,a7 I] (gv b I (o+2^15) (a+1) (oi s.abs)):=by
 have iW:=hb.out;have UI:=hb.clock;have UJ:=hb.order;have Po:=hb.timers;have hD:=IH (s.clock+1) (s.timers.map (·.pL));rw[cV]at hD;refine aD.of λR C kd d F c cs aJ aj=>?_;refine bM ?_;refine cU.opn (h:=λlg wt ot tm bv bl bp bd be bu tl ht=>?_);refine zC ?_;refine cU.cls (wy s s.out s.timers s.order) ?_;refine C.cx (X:=dE×HL) (λx=>[(0,aF b)]) (λx=>cU b x.1::a7 x.2::F) (λx=>abk I s x.1 x.2) (λx=>pJ (s.clock+1) (x.1.timers.map (·.pL))) (wy s s.out s.timers s.order,I) ⟨rfl,trivial⟩ ⟨Sub.refl _,⟨hJ.log,hJ.pend,hJ.cg,hJ.waits,hJ.out⟩,⟨_,_,_,rfl,gZ _,rG _,rG _,gZ _⟩,rfl⟩ ?_;rintro⟨x,I1⟩ e ⟨fp,za,⟨o1,T,q,rfl,hT,hq1,qR,Pq⟩,hgo⟩ ih;dsimp only at fp za hgo⊢;have hdT:=IH (s.clock+1) (T.map (·.pL));rw[cV]at hdT;refine cU.opn (h:=λlg wt ot tm bv bl bp bd be bu tl ht=>?_);have NW:tl.length=T.length:=ht.perm.length_eq;refine C.go ?_;by_cases tu:(tl.length:Int)>0
 ·by_cases h35:(tl[0]'(by omega)).tm<=s.clock+1
  ·refine C.dx (cG 14 0 23) 23 [] 0 ?_;refine rR ?_;refine Dr.p (λh=>C.fe rfl h (hf:=tu)) ?_;refine rR ?_;refine Dr.l (λhE h=>C.kJ rfl h (j:=0)) ?_;refine lZ ?_;refine Dr.p (λh=>C.fe rfl h (hf:=h35)) ?_;refine xY ?_;refine Um ?_;refine C.dv (J0 (tm:=tm) (l:=tl) rfl az az ht.heap) ?_;rintro v aN ⟨y5,l',rfl,hp,hh,rfl⟩;refine bM ?_;have h0:tl[0]? =some (gA tl 0):=by rw[jN az];exact e9 az
   have Q0:(gA tl 0).tm<=s.clock+1:=by rw[jN az];exact h35
   obtain⟨kq,hkq,Yl,Yd⟩:=ht.pop h0 Q0 hp hh;generalize gA tl 0=t0 at hkq Yl Q0 hp;have xW:kq<T.length:=(jk.1 hkq).1;have hde:=GZ (c:=s.clock+1) (L:=T.map (·.pL)) (k:=kq) (t:=t0.pL) (by rw[kG,hkq];rfl) Q0;rw[<- map_eraseIdx]at hde;have N7:(T.eraseIdx kq).length+1=T.length:=by rw[C9,aK xW];omega
   refine cU.cls (wy s o1 (T.eraseIdx kq) q) ?_ (ht:=Yd);have y4:ShJ I1 (wy s o1 (T.eraseIdx kq) q):=⟨za.log,za.pend,za.cg,za.waits,za.out⟩;have rK:j8 (pJ (s.clock+1) ((T.eraseIdx kq).map (·.pL))+1) (xG (wy s o1 (T.eraseIdx kq) q).abs t0.pL)=oi s.abs:=by
    rw[<- hgo,<- hde,EM (s:=(wy s o1 T q).abs) (k:=kq) (t:=t0.pL) Yl]
    congr 2
    simp only[dE.abs,map_eraseIdx]
   refine C.ta (ok:=false) underlying263 rfl rfl ?_;refine C.al rfl (λb2=>?_);refine C.pd rfl ?_ (hv:=λv h=>fC.one (f:=sT) t0 v (by simpa using h));refine dN ?_;refine C.SH rfl (λhg=>?_) (λhg=>?_)
   ·refine dH ?_;refine C.dv (EK (tx:=t0.tx) y4 hb.n hb.yp (dI) (dI) (dI) (dI)) ?_;rintro v aN ⟨I2,o2,z,jO,Sz,Kj,ku,rfl⟩;refine k6 ?_;cases z with
    |false=>
     rw[ao (by decide)]at ku⊢;refine again ih (wy s o1 (T.eraseIdx kq) q,I2) ⟨fp.trans jO,y4.mono jO,⟨o1,T.eraseIdx kq,q,rfl,az,hq1,az,az⟩,?_⟩ (dI);rw[<- rK,yE (t:=t0.pL) hg];exact congrArg _ ku
    |true=>
     rw[aK rfl]at ku⊢;have Q1:pJ (s.clock+1) ((T.eraseIdx kq++[(⟨s.clock+1+4,q+1,t0.tx,true⟩:kh)]).map (·.pL))=pJ (s.clock+1) ((T.eraseIdx kq).map (·.pL)):=by rw[eF];exact EL (by show s.clock+1<s.clock+1+4;omega)
     refine again ih (wy s o2 (T.eraseIdx kq++[⟨s.clock+1+4,q+1,t0.tx,true⟩]) (q+1),I2) ⟨fp.trans jO,⟨Kj.log,Kj.pend,Kj.cg,Kj.waits,Kj.out⟩,⟨o2,_,_,rfl,by simp;omega,az,by rw[Q1];omega,by rw[Q1];dsimp only at Sz;omega⟩,?_⟩ (by dsimp only;rw[Q1];omega);dsimp only;rw[Q1,<- rK,yE (t:=t0.pL) hg];exact congrArg _ ku
   ·refine bJ ?_;refine cU.opn (h:=λlg wt ot tm bv bl bp bd be bu tl ht=>?_);cases ZR:(aB s.pend t0.tx)
    ·refine C.dx (cG 51 0 8++[(50,8)]++[(59,9),(60,10)]++[(3,11)]++[(4,13)]) 14 [11,12] 1 ?_;refine lZ ?_;refine Dr.l (λhE h=>C.Ge ZR rfl h) ?_;refine FO ?_;refine Ch.m 11 (aW λe aa hk=>?_);refine C.al rfl (λb3=>hk _ _ .cons ?_);refine Ch.m 12 (aW λe aa hk=>?_);refine C.pd rfl (hk _ undef ?_);refine zD ?_;refine cU.cls (wy s o1 (T.eraseIdx kq) q) ?_;refine again ih (wy s o1 (T.eraseIdx kq) q,I1) ⟨fp,y4,⟨o1,T.eraseIdx kq,q,rfl,az,hq1,az,az⟩,?_⟩ (dI);rw[<- rK,Ki (t:=t0.pL) hg (ji (s:=wy s o1 (T.eraseIdx kq) q) ZR)]
    ·rename_i ZS;refine C.dx (cG 51 0 8++[(50,8)]++[(59,9),(60,10)]++[(3,11)]++[(4,13)]) 14 [11,12] 1 ?_;refine lZ ?_;refine Dr.l (λhE h=>C.Gd ZR rfl h) ?_;refine FO ?_;refine Ch.m 11 (aW λe aa hk=>?_);refine C.al rfl (λb3=>hk _ _ .cons ?_);refine Ch.m 12 (aW λe aa hk=>?_);refine C.pd rfl (hk _ undef ?_);refine zD ?_;refine cU.cls (wy s o1 (T.eraseIdx kq) q) ?_;refine dV ?_;refine C.dv (fY (s:=wy s o1 (T.eraseIdx kq) q) (m:=⟨{bj with kind:=6,to:=ZS.home,tx:=t0.tx},aG,aG⟩) (dI)) ?_;rintro v aN rfl;refine ve ?_;refine C.dv (ly (ticks:=3) (s:=wy s (o1++[⟨{bj with kind:=6,aU:=s.me,to:=ZS.home,tx:=t0.tx},aG,aG⟩]) (T.eraseIdx kq) q) (dI) (dI) (dI) (by decide)) ?_;rintro v aN rfl;refine k6 ?_;have Q1:pJ (s.clock+1) ((T.eraseIdx kq++[(⟨s.clock+1+3,q+1,t0.tx,false⟩:kh)]).map (·.pL))=pJ (s.clock+1) ((T.eraseIdx kq).map (·.pL)):=by rw[eF];exact EL (by show s.clock+1<s.clock+1+3;omega)
     have Ym:=y4.outs (jX.nil I1 {bj with kind:=6,aU:=s.me,to:=ZS.home,tx:=t0.tx} rfl rfl);refine again ih (wy s (o1++[⟨{bj with kind:=6,aU:=s.me,to:=ZS.home,tx:=t0.tx},aG,aG⟩]) (T.eraseIdx kq++[⟨s.clock+1+3,q+1,t0.tx,false⟩]) (q+1),I1) ⟨fp,⟨Ym.log,Ym.pend,Ym.cg,Ym.waits,Ym.out⟩,⟨_,_,_,rfl,by simp;omega,az,by rw[Q1];omega,by rw[Q1];simp;omega⟩,?_⟩ (by dsimp only;rw[Q1];omega);dsimp only;rw[Q1,<- rK,Kh (t:=t0.pL) hg (oC (s:=wy s o1 (T.eraseIdx kq) q) ZR)];simp[dE.abs,jq,eJ,kh.pL,sR.abs]
  ·refine C.dx (cG 14 0 23) 23 [] 0 ?_;refine rR ?_;refine Dr.p (λh=>C.fe rfl h (hf:=tu)) ?_;refine rR ?_;refine Dr.l (λhE h=>C.kJ rfl h (j:=0)) ?_;refine lZ ?_;refine Dr.p (λh=>C.dP rfl h (hf:=h35)) ?_;refine xY ?_;refine ru ?_;refine cU.cls (wy s o1 T q) ?_;have UT:oi s.abs=(wy s o1 T q).abs:=by rw[<- hgo];exact yD (s:=(wy s o1 T q).abs) (ht.XJ (.inr (by rw[jN az];show s.clock+1<_;omega)))
   exact C.cX (aN:=[cU b (wy s o1 T q),a7 I1]) aJ aj ⟨I1,_,fp,za,UT.symm,⟨by have:=hC.z;omega,by have:=hC.o;show 0<=q/\q<=_;omega,λu hu p hp=>by have:=hC.a u hu p hp;omega⟩,rfl⟩
 ·refine C.dx (cG 14 0 23) 23 [] 0 ?_;refine rR ?_;refine Dr.p (λh=>C.dP rfl h (hf:=tu)) ?_;refine gg ?_;refine rR ?_;refine Dr.chain rfl ?_;refine ru ?_;refine cU.cls (wy s o1 T q) ?_;have UT:oi s.abs=(wy s o1 T q).abs:=by rw[<- hgo];exact yD (s:=(wy s o1 T q).abs) (ht.XJ (.inl (L0 az)))
  exact C.cX (aN:=[cU b (wy s o1 T q),a7 I1]) aJ aj ⟨I1,_,fp,za,UT.symm,⟨by have:=hC.z;omega,by have:=hC.o;show 0<=q/\q<=_;omega,λu hu p hp=>by have:=hC.a u hu p hp;omega⟩,rfl⟩
theorem EN{lg:ay}{l:List jg}(hl:l.length<2^40):aD prog ak bQ 181 #[lg.v] [a9 rA 1 272 lg l] (λv As=>∃ s':ay,v=s'.v/\As=[a9 rA 1 272 s' l]):=by
 refine aD.of λR C kd d F c cs aJ aj=>?_;refine bM ?_;refine At.XR (s:=lg) (l:=l) (f:=rA) Fo.au ?_ ?_
 ·rintro rfl rfl;refine dH ?_;refine C.SG rfl ?_ (a:=none) (len:=0) (cap:=0);refine dD ?_;exact C.bk aJ aj ⟨aG,rfl,rfl⟩
 ·intro h1 h2;have hv:lg.v=.slice (some ⟨lg.b,0,none⟩) lg.len lg.cap:=by unfold ay.v;rw[h1]
  refine dH ?_;refine C.SG rfl ?_ (a:=some ⟨lg.b,0,none⟩) (len:=lg.len) (cap:=lg.cap) (hx:=hv);refine dN ?_;refine C.ZA rA rfl (λb5=>?_);refine fI ?_;refine C.Dw (l:=[]) l rfl (λs'=>?_) (hsrc:=λH st=>?_) (s:=⟨some ⟨b5,0,none⟩,0,0⟩)
  ·refine bJ ?_;exact C.bk aJ aj ⟨s',rfl,rfl⟩
  ·exact dt.src (dt.own (s:=lg) Fo.au) st (λj=>rfl)
theorem G1{I:HL}{b:Nat}{s:dE}{o a:Int}(hJ:ShJ I s)(hb:pI s)(hC:wx o a s):
  aD prog ak bQ 141 #[aF b] [cU b s,a7 I] (gv b I (o+1) (a+1) (rP s.abs)):=by
 have iW:=hb.out;have BU:=hb.waits;refine aD.of λR C kd d F c cs aJ aj=>?_;refine bM ?_;refine cU.opn (h:=λlg wt ot tm bv bl bp bd be bu tl ht=>?_);refine ow ?_;refine C.dx (cG 10 0 13) 14 [10,13] 0 ?_;refine Qv ?_;refine Ch.m 10 (aW λe aa hk=>?_);refine C.Dw (s:=ot) (l:=s.out) s.waits rfl (λs'=>?_) (hsrc:=λH st=>dt.src (dt.own (s:=wt) Fo.au) st (λj=>rfl));refine hk _ _ ?_;refine Ch.m 13 (aW λe aa hk=>?_);refine C.st rfl (hk _ undef ?_);refine Um ?_;refine At.aG bN 7 190 ?_;refine cU.cls {s with aX:=s.log.length,out:=s.out++s.waits,waits:=[]} ?_ (wt:=aG);refine C.cX aJ aj ⟨I,{s with aX:=s.log.length,out:=s.out++s.waits,waits:=[]},Sub.refl _,⟨hJ.log,hJ.pend,hJ.cg,λx hx=>(nomatch hx),λx hx=>?_⟩,?_,hC.same rfl rfl,rfl⟩
 ·rcases bU.1 hx with hx|hx
  ·exact hJ.out x hx
  ·exact hJ.waits x hx
 ·simp[dE.abs,rP]
theorem Q2{α:Type}{f:α->List Value}{z:Nat}{el:aQ}{s:ay}{l:List α}(h:HL)(x:a9 f z el s l h):s.len=l.length/\l.length<=s.cap:=by
 rcases x with⟨rfl,rfl⟩|⟨b,pad,e,h1,h2,h3⟩
 ·exact⟨rfl,gZ _⟩
 ·exact⟨by rw[e],h2⟩
def N8(s:dE)(keep:Int):Int:=s.aX+min (max keep 0) ((s.log.length:Int)-s.aX)
abbrev crX(s:dE)(keep:Int):dE:={s with up:=false,aX:=N8 s keep,log:=s.log.take (N8 s keep).toNat,values:=[],aH:=[],pend:=[],done:=[],cf:=[],cg:=[],timers:=[],order:=0,clock:=0,waits:=[]}
theorem EO{I:HL}{b:Nat}{s:dE}{keep o a:Int}(hJ:ShJ I s)(hb:pI s)(hC:wx o a s):
  aD prog ak bQ 144 #[aF b,aI keep] [cU b s,a7 I] (gv b I (o+1) (a+1) (mI s.abs keep)):=by
 have ks:=hb.log;have vN:=hb.aX;have hg:0<=N8 s keep/\N8 s keep<=s.log.length:=by unfold N8;omega
 refine aD.of λR C kd d F c cs aJ aj=>?_;refine bM ?_;refine cU.opn (h:=λlg wt ot tm bv bl bp bd be bu tl ht=>?_);refine At.xr (A:=a9 rA 1 272 lg s.log) Fo.au Q2 λhk=>?_;refine dV ?_;refine C.dx (cG 7 0 20) 21 [20] 0 ?_;refine Nr ?_;refine Dr.p (λh=>C.mx rfl h) ?_;refine gg ?_;refine Dr.p (λh=>C.mn rfl h) ?_;refine Dr.p (λh=>C.ar rfl h (r:=N8 s keep) (hr:=xp az az)) ?_;refine wm ?_;refine Ch.m 20 (aW λe aa hk=>?_);refine C.st rfl (hk _ undef ?_);refine eQ ?_;refine C.dx (cG 27 0 13) 14 [10,13] 0 ?_;refine Qq ?_;refine Dr.p (λh=>C.TW rfl h (hi:=N8 s keep) (hh:=by constructor<;>omega)) ?_;refine wm ?_;refine Ch.m 10 (aW λe aa hk=>?_);refine At.turn (A:=a9 rA 1 272 lg s.log) Fo.au (BE (n:=(N8 s keep).toNat) az) ?_;refine C.dv (EN (lg:=⟨lg.a,(N8 s keep).toNat,lg.cap⟩) (l:=s.log.take (N8 s keep).toNat) (by rw[ik];omega)) ?_;rintro v aN ⟨s',rfl,rfl⟩;refine bM ?_;refine hk _ _ ?_;refine Ch.m 13 (aW λe aa hk=>?_);refine C.st rfl (hk _ undef ?_);refine Qr ?_;refine C.dv yk ?_;rintro v aN ⟨bv',bl',bp',bd',be',bu',rfl,rfl⟩;refine rS ?_;refine At.aG sT 4 263 (At.aG bN 7 190 ?_);refine At.zr (show At R d (all (([]:List (Int×e8)).map sV)::_) _ from ?_);refine cU.cls (crX s keep) ?_ (tl:=[]) (lg:=s') (wt:=aG) (tm:=aG) (ht:=rp.zero 0);refine C.cX (aN:=[cU b (crX s keep),a7 I]) aJ aj ⟨I,crX s keep,Sub.refl _,⟨λx hx=>hJ.log x (LY hx),by simp,by simp,by simp,hJ.out⟩,?_,⟨by have:=hC.z;omega,⟨rG 0,by have:=hC.o;show 0<=o+1;omega⟩,by simp⟩,rfl⟩;simp[dE.abs,mI,i4,N8,C3]
theorem wS{V:Type}{kk:IntKind}{g:V->Value}{b:Nat}{l:List (Int×V)}(h:HL)(x:dp kk g b l h):(l.map (·.1)).Nodup:=by obtain⟨es,clock,m,_⟩:=x;have:=m.nd;simpa[j6,vC]using this
structure yF{V:Type}(l vl:List (Int×V)):Prop where
 nd:(vl.map (·.1)).Nodup
 sub:∀ p∈vl,p∈l
theorem yF.add{V:Type}{l vl:List (Int×V)}(h:yF l vl){k:Int}{v:V}(hm:(k,v)∈l)(hn:k∉vl.map (·.1)):yF l ((k,v)::vl):=
 ⟨rh.2 ⟨hn,h.nd⟩,λp hp=>by
  rcases ga.1 hp with rfl|hp
  ·exact hm
  ·exact h.sub p hp⟩
theorem yF.len{V:Type}:∀ {vl l:List (Int×V)},yF l vl->vl.length<=l.length
 |[],l,_=>eK _
 |p::vl,l,h=>by
  obtain⟨i,hi,e⟩:=jx (h.sub p (iz ..));have nd:=rh.1 h.nd;have hc:yF (l.eraseIdx i) vl:=⟨nd.2,λq hq=>by
   have h1:=h.sub q (gb _ hq);have h2:=(oh hi).mem_iff.1 h1;rcases ga.1 h2 with h3|h3
   ·exact absurd (bH.2 ⟨q,hq,by rw[h3,e]⟩) nd.1
   ·exact h3⟩
  have:=hc.len;rw[C9,aK hi]at this;simp only[jc];omega
theorem yF.all{V:Type}:∀ {vl l:List (Int×V)},yF l vl->(l.map (·.1)).Nodup->(∀ p∈l,p.1∈vl.map (·.1))->vl.Perm l
 |[],l,_,_,ha=>by
  cases l with
  |nil=>exact .refl _
  |cons p l=>have:=ha p (iz ..);cases this
 |p::vl,l,h,hl,ha=>by
  obtain⟨i,hi,e⟩:=jx (h.sub p (iz ..));have nd:=rh.1 h.nd;have hp:=oh hi;rw[e]at hp;have XZ:((p::l.eraseIdx i).map (·.1)).Nodup:=(hp.map (·.1)).nodup_iff.1 hl;have hl3:=rh.1 XZ;have hc:yF (l.eraseIdx i) vl:=⟨nd.2,λq hq=>by
   have h2:=hp.mem_iff.1 (h.sub q (gb _ hq));rcases ga.1 h2 with h3|h3
   ·exact absurd (bH.2 ⟨q,hq,by rw[h3]⟩) nd.1
   ·exact h3⟩
  refine((hc.all hl3.2 λq hq=>?_).cons p).trans hp.symm;have h3:=ha q (hp.mem_iff.2 (gb _ hq));rcases ga.1 h3 with h4|h4
  ·exact absurd (bH.2 ⟨q,hq,h4⟩) hl3.1
  ·exact h4
theorem EP{V:Type}{l:List (Int×V)}{k:Int}{v:V}(h:k∉l.map (·.1)):bA l k v=l++[(k,v)]:=by
 cases hi:pD k l 0 with
 |none=>exact(iZ hi).2.1 v
 |some nv=>
  obtain⟨j,w⟩:=nv;obtain⟨n, -,h1,h2, -, -⟩:=iY hi;exact absurd (bH.2 ⟨(k,w),eY h1,rfl⟩) h
theorem ER{b:Nat}{s:dE}:aD prog ak bQ 168 #[aF b] [cU b s] (λv As=>∃ b' l',v=.map (some b')/\l'.Perm s.aH/\As=[dp .u8 dR b' l',cU b s]):=by
 refine aD.of λR C kd d F c cs aJ aj=>?_;refine bM ?_;refine cU.opn (h:=λlg wt ot tm bv bl bp bd be bu tl ht=>?_);refine At.xr (A:=dp .u8 dR bl s.aH) Fo.au wS λlR=>?_;refine dD ?_;refine C.mm .u8 dR rfl (λb6=>?_);refine kE ?_;refine C.rn (g:=dR) (l:=s.aH) rfl (λPr=>?_);refine C.go ?_;refine C.cx (X:=List (Int×Int)) (λvl=>[(3,.map (some b6)),(12,.pointer (some ⟨Pr,0,none⟩))]) (λvl=>dp .u8 dR b6 vl.reverse::It .u8 dR bl Pr s.aH (vl.map (·.1))::ZN b s lg wt ot tm bv bl bp bd be bu::a9 rA 1 272 lg s.log::dp .u8 fE bv s.values::dp .i64 BP bp s.pend::dp .i64 rB bd s.done::dp .i64 rB be s.cf::dp .i64 yj bu s.cg::all (s.cg.map sV)::
 a9 sT 4 263 tm tl::a9 bN 7 190 wt s.waits::a9 bN 7 190 ot s.out::F) (λvl=>yF s.aH vl) (λvl=>s.aH.length-vl.length) [] ⟨rfl,rfl,trivial⟩ ⟨.nil,λp hp=>(nomatch hp)⟩ ?_ (hI:=by rw[Hz,m1];exact bZ.au)
 intro vl e hc ih;refine bJ ?_;refine C.nx (g:=dR) (l:=s.aH) rfl (λN9 Q3 Yn qz=>?_) (λqz=>?_)
 ·refine dN ?_;have UU:=ew lR Yn;have kF:=hc.add Yn qz;have wE:=kF.len;have vY:N9∉vl.reverse.map (·.1):=by rw[List.map_reverse,List.mem_reverse];exact qz
  refine fI ?_;refine C.ZD UU rfl ?_ Fo.au;refine kL ?_;refine C.mu (w:=Q3) (l:=vl.reverse) (q:=N9) rfl ?_;refine C.go ?_;refine again ih ((N9,Q3)::vl) kF (by simp only[jc]at wE⊢;omega) (hr:=?_);rw[L3,<- EP vY,iJ];exact bZ.au
 ·refine dV ?_;refine At.Iv (l:=s.aH) (g:=dR) Fo.au ?_;refine cU.cls s ?_;exact C.bk aJ aj ⟨b6,vl.reverse,rfl,(List.reverse_perm vl).trans (hc.all lR qz),rfl⟩
theorem BX{b:Nat}{s:dE}:aD prog ak bQ 129 #[aF b] [cU b s] (λv As=>∃ b' l',v=.map (some b')/\l'.Perm (s.values.filter λp=>p.2 != 0)/\As=[dp .u8 fE b' l',cU b s]):=by
 refine aD.of λR C kd d F c cs aJ aj=>?_;refine bM ?_;refine cU.opn (h:=λlg wt ot tm bv bl bp bd be bu tl ht=>?_);refine At.xr (A:=dp .u8 fE bv s.values) Fo.au wS λlR=>?_;refine dD ?_;refine C.mm .u8 fE rfl (λb6=>?_);refine kE ?_;refine C.rn (g:=fE) (l:=s.values) rfl (λPr=>?_);refine C.go ?_;refine C.cx (X:=List (Int×Int)) (λvl=>[(3,.map (some b6)),(12,.pointer (some ⟨Pr,0,none⟩))]) (λvl=>dp .u8 fE b6 (vl.reverse.filter λp=>p.2 != 0)::It .u8 fE bv Pr s.values (vl.map (·.1))::ZN b s lg wt ot tm bv bl bp bd be bu::a9 rA 1 272 lg s.log::dp .u8 dR bl s.aH::dp .i64 BP bp s.pend::dp .i64 rB bd s.done::dp .i64 rB be s.cf::dp .i64 yj bu s.cg::all (s.cg.map sV)::
 a9 sT 4 263 tm tl::a9 bN 7 190 wt s.waits::a9 bN 7 190 ot s.out::F) (λvl=>yF s.values vl) (λvl=>s.values.length-vl.length) [] ⟨rfl,rfl,trivial⟩ ⟨.nil,λp hp=>(nomatch hp)⟩ ?_ (hI:=by rw[Hz,C8,m1];exact bZ.au)
 intro vl e hc ih;refine bJ ?_;refine C.nx (g:=fE) (l:=s.values) rfl (λN9 Q3 Yn qz=>?_) (λqz=>?_)
 ·refine dN ?_;have UU:=ew lR Yn;have kF:=hc.add Yn qz;have wE:=kF.len;have vY:N9∉(vl.reverse.filter λp=>p.2 != 0).map (·.1):=λh=>qz (by obtain⟨p,hp,e⟩:=bH.1 h;exact bH.2 ⟨p,List.mem_reverse.1 (gP.1 hp).1,e⟩)
  refine fI ?_;refine C.ZD UU rfl ?_ Fo.au;refine dV ?_;refine C.cmp rfl (λyG=>?_) (λyG=>?_)
  ·refine dH ?_;refine C.mu (w:=Q3) (l:=vl.reverse.filter λp=>p.2 != 0) (q:=N9) rfl ?_;refine C.go ?_;refine again ih ((N9,Q3)::vl) kF (by simp only[jc]at wE⊢;omega) (hr:=?_);have e1:((N9,Q3)::vl).reverse.filter (λp=>p.2 != 0)=bA (vl.reverse.filter λp=>p.2 != 0) N9 Q3:=by rw[EP vY,L3,ml,tD,aK (by simpa using yG),C8]
   rw[e1,iJ];exact bZ.au
  ·refine bJ ?_;refine again ih ((N9,Q3)::vl) kF (by simp only[jc]at wE⊢;omega) (hr:=?_);have e1:((N9,Q3)::vl).reverse.filter (λp=>p.2 != 0)=vl.reverse.filter λp=>p.2 != 0:=by rw[L3,ml,tD,ao (by simpa using yG),C8,k8]
   rw[e1,iJ];exact bZ.au
 ·refine dV ?_;refine At.Iv (l:=s.values) (g:=fE) Fo.au ?_;refine cU.cls s ?_;exact C.bk aJ aj ⟨b6,vl.reverse.filter (λp=>p.2 != 0),rfl,((List.reverse_perm vl).trans (hc.all lR qz)).filter _,rfl⟩
abbrev uH(r:i7):HP:=all [a9 cF 3 67 r.so r.ops,a9 da 1 21 r.sr r.reads]
variable{rs:List i7}
theorem Q4(r:i7)(hr:dB [a9 cF 3 67 r.so r.ops,a9 da 1 21 r.sr r.reads,all (rs.map uH)] As L)(h:At R d (all ((rs++[r]).map uH)::L) g):At R d As g:=
 At.perm hr.perm λH s=>(qU (f:=uH) r (.cons .head (.cons .head .nil)) h) H (Sat.fS (l:=[a9 cF 3 67 r.so r.ops,a9 da 1 21 r.sr r.reads]) s)
theorem zI{I:HL}{b:Nat}{s:dE}(hJ:ShJ I s)(hl:s.log.length<2^30):aD prog ak bQ 146 #[aF b] [cU b s,a7 I]
  (λv As=>∃ (sl:ay) (rs:List i7),v=.tuple #[sl.v,aI s.aX]/\rs.map (·.toRecR)=s.log.map (·.abs.a8)/\As=[a9 recC 6 167 sl rs,all (rs.map uH),cU b s,a7 I]):=by
 refine aD.of λR C kd d F c cs aJ aj=>?_;refine bM ?_;refine cU.opn (h:=λlg wt ot tm bv bl bp bd be bu tl ht=>?_);refine jr ?_;refine fI ?_;refine At.aG recC 6 167 ?_;refine At.zr (show At R d (all (([]:List i7).map uH)::_) _ from ?_);refine C.cx (X:=Nat×ay×List i7) (λx=>[(0,aF b),(4,x.2.1.v),(10,lg.v),(11,aI s.log.length),(12,aI x.1)]) (λx=>a9 recC 6 167 x.2.1 x.2.2::all (x.2.2.map uH)::SX b s lg wt ot tm bv bl bp bd be bu tl (a7 I::F)) (λx=>x.1<=s.log.length/\x.2.2.map (·.toRecR)=(s.log.take x.1).map (·.abs.a8)) (λx=>s.log.length-x.1) (0,aG,[]) ⟨rfl,rfl,rfl,rfl,rfl,trivial⟩ ⟨eK _,rfl⟩ ?_;rintro⟨i,s1,rs⟩ e ⟨hi,pB⟩ ih;dsimp only at hi pB⊢;have Bh:rs.length=i:=by have:=congrArg List.length pB;rw[cV,cV,ik]at this;omega
 refine bJ ?_;refine C.cmp rfl (λqz=>?_) (λqz=>?_)
 ·refine bJ ?_;have cN:i<s.log.length:=by simpa using qz
  have ZO:=hJ.log _ (br cN);refine kE ?_;refine C.enr ZO ?_;rintro v aN ⟨so,sr,rfl,rfl⟩;refine bM ?_;refine C.nj rfl (λb19=>?_);refine C.nM (s:=s1) (l:=rs) (i7.mk (s.log[i]'cN).abs.a8 so sr) rfl (λs2=>?_);refine dH ?_;refine Q4 (rs:=rs) (i7.mk (s.log[i]'cN).abs.a8 so sr) dB.au ?_;refine again ih (i+1,s2,rs++[i7.mk (s.log[i]'cN).abs.a8 so sr]) ⟨cN,?_⟩ (dI);rw[gQ cN,eF,eF,pB];rfl
 ·refine bJ ?_;refine C.dx (cG 22 0 5++[(2,5),(3,6)]) 7 [] 0 ?_;refine Qu ?_;refine eQ ?_;have e1:s.log.take i=s.log:=iq (by simp at qz;omega);rw[e1]at pB;refine cU.cls s ?_;exact C.bk aJ aj ⟨s1,rs,rfl,pB,rfl⟩
def UW:aQ->Nat->Bool:=λt o=>t==23||t==114||(t==92&&o==5)||(t==120&&o==1)
def UX:aQ->Nat->Bool:=λt o=>t==92&&(o==7||o==8)
def bP:sB:=⟨⟨bQ.rd,UX,0⟩,rfl,UW,UX,λb t o h=>by
 simp only[UW,bQ,CU,lN]at h⊢;rcases h with((h|h)|h)|h
 ·exact .inl (.inr h)
 ·exact .inl (.inl (.inr h))
 ·exact .inl (.inl (.inl h.1))
 ·exact .inr h.1,λt o h=>h⟩
theorem cy(σ:Gh):XB (bP.bw σ) bQ:=⟨λb t o h=>(sB.le bP σ).rd b t o h,λt o h=>by have h:UX t o=true:=h;simp only[UX,bQ,CU,lN]at h⊢;exact .inl (.inl (.inl h.1)),eK _⟩
theorem Oa:XB bP.B0 bQ:=⟨λb t o h=>h,(cy ⟨0,λ_=>none,λ_=>False,0⟩).sh,gZ _⟩
abbrev Q5(m:Int)(ae aE aL dn:Value)(ai:Bool)(st:Int):Array Value:=#[.int .i32 m,.int .u32 0,ae,aE,aL,dn,.bool ai,.int .u64 st,.int .u32 0]
abbrev nU(b:Nat)(m:Int)(ae aE aL dn:Value)(ai:Bool)(st:Int):HP:=bR b (.cells (Q5 m ae aE aL dn ai st) 92 (0,0))
variable{σ:Gh}{ae aE aL dn:Value}{ai:Bool}{st:Int}
theorem G2:aD prog true (bP.bw σ) 62 #[.pointer (some ⟨b,0,none⟩)] [nU b 0 ae aE aL dn ai st] (λv As=>v=.tuple #[]/\As=[nU b 1 ae aE aL dn ai st]):=by refine aD.of λR C kd d F c cs aJ aj=>?_;refine jK ?_;refine C.P8 rfl ?_;refine dD ?_;refine C.XC rfl ?_;refine cW ?_;refine C.T5 rfl ?_;refine dN ?_;refine C.P9 rfl ?_;refine C.Zx (mk:=.acquire) (a:=⟨b,0,none⟩) rfl ?_ (hm:=λH s=>⟨_,_,Has.get Has.au s⟩);refine C.go ?_;exact C.bk aJ aj ⟨rfl,rfl⟩
theorem BZ:aD prog true (bP.bw σ) 63 #[.pointer (some ⟨b,0,none⟩)] [nU b 1 ae aE aL dn ai st] (λv As=>v=.tuple #[]/\As=[nU b 0 ae aE aL dn ai st]):=by refine aD.of λR C kd d F c cs aJ aj=>?_;refine bM ?_;refine i6 ?_;refine C.P9 rfl ?_;refine C.Zx (mk:=.releaseMerge) (a:=⟨b,0,none⟩) rfl ?_ (hm:=λH s=>⟨_,_,Has.get Has.au s⟩);refine bJ ?_;refine C.P8 rfl ?_;refine dD ?_;refine C.XD (z':=0) rfl ?_;refine cW ?_;refine C.dP rfl ?_;refine dN ?_;refine C.T5 rfl ?_;refine C.go ?_;exact C.cX aJ aj ⟨rfl,rfl⟩
theorem eX:aD prog true (bP.bw σ) 33 #[.pointer (some ⟨b,0,none⟩)] [nU b 0 ae aE aL dn ai st] (λv As=>v=.tuple #[]/\As=[nU b 1 ae aE aL dn ai st]):=by refine aD.of λR C kd d F c cs aJ aj=>?_;refine ve ?_;refine C.cE G2 ?_;refine k6 ?_;exact C.cX aJ aj ⟨rfl,rfl⟩
theorem dm:aD prog true (bP.bw σ) 34 #[.pointer (some ⟨b,0,none⟩)] [nU b 1 ae aE aL dn ai st] (λv As=>v=.tuple #[]/\As=[nU b 0 ae aE aL dn ai st]):=by refine aD.of λR C kd d F c cs aJ aj=>?_;refine ve ?_;refine C.cE BZ ?_;refine k6 ?_;exact C.cX aJ aj ⟨rfl,rfl⟩
end
section
open Go.Proofs Go.Conc
instance:Zv prog 73 (.agg #[]):=⟨_,ax type73,rfl⟩
variable{P:bL}{n:Nat}{e:Nat->Value}{dst:Option Nat}{ty t1 t2:aQ}{pos:String}{af:Array Edge}{gd:Option (Nat×Bool)}{x y:cA}
theorem Ob{a b:Nat}{z1 z2:Value}[c1:Zv P t1 z1][c2:Zv P t2 z2](hx:ev n e x=.chan (some a))(hy:ev n e y=.chan (some b)):fD P (execOp (ev n e) ⟨dst,.select #[⟨x,none,t1⟩,⟨y,none,t2⟩] true,ty,pos,af,gd⟩)=some (.comm #[rcase a z1,rcase b z2] true .select):=by unfold execOp;simp only;refine bq (a:=#[rcase a z1,rcase b z2]) ?_ rfl;have h1:fD P (zeroValue t1)=some z1:=tY c1.h;have h2:fD P (zeroValue t2)=some z2:=tY c2.h;rw[HA];simp only[LC,PI,hx,hy,CR,HC,bind_assoc,pure_bind];refine bq h1 (bq h2 rfl)
structure HG where
 g:Nat
 hb:Nat
 bh:Nat
 bs:Nat
 wk:Nat
 rd:Nat
structure CG where
 b:Nat
 cb:Nat
 dn:Nat
def S5(C:CG)(cs:List Frame):Prop:=∃ e1,cs=[aU 49 .n7 11 e1 [⟨.fn (.func 50) #[],#[.pointer (some ⟨C.b,7,none⟩)]⟩] [.inRegion (cO (cR ((f49.body).getD .skip))) [5]],base prog []]
def B1(h:HG)(C:CG)(r:aP):Prop:=∃ e cs,S5 C cs/\e 0=aF h.bh/\e 1=.chan (some C.dn)/\r=gr 51 .pb 30 e [] (.inRegion (cO (cL (cR (cB (cB (cB ((f51.body).getD .skip))))))) [0,1,2,3]:: .code (cR (cR (cB (cB (cB ((f51.body).getD .skip)))))):: .inBlock 1:: .inLoop (cB (cB ((f51.body).getD .skip)))::[.inBlock 0]) cs
def dZ(h:HG)(C:CG):du:=⟨#[rcase h.wk .nilFunc,rcase C.dn (.agg #[])],.select,B1 h C,[(⟨C.cb,0,none⟩,aF C.b),(⟨h.hb,0,none⟩,aF h.bh),(⟨C.b,5,none⟩,.chan (some C.dn)),(⟨h.bh,1,none⟩,.chan (some h.wk))]⟩
theorem ES{h:HG}{C:CG}{e:Nat->Value}{cs:List Frame}(rk:S5 C cs)(h0:e 0=aF h.bh)(h1:e 1=.chan (some C.dn)):
  Way prog false (dZ h C) 200 (gr 51 .pb 30 e [] (.code (cB (cB ((f51.body).getD .skip))):: .inLoop (cB (cB ((f51.body).getD .skip)))::[.inBlock 0]) cs):=by
 have M:=Mt.Zy (P:=prog) (ak:=false) (s:=dZ h C);rw[<- jJ (e:=e) (l:=[(0,aF h.bh),(1,.chan (some C.dn))]) ⟨h0,h1,trivial⟩];refine M.go ?_;refine M.rg [0,1,2,3] ?_;refine M.mv rfl ?_;refine M.nc (a:=⟨h.bh,0,none⟩) rfl ?_;refine M.fa rfl ?_;refine M9 (ad:=⟨h.bh,1,none⟩) (v:=.chan (some h.wk)) rfl ?_ (by simp[dZ]);refine M.go ?_;refine M.rg [0] ?_;refine M.mv rfl ?_;refine M.go ?_;refine M.rg [0,1,2,3] ?_;exact Way.mono (n:=0) (T7 rfl ⟨_,cs,rk,rfl,rfl,rfl⟩ (Ob rfl rfl) rfl) az
theorem Kk{h:HG}{C:CG}:Way prog false (dZ h C) 600 (child prog ⟨.fn (.func 49) #[aF C.cb,aF h.hb],#[]⟩):=by
 have M:=Mt.Zy (P:=prog) (ak:=false) (s:=dZ h C);refine M.child ?_;refine M.go ?_;refine M.rg [0,1,2,3] ?_;refine M9 (ad:=⟨C.cb,0,none⟩) (v:=aF C.b) rfl ?_ (by simp[dZ]);refine M.nc (a:=⟨C.b,0,none⟩) rfl ?_;refine M.fa rfl ?_;refine M.n7 rfl ?_;refine M.go ?_;refine Gu [(5,0),(6,1),(7,2),(8,3),(9,4),(10,5)] [0,1,2,3,4] 5 [⟨0,5,aF h.bh,false⟩,⟨1,6,aF C.b,false⟩,⟨2,7,aF C.b,false⟩,⟨3,8,.pointer (some ⟨C.b,5,none⟩),false⟩,⟨4,9,.chan (some C.dn),false⟩] ⟨?_,?_,?_,?_,?_⟩ ?_
 ·intro i hi;simp only[ga,l7,fO]at hi;rcases hi with rfl|rfl|rfl|rfl|rfl<;>simp
 ·simp
 ·simp
 ·intro x hx;simp only[ga,l7,fO]at hx;rcases hx with rfl|rfl|rfl|rfl|rfl<;>rfl
 ·intro x hx;simp only[ga,l7,fO]at hx;rcases hx with rfl|rfl|rfl|rfl|rfl
  ·exact⟨[],by simp,λm e aa q=>DK (ad:=⟨h.hb,0,none⟩) (by simp[dZ]) rfl q⟩
  ·exact⟨[],by simp,λm e aa q=>DK (ad:=⟨C.cb,0,none⟩) (by simp[dZ]) rfl q⟩
  ·exact⟨[⟨1,6,aF C.b,false⟩],by simp,λm e aa q=>Il (a:=⟨C.b,0,none⟩) rfl q⟩
  ·exact⟨[⟨2,7,aF C.b,false⟩],by simp,λm e aa q=>Im (b:=C.b) (off:=0) (o:=5) rfl q⟩
  ·exact⟨[⟨3,8,.pointer (some ⟨C.b,5,none⟩),false⟩],by simp,λm e aa q=>DK (ad:=⟨C.b,5,none⟩) (by simp[dZ]) rfl q⟩
 ·refine M.Qa (f:=51) rfl ?_;refine M.go ?_;refine M.lp ?_;exact Way.mono (ES ⟨_,rfl⟩ rfl rfl) az
end
section
open Go.Proofs Go.Conc
structure Yo(G:pK)(b:Nat):Prop where
 blk:G.blk=b
 o1:G.o1=7
 o2:G.o2=8
 ty:G.ty=92
 sz:G.cs.size=9
theorem UY{a b:Nat}{z1 z2 v:Value}{ok:Bool}:commResult #[rcase a z1,rcase b z2] .select 1 v ok=.tuple #[aI 1,.bool ok,z1,v]:=by simp[commResult,rcase,goInt]
theorem UZ{a b:Nat}{z1 z2 v:Value}{ok:Bool}:commResult #[rcase a z1,rcase b z2] .select 0 v ok=.tuple #[aI 0,.bool ok,v,z2]:=by simp[commResult,rcase,goInt]
theorem leave{h:HG}{C:CG}{G:pK}(hG:Yo G C.b){r:aP}(hr:B1 h C r):Cl prog G 9000 .rel (Conc.served r (commResult #[rcase h.wk .nilFunc,rcase C.dn (.agg #[])] .select 1 (.agg #[]) false)):=by
 obtain⟨e,cs,⟨e1,rfl⟩,h0,h1,rfl⟩:=hr;obtain⟨blk,o1,o2,ET,gty⟩:=G;obtain⟨e1',e2',e3',e4',hsz⟩:=hG;simp only at e1' e2' e3' e4' hsz;subst e1' e2' e3' e4';have M:=Mt.cl (P:=prog) (G:=⟨C.b,7,8,ET,92⟩) (x:=.rel);rw[qV rfl,UY];refine M.ext (v:=aI 1) rfl ?_;refine M.bo (v:=.bool false) rfl ?_;refine M.bo (v:=.bool true) rfl ?_;refine M.go ?_;refine M.Br ?_;refine M.Jm ?_;refine M.ret ?_;refine M.home ?_;unfold eT;rw[bY rfl];show Cl prog _ _ .rel (gr 49 .n7 11 _ _ _ _);refine M.go ?_;refine M.fin ?_;refine M.dcall ?_;refine M.go ?_;refine M.rg [0,1] ?_;refine M.mv rfl ?_;refine M.Qa (f:=48) rfl ?_;refine M.go ?_;refine M.Jm ?_;refine M.rg [0,1] ?_;refine M.mv rfl ?_;refine M.bo (v:=.bool true) rfl ?_;refine M.go ?_;refine M.Jm ?_;refine M.rg [0,1,2] ?_;refine M.mv rfl ?_;refine M.P9 (ad:=⟨C.b,7,none⟩) (λw ⟨c,h1,h2⟩=>⟨c[7]'(by simp only at h2;omega),by simp only[World.cell?,h1];simp⟩) rfl ?_;refine Uc rfl (λw=>xK .releaseMerge rfl rfl (by intro ad g;simp) rfl w) ?_;have M:=Mt.cl (P:=prog) (G:=⟨C.b,7,8,ET,92⟩) (x:=.wF);refine M.go ?_;refine M.rg [0] ?_;refine Ud rfl (λw=>xJ .disable rfl rfl (by intro g;simp) w) ?_;have M:=Mt.cl (P:=prog) (G:=⟨C.b,7,8,ET,92⟩) (x:=.add);refine M.go ?_;refine M.rg [0] ?_;refine M.n7 rfl ?_;refine M.go ?_;refine M.rg [0] ?_;refine M.kH rfl ?_;refine M.go ?_;refine M.rg [0] ?_;refine M.xk rfl ?_;refine M.go ?_;refine M.Br ?_;refine M.rg [0,1,2,3,4,5,6,7] ?_;refine M.mv rfl ?_;refine M.nc (a:=⟨C.b,7,none⟩) rfl ?_;refine M.fa (b:=C.b) (off:=7) (o:=0) rfl ?_;refine M.mv rfl ?_;refine M.cv (r:=18446744073709551615) rfl ?_;refine M.bo (v:=.int .u64 18446744069414584320) rfl ?_;refine M.Qa (f:=96) rfl ?_;refine M.go ?_;refine M.rg [0] ?_;refine M.kH rfl ?_;refine M.go ?_;refine M.rg [0,1,2,3,4,5] ?_;refine M.mv rfl ?_;refine M.nc (a:=⟨C.b,7,none⟩) rfl ?_;refine M.fa (b:=C.b) (off:=7) (o:=0) rfl ?_;refine M.mv rfl ?_;refine Qi rfl ?_ ?_
 ·have M:=Mt.cl (P:=prog) (G:=⟨C.b,7,8,ET,92⟩) (x:=.ld);refine M.kH rfl ?_;refine M.go ?_;refine M.ret ?_;refine M.home ?_;unfold eT;rw[bY rfl];show Cl prog _ _ .ld (gr 48 .pb 117 _ _ _ _);refine M.kH rfl ?_;refine M.go ?_;refine M.rg [0,1,2,3,4,5,6] ?_;refine M.mv rfl ?_;refine M.bo rfl ?_;refine M.bo rfl ?_;refine M.mv rfl ?_;refine M.no rfl ?_;refine M.no rfl ?_;refine M.pk rfl ?_;refine M.go ?_;refine M.Br ?_;refine M.rg [0,1,2,3] ?_;refine M.mv rfl ?_;refine M.bo rfl ?_;refine M.cv rfl ?_;refine M.kH rfl ?_;refine M.go ?_;refine M.rg [0,1,2,3] ?_;refine M.mv rfl ?_;refine M.bo rfl ?_;refine M.cv rfl ?_;refine M.kH rfl ?_;refine M.go ?_;refine M.rg [0,1,2,3,4,5,6,7,8,9] ?_;refine M.mv rfl ?_;refine M.mv rfl ?_;refine M.bo rfl ?_;refine M.pk rfl ?_;refine M.mv rfl ?_;refine M.no rfl ?_;refine M.no rfl ?_;refine M.no rfl ?_;refine M.no rfl ?_;refine M.pk rfl ?_;refine M.go ?_;refine M.Br ?_;refine M.rg [0,1] ?_;refine M.mv rfl ?_;refine M.bo rfl ?_;refine M.go ?_;refine M.Br ?_;refine M.rg [0,1,2,3,4,5,6,7,8,9,10,11] ?_;refine M.mv rfl ?_;refine M.bo rfl ?_;refine M.mv rfl ?_
  first|refine M.no rfl ?_|refine M.mv rfl ?_
  first|refine M.no rfl ?_|refine M.bo rfl ?_
  refine M.pk rfl ?_;refine M.mv rfl ?_;refine M.no rfl ?_;refine M.no rfl ?_;refine M.no rfl ?_;refine M.no rfl ?_;refine M.pk rfl ?_;refine M.go ?_;refine M.Br ?_;refine M.rg [0,1,2,3,4,5] ?_;refine M.mv rfl ?_;refine M.bo rfl ?_;refine M.mv rfl ?_
  first|refine M.no rfl ?_|refine M.mv rfl ?_
  first|refine M.no rfl ?_|refine M.bo rfl ?_
  refine M.pk rfl ?_;refine M.go ?_;refine M.Br ?_;refine M.rg [0,1,2,3,4,5] ?_;refine M.mv rfl ?_;refine M.nc rfl ?_;refine M.fa rfl ?_;refine M.Qa (f:=65) rfl ?_;refine M.go ?_;refine M.rg [0] ?_;refine M.kH rfl ?_;refine M.go ?_;refine M.rg [0,1,2,3,4] ?_;refine M.mv rfl ?_;refine M.nc rfl ?_;refine M.fa rfl ?_;refine XM rfl (λw hc=>xL rfl rfl rfl hc) ?_;have M:=Mt.cl (P:=prog) (G:=⟨C.b,7,8,ET,92⟩) (x:=.Li);refine M.kH rfl ?_;refine M.go ?_;refine M.ret ?_;refine M.home ?_;unfold eT;rw[bY rfl];show Cl prog _ _ .Li (gr 48 .pb 117 _ _ _ _);refine M.mv rfl ?_;refine M.bo rfl ?_;refine M.go ?_;refine M.Br ?_;refine M.rg [0,1,2,3] ?_;refine M.mv rfl ?_;refine M.nc rfl ?_;refine M.fa rfl ?_;refine M.Qa (f:=98) rfl ?_;refine M.go ?_;refine M.rg [0,1,2,3,4] ?_;refine M.mv rfl ?_;refine M.nc rfl ?_;refine M.fa rfl ?_;refine M.mv rfl ?_;refine Uf rfl (λw hc hz=>M2 rfl rfl rfl rfl hc hz) ?_;have M:=Mt.cl (P:=prog) (G:=⟨C.b,7,8,ET,92⟩) (x:=.F0);refine M.go ?_;refine M.fin ?_;refine M.home ?_;unfold eT;rw[bY rfl];show Cl prog _ _ .F0 (gr 48 .pb 117 _ _ _ _);refine M.go ?_;refine M.rg [0] ?_;refine M.mv rfl ?_;refine M.go ?_;refine M.Br ?_;refine M.lp ?_;refine M.go ?_;refine M.rg [0,1] ?_;refine M.mv rfl ?_;refine M.bo rfl ?_;refine M.go ?_;refine M.Jm ?_;refine M.rg [0,1,2,3] ?_;refine M.mv rfl ?_;refine M.nc rfl ?_;refine M.fa rfl ?_;refine Ug rfl (Nj rfl) (λw hc hz=>M8 rfl rfl rfl hc hz) ?_;have M:=Mt.quits (P:=prog) (d:=1);refine M.go ?_;refine M.rg [0,1,2] ?_;refine M.mv rfl ?_;refine M.bo rfl ?_;refine M.kH rfl ?_;refine M.go ?_;refine M.TQ ?_;refine M.go ?_;refine M.rg [0,1] ?_;refine M.mv rfl ?_;refine M.bo rfl ?_;refine M.go ?_;refine M.Br ?_;refine M.fin ?_;refine Al rfl (λw=>Ak .enable (by intro g;simp) w) ?_;have M:=Mt.quits (P:=prog) (d:=0);refine M.home ?_;unfold eT;rw[bY rfl];show QuitsD prog _ 0 (gr 50 .n7 4 _ _ _ _);refine M.go ?_;refine M.fin ?_;refine M.Ii ?_;refine M.Ii ?_;exact Am
 ·intro v wt hv hw eI;have M:=Mt.quits (P:=prog) (d:=1);have nZ:(v=0/\wt=0)\/(v=1/\wt=0)\/(v=1/\wt=1)\/(v=2/\wt=0)\/(v=2/\wt=1)\/(v=3/\wt=0)\/(v=3/\wt=1):=az;rcases nZ with⟨rfl,rfl⟩|⟨rfl,rfl⟩|⟨rfl,rfl⟩|⟨rfl,rfl⟩|⟨rfl,rfl⟩|⟨rfl,rfl⟩|⟨rfl,rfl⟩
  all_goals
   refine M.kH rfl ?_;refine M.go ?_;refine M.ret ?_;refine M.home ?_;unfold eT;rw[bY rfl];show QuitsD prog _ 1 (gr 48 .pb 117 _ _ _ _);refine M.kH rfl ?_;refine M.go ?_;refine M.rg [0,1,2,3,4,5,6] ?_;refine M.mv rfl ?_;refine M.bo rfl ?_;refine M.bo rfl ?_;refine M.mv rfl ?_;refine M.no rfl ?_;refine M.no rfl ?_;refine M.pk rfl ?_;refine M.go ?_;refine M.Br ?_;refine M.rg [0,1,2,3] ?_;refine M.mv rfl ?_;refine M.bo rfl ?_;refine M.cv rfl ?_;refine M.kH rfl ?_;refine M.go ?_;refine M.rg [0,1,2,3] ?_;refine M.mv rfl ?_;refine M.bo rfl ?_;refine M.cv rfl ?_;refine M.kH rfl ?_;refine M.go ?_;refine M.rg [0,1,2,3,4,5,6,7,8,9] ?_;refine M.mv rfl ?_;refine M.mv rfl ?_;refine M.bo rfl ?_;refine M.pk rfl ?_;refine M.mv rfl ?_;refine M.no rfl ?_;refine M.no rfl ?_;refine M.no rfl ?_;refine M.no rfl ?_;refine M.pk rfl ?_;refine M.go ?_;refine M.Br ?_;refine M.rg [0,1] ?_;refine M.mv rfl ?_;refine M.bo rfl ?_;refine M.go ?_;refine M.Br ?_;refine M.rg [0,1,2,3,4,5,6,7,8,9,10,11] ?_;refine M.mv rfl ?_;refine M.bo rfl ?_;refine M.mv rfl ?_
   first|refine M.no rfl ?_|refine M.mv rfl ?_
   first|refine M.no rfl ?_|refine M.bo rfl ?_
   refine M.pk rfl ?_;refine M.mv rfl ?_;refine M.no rfl ?_;refine M.no rfl ?_;refine M.no rfl ?_;refine M.no rfl ?_;refine M.pk rfl ?_;refine M.go ?_;refine M.Br ?_;refine M.rg [0,1,2,3,4,5] ?_;refine M.mv rfl ?_;refine M.bo rfl ?_;refine M.mv rfl ?_
   first|refine M.no rfl ?_|refine M.mv rfl ?_
   first|refine M.no rfl ?_|refine M.bo rfl ?_
   refine M.pk rfl ?_;refine M.go ?_;refine M.Jm ?_;refine M.ret ?_;refine Al rfl (λw=>Ak .enable (by intro g;simp) w) ?_;have M:=Mt.quits (P:=prog) (d:=0);refine M.home ?_;unfold eT;rw[bY rfl];show QuitsD prog _ 0 (gr 50 .n7 4 _ _ _ _);refine M.go ?_;refine M.fin ?_;refine M.Ii ?_;refine M.Ii ?_;exact Am
def zb(P:bL)(G:pK)(Fin:aP->Prop)(x:MS)(_:Nat)(g:aP):Prop:=MW P G Fin x g
variable{R:Nat->aP->Array Obj->Prop}{B:jW}{As:List HP}{b:Nat}{ET:Array Value}{fr:Frame}{cs:List Frame}
theorem B2{w:World}{o:Nat}(hsz:ET.size=9)(ho:o<9)(h:Gs ⟨b,7,8,ET,92⟩ w):∃ v,w.cell? ⟨b,o,none⟩=some v:=by obtain⟨c,h1,h2⟩:=h;exact⟨c[o]'(by simp only at h2;omega),by simp only[World.cell?,h1];simp⟩
theorem Kl(C:ab prog true B R)(hsz:ET.size=9)(aj:At R 0 As (eT fr cs (.tuple #[]))):∀ (c:Nat),c<=4->∀ e:Nat->Value,e 0=.pointer (some ⟨b,7,none⟩)->
  MW prog ⟨b,7,8,ET,92⟩ (λa=>At R 0 As a) (.head c) (gr 35 .pb 84 e [] (.code (cB (cB (cR ((f35.body).getD .skip)))):: .inLoop (cB (cB (cR ((f35.body).getD .skip))))::[.inBlock 0]) (fr::cs)):=by
 intro c
 induction c using Nat.strongRecOn with
 |ind c ih=>
  intro hc e h0;have M:∀ {x:MS},Mt prog true (Gs ⟨b,7,8,ET,92⟩) (zb prog ⟨b,7,8,ET,92⟩ (λa=>At R 0 As a) x):=Mt.mw;rw[<- jJ (e:=e) (l:=[(0,.pointer (some ⟨b,7,none⟩))]) ⟨h0,trivial⟩];show zb _ _ _ _ 900 _;refine M.go ?_;refine M.rg [0,1,2,3,4] ?_;refine M.mv rfl ?_;refine M.nc rfl ?_;refine M.fa rfl ?_;refine M.Qa (f:=65) rfl ?_;refine M.go ?_;refine M.rg [0] ?_;refine M.kH rfl ?_;refine M.go ?_;refine M.rg [0,1,2,3,4] ?_;refine M.mv rfl ?_;refine M.nc rfl ?_;refine M.fa rfl ?_;refine Qj rfl ?_ ?_
  ·show zb _ _ _ _ 900 _;refine M.kH rfl ?_;refine M.go ?_;refine M.ret ?_;refine M.home ?_;unfold eT;rw[bY rfl];show zb _ _ _ _ 900 (gr 35 .pb 84 _ _ _ _);refine M.kH rfl ?_;refine M.go ?_;refine M.rg [0,1,2,3] ?_;refine M.mv rfl ?_;refine M.bo rfl ?_;refine M.cv rfl ?_;refine M.kH rfl ?_;refine M.go ?_;refine M.rg [0,1,2,3] ?_;refine M.mv rfl ?_;refine M.bo rfl ?_;refine M.cv rfl ?_;refine M.kH rfl ?_;refine M.go ?_;refine M.rg [0,1] ?_;refine M.mv rfl ?_;refine M.bo rfl ?_;refine M.go ?_;refine M.Jm ?_;refine M.Jm ?_;refine M.rg [0] ?_;refine Nk rfl ?_;show zb _ _ _ _ 900 _;refine M.go ?_;refine M.rg [0,1,2] ?_;refine M.mv rfl ?_;refine M.P9 (ad:=⟨b,7,none⟩) (λw h=>B2 hsz (by decide) h) rfl ?_;refine Nl rfl ?_;refine dN ?_;refine C.v0 (v:=.bool true) rfl ?_ rfl;refine bJ ?_;refine C.v0 (v:=.int .u64 0) rfl ?_ rfl;refine C.v0 (v:=.bool false) rfl ?_ rfl;refine dV ?_;exact C.MD trivial aj rfl rfl
  ·intro v h1 h2;have nZ:v=1\/v=2\/v=3\/v=4:=az;have ih':=ih (v-1) az az;rcases nZ with rfl|rfl|rfl|rfl
   all_goals
    show zb _ _ _ _ 900 _;refine M.kH rfl ?_;refine M.go ?_;refine M.ret ?_;refine M.home ?_;unfold eT;rw[bY rfl];show zb _ _ _ _ 900 (gr 35 .pb 84 _ _ _ _);refine M.kH rfl ?_;refine M.go ?_;refine M.rg [0,1,2,3] ?_;refine M.mv rfl ?_;refine M.bo rfl ?_;refine M.cv rfl ?_;refine M.kH rfl ?_;refine M.go ?_;refine M.rg [0,1,2,3] ?_;refine M.mv rfl ?_;refine M.bo rfl ?_;refine M.cv rfl ?_;refine M.kH rfl ?_;refine M.go ?_;refine M.rg [0,1] ?_;refine M.mv rfl ?_;refine M.bo rfl ?_;refine M.go ?_;refine M.Br ?_;refine M.rg [0,1,2,3,4,5,6] ?_;refine M.mv rfl ?_;refine M.nc rfl ?_;refine M.fa rfl ?_;refine M.mv rfl ?_;refine M.mv rfl ?_;refine M.bo rfl ?_;refine M.Qa (f:=69) rfl ?_;show zb _ _ _ _ 900 _;refine M.go ?_;refine M.rg [0] ?_;refine M.kH rfl ?_;refine M.go ?_;refine M.rg [0,1,2,3,4,5,6] ?_;refine M.mv rfl ?_;refine M.nc rfl ?_;refine M.fa rfl ?_;refine M.mv rfl ?_;refine M.mv rfl ?_;refine Uj rfl ?_ ?_
    ·show zb _ _ _ _ 900 _;refine M.kH rfl ?_;refine M.go ?_;refine M.ret ?_;refine M.home ?_;unfold eT;rw[bY rfl];show zb _ _ _ _ 900 (gr 35 .pb 84 _ _ _ _);refine M.go ?_;refine M.Jm ?_;refine M.rg [0,1,2,3] ?_;refine M.mv rfl ?_;refine M.mv rfl ?_;refine M.bo rfl ?_;refine M.pk rfl ?_;refine M.go ?_;refine M.Jm ?_;refine M.rg [0,1,2,3,4] ?_;refine M.mv rfl ?_;refine M.nc rfl ?_;refine M.fa rfl ?_;refine M.P9 (ad:=⟨b,8,none⟩) (λw h=>B2 hsz (by decide) h) rfl ?_;refine Qk rfl ?_;show zb _ _ _ _ 900 _;refine M.go ?_;refine M.rg [0] ?_;refine M.kH rfl ?_;refine M.go ?_;refine M.rg [0,1,2,3,4,5] ?_;refine M.mv rfl ?_;refine M.bo rfl ?_;refine M.bo rfl ?_;refine M.mv rfl ?_;refine M.no rfl ?_;refine M.pk rfl ?_;refine M.go ?_;refine M.Br ?_;refine M.rg [0,1,2,3,4] ?_;refine M.mv rfl ?_;refine M.nc rfl ?_;refine M.fa rfl ?_;refine M.mv rfl ?_;refine Uk rfl ?_;show zb _ _ _ _ 900 _;refine M.go ?_;refine M.rg [0,1,2,3,4,5] ?_;refine M.mv rfl ?_;refine M.nc rfl ?_;refine M.fa rfl ?_;refine M.Qa (f:=65) rfl ?_;refine M.go ?_;refine M.rg [0] ?_;refine M.kH rfl ?_;refine M.go ?_;refine M.rg [0,1,2,3,4] ?_;refine M.mv rfl ?_;refine M.nc rfl ?_;refine M.fa rfl ?_;refine Ql rfl ?_;show zb _ _ _ _ 900 _;refine M.kH rfl ?_;refine M.go ?_;refine M.ret ?_;refine M.home ?_;unfold eT;rw[bY rfl];show zb _ _ _ _ 900 (gr 35 .pb 84 _ _ _ _);refine M.bo rfl ?_;refine M.kH rfl ?_;refine M.go ?_;refine M.Jm ?_;refine M.rg [0] ?_;refine Nk rfl ?_;show zb _ _ _ _ 900 _;refine M.go ?_;refine M.rg [0,1,2] ?_;refine M.mv rfl ?_;refine M.P9 (ad:=⟨b,7,none⟩) (λw h=>B2 hsz (by decide) h) rfl ?_;refine Nl rfl ?_;refine dD ?_;exact C.MD trivial aj rfl rfl
    ·show zb _ _ _ _ 900 _;refine M.kH rfl ?_;refine M.go ?_;refine M.ret ?_;refine M.home ?_;unfold eT;rw[bY rfl];show zb _ _ _ _ 900 (gr 35 .pb 84 _ _ _ _);refine M.go ?_;refine M.Br ?_;refine M.TQ ?_;exact ih' _ rfl
theorem Q6(C:ab prog true B R)(hsz:ET.size=9)(aj:At R 0 As (eT fr cs (.tuple #[]))){c:Nat}(hc:c<=4):
  MW prog ⟨b,7,8,ET,92⟩ (λa=>At R 0 As a) (.wF c) (gr 35 .pb 84 (xj #[.pointer (some ⟨b,7,none⟩)]) [] [.code ((f35.body).getD .skip)] (fr::cs)):=by
 have M:∀ {x:MS},Mt prog true (Gs ⟨b,7,8,ET,92⟩) (zb prog ⟨b,7,8,ET,92⟩ (λa=>At R 0 As a) x):=Mt.mw;show zb _ _ _ _ 900 _;refine M.go ?_;refine M.Jm ?_;refine M.rg [0] ?_;refine Ui rfl ?_;show zb _ _ _ _ 900 _;refine M.go ?_;refine M.lp ?_;exact Kl C hsz aj c hc _ rfl
variable{σ:Gh}{m:Int}{ae aE aL dn:Value}{ai:Bool}{k:Nat}
theorem Km(hk:k<=3):aD prog true (bP.bw σ) 96 #[.pointer (some ⟨b,7,none⟩),.int .u64 4294967296] [nU b m ae aE aL dn ai ((k:Int)*KQ)] (λv As=>v=.int .u64 (((k+1:Nat):Int)*KQ)/\As=[nU b m ae aE aL dn ai (((k+1:Nat):Int)*KQ)]):=by
 have hw:IntKind.u64.wrap ((k:Int)*KQ+4294967296)=((k+1:Nat):Int)*KQ:=by
  have:(2^IntKind.u64.bits:Int)=18446744073709551616:=by decide
  simp only[IntKind.wrap,KQ,this];rw[ao (by simp[IntKind.signed])];omega
 refine aD.of λR C kd d F c cs aJ aj=>?_;refine Ul ?_;refine C.XD (z':=((k+1:Nat):Int)*KQ) rfl ?_ (hz:=hw);refine bJ ?_;exact C.bk aJ aj ⟨rfl,rfl⟩
theorem Oc(hk:k<=3):aD prog true (bP.bw σ) 48 #[.pointer (some ⟨b,7,none⟩),aI 1] [nU b m ae aE aL dn ai ((k:Int)*KQ)] (λv As=>v=.tuple #[]/\As=[nU b m ae aE aL dn ai (((k+1:Nat):Int)*KQ)]):=by
 refine aD.of λR C kd d F c cs aJ aj=>?_;refine rS ?_;refine C.v0 rfl ?_ rfl;refine dN ?_;refine C.P8 rfl ?_;refine bJ ?_;refine C.df rfl ?_;refine dD ?_;refine C.x0 (f:=72) (v:=.bool false) rfl rfl ?_;refine dV ?_;refine C.cv rfl ?_ (hr:=rfl);refine C.v0 rfl ?_ rfl;refine C.cE (Km hk) ?_;refine bM ?_;have nZ:k=0\/k=1\/k=2\/k=3:=az;rcases nZ with rfl|rfl|rfl|rfl
 ·refine cW ?_;refine C.v0 rfl ?_ rfl;refine C.v0 rfl ?_ rfl;refine kE ?_;refine C.v0 rfl ?_ rfl;refine C.cv rfl ?_ (hr:=rfl);refine cW ?_;refine C.v0 rfl ?_ rfl;refine C.cv rfl ?_ (hr:=rfl);refine dD ?_;refine C.v0 rfl ?_ rfl;refine cW ?_;refine C.cv rfl ?_ (hr:=rfl);refine C.v0 rfl ?_ rfl;refine dV ?_;refine C.P9 (b:=b) (off:=8) rfl ?_;refine C.Zx (mk:=.read) (a:=⟨b,8,none⟩) rfl ?_ (hm:=λH s=>⟨_,_,Has.get Has.au s⟩);refine dN ?_;refine C.v0 rfl ?_ rfl;refine cW ?_;refine C.v0 rfl ?_ rfl;refine nO ?_;refine C.v0 rfl ?_ rfl;refine dH ?_;refine C.DO ?_;refine C.XN ?_;exact C.home (fu:=f48) func48 aJ rfl (aj _ _ ⟨rfl,rfl⟩)
 all_goals
  refine cW ?_;refine C.v0 rfl ?_ rfl;refine C.v0 rfl ?_ rfl;refine kE ?_;refine C.v0 rfl ?_ rfl;refine C.cv rfl ?_ (hr:=rfl);refine cW ?_;refine C.v0 rfl ?_ rfl;refine C.cv rfl ?_ (hr:=rfl);refine dD ?_;refine C.v0 rfl ?_ rfl;refine cW ?_;refine C.cv rfl ?_ (hr:=rfl);refine C.v0 rfl ?_ rfl;refine dD ?_;refine C.v0 rfl ?_ rfl;refine cW ?_;refine C.v0 rfl ?_ rfl;refine nO ?_;refine C.v0 rfl ?_ rfl;refine dH ?_;refine C.DO ?_;refine C.XN ?_;exact C.home (fu:=f48) func48 aJ rfl (aj _ _ ⟨rfl,rfl⟩)
end
section
open Go.Proofs Go.Conc
structure HV where
 h:HG
 s:dE
 kw:Nat
 kr:Nat
structure CV where
 G:CG
 ae:List HV
 aE:List cm
 aL:List l4
 ai:Bool
abbrev rX(v:HV)(F:List HP):List HP:=bR v.h.bh (.cells #[aF v.h.bs,.chan (some v.h.wk),.chan (some v.h.rd)] 120 (0,0))::bR v.h.wk (.chan 0 #[] false v.kw v.kw false)::bR v.h.rd (.chan 0 #[] false v.kr v.kr false)::bR v.h.hb (.cells #[aF v.h.bh] 114 (0,0))::cU v.h.bs v.s::F
def iy(v:HV):HP:=all (rX v [])
def CV.st(c:CV):Int:=if c.ai then 0 else(c.ae.length:Int)*KQ
abbrev Ws(c:CV)(m st:Int)(hs bg tx:ay)(F:List HP):List HP:=nU c.G.b m hs.v bg.v tx.v (.chan (some c.G.dn)) c.ai st::a9 ek 1 114 hs (c.ae.map (·.h.bh))::a9 bN 7 190 bg c.aE::a9 qZ 3 126 tx c.aL::
 all (c.ae.map iy)::bR c.G.dn (.chan 0 #[] c.ai 0 0 false)::bR c.G.cb (.cells #[aF c.G.b] 23 (0,0))::F
def qD(m:Int)(c:CV):HP:=λh=>∃ hs bg tx:ay,all (Ws c m c.st hs bg tx []) h
abbrev dw(c:CV):HP:=qD 0 c
section
variable{R:Nat->aP->Array Obj->Prop}{d:Nat}{As F L:List HP}{g:aP}{c:CV}
theorem dw.opn{m z:Int}(hf:Fo (qD m c) As L:=by exact Fo.au)(h:∀ hs bg tx:ay,At R d (Ws c m z hs bg tx L) g)(hz:c.st=z:=by rfl):At R d As g:=by subst hz;refine At.fo hf λH st=>?_;obtain⟨hs,st⟩:=st.ex;obtain⟨bg,st⟩:=st.ex;obtain⟨tx,st⟩:=st.ex;exact h hs bg tx H st.flat
theorem dw.cls{m:Int}{cc:Array Value}(c:CV)(h:At R d (qD m c::F) g)(hf:Fo (bR c.G.b (.cells cc 92 (0,0))) As L:=by exact Fo.au){hs bg tx:ay}(hc:cc=Q5 m hs.v bg.v tx.v (.chan (some c.G.dn)) c.ai c.st:=by rfl)
  (hr:dB [a9 ek 1 114 hs (c.ae.map (·.h.bh)),a9 bN 7 190 bg c.aE,a9 qZ 3 126 tx c.aL,all (c.ae.map iy),bR c.G.dn (.chan 0 #[] c.ai 0 0 false),bR c.G.cb (.cells #[aF c.G.b] 23 (0,0))] L F:=by exact dB.au):At R d As g:=by
 subst hc;refine At.perm (hf.perm.trans (hr.perm.cons _)) λH st=>h H ?_;exact Sat.imp (λhh x=>⟨hs,bg,tx,x⟩) (Sat.fS (l:=Ws c m c.st hs bg tx []) st)
end
theorem iy.cls{R:Nat->aP->Array Obj->Prop}{d:Nat}{As F:List HP}{g:aP}(v:HV)(h:At R d (iy v::F) g)
  (hr:dB (rX v []) As F:=by exact dB.au):At R d As g:=
 At.perm hr.perm λH st=>h H (Sat.fS (l:=rX v []) st)
structure RegC(σ:Gh)(c:CV):Prop where
 aT:∀ v∈c.ae,σ.aT v.h.g=some (dZ v.h c.G)
 nd:(c.ae.map (·.h.g)).Nodup
 only:∀ i s,σ.aT i=some s->s.has c.G.dn->∃ v∈c.ae,v.h.g=i
 wk:∀ v∈c.ae,∀ i s,σ.aT i=some s->s.has v.h.wk->i=v.h.g
 wd:∀ v∈c.ae,v.h.wk≠c.G.dn
 sh7:σ.sh (.cell ⟨c.G.b,7,none⟩)
 sh8:σ.sh (.cell ⟨c.G.b,8,none⟩)
 n:1<=c.ae.length/\c.ae.length<=4
section
variable{σ:Gh}{b:Nat}{m:Int}{ae aE aL dn:Value}{ai:Bool}
theorem G3:aD prog true (bP.bw σ) 35 #[.pointer (some ⟨b,7,none⟩)] [nU b m ae aE aL dn ai 0] (λv As=>v=.tuple #[]/\As=[nU b m ae aE aL dn ai 0]):=by
 refine aD.of λR C kd d F c cs aJ aj=>?_;refine bM ?_;have hl:aD prog true (bP.bw σ) 65 #[.pointer (some ⟨b,7,none⟩)] [nU b m ae aE aL dn ai 0] (λv As=>v=.int .u64 0/\As=[nU b m ae aE aL dn ai 0]):=by refine aD.of λR C kd d F c cs aJ aj=>?_;refine JH ?_;refine C.xLd (b:=b) (off:=7) (z:=0) rfl ?_;refine bJ ?_;exact C.bk aJ aj ⟨rfl,rfl⟩
 refine dN ?_;refine C.P8 rfl ?_;refine C.go ?_;refine C.lp ?_;refine dD ?_;refine C.cE hl ?_;refine rS ?_;refine C.v0 rfl ?_ rfl;refine C.cv rfl ?_ (hr:=rfl);refine cW ?_;refine C.v0 rfl ?_ rfl;refine C.cv rfl ?_ (hr:=rfl);refine cW ?_;refine C.v0 rfl ?_ rfl;refine cW ?_;refine C.T5 rfl ?_;refine dN ?_;refine C.P9 (b:=b) (off:=7) rfl ?_;refine C.Zx (mk:=.acquire) (a:=⟨b,7,none⟩) rfl ?_ (hm:=λH s=>⟨_,_,Has.get Has.au s⟩);refine dN ?_;refine C.v0 rfl ?_ rfl;refine bJ ?_;refine C.v0 rfl ?_ rfl;refine C.v0 rfl ?_ rfl;refine dV ?_;exact C.bk aJ aj ⟨rfl,rfl⟩
end
end
section
open Go.Proofs Go.Conc
def CV.ids(c:CV):List Nat:=c.ae.map (·.h.g)
theorem AL{σ:Gh}{c:CV}(hr:c.ai=false->RegC σ c):bC prog bP 21 #[aF c.G.b] σ [dw c] (λv σ' As=>v=.tuple #[]/\σ'=(if c.ai then σ else σ.fR c.ids)/\As=[dw {c with ai:=true}]):=by
 refine bC.of ?_;intro Post os out kd F c' cs C aJ aj;refine bM ?_;obtain⟨G,ae,aE,aL,ai⟩:=c;cases ai with
 |true=>
  refine dw.opn (z:=0) (h:=λhs bg tx=>?_);refine dD ?_;refine C.cE eX ?_;refine ve ?_;refine C.df rfl ?_;refine zC ?_;refine C.cE G3 ?_;refine k6 ?_;refine C.fnA ?_;refine aC.n7 (aD.g dm) ?_;rintro v σ' aN ⟨rfl,rfl,rfl⟩;refine bM ?_;refine C.home (fu:=f21) func21 aJ rfl ?_;refine dw.cls ⟨G,ae,aE,aL,true⟩ ?_;exact aj _ _ _ ⟨rfl,rfl,rfl⟩
 |false=>
  obtain⟨r1,r2,r3,r4,r5,r6,r7,r8⟩:=hr rfl;refine dw.opn (z:=(ae.length:Int)*KQ) (h:=λhs bg tx=>?_);refine dD ?_;refine C.cE eX ?_;refine ve ?_;refine C.df rfl ?_;refine jr ?_;refine dD ?_;have su:(⟨G.b,7,8,Q5 1 hs.v bg.v tx.v (.chan (some G.dn)) true ((ae.length:Int)*KQ),92⟩:pK).row (lF 0 0) (rL 0)=Q5 1 hs.v bg.v tx.v (.chan (some G.dn)) true 0:=rfl;have C2:ab prog true (bP.bw (σ.fR (ae.map (·.h.g)))) (aC prog Post bP (σ.fR (ae.map (·.h.g))) 0 os out):=aC.dK;refine aC.shut (ae.map (·.h.g)) ⟨G.b,7,8,Q5 1 hs.v bg.v tx.v (.chan (some G.dn)) true ((ae.length:Int)*KQ),92⟩ G.dn 0 (λa=>At (aC prog Post bP (σ.fR (ae.map (·.h.g))) 0 os out) 0 (nU G.b 1 hs.v bg.v tx.v (.chan (some G.dn)) true 0::a9 ek 1 114 hs (ae.map (·.h.bh))::a9 bN 7 190 bg aE::a9 qZ 3 126 tx aL::
 all (ae.map iy)::bR G.dn (.chan 0 #[] true 0 0 false)::bR G.cb (.cells #[aF G.b] 23 (0,0))::F) a) rfl rfl rfl (by rw[func21];rfl) r2 (by simpa using r8.2) ?_ ?_ ⟨(show(7:Nat)≠8 by decide),by simp,by simp⟩ (by simp[lF]) rfl r6 r7 (aN:=nU G.b 1 hs.v bg.v tx.v (.chan (some G.dn)) true ((ae.length:Int)*KQ)::a9 ek 1 114 hs (ae.map (·.h.bh))::a9 bN 7 190 bg aE::a9 qZ 3 126 tx aL::
 all (ae.map iy)::bR G.dn (.chan 0 #[] true 0 0 false)::bR G.cb (.cells #[aF G.b] 23 (0,0))::F) ?_ ?_ ?_ (λa h=>h)
  ·intro i hi;obtain⟨v,hv,rfl⟩:=bH.1 hi;exact⟨_,v.h.wk,.nilFunc,.agg #[],r1 v hv,rfl,r5 v hv,9000,λr hr=>leave ⟨rfl,rfl,rfl,rfl,rfl⟩ hr⟩
  ·intro i s hi uP;obtain⟨v,hv,rfl⟩:=r3 i s hi uP;exact bH.2 ⟨v,hv,rfl⟩
  ·repeat(first|with_reducible exact p8.head|with_reducible apply p8.tail)
  ·rw[su];exact p8.head
  ·have M:∀ {Fin:aP->Prop} {x:MS},Mt prog true (Gs ⟨G.b,7,8,Q5 1 hs.v bg.v tx.v (.chan (some G.dn)) true ((ae.length:Int)*KQ),92⟩) (zb prog ⟨G.b,7,8,Q5 1 hs.v bg.v tx.v (.chan (some G.dn)) true ((ae.length:Int)*KQ),92⟩ Fin x):=Mt.mw;show zb _ _ _ _ 900 _;refine M.go ?_;refine M.rg [0,1,2,3] ?_;refine M.mv rfl ?_;refine M.nc rfl ?_;refine M.fa rfl ?_;refine M.Qa (f:=35) rfl ?_;refine Q6 C2 rfl ?_ (by simpa using r8.2);unfold eT;rw[bY rfl];show At _ _ _ (gr 21 kd 25 _ _ _ _);refine C2.go ?_;refine C2.fnA ?_;refine aC.n7 (aD.g dm) ?_;rintro v σ' aN ⟨rfl,rfl,rfl⟩;refine bM ?_;refine C2.home (fu:=f21) func21 aJ rfl ?_;refine dw.cls ⟨G,ae,aE,aL,true⟩ ?_;exact aj _ _ _ ⟨rfl,rfl,rfl⟩
def ff(l:List HV)(k:Int):Option HV:=if k<0 then none else l[k.toNat]?
def AM(l:List HV)(k:Int):Option Addr:=(ff l k).map λv=>⟨v.h.bs,0,none⟩
theorem i9{l:List HV}{k:Int}{v:HV}(h:ff l k=some v):∃ q:Nat,k=q/\∃ hq:q<l.length,l[q]=v:=by
 unfold ff at h;split at h
 ·cases h
 ·obtain⟨hq,e⟩:=jk.1 h;exact⟨k.toNat,az,hq,e⟩
theorem AN{l:List HV}{q:Nat}(hq:q<l.length):ff l (q:Int)=some l[q]:=by unfold ff;rw[ao az,g5,e9 hq]
variable{R:Nat->aP->Array Obj->Prop}{d:Nat}{As F L:List HP}{g:aP}{l:List HV}{q:Nat}
theorem ky(hi:q<l.length)(hf:Fo (all (l.map iy)) As L)(h:At R d (rX l[q] (all ((l.eraseIdx q).map iy)::L)) g):At R d As g:=
 j7 (f:=iy) hi hf λH s=>h H (Sat.flat (l:=rX l[q] []) s)
theorem II(hi:q<l.length)(v:HV)(hr:dB (rX v [all ((l.eraseIdx q).map iy)]) As L)(h:At R d (all ((l.set q v).map iy)::L) g):At R d As g:=
 At.perm hr.perm λH s=>(mF (f:=iy) hi v (.cons .head (.cons .head .nil)) h) H (Sat.fS (l:=rX v []) s)
theorem fQ(hi:q<l.length)(hr:dB (rX l[q] [all ((l.eraseIdx q).map iy)]) As L)(h:At R d (all (l.map iy)::L) g):At R d As g:=II hi l[q] hr (by rw[lO];exact h)
variable{σ:Gh}{b:Nat}{m k:Int}{hs:ay}{aE aL dn:Value}{ai:Bool}{st:Int}
theorem lB(hl:l.length<=4):aD prog true (bP.bw σ) 126 #[aF b,aI k] [nU b m hs.v aE aL dn ai st,a9 ek 1 114 hs (l.map (·.h.bh)),all (l.map iy)]
  (λv As=>v=.pointer (AM l k)/\As=[nU b m hs.v aE aL dn ai st,a9 ek 1 114 hs (l.map (·.h.bh)),all (l.map iy)]):=by
 refine aD.of λR C kd d F c cs aJ aj=>?_;refine bM ?_;have Q7:(l.map (·.h.bh)).length=l.length:=cV ..;refine dH ?_;refine C.cmp rfl (λh6=>?_) (λh6=>?_)
 ·refine nO ?_;exact C.bk aJ aj ⟨by unfold AM ff;rw[aK az],rfl⟩
 ·refine dH ?_;refine C.m3 rfl ?_ (s:=hs) (l:=l.map (·.h.bh)) (f:=ek);refine C.cmp rfl (λpM=>?_) (λpM=>?_)
  ·refine dH ?_;exact C.bk aJ aj ⟨by unfold AM ff;rw[ao az,vB az],rfl⟩
  ·refine dN ?_;obtain⟨q,rfl⟩:=gR (show 0<=k by omega);have hq:q<l.length:=az;have wT:(l.map (·.h.bh))[q]'(by omega)=l[q].h.bh:=by simp
   refine ky hq Fo.au ?_;refine dV ?_;refine C.nL rfl ?_ (s:=hs) (l:=l.map (·.h.bh)) (f:=ek) (j:=q) (v:=aF l[q].h.bh) (hj:=by omega) (hv:=by rw[wT];rfl);refine dD ?_;refine fQ hq dB.au ?_;exact C.bk aJ aj ⟨by unfold AM;rw[AN hq],rfl⟩
variable{ak:Bool}
theorem yH{V:Type}{k:Int}{v:V}:∀ {l:List (Int×V)},(bA l k v).length=if(aB l k).isSome then l.length else l.length+1
 |[]=>rfl
 |p::l=>by
  unfold bA aB;by_cases h:p.1=k
  ·simp[h]
  ·simp only[ao h,jc,yH (l:=l)];split<;>rfl
structure MK(m:List (Int×Int))(l:List cr):Prop where
 len:m.length<=l.length
 iff:m.length=l.length↔(l.map (·.k)).Nodup
 key:∀ q,(aB m q).isSome=true↔q∈l.map (·.k)
 vb:∀ q v,aB m q=some v->0<=v/\v<=l.length
theorem MK.zero:MK [] []:=⟨gZ _,by simp,by simp[aB],by simp[aB]⟩
theorem MK.add{m:List (Int×Int)}{l:List cr}(h:MK m l)(o:cr):MK (bA m o.k ((aB m o.k).getD 0+1)) (l++[o]):=by
 have h1:=h.len;have h3:=h.key o.k;refine⟨?_,?_,λq=>?_,λq v hv=>?_⟩
 ·rw[yH,jd,lP];split<;>omega
 ·rw[yH,jd,lP,eF,im];by_cases e:(aB m o.k).isSome=true
  ·rw[aK e];constructor
   ·intro h;omega
   ·rintro⟨_,_,h⟩;exact absurd rfl (h o.k (h3.1 e) o.k (by simp))
  ·rw[ao e];have h4:o.k∉l.map (·.k):=λz=>e (h3.2 z);constructor
   ·intro hl;refine⟨h.iff.1 az,by simp,λa ha b hb z=>?_⟩;simp at hb;subst hb;subst z;exact h4 ha
   ·rintro⟨hn,_⟩;have:=h.iff.2 hn;omega
 ·rw[fx,eF,bU,iJ,m1,dF];by_cases e:q=o.k
  ·simp[e]
  ·rw[ao e];constructor
   ·intro z;exact .inl ((h.key q).1 z)
   ·rintro(z|z)
    ·exact(h.key q).2 z
    ·exact absurd z e
 ·rw[fx]at hv;rw[jd,lP];by_cases e:q=o.k
  ·rw[aK e]at hv;obtain rfl:=bS hv;cases hg:aB m o.k with
   |none=>simp only[LQ];omega
   |some w=>
    have:=h.vb _ _ hg;simp only[jU];omega
  ·rw[ao e]at hv;have:=h.vb q v hv;omega
theorem EU{I:HL}{so:ay}{ops:List cr}(ho:dS I cF 67 so ops)(hl:ops.length<2^43):
  aD prog ak bQ 54 #[so.v] [a7 I] (λv As=>v=.bool (decide (eV ops))/\As=[a7 I]):=by
 refine aD.of λR C kd d F c cs aJ aj=>?_;refine ve ?_;refine C.mm .u8 dR rfl (λb6=>?_);refine dV ?_;refine C.cx (X:=Nat×List (Int×Int)) (λx=>[(0,so.v),(3,.map (some b6)),(7,so.v),(8,aI ops.length),(9,aI x.1)]) (λx=>dp .u8 dR b6 x.2::a7 I::F) (λx=>x.1<=ops.length/\(∀ j (hj:j<ops.length),j<x.1->zu ops[j])/\MK x.2 (ops.take x.1)) (λx=>ops.length-x.1) (0,[]) ⟨rfl,rfl,rfl,rfl,rfl,trivial⟩ ⟨eK _,by intro j _ hj;omega,MK.zero⟩ ?_;rintro⟨i,m⟩ e ⟨hi,kV,hm⟩ ih;dsimp only at hi kV hm⊢;refine bJ ?_;refine C.cmp rfl (λzG=>?_) (λzG=>?_)
 ·refine bJ ?_;have cN:i<ops.length:=by simpa using zG
  have hv:0<=(aB m ops[i].k).getD 0/\(aB m ops[i].k).getD 0<=(2:Int)^43:=by
   cases hg:aB m ops[i].k with
   |none=>simp
   |some w=>
    have:=hm.vb _ _ hg;rw[ik]at this;simp only[jU];have:((min i ops.length:Nat):Int)<=2^43:=az;omega
  refine bJ ?_;refine C.mE rfl (λhj=>?_);refine C.al rfl (λb5=>?_);refine C.pd rfl ?_ (hv:=λv h=>fC.one (f:=cF) ops[i] v (by simpa using h));refine dD ?_;have e16:((aB m ops[i].k).map dR).getD (aI 0)=aI ((aB m ops[i].k).getD 0):=by cases aB m ops[i].k<;>rfl
  refine C.Wb (co:=false) (g:=dR) (l:=m) (q:=ops[i].k) rfl ?_;simp only[ij,fB];rw[e16];refine fI ?_;refine C.mu rfl ?_;refine cW ?_;refine C.cmp rfl (λtu=>?_) (λtu=>?_)
  ·refine jr ?_;refine dD ?_;refine C.bk aJ aj ⟨?_,rfl⟩;rw[jy (λh=>by have:=(h.1 _ (br cN)).1;omega)]
  ·refine dN ?_;refine C.cmp rfl (λjs=>?_) (λjs=>?_)
   ·refine jr ?_;refine fI ?_;refine C.bk aJ aj ⟨?_,rfl⟩;rw[jy (λh=>by have:=(h.1 _ (br cN)).2.1;omega)]
   ·refine cW ?_;generalize hw:ops[i].w=z;rcases g6 z with rfl|rfl
    ·refine zC ?_;have U0:zu ops[i]:=⟨az,az,.inl hw⟩;refine again ih (i+1,bA m ops[i].k ((aB m ops[i].k).getD 0+1)) ⟨cN,λj hj dA=>?_,by dsimp only;rw[gQ cN];exact hm.add _⟩ (dI);rcases mq.1 dA with h|rfl
     ·exact kV j hj h
     ·exact U0
    ·refine cW ?_;refine C.cmp rfl (λS4=>?_) (λS4=>?_)
     ·refine dV ?_;refine C.bk aJ aj ⟨?_,rfl⟩;rw[jy (λh=>by
       rcases(h.1 _ (br cN)).2.2 with h|h
       ·rw[hw]at h;cases h
       ·omega)]
     ·refine kE ?_;have U0:zu ops[i]:=⟨az,az,.inr az⟩;refine again ih (i+1,bA m ops[i].k ((aB m ops[i].k).getD 0+1)) ⟨cN,λj hj dA=>?_,by dsimp only;rw[gQ cN];exact hm.add _⟩ (dI);rcases mq.1 dA with h|rfl
      ·exact kV j hj h
      ·exact U0
 ·refine bJ ?_;have JW:i=ops.length:=by have:¬ i<ops.length:=(by simpa using zG);omega
  have hm':MK m ops:=by have:=hm;rw[JW,HI]at this;exact this
  have iK:∀ o∈ops,zu o:=λo ho=>by obtain⟨j,hj,rfl⟩:=jx ho;exact kV j hj az
  have Yp:=hm'.iff;refine dN ?_;refine C.cmp rfl (λLs=>?_) (λLs=>?_)
  ·refine dN ?_;refine C.cmp rfl (λEr=>?_) (λEr=>?_)
   ·refine dH ?_;refine C.cmp rfl (λh50=>?_) (λh50=>?_)
    ·refine dN ?_;refine C.bk aJ aj ⟨?_,rfl⟩;rw[tF (show eV ops from⟨iK,Yp.1 az,az,az⟩)]
    ·refine dN ?_;refine C.bk aJ aj ⟨?_,rfl⟩;rw[jy (λh=>by have:=Yp.2 h.2.1;omega)]
   ·refine i6 ?_;refine C.bk aJ aj ⟨?_,rfl⟩;rw[jy (λh=>by have:=h.2.2.2;omega)]
  ·refine nO ?_;refine C.bk aJ aj ⟨?_,rfl⟩;rw[jy (λh=>by have:=h.2.2.1;omega)]
def yI(n:Nat)(t:l4)(tx:Int):cm:=⟨{bj with kind:=1,aU:= -1,to:=fW t.ops n,tx:=tx,ops:=t.ops},t.so,aG⟩
theorem Ko(ops:List cr)(n:Int)(h:0<ops.length):gU ops[0].k n=fW ops n:=by
 cases ops with
 |nil=>cases h
 |cons o l=>rfl
variable{bg pO:ay}{I:HL}{hl:List Nat}{aE:List cm}{aL:List l4}{tx:Nat}
theorem vS(hn:1<=hl.length/\hl.length<=4)(mS:aE.length<2^30)(um:tx<aL.length)(rU:dS I cF 67 aL[tx].so aL[tx].ops)(cJ:jf aL[tx].ops/\1<=aL[tx].ops.length):
  aD prog true (bP.bw σ) 56 #[.pointer (some ⟨b,0,none⟩),aI tx] [nU b m hs.v bg.v pO.v dn ai st,a9 ek 1 114 hs hl,a9 bN 7 190 bg aE,a9 qZ 3 126 pO aL,a7 I]
   (λv As=>∃ EV:ay,v=.tuple #[]/\As=[nU b m hs.v EV.v pO.v dn ai st,a9 ek 1 114 hs hl,a9 bN 7 190 EV (aE++[yI hl.length aL[tx] tx]),a9 qZ 3 126 pO aL,a7 I]):=by
 refine aD.of λR C kd d F c cs aJ aj=>?_;refine bM ?_;have Wq:0<aL[tx].ops.length:=cJ.2;have wq:=cJ.1.1 _ (br Wq);have Od:gU aL[tx].ops[0].k (hl.length:Int)=fW aL[tx].ops hl.length:=Ko _ _ Wq;refine ow ?_;refine C.vL (cG 13 0 22) 23 [14,17,18,19,22] 3 ?_ (W:=[nU b m hs.v bg.v pO.v dn ai st,a9 ek 1 114 hs hl,a7 I]);refine gg ?_;refine CJ ?_;refine Dr.chain rfl ?_ (λ_ s=>bZ.sat bZ.au s);refine Ch.m 14 (aW λe aa hk=>?_);refine C.cE (aD.less (cy σ) (vh (key:=aL[tx].ops[0].k) (n:=(hl.length:Int)) az az)) ?_;refine zB ?_;rw[Od];refine hk _ _ lu ?_;refine Ch.q 17 (λh=>C.bd rfl h) ?_;refine Ch.m 18 (aW λe aa hk=>?_);refine C.nj rfl (λb31=>hk _ _ .cons ?_);refine Ch.m 19 (aW λe aa hk=>?_);refine C.nM (yI hl.length aL[tx] tx) rfl (λs2=>?_);refine hk _ _ lu ?_;refine Ch.m 22 (aW λe aa hk=>?_);refine C.st rfl (hk _ undef ?_);refine eQ ?_;exact C.cX aJ aj ⟨s2,rfl,rfl⟩
end
section
open Go.Proofs
def Kp(k:Nat):Nat:=[0,1,2,5,6,7,8,9,3].getD k 0
abbrev gV(a:Nat×Nat):Value:=.iface 339 (.pointer (some ⟨a.1,a.2,none⟩))
structure ig(I:HL)(eb:Nat->Nat×Nat):Prop where
 g:∀ k,k<9->∃ t,I (Kp k)=some (.cells #[gV (eb k)] t (0,0))
 e:∀ k,k<9->∃ c t,I (eb k).1=some (.cells c t (0,0))
 inj:∀ j k,j<9->k<9->eb j=eb k->j=k
 ty:∃ t,I 4=some (.cells #[.iface 231 (.agg #[typeHandle prog 46])] t (0,0))
theorem ig.mono{I I':HL}{eb:Nat->Nat×Nat}(h:ig I eb)(hs:Sub I I'):ig I' eb:=
 ⟨λk hk=>by obtain⟨t,ht⟩:=h.g k hk;exact⟨t,hs _ _ ht⟩,λk hk=>by obtain⟨c,t,ht⟩:=h.e k hk;exact⟨c,t,hs _ _ ht⟩,h.inj,by obtain⟨t,ht⟩:=h.ty;exact⟨t,hs _ _ ht⟩⟩
theorem abq(t:aQ):UX t 0=false:=by simp[UX]
def Q8(eb:Nat->Nat×Nat):Option Nat->Value
 |none=>.nilIface
 |some k=>gV (eb k)
open Go.Conc
def G4(eb:Nat->Nat×Nat)(I:HL)(n:Nat)(ops:List cr)(aE:List cm)(aL:List l4)(er:Option Nat)(t:Int)(I':HL)(gD:List cm)(gF:List l4):Prop:=
 Sub I I'/\((¬ eV ops/\er=some 1/\t=0/\gD=aE/\gF=aL)\/(eV ops/\(aL.length=60\/400<=aE.length)/\er=some 2/\t=0/\gD=aE/\gF=aL)\/
  (eV ops/\¬ (aL.length=60\/400<=aE.length)/\er=none/\t=aL.length/\∃ s7,dS I' cF 67 s7 ops/\gF=aL++[⟨⟨ops,1,[]⟩,s7,aG⟩]/\gD=aE++[yI n ⟨⟨ops,1,[]⟩,s7,aG⟩ aL.length]))
theorem gp(σ:Gh)(t:aQ):(bP.bw σ).sh t 0=false:=abq t
variable{σ:Gh}{b bo bc bt:Nat}{so hs bg pO:ay}{dn:Value}{st:Int}{I J:HL}{hl:List Nat}{aE:List cm}{aL:List l4}{eb:Nat->Nat×Nat}{ops:List cr}
theorem Kq(hE:ig I eb)(hn:1<=hl.length/\hl.length<=4)(mS:aE.length<2^20)(um:aL.length<=60)(ho:dS J cF 67 so ops)(oE:ops.length<2^43):
  aD prog true (bP.bw σ) 53 #[aF bo,aF bc,aF bt] [bR bo (.cells #[so.v] 36 (0,0)),bR bc (.cells #[aF b] 23 (0,0)),bR bt (.cells #[aI 0] 3 (0,0)),nU b 1 hs.v bg.v pO.v dn false st,a9 ek 1 114 hs hl,a9 bN 7 190 bg aE,a9 qZ 3 126 pO aL,a7 I,a7 J]
   (λv As=>∃ (EV U1:ay) (er:Option Nat) (t:Int) (I':HL) (gD:List cm) (gF:List l4),v=Q8 eb er/\G4 eb I hl.length ops aE aL er t I' gD gF/\As=[bR bt (.cells #[aI t] 3 (0,0)),nU b 1 hs.v EV.v U1.v dn false st,a9 ek 1 114 hs hl,a9 bN 7 190 EV gD,a9 qZ 3 126 U1 gF,a7 I',a7 J]):=by
 refine aD.of λR C kd d F c cs aJ aj=>?_;refine bM ?_;obtain⟨t1,hg1⟩:=hE.g 1 (by decide);obtain⟨t2,Pk⟩:=hE.g 2 (by decide);refine dH ?_;refine C.cE (aD.less (cy σ) (EU ho oE)) ?_;refine bM ?_;generalize hz:decide (eV ops)=z;rcases g6 z with rfl|rfl
 ·refine dN ?_;have hr:eV ops:=by simpa using hz
  refine dH ?_;refine C.cmp rfl (λqz=>?_) (λqz=>?_)
  ·refine m4 ?_;refine C.uQ Fo.au Pk (gp _ _) rfl ?_;refine bJ ?_;exact C.bk aJ aj ⟨bg,pO,some 2,0,I,aE,aL,rfl,⟨Sub.refl _,.inr (.inl ⟨hr,.inl az,rfl,rfl,rfl,rfl⟩)⟩,rfl⟩
  ·refine dH ?_;refine C.cmp rfl (λtu=>?_) (λtu=>?_)
   ·refine cW ?_;refine C.uQ Fo.au Pk (gp _ _) rfl ?_;refine bJ ?_;exact C.bk aJ aj ⟨bg,pO,some 2,0,I,aE,aL,rfl,⟨Sub.refl _,.inr (.inl ⟨hr,.inr az,rfl,rfl,rfl,rfl⟩)⟩,rfl⟩
   ·refine m4 ?_;refine C.vL (cG 28 0 12) 13 [6,7,8,9,12] 4 ?_ (W:=[nU b 1 hs.v bg.v pO.v dn false st,bR bc (.cells #[aF b] 23 (0,0)),bR bo (.cells #[so.v] 36 (0,0)),a7 I,a7 J]);refine CJ ?_;refine Dr.chain rfl ?_ (λ_ s=>bZ.sat bZ.au s);refine Ch.m 6 (aW λe aa hk=>?_);refine C.dv (aD.less (cy σ) (sW ho oE)) ?_;rintro v aN ⟨s7,rfl,rfl⟩;refine bM ?_;refine hk _ _ lu ?_;refine Ch.m 7 (aW λe aa hk=>?_);refine fI ?_
    skip
    refine hk _ _ .refl ?_;refine Ch.m 8 (aW λe aa hk=>?_);refine C.nj rfl (λb36=>hk _ _ .cons ?_);refine Ch.m 9 (aW λe aa hk=>?_);refine C.nM (l4.mk ⟨ops,1,[]⟩ s7 aG) rfl (λs8=>?_);refine hk _ _ lu ?_;refine Ch.m 12 (aW λe aa hk=>?_);refine C.st rfl (hk _ undef ?_);refine eQ ?_;refine At.Gk (I:=I) (s:=s7) (f:=cF) Fo.au Fo.au λI1 fp Wt=>?_;have Oe:jf ops:=⟨λo ho=>⟨(hr.1 o ho).1,(hr.1 o ho).2.1⟩,by have:=hr.2.2.2;omega⟩;have qO:=vS (σ:=σ) (b:=b) (m:=1) (hs:=hs) (bg:=bg) (pO:=s8) (dn:=dn) (ai:=false) (st:=st) (I:=I1) (hl:=hl) (aE:=aE) (aL:=aL++[l4.mk ⟨ops,1,[]⟩ s7 aG]) (tx:=aL.length) hn az (by simp) (by simp only[HK (gZ _),zV];exact Wt) (by simp only[HK (gZ _),zV];exact⟨Oe,hr.2.2.1⟩);have U2:(aL++[l4.mk ⟨ops,1,[]⟩ s7 aG])[aL.length]'(by simp)=l4.mk ⟨ops,1,[]⟩ s7 aG:=by simp
    simp only[U2]at qO;refine dN ?_;refine C.dv qO ?_;rintro v aN ⟨EV,rfl,rfl⟩;refine rS ?_;exact C.bk aJ aj ⟨EV,s8,none,aL.length,I1,_,_,rfl,⟨fp,.inr (.inr ⟨hr,az,rfl,rfl,s7,Wt,rfl,rfl⟩)⟩,rfl⟩
 ·refine cW ?_;refine C.uQ Fo.au hg1 (gp _ _) rfl ?_;refine bJ ?_;exact C.bk aJ aj ⟨bg,pO,some 1,0,I,aE,aL,rfl,⟨Sub.refl _,.inl ⟨by simpa using hz,rfl,rfl,rfl,rfl⟩⟩,rfl⟩
def Of(eb:Nat->Nat×Nat)(name:Value)(at_:Int):Option Nat->Value->List HP->Prop
 |none,v,L=>v=.nilIface/\L=[]
 |some k,v,L=>∃ bE,v=.iface 128 (aF bE)/\L=[bR bE (.cells #[name,aI at_,gV (eb k)] 132 (0,0))]
theorem dB.app{F:List HP}:∀ A:List HP,dB A (A++F) F
 |[]=>.nil
 |a::A=>.cons .head (dB.app A)
theorem AO{σ:Gh}{c:CV}{f:bI}{fu:Func}{code:Code}{nf:Nat}[bd:Body prog f fu code nf]{caps:Array Value}{I:HL}{eb:Nat->Nat×Nat}{nm:ByteArray}{at_:Int}{A:List HP}{Q:Option Nat->Gh->CV->HL->List HP->Prop}(hE:ig I eb)
  (hf:c.ai=false->bC prog bP f (#[]++([]:List Value).toArray++caps) σ (qD 1 c::a7 I::A) (λv σ' As=>∃ er c' I' A',v=Q8 eb er/\(∀ k,er=some k->k<9)/\As=qD 1 c'::a7 I'::A'/\c'.G.b=c.G.b/\Q er σ' c' I' A')):
  bC prog bP 52 #[aF c.G.b,.string nm,aI at_,.func (.func f) #[] caps] σ (dw c::a7 I::A)
   (λv σ' As=>∃ er c' I' A' L,Of eb (.string nm) at_ er v L/\As=dw c'::a7 I'::(L++A')/\((c.ai=true/\er=some 8/\σ'=σ/\c'=c/\I'=I/\A'=A)\/(c.ai=false/\Q er σ' c' I' A'))):=by
 refine bC.of ?_;intro Post os out kd F c' cs C aJ aj;refine bM ?_;obtain⟨t8,hg8⟩:=hE.g 8 (by decide);obtain⟨G,ae,aE,aL,ai⟩:=c;refine dw.opn (h:=λhs bg tx=>?_);refine kE ?_;refine C.cE eX ?_;refine ve ?_;refine C.df rfl ?_;refine bJ ?_;refine C.uQ (v:=gV (eb 8)) Fo.au hg8 (gp _ _) rfl ?_;refine kL ?_;cases ai with
 |true=>
  refine dN ?_;refine C.Qh underlying46 rfl ?_;refine dV ?_;refine C.bx rfl (λbE=>?_);refine dN ?_;refine C.DO ?_;refine aC.n7 (aD.g dm) ?_;rintro v σ' aN ⟨rfl,rfl,rfl⟩;refine bM ?_;refine C.home (fu:=f52) func52 aJ rfl ?_;refine dw.cls (m:=0) ⟨G,ae,aE,aL,true⟩ ?_;refine At.jB ?_ (aj _ _ _ ⟨some 8,⟨G,ae,aE,aL,true⟩,I,A,[bR bE (.cells #[.string nm,aI at_,gV (eb 8)] 132 (0,0))],⟨bE,rfl,rfl⟩,rfl,.inl ⟨rfl,rfl,rfl,rfl,rfl,rfl⟩⟩);exact bZ.au
 |false=>
  refine dN ?_;refine dw.cls (m:=1) ⟨G,ae,aE,aL,false⟩ ?_;refine aC.cl (hf rfl) ?_ (hr:=.cons .head (.cons .head (dB.app A)));rintro v σ' aN ⟨er,c2,I2,A2,rfl,hk,rfl,hb,hQ⟩;have C:ab prog true (bP.bw σ') (aC prog Post bP σ' 0 os out):=aC.dK;refine rS ?_;refine dw.opn (m:=1) (c:=c2) (h:=λzl ZT tx2=>?_);rw[<- hb];cases er with
  |none=>
   refine C.Ub underlying46 rfl ?_;refine dD ?_;refine C.DO ?_;refine aC.n7 (aD.g dm) ?_;rintro v σ2 aN ⟨rfl,rfl,rfl⟩;refine bM ?_;refine C.home (fu:=f52) func52 aJ rfl ?_;refine dw.cls (m:=0) c2 ?_;refine At.jB ?_ (aj _ _ _ ⟨none,c2,I2,A2,[],⟨rfl,rfl⟩,rfl,.inr ⟨rfl,hQ⟩⟩);exact bZ.au
  |some k=>
   refine C.Qh underlying46 rfl ?_;refine dV ?_;refine C.bx rfl (λbE=>?_);refine dN ?_;refine C.DO ?_;refine aC.n7 (aD.g dm) ?_;rintro v σ2 aN ⟨rfl,rfl,rfl⟩;refine bM ?_;refine C.home (fu:=f52) func52 aJ rfl ?_;refine dw.cls (m:=0) c2 ?_;refine At.jB ?_ (aj _ _ _ ⟨some k,c2,I2,A2,[bR bE (.cells #[.string nm,aI at_,gV (eb k)] 132 (0,0))],⟨bE,rfl,rfl⟩,rfl,.inr ⟨rfl,hQ⟩⟩);exact bZ.au
end
section
open Go.Proofs Go.Conc
structure Wu(I:HL)(t:l4):Prop where
 o:dS I cF 67 t.so t.ops
 r:dS I da 21 t.sr t.reads
 z:t.reads.length<2^20
structure q6(I:HL)(c:CV):Prop where
 aE:∀ m∈c.aE,jX I m
 aL:∀ t∈c.aL,Wu I t
 sh:∀ v∈c.ae,ShJ I v.s
theorem Wu.mono{I I':HL}{t:l4}(hs:Sub I I')(h:Wu I t):Wu I' t:=⟨h.o.mono hs,h.r.mono hs,h.z⟩
theorem q6.mono{I I':HL}{c:CV}(hs:Sub I I')(h:q6 I c):q6 I' c:=⟨λm hm=>(h.aE m hm).mono hs,λt ht=>(h.aL t ht).mono hs,λv hv=>(h.sh v hv).mono hs⟩
theorem EW{σ:Gh}{c:CV}{k:Int}(hn:c.ae.length<=4):bC prog bP 76 #[aF c.G.b,aI k] σ [dw c] (λv σ' As=>σ'=σ/\v=.bool (((ff c.ae k).map (·.s.up)).getD false)/\As=[dw c]):=by
 refine bC.of ?_;intro Post os out kd F c' cs C aJ aj;refine bM ?_;obtain⟨G,ae,aE,aL,ai⟩:=c;refine dw.opn (h:=λhs bg tx=>?_);cases mZ:ff ae k with
 |none=>
  have G5:AM ae k=none:=by unfold AM;rw[mZ];rfl
  refine kE ?_;refine C.cE eX ?_;refine ve ?_;refine C.df rfl ?_;refine cW ?_;refine C.cE (lB (l:=ae) hn) ?_;refine bM ?_;rw[G5];refine zC ?_;refine C.DO ?_;refine aC.n7 (aD.g dm) ?_;rintro v σ' aN ⟨rfl,rfl,rfl⟩;refine bM ?_;refine C.home (fu:=f76) func76 aJ rfl ?_;refine dw.cls (m:=0) ⟨G,ae,aE,aL,ai⟩ ?_;exact aj _ _ _ ⟨rfl,by rw[mZ];rfl,rfl⟩
 |some v0=>
  obtain⟨q,rfl,hq,rfl⟩:=i9 mZ;have G5:AM ae (q:Int)=some ⟨ae[q].h.bs,0,none⟩:=by unfold AM;rw[mZ];rfl
  refine kE ?_;refine C.cE eX ?_;refine ve ?_;refine C.df rfl ?_;refine cW ?_;refine C.cE (lB (l:=ae) hn) ?_;refine bM ?_;rw[G5];refine kL ?_;refine ky hq Fo.au ?_;refine cU.opn (s:=ae[q].s) (h:=λlg wt ot tm bv bl bp bd be bu tl ht=>?_);refine fI ?_;refine cU.cls ae[q].s ?_;refine fQ hq dB.au ?_;refine dN ?_;refine C.DO ?_;refine aC.n7 (aD.g dm) ?_;rintro v σ' aN ⟨rfl,rfl,rfl⟩;refine bM ?_;refine C.home (fu:=f76) func76 aJ rfl ?_;refine dw.cls (m:=0) ⟨G,ae,aE,aL,ai⟩ ?_;exact aj _ _ _ ⟨rfl,by rw[mZ];rfl,rfl⟩
theorem B3{σ:Gh}{c:CV}{k:Int}(hn:c.ae.length<=4):bC prog bP 80 #[aF c.G.b,aI k] σ [dw c] (λv σ' As=>σ'=σ/\∃ b' l',v=.map (some b')/\(match ff c.ae k with|none=>l'=[]|some v=>l'.Perm (v.s.values.filter λp=>p.2 != 0))/\As=[dp .u8 fE b' l',dw c]):=by
 refine bC.of ?_;intro Post os out kd F c' cs C aJ aj;refine bM ?_;obtain⟨G,ae,aE,aL,ai⟩:=c;refine dw.opn (h:=λhs bg tx=>?_);cases mZ:ff ae k with
 |none=>
  have G5:AM ae k=none:=by unfold AM;rw[mZ];rfl
  refine kE ?_;refine C.cE eX ?_;refine ve ?_;refine C.df rfl ?_;refine cW ?_;refine C.cE (lB (l:=ae) hn) ?_;refine bM ?_;rw[G5];refine kE ?_;refine C.mm .u8 fE rfl (λb20=>?_);refine bJ ?_;refine C.DO ?_;refine aC.n7 (aD.g dm) ?_;rintro v σ' aN ⟨rfl,rfl,rfl⟩;refine bM ?_;refine C.home (fu:=f80) func80 aJ rfl ?_;refine dw.cls (m:=0) ⟨G,ae,aE,aL,ai⟩ ?_;refine At.jB ?_ (aj _ _ _ ⟨rfl,b20,[],rfl,by rw[mZ],rfl⟩);exact bZ.au
 |some v0=>
  obtain⟨q,rfl,hq,rfl⟩:=i9 mZ;have G5:AM ae (q:Int)=some ⟨ae[q].h.bs,0,none⟩:=by unfold AM;rw[mZ];rfl
  refine kE ?_;refine C.cE eX ?_;refine ve ?_;refine C.df rfl ?_;refine cW ?_;refine C.cE (lB (l:=ae) hn) ?_;refine bM ?_;rw[G5];refine kL ?_;refine ky hq Fo.au ?_;refine C.dv (aD.less (cy _) (BX (s:=ae[q].s))) ?_;rintro v aN ⟨b',l',rfl,wE,rfl⟩;refine bM ?_;refine fQ hq dB.au ?_;refine bJ ?_;refine C.DO ?_;refine aC.n7 (aD.g dm) ?_;rintro v σ' aN ⟨rfl,rfl,rfl⟩;refine bM ?_;refine C.home (fu:=f80) func80 aJ rfl ?_;refine dw.cls (m:=0) ⟨G,ae,aE,aL,ai⟩ ?_;refine At.jB ?_ (aj _ _ _ ⟨rfl,b',l',rfl,by rw[mZ];exact wE,rfl⟩);exact bZ.au
theorem EX{σ:Gh}{c:CV}{k:Int}(hn:c.ae.length<=4):bC prog bP 128 #[aF c.G.b,aI k] σ [dw c] (λv σ' As=>σ'=σ/\∃ b' l',v=.map (some b')/\(match ff c.ae k with|none=>l'=[]|some v=>l'.Perm v.s.aH)/\As=[dp .u8 dR b' l',dw c]):=by
 refine bC.of ?_;intro Post os out kd F c' cs C aJ aj;refine bM ?_;obtain⟨G,ae,aE,aL,ai⟩:=c;refine dw.opn (h:=λhs bg tx=>?_);cases mZ:ff ae k with
 |none=>
  have G5:AM ae k=none:=by unfold AM;rw[mZ];rfl
  refine kE ?_;refine C.cE eX ?_;refine ve ?_;refine C.df rfl ?_;refine cW ?_;refine C.cE (lB (l:=ae) hn) ?_;refine bM ?_;rw[G5];refine kE ?_;refine C.mm .u8 dR rfl (λb20=>?_);refine bJ ?_;refine C.DO ?_;refine aC.n7 (aD.g dm) ?_;rintro v σ' aN ⟨rfl,rfl,rfl⟩;refine bM ?_;refine C.home (fu:=f128) func128 aJ rfl ?_;refine dw.cls (m:=0) ⟨G,ae,aE,aL,ai⟩ ?_;refine At.jB ?_ (aj _ _ _ ⟨rfl,b20,[],rfl,by rw[mZ],rfl⟩);exact bZ.au
 |some v0=>
  obtain⟨q,rfl,hq,rfl⟩:=i9 mZ;have G5:AM ae (q:Int)=some ⟨ae[q].h.bs,0,none⟩:=by unfold AM;rw[mZ];rfl
  refine kE ?_;refine C.cE eX ?_;refine ve ?_;refine C.df rfl ?_;refine cW ?_;refine C.cE (lB (l:=ae) hn) ?_;refine bM ?_;rw[G5];refine kL ?_;refine ky hq Fo.au ?_;refine C.dv (aD.less (cy _) (ER (s:=ae[q].s))) ?_;rintro v aN ⟨b',l',rfl,wE,rfl⟩;refine bM ?_;refine fQ hq dB.au ?_;refine bJ ?_;refine C.DO ?_;refine aC.n7 (aD.g dm) ?_;rintro v σ' aN ⟨rfl,rfl,rfl⟩;refine bM ?_;refine C.home (fu:=f128) func128 aJ rfl ?_;refine dw.cls (m:=0) ⟨G,ae,aE,aL,ai⟩ ?_;refine At.jB ?_ (aj _ _ _ ⟨rfl,b',l',rfl,by rw[mZ];exact wE,rfl⟩);exact bZ.au
theorem rY{σ:Gh}{c:CV}{k:Int}{I:HL}(hn:c.ae.length<=4)(hJ:q6 I c)(ks:∀ v∈c.ae,v.s.log.length<2^30):bC prog bP 89 #[aF c.G.b,aI k] σ [dw c,a7 I] (λv σ' As=>σ'=σ/\∃ (sl:ay) (rs:List i7) (aX:Int),v=.tuple #[sl.v,aI aX]/\(match ff c.ae k with|none=>rs=[]/\aX=0|some v=>rs.map (·.toRecR)=v.s.log.map (·.abs.a8)/\aX=v.s.aX)/\As=[a9 recC 6 167 sl rs,all (rs.map uH),dw c,a7 I]):=by
 refine bC.of ?_;intro Post os out kd F c' cs C aJ aj;refine bM ?_;obtain⟨G,ae,aE,aL,ai⟩:=c;refine dw.opn (h:=λhs bg tx=>?_);cases mZ:ff ae k with
 |none=>
  have G5:AM ae k=none:=by unfold AM;rw[mZ];rfl
  refine kL ?_;refine C.cE eX ?_;refine ve ?_;refine C.df rfl ?_;refine cW ?_;refine C.cE (lB (l:=ae) hn) ?_;refine bM ?_;rw[G5];refine m4 ?_;refine C.DO ?_;refine aC.n7 (aD.g dm) ?_;rintro v σ' aN ⟨rfl,rfl,rfl⟩;refine bM ?_;refine C.home (fu:=f89) func89 aJ rfl ?_;refine At.aG recC 6 167 (At.zr (show At (aC prog Post bP _ 0 os out) 0 (all (([]:List i7).map uH)::_) _ from ?_));refine dw.cls (m:=0) ⟨G,ae,aE,aL,ai⟩ ?_;refine At.jB ?_ (aj _ _ _ ⟨rfl,aG,[],0,rfl,by rw[mZ];exact⟨rfl,rfl⟩,rfl⟩);exact bZ.au
 |some v0=>
  obtain⟨q,rfl,hq,rfl⟩:=i9 mZ;have G5:AM ae (q:Int)=some ⟨ae[q].h.bs,0,none⟩:=by unfold AM;rw[mZ];rfl
  refine kL ?_;refine C.cE eX ?_;refine ve ?_;refine C.df rfl ?_;refine cW ?_;refine C.cE (lB (l:=ae) hn) ?_;refine bM ?_;rw[G5];refine kL ?_;refine ky hq Fo.au ?_;refine C.dv (aD.less (cy _) (zI (hJ.sh _ (br hq)) (ks _ (br hq)))) ?_;rintro v aN ⟨sl,rs,rfl,pB,rfl⟩;refine bM ?_;refine fQ hq dB.au ?_;refine dD ?_;refine C.DO ?_;refine aC.n7 (aD.g dm) ?_;rintro v σ' aN ⟨rfl,rfl,rfl⟩;refine bM ?_;refine C.home (fu:=f89) func89 aJ rfl ?_;refine dw.cls (m:=0) ⟨G,ae,aE,aL,ai⟩ ?_;refine At.jB ?_ (aj _ _ _ ⟨rfl,sl,rs,ae[q].s.aX,rfl,by rw[mZ];exact⟨pB,rfl⟩,rfl⟩);exact bZ.au
end
end Go.Sl
