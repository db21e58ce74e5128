/-
  Texts that the proof needs, joined: part 7.
-/
import Derived.Test.YtjomdboiibakiaaGreatDoorUnF
set_option linter.unusedSimpArgs false
set_option linter.unusedVariables false
set_option maxHeartbeats 4000000
namespace Go.Sl
open Go.Proofs.Tryz
section
open Go.Proofs
def Gm(eb:Nat->Nat×Nat)(k:Nat):List Value:=[ig (eb k)]
instance(eb:Nat->Nat×Nat):fM (Gm eb) 1:=⟨λ_=>rfl,λa v h=>by simp[Gm]at h;subst h;rfl⟩
theorem QA{σ:Gh}{I:HL}{eb:Nat->Nat×Nat}(hE:ij I eb):aB prog true (bT.bw σ) 59 #[] [a9 I] (λv As=>∃ s:ax,v=s.v/\As=[aW (Gm eb) 1 46 s [0,1,2,3,4,5,6,7,8],a9 I]):=by refine aB.of λR C kd d F c cs aJ ai=>?_;refine bI ?_;obtain⟨t0,h0⟩:=hE.g 0 (by decide);obtain⟨t1,h1⟩:=hE.g 1 (by decide);obtain⟨t2,h2⟩:=hE.g 2 (by decide);obtain⟨t3,h3⟩:=hE.g 3 (by decide);obtain⟨t4,h4⟩:=hE.g 4 (by decide);obtain⟨t5,h5⟩:=hE.g 5 (by decide);obtain⟨t6,h6⟩:=hE.g 6 (by decide);obtain⟨t7,h7⟩:=hE.g 7 (by decide);obtain⟨t8,h8⟩:=hE.g 8 (by decide);refine cF ?_;refine C.vA (v:=ig (eb 0)) Fo.au h0 (gB _ _) rfl ?_;refine C.vA (v:=ig (eb 1)) Fo.au h1 (gB _ _) rfl ?_;refine C.vA (v:=ig (eb 2)) Fo.au h2 (gB _ _) rfl ?_;refine C.vA (v:=ig (eb 3)) Fo.au h3 (gB _ _) rfl ?_;refine C.vA (v:=ig (eb 4)) Fo.au h4 (gB _ _) rfl ?_;refine C.vA (v:=ig (eb 5)) Fo.au h5 (gB _ _) rfl ?_;refine C.vA (v:=ig (eb 6)) Fo.au h6 (gB _ _) rfl ?_;refine C.vA (v:=ig (eb 7)) Fo.au h7 (gB _ _) rfl ?_;refine C.vA (v:=ig (eb 8)) Fo.au h8 (gB _ _) rfl ?_;refine C.bs (vs:=[ig (eb 0),ig (eb 1),ig (eb 2),ig (eb 3),ig (eb 4),ig (eb 5),ig (eb 6),ig (eb 7),ig (eb 8)]) rfl (λb=>?_);refine bj ?_;refine At.turn (A':=aW (Gm eb) 1 46 ⟨some ⟨b,0,none⟩,9,9⟩ [0,1,2,3,4,5,6,7,8]) .head (λh x=>.inr ⟨b,[],rfl,rfl,fI 9,x⟩) ?_;exact C.a8 aJ ai ⟨⟨some ⟨b,0,none⟩,9,9⟩,rfl,rfl⟩
theorem TR{P:bR}{n:Nat}{e:Nat->Value}{t:Nat}{ty tt t2:aR}{pos:String}{af:Array Edge}{gd:Option (Nat×Bool)}{x y:cU}{nm:ByteArray}(hx:ev n e x=.string nm)(hy:ev n e y=.string nm):fJ P (execOp (ev n e) ⟨some t,.binOp .neq tt x y t2,ty,pos,af,gd⟩)=some (.value (.bool false)):=by unfold execOp;simp only[hx,hy];refine br (a:=.bool false) ?_ rfl;refine br (a:=()) (by unfold eqGuard;rfl) ?_;show fJ P (Op.stringOp .neq nm nm)=_;unfold Op.stringOp;simp;rfl
theorem gP{σ:Gh}{I:HL}{eb:Nat->Nat×Nat}(hE:ij I eb){bE k:Nat}{nm:ByteArray}{at_:Int}(hk:k<9):aB prog true (bT.bw σ) 30 #[.iface 128 (aE bE),.string nm,az at_] [bX bE (.cells #[.string nm,az at_,ig (eb k)] 132 (0,0)),a9 I] (λv As=>v=az (k+1)/\As=[a9 I]):=by
 refine aB.of λR C kd d F c cs aJ ai=>?_;refine bI ?_;obtain⟨ck,tk,DD⟩:=hE.e k hk;refine dm ?_;refine C.SH underlying46 rfl ?_;refine da ?_;refine C.al rfl (λb7=>?_);refine C.go ?_;apply OW True [(0,.iface 128 (aE bE)),(46,.bool false)] (bX bE (.cells #[.string nm,az at_,ig (eb k)] 132 (0,0))::a9 I::F)
 ·intro jE;refine C.dx (cm 12 0 35) 35 [2,3,4,5,6,7,8,9,10,11,12,13,14,15,16,17,18,19,20,21,22,23,24,25,26,27,28,29,30,31,32,33,34] 0 ?_;refine k6 ?_;refine Dr.p (λh=>C.mi rfl h) ?_;refine Dr.chain rfl ?_;refine Ch.nk [2] (fK ?_);refine aP λe aa hk=>?_;refine C.cE (Qz hE (bE:=bE) (b7:=b7)) ?_;refine hk _ _ ?_
  (try simp only[iT,eZ])
  refine Ch.q 3 (λh=>C.nt rfl h) ?_;refine Ch.q 4 (λh=>C.mv rfl h) ?_;refine Ch.q 5 (λh=>C.mv rfl h) ?_;refine Ch.nk [6] (fK ?_);refine aP λe aa hk=>?_;refine C.ld rfl (hk _ _ ?_);refine Ch.q 7 (λh=>C.mi rfl h) ?_;refine Ch.nk [8] (fK ?_);refine aP λe aa hk=>?_;refine C.SG (r:=false) (b1:=bE) (o1:=0) (b2:=bE) (o2:=0) underlying46 (ay type128) rfl rfl ?_ (λH s=>Has.get Has.au s) (λH s=>Has.get Has.au s);rw[show(decide (bE=bE/\0=0)==false)=false by simp];refine hk _ _ ?_;refine Ch.q 9 (λh=>C.pk rfl h) ?_;refine Ch.q 10 (λh=>C.mv rfl h) ?_;refine Ch.q 15 (λh=>C.mv rfl h) ?_;refine Ch.nk [11] (fK ?_);refine aP λe aa hk=>?_;refine C.ld rfl (hk _ _ ?_);refine Ch.q 12 (λh=>C.nc rfl h) ?_;refine Ch.q 13 (λh=>C.fa rfl h) ?_;refine Ch.nk [14] (fK ?_);refine aP λe aa hk=>?_;refine C.ld rfl (hk _ _ ?_);refine Ch.q 16 (λh=>C.v0 (v:=.bool false) rfl h (TR rfl rfl)) ?_;refine Ch.q 17 (λh=>C.pk rfl h) ?_;refine Ch.q 18 (λh=>C.mv rfl h) ?_;refine Ch.q 23 (λh=>C.mv rfl h) ?_;refine Ch.nk [19] (fK ?_);refine aP λe aa hk=>?_;refine C.ld rfl (hk _ _ ?_);refine Ch.q 20 (λh=>C.nc rfl h) ?_;refine Ch.q 21 (λh=>C.fa rfl h) ?_;refine Ch.nk [22] (fK ?_);refine aP λe aa hk=>?_;refine C.ld rfl (hk _ _ ?_);refine Ch.q 24 (λh=>C.du rfl h) ?_;refine Ch.q 25 (λh=>C.pk rfl h) ?_;refine Ch.q 26 (λh=>C.mv rfl h) ?_;refine Ch.nk [27,29] (yR ?_ ?_)
  ·refine aP λe aa hk=>?_;refine C.ld rfl (hk _ _ ?_);refine Ch.nk [28,29] (yR ?_ ?_)
   ·refine aP λe aa hk=>?_;refine C.cE (aB.less (cH σ) jw) ?_;refine hk _ _ ?_
    (try simp only[iT,eZ])
    refine Ch.nk [29] (fK ?_);refine aP λe aa hk=>?_;refine C.ld rfl (hk _ _ ?_);refine Ch.q 30 (λh=>C.nc rfl h) ?_;refine Ch.q 31 (λh=>C.fa rfl h) ?_;refine Ch.nk [32] (fK ?_);refine aP λe aa hk=>?_;refine C.ld rfl (hk _ _ ?_);refine Ch.nk [33] (fK ?_);refine aP λe aa hk=>?_;refine C.SG (r:=false) (b1:=(eb k).1) (o1:=(eb k).2) (b2:=(eb k).1) (o2:=(eb k).2) underlying46 (ay type339) rfl rfl ?_ (λH s=>(s.perm (Fo.perm (show Fo (a9 I) _ _ from Fo.au))).pf DD) (λH s=>(s.perm (Fo.perm (show Fo (a9 I) _ _ from Fo.au))).pf DD);rw[show(decide ((eb k).1=(eb k).1/\(eb k).2=(eb k).2)==false)=false by simp];refine hk _ _ ?_;refine Ch.q 34 (λh=>C.pk rfl h) ?_;refine ee ?_;exact join jE trivial
   ·refine aP λe aa hk=>?_;refine C.ld rfl (hk _ _ ?_);refine Ch.q 30 (λh=>C.nc rfl h) ?_;refine Ch.q 31 (λh=>C.fa rfl h) ?_;refine Ch.nk [28,32] (yR ?_ ?_)
    ·refine aP λe aa hk=>?_;refine C.cE (aB.less (cH σ) jw) ?_;refine hk _ _ ?_
     (try simp only[iT,eZ])
     refine Ch.nk [32] (fK ?_);refine aP λe aa hk=>?_;refine C.ld rfl (hk _ _ ?_);refine Ch.nk [33] (fK ?_);refine aP λe aa hk=>?_;refine C.SG (r:=false) (b1:=(eb k).1) (o1:=(eb k).2) (b2:=(eb k).1) (o2:=(eb k).2) underlying46 (ay type339) rfl rfl ?_ (λH s=>(s.perm (Fo.perm (show Fo (a9 I) _ _ from Fo.au))).pf DD) (λH s=>(s.perm (Fo.perm (show Fo (a9 I) _ _ from Fo.au))).pf DD);rw[show(decide ((eb k).1=(eb k).1/\(eb k).2=(eb k).2)==false)=false by simp];refine hk _ _ ?_;refine Ch.q 34 (λh=>C.pk rfl h) ?_;refine ee ?_;exact join jE trivial
    ·refine aP λe aa hk=>?_;refine C.ld rfl (hk _ _ ?_);refine Ch.nk [28] (fK ?_);refine aP λe aa hk=>?_;refine C.cE (aB.less (cH σ) jw) ?_;refine hk _ _ ?_
     (try simp only[iT,eZ])
     refine Ch.nk [33] (fK ?_);refine aP λe aa hk=>?_;refine C.SG (r:=false) (b1:=(eb k).1) (o1:=(eb k).2) (b2:=(eb k).1) (o2:=(eb k).2) underlying46 (ay type339) rfl rfl ?_ (λH s=>(s.perm (Fo.perm (show Fo (a9 I) _ _ from Fo.au))).pf DD) (λH s=>(s.perm (Fo.perm (show Fo (a9 I) _ _ from Fo.au))).pf DD);rw[show(decide ((eb k).1=(eb k).1/\(eb k).2=(eb k).2)==false)=false by simp];refine hk _ _ ?_;refine Ch.q 34 (λh=>C.pk rfl h) ?_;refine ee ?_;exact join jE trivial
  ·refine aP λe aa hk=>?_;refine C.ld rfl (hk _ _ ?_);refine Ch.q 30 (λh=>C.nc rfl h) ?_;refine Ch.q 31 (λh=>C.fa rfl h) ?_;refine Ch.nk [27,32] (yR ?_ ?_)
   ·refine aP λe aa hk=>?_;refine C.ld rfl (hk _ _ ?_);refine Ch.nk [28,32] (yR ?_ ?_)
    ·refine aP λe aa hk=>?_;refine C.cE (aB.less (cH σ) jw) ?_;refine hk _ _ ?_
     (try simp only[iT,eZ])
     refine Ch.nk [32] (fK ?_);refine aP λe aa hk=>?_;refine C.ld rfl (hk _ _ ?_);refine Ch.nk [33] (fK ?_);refine aP λe aa hk=>?_;refine C.SG (r:=false) (b1:=(eb k).1) (o1:=(eb k).2) (b2:=(eb k).1) (o2:=(eb k).2) underlying46 (ay type339) rfl rfl ?_ (λH s=>(s.perm (Fo.perm (show Fo (a9 I) _ _ from Fo.au))).pf DD) (λH s=>(s.perm (Fo.perm (show Fo (a9 I) _ _ from Fo.au))).pf DD);rw[show(decide ((eb k).1=(eb k).1/\(eb k).2=(eb k).2)==false)=false by simp];refine hk _ _ ?_;refine Ch.q 34 (λh=>C.pk rfl h) ?_;refine ee ?_;exact join jE trivial
    ·refine aP λe aa hk=>?_;refine C.ld rfl (hk _ _ ?_);refine Ch.nk [28] (fK ?_);refine aP λe aa hk=>?_;refine C.cE (aB.less (cH σ) jw) ?_;refine hk _ _ ?_
     (try simp only[iT,eZ])
     refine Ch.nk [33] (fK ?_);refine aP λe aa hk=>?_;refine C.SG (r:=false) (b1:=(eb k).1) (o1:=(eb k).2) (b2:=(eb k).1) (o2:=(eb k).2) underlying46 (ay type339) rfl rfl ?_ (λH s=>(s.perm (Fo.perm (show Fo (a9 I) _ _ from Fo.au))).pf DD) (λH s=>(s.perm (Fo.perm (show Fo (a9 I) _ _ from Fo.au))).pf DD);rw[show(decide ((eb k).1=(eb k).1/\(eb k).2=(eb k).2)==false)=false by simp];refine hk _ _ ?_;refine Ch.q 34 (λh=>C.pk rfl h) ?_;refine ee ?_;exact join jE trivial
   ·refine aP λe aa hk=>?_;refine C.ld rfl (hk _ _ ?_);refine Ch.nk [27] (fK ?_);refine aP λe aa hk=>?_;refine C.ld rfl (hk _ _ ?_);refine Ch.nk [28] (fK ?_);refine aP λe aa hk=>?_;refine C.cE (aB.less (cH σ) jw) ?_;refine hk _ _ ?_
    (try simp only[iT,eZ])
    refine Ch.nk [33] (fK ?_);refine aP λe aa hk=>?_;refine C.SG (r:=false) (b1:=(eb k).1) (o1:=(eb k).2) (b2:=(eb k).1) (o2:=(eb k).2) underlying46 (ay type339) rfl rfl ?_ (λH s=>(s.perm (Fo.perm (show Fo (a9 I) _ _ from Fo.au))).pf DD) (λH s=>(s.perm (Fo.perm (show Fo (a9 I) _ _ from Fo.au))).pf DD);rw[show(decide ((eb k).1=(eb k).1/\(eb k).2=(eb k).2)==false)=false by simp];refine hk _ _ ?_;refine Ch.q 34 (λh=>C.pk rfl h) ?_;refine ee ?_;exact join jE trivial
 ·intro _ e;refine bj ?_;refine C.dk (QA hE) ?_;rintro v aO ⟨s,rfl,rfl⟩;refine bI ?_;refine C.mW (f:=Gm eb) (s:=s) (l:=[0,1,2,3,4,5,6,7,8]) rfl ?_;refine bj ?_;refine C.bS (X:=Nat) (λi=>[(0,.iface 128 (aE bE)),(47,s.v),(48,az 9),(49,az i)]) (λ_=>aW (Gm eb) 1 46 s [0,1,2,3,4,5,6,7,8]::bX bE (.cells #[.string nm,az at_,ig (eb k)] 132 (0,0))::a9 I::F) (λi=>i<=k) (λi=>9-i) 0 ⟨rfl,rfl,rfl,rfl,trivial⟩ (eC _) ?_;intro i e hi ih;have hi9:i<9:=ak;have hl:∀ (h:i<([0,1,2,3,4,5,6,7,8]:List Nat).length),([0,1,2,3,4,5,6,7,8]:List Nat)[i]=i:=by have hc:i=0\/i=1\/i=2\/i=3\/i=4\/i=5\/i=6\/i=7\/i=8:=ak;intro h;rcases hc with rfl|rfl|rfl|rfl|rfl|rfl|rfl|rfl|rfl<;>rfl
  refine bj ?_;refine C.eE rfl ?_;refine cN ?_;refine C.dT (f:=Gm eb) (s:=s) (l:=[0,1,2,3,4,5,6,7,8]) (j:=i) rfl ?_ (hj:=hi9);refine C.dG (f:=Gm eb) (s:=s) (l:=[0,1,2,3,4,5,6,7,8]) (j:=i) (v:=ig (eb i)) rfl ?_ (hj:=hi9) (hv:=by rw[hl];rfl);refine dm ?_;refine C.cE (aB.less (cH σ) (Qu hE (bE:=bE) (j:=i) (k:=k) hi9 hk)) ?_;refine bI ?_;by_cases HI:k=i
  ·subst HI;rw[show decide (k=k)=true by simp];refine dV ?_;exact C.a8 aJ ai ⟨rfl,rfl⟩
  ·rw[show decide (k=i)=false by simp[HI]];refine dm ?_;exact again ih (i+1) ak ak
open Go.Conc
theorem TS{P:bR}{n:Nat}{e:Nat->Value}{dst:Option Nat}{ty:aR}{ga:Array aR}{pos:String}{af:Array Edge}{gd:Option (Nat×Bool)}{fo:cU}{f:bM}{a2:Array Value}(hf:ev n e fo=.func (.func f) #[] a2):fJ P (execOp (ev n e) ⟨dst,.go ⟨.value fo,#[],ga⟩,ty,pos,af,gd⟩)=some (.spawn ⟨.fn (.func f) a2,#[]⟩):=by unfold execOp;simp only;refine br (a:=⟨.fn (.func f) a2,#[]⟩) ?_ rfl;unfold resolve;simp only[hf,Deferred.ofValue];simp;rfl
theorem mI{h:HG}{C:CG}{c:Nat}:(ek h C).has c↔c=h.wk\/c=C.dn:=by
 unfold dH.has ek;constructor
 ·rintro⟨k,z,e⟩;rcases k with _|_|k
  ·left;simp[rcase]at e;exact e.1.symm
  ·right;simp[rcase]at e;exact e.1.symm
  ·simp at e
 ·rintro(rfl|rfl)
  ·exact⟨0,_,rfl⟩
  ·exact⟨1,_,rfl⟩
theorem Gn{h:HG}{C:CG}(eL:h.wk≠C.dn):(ek h C).Wf:=by
 refine⟨λcc lf=>?_,λk m c z z' h1 h2=>?_⟩
 ·simp[ek]at lf;rcases lf with rfl|rfl<;>exact⟨_,_,rfl⟩
 ·simp only[ek]at h1 h2;rcases k with _|_|k<;>rcases m with _|_|m<;>simp[rcase]at h1 h2<;>first|rfl|(exfalso;omega)
theorem ry{h:HG}{C:CG}{H:Array Obj}{kw kd i:Nat}{c1 c2:Array Value}(hi:i≠0)(h1:hp H C.cb=some (.cells #[aE C.b] 23 (0,0)))(h2:hp H h.hb=some (.cells #[aE h.bh] 114 (0,0)))
  (h3:hp H C.b=some (.cells c1 92 (0,0))) (h3':c1[5]? =some (.chan (some C.dn))) (h4:hp H h.bh=some (.cells c2 120 (0,0))) (h4':c2[1]? =some (.chan (some h.wk))) (h5:hp H h.wk=some (.chan 0 #[] false kw kw false)) (h6:hp H C.dn=some (.chan 0 #[] false kd kd false)):
  yM (bT.rd i) (ek h C) H/\∀ p∈(ek h C).mem,∀ c ty,H[p.1.block]? =some (.cells c ty (0,0))->bT.sh ty p.1.off=false:=by
 have i9:∀ b t o,bT.rd i b t o=Xr t o:=λb t o=>by unfold tH.rd;rw[aq hi];rfl
 have key:∀ p∈(ek h C).mem,p.1.spot=none/\∃ c ty,H[p.1.block]? =some (.cells c ty (0,0))/\c[p.1.off]? =some p.2/\bT.rd i p.1.block ty p.1.off=true/\Xs ty p.1.off=false:=by
  intro p hp;simp only[ek,gq,mK,fX]at hp;rcases hp with rfl|rfl|rfl|rfl
  ·exact⟨rfl,_,_,h1,rfl,by rw[i9];rfl,rfl⟩
  ·exact⟨rfl,_,_,h2,rfl,by rw[i9];rfl,rfl⟩
  ·exact⟨rfl,_,_,h3,h3',by rw[i9];rfl,rfl⟩
  ·exact⟨rfl,_,_,h4,h4',by rw[i9];rfl,rfl⟩
 refine⟨⟨λc hc=>?_,λp hp=>?_⟩,λp hp c ty lf=>?_⟩
 ·rcases mI.1 hc with rfl|rfl
  ·exact⟨_,h5⟩
  ·exact⟨_,h6⟩
 ·obtain⟨a,c,ty,b1,b2,b3,_⟩:=key p hp;exact⟨a,c,ty,b1,b2,b3⟩
 ·obtain⟨a,c',UR,b1,b2,b3,b4⟩:=key p hp;rw[lf]at b1;cases b1;exact b4
structure pZ(σ σ':Gh)(G:CG)(l:List HV):Prop where
 n:σ'.n=σ.n+l.length
 old:∀ i,i<σ.n->σ'.aU i=σ.aU i
 new:∀ i s,σ.n<=i->σ'.aU i=some s->∃ v∈l,v.h.g=i/\s=ek v.h G
 has:∀ v∈l,σ'.aU v.h.g=some (ek v.h G)/\σ.n<=v.h.g/\v.h.g<σ'.n
 gnd:(l.map (·.h.g)).Nodup
 fw:∀ v∈l,∀ i s,σ.aU i=some s->¬ s.has v.h.wk
 fd:∀ i s,σ.aU i=some s->¬ s.has G.dn
 wnd:(l.map (·.h.wk)).Nodup
 wd:∀ v∈l,v.h.wk≠G.dn
 sh:∀ x,σ'.sh x↔σ.sh x\/x=.cell ⟨G.b,7,none⟩\/x=.cell ⟨G.b,8,none⟩
 bot:σ'.bot=σ.bot
structure Mq(σ:Gh):Prop where
 n:σ.n≠0
 lt:∀ i s,σ.aU i=some s->i<σ.n
theorem pZ.start{σ:Gh}(h:Mq σ){G:CG}(fd:∀ i s,σ.aU i=some s->¬ s.has G.dn):pZ σ (σ.Au G.b [7,8]) G []:=by
 refine⟨rfl,λ_ _=>rfl,λi s hi hs=>?_,by simp,by simp,by simp,fd,by simp,by simp,λx=>?_,rfl⟩
 ·have:=h.lt i s hs;omega
 ·simp[Gh.Au]
theorem pZ.hire{σ σ':Gh}{G:CG}{l:List HV}(N:pZ σ σ' G l){v:HV}(hg:v.h.g=σ'.n)(dI:∀ i s,σ.aU i=some s->i<σ.n)(hw:∀ i s,σ'.aU i=some s->¬ s.has v.h.wk)(Rr:v.h.wk≠G.dn):pZ σ (σ'.oB (ek v.h G)) G (l++[v]):=by
 have hs:∀ i,(σ'.oB (ek v.h G)).aU i=if i=σ'.n then some (ek v.h G)else σ'.aU i:=λi=>by
  show Go.ConcN.upd σ'.aU σ'.n (some (ek v.h G)) i=_;by_cases e:i=σ'.n
  ·subst e;rw[Go.ConcN.upd_same,aK rfl]
  ·rw[Go.ConcN.upd_ne _ _ e,aq e]
 have hn:=N.n;refine⟨?_,λi hi=>?_,λi s hi e=>?_,λu hu=>?_,?_,λu hu i s e=>?_,N.fd,?_,λu hu=>?_,N.sh,N.bot⟩
 ·show σ'.n+1=_;rw[ji,lL];omega
 ·rw[hs,aq ak];exact N.old i hi
 ·rw[hs]at e;by_cases z:i=σ'.n
  ·rw[aK z]at e;exact⟨v,by simp,by rw[hg,z],(bY e).symm⟩
  ·rw[aq z]at e;obtain⟨u,hu,h1,h2⟩:=N.new i s hi e;exact⟨u,by simp[hu],h1,h2⟩
 ·rcases cg.1 hu with hu|hu
  ·obtain⟨h1,h2,h3⟩:=N.has u hu;refine⟨by rw[hs,aq ak];exact h1,h2,?_⟩;show _<σ'.n+1;omega
  ·obtain rfl:=dN.1 hu;refine⟨by rw[hs,aK hg],ak,?_⟩;show _<σ'.n+1;omega
 ·rw[eI,iC];refine⟨N.gnd,by simp,λa ha b hb=>?_⟩;obtain⟨u,hu,rfl⟩:=bL.1 ha;simp at hb;subst hb;have:=(N.has u hu).2.2;omega
 ·rcases cg.1 hu with hu|hu
  ·exact N.fw u hu i s e
  ·obtain rfl:=dN.1 hu;exact hw i s (by rw[N.old i (dI i s e)];exact e)
 ·rw[eI,iC];refine⟨N.wnd,by simp,λa ha b hb z=>?_⟩;obtain⟨u,hu,rfl⟩:=bL.1 ha;simp at hb;subst hb;exact hw _ _ (N.has u hu).1 (mI.2 (.inl z.symm))
 ·rcases cg.1 hu with hu|hu
  ·exact N.wd u hu
  ·obtain rfl:=dN.1 hu;exact Rr
theorem QB{σ:Gh}{n:Int}(hn:1<=n/\n<=4)(hσ:Mq σ):bD prog bT 27 #[az n] σ [] (λv σ' As=>∃ c:CV,pZ σ σ' c.G c.ae/\v=.tuple #[aE c.G.b,.nilIface]/\As=[dK c]/\c.ae.map (·.s)=((upto n).map λk=>jG k n)/\c.aF=[]/\c.aL=[]/\c.aj=false):=by
 refine bD.of ?_;intro Post os out kd F c' cs C aJ ai;refine H0 ?_;refine C.du rfl ?_;refine bj ?_;refine C.du rfl ?_;refine cN ?_;refine aD.mc underlying83 (ay type73) rfl (λdn Y5=>?_);refine fy ?_;refine aD.bx (c:=Tx 0 aG.v aG.v aG.v (.chan (some dn)) false (((0:Nat):Int)*KQ)) [7,8] rfl rfl rfl (by decide) rfl (λb=>?_);have C1:ab prog true (bT.bw (σ.Au b [7,8])) (aD prog Post bT (σ.Au b [7,8]) 0 os out):=aD.dM;refine aD.al rfl (λcb hcb=>?_);refine C1.st rfl ?_ (hr:=hcb.rd _ _);refine C1.go ?_;refine C1.rg [0,1] ?_;refine C1.mv rfl ?_;refine C1.mv rfl ?_;refine C1.go ?_;refine At.aG eB 1 114 (show At (aD prog Post bT (σ.Au b [7,8]) 0 os out) 0 (aW eB 1 114 aG (([]:List HV).map (·.h.bh))::_) _ from ?_);refine At.yB (show At (aD prog Post bT (σ.Au b [7,8]) 0 os out) 0 (all (([]:List HV).map iH)::_) _ from ?_);refine Pd (Y:=Gh×ax×List HV×Nat) (λy=>y.1) (λy=>[(0,az n),(4,aE cb),(17,az n),(18,az y.2.2.2)]) (λy=>om b 0 y.2.1.v aG.v aG.v (.chan (some dn)) false ((y.2.2.2:Int)*KQ)::aW eB 1 114 y.2.1 (y.2.2.1.map (·.h.bh))::all (y.2.2.1.map iH)::bX dn (.chan 0 #[] false 0 0 false)::bX cb (.cells #[aE b] 23 (0,0))::F)
  (λy=>pZ σ y.1 ⟨b,cb,dn⟩ y.2.2.1/\y.2.2.1.length=y.2.2.2/\(y.2.2.2:Int)<=n/\y.2.2.1.map (·.s)=((upto n).take y.2.2.2).map (λk=>jG k n)/\∀ b',y.2.1.a=some ⟨b',0,none⟩->CH y.1 b') (λy=>(n-y.2.2.2).toNat) (σ.Au b [7,8],aG,[],0) rfl ⟨rfl,rfl,rfl,rfl,trivial⟩ ⟨pZ.start (G:=⟨b,cb,dn⟩) hσ Y5,rfl,by show(0:Int)<=n;omega,rfl,λb' h=>by cases h⟩ ?_
 rintro⟨σk,hs,l,kk⟩ e ⟨N,oL,PQ,hm,V6⟩ ih;dsimp only at N oL PQ hm V6⊢;have C:ab prog true (bT.bw σk) (aD prog Post bT σk 0 os out):=aD.dM;refine bj ?_;by_cases dI:(kk:Int)<n
 ·refine C.eE rfl ?_;refine dm ?_;apply kI (X:=Nat×Nat×Nat×Nat×Nat) (λx=>(∀ i s,σk.aU i=some s->¬ s.has x.2.1)) (λx=>[(0,az n),(4,aE cb),(6,aE x.2.2.2.2),(17,az n),(18,az kk)]) (λx=>om b 0 hs.v aG.v aG.v (.chan (some dn)) false ((kk:Int)*KQ)::aW eB 1 114 hs (l.map (·.h.bh))::all (l.map iH)::bX dn (.chan 0 #[] false 0 0 false)::bX cb (.cells #[aE b] 23 (0,0))::
   bX x.2.2.2.1 (.cells #[aE x.1,.chan (some x.2.1),.chan (some x.2.2.1)] 120 (0,0))::bX x.2.1 (.chan 0 #[] false 0 0 false)::bX x.2.2.1 (.chan 0 #[] false 0 0 false)::bX x.2.2.2.2 (.cells #[aE x.2.2.2.1] 114 (0,0))::de x.1 (jG kk n)::F)
  ·intro jE;refine C.dx (cm 21 0 7++[(6,7)]) 9 [2,3,4,5,6,7,8] 0 ?_;refine xr ?_;refine Ch.nk [2,3,4,7] (fa4 ?_ ?_ ?_ ?_)
   ·refine aP λe aa hk=>?_;refine C.dk (aB.less (cH _) eN) ?_;rintro v aO ⟨ju,rfl,rfl⟩;refine hk _ _ ?_
    (try simp only[iT,eZ])
    refine Ch.nk [3,4,7] (fa3 ?_ ?_ ?_)
    ·refine aP λe aa hk=>?_;refine aD.mc underlying117 (ay type187) rfl (λkA jz=>hk _ _ ?_);refine Ch.nk [4,7] (yR ?_ ?_)
     ·refine aP λe aa hk=>?_;refine aD.mc underlying118 (ay type81) rfl (λkz z9=>hk _ _ ?_);refine Ch.q 5 (λh=>C.bd rfl h) ?_;refine Ch.nk [6,7] (yR ?_ ?_)
      ·refine aP λe aa hk=>?_;refine C.bx rfl (λiS=>hk _ _ ?_);refine Ch.nk [7] (fK ?_);refine aP λe aa hk=>?_;refine aD.al rfl (λb6 h6=>hk _ _ ?_);refine Ch.nk [8] (fK ?_);refine aP λe aa hk=>?_;refine C.st rfl (hk _ undef ?_) (hr:=h6.rd _ _);refine ee ?_;exact bN jE (ju,kA,kz,iS,b6) jz
      ·refine aP λe aa hk=>?_;refine aD.al rfl (λb6 h6=>hk _ _ ?_);refine Ch.nk [6] (fK ?_);refine aP λe aa hk=>?_;refine C.bx rfl (λiS=>hk _ _ ?_);refine Ch.nk [8] (fK ?_);refine aP λe aa hk=>?_;refine C.st rfl (hk _ undef ?_) (hr:=h6.rd _ _);refine ee ?_;exact bN jE (ju,kA,kz,iS,b6) jz
     ·refine aP λe aa hk=>?_;refine aD.al rfl (λb6 h6=>hk _ _ ?_);refine Ch.nk [4] (fK ?_);refine aP λe aa hk=>?_;refine aD.mc underlying118 (ay type81) rfl (λkz z9=>hk _ _ ?_);refine Ch.q 5 (λh=>C.bd rfl h) ?_;refine Ch.nk [6] (fK ?_);refine aP λe aa hk=>?_;refine C.bx rfl (λiS=>hk _ _ ?_);refine Ch.nk [8] (fK ?_);refine aP λe aa hk=>?_;refine C.st rfl (hk _ undef ?_) (hr:=h6.rd _ _);refine ee ?_;exact bN jE (ju,kA,kz,iS,b6) jz
    ·refine aP λe aa hk=>?_;refine aD.mc underlying118 (ay type81) rfl (λkz z9=>hk _ _ ?_);refine Ch.nk [3,7] (yR ?_ ?_)
     ·refine aP λe aa hk=>?_;refine aD.mc underlying117 (ay type187) rfl (λkA jz=>hk _ _ ?_);refine Ch.q 5 (λh=>C.bd rfl h) ?_;refine Ch.nk [6,7] (yR ?_ ?_)
      ·refine aP λe aa hk=>?_;refine C.bx rfl (λiS=>hk _ _ ?_);refine Ch.nk [7] (fK ?_);refine aP λe aa hk=>?_;refine aD.al rfl (λb6 h6=>hk _ _ ?_);refine Ch.nk [8] (fK ?_);refine aP λe aa hk=>?_;refine C.st rfl (hk _ undef ?_) (hr:=h6.rd _ _);refine ee ?_;exact bN jE (ju,kA,kz,iS,b6) jz
      ·refine aP λe aa hk=>?_;refine aD.al rfl (λb6 h6=>hk _ _ ?_);refine Ch.nk [6] (fK ?_);refine aP λe aa hk=>?_;refine C.bx rfl (λiS=>hk _ _ ?_);refine Ch.nk [8] (fK ?_);refine aP λe aa hk=>?_;refine C.st rfl (hk _ undef ?_) (hr:=h6.rd _ _);refine ee ?_;exact bN jE (ju,kA,kz,iS,b6) jz
     ·refine aP λe aa hk=>?_;refine aD.al rfl (λb6 h6=>hk _ _ ?_);refine Ch.nk [3] (fK ?_);refine aP λe aa hk=>?_;refine aD.mc underlying117 (ay type187) rfl (λkA jz=>hk _ _ ?_);refine Ch.q 5 (λh=>C.bd rfl h) ?_;refine Ch.nk [6] (fK ?_);refine aP λe aa hk=>?_;refine C.bx rfl (λiS=>hk _ _ ?_);refine Ch.nk [8] (fK ?_);refine aP λe aa hk=>?_;refine C.st rfl (hk _ undef ?_) (hr:=h6.rd _ _);refine ee ?_;exact bN jE (ju,kA,kz,iS,b6) jz
    ·refine aP λe aa hk=>?_;refine aD.al rfl (λb6 h6=>hk _ _ ?_);refine Ch.nk [3,4] (yR ?_ ?_)
     ·refine aP λe aa hk=>?_;refine aD.mc underlying117 (ay type187) rfl (λkA jz=>hk _ _ ?_);refine Ch.nk [4] (fK ?_);refine aP λe aa hk=>?_;refine aD.mc underlying118 (ay type81) rfl (λkz z9=>hk _ _ ?_);refine Ch.q 5 (λh=>C.bd rfl h) ?_;refine Ch.nk [6] (fK ?_);refine aP λe aa hk=>?_;refine C.bx rfl (λiS=>hk _ _ ?_);refine Ch.nk [8] (fK ?_);refine aP λe aa hk=>?_;refine C.st rfl (hk _ undef ?_) (hr:=h6.rd _ _);refine ee ?_;exact bN jE (ju,kA,kz,iS,b6) jz
     ·refine aP λe aa hk=>?_;refine aD.mc underlying118 (ay type81) rfl (λkz z9=>hk _ _ ?_);refine Ch.nk [3] (fK ?_);refine aP λe aa hk=>?_;refine aD.mc underlying117 (ay type187) rfl (λkA jz=>hk _ _ ?_);refine Ch.q 5 (λh=>C.bd rfl h) ?_;refine Ch.nk [6] (fK ?_);refine aP λe aa hk=>?_;refine C.bx rfl (λiS=>hk _ _ ?_);refine Ch.nk [8] (fK ?_);refine aP λe aa hk=>?_;refine C.st rfl (hk _ undef ?_) (hr:=h6.rd _ _);refine ee ?_;exact bN jE (ju,kA,kz,iS,b6) jz
   ·refine aP λe aa hk=>?_;refine aD.mc underlying117 (ay type187) rfl (λkA jz=>hk _ _ ?_);refine Ch.nk [2,4,7] (fa3 ?_ ?_ ?_)
    ·refine aP λe aa hk=>?_;refine C.dk (aB.less (cH _) eN) ?_;rintro v aO ⟨ju,rfl,rfl⟩;refine hk _ _ ?_
     (try simp only[iT,eZ])
     refine Ch.nk [4,7] (yR ?_ ?_)
     ·refine aP λe aa hk=>?_;refine aD.mc underlying118 (ay type81) rfl (λkz z9=>hk _ _ ?_);refine Ch.q 5 (λh=>C.bd rfl h) ?_;refine Ch.nk [6,7] (yR ?_ ?_)
      ·refine aP λe aa hk=>?_;refine C.bx rfl (λiS=>hk _ _ ?_);refine Ch.nk [7] (fK ?_);refine aP λe aa hk=>?_;refine aD.al rfl (λb6 h6=>hk _ _ ?_);refine Ch.nk [8] (fK ?_);refine aP λe aa hk=>?_;refine C.st rfl (hk _ undef ?_) (hr:=h6.rd _ _);refine ee ?_;exact bN jE (ju,kA,kz,iS,b6) jz
      ·refine aP λe aa hk=>?_;refine aD.al rfl (λb6 h6=>hk _ _ ?_);refine Ch.nk [6] (fK ?_);refine aP λe aa hk=>?_;refine C.bx rfl (λiS=>hk _ _ ?_);refine Ch.nk [8] (fK ?_);refine aP λe aa hk=>?_;refine C.st rfl (hk _ undef ?_) (hr:=h6.rd _ _);refine ee ?_;exact bN jE (ju,kA,kz,iS,b6) jz
     ·refine aP λe aa hk=>?_;refine aD.al rfl (λb6 h6=>hk _ _ ?_);refine Ch.nk [4] (fK ?_);refine aP λe aa hk=>?_;refine aD.mc underlying118 (ay type81) rfl (λkz z9=>hk _ _ ?_);refine Ch.q 5 (λh=>C.bd rfl h) ?_;refine Ch.nk [6] (fK ?_);refine aP λe aa hk=>?_;refine C.bx rfl (λiS=>hk _ _ ?_);refine Ch.nk [8] (fK ?_);refine aP λe aa hk=>?_;refine C.st rfl (hk _ undef ?_) (hr:=h6.rd _ _);refine ee ?_;exact bN jE (ju,kA,kz,iS,b6) jz
    ·refine aP λe aa hk=>?_;refine aD.mc underlying118 (ay type81) rfl (λkz z9=>hk _ _ ?_);refine Ch.nk [2,7] (yR ?_ ?_)
     ·refine aP λe aa hk=>?_;refine C.dk (aB.less (cH _) eN) ?_;rintro v aO ⟨ju,rfl,rfl⟩;refine hk _ _ ?_
      (try simp only[iT,eZ])
      refine Ch.q 5 (λh=>C.bd rfl h) ?_;refine Ch.nk [6,7] (yR ?_ ?_)
      ·refine aP λe aa hk=>?_;refine C.bx rfl (λiS=>hk _ _ ?_);refine Ch.nk [7] (fK ?_);refine aP λe aa hk=>?_;refine aD.al rfl (λb6 h6=>hk _ _ ?_);refine Ch.nk [8] (fK ?_);refine aP λe aa hk=>?_;refine C.st rfl (hk _ undef ?_) (hr:=h6.rd _ _);refine ee ?_;exact bN jE (ju,kA,kz,iS,b6) jz
      ·refine aP λe aa hk=>?_;refine aD.al rfl (λb6 h6=>hk _ _ ?_);refine Ch.nk [6] (fK ?_);refine aP λe aa hk=>?_;refine C.bx rfl (λiS=>hk _ _ ?_);refine Ch.nk [8] (fK ?_);refine aP λe aa hk=>?_;refine C.st rfl (hk _ undef ?_) (hr:=h6.rd _ _);refine ee ?_;exact bN jE (ju,kA,kz,iS,b6) jz
     ·refine aP λe aa hk=>?_;refine aD.al rfl (λb6 h6=>hk _ _ ?_);refine Ch.nk [2] (fK ?_);refine aP λe aa hk=>?_;refine C.dk (aB.less (cH _) eN) ?_;rintro v aO ⟨ju,rfl,rfl⟩;refine hk _ _ ?_
      (try simp only[iT,eZ])
      refine Ch.q 5 (λh=>C.bd rfl h) ?_;refine Ch.nk [6] (fK ?_);refine aP λe aa hk=>?_;refine C.bx rfl (λiS=>hk _ _ ?_);refine Ch.nk [8] (fK ?_);refine aP λe aa hk=>?_;refine C.st rfl (hk _ undef ?_) (hr:=h6.rd _ _);refine ee ?_;exact bN jE (ju,kA,kz,iS,b6) jz
    ·refine aP λe aa hk=>?_;refine aD.al rfl (λb6 h6=>hk _ _ ?_);refine Ch.nk [2,4] (yR ?_ ?_)
     ·refine aP λe aa hk=>?_;refine C.dk (aB.less (cH _) eN) ?_;rintro v aO ⟨ju,rfl,rfl⟩;refine hk _ _ ?_
      (try simp only[iT,eZ])
      refine Ch.nk [4] (fK ?_);refine aP λe aa hk=>?_;refine aD.mc underlying118 (ay type81) rfl (λkz z9=>hk _ _ ?_);refine Ch.q 5 (λh=>C.bd rfl h) ?_;refine Ch.nk [6] (fK ?_);refine aP λe aa hk=>?_;refine C.bx rfl (λiS=>hk _ _ ?_);refine Ch.nk [8] (fK ?_);refine aP λe aa hk=>?_;refine C.st rfl (hk _ undef ?_) (hr:=h6.rd _ _);refine ee ?_;exact bN jE (ju,kA,kz,iS,b6) jz
     ·refine aP λe aa hk=>?_;refine aD.mc underlying118 (ay type81) rfl (λkz z9=>hk _ _ ?_);refine Ch.nk [2] (fK ?_);refine aP λe aa hk=>?_;refine C.dk (aB.less (cH _) eN) ?_;rintro v aO ⟨ju,rfl,rfl⟩;refine hk _ _ ?_
      (try simp only[iT,eZ])
      refine Ch.q 5 (λh=>C.bd rfl h) ?_;refine Ch.nk [6] (fK ?_);refine aP λe aa hk=>?_;refine C.bx rfl (λiS=>hk _ _ ?_);refine Ch.nk [8] (fK ?_);refine aP λe aa hk=>?_;refine C.st rfl (hk _ undef ?_) (hr:=h6.rd _ _);refine ee ?_;exact bN jE (ju,kA,kz,iS,b6) jz
   ·refine aP λe aa hk=>?_;refine aD.mc underlying118 (ay type81) rfl (λkz z9=>hk _ _ ?_);refine Ch.nk [2,3,7] (fa3 ?_ ?_ ?_)
    ·refine aP λe aa hk=>?_;refine C.dk (aB.less (cH _) eN) ?_;rintro v aO ⟨ju,rfl,rfl⟩;refine hk _ _ ?_
     (try simp only[iT,eZ])
     refine Ch.nk [3,7] (yR ?_ ?_)
     ·refine aP λe aa hk=>?_;refine aD.mc underlying117 (ay type187) rfl (λkA jz=>hk _ _ ?_);refine Ch.q 5 (λh=>C.bd rfl h) ?_;refine Ch.nk [6,7] (yR ?_ ?_)
      ·refine aP λe aa hk=>?_;refine C.bx rfl (λiS=>hk _ _ ?_);refine Ch.nk [7] (fK ?_);refine aP λe aa hk=>?_;refine aD.al rfl (λb6 h6=>hk _ _ ?_);refine Ch.nk [8] (fK ?_);refine aP λe aa hk=>?_;refine C.st rfl (hk _ undef ?_) (hr:=h6.rd _ _);refine ee ?_;exact bN jE (ju,kA,kz,iS,b6) jz
      ·refine aP λe aa hk=>?_;refine aD.al rfl (λb6 h6=>hk _ _ ?_);refine Ch.nk [6] (fK ?_);refine aP λe aa hk=>?_;refine C.bx rfl (λiS=>hk _ _ ?_);refine Ch.nk [8] (fK ?_);refine aP λe aa hk=>?_;refine C.st rfl (hk _ undef ?_) (hr:=h6.rd _ _);refine ee ?_;exact bN jE (ju,kA,kz,iS,b6) jz
     ·refine aP λe aa hk=>?_;refine aD.al rfl (λb6 h6=>hk _ _ ?_);refine Ch.nk [3] (fK ?_);refine aP λe aa hk=>?_;refine aD.mc underlying117 (ay type187) rfl (λkA jz=>hk _ _ ?_);refine Ch.q 5 (λh=>C.bd rfl h) ?_;refine Ch.nk [6] (fK ?_);refine aP λe aa hk=>?_;refine C.bx rfl (λiS=>hk _ _ ?_);refine Ch.nk [8] (fK ?_);refine aP λe aa hk=>?_;refine C.st rfl (hk _ undef ?_) (hr:=h6.rd _ _);refine ee ?_;exact bN jE (ju,kA,kz,iS,b6) jz
    ·refine aP λe aa hk=>?_;refine aD.mc underlying117 (ay type187) rfl (λkA jz=>hk _ _ ?_);refine Ch.nk [2,7] (yR ?_ ?_)
     ·refine aP λe aa hk=>?_;refine C.dk (aB.less (cH _) eN) ?_;rintro v aO ⟨ju,rfl,rfl⟩;refine hk _ _ ?_
      (try simp only[iT,eZ])
      refine Ch.q 5 (λh=>C.bd rfl h) ?_;refine Ch.nk [6,7] (yR ?_ ?_)
      ·refine aP λe aa hk=>?_;refine C.bx rfl (λiS=>hk _ _ ?_);refine Ch.nk [7] (fK ?_);refine aP λe aa hk=>?_;refine aD.al rfl (λb6 h6=>hk _ _ ?_);refine Ch.nk [8] (fK ?_);refine aP λe aa hk=>?_;refine C.st rfl (hk _ undef ?_) (hr:=h6.rd _ _);refine ee ?_;exact bN jE (ju,kA,kz,iS,b6) jz
      ·refine aP λe aa hk=>?_;refine aD.al rfl (λb6 h6=>hk _ _ ?_);refine Ch.nk [6] (fK ?_);refine aP λe aa hk=>?_;refine C.bx rfl (λiS=>hk _ _ ?_);refine Ch.nk [8] (fK ?_);refine aP λe aa hk=>?_;refine C.st rfl (hk _ undef ?_) (hr:=h6.rd _ _);refine ee ?_;exact bN jE (ju,kA,kz,iS,b6) jz
     ·refine aP λe aa hk=>?_;refine aD.al rfl (λb6 h6=>hk _ _ ?_);refine Ch.nk [2] (fK ?_);refine aP λe aa hk=>?_;refine C.dk (aB.less (cH _) eN) ?_;rintro v aO ⟨ju,rfl,rfl⟩;refine hk _ _ ?_
      (try simp only[iT,eZ])
      refine Ch.q 5 (λh=>C.bd rfl h) ?_;refine Ch.nk [6] (fK ?_);refine aP λe aa hk=>?_;refine C.bx rfl (λiS=>hk _ _ ?_);refine Ch.nk [8] (fK ?_);refine aP λe aa hk=>?_;refine C.st rfl (hk _ undef ?_) (hr:=h6.rd _ _);refine ee ?_;exact bN jE (ju,kA,kz,iS,b6) jz
    ·refine aP λe aa hk=>?_;refine aD.al rfl (λb6 h6=>hk _ _ ?_);refine Ch.nk [2,3] (yR ?_ ?_)
     ·refine aP λe aa hk=>?_;refine C.dk (aB.less (cH _) eN) ?_;rintro v aO ⟨ju,rfl,rfl⟩;refine hk _ _ ?_
      (try simp only[iT,eZ])
      refine Ch.nk [3] (fK ?_);refine aP λe aa hk=>?_;refine aD.mc underlying117 (ay type187) rfl (λkA jz=>hk _ _ ?_);refine Ch.q 5 (λh=>C.bd rfl h) ?_;refine Ch.nk [6] (fK ?_);refine aP λe aa hk=>?_;refine C.bx rfl (λiS=>hk _ _ ?_);refine Ch.nk [8] (fK ?_);refine aP λe aa hk=>?_;refine C.st rfl (hk _ undef ?_) (hr:=h6.rd _ _);refine ee ?_;exact bN jE (ju,kA,kz,iS,b6) jz
     ·refine aP λe aa hk=>?_;refine aD.mc underlying117 (ay type187) rfl (λkA jz=>hk _ _ ?_);refine Ch.nk [2] (fK ?_);refine aP λe aa hk=>?_;refine C.dk (aB.less (cH _) eN) ?_;rintro v aO ⟨ju,rfl,rfl⟩;refine hk _ _ ?_
      (try simp only[iT,eZ])
      refine Ch.q 5 (λh=>C.bd rfl h) ?_;refine Ch.nk [6] (fK ?_);refine aP λe aa hk=>?_;refine C.bx rfl (λiS=>hk _ _ ?_);refine Ch.nk [8] (fK ?_);refine aP λe aa hk=>?_;refine C.st rfl (hk _ undef ?_) (hr:=h6.rd _ _);refine ee ?_;exact bN jE (ju,kA,kz,iS,b6) jz
   ·refine aP λe aa hk=>?_;refine aD.al rfl (λb6 h6=>hk _ _ ?_);refine Ch.nk [2,3,4] (fa3 ?_ ?_ ?_)
    ·refine aP λe aa hk=>?_;refine C.dk (aB.less (cH _) eN) ?_;rintro v aO ⟨ju,rfl,rfl⟩;refine hk _ _ ?_
     (try simp only[iT,eZ])
     refine Ch.nk [3,4] (yR ?_ ?_)
     ·refine aP λe aa hk=>?_;refine aD.mc underlying117 (ay type187) rfl (λkA jz=>hk _ _ ?_);refine Ch.nk [4] (fK ?_);refine aP λe aa hk=>?_;refine aD.mc underlying118 (ay type81) rfl (λkz z9=>hk _ _ ?_);refine Ch.q 5 (λh=>C.bd rfl h) ?_;refine Ch.nk [6] (fK ?_);refine aP λe aa hk=>?_;refine C.bx rfl (λiS=>hk _ _ ?_);refine Ch.nk [8] (fK ?_);refine aP λe aa hk=>?_;refine C.st rfl (hk _ undef ?_) (hr:=h6.rd _ _);refine ee ?_;exact bN jE (ju,kA,kz,iS,b6) jz
     ·refine aP λe aa hk=>?_;refine aD.mc underlying118 (ay type81) rfl (λkz z9=>hk _ _ ?_);refine Ch.nk [3] (fK ?_);refine aP λe aa hk=>?_;refine aD.mc underlying117 (ay type187) rfl (λkA jz=>hk _ _ ?_);refine Ch.q 5 (λh=>C.bd rfl h) ?_;refine Ch.nk [6] (fK ?_);refine aP λe aa hk=>?_;refine C.bx rfl (λiS=>hk _ _ ?_);refine Ch.nk [8] (fK ?_);refine aP λe aa hk=>?_;refine C.st rfl (hk _ undef ?_) (hr:=h6.rd _ _);refine ee ?_;exact bN jE (ju,kA,kz,iS,b6) jz
    ·refine aP λe aa hk=>?_;refine aD.mc underlying117 (ay type187) rfl (λkA jz=>hk _ _ ?_);refine Ch.nk [2,4] (yR ?_ ?_)
     ·refine aP λe aa hk=>?_;refine C.dk (aB.less (cH _) eN) ?_;rintro v aO ⟨ju,rfl,rfl⟩;refine hk _ _ ?_
      (try simp only[iT,eZ])
      refine Ch.nk [4] (fK ?_);refine aP λe aa hk=>?_;refine aD.mc underlying118 (ay type81) rfl (λkz z9=>hk _ _ ?_);refine Ch.q 5 (λh=>C.bd rfl h) ?_;refine Ch.nk [6] (fK ?_);refine aP λe aa hk=>?_;refine C.bx rfl (λiS=>hk _ _ ?_);refine Ch.nk [8] (fK ?_);refine aP λe aa hk=>?_;refine C.st rfl (hk _ undef ?_) (hr:=h6.rd _ _);refine ee ?_;exact bN jE (ju,kA,kz,iS,b6) jz
     ·refine aP λe aa hk=>?_;refine aD.mc underlying118 (ay type81) rfl (λkz z9=>hk _ _ ?_);refine Ch.nk [2] (fK ?_);refine aP λe aa hk=>?_;refine C.dk (aB.less (cH _) eN) ?_;rintro v aO ⟨ju,rfl,rfl⟩;refine hk _ _ ?_
      (try simp only[iT,eZ])
      refine Ch.q 5 (λh=>C.bd rfl h) ?_;refine Ch.nk [6] (fK ?_);refine aP λe aa hk=>?_;refine C.bx rfl (λiS=>hk _ _ ?_);refine Ch.nk [8] (fK ?_);refine aP λe aa hk=>?_;refine C.st rfl (hk _ undef ?_) (hr:=h6.rd _ _);refine ee ?_;exact bN jE (ju,kA,kz,iS,b6) jz
    ·refine aP λe aa hk=>?_;refine aD.mc underlying118 (ay type81) rfl (λkz z9=>hk _ _ ?_);refine Ch.nk [2,3] (yR ?_ ?_)
     ·refine aP λe aa hk=>?_;refine C.dk (aB.less (cH _) eN) ?_;rintro v aO ⟨ju,rfl,rfl⟩;refine hk _ _ ?_
      (try simp only[iT,eZ])
      refine Ch.nk [3] (fK ?_);refine aP λe aa hk=>?_;refine aD.mc underlying117 (ay type187) rfl (λkA jz=>hk _ _ ?_);refine Ch.q 5 (λh=>C.bd rfl h) ?_;refine Ch.nk [6] (fK ?_);refine aP λe aa hk=>?_;refine C.bx rfl (λiS=>hk _ _ ?_);refine Ch.nk [8] (fK ?_);refine aP λe aa hk=>?_;refine C.st rfl (hk _ undef ?_) (hr:=h6.rd _ _);refine ee ?_;exact bN jE (ju,kA,kz,iS,b6) jz
     ·refine aP λe aa hk=>?_;refine aD.mc underlying117 (ay type187) rfl (λkA jz=>hk _ _ ?_);refine Ch.nk [2] (fK ?_);refine aP λe aa hk=>?_;refine C.dk (aB.less (cH _) eN) ?_;rintro v aO ⟨ju,rfl,rfl⟩;refine hk _ _ ?_
      (try simp only[iT,eZ])
      refine Ch.q 5 (λh=>C.bd rfl h) ?_;refine Ch.nk [6] (fK ?_);refine aP λe aa hk=>?_;refine C.bx rfl (λiS=>hk _ _ ?_);refine Ch.nk [8] (fK ?_);refine aP λe aa hk=>?_;refine C.st rfl (hk _ undef ?_) (hr:=h6.rd _ _);refine ee ?_;exact bN jE (ju,kA,kz,iS,b6) jz
  ·rintro⟨ju,kA,kz,iS,b6⟩ jz e;dsimp only at jz⊢;refine At.apart (b:=kA) (x:=dn) dJ.au (λRr=>?_);have hl4:l.length<=3:=ak;refine C.wR (cm 28 0 10) 11 [6,7,8,9,10] 2 ?_ (W:=[om b 0 hs.v aG.v aG.v (.chan (some dn)) false ((kk:Int)*KQ),bX cb (.cells #[aE b] 23 (0,0)),bX b6 (.cells #[aE iS] 114 (0,0))]);refine n7 ?_;refine Dr.chain rfl ?_ (λ_ s=>bZ.sat bZ.au s);refine Ch.nk [6] (fK ?_);refine aP λe aa hk=>?_;refine C.n5 rfl (λb34=>hk _ _ .cons ?_);refine Ch.nk [7] (fK ?_);refine aP λe aa hk=>?_;refine aD.ap (f:=eB) (z:=1) (el:=114) (m:=[iS]) (l:=l.map (·.h.bh)) (s:=hs) rfl Fo.au V6 (λj=>rfl) (λH s=>.inr ⟨b34,0,1,#[aE iS],114,rfl,Has.get Has.au s,fI 1,rfl,λj=>rfl⟩) (λs' hl ha=>hk _ _ lU ?_) (by simp;omega) rfl (by decide) rfl rfl;refine Ch.q 8 (λh=>C.nc rfl h) ?_;refine Ch.q 9 (λh=>C.fa rfl h) ?_;refine Ch.nk [10] (fK ?_);refine aP λe aa hk=>?_;refine C.st rfl (hk _ undef ?_);refine vT ?_;refine C.cE (Qa (k:=kk) ak) ?_;refine jI ?_;refine C.mf rfl ?_;refine At.CM (s:=s') (x:=cb) dJ.au (λa1=>?_);refine At.CM (s:=s') (x:=b6) dJ.au (λa2=>?_);refine At.CM (s:=s') (x:=b) dJ.au (λa3=>?_);refine At.CM (s:=s') (x:=iS) dJ.au (λa4=>?_);have abE:σk.n≠0:=by have:=N.n;have:=hσ.n;omega
   refine aD.go (x:=⟨.fn (.func 49) #[aE cb,aE b6],#[]⟩) (ek ⟨σk.n,b6,iS,ju,kA,kz⟩ ⟨b,cb,dn⟩) rfl rfl (TS rfl) ⟨_,_,rfl⟩ (Gn Rr) (λH s=>(ry (h:=⟨σk.n,b6,iS,ju,kA,kz⟩) (C:=⟨b,cb,dn⟩) (kw:=0) (kd:=0) (by decide) (Has.get Has.au s) (Has.get Has.au s) (Has.get Has.au s) rfl (Has.get Has.au s) rfl (Has.get Has.au s) (Has.get Has.au s)).1)
    (λH s=>(ry (h:=⟨σk.n,b6,iS,ju,kA,kz⟩) (C:=⟨b,cb,dn⟩) (i:=1) (kw:=0) (kd:=0) (by decide) (Has.get Has.au s) (Has.get Has.au s) (Has.get Has.au s) rfl (Has.get Has.au s) rfl (Has.get Has.au s) (Has.get Has.au s)).2) ⟨600,LX (h:=⟨σk.n,b6,iS,ju,kA,kz⟩) (C:=⟨b,cb,dn⟩)⟩ abE abE ?_
   have C:ab prog true (bT.bw (σk.oB (ek ⟨σk.n,b6,iS,ju,kA,kz⟩ ⟨b,cb,dn⟩))) (aD prog Post bT (σk.oB (ek ⟨σk.n,b6,iS,ju,kA,kz⟩ ⟨b,cb,dn⟩)) 0 os out):=aD.dM;refine cF ?_;refine iH.cls ⟨⟨σk.n,b6,iS,ju,kA,kz⟩,jG kk n,0,0⟩ ?_;refine rQ (f:=iH) (l:=l) ⟨⟨σk.n,b6,iS,ju,kA,kz⟩,jG kk n,0,0⟩ dJ.au ?_;rw[show l.map (·.h.bh)++[iS]=(l++[(⟨⟨σk.n,b6,iS,ju,kA,kz⟩,jG kk n,0,0⟩:HV)]).map (·.h.bh) by simp];refine HH (c:=.skip) ih (σk.oB (ek ⟨σk.n,b6,iS,ju,kA,kz⟩ ⟨b,cb,dn⟩),s',l++[⟨⟨σk.n,b6,iS,ju,kA,kz⟩,jG kk n,0,0⟩],kk+1) rfl ⟨N.hire (v:=⟨⟨σk.n,b6,iS,ju,kA,kz⟩,jG kk n,0,0⟩) rfl hσ.lt jz Rr,by simp[oL],by show((kk+1:Nat):Int)<=n;omega,?_,?_⟩ (by show(n-((kk+1:Nat):Int)).toNat<(n-(kk:Int)).toNat;omega)
   ·show(l++[_]).map _=_;have xg:kk<(upto n).length:=by simp[upto];omega
    rw[eI,hm,List.take_add_one,fp xg];simp[upto]
   ·intro b' nZ i s p hi hp z;have hi:Go.ConcN.upd σk.aU σk.n (some (ek ⟨σk.n,b6,iS,ju,kA,kz⟩ ⟨b,cb,dn⟩)) i=some s:=hi;by_cases e1:i=σk.n
    ·subst e1;rw[Go.ConcN.upd_same]at hi;obtain rfl:=bY hi;simp only[ek,gq,mK,fX]at hp;rcases hp with rfl|rfl|rfl|rfl
     ·exact a1 b' nZ z.symm
     ·exact a2 b' nZ z.symm
     ·exact a3 b' nZ z.symm
     ·exact a4 b' nZ z.symm
    ·rw[Go.ConcN.upd_ne _ _ e1]at hi;exact ha b' nZ i s p hi hp z
 ·refine C.du rfl ?_;refine dV ?_;subst oL;refine At.aG bQ 7 190 (At.aG rV 3 126 ?_);refine dK.cls ⟨⟨b,cb,dn⟩,l,[],[],false⟩ ?_ (hs:=hs) (bg:=aG) (tx:=aG);have hl:(l.length:Int)=n:=ak;refine aD.a8 aJ ai ⟨⟨⟨b,cb,dn⟩,l,[],[],false⟩,N,rfl,rfl,?_,rfl,rfl,rfl⟩;rw[hm,g5];simp[upto];omega
theorem At.aeX{R:Nat->aQ->Array Obj->Prop}{d:Nat}{As L:List HP}{g:aQ}{α:Type}{f:α->List Value}{z:Nat}{el:aR}{s:ax}{l:List α}(hf:Fo (aW f z el s l) As L)(h:∀ J,dX J f el s l->(∀ h,a9 J h->aW f z el s l h)->At R d (a9 J::L) g):At R d As g:=
 At.fo hf λH st=>by
  obtain⟨hh,x,gD,hr⟩:=st;refine h hh ?_ (λh e=>by have e:h=hh:=e;rw[e];exact x) H ⟨hh,rfl,gD,hr⟩;rcases x with⟨e1,e2⟩|⟨b,pad,e,_,_,hp⟩
  ·exact .inl ⟨e1,e2⟩
  ·have hb:s.b=b:=by rw[e];rfl
   have hp:hh=one b _:=hp;exact .inr ⟨pad,by rw[hb];exact e,by rw[hb,hp];simp[one]⟩
theorem Mr{σ:Gh}{n:Int}(hn:1<=n/\n<=4)(hσ:Mq σ):bD prog bT 14 #[az n] σ [] (λv σ' As=>∃ c:CV,pZ σ σ' c.G c.ae/\v=.tuple #[aE c.G.b,az 0]/\As=[dK c]/\c.ae.map (·.s)=((upto n).map λk=>jG k n)/\c.aF=[]/\c.aL=[]/\c.aj=false):=by refine bD.of ?_;intro Post os out kd F c' cs C aJ ai;refine H0 ?_;refine aD.k5 (A:=[]) (QB hn hσ) ?_;rintro v σ' aO ⟨c,N,rfl,rfl,h1,h2,h3,h4⟩;have C:ab prog true (bT.bw σ') (aD prog Post bT σ' 0 os out):=aD.dM;refine Ls ?_;refine C.WA underlying46 rfl ?_;refine jL ?_;exact aD.db aJ ai ⟨c,N,rfl,rfl,h1,h2,h3,h4⟩
theorem fS{ao:Bool}{nm:Value}{at_:Int}:aB prog ao bG 30 #[.nilIface,nm,az at_] [] (λv As=>v=az 0/\As=[]):=by refine aB.of λR C kd d F c cs aJ ai=>?_;refine pb ?_;refine dm ?_;refine C.WA underlying46 rfl ?_;refine cF ?_;exact C.a8 aJ ai ⟨rfl,rfl⟩
def xC:Option Nat->Int
 |none=>0
 |some k=>k+1
theorem DF{σ:Gh}{c:CV}{so:ax}{ops:List cy}{I:HL}{eb:Nat->Nat×Nat}(hE:ij I eb)(hn:1<=c.ae.length/\c.ae.length<=4)(nj:c.aF.length<2^20)(uX:c.aL.length<=60)(og:ops.length<2^43):
  bD prog bT 18 #[aE c.G.b,so.v] σ [dK c,a9 I,aW cK 3 67 so ops] (λv σ' As=>∃ er t gL gM I',σ'=σ/\v=.tuple #[az t,az (xC er)]/\As=[dK {c with aF:=gL,aL:=gM},a9 I']/\
   ((c.aj=true/\er=some 8/\t=0/\gL=c.aF/\gM=c.aL/\I'=I)\/(c.aj=false/\Iw eb I c.ae.length ops c.aF c.aL er t I' gL gM))):=by
 refine bD.of ?_;intro Post os out kd F c' cs C aJ ai;refine H0 ?_;refine At.aG cK 3 67 ?_;refine C.EP (f:=cK) (s:=aG) (l:=[]) ops rfl (λs1=>?_) (hsrc:=λH st=>dF.src (f:=cK) (el:=67) (s:=so) (.own Fo.au) st (λ_=>rfl)) (hsz:=by simp only[uv];omega);rw[eZ];refine At.jR (show bZ _ (aW cK 3 67 s1 ops::dK c::a9 I::F) by exact bZ.au) ?_;refine cF ?_;refine At.aeX (s:=s1) (f:=cK) (z:=3) (el:=67) (l:=ops) Fo.au (λJ hJ abF=>?_);refine aD.k5 (DE hE hn nj uX hJ og) ?_;rintro v σ' aO ⟨er,t,gL,gM,I',L,u,rfl,rfl,n4,rfl,IP⟩;refine bI ?_;refine At.turn (A:=a9 J) (A':=aW cK 3 67 s1 ops) Fo.au abF ?_;refine jL ?_;refine C.mW (f:=cK) (s:=s1) (l:=ops) rfl ?_;refine bj ?_;have hE':ij I' eb:=by
  rcases IP with⟨_,_,_,_,_,rfl⟩|⟨_,hs,_⟩
  ·exact hE
  ·exact hE.mono hs
 refine C.bS (X:=Nat×List cy) (λx=>[(6,s1.v),(7,az t),(8,u),(18,s1.v),(19,az ops.length),(20,az x.1)]) (λx=>aW cK 3 67 s1 x.2::dK {c with aF:=gL,aL:=gM}::a9 I'::(L++F)) (λx=>x.1<=ops.length/\x.2.length=ops.length) (λx=>ops.length-x.1) (0,ops) ⟨rfl,rfl,rfl,rfl,rfl,rfl,trivial⟩ ⟨eC _,rfl⟩ ?_;rintro⟨i,l⟩ e ⟨hi,hl⟩ ih;dsimp only at hi hl⊢;refine bj ?_;by_cases dI:(i:Int)<ops.length
 ·refine C.eE rfl ?_;refine i6 ?_;refine C.dT (f:=cK) (s:=s1) (l:=l) (j:=i) rfl ?_ (hj:=by omega);refine C.HD (f:=cK) (s:=s1) (l:=l) (j:=i) ⟨true,122, -1⟩ rfl ?_;refine cF ?_;exact again ih (i+1,l.set i ⟨true,122, -1⟩) ⟨cD,by dsimp only;rw[cS];exact hl⟩ (cD)
 ·refine C.du rfl ?_;refine cF ?_;cases er with
  |none=>
   obtain⟨rfl,rfl⟩:=n4;refine pb ?_;refine C.cE (aB.less (cH _) fS) (A:=[]) ?_;refine pb ?_;refine da ?_;exact aD.db aJ ai ⟨none,t,gL,gM,I',rfl,rfl,rfl,IP⟩
  |some k=>
   obtain⟨bE,rfl,rfl⟩:=n4;have hk:k<9:=by
    rcases IP with⟨_,h,_⟩|⟨_,_,h|h|h⟩
    ·cases h;decide
    ·have:=h.2.1;cases this;decide
    ·have:=h.2.2.1;cases this;decide
    ·have:=h.2.2.1;cases this
   refine bI ?_;refine C.cE (gP hE' (bE:=bE) (k:=k) (nm:=Qy) (at_:=0) hk) ?_;refine bI ?_;refine da ?_;exact aD.db aJ ai ⟨some k,t,gL,gM,I',rfl,rfl,rfl,IP⟩
end
section
open Go.Proofs Go.Conc
section
variable{P:bR}{ao:Bool}{B:j9}{R:Nat->aQ->Array Obj->Prop}{d:Nat}{As:List HP}
variable{fn:bM}{kd:Kd}{n:Nat}{e:Nat->Value}{ds:List dW}{k:List Item}{cs:List Frame}
variable{ops:Array Oper}{i:Nat}{aa:List Nat}{t:Nat}{ty:aR}{pos:String}{af:Array Edge}{gd:Option (Nat×Bool)}{x y:cU}
theorem ab.Kv(C:ab P ao B R){op:BinOp}{r:Bool}{tt t2 tp:aR}[cP:Pt P tt tp]{a:Option Addr}(ho:aZ ops i=some ⟨some t,.binOp op tt x y t2,ty,pos,af,gd⟩)(h:At R d As (gr fn kd n (put e t (.bool (a.isNone==r))) ds (.inRegion ops aa::k) cs))
  (cx:isEq op=some r:=by rfl) (hx:ev n e x=.pointer a:=by rfl) (hy:ev n e y=.pointer none:=by rfl) (hw:aN ops n e gd=true:=by rfl):At R d As (gr fn kd n e ds (.inRegion ops (i::aa)::k) cs):=
 C.v0 ho h (by
  unfold execOp;simp only[hx,hy];refine br (a:=.bool (a.isNone==r)) ?_ rfl;have h0:fJ P (Op.equal tt (.pointer a) (.pointer none))=some a.isNone:=by unfold Op.equal;show fJ P (Op.equalIn (9998+1+1) _ _ _)=_;unfold Op.equalIn;refine br (fx cP.h) ?_;cases a<;>rfl
  cases op<;>first|(cases cx;done)|skip
  ·obtain rfl:=bY cx;refine br (a:=()) (by unfold eqGuard;rfl) ?_;refine br h0 ?_;cases a<;>rfl
  ·obtain rfl:=bY cx;refine br (a:=()) (by unfold eqGuard;rfl) ?_;refine br h0 ?_;cases a<;>rfl) hw
end
structure p8 where
 kind:Int
 cl:Int
 a:Int
 b:Int
 c:Int
 so:Value
 ops:List cy
def ti(s:p8):List Value:=[az s.kind,az s.cl,az s.a,az s.b,az s.c,s.so]
def Zp(x:Int):Prop:= -9223372036854775808<=x/\x<=9223372036854775807
structure rz(I:HL)(bot:Nat)(s:p8):Prop where
 kind:Zp s.kind
 cl:Zp s.cl
 a:Zp s.a
 b:Zp s.b
 c:Zp s.c
 o:xB I bot gg 3 s.so s.ops
 z:∀ o∈s.ops,OpZ o
 len:s.ops.length*24<=140737488355328
theorem rz.mono{I I':HL}{bot:Nat}{s:p8}(h:rz I bot s)(hs:Sub I I'):rz I' bot s:={h with o:=h.o.mono hs}
structure p9(σ:Gh):Prop where
 n:σ.n≠0
 no:∀ i,σ.aU i=none
theorem p9.ok{σ:Gh}(h:p9 σ):Mq σ:=⟨h.n,λi s e=>by rw[h.no]at e;cases e⟩
end
section
open Go.Proofs Go.Conc
variable{R:Nat->aQ->Array Obj->Prop}{d:Nat}{As F L:List HP}{g:aQ}{rs:List jr}{q:Nat}
theorem TT(hi:q<rs.length)(hf:Fo (all (rs.map vj)) As L)(h:At R d (aW cK 3 67 rs[q].so rs[q].ops::aW dv 1 21 rs[q].sr rs[q].reads::all ((rs.eraseIdx q).map vj)::L) g):At R d As g:=
 kJ (f:=vj) hi hf λH s=>h H (Sat.flat (l:=[aW cK 3 67 rs[q].so rs[q].ops,aW dv 1 21 rs[q].sr rs[q].reads]) s)
theorem vo{w:WV}(hi:q<w.sh.length)(hr:dJ [n8 w.sh[q],all ((w.sh.eraseIdx q).map n8)] As L)(h:At R d (all (w.sh.map n8)::L) g):At R d As g:=mX (f:=n8) hi w.sh[q] hr (by rw[l9];exact h)
def abG(m:RecR):Prop:=(∀ o∈m.ops,(-9223372036854775808<=o.k/\o.k<=9223372036854775807)/\(-9223372036854775808<=o.v/\o.v<=9223372036854775807))/\(∀ x∈m.reads, -9223372036854775808<=x/\x<=9223372036854775807)/\m.ops.length<2^20/\m.reads.length<2^20
abbrev abH(b:Nat)(m:jr):HP:=bX b (.cells #[az m.kind,az m.tx,.bool m.yes,az m.home,m.so.v,m.sr.v] 167 (0,0))
theorem AF{σ:Gh}{c:CV}{I:HL}{w:WV}{bw:Nat}{s:Int}(hn:c.ae.length<=4)(hJ:rY I c)(hW:WI I w)(jV:∀ v∈c.ae,v.s.log.length<2^30)(D5:c.ae.length=w.sh.length)
  (he:∀ (q:Nat) (h1:q<c.ae.length) (h2:q<w.sh.length),(c.ae[q]).s.log.map (·.abs.bk)=(w.sh[q]).2.log.map (·.toRecR)/\(c.ae[q]).s.aX=(w.sh[q]).2.aX) (hz:∀ p∈w.sh,∀ r∈p.2.log,abG r.toRecR):
  bD prog bT 125 #[.agg #[aE c.G.b,aE bw],az s] σ [dK c,wP bw w,a9 I] (λv σ' As=>σ'=σ/\v=.bool true/\As=[dK c,wP bw w,a9 I]):=by
 refine bD.of ?_;intro Post os out kd F c' cs C aJ ai;refine bI ?_;cases nA:fB c.ae s with
 |none=>
  have jg:s<0\/(c.ae.length:Int)<=s:=by
   unfold fB at nA;split at nA
   ·exact .inl (by assumption)
   ·right;rw[Es]at nA;omega
  refine bj ?_;refine C.bx rfl (λb1=>?_);refine dm ?_;refine C.dk (aB.less (cH _) (nq (w:=w) (b:=bw) (i:=s))) ?_;rintro v aO ⟨hv,rfl⟩;refine bI ?_;have hv:=hv.resolve_right (by rintro⟨q,hq,rfl,_⟩;omega);obtain⟨_,rfl⟩:=hv;refine cF ?_;refine C.bS (X:=Nat) (λx=>[(1,az s),(2,aE b1),(5,.pointer none),(6,az x)]) (λ_=>nl b1 c.G.b bw::dK c::wP bw w::a9 I::F) (λx=>x<=2) (λx=>2-x) 0 ⟨rfl,rfl,rfl,rfl,trivial⟩ (eC _) ?_;intro x e hx ih;refine da ?_;refine C.cmp rfl (λsZ=>?_) (λsZ=>?_)
  ·refine dm ?_;refine aD.k5 (te (k:=s) hn hJ jV) ?_;rintro v σ' aO ⟨rfl,sl,rs,aX,rfl,hm,rfl⟩;rw[nA]at hm;obtain⟨rfl,rfl⟩:=hm;refine Ls ?_;refine C.Kv rfl ?_;refine cN ?_;refine C.mW rfl ?_ (s:=sl) (l:=([]:List jr)) (f:=recC);refine C.eE rfl ?_;refine bj ?_;refine C.eE rfl ?_;refine da ?_;exact aD.db aJ ai ⟨rfl,rfl,rfl⟩
  ·refine cF ?_;exact aD.db aJ ai ⟨rfl,rfl,rfl⟩
 |some v0=>
  obtain⟨q,rfl,hq,rfl⟩:=js nA;have pT:q<w.sh.length:=ak;obtain⟨P5,heg⟩:=he q hq pT;have hSI:=hW.sh _ (bC pT);have hsz:=hz _ (bC pT);have Nm:=jV _ (bC hq);refine bj ?_;refine C.bx rfl (λb1=>?_);refine dm ?_;refine C.dk (aB.less (cH _) (nq (w:=w) (b:=bw) (i:=q))) ?_;rintro v aO ⟨hv,rfl⟩;refine bI ?_;have hv:=hv.resolve_left (by rintro⟨h|h,_⟩<;>omega);obtain⟨q',D3,e1,rfl⟩:=hv;obtain rfl:q'=q:=ak;refine wP.opn (b:=bw) (w:=w) (h:=λsh bg tx=>?_);refine kJ (f:=n8) (l:=w.sh) pT Fo.au ?_;obtain⟨p,hp⟩:∃ p,p=w.sh[q']:=⟨_,rfl⟩;rw[<- hp]at P5 heg hSI hsz⊢;obtain⟨bs,zs⟩:=p;dsimp only[n8]at P5 heg hSI hsz⊢;refine dp.opn (b:=bs) (s:=zs) (h:=λlg vl lk un tm wt ot=>?_);refine cF ?_;refine C.bS (X:=Nat) (λx=>[(1,az q'),(2,aE b1),(5,aE bs),(6,az x)]) (λ_=>nl b1 c.G.b bw::dK c::z5 bs zs lg vl lk un tm wt ot (all ((w.sh.eraseIdx q').map n8)::bX bw (.cells #[sh.v,bg.v,tx.v,.bool w.aj] 53 (0,0))::aW eB 1 54 sh (w.sh.map (·.1))::aW bQ 7 137 bg w.aF::aW rV 3 71 tx w.aL::a9 I::F)) (λx=>x<=2) (λx=>2-x) 0 ⟨rfl,rfl,rfl,rfl,trivial⟩ (eC _) ?_;intro x e hx ih;refine da ?_;refine C.cmp rfl (λsZ=>?_) (λsZ=>?_)
  ·refine dm ?_;refine aD.k5 (te (k:=q') hn hJ jV) ?_;rintro v σ' aO ⟨rfl,sl,rs,aX,rfl,hm,rfl⟩;rw[nA]at hm;obtain⟨qc,rfl⟩:=hm;refine bI ?_;have abI:rs.map (·.toRecR)=zs.log.map (·.toRecR):=qc.trans P5;have Cn:rs.length=zs.log.length:=by have:=congrArg List.length abI;simpa using this
   have ajh:rs.length<2^30:=by have:=congrArg List.length qc;simp only[dd]at this;omega
   rw[heg];refine jL ?_;refine C.Kv rfl ?_;refine cN ?_;refine C.mW rfl ?_ (s:=sl) (l:=rs) (f:=recC);refine cN ?_;refine C.mW rfl ?_ (s:=lg) (l:=zs.log) (f:=recC);refine C.du rfl ?_;refine dm ?_;refine C.du rfl ?_ (hf:=by intro h;exact h rfl);refine dm ?_;refine C.bS (X:=Nat×List jr) (λy=>[(1,az q'),(2,aE b1),(5,aE bs),(6,az x),(7,sl.v),(9,az y.1)]) (λy=>aW recC 6 167 sl y.2::all ((rs.drop y.1).map vj)::nl b1 c.G.b bw::dK c::z5 bs zs lg vl lk un tm wt ot (all ((w.sh.eraseIdx q').map n8)::bX bw (.cells #[sh.v,bg.v,tx.v,.bool w.aj] 53 (0,0))::aW eB 1 54 sh (w.sh.map (·.1))::aW bQ 7 137 bg w.aF::aW rV 3 71 tx w.aL::a9 I::F)) (λy=>y.1<=rs.length/\y.2.length=rs.length/\y.2.drop y.1=rs.drop y.1) (λy=>rs.length-y.1) (0,rs) ⟨rfl,rfl,rfl,rfl,rfl,rfl,trivial⟩ ⟨eC _,rfl,rfl⟩ ?_ (hI:=by rw[Ac];exact bZ.au);rintro⟨i,mx⟩ e ⟨hi,hmx,Dc⟩ D7;dsimp only at hi hmx Dc⊢;refine cN ?_;refine C.mW rfl ?_ (s:=sl) (l:=mx) (f:=recC);refine C.cmp rfl (λh59=>?_) (λh59=>?_)
   ·refine bj ?_;have cG:i<rs.length:=ak;have hix:i<mx.length:=ak;have OS:i<zs.log.length:=ak;have Vb:mx[i]=rs[i]:=by have h1:=i7 hix;have h2:=i7 cG;rw[Dc,h2]at h1;exact(AX h1).1.symm
    obtain⟨ma,TB⟩:∃ ma,ma=rs[i]:=⟨_,rfl⟩;obtain⟨mb,L7⟩:∃ mb,mb=zs.log[i]:=⟨_,rfl⟩;have heq:ma.toRecR=mb.toRecR:=by
     have h1:(rs.map (·.toRecR))[i]'(by simpa using cG)=(zs.log.map (·.toRecR))[i]'(by simpa using OS):=by simp only[abI]
     rw[qx,qx]at h1;rw[TB,L7];exact h1
    have TC:=hSI.log mb (L7▸bC OS);have Zh:=hsz mb (L7▸bC OS);rw[i7 cG,<- TB];obtain⟨ra,Gc,Dp⟩:=ma;obtain⟨rb,sob,srb⟩:=mb;obtain rfl:ra=rb:=heq;dsimp only at Zh;obtain⟨Xb,hz2,hz3,hz4⟩:=Zh;refine da ?_;refine C.dT rfl ?_ (s:=sl) (l:=mx) (f:=recC) (j:=i);refine C.lZ rfl (λhj=>?_) (s:=sl) (l:=mx) (f:=recC) (j:=i);rw[Vb,<- TB];simp only[recC];refine C.al rfl (λb6=>?_);refine jL ?_;refine C.dT rfl ?_ (s:=lg) (l:=zs.log) (f:=recC) (j:=i);refine C.lZ rfl (λhj=>?_) (s:=lg) (l:=zs.log) (f:=recC) (j:=i);rw[<- L7];simp only[recC];refine C.al rfl (λb7=>?_);refine dV ?_;refine TT (rs:=(⟨ra,Gc,Dp⟩:jr)::rs.drop (i+1)) (q:=0) (Nat.zero_lt_succ _) Fo.au ?_;simp only[R5,List.eraseIdx_cons_zero];refine C.cE (aB.less (cH _) (u5 (so:=Gc) (ro:=sob) (ops:=ra.ops) rfl TC.o Xb ak)) ?_;refine H0 ?_;refine C.cE (aB.less (cH _) (na (so:=Dp) (ro:=srb) (l:=ra.reads) rfl TC.r hz2 ak)) ?_;refine jI ?_;refine C.rg [0,1,2,3,4,5,6,7,8,9,10,11,12,13,14,15,16,17,18,19,20,21,22,23,24,25,26,27,28,29,30,31,32,33] ?_;refine cN ?_;refine C.du rfl ?_ (hf:=by intro h;exact h rfl);refine cF ?_;refine C.du rfl ?_ (hf:=by intro h;exact h rfl);refine dm ?_;refine C.H7 underlying4 rfl ?_;refine dm ?_;refine C.du rfl ?_ (hf:=by intro h;exact h rfl);refine oX ?_;refine C.bS (X:=Nat×List cy) (λy=>[(1,az q'),(2,aE b1),(5,aE bs),(6,az x),(7,sl.v),(9,az i),(10,aE b6),(14,az y.1)]) (λy=>aW cK 3 67 Gc y.2::aW dv 1 21 Dp ra.reads::abH b6 ⟨ra,Gc,Dp⟩::aW recC 6 167 sl mx::all ((rs.drop (i+1)).map vj)::nl b1 c.G.b bw::dK c::z5 bs zs lg vl lk un tm wt ot (all ((w.sh.eraseIdx q').map n8)::bX bw (.cells #[sh.v,bg.v,tx.v,.bool w.aj] 53 (0,0))::aW eB 1 54 sh (w.sh.map (·.1))::aW bQ 7 137 bg w.aF::aW rV 3 71 tx w.aL::a9 I::F)) (λy=>y.1<=ra.ops.length/\y.2.length=ra.ops.length) (λy=>ra.ops.length-y.1) (0,ra.ops) ⟨rfl,rfl,rfl,rfl,rfl,rfl,rfl,rfl,trivial⟩ ⟨eC _,rfl⟩ ?_;rintro⟨k,lo⟩ e ⟨hk,og⟩ z8;dsimp only at hk og⊢;refine cF ?_;refine C.mW rfl ?_ (s:=Gc) (l:=lo) (f:=cK);refine C.cmp rfl (λae0=>?_) (λae0=>?_)
    ·refine dV ?_;refine C.dT rfl ?_ (s:=Gc) (l:=lo) (f:=cK) (j:=k);refine C.HD (s:=Gc) (l:=lo) (f:=cK) (j:=k) ⟨false,113,0⟩ rfl ?_;refine dm ?_;exact again z8 (k+1,lo.set k ⟨false,113,0⟩) ⟨cD,by dsimp only;rw[cS];exact og⟩ (cD)
    ·refine cF ?_;refine C.bS (X:=Nat×List Int) (λy=>[(1,az q'),(2,aE b1),(5,aE bs),(6,az x),(7,sl.v),(9,az i),(10,aE b6),(15,az y.1)]) (λy=>aW dv 1 21 Dp y.2::abH b6 ⟨ra,Gc,Dp⟩::aW recC 6 167 sl mx::all ((rs.drop (i+1)).map vj)::nl b1 c.G.b bw::dK c::z5 bs zs lg vl lk un tm wt ot (all ((w.sh.eraseIdx q').map n8)::bX bw (.cells #[sh.v,bg.v,tx.v,.bool w.aj] 53 (0,0))::aW eB 1 54 sh (w.sh.map (·.1))::aW bQ 7 137 bg w.aF::aW rV 3 71 tx w.aL::a9 I::F)) (λy=>y.1<=ra.reads.length/\y.2.length=ra.reads.length) (λy=>ra.reads.length-y.1) (0,ra.reads) ⟨rfl,rfl,rfl,rfl,rfl,rfl,rfl,rfl,trivial⟩ ⟨eC _,rfl⟩ ?_;rintro⟨k,lo⟩ e ⟨hk,og⟩ z8;dsimp only at hk og⊢;refine cF ?_;refine C.mW rfl ?_ (s:=Dp) (l:=lo) (f:=dv);refine C.cmp rfl (λae1=>?_) (λae1=>?_)
     ·refine dm ?_;refine C.dT rfl ?_ (s:=Dp) (l:=lo) (f:=dv) (j:=k);refine C.iB (s:=Dp) (l:=lo) (f:=dv) (j:=k) 99 rfl ?_;refine dm ?_;exact again z8 (k+1,lo.set k 99) ⟨cD,by dsimp only;rw[cS];exact og⟩ (cD)
     ·refine dm ?_;refine C.dT rfl ?_ (s:=sl) (l:=mx) (f:=recC) (j:=i);refine C.HD (s:=sl) (l:=mx) (f:=recC) (j:=i) ⟨eA,aG,aG⟩ rfl ?_;refine dm ?_;refine again D7 (i+1,mx.set i ⟨eA,aG,aG⟩) ⟨cG,by dsimp only;rw[cS];exact hmx,?_⟩ (cD);dsimp only;rw[Jv ak];have h1:=i7 hix;have h2:=i7 cG;rw[Dc,h2]at h1;exact(AX h1).2.symm
   ·refine dV ?_;exact again ih (x+1) ak ak
  ·refine cF ?_;refine dp.cls (b:=bs) zs ?_ (lg:=lg) (vl:=vl) (lk:=lk) (un:=un) (tm:=tm) (wt:=wt) (ot:=ot);refine At.jR (show bZ _ (n8 (bs,zs)::all ((w.sh.eraseIdx q').map n8)::nl b1 c.G.b bw::dK c::bX bw (.cells #[sh.v,bg.v,tx.v,.bool w.aj] 53 (0,0))::aW eB 1 54 sh (w.sh.map (·.1))::aW bQ 7 137 bg w.aF::aW rV 3 71 tx w.aL::a9 I::F) by exact bZ.au) ?_;rw[hp];refine vo (w:=w) pT dJ.au ?_;refine wP.cls (b:=bw) w ?_;exact aD.db aJ ai ⟨rfl,rfl,rfl⟩
def oc(d:Int)(m:List (Int×Int)):List Int:=(List.range 26).map λ(k:Nat)=>(aC m (97+(k:Int))).getD d
theorem jZ(d:Int)(m:List (Int×Int)):(oc d m).length=26:=by simp[oc]
theorem vp(d:Int)(m:List (Int×Int)){k:Nat}(h:k<26):(oc d m)[k]'(by rw[jZ];exact h)=(aC m (97+(k:Int))).getD d:=by simp[oc]
def AG(d:Int)(m:List (Int×Int))(k:Nat):List Int:=(oc d m).take k++List.replicate (26-k) 0
theorem nP(d:Int)(m:List (Int×Int)){k:Nat}(h:k<=26):(AG d m k).length=26:=by simp[AG,jZ];omega
theorem xX(d:Int)(m:List (Int×Int)){k:Nat}(h:k<26):(AG d m k).set k ((aC m (97+(k:Int))).getD d)=AG d m (k+1):=by
 unfold AG;have hl:((oc d m).take k).length=k:=by rw[iz,jZ];omega
 rw[VV _ _ ak,hl,AW,show 26-k=(26-(k+1))+1 by omega,List.replicate_succ,vD,fq (by rw[jZ];exact h),vp d m h,qw];rfl
theorem Kw(d:Int)(m:List (Int×Int)):AG d m 26=oc d m:=by unfold AG;rw[g5 (by rw[jZ];exact fI _)];simp
structure Over(l' lx:List (Int×Int))(pa:List Int):Prop where
 keys:lx.map (·.1)=l'.map (·.1)
 nd:(l'.map (·.1)).Nodup
 vn:pa.Nodup
 vs:∀ k∈pa,k∈l'.map (·.1)
theorem mJ{X:Type}[DecidableEq X]:∀ {a b:List X},a.Nodup->(∀ x∈a,x∈b)->a.length<=b.length
 |[],_,_,_=>eC _
 |x::a,b,h,hs=>by
  have hx:=hs x (iI ..);have nd:=sf.1 h;have hp:=NG hx;have:=mJ (b:=b.erase x) nd.2 λy hy=>by
   have h1:=hp.mem_iff.1 (hs y (gu _ hy));rcases gq.1 h1 with h2|h2
   ·rw[h2]at hy;exact absurd hy nd.1
   ·exact h2
  rw[hp.length_eq];simp only[jd];omega
theorem Over.step{l' lx:List (Int×Int)}{pa:List Int}(h:Over l' lx pa){k w:Int}(hm:(k,w)∈lx)(hn:k∉pa)(w':Int):Over l' (bA lx k w') (k::pa)/\pa.length<l'.length/\(aC lx k).isSome=true:=by
 have P0:(lx.map (·.1)).Nodup:=by rw[h.keys];exact h.nd
 have hg:=ed P0 hm;have hk:k∈l'.map (·.1):=by rw[<- h.keys];exact bL.2 ⟨_,hm,rfl⟩
 have hv:∀ x∈k::pa,x∈l'.map (·.1):=λx hx=>by
  rcases gq.1 hx with rfl|hx
  ·exact hk
  ·exact h.vs x hx
 refine⟨⟨by rw[vL,hg];exact h.keys,h.nd,sf.2 ⟨hn,h.vn⟩,hv⟩,?_,by rw[hg];rfl⟩;have:=mJ (sf.2 ⟨hn,h.vn⟩) hv;simp only[jd,dd]at this;omega
theorem zK{σ:Gh}{c:CV}{k:Int}(hn:c.ae.length<=4):bD prog bT 40 #[aE c.G.b,az k] σ [dK c]
  (λv σ' As=>σ'=σ/\∃ (sl:ax) (l':List (Int×Int)),v=.tuple #[sl.v,az l'.length]/\(l'.map (·.1)).Nodup/\(match fB c.ae k with|none=>l'=[]|some v=>l'.Perm (v.s.values.filter λp=>p.2 != 0))/\As=[aW dv 1 21 sl (oc 0 l'),dK c]):=by
 refine bD.of ?_;intro Post os out kd F c' cs C aJ ai;refine Ls ?_;refine aD.k5 (Dm hn) ?_;rintro v σ' aO ⟨rfl,b',l',rfl,wE,rfl⟩;refine bI ?_;refine At.xl (A:=cW .u8 ff b' l') Fo.au vi λlP=>?_;have hnz:∀ q w,aC l' q=some w->w≠0:=λq w hg=>by
  have hm:=bU hg;cases hh:fB c.ae k with
  |none=>rw[hh]at wE;rw[wE]at hm;cases hm
  |some u=>rw[hh]at wE;have:=iU.1 (wE.mem_iff.1 hm);simpa using this.2
 refine da ?_;refine C.ms (f:=dv) (a0:=0) rfl rfl (λvB=>?_);refine bj ?_;refine At.own (l:=AG 0 l' 0) (f:=dv) (z:=1) ⟨some ⟨vB,0,none⟩,26,26⟩ [] rfl rfl (fI _) .head ?_;refine bj ?_;refine C.Y1 rfl ?_ (g:=ff) (l:=l');refine cN ?_;refine C.mW rfl ?_ (s:=⟨some ⟨vB,0,none⟩,26,26⟩) (l:=AG 0 l' 0) (f:=dv);refine bj ?_;refine C.bS (X:=Nat) (λx=>[(6,.map (some b')),(7,.slice (some ⟨vB,0,none⟩) 26 26),(8,az l'.length),(20,az 26),(21,az x)]) (λx=>aW dv 1 21 ⟨some ⟨vB,0,none⟩,26,26⟩ (AG 0 l' x)::cW .u8 ff b' l'::dK c::F) (λx=>x<=26) (λx=>26-x) 0 ⟨rfl,rfl,rfl,rfl,rfl,trivial⟩ (eC _) ?_;intro x e hx ih;refine bj ?_;refine C.cmp rfl (λvZ=>?_) (λvZ=>?_)
 ·refine bj ?_;have rA:x<26:=ak;refine ky ?_;refine C.lkC (g:=ff) (l:=l') (q:=97+(x:Int)) rfl (λw29 Zq=>?_) (λZq=>?_)
  ·refine i6 ?_;refine C.du rfl ?_ (hf:=hnz _ _ Zq);refine dV ?_;refine C.dT rfl ?_ (s:=⟨some ⟨vB,0,none⟩,26,26⟩) (l:=AG 0 l' x) (f:=dv) (j:=x) (hj:=by rw[nP 0 l' hx];exact rA);refine C.iB (s:=⟨some ⟨vB,0,none⟩,26,26⟩) (l:=AG 0 l' x) (j:=x) ((aC l' (97+(x:Int))).getD 0) rfl ?_ (hj:=by rw[nP 0 l' hx];exact rA) (ha:=by rw[Zq];rfl);refine cF ?_;rw[xX 0 l' rA];exact again ih (x+1) rA ak
  ·refine jW ?_;refine da ?_;refine C.dT rfl ?_ (s:=⟨some ⟨vB,0,none⟩,26,26⟩) (l:=AG 0 l' x) (f:=dv) (j:=x) (hj:=by rw[nP 0 l' hx];exact rA);refine C.iB (s:=⟨some ⟨vB,0,none⟩,26,26⟩) (l:=AG 0 l' x) (j:=x) ((aC l' (97+(x:Int))).getD 0) rfl ?_ (hj:=by rw[nP 0 l' hx];exact rA) (ha:=by rw[Zq];rfl);refine cF ?_;rw[xX 0 l' rA];exact again ih (x+1) rA ak
 ·refine cN ?_;have QC:x=26:=ak;subst QC;rw[Kw];refine C.rn (g:=ff) (l:=l') rfl (λb43=>?_)
  skip
  refine C.go ?_;refine C.bS (X:=List (Int×Int)×List Int) (λ_=>[(6,.map (some b')),(7,.slice (some ⟨vB,0,none⟩) 26 26),(8,az l'.length),(43,.pointer (some ⟨b43,0,none⟩))]) (λy=>HN .u8 ff b' b43 y.1 y.2::aW dv 1 21 ⟨some ⟨vB,0,none⟩,26,26⟩ (oc 0 l')::dK c::F) (λy=>Over l' y.1 y.2) (λy=>l'.length-y.2.length) (l',[]) ⟨rfl,rfl,rfl,rfl,trivial⟩ ⟨rfl,lP,.nil,by simp⟩ ?_;rintro⟨lx,pa⟩ e TU ih;dsimp only at TU⊢;refine bj ?_;refine C.nx (g:=ff) (l:=lx) rfl (λk44 w44 m44 h44=>?_) (λh44=>?_)
  ·refine da ?_;have P0:(lx.map (·.1)).Nodup:=by rw[TU.keys];exact TU.nd
   have ae3:=ed P0 m44;obtain⟨X2,dI,Ct⟩:=TU.step m44 h44 7;refine fy ?_;refine C.ent ae3 rfl ?_ Fo.au;refine dm ?_;refine C.muI (w:=7) (l:=lx) (q:=k44) (g:=ff) Ct rfl ?_;refine C.go ?_;exact again ih (bA lx k44 7,k44::pa) X2 (by simp only[jd];omega)
  ·refine ky ?_;exact aD.db aJ ai ⟨rfl,⟨some ⟨vB,0,none⟩,26,26⟩,l',rfl,lP,wE,rfl⟩
theorem B7{σ:Gh}{c:CV}{k:Int}(hn:c.ae.length<=4):bD prog bT 78 #[aE c.G.b,az k] σ [dK c]
  (λv σ' As=>σ'=σ/\∃ (sl:ax) (l':List (Int×Int)),v=.tuple #[sl.v,az l'.length]/\(l'.map (·.1)).Nodup/\(match fB c.ae k with|none=>l'=[]|some v=>l'.Perm v.s.aH)/\As=[aW aI 1 3 sl (oc (-1) l'),dK c]):=by
 refine bD.of ?_;intro Post os out kd F c' cs C aJ ai;refine Ls ?_;refine aD.k5 (F9 hn) ?_;rintro v σ' aO ⟨rfl,b',l',rfl,wE,rfl⟩;refine bI ?_;refine At.xl (A:=cW .u8 dS b' l') Fo.au vi λlP=>?_;refine da ?_;refine C.ms (f:=aI) (a0:=0) rfl rfl (λvB=>?_);refine bj ?_;refine At.own (l:=AG (-1) l' 0) (f:=aI) (z:=1) ⟨some ⟨vB,0,none⟩,26,26⟩ [] rfl rfl (fI _) .head ?_;refine bj ?_;refine C.mW rfl ?_ (s:=⟨some ⟨vB,0,none⟩,26,26⟩) (l:=AG (-1) l' 0) (f:=aI);refine bj ?_;refine C.bS (X:=Nat) (λx=>[(6,.map (some b')),(7,.slice (some ⟨vB,0,none⟩) 26 26),(18,az 26),(19,az x)]) (λx=>aW aI 1 3 ⟨some ⟨vB,0,none⟩,26,26⟩ (AG (-1) l' x)::cW .u8 dS b' l'::dK c::F) (λx=>x<=26) (λx=>26-x) 0 ⟨rfl,rfl,rfl,rfl,trivial⟩ (eC _) ?_;intro x e hx ih;refine bj ?_;refine C.cmp rfl (λuo=>?_) (λuo=>?_)
 ·refine bj ?_;have rA:x<26:=ak;refine ky ?_;refine C.lkC (g:=dS) (l:=l') (q:=97+(x:Int)) rfl (λw27 um=>?_) (λum=>?_)
  ·refine jW ?_;refine C.dT rfl ?_ (s:=⟨some ⟨vB,0,none⟩,26,26⟩) (l:=AG (-1) l' x) (f:=aI) (j:=x) (hj:=by rw[nP (-1) l' hx];exact rA);refine C.iB (s:=⟨some ⟨vB,0,none⟩,26,26⟩) (l:=AG (-1) l' x) (j:=x) ((aC l' (97+(x:Int))).getD (-1)) rfl ?_ (hj:=by rw[nP (-1) l' hx];exact rA) (ha:=by rw[um];rfl);refine cF ?_;rw[xX (-1) l' rA];exact again ih (x+1) rA ak
  ·refine jW ?_;refine da ?_;refine C.dT rfl ?_ (s:=⟨some ⟨vB,0,none⟩,26,26⟩) (l:=AG (-1) l' x) (f:=aI) (j:=x) (hj:=by rw[nP (-1) l' hx];exact rA);refine C.iB (s:=⟨some ⟨vB,0,none⟩,26,26⟩) (l:=AG (-1) l' x) (j:=x) ((aC l' (97+(x:Int))).getD (-1)) rfl ?_ (hj:=by rw[nP (-1) l' hx];exact rA) (ha:=by rw[um];rfl);refine cF ?_;rw[xX (-1) l' rA];exact again ih (x+1) rA ak
 ·refine cN ?_;refine C.Y1 rfl ?_ (g:=dS) (l:=l');refine cN ?_;have QC:x=26:=ak;subst QC;rw[Kw];refine C.rn (g:=dS) (l:=l') rfl (λb40=>?_)
  skip
  refine C.go ?_;refine C.bS (X:=List (Int×Int)×List Int) (λ_=>[(6,.map (some b')),(7,.slice (some ⟨vB,0,none⟩) 26 26),(11,az l'.length),(40,.pointer (some ⟨b40,0,none⟩))]) (λy=>HN .u8 dS b' b40 y.1 y.2::aW aI 1 3 ⟨some ⟨vB,0,none⟩,26,26⟩ (oc (-1) l')::dK c::F) (λy=>Over l' y.1 y.2) (λy=>l'.length-y.2.length) (l',[]) ⟨rfl,rfl,rfl,rfl,trivial⟩ ⟨rfl,lP,.nil,by simp⟩ ?_;rintro⟨lx,pa⟩ e TU ih;dsimp only at TU⊢;refine bj ?_;refine C.nx (g:=dS) (l:=lx) rfl (λk41 w41 m41 h41=>?_) (λh41=>?_)
  ·refine da ?_;have P0:(lx.map (·.1)).Nodup:=by rw[TU.keys];exact TU.nd
   have ae5:=ed P0 m41;obtain⟨X2,dI,Ct⟩:=TU.step m41 h41 77;refine fy ?_;refine C.ent ae5 rfl ?_ Fo.au;refine dm ?_;refine C.muI (w:=77) (l:=lx) (q:=k41) (g:=dS) Ct rfl ?_;refine C.go ?_;exact again ih (bA lx k41 77,k41::pa) X2 (by simp only[jd];omega)
  ·refine ky ?_;exact aD.db aJ ai ⟨rfl,⟨some ⟨vB,0,none⟩,26,26⟩,l',rfl,lP,wE,rfl⟩
def zL(l:List Int):Nat:=(l.filter (· != 0)).length
theorem Ms(l:List Int)(x:Int):zL (l++[x])=if x=0 then zL l else zL l+1:=by
 unfold zL;rw[nE,ji];split
 ·rename_i h;subst h;simp
 ·rename_i h;simp[h]
theorem TV(l:List Int):zL l<=l.length:=pN _ _
theorem Gp(d:Int):oc d []=List.replicate 26 d:=by
 apply N3
 ·simp[oc]
 ·intro i h1 h2;rw[List.getElem_replicate];exact vp d [] (by rw[jZ]at h1;exact h1)
structure TW(P:List (Int×Int))(V:List Int):Prop where
 len:V.length=26
 z:∀ x∈V, -9223372036854775808<=x/\x<=9223372036854775807
 eq:∀ l':List (Int×Int),(l'.map (·.1)).Nodup->l'.Perm (P.filter λp=>p.2 != 0)->oc 0 l'=V/\l'.length=zL V
theorem DG{σ:Gh}{c:CV}{I:HL}{w:WV}{bw:Nat}{s:Int}(hn:c.ae.length<=4)(D5:c.ae.length=w.sh.length)(he:∀ (q:Nat) (h1:q<c.ae.length) (h2:q<w.sh.length),TW (c.ae[q]).s.values (w.sh[q]).2.bH):
  bD prog bT 123 #[.agg #[aE c.G.b,aE bw],az s] σ [dK c,wP bw w,a9 I] (λv σ' As=>σ'=σ/\v=.bool true/\As=[dK c,wP bw w,a9 I]):=by
 refine bD.of ?_;intro Post os out kd F c' cs C aJ ai;refine bI ?_;cases nA:fB c.ae s with
 |none=>
  have jg:s<0\/(c.ae.length:Int)<=s:=by
   unfold fB at nA;split at nA
   ·exact .inl (by assumption)
   ·right;rw[Es]at nA;omega
  refine bj ?_;refine C.bx rfl (λb1=>?_);refine dm ?_;refine aD.k5 (zK (k:=s) hn) ?_;rintro v σ' aO ⟨rfl,sl,l',rfl,lP,hm,rfl⟩;rw[nA]at hm;obtain rfl:l'=[]:=hm;rw[Gp];refine bI ?_;refine i6 ?_;refine C.dk (aB.less (cH _) (nq (w:=w) (b:=bw) (i:=s))) ?_;rintro v aO ⟨hv,rfl⟩;refine bI ?_;have hv:=hv.resolve_right (by rintro⟨q,hq,rfl,_⟩;omega);obtain⟨_,rfl⟩:=hv;refine cN ?_;refine C.mW rfl ?_ (s:=sl) (l:=List.replicate 26 (0:Int)) (f:=dv);refine C.du rfl ?_;refine jL ?_;refine C.bS (X:=Nat) (λx=>[(2,aE b1),(5,sl.v),(6,az 0),(7,.pointer none),(8,az 0),(9,az x)]) (λ_=>aW dv 1 21 sl (List.replicate 26 0)::nl b1 c.G.b bw::dK c::wP bw w::a9 I::F) (λx=>x<=26) (λx=>26-x) 0 ⟨rfl,rfl,rfl,rfl,rfl,rfl,trivial⟩ (eC _) ?_;intro x e hx ih;refine da ?_;refine C.cmp rfl (λKi=>?_) (λKi=>?_)
  ·refine dV ?_;refine C.Kv rfl ?_;refine cN ?_;refine C.du rfl ?_;refine cF ?_;refine C.dT rfl ?_ (s:=sl) (l:=List.replicate 26 (0:Int)) (f:=dv) (j:=x) (hj:=by rw[Ex];omega);refine C.dG rfl ?_ (s:=sl) (l:=List.replicate 26 (0:Int)) (f:=dv) (j:=x) (v:=.int .i32 0) (hj:=by rw[Ex];omega) (hv:=by rw[List.getElem_replicate];rfl);refine bj ?_;refine C.du rfl ?_;refine dV ?_;exact again ih (x+1) ak ak
  ·refine cF ?_;refine C.eE rfl ?_;refine bj ?_;exact aD.db aJ ai ⟨rfl,rfl,rfl⟩
 |some v0=>
  obtain⟨q,rfl,hq,rfl⟩:=js nA;have pT:q<w.sh.length:=ak;obtain⟨Vr,Nn,hve⟩:=he q hq pT;refine bj ?_;refine C.bx rfl (λb1=>?_);refine dm ?_;refine aD.k5 (zK (k:=q) hn) ?_;rintro v σ' aO ⟨rfl,sl,l',rfl,lP,hm,rfl⟩;rw[nA]at hm;obtain⟨qd,Vf⟩:=hve l' lP hm;rw[qd,Vf];refine bI ?_;refine i6 ?_;refine C.dk (aB.less (cH _) (nq (w:=w) (b:=bw) (i:=q))) ?_;rintro v aO ⟨hv,rfl⟩;refine bI ?_;have hv:=hv.resolve_left (by rintro⟨h|h,_⟩<;>omega);obtain⟨q',D3,e1,rfl⟩:=hv;obtain rfl:q'=q:=ak;refine wP.opn (b:=bw) (w:=w) (h:=λsh bg tx=>?_);refine kJ (f:=n8) (l:=w.sh) pT Fo.au ?_;obtain⟨p,hp⟩:∃ p,p=w.sh[q']:=⟨_,rfl⟩;rw[<- hp]at Vr Nn⊢;obtain⟨bs,zs⟩:=p;dsimp only[n8]at Vr Nn⊢;refine dp.opn (b:=bs) (s:=zs) (h:=λlg vl lk un tm wt ot=>?_);refine cN ?_;refine C.mW rfl ?_ (s:=sl) (l:=zs.bH) (f:=dv);refine C.du rfl ?_;refine jL ?_;refine C.bS (X:=Nat) (λx=>[(2,aE b1),(5,sl.v),(6,az (zL zs.bH)),(7,aE bs),(8,az (zL (zs.bH.take x))),(9,az x)]) (λ_=>aW dv 1 21 sl zs.bH::nl b1 c.G.b bw::dK c::z5 bs zs lg vl lk un tm wt ot (all ((w.sh.eraseIdx q').map n8)::bX bw (.cells #[sh.v,bg.v,tx.v,.bool w.aj] 53 (0,0))::aW eB 1 54 sh (w.sh.map (·.1))::aW bQ 7 137 bg w.aF::aW rV 3 71 tx w.aL::a9 I::F)) (λx=>x<=26) (λx=>26-x) 0 ⟨rfl,rfl,rfl,rfl,rfl,rfl,trivial⟩ (eC _) ?_;intro x e hx ih;have hct:=TV (zs.bH.take x);rw[iz]at hct;refine da ?_;refine C.cmp rfl (λKi=>?_) (λKi=>?_)
  ·refine bj ?_;have jK:x<zs.bH.length:=ak;have hzx:=Nn _ (bC jK);have Vj:=Ms (zs.bH.take x) (zs.bH[x]'jK);rw[<- fq jK]at Vj;refine cF ?_;refine C.Kv rfl ?_;refine jL ?_;refine C.dT rfl ?_ (s:=vl) (l:=zs.bH) (f:=aI) (j:=x);refine C.dG rfl ?_ (s:=vl) (l:=zs.bH) (f:=aI) (j:=x) (v:=az (zs.bH[x]'jK));refine cN ?_;refine C.cmp rfl (λNj=>?_) (λNj=>?_)
   ·refine cN ?_;refine C.ar rfl ?_ (r:=((zL (zs.bH.take x)+1:Nat):Int));refine cF ?_;refine C.dT rfl ?_ (s:=sl) (l:=zs.bH) (f:=dv) (j:=x);refine C.dG rfl ?_ (s:=sl) (l:=zs.bH) (f:=dv) (j:=x) (v:=.int .i32 (zs.bH[x]'jK));refine C.cv rfl ?_ (p:=zs.bH[x]'jK) (r:=zs.bH[x]'jK) (k1:=.i32) (k2:=.i64) (hr:=pq hzx.1 hzx.2);refine fy ?_;refine C.du rfl ?_ (hf:=by intro h;exact h rfl);refine dV ?_;rw[aq Nj]at Vj;rw[<- Vj];exact again ih (x+1) ak ak
   ·refine cF ?_;refine C.dT rfl ?_ (s:=sl) (l:=zs.bH) (f:=dv) (j:=x);refine C.dG rfl ?_ (s:=sl) (l:=zs.bH) (f:=dv) (j:=x) (v:=.int .i32 (zs.bH[x]'jK));refine C.cv rfl ?_ (p:=zs.bH[x]'jK) (r:=zs.bH[x]'jK) (k1:=.i32) (k2:=.i64) (hr:=pq hzx.1 hzx.2);refine fy ?_;refine C.du rfl ?_ (hf:=by intro h;exact h rfl);refine dV ?_;rw[aK (Ep.1 Nj)]at Vj;rw[<- Vj];exact again ih (x+1) ak ak
  ·refine cF ?_;obtain rfl:x=26:=ak;rw[g5 ak];refine C.eE rfl ?_ (hf:=rfl);refine bj ?_;refine dp.cls (b:=bs) zs ?_ (lg:=lg) (vl:=vl) (lk:=lk) (un:=un) (tm:=tm) (wt:=wt) (ot:=ot);refine At.jR (show bZ _ (n8 (bs,zs)::all ((w.sh.eraseIdx q').map n8)::dK c::bX bw (.cells #[sh.v,bg.v,tx.v,.bool w.aj] 53 (0,0))::aW eB 1 54 sh (w.sh.map (·.1))::aW bQ 7 137 bg w.aF::aW rV 3 71 tx w.aL::a9 I::F) by exact bZ.au) ?_;rw[hp];refine vo (w:=w) pT dJ.au ?_;refine wP.cls (b:=bw) w ?_;exact aD.db aJ ai ⟨rfl,rfl,rfl⟩
structure TX(P:List (Int×Int))(L:List gz):Prop where
 RQ:∀ h∈L,97<=h.key/\h.key<=122
 eq:∀ l':List (Int×Int),(l'.map (·.1)).Nodup->l'.Perm P->l'.length=L.length/\∀ h∈L,(aC l' h.key).getD (-1)=h.tx
theorem Gq{σ:Gh}{c:CV}{I:HL}{w:WV}{bw:Nat}{s:Int}(hn:c.ae.length<=4)(D5:c.ae.length=w.sh.length)(he:∀ (q:Nat) (h1:q<c.ae.length) (h2:q<w.sh.length),TX (c.ae[q]).s.aH (w.sh[q]).2.aH)(oL:∀ p∈w.sh,p.2.aH.length<2^40):
  bD prog bT 124 #[.agg #[aE c.G.b,aE bw],az s] σ [dK c,wP bw w,a9 I] (λv σ' As=>σ'=σ/\v=.bool true/\As=[dK c,wP bw w,a9 I]):=by
 refine bD.of ?_;intro Post os out kd F c' cs C aJ ai;refine bI ?_;cases nA:fB c.ae s with
 |none=>
  have jg:s<0\/(c.ae.length:Int)<=s:=by
   unfold fB at nA;split at nA
   ·exact .inl (by assumption)
   ·right;rw[Es]at nA;omega
  refine bj ?_;refine C.bx rfl (λb1=>?_);refine dm ?_;refine aD.k5 (B7 (k:=s) hn) ?_;rintro v σ' aO ⟨rfl,sl,l',rfl,lP,hm,rfl⟩;rw[nA]at hm;obtain rfl:l'=[]:=hm;refine bI ?_;refine i6 ?_;refine C.dk (aB.less (cH _) (nq (w:=w) (b:=bw) (i:=s))) ?_;rintro v aO ⟨hv,rfl⟩;refine bI ?_;have hv:=hv.resolve_right (by rintro⟨q,hq,rfl,_⟩;omega);obtain⟨_,rfl⟩:=hv;refine cN ?_;refine C.mW rfl ?_ (s:=sl) (l:=oc (-1) []) (f:=aI);refine C.du rfl ?_ (hf:=by rw[jZ];decide);refine cN ?_;refine C.Kv rfl ?_;refine cN ?_;refine C.eE rfl ?_;refine bj ?_;exact aD.db aJ ai ⟨rfl,rfl,rfl⟩
 |some v0=>
  obtain⟨q,rfl,hq,rfl⟩:=js nA;have pT:q<w.sh.length:=ak;obtain⟨Zr,hle⟩:=he q hq pT;have abJ:=oL _ (bC pT);refine bj ?_;refine C.bx rfl (λb1=>?_);refine dm ?_;refine aD.k5 (B7 (k:=q) hn) ?_;rintro v σ' aO ⟨rfl,sl,l',rfl,lP,hm,rfl⟩;rw[nA]at hm;obtain⟨qd,Vf⟩:=hle l' lP hm;rw[qd];refine bI ?_;have Vr:=jZ (-1) l';refine i6 ?_;refine C.dk (aB.less (cH _) (nq (w:=w) (b:=bw) (i:=q))) ?_;rintro v aO ⟨hv,rfl⟩;refine bI ?_;have hv:=hv.resolve_left (by rintro⟨h|h,_⟩<;>omega);obtain⟨q',D3,e1,rfl⟩:=hv;obtain rfl:q'=q:=ak;refine wP.opn (b:=bw) (w:=w) (h:=λsh bg tx=>?_);refine kJ (f:=n8) (l:=w.sh) pT Fo.au ?_;obtain⟨p,hp⟩:∃ p,p=w.sh[q']:=⟨_,rfl⟩;rw[<- hp]at Zr Vf abJ⊢;obtain⟨bs,zs⟩:=p;dsimp only[n8]at Zr Vf abJ⊢;refine dp.opn (b:=bs) (s:=zs) (h:=λlg vl lk un tm wt ot=>?_);refine cN ?_;refine C.mW rfl ?_ (s:=sl) (l:=oc (-1) l') (f:=aI);refine C.du rfl ?_;refine cN ?_;refine C.Kv rfl ?_;refine cF ?_;refine C.bS (X:=Nat) (λx=>[(2,aE b1),(5,sl.v),(6,az zs.aH.length),(7,aE bs),(8,az x)]) (λ_=>aW aI 1 3 sl (oc (-1) l')::nl b1 c.G.b bw::dK c::z5 bs zs lg vl lk un tm wt ot (all ((w.sh.eraseIdx q').map n8)::bX bw (.cells #[sh.v,bg.v,tx.v,.bool w.aj] 53 (0,0))::aW eB 1 54 sh (w.sh.map (·.1))::aW bQ 7 137 bg w.aF::aW rV 3 71 tx w.aL::a9 I::F)) (λx=>x<=zs.aH.length) (λx=>zs.aH.length-x) 0 ⟨rfl,rfl,rfl,rfl,rfl,trivial⟩ (eC _) ?_;intro x e hx ih;refine dV ?_;refine C.mW rfl ?_ (s:=lk) (l:=zs.aH) (f:=mj);refine C.cmp rfl (λRL=>?_) (λRL=>?_)
  ·refine bj ?_;have jK:x<zs.aH.length:=ak;obtain⟨hkx,hkh⟩:=Zr _ (bC jK);obtain⟨j,hj⟩:=g7 (show 0<=(zs.aH[x]'jK).key-97 by omega);have X3:j<(oc (-1) l').length:=ak;have hvj:(aI ((oc (-1) l')[j]'X3))[0]? =some (az (zs.aH[x]'jK).tx):=by rw[vp (-1) l' ak,show(97:Int)+(j:Int)=(zs.aH[x]'jK).key by omega,Vf _ (bC jK)];rfl
   refine C.dx (cm 36 0 21) 21 [] 0 ?_;refine n7 ?_;refine Dr.l (λhE h=>C.dT rfl h (s:=lk) (l:=zs.aH) (f:=mj) (j:=x)) ?_;refine k6 ?_;refine Dr.l (v:=az (zs.aH[x]'jK).key) (λhE h=>C.vz rfl h (s:=lk) (l:=zs.aH) (f:=mj) (j:=x) (o:=0)) ?_;refine Dr.p (v:=az (j:Int)) (λh=>C.ar rfl h (p:=(zs.aH[x]'jK).key) (q:=97) (r:=(j:Int)) (ha:=congrArg some ak)) ?_;refine Dr.l (λhE h=>C.dT rfl h (s:=sl) (l:=oc (-1) l') (f:=aI) (j:=j) (hj:=X3)) ?_;refine Dr.l (v:=az (zs.aH[x]'jK).tx) (λhE h=>C.dG rfl h (s:=sl) (l:=oc (-1) l') (f:=aI) (j:=j) (hj:=X3) (hv:=hvj)) ?_;refine Lr ?_;refine Dr.l (λhE h=>C.dT rfl h (s:=lk) (l:=zs.aH) (f:=mj) (j:=x)) ?_;refine k6 ?_;refine Dr.l (v:=az (zs.aH[x]'jK).tx) (λhE h=>C.vz rfl h (s:=lk) (l:=zs.aH) (f:=mj) (j:=x) (o:=1)) ?_;refine Dr.p (λh=>C.du rfl h (hf:=by intro h;exact h rfl)) ?_;refine Dr.chain rfl ?_;refine Lt ?_;exact again ih (x+1) ak ak
  ·refine jL ?_;refine C.mW rfl ?_ (s:=lk) (l:=zs.aH) (f:=mj);refine C.eE rfl ?_ (hf:=rfl);refine bj ?_;refine dp.cls (b:=bs) zs ?_ (lg:=lg) (vl:=vl) (lk:=lk) (un:=un) (tm:=tm) (wt:=wt) (ot:=ot);refine At.jR (show bZ _ (n8 (bs,zs)::all ((w.sh.eraseIdx q').map n8)::dK c::bX bw (.cells #[sh.v,bg.v,tx.v,.bool w.aj] 53 (0,0))::aW eB 1 54 sh (w.sh.map (·.1))::aW bQ 7 137 bg w.aF::aW rV 3 71 tx w.aL::a9 I::F) by exact bZ.au) ?_;rw[hp];refine vo (w:=w) pT dJ.au ?_;refine wP.cls (b:=bw) w ?_;exact aD.db aJ ai ⟨rfl,rfl,rfl⟩
def Nr(x:Int):Prop:= -9223372036854775808<=x/\x<=9223372036854775807
theorem X4{c:List mC}{w:List mC}{tx n st:Int}{rd Ey:List Int}(he:c.map (·.toTxR)=w.map (·.toTxR))(h1:match Ga c tx with|none=>n=0/\Ey=[]|some t=>n=t.state/\Ey=t.reads)
  (h2:(st,rd)=(if tx<0\/(w.length:Int)<=tx then(0,[])else match(w.map (·.toTxR))[tx.toNat]? with|some t=>(t.state,t.reads)|none=>(0,[]))):n=st/\Ey=rd:=by
 have hl:c.length=w.length:=by have:=congrArg List.length he;simpa using this
 unfold Ga at h1;by_cases h0:tx<0
 ·rw[aK h0]at h1;rw[aK (.inl h0)]at h2;obtain⟨rfl,rfl⟩:=h1;obtain⟨rfl,rfl⟩:=x7 h2;exact⟨rfl,rfl⟩
 ·rw[aq h0]at h1;by_cases h3:(w.length:Int)<=tx
  ·rw[wA ak]at h1;rw[aK (.inr h3)]at h2;obtain⟨rfl,rfl⟩:=h1;obtain⟨rfl,rfl⟩:=x7 h2;exact⟨rfl,rfl⟩
  ·rw[aq ak,<- he,kB,fp ak]at h2;rw[fp ak]at h1;obtain⟨rfl,rfl⟩:=h1;obtain⟨rfl,rfl⟩:=x7 h2;exact⟨rfl,rfl⟩
theorem DI{σ:Gh}{c:CV}{I:HL}{w:WV}{bw:Nat}{tx:Int}(hJ:rY I c)(hW:WI I w)(hl:c.aL.length<=60)(he:c.aL.map (·.toTxR)=w.aL.map (·.toTxR))(hz:∀ t∈w.aL,∀ x∈t.reads,Nr x):
  bD prog bT 121 #[.agg #[aE c.G.b,aE bw],az tx] σ [dK c,wP bw w,a9 I] (λv σ' As=>σ'=σ/\v=.bool true/\As=[dK c,wP bw w,a9 I]):=by
 have hlw:w.aL.length=c.aL.length:=by have:=congrArg List.length he;simpa using this.symm
 refine bD.of ?_;intro Post os out kd F c' cs C aJ ai;refine jI ?_;refine C.bx rfl (λb1=>?_);refine dm ?_;refine C.dk (aB.less (cH _) (Dy (i:=tx) hW ak)) ?_;rintro v aO ⟨st,ro,rd,rfl,hro,dt,rfl⟩;refine bI ?_;have i9:(∀ x∈rd,Nr x):=by
  by_cases h:tx<0\/(w.aL.length:Int)<=tx
  ·rw[aK h]at dt;obtain⟨rfl,rfl⟩:=x7 dt;simp
  ·have hq:tx.toNat<w.aL.length:=ak;have:w.abs.aL[tx.toNat]? =some (w.aL[tx.toNat]).toTxR:=by simp[WV.abs,hq]
   rw[aq h,this]at dt;obtain⟨rfl,rfl⟩:=x7 dt;exact hz _ (bC hq)
 refine ky ?_;refine C.bS (X:=Nat) (λx=>[(1,az tx),(2,aE b1),(5,az st),(6,ro.v),(7,az x)]) (λ_=>nl b1 c.G.b bw::dK c::wP bw w::a9 I::F) (λx=>x<=2) (λx=>2-x) 0 ⟨rfl,rfl,rfl,rfl,rfl,trivial⟩ (eC _) ?_;intro x e hx ih;refine da ?_;refine C.cmp rfl (λuo=>?_) (λuo=>?_)
 ·refine dm ?_;refine aD.k5 (Dn (k:=tx) hJ hl) ?_;rintro v σ' aO ⟨rfl,sl,n,Ey,rfl,hm,rfl⟩;have Cn:Ey.length<2^20:=by
   cases h:Ga c.aL tx with
   |none=>rw[h]at hm;rw[hm.2];decide
   |some t=>
    rw[h]at hm;rw[hm.2];unfold Ga at h;split at h
    ·cases h
    ·exact(hJ.aL t (eS h)).z
  obtain⟨rfl,rfl⟩:=X4 he hm dt;refine Vh ?_;refine C.cE (aB.less (cH _) (na (so:=sl) (ro:=ro) (l:=Ey) rfl hro i9 ak)) ?_;refine sY ?_;refine C.du rfl ?_ (hf:=by intro h;exact h rfl);refine ky ?_;refine C.bS (X:=Nat×List Int) (λy=>[(1,az tx),(2,aE b1),(5,az n),(6,ro.v),(7,az x),(9,sl.v),(11,az y.1)]) (λy=>aW dv 1 21 sl y.2::nl b1 c.G.b bw::dK c::wP bw w::a9 I::F) (λy=>y.1<=Ey.length/\y.2.length=Ey.length) (λy=>Ey.length-y.1) (0,Ey) ⟨rfl,rfl,rfl,rfl,rfl,rfl,rfl,trivial⟩ ⟨eC _,rfl⟩ ?_;rintro⟨k,lo⟩ e ⟨hk,og⟩ z8;dsimp only at hk og⊢;refine cN ?_;refine C.mW rfl ?_ (s:=sl) (l:=lo) (f:=dv);refine C.cmp rfl (λC8=>?_) (λC8=>?_)
  ·refine cF ?_;refine C.dT rfl ?_ (s:=sl) (l:=lo) (f:=dv) (j:=k);refine C.iB (s:=sl) (l:=lo) (f:=dv) (j:=k) 99 rfl ?_;refine dm ?_;exact again z8 (k+1,lo.set k 99) ⟨cD,by dsimp only;rw[cS];exact og⟩ (cD)
  ·refine dV ?_;exact again ih (x+1) ak ak
 ·refine cF ?_;exact aD.db aJ ai ⟨rfl,rfl,rfl⟩
structure abK(I:HL)(c:CV)(w:WV):Prop where
 n:c.ae.length<=4
 J:rY I c
 W:WI I w
 len:c.ae.length=w.sh.length
 aF:c.aF.map (·.toMsgR)=w.aF.map (·.toMsgR)
 bO:∀ m∈c.aF,m.ops.length<2^20
 bl:c.aF.length<2^30
 bz:∀ m∈w.aF,abc m.toMsgR
 aL:c.aL.map (·.toTxR)=w.aL.map (·.toTxR)
 tl:c.aL.length<=60
 tz:∀ t∈w.aL,∀ x∈t.reads,Nr x
 log:∀ v∈c.ae,v.s.log.length<2^30
 lq:∀ (q:Nat) (h1:q<c.ae.length) (h2:q<w.sh.length),(c.ae[q]).s.log.map (·.abs.bk)=(w.sh[q]).2.log.map (·.toRecR)/\(c.ae[q]).s.aX=(w.sh[q]).2.aX
 lz:∀ p∈w.sh,∀ r∈p.2.log,abG r.toRecR
 vq:∀ (q:Nat) (h1:q<c.ae.length) (h2:q<w.sh.length),TW (c.ae[q]).s.values (w.sh[q]).2.bH
 kq:∀ (q:Nat) (h1:q<c.ae.length) (h2:q<w.sh.length),TX (c.ae[q]).s.aH (w.sh[q]).2.aH
 kl:∀ p∈w.sh,p.2.aH.length<2^40
 up:∀ (q:Nat) (h1:q<c.ae.length) (h2:q<w.sh.length),(c.ae[q]).s.up=(w.sh[q]).2.up
abbrev opA(k cl a b c:Int)(so:Value):Value:=.agg #[az k,az cl,az a,az b,az c,so]
theorem kp{σ:Gh}{c:CV}{I:HL}{w:WV}{bw:Nat}{k cl a b z:Int}{so:Value}(hA:abK I c w)(hk:4<=k/\k<=9)(KR:fP so=true):
  bD prog bT 75 #[.agg #[aE c.G.b,aE bw],opA k cl a b z so] σ [dK c,wP bw w,a9 I] (λv σ' As=>σ'=σ/\v=.bool true/\As=[dK c,wP bw w,a9 I]):=by
 refine bD.of ?_;intro Post os out kd F c' cs C aJ ai;refine jI ?_;refine C.bx rfl (λb1=>?_);refine C.bx rfl (λb2=>?_);refine dV ?_;refine C.cmp rfl (λAA=>?_) (λAA=>?_)
 ·refine cF ?_;refine aD.k5 (L6 hA.J hA.W hA.bO hA.bl hA.aF hA.bz (λm hm=>(hA.J.aF m hm).z)) ?_;rintro v σ' aO ⟨rfl,rfl,rfl⟩;refine jI ?_;exact aD.db aJ ai ⟨rfl,rfl,rfl⟩
 ·refine cN ?_;refine C.cmp rfl (λoj=>?_) (λoj=>?_)
  ·refine dV ?_;refine aD.k5 (DI hA.J hA.W hA.tl hA.aL hA.tz) ?_;rintro v σ' aO ⟨rfl,rfl,rfl⟩;refine jI ?_;exact aD.db aJ ai ⟨rfl,rfl,rfl⟩
  ·refine cN ?_;refine C.cmp rfl (λuo=>?_) (λuo=>?_)
   ·refine jL ?_;refine C.dk (aB.less (cH _) (nq (w:=w) (b:=bw) (i:=b))) ?_;rintro v aO ⟨hv,rfl⟩;refine bI ?_;rcases hv with⟨jg,rfl⟩|⟨q,pT,rfl,rfl⟩
    ·refine dV ?_;have nA:fB c.ae b=none:=by
      unfold fB;split
      ·rfl
      ·rw[Es];have:=hA.len;omega
     refine aD.k5 (F8 (k:=b) hA.n) ?_;rintro v σ' aO ⟨rfl,rfl,rfl⟩;rw[nA];simp only[iT,eZ,Eh,NM];refine cF ?_;refine C.Kv rfl ?_;refine dm ?_;refine C.H7 underlying4 rfl ?_;refine bj ?_;exact aD.db aJ ai ⟨rfl,rfl,rfl⟩
    ·refine dV ?_;have hq:q<c.ae.length:=by have:=hA.len;omega
     have eo:=hA.up q hq pT;refine aD.k5 (F8 (k:=(q:Int)) hA.n) ?_;rintro v σ' aO ⟨rfl,rfl,rfl⟩;rw[BM hq];simp only[iT,eZ,lJ,kt];rw[eo];refine wP.opn (b:=bw) (w:=w) (h:=λsh bg tx=>?_);refine kJ (f:=n8) (l:=w.sh) pT Fo.au ?_;obtain⟨p,hp⟩:∃ p,p=w.sh[q]:=⟨_,rfl⟩;rw[<- hp];obtain⟨bs,zs⟩:=p;dsimp only[n8];refine dp.opn (b:=bs) (s:=zs) (h:=λlg vl lk un tm wt ot=>?_);refine cF ?_;refine C.Kv rfl ?_;refine dm ?_;refine C.H7 underlying4 rfl ?_;refine bj ?_;refine dp.cls (b:=bs) zs ?_ (lg:=lg) (vl:=vl) (lk:=lk) (un:=un) (tm:=tm) (wt:=wt) (ot:=ot);refine At.jR (show bZ _ (n8 (bs,zs)::all ((w.sh.eraseIdx q).map n8)::dK c::bX bw (.cells #[sh.v,bg.v,tx.v,.bool w.aj] 53 (0,0))::aW eB 1 54 sh (w.sh.map (·.1))::aW bQ 7 137 bg w.aF::aW rV 3 71 tx w.aL::a9 I::F) by exact bZ.au) ?_;rw[hp];refine vo (w:=w) pT dJ.au ?_;refine wP.cls (b:=bw) w ?_;exact aD.db aJ ai ⟨rfl,rfl,rfl⟩
   ·refine cN ?_;refine C.cmp rfl (λZb=>?_) (λZb=>?_)
    ·refine dV ?_;refine aD.k5 (DG hA.n hA.len hA.vq) ?_;rintro v σ' aO ⟨rfl,rfl,rfl⟩;refine jI ?_;exact aD.db aJ ai ⟨rfl,rfl,rfl⟩
    ·refine cN ?_;refine C.cmp rfl (λh48=>?_) (λh48=>?_)
     ·refine dV ?_;refine aD.k5 (Gq hA.n hA.len hA.kq hA.kl) ?_;rintro v σ' aO ⟨rfl,rfl,rfl⟩;refine jI ?_;exact aD.db aJ ai ⟨rfl,rfl,rfl⟩
     ·refine dV ?_;refine aD.k5 (AF hA.n hA.J hA.W hA.log hA.len hA.lq hA.lz) ?_;rintro v σ' aO ⟨rfl,rfl,rfl⟩;refine jI ?_;exact aD.db aJ ai ⟨rfl,rfl,rfl⟩
theorem X5(cells X Y:List Value)(h:cells.length=X.length+Y.length):wr (wr cells.toArray 0 X) X.length Y=(X++Y).toArray:=by obtain⟨P,Q,rfl,hP⟩:∃ P Q,cells=P++Q/\P.length=X.length:=⟨cells.take X.length,cells.drop X.length,(wz _ _).symm,by rw[iz];omega⟩;have h1:=lu X [] P Q hP;simp only[eZ,uv]at h1;rw[h1];have h2:=lu Y X Q [] (by rw[ji]at h;omega);simp only[lK]at h2;exact h2
theorem Gr{α:Type}{f:α->List Value}{z:Nat}[rf:fM f z]{l:List α}:∀ v∈flat f l,fP v=true:=λv hv=>by obtain⟨a,_,h⟩:=KO.1 hv;exact rf.one a v h
variable{σ:Gh}{b:Nat}{m:Int}{bg:ax}{ae aL dn:Value}{aj:Bool}{st:Int}{aF:List cu}
theorem B8(hq:q<aF.length)(hl:aF.length<2^30):aB prog true (bT.bw σ) 133 #[aE b,az q] [om b m ae bg.v aL dn aj st,aW bQ 7 190 bg aF]
  (λv As=>∃ F7:ax,As=[om b m ae F7.v aL dn aj st,aW bQ 7 190 F7 (aF.eraseIdx q)]):=by
 refine aB.of λR C kd d F c cs aJ ai=>?_;refine bI ?_;refine At.xl (A:=aW bQ 7 190 bg aF) Fo.au (λh x=>qL ak h x) λhk=>?_;obtain⟨D9,Vq,hk5⟩:=hk;have PW:(aF.take q).length=q:=by rw[iz];omega
 have hdl:(aF.drop (q+1)).length=aF.length-1-q:=by rw[uw];omega
 refine dm ?_;refine C.mW rfl ?_ (s:=bg) (l:=aF) (f:=bQ);refine C.ar rfl ?_ (r:=((aF.length-1:Nat):Int)) (ha:=congrArg some ak);refine C.ms (f:=bQ) (a0:=⟨bq,aG,aG⟩) rfl rfl (λTg=>?_);refine bj ?_;refine C.wR (cm 12 0 18) 18 [8,9,17] 3 ?_ (W:=[om b m ae bg.v aL dn aj st,aW bQ 7 190 bg aF]);refine mB ?_;refine Dr.p (λh=>C.Wn rfl h (hi:=(q:Int)) (hh:=by constructor<;>omega)) ?_;refine n7 ?_;refine Dr.p (λh=>C.Z7 rfl h (hx:=by show Value.slice bg.a bg.len bg.cap=_;rw[D9,Vq]) (lo:=((q+1:Nat):Int)) (hh:=by constructor<;>omega)) ?_;refine Dr.chain rfl ?_ (λ_ s=>bZ.sat bZ.au s);refine Ch.m 8 (aP λe aa hk=>?_);refine C.cp (b:=Tg) (len:=(((aF.length-1:Nat):Int)).toNat) (cap:=(((aF.length-1:Nat):Int)).toNat) (z:=7) (off:=0) (xs:=flat bQ (aF.take q)) (m:=(aF.take q).length) rfl (λH st=>Fe (f:=bQ) Fo.au st (λ_=>rfl) q hq D9) (hm:=by rw[PW,gy];omega) (Oc:=eU (z:=7) (f:=bQ) (λ_=>rfl) _) (h1:=Gr (f:=bQ)) (hu:=.head) (hz:=by rw[PW,iY (z:=7) (λ_=>rfl),Ex];simp only[uv,gy];omega) ?_;refine hk _ _ lU ?_;refine Ch.q 9 (λh=>C.Z7 rfl h (lo:=(((aF.take q).length:Nat):Int)) (a':=⟨Tg,if aF.length-1=q then 0 else q*7,none⟩) (ha:=by rw[PW];simp only[gy];split<;>simp) (hh:=by rw[PW];constructor<;>omega)) ?_;refine Ch.m 17 (aP λe aa hk=>?_);refine C.cp (b:=Tg) (len:=(((aF.length-1:Nat):Int)).toNat-(((aF.take q).length:Nat):Int).toNat) (cap:=(((aF.length-1:Nat):Int)).toNat-(((aF.take q).length:Nat):Int).toNat) (z:=7) (off:=if aF.length-1=q then 0 else q*7) (xs:=flat bQ (aF.drop (q+1))) (m:=(aF.drop (q+1)).length) rfl (λH st=>Ff (f:=bQ) (s:=bg) Fo.au st (λ_=>rfl) q hq hk5) (hm:=by rw[hdl,PW];simp only[gy];omega) (Oc:=eU (z:=7) (f:=bQ) (λ_=>rfl) _) (h1:=Gr (f:=bQ)) (hu:=.head) (hz:=by rw[uJ,iY (z:=7) (λ_=>rfl),Ex];simp only[uv,gy];split<;>omega) ?_;refine hk _ _ lU ?_;refine PH ?_;have vK:wr (wr (gv bQ (List.replicate (((aF.length-1:Nat):Int)).toNat (⟨bq,aG,aG⟩:cu)) []) 0 (flat bQ (aF.take q))) (if aF.length-1=q then 0 else q*7) (flat bQ (aF.drop (q+1)))=gv bQ (aF.eraseIdx q) []:=by
  rw[yc];have hX:(flat bQ (aF.take q)).length=q*7:=by rw[eU (z:=7) (λ_=>rfl),PW]
  have hY:(flat bQ (aF.drop (q+1))).length=(aF.length-1-q)*7:=by rw[eU (z:=7) (λ_=>rfl),hdl]
  have hC:(flat bQ (List.replicate (((aF.length-1:Nat):Int)).toNat (⟨bq,aG,aG⟩:cu))).length=(aF.length-1)*7:=by rw[eU (z:=7) (λ_=>rfl),Ex,gy]
  have h2:=X5 (flat bQ (List.replicate (((aF.length-1:Nat):Int)).toNat (⟨bq,aG,aG⟩:cu))++[]) (flat bQ (aF.take q)) (flat bQ (aF.drop (q+1))) (by rw[lK,hX,hY,hC];omega);unfold gv;rw[jQ,lK (flat bQ _++flat bQ _),<- h2,hX];split
  ·rename_i hz;have:aF.drop (q+1)=[]:=qy ak;rw[this];rfl
  ·rfl
 rw[vK];have P5:(aF.eraseIdx q).length=aF.length-1:=by rw[Ew,aK hq]
 refine At.own (l:=aF.eraseIdx q) (f:=bQ) (z:=7) ⟨some ⟨Tg,0,none⟩,(((aF.length-1:Nat):Int)).toNat,(((aF.length-1:Nat):Int)).toNat⟩ [] (by rw[P5,gy]) (by rw[P5,gy,uv,Nat.add_zero]) (by rw[P5,gy];exact fI _) .head ?_;exact C.cQ aJ ai ⟨⟨some ⟨Tg,0,none⟩,(((aF.length-1:Nat):Int)).toNat,(((aF.length-1:Nat):Int)).toNat⟩,rfl⟩
end
section
open Go.Proofs Go.Conc
def CV.abs(c:CV):WP:=⟨c.ae.map (·.s.abs),c.aF.map (·.toMsgR),c.aL.map (·.toTxR),c.aj⟩
def ns(o a:Int)(c:CV):Prop:=∀ v∈c.ae,wU o a v.s
theorem wU.mono{o a o' a':Int}{s:cZ}(h:wU o a s)(ho:o<=o')(ha:a<=a'):wU o' a' s:=⟨by have:=h.z;omega,by have:=h.o;omega,λu hu p hp=>by have:=h.a u hu p hp;omega⟩
structure ez(c:CV)(I:HL)(o a:Int)(r:WP×Int)(er:Option Nat)(c':CV)(I':HL):Prop where
 sub:Sub I I'
 j:rY I' c'
 g:c'.G=c.G
 h:c'.ae.map (·.h)=c.ae.map (·.h)
 r:(c'.abs,xC er)=r
 cn:ns o a c'
theorem ez.same{c:CV}{I:HL}{o a:Int}{er:Option Nat}{z:Int}(hJ:rY I c)(hC:ns o a c)(hz:xC er=z):ez c I (o+2^15) (a+1) (c.abs,z) er c I:=
 ⟨Sub.refl _,hJ,rfl,rfl,by rw[hz],λv hv=>(hC v hv).mono ak ak⟩
def MQ(σ:Gh)(c:CV)(eb:Nat->Nat×Nat)(Q:Option Nat->CV->HL->Prop):Value->Gh->List HP->Prop:=λv σ' As=>
 ∃ er c' I',v=Tz eb er/\(∀ k,er=some k->k<9)/\σ'=σ/\c'.G.b=c.G.b/\Q er c' I'/\As=[rl 1 c',a9 I']
def CQ(σ:Gh)(c:CV)(I:HL)(eb:Nat->Nat×Nat)(nm:ByteArray)(at_:Int)(Q:Option Nat->CV->HL->Prop):Value->Gh->List HP->Prop:=λv σ' As=>
 ∃ er c' I' L,Qd eb (.string nm) at_ er v L/\(∀ k,er=some k->k<9)/\σ'=σ/\As=dK c'::a9 I'::L/\((c.aj=true/\er=some 8/\c'=c/\I'=I)\/(c.aj=false/\Q er c' I'))
theorem bZ.rB{F:List HP}:∀ A:List HP,bZ (A++F) F
 |[]=>.refl
 |_::A=>.drop (bZ.rB A)
theorem bZ.Gt{A F:List HP}:∀ L:List HP,bZ (L++(A++F)) (L++F)
 |[]=>bZ.rB A
 |_::L=>.cons .head (bZ.Gt L)
theorem uc{σ:Gh}{c:CV}{f:bM}{fu:Func}{code:Code}{nf:Nat}[bd:Body prog f fu code nf]{caps:Array Value}{I:HL}{eb:Nat->Nat×Nat}{nm:ByteArray}{at_:Int}{A:List HP}{Q:Option Nat->CV->HL->Prop}(hE:ij I eb)
  (hf:c.aj=false->bD prog bT f (#[]++([]:List Value).toArray++caps) σ (rl 1 c::a9 I::A) (MQ σ c eb Q)):
  bD prog bT 52 #[aE c.G.b,.string nm,az at_,.func (.func f) #[] caps] σ (dK c::a9 I::A) (CQ σ c I eb nm at_ Q):=by
 have h:=BN (nm:=nm) (at_:=at_) (A:=A) (Q:=λer σ' c' I' A'=>σ'=σ/\Q er c' I'/\A'=[]/\∀ k,er=some k->k<9) hE (λdt Post os out kd F fr cs aJ ai=>hf dt Post os out kd F fr cs aJ (by rintro v σ' aO ⟨er,c',I',h1,h2,rfl,h4,h5,rfl⟩;exact ai _ _ _ ⟨er,c',I',[],h1,h2,rfl,h4,rfl,h5,rfl,h2⟩))
 intro Post os out kd F fr cs aJ ai;refine h Post os out kd F fr cs aJ ?_;rintro v σ' aO ⟨er,c',I',A',L,h1,rfl,h|⟨h2,rfl,h3,rfl,h4⟩⟩
 ·obtain⟨h2,rfl,rfl,rfl,rfl,rfl⟩:=h;refine At.jR ?_ (ai _ _ _ ⟨some 8,c',I',L,h1,(λk hk=>by cases hk;decide),rfl,rfl,.inl ⟨h2,rfl,rfl,rfl⟩⟩);simp only[iT,qw];exact .cons .head (.cons .head (bZ.Gt L))
 ·rw[lK];exact ai _ _ _ ⟨er,c',I',L,h1,h4,rfl,rfl,.inr ⟨h2,h3⟩⟩
def agN:ByteArray:=⟨#[65,103,97,105,110]⟩
structure Mu(c:CV):Prop where
 n:1<=c.ae.length/\c.ae.length<=4
 aF:c.aF.length<2^20
 aL:c.aL.length<=60
 HW:∀ t∈c.aL,iX t.ops/\1<=t.ops.length
theorem QD{w:WP}{t:Int}(hs:w.aj=false)(h:t<0\/(w.aL.length:Int)<=t):fO w 1 t 0=(w,4):=by unfold fO;rw[aq (by decide),hs,aq (by decide),aK rfl,aK h]
theorem QE{w:WP}{t:Int}(hs:w.aj=false)(h:¬ (t<0\/(w.aL.length:Int)<=t))(hb:400<=w.aF.length):fO w 1 t 0=(w,3):=by unfold fO;rw[aq (by decide),hs,aq (by decide),aK rfl,aq h,aK hb]
theorem X6{w:WP}{t:Int}(hs:w.aj=false)(h:¬ (t<0\/(w.aL.length:Int)<=t))(hb:¬ 400<=w.aF.length):fO w 1 t 0=(nL w t.toNat,0):=by unfold fO;rw[aq (by decide),hs,aq (by decide),aK rfl,aq h,aq hb]
theorem CV.j3(c:CV):c.abs.aL.length=c.aL.length:=by simp[CV.abs]
theorem CV.fG(c:CV):c.abs.aF.length=c.aF.length:=by simp[CV.abs]
theorem CV.np(c:CV):c.abs.sh.length=c.ae.length:=by simp[CV.abs]
theorem QF{σ:Gh}{c:CV}{b3 b2:Nat}{t:Int}{I:HL}{eb:Nat->Nat×Nat}{o a:Int}(hE:ij I eb)(hJ:rY I c)(hb:Mu c)(hC:ns o a c)(dt:c.aj=false):
  bD prog bT 130 (#[]++([]:List Value).toArray++#[aE b3,aE b2]) σ (rl 1 c::a9 I::[bX b3 (.cells #[az t] 3 (0,0)),bX b2 (.cells #[aE c.G.b] 23 (0,0))])
   (MQ σ c eb (ez c I (o+2^15) (a+1) (fO c.abs 1 t 0))):=by
 refine bD.of ?_;intro Post os out kd F c' cs C aJ ai;refine bI ?_;obtain⟨G,ae,aF,aL,aj⟩:=c;obtain rfl:aj=false:=dt;obtain⟨hn,nj,uX,qa⟩:=hb;dsimp only at hn nj uX qa;obtain⟨t2,Rw⟩:=hE.g 2 (by decide);obtain⟨t3,hg3⟩:=hE.g 3 (by decide);refine dK.opn (m:=1) (h:=λhs bg tx=>?_);have Nm:(ae.map (·.h.bh)).length=ae.length:=dd ..;refine cN ?_;by_cases h5:t<0
 ·refine C.dx (cm 4 0 11++[(3,11)]) 12 [] 0 ?_;refine k6 ?_;refine Dr.p (λh=>C.eE rfl h (hf:=h5)) ?_;refine C6 ?_;refine Nc ?_;refine C.vA Fo.au hg3 (gB _ _) rfl ?_;refine bj ?_;refine dK.cls (m:=1) ⟨G,ae,aF,aL,false⟩ ?_;exact aD.db aJ ai ⟨some 3,⟨G,ae,aF,aL,false⟩,I,rfl,(λk hk=>by cases hk;decide),rfl,rfl,(QD (w:=CV.abs ⟨G,ae,aF,aL,false⟩) (t:=t) rfl (.inl h5)).symm▸ez.same hJ hC rfl,rfl⟩
 ·by_cases re:t>=(aL.length:Int)
  ·refine C.dx (cm 4 0 11++[(3,11)]) 12 [] 0 ?_;refine k6 ?_;refine Dr.p (λh=>C.du rfl h (hf:=h5)) ?_;refine mB ?_;refine Dr.p (λh=>C.eE rfl h (hf:=re)) ?_;refine xr ?_;refine Nc ?_;refine C.vA Fo.au hg3 (gB _ _) rfl ?_;refine bj ?_;refine dK.cls (m:=1) ⟨G,ae,aF,aL,false⟩ ?_;exact aD.db aJ ai ⟨some 3,⟨G,ae,aF,aL,false⟩,I,rfl,(λk hk=>by cases hk;decide),rfl,rfl,(QD (w:=CV.abs ⟨G,ae,aF,aL,false⟩) (t:=t) rfl (.inr (by rw[CV.j3];exact re))).symm▸ez.same hJ hC rfl,rfl⟩
  ·refine C.dx (cm 4 0 11++[(3,11)]) 12 [] 0 ?_;refine k6 ?_;refine Dr.p (λh=>C.du rfl h (hf:=h5)) ?_;refine mB ?_;refine Dr.p (λh=>C.du rfl h (hf:=re)) ?_;refine xr ?_;refine PH ?_;refine C.cmp rfl (λvZ=>?_) (λvZ=>?_)
   ·refine cN ?_;refine C.vA Fo.au Rw (gB _ _) rfl ?_;refine bj ?_;refine dK.cls (m:=1) ⟨G,ae,aF,aL,false⟩ ?_;exact aD.db aJ ai ⟨some 2,⟨G,ae,aF,aL,false⟩,I,rfl,(λk hk=>by cases hk;decide),rfl,rfl,(QE (w:=CV.abs ⟨G,ae,aF,aL,false⟩) (t:=t) rfl (by rw[CV.j3];dsimp only;omega) (by rw[CV.fG];omega)).symm▸ez.same hJ hC rfl,rfl⟩
   ·refine da ?_;obtain⟨q,rfl⟩:=g7 (show 0<=t by omega);have hq:q<aL.length:=ak;have eT:=bC hq;refine da ?_;refine C.dk (w5 (σ:=σ) (b:=G.b) (m:=1) (hs:=hs) (bg:=bg) (qu:=tx) (I:=I) (hl:=ae.map (·.h.bh)) (aF:=aF) (aL:=aL) (tx:=q) (by rw[Nm];exact hn) ak hq (hJ.aL _ eT).o (qa _ eT)) ?_;rintro v aO ⟨F7,rfl,rfl⟩;refine bI ?_;rw[Nm];refine cN ?_;refine dK.cls (m:=1) ⟨G,ae,aF++[zy ae.length aL[q] q],aL,false⟩ ?_;refine aD.db aJ ai ⟨none,⟨G,ae,aF++[zy ae.length aL[q] q],aL,false⟩,I,rfl,(λk hk=>by cases hk),rfl,rfl,⟨Sub.refl _,⟨λm hm=>?_,hJ.aL,hJ.sh⟩,rfl,rfl,?_,λv hv=>(hC v hv).mono ak ak⟩,rfl⟩
    ·rcases cg.1 hm with hm|hm
     ·exact hJ.aF m hm
     ·obtain rfl:=dN.1 hm;exact⟨(hJ.aL _ eT).o,.nil ..,lM 20⟩
    ·rw[X6 (w:=CV.abs ⟨G,ae,aF,aL,false⟩) (t:=(q:Int)) rfl (by rw[CV.j3];dsimp only;omega) (by rw[CV.fG];omega)];unfold nL;have e1:(CV.abs ⟨G,ae,aF,aL,false⟩).aL[((q:Int)).toNat]? =some aL[q].toTxR:=by simp[CV.abs,hq]
     rw[e1];simp[CV.abs,zy,xC]
structure sB(σ:Gh)(c:CV):Prop extends RegC σ c where
 rdn:∀ v∈c.ae,∀ i s,σ.aU i=some s->¬ s.has v.h.rd
variable{P:bR}{Post:Value->World->Prop}{X:tH}{σ:Gh}{h:Nat}{os:Os}{out:Array (Nat×ByteArray)}{d:Nat}{As:List HP}{g:aQ}
theorem At.gh(k:σ.aU h=none->(∀ i s,σ.aU i=some s->i<σ.n)->At (aD P Post X σ h os out) d As g):At (aD P Post X σ h os out) d As g:=λH st hole go=>k hole go.lt H st hole go
theorem QG(σ:Gh)(h j:Nat)(s:dH):(σ.given h j s).aU h=some s:=Go.ConcN.upd_same ..
theorem IQ{j:Nat}{s sM:dH}(h0:σ.aU 0=none)(hj:σ.aU j=some s):(σ.given 0 j sM).given j 0 s=σ:=by
 have eL:j≠0:=λz=>by rw[z,h0]at hj;cases hj
 obtain⟨n,aU,sh,bot⟩:=σ;unfold Gh.given;simp only[Gh.mk.injEq,mN,yf]
 funext i
 by_cases e1:i=j
 ·subst e1;rw[Go.ConcN.upd_same];exact hj.symm
 ·rw[Go.ConcN.upd_ne _ _ e1];by_cases e2:i=0
  ·subst e2;rw[Go.ConcN.upd_same];exact h0.symm
  ·rw[Go.ConcN.upd_ne _ _ e2,Go.ConcN.upd_ne _ _ e2,Go.ConcN.upd_ne _ _ e1]
abbrev Zs(v:HV)(G:CG)(m:Int)(hs aF aL:Value)(aj:Bool)(st:Int)(kd:Nat)(F:List HP):List HP:=
 om G.b m hs aF aL (.chan (some G.dn)) aj st::bX G.cb (.cells #[aE G.b] 23 (0,0))::bX G.dn (.chan 0 #[] false kd kd false)::tc v F
theorem Fo.over{x:HP}{L L':List HP}:∀ A:List HP,Fo x L L'->Fo x (A++L) (A++L')
 |[],h=>h
 |_::A,h=>.tail (Fo.over A h)
theorem serve{Post:Value->World->Prop}{σ:Gh}{os:Os}{out:Array (Nat×ByteArray)}{v:HV}{G:CG}{m st:Int}{hs aF aL:Value}{aj:Bool}{kd:Nat}{I:HL}{A F:List HP}{sM:dH}{z:Value}
  {f:bM} {fu:Func} {code:Code} {nf:Nat} [bd:Body prog f fu code nf] {a1 caps:Array Value} {o a:Int} {rs:dZ} {r0:aQ}
  (hf:aB prog false bG f (a1++[aE v.h.bs].toArray++caps) (de v.h.bs v.s::a9 I::A) (gn v.h.bs I o a rs))
  (M7:v.h.g≠0) (dI:v.h.g<σ.n) (h0:σ.aU 0=some sM) (hkc:sM.cases[0]? =some (rcase v.h.rd z)) (lN:∀ i s',σ.aU i=some s'->s'.has v.h.rd->i=0) (Rr:v.h.wk≠G.dn) (hr0:Dk v.h G r0)
  (k':∀ (I':HL) (s':cZ) (so:ax),Sub I I'->ShJ I' s'->s'.abs=rs->wU o a s'->∀ r,sM.uA r->
   At (aD prog Post bT (σ.given v.h.g 0 (ek v.h G)) 0 os out) 0 (Zs {v with s:={s' with out:=[]},kr:=v.kr+1} G m hs aF aL aj st kd (aW bQ 7 190 so s'.out::a9 I'::F)) (Conc.served r (commResult sM.cases sM.shape 0 so.v true))):
  At (aD prog Post bT σ v.h.g os out) 0 (Zs v G m hs aF aL aj st kd (a9 I::(A++F))) (Conc.served r0 (commResult (ek v.h G).cases (ek v.h G).shape 0 (.func (.func f) a1 caps) true)):=by
 have C:ab prog false bT.B0 (aD prog Post bT σ v.h.g os out):=aD.Sv M7;obtain⟨e,cs,⟨e1,rfl⟩,he0,he1,rfl⟩:=hr0;have ae8:commResult (ek v.h G).cases (ek v.h G).shape 0 (.func (.func f) a1 caps) true=.tuple #[az 0,.bool true,.func (.func f) a1 caps,.agg #[]]:=Xu;rw[rR rfl,ae8,<- j0 (e:=e) (l:=[(0,aE v.h.bh),(1,.chan (some G.dn))]) ⟨he0,he1,trivial⟩];refine fy ?_;refine C.v0 rfl ?_ rfl;refine C.v0 rfl ?_ rfl;refine oW ?_;refine At.perm (Uy [_,_,_,_,_,_,_,_,_] A F) ?_;refine bI ?_;refine C.U1 (f:=f) (a1:=a1) (a2:=caps) (vl:=[aE v.h.bs]) (aB.less P8 hf) ?_ (hr:=.cons (Fo.over A Fo.au) (.cons (Fo.over A Fo.au) (dJ.app A)));rintro w aO ⟨I',s',sx,qD,kU,LQ,rfl⟩;refine k8 ?_;refine C.wR (cm 21 0 9) 10 [8,9] 1 ?_ (W:=[bX v.h.bh (.cells #[aE v.h.bs,.chan (some v.h.wk),.chan (some v.h.rd)] 120 (0,0))]);refine Eb ?_;refine Dr.chain rfl ?_ (λ_ s=>bZ.sat bZ.au s);refine Ch.m 8 (aP λe aa hk=>?_);refine C.dk (aB.less P8 Ib) ?_;rintro w aO ⟨so,rfl,rfl⟩;refine bI ?_;refine hk _ _ lU ?_;refine Ch.last 9 ⟨_,rfl,rfl⟩ ?_;refine At.jR (show bZ _ (Zs {v with s:={s' with out:=[]}} G m hs aF aL aj st kd (aW bQ 7 190 so s'.out::a9 I'::F)) by exact bZ.au) ?_;have ae9:(v.h.g==0)=false:=by simpa using M7
 refine aD.give (c:=v.h.rd) (kk:=0) (kc:=v.kr) (s:=sM) (sH:=ek v.h G) (v:=so.v) (z:=z) (z':=.tuple #[]) dI 0 rfl rfl rfl h0 hkc lN (aO:=Zs {v with s:={s' with out:=[]},kr:=v.kr+1} G m hs aF aL aj st kd (aW bQ 7 190 so s'.out::a9 I'::F)) ?_ (Gn Rr) ?_ ?_ ?_ ?_ ?_
 ·repeat(first|with_reducible exact qG.head|with_reducible apply qG.tail)
 ·intro H st;exact(ry (h:=v.h) (C:=G) M7 (Has.get Has.au st) (Has.get Has.au st) (Has.get Has.au st) rfl (Has.get Has.au st) rfl (Has.get Has.au st) (Has.get Has.au st)).1
 ·intro H st;exact(ry (h:=v.h) (C:=G) M7 (Has.get Has.au st) (Has.get Has.au st) (Has.get Has.au st) rfl (Has.get Has.au st) rfl (Has.get Has.au st) (Has.get Has.au st)).1
 ·intro H st;exact(ry (h:=v.h) (C:=G) M7 (Has.get Has.au st) (Has.get Has.au st) (Has.get Has.au st) rfl (Has.get Has.au st) rfl (Has.get Has.au st) (Has.get Has.au st)).2
 ·rw[ae9];have M:=Mt.way (P:=prog) (ao:=false) (s:=ek v.h G);refine⟨400,?_⟩;refine Way.mono (n:=200+1+60) ?_ ak;refine M.go ?_;refine M.Wg ?_;exact F4 ⟨_,rfl⟩ rfl rfl
 ·intro r hr;exact k' I' s' so sx qD kU LQ r hr
abbrev onD:List (Nat×Nat):=[(19,0),(20,1),(21,2),(22,3),(23,4),(24,5),(25,6),(26,7),(27,8),(28,9),(29,10),(30,11),(31,12)]
abbrev TY(b bh:Nat)(bg:Value)(rd:Nat):List SE:=[⟨0,19,aE b,false⟩,⟨1,20,aE b,false⟩,⟨2,21,aE b,false⟩,⟨3,22,.pointer (some ⟨b,3,none⟩),false⟩,⟨4,23,bg,true⟩,⟨5,24,aE bh,false⟩,⟨6,25,aE bh,false⟩,⟨7,26,.pointer (some ⟨bh,2,none⟩),false⟩,⟨8,27,.chan (some rd),true⟩,⟨11,30,aE b,false⟩,⟨12,31,.pointer (some ⟨b,3,none⟩),false⟩]
def onE(E:Nat->Value)(b bh:Nat):Nat->Value:=qH E [(0,aE b),(6,aE bh)]
def abL(E:Nat->Value)(b bh:Nat)(bg:Value)(rd:Nat)(kd:Kd)(cs:List Frame)(r:aQ):Prop:=∃ e aa,pX (cO (cR (cR ((f135.body).getD .skip)))) (onE E b bh) onD (TY b bh bg rd) 9 e aa/\r=gr 135 kd 32 e [] (.inRegion (cO (cR (cR ((f135.body).getD .skip)))) (9::aa)::[]) cs
def nQ(E:Nat->Value)(b bh:Nat)(bg:Value)(rd:Nat)(kd:Kd)(cs:List Frame):dH:=⟨#[rcase rd (.slice none 0 0)],.recv false,abL E b bh bg rd kd cs,[(⟨b,3,none⟩,bg),(⟨bh,2,none⟩,.chan (some rd))]⟩
theorem Kx{b bh rd:Nat}{bg:Value}:∀ i∈[0,1,2,3,4,5,6,7,8,11,12],∃ x∈TY b bh bg rd,x.i=i:=by intro i hi;simp only[gq,mK,fX]at hi;rcases hi with rfl|rfl|rfl|rfl|rfl|rfl|rfl|rfl|rfl|rfl|rfl<;>simp
theorem Ky{b bh rd:Nat}{bg:Value}:∀ x∈TY b bh bg rd,x.i∈[0,1,2,3,4,5,6,7,8,11,12]:=by simp
theorem QH{b bh rd:Nat}{bg:Value}:∀ x∈TY b bh bg rd,∀ y∈TY b bh bg rd,x.i=y.i->x=y:=by simp
theorem QI{b bh rd:Nat}{bg:Value}:∀ x∈TY b bh bg rd,iF (cO (cR (cR ((f135.body).getD .skip)))) x.i=some x.t:=by intro x hx;simp only[gq,mK,fX]at hx;rcases hx with rfl|rfl|rfl|rfl|rfl|rfl|rfl|rfl|rfl|rfl|rfl<;>rfl
theorem QJ{P:bR}{n:Nat}{e:Nat->Value}{dst:Option Nat}{ty tt el:aR}{dir:ChanDir}{pos:String}{af:Array Edge}{gd:Option (Nat×Bool)}{x:cU}{z:Value}{b:Nat}(hu:P.underlying tt=some (.chan dir el))[cz:Zv P el z](hx:ev n e x=.chan (some b)):
  fJ P (execOp (ev n e) ⟨dst,.recv tt x false,ty,pos,af,gd⟩)=some (.comm #[rcase b z] true (.recv false)):=by
 unfold execOp;simp only[hx];refine br (fx hu) ?_;exact br (qR cz.h) rfl
theorem X7{ao:Bool}{E:Nat->Value}{b bh rd:Nat}{bg:Value}{kd:Kd}{cs:List Frame}:Way prog ao (nQ E b bh bg rd kd cs) 40 (gr 135 kd 32 (onE E b bh) [] (.code (cR (cR ((f135.body).getD .skip)))::[]) cs):=by
 refine Lc (c:=(cR (cR ((f135.body).getD .skip)))) onD [0,1,2,3,4,5,6,7,8,11,12] [9,10,13] 9 (TY b bh bg rd) ⟨Kx,Ky,QH,QI,?_⟩ ?_
 ·intro x hx;simp only[gq,mK,fX]at hx;rcases hx with rfl|rfl|rfl|rfl|rfl|rfl|rfl|rfl|rfl|rfl|rfl
  ·exact⟨[],by simp,λm e aa q=>Pf rfl q⟩
  ·exact⟨[],by simp,λm e aa q=>Pf rfl q⟩
  ·exact⟨[⟨1,20,aE b,false⟩],by simp,λm e aa q=>J1 (a:=⟨b,0,none⟩) rfl q⟩
  ·exact⟨[⟨2,21,aE b,false⟩],by simp,λm e aa q=>J2 (b:=b) (off:=0) (o:=3) rfl q⟩
  ·exact⟨[⟨3,22,.pointer (some ⟨b,3,none⟩),false⟩],by simp,λm e aa q=>E0 (ad:=⟨b,3,none⟩) (by simp[nQ]) rfl q⟩
  ·exact⟨[],by simp,λm e aa q=>Pf rfl q⟩
  ·exact⟨[⟨5,24,aE bh,false⟩],by simp,λm e aa q=>J1 (a:=⟨bh,0,none⟩) rfl q⟩
  ·exact⟨[⟨6,25,aE bh,false⟩],by simp,λm e aa q=>J2 (b:=bh) (off:=0) (o:=2) rfl q⟩
  ·exact⟨[⟨7,26,.pointer (some ⟨bh,2,none⟩),false⟩],by simp,λm e aa q=>E0 (ad:=⟨bh,2,none⟩) (by simp[nQ]) rfl q⟩
  ·exact⟨[⟨0,19,aE b,false⟩],by simp,λm e aa q=>J1 (a:=⟨b,0,none⟩) rfl q⟩
  ·exact⟨[⟨11,30,aE b,false⟩],by simp,λm e aa q=>J2 (b:=b) (off:=0) (o:=3) rfl q⟩
 ·intro e aa dt;have i9:ev 32 e (.tmp 27)=.chan (some rd):=by obtain⟨md,fuel,t,listed,hsz,hu,st,tv,i9,rfl⟩:=dt;exact st.v1 ⟨8,27,.chan (some rd),true⟩ (by simp) (i9 8 (by decide+kernel))
  exact⟨_,⟨e,aa,dt,rfl⟩,rfl,rfl,rfl,rfl,#[],by simp,λw _=>stepG_comm rfl rfl (QJ underlying118 i9) w⟩
theorem Gu{E:Nat->Value}{b bh rd k:Nat}{bg:Value}{kd:Kd}{cs:List Frame}{H:Array Obj}{c1 c2:Array Value}(h1:hp H b=some (.cells c1 92 (0,0)))(K0:c1[3]? =some bg)(h2:hp H bh=some (.cells c2 120 (0,0)))(M8:c2[2]? =some (.chan (some rd)))(h3:hp H rd=some (.chan 0 #[] false k k false)):
  yM (bT.rd 0) (nQ E b bh bg rd kd cs) H:=by
 refine⟨λc hc=>?_,λp hp=>?_⟩
 ·obtain⟨j,z,e⟩:=hc;rcases j with _|j
  ·simp[nQ,rcase]at e;rw[<- e.1];exact⟨k,h3⟩
  ·simp[nQ]at e
 ·simp only[nQ,gq,mK,fX]at hp;rcases hp with rfl|rfl
  ·exact⟨rfl,_,_,h1,K0,rfl⟩
  ·exact⟨rfl,_,_,h2,M8,rfl⟩
theorem X8{b bh rd:Nat}{bg:Value}:∀ x∈TY b bh bg rd,x.ld=true->(([9,10,13]:List Nat).filter λt=> !reach (cO (cR (cR ((f135.body).getD .skip)))) 8 t x.i).length<=1:=by intro x hx;simp only[gq,mK,fX]at hx;rcases hx with rfl|rfl|rfl|rfl|rfl|rfl|rfl|rfl|rfl|rfl|rfl<;>intro h<;>dsimp only at h⊢ <;>first|(cases h;done)|(decide+kernel)
theorem TZ{σ:Gh}{R:Nat->aQ->Array Obj->Prop}(C:ab prog true (bT.bw σ) R){E e:Nat->Value}{aa:List Nat}{b bh wk rd:Nat}{bs dn:Value}{m st:Int}{hs tx:Value}{bg so:ax}{aF ms:List cu}{kd:Kd}{cs:List Frame}{F:List HP}(dt:pX (cO (cR (cR ((f135.body).getD .skip)))) (onE E b bh) onD (TY b bh bg.v rd) 9 e aa)
  (hl:aF.length<2^30) (hm:ms.length<2^30)
  (h:∀ s2 e',At R 0 (om b m hs s2.v tx dn false st::bX bh (.cells #[bs,.chan (some wk),.chan (some rd)] 120 (0,0))::aW bQ 7 190 s2 (aF++ms)::F) (gr 135 kd 32 e' [] [] cs)):
  At R 0 (om b m hs bg.v tx dn false st::bX bh (.cells #[bs,.chan (some wk),.chan (some rd)] 120 (0,0))::aW bQ 7 190 bg aF::aW bQ 7 190 so ms::F) (gr 135 kd 32 (put e 28 so.v) [] (.inRegion (cO (cR (cR ((f135.body).getD .skip)))) aa::[]) cs):=by
 refine resume (T2:=[10,13]) (r:=9) (t0:=28) (v:=so.v) (D:=onD) (is:=[0,1,2,3,4,5,6,7,8,11,12]) (a:=1) (W:=[om b m hs bg.v tx dn false st,bX bh (.cells #[bs,.chan (some wk),.chan (some rd)] 120 (0,0))])
  (by decide+kernel) Kx Ky QH QI ?_ X8 (fI _) (λ_ s=>bZ.sat bZ.au s) (by decide+kernel) rfl ?_ dt
 ·intro x hx;simp only[gq,mK,fX]at hx;rcases hx with rfl|rfl|rfl|rfl|rfl|rfl|rfl|rfl|rfl|rfl|rfl
  ·exact⟨[],by simp,⟨_,rfl,rfl⟩,λAs e aa hA h=>C.mv rfl h⟩
  ·exact⟨[],by simp,⟨_,rfl,rfl⟩,λAs e aa hA h=>C.mv rfl h⟩
  ·exact⟨[⟨1,20,aE b,false⟩],by simp,⟨_,rfl,rfl⟩,λAs e aa hA h=>C.nc rfl h⟩
  ·exact⟨[⟨2,21,aE b,false⟩],by simp,⟨_,rfl,rfl⟩,λAs e aa hA h=>C.fa (b:=b) (off:=0) (o:=3) rfl h⟩
  ·refine⟨[⟨3,22,.pointer (some ⟨b,3,none⟩),false⟩],by simp,⟨_,rfl,rfl⟩,λAs e aa hA h=>?_⟩;have hE:=hA rfl;exact C.ld rfl h
  ·exact⟨[],by simp,⟨_,rfl,rfl⟩,λAs e aa hA h=>C.mv rfl h⟩
  ·exact⟨[⟨5,24,aE bh,false⟩],by simp,⟨_,rfl,rfl⟩,λAs e aa hA h=>C.nc rfl h⟩
  ·exact⟨[⟨6,25,aE bh,false⟩],by simp,⟨_,rfl,rfl⟩,λAs e aa hA h=>C.fa (b:=bh) (off:=0) (o:=2) rfl h⟩
  ·refine⟨[⟨7,26,.pointer (some ⟨bh,2,none⟩),false⟩],by simp,⟨_,rfl,rfl⟩,λAs e aa hA h=>?_⟩;have hE:=hA rfl;exact C.ld rfl h
  ·exact⟨[⟨0,19,aE b,false⟩],by simp,⟨_,rfl,rfl⟩,λAs e aa hA h=>C.nc rfl h⟩
  ·exact⟨[⟨11,30,aE b,false⟩],by simp,⟨_,rfl,rfl⟩,λAs e aa hA h=>C.fa (b:=b) (off:=0) (o:=3) rfl h⟩
 ·refine Ch.m 10 (aP λe aa hk=>?_);refine C.EP (f:=bQ) (s:=bg) (l:=aF) ms rfl (λs2=>hk _ _ ?_) (hsrc:=λH st=>dF.src (dF.own (s:=so) Fo.au) st (λj=>rfl));refine Ch.m 13 (aP λe aa hk=>?_);refine C.st rfl (hk _ undef ?_);refine ee ?_;exact At.jR bZ.au (h s2 _)
theorem At.env{R:Nat->aQ->Array Obj->Prop}{d:Nat}{As:List HP}{fn:bM}{kd:Kd}{n:Nat}{e:Nat->Value}{ds:List dW}{k:List Item}{cs:List Frame}{L:List (Nat×Value)}(he:jP e L)(h:∀ E,At R d As (gr fn kd n (qH E L) ds k cs)):At R d As (gr fn kd n e ds k cs):=by rw[<- j0 he];exact h e
theorem vr{σ:Gh}{c:CV}{q:Nat}{f:bM}{fu:Func}{code:Code}{nf:Nat}[bd:Body prog f fu code nf]{a1 caps:Array Value}{I:HL}{A:List HP}{o a:Int}{rs:dZ}
  (hq:q<c.ae.length) (hr:sB σ c) (dt:c.aj=false) (nj:c.aF.length<2^30) (jg:rs.out.length<2^30)
  (hf:aB prog false bG f (a1++[aE (c.ae[q]).h.bs].toArray++caps) (de (c.ae[q]).h.bs (c.ae[q]).s::a9 I::A) (gn (c.ae[q]).h.bs I o a rs)):
  bD prog bT 135 #[aE c.G.b,az q,.func (.func f) a1 caps] σ (rl 1 c::a9 I::A)
   (λv σ' As=>σ'=σ/\∃ I' s',Sub I I'/\ShJ I' s'/\s'.abs=rs/\wU o a s'/\As=[rl 1 {c with ae:=c.ae.set q {c.ae[q]with s:={s' with out:=[]},kw:=(c.ae[q]).kw+1,kr:=(c.ae[q]).kr+1},aF:=c.aF++s'.out},a9 I']):=by
 refine bD.of ?_;intro Post os out kd F c' cs C aJ ai;refine bI ?_;obtain⟨G,ae,aF,aL,aj⟩:=c;obtain rfl:aj=false:=dt;dsimp only at hq nj hf ai⊢;obtain⟨v,hv⟩:∃ v,v=ae[q]:=⟨_,rfl⟩;have eT:v∈ae:=hv▸bC hq;have B9:=hr.aU v eT;have hwk:=hr.wk v eT;have Rr:=hr.wd v eT;have abM:=hr.rdn v eT;dsimp only at B9 hwk Rr abM;rw[<- hv]at hf;refine At.gh λh0 dI=>?_;have M7:v.h.g≠0:=λz=>by rw[z,h0]at B9;cases B9
 have hjn:=dI _ _ B9;refine dK.opn (m:=1) (h:=λhs bg tx=>?_);have Nm:(ae.map (·.h.bh)).length=ae.length:=dd ..;have wZ:(ae.map (·.h.bh))[q]'(by omega)=v.h.bh:=by simp[hv]
 refine dV ?_;refine C.dT rfl ?_ (s:=hs) (l:=ae.map (·.h.bh)) (f:=eB) (j:=q);refine C.dG rfl ?_ (s:=hs) (l:=ae.map (·.h.bh)) (f:=eB) (j:=q) (v:=aE v.h.bh) (hj:=by omega) (hv:=by rw[wZ];rfl);refine kW hq Fo.au ?_;rw[<- hv];refine jL ?_;refine At.env (L:=[(0,aE G.b),(6,aE v.h.bh),(17,.chan (some v.h.wk)),(18,.func (.func f) a1 caps)]) ⟨rfl,rfl,rfl,rfl,trivial⟩ λE=>?_;refine At.jR (show bZ _ (Zs v G 1 hs.v bg.v tx.v false (CV.st ⟨G,ae,aF,aL,false⟩) 0 (a9 I::aW eB 1 114 hs (ae.map (·.h.bh))::aW bQ 7 190 bg aF::aW rV 3 126 tx aL::all ((ae.eraseIdx q).map iH)::(A++F))) by exact bZ.au) ?_;refine At.perm ((Uy [_,_,_,_] A F).append_left [_,_,_,_,_,_,_,_,_]) ?_;refine bI ?_;have hEq:onE (qH E [(0,aE G.b),(6,aE v.h.bh),(17,.chan (some v.h.wk)),(18,.func (.func f) a1 caps)]) G.b v.h.bh=qH E [(0,aE G.b),(6,aE v.h.bh),(17,.chan (some v.h.wk)),(18,.func (.func f) a1 caps)]:=j0 ⟨rfl,rfl,trivial⟩;have hj:bT.rd 0=bG.rd:=rfl;refine aD.give (X:=bT) (yh (eC _) hjn) v.h.g v.h.wk 0 v.kw (ek v.h G) (nQ (qH E [(0,aE G.b),(6,aE v.h.bh),(17,.chan (some v.h.wk)),(18,.func (.func f) a1 caps)]) G.b v.h.bh bg.v v.h.rd kd (c'::cs)) (.func (.func f) a1 caps) .nilFunc (.tuple #[]) rfl rfl rfl B9 rfl (λi s' e hc=>hwk i s' e hc) (aO:=Zs {v with kw:=v.kw+1} G 1 hs.v bg.v tx.v false (CV.st ⟨G,ae,aF,aL,false⟩) 0 (a9 I::(A++(aW eB 1 114 hs (ae.map (·.h.bh))::aW bQ 7 190 bg aF::aW rV 3 126 tx aL::all ((ae.eraseIdx q).map iH)::F)))) ?_ ?_ ?_ ?_ ?_ ?_ ?_
 ·repeat(first|with_reducible exact qG.head|with_reducible apply qG.tail)
 ·exact⟨λcc lf=>by simp[nQ]at lf;exact⟨_,_,lf⟩,λk m c z z' h1 h2=>by rcases k with _|k<;>rcases m with _|m<;>simp[nQ]at h1 h2⊢⟩
 ·intro H st;exact Gu (Has.get Has.au st) rfl (Has.get Has.au st) rfl (Has.get Has.au st)
 ·intro H st;exact Gu (Has.get Has.au st) rfl (Has.get Has.au st) rfl (Has.get Has.au st)
 ·intro H st p hp c ty hh;have h1:=Has.get (b:=G.b) (o:=.cells (Tx 1 hs.v bg.v tx.v (.chan (some G.dn)) false (CV.st ⟨G,ae,aF,aL,false⟩)) 92 (0,0)) Has.au st;have h2:=Has.get (b:=v.h.bh) (o:=.cells #[aE v.h.bs,.chan (some v.h.wk),.chan (some v.h.rd)] 120 (0,0)) Has.au st;simp only[nQ,gq,mK,fX]at hp;rcases hp with rfl|rfl
  ·have h1:H[G.b]? =_:=h1;rw[hh]at h1;cases h1;rfl
  ·have h2:H[v.h.bh]? =_:=h2;rw[hh]at h2;cases h2;rfl
 ·have M:=Mt.way (P:=prog) (ao:=true) (s:=nQ (qH E [(0,aE G.b),(6,aE v.h.bh),(17,.chan (some v.h.wk)),(18,.func (.func f) a1 caps)]) G.b v.h.bh bg.v v.h.rd kd (c'::cs));refine⟨100,?_⟩;show Way _ true _ _ _;refine M.go ?_;have h1:=X7 (ao:=true) (E:=(qH E [(0,aE G.b),(6,aE v.h.bh),(17,.chan (some v.h.wk)),(18,.func (.func f) a1 caps)])) (b:=G.b) (bh:=v.h.bh) (rd:=v.h.rd) (bg:=bg.v) (kd:=kd) (cs:=c'::cs);rw[hEq]at h1;exact h1
 ·intro r hlr;refine serve (v:={v with kw:=v.kw+1}) (bd:=bd) (sM:=nQ (qH E [(0,aE G.b),(6,aE v.h.bh),(17,.chan (some v.h.wk)),(18,.func (.func f) a1 caps)]) G.b v.h.bh bg.v v.h.rd kd (c'::cs)) (σ:=σ.given 0 v.h.g (nQ (qH E [(0,aE G.b),(6,aE v.h.bh),(17,.chan (some v.h.wk)),(18,.func (.func f) a1 caps)]) G.b v.h.bh bg.v v.h.rd kd (c'::cs))) hf M7 hjn ?_ rfl ?_ Rr hlr ?_
  ·exact QG σ 0 v.h.g _
  ·intro i s' hi hc;have hi:Go.ConcN.upd (Go.ConcN.upd σ.aU v.h.g none) 0 _ i=some s':=hi;by_cases e0:i=0
   ·exact e0
   ·rw[Go.ConcN.upd_ne _ _ e0]at hi;by_cases e1:i=v.h.g
    ·rw[e1,Go.ConcN.upd_same]at hi;cases hi
    ·rw[Go.ConcN.upd_ne _ _ e1]at hi;exact absurd hc (abM i s' hi)
  ·intro I' s' so sx qD kU LQ r E1;rw[IQ h0 B9];obtain⟨e,aa,dt,rfl⟩:=E1;rw[rR rfl];have og:s'.out.length<2^30:=by rw[<- kU]at jg;simpa[cZ.abs]using jg
   refine At.jR (show bZ _ (om G.b 1 hs.v bg.v tx.v (.chan (some G.dn)) false (CV.st ⟨G,ae,aF,aL,false⟩)::bX v.h.bh (.cells #[aE v.h.bs,.chan (some v.h.wk),.chan (some v.h.rd)] 120 (0,0))::aW bQ 7 190 bg aF::aW bQ 7 190 so s'.out::bX G.cb (.cells #[aE G.b] 23 (0,0))::bX G.dn (.chan 0 #[] false 0 0 false)::
    bX v.h.wk (.chan 0 #[] false (v.kw+1) (v.kw+1) false)::bX v.h.rd (.chan 0 #[] false (v.kr+1) (v.kr+1) false)::bX v.h.hb (.cells #[aE v.h.bh] 114 (0,0))::de v.h.bs {s' with out:=[]}::a9 I'::aW eB 1 114 hs (ae.map (·.h.bh))::aW rV 3 126 tx aL::all ((ae.eraseIdx q).map iH)::F) by exact bZ.au) ?_
   refine TZ C dt nj og λs2 e'=>?_;refine Kq (l:=ae) hq ({v with s:={s' with out:=[]},kw:=v.kw+1,kr:=v.kr+1}:HV) dJ.au ?_;have QK:=ai (.tuple #[]) σ _ ⟨rfl,I',s',sx,qD,kU,LQ,rfl⟩;rw[<- hv]at QK;generalize tC:({v with s:={s' with out:=[]},kw:=v.kw+1,kr:=v.kr+1}:HV)=v' at QK⊢;have hbh:v'.h=v.h:=by rw[<- tC]
   have e1:(ae.set q v').map (·.h.bh)=ae.map (·.h.bh):=by rw[kD,hbh,<- wZ,l9]
   have e2:CV.st ⟨G,ae,aF,aL,false⟩=CV.st ⟨G,ae.set q v',aF++s'.out,aL,false⟩:=by simp[CV.st]
   rw[<- e1,e2];refine dK.cls (m:=1) ⟨G,ae.set q v',aF++s'.out,aL,false⟩ ?_;exact At.jR bZ.au (C.Wh aJ QK rfl)
theorem sB.same{σ:Gh}{c c':CV}(h:sB σ c)(hG:c'.G=c.G)(hh:c'.ae.map (·.h)=c.ae.map (·.h)):sB σ c':=by
 have hl:c'.ae.length=c.ae.length:=by have:=congrArg List.length hh;simpa using this
 have key:∀ v∈c'.ae,∃ u∈c.ae,u.h=v.h:=λv hv=>by have:v.h∈c'.ae.map (·.h):=sC hv;rw[hh]at this;obtain⟨u,hu,e⟩:=bL.1 this;exact⟨u,hu,e⟩
 have hm:∀ (f:HG->Nat),c'.ae.map (λv=>f v.h)=c.ae.map (λv=>f v.h):=λf=>by have:=congrArg (List.map f) hh;simpa[ux,wB]using this
 refine⟨⟨λv hv=>?_,?_,λi s e hd=>?_,λv hv=>?_,λv hv=>?_,by rw[hG];exact h.sh7,by rw[hG];exact h.sh8,by rw[hl];exact h.n⟩,λv hv=>?_⟩
 ·obtain⟨u,hu,e⟩:=key v hv;rw[<- e,hG];exact h.aU u hu
 ·rw[hm (·.g)];exact h.nd
 ·rw[hG]at hd;obtain⟨u,hu,e2⟩:=h.only i s e hd;have:u.h∈c.ae.map (·.h):=sC hu;rw[<- hh]at this;obtain⟨v,hv,e3⟩:=bL.1 this;exact⟨v,hv,by rw[e3];exact e2⟩
 ·obtain⟨u,hu,e⟩:=key v hv;rw[<- e];exact h.wk u hu
 ·obtain⟨u,hu,e⟩:=key v hv;rw[<- e,hG];exact h.wd u hu
 ·obtain⟨u,hu,e⟩:=key v hv;rw[<- e];exact h.rdn u hu
theorem pK{σ:Gh}{c:CV}{f:bM}{fu:Func}{code:Code}{nf:Nat}[bd:Body prog f fu code nf]{caps:Array Value}{I:HL}{eb:Nat->Nat×Nat}{nm:ByteArray}{i:Int}{A:List HP}{Q:Option Nat->CV->HL->Prop}(hE:ij I eb)(nj:c.aF.length<2^20)
  (hf:∀ (h0:0<=i) (hl:i.toNat<c.aF.length),c.aj=false->bD prog bT f (#[]++[q9 (c.aF[i.toNat])].toArray++caps) σ (rl 1 c::a9 I::A) (MQ σ c eb Q)) (hQ:c.aj=false->i<0\/(c.aF.length:Int)<=i->Q (some 4) c I):
  bD prog bT 131 #[aE c.G.b,.string nm,az i,.func (.func f) #[] caps] σ (dK c::a9 I::A) (CQ σ c I eb nm i Q):=by
 refine bD.of ?_;intro Post os out kd F c' cs C aJ ai;refine jI ?_;refine C.bx rfl (λbc=>?_);refine C.bx rfl (λbi=>?_);refine C.bx rfl (λbf=>?_);refine dm ?_;refine C.mf rfl ?_;have h1:c.aj=false->bD prog bT 169 (#[]++([]:List Value).toArray++#[aE bi,aE bc,aE bf]) σ (rl 1 c::a9 I::(bX bi (.cells #[az i] 3 (0,0))::bX bc (.cells #[aE c.G.b] 23 (0,0))::bX bf (.cells #[.func (.func f) #[] caps] 225 (0,0))::A)) (MQ σ c eb Q):=by
  intro dt;have hf:=λh0 hl=>hf h0 hl dt;refine bD.of ?_;clear ai;intro Post os out kd F c' cs C aJ QL;refine bI ?_;obtain⟨G,ae,aF,aL,aj⟩:=c;obtain rfl:aj=false:=dt;dsimp only at nj hf hQ;obtain⟨t4,hg4⟩:=hE.g 4 (by decide);refine dK.opn (m:=1) (h:=λhs bg tx=>?_);refine cN ?_;by_cases h5:i<0
  ·refine C.dx (cm 4 0 11) 11 [] 0 ?_;refine k6 ?_;refine Dr.p (λh=>C.eE rfl h (hf:=h5)) ?_;refine Nh ?_;refine Nc ?_;refine C.vA Fo.au hg4 (gB _ _) rfl ?_;refine bj ?_;refine dK.cls (m:=1) ⟨G,ae,aF,aL,false⟩ ?_;refine At.jR (show bZ _ (rl 1 ⟨G,ae,aF,aL,false⟩::a9 I::(A++F)) by exact bZ.au) ?_;refine At.jR (.cons .head (.cons .head (bZ.rB A))) ?_;exact aD.db aJ QL ⟨some 4,⟨G,ae,aF,aL,false⟩,I,rfl,(λk hk=>by cases hk;decide),rfl,rfl,hQ rfl (.inl h5),rfl⟩
  ·by_cases re:i>=(aF.length:Int)
   ·refine C.dx (cm 4 0 11) 11 [] 0 ?_;refine k6 ?_;refine Dr.p (λh=>C.du rfl h (hf:=h5)) ?_;refine mB ?_;refine Dr.p (λh=>C.eE rfl h (hf:=re)) ?_;refine wS ?_;refine Nc ?_;refine C.vA Fo.au hg4 (gB _ _) rfl ?_;refine bj ?_;refine dK.cls (m:=1) ⟨G,ae,aF,aL,false⟩ ?_;refine At.jR (show bZ _ (rl 1 ⟨G,ae,aF,aL,false⟩::a9 I::(A++F)) by exact bZ.au) ?_;refine At.jR (.cons .head (.cons .head (bZ.rB A))) ?_;exact aD.db aJ QL ⟨some 4,⟨G,ae,aF,aL,false⟩,I,rfl,(λk hk=>by cases hk;decide),rfl,rfl,hQ rfl (.inr re),rfl⟩
   ·refine C.dx (cm 4 0 11) 11 [] 0 ?_;refine k6 ?_;refine Dr.p (λh=>C.du rfl h (hf:=h5)) ?_;refine mB ?_;refine Dr.p (λh=>C.du rfl h (hf:=re)) ?_;refine wS ?_;refine oi ?_;obtain⟨q,rfl⟩:=g7 (show 0<=i by omega);have hq:q<aF.length:=ak;refine C.dx (cm 16 0 9++[(3,9)]) 10 [8,9] 0 ?_;refine mB ?_;refine Dr.l (v:=q9 (aF[q]'hq)) (λhE h=>C.lZ rfl (λhj=>h) (s:=bg) (l:=aF) (f:=bQ) (j:=q)) ?_;refine Dr.chain rfl ?_;refine Ch.m 8 (aP λe aa hk=>?_);refine dK.cls (m:=1) ⟨G,ae,aF,aL,false⟩ ?_;refine At.jR (show bZ _ (rl 1 ⟨G,ae,aF,aL,false⟩::a9 I::(A++F)) by exact bZ.au) ?_;refine aD.cl (f:=f) (a1:=#[]) (a2:=caps) (vl:=[q9 aF[q]]) (hf (Eu q) (by simpa using hq)) ?_ (hr:=.cons .head (.cons .head (dJ.app A)));rintro v σ' aO ⟨er,c2,I2,rfl,Gv,rfl,hb,hQ2,rfl⟩;refine bI ?_;refine hk _ _ ?_;refine Ch.q 9 (λh=>C.lh rfl h) ?_;refine ee ?_;exact aD.db aJ QL ⟨er,c2,I2,rfl,Gv,rfl,hb,hQ2,rfl⟩
 refine aD.k5 (uc (nm:=nm) (at_:=i) hE h1) ?_ (hr:=.cons Fo.au (.cons Fo.au (.cons Fo.au (.cons Fo.au (.cons Fo.au (dJ.app A))))));rintro v σ' aO ⟨er,c2,I2,L,h2,h3,rfl,rfl,h4⟩;refine jI ?_;exact aD.db aJ ai ⟨er,c2,I2,L,h2,h3,rfl,rfl,h4⟩
theorem DJ{w:WP}{k i b:Int}(hs:w.aj=false)(hk:2<=k/\k<=4):fO w k i b=iy w k i:=by unfold fO;rw[aq ak,hs,aq (by decide),aq ak,aK ak]
theorem T0{w:WP}{k i:Int}(h:i<0\/(w.aF.length:Int)<=i):iy w k i=(w,5):=by unfold iy;rw[aK h]
theorem IT{w:WP}{k:Int}{q:Nat}{m:MsgR}(h:w.aF[q]? =some m):iy w k q=(if k=4 then(if 400<=w.aF.length then(w,(3:Int))else({w with aF:=w.aF++[m]},(0:Int)))else
  if k=3 then({w with aF:=w.aF.eraseIdx q},(0:Int))else
  if m.to= -1 then({w with aF:=w.aF.eraseIdx q,aL:=m7 w.aL m},(0:Int))else
  match w.sh[m.to.toNat]? with
  |none=>({w with aF:=w.aF.eraseIdx q},(0:Int))
  |some s=>if s.up then(gX {w with aF:=w.aF.eraseIdx q} m.to.toNat (qP s m),(0:Int))else({w with aF:=w.aF.eraseIdx q},(0:Int))):=by
 have hl:=(jC.1 h).1;unfold iy;rw[aq ak,gy,h];rfl
theorem CV.DK{c:CV}{q:Nat}(h:q<c.aF.length):c.abs.aF[q]? =some (c.aF[q]).toMsgR:=by simp[CV.abs,h]
def X9:ByteArray:=⟨#[68,114,111,112]⟩
def Ya:ByteArray:=⟨#[68,101,108,105,118,101,114]⟩
def Yb:ByteArray:=⟨#[67,111,112,121]⟩
theorem Mv{σ:Gh}{c:CV}{b3 b2 q:Nat}{I:HL}{eb:Nat->Nat×Nat}{o a:Int}{mv:cu}(hJ:rY I c)(hb:Mu c)(hC:ns o a c)(dt:c.aj=false)(hq:q<c.aF.length):
  bD prog bT 138 (#[]++[q9 mv].toArray++#[aE b2,aE b3]) σ (rl 1 c::a9 I::[bX b2 (.cells #[aE c.G.b] 23 (0,0)),bX b3 (.cells #[az q] 3 (0,0))])
   (MQ σ c eb (ez c I (o+2^15) (a+1) (fO c.abs 3 q 0))):=by
 refine bD.of ?_;intro Post os out kd F c' cs C aJ ai;refine bI ?_;obtain⟨G,ae,aF,aL,aj⟩:=c;obtain rfl:aj=false:=dt;obtain⟨hn,nj,uX,qa⟩:=hb;dsimp only at hn nj uX qa hq;refine dK.opn (m:=1) (h:=λhs bg tx=>?_);refine bj ?_;refine C.bx rfl (λb3=>?_);refine cF ?_;refine C.dk (B8 (ae:=hs.v) (bg:=bg) (aF:=aF) hq ak) ?_;rintro v aO ⟨F7,rfl⟩;refine sX ?_;refine dK.cls (m:=1) ⟨G,ae,aF.eraseIdx q,aL,false⟩ ?_;refine aD.db aJ ai ⟨none,⟨G,ae,aF.eraseIdx q,aL,false⟩,I,rfl,(λk hk=>by cases hk),rfl,rfl,⟨Sub.refl _,⟨λm hm=>hJ.aF m ((jM ..).mem hm),hJ.aL,hJ.sh⟩,rfl,rfl,?_,λv hv=>(hC v hv).mono ak ak⟩,rfl⟩;rw[DJ (k:=3) (by rfl) ak,IT (CV.DK (c:=⟨G,ae,aF,aL,false⟩) hq),aq ak,aK rfl];simp[CV.abs,xC,map_eraseIdx]
theorem Mw{σ:Gh}{c:CV}{b2 q:Nat}{I:HL}{eb:Nat->Nat×Nat}{o a:Int}(hE:ij I eb)(hJ:rY I c)(hb:Mu c)(hC:ns o a c)(dt:c.aj=false)(hq:q<c.aF.length):
  bD prog bT 139 (#[]++[q9 (c.aF[q])].toArray++#[aE b2]) σ (rl 1 c::a9 I::[bX b2 (.cells #[aE c.G.b] 23 (0,0))])
   (MQ σ c eb (ez c I (o+2^15) (a+1) (fO c.abs 4 q 0))):=by
 refine bD.of ?_;intro Post os out kd F c' cs C aJ ai;refine bI ?_;obtain⟨G,ae,aF,aL,aj⟩:=c;obtain rfl:aj=false:=dt;obtain⟨hn,nj,uX,qa⟩:=hb;dsimp only at hn nj uX qa hq;obtain⟨t2,Rw⟩:=hE.g 2 (by decide);have Ha:fO (CV.abs ⟨G,ae,aF,aL,false⟩) 4 q 0=if 400<=aF.length then(CV.abs ⟨G,ae,aF,aL,false⟩,3)else(CV.abs ⟨G,ae,aF++[aF[q]],aL,false⟩,0):=by rw[DJ (k:=4) (by rfl) ak,IT (CV.DK (c:=⟨G,ae,aF,aL,false⟩) hq),aK rfl];simp[CV.abs]
 refine dK.opn (m:=1) (h:=λhs bg tx=>?_);refine bj ?_;refine C.bx rfl (λb3=>?_);refine jL ?_;refine C.cmp rfl (λh9=>?_) (λh9=>?_)
 ·refine da ?_;refine C.vA Fo.au Rw (gB _ _) rfl ?_;refine bj ?_;refine dK.cls (m:=1) ⟨G,ae,aF,aL,false⟩ ?_;refine aD.db aJ ai ⟨some 2,⟨G,ae,aF,aL,false⟩,I,rfl,(λk hk=>by cases hk;decide),rfl,rfl,?_,rfl⟩;have h9':400<=(aF.length:Int):=h9;rw[Ha,aK ak];exact ez.same hJ hC rfl
 ·refine bj ?_;refine C.wR (cm 11 0 10) 11 [6,7,10] 2 ?_ (W:=[om G.b 1 hs.v bg.v tx.v (.chan (some G.dn)) false (CV.st ⟨G,ae,aF,aL,false⟩),bX b2 (.cells #[aE G.b] 23 (0,0)),l8 b3 (aF[q]'hq)]);refine Eb ?_;refine Dr.chain rfl ?_ (λ_ s=>bZ.sat bZ.au s);refine Ch.m 6 (aP λe aa hk=>?_);refine C.n5 rfl (λb17=>hk _ _ .cons ?_);refine Ch.m 7 (aP λe aa hk=>?_);refine C.oh (aF[q]'hq) rfl (λs'=>?_);refine hk _ _ lU ?_;refine Ch.m 10 (aP λe aa hk=>?_);refine C.st rfl (hk _ undef ?_);refine S9 ?_;refine dK.cls (m:=1) ⟨G,ae,aF++[aF[q]],aL,false⟩ ?_;refine aD.db aJ ai ⟨none,⟨G,ae,aF++[aF[q]],aL,false⟩,I,rfl,(λk hk=>by cases hk),rfl,rfl,⟨Sub.refl _,⟨λm hm=>?_,hJ.aL,hJ.sh⟩,rfl,rfl,?_,λv hv=>(hC v hv).mono ak ak⟩,rfl⟩
  ·rcases cg.1 hm with hm|hm
   ·exact hJ.aF m hm
   ·obtain rfl:=dN.1 hm;exact hJ.aF _ (bC hq)
  ·have h9':¬ 400<=(aF.length:Int):=h9;rw[Ha,aq ak];rfl
def od(aL:List mC)(m:cu):List mC:=
 match aL[m.tx.toNat]? with
 |none=>aL
 |some t=>if t.state=1 then aL.set m.tx.toNat (if m.yes then{t with state:=2,reads:=m.reads,sr:=m.sr}else{t with state:=3})else aL
theorem Mx{aL:List mC}{m:cu}{q:Nat}(hq:q<aL.length)(hm:m.tx=q):od aL m=if(aL[q]).state=1 then aL.set q (if m.yes then{aL[q]with state:=2,reads:=m.reads,sr:=m.sr}else{aL[q]with state:=3})else aL:=by unfold od;rw[hm,gy,fp hq]
theorem IU{aL:List mC}{m:cu}:(od aL m).map (·.toTxR)=m7 (aL.map (·.toTxR)) m.toMsgR:=by
 unfold od m7;have e:(aL.map (·.toTxR))[m.toMsgR.tx.toNat]? =(aL[m.tx.toNat]?).map (·.toTxR):=kB ..;rw[e];cases aL[m.tx.toNat]? with
 |none=>rfl
 |some t=>
  simp only[lJ];split
  ·rw[kD];congr 1;split<;>rfl
  ·rfl
theorem QM{I:HL}{aL:List mC}{m:cu}(h:∀ t∈aL,Zg I t)(hm:ku I m):∀ t∈od aL m,Zg I t:=by
 intro t ht;unfold od at ht;cases e:aL[m.tx.toNat]? with
 |none=>rw[e]at ht;exact h t ht
 |some u=>
  rw[e]at ht;simp only at ht;have hu:=h u (eS e);split at ht
  ·rcases fT ht with ht|rfl
   ·exact h t ht
   ·split
    ·exact⟨hu.o,hm.r,hm.z⟩
    ·exact⟨hu.o,hu.r,hu.z⟩
  ·exact h t ht
variable{b q:Nat}{m st:Int}{hs bg dn:Value}{qu:ax}{aj:Bool}{aL:List mC}{mv:cu}
theorem Gw(hq:q<aL.length)(hm:mv.tx=q):aB prog true (bT.bw σ) 134 #[aE b,q9 mv] [om b m hs bg qu.v dn aj st,aW rV 3 126 qu aL]
  (λv As=>As=[om b m hs bg qu.v dn aj st,aW rV 3 126 qu (od aL mv)]):=by
 rw[Mx hq hm];refine aB.of λR C kd d F c cs aJ ai=>?_;refine jI ?_;refine C.bx rfl (λb3=>?_);refine C.go ?_;rw[hm];refine C.dx (cm 5 0 7++[(4,7)]) 8 [] 0 ?_;refine n7 ?_;refine Dr.l (λhE h=>C.dT rfl h (s:=qu) (l:=aL) (f:=rV) (j:=q)) ?_;refine wS ?_;refine vT ?_;refine C.vz rfl ?_ (s:=qu) (l:=aL) (f:=rV) (j:=q) (o:=1);refine C.cmp rfl (λuo=>?_) (λuo=>?_)
 ·refine da ?_;rw[aq uo]at ai;exact C.cQ aJ ai rfl
 ·refine jL ?_;refine C.pU (λYc=>?_) (λYc=>?_)
  ·refine C.go ?_;refine C.wR (cm 24 0 6++[(30,7),(31,8)]) 10 [6,9] 1 ?_ (W:=[bX b3 (.cells #[az mv.kind,az mv.aV,az mv.to,az q,.bool mv.yes,mv.so.v,mv.sr.v] 190 (0,0))]);refine Eb ?_;refine Dr.chain rfl ?_ (λ_ s=>bZ.sat bZ.au s);refine Ch.m 6 (aP λe aa hk=>?_);refine C.HC (s:=qu) (l:=aL) (j:=q) (o:=1) ({aL[q]with state:=2}:mC) rfl ?_ (hj:=hq) (ha:=rfl);refine hk _ undef lU ?_;refine Ch.m 9 (aP λe aa hk=>?_);refine C.HC (s:=qu) (l:=aL.set q {aL[q]with state:=2}) (j:=q) (o:=2) ({aL[q]with state:=2,reads:=mv.reads,sr:=mv.sr}:mC) rfl (hk _ undef ?_) (hj:=by rw[cS];exact hq) (ha:=by rw[wC];rfl);refine ee ?_;rw[aK (by simpa using uo),aK Yc,<- AY]at ai;exact C.cQ aJ ai rfl
  ·refine cF ?_;refine C.HC (s:=qu) (l:=aL) (j:=q) (o:=1) ({aL[q]with state:=3}:mC) rfl ?_ (hj:=hq) (ha:=rfl);refine C.go ?_;rw[aK (by simpa using uo),aq (by simpa using Yc)]at ai;exact C.cQ aJ ai rfl
theorem My{I:HL}{bs b4:Nat}{s:cZ}{mv:cu}{o a:Int}(xg:1<=mv.kind/\mv.kind<=6)(hJ:ShJ I s)(hb:qm s)(hC:wU o a s)(hM:ku I mv)(hO:mv.kind=1\/mv.kind=2->iX mv.ops)(hV:mv.kind=3->zq s.abs mv.toMsgR):
  aB prog false bG 136 (#[]++[aE bs].toArray++#[aE b4]) (de bs s::a9 I::[l8 b4 mv]) (gn bs I (o+1) (a+1) (qP s.abs mv.toMsgR)):=by
 refine aB.of λR C kd d F c cs aJ ai=>?_;refine sX ?_;refine C.dk (Iq xg hJ hb hC hM hO hV) ?_;rintro v aO ⟨I1,s',fD,qD,kU,LQ,rfl⟩;refine k8 ?_;exact C.cQ aJ ai ⟨I1,s',fD,qD,kU,LQ,rfl⟩
theorem T3{c:CV}{q:Nat}{I I':HL}{o a o' a':Int}{s':cZ}{rs:dZ}{IV:List cu}{kw kr:Nat}(hq:q<c.ae.length)(hJ:rY I c)(hC:ns o a c)(zU:∀ m∈IV,m∈c.aF)(hI:Sub I I')(qD:ShJ I' s')(kU:s'.abs=rs)(LQ:wU o' a' s')(ho:o<=o')(ha:a<=a'):
  ez c I o' a' (gX {c.abs with aF:=IV.map (·.toMsgR)} q rs,0) none {c with ae:=c.ae.set q {c.ae[q]with s:={s' with out:=[]},kw:=kw,kr:=kr},aF:=IV++s'.out} I':=by
 subst kU;refine⟨hI,⟨λm hm=>?_,λt ht=>(hJ.aL t ht).mono hI,λv hv=>?_⟩,rfl,?_,?_,λv hv=>?_⟩
 ·rcases cg.1 hm with hm|hm
  ·exact(hJ.aF m (zU m hm)).mono hI
  ·exact qD.out m hm
 ·rcases fT hv with hv|rfl
  ·exact(hJ.sh v hv).mono hI
  ·exact⟨qD.log,qD.bB,qD.cq,qD.waits,by simp⟩
 ·rw[kD];dsimp only;rw[<- qx (f:=λv:HV=>v.h) (h:=by simpa using hq),l9]
 ·simp only[CV.abs,gX,xC,eI,kD];rfl
 ·rcases fT hv with hv|rfl
  ·exact(hC v hv).mono ho ha
  ·exact⟨LQ.z,LQ.o,LQ.a⟩
structure Kz(c:CV)(m:cu):Prop where
 rep:m.to= -1->0<=m.tx/\m.tx<c.aL.length
 tak:m.to≠ -1->0<=m.to/\m.to<c.ae.length/\1<=m.kind/\m.kind<=6/\(m.kind=1\/m.kind=2->iX m.ops)
 vot:m.to≠ -1->∀ v,c.ae[m.to.toNat]? =some v->v.s.up=true->(m.kind=3->zq v.s.abs m.toMsgR)/\(qP v.s.abs m.toMsgR).out.length<2^30
theorem Mz{σ:Gh}{c:CV}{b3 b2 q:Nat}{I:HL}{eb:Nat->Nat×Nat}{o a:Int}(hJ:rY I c)(hb:Mu c)(hC:ns o a c)(dt:c.aj=false)(hq:q<c.aF.length)(hr:sB σ c)(hD:Kz c c.aF[q])(hS:∀ v∈c.ae,v.s.up=true->qm v.s):
  bD prog bT 132 (#[]++[q9 (c.aF[q])].toArray++#[aE b2,aE b3]) σ (rl 1 c::a9 I::[bX b2 (.cells #[aE c.G.b] 23 (0,0)),bX b3 (.cells #[az q] 3 (0,0))])
   (MQ σ c eb (ez c I (o+2^15) (a+1) (fO c.abs 2 q 0))):=by
 refine bD.of ?_;intro Post os out kd F c' cs C aJ ai;refine bI ?_;obtain⟨G,ae,aF,aL,aj⟩:=c;obtain rfl:aj=false:=dt;obtain⟨hn,nj,uX,qa⟩:=hb;dsimp only at hn nj uX qa hq hD hS;have TC:=hJ.aF _ (bC hq);have Ha:fO (CV.abs ⟨G,ae,aF,aL,false⟩) 2 q 0=if(aF[q]).to= -1 then(CV.abs ⟨G,ae,aF.eraseIdx q,od aL aF[q],false⟩,(0:Int))else
   match ae[(aF[q]).to.toNat]? with
   |none=>(CV.abs ⟨G,ae,aF.eraseIdx q,aL,false⟩,(0:Int))
   |some v=>if v.s.up then(gX (CV.abs ⟨G,ae,aF.eraseIdx q,aL,false⟩) (aF[q]).to.toNat (qP v.s.abs (aF[q]).toMsgR),(0:Int))else(CV.abs ⟨G,ae,aF.eraseIdx q,aL,false⟩,(0:Int)):=by
  rw[DJ (k:=2) (by rfl) ak,IT (CV.DK (c:=⟨G,ae,aF,aL,false⟩) hq),aq ak,aq ak];dsimp only;by_cases h:(aF[q]).to= -1
  ·rw[aK h,aK h];simp[CV.abs,map_eraseIdx,IU]
  ·rw[aq h,aq h];have e1:(CV.abs ⟨G,ae,aF,aL,false⟩).sh[(aF[q]).to.toNat]? =(ae[(aF[q]).to.toNat]?).map (·.s.abs):=by simp[CV.abs]
   rw[e1];cases ae[(aF[q]).to.toNat]? with
   |none=>simp[CV.abs,map_eraseIdx]
   |some v=>simp[CV.abs,map_eraseIdx,cZ.abs]
 obtain⟨mv,hmv⟩:∃ mv,mv=aF[q]:=⟨_,rfl⟩;rw[<- hmv]at hD Ha TC⊢;refine dK.opn (m:=1) (h:=λhs bg tx=>?_);have Nm:(ae.map (·.h.bh)).length=ae.length:=dd ..;refine bj ?_;refine C.bx rfl (λb4=>?_);refine cF ?_;refine C.dk (B8 (ae:=hs.v) (bg:=bg) (aF:=aF) hq ak) ?_;rintro v aO ⟨F7,rfl⟩;refine sX ?_;refine C.cmp rfl (λq7=>?_) (λq7=>?_)
 ·refine dm ?_;obtain⟨qt,hqt⟩:=g7 (hD.rep q7).1;have afa:qt<aL.length:=by have:=(hD.rep q7).2;dsimp only at this;omega
  refine C.dk (Gw (q:=qt) afa hqt) ?_;rintro v aO rfl;refine sX ?_;refine dK.cls (m:=1) ⟨G,ae,aF.eraseIdx q,od aL mv,false⟩ ?_;refine aD.db aJ ai ⟨none,⟨G,ae,aF.eraseIdx q,od aL mv,false⟩,I,rfl,(λk hk=>by cases hk),rfl,rfl,⟨Sub.refl _,⟨λm hm=>hJ.aF m ((jM ..).mem hm),QM hJ.aL TC,hJ.sh⟩,rfl,rfl,?_,λv hv=>(hC v hv).mono ak ak⟩,rfl⟩;rw[Ha,aK q7];rfl
 ·refine da ?_;obtain⟨ht0,PW,zZ,G6,hO⟩:=hD.tak q7;obtain⟨qh,hqh⟩:=g7 ht0;have Gx:qh<ae.length:=by dsimp only at PW;omega
  have wZ:(ae.map (·.h.bh))[qh]'(by omega)=ae[qh].h.bh:=by simp
  have Vy:qh<(ae.map (·.h.bh)).length:=ak;have hqv:(eB ((ae.map (·.h.bh))[qh]'Vy))[0]? =some (aE ae[qh].h.bh):=by rw[wZ];rfl
  rw[hqh];refine kW Gx Fo.au ?_;refine de.opn (s:=ae[qh].s) (h:=λlg wt ot tm bv bl bp bd be bu tl ht=>?_);refine C.dx (cm 16 0 14++[(15,14)]) 15 [] 0 ?_;refine n7 ?_;refine Dr.l (λhE h=>C.dT rfl h (s:=hs) (l:=ae.map (·.h.bh)) (f:=eB) (j:=qh)) ?_;refine Dr.l (v:=aE ae[qh].h.bh) (λhE h=>C.dG rfl h (s:=hs) (l:=ae.map (·.h.bh)) (f:=eB) (j:=qh) (v:=aE ae[qh].h.bh) (hj:=Vy) (hv:=hqv)) ?_;refine Ng ?_;refine ee ?_;refine C.pU (λu6=>?_) (λu6=>?_)
  ·refine C.go ?_;refine de.cls ae[qh].s ?_;refine fW Gx dJ.au ?_;refine dK.cls (m:=1) ⟨G,ae,aF.eraseIdx q,aL,false⟩ ?_;have hqs:ae[mv.to.toNat]? =some ae[qh]:=by rw[hqh,gy];exact fp Gx
   obtain⟨hV,hOut⟩:=hD.vot q7 ae[qh] hqs u6;have QN:=bC Gx;have rL:=My (bs:=ae[qh].h.bs) (b4:=b4) ⟨zZ,G6⟩ (hJ.sh _ QN) (hS _ QN u6) (hC _ QN) TC hO hV;have si:=vr (c:=⟨G,ae,aF.eraseIdx q,aL,false⟩) (q:=qh) Gx (hr.same rfl rfl) rfl (yh (List.length_eraseIdx_le ..) ak) hOut rL;rw[<- hqh]at si⊢;refine cN ?_;refine C.mf rfl ?_;refine aD.k5 si ?_;rintro v σ' aO ⟨rfl,I2,s2,kT,LW,zM,Yd,rfl⟩;refine sX ?_;have pT:=T3 (c:=⟨G,ae,aF,aL,false⟩) (IV:=aF.eraseIdx q) (kw:=ae[qh].kw+1) (kr:=ae[qh].kr+1) Gx hJ hC (λm hm=>(jM ..).mem hm) kT LW zM (Yd.mono (o':=o+2^15) (a':=a+1) ak ak) ak ak;refine aD.db aJ ai ⟨none,⟨G,ae.set qh {ae[qh]with s:={s2 with out:=[]},kw:=ae[qh].kw+1,kr:=ae[qh].kr+1},aF.eraseIdx q++s2.out,aL,false⟩,I2,rfl,(λk hk=>by cases hk),rfl,rfl,?_,rfl⟩;have hr2:fO (CV.abs ⟨G,ae,aF,aL,false⟩) 2 q 0=(gX {CV.abs ⟨G,ae,aF,aL,false⟩with aF:=(aF.eraseIdx q).map (·.toMsgR)} qh (qP ae[qh].s.abs mv.toMsgR),0):=by rw[Ha,aq q7,hqs];dsimp only;rw[aK u6,hqh];rfl
   rw[hr2];exact pT
  ·refine cN ?_;refine de.cls ae[qh].s ?_;refine fW Gx dJ.au ?_;refine dK.cls (m:=1) ⟨G,ae,aF.eraseIdx q,aL,false⟩ ?_;have hqs:ae[mv.to.toNat]? =some ae[qh]:=by rw[hqh,gy];exact fp Gx
   refine aD.db aJ ai ⟨none,⟨G,ae,aF.eraseIdx q,aL,false⟩,I,rfl,(λk hk=>by cases hk),rfl,rfl,⟨Sub.refl _,⟨λm hm=>hJ.aF m ((jM ..).mem hm),hJ.aL,hJ.sh⟩,rfl,rfl,?_,λv hv=>(hC v hv).mono ak ak⟩,rfl⟩;rw[Ha,aq q7,hqs];dsimp only;rw[aq (by simpa using u6)];rfl
end
section
open Go.Proofs Go.Conc
theorem KA{P:bR}{n:Nat}{e:Nat->Value}{t:Nat}{ty tt t2:aR}{pos:String}{af:Array Edge}{gd:Option (Nat×Bool)}{x y:cU}{a b:ByteArray}(hx:ev n e x=.string a)(hy:ev n e y=.string b):fJ P (execOp (ev n e) ⟨some t,.binOp .eql tt x y t2,ty,pos,af,gd⟩)=some (.value (.bool (a.toList==b.toList))):=by unfold execOp;simp only[hx,hy];refine br (a:=.bool (a.toList==b.toList)) ?_ rfl;refine br (a:=()) (by unfold eqGuard;rfl) ?_;show fJ P (Op.stringOp .eql a b)=_;unfold Op.stringOp;rfl
def MA:ByteArray:=⟨#[84,105,99,107]⟩
structure T4(c:CV)(s:Int)(up tk:Bool)(g:dZ->dZ)(r:WP×Int):Prop where
 d6:s<0\/(c.ae.length:Int)<=s->r=(c.abs,6)
 dn:∀ (q:Nat) (hq:q<c.ae.length),s=q->(c.ae[q]).s.up≠up->r=(c.abs,if up then 7 else 8)
 d3:∀ (q:Nat) (hq:q<c.ae.length),s=q->(c.ae[q]).s.up=up->tk=true->150<c.aF.length->r=(c.abs,3)
 go:∀ (q:Nat) (hq:q<c.ae.length),s=q->(c.ae[q]).s.up=up->(tk=true->c.aF.length<=150)->r=(gX c.abs q (g (c.ae[q]).s.abs),0)
abbrev shA(b1 b2 b3 b4 b5 b:Nat)(s:Int)(up:Bool)(nm:ByteArray)(fv:Value)(A:List HP):List HP:=
 bX b1 (.cells #[az s] 3 (0,0))::bX b2 (.cells #[aE b] 23 (0,0))::bX b3 (.cells #[.bool up] 4 (0,0))::bX b4 (.cells #[.string nm] 9 (0,0))::bX b5 (.cells #[fv] 187 (0,0))::A
theorem MB{σ:Gh}{c:CV}{b1 b2 b3 b4 b5:Nat}{s:Int}{tk:Bool}{nm:ByteArray}{I:HL}{eb:Nat->Nat×Nat}{o a:Int}{f:bM}{fu:Func}{code:Code}{nf:Nat}[bd:Body prog f fu code nf]{a1 caps:Array Value}{A:List HP}{g:dZ->dZ}{r:WP×Int}
  (hE:ij I eb) (hJ:rY I c) (hb:Mu c) (hC:ns o a c) (dt:c.aj=false) (hr:sB σ c) (Zt:(nm.toList==MA.toList)=tk) (hg:T4 c s true tk g r) (jg:∀ v∈c.ae,v.s.up=true->(g v.s.abs).out.length<2^30)
  (hf:∀ v∈c.ae,v.s.up=true->aB prog false bG f (a1++[aE v.h.bs].toArray++caps) (de v.h.bs v.s::a9 I::A) (gn v.h.bs I (o+2^15) (a+1) (g v.s.abs))):
  bD prog bT 176 (#[]++([]:List Value).toArray++#[aE b1,aE b2,aE b3,aE b4,aE b5]) σ (rl 1 c::a9 I::shA b1 b2 b3 b4 b5 c.G.b s true nm (.func (.func f) a1 caps) A)
   (MQ σ c eb (ez c I (o+2^15) (a+1) r)):=by
 refine bD.of ?_;intro Post os out kd F c' cs C aJ ai;refine bI ?_;obtain⟨G,ae,aF,aL,aj⟩:=c;obtain rfl:aj=false:=dt;obtain⟨hn,nj,uX,qa⟩:=hb;dsimp only at hn nj uX qa jg hf;obtain⟨d6,dn,d3,Zu⟩:=hg;dsimp only at d6 dn d3 Zu;obtain⟨t2,Rw⟩:=hE.g 2 (by decide);obtain⟨t5,hg5⟩:=hE.g 5 (by decide);obtain⟨t6,hg6⟩:=hE.g 6 (by decide);refine dK.opn (m:=1) (h:=λhs bg tx=>?_);obtain⟨HB,Ef⟩:∃ HB,HB=ae.map (·.h.bh):=⟨_,rfl⟩;unfold Zf;dsimp only;rw[<- Ef];have Nm:HB.length=ae.length:=by rw[Ef];exact dd ..
 refine cN ?_;by_cases h8:s<0
 ·refine C.dx (cm 7 0 11++[(6,11)]) 12 [] 0 ?_;refine k6 ?_;refine Dr.p (λh=>C.eE rfl h (hf:=h8)) ?_;refine C6 ?_;refine Nc ?_;refine C.vA Fo.au hg5 (gB _ _) rfl ?_;refine bj ?_;subst Ef;refine dK.cls (m:=1) ⟨G,ae,aF,aL,false⟩ ?_;refine At.jR (show bZ _ (rl 1 ⟨G,ae,aF,aL,false⟩::a9 I::(A++F)) by exact bZ.au) ?_;refine At.jR (.cons .head (.cons .head (bZ.rB A))) ?_;refine aD.db aJ ai ⟨some 5,⟨G,ae,aF,aL,false⟩,I,rfl,(λk hk=>by cases hk;decide),rfl,rfl,?_,rfl⟩;rw[d6 (.inl h8)];exact ez.same hJ hC rfl
 ·by_cases Ed:s>=(HB.length:Int)
  ·refine C.dx (cm 7 0 11++[(6,11)]) 12 [] 0 ?_;refine k6 ?_;refine Dr.p (λh=>C.du rfl h (hf:=h8)) ?_;refine n7 ?_;refine Dr.l (λhE h=>C.mW rfl h (s:=hs) (l:=HB) (f:=eB)) ?_;refine Dr.p (λh=>C.eE rfl h (hf:=Ed)) ?_;refine xr ?_;refine Nc ?_;refine C.vA Fo.au hg5 (gB _ _) rfl ?_;refine bj ?_;subst Ef;refine dK.cls (m:=1) ⟨G,ae,aF,aL,false⟩ ?_;refine At.jR (show bZ _ (rl 1 ⟨G,ae,aF,aL,false⟩::a9 I::(A++F)) by exact bZ.au) ?_;refine At.jR (.cons .head (.cons .head (bZ.rB A))) ?_;refine aD.db aJ ai ⟨some 5,⟨G,ae,aF,aL,false⟩,I,rfl,(λk hk=>by cases hk;decide),rfl,rfl,?_,rfl⟩;rw[d6 (.inr ak)];exact ez.same hJ hC rfl
  ·refine C.dx (cm 7 0 11++[(6,11)]) 12 [] 0 ?_;refine k6 ?_;refine Dr.p (λh=>C.du rfl h (hf:=h8)) ?_;refine n7 ?_;refine Dr.l (λhE h=>C.mW rfl h (s:=hs) (l:=HB) (f:=eB)) ?_;refine Dr.p (λh=>C.du rfl h (hf:=Ed)) ?_;refine xr ?_;refine oi ?_;obtain⟨q,rfl⟩:=g7 (show 0<=s by omega);have hq:q<ae.length:=ak;have Vy:q<HB.length:=ak;have wZ:HB[q]=ae[q].h.bh:=by subst Ef;simp
   have hqv:(eB (HB[q]'Vy))[0]? =some (aE ae[q].h.bh):=by rw[wZ];rfl
   have QN:=bC hq;refine kW hq Fo.au ?_;refine de.opn (s:=ae[q].s) (h:=λlg wt ot tm bv bl bp bd be bu tl ht=>?_);refine C.dx (cm 20 0 17++[(19,17)]) 18 [] 0 ?_;refine mB ?_;refine Dr.l (λhE h=>C.dT rfl h (s:=hs) (l:=HB) (f:=eB) (j:=q)) ?_;refine Dr.l (v:=aE ae[q].h.bh) (λhE h=>C.dG rfl h (s:=hs) (l:=HB) (f:=eB) (j:=q) (v:=aE ae[q].h.bh) (hj:=Vy) (hv:=hqv)) ?_;refine Nh ?_;refine ee ?_;refine C.pU (λzJ=>?_) (λzJ=>?_)
   ·refine bj ?_;refine C.vA Fo.au hg6 (gB _ _) rfl ?_;refine bj ?_;subst Ef;refine de.cls ae[q].s ?_;refine fW hq dJ.au ?_;refine dK.cls (m:=1) ⟨G,ae,aF,aL,false⟩ ?_;refine At.jR (show bZ _ (rl 1 ⟨G,ae,aF,aL,false⟩::a9 I::(A++F)) by exact bZ.au) ?_;refine At.jR (.cons .head (.cons .head (bZ.rB A))) ?_;refine aD.db aJ ai ⟨some 6,⟨G,ae,aF,aL,false⟩,I,rfl,(λk hk=>by cases hk;decide),rfl,rfl,?_,rfl⟩;rw[dn q hq rfl (by simpa using zJ)];exact ez.same hJ hC rfl
   ·refine C.go ?_;refine C.dx (cm 39 0 17++[(38,17)]) 18 [] 0 ?_;refine gY ?_;refine Eb ?_;refine Dr.chain rfl ?_;refine S9 ?_;refine C.v0 (v:=.bool tk) rfl ?_ (by rw[<- Zt];exact KA rfl rfl);rcases fU tk with rfl|rfl
    ·refine dm ?_;refine C.cmp rfl (λRP=>?_) (λRP=>?_)
     ·refine cF ?_;refine C.vA Fo.au Rw (gB _ _) rfl ?_;refine bj ?_;subst Ef;refine de.cls ae[q].s ?_;refine fW hq dJ.au ?_;refine dK.cls (m:=1) ⟨G,ae,aF,aL,false⟩ ?_;refine At.jR (show bZ _ (rl 1 ⟨G,ae,aF,aL,false⟩::a9 I::(A++F)) by exact bZ.au) ?_;refine At.jR (.cons .head (.cons .head (bZ.rB A))) ?_;refine aD.db aJ ai ⟨some 2,⟨G,ae,aF,aL,false⟩,I,rfl,(λk hk=>by cases hk;decide),rfl,rfl,?_,rfl⟩;have afe:(aF.length:Int)>150:=RP;rw[d3 q hq rfl (by simpa using zJ) rfl ak];exact ez.same hJ hC rfl
     ·refine cN ?_;subst Ef;have Gy:ae[q].s.up=true:=by simpa using zJ
      refine de.cls ae[q].s ?_;refine fW hq dJ.au ?_;refine dK.cls (m:=1) ⟨G,ae,aF,aL,false⟩ ?_;have si:=vr (c:=⟨G,ae,aF,aL,false⟩) (q:=q) hq hr rfl (cD) (jg _ QN Gy) (hf _ QN Gy);refine cN ?_;refine At.jR (show bZ _ (rl 1 ⟨G,ae,aF,aL,false⟩::a9 I::(A++F)) by exact bZ.au) ?_;refine aD.k5 si ?_ (hr:=.cons .head (.cons .head (dJ.app A)));rintro v σ' aO ⟨rfl,I2,s2,kT,LW,zM,Yd,rfl⟩;refine sX ?_;have pT:=T3 (c:=⟨G,ae,aF,aL,false⟩) (IV:=aF) (kw:=ae[q].kw+1) (kr:=ae[q].kr+1) hq hJ hC (λm hm=>hm) kT LW zM Yd ak ak;refine aD.db aJ ai ⟨none,⟨G,ae.set q {ae[q]with s:={s2 with out:=[]},kw:=ae[q].kw+1,kr:=ae[q].kr+1},aF++s2.out,aL,false⟩,I2,rfl,(λk hk=>by cases hk),rfl,rfl,?_,rfl⟩;have afe:¬ (aF.length:Int)>150:=RP;rw[Zu q hq rfl (by simpa using zJ) (λ_=>by omega)];exact pT
    ·refine k7 ?_;subst Ef;have Gy:ae[q].s.up=true:=by simpa using zJ
     refine de.cls ae[q].s ?_;refine fW hq dJ.au ?_;refine dK.cls (m:=1) ⟨G,ae,aF,aL,false⟩ ?_;have si:=vr (c:=⟨G,ae,aF,aL,false⟩) (q:=q) hq hr rfl (cD) (jg _ QN Gy) (hf _ QN Gy);refine cN ?_;refine At.jR (show bZ _ (rl 1 ⟨G,ae,aF,aL,false⟩::a9 I::(A++F)) by exact bZ.au) ?_;refine aD.k5 si ?_ (hr:=.cons .head (.cons .head (dJ.app A)));rintro v σ' aO ⟨rfl,I2,s2,kT,LW,zM,Yd,rfl⟩;refine sX ?_;have pT:=T3 (c:=⟨G,ae,aF,aL,false⟩) (IV:=aF) (kw:=ae[q].kw+1) (kr:=ae[q].kr+1) hq hJ hC (λm hm=>hm) kT LW zM Yd ak ak;refine aD.db aJ ai ⟨none,⟨G,ae.set q {ae[q]with s:={s2 with out:=[]},kw:=ae[q].kw+1,kr:=ae[q].kr+1},aF++s2.out,aL,false⟩,I2,rfl,(λk hk=>by cases hk),rfl,rfl,?_,rfl⟩;rw[Zu q hq rfl (by simpa using zJ) (λh=>by cases h)];exact pT
theorem MC{σ:Gh}{c:CV}{b1 b2 b3 b4 b5:Nat}{s:Int}{nm:ByteArray}{I:HL}{eb:Nat->Nat×Nat}{o a:Int}{f:bM}{fu:Func}{code:Code}{nf:Nat}[bd:Body prog f fu code nf]{a1 caps:Array Value}{A:List HP}{g:dZ->dZ}{r:WP×Int}
  (hE:ij I eb) (hJ:rY I c) (hb:Mu c) (hC:ns o a c) (dt:c.aj=false) (hr:sB σ c) (Zt:(nm.toList==MA.toList)=false) (hg:T4 c s false false g r) (jg:∀ v∈c.ae,v.s.up=false->(g v.s.abs).out.length<2^30)
  (hf:∀ v∈c.ae,v.s.up=false->aB prog false bG f (a1++[aE v.h.bs].toArray++caps) (de v.h.bs v.s::a9 I::A) (gn v.h.bs I (o+2^15) (a+1) (g v.s.abs))):
  bD prog bT 176 (#[]++([]:List Value).toArray++#[aE b1,aE b2,aE b3,aE b4,aE b5]) σ (rl 1 c::a9 I::shA b1 b2 b3 b4 b5 c.G.b s false nm (.func (.func f) a1 caps) A)
   (MQ σ c eb (ez c I (o+2^15) (a+1) r)):=by
 refine bD.of ?_;intro Post os out kd F c' cs C aJ ai;refine bI ?_;obtain⟨G,ae,aF,aL,aj⟩:=c;obtain rfl:aj=false:=dt;obtain⟨hn,nj,uX,qa⟩:=hb;dsimp only at hn nj uX qa jg hf;obtain⟨d6,dn,d3,Zu⟩:=hg;dsimp only at d6 dn d3 Zu;obtain⟨t5,hg5⟩:=hE.g 5 (by decide);obtain⟨t7,hg7⟩:=hE.g 7 (by decide);refine dK.opn (m:=1) (h:=λhs bg tx=>?_);obtain⟨HB,Ef⟩:∃ HB,HB=ae.map (·.h.bh):=⟨_,rfl⟩;unfold Zf;dsimp only;rw[<- Ef];have Nm:HB.length=ae.length:=by rw[Ef];exact dd ..
 refine cN ?_;by_cases h8:s<0
 ·refine C.dx (cm 7 0 11++[(6,11)]) 12 [] 0 ?_;refine k6 ?_;refine Dr.p (λh=>C.eE rfl h (hf:=h8)) ?_;refine C6 ?_;refine Nc ?_;refine C.vA Fo.au hg5 (gB _ _) rfl ?_;refine bj ?_;subst Ef;refine dK.cls (m:=1) ⟨G,ae,aF,aL,false⟩ ?_;refine At.jR (show bZ _ (rl 1 ⟨G,ae,aF,aL,false⟩::a9 I::(A++F)) by exact bZ.au) ?_;refine At.jR (.cons .head (.cons .head (bZ.rB A))) ?_;refine aD.db aJ ai ⟨some 5,⟨G,ae,aF,aL,false⟩,I,rfl,(λk hk=>by cases hk;decide),rfl,rfl,?_,rfl⟩;rw[d6 (.inl h8)];exact ez.same hJ hC rfl
 ·by_cases Ed:s>=(HB.length:Int)
  ·refine C.dx (cm 7 0 11++[(6,11)]) 12 [] 0 ?_;refine k6 ?_;refine Dr.p (λh=>C.du rfl h (hf:=h8)) ?_;refine n7 ?_;refine Dr.l (λhE h=>C.mW rfl h (s:=hs) (l:=HB) (f:=eB)) ?_;refine Dr.p (λh=>C.eE rfl h (hf:=Ed)) ?_;refine xr ?_;refine Nc ?_;refine C.vA Fo.au hg5 (gB _ _) rfl ?_;refine bj ?_;subst Ef;refine dK.cls (m:=1) ⟨G,ae,aF,aL,false⟩ ?_;refine At.jR (show bZ _ (rl 1 ⟨G,ae,aF,aL,false⟩::a9 I::(A++F)) by exact bZ.au) ?_;refine At.jR (.cons .head (.cons .head (bZ.rB A))) ?_;refine aD.db aJ ai ⟨some 5,⟨G,ae,aF,aL,false⟩,I,rfl,(λk hk=>by cases hk;decide),rfl,rfl,?_,rfl⟩;rw[d6 (.inr ak)];exact ez.same hJ hC rfl
  ·refine C.dx (cm 7 0 11++[(6,11)]) 12 [] 0 ?_;refine k6 ?_;refine Dr.p (λh=>C.du rfl h (hf:=h8)) ?_;refine n7 ?_;refine Dr.l (λhE h=>C.mW rfl h (s:=hs) (l:=HB) (f:=eB)) ?_;refine Dr.p (λh=>C.du rfl h (hf:=Ed)) ?_;refine xr ?_;refine oi ?_;refine C.dx (cm 20 0 17++[(19,17)]) 18 [] 0 ?_;refine gY ?_;refine Eb ?_;refine Dr.chain rfl ?_;refine oi ?_;obtain⟨q,rfl⟩:=g7 (show 0<=s by omega);have hq:q<ae.length:=ak;have Vy:q<HB.length:=ak;have wZ:HB[q]=ae[q].h.bh:=by subst Ef;simp
   have hqv:(eB (HB[q]'Vy))[0]? =some (aE ae[q].h.bh):=by rw[wZ];rfl
   have QN:=bC hq;refine kW hq Fo.au ?_;refine de.opn (s:=ae[q].s) (h:=λlg wt ot tm bv bl bp bd be bu tl ht=>?_);refine C.dx (cm 39 0 17++[(38,17)]) 18 [] 0 ?_;refine Eb ?_;refine Dr.l (λhE h=>C.dT rfl h (s:=hs) (l:=HB) (f:=eB) (j:=q)) ?_;refine Dr.l (v:=aE ae[q].h.bh) (λhE h=>C.dG rfl h (s:=hs) (l:=HB) (f:=eB) (j:=q) (v:=aE ae[q].h.bh) (hj:=Vy) (hv:=hqv)) ?_;refine Lu ?_;refine ee ?_;refine C.pU (λtZ=>?_) (λtZ=>?_)
   ·refine bj ?_;refine C.vA Fo.au hg7 (gB _ _) rfl ?_;refine bj ?_;subst Ef;refine de.cls ae[q].s ?_;refine fW hq dJ.au ?_;refine dK.cls (m:=1) ⟨G,ae,aF,aL,false⟩ ?_;refine At.jR (show bZ _ (rl 1 ⟨G,ae,aF,aL,false⟩::a9 I::(A++F)) by exact bZ.au) ?_;refine At.jR (.cons .head (.cons .head (bZ.rB A))) ?_;refine aD.db aJ ai ⟨some 7,⟨G,ae,aF,aL,false⟩,I,rfl,(λk hk=>by cases hk;decide),rfl,rfl,?_,rfl⟩;rw[dn q hq rfl (by simpa using tZ)];exact ez.same hJ hC rfl
   ·refine da ?_;refine C.v0 (v:=.bool false) rfl ?_ (by rw[<- Zt];exact KA rfl rfl);refine k7 ?_;subst Ef;have Gy:ae[q].s.up=false:=by simpa using tZ
    refine de.cls ae[q].s ?_;refine fW hq dJ.au ?_;refine dK.cls (m:=1) ⟨G,ae,aF,aL,false⟩ ?_;have si:=vr (c:=⟨G,ae,aF,aL,false⟩) (q:=q) hq hr rfl (cD) (jg _ QN Gy) (hf _ QN Gy);refine cN ?_;refine At.jR (show bZ _ (rl 1 ⟨G,ae,aF,aL,false⟩::a9 I::(A++F)) by exact bZ.au) ?_;refine aD.k5 si ?_ (hr:=.cons .head (.cons .head (dJ.app A)));rintro v σ' aO ⟨rfl,I2,s2,kT,LW,zM,Yd,rfl⟩;refine sX ?_;have pT:=T3 (c:=⟨G,ae,aF,aL,false⟩) (IV:=aF) (kw:=ae[q].kw+1) (kr:=ae[q].kr+1) hq hJ hC (λm hm=>hm) kT LW zM Yd ak ak;refine aD.db aJ ai ⟨none,⟨G,ae.set q {ae[q]with s:={s2 with out:=[]},kw:=ae[q].kw+1,kr:=ae[q].kr+1},aF++s2.out,aL,false⟩,I2,rfl,(λk hk=>by cases hk),rfl,rfl,?_,rfl⟩;rw[Zu q hq rfl (by simpa using tZ) (λh=>by cases h)];exact pT
theorem nR{σ:Gh}{c:CV}{s:Int}{up tk:Bool}{nm:ByteArray}{I:HL}{eb:Nat->Nat×Nat}{o a:Int}{f:bM}{fu:Func}{code:Code}{nf:Nat}[bd:Body prog f fu code nf]{a1 caps:Array Value}{A:List HP}{g:dZ->dZ}{r:WP×Int}
  (hE:ij I eb) (hJ:rY I c) (hb:Mu c) (hC:ns o a c) (hr:c.aj=false->sB σ c) (Zt:(nm.toList==MA.toList)=tk) (hut:up=false->tk=false) (hg:c.aj=false->T4 c s up tk g r) (jg:∀ v∈c.ae,v.s.up=up->(g v.s.abs).out.length<2^30)
  (hf:∀ v∈c.ae,v.s.up=up->aB prog false bG f (a1++[aE v.h.bs].toArray++caps) (de v.h.bs v.s::a9 I::A) (gn v.h.bs I (o+2^15) (a+1) (g v.s.abs))):
  bD prog bT 140 #[aE c.G.b,.string nm,az s,.bool up,.func (.func f) a1 caps] σ (dK c::a9 I::A) (CQ σ c I eb nm s (ez c I (o+2^15) (a+1) r)):=by
 refine bD.of ?_;intro Post os out kd F c' cs C aJ ai;refine jI ?_;refine C.bx rfl (λb1=>?_);refine C.bx rfl (λb2=>?_);refine C.bx rfl (λb3=>?_);refine C.bx rfl (λb4=>?_);refine C.bx rfl (λb5=>?_);refine dm ?_;refine C.mf rfl ?_;have h1:c.aj=false->bD prog bT 176 (#[]++([]:List Value).toArray++#[aE b3,aE b1,aE b4,aE b2,aE b5]) σ (rl 1 c::a9 I::shA b3 b1 b4 b2 b5 c.G.b s up nm (.func (.func f) a1 caps) A) (MQ σ c eb (ez c I (o+2^15) (a+1) r)):=by
  intro dt;cases up with
  |true=>exact MB hE hJ hb hC dt (hr dt) Zt (hg dt) jg hf
  |false=>obtain rfl:=hut rfl;exact MC hE hJ hb hC dt (hr dt) Zt (hg dt) jg hf
 refine aD.k5 (uc (nm:=nm) (at_:=s) hE h1) ?_ (hr:=.cons Fo.au (.cons Fo.au (.cons Fo.au (.cons Fo.au (.cons Fo.au (.cons Fo.au (.cons Fo.au (dJ.app A))))))));rintro v σ' aO ⟨er,c2,I2,L,h2,h3,rfl,rfl,h4⟩;refine jI ?_;exact aD.db aJ ai ⟨er,c2,I2,L,h2,h3,rfl,rfl,h4⟩
variable{σ:Gh}{c:CV}{i:Int}{I:HL}{eb:Nat->Nat×Nat}{o a:Int}
theorem Gz(hE:ij I eb)(hJ:rY I c)(hb:Mu c)(hC:ns o a c):
  bD prog bT 81 #[aE c.G.b,az i] σ [dK c,a9 I] (CQ σ c I eb agN i (ez c I (o+2^15) (a+1) (fO c.abs 1 i 0))):=by
 refine bD.of ?_;intro Post os out kd F c' cs C aJ ai;refine jI ?_;refine C.bx rfl (λb2=>?_);refine C.bx rfl (λb3=>?_);refine cF ?_;refine C.mf rfl ?_;refine aD.k5 (uc (nm:=agN) (at_:=i) hE λdt=>QF (σ:=σ) (b3:=b3) (b2:=b2) (t:=i) hE hJ hb hC dt) ?_;rintro v σ' aO ⟨er,c2,I2,L,h2,h3,rfl,rfl,h4⟩;refine jI ?_;exact aD.db aJ ai ⟨er,c2,I2,L,h2,h3,rfl,rfl,h4⟩
theorem QO{k:Int}(hk:2<=k/\k<=4)(hJ:rY I c)(hC:ns o a c)(dt:c.aj=false)(h:i<0\/(c.aF.length:Int)<=i):ez c I (o+2^15) (a+1) (fO c.abs k i 0) (some 4) c I:=by rw[DJ (by exact dt) hk,T0 (by rw[CV.fG];exact h)];exact ez.same hJ hC rfl
theorem IW(hE:ij I eb)(hJ:rY I c)(hb:Mu c)(hC:ns o a c):
  bD prog bT 83 #[aE c.G.b,az i] σ [dK c,a9 I] (CQ σ c I eb X9 i (ez c I (o+2^15) (a+1) (fO c.abs 3 i 0))):=by
 refine bD.of ?_;intro Post os out kd F c' cs C aJ ai;refine jI ?_;refine C.bx rfl (λb2=>?_);refine C.bx rfl (λb3=>?_);refine cF ?_;refine C.mf rfl ?_;refine aD.k5 (pK (nm:=X9) (i:=i) (Q:=ez c I (o+2^15) (a+1) (fO c.abs 3 i 0)) (A:=[bX b2 (.cells #[aE c.G.b] 23 (0,0)),bX b3 (.cells #[az i] 3 (0,0))]) hE hb.aF (λh0 hl dt=>?_) (λdt h=>QO ak hJ hC dt h)) ?_
 ·obtain⟨q,rfl⟩:=g7 h0;exact Mv hJ hb hC dt (by simpa using hl)
 rintro v σ' aO ⟨er,c2,I2,L,h2,h3,rfl,rfl,h4⟩;refine jI ?_;exact aD.db aJ ai ⟨er,c2,I2,L,h2,h3,rfl,rfl,h4⟩
theorem AH(hE:ij I eb)(hJ:rY I c)(hb:Mu c)(hC:ns o a c)(hr:c.aj=false->sB σ c)(hD:∀ (q:Nat) (hq:q<c.aF.length),i=q->Kz c c.aF[q])(hS:∀ v∈c.ae,v.s.up=true->qm v.s):
  bD prog bT 82 #[aE c.G.b,az i] σ [dK c,a9 I] (CQ σ c I eb Ya i (ez c I (o+2^15) (a+1) (fO c.abs 2 i 0))):=by
 refine bD.of ?_;intro Post os out kd F c' cs C aJ ai;refine jI ?_;refine C.bx rfl (λb2=>?_);refine C.bx rfl (λb3=>?_);refine cF ?_;refine C.mf rfl ?_;refine aD.k5 (pK (nm:=Ya) (i:=i) (Q:=ez c I (o+2^15) (a+1) (fO c.abs 2 i 0)) (A:=[bX b2 (.cells #[aE c.G.b] 23 (0,0)),bX b3 (.cells #[az i] 3 (0,0))]) hE hb.aF (λh0 hl dt=>?_) (λdt h=>QO ak hJ hC dt h)) ?_
 ·obtain⟨q,rfl⟩:=g7 h0;exact Mz hJ hb hC dt (by simpa using hl) (hr dt) (hD q (by simpa using hl) rfl) hS
 rintro v σ' aO ⟨er,c2,I2,L,h2,h3,rfl,rfl,h4⟩;refine jI ?_;exact aD.db aJ ai ⟨er,c2,I2,L,h2,h3,rfl,rfl,h4⟩
theorem IX(hE:ij I eb)(hJ:rY I c)(hb:Mu c)(hC:ns o a c):
  bD prog bT 84 #[aE c.G.b,az i] σ [dK c,a9 I] (CQ σ c I eb Yb i (ez c I (o+2^15) (a+1) (fO c.abs 4 i 0))):=by
 refine bD.of ?_;intro Post os out kd F c' cs C aJ ai;refine jI ?_;refine C.bx rfl (λb2=>?_);refine cF ?_;refine C.mf rfl ?_;refine aD.k5 (pK (nm:=Yb) (i:=i) (Q:=ez c I (o+2^15) (a+1) (fO c.abs 4 i 0)) (A:=[bX b2 (.cells #[aE c.G.b] 23 (0,0))]) hE hb.aF (λh0 hl dt=>?_) (λdt h=>QO ak hJ hC dt h)) ?_
 ·obtain⟨q,rfl⟩:=g7 h0;exact Mw hE hJ hb hC dt (by simpa using hl)
 rintro v σ' aO ⟨er,c2,I2,L,h2,h3,rfl,rfl,h4⟩;refine jI ?_;exact aD.db aJ ai ⟨er,c2,I2,L,h2,h3,rfl,rfl,h4⟩
def Ye:ByteArray:=⟨#[83,121,110,99]⟩
def Yf:ByteArray:=⟨#[67,114,97,115,104]⟩
def Yg:ByteArray:=⟨#[82,101,115,116,97,114,116]⟩
theorem T5{c:CV}{k s b:Int}{up tk:Bool}{g:dZ->dZ}(dt:c.aj=false)(hk:5<=k/\k<=8)(hu:up=decide (k≠8))(ht:tk=decide (k=6))(hg:∀ z,g z=if k=8 then jo z else if k=5 then sQ z else if k=6 then oP z else m4 z b):T4 c s up tk g (fO c.abs k s b):=by
 have h0:fO c.abs k s b=if s<0\/(c.abs.sh.length:Int)<=s then(c.abs,(6:Int))else match c.abs.sh[s.toNat]? with
  |none=>(c.abs,(6:Int))
  |some z=>if k=8 then(if z.up then(c.abs,(8:Int))else(gX c.abs s.toNat (jo z),(0:Int)))else if !z.up then(c.abs,(7:Int))else if k=5 then(gX c.abs s.toNat (sQ z),(0:Int))else if k=6 then(if 150<c.abs.aF.length then(c.abs,(3:Int))else(gX c.abs s.toNat (oP z),(0:Int)))else(gX c.abs s.toNat (m4 z b),(0:Int)):=by
  unfold fO;rw[aq ak,aq (by show¬ c.aj=true;rw[dt];decide),aq ak,aq ak];rfl
 have hq:∀ (q:Nat) (hq:q<c.ae.length),s=q->fO c.abs k s b=if k=8 then(if(c.ae[q]).s.up then(c.abs,(8:Int))else(gX c.abs q (jo (c.ae[q]).s.abs),(0:Int)))else if !(c.ae[q]).s.up then(c.abs,(7:Int))else if k=5 then(gX c.abs q (sQ (c.ae[q]).s.abs),(0:Int))else if k=6 then(if 150<c.aF.length then(c.abs,(3:Int))else(gX c.abs q (oP (c.ae[q]).s.abs),(0:Int)))else(gX c.abs q (m4 (c.ae[q]).s.abs b),(0:Int)):=by
  rintro q hq rfl;rw[h0,aq (by rw[CV.np];omega),gy];have:c.abs.sh[q]? =some (c.ae[q]).s.abs:=by simp[CV.abs,hq]
  rw[this,CV.fG];rfl
 refine⟨λh=>?_,λq D3 e eL=>?_,λq D3 e eo BO hb=>?_,λq D3 e eo hb=>?_⟩
 ·rw[h0,aK (by rw[CV.np];exact h)]
 ·rw[hq q D3 e];by_cases h8:k=8
  ·subst h8;rw[aK rfl];have hu:up=false:=by simpa using hu
   rw[hu]at eL⊢;rw[aK (by simpa using eL)];rfl
  ·have hu:up=true:=by simpa[h8]using hu
   rw[hu]at eL⊢;rw[aq h8,aK (by simpa using eL)];rfl
 ·have h6:k=6:=by rw[BO]at ht;simpa using ht.symm
  subst h6;have hu:up=true:=by simpa using hu
  rw[hq q D3 e,aq ak,eo,hu,aq (by decide),aq ak,aK rfl,aK hb]
 ·rw[hq q D3 e,hg,eo];by_cases h8:k=8
  ·subst h8;have hu:up=false:=by simpa using hu
   rw[hu,aK rfl,aq (by decide),aK rfl]
  ·have hu:up=true:=by simpa[h8]using hu
   rw[hu,aq h8,aq (by decide),aq h8];by_cases h5:k=5
   ·rw[aK h5,aK h5]
   ·rw[aq h5,aq h5];by_cases h6:k=6
    ·subst h6;rw[aK rfl,aK rfl,aq (by have:=hb (by simpa using ht);omega)]
    ·rw[aq h6,aq h6]
end
section
open Go.Proofs Go.Conc
theorem gn.mono{b:Nat}{I:HL}{o a o' a':Int}{r:dZ}{v:Value}{As:List HP}(h:gn b I o a r v As)(ho:o<=o')(ha:a<=a'):gn b I o' a' r v As:=by obtain⟨I1,s1,h1,h2,h3,h4,h5⟩:=h;exact⟨I1,s1,h1,h2,h3,h4.mono ho ha,h5⟩
def rC:Prop:=∀ {I:HL} {b:Nat} {s:cZ} {o a:Int},ShJ I s->s.log.length<2^15->(∀ tx home ops so,gZ.eK tx home ops so∈s.log->iX ops)->wU o a s->
 aB prog false bG 145 #[aE b] [de b s,a9 I] (gn b I (o+2^15) (a+1) (jo s.abs))
structure MD(c:CV)(k i b:Int):Prop where
 cb:Mu c
 s:k=2\/5<=k->∀ v∈c.ae,v.s.up=true->qm v.s
 d:k=2->∀ (q:Nat) (hq:q<c.aF.length),i=q->Kz c c.aF[q]
 o:∀ v∈c.ae,(k=5->v.s.up=true->(sQ v.s.abs).out.length<2^30)/\(k=6->v.s.up=true->(oP v.s.abs).out.length<2^30)/\(k=7->v.s.up=true->(m4 v.s.abs b).out.length<2^30)/\(k=8->v.s.up=false->(jo v.s.abs).out.length<2^30)
 r:k=8->rC/\∀ v∈c.ae,v.s.log.length<2^15/\∀ tx home ops so,gZ.eK tx home ops so∈v.s.log->iX ops
section
variable{σ:Gh}{c:CV}{i b:Int}{I:HL}{eb:Nat->Nat×Nat}{o a:Int}
theorem IY(hE:ij I eb)(hJ:rY I c)(hC:ns o a c)(hr:c.aj=false->sB σ c)(hO:MD c 5 i b):
  bD prog bT 85 #[aE c.G.b,az i] σ [dK c,a9 I] (CQ σ c I eb Ye i (ez c I (o+2^15) (a+1) (fO c.abs 5 i b))):=by
 refine bD.of ?_;intro Post os out kd F c' cs C aJ ai;refine H0 ?_;refine aD.k5 (nR (f:=141) (nm:=Ye) (s:=i) (up:=true) (tk:=false) (a1:=#[]) (caps:=#[]) (A:=[]) (g:=sQ) hE hJ hO.cb hC hr (by decide+kernel) (λ_=>rfl) (λdt=>T5 (k:=5) (b:=b) dt ak (by decide) (by decide) (λz=>by rw[aq ak,aK rfl])) (λv hv hu=>(hO.o v hv).1 rfl hu)
  (λv hv hu=>(It (hJ.sh v hv) (hO.s ak v hv hu) (hC v hv)).post λ_ _ q=>q.mono ak ak)) ?_
 rintro v σ' aO ⟨er,c2,I2,L,h2,h3,rfl,rfl,h4⟩;refine jI ?_;exact aD.db aJ ai ⟨er,c2,I2,L,h2,h3,rfl,rfl,h4⟩
theorem IZ(hE:ij I eb)(hJ:rY I c)(hC:ns o a c)(hr:c.aj=false->sB σ c)(hO:MD c 6 i b):
  bD prog bT 86 #[aE c.G.b,az i] σ [dK c,a9 I] (CQ σ c I eb MA i (ez c I (o+2^15) (a+1) (fO c.abs 6 i b))):=by
 refine bD.of ?_;intro Post os out kd F c' cs C aJ ai;refine H0 ?_;refine aD.k5 (nR (f:=142) (nm:=MA) (s:=i) (up:=true) (tk:=true) (a1:=#[]) (caps:=#[]) (A:=[]) (g:=oP) hE hJ hO.cb hC hr (by decide+kernel) (λh=>by cases h) (λdt=>T5 (k:=6) (b:=b) dt ak (by decide) (by decide) (λz=>by rw[aq ak,aq ak,aK rfl])) (λv hv hu=>(hO.o v hv).2.1 rfl hu)
  (λv hv hu=>Is (hJ.sh v hv) (hO.s ak v hv hu) (hC v hv))) ?_
 rintro v σ' aO ⟨er,c2,I2,L,h2,h3,rfl,rfl,h4⟩;refine jI ?_;exact aD.db aJ ai ⟨er,c2,I2,L,h2,h3,rfl,rfl,h4⟩
theorem GA{bs b5:Nat}{s:cZ}{keep:Int}(hJ:ShJ I s)(hb:qm s)(hC:wU o a s):aB prog false bG 143 (#[]++[aE bs].toArray++#[aE b5]) (de bs s::a9 I::[bX b5 (.cells #[az keep] 3 (0,0))]) (gn bs I (o+2^15) (a+1) (m4 s.abs keep)):=by refine aB.of λR C kd d F c cs aJ ai=>?_;refine sX ?_;refine C.dk (F0 hJ hb hC) ?_;rintro v aO ⟨I1,s',fD,qD,kU,LQ,rfl⟩;refine k8 ?_;exact C.cQ aJ ai ⟨I1,s',fD,qD,kU,LQ.mono ak ak,rfl⟩
theorem GB(hE:ij I eb)(hJ:rY I c)(hC:ns o a c)(hr:c.aj=false->sB σ c)(hO:MD c 7 i b):
  bD prog bT 87 #[aE c.G.b,az i,az b] σ [dK c,a9 I] (CQ σ c I eb Yf i (ez c I (o+2^15) (a+1) (fO c.abs 7 i b))):=by
 refine bD.of ?_;intro Post os out kd F c' cs C aJ ai;refine jI ?_;refine C.bx rfl (λb5=>?_);refine cF ?_;refine C.mf rfl ?_;refine aD.k5 (nR (f:=143) (nm:=Yf) (s:=i) (up:=true) (tk:=false) (a1:=#[]) (caps:=#[aE b5]) (A:=[bX b5 (.cells #[az b] 3 (0,0))]) (g:=λz=>m4 z b) hE hJ hO.cb hC hr (by decide+kernel) (λ_=>rfl) (λdt=>T5 (k:=7) (b:=b) dt ak (by decide) (by decide) (λz=>by rw[aq ak,aq ak,aq ak])) (λv hv hu=>(hO.o v hv).2.2.1 rfl hu)
  (λv hv hu=>GA (hJ.sh v hv) (hO.s ak v hv hu) (hC v hv))) ?_
 rintro v σ' aO ⟨er,c2,I2,L,h2,h3,rfl,rfl,h4⟩;refine jI ?_;exact aD.db aJ ai ⟨er,c2,I2,L,h2,h3,rfl,rfl,h4⟩
theorem AJ(hE:ij I eb)(hJ:rY I c)(hC:ns o a c)(hr:c.aj=false->sB σ c)(hO:MD c 8 i b):
  bD prog bT 88 #[aE c.G.b,az i] σ [dK c,a9 I] (CQ σ c I eb Yg i (ez c I (o+2^15) (a+1) (fO c.abs 8 i b))):=by
 refine bD.of ?_;intro Post os out kd F c' cs C aJ ai;refine H0 ?_;refine aD.k5 (nR (f:=145) (nm:=Yg) (s:=i) (up:=false) (tk:=false) (a1:=#[]) (caps:=#[]) (A:=[]) (g:=jo) hE hJ hO.cb hC hr (by decide+kernel) (λ_=>rfl) (λdt=>T5 (k:=8) (b:=b) dt ak (by decide) (by decide) (λz=>by rw[aK rfl])) (λv hv hu=>(hO.o v hv).2.2.2 rfl hu)
  (λv hv _=>(hO.r rfl).1 (hJ.sh v hv) ((hO.r rfl).2 v hv).1 ((hO.r rfl).2 v hv).2 (hC v hv))) ?_
 rintro v σ' aO ⟨er,c2,I2,L,h2,h3,rfl,rfl,h4⟩;refine jI ?_;exact aD.db aJ ai ⟨er,c2,I2,L,h2,h3,rfl,rfl,h4⟩
end
end
section
open Go.Proofs Go.Conc
theorem T6{w:WP}{k i b:Int}(hk:k<=4):fO w k i b=fO w k i 0:=by unfold fO;rw[aK hk,aK hk]
theorem T7{w:WP}{k i b:Int}(hk:1<=k/\k<=8)(hs:w.aj=true):fO w k i b=(w,9):=by unfold fO;rw[aq ak,aK hs]
theorem T8{w:WP}{k i b:Int}(hk:k<1\/8<k):fO w k i b=(w,0):=by unfold fO;rw[aK hk]
theorem nS{c c':CV}{I I':HL}{o a:Int}{er:Option Nat}{k i b:Int}(hk:1<=k/\k<=8)(hJ:rY I c)(hC:ns o a c)(h:(c.aj=true/\er=some 8/\c'=c/\I'=I)\/(c.aj=false/\ez c I (o+2^15) (a+1) (fO c.abs k i b) er c' I')):ez c I (o+2^15) (a+1) (fO c.abs k i b) er c' I':=by
 rcases h with⟨hs,rfl,rfl,rfl⟩|⟨_,h⟩
 ·rw[T7 hk (by exact hs)];exact ez.same hJ hC rfl
 ·exact h
theorem QP{σ:Gh}{c:CV}{k i b:Int}{I:HL}{eb:Nat->Nat×Nat}{o a:Int}(hE:ij I eb)(hJ:rY I c)(hC:ns o a c)(hr:c.aj=false->sB σ c)(hO:MD c k i b):
  bD prog bT 42 #[aE c.G.b,az k,az i,az b] σ [dK c,a9 I] (λv σ' As=>∃ er c' I',σ'=σ/\v=az (xC er)/\ez c I (o+2^15) (a+1) (fO c.abs k i b) er c' I'/\As=[dK c',a9 I']):=by
 refine bD.of ?_;intro Post os out kd F c' cs C aJ ai;refine Ls ?_;refine C.cmp rfl (λq7=>?_) (λq7=>?_)
 ·refine da ?_;obtain rfl:k=1:=q7;refine da ?_;refine aD.k5 (Gz hE hJ hO.cb hC) ?_;rintro v σ' aO ⟨er,c2,I2,L,n4,Gv,rfl,rfl,h4⟩;rw[T6 (b:=b) ak]at ai;have hS:=nS ak hJ hC h4;have I0:=hE.mono hS.sub;cases er
  ·refine fy ?_;obtain⟨rfl,rfl⟩:=n4;refine bI ?_;refine C.cE (aB.less (cH _) fS) (A:=[]) ?_;refine pb ?_;refine bj ?_;exact aD.db aJ ai ⟨none,c2,I2,rfl,rfl,hS,rfl⟩
  ·refine fy ?_;rename_i kk;obtain⟨bE,rfl,rfl⟩:=n4;refine bI ?_;refine C.cE (gP I0 (bE:=bE) (k:=kk) (nm:=agN) (at_:=i) (Gv kk rfl)) ?_;refine jI ?_;exact aD.db aJ ai ⟨some kk,c2,I2,rfl,rfl,hS,rfl⟩
 ·refine cN ?_;refine C.cmp rfl (λZi=>?_) (λZi=>?_)
  ·refine da ?_;obtain rfl:k=2:=Zi;refine da ?_;refine aD.k5 (AH hE hJ hO.cb hC hr (hO.d rfl) (hO.s ak)) ?_;rintro v σ' aO ⟨er,c2,I2,L,n4,Gv,rfl,rfl,h4⟩;rw[T6 (b:=b) ak]at ai;have hS:=nS ak hJ hC h4;have I0:=hE.mono hS.sub;cases er
   ·refine fy ?_;obtain⟨rfl,rfl⟩:=n4;refine bI ?_;refine C.cE (aB.less (cH _) fS) (A:=[]) ?_;refine pb ?_;refine bj ?_;exact aD.db aJ ai ⟨none,c2,I2,rfl,rfl,hS,rfl⟩
   ·refine fy ?_;rename_i kk;obtain⟨bE,rfl,rfl⟩:=n4;refine bI ?_;refine C.cE (gP I0 (bE:=bE) (k:=kk) (nm:=Ya) (at_:=i) (Gv kk rfl)) ?_;refine jI ?_;exact aD.db aJ ai ⟨some kk,c2,I2,rfl,rfl,hS,rfl⟩
  ·refine cN ?_;refine C.cmp rfl (λz9=>?_) (λz9=>?_)
   ·refine da ?_;obtain rfl:k=3:=z9;refine da ?_;refine aD.k5 (IW hE hJ hO.cb hC) ?_;rintro v σ' aO ⟨er,c2,I2,L,n4,Gv,rfl,rfl,h4⟩;rw[T6 (b:=b) ak]at ai;have hS:=nS ak hJ hC h4;have I0:=hE.mono hS.sub;cases er
    ·refine fy ?_;obtain⟨rfl,rfl⟩:=n4;refine bI ?_;refine C.cE (aB.less (cH _) fS) (A:=[]) ?_;refine pb ?_;refine bj ?_;exact aD.db aJ ai ⟨none,c2,I2,rfl,rfl,hS,rfl⟩
    ·refine fy ?_;rename_i kk;obtain⟨bE,rfl,rfl⟩:=n4;refine bI ?_;refine C.cE (gP I0 (bE:=bE) (k:=kk) (nm:=X9) (at_:=i) (Gv kk rfl)) ?_;refine jI ?_;exact aD.db aJ ai ⟨some kk,c2,I2,rfl,rfl,hS,rfl⟩
   ·refine cN ?_;refine C.cmp rfl (λNp=>?_) (λNp=>?_)
    ·refine da ?_;obtain rfl:k=4:=Np;refine da ?_;refine aD.k5 (IX hE hJ hO.cb hC) ?_;rintro v σ' aO ⟨er,c2,I2,L,n4,Gv,rfl,rfl,h4⟩;rw[T6 (b:=b) ak]at ai;have hS:=nS ak hJ hC h4;have I0:=hE.mono hS.sub;cases er
     ·refine fy ?_;obtain⟨rfl,rfl⟩:=n4;refine bI ?_;refine C.cE (aB.less (cH _) fS) (A:=[]) ?_;refine pb ?_;refine bj ?_;exact aD.db aJ ai ⟨none,c2,I2,rfl,rfl,hS,rfl⟩
     ·refine fy ?_;rename_i kk;obtain⟨bE,rfl,rfl⟩:=n4;refine bI ?_;refine C.cE (gP I0 (bE:=bE) (k:=kk) (nm:=Yb) (at_:=i) (Gv kk rfl)) ?_;refine jI ?_;exact aD.db aJ ai ⟨some kk,c2,I2,rfl,rfl,hS,rfl⟩
    ·refine cN ?_;refine C.cmp rfl (λNj=>?_) (λNj=>?_)
     ·refine da ?_;obtain rfl:k=5:=Nj;refine da ?_;refine aD.k5 (IY hE hJ hC hr hO) ?_;rintro v σ' aO ⟨er,c2,I2,L,n4,Gv,rfl,rfl,h4⟩;have hS:=nS ak hJ hC h4;have I0:=hE.mono hS.sub;cases er
      ·refine fy ?_;obtain⟨rfl,rfl⟩:=n4;refine bI ?_;refine C.cE (aB.less (cH _) fS) (A:=[]) ?_;refine pb ?_;refine bj ?_;exact aD.db aJ ai ⟨none,c2,I2,rfl,rfl,hS,rfl⟩
      ·refine fy ?_;rename_i kk;obtain⟨bE,rfl,rfl⟩:=n4;refine bI ?_;refine C.cE (gP I0 (bE:=bE) (k:=kk) (nm:=Ye) (at_:=i) (Gv kk rfl)) ?_;refine jI ?_;exact aD.db aJ ai ⟨some kk,c2,I2,rfl,rfl,hS,rfl⟩
     ·refine cN ?_;refine C.cmp rfl (λZj=>?_) (λZj=>?_)
      ·refine da ?_;obtain rfl:k=6:=Zj;refine da ?_;refine aD.k5 (IZ hE hJ hC hr hO) ?_;rintro v σ' aO ⟨er,c2,I2,L,n4,Gv,rfl,rfl,h4⟩;have hS:=nS ak hJ hC h4;have I0:=hE.mono hS.sub;cases er
       ·refine fy ?_;obtain⟨rfl,rfl⟩:=n4;refine bI ?_;refine C.cE (aB.less (cH _) fS) (A:=[]) ?_;refine pb ?_;refine bj ?_;exact aD.db aJ ai ⟨none,c2,I2,rfl,rfl,hS,rfl⟩
       ·refine fy ?_;rename_i kk;obtain⟨bE,rfl,rfl⟩:=n4;refine bI ?_;refine C.cE (gP I0 (bE:=bE) (k:=kk) (nm:=MA) (at_:=i) (Gv kk rfl)) ?_;refine jI ?_;exact aD.db aJ ai ⟨some kk,c2,I2,rfl,rfl,hS,rfl⟩
      ·refine cN ?_;refine C.cmp rfl (λh53=>?_) (λh53=>?_)
       ·refine da ?_;obtain rfl:k=7:=h53;refine cN ?_;refine aD.k5 (GB hE hJ hC hr hO) ?_;rintro v σ' aO ⟨er,c2,I2,L,n4,Gv,rfl,rfl,h4⟩;have hS:=nS ak hJ hC h4;have I0:=hE.mono hS.sub;cases er
        ·refine fy ?_;obtain⟨rfl,rfl⟩:=n4;refine bI ?_;refine C.cE (aB.less (cH _) fS) (A:=[]) ?_;refine pb ?_;refine bj ?_;exact aD.db aJ ai ⟨none,c2,I2,rfl,rfl,hS,rfl⟩
        ·refine fy ?_;rename_i kk;obtain⟨bE,rfl,rfl⟩:=n4;refine bI ?_;refine C.cE (gP I0 (bE:=bE) (k:=kk) (nm:=Yf) (at_:=i) (Gv kk rfl)) ?_;refine jI ?_;exact aD.db aJ ai ⟨some kk,c2,I2,rfl,rfl,hS,rfl⟩
       ·refine cN ?_;refine C.cmp rfl (λDh=>?_) (λDh=>?_)
        ·refine da ?_;obtain rfl:k=8:=Dh;refine da ?_;refine aD.k5 (AJ hE hJ hC hr hO) ?_;rintro v σ' aO ⟨er,c2,I2,L,n4,Gv,rfl,rfl,h4⟩;have hS:=nS ak hJ hC h4;have I0:=hE.mono hS.sub;cases er
         ·refine fy ?_;obtain⟨rfl,rfl⟩:=n4;refine bI ?_;refine C.cE (aB.less (cH _) fS) (A:=[]) ?_;refine pb ?_;refine bj ?_;exact aD.db aJ ai ⟨none,c2,I2,rfl,rfl,hS,rfl⟩
         ·refine fy ?_;rename_i kk;obtain⟨bE,rfl,rfl⟩:=n4;refine bI ?_;refine C.cE (gP I0 (bE:=bE) (k:=kk) (nm:=Yg) (at_:=i) (Gv kk rfl)) ?_;refine jI ?_;exact aD.db aJ ai ⟨some kk,c2,I2,rfl,rfl,hS,rfl⟩
        ·refine dm ?_;have hd:=T8 (w:=c.abs) (k:=k) (i:=i) (b:=b) ak;exact aD.db aJ ai ⟨none,c,I,rfl,rfl,by rw[hd];exact ez.same hJ hC rfl,rfl⟩
variable{t:Nat}{W:WP}{w:WR}
theorem jf.shb(I:jf t w)(H:gw W w)(ht:t<=2^41){s:ShR}(hs:s∈w.sh)(c:Int)(hc:s.clock<=c/\c<=s.clock+1):Qn {s with clock:=c}:=by
 obtain⟨z,g1,g2,h4,h5⟩:=I.size H hs;have hn:=H.n;have DD:=z.clock;have jV:=z.log;have oL:=z.aH;have HS:=z.under;have RH:=z.timers;have De:=z.waits;exact⟨by show 0<s.n/\s.n<=4;omega,by show s.log.length<_;omega,λr hr=>⟨(z.tQ r hr).1,by have:=(z.tQ r hr).2;omega⟩,⟨g1,g2⟩,z.bH,by show s.aH.length<_;omega,by show s.under.length<_;omega,λu hu=>by obtain⟨a1,a2,a3⟩:=z.cq u hu;exact⟨⟨λo ho=>⟨(a3.1 o ho).1,(a3.1 o ho).2.1⟩,by have:=a3.2.2.2;omega⟩,ak,ak⟩,by show s.timers.length<_;omega,by show s.waits.length<_;omega,by show s.out.length<_;rw[h5];decide,by show 0<=c/\c<_;omega⟩
theorem jf.wbr(I:jf t w)(H:gw W w)(ht:t<=2^41):WBR w:=by
 refine⟨H.n,λs hs=>(I.size H hs).2.2.2.1,λs hs=>⟨?_,?_,?_,?_⟩,?_,λm hm=>⟨⟨(H.PD hm).1,?_⟩,H.mto hm⟩,H.W2,λx hx=>⟨⟨(H.HW hx).1,?_⟩,(H.HW hx).2.2⟩⟩
 ·exact I.shb H ht hs s.clock ⟨sD _,ak⟩
 ·have:=(I.size H hs).1.log;omega
 ·exact I.shb H ht hs (s.clock+1) ⟨ak,sD _⟩
 ·have h5:=(I.size H hs).2.2.2.2;have h6:=(I.size H hs).1.timers;have h7:sk {s with clock:=s.clock+1}<=s.timers.length:=pN _ _;show s.out.length+5*sk {s with clock:=s.clock+1}<_;rw[show s.out.length=0 by rw[h5];rfl];omega
 ·have:=I.aF;omega
 ·have:=(H.PD hm).2;omega
 ·have:=(H.HW hx).2.1;omega
theorem jf.sV(I:jf t w)(H:gw W w):∀ s∈w.sh,∀ m∈w.aF,(jF s m).out.length<2^30:=λs hs m hm=>by have:=I.take H hs hm;omega
theorem Ca{A B:Type}{f:A->B}:∀ {l:List A},(l.map f).Nodup->∀ {a b:A},a∈l->b∈l->f a=f b->a=b
 |[],_,_,_,h,_,_=>by cases h
 |x::l,h,a,b,ha,hb,e=>by
  have nd:=sf.1 (show(f x::l.map f).Nodup from h);rcases gq.1 ha with rfl|JA<;>rcases gq.1 hb with rfl|nZ
  ·rfl
  ·exact(nd.1 (bL.2 ⟨b,nZ,e.symm⟩)).elim
  ·exact(nd.1 (bL.2 ⟨a,JA,e⟩)).elim
  ·exact Ca nd.2 JA nZ e
theorem ME{V:Type}{l m:List (Int×V)}(hl:(l.map (·.1)).Nodup)(hm:(m.map (·.1)).Nodup)(h:∀ p,p∈l↔p∈m)(k:Int):aC l k=aC m k:=by
 cases e:aC m k with
 |some v=>exact ed hl ((h _).2 (bU e))
 |none=>
  cases e2:aC l k with
  |none=>rfl
  |some v=>
   have:=ed hm ((h _).1 (bU e2));rw[e]at this;cases this
theorem KL.Yh{E:List a7}{P:dZ}{L:List gz}{V:List Int}(H:KL E P L V)(hz:∀ x∈V,Nr x):TW P.values V:=by
 refine⟨H.Aw,hz,λl' lP hp=>?_⟩;have hm:∀ p,p∈l'↔p∈P.values/\p.2≠0:=λp=>by rw[hp.mem_iff,iU];simp
 have hg:∀ x,(aC l' x).getD 0=(aC P.values x).getD 0:=λx=>by
  cases e:aC l' x with
  |some w=>
   have:=(hm _).1 (bU e);rw[ed H.vn this.1]
  |none=>
   cases e2:aC P.values x with
   |none=>rfl
   |some w=>
    by_cases hw:w=0
    ·subst hw;rfl
    ·have:=ed lP ((hm (x,w)).2 ⟨bU e2,hw⟩);rw[e]at this;cases this
 have hv:∀ k:Nat,k<26->(aC P.values (97+(k:Int))).getD 0=V[k]?.getD 0:=λk hk=>by rw[H.bH (97+(k:Int)) ak ak,show(97+(k:Int)-97).toNat=k by omega]
 constructor
 ·refine N3 (by rw[jZ,H.Aw]) λi h1 h2=>?_;have hi:i<26:=by rw[jZ]at h1;exact h1
  rw[vp 0 l' hi,hg,hv i hi,fp h2];rfl
 ·have hV:V=(List.range 26).map λk=>V[k]?.getD 0:=by refine N3 (by rw[dd,List.length_range,H.Aw]) λi h1 h2=>?_;rw[qx,List.getElem_range,fp h1];rfl
  have hc:zL V=((List.range 26).filter λk=>V[k]?.getD 0 != 0).length:=by
   conv=>lhs;rw[hV]
   unfold zL;rw[List.filter_map,dd];rfl
  rw[hc];refine N4 ?_ ?_
  ·have:=mJ (b:=((List.range 26).filter λk=>V[k]?.getD 0 != 0).map λ(k:Nat)=>97+(k:Int)) lP λx hx=>by obtain⟨p,D6,rfl⟩:=bL.1 hx;obtain⟨h1,h2⟩:=(hm p).1 D6;have hk:=H.vk p h1;refine bL.2 ⟨(p.1-97).toNat,iU.2 ⟨mM.2 ak,?_⟩,ak⟩;have:=hv (p.1-97).toNat ak;rw[show(97:Int)+((p.1-97).toNat:Int)=p.1 by omega,ed H.vn (show(p.1,p.2)∈P.values from h1)]at this;rw[<- this];simpa using h2
   simpa using this
  ·have:=mJ (a:=((List.range 26).filter λk=>V[k]?.getD 0 != 0).map λ(k:Nat)=>97+(k:Int)) (b:=l'.map (·.1)) ?_ λx hx=>by
    obtain⟨k,hk,rfl⟩:=bL.1 hx;obtain⟨h1,h2⟩:=iU.1 hk;have h1:=mM.1 h1;have h3:=hv k h1;have h2:V[k]?.getD 0≠0:=by simpa using h2
    rw[<- h3]at h2;cases e:aC P.values (97+(k:Int))with
    |none=>rw[e]at h2;exact absurd rfl h2
    |some w=>
     rw[e]at h2;exact bL.2 ⟨(97+(k:Int),w),(hm _).2 ⟨bU e,h2⟩,rfl⟩
   ·simpa using this
   ·exact List.Pairwise.map _ (λa b h=>by omega) (List.nodup_range.filter _)
theorem KL.Yi{E:List a7}{P:dZ}{L:List gz}{V:List Int}(H:KL E P L V)(hr:∀ h∈L,97<=h.key/\h.key<=122):TX P.aH L:=by
 have hf:∀ h∈L,L.find? (λx=>x.key==h.key)=some h:=λh hh=>by
  cases e:L.find? (λx=>x.key==h.key)with
  |none=>have:=Jo.1 e h hh;simp at this
  |some g=>
   have h1:=NQ e;have h2:=AV e;rw[Ca H.ln h2 hh (by simpa using h1)]
 refine⟨hr,λl' lP hp=>⟨?_,λh hh=>?_⟩⟩
 ·rw[hp.length_eq];refine N4 ?_ ?_
  ·have:=mJ (b:=L.map (·.key)) H.pl λx hx=>by
    obtain⟨p,D6,rfl⟩:=bL.1 hx;have h1:=ed H.pl (show(p.1,p.2)∈P.aH from D6);rw[H.lock]at h1;cases e:L.find? (λx=>x.key==p.1)with
    |none=>rw[e]at h1;cases h1
    |some g=>exact bL.2 ⟨g,AV e,by have:=NQ e;simpa using this⟩
   simpa using this
  ·have:=mJ (a:=L.map (·.key)) (b:=P.aH.map (·.1)) H.ln λx hx=>by obtain⟨h,hh,rfl⟩:=bL.1 hx;have h1:=H.lock h.key;rw[hf h hh]at h1;exact bL.2 ⟨_,bU h1,rfl⟩
   simpa using this
 ·rw[ME lP H.pl (λp=>hp.mem_iff),H.lock,hf h hh];rfl
variable{T:List (List cy)}{n:Int}{P:dZ}{R:ShR}
theorem dP.Yh(H:dP T n P R)(hz:∀ x∈R.bH,Nr x):TW P.values R.bH:=by
 cases hu:R.up with
 |true=>exact(H.kl hu).Yh hz
 |false=>
  obtain⟨h1,_,h3,_⟩:=H.dn hu;rw[h1,h3];refine⟨rfl,λx hx=>by rw[Ux hx];exact⟨by decide,by decide⟩,λl' lP hp=>?_⟩;obtain rfl:l'=[]:=by simpa using hp
  exact⟨Gp 0,rfl⟩
theorem dP.Yi(H:dP T n P R)(hT:z4 T):TX P.aH R.aH:=by
 cases hu:R.up with
 |true=>
  refine(H.kl hu).Yi λh hh=>?_;obtain⟨i,r,h1,h2,o,h3,h4⟩:=(H.kl hu).lk h hh;obtain⟨ops,h5,_,h6,_⟩:=H.CP.ready h1 h2;rw[h6]at h3;rw[<- h4];exact(hT.of h5).key o h3
 |false=>
  obtain⟨_,h2,_,h4,_⟩:=H.dn hu;rw[h2,h4];refine⟨by simp,λl' lP hp=>?_⟩;obtain rfl:l'=[]:=by simpa using hp
  exact⟨rfl,by simp⟩
theorem Yj{A B:Type}{r:A->B->Prop}{l:List A}{m:List B}(h:F2 r l m):∀ a∈l,∃ b∈m,r a b:=by
 induction h with
 |nil=>intro a ha;cases ha
 |@cons x y l m h _ ih=>
  intro a ha;rcases gq.1 ha with rfl|ha
  ·exact⟨y,iI ..,h⟩
  ·obtain⟨b,hb,hr⟩:=ih a ha;exact⟨b,gu _ hb,hr⟩
theorem fb.abQ{l:List cy}(h:fb l):iX l:=⟨λo ho=>⟨(h.1 o ho).1,(h.1 o ho).2.1⟩,by have:=h.2.2.2;omega⟩
theorem iX.part{l:List cy}(h:iX l)(k n:Int):iX (aY l k n):=⟨λo ho=>h.1 o (iU.1 ho).1,yh (pN _ _) h.2⟩
variable{s:cZ}
theorem dP.Yk(H:dP T n s.abs R)(hT:z4 T)(z:y4 t R)(hn:1<=n/\n<=4)(ht:t<=2^41)(hC:wU (t*2^15) t s)(hu:R.up=true)(ho:R.out=[]):qm s:=by
 have jV:s.log.length=R.log.length:=by have:=congrArg List.length H.log;simpa[cZ.abs]using this
 have RH:s.timers.length=R.timers.length:=by have:=congrArg List.length H.timers;simpa[cZ.abs]using this
 have De:s.waits.length=R.waits.length:=by have:=congrArg List.length H.waits;simpa[cZ.abs]using this
 have hou:s.out.length=R.out.length:=by have:=congrArg List.length H.out;simpa[cZ.abs]using this
 have Y8:s.aX=R.aX:=H.aX;have DD:s.clock=R.clock:=H.clock;have hgl:=H.gl;have yz:s.n=n:=H.n1;have hK:=H.kl hu;have hlg:=H.log;refine⟨ak,by have:=z.log;omega,ak,by have:=z.timers;omega,by have:=z.waits;omega,by rw[hou,ho];decide,by have:=z.clock;omega,by have:=hC.o;omega,λu JQ=>?_,λu JQ p hp=>by have:=hC.a u JQ p hp;omega,λtx p hp=>?_,λtx p hp=>?_⟩
 ·obtain⟨b,hb,hr⟩:=Yj (H.cq hu) (u.1,u.2.abs) (bL.2 ⟨u,JQ,rfl⟩);have h1:=hT.of hr.ops;have h2:u.2.ops=b.ops:=hr.ua.ops;rw[h2];exact h1.abQ
 ·have h1:=hK.bB tx;have h2:aC s.abs.bB tx=some p.abs:=by show aC (s.bB.map λp=>(p.1,p.2.abs)) tx=_;rw[uS (w:=λv:qk=>v.abs),hp];rfl
  rw[h2]at h1;cases e:bJ (s.abs.log.map a7.bk) tx with
  |none=>rw[e]at h1;cases h1
  |some i=>
   rw[e]at h1;simp only[nU]at h1;cases e2:(s.abs.log.map a7.bk)[i]? with
   |none=>rw[e2]at h1;cases h1
   |some r=>
    rw[e2]at h1;have h3:p.ops=r.ops:=congrArg yD.ops (bY h1);obtain⟨ops,h5,_,h6,_⟩:=H.CP.ready e e2;rw[h3,h6];exact(hT.of h5).abQ.part _ _
 ·have h1:=hK.cf tx;have h2:aC s.abs.cf tx=some p:=hp;rw[h2]at h1;cases e:bF (s.abs.log.map a7.bk) 2 tx with
  |none=>rw[e]at h1;cases h1
  |some i=>
   rw[e]at h1;simp only[nU]at h1;have hi:=(dO e).1;cases e2:(s.abs.log.map a7.bk)[i]? with
   |none=>rw[e2]at h1;cases h1
   |some r=>
    rw[e2]at h1;have h3:p.pl=i:=congrArg gV.pl (bY h1);have h4:(s.abs.log.map a7.bk).length=s.log.length:=by simp[cZ.abs]
    omega
theorem rD(u:gU)(n:Int):∀ (l:List cy) (used:Int->Nat),(eG u n l used).length<=l.length
 |[],_=>eC _
 |o::l,used=>by
  unfold eG;split
  ·exact Eo (rD u n l used)
  ·exact Nat.succ_le_succ (rD u n l _)
theorem T9{P:dZ}{m:MsgR}(H:dP T n P R)(hT:z4 T)(hn:0<n)(eo:R.up=true)(hm:jq T n m)(hk:m.kind=3):zq P m:=by
 obtain⟨ops,ho,hc⟩:=hm;have hc:m.to=gf ops n/\cr ops m.aV n=true/\(m.yes=true->m.reads.length=J6 (aY ops m.aV n)):=by rcases hc with h|h|h|h|h|h|h<;>first|exact⟨h.2.1,h.2.2.1,h.2.2.2.1⟩|(have:=h.1;omega)
 obtain⟨c1,c2,c3⟩:=hc;have hr:=hT.of ho;intro a ha aaL hy we;rcases oU (H.cq eo) m.tx with⟨u1,_⟩|⟨i,a',u,u1,u2,u3,u4,hu⟩
 ·rw[u1]at ha;cases ha
 ·rw[u1]at ha;obtain rfl:=bY ha;have cJ:u.ops=ops:=by have:=hu.ops;rw[u4,ho]at this;exact(bY this).symm
  have Ay:(aC a'.aT m.aV).isSome=(bP u m.aV).isSome:=by rw[hu.ua.aT];simp
  obtain⟨v1,qd⟩:∃ v1,v1=(if(m.yes&& !(bP u m.aV).isSome)=true then{u with aT:=u.aT++[⟨m.aV,m.reads⟩]}else u):=⟨_,rfl⟩;obtain⟨a1,M3⟩:∃ a1,a1=Ee a' m:=⟨_,rfl⟩;have Ua:a1=(if(m.yes&& !(bP u m.aV).isSome)=true then{a' with aT:=bA a'.aT m.aV m.reads}else a'):=by rw[M3];unfold Ee;rw[Ay]
  have mA:kP T n R.me (m.tx,a1) v1:=by
   by_cases hb:(m.yes&& !(bP u m.aV).isSome)=true
   ·rw[aK hb]at Ua qd;rw[Ua,qd];have nZ:m.yes=true/\(bP u m.aV).isSome=false:=by simpa using hb
    refine⟨hu.tx,⟨hu.ua.ops,hu.ua.dec,hu.ua.yes,λk=>?_,e9 hu.ua.vn,hu.ua.an,hu.ua.bK,hu.ua.ap,λp hp=>?_,hu.ua.at'⟩,hu.ops,hu.home⟩
    ·show aC (bA a'.aT m.aV m.reads) k=_;rw[fF,hu.ua.aT];unfold bP;simp only;rw[NN];by_cases e:k=m.aV
     ·subst e;have:List.find? (λv=>v.aV==m.aV) u.aT=none:=by have:=nZ.2;unfold bP at this;simpa using this
      simp[this]
     ·have:(m.aV==k)=false:=by simpa using λz=>e z.symm
      simp[e,this]
    ·rcases dY hp with rfl|hp
     ·show cr u.ops m.aV n=true/\m.reads.length=J6 (aY u.ops m.aV n);rw[cJ];exact⟨c2,c3 nZ.1⟩
     ·exact hu.ua.vt p hp
   ·rw[aq hb]at Ua qd;rw[Ua,qd];exact hu
  have Pr:v1.ops=ops:=by rw[qd];split<;>exact cJ
  have EF:a1.ops=ops:=mA.ua.ops.trans Pr;unfold kV at we;rw[<- M3,hy,H.n1,EF]at we;have hlen:(dB ops n).length<=a1.aT.length:=by simpa using we
  have je:=(tK (n:=n) (ops:=ops) mA.ua.vn (λp hp=>by have:=(mA.ua.vt p hp).1;rw[Pr]at this;exact this)).1 hlen;refine⟨jH v1 n,?_,?_⟩
  ·rw[<- M3,H.n1];exact Fh mA.ua (by rw[Pr];exact je)
  ·have h1:=rD v1 n v1.ops (λ_=>0);have h2:=hr.2.2.2;rw[Pr]at h1;unfold jH;rw[Pr];omega
end
section
open Go.Proofs Go.Conc
structure dA(I:HL)(t:Nat)(c:CV)(w:WV):Prop where
 rel:gw c.abs w.abs
 inv:jf t w.abs
 RQ:tR Nr w.abs
 J:rY I c
 W:WI I w
 cn:ns (t*2^15) t c
 lt:t<=2^41
variable{I:HL}{t:Nat}{c:CV}{w:WV}
theorem dA.len(h:dA I t c w):c.ae.length=w.sh.length:=by have:=h.rel.len;simpa[CV.abs,WV.abs]using this
theorem dA.n(h:dA I t c w):1<=c.ae.length/\c.ae.length<=4:=by have:=h.rel.n;rw[WV.np]at this;rw[h.len];exact this
theorem dA.aF(h:dA I t c w):c.aF.map (·.toMsgR)=w.aF.map (·.toMsgR):=h.rel.aF
theorem dA.aL(h:dA I t c w):c.aL.map (·.toTxR)=w.aL.map (·.toTxR):=h.rel.aL
theorem dA.at(h:dA I t c w){q:Nat}(h1:q<c.ae.length)(h2:q<w.sh.length):dP (lT w.abs.aL) w.sh.length (c.ae[q]).s.abs (w.sh[q]).2.abs/\y4 t (w.sh[q]).2.abs/\(w.sh[q]).2.abs.out=[]/\(w.sh[q]).2.abs.me=q:=by
 have e1:c.abs.sh[q]? =some (c.ae[q]).s.abs:=by simp[CV.abs,h1]
 have e2:w.abs.sh[q]? =some (w.sh[q]).2.abs:=by simp[WV.abs,h2]
 obtain⟨a,b,d⟩:=h.rel.sh q _ _ e1 e2;rw[WV.np]at a;have hs:=h.inv.size h.rel (eS e2);exact⟨a,hs.1,d,b⟩
theorem dA.host(h:dA I t c w){v:HV}(hv:v∈c.ae):∃ R,R∈w.abs.sh/\dP (lT w.abs.aL) w.sh.length v.s.abs R/\y4 t R/\R.out=[]:=by
 obtain⟨q,hq,rfl⟩:=jO hv;have h2:q<w.sh.length:=by rw[<- h.len];exact hq
 obtain⟨a,b,d,_⟩:=h.at hq h2;exact⟨_,bL.2 ⟨_,bC h2,rfl⟩,a,b,d⟩
theorem dA.msg(h:dA I t c w){m:cu}(hm:m∈c.aF):m.toMsgR∈w.abs.aF:=by have:m.toMsgR∈c.aF.map (·.toMsgR):=bL.2 ⟨m,hm,rfl⟩;rw[h.aF]at this;exact this
theorem dA.Yl(h:dA I t c w):c.aF.length<=300000:=by have h1:=h.inv.aF;have:=congrArg List.length h.aF;simp only[dd]at this;rw[WV.fG]at h1;omega
theorem dA.tx(h:dA I t c w){x:mC}(hx:x∈c.aL):x.toTxR∈w.abs.aL:=by have:x.toTxR∈c.aL.map (·.toTxR):=bL.2 ⟨x,hx,rfl⟩;rw[h.aL]at this;exact this
theorem dA.cvb(h:dA I t c w):Mu c:=by
 refine⟨h.n,by have:=h.Yl;omega,?_,λx hx=>?_⟩
 ·have h1:=h.rel.W2;have:=congrArg List.length h.aL;simp only[dd]at this;rw[WV.j3]at h1;omega
 ·have:=h.rel.HW (h.tx hx);exact⟨⟨this.1,by have:=this.2.1;omega⟩,this.2.2⟩
theorem dA.nn(h:dA I t c w):(1:Int)<=w.sh.length/\(w.sh.length:Int)<=4:=by have h1:=h.n;have h2:=h.len;omega
theorem dA.Yk(h:dA I t c w){v:HV}(hv:v∈c.ae)(hu:v.s.up=true):qm v.s:=by obtain⟨R,_,a,b,d⟩:=h.host hv;exact a.Yk h.rel.tok b h.nn h.lt (h.cn v hv) (a.up.symm.trans hu) d
theorem dA.del(h:dA I t c w){m:cu}(hm:m∈c.aF):Kz c m:=by
 have Rv:=h.msg hm;have Lj:=h.rel.PD Rv;have JI:=h.rel.msg _ Rv;have Ub:=h.rel.mto Rv;have hl:=h.len;rw[WV.np]at Ub JI;refine⟨λe=>?_,λe=>?_,λe v hv hu=>?_⟩
 ·have Ub:m.to= -1/\0<=m.tx/\m.tx<w.abs.aL.length:=by
   rcases Ub with h1|h1
   ·exact h1
   ·have h2:0<=m.to:=h1.1;omega
  have:=congrArg List.length h.aL;simp only[dd]at this;rw[WV.j3]at Ub;omega
 ·have Ub:0<=m.to/\m.to<w.sh.length:=by
   rcases Ub with h1|h1
   ·exact absurd h1.1 e
   ·exact h1
  have hk:1<=m.kind/\m.kind<=6:=by
   obtain⟨ops,_,hc⟩:=JI;have hc:(m.kind=1\/m.kind=2\/m.kind=3\/m.kind=4\/m.kind=5\/m.kind=6):=by
    rcases hc with h1|h1|h1|h1|h1|h1|h1
    ·exact .inl h1.1
    ·exact .inr (.inl h1.1)
    ·exact .inr (.inr (.inl h1.1))
    ·exact .inr (.inr (.inr (.inl h1.1)))
    ·exact .inr (.inr (.inr (.inr (.inl h1.1))))
    ·exact .inr (.inr (.inr (.inr (.inr h1.1))))
    ·exact absurd h1.2.1 e
   omega
  exact⟨Ub.1,ak,hk.1,hk.2,λ_=>⟨Lj.1,by have:m.ops.length<=6:=Lj.2;omega⟩⟩
 ·have Ub:0<=m.to/\m.to<w.sh.length:=by
   rcases Ub with h1|h1
   ·exact absurd h1.1 e
   ·exact h1
  obtain⟨h1,rfl⟩:=jC.1 hv;have h2:m.to.toNat<w.sh.length:=ak;obtain⟨a,b,d,f⟩:=h.at h1 h2;have eo:(w.sh[m.to.toNat]).2.abs.up=true:=a.up.symm.trans hu;have sV:m.toMsgR.to=(w.sh[m.to.toNat]).2.abs.me:=by rw[f];show m.to=_;omega
  have hn0:(0:Int)<w.sh.length:=by have:=h.nn;omega
  refine⟨λhk=>T9 a h.rel.tok hn0 eo JI hk,?_⟩;have hr:=Fi a h.rel.tok hn0 eo JI sV;rw[hr.out];have:=h.inv.take h.rel (s:=(w.sh[m.to.toNat]).2.abs) (bL.2 ⟨_,bC h2,rfl⟩) Rv;omega
theorem dA.afh(h:dA I t c w){k i b:Int}(hR:k=8->rC):MD c k i b:=by
 refine⟨h.cvb,λ_ v hv hu=>h.Yk hv hu,λ_ q hq _=>h.del (bC hq),λv hv=>?_,λhk=>⟨hR hk,λv hv=>?_⟩⟩
 ·obtain⟨R,hRm,a,b',d⟩:=h.host hv;have hI:=h.inv.sh R hRm;refine⟨λ_ hu=>?_,λ_ hu=>?_,λ_ hu=>?_,λ_ hu=>?_⟩
  ·have:=(Fj a (a.up.symm.trans hu)).out;rw[this];show(R.out++R.waits).length<_;rw[d];have:=b'.waits;simp only[eZ];omega
  ·have:=(Fs a h.rel.tok (a.up.symm.trans hu)).out;rw[this];obtain⟨_,o,e1,e2,_⟩:=FA hI (by have:=h.nn;have:=a.n2;omega) b'.timers;rw[e1,d];simp only[eZ];omega
  ·have:=(Bu a b).out;rw[this];show R.out.length<_;rw[d];decide
  ·have:=(wM a h.rel.tok).out;rw[this,(wQ R).2,d];decide
 ·obtain⟨R,hRm,a,b',d⟩:=h.host hv;have jV:v.s.log.length=R.log.length:=by have:=congrArg List.length a.log;simpa[cZ.abs]using this
  refine⟨by have:=b'.log;omega,λtx home ops so hm=>?_⟩;have h1:a7.bk (.eK tx home ops)∈R.log:=by rw[<- a.log];exact bL.2 ⟨_,bL.2 ⟨_,hm,rfl⟩,rfl⟩
  have:=b'.tQ _ h1;exact⟨this.1,by have:ops.length<=6:=this.2;omega⟩
theorem dA.ask(h:dA I t c w):abK I c w:=by
 have hb:=h.cvb;have hlq:∀ (q:Nat) (h1:q<c.ae.length) (h2:q<w.sh.length),(c.ae[q]).s.log.map (·.abs.bk)=(w.sh[q]).2.log.map (·.toRecR):=λq h1 h2=>by have:=(h.at h1 h2).1.log;simpa[cZ.abs,eX.abs,ux,wB]using this
 refine⟨hb.n.2,h.J,h.W,h.len,h.aF,λm hm=>?_,by have:=hb.aF;omega,λm hm=>?_,h.aL,hb.aL,λx hx=>?_,λv hv=>?_,λq h1 h2=>⟨hlq q h1 h2,(h.at h1 h2).1.aX⟩,λp hp r hr=>?_,λq h1 h2=>?_,λq h1 h2=>?_,λp hp=>?_,λq h1 h2=>(h.at h1 h2).1.up⟩
 ·have:=(h.rel.PD (h.msg hm)).2;have:m.ops.length<=6:=this;omega
 ·have h1:m.toMsgR∈w.abs.aF:=bL.2 ⟨m,hm,rfl⟩;have h2:=h.rel.PD h1;have h3:=h.RQ.aF _ h1;exact⟨λo ho=>⟨by have:=h2.1 o ho;omega,h3.1 o ho⟩,h3.2⟩
 ·exact(h.RQ.aL x.toTxR (bL.2 ⟨x,hx,rfl⟩)).2
 ·obtain⟨R,hRm,a,b',d⟩:=h.host hv;have jV:v.s.log.length=R.log.length:=by have:=congrArg List.length a.log;simpa[cZ.abs]using this
  have:=b'.log;omega
 ·obtain⟨q,h2,rfl⟩:=jO hp;have h1:q<c.ae.length:=by rw[h.len];exact h2
  have Zw:r.toRecR∈(w.sh[q]).2.log.map (·.toRecR):=bL.2 ⟨r,hr,rfl⟩;have hz:=(h.at h1 h2).2.1.tQ r.toRecR Zw;have hg:=(h.RQ.sh _ (bL.2 ⟨_,bC h2,rfl⟩)).log r.toRecR Zw;rw[<- hlq q h1 h2]at Zw;obtain⟨e,he,hre⟩:=bL.1 Zw;have hJ:=(h.J.sh _ (bC h1)).log e he;refine⟨λo ho=>⟨by have:=hz.1 o ho;omega,hg.1 o ho⟩,hg.2,by have:=hz.2;omega,?_⟩;rw[<- hre];cases e with
  |eK tx home ops so=>exact lM 20
  |dec tx yes reads sr=>exact hJ.2
  |kg tx yes=>exact lM 20
 ·exact(h.at h1 h2).1.Yh (h.RQ.sh _ (bL.2 ⟨_,bC h2,rfl⟩)).bH
 ·exact(h.at h1 h2).1.Yi h.rel.tok
 ·obtain⟨q,h2,rfl⟩:=jO hp;have h1:q<c.ae.length:=by rw[h.len];exact h2
  have:=(h.at h1 h2).2.1.aH;have:(w.sh[q]).2.aH.length<=26:=this;omega
def mF(A:HP)(l:List Nat):Prop:=∀ h,A h->l.Nodup/\∀ b∈l,∃ o,h b=some o
theorem mF.nil{A:HP}:mF A []:=λh _=>⟨NF,by simp⟩
theorem mF.bX{b:Nat}{o:Obj}:mF (bX b o) [b]:=λh e=>⟨by simp,λx hx=>by obtain rfl:=dN.1 hx;have e:h=one x o:=e;exact⟨o,by rw[e];simp[one]⟩⟩
theorem mF.all{As:List HP}{ls:List (List Nat)}(h:F2 mF As ls):mF (all As) ls.flatten:=by
 have key:∀ {As:List HP} {ls:List (List Nat)},F2 mF As ls->∀ h,Sat As h->ls.flatten.Nodup/\∀ b∈ls.flatten,∃ o,h b=some o:=by
  intro As ls hh
  induction hh with
  |nil=>intro h _;exact⟨NF,by simp⟩
  |@cons A l As ls ha _ ih=>
   rintro h ⟨h1,a,s1,r⟩;obtain⟨n1,o1⟩:=ha h1 a;obtain⟨n2,o2⟩:=ih _ r;simp only[List.flatten_cons];refine⟨iC.2 ⟨n1,n2,λx hx y hy e=>?_⟩,λb hb=>?_⟩
   ·subst e;obtain⟨o,ho⟩:=o1 x hx;obtain⟨o',qp⟩:=o2 x hy;unfold less at qp;rw[ho]at qp;cases qp
   ·rcases cg.1 hb with hb|hb
    ·obtain⟨o,ho⟩:=o1 b hb;exact⟨o,s1 _ _ ho⟩
    ·obtain⟨o,ho⟩:=o2 b hb;exact⟨o,mR _ _ ho⟩
 exact key h
theorem mF.ex{X:Type}{A:X->HP}{l:List Nat}(h:∀ x,mF (A x) l):mF (λH=>∃ x,A x H) l:=λH ⟨x,a⟩=>h x H a
def HV.chans(v:HV):List Nat:=[v.h.wk,v.h.rd]
def CV.chans(c:CV):List Nat:=c.ae.flatMap HV.chans++[c.G.dn]
theorem I5(v:HV):mF (iH v) v.chans:=by have:=mF.all (As:=tc v []) (ls:=[[],[v.h.wk],[v.h.rd],[],[]]) (.cons .nil (.cons .bX (.cons .bX (.cons .nil (.cons .nil .nil)))));exact this
theorem MF(l:List HV):mF (all (l.map iH)) (l.flatMap HV.chans):=by
 refine mF.all (ls:=l.map HV.chans) ?_
 induction l with
 |nil=>exact .nil
 |cons v l ih=>exact .cons (I5 v) ih
theorem QQ(m:Int)(c:CV):mF (rl m c) c.chans:=by refine mF.ex λhs=>mF.ex λbg=>mF.ex λtx=>?_;have:=mF.all (As:=Zf c m c.st hs bg tx []) (ls:=[[],[],[],[],c.ae.flatMap HV.chans,[c.G.dn],[]]) (.cons .nil (.cons .nil (.cons .nil (.cons .nil (.cons (MF _) (.cons .bX (.cons .nil .nil)))))));simpa[CV.chans]using this
structure GC(σ:Gh)(L:List CV):Prop where
 ok:Mq σ
 mh:∀ c∈L,c.aj=false->sB σ c
 only:∀ i s,σ.aU i=some s->∃ c∈L,c.aj=false/\∃ v∈c.ae,v.h.g=i/\s=ek v.h c.G
theorem GC.nil{σ:Gh}(h:p9 σ):GC σ []:=⟨h.ok,by simp,λi s e=>by rw[h.no]at e;cases e⟩
theorem GC.set{σ:Gh}{L:List CV}(h:GC σ L){i:Nat}(hi:i<L.length){c':CV}(hG:c'.G=L[i].G)(hh:c'.ae.map (·.h)=L[i].ae.map (·.h))(dt:c'.aj=L[i].aj):GC σ (L.set i c'):=by
 refine⟨h.ok,λc hc hs=>?_,λj s e=>?_⟩
 ·rcases fT hc with hc|rfl
  ·exact h.mh c hc hs
  ·exact(h.mh _ (bC hi) (dt▸hs)).same hG hh
 ·obtain⟨c,hc,h1,v,hv,h2,h3⟩:=h.only j s e;obtain⟨q,hq,rfl⟩:=jO hc;by_cases z:q=i
  ·subst z;have:v.h∈L[q].ae.map (·.h):=sC hv;rw[<- hh]at this;obtain⟨u,hu,e2⟩:=bL.1 this;refine⟨c',ye.2 ⟨q,by simpa using hq,by simp⟩,dt.trans h1,u,hu,by rw[e2];exact h2,by rw[e2,hG];exact h3⟩
  ·exact⟨L[q],ye.2 ⟨q,by simpa using hq,by rw[Et ak]⟩,h1,v,hv,h2,h3⟩
theorem CV.lD{c:CV}{v:HV}(hv:v∈c.ae):v.h.wk∈c.chans/\v.h.rd∈c.chans/\c.G.dn∈c.chans:=by refine⟨kC _ (KO.2 ⟨v,hv,by simp[HV.chans]⟩),kC _ (KO.2 ⟨v,hv,by simp[HV.chans]⟩),jN _ (by simp)⟩
theorem CV.abR{c:CV}(nd:c.chans.Nodup){v u:HV}(hv:v∈c.ae)(hu:u∈c.ae):v.h.rd≠u.h.wk/\v.h.rd≠c.G.dn:=by
 have h1:=iC.1 nd;refine⟨λe=>?_,λe=>h1.2.2 _ (KO.2 ⟨v,hv,by simp[HV.chans]⟩) _ (dN.2 rfl) e⟩;have h2:=h1.1;obtain⟨p,hp,rfl⟩:=jO hv;obtain⟨q,hq,rfl⟩:=jO hu;have h3:=List.pairwise_flatMap.1 h2;by_cases z:p=q
 ·subst z;have:=h3.1 _ (bC hp);simp[HV.chans]at this;exact this e.symm
 ·have hpw:=ya.1 h3.2;rcases Nat.lt_or_gt_of_ne z with z|z
  ·exact hpw p q hp hq z c.ae[p].h.rd (by simp[HV.chans]) _ (by simp[HV.chans]) e
  ·exact hpw q p hq hp z _ (by simp[HV.chans]) c.ae[p].h.rd (by simp[HV.chans]) e.symm
theorem nu{c:CV}{v:HV}(hv:v∈c.ae){x:Nat}(h:(ek v.h c.G).has x):x∈c.chans:=by
 rcases mI.1 h with rfl|rfl
 ·exact(CV.lD hv).1
 ·exact(CV.lD hv).2.2
theorem GC.new{σ σ':Gh}{L:List CV}(h:GC σ L){c:CV}(N:pZ σ σ' c.G c.ae)(hn:1<=c.ae.length/\c.ae.length<=4)(hs:c.aj=false)(nd:((L++[c]).flatMap CV.chans).Nodup):GC σ' (L++[c]):=by
 have nd1:(L.flatMap CV.chans).Nodup/\c.chans.Nodup/\∀ a∈L.flatMap CV.chans,∀ b∈c.chans,a≠b:=by rw[List.flatMap_append]at nd;have:=iC.1 nd;simpa using this
 have Zx:∀ c'∈L,∀ x∈c'.chans,x∉c.chans:=λc' kx x hx jK=>nd1.2.2 x (KO.2 ⟨c',kx,hx⟩) x jK rfl;have hold:∀ i s,σ.aU i=some s->i<σ.n/\σ'.aU i=some s:=λi s e=>by have:=h.ok.lt i s e;exact⟨this,by rw[N.old i this];exact e⟩
 have key:∀ i s,σ'.aU i=some s->(i<σ.n/\σ.aU i=some s)\/(σ.n<=i/\∃ v∈c.ae,v.h.g=i/\s=ek v.h c.G):=λi s e=>by
  rcases oq i σ.n with h1|h1
  ·rw[N.old i h1]at e;exact .inl ⟨h1,e⟩
  ·exact .inr ⟨h1,N.new i s h1 e⟩
 refine⟨⟨by have:=N.n;have:=h.ok.n;omega,λi s e=>?_⟩,λc' kx hs=>?_,λi s e=>?_⟩
 ·rcases key i s e with⟨h1,_⟩|⟨_,v,hv,rfl,_⟩
  ·have:=N.n;omega
  ·exact(N.has v hv).2.2
 ·rcases cg.1 kx with kx|kx
  ·have r:=h.mh c' kx hs;refine⟨⟨λv hv=>(hold _ _ (r.aU v hv)).2,r.nd,λi s e hd=>?_,λv hv i s e hd=>?_,r.wd,(N.sh _).2 (.inl r.sh7),(N.sh _).2 (.inl r.sh8),r.n⟩,λv hv i s e hd=>?_⟩
   ·rcases key i s e with⟨_,e⟩|⟨_,u,hu,_,rfl⟩
    ·exact r.only i s e hd
    ·obtain⟨v,hv⟩:=Ut _ (List.ne_nil_of_length_pos (show 0<c'.ae.length by have:=r.n;omega));exact absurd (nu hu hd) (Zx c' kx _ (CV.lD hv).2.2)
   ·rcases key i s e with⟨_,e⟩|⟨_,u,hu,_,rfl⟩
    ·exact r.wk v hv i s e hd
    ·exact absurd (nu hu hd) (Zx c' kx _ (CV.lD hv).1)
   ·rcases key i s e with⟨_,e⟩|⟨_,u,hu,_,rfl⟩
    ·exact r.rdn v hv i s e hd
    ·exact absurd (nu hu hd) (Zx c' kx _ (CV.lD hv).2.1)
  ·obtain rfl:=dN.1 kx;refine⟨⟨λv hv=>(N.has v hv).1,N.gnd,λi s e hd=>?_,λv hv i s e hd=>?_,N.wd,(N.sh _).2 (.inr (.inl rfl)),(N.sh _).2 (.inr (.inr rfl)),hn⟩,λv hv i s e hd=>?_⟩
   ·rcases key i s e with⟨_,e⟩|⟨_,u,hu,h2,_⟩
    ·exact absurd hd (N.fd i s e)
    ·exact⟨u,hu,h2⟩
   ·rcases key i s e with⟨_,e⟩|⟨_,u,hu,rfl,rfl⟩
    ·exact absurd hd (N.fw v hv i s e)
    ·rcases mI.1 hd with h2|h2
     ·have nd:=N.wnd;obtain⟨p,hp,rfl⟩:=jO hv;obtain⟨q,hq,rfl⟩:=jO hu;have:p=q:=(List.getElem_inj (h₀:=by simpa using hp) (h₁:=by simpa using hq) nd).1 (by simpa using h2);subst this;rfl
     ·exact absurd h2 (N.wd v hv)
   ·rcases key i s e with⟨_,e⟩|⟨_,u,hu,_,rfl⟩
    ·obtain⟨c2,hc2,_,u,hu,_,rfl⟩:=h.only i s e;exact Zx c2 hc2 _ (nu hu hd) (CV.lD hv).2.1
    ·have:=CV.abR nd1.2.1 hv hu;rcases mI.1 hd with h2|h2
     ·exact this.1 h2
     ·exact this.2 h2
 ·rcases key i s e with⟨_,e⟩|⟨_,u,hu,h2,h3⟩
  ·obtain⟨c2,hc2,h1,h2⟩:=h.only i s e;exact⟨c2,kC _ hc2,h1,h2⟩
  ·exact⟨c,by simp,hs,u,hu,h2,h3⟩
theorem GC.stop{σ:Gh}{L:List CV}(h:GC σ L){i:Nat}(hi:i<L.length)(nd:(L.flatMap CV.chans).Nodup):GC (if L[i].aj then σ else σ.fY L[i].ids) (L.set i {L[i]with aj:=true}):=by
 have Zx:∀ (p q:Nat) (hp:p<L.length) (hq:q<L.length),p≠q->∀ x∈L[p].chans,x∉L[q].chans:=λp q hp hq z x hx jK=>by
  have h3:=ya.1 (List.pairwise_flatMap.1 nd).2;rcases Nat.lt_or_gt_of_ne z with z|z
  ·exact h3 p q hp hq z x hx x jK rfl
  ·exact h3 q p hq hp z x jK x hx rfl
 by_cases hs:L[i].aj=true
 ·rw[aK hs];exact h.set hi rfl rfl hs.symm
 ·rw[aq hs];have hs:L[i].aj=false:=by simpa using hs
  have ri:=h.mh _ (bC hi) hs;have key:∀ j s,(σ.fY L[i].ids).aU j=some s->σ.aU j=some s/\j∉L[i].ids:=λj s e=>by
   have e:(if j∈L[i].ids then none else σ.aU j)=some s:=e;split at e
   ·cases e
   ·exact⟨e,by assumption⟩
  refine⟨⟨h.ok.n,λj s e=>h.ok.lt j s (key j s e).1⟩,λc hc si=>?_,λj s e=>?_⟩
  ·obtain⟨q,hq,rfl⟩:=jO hc;have D3:q<L.length:=by simpa using hq
   by_cases z:q=i
   ·subst z;rw[wC]at si;cases si
   ·rw[Et ak]at si⊢;have r:=h.mh _ (bC D3) si;refine⟨⟨λv hv=>?_,r.nd,λj s e hd=>r.only j s (key j s e).1 hd,λv hv j s e hd=>r.wk v hv j s (key j s e).1 hd,r.wd,r.sh7,r.sh8,r.n⟩,λv hv j s e hd=>r.rdn v hv j s (key j s e).1 hd⟩;have h1:=r.aU v hv;have h2:v.h.g∉L[i].ids:=λhm=>by
     obtain⟨u,hu,e2⟩:=bL.1 hm;have h3:=ri.aU u hu;rw[e2,h1]at h3;have h4:(ek u.h L[i].G).has v.h.wk:=by rw[<- bY h3];exact mI.2 (.inl rfl)
     exact Zx q i D3 hi z _ (CV.lD hv).1 (nu hu h4)
    show(if v.h.g∈L[i].ids then none else σ.aU v.h.g)=_;rw[aq h2];exact h1
  ·obtain⟨h1,h2⟩:=key j s e;obtain⟨c,hc,h3,v,hv,h4,h5⟩:=h.only j s h1;obtain⟨q,hq,rfl⟩:=jO hc;have z:q≠i:=λz=>by subst z;exact h2 (bL.2 ⟨v,hv,h4⟩)
   exact⟨L[q],ye.2 ⟨q,by simpa using hq,by rw[Et ak]⟩,h3,v,hv,h4,h5⟩
theorem GC.idle{σ:Gh}{L:List CV}(h:GC σ L)(hs:∀ c∈L,c.aj=true):p9 σ:=⟨h.ok.n,λi=>by
 cases e:σ.aU i with
 |none=>rfl
 |some s=>
  obtain⟨c,hc,h1,_⟩:=h.only i s e;rw[hs c hc]at h1;cases h1⟩
end
end Go.Sl
