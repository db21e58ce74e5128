/-
  Texts that the proof needs, joined: part 5.
-/
import Derived.Test.YtjomdboiibakiabGreatDoorSeD
import Derived.KernelRfl
set_option linter.unusedSimpArgs false
set_option linter.unusedVariables false
set_option maxHeartbeats 4000000
namespace Go.Sl
open Go.Proofs.Tryz
theorem F2.right{A B:Type}{r:A->B->Prop}{l:List A}{m:List B}(h:F2 r l m):∀ b∈m,∃ a∈l,r a b:=by
 induction h with
 |nil=>intro b hb;cases hb
 |@cons a b l m hr _ ih=>
  intro x hx;rcases fR.1 hx with rfl|hx
  ·exact⟨a,fY ..,hr⟩
  ·obtain⟨y,h1,h2⟩:=ih x hx;exact⟨y,fp _ h1,h2⟩
theorem dB.abl{T:List (List bP)}{n:Int}{P:ek}{R:ShR}(H:dB T n P R):∀ u∈R.under,opsOf T u.tx=some u.ops:=by
 intro u hu;cases dP:R.up with
 |true=>obtain⟨a,_,h⟩:=(H.bY dP).right u hu;exact h.ops
 |false=>rw[(H.dn dP).2.2.2.2.2]at hu;cases hu
def fX(s z:ShR):Prop:=z.log=s.log/\z.aH=s.aH
theorem fX.refl(s:ShR):fX s s:=⟨rfl,rfl⟩
theorem fX.trans{a b c:ShR}(h:fX a b)(k:fX b c):fX a c:=⟨k.1.trans h.1,k.2.trans h.2⟩
theorem fX.ite{c:Prop}[Decidable c]{z a b:ShR}(h:fX z a)(k:fX z b):fX z (if c then a else b):=by split<;>assumption
theorem fX.each{s:ShR}{ops:List bP}{f:ShR->Int->List bP->ShR}(hf:∀ z k p,fX z (f z k p)):fX s (im s ops f):=
 gN.each (I:=fX s) (fX.refl s) λz k p hz=>hz.trans (hf z k p)
def Xj(s:ShR)(m:MsgR)(x:RecR):Prop:=x.tx=m.tx/\m.kind=3/\m.yes=true/\∃ (i:Nat) (u:fO),s.under[i]? =some u/\u.tx=m.tx/\
 ∃ u1:fO,u1=(if(m.yes&& !(bU u m.bq).isSome)=true then({u with bk:=u.bk++[⟨m.bq,m.reads⟩]}:fO)else u)/\n7 s.n u1.ops (λk=>(bU u1 k).isSome)=true/\x.reads=jG u1 s.n
def og(s:ShR)(m:MsgR)(z:ShR):Prop:=z.aH=s.aH/\(z.log=s.log\/∃ x,z.log=s.log++[x]/\(x.kind=2->x.yes=true->Xj s m x))
theorem og.same{s:ShR}{m:MsgR}{z:ShR}(h:fX s z):og s m z:=⟨h.2,.inl h.1⟩
theorem og.then{s z y:ShR}{m:MsgR}(h:og s m z)(k:fX z y):og s m y:=⟨k.2.trans h.1,by rw[k.1];exact h.2⟩
theorem L0(s:ShR)(m:MsgR)(hk:m.kind=3):og s m (nB s m):=by
 unfold nB;cases hf:dz s.under m.tx with
 |none=>exact .same (.refl s)
 |some i=>
  simp only[];cases hg:s.under[i]? with
  |none=>exact .same (.refl s)
  |some u=>
   simp only[];by_cases hd:u.dec=true
   ·rw[aG hd];exact .same (.refl s)
   rw[ax hd];have m9:u.tx=m.tx:=by
    unfold dz at hf;obtain⟨hl,hp,_⟩:=uH.1 hf;rw[cK hl]at hg;injection hg with hg
    rw[hg]at hp;simpa using hp
   generalize AH:(if(m.yes&& !(bU u m.bq).isSome)=true then({u with bk:=u.bk++[⟨m.bq,m.reads⟩]}:fO)else u)=u1;by_cases hc:(m.yes&& !n7 s.n u1.ops λk=>(bU u1 k).isSome)=true
   ·rw[aG hc];exact .same ⟨rfl,rfl⟩
   ·rw[ax hc];generalize iw:(if m.yes=true then jG {u1 with dec:=true,yes:=m.yes} s.n else[])=rd;have h1:og s m {s with under:=s.under.set i {u1 with dec:=true,yes:=m.yes},log:=s.log++[{dC with kind:=2,tx:=m.tx,yes:=m.yes,reads:=rd}]}:=by refine⟨rfl,.inr ⟨_,rfl,λ_ hy=>?_⟩⟩;have xJ:m.yes=true:=hy;rw[xJ]at hc;refine⟨rfl,hk,xJ,i,u,hg,m9,u1,AH.symm,by simpa using hc,?_⟩;show rd=_;rw[<- iw,aG xJ];unfold jG;exact oK (u:={u1 with dec:=true,yes:=m.yes}) (v:=u1) rfl s.n u1.ops _
    have h2:=h1.then (fX.each (ops:=u1.ops) (f:=λz k _=>eX z {bK with kind:=4,to:=k,tx:=m.tx,yes:=m.yes}) λz k p=>⟨rfl,rfl⟩);exact h2.then ⟨rfl,rfl⟩
theorem wj(s:ShR)(m:MsgR):og s m (jw s m):=by
 unfold jw;split
 ·unfold kT;split
  ·split
   ·exact .same ⟨rfl,rfl⟩
   ·exact .same (.refl s)
  ·split
   ·exact .same (.refl s)
   ·exact .same (fX.trans (b:={s with under:=s.under++[⟨m.tx,m.ops,[],false,false,[]⟩]}) ⟨rfl,rfl⟩ (fX.trans (fX.each (ops:=m.ops) (f:=λz k p=>eh z {bK with kind:=2,to:=k,tx:=m.tx,ops:=p}) λz k p=>⟨rfl,rfl⟩) ⟨rfl,rfl⟩))
 split
 ·unfold gQ;split
  ·split<;>exact .same ⟨rfl,rfl⟩
  ·split
   ·split<;>exact .same ⟨rfl,rfl⟩
   ·split
    ·exact .same ⟨rfl,rfl⟩
    ·exact⟨rfl,.inr ⟨_,rfl,λh=>by simp at h⟩⟩
 split
 ·rename_i k;exact L0 s m k
 split
 ·unfold ju;split
  ·refine⟨?_,.inr ⟨{dC with kind:=3,tx:=m.tx,yes:=m.yes},?_,λh=>by simp at h⟩⟩
   ·by_cases hy:m.yes=true<;>simp[hy,eX]
   ·by_cases hy:m.yes=true<;>simp[hy,eX]
  ·split
   ·split<;>exact .same ⟨rfl,rfl⟩
   ·split
    ·exact .same (.refl s)
    ·exact⟨rfl,.inr ⟨_,rfl,λh=>by simp at h⟩⟩
 split
 ·unfold u5;split
  ·exact .same (.refl s)
  ·split
   ·exact .same (.refl s)
   ·split
    ·exact .same (.refl s)
    ·dsimp only;split<;>exact .same ⟨rfl,rfl⟩
 split
 ·unfold u6;split
  ·split<;>exact .same ⟨rfl,rfl⟩
  ·split
   ·exact .same (.refl s)
   ·exact⟨rfl,.inr ⟨_,rfl,λ_ h=>by simp[dC]at h⟩⟩
 ·exact .same (.refl s)
theorem P5(s:ShR)(t:fU):fX s (nS s t):=by
 unfold nS;split
 ·split
  ·exact⟨rfl,rfl⟩
  ·exact .refl s
 ·split
  ·exact .refl s
  ·split
   ·exact .refl s
   ·refine fX.trans (fX.each λz k p=>?_) ⟨rfl,rfl⟩;exact fX.ite ⟨rfl,rfl⟩ (fX.ite ⟨rfl,rfl⟩ (fX.refl _))
theorem zN:∀ (f:Nat) (s:ShR),fX s (eU f s)
 |0,s=>.refl s
 |f+1,s=>by
  unfold eU;split
  ·exact .refl s
  ·rename_i k t _;exact(fX.trans (b:={s with timers:=s.timers.eraseIdx k}) ⟨rfl,rfl⟩ (P5 _ t)).trans (zN f _)
theorem wm(s:ShR):fX s (mQ s):=fX.trans (b:={s with clock:=s.clock+1}) ⟨rfl,rfl⟩ (zN _ _)
theorem qi(s:ShR):fX s (cD s):=by obtain⟨h1,h2,h3,_⟩:=od s.log s.log.length (cq {s with up:=true});exact⟨h2,h3⟩
inductive lu(w:WR)(s:ShR):ShR->Prop
 |same:lu w s s
 |take (m:MsgR):m∈w.aK->m.to=s.me->s.up=true->lu w s {jw s m with out:=[]}
 |sync:s.up=true->lu w s {u7 s with out:=[]}
 |tick:s.up=true->lu w s {mQ s with out:=[]}
 |zK (k:Int):s.up=true->lu w s {iV s k with out:=[]}
 |l4:s.up=false->lu w s (cD s)
theorem oh{w:WR}{a:Nat}{s0 x:ShR}(ha:w.sh[a]? =some s0)(hx:lu w s0 {x with out:=[]}){i:Nat}{s':ShR}(h:(w.sh.set a {x with out:=[]})[i]? =some s'):∃ s,w.sh[i]? =some s/\lu w s s':=by
 by_cases e:a=i
 ·subst e;rw[EE (dG.1 ha).1]at h;injection h with h;subst h
  exact⟨s0,ha,hx⟩
 ·rw[wS e]at h;exact⟨s',h,.same⟩
theorem pG(w:WR)(t:Nat):(iW w t).sh=w.sh/\(iW w t).aF=w.aF:=by unfold iW;split<;>exact⟨rfl,rfl⟩
theorem wq(w:WR)(m:MsgR):(p9 w m).sh=w.sh:=by rw[vj]
theorem Ib{w:WR}{k a b:Int}(LN:∀ (i:Nat) s,w.sh[i]? =some s->s.me=i)(uA:∀ m∈w.aK, -1<=m.to){i:Nat}{s':ShR}(h:(gH w k a b).1.sh[i]? =some s'):∃ s,w.sh[i]? =some s/\lu w s s':=by
 unfold gH at h;split at h
 ·exact⟨s',h,.same⟩
 split at h
 ·exact⟨s',h,.same⟩
 split at h
 ·split at h
  ·exact⟨s',h,.same⟩
  split at h
  ·exact⟨s',h,.same⟩
  ·rw[show(iW w a.toNat,(0:Int)).1.sh=w.sh from(pG w _).1]at h;exact⟨s',h,.same⟩
 split at h
 ·unfold gR at h;split at h
  ·exact⟨s',h,.same⟩
  ·split at h
   ·exact⟨s',h,.same⟩
   ·rename_i m hm;split at h
    ·split at h<;>exact⟨s',h,.same⟩
    ·dsimp only at h;split at h
     ·exact⟨s',h,.same⟩
     ·split at h
      ·rw[show(p9 {w with aK:=w.aK.eraseIdx a.toNat} m,(0:Int)).1.sh=w.sh from wq _ _]at h;exact⟨s',h,.same⟩
      ·rename_i eV;split at h
       ·exact⟨s',h,.same⟩
       ·rename_i s hs;split at h
        ·rename_i dP;have nO:w.sh[m.to.toNat]? =some s:=hs;have dR:=dg hm;have h1:=LN _ s nO;have h2:=uA m dR;exact oh nO (.take m dR ai dP) h
        ·exact⟨s',h,.same⟩
 split at h
 ·exact⟨s',h,.same⟩
 split at h
 ·exact⟨s',h,.same⟩
 ·rename_i s hs;split at h
  ·split at h
   ·exact⟨s',h,.same⟩
   ·rename_i dP;have HR:s.up=false:=by simpa using dP
    have h':(w.sh.set a.toNat (cD s))[i]? =some s':=h;by_cases e:a.toNat=i
    ·subst e;rw[EE (dG.1 hs).1]at h';injection h' with h';subst h'
     exact⟨s,hs,.l4 HR⟩
    ·rw[wS e]at h';exact⟨s',h',.same⟩
  split at h
  ·exact⟨s',h,.same⟩
  rename_i dP;have HR:s.up=true:=by simpa using dP
  split at h
  ·exact oh hs (.sync HR) h
  split at h
  ·split at h
   ·exact⟨s',h,.same⟩
   ·exact oh hs (.tick HR) h
  ·exact oh hs (.zK b HR) h
def xl(s s':ShR):Prop:=s.aH<=s'.aH/\s'.aH<=s'.log.length/\∀ i:Nat,(i:Int)<s'.aH->s'.log[i]? =s.log[i]?
theorem lu.abm{w:WR}{s s':ShR}(h:lu w s s')(hg:0<=s.aH/\s.aH<=s.log.length):xl s s':=by
 have same:∀ z,fX s z->xl s z:=λz hz=>by unfold xl;rw[hz.1,hz.2];exact⟨nW _,hg.2,λ_ _=>rfl⟩
 cases h with
 |same=>exact same s (.refl s)
 |take m hm uA dP=>
  obtain⟨h1,h2⟩:=wj s m;rcases h2 with h2|⟨x,h2,_⟩
  ·exact same _ ⟨h2,h1⟩
  ·refine⟨by show s.aH<=(jw s m).aH;rw[h1];exact nW _,by show(jw s m).aH<=((jw s m).log.length:Int);rw[h1,h2,gO];omega,λi hi=>?_⟩;have ee:(i:Int)<(jw s m).aH:=hi;rw[h1]at ee;show(jw s m).log[i]? =_;rw[h2,mT ai]
 |sync dP=>exact⟨by show s.aH<=(s.log.length:Int);omega,nW _,λ_ _=>rfl⟩
 |tick dP=>exact same _ (wm s)
 |zK k dP=>
  unfold xl;show s.aH<=(iV s k).aH/\(iV s k).aH<=((iV s k).log.length:Int)/\∀ i:Nat,(i:Int)<(iV s k).aH->(iV s k).log[i]? =_;unfold iV cq;dsimp only;generalize hn:(if(if k<0 then 0 else k)<(s.log.length:Int)-s.aH then(if k<0 then 0 else k)else(s.log.length:Int)-s.aH)=n;have EY:0<=n/\n<=(s.log.length:Int)-s.aH:=by
   rw[<- hn];constructor<;>repeat' split
   all_goals omega
  refine⟨ai,by rw[jS];omega,λi hi=>?_⟩;rw[s4 ai]
 |l4 dP=>exact same _ (qi s)
def tY(f:Int->List Int)(n:Int):List bP->(Int->Nat)->List Int
 |[],_=>[]
 |o::l,used=>if o.w then tY f n l used else(f (atR o.k n))[used (atR o.k n)]?.getD 0::tY f n l (λj=>if j=atR o.k n then used (atR o.k n)+1 else used j)
theorem wu(u:fO)(n:Int):∀ (l:List bP) (used:Int->Nat),gG u n l used=tY (λk=>((bU u k).map (·.reads)).getD []) n l used
 |[],_=>rfl
 |o::l,used=>by
  unfold gG tY;split
  ·exact wu u n l used
  ·dsimp only;rw[wu u n l]
def pI(T:List (List bP))(n:Int)(G:Gl)(tx:Int)(rd:List Int):Prop:=∃ ops f,opsOf T tx=some ops/\(∀ k,de ops k n=true->G.cg tx k=some (f k))/\rd=tY f n ops λ_=>0
theorem pI.mono{T:List (List bP)}{n:Int}{G G':Gl}{tx:Int}{rd:List Int}(h:pI T n G tx rd)(k:G.Le G'):pI T n G' tx rd:=by obtain⟨ops,f,h1,h2,h3⟩:=h;exact⟨ops,f,h1,λj hj=>k.cg _ _ _ (h2 j hj),h3⟩
theorem pI.app{T:List (List bP)}{n:Int}{G:Gl}{tx:Int}{rd:List Int}(h:pI T n G tx rd)(more:List (List bP)):pI (T++more) n G tx rd:=by obtain⟨ops,f,h1,h2,h3⟩:=h;exact⟨ops,f,jO more h1,h2,h3⟩
def NF(T:List (List bP))(n:Int)(G:Gl)(s:ShR):Prop:=∀ r∈s.log,r.kind=2->r.yes=true->pI T n G r.tx r.reads
theorem NF.take{T:List (List bP)}{n:Int}{G:Gl}{P:ek}{s:ShR}{m:MsgR}(h:NF T n G s)(hT:vg T)(Zx:0<n)(hg:gN G s)(R:dB T n P s)(hm:oM G m):NF T n G (jw s m):=by
 obtain⟨_,h2⟩:=wj s m;rcases h2 with h2|⟨x,h2,hx⟩
 ·unfold NF;rw[h2];exact h
 ·unfold NF;rw[h2];intro r hr h3 h4;rcases bS.1 hr with hr|hr
  ·exact h r hr h3 h4
  ·obtain rfl:=dL.1 hr;obtain⟨e,hk,hy,i,u,hu,m9,u1,AH,ha,iw⟩:=hx h3 h4;have dR:=dg hu;have cN:=R.abl u dR;have hn:s.n=n:=R.n2;have e1:u1.ops=u.ops/\u1.tx=u.tx:=by rw[AH];split<;>exact⟨rfl,rfl⟩
   have hv:∀ v∈u1.bk,G.cg u.tx v.bq=some v.reads:=by
    intro v hv;rw[AH]at hv;split at hv
    ·rcases bS.1 hv with hv|hv
     ·exact(hg.bY u dR).bk v hv
     ·obtain rfl:=dL.1 hv;rw[m9];exact hm.xU hk hy
    ·exact(hg.bY u dR).bk v hv
   refine⟨u.ops,λk=>((bU u1 k).map (·.reads)).getD [],by rw[e,<- m9];exact cN,λk nP=>?_,?_⟩
   ·have hr:=hT.of cN;rw[hn,e1.1]at ha;have hs:=(sA hr Zx).1 ha k nP;obtain⟨v,qK⟩:=oC.1 hs;have hf:v.bq=k:=by have:=JA qK;simpa using this
    show G.cg r.tx k=some (((bU u1 k).map (·.reads)).getD []);rw[qK,e,<- m9];have:=hv v (Bt qK);rw[hf]at this;exact this
   ·rw[iw];unfold jG;rw[wu,hn,e1.1]
theorem NF.of{T:List (List bP)}{n:Int}{G:Gl}{s z:ShR}(h:NF T n G s)(hz:∀ r∈z.log,r∈s.log):NF T n G z:=λr hr=>h r (hz r hr)
theorem NF.step{T:List (List bP)}{n:Int}{G:Gl}{P:ek}{w:WR}{s s':ShR}(h:NF T n G s)(hT:vg T)(Zx:0<n)(hg:gN G s)(R:dB T n P s)(hb:∀ m∈w.aK,oM G m)(st:lu w s s'):NF T n G s':=by
 cases st with
 |same=>exact h
 |take m hm uA dP=>exact(h.take hT Zx hg R (hb m hm)).of (z:={jw s m with out:=[]}) λr hr=>hr
 |sync dP=>exact h.of λr hr=>hr
 |tick dP=>exact h.of (z:={mQ s with out:=[]}) λr hr=>by have oD:r∈(mQ s).log:=hr;rw[(wm s).1]at oD;exact oD
 |zK k dP=>exact h.of (z:={iV s k with out:=[]}) λr hr=>EF hr
 |l4 dP=>exact h.of λr hr=>by rw[(qi s).1]at hr;exact hr
theorem Dw{aF:List TxR}{m:MsgR}(h:∀ x∈aF,1<=x.state/\x.state<=3):∀ x∈lj aF m,1<=x.state/\x.state<=3:=by
 unfold lj;split
 ·exact h
 ·split
  ·intro x hx;rcases iL hx with hx|rfl
   ·exact h x hx
   ·split<;>simp
  ·exact h
theorem KD(w:WR)(k a b:Int):(gH w k a b).1.aF=w.aF\/∃ m∈w.aK,(gH w k a b).1.aF=lj w.aF m:=by
 generalize hx:gH w k a b=x;unfold gH at hx;split at hx
 ·subst hx;exact .inl rfl
 split at hx
 ·subst hx;exact .inl rfl
 split at hx
 ·split at hx
  ·subst hx;exact .inl rfl
  split at hx
  ·subst hx;exact .inl rfl
  ·subst hx;exact .inl (pG _ _).2
 split at hx
 ·unfold gR at hx;split at hx
  ·subst hx;exact .inl rfl
  ·split at hx
   ·subst hx;exact .inl rfl
   ·rename_i m hm;split at hx
    ·split at hx<;>(subst hx;exact .inl rfl)
    ·dsimp only at hx;split at hx
     ·subst hx;exact .inl rfl
     ·split at hx
      ·subst hx;rw[vj];exact .inr ⟨m,dg hm,rfl⟩
      ·split at hx
       ·subst hx;exact .inl rfl
       ·split at hx<;>(subst hx;exact .inl rfl)
 split at hx
 ·subst hx;exact .inl rfl
 split at hx
 ·subst hx;exact .inl rfl
 ·split at hx
  ·split at hx<;>(subst hx;exact .inl rfl)
  split at hx
  ·subst hx;exact .inl rfl
  split at hx
  ·subst hx;exact .inl rfl
  split at hx
  ·split at hx<;>(subst hx;exact .inl rfl)
  ·subst hx;exact .inl rfl
theorem yp(w:WR)(k a b:Int):cJ (gH w k a b).1.aF=cJ w.aF:=by
 rcases KD w k a b with h|⟨m,_,h⟩<;>rw[h]
 exact qc _ _
theorem oi(w:WR)(k a b:Int):(gH w k a b).1.sh.length=w.sh.length:=by
 unfold gH;split
 ·rfl
 split
 ·rfl
 split
 ·split
  ·rfl
  split
  ·rfl
  ·rw[(pG _ _).1]
 split
 ·unfold gR;split
  ·rfl
  ·split
   ·rfl
   ·split
    ·split<;>rfl
    ·dsimp only;split
     ·rfl
     ·split
      ·rw[wq]
      ·split
       ·rfl
       ·split
        ·unfold ml;simp
        ·rfl
 split
 ·rfl
 split
 ·rfl
 ·split
  ·split
   ·rfl
   ·simp
  split
  ·rfl
  split
  ·unfold ml;simp
  split
  ·split
   ·rfl
   ·unfold ml;simp
  ·unfold ml;simp
structure WF(W:WP)(w:WR)(G:Gl):Prop where
 rel:iI W w
 A6:Cf (lL w) G w
 Xk:∀ s∈w.sh,NF (cJ w.aF) w.sh.length G s
theorem WF.at{W:WP}{w:WR}{G:Gl}(h:WF W w G){k:Int}(h0:0<=k)(h1:k<w.sh.length):∃ s P,w.sh[k.toNat]? =some s/\dB (cJ w.aF) w.sh.length P s/\En (lL w) G s/\s.me=k:=by obtain⟨P,R,h2,h3,h4,h5,h6⟩:=h.rel.xd k.toNat ai;exact⟨R,P,h3,h4,(h.A6.sh _ _ h3).1,by rw[h5];omega⟩
theorem ed.Xl{T:List (List bP)}{n me:Int}{E:List aN}(hT:vg T)(h:ed T n me E):∀ r∈E.map aN.aV,∀ o∈r.ops,97<=o.k:=by
 intro r hr o ho;obtain⟨i,hi⟩:=l9.1 hr;obtain⟨e,he,rfl⟩:=Dv hi;have hl:=h.at' he;cases e with
 |cg tx home ops=>
  obtain⟨full,h1,h2,h3,h4,_⟩:=hl;have mq:o∈ops:=ho;rw[h4]at mq;exact((hT.of h1).key o mq).1
 |dec tx yes rd=>cases ho
 |jX tx yes=>cases ho
theorem vw{ops:List bP}{o:bP}{k n:Int}:o∈br ops k n↔o∈ops/\atR o.k n=k:=by unfold br;rw[gI];simp
theorem P6{ops:List bP}{o:bP}{n:Int}(h:o∈ops):de ops (atR o.k n) n=true:=by
 unfold de;have:o∈br ops (atR o.k n) n:=vw.2 ⟨h,rfl⟩;cases hp:br ops (atR o.k n) n with
 |nil=>rw[hp]at this;cases this
 |cons a l=>rfl
theorem WF.Dx{W:WP}{w:WR}{G:Gl}(h:WF W w G){t:Int}{rd:List Int}{ops:List bP}{f:Int->List Int}(ho:opsOf (cJ w.aF) t=some ops)(hv:∀ k,de ops k w.sh.length=true->G.cg t k=some (f k)){o:bP}(hm:o∈ops):
  ∃ s P,∃ (p:Nat) (q:RecR),w.sh[(atR o.k w.sh.length).toNat]? =some s/\dB (cJ w.aF) w.sh.length P s/\En (lL w) G s/\s.log[p]? =some q/\(p:Int)<s.aH/\q.kind=1/\q.tx=t/\q.ops=br ops (atR o.k w.sh.length) w.sh.length/\fe (dY s.log p) q.ops=f (atR o.k w.sh.length):=by
 have hn:(0:Int)<w.sh.length:=by have:=h.rel.n.1;omega
 have hr:=h.rel.tok.of ho;have ht:=P6 (n:=w.sh.length) hm;obtain⟨h0,h1⟩:=gz hr hn ht;obtain⟨s,P,a1,a2,a3,a4⟩:=h.at h0 h1;have hp:=hv _ ht;rw[<- a4]at hp;obtain⟨p,q,b1,b2,b3,b4,b5⟩:=a3.e.exp _ _ hp;have hq:(P.log.map aN.aV)[p]? =some q:=by rw[a2.log];exact b1
 obtain⟨xS,c1,c2⟩:=a2.xa.zo p q hq;rw[b4,ho]at c1;injection c1 with c1;subst c1
 have c3:=(c2 b3).2.1;rw[a4]at c3 b5;exact⟨s,P,p,q,a1,a2,a3,b1,b2,b3,b4,c3,b5⟩
structure xV(T:List (List bP))(w:WR)(order:List Int)(reads:List (List Int)):Prop where
 len:reads.length=order.length
 nd:order.Nodup
 pre:∀ (i j:Nat) (t t':Int),i<j->order[i]? =some t->order[j]? =some t'->∀ o∈(opsOf T t).getD [],∀ o'∈(opsOf T t').getD [],o.k=o'.k->
  ∃ s,w.sh[(atR o.k w.sh.length).toNat]? =some s/\∃ (p d:Nat) (q r:RecR),s.log[p]? =some q/\(p:Int)<s.aH/\q.kind=1/\q.tx=t'/\d<p/\s.log[d]? =some r/\r.kind=3/\r.tx=t
 val:∀ (j:Nat) (t:Int) (rd:List Int),order[j]? =some t->reads[j]? =some rd->mY (runT T (order.take j) bO) ((opsOf T t).getD []) rd=true
theorem xV.step{T:List (List bP)}{w w':WR}{order:List Int}{reads:List (List Int)}(h:xV T w order reads)(hl:w'.sh.length=w.sh.length)(hs:∀ (i:Nat) s',w'.sh[i]? =some s'->∃ s,w.sh[i]? =some s/\xl s s'):xV T w' order reads:=by
 refine⟨h.len,h.nd,λi j t t' yP a b o ho o' mq e=>?_,h.val⟩;obtain⟨s,h1,p,d,q,r,h2,h3,h4,h5,h6,h7,h8,h9⟩:=h.pre i j t t' yP a b o ho o' mq e;have hi:=(dG.1 h1).1;have Sk:w'.sh[(atR o.k w.sh.length).toNat]? =some (w'.sh[(atR o.k w.sh.length).toNat]'(by rw[hl];exact hi)):=cK _;obtain⟨s2,k1,k2,k3,k4⟩:=hs _ _ Sk;rw[h1]at k1;injection k1 with k1;subst k1
 refine⟨_,by rw[hl];exact Sk,p,d,q,r,?_,ai,h4,h5,h6,?_,h8,h9⟩
 ·rw[k4 p ai];exact h2
 ·rw[k4 d ai];exact h7
theorem wv{V:List Int}{f:Int->List Int}{n:Int}{ops:List bP}(hf:∀ o∈ops,o.w=false->∃ vs,f (atR o.k n)=fe vs (br ops (atR o.k n) n)/\vs[(o.k-97).toNat]?.getD 0=V[(o.k-97).toNat]?.getD 0):
  ∀ (l a:List bP) (used:Int->Nat),ops=a++l->(∀ k,used k=((br a k n).filter λo=> !o.w).length)->mY V l (tY f n l used)=true
 |[],a,used,_,_=>rfl
 |o::l,a,used,he,hu=>by
  have he2:ops=(a++[o])++l:=by rw[he];simp
  have Xm:∀ k,br (a++[o]) k n=br a k n++(if atR o.k n=k then[o]else[]):=λk=>by rw[BU];congr 1;unfold br;rw[o6];simp
  unfold mY tY;by_cases hw:o.w=true
  ·rw[aG hw,aG hw];refine wv hf l (a++[o]) used he2 λk=>?_;rw[hu k,Xm,qw];split<;>simp[hw]
  ·have np:o.w=false:=by simpa using hw
   rw[ax hw,ax hw];simp only[jc,sY];refine⟨?_,wv hf l (a++[o]) _ he2 λk=>?_⟩
   ·obtain⟨vs,h1,h2⟩:=hf o (by rw[he];simp) np;rw[h1,hu,<- h2];unfold fe;rw[he];have e1:br (a++o::l) (atR o.k n) n=br a (atR o.k n) n++o::br l (atR o.k n) n:=by rw[BU];congr 1;unfold br;rw[o6];simp
    rw[e1,qw,o6];simp only[np,Eu,eN];rw[eI,xF (by simp)];simp
   ·rw[Xm,qw];by_cases hk:k=atR o.k n
    ·rw[aG hk,hu,hk,aG rfl];simp[np]
    ·rw[ax hk,hu,ax λz=>hk z.symm];simp
theorem xV.add{W:WP}{w:WR}{G:Gl}{order:List Int}{reads:List (List Int)}(h:xV (cJ w.aF) w order reads)(F:WF W w G)
  (kC:∀ t rd,G.dec t=some (true,rd)->t∈order) (HT:∀ t∈order,(∃ rd,pI (cJ w.aF) w.sh.length G t rd)/\∀ b rd,G.dec t=some (b,rd)->b=true)
  {t:Int} {rd:List Int} (tD:t∉order) (hv:pI (cJ w.aF) w.sh.length G t rd) (m7:G.dec t=none):xV (cJ w.aF) w (order++[t]) (reads++[rd]):=by
 obtain⟨ops,f,ho,hp,iw⟩:=hv;have hT:=F.rel.tok;have no3:∀ {P:ek} {s:ShR},En (lL w) G s->aW s.log 3 t=none:=λhs=>by rw[kg];rintro r hr ⟨hk,rfl⟩;obtain⟨i,hi⟩:=l9.1 hr;obtain⟨x,hx⟩:=hs.g.done i r hi hk;rw[m7]at hx;cases hx
 have before:∀ (t1:Int),t1∈order->∀ o1∈(opsOf (cJ w.aF) t1).getD [],∀ o∈ops,o1.k=o.k->
   ∃ s P,∃ (p d:Nat) (q x:RecR),w.sh[(atR o.k w.sh.length).toNat]? =some s/\dB (cJ w.aF) w.sh.length P s/\En (lL w) G s/\s.log[p]? =some q/\(p:Int)<s.aH/\q.kind=1/\q.tx=t/\
    q.ops=br ops (atR o.k w.sh.length) w.sh.length/\fe (dY s.log p) q.ops=f (atR o.k w.sh.length)/\d<p/\s.log[d]? =some x/\x.kind=3/\x.tx=t1:=by
  intro t1 Cc o1 KE o P7 e;obtain⟨s,P,p,q,a1,a2,a3,a4,a5,a6,a7,a8,a9⟩:=F.Dx (rd:=rd) ho hp P7;obtain⟨⟨rd1,abn,f1,b1,b2,_⟩,_⟩:=HT t1 Cc;rw[b1]at KE;obtain⟨s',P',p1,q1,c1,c2,c3,c4,c5,c6,c7,c8,c9⟩:=F.Dx (rd:=rd1) b1 b2 KE;have e':atR o1.k w.sh.length=atR o.k w.sh.length:=by rw[e]
  rw[e',a1]at c1;injection c1 with c1;subst c1
  have jL:=a2.log;have vh:=a2.xa;have eV:q.tx≠q1.tx:=by rw[a7,c7];intro z;exact tD (z▸Cc)
  obtain⟨d,x,d1,d2,d3,d4⟩:=vh.FP (i:=p) (j:=p1) (r:=q) (r':=q1) (by rw[jL];exact a4) (by rw[jL];exact c4) a6 c6 eV (o:=o) (o':=o1) (by rw[a8];exact vw.2 ⟨P7,rfl⟩) (by rw[c8];exact vw.2 ⟨KE,rfl⟩) e.symm (by rw[jL,a7];exact no3 (P:=P) a3);rw[jL]at d2;exact⟨s,P,p,d,q,x,a1,a2,a3,a4,a5,a6,a7,a8,a9,d1,d2,d3,by rw[d4,c7]⟩
 refine⟨by simp[h.len],?_,?_,?_⟩
 ·rw[il];exact⟨h.nd,by simp,λa ha b hb=>by rw[dL.1 hb];exact λe=>tD (e▸ha)⟩
 ·intro i j u u' yP a b o P7 o' Xn e;rcases lH j order.length with c|c
  ·rw[mT ai]at a b;exact h.pre i j u u' yP a b o P7 o' Xn e
  ·have hj:j=order.length:=by have:=(dG.1 b).1;rw[gO,gJ]at this;omega
   subst hj;rw[mT yP]at a;have hb:u'=t:=by simpa using b.symm
   subst hb;rw[ho]at Xn;obtain⟨s,P,p,d,q,x,a1,_,_,a4,a5,a6,a7,_,_,a8,a9,b1,b2⟩:=before u (dg a) o P7 o' Xn e;exact⟨s,by rw[e];exact a1,p,d,q,x,a4,a5,a6,a7,a8,a9,b1,b2⟩
 ·intro j u Lm a b;rcases lH j order.length with c|c
  ·rw[mT c]at a;rw[mT (by rw[h.len];exact c)]at b;rw[Br ai];exact h.val j u Lm a b
  ·have hj:j=order.length:=by have:=(dG.1 a).1;rw[gO,gJ]at this;omega
   subst hj;have ha:u=t:=by simpa using a.symm
   have hb:Lm=rd:=by rw[xF (by rw[h.len];exact e8 _),h.len,yF]at b;injection b with b;exact b.symm
   subst ha hb;rw[Br (e8 _),JI,ho,iA,iw];refine wv (λo P7 hw=>?_) ops [] _ rfl λk=>by simp[br]
   obtain⟨s,P,p,q,a1,a2,a3,a4,a5,a6,a7,a8,a9⟩:=F.Dx (rd:=Lm) ho hp P7;refine⟨dY s.log p,by rw[<- a9,a8];rfl,?_⟩;have hk:97<=o.k:=((hT.of ho).1 o P7).1;have jL:=a2.log;have vh:=a2.xa;have hL:∀ r∈s.log,∀ o∈r.ops,97<=o.k:=by rw[<- jL];exact vh.Xl hT
   have yi:p<=s.log.length:=uI (dG.1 a4).1;have full:∀ {c:Nat} {x:RecR},s.log[c]? =some x->x.kind=1->∀ o'∈x.ops,o'∈(opsOf (cJ w.aF) x.tx).getD []:=λhc hx o' mq=>by obtain⟨xS,z1,z2⟩:=vh.zo _ _ (by rw[jL];exact hc);rw[(z2 hx).2.1]at mq;rw[z1];exact(vw.1 mq).1
   have Vw:∀ c,Wri s.log o.k c->∃ (r:RecR),s.log[c]? =some r/\r.kind=3/\r.tx∈order/\WrT (cJ w.aF) o.k r.tx:=by
    rintro c ⟨r,p',q',z1,z2,z3,z4,z5,o',z6,z7,z8⟩;obtain⟨x,hx⟩:=a3.g.done c r z1 z2;rw[z3]at hx;obtain⟨_,q2,y1,y2,y3⟩:=qg z4;rw[z5]at y1;injection y1 with y1;subst y1
    refine⟨r,z1,z2,kC _ _ hx,o',?_,z7,z8⟩;have:=full z5 y2 o' z6;rw[y3]at this;exact this
   congr 1
   rcases KC (p:=WrT (cJ w.aF) o.k) order with hn|⟨a,ts,b,Dq,hts,hnb⟩
   ·rw[KB hT hk hn];refine LY hk hL yi λd hd hW=>?_;obtain⟨r,_,_,z3,z4⟩:=Vw d hW;exact hn _ z3 z4
   ·have Xo:ts∈order:=by rw[Dq];simp
    obtain⟨os,Tr,hws,hks⟩:=hts;obtain⟨s',P',p2,d,q2,x,c1,_,_,c4,_,c6,c7,_,_,c8,c9,b1,b2⟩:=before ts Xo os Tr o P7 hks;rw[a1]at c1;injection c1 with c1;subst c1
    have hpp:p2=p:=vh.Tq (by rw[jL];exact c4) (by rw[jL];exact a4) c6 a6 (by rw[c7,a7]);subst hpp;obtain⟨y,hy⟩:=a3.g.done d x c9 b1;have hxy:x.yes=true:=(HT ts Xo).2 _ _ (by rw[<- b2];exact hy);obtain⟨⟨rd1,abn,f1,e1,e2,_⟩,_⟩:=HT ts Xo;rw[e1]at Tr;obtain⟨s',P',ps,qs,g1,_,_,g4,g5,g6,g7,g8,_⟩:=F.Dx (rd:=rd1) e1 e2 Tr;rw[hks,a1]at g1;injection g1 with g1;subst g1
    have hpd:ps<d:=vh.after (by rw[jL];exact g4) (by rw[jL];exact c9) g6 b1 (by rw[g7,b2]);obtain⟨pf,hpf⟩:=oe g4 g6 hpd;rw[g7]at hpf;obtain⟨_,qf,f2,f3,f4⟩:=qg hpf;have hfe:pf=ps:=vh.Tq (by rw[jL];exact f2) (by rw[jL];exact g4) f3 g6 (by rw[f4,g7]);subst hfe;rw[LZ hk hL yi c8 c9 b1 hxy (by rw[b2];exact hpf) g4 (λc hc1 P8 hW=>?_)]
    ·rw[Dq,zM];show _=(runT (cJ w.aF) b (cA (runT (cJ w.aF) a bO) ((opsOf (cJ w.aF) ts).getD [])))[(o.k-97).toNat]?;rw[KB hT hk hnb,e1,iA,g8,hks];have h97:∀ z∈abn,97<=z.k:=λz hz=>((hT.of e1).1 z hz).1;rw[<- FQ hk rfl h97 rfl rfl];refine Ia hk h97 ?_ ⟨os,Tr,hws,hks⟩;rw[P2 _ _ ai,vu];rfl
    ·obtain⟨r,z1,z2,z3,o2,z4,z5,z6⟩:=Vw c hW;have eV:r.tx≠ts:=λe=>by have:=vh.abj (i:=c) (j:=d) (by rw[jL];exact z1) (by rw[jL];exact c9) z2 b1 (by rw[e,b2]);omega
     rw[Dq]at z3;have jB:r.tx∈a:=by
      rcases bS.1 z3 with z|z
      ·exact z
      ·rcases fR.1 z with z|z
       ·exact absurd z eV
       ·exact absurd ⟨o2,z4,z5,z6⟩ (hnb _ z)
     obtain⟨i,hi⟩:=l9.1 jB;have hia:=(dG.1 hi).1;obtain⟨s',k1,p3,d3,q3,r3,k2,k3,k4,k5,k6,k7,k8,k9⟩:=h.pre i a.length r.tx ts hia (by rw[Dq,mT hia];exact hi) (by rw[Dq];simp) o2 z4 os (by rw[e1];exact Tr) (by rw[z6,hks]);rw[z6,a1]at k1;injection k1 with k1;subst k1
     have l1:d3=c:=vh.abj (by rw[jL];exact k7) (by rw[jL];exact z1) k8 z2 k9;have l2:p3=pf:=vh.Tq (by rw[jL];exact k2) (by rw[jL];exact g4) k4 g6 (by rw[k5,g7]);omega
def A7(r:RecR):Bool:=r.kind==2&&r.yes
def qj(s:ShR)(l:Nat):List RecR:=((s.log.take s.aH.toNat).drop l).filter A7
def news:List ShR->List Nat->List RecR
 |s::l,o::os=>qj s o++news l os
 |_,_=>[]
def dU.add(h:dU)(B:List RecR):dU:={h with order:=h.order++B.map (·.tx),reads:=h.reads++B.map (·.reads)}
theorem dU.add_nil(h:dU):h.add []=h:=by unfold dU.add;simp
theorem wy{log:List RecR}{aH:Nat}(hg:aH<=log.length){m:Nat}(ht:∀ r∈log,0<=r.tx/\r.tx<m):∀ (f:Nat) (h:dU) (i:Nat),h.ops.length=m->aH<=i+f->jr log aH f h i=(h.add (((log.take aH).drop i).filter A7),true)
 |0,h,i,_,hf=>by unfold jr;rw[ni (by rw[jS];omega)];rw[show([]:List RecR).filter A7=[]from rfl,dU.add_nil]
 |f+1,h,i,hm,hf=>by
  unfold jr;by_cases hi:aH<=i
  ·rw[aG hi,ni (by rw[jS];omega),show([]:List RecR).filter A7=[]from rfl,dU.add_nil]
  ·rw[ax hi];have hr:log[i]? =some (log[i]'(by omega)):=cK _;generalize log[i]'(by omega)=r at hr;rw[hr];simp only[];have hb:=ht r (dg hr);rw[ax (by rw[hm];omega)];have hd:(log.take aH).drop i=r::(log.take aH).drop (i+1):=by
    rw[o3 (by rw[jS];omega)]
    congr 1
    rw[List.getElem_take];have:=(dG.1 hr).2;exact this
   rw[hd,o6];by_cases hy:A7 r=true
   ·rw[aG hy];have xJ:(r.kind==2&&r.yes)=true:=hy;rw[aG xJ,wy hg ht f _ (i+1) (by exact hm) ai];unfold dU.add;simp
   ·rw[ax hy];have xJ:¬ (r.kind==2&&r.yes)=true:=hy;rw[ax xJ,wy hg ht f _ (i+1) hm ai]
theorem FR{m:Nat}:∀ (l:List ShR) (os pre:List Nat) (h:dU),h.ops.length=m->h.looked=pre++os->os.length=l.length->(∀ s∈l,0<=s.aH/\s.aH<=s.log.length/\∀ r∈s.log,0<=r.tx/\r.tx<m)->
  (∀ (i:Nat) s o,l[i]? =some s->os[i]? =some o->(o:Int)<=s.aH)->mR l pre.length h=({h.add (news l os)with looked:=pre++l.map λs=>s.aH.toNat},true)
 |[],os,pre,h,_,oI,hlen,_,_=>by have:os=[]:=JJ (by simpa using hlen);subst this;unfold mR news;rw[dU.add_nil];simp only[l6];rw[<- oI]
 |s::l,[],pre,h,_,_,hlen,_,_=>by simp at hlen
 |s::l,o::os,pre,h,hm,oI,hlen,hs,ho=>by
  obtain⟨a1,a2,a3⟩:=hs s (fY ..);have Xp:=ho 0 s o rfl rfl;have jm:h.looked[pre.length]?.getD 0=o:=by rw[oI];simp
  unfold mR;have e:rJ s pre.length h=({h.add (qj s o)with looked:=(pre++[s.aH.toNat])++os},true):=by
   unfold rJ;rw[jm];rw[ax ai];rw[wy ai a3 _ h o hm ai];simp only[eN]
   congr 2
   show h.looked.set pre.length _=_;rw[oI];simp
  rw[e];simp only[eN];have ih:=FR l os (pre++[s.aH.toNat]) {h.add (qj s o)with looked:=(pre++[s.aH.toNat])++os} (by exact hm) rfl (by simpa using hlen) (λz hz=>hs z (fp _ hz)) (λi z y a b=>ho (i+1) z y (by simpa using a) (by simpa using b));rw[gO,gJ]at ih;rw[ih];show _=({h.add (qj s o++news l os)with looked:=pre++(s::l).map λ(s:ShR)=>s.aH.toNat},true)
  congr 1
  unfold dU.add;simp
theorem zO{r:RecR}:∀ {l:List ShR} {os:List Nat},r∈news l os↔∃ (i:Nat) (s:ShR) (o:Nat),l[i]? =some s/\os[i]? =some o/\r∈qj s o
 |[],os=>by
  unfold news;constructor
  ·intro h;cases h
  ·rintro⟨i,s,o,h,_⟩;simp at h
 |s::l,[]=>by
  unfold news;constructor
  ·intro h;cases h
  ·rintro⟨i,s,o,_,h,_⟩;simp at h
 |s::l,o::os=>by
  unfold news;rw[bS,zO];constructor
  ·rintro(h|⟨i,z,y,a,b,c⟩)
   ·exact⟨0,s,o,rfl,rfl,h⟩
   ·exact⟨i+1,z,y,by simpa using a,by simpa using b,c⟩
  ·rintro⟨i,z,y,a,b,c⟩;cases i with
   |zero=>injection a with a;injection b with b;subst a b;exact .inl c
   |succ i=>exact .inr ⟨i,z,y,by simpa using a,by simpa using b,c⟩
theorem oj{s:ShR}{o:Nat}{r:RecR}:r∈qj s o↔∃ i:Nat,o<=i/\(i:Int)<s.aH/\s.log[i]? =some r/\r.kind=2/\r.yes=true:=by
 unfold qj;rw[gI];have hy:A7 r=true↔r.kind=2/\r.yes=true:=by unfold A7;simp
 rw[hy];constructor
 ·rintro⟨h1,h2⟩;obtain⟨i,hi⟩:=l9.1 h1;rw[List.getElem?_drop]at hi;obtain⟨a,b⟩:=gB hi;exact⟨o+i,ai,by omega,b,h2⟩
 ·rintro⟨i,h1,h2,h3,h4⟩;refine⟨l9.2 ⟨i-o,?_⟩,h4⟩;rw[List.getElem?_drop,show o+(i-o)=i by omega,s4 ai];exact h3
theorem zP{p:RecR->Bool}:∀ {l:List RecR},(∀ (i j:Nat) (r r':RecR),l[i]? =some r->l[j]? =some r'->p r=true->p r'=true->r.tx=r'.tx->i=j)->((l.filter p).map (·.tx)).Nodup
 |[],_=>by simp
 |a::l,h=>by
  have ih:=zP (p:=p) (l:=l) λi j r r' x y z u v=>by have:=h (i+1) (j+1) r r' (by simpa using x) (by simpa using y) z u v;omega
  rw[o6];split
  ·rename_i hp;rw[gW,oX];refine⟨λhm=>?_,ih⟩;obtain⟨r,hr,e⟩:=bM.1 hm;obtain⟨h1,h2⟩:=gI.1 hr;obtain⟨i,hi⟩:=l9.1 h1;have:=h 0 (i+1) a r rfl (by simpa using hi) hp h2 e.symm;omega
  ·exact ih
theorem zQ{H:Int->Int}:∀ {l:List ShR} {os:List Nat} {b:Nat},(∀ (i:Nat) s,l[i]? =some s->(∀ (i j:Nat) (r r':RecR),s.log[i]? =some r->s.log[j]? =some r'->r.kind=2->r'.kind=2->r.tx=r'.tx->i=j)/\∀ (j:Nat) (r:RecR),s.log[j]? =some r->r.kind=2->H r.tx=((b+i:Nat):Int))->((news l os).map (·.tx)).Nodup
 |[],_,_,_=>by simp[news]
 |s::l,[],_,_=>by simp[news]
 |s::l,o::os,b,h=>by
  unfold news;rw[eI,il];obtain⟨h1,h2⟩:=h 0 s rfl;refine⟨?_,zQ (H:=H) (b:=b+1) λi z hz=>?_,?_⟩
  ·have hk:∀ r:RecR,A7 r=true->r.kind=2:=λr hr=>by unfold A7 at hr;simp at hr;exact hr.1
   have:=zP (p:=A7) (l:=s.log) λi j r r' x y z u v=>h1 i j r r' x y (hk r z) (hk r' u) v;refine List.Sublist.nodup ?_ this;exact(((List.drop_sublist _ _).trans (List.take_sublist _ _)).filter _).map _
  ·obtain⟨a1,a2⟩:=h (i+1) z (by simpa using hz);refine⟨a1,λj r x y=>?_⟩;rw[a2 j r x y];congr 1;omega
  ·intro x hx y hy e;subst e;obtain⟨r,hr,rfl⟩:=bM.1 hx;obtain⟨q,hq,e⟩:=bM.1 hy;obtain⟨i,_,_,a3,a4,_⟩:=oj.1 hr;obtain⟨k,z,o',b1,b2,b3⟩:=zO.1 hq;obtain⟨i',_,_,c3,c4,_⟩:=oj.1 b3;have e1:=h2 i r a3 a4;have e2:=(h (k+1) z (by simpa using b1)).2 i' q c3 c4;rw[e,e1]at e2;omega
structure oN(w:WR)(G:Gl)(h:dU):Prop where
 p:xV (cJ w.aF) w h.order h.reads
 mem:∀ t rd,G.dec t=some (true,rd)->∃ j:Nat,h.order[j]? =some t/\h.reads[j]? =some rd
 dec:∀ (j:Nat) t rd,h.order[j]? =some t->h.reads[j]? =some rd->G.dec t=some (true,rd)
 ops:h.ops=cJ w.aF
 looked:h.looked=w.sh.map λs=>s.aH.toNat
 st:∀ x∈w.aF,1<=x.state/\x.state<=3
theorem oN.ord{w:WR}{G:Gl}{h:dU}(I:oN w G h){t:Int}(ht:t∈h.order):∃ rd,G.dec t=some (true,rd):=by obtain⟨j,hj⟩:=l9.1 ht;have hl:=(dG.1 hj).1;exact⟨_,I.dec j t _ hj (cK (by rw[I.p.len];exact hl))⟩
theorem WF.aH{W:WP}{w:WR}{G:Gl}(F:WF W w G){i:Nat}{s:ShR}(hs:w.sh[i]? =some s):0<=s.aH/\s.aH<=s.log.length:=(F.A6.sh i s hs).1.g.aH
theorem WF.bF{W:WP}{w:WR}{G:Gl}(F:WF W w G){t:Int}{x:Bool×List Int}(h:G.dec t=some x):∃ (k:Nat) (s:ShR) (i:Nat) (r:RecR),w.sh[k]? =some s/\s.log[i]? =some r/\(i:Int)<s.aH/\r.kind=2/\r.tx=t/\(r.yes,r.reads)=x/\(opsOf (cJ w.aF) t).isSome=true:=by
 have hn:=F.rel.n;have hh:0<=lL w t/\lL w t<w.sh.length:=by
  unfold lL;cases ho:opsOf (cJ w.aF) t with
  |none=>simp only[N4,gk];omega
  |some ops=>
   have hr:=F.rel.tok.of ho;have eV:ops≠[]:=λe=>by have:=hr.2.2.1;rw[e]at this;simp at this
   exact gz hr ai (n9 (n:=w.sh.length) eV)
 obtain⟨s,P,a1,a2,a3,a4⟩:=F.at hh.1 hh.2;obtain⟨i,r,b1,b2,b3,b4,b5⟩:=a3.e.ex t x h a4.symm;refine⟨_,s,i,r,a1,b1,b2,b3,b4,b5,?_⟩;obtain⟨ops,c1,_⟩:=a2.xa.zo i r (by rw[a2.log];exact b1);rw[<- b4,c1];rfl
theorem WF.gH{W:WP}{w:WR}{G:Gl}(F:WF W w G)(k a b:Int):∃ G',G.Le G'/\WF (gp W k a b).1 (gH w k a b).1 G'/\∀ (i:Nat) s',(gH w k a b).1.sh[i]? =some s'->∃ s,w.sh[i]? =some s/\xl s s'/\lu w s s':=by
 have hM:=F.rel.ae1;obtain⟨G',hle,hw⟩:=F.A6.gH (k:=k) (a:=a) (b:=b) hM;have qJ:∀ (i:Nat) s',(Go.Sl.gH w k a b).1.sh[i]? =some s'->∃ s,w.sh[i]? =some s/\lu w s s':=λi s' h=>Ib (λi s hs=>(F.A6.sh i s hs).2.1) hM.to h;have q6:=(Ks F.rel k a b).1;have hH:lL (Go.Sl.gH w k a b).1=lL w:=by funext t;unfold lL;rw[yp,oi]
 refine⟨G',hle,⟨q6,by rw[hH];exact hw,λs' nO=>?_⟩,λi s' h=>?_⟩
 ·obtain⟨i,hi⟩:=l9.1 nO;obtain⟨s,h1,h2⟩:=qJ i s' hi;obtain⟨P,R,c1,c2,c3,_⟩:=F.rel.xd i (dG.1 h1).1;rw[h1]at c2;injection c2 with c2;subst c2
  have h3:=F.Xk s (dg h1);have h4:=h3.step F.rel.tok (by have:=F.rel.n.1;omega) (F.A6.sh i s h1).1.g c3 F.A6.aK h2;rw[yp,oi];exact λr a1 a2 a3=>(h4 r a1 a2 a3).mono hle
 ·obtain⟨s,h1,h2⟩:=qJ i s' h;exact⟨s,h1,h2.abm (F.aH h1),h2⟩
theorem xV.P9{W:WP}{w:WR}{G:Gl}(F:WF W w G):∀ (B:List RecR) {order:List Int} {reads:List (List Int)},xV (cJ w.aF) w order reads->
  (∀ t rd,G.dec t=some (true,rd)->t∈order)->(∀ t∈order,(∃ rd,pI (cJ w.aF) w.sh.length G t rd)/\∀ b rd,G.dec t=some (b,rd)->b=true)->
  (B.map (·.tx)).Nodup->(∀ r∈B,r.tx∉order/\pI (cJ w.aF) w.sh.length G r.tx r.reads/\G.dec r.tx=none)->xV (cJ w.aF) w (order++B.map (·.tx)) (reads++B.map (·.reads))
 |[],order,reads,h,_,_,_,_=>by simpa using h
 |r::B,order,reads,h,h1,h2,h3,h4=>by
  obtain⟨a1,a2,a3⟩:=h4 r (fY ..);have hx:=h.add F h1 h2 a1 a2 a3;rw[gW,oX]at h3;have:=xV.P9 F B hx (λt rd z=>ks _ (h1 t rd z)) (λt ht=>by
   rcases bS.1 ht with ht|ht
   ·exact h2 t ht
   ·rw[dL.1 ht];exact⟨⟨_,a2⟩,λb rd z=>by rw[a3]at z;cases z⟩) h3.2 (λq hq=>by
   obtain⟨b1,b2,b3⟩:=h4 q (fp _ hq);refine⟨λhm=>?_,b2,b3⟩;rcases bS.1 hm with hm|hm
   ·exact b1 hm
   ·exact h3.1 (bM.2 ⟨q,hq,dL.1 hm⟩))
  simpa using this
theorem oN.look{W:WP}{w:WR}{G:Gl}{h:dU}(I:oN w G h)(F:WF W w G){W':WP}{w':WR}{G':Gl}(F':WF W' w' G')(hle:G.Le G')(ho:cJ w'.aF=cJ w.aF)(hl:w'.sh.length=w.sh.length)(dI:∀ x∈w'.aF,1<=x.state/\x.state<=3)
  (hs:∀ (i:Nat) s',w'.sh[i]? =some s'->∃ s,w.sh[i]? =some s/\xl s s'):∃ h',mS w' h=(h',true)/\oN w' G' h':=by
 have get:∀ {i:Nat} {s},w.sh[i]? =some s->∃ s',w'.sh[i]? =some s'/\xl s s':=λ{i s} hi=>by
  have du:=(dG.1 hi).1;have hg:w'.sh[i]? =some (w'.sh[i]'(by rw[hl];exact du)):=cK _;obtain⟨z,h1,h2⟩:=hs i _ hg;rw[hi]at h1;injection h1 with h1;subst h1
  exact⟨_,hg,h2⟩
 have e:mS w' h=({h.add (news w'.sh (w.sh.map λs=>s.aH.toNat))with looked:=[]++w'.sh.map λs=>s.aH.toNat},true):=by
  unfold mS;refine FR (m:=(cJ w'.aF).length) w'.sh (w.sh.map λs=>s.aH.toNat) [] h (by rw[I.ops,ho]) (by rw[I.looked];rfl) (by simp[hl]) (λs nO=>?_) (λi s o a b=>?_)
  ·obtain⟨i,hi⟩:=l9.1 nO;obtain⟨g1,g2⟩:=F'.aH hi;refine⟨g1,g2,λr hr=>?_⟩;obtain⟨P,R,c1,c2,c3,_⟩:=F'.rel.xd i (dG.1 hi).1;rw[hi]at c2;injection c2 with c2;subst c2
   obtain⟨j,hj⟩:=l9.1 hr;obtain⟨ops,d1,_⟩:=c3.xa.zo j r (by rw[c3.log];exact hj);obtain⟨d2,d3,_⟩:=je d1;omega
  ·obtain⟨z,h1,h2⟩:=hs i s a;rw[fH,h1]at b;injection b with b
   have b:z.aH.toNat=o:=b;have:=h2.1;have:=F.aH h1;omega
 refine⟨_,e,?_⟩;generalize hB:news w'.sh (w.sh.map λs=>s.aH.toNat)=B at e;have inB:∀ r,r∈B↔∃ (k:Nat) (s s':ShR) (i:Nat),w.sh[k]? =some s/\w'.sh[k]? =some s'/\s.aH<=i/\(i:Int)<s'.aH/\s'.log[i]? =some r/\r.kind=2/\r.yes=true:=λr=>by
  rw[<- hB,zO];constructor
  ·rintro⟨k,s',o,h1,h2,h3⟩;obtain⟨s,a1,a2⟩:=hs k s' h1;rw[fH,a1]at h2;injection h2 with h2
   have h2:s.aH.toNat=o:=h2;obtain⟨i,b1,b2,b3,b4,b5⟩:=oj.1 h3;have:=F.aH a1;exact⟨k,s,s',i,a1,h1,ai,b2,b3,b4,b5⟩
  ·rintro⟨k,s,s',i,h1,h2,h3,h4,h5,h6,h7⟩;have:=F.aH h1;refine⟨k,s',s.aH.toNat,h2,by rw[fH,h1];rfl,oj.2 ⟨i,ai,h4,h5,h6,h7⟩⟩
 have pre:∀ r∈B,pI (cJ w.aF) w.sh.length G r.tx r.reads/\G.dec r.tx=none:=λr hr=>by
  obtain⟨k,s,s',i,h1,h2,h3,h4,h5,h6,h7⟩:=(inB r).1 hr;obtain⟨z,z1,z2⟩:=hs k s' h2;rw[h1]at z1;injection z1 with z1;subst z1
  have oD:s.log[i]? =some r:=by rw[<- z2.2.2 i h4];exact h5
  refine⟨F.Xk s (dg h1) r (dg oD) h6 h7,?_⟩;cases hd:G.dec r.tx with
  |none=>rfl
  |some x=>
   have hw:=(F.A6.sh k s h1).1;obtain⟨j,q,a1,a2,a3,a4,_⟩:=hw.e.ex _ _ hd (hw.e.hm i r oD h6);have:=hw.g.uniq i j r q oD a1 h6 a3 a4.symm;subst this;omega
 have vot:∀ t∈h.order,(∃ rd,pI (cJ w.aF) w.sh.length G t rd)/\∀ b rd,G.dec t=some (b,rd)->b=true:=λt ht=>by
  obtain⟨rd,hd⟩:=I.ord ht;refine⟨?_,λb Lm z=>by rw[hd]at z;injection z with z;injection z with z;exact z.symm⟩;obtain⟨k,s,i,r,a1,a2,a3,a4,a5,a6,_⟩:=F.bF hd;injection a6 with a6 a7
  have:=F.Xk s (dg a1) r (dg a2) a4 a6;rw[a5]at this;exact⟨_,this⟩
 have ae6:∀ t rd,G.dec t=some (true,rd)->t∈h.order:=λt rd z=>by obtain⟨j,hj,_⟩:=I.mem t rd z;exact dg hj
 have hp:=(xV.P9 F B I.p ae6 vot (by
   rw[<- hB];exact zQ (H:=lL w') (b:=0) λi s hi=>⟨(F'.A6.sh i s hi).1.g.uniq,λj r a b=>by
    have:=(F'.A6.sh i s hi).1.e.hm j r a b;rw[this,(F'.A6.sh i s hi).2.1,l5]⟩) (λr hr=>by
  obtain⟨a,b⟩:=pre r hr;refine⟨λhm=>?_,a,b⟩;obtain⟨rd,hd⟩:=I.ord hm;rw[b]at hd;cases hd)).step hl hs
 refine⟨?_,λt rd hd=>?_,λj t rd a b=>?_,by rw[ho];exact I.ops,rfl,dI⟩
 ·rw[ho];exact hp
 ·obtain⟨k,s',i,r,a1,a2,a3,a4,a5,a6,_⟩:=F'.bF hd;injection a6 with a6 a7
  obtain⟨s,b1,b2⟩:=hs k s' a1;by_cases hi:(i:Int)<s.aH
  ·have hr:s.log[i]? =some r:=by rw[<- b2.2.2 i a3];exact a2
   have:=(F.A6.sh k s b1).1.g.bF i r hr hi a4;rw[a5,a6,a7]at this;obtain⟨j,j1,j2⟩:=I.mem t rd this;exact⟨j,by show(h.order++_)[j]? =_;rw[mT (dG.1 j1).1];exact j1,by show(h.reads++_)[j]? =_;rw[mT (dG.1 j2).1];exact j2⟩
  ·have hr:r∈B:=(inB r).2 ⟨k,s,s',i,b1,a1,ai,a3,a2,a4,a6⟩;obtain⟨j,hj⟩:=l9.1 hr;refine⟨h.order.length+j,?_,?_⟩
   ·show(h.order++B.map (·.tx))[_]? =_;rw[xF ai,Sj,fH,hj,jR,a5]
   ·show(h.reads++B.map (·.reads))[_]? =_;rw[xF (by rw[I.p.len];omega),I.p.len,Sj,fH,hj,jR,a7]
 ·have a':(h.order++B.map (·.tx))[j]? =some t:=a;have b':(h.reads++B.map (·.reads))[j]? =some rd:=b;rcases lH j h.order.length with c|c
  ·rw[mT c]at a';rw[mT (by rw[I.p.len];exact c)]at b';exact hle.dec _ _ (I.dec j t rd a' b')
  ·rw[xF c,fH]at a';rw[xF (by rw[I.p.len];exact c),I.p.len,fH]at b';obtain⟨r,hr,rfl⟩:=G3.1 a';rw[hr]at b';injection b' with b';subst b'
   obtain⟨k,s,s',i,h1,h2,h3,h4,h5,h6,h7⟩:=(inB r).1 (dg hr);have:=(F'.A6.sh k s' h2).1.g.bF i r h5 h4 h6;rw[h7]at this;exact this
theorem Dy{h:dU}{t:Int}:0<=Kz h t↔t∈h.order:=by
 unfold Kz;cases hf:h.order.findIdx? (· ==t)with
 |none=>
  rw[JD]at hf;simp only[];constructor
  ·intro h;omega
  ·intro hm;have:=hf t hm;simp at this
 |some i=>
  simp only[];obtain⟨hl,hp,_⟩:=uH.1 hf;refine⟨λ_=>?_,λ_=>by omega⟩;have:h.order[i]=t:=by simpa using hp
  rw[<- this];exact dp _
theorem Ic{h:dU}{t:Int}{j:Nat}(hn:h.order.Nodup)(hj:h.order[j]? =some t):Kz h t=j:=by
 unfold Kz;cases hf:h.order.findIdx? (· ==t)with
 |none=>
  rw[JD]at hf;have:=hf t (dg hj);simp at this
 |some i=>
  simp only[];obtain⟨hl,hp,_⟩:=uH.1 hf;have e:h.order[i]=t:=by simpa using hp
  obtain⟨RV,RX⟩:=dG.1 hj;have hp:=yz.1 hn;rcases yA i j with c|c|c
  ·exact absurd (e.trans RX.symm) (hp i j hl RV c)
  ·rw[c]
  ·exact absurd (RX.trans e.symm) (hp j i RV hl c)
theorem oN.one{W:WP}{w:WR}{G:Gl}{h:dU}(I:oN w G h)(F:WF W w G):H6 w h=true:=by
 unfold H6;rw[kp];intro s hs;rw[kp];intro r hr;obtain⟨k,hk⟩:=l9.1 hs;obtain⟨i,hi⟩:=l9.1 hr;by_cases h3:r.kind=3
 ·obtain⟨rd,hd⟩:=(F.A6.sh k s hk).1.g.done i r hi h3;have e3:(r.kind != 3)=false:=by simp[h3]
  rw[e3,Jx];cases hy:r.yes with
  |true=>
   rw[hy]at hd;obtain⟨j,hj,_⟩:=I.mem _ _ hd;simp only[eN];exact uJ (Dy.2 (dg hj))
  |false=>
   rw[hy]at hd;simp only[gn,eR];refine uJ ?_;rcases Int.lt_or_le (Kz h r.tx) 0 with c|c
   ·exact c
   ·obtain⟨Lm,Ek⟩:=I.ord (Dy.1 c);rw[hd]at Ek;injection Ek with z;injection z with z;cases z
 ·have e3:(r.kind != 3)=true:=by simpa using h3
  rw[e3,Bool.true_or]
theorem oN.told{W:WP}{w:WR}{G:Gl}{h:dU}(I:oN w G h)(F:WF W w G):Cb w h=true:=by
 unfold Cb;rw[kp];intro t ht;have hlen:h.ops.length=w.aF.length:=by rw[I.ops];simp[cJ]
 rw[l8,hlen]at ht;have hx:w.aF[t]? =some (w.aF[t]):=cK ht;generalize w.aF[t]=x at hx;rw[hx];simp only[];obtain⟨s1,s2⟩:=I.st x (dg hx);obtain⟨h2,h3⟩:=F.A6.aF t x hx;have c:x.state=1\/x.state=2\/x.state=3:=ai;rcases c with c|c|c
 ·rw[c];simp
 ·obtain⟨j,j1,j2⟩:=I.mem _ _ (h2 c);have ha:=Ic I.p.nd j1;rw[c,ha];simp[j2]
 ·obtain⟨rd,hd⟩:=h3 c;have hn:¬ (0<=Kz h t):=λz=>by obtain⟨Lm,Ek⟩:=I.ord (Dy.1 z);rw[hd]at Ek;injection Ek with z;injection z with z;cases z
  rw[c];simp;omega
theorem oN.my{w:WR}{G:Gl}{h:dU}(I:oN w G h)(hT:vg (cJ w.aF))(cG:∀ t∈h.order,(opsOf (cJ w.aF) t).isSome=true):
  ∀ (f i:Nat),h.order.length<=i+f->my h f i (runT (cJ w.aF) (h.order.take i) bO)=(runT (cJ w.aF) h.order bO,true)
 |0,i,hf=>by unfold Go.Sl.my;rw[jD ai]
 |f+1,i,hf=>by
  unfold Go.Sl.my;cases hi:h.order[i]? with
  |none=>
   simp only[];rw[jD (UF.1 hi)]
  |some t=>
   simp only[];rw[ax (by rw[Ic I.p.nd hi];simp)];have hl:=(dG.1 hi).1;have hr:h.reads[i]? =some (h.reads[i]'(by rw[I.p.len];exact hl)):=cK _;obtain⟨ops,ho⟩:=oC.1 (cG t (dg hi));have P7:h.ops[t.toNat]?.getD []=(opsOf (cJ w.aF) t).getD []:=by
    rw[I.ops];unfold opsOf at ho⊢;split at ho
    ·cases ho
    ·rename_i hh;rw[ax hh]
   have hv:=I.p.val i t _ hi hr;rw[hr,iA,P7,aG hv];have e:runT (cJ w.aF) (h.order.take (i+1)) bO=cA (runT (cJ w.aF) (h.order.take i) bO) ((opsOf (cJ w.aF) t).getD []):=by rw[ED,hi,zM];rfl
   rw[<- e];exact oN.my I hT cG f (i+1) ai
theorem oN.Dz{W:WP}{w:WR}{G:Gl}{h:dU}(I:oN w G h)(F:WF W w G):∀ t∈h.order,(opsOf (cJ w.aF) t).isSome=true:=λt ht=>by obtain⟨rd,hd⟩:=I.ord ht;obtain⟨_,_,_,_,_,_,_,_,_,_,h⟩:=F.bF hd;exact h
theorem oN.serial{W:WP}{w:WR}{G:Gl}{h:dU}(I:oN w G h)(F:WF W w G):KA h=(runT (cJ w.aF) h.order bO,true):=by have:=oN.my I F.rel.tok (I.Dz F) (h.order.length+1) 0 ai;rw[V3]at this;exact this
theorem Ci{T T':List (List bP)}:∀ {l v:List Int},(∀ t∈l,opsOf T' t=opsOf T t)->runT T' l v=runT T l v
 |[],_,_=>rfl
 |t::l,v,h=>by show runT T' l (cA v ((opsOf T' t).getD []))=runT T l (cA v ((opsOf T t).getD []));rw[h t (fY ..),Ci λx hx=>h x (fp _ hx)]
theorem WF.nJ{W:WP}{w:WR}{G:Gl}(F:WF W w G)(ops:List bP):WF (pD W ops).1 (bZ w ops).1 G/\(bZ w ops).1.sh=w.sh/\∃ more,cJ (bZ w ops).1.aF=cJ w.aF++more/\((bZ w ops).2.2=0->more=[ops]/\(bZ w ops).2.1=w.aF.length)/\((bZ w ops).2.2≠0->(bZ w ops).1=w)/\((∀ x∈w.aF,1<=x.state/\x.state<=3)->∀ x∈(bZ w ops).1.aF,1<=x.state/\x.state<=3):=by
 have q6:=(xe F.rel ops).1;generalize hx:bZ w ops=x at*;unfold bZ at hx;split at hx
 ·subst hx;exact⟨⟨q6,F.A6,F.Xk⟩,rfl,[],by simp,by simp,λ_=>rfl,λh=>h⟩
 split at hx
 ·subst hx;exact⟨⟨q6,F.A6,F.Xk⟩,rfl,[],by simp,by simp,λ_=>rfl,λh=>h⟩
 split at hx
 ·subst hx;exact⟨⟨q6,F.A6,F.Xk⟩,rfl,[],by simp,by simp,λ_=>rfl,λh=>h⟩
 ·subst hx;obtain⟨b1,b2⟩:=pG {w with aF:=w.aF++[⟨ops,1,[]⟩]} w.aF.length;have cN:cJ (iW {w with aF:=w.aF++[⟨ops,1,[]⟩]} w.aF.length).aF=cJ w.aF++[ops]:=by rw[b2];simp[cJ]
  have old:∀ t,(opsOf (cJ w.aF) t).isSome=true->lL (iW {w with aF:=w.aF++[⟨ops,1,[]⟩]} w.aF.length) t=lL w t:=λt ht=>by obtain⟨o,ho⟩:=oC.1 ht;unfold lL;rw[cN,b1,ho,jO [ops] ho]
  refine⟨⟨q6,⟨λi s hs=>?_,λm hm=>?_,λt y hy=>?_⟩,λs hs=>?_⟩,b1,[ops],cN,λ_=>⟨rfl,rfl⟩,λh=>absurd rfl h,λh y hy=>?_⟩
  ·have nO:w.sh[i]? =some s:=by rw[b1]at hs;exact hs
   obtain⟨a1,a2,a3⟩:=F.A6.sh i s nO;obtain⟨P,R,c1,c2,c3,_⟩:=F.rel.xd i (dG.1 nO).1;rw[nO]at c2;injection c2 with c2;subst c2
   have inl:∀ (j:Nat) (r:RecR),s.log[j]? =some r->(opsOf (cJ w.aF) r.tx).isSome=true:=λj r hj=>by obtain⟨o,d1,_⟩:=c3.xa.zo j r (by rw[c3.log];exact hj);rw[d1];rfl
   refine⟨⟨a1.g,⟨λj r hj hk=>?_,λu hu=>?_,λtx z hz he=>?_,a1.e.exp,a1.e.u1⟩,a1.v⟩,a2,a3⟩
   ·rw[old _ (inl j r hj)];exact a1.e.hm j r hj hk
   ·rw[old _ (by rw[c3.abl u hu];rfl)];exact a1.e.hu u hu
   ·obtain⟨_,_,_,_,_,_,_,_,_,_,yO⟩:=F.bF hz;rw[old _ yO]at he;exact a1.e.ex tx z hz he
  ·unfold iW at hm;split at hm
   ·exact F.A6.aK m hm
   ·rcases bS.1 hm with hm|hm
    ·exact F.A6.aK m hm
    ·rw[dL.1 hm];exact oM.other (by simp) (by simp) (by simp)
  ·rw[b2]at hy;have xJ:(w.aF++[(⟨ops,1,[]⟩:TxR)])[t]? =some y:=hy;rcases lH t w.aF.length with c|c
   ·rw[mT c]at xJ;exact F.A6.aF t y xJ
   ·have:y∈[(⟨ops,1,[]⟩:TxR)]:=by rw[xF c]at xJ;exact dg xJ
    rw[dL.1 this];exact⟨λh=>by simp at h,λh=>by simp at h⟩
  ·rw[b1]at hs;rw[cN,b1];exact λr h1 h2 h3=>(F.Xk s hs r h1 h2 h3).app [ops]
  ·rw[b2]at hy;rcases bS.1 hy with hy|hy
   ·exact h y hy
   ·rw[dL.1 hy];simp
theorem oN.nJ{W:WP}{w:WR}{G:Gl}{h:dU}(I:oN w G h)(F:WF W w G){w':WR}{more:List (List bP)}(hs:w'.sh=w.sh)(ho:cJ w'.aF=cJ w.aF++more)(dI:∀ x∈w'.aF,1<=x.state/\x.state<=3):oN w' G {h with ops:=h.ops++more}:=by
 have same:∀ t∈h.order,opsOf (cJ w'.aF) t=opsOf (cJ w.aF) t:=λt ht=>by obtain⟨o,h1⟩:=oC.1 (I.Dz F t ht);rw[ho,jO more h1,h1]
 refine⟨⟨I.p.len,I.p.nd,λi j t t' yP a b=>?_,λj t rd a b=>?_⟩,I.mem,I.dec,by rw[ho,<- I.ops],by rw[hs];exact I.looked,dI⟩
 ·rw[same t (dg a),same t' (dg b),hs];exact I.p.pre i j t t' yP a b
 ·rw[same t (dg a),Ci λx hx=>same x (EF hx)];exact I.p.val j t rd a b
def kF(n:Nat)(w:WR)(h:dU):Prop:=w.sh.length=n/\∃ W G t,WF W w G/\oN w G h/\lq t w
theorem kF.new{n:Nat}(hn:1<=n/\n<=4):kF n (kU n) ⟨[],[],[],List.replicate n 0⟩:=by
 have qJ:∀ (i:Nat) s,(kU n).sh[i]? =some s->s=jQ i n:=λi s hs=>by have nO:((upto n).map λk=>jQ k n)[i]? =some s:=hs;unfold upto at nO;rw[uG,fH]at nO;obtain⟨k,hk,rfl⟩:=G3.1 nO;have:=(dG.1 hk).2;rw[JC]at this;subst this;rfl
 have hl:(kU n).sh.length=n:=by show((upto n).map _).length=n;simp[upto]
 have hT:cJ (kU n).aF=[]:=rfl;refine⟨hl,B2 n,⟨λ_=>none,λ_ _=>none⟩,0,⟨Kr ⟨ai,ai⟩,⟨λi s hs=>?_,λm hm=>(by cases hm),λt x hx=>?_⟩,λs hs=>?_⟩,⟨⟨rfl,.nil,λi j t t' _ a=>by simp at a,λj t rd a=>by simp at a⟩,λt rd z=>(by cases z),λj t rd a=>by simp at a,rfl,?_,λx hx=>(by cases hx)⟩,Kw⟩
 ·rw[qJ i s hs];refine⟨⟨gN.new,⟨λj r hj=>by simp[jQ,cq]at hj,λu hu=>by simp[jQ,cq]at hu,λtx x z=>(by cases z),λtx x z=>(by cases z),λi j r r' hj=>by simp[jQ,cq]at hj⟩,λ_=>rfl⟩,rfl,rfl⟩
 ·have fb:([]:List TxR)[t]? =some x:=hx;simp at fb
 ·obtain⟨i,hi⟩:=l9.1 hs;rw[qJ i s hi];intro r hr;simp[jQ,cq]at hr
 ·show List.replicate n 0=((upto n).map λk=>jQ k n).map λs=>s.aH.toNat;rw[uG];have:(λs:ShR=>s.aH.toNat)∘(λk=>jQ k n)=λ_=>0:=by funext k;rfl
  rw[this];unfold upto;rw[uG];have:(λ_:Int=>0)∘Int.ofNat=λ_:Nat=>(0:Nat):=rfl;rw[this];simp[List.map_const']
theorem kF.gH{n:Nat}{w:WR}{h:dU}(S:kF n w h)(a b c:Int):∃ h',mS (Go.Sl.gH w a b c).1 h=(h',true)/\H6 (Go.Sl.gH w a b c).1 h'=true/\kF n (Go.Sl.gH w a b c).1 h':=by
 obtain⟨hl,W,G,t,F,I,V⟩:=S;obtain⟨G',hle,F',hs⟩:=F.gH a b c;have dI:∀ x∈(Go.Sl.gH w a b c).1.aF,1<=x.state/\x.state<=3:=by
  rcases KD w a b c with e|⟨m,_,e⟩<;>rw[e]
  ·exact I.st
  ·exact Dw I.st
 obtain⟨h',h1,I'⟩:=I.look F F' hle (yp w a b c) (oi w a b c) dI λi s' z=>by obtain⟨s,z1,z2,_⟩:=hs i s' z;exact⟨s,z1,z2⟩
 exact⟨h',h1,I'.one F',by rw[oi];exact hl,_,G',t+1,F',I',Kv V F.rel a b c⟩
theorem kF.nJ{n:Nat}{w:WR}{h:dU}(S:kF n w h)(ops:List bP):kF n (bZ w ops).1 (if(bZ w ops).2.2=0 then{h with ops:=h.ops++[ops]}else h)/\((bZ w ops).2.2=0->(bZ w ops).2.1=h.ops.length):=by
 obtain⟨hl,W,G,t,F,I,V⟩:=S;obtain⟨F',hs,more,h1,h2,h3,h4⟩:=F.nJ ops;have V':=xf V F.rel ops;by_cases he:(bZ w ops).2.2=0
 ·obtain⟨rfl,e⟩:=h2 he;rw[aG he];refine⟨⟨by rw[hs];exact hl,_,G,t+1,F',I.nJ F hs h1 (h4 I.st),V'⟩,λ_=>?_⟩;rw[e,I.ops];simp[cJ]
 ·rw[ax he,h3 he];exact⟨⟨hl,W,G,t,F,I,V⟩,λz=>absurd z he⟩
theorem kF.ae7{n:Nat}{w:WR}{h:dU}(S:kF n w h):Cb w h=true/\(KA h).2=true:=by obtain⟨_,W,G,t,F,I,V⟩:=S;exact⟨I.told F,by rw[I.serial F]⟩
section
open Go.Proofs
abbrev aU(i:Nat)(f:Func)(n:Nat):=Body prog i f ((f.body).getD .skip) n
abbrev ij:=Fl prog
abbrev pV:=Cz prog
abbrev nQ:=Ag prog
abbrev KF:=El prog
abbrev NG:=Bz prog
abbrev Xq:=Pt prog
abbrev Vx:=Mp prog
theorem ef{i n:Nat}{f:Func}(h:prog.funcs[i]? =some f)(h1:(f.name== "runtime.NumGoroutine")=false:=by rfl)(h2:f.body=some ((f.body).getD .skip):=by rfl)(h3:f.ntmps=n:=by rfl):aU i f n:=⟨h,h1,h2,h3⟩
theorem iq{s f o z t:Nat}{fs:Array Field}{fl:Field}{i:TypeInfo}(h1:prog.underlying s=some (.struct fs))(h2:prog.types[t]? =some i)(h3:fs[f]? =some fl:=by rfl)(h4:fl.offset=o:=by rfl)(h5:fl.type=t:=by rfl)(h6:i.size=z:=by rfl)(h7:z≠0:=by decide):ij s f o:=⟨fs,fl,z,h1,h3,h4,⟨i,h5▸aC h2,h6⟩,h7⟩
theorem ja{f:Field}{l:List Field}{m:List (Nat×Nat)}{o z t:Nat}{i:TypeInfo}(h2:prog.types[t]? =some i)(r:U2 prog l m)(h4:f.offset=o:=by rfl)(h5:f.type=t:=by rfl)(h6:i.size=z:=by rfl):U2 prog (f::l) ((o,z)::m):=.cons h4 ⟨i,h5▸aC h2,h6⟩ r
instance:pV 3 1:=⟨_,aC type3,rfl⟩
instance:NG 3 8:=⟨_,aC type3,rfl⟩
instance:Zv prog 3 (.int .i64 0):=⟨_,aC type3,rfl⟩
instance:nQ 3 false:=⟨_,underlying3,rfl⟩
instance:Ik prog 3 IntKind.i64:=⟨underlying3⟩
instance:pV 4 1:=⟨_,aC type4,rfl⟩
instance:nQ 4 false:=⟨_,underlying4,rfl⟩
instance:nQ 5 false:=⟨_,underlying5,rfl⟩
instance:Ik prog 5 IntKind.u8:=⟨underlying5⟩
instance:nQ 9 false:=⟨_,underlying9,rfl⟩
instance:pV 21 1:=⟨_,aC type21,rfl⟩
instance:NG 21 4:=⟨_,aC type21,rfl⟩
instance:Zv prog 21 (.int .i32 0):=⟨_,aC type21,rfl⟩
instance:nQ 21 false:=⟨_,underlying21,rfl⟩
instance:Ik prog 21 IntKind.i32:=⟨underlying21⟩
instance:KF 22 30:=⟨underlying22⟩
instance:nQ 28 false:=⟨_,underlying28,rfl⟩
instance:KF 28 102:=⟨underlying28⟩
instance:pV 30 6:=⟨_,aC type30,rfl⟩
instance:Zv prog 30 (.agg #[.int .i64 0,.int .i64 0,.int .i64 0,.int .i64 0,.int .i64 0,.slice none 0 0]):=⟨_,aC type30,rfl⟩
instance:nQ 30 true:=⟨_,underlying30,rfl⟩
instance:ij 30 0 0:=iq underlying30 type3
instance:ij 30 2 2:=iq underlying30 type3
instance:ij 30 3 3:=iq underlying30 type3
instance:ij 30 4 4:=iq underlying30 type3
instance:ij 30 5 5:=iq underlying30 type28
instance:pV 31 1:=⟨_,aC type31,rfl⟩
instance:Zv prog 31 (.pointer none):=⟨_,aC type31,rfl⟩
instance:nQ 31 false:=⟨_,underlying31,rfl⟩
instance:Xq 31 93:=⟨underlying31⟩
instance:pV 37 3:=⟨_,aC type37,rfl⟩
instance:NG 37 8:=⟨_,aC type37,rfl⟩
instance:Zv prog 37 (.agg #[.bool false,.int .u8 0,.int .i32 0]):=⟨_,aC type37,rfl⟩
instance:nQ 37 true:=⟨_,underlying37,rfl⟩
instance:Bd prog 37 [(0,1),(1,1),(2,1)]:=⟨_,underlying37,ja type4 (ja type5 (ja type21 .nil))⟩
instance:ij 37 0 0:=iq underlying37 type4
instance:ij 37 1 1:=iq underlying37 type5
instance:ij 37 2 2:=iq underlying37 type21
instance:pV 38 1:=⟨_,aC type38,rfl⟩
instance:NG 38 24:=⟨_,aC type38,rfl⟩
instance:Zv prog 38 (.slice none 0 0):=⟨_,aC type38,rfl⟩
instance:nQ 38 false:=⟨_,underlying38,rfl⟩
instance:KF 38 37:=⟨underlying38⟩
instance:pV 40 1:=⟨_,aC type40,rfl⟩
instance:nQ 40 false:=⟨_,underlying40,rfl⟩
instance:KF 40 3:=⟨underlying40⟩
instance:pV 41 1:=⟨_,aC type41,rfl⟩
instance:nQ 41 false:=⟨_,underlying41,rfl⟩
instance:KF 41 38:=⟨underlying41⟩
instance:pV 42 1:=⟨_,aC type42,rfl⟩
instance:nQ 42 false:=⟨_,underlying42,rfl⟩
instance:KF 42 46:=⟨underlying42⟩
instance:Zv prog 44 (.agg #[.slice none 0 0,.slice none 0 0,.slice none 0 0,.slice none 0 0]):=⟨_,aC type44,rfl⟩
instance:Bd prog 44 [(0,1),(1,1),(2,1),(3,1)]:=⟨_,underlying44,ja type41 (ja type40 (ja type42 (ja type40 .nil)))⟩
instance:ij 44 0 0:=iq underlying44 type41
instance:ij 44 1 1:=iq underlying44 type40
instance:ij 44 2 2:=iq underlying44 type42
instance:ij 44 3 3:=iq underlying44 type40
instance:pV 46 1:=⟨_,aC type46,rfl⟩
instance:NG 46 24:=⟨_,aC type46,rfl⟩
instance:Zv prog 46 (.slice none 0 0):=⟨_,aC type46,rfl⟩
instance:nQ 46 false:=⟨_,underlying46,rfl⟩
instance:KF 46 21:=⟨underlying46⟩
instance:pV 64 1:=⟨_,aC type64,rfl⟩
instance:Zv prog 64 (.nilIface):=⟨_,aC type64,rfl⟩
instance:nQ 64 false:=⟨_,underlying64,rfl⟩
instance:pV 71 1:=⟨_,aC type71,rfl⟩
instance:Zv prog 71 (.slice none 0 0):=⟨_,aC type71,rfl⟩
instance:nQ 71 false:=⟨_,underlying71,rfl⟩
instance:KF 71 159:=⟨underlying71⟩
instance:pV 77 1:=⟨_,aC type77,rfl⟩
instance:Ik prog 77 IntKind.u32:=⟨underlying77⟩
instance:pV 79 2:=⟨_,aC type79,rfl⟩
instance:ij 79 0 0:=iq underlying79 type21
instance:ij 81 1 0:=iq underlying81 type79
instance:pV 82 1:=⟨_,aC type82,rfl⟩
instance:nQ 82 false:=⟨_,underlying82,rfl⟩
instance:KF 82 124:=⟨underlying82⟩
instance:pV 83 1:=⟨_,aC type83,rfl⟩
instance:nQ 83 false:=⟨_,underlying83,rfl⟩
instance:KF 83 95:=⟨underlying83⟩
instance:nQ 84 false:=⟨_,underlying84,rfl⟩
instance:Ik prog 87 IntKind.u64:=⟨underlying87⟩
instance:ij 89 2 0:=iq underlying89 type87
instance:pV 91 2:=⟨_,aC type91,rfl⟩
instance:ij 91 1 0:=iq underlying91 type89
instance:ij 91 2 1:=iq underlying91 type77
instance:Zv prog 93 (.agg #[.int .i32 0,.int .u32 0,.slice none 0 0,.slice none 0 0,.slice none 0 0,.chan none,.bool false,.int .u64 0,.int .u32 0]):=⟨_,aC type93,rfl⟩
instance:Bd prog 93 [(0,2),(2,1),(3,1),(4,1),(5,1),(6,1),(7,2)]:=⟨_,underlying93,ja type81 (ja type82 (ja type71 (ja type83 (ja type84 (ja type4 (ja type91 .nil))))))⟩
instance:ij 93 0 0:=iq underlying93 type81
instance:ij 93 1 2:=iq underlying93 type82
instance:ij 93 2 3:=iq underlying93 type71
instance:ij 93 3 4:=iq underlying93 type83
instance:ij 93 4 5:=iq underlying93 type84
instance:ij 93 5 6:=iq underlying93 type4
instance:ij 93 6 7:=iq underlying93 type91
instance:pV 95 3:=⟨_,aC type95,rfl⟩
instance:NG 95 56:=⟨_,aC type95,rfl⟩
instance:Zv prog 95 (.agg #[.slice none 0 0,.int .i64 0,.slice none 0 0]):=⟨_,aC type95,rfl⟩
instance:Bd prog 95 [(0,1),(1,1),(2,1)]:=⟨_,underlying95,ja type38 (ja type3 (ja type46 .nil))⟩
instance:ij 95 0 0:=iq underlying95 type38
instance:ij 95 1 1:=iq underlying95 type3
instance:ij 95 2 2:=iq underlying95 type46
instance:nQ 97 false:=⟨_,underlying97,rfl⟩
instance:Vx 97 5 21:=⟨underlying97⟩
instance:pV 102 3:=⟨_,aC type102,rfl⟩
instance:NG 102 24:=⟨_,aC type102,rfl⟩
instance:Zv prog 102 (.agg #[.bool false,.int .i64 0,.int .i64 0]):=⟨_,aC type102,rfl⟩
instance:Bd prog 102 [(0,1),(1,1),(2,1)]:=⟨_,underlying102,ja type4 (ja type3 (ja type3 .nil))⟩
instance:ij 102 0 0:=iq underlying102 type4
instance:ij 102 1 1:=iq underlying102 type3
instance:ij 102 2 2:=iq underlying102 type3
instance:KF 105 109:=⟨underlying105⟩
instance:pV 109 6:=⟨_,aC type109,rfl⟩
instance:NG 109 80:=⟨_,aC type109,rfl⟩
instance:Zv prog 109 (.agg #[.int .i64 0,.int .i64 0,.bool false,.int .i64 0,.slice none 0 0,.slice none 0 0]):=⟨_,aC type109,rfl⟩
instance:nQ 109 true:=⟨_,underlying109,rfl⟩
instance:Bd prog 109 [(0,1),(1,1),(2,1),(3,1),(4,1),(5,1)]:=⟨_,underlying109,ja type3 (ja type3 (ja type4 (ja type3 (ja type38 (ja type46 .nil)))))⟩
instance:ij 109 0 0:=iq underlying109 type3
instance:ij 109 1 1:=iq underlying109 type3
instance:ij 109 2 2:=iq underlying109 type4
instance:ij 109 5 5:=iq underlying109 type46
instance:pV 124 1:=⟨_,aC type124,rfl⟩
instance:NG 124 8:=⟨_,aC type124,rfl⟩
instance:Zv prog 124 (.pointer none):=⟨_,aC type124,rfl⟩
instance:nQ 124 false:=⟨_,underlying124,rfl⟩
instance:nQ 125 false:=⟨_,underlying125,rfl⟩
instance:Xq 125 156:=⟨underlying125⟩
instance:nQ 127 false:=⟨_,underlying127,rfl⟩
instance:nQ 128 false:=⟨_,underlying128,rfl⟩
instance:Zv prog 130 (.agg #[.pointer none,.chan none,.chan none]):=⟨_,aC type130,rfl⟩
instance:Bd prog 130 [(0,1),(1,1),(2,1)]:=⟨_,underlying130,ja type125 (ja type127 (ja type128 .nil))⟩
instance:ij 130 0 0:=iq underlying130 type125
instance:ij 130 1 1:=iq underlying130 type127
instance:ij 130 2 2:=iq underlying130 type128
instance:pV 137 1:=⟨_,aC type137,rfl⟩
instance:Zv prog 137 (.pointer none):=⟨_,aC type137,rfl⟩
instance:nQ 137 false:=⟨_,underlying137,rfl⟩
instance:NI prog 137:=⟨_,underlying137,rfl⟩
instance:Xq 137 141:=⟨underlying137⟩
instance:nQ 139 false:=⟨_,underlying139,rfl⟩
instance:NI prog 139:=⟨_,underlying139,rfl⟩
instance:pV 141 3:=⟨_,aC type141,rfl⟩
instance:Zv prog 141 (.agg #[.string (ByteArray.mk #[]),.int .i64 0,.nilIface]):=⟨_,aC type141,rfl⟩
instance:Bd prog 141 [(0,1),(1,1),(2,1)]:=⟨_,underlying141,ja type9 (ja type3 (ja type64 .nil))⟩
instance:ij 141 0 0:=iq underlying141 type9
instance:ij 141 1 1:=iq underlying141 type3
instance:ij 141 2 2:=iq underlying141 type64
instance:KF 142 64:=⟨underlying142⟩
instance:pV 146 1:=⟨_,aC type146,rfl⟩
instance:nQ 146 false:=⟨_,underlying146,rfl⟩
instance:KF 146 238:=⟨underlying146⟩
instance:nQ 147 false:=⟨_,underlying147,rfl⟩
instance:Vx 147 5 3:=⟨underlying147⟩
instance:nQ 148 false:=⟨_,underlying148,rfl⟩
instance:Vx 148 3 233:=⟨underlying148⟩
instance:nQ 149 false:=⟨_,underlying149,rfl⟩
instance:Vx 149 3 245:=⟨underlying149⟩
instance:nQ 150 false:=⟨_,underlying150,rfl⟩
instance:Vx 150 3 285:=⟨underlying150⟩
instance:pV 152 1:=⟨_,aC type152,rfl⟩
instance:nQ 152 false:=⟨_,underlying152,rfl⟩
instance:KF 152 229:=⟨underlying152⟩
instance:pV 154 10:=⟨_,aC type154,rfl⟩
instance:Zv prog 154 (.agg #[.map none,.map none,.map none,.map none,.map none,.map none,.slice none 0 0,.int .i64 0,.int .i64 0,.slice none 0 0]):=⟨_,aC type154,rfl⟩
instance:nQ 154 true:=⟨_,underlying154,rfl⟩
instance:Bd prog 154 [(0,1),(1,1),(2,1),(3,1),(4,1),(5,1),(6,1),(7,1),(8,1),(9,1)]:=⟨_,underlying154,ja type97 (ja type147 (ja type148 (ja type149 (ja type149 (ja type150 (ja type152 (ja type3 (ja type3 (ja type71 .nil)))))))))⟩
instance:ij 154 0 0:=iq underlying154 type97
instance:ij 154 1 1:=iq underlying154 type147
instance:ij 154 2 2:=iq underlying154 type148
instance:ij 154 3 3:=iq underlying154 type149
instance:ij 154 4 4:=iq underlying154 type149
instance:ij 154 5 5:=iq underlying154 type150
instance:ij 154 6 6:=iq underlying154 type152
instance:ij 154 7 7:=iq underlying154 type3
instance:ij 154 8 8:=iq underlying154 type3
instance:ij 154 9 9:=iq underlying154 type71
instance:Zv prog 156 (.agg #[.int .i64 0,.int .i64 0,.bool false,.slice none 0 0,.int .i64 0,.map none,.map none,.map none,.map none,.map none,.map none,.slice none 0 0,.int .i64 0,.int .i64 0,.slice none 0 0,.slice none 0 0]):=⟨_,aC type156,rfl⟩
instance:Bd prog 156 [(0,1),(1,1),(2,1),(3,1),(4,1),(5,10),(15,1)]:=⟨_,underlying156,ja type3 (ja type3 (ja type4 (ja type146 (ja type3 (ja type154 (ja type71 .nil))))))⟩
instance:ij 156 0 0:=iq underlying156 type3
instance:ij 156 1 1:=iq underlying156 type3
instance:ij 156 2 2:=iq underlying156 type4
instance:ij 156 3 3:=iq underlying156 type146
instance:ij 156 4 4:=iq underlying156 type3
instance:ij 156 5 5:=iq underlying156 type154
instance:ij 156 6 15:=iq underlying156 type71
instance:pV 159 7:=⟨_,aC type159,rfl⟩
instance:NG 159 88:=⟨_,aC type159,rfl⟩
instance:Zv prog 159 (.agg #[.int .i64 0,.int .i64 0,.int .i64 0,.int .i64 0,.bool false,.slice none 0 0,.slice none 0 0]):=⟨_,aC type159,rfl⟩
instance:nQ 159 true:=⟨_,underlying159,rfl⟩
instance:Bd prog 159 [(0,1),(1,1),(2,1),(3,1),(4,1),(5,1),(6,1)]:=⟨_,underlying159,ja type3 (ja type3 (ja type3 (ja type3 (ja type4 (ja type38 (ja type46 .nil))))))⟩
instance:ij 159 0 0:=iq underlying159 type3
instance:ij 159 1 1:=iq underlying159 type3
instance:ij 159 2 2:=iq underlying159 type3
instance:ij 159 3 3:=iq underlying159 type3
instance:ij 159 4 4:=iq underlying159 type4
instance:ij 159 5 5:=iq underlying159 type38
instance:ij 159 6 6:=iq underlying159 type46
instance:Xq 164 91:=⟨underlying164⟩
instance:Ik prog 166 IntKind.u64:=⟨underlying166⟩
instance:Xq 172 77:=⟨underlying172⟩
instance:pV 175 1:=⟨_,aC type175,rfl⟩
instance:nQ 175 false:=⟨_,underlying175,rfl⟩
instance:Zv prog 177 (.nilFunc):=⟨_,aC type177,rfl⟩
instance:nQ 177 false:=⟨_,underlying177,rfl⟩
instance:nQ 178 false:=⟨_,underlying178,rfl⟩
instance:pV 205 3:=⟨_,aC type205,rfl⟩
instance:Zv prog 205 (.agg #[.pointer none,.pointer none,.int .u64 0]):=⟨_,aC type205,rfl⟩
instance:nQ 205 true:=⟨_,underlying205,rfl⟩
instance:nQ 208 false:=⟨_,underlying208,rfl⟩
instance:Xq 217 79:=⟨underlying217⟩
instance:pV 227 7:=⟨_,aC type227,rfl⟩
instance:Zv prog 227 (.agg #[.nilFunc,.nilFunc,.nilFunc,.nilFunc,.nilFunc,.nilFunc,.nilFunc]):=⟨_,aC type227,rfl⟩
instance:pV 229 4:=⟨_,aC type229,rfl⟩
instance:NG 229 32:=⟨_,aC type229,rfl⟩
instance:Zv prog 229 (.agg #[.int .i64 0,.int .i64 0,.int .i64 0,.bool false]):=⟨_,aC type229,rfl⟩
instance:nQ 229 true:=⟨_,underlying229,rfl⟩
instance:NI prog 229:=⟨_,underlying229,rfl⟩
instance:Bd prog 229 [(0,1),(1,1),(2,1),(3,1)]:=⟨_,underlying229,ja type3 (ja type3 (ja type3 (ja type4 .nil)))⟩
instance:ij 229 0 0:=iq underlying229 type3
instance:ij 229 1 1:=iq underlying229 type3
instance:ij 229 2 2:=iq underlying229 type3
instance:ij 229 3 3:=iq underlying229 type4
instance:NI prog 231:=⟨_,underlying231,rfl⟩
instance:pV 233 3:=⟨_,aC type233,rfl⟩
instance:Zv prog 233 (.agg #[.int .i64 0,.int .i64 0,.slice none 0 0]):=⟨_,aC type233,rfl⟩
instance:Bd prog 233 [(0,1),(1,1),(2,1)]:=⟨_,underlying233,ja type3 (ja type3 (ja type38 .nil))⟩
instance:ij 233 0 0:=iq underlying233 type3
instance:ij 233 1 1:=iq underlying233 type3
instance:ij 233 2 2:=iq underlying233 type38
instance:pV 238 1:=⟨_,aC type238,rfl⟩
instance:NG 238 16:=⟨_,aC type238,rfl⟩
instance:Zv prog 238 (.nilIface):=⟨_,aC type238,rfl⟩
instance:nQ 238 false:=⟨_,underlying238,rfl⟩
instance:pV 240 3:=⟨_,aC type240,rfl⟩
instance:Zv prog 240 (.agg #[.int .i64 0,.int .i64 0,.slice none 0 0]):=⟨_,aC type240,rfl⟩
instance:NI prog 240:=⟨_,underlying240,rfl⟩
instance:Bd prog 240 [(0,1),(1,1),(2,1)]:=⟨_,underlying240,ja type3 (ja type3 (ja type38 .nil))⟩
instance:ij 240 0 0:=iq underlying240 type3
instance:ij 240 1 1:=iq underlying240 type3
instance:ij 240 2 2:=iq underlying240 type38
instance:pV 243 3:=⟨_,aC type243,rfl⟩
instance:Zv prog 243 (.agg #[.int .i64 0,.bool false,.slice none 0 0]):=⟨_,aC type243,rfl⟩
instance:NI prog 243:=⟨_,underlying243,rfl⟩
instance:Bd prog 243 [(0,1),(1,1),(2,1)]:=⟨_,underlying243,ja type3 (ja type4 (ja type46 .nil))⟩
instance:ij 243 0 0:=iq underlying243 type3
instance:ij 243 1 1:=iq underlying243 type4
instance:ij 243 2 2:=iq underlying243 type46
instance:pV 245 2:=⟨_,aC type245,rfl⟩
instance:Zv prog 245 (.agg #[.int .i64 0,.bool false]):=⟨_,aC type245,rfl⟩
instance:Bd prog 245 [(0,1),(1,1)]:=⟨_,underlying245,ja type3 (ja type4 .nil)⟩
instance:ij 245 0 0:=iq underlying245 type3
instance:ij 245 1 1:=iq underlying245 type4
instance:pV 247 2:=⟨_,aC type247,rfl⟩
instance:Zv prog 247 (.agg #[.int .i64 0,.bool false]):=⟨_,aC type247,rfl⟩
instance:NI prog 247:=⟨_,underlying247,rfl⟩
instance:Bd prog 247 [(0,1),(1,1)]:=⟨_,underlying247,ja type3 (ja type4 .nil)⟩
instance:ij 247 0 0:=iq underlying247 type3
instance:ij 247 1 1:=iq underlying247 type4
instance:pV 285 1:=⟨_,aC type285,rfl⟩
instance:Zv prog 285 (.pointer none):=⟨_,aC type285,rfl⟩
instance:nQ 285 false:=⟨_,underlying285,rfl⟩
instance:Xq 285 289:=⟨underlying285⟩
instance:nQ 286 false:=⟨_,underlying286,rfl⟩
instance:Vx 286 3 46:=⟨underlying286⟩
instance:nQ 287 false:=⟨_,underlying287,rfl⟩
instance:Vx 287 3 3:=⟨underlying287⟩
instance:Zv prog 289 (.agg #[.slice none 0 0,.map none,.map none,.bool false,.bool false]):=⟨_,aC type289,rfl⟩
instance:Bd prog 289 [(0,1),(1,1),(2,1),(3,1),(4,1)]:=⟨_,underlying289,ja type38 (ja type286 (ja type287 (ja type4 (ja type4 .nil))))⟩
instance:ij 289 0 0:=iq underlying289 type38
instance:ij 289 1 1:=iq underlying289 type286
instance:ij 289 2 2:=iq underlying289 type287
instance:ij 289 3 3:=iq underlying289 type4
instance:ij 289 4 4:=iq underlying289 type4
instance:Vx 294 3 38:=⟨underlying294⟩
instance:pV 331 1:=⟨_,aC type331,rfl⟩
instance:Zv prog 331 (.int .u64 0):=⟨_,aC type331,rfl⟩
instance:nQ 331 false:=⟨_,underlying331,rfl⟩
instance:Ik prog 331 IntKind.u64:=⟨underlying331⟩
instance:aU 5 f5 10:=ef func5
instance:aU 7 f7 124:=ef func7
instance:aU 8 f8 212:=ef func8
instance:aU 10 f10 21:=ef func10
instance:aU 11 f11 31:=ef func11
instance:aU 12 f12 127:=ef func12
instance:aU 13 f13 41:=ef func13
instance:aU 14 f14 52:=ef func14
instance:aU 15 f15 25:=ef func15
instance:aU 16 f16 24:=ef func16
instance:aU 17 f17 33:=ef func17
instance:aU 18 f18 35:=ef func18
instance:aU 19 f19 67:=ef func19
instance:aU 20 f20 116:=ef func20
instance:aU 21 f21 89:=ef func21
instance:aU 22 f22 84:=ef func22
instance:aU 23 f23 126:=ef func23
instance:aU 26 f26 45:=ef func26
instance:aU 27 f27 13:=ef func27
instance:aU 28 f28 60:=ef func28
instance:aU 29 f29 24:=ef func29
instance:aU 30 f30 41:=ef func30
instance:aU 31 f31 49:=ef func31
instance:aU 32 f32 6:=ef func32
instance:aU 33 f33 6:=ef func33
instance:aU 34 f34 8:=ef func34
instance:aU 35 f35 21:=ef func35
instance:aU 36 f36 84:=ef func36
instance:aU 37 f37 13:=ef func37
instance:aU 38 f38 9:=ef func38
instance:aU 39 f39 9:=ef func39
instance:aU 40 f40 9:=ef func40
instance:aU 41 f41 9:=ef func41
instance:aU 42 f42 8:=ef func42
instance:aU 43 f43 8:=ef func43
instance:aU 44 f44 11:=ef func44
instance:aU 45 f45 8:=ef func45
instance:aU 46 f46 23:=ef func46
instance:aU 47 f47 25:=ef func47
instance:aU 52 f52 10:=ef func52
instance:aU 53 f53 117:=ef func53
instance:aU 54 f54 11:=ef func54
instance:aU 55 f55 4:=ef func55
instance:aU 56 f56 30:=ef func56
instance:aU 57 f57 33:=ef func57
instance:aU 58 f58 43:=ef func58
instance:aU 59 f59 52:=ef func59
instance:aU 60 f60 8:=ef func60
instance:aU 61 f61 35:=ef func61
instance:aU 62 f62 42:=ef func62
instance:aU 63 f63 7:=ef func63
instance:aU 64 f64 11:=ef func64
instance:aU 65 f65 22:=ef func65
instance:aU 66 f66 26:=ef func66
instance:aU 67 f67 8:=ef func67
instance:aU 68 f68 21:=ef func68
instance:aU 69 f69 13:=ef func69
instance:aU 70 f70 21:=ef func70
instance:aU 71 f71 24:=ef func71
instance:aU 73 f73 7:=ef func73
instance:aU 77 f77 13:=ef func77
instance:aU 82 f82 27:=ef func82
instance:aU 83 f83 14:=ef func83
instance:aU 84 f84 35:=ef func84
instance:aU 85 f85 34:=ef func85
instance:aU 86 f86 32:=ef func86
instance:aU 87 f87 32:=ef func87
instance:aU 88 f88 6:=ef func88
instance:aU 89 f89 24:=ef func89
instance:aU 90 f90 8:=ef func90
instance:aU 91 f91 21:=ef func91
instance:aU 92 f92 16:=ef func92
instance:aU 93 f93 27:=ef func93
instance:aU 94 f94 73:=ef func94
instance:aU 95 f95 6:=ef func95
instance:aU 96 f96 44:=ef func96
instance:aU 97 f97 92:=ef func97
instance:aU 98 f98 27:=ef func98
instance:aU 114 f114 8:=ef func114
instance:aU 119 f119 10:=ef func119
instance:aU 121 f121 9:=ef func121
instance:aU 123 f123 12:=ef func123
instance:aU 124 f124 10:=ef func124
instance:aU 128 f128 62:=ef func128
instance:aU 130 f130 54:=ef func130
instance:aU 131 f131 22:=ef func131
instance:aU 138 f138 25:=ef func138
instance:aU 139 f139 73:=ef func139
instance:aU 140 f140 118:=ef func140
instance:aU 141 f141 110:=ef func141
instance:aU 142 f142 78:=ef func142
instance:aU 143 f143 53:=ef func143
instance:aU 144 f144 71:=ef func144
instance:aU 145 f145 73:=ef func145
instance:aU 146 f146 15:=ef func146
instance:aU 147 f147 24:=ef func147
instance:aU 148 f148 19:=ef func148
instance:aU 149 f149 39:=ef func149
instance:aU 150 f150 8:=ef func150
instance:aU 151 f151 37:=ef func151
instance:aU 152 f152 62:=ef func152
instance:aU 153 f153 11:=ef func153
instance:aU 176 f176 33:=ef func176
instance:aU 177 f177 13:=ef func177
instance:aU 178 f178 30:=ef func178
instance:aU 179 f179 21:=ef func179
instance:aU 180 f180 21:=ef func180
instance:aU 181 f181 30:=ef func181
instance:aU 182 f182 47:=ef func182
instance:aU 183 f183 14:=ef func183
instance:aU 184 f184 48:=ef func184
instance:aU 185 f185 72:=ef func185
instance:aU 186 f186 12:=ef func186
instance:aU 187 f187 134:=ef func187
instance:aU 188 f188 8:=ef func188
instance:aU 201 f201 23:=ef func201
instance:aU 202 f202 49:=ef func202
instance:aU 203 f203 56:=ef func203
instance:aU 204 f204 65:=ef func204
instance:aU 205 f205 57:=ef func205
instance:aU 206 f206 32:=ef func206
instance:aU 207 f207 133:=ef func207
instance:aU 208 f208 17:=ef func208
instance:aU 209 f209 84:=ef func209
instance:aU 210 f210 168:=ef func210
instance:aU 212 f212 25:=ef func212
instance:aU 218 f218 76:=ef func218
instance:aU 219 f219 7:=ef func219
instance:aU 220 f220 33:=ef func220
instance:aU 221 f221 15:=ef func221
instance:aU 222 f222 36:=ef func222
instance:aU 223 f223 6:=ef func223
instance:aU 224 f224 28:=ef func224
instance:aU 244 f244 5:=ef func244
instance:aU 245 f245 40:=ef func245
instance:aU 246 f246 20:=ef func246
instance:aU 253 f253 23:=ef func253
instance:aU 254 f254 13:=ef func254
instance:aU 255 f255 11:=ef func255
instance:aU 256 f256 11:=ef func256
instance:aU 257 f257 8:=ef func257
def cH:kJ:=⟨λ_ t _=>t==93||t==124||t==31||t==130,λt _=>t==93||t==124||t==31||t==130,0⟩
def aJ(n:Int):List Value:=[aD n]
instance:iD aJ 1:=⟨λ_=>rfl,λa v h=>by simp[aJ]at h;subst h;rfl⟩
def sW(o:bP):List Value:=[.bool o.w,aD o.k,aD o.v]
instance:iD sW 3:=⟨λ_=>rfl,λa v h=>by simp[sW]at h;rcases h with h|h|h<;>subst h<;>rfl⟩
def mA(l:List bP):Prop:=(∀ o∈l,97<=o.k/\o.k<=122)/\l.length<2^20
structure dM extends MsgR where
 so:az
 sr:az
def dt(m:dM):List Value:=[aD m.kind,aD m.bq,aD m.to,aD m.tx,.bool m.yes,m.so.v,m.sr.v]
instance:iD dt 7:=⟨λ_=>rfl,λa v h=>by simp[dt]at h;rcases h with h|h|h|h|h|h|h<;>subst h<;>rfl⟩
structure tZ extends RecR where
 so:az
 sr:az
def recC(m:tZ):List Value:=[aD m.kind,aD m.tx,.bool m.yes,aD m.home,m.so.v,m.sr.v]
instance:iD recC 6:=⟨λ_=>rfl,λa v h=>by simp[recC]at h;rcases h with h|h|h|h|h|h<;>subst h<;>rfl⟩
structure VotV extends VoteR where
 sr:az
structure ajp where
 tx:Int
 ops:List bP
 so:az
 bk:List VotV
 sv:az
 dec:Bool
 yes:Bool
 cy:List Int
 sa:az
structure ShV where
 me:Int
 n:Int
 up:Bool
 log:List tZ
 aH:Int
 bT:List Int
 aX:List kt
 under:List ajp
 timers:List fU
 waits:List dM
 clock:Int
 out:List dM
variable{R:Nat->aM->Array Obj->Prop}{d:Nat}{As F L:List HP}{g:aM}{b:Nat}{s:ShV}
variable{ao:Bool}
structure uC extends TxR where
 so:az
 sr:az
def Cj(t:uC):List Value:=[t.so.v,aD t.state,t.sr.v]
instance:iD Cj 3:=⟨λ_=>rfl,λa v h=>by simp[Cj]at h;rcases h with h|h|h<;>subst h<;>rfl⟩
def jg(b:Nat):List Value:=[.pointer (some ⟨b,0,none⟩)]
instance:iD jg 1:=⟨λ_=>rfl,λa v h=>by simp[jg]at h;subst h;rfl⟩
structure WV where
 sh:List (Nat×ShV)
 aK:List dM
 aF:List uC
 aj:Bool
variable{w:WV}
instance:eM prog 72 f72 (λ_=>do mark .disable;pure Extern.Race.none_):=⟨func72,rfl,rfl,by kernel_rfl,by kernel_rfl⟩
instance:eM prog 74 f74 (λ_=>do mark .enable;pure Extern.Race.none_):=⟨func74,rfl,rfl,by kernel_rfl,by kernel_rfl⟩
instance:eM prog 75 f75 (Extern.Race.marked .acquire):=⟨func75,rfl,rfl,by kernel_rfl,by kernel_rfl⟩
instance:eM prog 115 f115 (Extern.Race.marked .releaseMerge):=⟨func115,rfl,rfl,by kernel_rfl,by kernel_rfl⟩
instance:eM prog 79 f79 (Extern.Race.marked .write):=⟨func79,rfl,rfl,by kernel_rfl,by kernel_rfl⟩
instance:eM prog 120 f120 (Extern.Race.marked .read):=⟨func120,rfl,rfl,by kernel_rfl,by kernel_rfl⟩
instance:eM prog 132 f132 (Extern.Atomic.casT (.int .i32)):=⟨func132,rfl,rfl,by kernel_rfl,by kernel_rfl⟩
instance:eM prog 134 f134 (Extern.Atomic.update (Op.intArith .add) .i32 true):=⟨func134,rfl,rfl,by kernel_rfl,by kernel_rfl⟩
instance:eM prog 136 f136 (Extern.Atomic.loadT (.int .u64)):=⟨func136,rfl,rfl,by kernel_rfl,by kernel_rfl⟩
instance:eM prog 137 f137 (Extern.Atomic.casT (.int .u64)):=⟨func137,rfl,rfl,by kernel_rfl,by kernel_rfl⟩
instance:eM prog 165 f165 (Extern.Atomic.update (Op.intArith .add) .u64 true):=⟨func165,rfl,rfl,by kernel_rfl,by kernel_rfl⟩
instance:eM prog 166 f166 Extern.Atomic.storeT:=⟨func166,rfl,rfl,by kernel_rfl,by kernel_rfl⟩
instance:eM prog 81 f81 Extern.Sync.semacquire:=⟨func81,rfl,rfl,by kernel_rfl,by kernel_rfl⟩
instance:eM prog 122 f122 Extern.Sync.semrelease:=⟨func122,rfl,rfl,by kernel_rfl,by kernel_rfl⟩
instance:eM prog 80 f80 (λ_=>pure (.bool false)):=⟨func80,rfl,rfl,by kernel_rfl,by kernel_rfl⟩
instance:Up prog 168:=⟨underlying168⟩
end
section
open Go.Proofs
def cX(n:Int):List Value:=[.int .i32 n]
instance:iD cX 1:=⟨λ_=>rfl,λa v h=>by simp[cX]at h;subst h;rfl⟩
def cS(o:bP):List Value:=[.bool o.w,.int .u8 o.k,.int .i32 o.v]
instance:iD cS 3:=⟨λ_=>rfl,λa v h=>by simp[cS]at h;rcases h with h|h|h<;>subst h<;>rfl⟩
structure kG(I:HL)(m:dM):Prop where
 o:fI I cS 37 m.so m.ops
 r:fI I cX 21 m.sr m.reads
 z:m.reads.length<2^20
inductive ik where
 |cg (tx home:Int) (ops:List bP) (so:az)
 |dec (tx:Int) (yes:Bool) (reads:List Int) (sr:az)
 |jX (tx:Int) (yes:Bool)
def ik.abs:ik->aN
 |.cg tx home ops _=>.cg tx home ops
 |.dec tx yes reads _=>.dec tx yes reads
 |.jX tx yes=>.jX tx yes
def ik.tid:ik->aO
 |.cg .. =>240
 |.dec .. =>243
 |.jX .. =>247
def ik.pay:ik->Value
 |.cg tx home _ so=>.agg #[aD tx,aD home,so.v]
 |.dec tx yes _ sr=>.agg #[aD tx,.bool yes,sr.v]
 |.jX tx yes=>.agg #[aD tx,.bool yes]
def ik.val(e:ik):Value:=.iface e.tid e.pay
def oO(e:ik):List Value:=[e.val]
instance:iD oO 1:=⟨λ_=>rfl,λa v h=>by simp[oO]at h;subst h;cases a<;>rfl⟩
def ik.J(I:HL):ik->Prop
 |.cg _ _ ops so=>fI I cS 37 so ops/\ops.length<2^20
 |.dec _ _ reads sr=>fI I cX 21 sr reads/\reads.length<2^20
 |.jX _ _=>True
structure qO where
 pl:Int
 home:Int
 ops:List bP
 so:az
def qO.abs(p:qO):y6:=⟨p.pl,p.home,p.ops⟩
def uf(p:qO):Value:=.agg #[aD p.pl,aD p.home,p.so.v]
def pJ(p:ic):Value:=.agg #[aD p.pl,.bool p.yes]
def fC(n:Int):Value:=.int .i32 n
def dV(n:Int):Value:=aD n
def Ie(v:List Int×az):Value:=v.2.v
abbrev ay(b:Nat):Value:=.pointer (some ⟨b,0,none⟩)
structure fD where
 b:Nat
 ops:List bP
 so:az
 bk:List (Int×(List Int×az))
 mv:Nat
 cy:List (Int×Int)
 ma:Nat
 dec:Bool
 yes:Bool
def fD.abs(u:fD):mo:=⟨u.ops,u.bk.map λp=>(p.1,p.2.1),u.cy,u.dec,u.yes⟩
abbrev FT(u:fD)(F:List HP):List HP:=da u.b (.cells #[u.so.v,.map (some u.mv),.map (some u.ma),.bool u.dec,.bool u.yes] 289 (0,0))::db .i64 Ie u.mv u.bk::db .i64 dV u.ma u.cy::F
def ae8(u:fD):HP:=all (FT u [])
structure DC(I:HL)(u:fD):Prop where
 o:fI I cS 37 u.so u.ops
 r:∀ v∈u.bk,fI I cX 21 v.2.2 v.2.1
 z:∀ v∈u.bk,v.2.1.length<2^20
def sE(a:kz):List Value:=[aD a.tm,aD a.ord,aD a.tx,.bool a.again]
instance:iD sE 4:=⟨λ_=>rfl,λa v h=>by simp[sE]at h;rcases h with h|h|h|h<;>subst h<;>rfl⟩
structure di where
 me:Int
 n:Int
 up:Bool
 log:List ik
 aH:Int
 values:List (Int×Int)
 aX:List (Int×Int)
 pend:List (Int×qO)
 done:List (Int×ic)
 bF:List (Int×ic)
 bY:List (Int×fD)
 timers:List kz
 order:Int
 clock:Int
 waits:List dM
 out:List dM
def di.abs(s:di):ek:=⟨s.me,s.n,s.up,s.log.map (·.abs),s.aH,s.values,s.aX,s.pend.map λp=>(p.1,p.2.abs),s.done,s.bF,s.bY.map λp=>(p.1,p.2.abs),s.timers.map (·.qW),s.clock,s.waits.map (·.toMsgR),s.out.map (·.toMsgR)⟩
def wF(u:fD):Value:=ay u.b
abbrev qP(p:Int×fD):HP:=ae8 p.2
abbrev L1(b:Nat)(s:di)(lg wt ot tm:az)(bv bl bp bd be bu:Nat)(tl:List kz)(F:List HP):List HP:=
 da b (.cells #[aD s.me,aD s.n,.bool s.up,lg.v,aD s.aH,.map (some bv),.map (some bl),.map (some bp),.map (some bd),.map (some be),.map (some bu),tm.v,aD s.order,aD s.clock,wt.v,ot.v] 156 (0,0))::
  bG oO 1 238 lg s.log::db .u8 fC bv s.values::db .u8 dV bl s.aX::db .i64 uf bp s.pend::db .i64 pJ bd s.done::db .i64 pJ be s.bF::db .i64 wF bu s.bY::all (s.bY.map qP)::
  bG sE 4 229 tm tl::bG dt 7 159 wt s.waits::bG dt 7 159 ot s.out::F
def dk(b:Nat)(s:di):HP:=λh=>∃ lg wt ot tm:az,∃ bv bl bp bd be bu:Nat,∃ tl:List kz,py s.timers s.order tl/\all (L1 b s lg wt ot tm bv bl bp bd be bu tl []) h
structure ShJ(I:HL)(s:di):Prop where
 log:∀ r∈s.log,r.J I
 pend:∀ p∈s.pend,fI I cS 37 p.2.so p.2.ops
 bY:∀ u∈s.bY,DC I u.2
 waits:∀ m∈s.waits,kG I m
 out:∀ m∈s.out,kG I m
theorem kG.mono{I I':HL}{m:dM}(hs:Sub I I')(h:kG I m):kG I' m:=⟨h.o.mono hs,h.r.mono hs,h.z⟩
theorem ik.J.mono{I I':HL}{m:ik}(hs:Sub I I')(h:m.J I):m.J I':=by
 cases m with
 |cg tx home ops so=>exact⟨fI.mono h.1 hs,h.2⟩
 |dec tx yes reads sr=>exact⟨fI.mono h.1 hs,h.2⟩
 |jX tx yes=>trivial
theorem DC.mono{I I':HL}{u:fD}(hs:Sub I I')(h:DC I u):DC I' u:=⟨h.o.mono hs,λv hv=>(h.r v hv).mono hs,h.z⟩
theorem ShJ.mono{I I':HL}{s:di}(hs:Sub I I')(h:ShJ I s):ShJ I' s:=⟨λr hr=>(h.log r hr).mono hs,λr hr=>(h.pend r hr).mono hs,λu hu=>(h.bY u hu).mono hs,λr hr=>(h.waits r hr).mono hs,λr hr=>(h.out r hr).mono hs⟩
section
variable{R:Nat->aM->Array Obj->Prop}{d:Nat}{As F L:List HP}{g:aM}{b:Nat}{s:di}
theorem dk.opn(hf:Fo (dk b s) As L:=by exact Fo.au)(h:∀ (lg wt ot tm:az) (bv bl bp bd be bu:Nat) (tl:List kz),py s.timers s.order tl->At R d (L1 b s lg wt ot tm bv bl bp bd be bu tl L) g):At R d As g:=by refine At.fo hf λH st=>?_;obtain⟨lg,st⟩:=st.ex;obtain⟨wt,st⟩:=st.ex;obtain⟨ot,st⟩:=st.ex;obtain⟨tm,st⟩:=st.ex;obtain⟨bv,st⟩:=st.ex;obtain⟨bl,st⟩:=st.ex;obtain⟨bp,st⟩:=st.ex;obtain⟨bd,st⟩:=st.ex;obtain⟨be,st⟩:=st.ex;obtain⟨bu,st⟩:=st.ex;obtain⟨tl,st⟩:=st.ex;obtain⟨ht,st⟩:=st.pure;exact h lg wt ot tm bv bl bp bd be bu tl ht H st.flat
theorem dk.cls{c:Array Value}(s:di)(h:At R d (dk b s::F) g){lg wt ot tm:az}{bv bl bp bd be bu:Nat}{tl:List kz}(ht:py s.timers s.order tl:=by assumption)(hf:Fo (da b (.cells c 156 (0,0))) As L:=by exact Fo.au)
  (hc:c=#[aD s.me,aD s.n,.bool s.up,lg.v,aD s.aH,.map (some bv),.map (some bl),.map (some bp),.map (some bd),.map (some be),.map (some bu),tm.v,aD s.order,aD s.clock,wt.v,ot.v]:=by rfl)
  (hr:fg [bG oO 1 238 lg s.log,db .u8 fC bv s.values,db .u8 dV bl s.aX,db .i64 uf bp s.pend,db .i64 pJ bd s.done,db .i64 pJ be s.bF,db .i64 wF bu s.bY,all (s.bY.map qP),
   bG sE 4 229 tm tl,bG dt 7 159 wt s.waits,bG dt 7 159 ot s.out] L F:=by exact fg.au):At R d As g:=by
 subst hc;refine At.perm (hf.perm.trans (hr.perm.cons _)) λH st=>h H ?_;exact Sat.imp (λhh x=>⟨lg,wt,ot,tm,bv,bl,bp,bd,be,bu,tl,ht,x⟩) (Sat.iC (l:=L1 b s lg wt ot tm bv bl bp bd be bu tl []) st)
end
end
section
open Go.Proofs
variable{ao:Bool}
theorem ug:aI prog ao cH 114 #[] [] (λv As=>∃ bv bl bp bd be bu:Nat,v=.agg #[.map (some bv),.map (some bl),.map (some bp),.map (some bd),.map (some be),.map (some bu),.slice none 0 0,aD 0,aD 0,.slice none 0 0]/\
  As=[db .u8 fC bv [],db .u8 dV bl [],db .i64 uf bp [],db .i64 pJ bd [],db .i64 pJ be [],db .i64 wF bu []]):=by
 refine aI.of λR C kd d F c cs aT ak=>?_;refine oU ?_;refine C.al rfl (λb0=>?_);refine bH ?_;refine C.mm .u8 fC rfl (λb1=>?_);refine C.mm .u8 dV rfl (λb2=>?_);refine C.mm .i64 uf rfl (λb3=>?_);refine C.mm .i64 pJ rfl (λb4=>?_);refine C.mm .i64 pJ rfl (λb5=>?_);refine C.mm .i64 wF rfl (λb6=>?_);refine dK ?_;exact C.S4 rfl aT ak ⟨b1,b2,b3,b4,b5,b6,rfl,rfl⟩
def j0(k n:Int):di:=⟨k,n,true,[],0,[],[],[],[],[],[],[],0,0,[],[]⟩
theorem L3(k n:Int):(j0 k n).abs=HH k n:=rfl
theorem Tt(I:HL)(k n:Int):ShJ I (j0 k n):=⟨by simp[j0],by simp[j0],by simp[j0],by simp[j0],by simp[j0]⟩
theorem e9{k n:Int}:aI prog ao cH 52 #[aD k,aD n] [] (λv As=>∃ b,v=ay b/\As=[dk b (j0 k n)]):=by refine aI.of λR C kd d F c cs aT ak=>?_;refine RZ ?_;refine C.fF ug ?_;rintro v aP ⟨bv,bl,bp,bd,be,bu,rfl,rfl⟩;refine sB ?_;refine C.bx rfl (λb9=>?_);refine bH ?_;refine At.aR oO 1 238 (At.aR sE 4 229 (At.aR dt 7 159 (At.aR dt 7 159 ?_)));refine At.E0 (show At R d (all (([]:List (Int×fD)).map qP)::_) _ from ?_);refine dk.cls ⟨k,n,true,[],0,[],[],[],[],[],[],[],0,0,[],[]⟩ ?_ (tl:=[]) (lg:=aR) (wt:=aR) (ot:=aR) (tm:=aR) (py.zero 0);exact C.cm (aP:=[dk b9 ⟨k,n,true,[],0,[],[],[],[],[],[],[],0,0,[],[]⟩]) aT ak ⟨_,rfl,rfl⟩
theorem wG{key n:Int}(h1:97<=key/\key<=122)(hn:1<=n):aI prog ao cH 124 #[.int .u8 key,aD n] [] (λv As=>v=aD (atR key n)/\As=[]):=by refine aI.of λR C kd d F c cs aT ak=>?_;refine qY ?_;refine oT ?_;refine C.rem rfl ?_;refine bH ?_;exact C.cm aT ak ⟨rfl,rfl⟩
theorem uh{I:HL}{so:az}{ops:List bP}(ho:fI I cS 37 so ops)(hl:ops.length<2^43):aI prog ao cH 60 #[so.v] [bD I] (λv As=>∃ s',v=s'.v/\As=[bG cS 3 37 s' ops,bD I]):=by
 refine aI.of λR C kd d F c cs aT ak=>?_;refine cr ?_;rcases ho with⟨rfl,rfl⟩|⟨pad,h1,h2⟩
 ·refine gu ?_;refine C.Vk rfl ?_ (a:=none) (len:=0) (cap:=0);refine eP ?_;refine At.aR cS 3 37 ?_;exact C.cm aT ak ⟨aR,rfl,rfl⟩
 ·have ho:fI I cS 37 so ops:=.inr ⟨pad,h1,h2⟩;have hv:so.v=.slice (some ⟨so.b,0,none⟩) so.len so.cap:=by unfold az.v;rw[show so.a=some ⟨so.b,0,none⟩from congrArg az.a h1]
  refine gu ?_;refine C.Vk rfl ?_ (a:=some ⟨so.b,0,none⟩) (len:=so.len) (cap:=so.cap) (hx:=hv);refine dK ?_;refine C.bs0 cS rfl (λb5=>?_);refine fG ?_;refine C.Vd (l:=[]) ops rfl (λs'=>?_) (hsrc:=λH st=>?_) (s:=⟨some ⟨b5,0,none⟩,0,0⟩)
  ·refine bH ?_;exact C.cm aT ak ⟨s',rfl,rfl⟩
  ·exact dZ.src (dZ.bD Fo.au ho) st (λj=>rfl)
theorem Ck{n:Int}{i:Nat}(hi:(i:Int)<n):(upto n).take (i+1)=(upto n).take i++[(i:Int)]:=by
 have hl:i<(upto n).length:=by simp[upto];omega
 rw[iM hl]
 congr 2
 simp[upto]
theorem Qa{n:Int}{i:Nat}(hi:¬ (i:Int)<n):(upto n).take i=upto n:=jD (by simp[upto];omega)
abbrev rM(m:dM):Value:=.agg #[aD m.kind,aD m.bq,aD m.to,aD m.tx,.bool m.yes,m.so.v,m.sr.v]
theorem gC{b:Nat}{s:di}{m:dM}(hl:s.out.length<2^34):aI prog ao cH 148 #[ay b,rM m] [dk b s]
  (λv As=>As=[dk b {s with out:=s.out++[{m with bq:=s.me}]}]):=by
 refine aI.of λR C kd d F c cs aT ak=>?_;refine cr ?_;refine dk.opn (h:=λlg wt ot tm bv bl bp bd be bu tl ht=>?_);refine bH ?_;refine C.bx rfl (λb3=>?_);refine oT ?_;refine C.dx (cW 9 0 10) 11 [6,7,10] 1 ?_;refine Xg ?_;refine Ch.m 6 (aY λe aa hk=>?_);refine C.AV rfl (λb15=>hk _ _ .cons ?_);refine Ch.m 7 (aY λe aa hk=>?_);refine C.BI {m with bq:=s.me} rfl (λs'=>?_);refine hk _ _ ?_;refine Ch.m 10 (aY λe aa hk=>?_);refine C.st rfl (hk _ undef ?_);refine fP ?_;refine dk.cls {s with out:=s.out++[{m with bq:=s.me}]} ?_;exact C.eJ aT ak rfl
theorem iY{b:Nat}{s:di}{m:dM}(hl:s.waits.length<2^34):aI prog ao cH 180 #[ay b,rM m] [dk b s]
  (λv As=>As=[dk b {s with waits:=s.waits++[{m with bq:=s.me}]}]):=by
 refine aI.of λR C kd d F c cs aT ak=>?_;refine cr ?_;refine dk.opn (h:=λlg wt ot tm bv bl bp bd be bu tl ht=>?_);refine bH ?_;refine C.bx rfl (λb3=>?_);refine oT ?_;refine C.dx (cW 9 0 12) 13 [7,8,12] 1 ?_;refine H5 ?_;refine Ch.m 7 (aY λe aa hk=>?_);refine C.AV rfl (λyq=>hk _ _ .cons ?_);refine Ch.m 8 (aY λe aa hk=>?_);refine C.BI {m with bq:=s.me} rfl (λs'=>?_);refine hk _ _ ?_;refine Ch.m 12 (aY λe aa hk=>?_);refine C.st rfl (hk _ undef ?_);refine fP ?_;refine dk.cls {s with waits:=s.waits++[{m with bq:=s.me}]} ?_;exact C.eJ aT ak rfl
theorem om{b:Nat}{s:di}{en:ik}(hl:s.log.length<2^34):aI prog ao cH 179 #[ay b,en.val] [dk b s]
  (λv As=>v=aD s.log.length/\As=[dk b {s with log:=s.log++[en]}]):=by
 refine aI.of λR C kd d F c cs aT ak=>?_;refine cr ?_;refine dk.opn (h:=λlg wt ot tm bv bl bp bd be bu tl ht=>?_);refine lI ?_;refine C.AV rfl (λwH=>?_);refine C.BI en rfl (λs'=>?_);refine oT ?_;refine C.pS rfl ?_ (s:=s') (l:=s.log++[en]);refine C.ar rfl ?_ (r:=s.log.length) (ha:=congrArg some (by simp)) (hr:=uy ai ai);refine bH ?_;refine dk.cls {s with log:=s.log++[en]} ?_;exact C.cm aT ak ⟨rfl,rfl⟩
theorem Ig{b:Nat}{s:di}:aI prog ao cH 123 #[ay b] [dk b s]
  (λv As=>∃ so:az,v=so.v/\As=[bG dt 7 159 so s.out,dk b {s with out:=[]}]):=by
 refine aI.of λR C kd d F c cs aT ak=>?_;refine cr ?_;refine dk.opn (h:=λlg wt ot tm bv bl bp bd be bu tl ht=>?_);refine kj ?_;refine nT ?_;refine At.aR dt 7 159 ?_;refine dk.cls {s with out:=[]} ?_ (ot:=aR);exact C.cm aT ak ⟨ot,rfl,rfl⟩
abbrev NH:=List bP×az
def Xr(v:NH):Value:=v.2.v
abbrev Qb(p:Int×NH):HP:=bG cS 3 37 p.2.2 p.2.1
def xm(m:List (Int×NH)):List (Int×List bP):=m.map λp=>(p.1,p.2.1)
def qk(m:List (Int×NH))(k:Int):NH:=(aB m k).getD ([],aR)
theorem Qc(m:List (Int×NH))(k:Int):((aB m k).map Xr).getD (.slice none 0 0)=(qk m k).2.v:=by unfold qk;cases aB m k<;>rfl
theorem FU(m:List (Int×NH))(k:Int):(qk m k).1=(aB (xm m) k).getD []:=by unfold qk xm;rw[vd (w:=λv:NH=>v.1)];cases aB m k<;>rfl
variable{R:Nat->aM->Array Obj->Prop}{d:Nat}{As L L2:List HP}{g:aM}{m:List (Int×NH)}{k:Int}
theorem At.ae9(hf:Fo (all (m.map Qb)) As L)(h:At R d (bG cS 3 37 (qk m k).2 (qk m k).1::all ((dT m k).map Qb)::L) g):At R d As g:=by
 unfold qk at h;cases hg:aB m k with
 |none=>
  rw[hg,BT hg]at h;refine At.aR cS 3 37 (At.perm ?_ h);exact hf.perm.cons _
 |some v=>
  rw[hg]at h;exact BS hg hf h
theorem At.afa{I:HL}(hf:Fo (all (m.map Qb)) As L)(hi:Fo (bD I) L L2)(h:∀ I',Sub I I'->(∀ p∈m,fI I' cS 37 p.2.2 p.2.1)->At R d (bD I'::L2) g):At R d As g:=by
 induction m generalizing I As L with
 |nil=>
  refine At.fo hf λH s=>?_;exact(At.fo hi (h I (Sub.refl _) (by simp))) H s.drop
 |cons p m ih=>
  refine At.fo hf λH s=>?_;refine(show At R d (Qb p::all (m.map Qb)::bD I::L2) g from ?_) H (Sat.under (λ_ s=>Sat.under (λ_ s=>s.perm hi.perm) s.iC) (Sat.flat (l:=Qb p::m.map Qb) s));refine At.O9 (I:=I) (s:=p.2.2) (f:=cS) .head (.tail .head) λI1 h1 hs=>?_;refine ih (I:=I1) (As:=bD I1::all (m.map Qb)::L2) (L:=bD I1::L2) (.tail .head) .head λI2 h2 hm=>?_;refine h I2 (h1.trans h2) λq hq=>?_;rcases fR.1 hq with rfl|hq
  ·exact hs.mono h2
  ·exact hm q hq
theorem FV(l:List bP)(o:bP)(n:Int):dA (l++[o]) n=bB (dA l n) (atR o.k n) ((aB (dA l n) (atR o.k n)).getD []++[o]):=by simp[dA]
theorem nK{I:HL}{so:az}{ops:List bP}{n:Int}(ho:fI I cS 37 so ops)(hb:mA ops)(hn:1<=n):
  aI prog ao cH 181 #[so.v,aD n] [bD I] (λv As=>∃ b I' m,v=.map (some b)/\Sub I I'/\xm m=dA ops n/\(∀ p∈m,fI I' cS 37 p.2.2 p.2.1)/\As=[db .i64 Xr b m,bD I']):=by
 have hl:ops.length<2^20:=hb.2;refine aI.of λR C kd d F c cs aT ak=>?_;refine tV ?_;refine C.mm .i64 Xr rfl (λb9=>?_);refine gU ?_;refine At.E0 (show At R d (all (([]:List (Int×NH)).map Qb)::_) _ from ?_);refine C.cu (X:=Nat×List (Int×NH)) (λx=>[(1,aD n),(5,.map (some b9)),(10,so.v),(11,aD ops.length),(12,aD x.1)]) (λx=>all (x.2.map Qb)::db .i64 Xr b9 x.2::bD I::F) (λx=>x.1<=ops.length/\xm x.2=dA (ops.take x.1) n/\∀ p∈x.2,p.2.1.length<=x.1) (λx=>ops.length-x.1) (0,[]) ⟨rfl,rfl,rfl,rfl,rfl,trivial⟩ ⟨eW _,rfl,by simp⟩ ?_;rintro⟨i,m⟩ e ⟨hi,hm,hlen⟩ ih;dsimp only at hi hm hlen⊢;refine bH ?_;refine C.cmp rfl (λui=>?_) (λui=>?_)
 ·refine bH ?_;have ee:i<ops.length:=by simpa using ui
  have Fu:=hb.1 _ (dp ee);refine bH ?_;refine C.xR rfl (λhj=>?_);refine C.al rfl (λb7=>?_);refine C.tL rfl ?_ (hv:=λv h=>iD.one (f:=cS) ops[i] v (by simpa using h));refine eP ?_;refine C.cE (wG (key:=ops[i].k) (n:=n) Fu hn) ?_;refine qY ?_;refine bH ?_;have yi:(qk m (atR ops[i].k n)).1.length<=i:=by
   unfold qk;cases hg:aB m (atR ops[i].k n)with
   |none=>exact eW _
   |some v=>exact hlen _ (bQ hg)
  refine At.ae9 (m:=m) (k:=atR ops[i].k n) Fo.au ?_;refine eP ?_;refine C.Zo (co:=false) (g:=Xr) (l:=m) (q:=atR ops[i].k n) rfl ?_;simp only[gn,eR];rw[Qc];refine C.Zl rfl ?_ (hz:=xD rfl) (hc:=rfl);refine C.AV rfl (λb26=>?_);refine C.BI (s:=(qk m (atR ops[i].k n)).2) (l:=(qk m (atR ops[i].k n)).1) ops[i] rfl (λs2=>?_);refine C.mu (w:=((qk m (atR ops[i].k n)).1++[ops[i]],s2)) (l:=m) (q:=atR ops[i].k n) rfl ?_;refine eP ?_;refine Fe (f:=Qb) (m:=m) (k:=atR ops[i].k n) ((qk m (atR ops[i].k n)).1++[ops[i]],s2) fg.au ?_;refine again ih (i+1,bB m (atR ops[i].k n) ((qk m (atR ops[i].k n)).1++[ops[i]],s2)) ⟨ee,?_,λp hp=>?_⟩ (dq)
  ·rw[iM ee,FV,<- hm,<- FU];exact kY (λv:NH=>v.1) m
  ·rcases eE hp with rfl|h
   ·simp;omega
   ·have:=hlen p h;dsimp only at this⊢;omega
 ·refine bH ?_;have e1:ops.take i=ops:=jD (by simp at ui;omega);rw[e1]at hm;refine At.afa (I:=I) (m:=m) Fo.au Fo.au λI' R2 hs=>?_;refine dX ?_;exact C.cm aT ak ⟨b9,I',m,rfl,R2,hm,hs,rfl⟩
theorem fg.skip{A:HP}{Bs As F:List HP}(r:fg Bs As F):fg Bs (A::As) (A::F):=by
 induction r with
 |nil=>exact .nil
 |cons f _ ih=>exact .cons (.tail f) ih
theorem fg.abp{F:List HP}:∀ A:List HP,fg A (A++F) F
 |[]=>.nil
 |a::A=>.cons .head (fg.abp A)
theorem Fo.app{A:HP}{F:List HP}:∀ E:List HP,Fo A (E++A::F) (E++F)
 |[]=>.head
 |_::E=>.tail (Fo.app E)
theorem pK{f:bJ}{fu:Func}{cd:Code}{nf:Nat}[bd:Body prog f fu cd nf]{a1 a2:Array Value}{b:Nat}{s:di}{I:HL}{so:az}{ops:List bP}{E:List HP}{inv:Nat->di->HL->Prop}{Vy:ek->Int->List bP->ek}
  (ho:fI I cS 37 so ops) (hb:mA ops) (hn:1<=s.n/\s.n<=4) (h0:∀ I',Sub I I'->inv 0 s I') (hk:∀ k x I',inv k x I'->inv (k+1) x I')
  (hf:∀ (k:Nat) x I' sp part,Sub I I'->(k:Int)<s.n->inv k x I'->fI I' cS 37 sp part->part≠[]->part=(aB (dA ops s.n) k).getD []->aI prog ao cH f (a1++[aD k,sp.v].toArray++a2) (dk b x::bD I'::E)
   (λv As=>∃ x' I'',Sub I' I''/\inv (k+1) x' I''/\x'.abs=Vy x.abs k part/\As=dk b x'::bD I''::E)):
  aI prog ao cH 176 #[ay b,so.v,.func (.func f) a1 a2] (dk b s::bD I::E)
   (λv As=>∃ x' I',Sub I I'/\inv s.n.toNat x' I'/\x'.abs=ru s.abs ops Vy/\As=dk b x'::bD I'::E):=by
 refine aI.of λR C kd d F c cs aT ak=>?_;refine cr ?_;refine dk.opn (h:=λlg wt ot tm bv bl bp bd be bu tl ht=>?_);refine gU ?_;refine C.fF (nK ho hb hn.1) ?_;rintro v aP ⟨bm,I1,m,rfl,iK,hm,hs,rfl⟩;refine Vu ?_;refine dk.cls s ?_;refine C.cu (X:=Nat×di×HL) (λx=>[(0,ay b),(2,.func (.func f) a1 a2),(6,.map (some bm)),(18,aD s.n),(19,aD x.1)]) (λx=>dk b x.2.1::bD x.2.2::db .i64 Xr bm m::(E++F))
  (λx=>(x.1:Int)<=s.n/\Sub I1 x.2.2/\inv x.1 x.2.1 x.2.2/\x.2.1.abs=((upto s.n).take x.1).foldl (λz k=>if((aB (dA ops s.n) k).getD []).isEmpty then z else Vy z k ((aB (dA ops s.n) k).getD [])) s.abs) (λx=>(s.n-x.1).toNat) (0,s,I1) ⟨rfl,rfl,rfl,rfl,rfl,trivial⟩ ⟨dq,Sub.refl _,h0 I1 iK,rfl⟩ ?_
 rintro⟨k,x,I2⟩ e ⟨wX,vx,hinv,FW⟩ ih;dsimp only at wX vx hinv FW⊢;refine bH ?_;refine C.cmp rfl (λCm=>?_) (λCm=>?_)
 ·refine bH ?_;have Xs:(k:Int)<s.n:=Cm;have Xm:(qk m k).1=(aB (dA ops s.n) k).getD []:=by rw[FU,hm]
  have hps:fI I2 cS 37 (qk m k).2 (qk m k).1:=by
   unfold qk;cases hg:aB m k with
   |none=>exact .nil ..
   |some v=>exact(hs _ (bQ hg)).mono vx
  generalize hpe:qk m k=pt at Xm hps;refine gU ?_;refine C.Zo (co:=false) (g:=Xr) (l:=m) (q:=(k:Int)) rfl ?_;simp only[gn,eR];rw[Qc,hpe];refine dX ?_;refine C.pS rfl ?_ (s:=pt.2) (l:=pt.1) (f:=cS);refine C.cmp rfl (λA8=>?_) (λA8=>?_)
  ·refine gu ?_;refine C.Vb (hf k x I2 pt.2 pt.1 (iK.trans vx) Xs hinv hps (by intro h;rw[h]at A8;simp at A8) Xm) ?_ (hr:=.cons .head (.cons .head (fg.skip (fg.abp E))));rintro v aP ⟨x',I3,hI3,abq,lv,rfl⟩;refine tV ?_;refine again ih (k+1,x',I3) ⟨dq,vx.trans hI3,abq,?_⟩ (dq) (hr:=.cons .head (.cons .head (.cons (Fo.app E) .refl)));rw[Ck Xs,kM,<- FW,mE,wU,<- Xm,ax (by intro h;rw[Oc]at h;rw[h]at A8;simp at A8),lv]
  ·refine gu ?_;refine again ih (k+1,x,I2) ⟨dq,vx,hk _ _ _ hinv,?_⟩ (dq);rw[Ck Xs,kM,<- FW,mE,wU,<- Xm,aG (by rw[Oc];exact JJ ai)]
 ·refine bH ?_;have Xs:¬ (k:Int)<s.n:=Cm;rw[Qa Xs]at FW;have hke:s.n.toNat=k:=ai;exact C.eJ (aP:=dk b x::bD I2::E) aT ak ⟨x,I2,iK.trans vx,by rw[hke];exact hinv,FW,rfl⟩
theorem zR{tm:az}{l:List kz}:aI prog ao cH 244 #[tm.v] [bG sE 4 229 tm l] (λv As=>v=aD l.length/\As=[bG sE 4 229 tm l]):=by refine aI.of λR C kd d F c cs aT ak=>?_;refine Vu ?_;exact C.cm aT ak ⟨rfl,rfl⟩
theorem rN{tm:az}{l:List kz}{i j:Nat}(hi:i<l.length)(hj:j<l.length):aI prog ao cH 245 #[tm.v,aD i,aD j] [bG sE 4 229 tm l] (λv As=>∃ z,v=.bool z/\(z=true↔mL (gA l i) (gA l j))/\As=[bG sE 4 229 tm l]):=by
 refine aI.of λR C kd d F c cs aT ak=>?_;refine cr ?_;simp only[j8 hi,j8 hj]at ak;refine dX ?_;by_cases Vz:l[i].tm≠l[j].tm
 ·refine C.dx (cW 7 0 11) 11 [] 0 ?_;refine mX ?_;refine Dr.p (λh=>C.fA rfl h (hf:=Vz)) ?_;refine Dr.chain rfl ?_;refine oV ?_;by_cases h28:l[i].tm<l[j].tm
  ·refine C.dx (cW 18 0 11++[(6,11)]) 12 [] 0 ?_;refine mX ?_;refine Dr.p (λh=>C.fA rfl h (hf:=h28)) ?_;refine xT ?_;refine fP ?_;exact C.cm aT ak ⟨true,rfl,⟨λ_=>.inl h28,λ_=>rfl⟩,rfl⟩
  ·refine C.dx (cW 18 0 11++[(6,11)]) 12 [] 0 ?_;refine mX ?_;refine Dr.p (λh=>C.dS rfl h (hf:=h28)) ?_;refine xT ?_;refine fP ?_;exact C.cm aT ak ⟨false,rfl,⟨nofun,λh=>by rcases h with h|h<;>omega⟩,rfl⟩
 ·refine C.dx (cW 7 0 11) 11 [] 0 ?_;refine mX ?_;refine Dr.p (λh=>C.dS rfl h (hf:=Vz)) ?_;refine Dr.chain rfl ?_;refine oV ?_;by_cases Qd:l[i].ord<l[j].ord
  ·refine C.dx (cW 29 0 11++[(6,11)]) 12 [] 0 ?_;refine mX ?_;refine Dr.p (λh=>C.fA rfl h (hf:=Qd)) ?_;refine xT ?_;refine fP ?_;exact C.cm aT ak ⟨true,rfl,⟨λ_=>.inr ⟨ai,Qd⟩,λ_=>rfl⟩,rfl⟩
  ·refine C.dx (cW 29 0 11++[(6,11)]) 12 [] 0 ?_;refine mX ?_;refine Dr.p (λh=>C.dS rfl h (hf:=Qd)) ?_;refine xT ?_;refine fP ?_;exact C.cm aT ak ⟨false,rfl,⟨nofun,λh=>by rcases h with h|h<;>omega⟩,rfl⟩
theorem rO{tm:az}{l:List kz}{i j:Nat}(hi:i<l.length)(hj:j<l.length):aI prog ao cH 246 #[tm.v,aD i,aD j] [bG sE 4 229 tm l] (λv As=>As=[bG sE 4 229 tm (De l i j)]):=by refine aI.of λR C kd d F c cs aT ak=>?_;refine cr ?_;simp only[De,j8 hi,j8 hj]at ak;refine C.go ?_;refine C.dx (cW 6 0 13++[(19,14)]) 16 [13,14,15] 0 ?_;refine nH ?_;refine Dr.l (λhE h=>C.WI hj rfl h (s:=tm) (f:=sE)) ?_;refine sV ?_;refine Dr.l (λhE h=>C.WI hi rfl h (s:=tm) (f:=sE)) ?_;refine xT ?_;refine Ch.m 13 (aY λe aa hk=>?_);refine C.WJ l[j] rfl (hk _ undef ?_) (j:=i);refine Ch.m 14 (aY λe aa hk=>?_);refine C.dQ rfl (hk _ _ ?_) (hj:=by rw[eg];exact hj);refine Ch.m 15 (aY λe aa hk=>?_);refine C.WJ l[i] rfl (hk _ undef ?_) (j:=j) (hj:=by rw[eg];exact hj);refine fP ?_;exact C.eJ aT ak rfl
theorem FX{tm:az}{l:List kz}{a:kz}{b off:Nat}{c:Array Value}(hc:c[off]? =some tm.v)(hl:l.length<2^34):aI prog ao cH 254 #[.pointer (some ⟨b,off,none⟩),.iface 229 (.agg (sE a).toArray)] [da b (.cells c 156 (0,0)),bG sE 4 229 tm l]
  (λv As=>∃ AD:az,As=[da b (.cells (c.setIfInBounds off AD.v) 156 (0,0)),bG sE 4 229 AD (l++[a])]):=by
 refine aI.of λR C kd d F cc cs aT ak=>?_;refine cr ?_;have hsz:off<c.size:=(gV.1 hc).1;refine C.go ?_;refine C.dx (cW 4 0 9) 10 [6,7,9] 1 ?_;refine sV ?_;refine Dr.l (λhE h=>C.ld rfl h (hc:=hc)) ?_;refine kK ?_;refine Dr.p (λh=>C.ta (ok:=false) underlying229 rfl rfl h) ?_;refine xT ?_;refine Ch.m 6 (aY λe aa hk=>?_);refine C.AV rfl (λZy=>hk _ _ .cons ?_);refine Ch.m 7 (aY λe aa hk=>?_);refine C.BI a rfl (λs'=>?_);refine hk _ _ ?_;refine Ch.m 9 (aY λe aa hk=>?_);refine C.st rfl (hk _ undef ?_) (hz:=hsz);refine fP ?_;exact C.eJ aT ak ⟨s',rfl⟩
theorem Ih{tm:az}{l:List kz}{b off:Nat}{c:Array Value}(hc:c[off]? =some tm.v)(hl:0<l.length)(Kq:l.length<2^34):aI prog ao cH 253 #[.pointer (some ⟨b,off,none⟩)] [da b (.cells c 156 (0,0)),bG sE 4 229 tm l]
  (λv As=>∃ AD:az,v=.iface 229 (.agg (sE (gA l (l.length-1))).toArray)/\As=[da b (.cells (c.setIfInBounds off AD.v) 156 (0,0)),bG sE 4 229 AD (l.take (l.length-1))]):=by
 refine aI.of λR C kd d F cc cs aT ak=>?_;refine cr ?_;have hsz:off<c.size:=(gV.1 hc).1;have du:l.length-1<l.length:=ai;rw[j8 du]at ak;refine At.EU (A:=bG sE 4 229 tm l) Fo.au (λh x=>EZ hl h x) λhk=>?_;obtain⟨Cc,ht2,ht3⟩:=hk;refine gU ?_;refine C.ld rfl ?_ (hc:=hc);refine gu ?_;refine C.ar rfl ?_ (r:=((l.length-1:Nat):Int)) (ha:=congrArg some ai);refine fG ?_;refine C.WI du rfl ?_ (s:=tm) (f:=sE);refine C.al rfl (λb4=>?_);refine C.tL rfl ?_ (hv:=λv h=>iD.one (f:=sE) l[l.length-1] v (by simpa using h));refine gu ?_;refine C.ar rfl ?_ (r:=((l.length-1:Nat):Int)) (ha:=congrArg some ai);refine C.shi rfl ?_ (hi:=((l.length-1:Nat):Int)) (hh:=by constructor<;>omega);rw[gv];refine fG ?_;refine C.st rfl ?_ (hz:=hsz);refine bH ?_;refine C.Zl rfl ?_ (hz:=xD rfl) (hc:=rfl);refine dK ?_;refine At.turn (A:=bG sE 4 229 tm l) Fo.au (Kk (n:=l.length-1) ai) ?_;exact C.cm aT ak ⟨⟨tm.a,l.length-1,tm.cap⟩,rfl,rfl⟩
set_option maxRecDepth 100000 in
theorem L4:∃ q,prog.types.size+Made.depth=q+1:=⟨prog.types.size+99,by unfold Made.depth;omega⟩
variable{tm:az}{b off:Nat}{c:Array Value}
def Tu(name:String)(f:bJ)(tm:az)(b off:Nat)(As:List HP):Prop:=∀ H d (Q:bJ×Value->Array Obj->Nat->Prop),Sat As (hp H)->Q (f,tm.v) H d->dJ prog cH (method (prog.types.size+Made.depth) 231 (.pointer (some ⟨b,off,none⟩)) name) H d Q
set_option maxRecDepth 100000 in
theorem Qe{name:String}{f:bJ}{m:Go.Method}(hf:t231.methods.find? (·.name==name)=some m)(hp0:m.path=#[])(hfu:m.func=some (f,false))(hc:c[off]? =some tm.v)(hh:Fo (da b (.cells c 156 (0,0))) As L):Tu name f tm b off As:=λH d Q s q=>by obtain⟨q0,hq0⟩:=L4;rw[hq0];exact LM (aC type231) hf hp0 hfu underlying231 ((s.perm hh.perm).get) hc rfl q
set_option maxRecDepth 100000 in
theorem VA(hc:c[off]? =some tm.v)(hh:Fo (da b (.cells c 156 (0,0))) As L):Tu "Len" 244 tm b off As:=Qe (m:=(t231.methods.find? (·.name== "Len")).getD default) (by kernel_rfl) (by kernel_rfl) (by kernel_rfl) hc hh
set_option maxRecDepth 100000 in
theorem Ii(hc:c[off]? =some tm.v)(hh:Fo (da b (.cells c 156 (0,0))) As L):Tu "Less" 245 tm b off As:=Qe (m:=(t231.methods.find? (·.name== "Less")).getD default) (by kernel_rfl) (by kernel_rfl) (by kernel_rfl) hc hh
set_option maxRecDepth 100000 in
theorem Ij(hc:c[off]? =some tm.v)(hh:Fo (da b (.cells c 156 (0,0))) As L):Tu "Swap" 246 tm b off As:=Qe (m:=(t231.methods.find? (·.name== "Swap")).getD default) (by kernel_rfl) (by kernel_rfl) (by kernel_rfl) hc hh
set_option maxRecDepth 100000 in
theorem Xt:fW prog (method (prog.types.size+Made.depth) 231 (.pointer (some ⟨b,off,none⟩)) "Push")=some (254,.pointer (some ⟨b,off,none⟩)):=by kernel_rfl
set_option maxRecDepth 100000 in
theorem abr:fW prog (method (prog.types.size+Made.depth) 231 (.pointer (some ⟨b,off,none⟩)) "Pop")=some (253,.pointer (some ⟨b,off,none⟩)):=by kernel_rfl
abbrev Xu(b off:Nat):Value:=.iface 231 (.pointer (some ⟨b,off,none⟩))
abbrev L5(b:Nat)(c:Array Value):HP:=da b (.cells c 156 (0,0))
abbrev Qf(tm:az)(l:List kz):HP:=bG sE 4 229 tm l
theorem DD(j:Nat):((j:Int)-1).tdiv 2=(((j-1)/2:Nat):Int):=by
 cases j with
 |zero=>rfl
 |succ j=>
  have e:((j+1:Nat):Int)-1=(j:Int):=ai;rw[e,Nat.add_sub_cancel];exact JK j 2 |>.symm
set_option maxRecDepth 100000 in
theorem Qg{tm:az}{l:List kz}{b off j:Nat}{ca:Array Value}(hc:ca[off]? =some tm.v)(hj:j<l.length)(hl:l.length<2^60)(hh:oJ l j):
  aI prog ao cH 201 #[Xu b off,aD j] [L5 b ca,Qf tm l] (λv As=>∃ l',l'.Perm l/\ie l' l'.length/\As=[L5 b ca,Qf tm l']):=by
 refine aI.of λR C kd d F c cs aT ak=>?_;refine sB ?_;refine C.cu (X:=Nat×List kz) (λx=>[(0,Xu b off),(1,aD x.1)]) (λx=>L5 b ca::Qf tm x.2::F) (λx=>x.1<x.2.length/\x.2.Perm l/\oJ x.2 x.1) (λx=>x.1) (j,l) ⟨rfl,rfl,trivial⟩ ⟨hj,.refl _,hh⟩ ?_;rintro⟨j,m⟩ e ⟨hj,hp,hh⟩ ih;dsimp only at hj hp hh⊢;have Wy:m.length=l.length:=hp.length_eq;have Vg:(j-1)/2<m.length:=ai;refine dX ?_;refine C.quo rfl ?_ (hr:=by rw[DD j];exact uy ai ai);rw[DD j];refine eP ?_;refine C.cmp rfl (λXv=>?_) (λXv=>?_)
 ·refine oT ?_;exact C.eJ aT ak ⟨m,hp,hh.fin (.inl ai),rfl⟩
 ·refine dX ?_;refine C.Vo (Ii hc Fo.au) (rN (tm:=tm) (l:=m) (i:=j) (j:=(j-1)/2) hj Vg) ?_;rintro v aP ⟨z,rfl,hz,rfl⟩;refine cr ?_;rcases nj z with rfl|rfl
  ·refine nT ?_;refine C.Vo (Ij hc Fo.au) (rO (tm:=tm) (l:=m) (i:=(j-1)/2) (j:=j) Vg hj) ?_;rintro v aP rfl;refine tV ?_;exact again ih ((j-1)/2,De m ((j-1)/2) j) ⟨by dsimp only;rw[yl];omega,(zi Vg hj).trans hp,hh.step hj rfl ai (hz.1 rfl)⟩ (dq)
  ·refine dX ?_;exact C.eJ aT ak ⟨m,hp,hh.fin (.inr (λh=>by have:=hz.2 h;cases this)),rfl⟩
theorem Qh{l:List kz}{i j n:Nat}(hi:i<n)(hj:j<n):(De l i j).drop n=l.drop n:=by unfold De;rw[List.drop_set_of_lt hj,List.drop_set_of_lt hi]
set_option maxRecDepth 100000 in
theorem Il{tm:az}{l:List kz}{b off n:Nat}{ca:Array Value}(hc:ca[off]? =some tm.v)(hn:n<=l.length)(hl:l.length<2^60)(hh:rD l n 0):
  aI prog ao cH 184 #[Xu b off,aD 0,aD n] [L5 b ca,Qf tm l] (λv As=>∃ l' z,v=.bool z/\l'.Perm l/\l'.drop n=l.drop n/\ie l' n/\As=[L5 b ca,Qf tm l']):=by
 refine aI.of λR C kd d F c cs aT ak=>?_;refine Ky ?_;refine C.cu (X:=Nat×List kz) (λx=>[(0,Xu b off),(1,aD 0),(2,aD n),(7,aD x.1)]) (λx=>L5 b ca::Qf tm x.2::F) (λx=>x.1<=n/\x.2.Perm l/\x.2.drop n=l.drop n/\rD x.2 n x.1) (λx=>n-x.1) (0,l) ⟨rfl,rfl,rfl,rfl,trivial⟩ ⟨eW _,.refl _,rfl,hh⟩ ?_;rintro⟨i,m⟩ e ⟨hi,hp,Qi,hh⟩ ih;dsimp only at hi hp Qi hh⊢;have Wy:m.length=l.length:=hp.length_eq;refine dK ?_;refine C.ar rfl ?_ (r:=2*(i:Int));refine C.ar rfl ?_ (r:=((2*i+1:Nat):Int)) (ha:=congrArg some ai);refine eP ?_;refine C.cmp rfl (λVz=>?_) (λVz=>?_)
 ·refine oT ?_;refine C.cmp rfl (λNJ=>?_) (λNJ=>?_)
  ·refine bH ?_;refine C.cm aT ak ⟨m,_,rfl,hp,Qi,hh.fin λk h0 hk HJ=>?_,rfl⟩;omega
  ·refine bH ?_;refine C.cm aT ak ⟨m,_,rfl,hp,Qi,hh.fin λk h0 hk HJ=>?_,rfl⟩;omega
 ·refine bH ?_;refine C.cmp rfl (λCm=>?_) (λCm=>?_)
  ·refine gu ?_;refine C.cmp rfl (λNJ=>?_) (λNJ=>?_)
   ·refine bH ?_;omega
   ·refine bH ?_;omega
  ·refine oT ?_;refine C.ar rfl ?_ (r:=((2*i+2:Nat):Int)) (ha:=congrArg some ai);refine bH ?_;apply mj (X:=Nat) (λj=>j<n/\0<j/\i=(j-1)/2/\∀ k,0<k->k<n->(k-1)/2=i->uz m k j) (λj=>[(0,Xu b off),(1,aD 0),(2,aD n),(7,aD i),(9,aD j)]) (λ_=>L5 b ca::Qf tm m::F) (R:=R) (d:=d) (fn:=184) (kd:=kd) (n:=48) (ds:=[]) (cs:=c::cs)
   ·intro L6;have RV:2*i+1<n:=ai;refine dK ?_;refine C.cmp rfl (λA8=>?_) (λA8=>?_)
    ·refine dX ?_;refine C.Vo (Ii hc Fo.au) (rN (tm:=tm) (l:=m) (i:=2*i+2) (j:=2*i+1) ai ai) ?_;rintro v aP ⟨z,rfl,hz,rfl⟩;refine cr ?_;rcases nj z with rfl|rfl
     ·refine gU ?_;refine bN L6 (2*i+2) ⟨ai,ai,by omega,λk h0 hk HJ=>?_⟩;have hz1:=hz.1 rfl;rcases(show k=2*i+1\/k=2*i+2 by omega)with rfl|rfl
      ·unfold uz;unfold mL at hz1⊢;omega
      ·unfold uz mL;omega
     ·refine dK ?_;refine bN L6 (2*i+1) ⟨ai,ai,by omega,λk h0 hk HJ=>?_⟩;have hz1:¬ mL (gA m (2*i+2)) (gA m (2*i+1)):=λh=>by have:=hz.2 h;cases this
      rcases(show k=2*i+1\/k=2*i+2 by omega)with rfl|rfl
      ·unfold uz mL;omega
      ·exact hz1
    ·refine nT ?_;refine bN L6 (2*i+1) ⟨ai,ai,by omega,λk h0 hk HJ=>?_⟩;obtain rfl:k=2*i+1:=ai;unfold uz mL;omega
   ·rintro j ⟨hjn,Nv,RY,AT⟩ e;refine dX ?_;refine C.Vo (Ii hc Fo.au) (rN (tm:=tm) (l:=m) (i:=j) (j:=i) ai ai) ?_;rintro v aP ⟨z,rfl,hz,rfl⟩;refine cr ?_;rcases nj z with rfl|rfl
    ·refine gU ?_;refine C.Vo (Ij hc Fo.au) (rO (tm:=tm) (l:=m) (i:=i) (j:=j) ai ai) ?_;rintro v aP rfl;refine tV ?_;exact again ih (j,De m i j) ⟨dq,(zi ai ai).trans hp,(Qh ai hjn).trans Qi,hh.step ai hjn Nv RY AT (hz.1 rfl)⟩ (dq)
    ·refine gu ?_;refine C.cmp rfl (λNJ=>?_) (λNJ=>?_)
     ·refine bH ?_;refine C.cm aT ak ⟨m,_,rfl,hp,Qi,hh.fin λk h0 hk HJ=>?_,rfl⟩;have hz1:¬ mL (gA m j) (gA m i):=λh=>by have:=hz.2 h;cases this
      have h2:=AT k h0 hk HJ;unfold uz at h2⊢;unfold mL at*;omega
     ·refine bH ?_;refine C.cm aT ak ⟨m,_,rfl,hp,Qi,hh.fin λk h0 hk HJ=>?_,rfl⟩;have hz1:¬ mL (gA m j) (gA m i):=λh=>by have:=hz.2 h;cases this
      have h2:=AT k h0 hk HJ;unfold uz at h2⊢;unfold mL at*;omega
set_option maxRecDepth 100000 in
theorem Im{tm:az}{l:List kz}{a:kz}{b off:Nat}{ca:Array Value}(hc:ca[off]? =some tm.v)(hl:l.length<2^34)(hh:ie l l.length):
  aI prog ao cH 186 #[Xu b off,.iface 229 (.agg (sE a).toArray)] [L5 b ca,Qf tm l] (λv As=>∃ AD l',l'.Perm (l++[a])/\ie l' l'.length/\As=[L5 b (ca.setIfInBounds off AD.v),Qf AD l']):=by
 refine aI.of λR C kd d F c cs aT ak=>?_;refine cr ?_;have hsz:off<ca.size:=(gV.1 hc).1;refine dX ?_;refine C.Zt Xt (FX (a:=a) hc hl) ?_;rintro v aP ⟨AD,rfl⟩;refine cr ?_;have kI:(ca.setIfInBounds off AD.v)[off]? =some AD.v:=by simp[hsz]
 refine dX ?_;refine C.Vo (VA kI Fo.au) (zR (tm:=AD) (l:=l++[a])) ?_;rintro v aP ⟨rfl,rfl⟩;refine cr ?_;refine C.ar rfl ?_ (r:=(l.length:Int)) (ha:=congrArg some (by simp)) (hr:=uy ai ai);refine C.fF (Qg kI (l:=l++[a]) (j:=l.length) (by simp) (by rw[gO,gJ];omega) (oJ.push hh a)) ?_;rintro v aP ⟨l',hp,Wz,rfl⟩;refine sB ?_;exact C.eJ aT ak ⟨AD,l',hp,Wz,rfl⟩
set_option maxRecDepth 100000 in
theorem L7{tm:az}{l:List kz}{b off:Nat}{ca:Array Value}(hc:ca[off]? =some tm.v)(h0:0<l.length)(hl:l.length<2^34)(hh:ie l l.length):
  aI prog ao cH 146 #[Xu b off] [L5 b ca,Qf tm l] (λv As=>∃ AD l',v=.iface 229 (.agg (sE (gA l 0)).toArray)/\l.Perm (gA l 0::l')/\ie l' l'.length/\As=[L5 b (ca.setIfInBounds off AD.v),Qf AD l']):=by
 refine aI.of λR C kd d F c cs aT ak=>?_;refine cr ?_;obtain⟨q,hq⟩:∃ q,l.length=q+1:=⟨l.length-1,ai⟩;have hlen:(De l 0 q).length=q+1:=by rw[yl];exact hq
 refine gu ?_;refine C.Vo (VA hc Fo.au) (zR (tm:=tm) (l:=l)) ?_;rintro v aP ⟨rfl,rfl⟩;refine cr ?_;refine C.ar rfl ?_ (r:=(q:Int)) (ha:=congrArg some ai);refine eP ?_;refine C.Vo (Ij hc Fo.au) (rO (tm:=tm) (l:=l) (i:=0) (j:=q) ai ai) ?_;rintro v aP rfl;refine Ca ?_;refine C.fF (Il hc (l:=De l 0 q) (n:=q) ai ai (ie.out (by rw[<- hq];exact hh) ai)) ?_;rintro v aP ⟨m,z,rfl,hp,Qi,Wz,rfl⟩;refine cr ?_;have Wy:m.length=q+1:=hp.length_eq.trans hlen;refine dK ?_;refine C.Zt abr (Ih (l:=m) hc ai ai) ?_;rintro v aP ⟨AD,rfl,rfl⟩;refine oU ?_;have hg:gA m q=gA l 0:=by
  have h1:m.drop q=[gA m q]:=by rw[o3 ai,j8 ai,ni ai]
  have h2:(De l 0 q).drop q=[gA (De l 0 q) q]:=by rw[o3 ai,j8 ai,ni ai]
  rw[h1,h2,ym ai ai,aG rfl]at Qi;exact(List.cons.inj Qi).1
 have hmq:m.length-1=q:=ai;refine C.cm aT ak ⟨AD,m.take (m.length-1),?_,?_,?_,rfl⟩
 ·rw[<- hg,hmq]
 ·rw[<- hg,hmq];refine((zi ai ai).symm.trans hp.symm).trans ?_;have h1:m=m.take q++[gA m q]:=by
   conv=>lhs;rw[<- sZ q m,o3 ai,ni ai]
   rw[j8 ai]
  conv=>lhs;rw[h1]
  exact UC _ _
 ·rw[hmq,jS,xG ai];exact ie.take Wz
abbrev jT(s:di)(tx ticks:Int)(again:Bool):di:={s with order:=s.order+1,timers:=s.timers++[⟨s.clock+ticks,s.order+1,tx,again⟩]}
theorem nL(s:di)(tx ticks:Int)(again:Bool):(jT s tx ticks again).abs=jH s.abs tx ticks again:=by simp[jT,jH,di.abs,kz.qW]
set_option maxRecDepth 100000 in
theorem kB{b:Nat}{s:di}{tx ticks:Int}{again:Bool}(hl:s.timers.length<2^34)(ho:0<=s.order/\s.order<2^62)(hc:0<=s.clock/\s.clock<2^62)(ht:0<=ticks/\ticks<=4):
  aI prog ao cH 149 #[ay b,aD tx,aD ticks,.bool again] [dk b s] (λv As=>As=[dk b (jT s tx ticks again)]):=by
 refine aI.of λR C kd d F c cs aT ak=>?_;refine cr ?_;refine dk.opn (h:=λlg wt ot tm bv bl bp bd be bu tl htj=>?_);have R3:tl.length=s.timers.length:=htj.perm.length_eq;refine kj ?_;refine C.dx (cW 17 0 22) 22 [21] 0 ?_;refine H4 ?_;refine Dr.p (λh=>C.mi rfl h) ?_;refine mX ?_;refine NC ?_;refine Dr.p (λh=>C.mi rfl h) ?_;refine Dr.chain rfl ?_;refine Ch.m 21 (aY λe aa hk=>?_);refine C.fF (Im (tm:=tm) (l:=tl) (a:=⟨s.clock+ticks,s.order+1,tx,again⟩) rfl ai htj.heap) ?_;rintro v aP ⟨AD,l',hp,hh,rfl⟩;refine cr ?_;refine hk _ _ ?_;refine fP ?_;refine dk.cls (jT s tx ticks again) ?_ (ht:=py.push htj rfl hp hh);exact C.eJ aT ak rfl
structure xn(o a:Int)(s:di):Prop where
 z:0<=a
 o:0<=s.order/\s.order<=o
 a:∀ u∈s.bY,∀ p∈u.2.cy,0<=p.2/\p.2<=a
structure qQ(s:di):Prop where
 n:1<=s.n/\s.n<=4
 log:s.log.length<2^30
 aH:0<=s.aH/\s.aH<=s.log.length
 timers:s.timers.length<2^15
 waits:s.waits.length<2^30
 out:s.out.length<2^30
 clock:0<=s.clock/\s.clock<2^60
 order:0<=s.order/\s.order<2^61
 Xw:∀ u∈s.bY,mA u.2.ops
 cy:∀ u∈s.bY,∀ p∈u.2.cy,0<=p.2/\p.2<2^61
 abw:∀ tx p,aB s.pend tx=some p->mA p.ops
 dpl:∀ tx p,aB s.bF tx=some p->0<=p.pl/\p.pl<s.log.length
def gD(b:Nat)(I:HL)(o a:Int)(r:ek):Value->List HP->Prop:=λv As=>∃ I' s',Sub I I'/\ShJ I' s'/\s'.abs=r/\xn o a s'/\As=[dk b s',bD I']
theorem Io(m:List (Int×Int))(k:Int):((aB m k).map fC).getD (.int .i32 0)=.int .i32 ((aB m k).getD 0):=by cases aB m k<;>rfl
theorem uj(m:List (Int×Int))(k:Int):((aB m k).map dV).getD (aD 0)=aD ((aB m k).getD 0):=by cases aB m k<;>rfl
theorem zS(V:List (Int×Int))(l:List bP)(o:bP):iF V (l++[o])=if o.w then iF V l else iF V l++[(aB V o.k).getD 0]:=by unfold iF;cases h:o.w<;>simp[qw,h]
theorem zT{I:HL}{b:Nat}{s:di}{so:az}{ops:List bP}(ho:fI I cS 37 so ops)(hb:mA ops):
  aI prog ao cH 178 #[ay b,so.v] [dk b s,bD I] (λv As=>∃ s':az,v=s'.v/\As=[bG cX 1 21 s' (iF s.values ops),dk b s,bD I]):=by
 have hl:=hb.2;refine aI.of λR C kd d F c cs aT ak=>?_;refine cr ?_;refine dk.opn (h:=λlg wt ot tm bv bl bp bd be bu tl ht=>?_);refine At.aR cX 1 21 ?_;refine lI ?_;refine fG ?_;refine C.cu (X:=Nat×az) (λx=>[(0,ay b),(5,x.2.v),(8,so.v),(9,aD ops.length),(10,aD x.1)]) (λx=>bG cX 1 21 x.2 (iF s.values (ops.take x.1))::L1 b s lg wt ot tm bv bl bp bd be bu tl (bD I::F)) (λx=>x.1<=ops.length) (λx=>ops.length-x.1) (0,aR) ⟨rfl,rfl,rfl,rfl,rfl,trivial⟩ (eW _) ?_ (hI:=.refl);rintro⟨i,s1⟩ e hi ih;dsimp only at hi⊢;refine bH ?_;refine C.cmp rfl (λxo=>?_) (λxo=>?_)
 ·refine bH ?_;have ee:i<ops.length:=by simpa using xo
  have Hl:(iF s.values (ops.take i)).length<=i:=by have:=yE (λo:bP=> !o.w) (ops.take i);simp only[iF,dW,jS]at this⊢;omega
  refine bH ?_;refine C.xR rfl (λhj=>?_);refine C.al rfl (λb7=>?_);refine C.tL rfl ?_ (hv:=λv h=>iD.one (f:=cS) ops[i] v (by simpa using h));refine dX ?_;generalize hw:ops[i].w=z;rcases nj z with rfl|rfl
  ·refine gU ?_;refine again ih (i+1,s1) ee (dq) (hr:=?_);rw[iM ee,zS,aG hw];exact cV.au
  ·refine dK ?_;have oI:=Io s.values ops[i].k;refine C.dx (cW 17 0 11++[(5,11)]) 12 [9,10,11] 1 ?_;refine Em ?_;refine Dr.l (λhE h=>C.Fh oI rfl h) ?_;refine Dr.chain rfl ?_;refine Ch.m 9 (aY λe aa hk=>?_);refine C.AV rfl (λb26=>hk _ _ .cons ?_);refine Ch.m 10 (aY λe aa hk=>?_);refine C.BI (s:=s1) (l:=iF s.values (ops.take i)) ((aB s.values ops[i].k).getD 0) rfl (λs2=>?_);refine hk _ _ ?_;refine Ch.q 11 (λh=>C.oR rfl h) ?_;refine zI ?_;refine again ih (i+1,s2) ee (dq) (hr:=?_);rw[iM ee,zS,ax (by rw[hw];decide)];exact cV.au
 ·refine gu ?_;have e1:ops.take i=ops:=jD (by simp at xo;omega);rw[e1];refine dk.cls s ?_;exact C.cm aT ak ⟨s1,rfl,rfl⟩
abbrev vy(s:di)(tx home:Int)(ops:List bP)(so:az)(pl:Int):di:={s with aX:=ops.foldl (λl o=>bB l o.k tx) s.aX,pend:=bB s.pend tx ⟨pl,home,ops,so⟩}
theorem Cn(s:di)(tx home:Int)(ops:List bP)(so:az)(pl:Int):(vy s tx home ops so pl).abs=th s.abs tx home ops pl:=by unfold th di.abs;simp only[ek.mk.injEq,yG,o4];exact kY qO.abs s.pend
theorem Ip{I:HL}{b:Nat}{s:di}{so:az}{ops:List bP}{tx home pl:Int}(ho:fI I cS 37 so ops)(hb:mA ops):
  aI prog ao cH 151 #[ay b,aD tx,aD home,so.v,aD pl] [dk b s,bD I] (λv As=>As=[dk b (vy s tx home ops so pl),bD I]):=by
 have hl:=hb.2;refine aI.of λR C kd d F c cs aT ak=>?_;refine cr ?_;refine dk.opn (h:=λlg wt ot tm bv bl bp bd be bu tl ht=>?_);refine gu ?_;refine C.cu (X:=Nat×List (Int×Int)) (λx=>[(0,ay b),(1,aD tx),(2,aD home),(3,so.v),(4,aD pl),(12,so.v),(13,aD ops.length),(14,aD x.1)]) (λx=>L1 b {s with aX:=x.2} lg wt ot tm bv bl bp bd be bu tl (bD I::F)) (λx=>x.1<=ops.length/\x.2=(ops.take x.1).foldl (λl o=>bB l o.k tx) s.aX) (λx=>ops.length-x.1) (0,s.aX) ⟨rfl,rfl,rfl,rfl,rfl,rfl,rfl,rfl,trivial⟩ ⟨eW _,rfl⟩ ?_ (hI:=.refl);rintro⟨i,lk⟩ e ⟨hi,oI⟩ ih;dsimp only at hi oI⊢;refine bH ?_;refine C.cmp rfl (λsF=>?_) (λsF=>?_)
 ·refine bH ?_;have ee:i<ops.length:=by simpa using sF
  refine bH ?_;refine C.xR rfl (λhj=>?_);refine C.al rfl (λwH=>?_);refine C.tL rfl ?_ (hv:=λv h=>iD.one (f:=cS) ops[i] v (by simpa using h));refine C.go ?_;refine C.dx (cW 18 0 8) 9 [8] 0 ?_;refine Xg ?_;refine Ch.m 8 (aY λe aa hk=>?_);refine C.mu (w:=tx) (l:=lk) (q:=ops[i].k) rfl (hk _ undef ?_);refine zI ?_;refine again ih (i+1,bB lk ops[i].k tx) ⟨ee,?_⟩ (dq);rw[iM ee,kM,<- oI];rfl
 ·refine bH ?_;have e1:ops.take i=ops:=jD (by simp at sF;omega);rw[e1]at oI;subst oI;refine lI ?_;refine C.mu (w:=qO.mk pl home ops so) (l:=s.pend) (q:=tx) rfl ?_;refine C.go ?_;refine dk.cls (vy s tx home ops so pl) ?_;exact C.eJ aT ak rfl
def jz(s:di)(tx:Int):qO:=(aB s.pend tx).getD ⟨0,0,[],aR⟩
theorem KG(s:di)(tx:Int):((aB s.pend tx).map uf).getD (.agg #[aD 0,aD 0,.slice none 0 0])=uf (jz s tx):=by unfold jz;cases aB s.pend tx<;>rfl
theorem L8(s:di)(tx:Int):(jz s tx).ops=((aB s.abs.pend tx).map (·.ops)).getD []:=by show _=((aB (s.pend.map λp=>(p.1,p.2.abs)) tx).map (·.ops)).getD [];rw[vd qO.abs];unfold jz;cases aB s.pend tx<;>rfl
theorem ShJ.jz{I:HL}{s:di}(h:ShJ I s)(tx:Int):fI I cS 37 (jz s tx).so (jz s tx).ops:=by
 unfold Go.Sl.jz;cases hg:aB s.pend tx with
 |none=>exact .nil ..
 |some p=>exact h.pend _ (bQ hg)
abbrev mZ(s:di)(tx:Int)(yes:Bool)(pl:Int):di:=
 {s with values:=(jz s tx).ops.foldl (λv o=>if yes&&o.w then bB v o.k o.v else v) s.values,aX:=(jz s tx).ops.foldl (λl o=>dT l o.k) s.aX,pend:=dT s.pend tx,done:=bB s.done tx ⟨pl,yes⟩}
theorem xp(s:di)(tx:Int)(yes:Bool)(pl:Int):(mZ s tx yes pl).abs=qa s.abs tx yes pl:=by have e1:=Ff (k:=tx) qO.abs s.pend;unfold qa;simp only[<- L8];unfold di.abs;simp only[ek.mk.injEq,yG,o4];exact e1
theorem ql{I:HL}{b:Nat}{s:di}{tx pl:Int}{yes:Bool}(hJ:ShJ I s)(hb:(jz s tx).ops.length<2^30):
  aI prog ao cH 152 #[ay b,aD tx,.bool yes,aD pl] [dk b s,bD I] (λv As=>As=[dk b (mZ s tx yes pl),bD I]):=by
 refine aI.of λR C kd d F c cs aT ak=>?_;refine cr ?_;refine dk.opn (h:=λlg wt ot tm bv bl bp bd be bu tl ht=>?_);have Xx:=KG s tx;have ho:=hJ.jz tx;have hfx:mZ s tx yes pl={s with values:=(jz s tx).ops.foldl (λv o=>if yes&&o.w then bB v o.k o.v else v) s.values,aX:=(jz s tx).ops.foldl (λl o=>dT l o.k) s.aX,pend:=dT s.pend tx,done:=bB s.done tx ⟨pl,yes⟩}:=rfl;rw[hfx]at ak;clear hfx;generalize jz s tx=p at Xx ho hb ak;obtain⟨ppl,ph,ops,so⟩:=p;dsimp only at ho hb ak;refine nT ?_;refine C.Fh Xx rfl ?_;refine C.al rfl (λb8=>?_);refine nT ?_;refine C.cu (X:=Nat×List (Int×Int)×List (Int×Int)) (λx=>[(0,ay b),(1,aD tx),(2,.bool yes),(3,aD pl),(19,so.v),(20,aD ops.length),(21,aD x.1)]) (λx=>L1 b {s with values:=x.2.1,aX:=x.2.2} lg wt ot tm bv bl bp bd be bu tl (bD I::F)) (λx=>x.1<=ops.length/\x.2.1=(ops.take x.1).foldl (λv o=>if yes&&o.w then bB v o.k o.v else v) s.values/\x.2.2=(ops.take x.1).foldl (λl o=>dT l o.k) s.aX) (λx=>ops.length-x.1) (0,s.values,s.aX) ⟨rfl,rfl,rfl,rfl,rfl,rfl,rfl,trivial⟩ ⟨eW _,rfl,rfl⟩ ?_;rintro⟨i,va,lk⟩ e ⟨hi,L9,oI⟩ ih;dsimp only at hi L9 oI⊢;refine bH ?_;refine C.cmp rfl (λMa=>?_) (λMa=>?_)
 ·refine bH ?_;have ee:i<ops.length:=by simpa using Ma
  refine bH ?_;refine C.xR rfl (λhj=>?_);refine C.al rfl (λZy=>?_);refine C.tL rfl ?_ (hv:=λv h=>iD.one (f:=cS) ops[i] v (by simpa using h));refine dX ?_;rcases nj yes with rfl|rfl
  ·refine bH ?_;generalize hw:ops[i].w=z;rcases nj z with rfl|rfl
   ·refine dK ?_;refine C.dx (cW 30 0 9) 10 [9] 0 ?_;refine R0 ?_;refine Ch.m 9 (aY λe aa hk=>?_);refine C.mu (w:=ops[i].v) (l:=va) (q:=ops[i].k) rfl (hk _ undef ?_);refine fP ?_;refine C.dx (cW 39 0 7) 8 [7] 0 ?_;refine To ?_;refine Ch.m 7 (aY λe aa hk=>?_);refine C.dl (l:=lk) (q:=ops[i].k) rfl (hk _ undef ?_);refine zI ?_;refine again ih (i+1,bB va ops[i].k ops[i].v,dT lk ops[i].k) ⟨ee,?_,?_⟩ (dq)
    ·rw[iM ee,kM,<- L9,mE,wU,aG (by rw[hw];rfl)]
    ·rw[iM ee,kM,<- oI];rfl
   ·refine dK ?_;refine C.dx (cW 39 0 7) 8 [7] 0 ?_;refine To ?_;refine Ch.m 7 (aY λe aa hk=>?_);refine C.dl (l:=lk) (q:=ops[i].k) rfl (hk _ undef ?_);refine zI ?_;refine again ih (i+1,va,dT lk ops[i].k) ⟨ee,?_,?_⟩ (dq)
    ·rw[iM ee,kM,<- L9,mE,wU,ax (by rw[hw];decide)]
    ·rw[iM ee,kM,<- oI];rfl
  ·refine eP ?_;refine C.dx (cW 39 0 7) 8 [7] 0 ?_;refine To ?_;refine Ch.m 7 (aY λe aa hk=>?_);refine C.dl (l:=lk) (q:=ops[i].k) rfl (hk _ undef ?_);refine zI ?_;refine again ih (i+1,va,dT lk ops[i].k) ⟨ee,?_,?_⟩ (dq)
   ·rw[iM ee,kM,<- L9,mE,wU,ax (by simp)]
   ·rw[iM ee,kM,<- oI];rfl
 ·refine bH ?_;have e1:ops.take i=ops:=jD (by simp at Ma;omega);rw[e1]at L9 oI;subst L9 oI;refine gU ?_;refine C.dl rfl ?_;refine lI ?_;refine C.mu (w:=ic.mk pl yes) (l:=s.done) (q:=tx) rfl ?_;refine C.go ?_;refine dk.cls {s with values:=ops.foldl (λv o=>if yes&&o.w then bB v o.k o.v else v) s.values,aX:=ops.foldl (λl o=>dT l o.k) s.aX,pend:=dT s.pend tx,done:=bB s.done tx ⟨pl,yes⟩} ?_;exact C.eJ aT ak rfl
theorem m4{b:Nat}{ca:Array Value}{lg:az}{l:List ik}{en:ik}(hc:ca[3]? =some lg.v)(hl:l.length<2^34):aI prog ao cH 179 #[ay b,en.val] [L5 b ca,bG oO 1 238 lg l]
  (λv As=>∃ Zz:az,v=aD l.length/\As=[L5 b (ca.setIfInBounds 3 Zz.v),bG oO 1 238 Zz (l++[en])]):=by
 refine aI.of λR C kd d F c cs aT ak=>?_;refine cr ?_;have hsz:3<ca.size:=(gV.1 hc).1;refine oT ?_;refine C.ld rfl ?_ (hc:=hc);refine fG ?_;refine C.AV rfl (λwH=>?_);refine C.BI en rfl (λs'=>?_);refine bH ?_;refine C.st rfl ?_ (hz:=hsz);refine eP ?_;refine C.ld rfl ?_ (hc:=show(ca.setIfInBounds 3 s'.v)[3]? =some s'.v by simp[hsz]);refine C.pS rfl ?_ (s:=s') (l:=l++[en]);refine C.ar rfl ?_ (r:=l.length) (ha:=congrArg some (by simp)) (hr:=uy ai ai);refine bH ?_;exact C.cm aT ak ⟨s',rfl,rfl⟩
theorem jk{V W:Type}(w:V->W)(m:List (Int×V))(k:Int):aB (m.map λp=>(p.1,w p.2)) k=(aB m k).map w:=vd w m
theorem Co{s:ek}{m:MsgR}{d:ic}(h:aB s.bF m.tx=some d):AW s m=if d.pl<s.aH then ff s {bK with kind:=4,to:=m.bq,tx:=m.tx,yes:=d.yes}else s:=by unfold AW;rw[h]
theorem wI{s:ek}{m:MsgR}(h:aB s.bF m.tx=none):AW s m=if(aB s.bY m.tx).isSome then s else iP {s with log:=s.log++[.dec m.tx false []],bF:=bB s.bF m.tx ⟨s.log.length,false⟩} {bK with kind:=4,to:=m.bq,tx:=m.tx}:=by unfold AW;rw[h]
theorem xn.same{o a:Int}{s s':di}(h:xn o a s)(h1:s'.order=s.order)(h2:s'.bY=s.bY):xn (o+1) (a+1) s':=⟨by have:=h.z;omega,by rw[h1];have:=h.o;omega,λu hu p hp=>by rw[h2]at hu;have:=h.a u hu p hp;omega⟩
theorem ShJ.outs{I:HL}{s:di}(h:ShJ I s){m:dM}(hm:kG I m):ShJ I {s with out:=s.out++[m]}:=⟨h.log,h.pend,h.bY,h.waits,λx hx=>by
 rcases bS.1 hx with hx|hx
 ·exact h.out x hx
 ·obtain rfl:=dL.1 hx;exact hm⟩
theorem ShJ.wait{I:HL}{s:di}(h:ShJ I s){m:dM}(hm:kG I m):ShJ I {s with waits:=s.waits++[m]}:=⟨h.log,h.pend,h.bY,λx hx=>by
 rcases bS.1 hx with hx|hx
 ·exact h.waits x hx
 ·obtain rfl:=dL.1 hx;exact hm,h.out⟩
theorem ShJ.logs{I:HL}{s:di}(h:ShJ I s){e:ik}(he:e.J I):ShJ I {s with log:=s.log++[e]}:=⟨λx hx=>by
 rcases bS.1 hx with hx|hx
 ·exact h.log x hx
 ·obtain rfl:=dL.1 hx;exact he,h.pend,h.bY,h.waits,h.out⟩
theorem kG.nil(I:HL)(m:MsgR)(ho:m.ops=[])(hr:m.reads=[]):kG I ⟨m,aR,aR⟩:=⟨by dsimp only;rw[ho];exact .nil ..,by dsimp only;rw[hr];exact .nil ..,by dsimp only;rw[hr];decide⟩
abbrev nM(b:Nat)(m:dM):HP:=da b (.cells #[aD m.kind,aD m.bq,aD m.to,aD m.tx,.bool m.yes,m.so.v,m.sr.v] 159 (0,0))
theorem Mb{I:HL}{b:Nat}{s:di}{m:dM}{o a:Int}(hJ:ShJ I s)(hb:qQ s)(hC:xn o a s):
  aI prog ao cH 144 #[ay b,rM m] [dk b s,bD I] (gD b I (o+1) (a+1) (AW s.abs m.toMsgR)):=by
 have jL:=hb.log;have mB:=hb.out;have R4:=hb.waits;refine aI.of λR C kd d F c cs aT ak=>?_;refine cr ?_;refine dk.opn (h:=λlg wt ot tm bv bl bp bd be bu tl ht=>?_);refine bH ?_;refine C.bx rfl (λb3=>?_);refine C.go ?_;cases vz:(aB s.bF m.tx)
 ·refine C.dx (cW 7 0 8++[(6,8)]++[(15,9),(16,10)]++[(4,11)]++[(5,13)]) 14 [11,12] 1 ?_;refine nH ?_;refine Dr.l (λhE h=>C.Hy vz rfl h) ?_;refine Hb ?_;refine Ch.m 11 (aY λe aa hk=>?_);refine C.al rfl (λb4=>hk _ _ .cons ?_);refine Ch.m 12 (aY λe aa hk=>?_);refine C.tL rfl (hk _ undef ?_);refine fP ?_;refine C.dx (cW 39 0 10++[(38,10)]) 11 [] 0 ?_;refine PY ?_;refine oV ?_;cases VB:(aB s.bY m.tx)
  ·refine C.dx (cW 59 0 12++[(58,12)]) 13 [] 0 ?_;refine Em ?_;refine kK ?_;refine Dr.l (λhE h=>C.Hy VB rfl h) ?_;refine Dr.p (λh=>C.LK rfl h) ?_;refine A5 ?_;refine oV ?_;refine C.A4 (cW 17 0 14) 15 [4,12,13,14] 3 ?_ (W:=[nM b3 m]);refine mX ?_;refine Dr.p (λh=>C.mi rfl h) ?_;refine Dr.chain rfl ?_ (λ_ s=>cV.sat cV.au s);refine Ch.n2 (t:=4) (u:=12) rfl ?_ ?_
   ·refine aY λe aa hk=>?_;refine C.ld rfl (hk _ _ .refl ?_);refine Ch.m 12 (aY λe aa hk=>?_);refine C.fF (m4 (en:=.dec m.tx false [] aR) (l:=s.log) (lg:=lg) rfl ai) ?_;rintro v aP ⟨Zz,rfl,rfl⟩;refine cr ?_;refine hk _ _ pU ?_;refine Ch.q 13 (λh=>C.bd rfl h) ?_;refine Ch.m 14 (aY λe aa hk=>?_);refine C.mu (w:=ic.mk s.log.length false) (l:=s.bF) (q:=m.tx) rfl ?_;refine hk _ undef pU ?_;refine fP ?_;refine dk.cls {s with log:=s.log++[.dec m.tx false [] aR],bF:=bB s.bF m.tx ⟨s.log.length,false⟩} ?_;refine gU ?_;refine C.fF (iY (s:={s with log:=s.log++[.dec m.tx false [] aR],bF:=bB s.bF m.tx ⟨s.log.length,false⟩}) (m:=⟨{bK with kind:=4,to:=m.bq,tx:=m.tx},aR,aR⟩) (by show s.waits.length<_;omega)) ?_;rintro v aP rfl;refine sB ?_;have AJ:ShJ I {s with log:=s.log++[.dec m.tx false [] aR],bF:=bB s.bF m.tx ⟨s.log.length,false⟩}:=⟨(hJ.logs (e:=.dec m.tx false [] aR) ⟨.nil ..,by decide⟩).log,hJ.pend,hJ.bY,hJ.waits,hJ.out⟩;refine C.eJ aT ak ⟨I,_,Sub.refl _,AJ.wait (kG.nil I {bK with kind:=4,bq:=s.me,to:=m.bq,tx:=m.tx} rfl rfl),?_,hC.same rfl rfl,rfl⟩;rw[wI vz,ax (by show¬ (aB (s.bY.map λp=>(p.1,p.2.abs)) m.tx).isSome=true;rw[jk fD.abs,VB];decide)];simp[iP,di.abs,ik.abs]
   ·refine aY λe aa hk=>?_;refine C.fF (m4 (en:=.dec m.tx false [] aR) (l:=s.log) (lg:=lg) rfl ai) ?_;rintro v aP ⟨Zz,rfl,rfl⟩;refine cr ?_;refine hk _ _ pU ?_;refine Ch.q 13 (λh=>C.bd rfl h) ?_;refine Ch.m 4 (aY λe aa hk=>?_);refine C.ld rfl (hk _ _ .refl ?_);refine Ch.m 14 (aY λe aa hk=>?_);refine C.mu (w:=ic.mk s.log.length false) (l:=s.bF) (q:=m.tx) rfl ?_;refine hk _ undef pU ?_;refine fP ?_;refine dk.cls {s with log:=s.log++[.dec m.tx false [] aR],bF:=bB s.bF m.tx ⟨s.log.length,false⟩} ?_;refine gU ?_;refine C.fF (iY (s:={s with log:=s.log++[.dec m.tx false [] aR],bF:=bB s.bF m.tx ⟨s.log.length,false⟩}) (m:=⟨{bK with kind:=4,to:=m.bq,tx:=m.tx},aR,aR⟩) (by show s.waits.length<_;omega)) ?_;rintro v aP rfl;refine sB ?_;have AJ:ShJ I {s with log:=s.log++[.dec m.tx false [] aR],bF:=bB s.bF m.tx ⟨s.log.length,false⟩}:=⟨(hJ.logs (e:=.dec m.tx false [] aR) ⟨.nil ..,by decide⟩).log,hJ.pend,hJ.bY,hJ.waits,hJ.out⟩;refine C.eJ aT ak ⟨I,_,Sub.refl _,AJ.wait (kG.nil I {bK with kind:=4,bq:=s.me,to:=m.bq,tx:=m.tx} rfl rfl),?_,hC.same rfl rfl,rfl⟩;rw[wI vz,ax (by show¬ (aB (s.bY.map λp=>(p.1,p.2.abs)) m.tx).isSome=true;rw[jk fD.abs,VB];decide)];simp[iP,di.abs,ik.abs]
  ·rename_i w68;refine C.dx (cW 59 0 12++[(58,12)]) 13 [] 0 ?_;refine Em ?_;refine kK ?_;refine Dr.l (λhE h=>C.Hx VB rfl h) ?_;refine Dr.p (λh=>C.LK rfl h) ?_;refine A5 ?_;refine oV ?_;refine dk.cls s ?_;refine C.eJ aT ak ⟨I,s,Sub.refl _,hJ,?_,hC.same rfl rfl,rfl⟩;rw[wI vz,aG (by show(aB (s.bY.map λp=>(p.1,p.2.abs)) m.tx).isSome=true;rw[jk fD.abs,VB];rfl)]
 ·rename_i Xy;refine C.dx (cW 7 0 8++[(6,8)]++[(15,9),(16,10)]++[(4,11)]++[(5,13)]) 14 [11,12] 1 ?_;refine nH ?_;refine Dr.l (λhE h=>C.Hx vz rfl h) ?_;refine Hb ?_;refine Ch.m 11 (aY λe aa hk=>?_);refine C.al rfl (λb4=>hk _ _ .cons ?_);refine Ch.m 12 (aY λe aa hk=>?_);refine C.tL rfl (hk _ undef ?_);refine fP ?_;by_cases NJ:Xy.pl<s.aH
  ·refine C.dx (cW 39 0 10++[(38,10)]) 11 [] 0 ?_;refine Em ?_;refine Dr.p (λh=>C.fA rfl h (hf:=NJ)) ?_;refine A5 ?_;refine oV ?_;refine dk.cls s ?_;refine oT ?_;refine C.fF (gC (m:=⟨{bK with kind:=4,to:=m.bq,tx:=m.tx,yes:=Xy.yes},aR,aR⟩) (s:=s) ai) ?_;rintro v aP rfl;refine sB ?_;refine C.eJ aT ak ⟨I,_,Sub.refl _,hJ.outs (kG.nil I {bK with kind:=4,bq:=s.me,to:=m.bq,tx:=m.tx,yes:=Xy.yes} rfl rfl),?_,hC.same rfl rfl,rfl⟩;rw[show AW s.abs m.toMsgR=_ from(Co (d:=Xy) vz).trans (aG NJ)];simp[ff,di.abs]
  ·refine C.dx (cW 39 0 10++[(38,10)]) 11 [] 0 ?_;refine Em ?_;refine Dr.p (λh=>C.dS rfl h (hf:=NJ)) ?_;refine A5 ?_;refine oV ?_;refine C.dx (cW 59 0 12++[(58,12)]) 13 [] 0 ?_;refine PZ ?_;refine oV ?_;refine dk.cls s ?_;refine C.eJ aT ak ⟨I,s,Sub.refl _,hJ,?_,hC.same rfl rfl,rfl⟩;rw[show AW s.abs m.toMsgR=_ from(Co (d:=Xy) vz).trans (ax NJ)]
theorem ShJ.fin{I:HL}{s:di}(h:ShJ I s)(tx:Int)(yes:Bool)(pl:Int):ShJ I (mZ s tx yes pl):=⟨h.log,λp hp=>h.pend p (vc hp),h.bY,h.waits,h.out⟩
theorem Mc{s:di}(hb:qQ s)(tx:Int):(jz s tx).ops.length<2^30:=by
 unfold jz;cases hg:aB s.pend tx with
 |none=>exact nl _
 |some p=>
  have:=(hb.abw _ _ hg).2;show p.ops.length<_;omega
def DF(s:ek)(m:MsgR):ek:=iP (qa {s with log:=s.log++[.jX m.tx m.yes]} m.tx m.yes s.log.length) {bK with kind:=5,to:=m.bq,tx:=m.tx}
theorem vA{s:ek}{m:MsgR}{p:y6}(h:aB s.pend m.tx=some p):jx s m=DF s m:=by unfold jx;rw[h];rfl
theorem vB{s:ek}{m:MsgR}{d:ic}(h:aB s.pend m.tx=none)(h2:aB s.done m.tx=some d):jx s m=if d.pl<s.aH then ff s {bK with kind:=5,to:=m.bq,tx:=m.tx}else s:=by unfold jx;rw[h,h2]
theorem zU{s:ek}{m:MsgR}(h:aB s.pend m.tx=none)(h2:aB s.done m.tx=none):jx s m=if m.yes then s else DF s m:=by unfold jx;rw[h,h2];rfl
theorem pL{s:di}{tx:Int}{p:qO}(h:aB s.pend tx=some p):aB s.abs.pend tx=some p.abs:=by show aB (s.pend.map λp=>(p.1,p.2.abs)) tx=_;rw[jk qO.abs,h];rfl
theorem jP{s:di}{tx:Int}(h:aB s.pend tx=none):aB s.abs.pend tx=none:=by show aB (s.pend.map λp=>(p.1,p.2.abs)) tx=_;rw[jk qO.abs,h];rfl
theorem j3{s:di}{tx:Int}{p:fD}(h:aB s.bY tx=some p):aB s.abs.bY tx=some p.abs:=by show aB (s.bY.map λp=>(p.1,p.2.abs)) tx=_;rw[jk fD.abs,h];rfl
theorem rP{s:di}{tx:Int}(h:aB s.bY tx=none):aB s.abs.bY tx=none:=by show aB (s.bY.map λp=>(p.1,p.2.abs)) tx=_;rw[jk fD.abs,h];rfl
abbrev Tv(s:di)(tx:Int)(yes:Bool):di:=mZ {s with log:=s.log++[.jX tx yes]} tx yes s.log.length
theorem zV(s:di)(m:MsgR):iP (Tv s m.tx m.yes).abs {bK with kind:=5,to:=m.bq,tx:=m.tx}=DF s.abs m:=by
 unfold DF;rw[xp]
 congr 2
 ·simp[di.abs,ik.abs]
 ·simp[di.abs]
theorem DG{I:HL}{b:Nat}{s:di}{m:dM}{o a:Int}(hJ:ShJ I s)(hb:qQ s)(hC:xn o a s):
  aI prog ao cH 142 #[ay b,rM m] [dk b s,bD I] (gD b I (o+1) (a+1) (jx s.abs m.toMsgR)):=by
 have jL:=hb.log;have mB:=hb.out;have R4:=hb.waits;have yi:=Mc hb m.tx;refine aI.of λR C kd d F c cs aT ak=>?_;refine cr ?_;refine dk.opn (h:=λlg wt ot tm bv bl bp bd be bu tl ht=>?_);refine bH ?_;refine C.bx rfl (λb3=>?_);refine C.go ?_;cases Eo:(aB s.pend m.tx)
 ·refine C.dx (cW 9 0 8++[(8,8)]++[(17,9),(18,10)]++[(4,11)]++[(5,13)]) 14 [11,12] 1 ?_;refine nH ?_;refine Dr.l (λhE h=>C.Hy Eo rfl h) ?_;refine Hb ?_;refine Ch.m 11 (aY λe aa hk=>?_);refine C.al rfl (λb4=>hk _ _ .cons ?_);refine Ch.m 12 (aY λe aa hk=>?_);refine C.tL rfl (hk _ undef ?_);refine fP ?_;cases A8:(aB s.done m.tx)
  ·refine C.dx (cW 20 0 8++[(19,8)]++[(28,9),(29,10)]++[(6,11)]++[(7,13)]) 14 [11,12] 1 ?_;refine nH ?_;refine Dr.l (λhE h=>C.Hy A8 rfl h) ?_;refine Hb ?_;refine Ch.m 11 (aY λe aa hk=>?_);refine C.al rfl (λb6=>hk _ _ .cons ?_);refine Ch.m 12 (aY λe aa hk=>?_);refine C.tL rfl (hk _ undef ?_);refine Ch.fin ?_;refine kj ?_;refine fG ?_;refine C.Vl rfl (λhy=>?_) (λhy=>?_)
   ·refine eP ?_;refine dk.cls s ?_;refine C.eJ aT ak ⟨I,s,Sub.refl _,hJ,?_,hC.same rfl rfl,rfl⟩;rw[show jx s.abs m.toMsgR=_ from(zU (jP Eo) A8).trans (aG hy)]
   ·refine eP ?_;refine dk.cls s ?_;refine C.A4 (cW 57 0 14) 14 [12,13] 2 ?_ (W:=[nM b3 m,bD I]);refine mX ?_;refine kK ?_;refine Dr.p (λh=>C.mi rfl h) ?_;refine Dr.chain rfl ?_ (λ_ s=>cV.sat cV.au s);refine Ch.m 12 (aY λe aa hk=>?_);refine C.cE (om (s:=s) (en:=.jX m.tx m.yes) ai) ?_;refine cr ?_;refine hk _ _ pU ?_;refine Ch.m 13 (aY λe aa hk=>?_);refine C.fF (ql (s:={s with log:=s.log++[.jX m.tx m.yes]}) (hJ.logs (e:=.jX m.tx m.yes) trivial) yi) ?_;rintro v aP rfl;refine cr ?_;refine hk _ _ pU ?_;refine PX ?_;refine C.fF (iY (s:=Tv s m.tx m.yes) (m:=⟨{bK with kind:=5,to:=m.bq,tx:=m.tx},aR,aR⟩) (by show s.waits.length<_;omega)) ?_;rintro v aP rfl;refine sB ?_;refine C.eJ aT ak ⟨I,_,Sub.refl _,((hJ.logs (e:=.jX m.tx m.yes) trivial).fin m.tx m.yes s.log.length).wait (kG.nil I {bK with kind:=5,bq:=s.me,to:=m.bq,tx:=m.tx} rfl rfl),?_,hC.same rfl rfl,rfl⟩;rw[show jx s.abs m.toMsgR=_ from(zU (jP Eo) A8).trans (ax (by rw[hy];decide))];refine Eq.trans ?_ (zV s m.toMsgR);simp only[iP,di.abs,eI,gW,l6]
  ·rename_i w27;refine C.dx (cW 20 0 8++[(19,8)]++[(28,9),(29,10)]++[(6,11)]++[(7,13)]) 14 [11,12] 1 ?_;refine nH ?_;refine Dr.l (λhE h=>C.Hx A8 rfl h) ?_;refine Hb ?_;refine Ch.m 11 (aY λe aa hk=>?_);refine C.al rfl (λb6=>hk _ _ .cons ?_);refine Ch.m 12 (aY λe aa hk=>?_);refine C.tL rfl (hk _ undef ?_);refine Ch.fin ?_;refine tU ?_;by_cases h42:w27.pl<s.aH
   ·refine C.dx (cW 36 0 7) 7 [] 0 ?_;refine pF ?_;refine Dr.p (λh=>C.fA rfl h (hf:=h42)) ?_;refine Dr.chain rfl ?_;refine oV ?_;refine dk.cls s ?_;refine gU ?_;refine C.fF (gC (s:=s) (m:=⟨{bK with kind:=5,to:=m.bq,tx:=m.tx},aR,aR⟩) ai) ?_;rintro v aP rfl;refine sB ?_;refine C.eJ aT ak ⟨I,_,Sub.refl _,hJ.outs (kG.nil I {bK with kind:=5,bq:=s.me,to:=m.bq,tx:=m.tx} rfl rfl),?_,hC.same rfl rfl,rfl⟩;rw[show jx s.abs m.toMsgR=_ from(vB (jP Eo) (d:=w27) A8).trans (aG h42)];simp[ff,di.abs]
   ·refine C.dx (cW 36 0 7) 7 [] 0 ?_;refine pF ?_;refine Dr.p (λh=>C.dS rfl h (hf:=h42)) ?_;refine Dr.chain rfl ?_;refine oV ?_;refine dk.cls s ?_;refine C.eJ aT ak ⟨I,s,Sub.refl _,hJ,?_,hC.same rfl rfl,rfl⟩;rw[show jx s.abs m.toMsgR=_ from(vB (jP Eo) (d:=w27) A8).trans (ax h42)]
 ·rename_i w16;refine C.dx (cW 9 0 8++[(8,8)]++[(17,9),(18,10)]++[(4,11)]++[(5,13)]) 14 [11,12] 1 ?_;refine nH ?_;refine Dr.l (λhE h=>C.Hx Eo rfl h) ?_;refine Hb ?_;refine Ch.m 11 (aY λe aa hk=>?_);refine C.al rfl (λb4=>hk _ _ .cons ?_);refine Ch.m 12 (aY λe aa hk=>?_);refine C.tL rfl (hk _ undef ?_);refine fP ?_;cases A8:(aB s.done m.tx)
  ·refine C.dx (cW 20 0 8++[(19,8)]++[(28,9),(29,10)]++[(6,11)]++[(7,13)]) 14 [11,12] 1 ?_;refine nH ?_;refine Dr.l (λhE h=>C.Hy A8 rfl h) ?_;refine Hb ?_;refine Ch.m 11 (aY λe aa hk=>?_);refine C.al rfl (λb6=>hk _ _ .cons ?_);refine Ch.m 12 (aY λe aa hk=>?_);refine C.tL rfl (hk _ undef ?_);refine Ch.fin ?_;refine kj ?_;refine gU ?_;refine dk.cls s ?_;refine C.A4 (cW 57 0 14) 14 [12,13] 2 ?_ (W:=[nM b3 m,bD I]);refine mX ?_;refine kK ?_;refine Dr.p (λh=>C.mi rfl h) ?_;refine Dr.chain rfl ?_ (λ_ s=>cV.sat cV.au s);refine Ch.m 12 (aY λe aa hk=>?_);refine C.cE (om (s:=s) (en:=.jX m.tx m.yes) ai) ?_;refine cr ?_;refine hk _ _ pU ?_;refine Ch.m 13 (aY λe aa hk=>?_);refine C.fF (ql (s:={s with log:=s.log++[.jX m.tx m.yes]}) (hJ.logs (e:=.jX m.tx m.yes) trivial) yi) ?_;rintro v aP rfl;refine cr ?_;refine hk _ _ pU ?_;refine PX ?_;refine C.fF (iY (s:=Tv s m.tx m.yes) (m:=⟨{bK with kind:=5,to:=m.bq,tx:=m.tx},aR,aR⟩) (by show s.waits.length<_;omega)) ?_;rintro v aP rfl;refine sB ?_;refine C.eJ aT ak ⟨I,_,Sub.refl _,((hJ.logs (e:=.jX m.tx m.yes) trivial).fin m.tx m.yes s.log.length).wait (kG.nil I {bK with kind:=5,bq:=s.me,to:=m.bq,tx:=m.tx} rfl rfl),?_,hC.same rfl rfl,rfl⟩;rw[vA (pL Eo)];refine Eq.trans ?_ (zV s m.toMsgR);simp only[iP,di.abs,eI,gW,l6]
  ·rename_i w27;refine C.dx (cW 20 0 8++[(19,8)]++[(28,9),(29,10)]++[(6,11)]++[(7,13)]) 14 [11,12] 1 ?_;refine nH ?_;refine Dr.l (λhE h=>C.Hx A8 rfl h) ?_;refine Hb ?_;refine Ch.m 11 (aY λe aa hk=>?_);refine C.al rfl (λb6=>hk _ _ .cons ?_);refine Ch.m 12 (aY λe aa hk=>?_);refine C.tL rfl (hk _ undef ?_);refine Ch.fin ?_;refine kj ?_;refine gU ?_;refine dk.cls s ?_;refine C.A4 (cW 57 0 14) 14 [12,13] 2 ?_ (W:=[nM b3 m,bD I]);refine mX ?_;refine kK ?_;refine Dr.p (λh=>C.mi rfl h) ?_;refine Dr.chain rfl ?_ (λ_ s=>cV.sat cV.au s);refine Ch.m 12 (aY λe aa hk=>?_);refine C.cE (om (s:=s) (en:=.jX m.tx m.yes) ai) ?_;refine cr ?_;refine hk _ _ pU ?_;refine Ch.m 13 (aY λe aa hk=>?_);refine C.fF (ql (s:={s with log:=s.log++[.jX m.tx m.yes]}) (hJ.logs (e:=.jX m.tx m.yes) trivial) yi) ?_;rintro v aP rfl;refine cr ?_;refine hk _ _ pU ?_;refine PX ?_;refine C.fF (iY (s:=Tv s m.tx m.yes) (m:=⟨{bK with kind:=5,to:=m.bq,tx:=m.tx},aR,aR⟩) (by show s.waits.length<_;omega)) ?_;rintro v aP rfl;refine sB ?_;refine C.eJ aT ak ⟨I,_,Sub.refl _,((hJ.logs (e:=.jX m.tx m.yes) trivial).fin m.tx m.yes s.log.length).wait (kG.nil I {bK with kind:=5,bq:=s.me,to:=m.bq,tx:=m.tx} rfl rfl),?_,hC.same rfl rfl,rfl⟩;rw[vA (pL Eo)];refine Eq.trans ?_ (zV s m.toMsgR);simp only[iP,di.abs,eI,gW,l6]
variable{F:List HP}{l:List (Int×fD)}{tx:Int}{u:fD}
theorem vC(hg:aB l tx=some u)(hf:Fo (all (l.map qP)) As L)(h:At R d (FT u (all ((dT l tx).map qP)::L)) g):At R d As g:=
 BS (f:=qP) hg hf λH s=>h H (Sat.flat (l:=FT u []) s)
theorem iz(u:fD)(hr:fg (FT u [all ((dT l tx).map qP)]) As L)(h:At R d (all ((bB l tx u).map qP)::L) g):At R d As g:=
 At.perm hr.perm λH s=>(Fe (f:=qP) (m:=l) (k:=tx) u (.cons .head (.cons .head .nil)) h) H (Sat.iC (l:=FT u []) s)
theorem FY(u:fD)(hg:aB l tx=none)(hr:fg (FT u [all (l.map qP)]) As L)(h:At R d (all ((bB l tx u).map qP)::L) g):At R d As g:=iz u (by rw[BT hg];exact hr) h
theorem Cp{V:Type}{k:Int}{v:V}:∀ {l:List (Int×V)},dT (bB l k v) k=dT l k
 |[]=>by simp[bB,dT]
 |p::l=>by
  unfold bB dT;by_cases h:p.1=k
  ·simp[h]
  ·simp only[ax h];rw[Cp (l:=l)]
theorem Me{s:ek}{m:MsgR}(h:aB s.bY m.tx=none):y7 s m=s:=by unfold y7;rw[h]
theorem wJ{s:ek}{m:MsgR}{u:mo}(h:aB s.bY m.tx=some u):y7 s m=if !u.dec then s else if(bB u.cy m.bq ((aB u.cy m.bq).getD 0+1)).length=(dA u.ops s.n).length then{s with bY:=dT s.bY m.tx}else{s with bY:=bB s.bY m.tx {u with cy:=bB u.cy m.bq ((aB u.cy m.bq).getD 0+1)}}:=by unfold y7;rw[h];simp only[Cp]
abbrev Tw(u:fD)(k:Int):fD:={u with cy:=bB u.cy k ((aB u.cy k).getD 0+1)}
theorem Mf{I:HL}{b:Nat}{s:di}{m:dM}{o a:Int}(hJ:ShJ I s)(hb:qQ s)(hC:xn o a s):
  aI prog ao cH 143 #[ay b,rM m] [dk b s,bD I] (gD b I (o+1) (a+1) (y7 s.abs m.toMsgR)):=by
 refine aI.of λR C kd d F c cs aT ak=>?_;refine cr ?_;refine dk.opn (h:=λlg wt ot tm bv bl bp bd be bu tl ht=>?_);refine bH ?_;refine C.bx rfl (λb3=>?_);refine C.go ?_;cases KH:(aB s.bY m.tx)
 ·refine C.dx (cW 5 0 8++[(4,8)]) 9 [] 0 ?_;refine nH ?_;refine Dr.l (λhE h=>C.Hy KH rfl h) ?_;refine xT ?_;refine Ch.fin ?_;refine kj ?_;refine dk.cls s ?_;refine C.cm aT ak ⟨I,s,Sub.refl _,hJ,(Me (rP KH)).symm,hC.same rfl rfl,rfl⟩
 ·rename_i vR;refine C.dx (cW 5 0 8++[(4,8)]) 9 [] 0 ?_;refine nH ?_;refine Dr.l (λhE h=>C.Hx KH rfl h) ?_;refine xT ?_;refine fP ?_;refine vC KH Fo.au ?_;have dR:=bQ KH;have cN:=hb.Xw _ dR;have hac:=hb.cy _ dR;have Qj:=hJ.bY _ dR;have hk:0<=(aB vR.cy m.bq).getD 0/\(aB vR.cy m.bq).getD 0<2^61:=by
   cases hg:aB vR.cy m.bq with
   |none=>simp
   |some v=>exact hac _ (bQ hg)
  have oI:=uj vR.cy m.bq;refine gU ?_;refine C.Vl rfl (λhd=>?_) (λhd=>?_)
  ·refine dX ?_;refine C.dx (cW 22 0 8) 9 [8] 0 ?_;refine pF ?_;refine Dr.l (λhE h=>C.Fh oI rfl h) ?_;refine xT ?_;refine Ch.m 8 (aY λe aa hk=>?_);refine C.mu (w:=(aB vR.cy m.bq).getD 0+1) (l:=vR.cy) (q:=m.bq) rfl (hk _ undef ?_);refine fP ?_;by_cases h45:((bB vR.cy m.bq ((aB vR.cy m.bq).getD 0+1)).length:Int)=((dA vR.ops s.n).length:Int)
   ·refine C.dx (cW 30 0 16) 16 [13,14,15] 0 ?_;refine PZ ?_;refine Ch.m 13 (aY λe aa hk=>?_);refine C.fF (nK (n:=s.n) Qj.o cN hb.n.1) ?_;rintro v aP ⟨bm,I1,pm,rfl,iK,R5, -,rfl⟩;refine cr ?_;have yi:pm.length=(dA vR.ops s.n).length:=by rw[<- R5];unfold xm;rw[dW]
    refine hk _ _ ?_;refine Ch.m 14 (aY λe aa hk=>?_);refine fG ?_;rw[yi];refine hk _ _ ?_;refine Ch.q 15 (λh=>C.fA rfl h (hf:=h45)) ?_;refine oV ?_;refine C.dx (cW 46 0 7) 8 [7] 0 ?_;refine To ?_;refine Ch.m 7 (aY λe aa hk=>?_);refine C.dl rfl (hk _ undef ?_);refine fP ?_;refine dk.cls {s with bY:=dT s.bY m.tx} ?_;have hl:(bB vR.cy m.bq ((aB vR.cy m.bq).getD 0+1)).length=(dA vR.ops s.n).length:=ai;refine C.eJ aT ak ⟨I1,{s with bY:=dT s.bY m.tx},iK,⟨(hJ.mono iK).log,(hJ.mono iK).pend,λu hu=>(hJ.mono iK).bY u (vc hu),(hJ.mono iK).waits,(hJ.mono iK).out⟩,?_,⟨by have:=hC.z;omega,by have:=hC.o;show 0<=s.order/\s.order<=o+1;omega,λu hu p hp=>by have:=hC.a u (vc hu) p hp;omega⟩,rfl⟩;rw[show y7 s.abs m.toMsgR=_ from(wJ (j3 KH)).trans ((ax (by show¬ (!vR.dec)=true;rw[hd];decide)).trans (aG hl))];simp only[di.abs,Ff]
   ·refine C.dx (cW 30 0 16) 16 [13,14,15] 0 ?_;refine PZ ?_;refine Ch.m 13 (aY λe aa hk=>?_);refine C.fF (nK (n:=s.n) Qj.o cN hb.n.1) ?_;rintro v aP ⟨bm,I1,pm,rfl,iK,R5, -,rfl⟩;refine cr ?_;have yi:pm.length=(dA vR.ops s.n).length:=by rw[<- R5];unfold xm;rw[dW]
    refine hk _ _ ?_;refine Ch.m 14 (aY λe aa hk=>?_);refine fG ?_;rw[yi];refine hk _ _ ?_;refine Ch.q 15 (λh=>C.dS rfl h (hf:=h45)) ?_;refine oV ?_;refine iz (Tw vR m.bq) fg.au ?_;rw[<- ss (g:=wF) (u1:=(Tw vR m.bq)) KH rfl];refine dk.cls {s with bY:=bB s.bY m.tx (Tw vR m.bq)} ?_;have hl:¬ (bB vR.cy m.bq ((aB vR.cy m.bq).getD 0+1)).length=(dA vR.ops s.n).length:=ai;refine C.eJ aT ak ⟨I1,{s with bY:=bB s.bY m.tx (Tw vR m.bq)},iK,⟨(hJ.mono iK).log,(hJ.mono iK).pend,λu hu=>?_,(hJ.mono iK).waits,(hJ.mono iK).out⟩,?_,⟨by have:=hC.z;omega,by have:=hC.o;show 0<=s.order/\s.order<=o+1;omega,λu hu p hp=>?_⟩,rfl⟩
    ·rcases eE hu with rfl|hu
     ·exact⟨(Qj.mono iK).o,(Qj.mono iK).r,Qj.z⟩
     ·exact(hJ.mono iK).bY u hu
    ·rw[show y7 s.abs m.toMsgR=_ from(wJ (j3 KH)).trans ((ax (by show¬ (!vR.dec)=true;rw[hd];decide)).trans (ax hl))];simp only[di.abs,kY];rfl
    ·rcases eE hu with rfl|hu
     ·rcases eE hp with rfl|hp
      ·have h1:(aB vR.cy m.bq).getD 0<=a\/(aB vR.cy m.bq).getD 0=0:=by
        cases hg:aB vR.cy m.bq with
        |none=>exact .inr rfl
        |some v=>exact .inl (hC.a _ dR _ (bQ hg)).2
       have h2:=hC.z;dsimp only;omega
      ·have:=hC.a _ dR p hp;omega
     ·have:=hC.a u hu p hp;omega
  ·refine dX ?_;refine iz vR fg.au ?_;rw[gM KH];refine dk.cls s ?_;refine C.cm aT ak ⟨I,s,Sub.refl _,hJ,?_,hC.same rfl rfl,rfl⟩;rw[show y7 s.abs m.toMsgR=_ from(wJ (j3 KH)).trans (aG (by show(!vR.dec)=true;rw[hd];rfl))]
def vD(m:MsgR):MsgR:={bK with kind:=3,to:=m.bq,tx:=m.tx}
theorem zW{s:ek}{m:MsgR}{p:y6}(h:aB s.pend m.tx=some p):fV s m=if p.pl<s.aH then ff s {vD m with yes:=true,reads:=iF s.values p.ops}else s:=by unfold fV;rw[h];rfl
theorem zX{s:ek}{m:MsgR}{d:ic}(h:aB s.pend m.tx=none)(h2:aB s.done m.tx=some d):fV s m=if d.yes then s else ff s (vD m):=by unfold fV;rw[h,h2];rfl
theorem FZ{s:ek}{m:MsgR}(h:aB s.pend m.tx=none)(h2:aB s.done m.tx=none):fV s m=if m.ops.any (λo=>(aB s.aX o.k).isSome)then ff s (vD m)else
  jH (iP (th {s with log:=s.log++[.cg m.tx m.bq m.ops]} m.tx m.bq m.ops s.log.length) {vD m with yes:=true,reads:=iF s.values m.ops}) m.tx 3 false:=by unfold fV;rw[h,h2];rfl
theorem ShJ.hold{I:HL}{s:di}(h:ShJ I s){tx home pl:Int}{ops:List bP}{so:az}(ho:fI I cS 37 so ops):ShJ I (vy s tx home ops so pl):=⟨h.log,λp hp=>by
 rcases eE hp with rfl|hp
 ·exact ho
 ·exact h.pend p hp,h.bY,h.waits,h.out⟩
abbrev F0(s:di)(m:dM):di:=vy {s with log:=s.log++[.cg m.tx m.bq m.ops m.so]} m.tx m.bq m.ops m.so s.log.length
abbrev Qk(s:di)(m:dM)(sv:az):di:={F0 s m with waits:=s.waits++[⟨{vD m.toMsgR with bq:=s.me,yes:=true,reads:=iF s.values m.ops},aR,sv⟩]}
theorem Mg(s:di)(m:dM)(sv:az):(Qk s m sv).abs=iP (th {s.abs with log:=s.abs.log++[.cg m.tx m.bq m.ops]} m.tx m.bq m.ops s.abs.log.length) {vD m.toMsgR with yes:=true,reads:=iF s.abs.values m.ops}:=by
 have e1:=Cn {s with log:=s.log++[.cg m.tx m.bq m.ops m.so]} m.tx m.bq m.ops m.so s.log.length;have e2:th {s.abs with log:=s.abs.log++[.cg m.tx m.bq m.ops]} m.tx m.bq m.ops s.abs.log.length=(F0 s m).abs:=by
  rw[e1]
  congr 1
  ·simp[di.abs,ik.abs]
  ·simp[di.abs]
 rw[e2];simp[iP,di.abs]
theorem Cq(V:List (Int×Int))(ops:List bP):(iF V ops).length<=ops.length:=by unfold iF;rw[dW];exact yE _ _
theorem A9{I:HL}{b:Nat}{s:di}{m:dM}{o a:Int}(hJ:ShJ I s)(hb:qQ s)(hC:xn o a s)(hM:kG I m)(hO:mA m.ops):
  aI prog ao cH 140 #[ay b,rM m] [dk b s,bD I] (gD b I (o+1) (a+1) (fV s.abs m.toMsgR)):=by
 have jL:=hb.log;have mB:=hb.out;have R4:=hb.waits;have Xz:=hb.clock;have Ql:=hb.order;have htm:=hb.timers;have Xp:=hO.2;have hMo:=hM.o;have hzm:(iF s.values m.ops).length<2^20:=yH (Cq ..) hO.2;refine aI.of λR C kd d F c cs aT ak=>?_;refine cr ?_;refine dk.opn (h:=λlg wt ot tm bv bl bp bd be bu tl ht=>?_);refine bH ?_;refine C.bx rfl (λb3=>?_);refine gU ?_;refine C.al rfl (λb4=>?_);refine bH ?_;cases R6:(aB s.pend m.tx)
 ·refine C.dx (cW 19 0 8++[(18,8)]++[(27,9),(28,10)]++[(5,11)]++[(6,13)]) 14 [11,12] 1 ?_;refine nH ?_;refine Dr.l (λhE h=>C.Hy R6 rfl h) ?_;refine Hb ?_;refine Ch.m 11 (aY λe aa hk=>?_);refine C.al rfl (λb5=>hk _ _ .cons ?_);refine Ch.m 12 (aY λe aa hk=>?_);refine C.tL rfl (hk _ undef ?_);refine zI ?_;cases ZA:(aB s.done m.tx)
  ·refine C.dx (cW 47 0 8++[(46,8)]++[(55,9),(56,10)]++[(7,11)]++[(8,13)]) 14 [11,12] 1 ?_;refine nH ?_;refine Dr.l (λhE h=>C.Hy ZA rfl h) ?_;refine Hb ?_;refine Ch.m 11 (aY λe aa hk=>?_);refine C.al rfl (λb7=>hk _ _ .cons ?_);refine Ch.m 12 (aY λe aa hk=>?_);refine C.tL rfl (hk _ undef ?_);refine Ch.fin ?_;refine lI ?_;refine C.cu (X:=Nat) (λi=>[(0,ay b),(3,ay b3),(4,ay b4),(65,m.so.v),(66,aD m.ops.length),(67,aD i)]) (λi=>da b4 (.cells #[aD 3,aD 0,aD m.bq,aD m.tx,.bool false,.slice none 0 0,.slice none 0 0] 159 (0,0))::nM b3 m::L1 b s lg wt ot tm bv bl bp bd be bu tl (bD I::F)) (λi=>i<=m.ops.length/\∀ j (hj:j<m.ops.length),j<i->aB s.aX m.ops[j].k=none) (λi=>m.ops.length-i) 0 ⟨rfl,rfl,rfl,rfl,rfl,rfl,trivial⟩ ⟨eW _,λj _ hj=>absurd hj (Nat.not_lt_zero _)⟩ ?_;rintro i e ⟨hi,m7⟩ ih;refine bH ?_;refine C.cmp rfl (λVB=>?_) (λVB=>?_)
   ·refine bH ?_;have ee:i<m.ops.length:=by simpa using VB
    refine bH ?_;refine C.xR rfl (λhj=>?_);refine C.al rfl (λZy=>?_);refine C.tL rfl ?_ (hv:=λv h=>iD.one (f:=cS) m.ops[i] v (by simpa using h));refine C.go ?_;cases h79:(aB s.aX (m.ops[i]'ee).k)
    ·refine C.dx (cW 72 0 8++[(71,8)]++[(80,9),(81,10)]++[(11,11),(12,12)]) 13 [] 0 ?_;refine nH ?_;refine Dr.l (λhE h=>C.Hy h79 rfl h) ?_;refine zw5 ?_;refine Ch.fin ?_;refine oT ?_;refine again ih (i+1) ⟨ee,λj hj RY=>?_⟩ ai;rcases Jv.1 RY with h|rfl
     ·exact m7 j hj h
     ·exact h79
    ·rename_i w79;refine C.dx (cW 72 0 8++[(71,8)]++[(80,9),(81,10)]++[(11,11),(12,12)]) 13 [] 0 ?_;refine nH ?_;refine Dr.l (λhE h=>C.Hx h79 rfl h) ?_;refine zw5 ?_;refine zI ?_;refine dk.cls s ?_;refine dK ?_;refine C.fF (gC (s:=s) (m:=⟨vD m.toMsgR,aR,aR⟩) ai) ?_;rintro v aP rfl;refine sB ?_;refine C.cm aT ak ⟨I,{s with out:=s.out++[⟨{vD m.toMsgR with bq:=s.me},aR,aR⟩]},Sub.refl _,hJ.outs (kG.nil I _ rfl rfl),?_,hC.same rfl rfl,rfl⟩;rw[show fV s.abs m.toMsgR=_ from(FZ (jP R6) ZA).trans (aG (oZ.2 ⟨_,dp ee,by show(aB s.aX (m.ops[i]'ee).k).isSome=true;rw[h79];rfl⟩))];simp[ff,di.abs]
   ·refine bH ?_;have LB:m.ops.any (λo=>(aB s.aX o.k).isSome)=false:=by rw[List.any_eq_false];intro o ho;obtain⟨j,hj,rfl⟩:=mN ho;rw[m7 j hj ai];decide
    have AJ:ShJ I (F0 s m):=(hJ.logs (e:=.cg m.tx m.bq m.ops m.so) ⟨hM.o,hO.2⟩).hold hM.o;refine dk.cls s ?_;refine C.A4 (cW 87 0 18) 18 [16,17] 2 ?_ (W:=[nM b3 m,bD I]);refine mX ?_;refine NC ?_;refine Dr.p (λh=>C.mi rfl h) ?_;refine Dr.chain rfl ?_ (λ_ s=>cV.sat cV.au s);refine Ch.m 16 (aY λe aa hk=>?_);refine C.cE (om (s:=s) (en:=.cg m.tx m.bq m.ops m.so) ai) ?_;refine cr ?_;refine hk _ _ pU ?_;refine Ch.m 17 (aY λe aa hk=>?_);refine C.fF (Ip (s:={s with log:=s.log++[.cg m.tx m.bq m.ops m.so]}) hM.o hO) ?_;rintro v aP rfl;refine cr ?_;refine hk _ _ pU ?_;refine zI ?_;refine C.fF (zT (s:=F0 s m) hM.o hO) ?_;rintro v aP ⟨Tx,rfl,rfl⟩;refine Ky ?_;refine C.fF (iY (s:=F0 s m) (m:=⟨{vD m.toMsgR with yes:=true,reads:=iF s.values m.ops},aR,Tx⟩) (by show s.waits.length<_;omega)) ?_;rintro v aP rfl;refine tV ?_;refine C.fF (kB (ticks:=3) (s:=Qk s m Tx) (by show s.timers.length<_;omega) (by show 0<=s.order/\s.order<_;omega) (by show 0<=s.clock/\s.clock<_;omega) (by decide)) ?_;rintro v aP rfl;refine sB ?_;refine At.O9 (I:=I) (s:=Tx) (f:=cX) Fo.au Fo.au λI1 iK XA=>?_;refine C.eJ aT ak ⟨I1,jT (Qk s m Tx) m.tx 3 false,iK,?_,?_,⟨by have:=hC.z;omega,by have:=hC.o;show 0<=s.order+1/\s.order+1<=o+1;omega,λu hu p hp=>by have:=hC.a u hu p hp;omega⟩,rfl⟩
    ·have h1:=(AJ.mono iK).wait (m:=⟨{vD m.toMsgR with bq:=s.me,yes:=true,reads:=iF s.values m.ops},aR,Tx⟩) ⟨.nil ..,XA,by first|exact abA|exact hzm⟩;exact⟨h1.log,h1.pend,h1.bY,h1.waits,h1.out⟩
    ·rw[show fV s.abs m.toMsgR=_ from(FZ (jP R6) ZA).trans (ax (by show¬ m.ops.any (λo=>(aB s.aX o.k).isSome)=true;rw[LB];decide))];rw[nL,Mg]
  ·rename_i w54;refine C.dx (cW 47 0 8++[(46,8)]++[(55,9),(56,10)]++[(7,11)]++[(8,13)]) 14 [11,12] 1 ?_;refine nH ?_;refine Dr.l (λhE h=>C.Hx ZA rfl h) ?_;refine Hb ?_;refine Ch.m 11 (aY λe aa hk=>?_);refine C.al rfl (λb7=>hk _ _ .cons ?_);refine Ch.m 12 (aY λe aa hk=>?_);refine C.tL rfl (hk _ undef ?_);refine Xf ?_;refine C.Vl rfl (λhd=>?_) (λhd=>?_)
   ·refine dK ?_;refine dk.cls s ?_;refine C.cm aT ak ⟨I,s,Sub.refl _,hJ,?_,hC.same rfl rfl,rfl⟩;rw[show fV s.abs m.toMsgR=_ from(zX (jP R6) ZA).trans (aG hd)]
   ·refine dK ?_;refine dk.cls s ?_;refine dK ?_;refine C.fF (gC (s:=s) (m:=⟨vD m.toMsgR,aR,aR⟩) ai) ?_;rintro v aP rfl;refine sB ?_;refine C.cm aT ak ⟨I,{s with out:=s.out++[⟨{vD m.toMsgR with bq:=s.me},aR,aR⟩]},Sub.refl _,hJ.outs (kG.nil I _ rfl rfl),?_,hC.same rfl rfl,rfl⟩;rw[show fV s.abs m.toMsgR=_ from(zX (jP R6) ZA).trans (ax (by rw[hd];decide))];simp[ff,di.abs]
 ·rename_i w26;refine C.dx (cW 19 0 8++[(18,8)]++[(27,9),(28,10)]++[(5,11)]++[(6,13)]) 14 [11,12] 1 ?_;refine nH ?_;refine Dr.l (λhE h=>C.Hx R6 rfl h) ?_;refine Hb ?_;refine Ch.m 11 (aY λe aa hk=>?_);refine C.al rfl (λb5=>hk _ _ .cons ?_);refine Ch.m 12 (aY λe aa hk=>?_);refine C.tL rfl (hk _ undef ?_);refine zI ?_;by_cases NK:w26.pl<s.aH
  ·refine C.dx (cW 30 0 7) 7 [] 0 ?_;refine pF ?_;refine Dr.p (λh=>C.fA rfl h (hf:=NK)) ?_;refine Dr.chain rfl ?_;refine oV ?_;refine dk.cls s ?_;have hpo:=hJ.pend _ (bQ R6);have hpb:=hb.abw _ _ R6;have abA:(iF s.values w26.ops).length<2^20:=yH (Cq ..) hpb.2;refine dX ?_;refine C.fF (zT (s:=s) hpo hpb) ?_;rintro v aP ⟨Tx,rfl,rfl⟩;refine Ky ?_;refine C.fF (gC (s:=s) (m:=⟨{vD m.toMsgR with yes:=true,reads:=iF s.values w26.ops},aR,Tx⟩) ai) ?_;rintro v aP rfl;refine sB ?_;refine At.O9 (I:=I) (s:=Tx) (f:=cX) Fo.au Fo.au λI1 iK XA=>?_;refine C.cm aT ak ⟨I1,{s with out:=s.out++[⟨{vD m.toMsgR with bq:=s.me,yes:=true,reads:=iF s.values w26.ops},aR,Tx⟩]},iK,(hJ.mono iK).outs ⟨.nil ..,XA,by first|exact abA|exact hzm⟩,?_,hC.same rfl rfl,rfl⟩;rw[show fV s.abs m.toMsgR=_ from(zW (pL R6)).trans (aG NK)];simp[ff,di.abs,qO.abs]
  ·refine C.dx (cW 30 0 7) 7 [] 0 ?_;refine pF ?_;refine Dr.p (λh=>C.dS rfl h (hf:=NK)) ?_;refine Dr.chain rfl ?_;refine oV ?_;refine dk.cls s ?_;refine C.cm aT ak ⟨I,s,Sub.refl _,hJ,?_,hC.same rfl rfl,rfl⟩;rw[show fV s.abs m.toMsgR=_ from(zW (pL R6)).trans (ax NK)]
theorem qm{I:HL}{so:az}{ops:List Int}(ho:fI I cX 21 so ops)(hl:ops.length<2^43):aI prog ao cH 34 #[so.v] [bD I] (λv As=>∃ s',v=s'.v/\As=[bG cX 1 21 s' ops,bD I]):=by
 refine aI.of λR C kd d F c cs aT ak=>?_;refine cr ?_;rcases ho with⟨rfl,rfl⟩|⟨pad,h1,h2⟩
 ·refine gu ?_;refine C.Vk rfl ?_ (a:=none) (len:=0) (cap:=0);refine eP ?_;refine At.aR cX 1 21 ?_;exact C.cm aT ak ⟨aR,rfl,rfl⟩
 ·have ho:fI I cX 21 so ops:=.inr ⟨pad,h1,h2⟩;have hv:so.v=.slice (some ⟨so.b,0,none⟩) so.len so.cap:=by unfold az.v;rw[show so.a=some ⟨so.b,0,none⟩from congrArg az.a h1]
  refine gu ?_;refine C.Vk rfl ?_ (a:=some ⟨so.b,0,none⟩) (len:=so.len) (cap:=so.cap) (hx:=hv);refine dK ?_;refine C.bs0 cX rfl (λb5=>?_);refine fG ?_;refine C.Vd (l:=[]) ops rfl (λs'=>?_) (hsrc:=λH st=>?_) (s:=⟨some ⟨b5,0,none⟩,0,0⟩)
  ·refine bH ?_;exact C.cm aT ak ⟨s',rfl,rfl⟩
  ·exact dZ.src (dZ.bD Fo.au ho) st (λj=>rfl)
theorem ik.J.small{I:HL}{e:ik}(h:e.J I):e.abs.aV.reads.length<2^20:=by
 cases e with
 |cg tx home ops so=>exact nl 20
 |dec tx yes reads sr=>exact h.2
 |jX tx yes=>exact nl 20
abbrev Tl(r:RecR)(so sr:az):Value:=.agg #[aD r.kind,aD r.tx,.bool r.yes,aD r.home,so.v,sr.v]
def Ty(I:HL)(e:ik):Value->List HP->Prop:=λv As=>∃ so sr:az,v=Tl e.abs.aV so sr/\As=[bG cS 3 37 so e.abs.aV.ops,bG cX 1 21 sr e.abs.aV.reads,bD I]
theorem Mh{I:HL}{tx home:Int}{ops:List bP}{so:az}(ho:fI I cS 37 so ops)(hl:ops.length<2^43):
  aI prog ao cH 255 #[(ik.cg tx home ops so).pay] [bD I] (Ty I (.cg tx home ops so)):=by
 refine aI.of λR C kd d F c cs aT ak=>?_;refine oU ?_;refine C.bx rfl (λb1=>?_);refine C.al rfl (λb2=>?_);refine C.go ?_;refine C.A4 (cW 3 0 8) 9 [6,7,8] 2 ?_ (W:=[da b1 (.cells #[aD tx,aD home,so.v] 240 (0,0))]);refine pF ?_;refine Dr.chain rfl ?_ (λ_ s=>cV.sat cV.au s);refine Ch.m 6 (aY λe aa hk=>?_);refine C.fF (uh ho hl) ?_;rintro v aP ⟨s9,rfl,rfl⟩;refine cr ?_;refine hk _ _ pU ?_;refine Ch.q 7 (λh=>C.bd rfl h) ?_;refine Ch.m 8 (aY λe aa hk=>?_);refine fG ?_;refine hk _ undef pU ?_;refine fP ?_;refine At.aR cX 1 21 ?_;exact C.S4 (xs:=#[aD 1,aD tx,.bool false,aD home,s9.v,.slice none 0 0]) (A:=[bG cS 3 37 s9 ops,bG cX 1 21 aR [],bD I]) rfl aT ak ⟨s9,aR,rfl,rfl⟩
theorem Mi{I:HL}{tx:Int}{yes:Bool}{reads:List Int}{so:az}(ho:fI I cX 21 so reads)(hl:reads.length<2^43):
  aI prog ao cH 256 #[(ik.dec tx yes reads so).pay] [bD I] (Ty I (.dec tx yes reads so)):=by
 refine aI.of λR C kd d F c cs aT ak=>?_;refine oU ?_;refine C.bx rfl (λb1=>?_);refine C.al rfl (λb2=>?_);refine C.go ?_;refine C.A4 (cW 3 0 8) 9 [6,7,8] 2 ?_ (W:=[da b1 (.cells #[aD tx,.bool yes,so.v] 243 (0,0))]);refine pF ?_;refine Dr.chain rfl ?_ (λ_ s=>cV.sat cV.au s);refine Ch.m 6 (aY λe aa hk=>?_);refine C.fF (qm ho hl) ?_;rintro v aP ⟨s9,rfl,rfl⟩;refine cr ?_;refine hk _ _ pU ?_;refine Ch.q 7 (λh=>C.bd rfl h) ?_;refine Ch.m 8 (aY λe aa hk=>?_);refine fG ?_;refine hk _ undef pU ?_;refine fP ?_;refine At.aR cS 3 37 ?_;exact C.S4 (xs:=#[aD 2,aD tx,.bool yes,aD 0,.slice none 0 0,s9.v]) (A:=[bG cS 3 37 aR [],bG cX 1 21 s9 reads,bD I]) rfl aT ak ⟨aR,s9,rfl,rfl⟩
theorem Mj{I:HL}{tx:Int}{yes:Bool}:
  aI prog ao cH 257 #[(ik.jX tx yes).pay] [bD I] (Ty I (.jX tx yes)):=by
 refine aI.of λR C kd d F c cs aT ak=>?_;refine oU ?_;refine C.bx rfl (λb1=>?_);refine C.al rfl (λb2=>?_);refine oT ?_;refine At.aR cX 1 21 (At.aR cS 3 37 ?_);exact C.S4 (xs:=#[aD 3,aD tx,.bool yes,aD 0,.slice none 0 0,.slice none 0 0]) (A:=[bG cS 3 37 aR [],bG cX 1 21 aR [],bD I]) rfl aT ak ⟨aR,aR,rfl,rfl⟩
theorem XB{v:Value}:fW prog (method (prog.types.size+Made.depth) 240 v "shardlog/shard.record")=some (255,v):=by kernel_rfl
theorem XC{v:Value}:fW prog (method (prog.types.size+Made.depth) 243 v "shardlog/shard.record")=some (256,v):=by kernel_rfl
theorem XD{v:Value}:fW prog (method (prog.types.size+Made.depth) 247 v "shardlog/shard.record")=some (257,v):=by kernel_rfl
variable{fn:bJ}{kd:Kd}{n:Nat}{e:Nat->Value}{ds:List eo}{k:List Item}{cs:List Frame}
variable{ops:Array Oper}{i:Nat}{aa:List Nat}{dst:Option Nat}{ty:aO}{pos:String}{af:Array Edge}{gd:Option (Nat×Bool)}
set_option maxRecDepth 100000 in
theorem ab.enr(C:ab prog ao cH R){recv:cZ}{gy:Array aO}{I:HL}{en:ik}(hJ:en.J I)
  (h:∀ v aP,Ty I en v aP->At R d (aP++F) (gr fn kd n (dm e dst v) ds (.inRegion ops aa::k) cs)) (ho:aZ ops i=some ⟨dst,.call ⟨.invoke recv "shardlog/shard.record",#[],gy⟩,ty,pos,af,gd⟩:=by rfl) (hr:ev n e recv=en.val:=by rfl)
  (hA:fg [bD I] As F:=by exact fg.au) (hw:aL ops n e gd=true:=by rfl):At R d As (gr fn kd n e ds (.inRegion ops (i::aa)::k) cs):=by
 cases en with
 |cg tx home ops so=>exact C.Zt XB (Mh hJ.1 (by have:=hJ.2;omega)) h ho hr rfl hA hw
 |dec tx yes reads sr=>exact C.Zt XC (Mi hJ.1 (by have:=hJ.2;omega)) h ho hr rfl hA hw
 |jX tx yes=>exact C.Zt XD Mj h ho hr rfl hA hw
theorem xq{s:ek}{m:MsgR}{d:ic}(h:aB s.bF m.tx=some d):mJ s m=if d.pl<s.aH then ff s {bK with kind:=7,to:= -1,tx:=m.tx,yes:=d.yes,reads:=((s.log[d.pl.toNat]?.map aN.aV).getD dC).reads}else s:=by unfold mJ;rw[h]
theorem Iq{s:ek}{m:MsgR}(h:aB s.bF m.tx=none)(h2:(aB s.bY m.tx).isSome=true):mJ s m=s:=by unfold mJ;rw[h];simp only[h2,eN]
def Qm(tx:Int)(z:ek)(k:Int)(p:List bP):ek:=ff z {bK with kind:=2,to:=k,tx:=tx,ops:=p}
theorem zY{s:ek}{m:MsgR}(h:aB s.bF m.tx=none)(h2:aB s.bY m.tx=none):mJ s m=jH (ru {s with bY:=bB s.bY m.tx ⟨m.ops,[],[],false,false⟩} m.ops (Qm m.tx)) m.tx 4 true:=by unfold mJ;rw[h,h2];rfl
theorem xu{b b2 b3:Nat}{x:di}{m:dM}{k:Int}{I:HL}{sp:az}{part:List bP}(hl:x.out.length<2^31):
  aI prog ao cH 177 #[aD k,sp.v,ay b2,ay b3] [dk b x,bD I,da b2 (.cells #[ay b] 125 (0,0)),nM b3 m]
   (λv As=>As=[dk b {x with out:=x.out++[⟨{bK with kind:=2,bq:=x.me,to:=k,tx:=m.tx,ops:=part},sp,aR⟩]},bD I,da b2 (.cells #[ay b] 125 (0,0)),nM b3 m]):=by
 refine aI.of λR C kd d F c cs aT ak=>?_;refine Ky ?_;refine C.fF (gC (s:=x) (m:=⟨{bK with kind:=2,to:=k,tx:=m.tx,ops:=part},sp,aR⟩) ai) ?_;rintro v aP rfl;refine sB ?_;exact C.eJ aT ak rfl
abbrev sxC(b:Nat)(s:di)(lg wt ot tm:az)(bv bl bp bd be bu:Nat):HP:=da b (.cells #[aD s.me,aD s.n,.bool s.up,lg.v,aD s.aH,.map (some bv),.map (some bl),.map (some bp),.map (some bd),.map (some be),.map (some bu),tm.v,aD s.order,aD s.clock,wt.v,ot.v] 156 (0,0))
abbrev KI(b2 b:Nat):HP:=da b2 (.cells #[ay b] 125 (0,0))
theorem ShJ.abC{I:HL}{s:di}(h:ShJ I s){tx:Int}{u:fD}(hu:DC I u):ShJ I {s with bY:=bB s.bY tx u}:=⟨h.log,h.pend,λp hp=>by
 rcases eE hp with rfl|hp
 ·exact hu
 ·exact h.bY p hp,h.waits,h.out⟩
theorem F1{I:HL}{b:Nat}{s:di}{m:dM}{o a:Int}(hJ:ShJ I s)(hb:qQ s)(hC:xn o a s)(hM:kG I m)(hO:mA m.ops):
  aI prog ao cH 139 #[ay b,rM m] [dk b s,bD I] (gD b I (o+1) (a+1) (mJ s.abs m.toMsgR)):=by
 have jL:=hb.log;have mB:=hb.out;have Xz:=hb.clock;have Ql:=hb.order;have htm:=hb.timers;have hMo:=hM.o;have Zn:=hb.n;refine aI.of λR C kd d F c cs aT ak=>?_;refine cr ?_;refine dk.opn (h:=λlg wt ot tm bv bl bp bd be bu tl ht=>?_);refine bH ?_;refine C.bx rfl (λb2=>?_);refine C.bx rfl (λb3=>?_);refine C.go ?_;cases vz:(aB s.bF m.tx)
 ·refine C.dx (cW 7 0 8++[(6,8)]++[(15,9),(16,10)]++[(4,11)]++[(5,13)]) 14 [11,12] 1 ?_;refine nH ?_;refine Dr.l (λhE h=>C.Hy vz rfl h) ?_;refine Hb ?_;refine Ch.m 11 (aY λe aa hk=>?_);refine C.al rfl (λb4=>hk _ _ .cons ?_);refine Ch.m 12 (aY λe aa hk=>?_);refine C.tL rfl (hk _ undef ?_);refine zI ?_;cases Tz:(aB s.bY m.tx)
  ·refine C.dx (cW 42 0 9) 9 [] 0 ?_;refine nH ?_;refine Dr.l (λhE h=>C.Hy Tz rfl h) ?_;refine Dr.p (λh=>C.LK rfl h) ?_;refine Dr.chain rfl ?_;refine oV ?_;refine C.A4 (cW 51 0 13) 14 [9,10,11,12,13] 4 ?_ (W:=[KI b2 b,nM b3 m,sxC b s lg wt ot tm bv bl bp bd be bu]);refine Em ?_;refine kK ?_;refine Dr.chain rfl ?_ (λ_ s=>cV.sat cV.au s);refine Ch.n2 (t:=9) (u:=10) rfl ?_ ?_
   ·refine aY λe aa hk=>?_;refine C.mm .i64 Ie rfl (λTA=>(hk _ _ .cons ?_));refine Ch.m 10 (aY λe aa hk=>?_);refine C.mm .i64 dV rfl (λTB=>(hk _ _ .cons ?_));refine Ch.q 11 (λh=>C.bd rfl h) ?_;refine Ch.m 12 (aY λe aa hk=>?_);refine C.bx rfl (λTC=>hk _ _ .cons ?_);refine Ch.m 13 (aY λe aa hk=>?_);refine C.mu (w:=fD.mk TC m.ops m.so [] TA [] TB false false) (l:=s.bY) (q:=m.tx) rfl ?_;refine hk _ undef pU ?_;refine fP ?_;refine FY (l:=s.bY) (tx:=m.tx) (fD.mk TC m.ops m.so [] TA [] TB false false) Tz fg.au ?_;refine dk.cls {s with bY:=bB s.bY m.tx (fD.mk TC m.ops m.so [] TA [] TB false false)} ?_;obtain⟨s1,gT⟩:∃ s1:di,s1={s with bY:=bB s.bY m.tx (fD.mk TC m.ops m.so [] TA [] TB false false)}:=⟨_,rfl⟩;have AJ:ShJ I s1:=by rw[gT];exact hJ.abC ⟨hMo,by simp,by simp⟩
    have KE:s1.out=s.out:=by rw[gT]
    have EY:s1.n=s.n:=by rw[gT]
    rw[<- gT];refine dX ?_;refine C.mf rfl ?_;refine C.fF (pK (f:=177) (a1:=#[]) (a2:=#[ay b2,ay b3]) (s:=s1) (I:=I) (E:=[KI b2 b,nM b3 m]) (inv:=λk x I'=>∃ o,x={s1 with out:=o}/\o.length<=s.out.length+k/\ShJ I' x) (Vy:=Qm m.tx) hMo hO (by rw[EY];exact hb.n) (λI' h=>⟨s1.out,rfl,by rw[KE];omega,AJ.mono h⟩) (λk x I' h=>by
     obtain⟨o,h1,h2,h3⟩:=h;exact⟨o,h1,ai,h3⟩) (λk x I' sp part R2 hk hinv uw eV KJ=>by
     obtain⟨o,rfl,h2,h3⟩:=hinv;refine aI.post (xu (part:=part) (by dsimp only;rw[EY]at hk;omega)) λv As h=>⟨_,I',Sub.refl _,⟨_,rfl,?_,h3.outs ⟨uw,.nil ..,by exact nl 20⟩⟩,?_,h⟩
     ·dsimp only;rw[gO,gJ];omega
     ·simp[Qm,ff,di.abs])) ?_
    rintro v aP ⟨x',I1,iK,⟨o',rfl,mq,ra⟩,lv,rfl⟩;refine tV ?_;refine C.fF (kB (ticks:=4) (s:={s1 with out:=o'}) (by rw[gT];show s.timers.length<_;omega) (by rw[gT];show 0<=s.order/\s.order<_;omega) (by rw[gT];show 0<=s.clock/\s.clock<_;omega) (by decide)) ?_;rintro v aP rfl;refine sB ?_;refine C.eJ aT ak ⟨I1,jT {s1 with out:=o'} m.tx 4 true,iK,⟨ra.log,ra.pend,ra.bY,ra.waits,ra.out⟩,?_,⟨by have:=hC.z;omega,by have:=hC.o;rw[gT];show 0<=s.order+1/\s.order+1<=o+1;omega,λu hu p hp=>?_⟩,rfl⟩
    ·rw[nL,lv,zY vz (rP Tz)]
     congr 2
     rw[gT];unfold di.abs;simp only[ek.mk.injEq,yG,o4];exact kY fD.abs s.bY
    ·rw[gT]at hu;rcases eE hu with rfl|hu
     ·cases hp
     ·have:=hC.a u hu p hp;omega
   ·refine aY λe aa hk=>?_;refine C.mm .i64 dV rfl (λTB=>(hk _ _ .cons ?_));refine Ch.m 9 (aY λe aa hk=>?_);refine C.mm .i64 Ie rfl (λTA=>(hk _ _ .cons ?_));refine Ch.q 11 (λh=>C.bd rfl h) ?_;refine Ch.m 12 (aY λe aa hk=>?_);refine C.bx rfl (λTC=>hk _ _ .cons ?_);refine Ch.m 13 (aY λe aa hk=>?_);refine C.mu (w:=fD.mk TC m.ops m.so [] TA [] TB false false) (l:=s.bY) (q:=m.tx) rfl ?_;refine hk _ undef pU ?_;refine fP ?_;refine FY (l:=s.bY) (tx:=m.tx) (fD.mk TC m.ops m.so [] TA [] TB false false) Tz fg.au ?_;refine dk.cls {s with bY:=bB s.bY m.tx (fD.mk TC m.ops m.so [] TA [] TB false false)} ?_;obtain⟨s1,gT⟩:∃ s1:di,s1={s with bY:=bB s.bY m.tx (fD.mk TC m.ops m.so [] TA [] TB false false)}:=⟨_,rfl⟩;have AJ:ShJ I s1:=by rw[gT];exact hJ.abC ⟨hMo,by simp,by simp⟩
    have KE:s1.out=s.out:=by rw[gT]
    have EY:s1.n=s.n:=by rw[gT]
    rw[<- gT];refine dX ?_;refine C.mf rfl ?_;refine C.fF (pK (f:=177) (a1:=#[]) (a2:=#[ay b2,ay b3]) (s:=s1) (I:=I) (E:=[KI b2 b,nM b3 m]) (inv:=λk x I'=>∃ o,x={s1 with out:=o}/\o.length<=s.out.length+k/\ShJ I' x) (Vy:=Qm m.tx) hMo hO (by rw[EY];exact hb.n) (λI' h=>⟨s1.out,rfl,by rw[KE];omega,AJ.mono h⟩) (λk x I' h=>by
     obtain⟨o,h1,h2,h3⟩:=h;exact⟨o,h1,ai,h3⟩) (λk x I' sp part R2 hk hinv uw eV KJ=>by
     obtain⟨o,rfl,h2,h3⟩:=hinv;refine aI.post (xu (part:=part) (by dsimp only;rw[EY]at hk;omega)) λv As h=>⟨_,I',Sub.refl _,⟨_,rfl,?_,h3.outs ⟨uw,.nil ..,by exact nl 20⟩⟩,?_,h⟩
     ·dsimp only;rw[gO,gJ];omega
     ·simp[Qm,ff,di.abs])) ?_
    rintro v aP ⟨x',I1,iK,⟨o',rfl,mq,ra⟩,lv,rfl⟩;refine tV ?_;refine C.fF (kB (ticks:=4) (s:={s1 with out:=o'}) (by rw[gT];show s.timers.length<_;omega) (by rw[gT];show 0<=s.order/\s.order<_;omega) (by rw[gT];show 0<=s.clock/\s.clock<_;omega) (by decide)) ?_;rintro v aP rfl;refine sB ?_;refine C.eJ aT ak ⟨I1,jT {s1 with out:=o'} m.tx 4 true,iK,⟨ra.log,ra.pend,ra.bY,ra.waits,ra.out⟩,?_,⟨by have:=hC.z;omega,by have:=hC.o;rw[gT];show 0<=s.order+1/\s.order+1<=o+1;omega,λu hu p hp=>?_⟩,rfl⟩
    ·rw[nL,lv,zY vz (rP Tz)]
     congr 2
     rw[gT];unfold di.abs;simp only[ek.mk.injEq,yG,o4];exact kY fD.abs s.bY
    ·rw[gT]at hu;rcases eE hu with rfl|hu
     ·cases hp
     ·have:=hC.a u hu p hp;omega
  ·rename_i w49;refine C.dx (cW 42 0 9) 9 [] 0 ?_;refine nH ?_;refine Dr.l (λhE h=>C.Hx Tz rfl h) ?_;refine Dr.p (λh=>C.LK rfl h) ?_;refine Dr.chain rfl ?_;refine oV ?_;refine dk.cls s ?_;refine C.cm aT ak ⟨I,s,Sub.refl _,hJ,?_,hC.same rfl rfl,rfl⟩;rw[Iq vz (by rw[j3 Tz];rfl)]
 ·rename_i Xy;refine C.dx (cW 7 0 8++[(6,8)]++[(15,9),(16,10)]++[(4,11)]++[(5,13)]) 14 [11,12] 1 ?_;refine nH ?_;refine Dr.l (λhE h=>C.Hx vz rfl h) ?_;refine Hb ?_;refine Ch.m 11 (aY λe aa hk=>?_);refine C.al rfl (λb4=>hk _ _ .cons ?_);refine Ch.m 12 (aY λe aa hk=>?_);refine C.tL rfl (hk _ undef ?_);refine zI ?_;obtain⟨Eh,CZ⟩:=hb.dpl _ _ vz;obtain⟨pl,dy⟩:=Xy;dsimp only at Eh CZ;obtain⟨j,rfl⟩:=lK Eh;have SS:j<s.log.length:=ai;have ZB:=hJ.log _ (dp SS);by_cases lJ:(j:Int)<s.aH
  ·refine C.dx (cW 18 0 7) 7 [] 0 ?_;refine pF ?_;refine Dr.p (λh=>C.fA rfl h (hf:=lJ)) ?_;refine Dr.chain rfl ?_;refine oV ?_;refine C.A4 (cW 25 0 17) 17 [8,11,12,13,14,15,16] 8 ?_ (W:=[KI b2 b,nM b3 m,da b4 (.cells #[aD (j:Int),.bool dy] 245 (0,0))]);refine mX ?_;refine Dr.chain rfl ?_ (λ_ s=>cV.sat cV.au s);refine Ch.m 8 (aY λe aa hk=>?_);refine C.ld rfl (hk _ _ .refl ?_);refine Ch.m 11 (aY λe aa hk=>?_);refine C.dQ rfl (hk _ _ .refl ?_);refine Ch.m 12 (aY λe aa hk=>?_);refine C.dd rfl (hk _ _ .refl ?_);refine Ch.m 13 (aY λe aa hk=>?_);refine C.enr ZB ?_;rintro v aP ⟨so,sr,rfl,rfl⟩;refine cr ?_;refine hk _ _ pU ?_;refine Ch.q 14 (λh=>C.fd (ft:=46) ⟨_,_,underlying109,rfl,rfl,rfl⟩ rfl h) ?_;refine Ch.q 15 (λh=>C.bd rfl h) ?_;refine Ch.m 16 (aY λe aa hk=>?_);refine dk.cls s ?_;refine C.fF (gC (s:=s) (m:=⟨{bK with kind:=7,to:= -1,tx:=m.tx,yes:=dy,reads:=s.log[j].abs.aV.reads},aR,sr⟩) ai) ?_;rintro v aP rfl;refine cr ?_;refine hk _ _ pU ?_;refine fP ?_;refine At.O9 (I:=I) (s:=sr) (f:=cX) Fo.au Fo.au λI1 iK Ef=>?_;refine C.cm aT ak ⟨I1,{s with out:=s.out++[⟨{bK with kind:=7,bq:=s.me,to:= -1,tx:=m.tx,yes:=dy,reads:=s.log[j].abs.aV.reads},aR,sr⟩]},iK,(hJ.mono iK).outs ⟨.nil ..,Ef,ZB.small⟩,?_,hC.same rfl rfl,rfl⟩;rw[show mJ s.abs m.toMsgR=_ from(xq vz).trans (aG lJ)];have e1:s.abs.log[(j:Int).toNat]? =some s.log[j].abs:=by simp[di.abs,SS]
   simp only[ff,di.abs,gv]at e1⊢;simp[SS]
  ·refine C.dx (cW 18 0 7) 7 [] 0 ?_;refine pF ?_;refine Dr.p (λh=>C.dS rfl h (hf:=lJ)) ?_;refine Dr.chain rfl ?_;refine oV ?_;refine dk.cls s ?_;refine C.cm aT ak ⟨I,s,Sub.refl _,hJ,?_,hC.same rfl rfl,rfl⟩;rw[show mJ s.abs m.toMsgR=_ from(xq vz).trans (ax lJ)]
theorem XE{u:mo}{n:Int}{o:bP}{l:List bP}{next:List (Int×Int)}(hw:o.w=true):iE u n (o::l) next=iE u n l next:=by conv=>lhs;unfold iE;rw[aG hw]
theorem XF{u:mo}{n:Int}{o:bP}{l:List bP}{next:List (Int×Int)}{aa:List Int}(hw:o.w=false)(h:iE u n (o::l) next=some aa):
  ∃ x KM,((aB u.bk (atR o.k n)).getD [])[((aB next (atR o.k n)).getD 0).toNat]? =some x/\iE u n l (bB next (atR o.k n) ((aB next (atR o.k n)).getD 0+1))=some KM/\aa=x::KM:=by
 unfold iE at h;rw[ax (by rw[hw];decide)]at h;dsimp only at h;split at h
 ·cases h
 ·rename_i x hx;cases hr:iE u n l (bB next (atR o.k n) ((aB next (atR o.k n)).getD 0+1))with
  |none=>rw[hr]at h;cases h
  |some r=>rw[hr]at h;exact⟨x,r,hx,rfl,(bR h).symm⟩
def vE(u:fD)(k:Int):List Int×az:=(aB u.bk k).getD ([],aR)
theorem TD(u:fD)(k:Int):((aB u.bk k).map Ie).getD (.slice none 0 0)=(vE u k).2.v:=by unfold vE;cases aB u.bk k<;>rfl
theorem Mk(u:fD)(k:Int):(aB u.abs.bk k).getD []=(vE u k).1:=by show(aB (u.bk.map λp=>(p.1,p.2.1)) k).getD []=_;rw[jk (λv:List Int×az=>v.1)];unfold vE;cases aB u.bk k<;>rfl
theorem TE{I:HL}{u:fD}(h:DC I u)(k:Int):fI I cX 21 (vE u k).2 (vE u k).1:=by
 unfold vE;cases hg:aB u.bk k with
 |none=>exact .nil ..
 |some p=>exact h.r _ (bQ hg)
theorem F3{I:HL}{u:fD}{n:Int}{rd:List Int}(hU:DC I u)(hb:mA u.ops)(hn:1<=n)(hr:mK u.abs n=some rd):
  aI prog ao cH 182 #[ay u.b,aD n] [da u.b (.cells #[u.so.v,.map (some u.mv),.map (some u.ma),.bool u.dec,.bool u.yes] 289 (0,0)),db .i64 Ie u.mv u.bk,bD I]
   (λv As=>∃ s',v=s'.v/\As=[bG cX 1 21 s' rd,da u.b (.cells #[u.so.v,.map (some u.mv),.map (some u.ma),.bool u.dec,.bool u.yes] 289 (0,0)),db .i64 Ie u.mv u.bk,bD I]):=by
 have hl:=hb.2;have hUo:=hU.o;refine aI.of λR C kd d F c cs aT ak=>?_;refine Ky ?_;refine C.mm .i64 dV rfl (λZy=>?_);refine tU ?_;refine At.aR cX 1 21 ?_;refine C.cu (X:=Nat×az×List Int×List (Int×Int)) (λx=>[(0,ay u.b),(1,aD n),(5,x.2.1.v),(6,.map (some Zy)),(14,u.so.v),(15,aD u.ops.length),(16,aD x.1)]) (λx=>bG cX 1 21 x.2.1 x.2.2.1::db .i64 dV Zy x.2.2.2::da u.b (.cells #[u.so.v,.map (some u.mv),.map (some u.ma),.bool u.dec,.bool u.yes] 289 (0,0))::db .i64 Ie u.mv u.bk::bD I::F)
  (λx=>x.1<=u.ops.length/\x.2.2.1.length<=x.1/\(∀ q v,aB x.2.2.2 q=some v->0<=v/\v<=x.1)/\∃ aa,iE u.abs n (u.ops.drop x.1) x.2.2.2=some aa/\x.2.2.1++aa=rd) (λx=>u.ops.length-x.1) (0,aR,[],[]) ⟨rfl,rfl,rfl,rfl,rfl,rfl,rfl,trivial⟩ ⟨eW _,e8 _,λq v h=>(nomatch h),rd,hr,rfl⟩ ?_
 rintro⟨i,s1,ou,nx⟩ e ⟨hi,sO,Qn,aa,rl,iw⟩ ih;dsimp only at hi sO Qn rl iw⊢;refine bH ?_;refine C.cmp rfl (λVz=>?_) (λVz=>?_)
 ·refine bH ?_;have ee:i<u.ops.length:=by simpa using Vz
  have Fu:=hb.1 _ (dp ee);rw[o3 ee]at rl;refine bH ?_;refine C.xR rfl (λhj=>?_);refine C.al rfl (λb8=>?_);refine C.tL rfl ?_ (hv:=λv h=>iD.one (f:=cS) u.ops[i] v (by simpa using h));refine dX ?_;generalize hw:u.ops[i].w=z;rcases nj z with rfl|rfl
  ·refine gU ?_;rw[XE hw]at rl;exact again ih (i+1,s1,ou,nx) ⟨ee,dq,λq v h=>by have:=Qn q v h;dsimp only;omega,aa,rl,iw⟩ (dq)
  ·refine dK ?_;obtain⟨x,KM,hx,oD,rfl⟩:=XF hw rl;obtain⟨j,hj⟩:∃ j:Nat,(aB nx (atR u.ops[i].k n)).getD 0=j/\j<=i:=by
    cases hg:aB nx (atR u.ops[i].k n)with
    |none=>exact⟨0,rfl,eW _⟩
    |some v=>
     obtain⟨j,rfl⟩:=lK (Qn _ _ hg).1;have:=(Qn _ _ hg).2;exact⟨j,rfl,ai⟩
   obtain⟨hj,RY⟩:=hj;rw[hj,Mk,gv]at hx;obtain⟨SS,hxe⟩:=dG.1 hx;have afd:=TD u (atR u.ops[i].k n);have XG:=uj nx (atR u.ops[i].k n);have ZC:=TE hU (atR u.ops[i].k n);rw[hj]at XG oD;refine dX ?_;refine C.cE (wG (key:=u.ops[i].k) (n:=n) Fu hn) ?_;refine qY ?_;refine bH ?_;refine C.dx (cW 27 0 14++[(5,14)]) 15 [12,13,14] 1 ?_;refine pF ?_;refine Dr.l (λhE h=>C.Fh afd rfl h) ?_;refine kD ?_;refine Dr.l (λhE h=>C.Fh XG rfl h) ?_;refine A5 ?_;refine Ch.m 12 (aY λe aa hk=>?_);refine C.AV rfl (λb39=>hk _ _ .cons ?_);refine Ch.m 13 (aY λe aa hk=>?_);refine C.BI (s:=s1) (l:=ou) (vE u (atR u.ops[i].k n)).1[j] rfl (λs2=>?_);refine hk _ _ ?_;refine Ch.q 14 (λh=>C.oR rfl h) ?_;refine Ch.fin ?_;refine dX ?_;refine C.Fh XG rfl ?_;refine C.ar rfl ?_ (r:=((j:Int)+1));refine C.mu (w:=(j:Int)+1) (l:=nx) (q:=atR u.ops[i].k n) rfl ?_;refine eP ?_;refine again ih (i+1,s2,ou++[(vE u (atR u.ops[i].k n)).1[j]],bB nx (atR u.ops[i].k n) ((j:Int)+1)) ⟨ee,by simp;omega,λq v h=>?_,KM,oD,by rw[hxe,sN];exact iw⟩ (dq);rw[fK]at h;by_cases e:q=atR u.ops[i].k n
   ·rw[aG e]at h;obtain rfl:=bR h;dsimp only;omega
   ·rw[ax e]at h;have:=Qn q v h;dsimp only;omega
 ·refine gu ?_;have Qo:u.ops.drop i=[]:=ni (by simp at Vz;omega);rw[Qo]at rl;obtain rfl:=bR rl;rw[l7]at iw;subst iw;exact C.cm aT ak ⟨s1,rfl,rfl⟩
def vtS(tx:Int)(yes:Bool)(z:ek)(k:Int)(_:List bP):ek:=iP z {bK with kind:=4,to:=k,tx:=tx,yes:=yes}
def Ep(u:mo)(m:MsgR):mo:=if m.yes&& !(aB u.bk m.bq).isSome then{u with bk:=bB u.bk m.bq m.reads}else u
def lz(u:mo)(n:Int)(m:MsgR):Bool:=m.yes&&decide ((Ep u m).bk.length<(dA (Ep u m).ops n).length)
def Qp(s:ek)(m:MsgR)(u1:mo)(rd:List Int):ek:=
 iP (ru {s with bY:=bB s.bY m.tx {u1 with dec:=true,yes:=m.yes},log:=s.log++[.dec m.tx m.yes rd],bF:=bB s.bF m.tx ⟨s.log.length,m.yes⟩} u1.ops (vtS m.tx m.yes)) {bK with kind:=7,to:= -1,tx:=m.tx,yes:=m.yes,reads:=rd}
def zZ(s:ek)(m:MsgR):Prop:=∀ u,aB s.bY m.tx=some u->u.dec=false->m.yes=true->lz u s.n m=false->∃ rd,mK (Ep u m) s.n=some rd/\rd.length<2^20
theorem Ir{s:ek}{m:MsgR}(h:aB s.bY m.tx=none):qD s m=s:=by unfold qD;rw[h]
theorem qn{s:ek}{m:MsgR}{u:mo}(h:aB s.bY m.tx=some u):qD s m=if u.dec then s else if lz u s.n m then{s with bY:=bB s.bY m.tx (Ep u m)}else Qp s m (Ep u m) (if m.yes then(mK (Ep u m) s.n).getD []else[]):=by unfold qD;rw[h];rfl
theorem z9{b b2 b3:Nat}{x:di}{m:dM}{k:Int}{I:HL}{sp:az}(hl:x.waits.length<2^31):
  aI prog ao cH 183 #[aD k,sp.v,ay b2,ay b3] [dk b x,bD I,KI b2 b,nM b3 m]
   (λv As=>As=[dk b {x with waits:=x.waits++[⟨{bK with kind:=4,bq:=x.me,to:=k,tx:=m.tx,yes:=m.yes},aR,aR⟩]},bD I,KI b2 b,nM b3 m]):=by
 refine aI.of λR C kd d F c cs aT ak=>?_;refine Vu ?_;refine C.fF (iY (s:=x) (m:=⟨{bK with kind:=4,to:=k,tx:=m.tx,yes:=m.yes},aR,aR⟩) ai) ?_;rintro v aP rfl;refine sB ?_;exact C.eJ aT ak rfl
abbrev Cr(u:fD)(vs:List (Int×(List Int×az))):fD:={u with bk:=vs}
def NL(u:fD)(m:dM):List (Int×(List Int×az)):=if m.yes&& !(aB u.bk m.bq).isSome then bB u.bk m.bq (m.reads,m.sr)else u.bk
theorem vF(u:fD)(m:dM):(Cr u (NL u m)).abs=Ep u.abs m.toMsgR:=by
 unfold Ep NL;have e:(aB u.abs.bk m.bq).isSome=(aB u.bk m.bq).isSome:=by show(aB (u.bk.map λp=>(p.1,p.2.1)) m.bq).isSome=_;rw[jk (λv:List Int×az=>v.1)];cases aB u.bk m.bq<;>rfl
 rw[e];split
 ·simp only[fD.abs,Cr];rw[kY (λv:List Int×az=>v.1)]
 ·rfl
theorem KN{I:HL}{u:fD}{m:dM}(h:DC I u)(hm:kG I m):DC I (Cr u (NL u m)):=by
 refine⟨h.o,λv hv=>?_,λv hv=>?_⟩
 ·unfold NL at hv;dsimp only at hv;split at hv
  ·rcases eE hv with rfl|hv
   ·exact hm.r
   ·exact h.r v hv
  ·exact h.r v hv
 ·unfold NL at hv;dsimp only at hv;split at hv
  ·rcases eE hv with rfl|hv
   ·exact hm.z
   ·exact h.z v hv
  ·exact h.z v hv
abbrev sxU(b:Nat)(s:di)(tx:Int)(lg wt ot tm:az)(bv bl bp bd be bu:Nat)(tl:List kz)(F:List HP):List HP:=
 sxC b s lg wt ot tm bv bl bp bd be bu::bG oO 1 238 lg s.log::db .u8 fC bv s.values::db .u8 dV bl s.aX::db .i64 uf bp s.pend::db .i64 pJ bd s.done::db .i64 pJ be s.bF::db .i64 wF bu s.bY::all ((dT s.bY tx).map qP)::
  bG sE 4 229 tm tl::bG dt 7 159 wt s.waits::bG dt 7 159 ot s.out::F
theorem Aa{u:fD}{m:dM}{n:Int}{vs:List (Int×(List Int×az))}(A0:vs=NL u m)(hy:m.yes=true):lz u.abs n m.toMsgR=decide (vs.length<(dA u.ops n).length):=by unfold lz;rw[<- vF,<- A0];simp only[hy,Bool.true_and,fD.abs,Cr,dW]
theorem XH{u:fD}{m:dM}(hy:m.yes=false):NL u m=u.bk:=by unfold NL;rw[hy];rfl
theorem KO(u:mo)(m:MsgR):(Ep u m).ops=u.ops:=by unfold Ep;split<;>rfl
theorem Is{I:HL}{b:Nat}{s:di}{m:dM}{o a:Int}(hJ:ShJ I s)(hb:qQ s)(hC:xn o a s)(hM:kG I m)(hV:zZ s.abs m.toMsgR):
  aI prog ao cH 141 #[ay b,rM m] [dk b s,bD I] (gD b I (o+1) (a+1) (qD s.abs m.toMsgR)):=by
 have jL:=hb.log;have R4:=hb.waits;have Zn:=hb.n;refine aI.of λR C kd d F c cs aT ak=>?_;refine cr ?_;refine dk.opn (h:=λlg wt ot tm bv bl bp bd be bu tl ht=>?_);refine bH ?_;refine C.bx rfl (λb2=>?_);refine C.bx rfl (λb3=>?_);refine C.go ?_;cases sF:(aB s.bY m.tx)
 ·refine C.dx (cW 8 0 8++[(4,8)]) 9 [] 0 ?_;refine nH ?_;refine Dr.l (λhE h=>C.Hy sF rfl h) ?_;refine xT ?_;refine Ch.fin ?_;refine lI ?_;refine fG ?_;refine dk.cls s ?_;refine C.cm aT ak ⟨I,s,Sub.refl _,hJ,(Ir (rP sF)).symm,hC.same rfl rfl,rfl⟩
 ·rename_i oq;refine C.dx (cW 8 0 8++[(4,8)]) 9 [] 0 ?_;refine nH ?_;refine Dr.l (λhE h=>C.Hx sF rfl h) ?_;refine xT ?_;refine fP ?_;refine vC sF Fo.au ?_;have dR:=bQ sF;have cN:=hb.Xw _ dR;have Qj:=hJ.bY _ dR;have qX:=Qj.o;refine gU ?_;refine C.Vl rfl (λhd=>?_) (λhd=>?_)
  ·refine dK ?_;refine iz oq fg.au ?_;rw[gM sF];refine dk.cls s ?_;refine C.cm aT ak ⟨I,s,Sub.refl _,hJ,?_,hC.same rfl rfl,rfl⟩;rw[show qD s.abs m.toMsgR=_ from(qn (j3 sF)).trans (aG hd)]
  ·refine gu ?_;apply mj (X:=az×List Int×List (Int×(List Int×az))×HL) (λx=>x.2.2.1=NL oq m/\lz oq.abs s.n m.toMsgR=false/\x.2.1=(if m.yes then(mK (Ep oq.abs m.toMsgR) s.n).getD []else[])/\Sub I x.2.2.2/\fI x.2.2.2 cX 21 x.1 x.2.1/\x.2.1.length<2^20) (λx=>[(2,ay b2),(3,ay b3),(4,ay oq.b),(5,x.1.v)]) (λx=>FT (Cr oq x.2.2.1) (KI b2 b::nM b3 m::sxU b s m.tx lg wt ot tm bv bl bp bd be bu tl (bD x.2.2.2::F))) (R:=R) (d:=d) (fn:=141) (kd:=kd) (n:=110) (ds:=[]) (cs:=c::cs)
   ·intro xv;refine bH ?_;refine C.Vl rfl (λhy=>?_) (λhy=>?_)
    ·refine bH ?_;apply mj (X:=List (Int×(List Int×az))) (λvs=>vs=NL oq m) (λ_=>[(2,ay b2),(3,ay b3),(4,ay oq.b),(5,aR.v)]) (λvs=>FT (Cr oq vs) (KI b2 b::nM b3 m::sxU b s m.tx lg wt ot tm bv bl bp bd be bu tl (bD I::F))) (R:=R) (d:=d) (fn:=141) (kd:=kd) (n:=110) (ds:=[]) (cs:=c::cs)
     ·intro L6;cases VC:(aB oq.bk m.bq)
      ·refine C.dx (cW 27 0 7++[(26,7)]++[(34,8),(35,9)]++[(6,10),(7,11)]) 12 [] 0 ?_;refine pF ?_;refine Dr.l (λhE h=>C.Hy VC rfl h) ?_;refine zw5 ?_;refine PW ?_;refine C.dx (cW 38 0 8) 9 [8] 0 ?_;refine Xg ?_;refine Ch.m 8 (aY λe aa hk=>?_);refine C.mu (w:=(m.reads,m.sr)) (l:=oq.bk) (q:=m.bq) rfl (hk _ undef ?_);refine fP ?_;refine bN L6 (bB oq.bk m.bq (m.reads,m.sr)) ?_;unfold NL;rw[hy,VC];rfl
      ·rename_i w33;refine C.dx (cW 27 0 7++[(26,7)]++[(34,8),(35,9)]++[(6,10),(7,11)]) 12 [] 0 ?_;refine pF ?_;refine Dr.l (λhE h=>C.Hx VC rfl h) ?_;refine zw5 ?_;refine PW ?_;refine bN L6 oq.bk ?_;unfold NL;rw[hy,VC];rfl
     ·rintro vs A0 e;by_cases DI:((vs.length:Nat):Int)<((dA oq.ops s.n).length:Int)
      ·refine C.dx (cW 46 0 16) 16 [13,14,15] 0 ?_;refine PZ ?_;refine Ch.m 13 (aY λe aa hk=>?_);refine C.fF (nK (n:=s.n) qX cN hb.n.1) ?_;rintro v aP ⟨bm,I1,pm,rfl,iK,R5, -,rfl⟩;refine cr ?_;have yi:pm.length=(dA oq.ops s.n).length:=by rw[<- R5];unfold xm;rw[dW]
       refine hk _ _ ?_;refine Ch.m 14 (aY λe aa hk=>?_);refine fG ?_;rw[yi];refine hk _ _ ?_;refine Ch.q 15 (λh=>C.fA rfl h (hf:=DI)) ?_;refine oV ?_;refine iz (Cr oq vs) fg.au ?_;rw[<- ss (g:=wF) (u1:=Cr oq vs) sF rfl];refine dk.cls {s with bY:=bB s.bY m.tx (Cr oq vs)} ?_;refine C.cm aT ak ⟨I1,{s with bY:=bB s.bY m.tx (Cr oq vs)},iK,⟨(hJ.mono iK).log,(hJ.mono iK).pend,λp hp=>?_,(hJ.mono iK).waits,(hJ.mono iK).out⟩,?_,⟨by have:=hC.z;omega,by have:=hC.o;show 0<=s.order/\s.order<=o+1;omega,λu hu p hp=>?_⟩,rfl⟩
       ·rcases eE hp with rfl|hp
        ·rw[A0];exact KN (Qj.mono iK) ⟨hM.o.mono iK,hM.r.mono iK,hM.z⟩
        ·exact(hJ.mono iK).bY p hp
       ·rw[show qD s.abs m.toMsgR=_ from(qn (j3 sF)).trans ((ax (by show¬ oq.dec=true;rw[hd];decide)).trans (aG (by show lz oq.abs s.n m.toMsgR=true;rw[Aa A0 hy];exact uJ ai)))];rw[<- vF,<- A0];simp only[di.abs,kY]
       ·rcases eE hu with rfl|hu
        ·have:=hC.a _ dR p hp;omega
        ·have:=hC.a u hu p hp;omega
      ·refine C.dx (cW 46 0 16) 16 [13,14,15] 0 ?_;refine PZ ?_;refine Ch.m 13 (aY λe aa hk=>?_);refine C.fF (nK (n:=s.n) qX cN hb.n.1) ?_;rintro v aP ⟨bm,I1,pm,rfl,iK,R5, -,rfl⟩;refine cr ?_;have yi:pm.length=(dA oq.ops s.n).length:=by rw[<- R5];unfold xm;rw[dW]
       refine hk _ _ ?_;refine Ch.m 14 (aY λe aa hk=>?_);refine fG ?_;rw[yi];refine hk _ _ ?_;refine Ch.q 15 (λh=>C.dS rfl h (hf:=DI)) ?_;refine oV ?_;have wK:lz oq.abs s.n m.toMsgR=false:=by rw[Aa A0 hy];exact qx ai
       obtain⟨rdv,abF,hrz⟩:=hV _ (j3 sF) hd hy wK;have afe:mK (Cr oq vs).abs s.n=some rdv:=by rw[A0,vF];exact abF
       refine gu ?_;refine C.fF (F3 (u:=Cr oq vs) (n:=s.n) (by rw[A0];exact KN (Qj.mono iK) ⟨hM.o.mono iK,hM.r.mono iK,hM.z⟩) cN hb.n.1 afe) ?_;rintro v aP ⟨s67,rfl,rfl⟩;refine oU ?_;refine At.O9 (I:=I1) (s:=s67) (f:=cX) Fo.au Fo.au λI2 vx aff=>?_;refine bN xv (s67,rdv,vs,I2) ⟨A0,wK,?_,iK.trans vx,aff,hrz⟩;dsimp only;rw[aG hy];have:mK (Ep oq.abs m.toMsgR) s.n=some rdv:=abF;rw[this];rfl
    ·refine bH ?_;refine bN xv (aR,[],oq.bk,I) ⟨(XH hy).symm,?_,?_,Sub.refl _,.nil ..,nl 20⟩
     ·unfold lz;have:m.toMsgR.yes=false:=hy;rw[this];rfl
     ·rw[ax (by rw[hy];decide)]
   ·rintro⟨sv,rd,vs,I1⟩ ⟨A0,qJ,iw,iK,ZC,hz⟩ e;dsimp only at A0 qJ iw iK ZC hz⊢;refine C.A4 (cW 68 0 6++[(74,7),(75,8)]) 10 [6,9] 2 ?_ (W:=[nM b3 m]);refine Em ?_;refine Dr.chain rfl ?_ (λ_ s=>cV.sat cV.au s);refine Ch.m 6 (aY λe aa hk=>?_);refine fG ?_;refine hk _ undef pU ?_;refine Ch.m 9 (aY λe aa hk=>?_);refine fG ?_;refine hk _ undef pU ?_;refine fP ?_;refine C.A4 (cW 76 0 19) 20 [4,15,18,19] 3 ?_ (W:=[KI b2 b,nM b3 m]);refine mX ?_;refine sV ?_;refine Dr.p (λh=>C.mi rfl h) ?_;refine kD ?_;refine Dr.chain rfl ?_ (λ_ s=>cV.sat cV.au s);refine Ch.n2 (t:=4) (u:=15) rfl ?_ ?_
    ·refine aY λe aa hk=>?_;refine C.ld rfl (hk _ _ .refl ?_);refine Ch.m 15 (aY λe aa hk=>?_);refine C.fF (m4 (en:=.dec m.tx m.yes rd sv) (l:=s.log) (lg:=lg) rfl ai) ?_;rintro v aP ⟨Zz,rfl,rfl⟩;refine cr ?_;refine hk _ _ pU ?_;refine Ch.q 18 (λh=>C.bd rfl h) ?_;refine Ch.m 19 (aY λe aa hk=>?_);refine C.mu (w:=ic.mk s.log.length m.yes) (l:=s.bF) (q:=m.tx) rfl ?_;refine hk _ undef pU ?_;refine fP ?_;refine C.dx (cW 95 0 7) 7 [6] 0 ?_;refine NC ?_;refine Dr.p (λh=>C.mf (v1:=[]) (v2:=[ay b2,ay b3]) rfl h) ?_;refine Dr.chain rfl ?_;refine Ch.m 6 (aY λe aa hk=>?_);refine iz {Cr oq vs with dec:=true,yes:=m.yes} fg.au ?_;rw[<- ss (g:=wF) (u1:={Cr oq vs with dec:=true,yes:=m.yes}) sF rfl];refine dk.cls {s with log:=s.log++[.dec m.tx m.yes rd sv],bF:=bB s.bF m.tx ⟨s.log.length,m.yes⟩,bY:=bB s.bY m.tx {Cr oq vs with dec:=true,yes:=m.yes}} ?_;obtain⟨s1,gT⟩:∃ s1:di,s1={s with log:=s.log++[.dec m.tx m.yes rd sv],bF:=bB s.bF m.tx ⟨s.log.length,m.yes⟩,bY:=bB s.bY m.tx {Cr oq vs with dec:=true,yes:=m.yes}}:=⟨_,rfl⟩;have AJ:ShJ I1 s1:=by
      have h0:=hJ.mono iK;have h1:=KN (Qj.mono iK) (m:=m) ⟨hM.o.mono iK,hM.r.mono iK,hM.z⟩;rw[gT];refine⟨(h0.logs (e:=.dec m.tx m.yes rd sv) ⟨ZC,hz⟩).log,h0.pend,λp hp=>?_,h0.waits,h0.out⟩;rcases eE hp with rfl|hp
      ·rw[A0];exact⟨h1.o,h1.r,h1.z⟩
      ·exact h0.bY p hp
     have KE:s1.waits=s.waits:=by rw[gT]
     have EY:s1.n=s.n:=by rw[gT]
     rw[<- gT];refine C.fF (pK (f:=183) (a1:=#[]) (a2:=#[ay b2,ay b3]) (s:=s1) (I:=I1) (E:=[KI b2 b,nM b3 m]) (inv:=λk x I'=>∃ o,x={s1 with waits:=o}/\o.length<=s.waits.length+k/\ShJ I' x) (Vy:=vtS m.tx m.yes) (qX.mono iK) cN (by rw[EY];exact hb.n) (λI' h=>⟨s1.waits,rfl,by rw[KE];omega,AJ.mono h⟩) (λk x I' h=>by
      obtain⟨o,h1,h2,h3⟩:=h;exact⟨o,h1,ai,h3⟩) (λk x I' sp part R2 hk hinv uw eV KJ=>by
      obtain⟨o,rfl,h2,h3⟩:=hinv;refine aI.post (z9 (by dsimp only;rw[EY]at hk;omega)) λv As h=>⟨_,I',Sub.refl _,⟨_,rfl,?_,h3.wait ⟨.nil ..,.nil ..,by exact nl 20⟩⟩,?_,h⟩
      ·dsimp only;rw[gO,gJ];omega
      ·simp[vtS,iP,di.abs])) ?_
     rintro v aP ⟨x',I2,vx,⟨o',rfl,mq,ra⟩,lv,rfl⟩;refine cr ?_;refine hk _ _ ?_;refine Ch.fin ?_;refine oT ?_;refine C.fF (iY (s:={s1 with waits:=o'}) (m:=⟨{bK with kind:=7,to:= -1,tx:=m.tx,yes:=m.yes,reads:=rd},aR,sv⟩) (by dsimp only;rw[EY]at mq;omega)) ?_;rintro v aP rfl;refine sB ?_;refine C.eJ aT ak ⟨I2,{s1 with waits:=o'++[⟨{bK with kind:=7,bq:=s1.me,to:= -1,tx:=m.tx,yes:=m.yes,reads:=rd},aR,sv⟩]},iK.trans vx,ra.wait (m:=⟨{bK with kind:=7,bq:=s1.me,to:= -1,tx:=m.tx,yes:=m.yes,reads:=rd},aR,sv⟩) ⟨.nil ..,ZC.mono vx,hz⟩,?_,⟨by have:=hC.z;omega,by have:=hC.o;rw[gT];show 0<=s.order/\s.order<=o+1;omega,λu hu p hp=>?_⟩,rfl⟩
     ·rw[show qD s.abs m.toMsgR=_ from(qn (j3 sF)).trans ((ax (by show¬ oq.dec=true;rw[hd];decide)).trans (ax (by show¬ lz oq.abs s.n m.toMsgR=true;rw[qJ];decide)))];have e2:s1.abs={s.abs with bY:=bB s.abs.bY m.tx {Ep oq.abs m.toMsgR with dec:=true,yes:=m.yes},log:=s.abs.log++[.dec m.tx m.yes rd],bF:=bB s.abs.bF m.tx ⟨s.abs.log.length,m.yes⟩}:=by rw[gT,<- vF,<- A0];unfold di.abs;simp only[ek.mk.injEq,yG,o4,eI,dW,gW,l6,ik.abs];exact kY fD.abs s.bY
      unfold Qp;have e3:(if m.toMsgR.yes=true then(mK (Ep oq.abs m.toMsgR) s.abs.n).getD []else[])=rd:=iw.symm;rw[e3];have e4:({s1 with waits:=o'++[⟨{bK with kind:=7,bq:=s1.me,to:= -1,tx:=m.tx,yes:=m.yes,reads:=rd},aR,sv⟩]}:di).abs=iP ({s1 with waits:=o'}:di).abs {bK with kind:=7,to:= -1,tx:=m.tx,yes:=m.yes,reads:=rd}:=by simp[iP,di.abs]
      rw[e4,lv,e2];simp only[KO];rfl
     ·rw[gT]at hu;rcases eE hu with rfl|hu
      ·have:=hC.a _ dR p hp;omega
      ·have:=hC.a u hu p hp;omega
    ·refine aY λe aa hk=>?_;refine C.fF (m4 (en:=.dec m.tx m.yes rd sv) (l:=s.log) (lg:=lg) rfl ai) ?_;rintro v aP ⟨Zz,rfl,rfl⟩;refine cr ?_;refine hk _ _ pU ?_;refine Ch.q 18 (λh=>C.bd rfl h) ?_;refine Ch.m 4 (aY λe aa hk=>?_);refine C.ld rfl (hk _ _ .refl ?_);refine Ch.m 19 (aY λe aa hk=>?_);refine C.mu (w:=ic.mk s.log.length m.yes) (l:=s.bF) (q:=m.tx) rfl ?_;refine hk _ undef pU ?_;refine fP ?_;refine C.dx (cW 95 0 7) 7 [6] 0 ?_;refine NC ?_;refine Dr.p (λh=>C.mf (v1:=[]) (v2:=[ay b2,ay b3]) rfl h) ?_;refine Dr.chain rfl ?_;refine Ch.m 6 (aY λe aa hk=>?_);refine iz {Cr oq vs with dec:=true,yes:=m.yes} fg.au ?_;rw[<- ss (g:=wF) (u1:={Cr oq vs with dec:=true,yes:=m.yes}) sF rfl];refine dk.cls {s with log:=s.log++[.dec m.tx m.yes rd sv],bF:=bB s.bF m.tx ⟨s.log.length,m.yes⟩,bY:=bB s.bY m.tx {Cr oq vs with dec:=true,yes:=m.yes}} ?_;obtain⟨s1,gT⟩:∃ s1:di,s1={s with log:=s.log++[.dec m.tx m.yes rd sv],bF:=bB s.bF m.tx ⟨s.log.length,m.yes⟩,bY:=bB s.bY m.tx {Cr oq vs with dec:=true,yes:=m.yes}}:=⟨_,rfl⟩;have AJ:ShJ I1 s1:=by
      have h0:=hJ.mono iK;have h1:=KN (Qj.mono iK) (m:=m) ⟨hM.o.mono iK,hM.r.mono iK,hM.z⟩;rw[gT];refine⟨(h0.logs (e:=.dec m.tx m.yes rd sv) ⟨ZC,hz⟩).log,h0.pend,λp hp=>?_,h0.waits,h0.out⟩;rcases eE hp with rfl|hp
      ·rw[A0];exact⟨h1.o,h1.r,h1.z⟩
      ·exact h0.bY p hp
     have KE:s1.waits=s.waits:=by rw[gT]
     have EY:s1.n=s.n:=by rw[gT]
     rw[<- gT];refine C.fF (pK (f:=183) (a1:=#[]) (a2:=#[ay b2,ay b3]) (s:=s1) (I:=I1) (E:=[KI b2 b,nM b3 m]) (inv:=λk x I'=>∃ o,x={s1 with waits:=o}/\o.length<=s.waits.length+k/\ShJ I' x) (Vy:=vtS m.tx m.yes) (qX.mono iK) cN (by rw[EY];exact hb.n) (λI' h=>⟨s1.waits,rfl,by rw[KE];omega,AJ.mono h⟩) (λk x I' h=>by
      obtain⟨o,h1,h2,h3⟩:=h;exact⟨o,h1,ai,h3⟩) (λk x I' sp part R2 hk hinv uw eV KJ=>by
      obtain⟨o,rfl,h2,h3⟩:=hinv;refine aI.post (z9 (by dsimp only;rw[EY]at hk;omega)) λv As h=>⟨_,I',Sub.refl _,⟨_,rfl,?_,h3.wait ⟨.nil ..,.nil ..,by exact nl 20⟩⟩,?_,h⟩
      ·dsimp only;rw[gO,gJ];omega
      ·simp[vtS,iP,di.abs])) ?_
     rintro v aP ⟨x',I2,vx,⟨o',rfl,mq,ra⟩,lv,rfl⟩;refine cr ?_;refine hk _ _ ?_;refine Ch.fin ?_;refine oT ?_;refine C.fF (iY (s:={s1 with waits:=o'}) (m:=⟨{bK with kind:=7,to:= -1,tx:=m.tx,yes:=m.yes,reads:=rd},aR,sv⟩) (by dsimp only;rw[EY]at mq;omega)) ?_;rintro v aP rfl;refine sB ?_;refine C.eJ aT ak ⟨I2,{s1 with waits:=o'++[⟨{bK with kind:=7,bq:=s1.me,to:= -1,tx:=m.tx,yes:=m.yes,reads:=rd},aR,sv⟩]},iK.trans vx,ra.wait (m:=⟨{bK with kind:=7,bq:=s1.me,to:= -1,tx:=m.tx,yes:=m.yes,reads:=rd},aR,sv⟩) ⟨.nil ..,ZC.mono vx,hz⟩,?_,⟨by have:=hC.z;omega,by have:=hC.o;rw[gT];show 0<=s.order/\s.order<=o+1;omega,λu hu p hp=>?_⟩,rfl⟩
     ·rw[show qD s.abs m.toMsgR=_ from(qn (j3 sF)).trans ((ax (by show¬ oq.dec=true;rw[hd];decide)).trans (ax (by show¬ lz oq.abs s.n m.toMsgR=true;rw[qJ];decide)))];have e2:s1.abs={s.abs with bY:=bB s.abs.bY m.tx {Ep oq.abs m.toMsgR with dec:=true,yes:=m.yes},log:=s.abs.log++[.dec m.tx m.yes rd],bF:=bB s.abs.bF m.tx ⟨s.abs.log.length,m.yes⟩}:=by rw[gT,<- vF,<- A0];unfold di.abs;simp only[ek.mk.injEq,yG,o4,eI,dW,gW,l6,ik.abs];exact kY fD.abs s.bY
      unfold Qp;have e3:(if m.toMsgR.yes=true then(mK (Ep oq.abs m.toMsgR) s.abs.n).getD []else[])=rd:=iw.symm;rw[e3];have e4:({s1 with waits:=o'++[⟨{bK with kind:=7,bq:=s1.me,to:= -1,tx:=m.tx,yes:=m.yes,reads:=rd},aR,sv⟩]}:di).abs=iP ({s1 with waits:=o'}:di).abs {bK with kind:=7,to:= -1,tx:=m.tx,yes:=m.yes,reads:=rd}:=by simp[iP,di.abs]
      rw[e4,lv,e2];simp only[KO];rfl
     ·rw[gT]at hu;rcases eE hu with rfl|hu
      ·have:=hC.a _ dR p hp;omega
      ·have:=hC.a u hu p hp;omega
abbrev tkA(b:Nat):Array Value:=#[.nilFunc,.func (.func 139) #[ay b] #[],.func (.func 140) #[ay b] #[],.func (.func 141) #[ay b] #[],.func (.func 142) #[ay b] #[],.func (.func 143) #[ay b] #[],.func (.func 144) #[ay b] #[]]
def tkF(k:Int):bJ:=if k=1 then 139 else if k=2 then 140 else if k=3 then 141 else if k=4 then 142 else if k=5 then 143 else 144
variable{A:List HP}
theorem ab.tkc(C:ab prog ao cH R){fo:cZ}{args:Array cZ}{gy:Array aO}{kk:Int}{a1:Array Value}{vl:List Value}{Q:Value->List HP->Prop}(hk:1<=kk/\kk<=6)(hs:aI prog ao cH (tkF kk) (a1++vl.toArray++#[]) A Q)
  (h:∀ v aP,Q v aP->At R d (aP++F) (gr fn kd n (dm e dst v) ds (.inRegion ops aa::k) cs)) (ho:aZ ops i=some ⟨dst,.call ⟨.value fo,args,gy⟩,ty,pos,af,gd⟩:=by rfl) (hv:args.toList.map (ev n e)=vl:=by rfl) (hf:ev n e fo=.func (.func (tkF kk)) a1 #[]:=by rfl)
  (hA:fg A As F:=by exact fg.au) (hw:aL ops n e gd=true:=by rfl):At R d As (gr fn kd n e ds (.inRegion ops (i::aa)::k) cs):=by
 rcases(show kk=1\/kk=2\/kk=3\/kk=4\/kk=5\/kk=6 by omega)with rfl|rfl|rfl|rfl|rfl|rfl
 ·exact C.Vb (f:=139) hs h ho hv hf hA hw
 ·exact C.Vb (f:=140) hs h ho hv hf hA hw
 ·exact C.Vb (f:=141) hs h ho hv hf hA hw
 ·exact C.Vb (f:=142) hs h ho hv hf hA hw
 ·exact C.Vb (f:=143) hs h ho hv hf hA hw
 ·exact C.Vb (f:=144) hs h ho hv hf hA hw
theorem It{I:HL}{b:Nat}{s:di}{m:dM}{o a:Int}(Hm:1<=m.kind/\m.kind<=6)(hJ:ShJ I s)(hb:qQ s)(hC:xn o a s)(hM:kG I m)(hO:m.kind=1\/m.kind=2->mA m.ops)(hV:m.kind=3->zZ s.abs m.toMsgR):
  aI prog ao cH 89 #[ay b,rM m] [dk b s,bD I] (gD b I (o+1) (a+1) (ry s.abs m.toMsgR)):=by
 have hs:aI prog ao cH (tkF m.kind) (#[ay b]++[rM m].toArray++#[]) [dk b s,bD I] (gD b I (o+1) (a+1) (ry s.abs m.toMsgR)):=by
  unfold ry;have e1:m.toMsgR.kind=m.kind:=rfl;rcases(show m.kind=1\/m.kind=2\/m.kind=3\/m.kind=4\/m.kind=5\/m.kind=6 by omega)with h|h|h|h|h|h<;>rw[e1]
  ·have e2:=hO (.inl h);rw[aG h,h];exact F1 hJ hb hC hM e2
  ·have e2:=hO (.inr h);rw[ax ai,aG h,h];exact A9 hJ hb hC hM e2
  ·rw[ax ai,ax ai,aG h,h];exact Is hJ hb hC hM (hV h)
  ·rw[ax ai,ax ai,ax ai,aG h,h];exact DG hJ hb hC
  ·rw[ax ai,ax ai,ax ai,ax ai,aG h,h];exact Mf hJ hb hC
  ·rw[ax ai,ax ai,ax ai,ax ai,ax ai,aG h,h];exact Mb hJ hb hC
 have CW:∀ x:Array Value,x=tkA b->x[0+m.kind.toNat*1]? =some (.func (.func (tkF m.kind)) #[ay b] #[]):=by rintro x rfl;rcases(show m.kind=1\/m.kind=2\/m.kind=3\/m.kind=4\/m.kind=5\/m.kind=6 by omega)with h|h|h|h|h|h<;>rw[h]<;>rfl
 refine aI.of λR C kd d F c cs aT ak=>?_;refine oU ?_;refine C.bx rfl (λb3=>?_);refine dK ?_;refine C.mf (v1:=[ay b]) (v2:=[]) rfl ?_;refine fG ?_;refine C.mf (v1:=[ay b]) (v2:=[]) rfl ?_;refine fG ?_;refine C.mf (v1:=[ay b]) (v2:=[]) rfl ?_;refine fG ?_;refine C.mf (v1:=[ay b]) (v2:=[]) rfl ?_;refine fG ?_;refine C.mf (v1:=[ay b]) (v2:=[]) rfl ?_;refine fG ?_;refine C.mf (v1:=[ay b]) (v2:=[]) rfl ?_;refine C.bda (xs:=tkA b) underlying227 rfl ?_;refine C.al rfl (λb4=>?_);refine bH ?_;refine C.dx (cW 18 0 6) 6 [5] 0 ?_;refine kD ?_;refine Dr.l (λhE h=>C.iaA underlying227 rfl h) ?_;refine Dr.l (λhE h=>C.ld rfl h (hc:=CW _ rfl)) ?_;refine xT ?_;refine Ch.m 5 (aY λe aa hk=>?_);refine C.tkc Hm hs ?_;rintro v aP ⟨I1,s',iK,ra,lv,Ml,rfl⟩;refine cr ?_;refine hk _ _ ?_;refine fP ?_;exact C.eJ aT ak ⟨I1,s',iK,ra,lv,Ml,rfl⟩
end
end Go.Sl
