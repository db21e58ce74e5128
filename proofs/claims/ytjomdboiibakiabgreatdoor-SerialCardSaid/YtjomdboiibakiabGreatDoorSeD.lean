/-
  Texts that the proof needs, joined: part 4.
-/
import Derived.Test.YtjomdboiibakiabGreatDoorSeC
set_option linter.unusedSimpArgs false
set_option linter.unusedVariables false
set_option maxHeartbeats 4000000
namespace Go.Sl
open Go.Proofs.Tryz
section
variable{T:List (List bP)}{n:Int}{P:ek}{R:ShR}{m:MsgR}
theorem dB.send(H:dB T n P R)(hm:jK T n {m with bq:=R.me}):dB T n (ff P m) (eh R m):=by
 refine{H with out:=?_,oo:=?_,kl:=λh=>(H.kl h).aS}
 ·show P.out++_=R.out++_;rw[H.out,H.me]
 ·intro x hx;rcases bS.1 hx with h|h
  ·exact H.oo x h
  ·obtain rfl:=dL.1 h;exact hm
theorem dB.wait(H:dB T n P R)(dP:R.up=true)(hm:jK T n {m with bq:=R.me}):dB T n (iP P m) (eX R m):=by
 refine{H with waits:=?_,wo:=?_,dn:=?_,kl:=λh=>(H.kl h).aS}
 ·show P.waits++_=R.waits++_;rw[H.waits,H.me]
 ·intro x hx;rcases bS.1 hx with h|h
  ·exact H.wo x h
  ·obtain rfl:=dL.1 h;exact hm
 ·intro h;have h:R.up=false:=h;rw[dP]at h;cases h
theorem dB.tu(H:dB T n P R){tx ticks:Int}{ag:Bool}(ht:(opsOf T tx).isSome=true):dB T n (jH P tx ticks ag) {R with timers:=R.timers++[⟨R.clock+ticks,ag,tx⟩]}:=by
 refine{H with timers:=?_,tt:=?_,kl:=λh=>(H.kl h).aS}
 ·show P.timers++_=R.timers++_;rw[H.timers,H.clock]
 ·intro x hx;rcases bS.1 hx with h|h
  ·exact H.tt x h
  ·obtain rfl:=dL.1 h;exact ht
theorem zq{J:ek->ShR->Prop}{ops:List bP}{f:ek->Int->List bP->ek}{g:ShR->Int->List bP->ShR}(hnP:P.n=n)(hnR:R.n=n)
  (step:∀ p r k,J p r->de ops k n=true->0<=k->k<n->J (f p k (br ops k n)) (g r k (br ops k n))) (h:J P R):J (ru P ops f) (im R ops g):=by
 rw[S6];unfold im;rw[hnP,hnR];have key:∀ (l:List Int),(∀ k∈l,0<=k/\k<n)->∀ p r,J p r->J (l.foldl (λz k=>if(br ops k n).isEmpty then z else f z k (br ops k n)) p) (l.foldl (λz k=>if(br ops k n).isEmpty then z else g z k (br ops k n)) r):=by
  intro l
  induction l with
  |nil=>intro _ p r h;exact h
  |cons k l ih=>
   intro hl p r h;rw[mE,mE];refine ih (λk hk=>hl k (fp _ hk)) _ _ ?_;have hk:=hl k (fY ..);cases he:(br ops k n).isEmpty with
   |true=>exact h
   |false=>exact step p r k h (by unfold de;rw[he];rfl) hk.1 hk.2
 exact key _ (λk hk=>rH.1 hk) P R h
theorem dB.bF(H:dB T n P R)(dP:R.up=true)(tx:Int):(aB P.bF tx=none/\aW R.log 2 tx=none)\/∃ (d:Nat) (r:RecR),aB P.bF tx=some ⟨d,r.yes⟩/\aW R.log 2 tx=some d/\R.log[d]? =some r:=by
 have:=(H.kl dP).bF tx;rw[H.log]at this;cases h:aW R.log 2 tx with
 |none=>rw[h]at this;exact .inl ⟨this,rfl⟩
 |some d=>
  obtain⟨_,r,hr,_⟩:=bX h;rw[h]at this;simp only[nh,hr,jR]at this;exact .inr ⟨d,r,this,rfl,hr⟩
theorem dB.done(H:dB T n P R)(dP:R.up=true)(tx:Int):(aB P.done tx=none/\aW R.log 3 tx=none)\/∃ (d:Nat) (r:RecR),aB P.done tx=some ⟨d,r.yes⟩/\aW R.log 3 tx=some d/\R.log[d]? =some r:=by
 have:=(H.kl dP).done tx;rw[H.log]at this;cases h:aW R.log 3 tx with
 |none=>rw[h]at this;exact .inl ⟨this,rfl⟩
 |some d=>
  obtain⟨_,r,hr,_⟩:=bX h;rw[h]at this;simp only[nh,hr,jR]at this;exact .inr ⟨d,r,this,rfl,hr⟩
theorem dB.pend(H:dB T n P R)(dP:R.up=true)(tx:Int):(aB P.pend tx=none/\bj R.log tx=none)\/∃ (d:Nat) (r:RecR) (ops:List bP),aB P.pend tx=some ⟨d,r.home,r.ops⟩/\bj R.log tx=some d/\R.log[d]? =some r/\
  opsOf T tx=some ops/\de ops R.me n=true/\r.ops=br ops R.me n/\r.home=gk ops n:=by
 have:=(H.kl dP).pend tx;rw[H.log]at this;cases h:bj R.log tx with
 |none=>rw[h]at this;exact .inl ⟨this,rfl⟩
 |some d=>
  obtain⟨_,r,hr,_⟩:=bX (dD h).2;rw[h]at this;simp only[nh,hr,jR]at this;obtain⟨ops,h1,h2,h3,h4,_⟩:=H.xa.ready (by rw[H.log];exact h) (by rw[H.log];exact hr);exact .inr ⟨d,r,ops,this,rfl,hr,h1,h2,h3,h4⟩
theorem dB.len(H:dB T n P R):P.log.length=R.log.length:=by rw[<- H.log];simp
theorem dB.Dk(H:dB T n P R)(dP:R.up=true){e:aN}{P':ek}{R':ShR}(vh:ed T n R.me (P.log++[e]))(hP:P'={P with log:=P.log++[e],aX:=P'.aX,pend:=P'.pend,done:=P'.done,bF:=P'.bF,values:=P'.values})
  (hR:R'={R with log:=R.log++[e.aV],aX:=R'.aX,bT:=R'.bT}) (RU:KL (P.log++[e]) P' R'.aX R'.bT):dB T n P' R':=by
 have e1:P'.log=P.log++[e]:=by rw[hP]
 have e2:R'.log=R.log++[e.aV]:=by rw[hR]
 have aa2:∀ tx,(aW R.log 2 tx).isSome=true->(aW R'.log 2 tx).isSome=true:=λtx h=>by
  rw[e2,dO];split
  ·rfl
  ·exact h
 have HR:R'.up=R.up:=by rw[hR]
 have LN:R'.me=R.me:=by rw[hR]
 refine⟨by rw[hP,hR];exact H.me,by rw[LN];exact H.mb,by rw[hP];exact H.n1,by rw[hR];exact H.n2,by rw[hP,hR];exact H.up,by rw[e1,e2,<- H.log];simp,by rw[LN,e1];exact vh,by rw[hP,hR];exact H.aH,?_,by rw[hP,hR];exact H.timers,by rw[hP,hR];exact H.clock,by rw[hP,hR];exact H.waits,by rw[hP,hR];exact H.out,by rw[hR];exact H.wo,by rw[hR];exact H.oo,by rw[hR];exact H.tt,λ_=>by rw[e1];exact RU,λh=>?_,λh=>?_,λh u hu hd=>aa2 _ (H.ud dP u (by rw[hR]at hu;exact hu) hd),λh=>?_⟩
 ·have hg:=H.gl;rw[e2];have:R'.aH=R.aH:=by rw[hR]
  rw[this];simp;omega
 ·rw[hP];exact H.un dP
 ·rw[LN,hP,hR];exact H.bY dP
 ·rw[HR,dP]at h;cases h
theorem LO(H:dB T n P R)(hT:vg T)(hn:0<n)(dP:R.up=true)(hm:jK T n m)(hk:m.kind=1)(uA:m.to=R.me):dB T n (mJ P m) (kT R m):=by
 obtain⟨ops,ho,hc⟩:=hm;have hc:m.bq= -1/\m.to=gk ops n/\m.ops=ops:=by rcases hc with h|h|h|h|h|h|h<;>first|exact h.2|exact⟨h.2.1,h.2.2.1⟩|(have:=h.1;omega)
 obtain⟨h1,h2,h3⟩:=hc;unfold mJ kT;rcases H.bF dP m.tx with⟨d1,d2⟩|⟨d,r,d1,d2,d3⟩
 ·rw[d1,d2];simp only;rcases pC (H.bY dP) m.tx with⟨u1,u2⟩|⟨i,a,u,u1,u2,_⟩
  ·rw[u1,u2];simp only[Lg,gn,eR];have hu:lh T n R.me (m.tx,⟨m.ops,[],[],false,false⟩) ⟨m.tx,m.ops,[],false,false,[]⟩:=⟨rfl,⟨rfl,rfl,rfl,λk=>rfl,by simp,by simp,λk=>rfl,by simp,by simp,by simp⟩,by rw[h3];exact ho,by rw[h3,<- h2];exact uA⟩;have hud:∀ u∈R.under++[(⟨m.tx,m.ops,[],false,false,[]⟩:fO)],u.dec=true->(aW R.log 2 u.tx).isSome=true:=λu hu hd=>by
    rcases bS.1 hu with h|h
    ·exact H.ud dP u h hd
    ·obtain rfl:=dL.1 h;cases hd
   have H1:dB T n {P with bY:=bB P.bY m.tx ⟨m.ops,[],[],false,false⟩} {R with under:=R.under++[⟨m.tx,m.ops,[],false,false,[]⟩]}:=
    {H with kl:=λh=>(H.kl h).aS,dn:=λh=>absurd (dP.symm.trans h:true=false) (by decide),un:=λ_=>fB (H.un dP),bY:=λ_=>S7 (H.bY dP) u2 hu,ud:=λ_=>hud}
   have key:=zq (J:=λp r=>dB T n p r/\r.me=R.me) (ops:=m.ops) (f:=λz k p=>ff z {bK with kind:=2,to:=k,tx:=m.tx,ops:=p}) (g:=λz k p=>eh z {bK with kind:=2,to:=k,tx:=m.tx,ops:=p}) H1.n1 H1.n2
    (λp r k hj ht _ _=>⟨hj.1.send ⟨ops,ho,.inr (.inl ⟨rfl,by show r.me=_;rw[hj.2,<- uA,h2],by rw[<- h3];exact ht,by show br m.ops k n=br ops k n;rw[h3]⟩)⟩,hj.2⟩) ⟨H1,rfl⟩
   exact key.1.tu (by rw[ho];rfl)
  ·rw[u1,u2];simpa using H
 ·rw[d1,d2];simp only;rw[H.aH];split
  ·have hl:(P.log[(d:Int).toNat]?.map aN.aV).getD dC=r:=by
    have:(P.log.map aN.aV)[d]? =some r:=by rw[H.log];exact d3
    rw[fH]at this;simp[this]
   rw[hl,d3,iA];exact H.send ⟨ops,ho,.inr (.inr (.inr (.inr (.inr (.inr ⟨rfl,rfl,rfl⟩)))))⟩
  ·exact H
theorem S9(H:dB T n P R)(dP:R.up=true)(hm:jK T n m)(hk:m.kind=6)(uA:m.to=R.me):dB T n (AW P m) (u6 R m):=by
 obtain⟨ops,ho,hc⟩:=hm;have hc:m.to=gk ops n/\de ops m.bq n=true:=by rcases hc with h|h|h|h|h|h|h<;>first|exact h.2|exact⟨h.2.1,h.2.2.1⟩|(have:=h.1;omega)
 have hdm:∀ (y:Bool),jK T n {({bK with kind:=4,to:=m.bq,tx:=m.tx,yes:=y}:MsgR)with bq:=R.me}:=λy=>⟨ops,ho,.inr (.inr (.inr (.inl ⟨rfl,by show R.me=_;rw[<- uA,hc.1],hc.2,rfl⟩)))⟩;unfold AW u6;rcases H.bF dP m.tx with⟨d1,d2⟩|⟨d,r,d1,d2,d3⟩
 ·rw[d1,d2];simp only;rcases pC (H.bY dP) m.tx with⟨u1,u2⟩|⟨i,a,u,u1,u2,_⟩
  ·rw[u1,u2];simp only[Lg,gn,eR];have H1:=H.Dk dP (e:=.dec m.tx false []) (P':={P with log:=P.log++[.dec m.tx false []],bF:=bB P.bF m.tx ⟨P.log.length,false⟩}) (R':={R with log:=R.log++[{dC with kind:=2,tx:=m.tx}]})
    (.dec H.xa (by rw[ho];rfl)) rfl rfl (KL.dec (tx:=m.tx) (yes:=false) (reads:=[]) (H.kl dP)).aS
   exact H1.wait dP (hdm false)
  ·rw[u1,u2];simpa using H
 ·rw[d1,d2];simp only;rw[H.aH];split
  ·rw[d3,iA];exact H.send (hdm _)
  ·exact H
theorem seen_eq{V:List Int}{vs:List (Int×Int)}(hv:∀ k,97<=k->k<=122->(aB vs k).getD 0=V[(k-97).toNat]?.getD 0){ops:List bP}(ho:∀ o∈ops,97<=o.k/\o.k<=122):iF vs ops=fe V ops:=by unfold iF fe;refine List.map_congr_left λo h=>?_;have:=ho o (gI.1 h).1;exact hv _ this.1 this.2
theorem BW(V:List Int)(ops:List bP):(fe V ops).length=Kl ops:=by simp[fe,Kl]
theorem Ft(H:dB T n P R)(hT:vg T)(dP:R.up=true)(hm:jK T n m)(hk:m.kind=2)(uA:m.to=R.me):dB T n (fV P m) (gQ R m):=by
 obtain⟨ops,ho,hc⟩:=hm;have hc:m.bq=gk ops n/\de ops m.to n=true/\m.ops=br ops m.to n:=by rcases hc with h|h|h|h|h|h|h<;>first|exact h.2|exact⟨h.2.1,h.2.2.1⟩|(have:=h.1;omega)
 obtain⟨h1,h2,h3⟩:=hc;rw[uA]at h2 h3;have hr:=hT.of ho;have Fu:∀ o∈m.ops,97<=o.k/\o.k<=122:=by rw[h3];exact hr.key
 have m7:jK T n {({bK with kind:=3,to:=m.bq,tx:=m.tx}:MsgR)with bq:=R.me}:=⟨ops,ho,.inr (.inr (.inl ⟨rfl,h1,h2,(λh=>by cases h),rfl⟩))⟩;have aa3:∀ l:List Int,l.length=Kl (br ops R.me n)->jK T n {({bK with kind:=3,to:=m.bq,tx:=m.tx,yes:=true,reads:=l}:MsgR)with bq:=R.me}:=λl hl=>⟨ops,ho,.inr (.inr (.inl ⟨rfl,h1,h2,(λ_=>hl),rfl⟩))⟩;have K:=H.kl dP;unfold fV gQ;rcases H.pend dP m.tx with⟨p1,p2⟩|⟨d,r,xS,p1,p2,p3,p4,p5,p6,p7⟩
 ·rw[p1,p2];simp only;rcases H.done dP m.tx with⟨d1,d2⟩|⟨d,r,d1,d2,d3⟩
  ·rw[d1,d2];simp only;have LB:(m.ops.any λo=>(aB P.aX o.k).isSome)=m.ops.any λo=>decide (yk R.aX o.k>=0):=by
    have vW:∀ o:bP,(aB P.aX o.k).isSome=decide (yk R.aX o.k>=0):=λo=>by
     unfold yk;rw[K.lock];cases hf:R.aX.find? λh=>h.key==o.k with
     |none=>rfl
     |some h=>
      obtain⟨i,r,e1,e2,_⟩:=K.lk h (Bt hf);obtain⟨xS,e3,_⟩:=H.xa.ready e1 e2;have:=(je e3).1;simp only[jR,Option.isSome_some,iA]
      symm;simpa using this
    simp only[vW]
   rw[<- LB];split
   ·exact H.send m7
   ·rename_i AA;have zr:∀ o∈m.ops,aB P.aX o.k=none:=λo hm=>by have:¬ (aB P.aX o.k).isSome=true:=λz=>AA (oZ.2 ⟨o,hm,z⟩);simpa using this
    have e1:aW (P.log.map aN.aV) 3 m.tx=none:=by rw[H.log];exact d2
    have e0:aW (P.log.map aN.aV) 1 m.tx=none:=by unfold bj at p2;rw[d2]at p2;rw[H.log];simpa using p2
    have vh:ed T n R.me (P.log++[.cg m.tx m.bq m.ops]):=by
     have:=ed.cg H.xa ho h2 e0 e1 (λt i r x9 hi o mq o' aeP e=>by have:=K.lo t i r x9 hi o mq;have h4:=(pA K.ln).2 this;rw[<- K.lock,e,zr o' (by rw[h3];exact aeP)]at h4;cases h4)
     rw[h1,h3];exact this
    have H1:=H.Dk dP (e:=.cg m.tx m.bq m.ops) (P':=th {P with log:=P.log++[.cg m.tx m.bq m.ops]} m.tx m.bq m.ops P.log.length) (R':={R with aX:=tf R.aX m.tx m.ops,log:=R.log++[{dC with kind:=1,tx:=m.tx,home:=m.bq,ops:=m.ops}]})
     vh rfl rfl (KL.cg (P:=P) (home:=m.bq) K e0 e1 zr (by rw[h3];exact hr.nod)).aS
    have u9:iF (th {P with log:=P.log++[.cg m.tx m.bq m.ops]} m.tx m.bq m.ops P.log.length).values m.ops=fe R.bT m.ops:=seen_eq K.bT Fu;rw[u9];have H2:=H1.wait dP (m:={bK with kind:=3,to:=m.bq,tx:=m.tx,yes:=true,reads:=fe R.bT m.ops}) (aa3 _ (by rw[BW,h3]));exact H2.tu (tx:=m.tx) (ticks:=3) (ag:=false) (by rw[ho];rfl)
  ·rw[d1,d2];simp only;rw[d3,iA];split
   ·exact H
   ·exact H.send m7
 ·rw[p1,p2];simp only;rw[p3,iA];rw[H.aH];rw[ho]at p4;obtain rfl:=bR p4;split
  ·have:iF P.values r.ops=fe R.bT r.ops:=seen_eq K.bT (by rw[p6];exact hr.key);rw[this];exact H.send (aa3 _ (by rw[BW,p6]))
  ·exact H
theorem HS(H:dB T n P R)(hT:vg T)(dP:R.up=true)(hm:jK T n m)(hk:m.kind=4)(uA:m.to=R.me):dB T n (jx P m) (ju R m):=by
 obtain⟨ops,ho,hc⟩:=hm;have hc:m.bq=gk ops n/\de ops m.to n=true:=by rcases hc with h|h|h|h|h|h|h<;>first|exact h.2|exact⟨h.2.1,h.2.2.1⟩|(have:=h.1;omega)
 have hr:=hT.of ho;have W8:jK T n {({bK with kind:=5,to:=m.bq,tx:=m.tx}:MsgR)with bq:=R.me}:=⟨ops,ho,.inr (.inr (.inr (.inr (.inl ⟨rfl,hc.1,by rw[<- uA];exact hc.2,rfl⟩))))⟩;have K:=H.kl dP;have jL:=H.log;have fin:aW R.log 3 m.tx=none->∀ V',V'=(match bj R.log m.tx with|some i=>if m.yes then cA R.bT ((R.log[i]?).getD dC).ops else R.bT|none=>R.bT)->
   dB T n (qa {P with log:=P.log++[.jX m.tx m.yes]} m.tx m.yes P.log.length) {R with bT:=V',aX:=w8 R.aX m.tx,log:=R.log++[{dC with kind:=3,tx:=m.tx,yes:=m.yes}]}:=λh3 V' hV=>by
  have h3':aW (P.log.map aN.aV) 3 m.tx=none:=by rw[H.log];exact h3
  refine H.Dk dP (e:=.jX m.tx m.yes) (.jX H.xa (by rw[ho];rfl) h3') rfl rfl (KL.jX (P:=P) (yes:=m.yes) K h3' (λi r x9 hi=>?_) (by rw[H.log];exact hV)).aS;obtain⟨xS,e1,_,e2,_⟩:=H.xa.ready x9 hi;rw[e2];exact(hT.of e1).key
 unfold jx ju;rcases H.pend dP m.tx with⟨p1,p2⟩|⟨d,r,xS,p1,p2,p3,p4,p5,p6,p7⟩
 ·rw[p1,p2];simp only;rcases H.done dP m.tx with⟨d1,d2⟩|⟨d,r,d1,d2,d3⟩
  ·rw[d1,d2];simp only;split
   ·exact H
   ·have zr:w8 R.aX m.tx=R.aX:=by
     unfold w8;rw[List.filter_eq_self];intro h hh;obtain⟨i,r,e1,_⟩:=K.lk h hh;have:h.tx≠m.tx:=λe=>by rw[e,H.log,p2]at e1;cases e1
     simpa using this
    have:=fin d2 R.bT (by rw[p2]);rw[zr]at this;exact this.wait dP W8
  ·rw[d1,d2];simp only;rw[H.aH];split
   ·exact H.send W8
   ·exact H
 ·rw[p1,p2];simp only;rw[p3,iA];have:=fin (dD p2).1 (if m.yes then cA R.bT r.ops else R.bT) (by rw[p2];simp only[p3,iA]);have key:=this.wait dP W8;cases hy:m.yes with
  |true=>rw[hy]at key;exact key
  |false=>rw[hy]at key;exact key
theorem oK{u v:fO}(h:u.bk=v.bk)(n:Int):∀ (l:List bP) (used:Int->Nat),gG u n l used=gG v n l used
 |[],_=>rfl
 |o::l,used=>by
  have hv:∀ k,bU u k=bU v k:=λk=>by unfold bU;rw[h]
  unfold gG;simp only[hv,oK h n l]
theorem zt{a:mo}{b:fO}(ua:UA n a b)(kC:∀ k,de b.ops k n=true->(aB a.bk k).isSome=true):∀ (l:List bP) (next:List (Int×Int)) (used:Int->Nat),(∀ k,(aB next k).getD 0=(used k:Int))->
  (∀ k,used k+Kl (br l k n)<=Kl (br b.ops k n))->(∀ o∈l,o∈b.ops)->iE a n l next=some (gG b n l used)
 |[],_,_,_,_,_=>rfl
 |o::l,next,used,h1,h2,h3=>by
  unfold iE gG;have hp:br (o::l) (atR o.k n) n=o::br l (atR o.k n) n:=by simp[br]
  have RP:∀ k,k≠atR o.k n->br (o::l) k n=br l k n:=λk hk=>by simp[br,jl hk]
  cases hw:o.w with
  |true=>
   simp only[eN];refine zt ua kC l next used h1 (λk=>?_) λo ho=>h3 o (fp _ ho);have:=h2 k;by_cases e:k=atR o.k n
   ·subst e;rw[hp]at this;simpa[Kl,hw]using this
   ·rw[RP k e]at this;exact this
  |false=>
   simp only[gn,eR];have ho:o∈b.ops:=h3 o (fY ..);have ht:de b.ops (atR o.k n) n=true:=by
    unfold de;have:o∈br b.ops (atR o.k n) n:=by simp[br,ho]
    have eV:br b.ops (atR o.k n) n≠[]:=λe=>by rw[e]at this;cases this
    cases hh:br b.ops (atR o.k n) n with
    |nil=>exact absurd hh eV
    |cons _ _=>rfl
   obtain⟨rs,vQ⟩:=oC.1 (kC _ ht);have hlen:=(ua.vt _ (bQ vQ)).2;simp only at hlen;have hv:(bU b (atR o.k n)).map (·.reads)=some rs:=by rw[<- ua.bk];exact vQ
   rw[vQ,hv];simp only[iA,h1];have du:used (atR o.k n)<rs.length:=by have:=h2 (atR o.k n);rw[hp]at this;simp only[Kl,o6,hw,Eu,eN,jC]at this hlen;omega
   have hi:((used (atR o.k n):Nat):Int).toNat=used (atR o.k n):=ai;rw[hi,cK du];simp only[iA];rw[zt ua kC l (bB next (atR o.k n) ((used (atR o.k n):Nat)+1)) (λj=>if j=atR o.k n then used (atR o.k n)+1 else used j) (λk=>by
     rw[fK];by_cases e:k=atR o.k n
     ·simp[e]
     ·simp[e,h1]) (λk=>by
     have:=h2 k;by_cases e:k=atR o.k n
     ·subst e;rw[hp]at this;simp only[Kl,o6,hw,Eu,eN,jC]at this⊢;omega
     ·rw[RP k e]at this;simp only[ax e];exact this) λo ho=>h3 o (fp _ ho)]
   rfl
theorem Fv{a:mo}{b:fO}(ua:UA n a b)(kC:∀ k,de b.ops k n=true->(aB a.bk k).isSome=true):mK a n=some (jG b n):=by unfold mK jG;rw[ua.ops];exact zt ua kC b.ops [] (λ_=>0) (λk=>rfl) (λk=>by simp) λo h=>h
theorem PJ(H:dB T n P R)(hT:vg T)(hn:0<n)(dP:R.up=true)(hm:jK T n m)(hk:m.kind=3)(uA:m.to=R.me):dB T n (qD P m) (nB R m):=by
 obtain⟨ops,ho,hc⟩:=hm;have hc:m.to=gk ops n/\de ops m.bq n=true/\(m.yes=true->m.reads.length=Kl (br ops m.bq n)):=by rcases hc with h|h|h|h|h|h|h<;>first|exact⟨h.2.1,h.2.2.1,h.2.2.2.1⟩|(have:=h.1;omega)
 obtain⟨c1,c2,c3⟩:=hc;have hr:=hT.of ho;unfold qD nB;rcases pC (H.bY dP) m.tx with⟨u1,u2⟩|⟨i,a,u,u1,u2,u3,u4,hu⟩
 ·rw[u1,u2];exact H
 ·rw[u1,u2];simp only;rw[u3];simp only;have cN:u.ops=ops:=by have:=hu.ops;rw[u4,ho]at this;exact(bR this).symm
  by_cases hd:u.dec=true
  ·rw[aG (hu.ua.dec.trans hd),aG hd];exact H
  ·rw[ax (λz=>hd (hu.ua.dec.symm.trans z)),ax hd];have hd:u.dec=false:=by simpa using hd
   have A0:(aB a.bk m.bq).isSome=(bU u m.bq).isSome:=by rw[hu.ua.bk];simp
   rw[A0];obtain⟨a1,Np⟩:∃ a1,a1=(if(m.yes&& !(bU u m.bq).isSome)=true then{a with bk:=bB a.bk m.bq m.reads}else a):=⟨_,rfl⟩;obtain⟨v1,qV⟩:∃ v1,v1=(if(m.yes&& !(bU u m.bq).isSome)=true then{u with bk:=u.bk++[⟨m.bq,m.reads⟩]}else u):=⟨_,rfl⟩;rw[<- Np,<- qV];have qX:lh T n R.me (m.tx,a1) v1:=by
    by_cases hb:(m.yes&& !(bU u m.bq).isSome)=true
    ·rw[aG hb]at Np qV;subst Np qV;have oG:m.yes=true/\(bU u m.bq).isSome=false:=by simpa using hb
     refine⟨hu.tx,⟨hu.ua.ops,hu.ua.dec,hu.ua.yes,λk=>?_,fB hu.ua.vn,hu.ua.an,hu.ua.cy,hu.ua.ap,λp hp=>?_,hu.ua.at'⟩,hu.ops,hu.home⟩
     ·show aB (bB a.bk m.bq m.reads) k=_;rw[fK,hu.ua.bk];unfold bU;simp only;rw[N5];by_cases e:k=m.bq
      ·subst e;have:List.find? (λv=>v.bq==m.bq) u.bk=none:=by have:=oG.2;unfold bU at this;simpa using this
       simp[this]
      ·have:(m.bq==k)=false:=by simpa using λz=>e z.symm
       simp[e,this]
     ·rcases eE hp with rfl|hp
      ·show de u.ops m.bq n=true/\m.reads.length=Kl (br u.ops m.bq n);rw[cN];exact⟨c2,c3 oG.1⟩
      ·exact hu.ua.vt p hp
    ·rw[ax hb]at Np qV;subst Np qV;exact hu
   have HT:v1.ops=ops:=by rw[qV];split<;>exact cN
   have hvt:v1.tx=m.tx:=by rw[qV];split<;>exact u4
   have EM:a1.ops=ops:=qX.ua.ops.trans HT;have Kp:(m.yes&&decide (a1.bk.length<(dA a1.ops P.n).length))=(m.yes&& !n7 R.n v1.ops λk=>(bU v1 k).isSome):=by
    rw[H.n1,H.n2,EM,HT]
    congr 1
    have e1:=tQ (n:=n) (ops:=ops) qX.ua.vn (λp hp=>by have:=(qX.ua.vt p hp).1;rw[HT]at this;exact this);have e2:=sA (n:=n) (ops:=ops) (p:=λk=>(bU v1 k).isSome) hr hn;have e3:∀ k,(aB a1.bk k).isSome=(bU v1 k).isSome:=λk=>by rw[qX.ua.bk];simp
    simp only[e3]at e1;rw[<- e1]at e2;cases hA:n7 n ops λk=>(bU v1 k).isSome with
    |true=>rw[hA]at e2;have:=e2.1 rfl;simp;omega
    |false=>
      rw[hA]at e2;have:¬ (dA ops n).length<=a1.bk.length:=λz=>by have:=e2.2 z;cases this
      simp;omega
   rw[Kp];split
   ·
    exact{H with kl:=λh=>(H.kl h).aS,dn:=λh=>absurd (dP.symm.trans h:true=false) (by decide),un:=λ_=>fB (H.un dP),bY:=λ_=>Di (H.bY dP) u2 qX,ud:=λ_ w hw Ek=>by{
     rcases iL hw with h|rfl
     ·exact H.ud dP w h Ek
     ·have:w.dec=false:=by rw[qV];split<;>exact hd
      rw[this]at Ek;cases Ek}}
   ·rename_i Fw;have iw:(if m.yes=true then(mK a1 P.n).getD []else[])=if m.yes=true then jG {v1 with dec:=true,yes:=m.yes} R.n else[]:=by
     split
     ·rename_i hy;have kC:∀ k,de v1.ops k n=true->(aB a1.bk k).isSome=true:=by
       have:(n7 R.n v1.ops λk=>(bU v1 k).isSome)=true:=by rw[hy]at Fw;simpa using Fw
       rw[H.n2,HT]at this;have:=(sA hr hn).1 this;intro k hk;rw[HT]at hk;rw[qX.ua.bk];simpa using this k hk
      rw[H.n1,H.n2,Fv qX.ua kC,iA];unfold jG;exact oK (u:=v1) (v:={v1 with dec:=true,yes:=m.yes}) rfl n _ _
     ·rfl
    rw[iw];generalize ajb:(if m.yes=true then jG {v1 with dec:=true,yes:=m.yes} R.n else[])=rd;have H1:=H.Dk dP (e:=.dec m.tx m.yes rd) (P':={P with log:=P.log++[.dec m.tx m.yes rd],bF:=bB P.bF m.tx ⟨P.log.length,m.yes⟩}) (R':={R with log:=R.log++[{dC with kind:=2,tx:=m.tx,yes:=m.yes,reads:=rd}]})
     (.dec H.xa (by rw[ho];rfl)) rfl rfl (KL.dec (tx:=m.tx) (yes:=m.yes) (reads:=rd) (H.kl dP)).aS
    have aeQ:lh T n R.me (m.tx,{a1 with dec:=true,yes:=m.yes}) {v1 with dec:=true,yes:=m.yes}:=⟨qX.tx,⟨qX.ua.ops,rfl,rfl,qX.ua.bk,qX.ua.vn,qX.ua.an,qX.ua.cy,qX.ua.ap,qX.ua.vt,qX.ua.at'⟩,qX.ops,qX.home⟩;have H2:dB T n {P with bY:=bB P.bY m.tx {a1 with dec:=true,yes:=m.yes},log:=P.log++[.dec m.tx m.yes rd],bF:=bB P.bF m.tx ⟨P.log.length,m.yes⟩} {R with under:=R.under.set i {v1 with dec:=true,yes:=m.yes},log:=R.log++[{dC with kind:=2,tx:=m.tx,yes:=m.yes,reads:=rd}]}:=
     {H1 with kl:=λh=>(H1.kl h).aS,dn:=λh=>absurd (dP.symm.trans h:true=false) (by decide),un:=λ_=>fB (H.un dP),bY:=λ_=>Di (H.bY dP) u2 aeQ,ud:=λ_ w hw Ek=>by{
      rcases iL hw with h|rfl
      ·exact H1.ud dP w h Ek
      ·show(aW (R.log++[_]) 2 v1.tx).isSome=true;rw[dO,hvt];simp[isRec]}}
    have LN:∀ {r:ShR},r.me=R.me->r.me=gk ops n:=λe=>by rw[e,<- uA,c1]
    have H3:=zq (J:=λp r=>dB T n p r/\r.me=R.me/\r.up=true) (ops:=a1.ops) (f:=λz k _=>iP z {bK with kind:=4,to:=k,tx:=m.tx,yes:=m.yes}) (g:=λz k _=>eX z {bK with kind:=4,to:=k,tx:=m.tx,yes:=m.yes}) H2.n1 H2.n2
     (λp r k hj ht _ _=>⟨hj.1.wait hj.2.2 ⟨ops,ho,.inr (.inr (.inr (.inl ⟨rfl,LN hj.2.1,by rw[<- EM];exact ht,rfl⟩)))⟩,hj.2.1,hj.2.2⟩) ⟨H2,rfl,dP⟩
    have e4:(a1.ops:List bP)=v1.ops:=qX.ua.ops;rw[e4]at H3⊢;exact H3.1.wait H3.2.2 ⟨ops,ho,.inr (.inr (.inr (.inr (.inr (.inr ⟨rfl,rfl,rfl⟩)))))⟩
theorem Ta(H:dB T n P R)(hT:vg T)(hn:0<n)(dP:R.up=true)(hm:jK T n m)(hk:m.kind=5)(uA:m.to=R.me):dB T n (y7 P m) (u5 R m):=by
 obtain⟨ops,ho,hc⟩:=hm;have hc:m.to=gk ops n/\de ops m.bq n=true:=by rcases hc with h|h|h|h|h|h|h<;>first|exact h.2|exact⟨h.2.1,h.2.2.1⟩|(have:=h.1;omega)
 have hr:=hT.of ho;unfold y7 u5;rcases pC (H.bY dP) m.tx with⟨u1,u2⟩|⟨i,a,u,u1,u2,u3,u4,hu⟩
 ·rw[u1,u2];exact H
 ·rw[u1,u2];simp only;rw[u3];simp only;have cN:u.ops=ops:=by have:=hu.ops;rw[u4,ho]at this;exact(bR this).symm
  by_cases hd:u.dec=true
  case neg=>rw[aG (by rw[hu.ua.dec];simpa using hd),aG (by simpa using hd)];exact H
  case pos=>
   have n1:¬ (!a.dec)=true:=by rw[hu.ua.dec,hd];simp
   have n2:¬ (!u.dec)=true:=by rw[hd];simp
   rw[ax n1,ax n2];have Zc:0<=(aB a.cy m.bq).getD 0:=by
    cases hg:aB a.cy m.bq with
    |none=>simp
    |some c=>have:=hu.ua.ap _ (bQ hg);simp at this⊢;omega
   have qX:lh T n R.me (m.tx,{a with cy:=bB a.cy m.bq ((aB a.cy m.bq).getD 0+1)}) {u with cy:=u.cy++[m.bq]}:=by
    refine⟨hu.tx,⟨hu.ua.ops,hu.ua.dec,hu.ua.yes,hu.ua.bk,hu.ua.vn,fB hu.ua.an,λk=>?_,λp hp=>?_,hu.ua.vt,λp hp=>?_⟩,hu.ops,hu.home⟩
    ·show(aB (bB a.cy m.bq _) k).isSome=(u.cy++[m.bq]).contains k;rw[fK];by_cases e:k=m.bq
     ·subst e;simp
     ·rw[ax e,hu.ua.cy];simp[e]
    ·rcases eE hp with rfl|hp
     ·show 0<(aB a.cy m.bq).getD 0+1;omega
     ·exact hu.ua.ap p hp
    ·rcases eE hp with rfl|hp
     ·show de u.ops m.bq n=true;rw[cN];exact hc.2
     ·exact hu.ua.at' p hp
   have Kp:((bB a.cy m.bq ((aB a.cy m.bq).getD 0+1)).length=(dA a.ops P.n).length)↔(n7 R.n u.ops λk=>(u.cy++[m.bq]).contains k)=true:=by have e0:a.ops=ops:=hu.ua.ops.trans cN;rw[H.n1,H.n2,e0,cN,sA hr hn,LL qX.ua.an (λp hp=>by have:=qX.ua.at' p hp;simp only[cN]at this;exact this)];have:=qX.ua.cy;simp only at this;simp only[this]
   by_cases hA:(n7 R.n u.ops λk=>(u.cy++[m.bq]).contains k)=true
   ·rw[aG (Kp.2 hA),aG hA];have aeR:dT (bB P.bY m.tx {a with cy:=bB a.cy m.bq ((aB a.cy m.bq).getD 0+1)}) m.tx=dT P.bY m.tx:=Km _ _ _ (by rw[u1];rfl);rw[aeR];exact{H with kl:=λh=>(H.kl h).aS,dn:=λh=>absurd (dP.symm.trans h:true=false) (by decide),un:=λ_=>ny (H.un dP),bY:=λ_=>S8 (H.bY dP) u2,ud:=λ_ w hw Ek=>H.ud dP w ((ko ..).mem hw) Ek}
   ·rw[ax (λz=>hA (Kp.1 z)),ax hA];exact{H with kl:=λh=>(H.kl h).aS,dn:=λh=>absurd (dP.symm.trans h:true=false) (by decide),un:=λ_=>fB (H.un dP),bY:=λ_=>Di (H.bY dP) u2 qX,ud:=λ_ w hw Ek=>by{
     rcases iL hw with h|rfl
     ·exact H.ud dP w h Ek
     ·exact H.ud dP u (dg u3) hd}}
theorem Fx(H:dB T n P R)(hT:vg T)(hn:0<n)(dP:R.up=true)(hm:jK T n m)(uA:m.to=R.me):dB T n (ry P m) (jw R m):=by
 unfold ry jw;split
 ·rename_i h;exact LO H hT hn dP hm h uA
 split
 ·rename_i h;exact Ft H hT dP hm h uA
 split
 ·rename_i h;exact PJ H hT hn dP hm h uA
 split
 ·rename_i h;exact HS H hT dP hm h uA
 split
 ·rename_i h;exact Ta H hT hn dP hm h uA
 split
 ·rename_i h;exact S9 H dP hm h uA
 ·exact H
theorem Fy(H:dB T n P R)(dP:R.up=true):dB T n (ti P) (u7 R):=by
 unfold ti u7;refine{H with kl:=λh=>(H.kl h).aS,aH:=?_,gl:=?_,waits:=rfl,out:=?_,wo:=?_,oo:=?_,dn:=?_}
 ·show((P.log.length:Nat):Int)=(R.log.length:Nat);rw[H.len]
 ·show(0:Int)<=((R.log.length:Nat):Int)/\_;exact⟨ai,nW _⟩
 ·show P.out++P.waits=R.out++R.waits;rw[H.out,H.waits]
 ·intro x hx;cases hx
 ·intro x hx;rcases bS.1 hx with h|h
  ·exact H.oo x h
  ·exact H.wo x h
 ·intro h;have h:R.up=false:=h;rw[dP]at h;cases h
theorem BX(H:dB T n P R)(keep:Int):dB T n (nC P keep) (iV R keep):=by
 have hg:=H.gl;have hlen:=H.len;have e:P.aH+min (max keep 0) ((P.log.length:Int)-P.aH)=R.aH+(if(if keep<0 then 0 else keep)<(R.log.length:Int)-R.aH then(if keep<0 then 0 else keep)else(R.log.length:Int)-R.aH):=by rw[H.aH,hlen];split<;>split<;>omega
 unfold nC iV;simp only;rw[e];generalize hgd:R.aH+(if(if keep<0 then 0 else keep)<(R.log.length:Int)-R.aH then(if keep<0 then 0 else keep)else(R.log.length:Int)-R.aH)=g;have hb:0<=g/\g<=R.log.length:=by rw[<- hgd];split<;>split<;>omega
 refine⟨H.me,H.mb,H.n1,H.n2,rfl,?_,H.xa.init _,rfl,⟨hb.1,?_⟩,rfl,rfl,rfl,H.out,(λx hx=>by cases hx),H.oo,(λx hx=>by cases hx),(λh=>by cases h),(λh=>by cases h),(λh=>by cases h),(λh=>by cases h),λ_=>⟨rfl,rfl,rfl,rfl,rfl,rfl⟩⟩
 ·show(P.log.take g.toNat).map aN.aV=R.log.take g.toNat;rw[EC,H.log]
 ·show g<=((R.log.take g.toNat).length:Nat);rw[jS];omega
variable{me:Int}
def PK(T:List (List bP))(n me:Int)(E:List aN):aN->Prop
 |.cg tx home ops=>∃ full,opsOf T tx=some full/\de full me n=true/\home=gk full n/\ops=br full me n/\aW (E.map aN.aV) 1 tx=none/\aW (E.map aN.aV) 3 tx=none/\
    (∀ t i r,bj (E.map aN.aV) t=some i->(E.map aN.aV)[i]? =some r->∀ o∈r.ops,∀ o'∈ops,o.k≠o'.k)
 |.dec tx _ _=>(opsOf T tx).isSome=true
 |.jX tx _=>(opsOf T tx).isSome=true/\aW (E.map aN.aV) 3 tx=none
theorem ed.inv{E:List aN}{e:aN}(h:ed T n me (E++[e])):ed T n me E/\PK T n me E e:=by
 generalize hF:E++[e]=F at h;cases h with
 |nil=>simp at hF
 |cg h1 h2 h3 h4 h5 h6=>
  obtain⟨rfl,e2⟩:=N7 hF rfl;obtain rfl:=N8.1 e2;exact⟨h1,_,h2,h3,rfl,rfl,h4,h5,h6⟩
 |dec h1 h2=>
  obtain⟨rfl,e2⟩:=N7 hF rfl;obtain rfl:=N8.1 e2;exact⟨h1,h2⟩
 |jX h1 h2 h3=>
  obtain⟨rfl,e2⟩:=N7 hF rfl;obtain rfl:=N8.1 e2;exact⟨h1,h2,h3⟩
theorem wa{A:Type}{l:List A}{i:Nat}{x:A}(h:l[i]? =some x):l.take (i+1)=l.take i++[x]:=by rw[ED,h];rfl
theorem HU(log:List RecR)(kind tx:Int)(i:Nat):findD log kind tx i=aW (log.take i) kind tx:=by
 have key:∀ i,i<=log.length->findD log kind tx i=aW (log.take i) kind tx:=λi hi=>by
  unfold aW;rw[jS,xG hi]
  conv=>lhs;rw[<- sZ i log]
  exact pz _ _ _ _ _ (by rw[jS];omega)
 have over:∀ j,findD log kind tx (log.length+j)=findD log kind tx log.length:=λj=>by
  induction j with
  |zero=>rfl
  |succ j ih=>
   rw[<- Nat.add_assoc]
   conv=>lhs;unfold findD
   rw[wR ai,ih];simp
 by_cases h:i<=log.length
 ·exact key i h
 ·have e:=over (i-log.length);rw[show log.length+(i-log.length)=i by omega]at e;rw[e,key _ (e8 _),jD (e8 _),jD ai]
theorem zu(E:List aN)(P:ek):∀ k,∃ a b c d e,kW E k P={P with values:=a,aX:=b,pend:=c,done:=d,bF:=e}
 |0=>⟨_,_,_,_,_,rfl⟩
 |k+1=>by
  obtain⟨a,b,c,d,e,h⟩:=zu E P k;unfold kW;cases hg:E[k]? with
  |none=>exact⟨_,_,_,_,_,h⟩
  |some x=>
   simp only;rw[h];cases x<;>exact⟨_,_,_,_,_,rfl⟩
theorem nF(E:List RecR)(R:ShR):∀ k,∃ a b,cU E k R={R with aX:=a,bT:=b}
 |0=>⟨_,_,rfl⟩
 |k+1=>by
  obtain⟨a,b,h⟩:=nF E R k;unfold cU;simp only;cases hg:E[k]? with
  |none=>exact⟨_,_,h⟩
  |some x=>
   simp only;rw[h];split
   ·exact⟨_,_,rfl⟩
   split
   ·split
    ·split<;>exact⟨_,_,rfl⟩
    ·exact⟨_,_,rfl⟩
   ·exact⟨_,_,rfl⟩
theorem BZ(hT:vg T){E:List aN}(hE:ed T n me E)(P:ek)(R:ShR):∀ k,k<=E.length->KL (E.take k) (kW E k (iX P)) (cU (E.map aN.aV) k (cq R)).aX (cU (E.map aN.aV) k (cq R)).bT
 |0,_=>by have:=KL.start P;simpa[kW,cU,cq]using this
 |k+1,hk=>by
  have ih:=BZ hT hE P R k ai;obtain⟨x,hx⟩:∃ x,E[k]? =some x:=⟨E[k],cK ai⟩;have hl:=hE.init (k+1);rw[wa hx]at hl⊢;obtain⟨LP,Kq⟩:=hl.inv;have hlen:(E.take k).length=k:=by rw[jS];omega
  have Fs:(E.map aN.aV)[k]? =some x.aV:=by rw[fH,hx];rfl
  unfold kW cU;rw[hx,Fs];simp only;cases x with
  |cg tx home ops=>
   obtain⟨full,f1,f2,f3,f4,f5,f6,f7⟩:=Kq;have wX:(aN.cg tx home ops).aV.kind=1:=rfl;rw[aG wX];have:=ih.cg (tx:=tx) (home:=home) (ops:=ops) f5 f6 (λo ho=>by
    cases h:aB (kW E k (iX P)).aX o.k with
    |none=>rfl
    |some t=>
     rw[ih.lock]at h;have hm:=(pA ih.ln).1 h;obtain⟨i,r,h1,h2,o',h3,h4⟩:=ih.lk _ hm;exact absurd h4 (f7 t i r h1 h2 o' h3 o ho)) (by rw[f4];exact(hT.of f1).nod)
   rw[hlen]at this;exact this
  |dec tx yes reads=>
   have wX:¬ (aN.dec tx yes reads).aV.kind=1:=by simp[aN.aV]
   have LQ:¬ (aN.dec tx yes reads).aV.kind=3:=by simp[aN.aV]
   rw[ax wX,ax LQ];have:=ih.dec (tx:=tx) (yes:=yes) (reads:=reads);rw[hlen]at this;exact this
  |jX tx yes=>
   obtain⟨_,f2⟩:=Kq;have wX:¬ (aN.jX tx yes).aV.kind=1:=by simp[aN.aV]
   have LQ:(aN.jX tx yes).aV.kind=3:=rfl;rw[ax wX,aG LQ];have kZ:bj ((E.take k).map aN.aV) tx=findD (E.map aN.aV) 1 tx k:=by unfold bj;rw[f2,HU,EC];rfl
   have aa4:∀ i,bj ((E.take k).map aN.aV) tx=some i->((E.take k).map aN.aV)[i]? =(E.map aN.aV)[i]? :=λi hi=>by have:=(bX (dD hi).2).1;rw[EC,s4 (by rw[dW,hlen]at this;exact this)]
   have:=ih.jX (tx:=tx) (yes:=yes) f2 (λi r h1 h2 o ho=>by obtain⟨ops,g1,g2,g3,_⟩:=LP.ready h1 h2;rw[g3]at ho;exact(hT.of g1).key o ho) (V':=match bj ((E.take k).map aN.aV) tx with|some i=>if yes then cA (cU (E.map aN.aV) k (cq R)).bT ((((E.take k).map aN.aV)[i]?).getD dC).ops else(cU (E.map aN.aV) k (cq R)).bT|none=>(cU (E.map aN.aV) k (cq R)).bT) rfl
   rw[hlen]at this;have e1:y5 (E.map aN.aV) (aN.jX tx yes).aV.tx k=bj ((E.take k).map aN.aV) tx:=kZ.symm;have e2:(aN.jX tx yes).aV.yes=yes:=rfl;rw[e1,e2];cases hq:bj ((E.take k).map aN.aV) tx with
   |none=>rw[hq]at this;exact this
   |some i=>
    rw[hq]at this;simp only at this⊢;rw[aa4 i hq]at this;cases yes with
    |false=>exact this
    |true=>exact this
theorem Fz(l:List Int):∀ (P:ek),l.foldl (λz tx=>jH z tx 3 false) P={P with timers:=P.timers++l.map λtx=>⟨P.clock+3,false,tx⟩}:=by
 induction l with
 |nil=>intro P;simp
 |cons x l ih=>intro P;rw[mE,ih];simp[jH]
theorem B1(n:Int):(upto n).Pairwise (· < ·):=by unfold upto;rw[JB];exact List.pairwise_lt_range.imp λh=>Int.ofNat_lt.2 h
theorem Dl(hT:vg T){E:List aN}(hE:ed T n me E){pend:List (Int×y6)}(hn:(pend.map (·.1)).Nodup)(hp:∀ tx,aB pend tx=(bj (E.map aN.aV) tx).bind λi=>((E.map aN.aV)[i]?).map λr=>⟨i,r.home,r.ops⟩):
  jI (pend.map (·.1))=(upto 60).filter λtx=>(bj (E.map aN.aV) tx).isSome:=by
 have s1:(jI (pend.map (·.1))).Pairwise (· <= ·):=by have:=N9 (le:=λ(a b:Int)=>decide (a<=b)) (λa b c=>by simp;omega) (λa b=>by simp;omega) (pend.map (·.1));exact this.imp λh=>by simpa using h
 have s2:((upto 60).filter λtx=>(bj (E.map aN.aV) tx).isSome).Pairwise (· < ·):=(B1 60).sublist Jy;have aa5:=Oa (pend.map (·.1)) (λ(a b:Int)=>decide (a<=b));refine UE (le:=(· <= ·)) (λa b _ _ h1 h2=>by omega) s1 (s2.imp λh=>by omega) ?_;refine(List.perm_ext_iff_of_nodup (aa5.nodup_iff.2 hn) (s2.imp λh=>by omega)).2 λtx=>?_;rw[List.mem_mergeSort,gI,rH];constructor
 ·intro h;have h1:¬ aB pend tx=none:=λz=>(getM_none.1 z) h;rw[hp]at h1;cases hr:bj (E.map aN.aV) tx with
  |none=>rw[hr]at h1;exact absurd rfl h1
  |some i=>
   obtain⟨_,r,hi,_⟩:=bX (dD hr).2;obtain⟨ops,g1,_⟩:=hE.ready hr hi;have:=je g1;have hT2:=hT.2;exact⟨⟨this.1,ai⟩,rfl⟩
 ·rintro⟨_,h⟩;refine uF.1 λz=>?_;have h1:=getM_none.2 z;rw[hp]at h1;obtain⟨i,hr⟩:=oC.1 h;obtain⟨_,r,hi,_⟩:=bX (dD hr).2;rw[hr,nh,hi]at h1;cases h1
theorem xb(H:dB T n P R)(hT:vg T):dB T n (jJ P) (cD R):=by
 have hk:=BZ hT H.xa {P with up:=true} {R with up:=true} P.log.length (e8 _);rw[jD (e8 _)]at hk;have aa6:=Dl hT H.xa hk.pn hk.pend;unfold jJ cD;simp only;rw[Fz,aa6];rw[H.log]at hk⊢;rw[<- H.len];obtain⟨a,b,c,d,e,hP⟩:=zu P.log (iX {P with up:=true}) P.log.length;obtain⟨la,lb,hR⟩:=nF R.log (cq {R with up:=true}) P.log.length;rw[hP,hR]at hk⊢;refine⟨H.me,H.mb,H.n1,H.n2,rfl,H.log,H.xa,H.aH,H.gl,?_,rfl,rfl,H.out,(λx hx=>by cases hx),H.oo,?_,λ_=>?_,λ_=>.nil,λ_=>.nil,(λ_ u hu=>by cases hu),λh=>by cases h⟩
 ·show[]++_=[]++ku _;unfold ku;rfl
 ·intro t ht;have ht:t∈[]++ku R.log:=ht;rw[ez,<- H.log]at ht;unfold ku at ht;obtain⟨tx,h1,rfl⟩:=bM.1 ht;obtain⟨_,h2⟩:=gI.1 h1;obtain⟨i,hr⟩:=oC.1 h2;obtain⟨_,r,hi,_⟩:=bX (dD hr).2;obtain⟨ops,g1,_⟩:=H.xa.ready hr hi;show(opsOf T tx).isSome=true;rw[g1];rfl
 ·exact hk.aS
theorem zw(H:dB T n P R)(k:Nat):dB T n {P with timers:=P.timers.eraseIdx k} {R with timers:=R.timers.eraseIdx k}:=
 {H with timers:=by{show P.timers.eraseIdx k=R.timers.eraseIdx k;rw[H.timers]},tt:=λt ht=>H.tt t ((ko ..).mem ht),kl:=λh=>(H.kl h).aS}
theorem Tb(H:dB T n P R)(hT:vg T)(dP:R.up=true){t:fU}(ht:(opsOf T t.tx).isSome=true):dB T n (y8 P t) (nS R t):=by
 unfold y8 nS;cases hag:t.again with
 |false=>
  simp only[gn,eR,Eu,eN];rcases H.pend dP t.tx with⟨p1,p2⟩|⟨d,r,ops,p1,p2,p3,p4,p5,p6,p7⟩
  ·rw[p1,p2];exact H
  ·rw[p1,p2];simp only;rw[p3,iA];have H1:=H.send (m:={bK with kind:=6,to:=r.home,tx:=t.tx}) ⟨ops,p4,.inr (.inr (.inr (.inr (.inr (.inl ⟨rfl,p7,p5,rfl⟩)))))⟩;exact H1.tu ht
 |true=>
  simp only[eN,s5,gn,eR];unfold rz;rcases pC (H.bY dP) t.tx with⟨u1,u2⟩|⟨i,a,u,u1,u2,u3,u4,hu⟩
  ·rw[u1,u2];exact H
  ·rw[u1,u2];simp only;rw[u3];simp only;have xc:u.dec=true->decide (((aB P.bF t.tx).map (·.pl)).getD 0<P.aH)=(match aW R.log 2 t.tx with|some d=>decide ((d:Int)<R.aH)|none=>decide (-1<R.aH)):=λhd=>by
    have:=H.ud dP u (dg u3) hd;rw[u4]at this;rcases H.bF dP t.tx with⟨d1,d2⟩|⟨d,r,d1,d2,d3⟩
    ·rw[d2]at this;cases this
    ·rw[d1,d2,H.aH];rfl
   suffices ao:∀ aH:Bool,(u.dec=true->decide (((aB P.bF t.tx).map (·.pl)).getD 0<P.aH)=aH)->dB T n (jH (ru P a.ops λz k p=>
     if(!a.dec&& !(aB a.bk k).isSome)=true then ff z {bK with kind:=2,to:=k,tx:=t.tx,ops:=p}
     else if(a.dec&&decide (((aB P.bF t.tx).map (·.pl)).getD 0<P.aH)&&decide ((aB a.cy k).getD 0=0))=true then ff z {bK with kind:=4,to:=k,tx:=t.tx,yes:=a.yes}else z) t.tx 4 true)
     (let s1:=im R u.ops λz k p=>
      if(!u.dec&& !(bU u k).isSome)=true then eh z {bK with kind:=2,to:=k,tx:=t.tx,ops:=p}
      else if(u.dec&&aH&& !u.cy.contains k)=true then eh z {bK with kind:=4,to:=k,tx:=t.tx,yes:=u.yes}else z
     {s1 with timers:=s1.timers++[⟨s1.clock+4,true,t.tx⟩]}) by
    cases hq:aW R.log 2 t.tx with
    |none=>rw[hq]at xc;exact ao _ xc
    |some d=>rw[hq]at xc;exact ao _ xc
   clear xc;intro aH xc;have Vq:opsOf T t.tx=some u.ops:=by rw[<- u4];exact hu.ops
   have key:=zq (J:=λp r=>dB T n p r/\r.me=R.me/\r.up=true) (ops:=a.ops)
    (f:=λz k p=>if(!a.dec&& !(aB a.bk k).isSome)=true then ff z {bK with kind:=2,to:=k,tx:=t.tx,ops:=p}
     else if(a.dec&&decide (((aB P.bF t.tx).map (·.pl)).getD 0<P.aH)&&decide ((aB a.cy k).getD 0=0))=true then ff z {bK with kind:=4,to:=k,tx:=t.tx,yes:=a.yes}else z)
    (g:=λz k p=>if(!u.dec&& !(bU u k).isSome)=true then eh z {bK with kind:=2,to:=k,tx:=t.tx,ops:=p}
     else if(u.dec&&aH&& !u.cy.contains k)=true then eh z {bK with kind:=4,to:=k,tx:=t.tx,yes:=u.yes}else z) H.n1 H.n2
    (λp r k hj hk _ _=>by
     have A0:(aB a.bk k).isSome=(bU u k).isSome:=by rw[hu.ua.bk];simp
     have hac:decide ((aB a.cy k).getD 0=0)= !u.cy.contains k:=by
      have h1:=hu.ua.cy k;cases hg:aB a.cy k with
      |none=>rw[hg]at h1;simp at h1⊢;exact h1
      |some c=>
       rw[hg]at h1;have h2:=hu.ua.ap _ (bQ hg);simp only at h2 h1;simp only[<- h1,iA,Option.isSome_some,s5];simp;omega
     have W9:(a.dec&&decide (((aB P.bF t.tx).map (·.pl)).getD 0<P.aH)&&decide ((aB a.cy k).getD 0=0))=(u.dec&&aH&& !u.cy.contains k):=by
      rw[hu.ua.dec,hac];cases hd:u.dec with
      |false=>rfl
      |true=>rw[xc hd]
     have PL:a.ops=u.ops:=hu.ua.ops;rw[W9,hu.ua.dec,A0,hu.ua.yes];have aa7:r.me=gk u.ops n:=by rw[hj.2.1,hu.home]
     split
     ·exact⟨hj.1.send ⟨u.ops,Vq,.inr (.inl ⟨rfl,aa7,by rw[<- PL];exact hk,by show br a.ops k n=br u.ops k n;rw[PL]⟩)⟩,hj.2.1,hj.2.2⟩
     split
     ·exact⟨hj.1.send ⟨u.ops,Vq,.inr (.inr (.inr (.inl ⟨rfl,aa7,by rw[<- PL];exact hk,rfl⟩)))⟩,hj.2.1,hj.2.2⟩
     ·exact hj) ⟨H,rfl,dP⟩
   rw[hu.ua.ops]at key⊢;exact key.1.tu ht
theorem Tc(s:ShR)(t:fU):(nS s t).up=s.up:=by
 have he:∀ (ops:List bP) (f:ShR->Int->List bP->ShR),(∀ z k p,(f z k p).up=z.up)->∀ z,(im z ops f).up=z.up:=λops f hf z=>by
  unfold im;have:∀ (l:List Int) (n:Int) (z:ShR),(l.foldl (λz k=>if(br ops k n).isEmpty then z else f z k (br ops k n)) z).up=z.up:=λl n=>by
   induction l with
   |nil=>intro z;rfl
   |cons k l ih=>
    intro z;rw[mE,ih];split
    ·rfl
    ·exact hf ..
  exact this _ _ z
 unfold nS;split
 ·split<;>rfl
 ·split
  ·rfl
  ·split
   ·rfl
   ·simp only;refine he _ _ (λz k p=>?_) s;split
    ·rfl
    ·split<;>(split<;>rfl)
theorem FA{c:Int}:∀ (l:List fU) (i:Nat) (acc:Option (Nat×fU)) (L:List fU),(∀ p,acc=some p->p.2∈L)->(∀ t∈l,t∈L)->∀ p,nR c l i acc=some p->p.2∈L
 |[],_,_,_,ha,_,p,h=>ha p h
 |t::l,i,acc,L,ha,hl,p,h=>by
  unfold nR at h;refine FA l (i+1) _ L (λq hq=>?_) (λx hx=>hl x (fp _ hx)) p h;generalize(decide (t.tm<=c)&&_)=z at hq;cases z with
  |true=>obtain rfl:=bR hq;exact hl _ (fY ..)
  |false=>exact ha q hq
theorem zx(hT:vg T):∀ (f:Nat) (P:ek) (R:ShR),dB T n P R->R.up=true->dB T n (kV f P) (eU f R)
 |0,_,_,H,_=>H
 |f+1,P,R,H,dP=>by
  unfold kV eU;have e1:nR P.clock P.timers 0 none=nR R.clock R.timers 0 none:=by rw[H.clock,H.timers]
  rw[e1];cases h:nR R.clock R.timers 0 none with
  |none=>exact H
  |some p=>
   obtain⟨k,t⟩:=p;simp only;have ht:=H.tt t (FA R.timers 0 none R.timers (by simp) (λ_ h=>h) _ h);have H1:=zw H k;refine zx hT f _ _ (Tb H1 hT dP ht) ?_;rw[Tc];exact dP
theorem FB(H:dB T n P R)(hT:vg T)(dP:R.up=true):dB T n (pw P) (mQ R):=by
 unfold pw mQ;simp only;have e:Pd {P with clock:=P.clock+1}=Pb {R with clock:=R.clock+1}:=by unfold Pd Pb;simp only;rw[H.timers,H.clock]
 rw[e];refine zx hT _ _ _ {H with clock:=?_,kl:=λh=>(H.kl h).aS} dP;show P.clock+1=R.clock+1;rw[H.clock]
end
section
structure WP where
 sh:List ek
 aK:List MsgR
 aF:List TxR
 aj:Bool
def B2(n:Int):WP:=⟨(upto n).map λk=>HH k n,[],[],false⟩
def oa(w:WP)(tx:Nat):WP:=
 match w.aF[tx]? with
 |none=>w
 |some t=>{w with aK:=w.aK++[{bK with kind:=1,bq:= -1,to:=gk t.ops w.sh.length,tx:=tx,ops:=t.ops}]}
def pD(w:WP)(ops:List bP):WP×Int×Int:=
 if w.aj then(w,0,9)else if¬ gf ops then(w,0,2)else if w.aF.length=60\/400<=w.aK.length then(w,0,3)
 else(oa {w with aF:=w.aF++[⟨ops,1,[]⟩]} w.aF.length,w.aF.length,0)
def ig(w:WP)(a:Nat)(s:ek):WP:={w with sh:=w.sh.set a {s with out:=[]},aK:=w.aK++s.out}
def lj(aF:List TxR)(m:MsgR):List TxR:=
 match aF[m.tx.toNat]? with
 |none=>aF
 |some t=>if t.state=1 then aF.set m.tx.toNat (if m.yes then{t with state:=2,reads:=m.reads}else{t with state:=3})else aF
def iH(w:WP)(k i:Int):WP×Int:=
 if i<0\/(w.aK.length:Int)<=i then(w,5)else
 match w.aK[i.toNat]? with
 |none=>(w,5)
 |some m=>
  if k=4 then(if 400<=w.aK.length then(w,3)else({w with aK:=w.aK++[m]},0))else
  let w1:={w with aK:=w.aK.eraseIdx i.toNat}
  if k=3 then(w1,0)else
  if m.to= -1 then({w1 with aF:=lj w1.aF m},0)else
  match w1.sh[m.to.toNat]? with
  |none=>(w1,0)
  |some s=>if s.up then(ig w1 m.to.toNat (ry s m),0)else(w1,0)
def gp(w:WP)(k a b:Int):WP×Int:=
 if k<1\/8<k then(w,0)else if w.aj then(w,9)
 else if k=1 then(if a<0\/(w.aF.length:Int)<=a then(w,4)else if 400<=w.aK.length then(w,3)else(oa w a.toNat,0))
 else if k<=4 then iH w k a
 else if a<0\/(w.sh.length:Int)<=a then(w,6)
 else match w.sh[a.toNat]? with
  |none=>(w,6)
  |some s=>
   if k=8 then(if s.up then(w,8)else(ig w a.toNat (jJ s),0))
   else if !s.up then(w,7)
   else if k=5 then(ig w a.toNat (ti s),0)
   else if k=6 then(if 150<w.aK.length then(w,3)else(ig w a.toNat (pw s),0))
   else(ig w a.toNat (nC s b),0)
def cJ(aF:List TxR):List (List bP):=aF.map (·.ops)
structure iI(W:WP)(w:WR):Prop where
 n:1<=w.sh.length/\w.sh.length<=4
 len:W.sh.length=w.sh.length
 sh:∀ (i:Nat) P R,W.sh[i]? =some P->w.sh[i]? =some R->dB (cJ w.aF) w.sh.length P R/\R.me=i/\R.out=[]
 aK:W.aK=w.aK
 aF:W.aF=w.aF
 st:W.aj=w.aj
 tok:vg (cJ w.aF)
 msg:∀ m∈w.aK,jK (cJ w.aF) w.sh.length m
theorem Xa(k n:Int):KL [] (HH k n) [] bO:=KL.start _
theorem dB.app{T:List (List bP)}{n:Int}{P:ek}{R:ShR}(H:dB T n P R)(more:List (List bP)):dB (T++more) n P R:=by
 have ho:∀ tx,(opsOf T tx).isSome=true->(opsOf (T++more) tx).isSome=true:=λtx h=>by obtain⟨ops,h⟩:=oC.1 h;rw[jO more h];rfl
 exact{H with xa:=H.xa.app more,wo:=λm hm=>(H.wo m hm).app more,oo:=λm hm=>(H.oo m hm).app more,tt:=λt ht=>ho _ (H.tt t ht),bY:=λh=>(H.bY h).mono λa b hu=>{hu with ops:=jO more hu.ops}}
theorem Kr{n:Int}(hn:1<=n/\n<=4):iI (B2 n) (kU n):=by
 have hl:(upto n).length=n.toNat:=by simp[upto]
 have e1:(kU n).sh.length=n.toNat:=by simp[kU,hl]
 have e2:(((kU n).sh.length:Nat):Int)=n:=by rw[e1];omega
 refine⟨by rw[e1];omega,by simp[B2,kU],λi P R hP hR=>?_,rfl,rfl,rfl,⟨by simp[kU,cJ],by simp[kU,cJ]⟩,by simp[kU]⟩;rw[e2];simp only[B2,kU,fH]at hP hR;cases hk:(upto n)[i]? with
 |none=>rw[hk]at hP;cases hP
 |some k=>
  rw[hk]at hP hR;obtain rfl:=bR hP;obtain rfl:=bR hR;have hm:=rH.1 (dg hk);have HJ:k=i:=by
   unfold upto at hk;rw[fH]at hk;cases hr:(List.range n.toNat)[i]? with
   |none=>rw[hr]at hk;cases hk
   |some j=>
    rw[hr]at hk;obtain rfl:=bR hk;obtain⟨_,h2⟩:=dG.1 hr;rw[JC]at h2;rw[h2];rfl
  refine⟨⟨rfl,hm,rfl,rfl,rfl,rfl,.nil,rfl,⟨nW _,nW _⟩,rfl,rfl,rfl,rfl,(λm h=>by cases h),(λm h=>by cases h),(λm h=>by cases h),λ_=>Xa k n,λ_=>.nil,λ_=>.nil,(λ_ m h=>by cases h),λh=>by cases h⟩,HJ,rfl⟩
theorem iI.vi{W:WP}{w:WR}(H:iI W w):(cJ w.aF).length=w.aF.length:=by simp[cJ]
theorem LR{aF:List TxR}{i:Nat}{t:TxR}(h:aF[i]? =some t):opsOf (cJ aF) i=some t.ops:=by unfold opsOf cJ;rw[ax ai,fH,gv,h];rfl
variable{W:WP}{w:WR}
theorem iI.xd(H:iI W w)(i:Nat)(hi:i<w.sh.length):∃ P R,W.sh[i]? =some P/\w.sh[i]? =some R/\dB (cJ w.aF) w.sh.length P R/\R.me=i/\R.out=[]:=by have h1:W.sh[i]? =some (W.sh[i]'(by rw[H.len];exact hi)):=cK _;have h2:w.sh[i]? =some w.sh[i]:=cK _;exact⟨_,_,h1,h2,H.sh i _ _ h1 h2⟩
theorem iI.shape(H:iI W w):∃ sh,W=⟨sh,w.aK,w.aF,w.aj⟩:=by refine⟨W.sh,?_⟩;rw[<- H.aK,<- H.aF,<- H.st]
theorem zy(H:iI W w)(tx:Nat):iI (oa W tx) (iW w tx):=by
 obtain⟨sh,rfl⟩:=H.shape;unfold oa iW;simp only;cases ht:w.aF[tx]? with
 |none=>simp only;exact H
 |some t=>
  simp only;have hl:sh.length=w.sh.length:=H.len;refine{H with aK:=by{show w.aK++_=w.aK++_;rw[hl]},msg:=λm hm=>?_};rcases bS.1 hm with hm|hm
  ·exact H.msg m hm
  ·obtain rfl:=dL.1 hm;exact⟨t.ops,LR ht,.inl ⟨rfl,rfl,rfl,rfl⟩⟩
theorem iI.tx1(H:iI W w){ops:List bP}(hr:gf ops)(hl:w.aF.length≠60):iI {W with aF:=W.aF++[⟨ops,1,[]⟩]} {w with aF:=w.aF++[⟨ops,1,[]⟩]}:=by
 have e:cJ (w.aF++[⟨ops,1,[]⟩])=cJ w.aF++[ops]:=by simp[cJ]
 refine⟨H.n,H.len,λi P R h1 h2=>?_,H.aK,by show W.aF++_=w.aF++_;rw[H.aF],H.st,?_,λm hm=>?_⟩
 ·obtain⟨a,b,c⟩:=H.sh i P R h1 h2;show dB (cJ (w.aF++_)) _ _ _/\_;rw[e];exact⟨a.app _,b,c⟩
 ·show vg (cJ (w.aF++_));rw[e];refine⟨λo ho=>?_,?_⟩
  ·rcases bS.1 ho with h|h
   ·exact H.tok.1 o h
   ·obtain rfl:=dL.1 h;exact hr
  ·have:=H.tok.2;rw[H.vi]at this;rw[gO,H.vi,gJ];omega
 ·show jK (cJ (w.aF++_)) _ _;rw[e];exact(H.msg m hm).app _
theorem xe(H:iI W w)(ops:List bP):iI (pD W ops).1 (bZ w ops).1/\(pD W ops).2=(bZ w ops).2:=by
 obtain⟨sh,rfl⟩:=H.shape;unfold pD bZ;simp only;split
 ·exact⟨H,rfl⟩
 split
 ·exact⟨H,rfl⟩
 split
 ·exact⟨H,rfl⟩
 ·rename_i h1 h2 h3;have:=H.tx1 (uF.1 h2) (λz=>h3 (.inl z));exact⟨zy this w.aF.length,rfl⟩
theorem pE(H:iI W w){a:Nat}{P:ek}{R:ShR}(ha:a<w.sh.length)(hr:dB (cJ w.aF) w.sh.length P R)(LN:R.me=a):iI (ig W a P) (ml w a R):=by
 unfold ig ml;have hl:(w.sh.set a {R with out:=[]}).length=w.sh.length:=eg ..;refine⟨by show 1<=(w.sh.set a _).length/\(w.sh.set a _).length<=4;rw[hl];exact H.n,by show(W.sh.set a _).length=(w.sh.set a _).length;rw[hl,eg];exact H.len,λi P' R' h1 h2=>?_,by show W.aK++P.out=w.aK++R.out;rw[H.aK,hr.out],H.aF,H.st,H.tok,λm hm=>?_⟩
 ·show dB _ ((w.sh.set a _).length:Nat) _ _/\_;rw[hl];have h1:(W.sh.set a {P with out:=[]})[i]? =some P':=h1;have h2:(w.sh.set a {R with out:=[]})[i]? =some R':=h2;by_cases e:a=i
  ·subst e;rw[EE (by rw[H.len];exact ha)]at h1;rw[EE ha]at h2;obtain rfl:=bR h1;obtain rfl:=bR h2;exact⟨{hr with out:=rfl,oo:=(λm h=>by cases h),kl:=λh=>(hr.kl h).aS},LN,rfl⟩
  ·rw[wS e]at h1 h2;exact H.sh i P' R' h1 h2
 ·show jK _ ((w.sh.set a _).length:Nat) _;rw[hl];rcases bS.1 hm with hm|hm
  ·exact H.msg m hm
  ·exact hr.oo m hm
theorem FC(s:ShR)(m:MsgR):(jw s m).me=s.me/\(jw s m).n=s.n:=by
 have he:∀ (ops:List bP) (f:ShR->Int->List bP->ShR),(∀ z k p,(f z k p).me=z.me/\(f z k p).n=z.n)->∀ z,(im z ops f).me=z.me/\(im z ops f).n=z.n:=λops f hf z=>by
  unfold im;have:∀ (l:List Int) (n:Int) (z:ShR),(l.foldl (λz k=>if(br ops k n).isEmpty then z else f z k (br ops k n)) z).me=z.me/\(l.foldl (λz k=>if(br ops k n).isEmpty then z else f z k (br ops k n)) z).n=z.n:=λl n=>by
   induction l with
   |nil=>intro z;exact⟨rfl,rfl⟩
   |cons k l ih=>
    intro z;rw[mE];split
    ·exact ih z
    ·exact⟨(ih _).1.trans (hf z k _).1,(ih _).2.trans (hf z k _).2⟩
  exact this _ _ z
 unfold jw;split
 ·unfold kT;split
  ·split<;>exact⟨rfl,rfl⟩
  ·split
   ·exact⟨rfl,rfl⟩
   ·simp only;refine he _ _ (λz k p=>?_) _;exact⟨rfl,rfl⟩
 split
 ·unfold gQ;split
  ·split<;>exact⟨rfl,rfl⟩
  ·split
   ·split<;>exact⟨rfl,rfl⟩
   ·split<;>exact⟨rfl,rfl⟩
 split
 ·unfold nB;split
  ·exact⟨rfl,rfl⟩
  ·split
   ·exact⟨rfl,rfl⟩
   ·rename_i u _;split
    ·exact⟨rfl,rfl⟩
    ·simp only;generalize(if(m.yes&& !(bU u m.bq).isSome)=true then({u with bk:=u.bk++[⟨m.bq,m.reads⟩]}:fO)else u)=u1;split
     ·exact⟨rfl,rfl⟩
     ·refine he _ _ (λz k p=>?_) _;exact⟨rfl,rfl⟩
 split
 ·unfold ju;split
  ·simp only[eX];split<;>exact⟨rfl,rfl⟩
  ·split
   ·split<;>exact⟨rfl,rfl⟩
   ·split<;>exact⟨rfl,rfl⟩
 split
 ·unfold u5;split
  ·exact⟨rfl,rfl⟩
  ·split
   ·exact⟨rfl,rfl⟩
   ·split
    ·exact⟨rfl,rfl⟩
    ·simp only;split<;>exact⟨rfl,rfl⟩
 split
 ·unfold u6;split
  ·split<;>exact⟨rfl,rfl⟩
  ·split<;>exact⟨rfl,rfl⟩
 ·exact⟨rfl,rfl⟩
theorem qc(aF:List TxR)(m:MsgR):cJ (lj aF m)=cJ aF:=by
 unfold lj;cases h:aF[m.tx.toNat]? with
 |none=>rfl
 |some t=>
  simp only;split
  ·unfold cJ;rw[wT];have:(if m.yes=true then({t with state:=2,reads:=m.reads}:TxR)else{t with state:=3}).ops=t.ops:=by split<;>rfl
   rw[this];obtain⟨h1,h2⟩:=dG.1 h;apply Ew;intro i;rw[oY];split
   ·rename_i e;subst e;rw[aG (by simpa using h1),fH,h];rfl
   ·rfl
  ·rfl
theorem vj(w:WR)(m:MsgR):p9 w m={w with aF:=lj w.aF m}:=by
 unfold p9 lj;cases h:w.aF[m.tx.toNat]? with
 |none=>rfl
 |some t=>simp only;split<;>rfl
theorem Te(s:ShR)(t:fU):(nS s t).me=s.me:=by
 have he:∀ (ops:List bP) (f:ShR->Int->List bP->ShR),(∀ z k p,(f z k p).me=z.me)->∀ z,(im z ops f).me=z.me:=λops f hf z=>by
  unfold im;have:∀ (l:List Int) (n:Int) (z:ShR),(l.foldl (λz k=>if(br ops k n).isEmpty then z else f z k (br ops k n)) z).me=z.me:=λl n=>by
   induction l with
   |nil=>intro z;rfl
   |cons k l ih=>
    intro z;rw[mE,ih];split
    ·rfl
    ·exact hf ..
  exact this _ _ z
 unfold nS;split
 ·split<;>rfl
 ·split
  ·rfl
  ·split
   ·rfl
   ·simp only;refine he _ _ (λz k p=>?_) s;split
    ·rfl
    ·split<;>(split<;>rfl)
theorem wc:∀ (f:Nat) (s:ShR),(eU f s).me=s.me
 |0,_=>rfl
 |f+1,s=>by
  unfold eU;split
  ·rfl
  ·rw[wc f,Te]
theorem rI(s:ShR):(cD s).me=s.me/\(cD s).out=s.out:=by unfold cD;obtain⟨a,b,e⟩:=nF s.log (cq {s with up:=true}) s.log.length;simp only[e];exact⟨rfl,rfl⟩
theorem Dm(H:iI W w)(k i:Int):iI (iH W k i).1 (gR w k i).1/\(iH W k i).2=(gR w k i).2:=by
 obtain⟨sh,rfl⟩:=H.shape;unfold iH gR;simp only;split
 ·exact⟨H,rfl⟩
 cases hm:w.aK[i.toNat]? with
 |none=>exact⟨H,rfl⟩
 |some m=>
  have Vr:=H.msg m (dg hm);simp only;split
  ·split
   ·exact⟨H,rfl⟩
   ·refine⟨{H with aK:=rfl,msg:=λx hx=>?_},rfl⟩;rcases bS.1 hx with hx|hx
    ·exact H.msg x hx
    ·obtain rfl:=dL.1 hx;exact Vr
  have H1:iI ⟨sh,w.aK.eraseIdx i.toNat,w.aF,w.aj⟩ {w with aK:=w.aK.eraseIdx i.toNat}:={H with aK:=rfl,msg:=λx hx=>H.msg x ((ko ..).mem hx)};split
  ·exact⟨H1,rfl⟩
  split
  ·refine⟨?_,rfl⟩;rw[vj];refine⟨H.n,H.len,λi P R h1 h2=>?_,rfl,rfl,H.st,?_,λx hx=>?_⟩
   ·show dB (cJ (lj w.aF m)) _ _ _/\_;rw[qc];exact H.sh i P R h1 h2
   ·show vg (cJ (lj w.aF m));rw[qc];exact H.tok
   ·show jK (cJ (lj w.aF m)) _ _;rw[qc];exact H1.msg x hx
  ·cases hs:w.sh[m.to.toNat]? with
   |none=>
    have:sh[m.to.toNat]? =none:=by rw[UF]at hs⊢;have:=H.len;simp only at this;omega
    rw[this];exact⟨H1,rfl⟩
   |some R=>
    have du:=(dG.1 hs).1;obtain⟨P,R',h1,h2,h3,h4,h5⟩:=H.xd m.to.toNat du;rw[hs]at h2;obtain rfl:=bR h2;rw[h1];simp only;rw[h3.up];split
    ·rename_i hk uA dP;have aeT:m.to=R.me:=by
      have:0<=m.to:=by
       have hn:(0:Int)<w.sh.length:=by have:=H.n;omega
       obtain⟨ops,ho,hc⟩:=Vr;have hr:=H.tok.of ho;have eV:ops≠[]:=by have:=hr.2.2.1;intro z;rw[z]at this;simp at this
       have hh:=(gz hr hn (n9 eV)).1;rcases hc with h|h|h|h|h|h|h
       ·rw[h.2.2.1];exact hh
       ·exact(gz hr hn h.2.2.1).1
       ·rw[h.2.1];exact hh
       ·exact(gz hr hn h.2.2.1).1
       ·rw[h.2.1];exact hh
       ·rw[h.2.1];exact hh
       ·exact absurd h.2.1 uA
      rw[h4];omega
     have hn:(0:Int)<w.sh.length:=by have:=H.n;omega
     exact⟨pE H1 du (Fx h3 H.tok hn dP Vr aeT) ((FC ..).1.trans h4),rfl⟩
    ·exact⟨H1,rfl⟩
theorem Ks(H:iI W w)(k a b:Int):iI (gp W k a b).1 (gH w k a b).1/\(gp W k a b).2=(gH w k a b).2:=by
 obtain⟨sh,rfl⟩:=H.shape;have hl:sh.length=w.sh.length:=H.len;unfold gp gH;dsimp only;rw[hl];by_cases c1:k<1\/8<k
 ·rw[aG c1,aG c1];exact⟨H,rfl⟩
 rw[ax c1,ax c1];by_cases c2:w.aj=true
 ·rw[aG c2,aG c2];exact⟨H,rfl⟩
 rw[ax c2,ax c2];by_cases c3:k=1
 ·rw[aG c3,aG c3];by_cases d1:a<0\/(w.aF.length:Int)<=a
  ·rw[aG d1,aG d1];exact⟨H,rfl⟩
  rw[ax d1,ax d1];by_cases d2:400<=w.aK.length
  ·rw[aG d2,aG d2];exact⟨H,rfl⟩
  rw[ax d2,ax d2];exact⟨zy H _,rfl⟩
 rw[ax c3,ax c3];by_cases c4:k<=4
 ·rw[aG c4,aG c4];exact Dm H k a
 rw[ax c4,ax c4];by_cases c5:a<0\/(w.sh.length:Int)<=a
 ·rw[aG c5,aG c5];exact⟨H,rfl⟩
 rw[ax c5,ax c5];have du:a.toNat<w.sh.length:=ai;obtain⟨P,R,h1,h2,h3,h4,h5⟩:=H.xd a.toNat du;have h1:sh[a.toNat]? =some P:=h1;rw[h1,h2];dsimp only;rw[h3.up];by_cases c6:k=8
 ·rw[aG c6,aG c6];by_cases d1:R.up=true
  ·rw[aG d1,aG d1];exact⟨H,rfl⟩
  rw[ax d1,ax d1];refine⟨?_,rfl⟩;have hr:=rI R;have:=pE H du (xb h3 H.tok) (hr.1.trans h4);have e:ml w a.toNat (cD R)={w with sh:=w.sh.set a.toNat (cD R)}:=by
   unfold ml;rw[hr.2,h5,l7];have:({cD R with out:=[]}:ShR)=cD R:=by
    have h6:(cD R).out=[]:=hr.2.trans h5
    conv=>rhs;rw[show cD R={cD R with out:=(cD R).out}from rfl,h6]
   rw[this]
  rw[<- e];exact this
 rw[ax c6,ax c6];by_cases c7:(!R.up)=true
 ·rw[aG c7,aG c7];exact⟨H,rfl⟩
 rw[ax c7,ax c7];have dP:R.up=true:=by simpa using c7
 by_cases c8:k=5
 ·rw[aG c8,aG c8];exact⟨pE H du (Fy h3 dP) h4,rfl⟩
 rw[ax c8,ax c8];by_cases c9:k=6
 ·rw[aG c9,aG c9];by_cases d1:150<w.aK.length
  ·rw[aG d1,aG d1];exact⟨H,rfl⟩
  rw[ax d1,ax d1];exact⟨pE H du (FB h3 H.tok dP) ((wc ..).trans h4),rfl⟩
 rw[ax c9,ax c9];exact⟨pE H du (BX h3 b) h4,rfl⟩
def wt(m:MsgR):Nat:=if m.kind=1 then 45 else if m.kind=2 then 11 else if m.kind=3 then 10 else if m.kind=4 then 2 else if m.kind=6 then 3 else 1
def ws(l:List MsgR):Nat:=(l.map wt).sum
theorem PM(m:MsgR):1<=wt m/\wt m<=45:=by
 unfold wt;repeat' split
 all_goals omega
theorem Dn(a b:List MsgR):ws (a++b)=ws a+ws b:=by simp[ws]
theorem PN(m:MsgR):ws [m]=wt m:=by simp[ws]
theorem Dp:ws []=0:=rfl
theorem B5:∀ l:List MsgR,l.length<=ws l/\ws l<=45*l.length
 |[]=>⟨e8 _,e8 _⟩
 |m::l=>by
  have h:=B5 l;have h1:=PM m;have:ws (m::l)=wt m+ws l:=by simp[ws]
  rw[this,jC];omega
structure jo(t:Nat)(U:List fO)(L:List RecR)(Ti:List fU)(W:List MsgR)(aH clock:Int):Prop where
 ub:∀ u∈U,u.dec=(aW L 2 u.tx).isSome
 un:(U.map (·.tx)).Nodup
 nd:((L.filter λr=>r.kind==2).map (·.tx)).Nodup
 tn:(Ti.map λt=>(t.again,t.tx)).Nodup
 ta:∀ t∈Ti,t.again=true->t.tx∈U.map (·.tx)\/(aW L 2 t.tx).isSome=true
 tb:∀ t∈Ti,t.again=false->(aW L 1 t.tx).isSome=true\/(aW L 3 t.tx).isSome=true
 wl:(W.length:Int)<=5*(L.length-aH)
 vn:∀ u∈U,(u.bk.map (·.bq)).Nodup
 an:∀ u∈U,u.cy.length<=t
 ck:0<=clock/\clock<=t
def lS(t:Nat)(s:ShR):Prop:=jo t s.under s.log s.timers s.waits s.aH s.clock
theorem B6{l:List fO}{tx:Int}:dz l tx=none↔tx∉l.map (·.tx):=by unfold dz;rw[JD];simp
theorem tR{L:List RecR}{r:RecR}{k tx:Int}(h:(aW L k tx).isSome=true):(aW (L++[r]) k tx).isSome=true:=by
 rw[dO];split
 ·rfl
 ·exact h
theorem zA{L:List RecR}{tx:Int}:aW L 2 tx=none↔tx∉(L.filter λr=>r.kind==2).map (·.tx):=by
 rw[kg];constructor
 ·intro h hm;obtain⟨r,hr,e⟩:=bM.1 hm;obtain⟨h1,h2⟩:=gI.1 hr;exact h r h1 ⟨by simpa using h2,e⟩
 ·intro h r hr e;exact h (bM.2 ⟨r,gI.2 ⟨hr,by simpa using e.1⟩,e.2⟩)
variable{t:Nat}{U U':List fO}{L:List RecR}{Ti:List fU}{W:List MsgR}{aH clock:Int}
theorem jo.wrote(h:jo t U L Ti W aH clock){r:RecR}{w:List MsgR}(hr:r.kind=2->aW L 2 r.tx=none)(hm:U'.map (·.tx)=U.map (·.tx))(hu:∀ u∈U',u.dec=(aW (L++[r]) 2 u.tx).isSome)
  (hv:∀ u∈U',(u.bk.map (·.bq)).Nodup) (ha:∀ u∈U',u.cy.length<=t) (hw:w.length<=5):jo t U' (L++[r]) Ti (W++w) aH clock:=by
 refine⟨hu,by rw[hm];exact h.un,?_,h.tn,λx hx iZ=>?_,λx hx iZ=>(h.tb x hx iZ).imp tR tR,?_,hv,ha,h.ck⟩
 ·rw[qw,eI];by_cases hk:r.kind=2
  ·have e:[r].filter (λr=>r.kind==2)=[r]:=by simp[hk]
   rw[e];refine il.2 ⟨h.nd,by simp,λa ha b hb=>?_⟩;obtain rfl:=dL.1 hb;rintro rfl;exact zA.1 (hr hk) ha
  ·have e:[r].filter (λr=>r.kind==2)=[]:=by simp[hk]
   rw[e];simpa using h.nd
 ·rw[hm];exact(h.ta x hx iZ).imp id tR
 ·have:=h.wl;rw[gO,gO,gJ];omega
theorem jo.mono(h:jo t U L Ti W aH clock){t':Nat}(ht:t<=t'):jo t' U L Ti W aH clock:=
 {h with an:=λu hu=>Lh (h.an u hu) ht,ck:=⟨h.ck.1,by have:=h.ck.2;omega⟩}
theorem jo.tu(h:jo t U L Ti W aH clock){x:fU}(hn:(x.again,x.tx)∉Ti.map λt=>(t.again,t.tx))(ha:x.again=true->x.tx∈U.map (·.tx)\/(aW L 2 x.tx).isSome=true)(hb:x.again=false->(aW L 1 x.tx).isSome=true\/(aW L 3 x.tx).isSome=true):jo t U L (Ti++[x]) W aH clock:=by
 refine{h with tn:=?_,ta:=λy hy=>?_,tb:=λy hy=>?_}
 ·rw[eI];refine il.2 ⟨h.tn,by simp,λa ha b hb=>?_⟩;obtain rfl:=dL.1 hb;rintro rfl;exact hn ha
 ·rcases bS.1 hy with hy|hy
  ·exact h.ta y hy
  ·obtain rfl:=dL.1 hy;exact ha
 ·rcases bS.1 hy with hy|hy
  ·exact h.tb y hy
  ·obtain rfl:=dL.1 hy;exact hb
theorem HW{ops:List bP}{f:ShR->Int->List bP->ShR}{g:Int->List bP->MsgR}(c:Nat)(hc:∀ k p x,wt {g k p with bq:=x}=c):
  (∀ z k p,f z k p=eh z (g k p))->∀ z,∃ o,im z ops f={z with out:=z.out++o}/\o.length<=z.n.toNat/\ws o=c*o.length:=by
 intro hf z;unfold im;have key:∀ (l:List Int) (n:Int) (z:ShR),∃ o,l.foldl (λz k=>if(br ops k n).isEmpty then z else f z k (br ops k n)) z={z with out:=z.out++o}/\o.length<=l.length/\ws o=c*o.length:=by
  intro l n
  induction l with
  |nil=>intro z;exact⟨[],by simp,e8 _,rfl⟩
  |cons k l ih=>
   intro z;rw[mE];split
   ·obtain⟨o,h1,h2,h3⟩:=ih z;exact⟨o,h1,by rw[jC];omega,h3⟩
   ·rw[hf];obtain⟨o,h1,h2,h3⟩:=ih (eh z (g k (br ops k n)));refine⟨{g k (br ops k n)with bq:=z.me}::o,by rw[h1];simp[eh],by rw[jC,jC];omega,?_⟩;have e:ws ({g k (br ops k n)with bq:=z.me}::o)=wt {g k (br ops k n)with bq:=z.me}+ws o:=by simp[ws]
    rw[e,hc,h3,jC,Nat.mul_add];omega
 obtain⟨o,h1,h2,h3⟩:=key (upto z.n) z.n z;exact⟨o,h1,by simpa[upto]using h2,h3⟩
theorem FD{ops:List bP}{f:ShR->Int->List bP->ShR}{g:Int->List bP->MsgR}(c:Nat)(hc:∀ k p x,wt {g k p with bq:=x}=c):
  (∀ z k p,f z k p=eX z (g k p))->∀ z,∃ o,im z ops f={z with waits:=z.waits++o}/\o.length<=z.n.toNat/\ws o=c*o.length:=by
 intro hf z;unfold im;have key:∀ (l:List Int) (n:Int) (z:ShR),∃ o,l.foldl (λz k=>if(br ops k n).isEmpty then z else f z k (br ops k n)) z={z with waits:=z.waits++o}/\o.length<=l.length/\ws o=c*o.length:=by
  intro l n
  induction l with
  |nil=>intro z;exact⟨[],by simp,e8 _,rfl⟩
  |cons k l ih=>
   intro z;rw[mE];split
   ·obtain⟨o,h1,h2,h3⟩:=ih z;exact⟨o,h1,by rw[jC];omega,h3⟩
   ·rw[hf];obtain⟨o,h1,h2,h3⟩:=ih (eX z (g k (br ops k n)));refine⟨{g k (br ops k n)with bq:=z.me}::o,by rw[h1];simp[eX],by rw[jC,jC];omega,?_⟩;have e:ws ({g k (br ops k n)with bq:=z.me}::o)=wt {g k (br ops k n)with bq:=z.me}+ws o:=by simp[ws]
    rw[e,hc,h3,jC,Nat.mul_add];omega
 obtain⟨o,h1,h2,h3⟩:=key (upto z.n) z.n z;exact⟨o,h1,by simpa[upto]using h2,h3⟩
structure ll(t:Nat)(s s':ShR)(c:Nat):Prop where
 inv:lS (t+1) s'
 o:∃ o w,s'.out=s.out++o/\s'.waits=s.waits++w/\o.length<=5/\ws o+ws w<=c
variable{s:ShR}{m:MsgR}
theorem ll.same(h:lS t s)(c:Nat):ll t s s c:=⟨jo.mono h (nX t),[],[],by simp,by simp,by simp,by simp[ws]⟩
theorem ll.send(h:lS t s){x:MsgR}{c:Nat}(hc:wt {x with bq:=s.me}<=c):ll t s (eh s x) c:=
 ⟨jo.mono h (nX t),[_],[],rfl,by simp[eh],by simp,by simpa[ws]using hc⟩
theorem tS{U:List fO}{i:Nat}{u v:fO}(h:U[i]? =some u)(e:v.tx=u.tx):(U.set i v).map (·.tx)=U.map (·.tx):=by
 rw[wT,e];obtain⟨h1,rfl⟩:=dG.1 h;have:U[i].tx=(U.map (·.tx))[i]'(by rw[dW];exact h1):=by simp
 rw[this,Bp]
theorem tT{U:List fO}{tx:Int}{i:Nat}(h:dz U tx=some i):∃ u,U[i]? =some u/\u.tx=tx:=by obtain⟨h1,h2,_⟩:=uH.1 h;exact⟨U[i],cK h1,by simpa using h2⟩
theorem LS(h:lS t s)(hn:s.n<=4):ll t s (kT s m) 45:=by
 unfold kT;cases hd:aW s.log 2 m.tx with
 |some d=>
  simp only;split
  ·exact .send h (by simp[wt])
  ·exact .same h _
 |none=>
  simp only;cases hu:dz s.under m.tx with
  |some i=>simpa using ll.same h _
  |none=>
   simp only[Lg,gn,eR];obtain⟨o,e1,e2,e3⟩:=HW (ops:=m.ops) (f:=λz k p=>eh z {bK with kind:=2,to:=k,tx:=m.tx,ops:=p}) (g:=λk p=>{bK with kind:=2,to:=k,tx:=m.tx,ops:=p}) 11 (λk p x=>by simp[wt]) (λz k p=>rfl) {s with under:=s.under++[⟨m.tx,m.ops,[],false,false,[]⟩]};rw[e1];have Kt:=B6.1 hu;have h1:jo t (s.under++[⟨m.tx,m.ops,[],false,false,[]⟩]) s.log s.timers s.waits s.aH s.clock:=by
    refine⟨λu hu=>?_,?_,h.nd,h.tn,λx hx iZ=>?_,h.tb,h.wl,λu hu=>?_,λu hu=>?_,h.ck⟩
    ·rcases bS.1 hu with hu|hu
     ·exact h.ub u hu
     ·obtain rfl:=dL.1 hu;simp only;rw[hd];rfl
    ·rw[eI];refine il.2 ⟨h.un,by simp,λa ha b hb=>?_⟩;obtain rfl:=dL.1 hb;rintro rfl;exact Kt ha
    ·rw[eI];exact(h.ta x hx iZ).imp (λz=>ks _ z) id
    ·rcases bS.1 hu with hu|hu
     ·exact h.vn u hu
     ·obtain rfl:=dL.1 hu;exact .nil
    ·rcases bS.1 hu with hu|hu
     ·exact h.an u hu
     ·obtain rfl:=dL.1 hu;exact eW _
   have h2:jo t (s.under++[⟨m.tx,m.ops,[],false,false,[]⟩]) s.log (s.timers++[⟨s.clock+4,true,m.tx⟩]) s.waits s.aH s.clock:=by
    refine h1.tu (λhx=>?_) (λ_=>.inl (by simp)) (λz=>by cases z);obtain⟨x,hx,e⟩:=bM.1 hx;simp only[Ev]at e;rcases h.ta x hx e.1 with z|z
    ·rw[e.2]at z;exact Kt z
    ·rw[e.2,hd]at z;cases z
   refine⟨jo.mono h2 (nX t),o,[],rfl,by simp,?_,?_⟩
   ·simp only at e2;omega
   ·simp only at e2;rw[e3];simp[ws];omega
theorem Tf(h:lS t s):ll t s (u6 s m) 3:=by
 unfold u6;cases hd:aW s.log 2 m.tx with
 |some d=>
  simp only;split
  ·exact .send h (by simp[wt])
  ·exact .same h _
 |none=>
  simp only;cases hu:dz s.under m.tx with
  |some i=>simpa using ll.same h _
  |none=>
   simp only[Lg,gn,eR];have Kt:=B6.1 hu;have h1:=jo.wrote h (U':=s.under) (r:={dC with kind:=2,tx:=m.tx}) (w:=[{bK with kind:=4,to:=m.bq,tx:=m.tx,bq:=s.me}]) (λ_=>hd) rfl (λu hu=>by rw[dO,ax (by simp[isRec];intro e;exact Kt (bM.2 ⟨u,hu,e.symm⟩))];exact h.ub u hu) h.vn h.an (by simp)
   exact⟨jo.mono h1 (nX t),[],_,by simp[eX],rfl,by simp,by simp[ws,wt]⟩
theorem FE(h:lS t s):ll t s (gQ s m) 11:=by
 unfold gQ;simp only;cases hr:bj s.log m.tx with
 |some r=>
  simp only;split
  ·exact .send h (by simp[wt])
  ·exact .same h _
 |none=>
  simp only;cases hd:aW s.log 3 m.tx with
  |some d=>
   simp only;split
   ·exact .same h _
   ·exact .send h (by simp[wt])
  |none=>
   simp only;split
   ·exact .send h (by simp[wt])
   ·have h1n:aW s.log 1 m.tx=none:=by unfold bj at hr;rw[hd]at hr;simpa using hr
    have h1:=jo.wrote h (U':=s.under) (r:={dC with kind:=1,tx:=m.tx,home:=m.bq,ops:=m.ops}) (w:=[{bK with kind:=3,to:=m.bq,tx:=m.tx,yes:=true,reads:=fe s.bT m.ops,bq:=s.me}]) (λz=>by simp at z) rfl (λu hu=>by rw[dO,ax (by simp[isRec])];exact h.ub u hu) h.vn h.an (by simp)
    have h2:=h1.tu (x:=⟨s.clock+3,false,m.tx⟩) (λhx=>by
     obtain⟨x,hx,e⟩:=bM.1 hx;simp only[Ev]at e;rcases h.tb x hx e.1 with z|z
     ·rw[e.2,h1n]at z;cases z
     ·rw[e.2,hd]at z;cases z) (λz=>by cases z) (λ_=>.inl (by rw[dO,aG (by simp[isRec])];rfl))
    exact⟨jo.mono h2 (nX t),[],_,by simp[eX],rfl,by simp,by simp[ws,wt]⟩
theorem HX(h:lS t s):ll t s (ju s m) 2:=by
 have key:∀ (b:Bool),jo t s.under (s.log++[{dC with kind:=3,tx:=m.tx,yes:=b}]) s.timers (s.waits++[{bK with kind:=5,to:=m.bq,tx:=m.tx,bq:=s.me}]) s.aH s.clock:=λb=>
  jo.wrote h (U':=s.under) (r:={dC with kind:=3,tx:=m.tx,yes:=b}) (λz=>by simp at z) rfl (λu hu=>by rw[dO,ax (by simp[isRec])];exact h.ub u hu) h.vn h.an (by simp)
 have fin:∀ (s':ShR) (b:Bool),s'.under=s.under->s'.log=s.log++[{dC with kind:=3,tx:=m.tx,yes:=b}]->s'.timers=s.timers->s'.waits=s.waits++[{bK with kind:=5,to:=m.bq,tx:=m.tx,bq:=s.me}]->s'.aH=s.aH->s'.clock=s.clock->s'.out=s.out->ll t s s' 2:=λs' b e1 e2 e3 e4 e5 e6 e7=>by refine⟨?_,[],_,by simpa using e7,e4,by simp,by simp[ws,wt]⟩;unfold lS;rw[e1,e2,e3,e4,e5,e6];exact jo.mono (key b) (nX t)
 unfold ju;cases hr:bj s.log m.tx with
 |some r=>
  simp only;cases hy:m.yes with
  |true=>exact fin _ m.yes rfl (by rw[hy];rfl) rfl rfl rfl rfl rfl
  |false=>exact fin _ m.yes rfl (by rw[hy];rfl) rfl rfl rfl rfl rfl
 |none=>
  simp only;cases hd:aW s.log 3 m.tx with
  |some d=>
   simp only;split
   ·exact .send h (by simp[wt])
   ·exact .same h _
  |none=>
   simp only;split
   ·exact .same h _
   ·exact fin _ m.yes rfl rfl rfl rfl rfl rfl rfl
theorem Tg(h:lS t s):ll t s (u5 s m) 1:=by
 unfold u5;cases hu:dz s.under m.tx with
 |none=>exact .same h _
 |some i=>
  simp only;obtain⟨u,hg,m9⟩:=tT hu;rw[hg];simp only;have dR:=dg hg;by_cases hd:u.dec=true
  case neg=>rw[aG (by simpa using hd)];exact .same h _
  case pos=>
   rw[ax (by simp[hd])];have aa8:(aW s.log 2 u.tx).isSome=true:=by rw[<- h.ub u dR,hd]
   have Vs:=jo.mono h (nX t);split
   ·refine⟨⟨λv hv=>h.ub v ((ko ..).mem hv),?_,h.nd,h.tn,λx hx iZ=>?_,h.tb,h.wl,λv hv=>h.vn v ((ko ..).mem hv),λv hv=>Vs.an v ((ko ..).mem hv),Vs.ck⟩,[],[],by simp,by simp,by simp,by simp[ws]⟩
    ·exact h.un.sublist ((ko ..).map _)
    ·rcases h.ta x hx iZ with z|z
     ·by_cases ex:x.tx=u.tx
      ·rw[ex];exact .inr aa8
      ·refine .inl ?_;obtain⟨v,hv,ev⟩:=bM.1 z;obtain⟨j,hj⟩:=o5 hv;refine bM.2 ⟨v,?_,ev⟩;refine UG.2 ⟨j,?_,hj⟩;rintro rfl;rw[hg]at hj;obtain rfl:=bR hj;exact ex ev.symm
     ·exact .inr z
   ·have e:=tS (v:={u with cy:=u.cy++[m.bq]}) hg rfl;refine⟨⟨λv hv=>?_,by show(List.map _ (s.under.set i _)).Nodup;rw[e];exact h.un,h.nd,h.tn,λx hx iZ=>by show x.tx∈(s.under.set i _).map _\/_;rw[e];exact h.ta x hx iZ,h.tb,h.wl,λv hv=>?_,λv hv=>?_,Vs.ck⟩,[],[],by simp,by simp,by simp,by simp[ws]⟩
    ·rcases iL hv with z|rfl
     ·exact h.ub v z
     ·exact h.ub u dR
    ·rcases iL hv with z|rfl
     ·exact h.vn v z
     ·exact h.vn u dR
    ·rcases iL hv with z|rfl
     ·exact Vs.an v z
     ·have:=h.an u dR;show(u.cy++[m.bq]).length<=t+1;rw[gO,gJ];omega
theorem PO(h:lS t s)(hn:s.n<=4):ll t s (nB s m) 10:=by
 unfold nB;cases hu:dz s.under m.tx with
 |none=>exact .same h _
 |some i=>
  simp only;obtain⟨u,hg,m9⟩:=tT hu;rw[hg];simp only;have dR:=dg hg;by_cases hd:u.dec=true
  case pos=>rw[aG hd];exact .same h _
  case neg=>
   rw[ax hd];have hd:u.dec=false:=by simpa using hd
   have B7:aW s.log 2 m.tx=none:=by
    have:=h.ub u dR;rw[hd,m9]at this;cases hf:aW s.log 2 m.tx with
    |none=>rfl
    |some d=>rw[hf]at this;cases this
   obtain⟨v1,qV⟩:∃ v1,v1=(if(m.yes&& !(bU u m.bq).isSome)=true then{u with bk:=u.bk++[⟨m.bq,m.reads⟩]}else u):=⟨_,rfl⟩;rw[<- qV];have e1:v1.tx=u.tx:=by rw[qV];split<;>rfl
   have e2:v1.dec=u.dec:=by rw[qV];split<;>rfl
   have e3:v1.cy=u.cy:=by rw[qV];split<;>rfl
   have e4:(v1.bk.map (·.bq)).Nodup:=by
    rw[qV];split
    ·rename_i hb;have oG:m.yes=true/\(bU u m.bq).isSome=false:=by simpa using hb
     show((u.bk++[_]).map _).Nodup;rw[eI];refine il.2 ⟨h.vn u dR,by simp,λa ha b hb=>?_⟩;obtain rfl:=dL.1 hb;rintro rfl;obtain⟨v,hv,ev⟩:=bM.1 ha;have:=oG.2;unfold bU at this;simp only[Option.isSome_eq_false_iff,Option.isNone_iff_eq_none,Jw]at this;exact this v hv (by simpa using ev)
    ·exact h.vn u dR
   have Vs:=jo.mono h (nX t);split
   ·have e:=tS (v:=v1) hg e1;refine⟨⟨λv hv=>?_,by show(List.map _ (s.under.set i _)).Nodup;rw[e];exact h.un,h.nd,h.tn,λx hx iZ=>by show x.tx∈(s.under.set i _).map _\/_;rw[e];exact h.ta x hx iZ,h.tb,h.wl,λv hv=>?_,λv hv=>?_,Vs.ck⟩,[],[],by simp,by simp,by simp,by simp[ws]⟩
    ·rcases iL hv with z|rfl
     ·exact h.ub v z
     ·rw[e1,e2];exact h.ub u dR
    ·rcases iL hv with z|rfl
     ·exact h.vn v z
     ·exact e4
    ·rcases iL hv with z|rfl
     ·exact Vs.an v z
     ·rw[e3];exact Vs.an u dR
   ·generalize iw:(if m.yes=true then jG {v1 with dec:=true,yes:=m.yes} s.n else[])=rd;obtain⟨o,w1,w2,w3⟩:=FD (ops:=v1.ops) (f:=λz k _=>eX z {bK with kind:=4,to:=k,tx:=m.tx,yes:=m.yes}) (g:=λk _=>{bK with kind:=4,to:=k,tx:=m.tx,yes:=m.yes}) 2 (λk p x=>by simp[wt]) (λz k p=>rfl) {s with under:=s.under.set i {v1 with dec:=true,yes:=m.yes},log:=s.log++[{dC with kind:=2,tx:=m.tx,yes:=m.yes,reads:=rd}]};rw[w1];simp only at w2;have hi:=jo.wrote h (U':=s.under.set i {v1 with dec:=true,yes:=m.yes}) (r:={dC with kind:=2,tx:=m.tx,yes:=m.yes,reads:=rd}) (w:=o++[{bK with kind:=7,to:= -1,tx:=m.tx,yes:=m.yes,reads:=rd,bq:=s.me}]) (λ_=>B7) (tS hg e1) (λv hv=>by
      rw[dO];rcases iL hv with z|rfl
      ·by_cases ev:v.tx=m.tx
       ·
        obtain⟨j,RV,RX⟩:=mN hv;rw[eg]at RV;by_cases RY:i=j
        ·subst RY;rw[JE]at RX;rw[<- RX];simp[isRec,e1,m9]
        ·rw[JF RY]at RX;obtain⟨g1,g2⟩:=dG.1 hg;refine absurd ((List.getElem?_inj (by simpa using g1) h.un).1 ?_) RY;rw[fH,fH,hg,cK RV,RX];simp only[jR];rw[m9,ev]
       ·have eV:¬ isRec 2 v.tx ({dC with kind:=2,tx:=m.tx,yes:=m.yes,reads:=rd}:RecR)=true:=by simp[isRec];intro e;exact ev e.symm
        rw[ax eV];exact h.ub v z
      ·rw[aG (by simp[isRec,e1,m9])];rfl) (λv hv=>by
      rcases iL hv with z|rfl
      ·exact h.vn v z
      ·exact e4) (λv hv=>by
      rcases iL hv with z|rfl
      ·exact h.an v z
      ·show v1.cy.length<=t;rw[e3];exact h.an u dR) (by rw[gO,gJ];omega)
    refine⟨?_,[],o++[{bK with kind:=7,to:= -1,tx:=m.tx,yes:=m.yes,reads:=rd,bq:=s.me}],by simp[eX],by simp[eX],by simp,?_⟩
    ·have:jo t (s.under.set i {v1 with dec:=true,yes:=m.yes}) (s.log++[{dC with kind:=2,tx:=m.tx,yes:=m.yes,reads:=rd}]) s.timers ((s.waits++o)++[{bK with kind:=7,to:= -1,tx:=m.tx,yes:=m.yes,reads:=rd,bq:=s.me}]) s.aH s.clock:=by rw[sN];exact hi
     exact jo.mono this (nX t)
    ·have e5:wt ({bK with kind:=7,to:= -1,tx:=m.tx,yes:=m.yes,reads:=rd,bq:=s.me}:MsgR)=1:=by simp[wt]
     rw[Dp,Dn,PN,e5,w3];omega
theorem FF(h:lS t s)(hn:s.n<=4):ll t s (jw s m) (wt m):=by
 unfold jw;split
 ·rename_i hk;have:wt m=45:=by simp[wt,hk]
  rw[this];exact LS h hn
 split
 ·rename_i hk;have:wt m=11:=by simp[wt,hk]
  rw[this];exact FE h
 split
 ·rename_i hk;have:wt m=10:=by simp[wt,hk]
  rw[this];exact PO h hn
 split
 ·rename_i hk;have:wt m=2:=by simp[wt,hk]
  rw[this];exact HX h
 split
 ·rename_i hk;have:wt m=1:=by simp[wt,hk]
  rw[this];exact Tg h
 split
 ·rename_i hk;have:wt m=3:=by simp[wt,hk]
  rw[this];exact Tf h
 ·exact .same h _
end
section
theorem kh{l:List Int}{c:Nat}(hn:l.Nodup)(h:∀ x∈l,0<=x/\x<c):l.length<=c:=by have:=lZ hn (b:=upto c) λx hx=>rH.2 (h x hx);simpa[upto]using this
variable{T:List (List bP)}{n me:Int}
theorem ed.keys{E:List aN}(h:ed T n me E)(hT:vg T)(mP:(((E.map aN.aV).filter λr=>r.kind==2).map (·.tx)).Nodup):((E.map aN.aV).map λr=>r.kind*60+r.tx).Nodup/\∀ r∈E.map aN.aV,(1<=r.kind/\r.kind<=3)/\0<=r.tx/\r.tx<60:=by
 have du:∀ tx,(opsOf T tx).isSome=true->0<=tx/\tx<60:=λtx h=>by obtain⟨ops,h⟩:=oC.1 h;have h1:=je h;have h2:=hT.2;omega
 have add:∀ (E:List aN) (e:aN),(((E.map aN.aV).map λr=>r.kind*60+r.tx).Nodup/\∀ r∈E.map aN.aV,(1<=r.kind/\r.kind<=3)/\0<=r.tx/\r.tx<60)->(1<=e.aV.kind/\e.aV.kind<=3)->(0<=e.aV.tx/\e.aV.tx<60)->aW (E.map aN.aV) e.aV.kind e.aV.tx=none->
   (((E++[e]).map aN.aV).map λr=>r.kind*60+r.tx).Nodup/\∀ r∈(E++[e]).map aN.aV,(1<=r.kind/\r.kind<=3)/\0<=r.tx/\r.tx<60:=λE e ih hk ht hf=>by
  rw[eI,eI];refine⟨il.2 ⟨ih.1,by simp,λa ha b hb=>?_⟩,λr hr=>?_⟩
  ·obtain rfl:=dL.1 hb;rintro rfl;obtain⟨r,hr,er⟩:=bM.1 ha;have h1:=ih.2 r hr;have er:r.kind*60+r.tx=e.aV.kind*60+e.aV.tx:=er;exact kg.1 hf r hr ⟨ai,ai⟩
  ·rcases bS.1 hr with hr|hr
   ·exact ih.2 r hr
   ·obtain rfl:=dL.1 hr;exact⟨hk,ht⟩
 induction h with
 |nil=>exact⟨.nil,by simp⟩
 |@cg E tx ops h1 h2 h3 h4 h5 h6 ih=>
  rw[eI,qw,eI]at mP;exact add _ _ (ih (il.1 mP).1) ⟨by simp[aN.aV],by simp[aN.aV]⟩ (du _ (by simp only[aN.aV];rw[h2];rfl)) h4
 |@dec E tx yes reads h1 h2 ih=>
  rw[eI,qw,eI]at mP;refine add _ _ (ih (il.1 mP).1) ⟨by simp[aN.aV],by simp[aN.aV]⟩ (du _ h2) (zA.2 λhm=>?_);exact(il.1 mP).2.2 _ hm _ (by simp[aN.aV]) rfl
 |@jX E tx yes h1 h2 h3 ih=>
  rw[eI,qw,eI]at mP;exact add _ _ (ih (il.1 mP).1) ⟨by simp[aN.aV],by simp[aN.aV]⟩ (du _ h2) h3
variable{P:ek}{R:ShR}{t:Nat}
structure zB(t:Nat)(s:ShR):Prop where
 log:s.log.length<=240
 waits:s.waits.length<=1200
 timers:s.timers.length<=120
 under:s.under.length<=60
 bY:∀ u∈s.under,u.bk.length<=4/\u.cy.length<=t/\gf u.ops
 aX:s.aX.length<=26
 aeU:∀ r∈s.log,(∀ o∈r.ops,97<=o.k/\o.k<=122)/\r.ops.length<=6
 bT:s.bT.length=26
 clock:0<=s.clock/\s.clock<=t
theorem aa9(H:dB T n P R)(hT:vg T)(hn:n<=4)(h:lS t R):zB t R:=by
 have hk:=H.xa.keys hT (by rw[H.log];exact h.nd);rw[H.log]at hk;have jL:R.log.length<=240:=by
  have:=kh (c:=240) hk.1 (λx hx=>by obtain⟨r,hr,rfl⟩:=bM.1 hx;have:=hk.2 r hr;omega)
  simpa using this
 have du:∀ tx,(opsOf T tx).isSome=true->0<=tx/\tx<60:=λtx h=>by obtain⟨ops,h⟩:=oC.1 h;have h1:=je h;have h2:=hT.2;omega
 have Kt:∀ u∈R.under,R.up=true/\∃ a,lh T n R.me (u.tx,a) u:=λu hu=>by
  by_cases dP:R.up=true
  ·refine⟨dP,?_⟩;have key:∀ {l:List (Int×mo)} {m:List fO},F2 (lh T n R.me) l m->∀ u∈m,∃ a,lh T n R.me (u.tx,a) u:=by
    intro l m hf
    induction hf with
    |nil=>intro u hu;cases hu
    |cons h1 h2 ih=>
     intro u hu;rcases fR.1 hu with rfl|hu
     ·rename_i a _ _;refine⟨a.2,?_⟩;rw[<- h1.tx];exact h1
     ·exact ih u hu
   exact key (H.bY dP) u hu
  ·have dP:R.up=false:=by simpa using dP
   exact absurd hu (by rw[show R.under=[]from(H.dn dP).2.2.2.2.2];simp)
 refine⟨jL,?_,?_,?_,λu hu=>?_,?_,λr hr=>?_,?_,h.ck⟩
 ·have:=h.wl;have:=H.gl;omega
 ·have:=kh (c:=120) (l:=R.timers.map λt=>(if t.again then 60 else 0)+t.tx) (by
   have h1:=h.tn;have h2:∀ x∈R.timers,0<=x.tx/\x.tx<60:=λx hx=>du _ (H.tt x hx);unfold List.Nodup at h1⊢;rw[JB]at h1⊢;refine List.Pairwise.imp_of_mem (λ{a b} ha hb Dq e=>?_) h1;have ba:=h2 a ha;have bb:=h2 b hb;refine Dq ?_;cases ea:a.again<;>cases eb:b.again<;>simp only[ea,eb,eN,eR,gn]at e<;>first|(exfalso;omega)|(rw[Ev];exact⟨rfl,ai⟩)) (λx hx=>by
   obtain⟨y,hy,rfl⟩:=bM.1 hx;have:=du _ (H.tt y hy);split<;>omega)
  simpa using this
 ·have:=kh (c:=60) h.un (λx hx=>by obtain⟨u,hu,rfl⟩:=bM.1 hx;obtain⟨_,a,ha⟩:=Kt u hu;exact du _ (by rw[ha.ops];rfl))
  simpa using this
 ·obtain⟨_,a,ha⟩:=Kt u hu;refine⟨?_,h.an u hu,hT.of ha.ops⟩;have:=kh (c:=4) (h.vn u hu) (λx hx=>by
   obtain⟨v,hv,rfl⟩:=bM.1 hx;have h1:(bU u v.bq).isSome=true:=by unfold bU;rw[List.find?_isSome];exact⟨v,hv,by simp⟩
   have h2:=ha.ua.bk v.bq;cases hg:aB a.bk v.bq with
   |none=>rw[hg]at h2;cases hv2:bU u v.bq with
    |none=>rw[hv2]at h1;cases h1
    |some z=>rw[hv2]at h2;cases h2
   |some rd=>
    have h3:=(ha.ua.vt _ (bQ hg)).1;have hnp:0<n:=by have:=H.mb;omega
    have:=gz (hT.of ha.ops) hnp h3;simp only at this;omega)
  simpa using this
 ·by_cases dP:R.up=true
  ·have RU:=H.kl dP;have:=kh (c:=26) (l:=R.aX.map λh=>h.key-97) (by
    have:=RU.ln;unfold List.Nodup at this⊢;rw[JB]at this⊢;exact this.imp λh e=>h ai) (λx hx=>by
    obtain⟨y,hy,rfl⟩:=bM.1 hx;obtain⟨i,r,h1,h2,o,h3,h4⟩:=RU.lk y hy;obtain⟨ops,g1,_,g3,_⟩:=H.xa.ready h1 h2;rw[g3]at h3;have:=(hT.of g1).key o h3;omega)
   simpa using this
  ·have dP:R.up=false:=by simpa using dP
   rw[(H.dn dP).2.2.2.1];simp
 ·obtain⟨i,hi⟩:=o5 hr;rw[<- H.log]at hi;obtain⟨ops,g1,g2⟩:=H.xa.zo i r hi;have hk:r.kind≠1->r.ops=[]:=by
   rw[fH]at hi;cases he:P.log[i]? with
   |none=>rw[he]at hi;cases hi
   |some e=>
    rw[he]at hi;obtain rfl:=bR hi;cases e with
    |cg=>intro z;exact absurd rfl z
    |dec=>intro _;rfl
    |jX=>intro _;rfl
  by_cases k1:r.kind=1
  ·obtain⟨_,g3,_⟩:=g2 k1;rw[g3];exact⟨(hT.of g1).key,Lh (yE ..) (hT.of g1).2.2.2⟩
  ·rw[hk k1];simp
 ·by_cases dP:R.up=true
  ·exact(H.kl dP).AY
  ·have dP:R.up=false:=by simpa using dP
   rw[(H.dn dP).2.2.1];rfl
theorem jo.fresh{L:List RecR}{aH:Int}{t:Nat}{W:List MsgR}(mP:((L.filter λr=>r.kind==2).map (·.tx)).Nodup)(hg:(W.length:Int)<=5*(L.length-aH)):jo t [] L [] W aH 0:=
 ⟨by simp,.nil,mP,.nil,by simp,by simp,hg,by simp,by simp,⟨nW _,ai⟩⟩
variable{s:ShR}
theorem PQ(h:lS t s):lS (t+1) (u7 s):=
 jo.mono (t:=t) {h with wl:=by{show(([]:List MsgR).length:Int)<=5*((s.log.length:Int)-(s.log.length:Nat));simp}} (nX t)
theorem LU(h:lS t s)(hg:0<=s.aH/\s.aH<=s.log.length)(keep:Int):lS (t+1) (iV s keep):=by
 unfold iV;simp only;generalize hgd:s.aH+(if(if keep<0 then 0 else keep)<(s.log.length:Int)-s.aH then(if keep<0 then 0 else keep)else(s.log.length:Int)-s.aH)=g;have hb:0<=g/\g<=s.log.length:=by rw[<- hgd];split<;>split<;>omega
 refine jo.fresh ?_ ?_
 ·exact h.nd.sublist (((List.take_sublist ..).filter _).map _)
 ·show(0:Int)<=5*(((s.log.take g.toNat).length:Nat)-g);rw[jS];omega
theorem FG(h:lS t s)(hg:s.aH<=s.log.length):lS (t+1) (cD s):=by
 unfold cD;obtain⟨a,b,e⟩:=nF s.log (cq {s with up:=true}) s.log.length;simp only[e];have h0:jo (t+1) [] s.log [] [] s.aH 0:=jo.fresh h.nd (by show(0:Int)<=_;omega);have mP:((ku s.log).map λt=>(t.again,t.tx)).Nodup:=by unfold ku;rw[uG];have s2:((upto 60).filter λtx=>(bj s.log tx).isSome).Pairwise (· < ·):=(B1 60).sublist Jy;unfold List.Nodup;rw[JB];exact s2.imp λh e=>by simp at e;omega
 have dR:∀ x∈ku s.log,x.again=false/\(bj s.log x.tx).isSome=true:=λx hx=>by obtain⟨tx,h1,rfl⟩:=bM.1 hx;exact⟨rfl,(gI.1 h1).2⟩
 refine{h0 with tn:=mP,ta:=λx hx iZ=>?_,tb:=λx hx _=>?_}
 ·rw[(dR x hx).1]at iZ;cases iZ
 ·obtain⟨i,hi⟩:=oC.1 (dR x hx).2;refine .inl ?_;show(aW s.log 1 x.tx).isSome=true;rw[(dD hi).2];rfl
theorem PR{ops:List bP}{f:ShR->Int->List bP->ShR}(hf:∀ z k p,∃ o,f z k p={z with out:=z.out++o}/\o.length<=1)(z:ShR):∃ o,im z ops f={z with out:=z.out++o}/\o.length<=z.n.toNat:=by
 unfold im;have key:∀ (l:List Int) (n:Int) (z:ShR),∃ o,l.foldl (λz k=>if(br ops k n).isEmpty then z else f z k (br ops k n)) z={z with out:=z.out++o}/\o.length<=l.length:=by
  intro l n
  induction l with
  |nil=>intro z;exact⟨[],by simp,e8 _⟩
  |cons k l ih=>
   intro z;rw[mE];split
   ·obtain⟨o,h1,h2⟩:=ih z;exact⟨o,h1,by rw[jC];omega⟩
   ·obtain⟨o1,f1,f2⟩:=hf z k (br ops k n);rw[f1];obtain⟨o,h1,h2⟩:=ih {z with out:=z.out++o1};exact⟨o1++o,by rw[h1];simp,by rw[jC,gO];omega⟩
 obtain⟨o,h1,h2⟩:=key (upto z.n) z.n z;exact⟨o,h1,by simpa[upto]using h2⟩
theorem Tj(h:lS t s){k:Nat}{x:fU}(hk:s.timers[k]? =some x)(hn:s.n<=4):lS t (nS {s with timers:=s.timers.eraseIdx k} x)/\∃ o,(nS {s with timers:=s.timers.eraseIdx k} x).out=s.out++o/\o.length<=5/\(nS {s with timers:=s.timers.eraseIdx k} x).waits=s.waits/\(nS {s with timers:=s.timers.eraseIdx k} x).n=s.n:=by
 have h0:jo t s.under s.log (s.timers.eraseIdx k) s.waits s.aH s.clock:=
  {h with tn:=h.tn.sublist ((ko ..).map _),ta:=λy hy=>h.ta y ((ko ..).mem hy),tb:=λy hy=>h.tb y ((ko ..).mem hy)}
 have hx:=dg hk;have Fw:(x.again,x.tx)∉(s.timers.eraseIdx k).map λt=>(t.again,t.tx):=λhm=>by obtain⟨y,hy,ey⟩:=bM.1 hm;obtain⟨j,hj,RX⟩:=UG.1 hy;obtain⟨g1,g2⟩:=dG.1 RX;refine hj ((List.getElem?_inj (by rw[dW];exact g1) h.tn).1 ?_);rw[fH,fH,hk,RX];simp only[jR,ey]
 unfold nS;cases ha:x.again with
 |false=>
  simp only[Eu,eN];cases hr:bj s.log x.tx with
  |none=>exact⟨h0,[],by simp,by simp,rfl,rfl⟩
  |some r=>
   simp only;rw[ha]at Fw;exact⟨h0.tu (x:=⟨s.clock+3,false,x.tx⟩) Fw (λz=>by cases z) (λ_=>h.tb x hx ha),[_],rfl,by simp,rfl,rfl⟩
 |true=>
  simp only[s5,gn,eR];cases hu:dz s.under x.tx with
  |none=>exact⟨h0,[],by simp,by simp,rfl,rfl⟩
  |some i=>
   simp only;obtain⟨u,hg,m9⟩:=tT hu;rw[hg];simp only;rw[ha]at Fw
   suffices ao:∀ aH:Bool,∃ o,(im {s with timers:=s.timers.eraseIdx k} u.ops λz k p=>
     if(!u.dec&& !(bU u k).isSome)=true then eh z {bK with kind:=2,to:=k,tx:=x.tx,ops:=p}
     else if(u.dec&&aH&& !u.cy.contains k)=true then eh z {bK with kind:=4,to:=k,tx:=x.tx,yes:=u.yes}
     else z)={s with timers:=s.timers.eraseIdx k,out:=s.out++o}/\o.length<=5 by
    cases hf:aW s.log 2 x.tx with
    |none=>
     obtain⟨o,e1,e2⟩:=ao (decide (-1<s.aH));simp only;rw[e1];exact⟨h0.tu (x:=⟨s.clock+4,true,x.tx⟩) Fw (λ_=>h.ta x hx ha) (λz=>by cases z),o,rfl,e2,rfl,rfl⟩
    |some d=>
     obtain⟨o,e1,e2⟩:=ao (decide ((d:Int)<s.aH));simp only;rw[e1];exact⟨h0.tu (x:=⟨s.clock+4,true,x.tx⟩) Fw (λ_=>h.ta x hx ha) (λz=>by cases z),o,rfl,e2,rfl,rfl⟩
   intro aH;obtain⟨o,e1,e2⟩:=PR (ops:=u.ops) (f:=λz k p=>
     if(!u.dec&& !(bU u k).isSome)=true then eh z {bK with kind:=2,to:=k,tx:=x.tx,ops:=p}
     else if(u.dec&&aH&& !u.cy.contains k)=true then eh z {bK with kind:=4,to:=k,tx:=x.tx,yes:=u.yes}
     else z) (λz k p=>by
      split
      ·exact⟨[_],rfl,e8 _⟩
      split
      ·exact⟨[_],rfl,e8 _⟩
      ·exact⟨[],by simp,by simp⟩) {s with timers:=s.timers.eraseIdx k}
   exact⟨o,e1,by simp only at e2;omega⟩
theorem Ku{c:Int}{L:List fU}:∀ (l:List fU) (i:Nat) (acc:Option (Nat×fU)),(∀ p,acc=some p->L[p.1]? =some p.2)->L.drop i=l->∀ p,nR c l i acc=some p->L[p.1]? =some p.2
 |[],_,_,ha,_,p,h=>ha p h
 |x::l,i,acc,ha,hd,p,h=>by
  unfold nR at h;refine Ku l (i+1) _ (λq hq=>?_) (by rw[<- Jr,hd];rfl) p h;generalize(decide (x.tm<=c)&&_)=z at hq;cases z with
  |true=>
   obtain rfl:=bR hq;have:(L.drop i)[0]? =some x:=by rw[hd];rfl
   simpa using this
  |false=>exact ha q hq
theorem zC:∀ (f:Nat) (s:ShR),lS t s->s.n<=4->lS t (eU f s)/\∃ o,(eU f s).out=s.out++o/\o.length<=5*f/\(eU f s).waits=s.waits
 |0,s,h,_=>⟨h,[],by simp[eU],by simp,rfl⟩
 |f+1,s,h,hn=>by
  unfold eU;cases hd:nR s.clock s.timers 0 none with
  |none=>exact⟨h,[],by simp,by simp,rfl⟩
  |some p=>
   obtain⟨k,x⟩:=p;simp only;have hk:=Ku s.timers 0 none (L:=s.timers) (by simp) rfl _ hd;obtain⟨h1,o1,e1,e2,e3,e4⟩:=Tj h hk hn;obtain⟨h2,o2,f1,f2,f3⟩:=zC f _ h1 (by rw[e4];exact hn);exact⟨h2,o1++o2,by rw[f1,e1];simp,by rw[gO];omega,by rw[f3,e3]⟩
theorem FH(h:lS t s)(hn:s.n<=4)(ht:s.timers.length<=120):lS (t+1) (mQ s)/\∃ o,(mQ s).out=s.out++o/\o.length<=605/\(mQ s).waits=s.waits:=by unfold mQ;simp only;have h1:lS (t+1) {s with clock:=s.clock+1}:={jo.mono h (nX t)with ck:=by{have:=h.ck;show 0<=s.clock+1/\s.clock+1<=((t+1:Nat):Int);omega}};obtain⟨h2,o,e1,e2,e3⟩:=zC (Pb {s with clock:=s.clock+1}+1) {s with clock:=s.clock+1} h1 hn;refine⟨h2,o,e1,?_,e3⟩;have:Pb {s with clock:=s.clock+1}<=s.timers.length:=yE ..;omega
def sT(l:List ShR):Nat:=(l.map λs=>ws s.waits).sum
structure lq(t:Nat)(w:WR):Prop where
 sh:∀ s∈w.sh,lS t s
 phi:ws w.aK+sT w.sh<=300000
theorem zD:∀ {l:List ShR} {a:Nat} {s:ShR} (x:ShR),l[a]? =some s->sT (l.set a x)+ws s.waits=sT l+ws x.waits
 |y::l,0,s,x,h=>by
  obtain rfl:y=s:=by simpa using h
  simp[sT];omega
 |y::l,a+1,s,x,h=>by have:=zD (l:=l) x (by simpa using h);simp only[xE];simp only[sT,gW,List.sum_cons]at this⊢;omega
theorem Ds{c:Nat}:∀ {l:List ShR},(∀ s∈l,ws s.waits<=c)->sT l<=l.length*c
 |[],_=>by simp[sT]
 |s::l,h=>by have h1:=Ds (l:=l) λx hx=>h x (fp _ hx);have h2:=h s (fY ..);simp only[sT,gW,List.sum_cons,jC,qI]at h1⊢;omega
variable{W:WP}{w:WR}
theorem lq.size(I:lq t w)(H:iI W w){s:ShR}(hs:s∈w.sh):zB t s/\0<=s.aH/\s.aH<=s.log.length/\s.n=w.sh.length/\s.out=[]:=by obtain⟨i,hi⟩:=o5 hs;obtain⟨du,_⟩:=dG.1 hi;obtain⟨P,R,h1,h2,h3,h4,h5⟩:=H.xd i du;rw[hi]at h2;obtain rfl:=bR h2;exact⟨aa9 h3 H.tok (by have:=H.n;omega) (I.sh _ hs),h3.gl.1,h3.gl.2,h3.n2,h5⟩
theorem lq.waits(I:lq t w)(H:iI W w):sT w.sh<=216000:=by
 have h1:∀ s∈w.sh,ws s.waits<=54000:=λs hs=>by have:=(I.size H hs).1.waits;have:=(B5 s.waits).2;omega
 have:=Ds h1;have:=H.n;have:w.sh.length*54000<=4*54000:=CS _ ai;omega
theorem lq.mono(I:lq t w):lq (t+1) w:=⟨λs hs=>jo.mono (I.sh s hs) (nX t),I.phi⟩
theorem lq.push(I:lq t w)(H:iI W w)(hb:w.aK.length<400)(m:MsgR){aF:List TxR}:lq (t+1) {w with aK:=w.aK++[m],aF:=aF}:=by refine⟨I.mono.sh,?_⟩;have h1:=I.waits H;have h2:=(B5 w.aK).2;have h3:=PM m;show ws (w.aK++[m])+sT w.sh<=_;rw[Dn,PN];omega
theorem lq.A3(I:lq t w){a:Nat}{s x:ShR}(ha:w.sh[a]? =some s)(hi:lS (t+1) x)(aeV:ws w.aK+ws x.out+sT w.sh+ws x.waits<=300000+ws s.waits):lq (t+1) (ml w a x):=by
 refine⟨λy hy=>?_,?_⟩
 ·rcases iL hy with z|rfl
  ·exact I.mono.sh y z
  ·exact hi
 ·have:=zD (l:=w.sh) {x with out:=[]} ha;show ws (w.aK++x.out)+sT (w.sh.set a {x with out:=[]})<=_;rw[Dn];simp only at this;omega
theorem HY(I:lq t w)(H:iI W w)(hb:w.aK.length<400)(tx:Nat):lq (t+1) (iW w tx):=by
 unfold iW;split
 ·exact I.mono
 ·exact I.push H hb _
theorem xf(I:lq t w)(H:iI W w)(ops:List bP):lq (t+1) (bZ w ops).1:=by
 unfold bZ;split
 ·exact I.mono
 split
 ·exact I.mono
 split
 ·exact I.mono
 ·rename_i h;dsimp only;unfold iW;simp only[xF (e8 _),yF,NV];exact I.push H ai _
theorem FI:∀ {l:List MsgR} {i:Nat} {m:MsgR},l[i]? =some m->ws (l.eraseIdx i)+wt m=ws l
 |x::l,0,m,h=>by
  obtain rfl:x=m:=by simpa using h
  simp[ws];omega
 |x::l,i+1,m,h=>by have:=FI (l:=l) (i:=i) (by simpa using h);simp only[NW];simp only[ws,gW,List.sum_cons]at this⊢;omega
theorem Dt(I:lq t w)(H:iI W w)(k i:Int):lq (t+1) (gR w k i).1:=by
 unfold gR;by_cases c1:i<0\/(w.aK.length:Int)<=i
 ·rw[aG c1];exact I.mono
 rw[ax c1];cases hm:w.aK[i.toNat]? with
 |none=>exact I.mono
 |some m=>
  dsimp only;by_cases c2:k=4
  ·rw[aG c2];by_cases c3:400<=w.aK.length
   ·rw[aG c3];exact I.mono
   rw[ax c3];exact I.push H ai m
  rw[ax c2];have he:=FI hm;have I1:lq t {w with aK:=w.aK.eraseIdx i.toNat}:=⟨I.sh,by have:=I.phi;show ws (w.aK.eraseIdx _)+sT w.sh<=_;omega⟩;by_cases c3:k=3
  ·rw[aG c3];exact I1.mono
  rw[ax c3];by_cases c4:m.to= -1
  ·rw[aG c4,vj];exact⟨I1.mono.sh,I1.phi⟩
  rw[ax c4];cases hs:w.sh[m.to.toNat]? with
  |none=>exact I1.mono
  |some s=>
   dsimp only;by_cases c5:s.up=true
   ·rw[aG c5];have dR:=dg hs;have hz:=I.size H dR;have hT:=FF (m:=m) (I.sh s dR) (by rw[hz.2.2.2.1];have:=H.n;omega);obtain⟨o,x,e1,e2,e3,e4⟩:=hT.o;refine I1.A3 hs hT.inv ?_;rw[e1,e2,hz.2.2.2.2,ez,Dn];have:=I.phi;show ws (w.aK.eraseIdx _)+ws o+sT w.sh+(ws s.waits+ws x)<=_;omega
   ·rw[ax c5];exact I1.mono
theorem Kv(I:lq t w)(H:iI W w)(k a b:Int):lq (t+1) (gH w k a b).1:=by
 unfold gH;by_cases c1:k<1\/8<k
 ·rw[aG c1];exact I.mono
 rw[ax c1];by_cases c2:w.aj=true
 ·rw[aG c2];exact I.mono
 rw[ax c2];by_cases c3:k=1
 ·rw[aG c3];by_cases d1:a<0\/(w.aF.length:Int)<=a
  ·rw[aG d1];exact I.mono
  rw[ax d1];by_cases d2:400<=w.aK.length
  ·rw[aG d2];exact I.mono
  rw[ax d2];exact HY I H ai _
 rw[ax c3];by_cases c4:k<=4
 ·rw[aG c4];exact Dt I H k a
 rw[ax c4];by_cases c5:a<0\/(w.sh.length:Int)<=a
 ·rw[aG c5];exact I.mono
 rw[ax c5];have du:a.toNat<w.sh.length:=ai;obtain⟨P,R,h1,h2,h3,h4,h5⟩:=H.xd a.toNat du;have dR:=dg h2;have hz:=I.size H dR;have aeV:=I.phi;rw[h2];dsimp only;by_cases c6:k=8
 ·rw[aG c6];by_cases d1:R.up=true
  ·rw[aG d1];exact I.mono
  rw[ax d1];have hr:=FG (I.sh R dR) hz.2.2.1;refine⟨λy hy=>?_,?_⟩
  ·rcases iL hy with z|rfl
   ·exact I.mono.sh y z
   ·exact hr
  ·have hw:(cD R).waits=[]:=by unfold cD;obtain⟨a,b,e⟩:=nF R.log (cq {R with up:=true}) R.log.length;simp only[e];rfl
   have:=zD (l:=w.sh) (cD R) h2;rw[hw,Dp]at this;show ws w.aK+sT (w.sh.set _ _)<=_;omega
 rw[ax c6];by_cases c7:(!R.up)=true
 ·rw[aG c7];exact I.mono
 rw[ax c7];by_cases c8:k=5
 ·rw[aG c8];refine I.A3 h2 (PQ (I.sh R dR)) ?_;show ws w.aK+ws (R.out++R.waits)+_+ws []<=_;rw[h5,ez,Dp];omega
 rw[ax c8];by_cases c9:k=6
 ·rw[aG c9];by_cases d1:150<w.aK.length
  ·rw[aG d1];exact I.mono
  rw[ax d1];obtain⟨g1,o,g2,g3,g4⟩:=FH (I.sh R dR) (by rw[hz.2.2.2.1];have:=H.n;omega) hz.1.timers;refine I.A3 h2 g1 ?_;rw[g2,g4,h5,ez];have e1:=I.waits H;have e2:=(B5 w.aK).2;have e3:=(B5 o).2;omega
 rw[ax c9];refine I.A3 h2 (LU (I.sh R dR) ⟨hz.2.1,hz.2.2.1⟩ b) ?_;show ws w.aK+ws R.out+_+ws []<=_;rw[h5,Dp];omega
theorem Kw{n:Int}:lq 0 (kU n):=by
 refine⟨λs hs=>?_,?_⟩
 ·obtain⟨k,_,rfl⟩:=bM.1 hs;exact jo.fresh .nil (nW _)
 ·have:sT (kU n).sh<=(kU n).sh.length*0:=Ds λs hs=>by obtain⟨k,_,rfl⟩:=bM.1 hs;exact e8 _
  show 0+_<=_;omega
theorem iI.aba(H:iI W w){m:MsgR}(hm:m∈w.aK):(∀ o∈m.ops,97<=o.k/\o.k<=122)/\m.ops.length<=6:=by
 obtain⟨ops,ho,hc⟩:=H.msg m hm;have hr:=H.tok.of ho;have h0:(∀ o∈ops,97<=o.k/\o.k<=122)/\ops.length<=6:=⟨λo h=>⟨(hr.1 o h).1,(hr.1 o h).2.1⟩,hr.2.2.2⟩;have hn:∀ l:List bP,l=[]->(∀ o∈l,97<=o.k/\o.k<=122)/\l.length<=6:=λl h=>by subst h;simp
 rcases hc with h|h|h|h|h|h|h
 ·rw[h.2.2.2];exact h0
 ·rw[h.2.2.2];refine⟨λo ho=>h0.1 o (gI.1 ho).1,Lh (yE _ _) h0.2⟩
 ·exact hn _ h.2.2.2.2
 ·exact hn _ h.2.2.2
 ·exact hn _ h.2.2.2
 ·exact hn _ h.2.2.2
 ·exact hn _ h.2.2
theorem iI.mto(H:iI W w){m:MsgR}(hm:m∈w.aK):(m.to= -1/\0<=m.tx/\m.tx<w.aF.length)\/(0<=m.to/\m.to<w.sh.length):=by
 obtain⟨ops,ho,hc⟩:=H.msg m hm;have hr:=H.tok.of ho;have hn:(0:Int)<w.sh.length:=by have:=H.n;omega
 have eV:ops≠[]:=by have:=hr.2.2.1;intro z;rw[z]at this;simp at this
 have hh:=gz hr hn (n9 eV);rcases hc with h|h|h|h|h|h|h
 ·rw[h.2.2.1];exact .inr hh
 ·exact .inr (gz hr hn h.2.2.1)
 ·rw[h.2.1];exact .inr hh
 ·exact .inr (gz hr hn h.2.2.1)
 ·rw[h.2.1];exact .inr hh
 ·rw[h.2.1];exact .inr hh
 ·have:=je ho;have e:=H.vi;refine .inl ⟨h.2.1,?_,?_⟩<;>omega
theorem lq.aK(I:lq t w):w.aK.length<=300000:=by have h1:=(B5 w.aK).1;have h2:=I.phi;omega
theorem lq.take(I:lq t w)(H:iI W w){s:ShR}(hs:s∈w.sh){m:MsgR}(hm:m∈w.aK):(jw s m).out.length<=5:=by obtain⟨h1,_,_,h4,h5⟩:=I.size H hs;obtain⟨_,o,w',e1,_,e3,_⟩:=FF (m:=m) (I.sh s hs) (by have:=H.n;omega);rw[e1,h5];simpa using e3
theorem iI.abb(H:iI W w){x:TxR}(hx:x∈w.aF):(∀ o∈x.ops,97<=o.k/\o.k<=122)/\x.ops.length<=6/\1<=x.ops.length:=by have hr:=H.tok.1 x.ops (by unfold cJ;exact bM.2 ⟨x,hx,rfl⟩);exact⟨λo h=>⟨(hr.1 o h).1,(hr.1 o h).2.1⟩,hr.2.2.2,hr.2.2.1⟩
theorem iI.aeW(H:iI W w):w.aF.length<=60:=by have:=H.tok.2;have e:=H.vi;omega
variable{φ:Int->Prop}
def vm(φ:Int->Prop)(l:List bP):Prop:=∀ o∈l,φ o.v
def mM(φ:Int->Prop)(l:List Int):Prop:=∀ x∈l,φ x
def LV(φ:Int->Prop)(m:MsgR):Prop:=vm φ m.ops/\mM φ m.reads
def Tk(φ:Int->Prop)(r:RecR):Prop:=vm φ r.ops/\mM φ r.reads
def Xb(φ:Int->Prop)(u:fO):Prop:=vm φ u.ops/\∀ v∈u.bk,mM φ v.reads
structure fx(φ:Int->Prop)(s:ShR):Prop where
 log:∀ r∈s.log,Tk φ r
 bT:mM φ s.bT
 bY:∀ u∈s.under,Xb φ u
 waits:∀ m∈s.waits,LV φ m
 out:∀ m∈s.out,LV φ m
structure we(φ:Int->Prop)(w:WR):Prop where
 sh:∀ s∈w.sh,fx φ s
 aK:∀ m∈w.aK,LV φ m
 aF:∀ t∈w.aF,vm φ t.ops/\mM φ t.reads
theorem vm.nil:vm φ []:=λ_ h=>by cases h
theorem mM.nil:mM φ []:=λ_ h=>by cases h
theorem jf{A:Type}{p:A->Prop}{l:List A}{x:A}(h:∀ y∈l,p y)(hx:p x):∀ y∈l++[x],p y:=λy hy=>by
 rcases bS.1 hy with hy|hy
 ·exact h y hy
 ·obtain rfl:=dL.1 hy;exact hx
theorem nG{A:Type}{p:A->Prop}{l:List A}{i:Nat}{x:A}(h:∀ y∈l,p y)(hx:p x):∀ y∈l.set i x,p y:=λy hy=>by
 rcases iL hy with hy|rfl
 ·exact h y hy
 ·exact hx
theorem zE{A:Type}{p:A->Prop}{l:List A}{i:Nat}(h:∀ y∈l,p y):∀ y∈l.eraseIdx i,p y:=λy hy=>h y ((ko ..).mem hy)
theorem vm.part{l:List bP}(h:vm φ l)(k n:Int):vm φ (br l k n):=λo ho=>h o (gI.1 ho).1
theorem fx.eh{s:ShR}(h:fx φ s){m:MsgR}(hm:LV φ m):fx φ (eh s m):={h with out:=jf h.out hm}
theorem fx.eX{s:ShR}(h:fx φ s){m:MsgR}(hm:LV φ m):fx φ (eX s m):={h with waits:=jf h.waits hm}
theorem fx.qW{s:ShR}(h:fx φ s)(t:List fU):fx φ {s with timers:=t}:={h with}
theorem fx.wrote{s:ShR}(h:fx φ s){r:RecR}(hr:Tk φ r):fx φ {s with log:=s.log++[r]}:={h with log:=jf h.log hr}
theorem fx.Tl{s:ShR}(h:fx φ s)(i:Nat):Tk φ (s.log[i]?.getD dC):=by
 cases e:s.log[i]? with
 |none=>exact⟨.nil,.nil⟩
 |some r=>exact h.log r (dg e)
theorem fx.each{s:ShR}(h:fx φ s){ops:List bP}(ho:vm φ ops){f:ShR->Int->List bP->ShR}(hf:∀ z k p,fx φ z->vm φ p->fx φ (f z k p)):fx φ (im s ops f):=by
 unfold im;have key:∀ (l:List Int) (z:ShR) (n:Int),fx φ z->fx φ (l.foldl (λz k=>if(br ops k n).isEmpty then z else f z k (br ops k n)) z):=by
  intro l
  induction l with
  |nil=>intro z n hz;exact hz
  |cons k l ih=>
   intro z n hz;rw[mE];refine ih _ n ?_;split
   ·exact hz
   ·exact hf _ _ _ hz (ho.part k n)
 exact key _ _ _ h
theorem mM.seen{bT:List Int}(h0:φ 0)(h:mM φ bT)(ops:List bP):mM φ (fe bT ops):=λx hx=>by
 obtain⟨o,_,rfl⟩:=bM.1 hx;cases e:bT[(o.k-97).toNat]? with
 |none=>exact h0
 |some v=>exact h v (dg e)
theorem mM.write:∀ {ops:List bP} {bT:List Int},mM φ bT->vm φ ops->mM φ (cA bT ops)
 |[],_,h,_=>h
 |o::l,bT,h,ho=>by
  show mM φ (cA (if o.w then bT.set (o.k-97).toNat o.v else bT) l);refine mM.write ?_ λx hx=>ho x (fp _ hx);split
  ·exact nG h (ho o (fY ..))
  ·exact h
theorem mM.gG{u:fO}(h0:φ 0)(h:∀ v∈u.bk,mM φ v.reads)(n:Int):∀ (l:List bP) (used:Int->Nat),mM φ (gG u n l used)
 |[],_=>.nil
 |o::l,used=>by
  unfold Go.Sl.gG;split
  ·exact mM.gG h0 h n l used
  ·intro x hx;rcases fR.1 hx with rfl|hx
   ·cases e:bU u (atR o.k n)with
    |none=>simpa using h0
    |some v=>
     simp only[jR,iA];cases e2:v.reads[used (atR o.k n)]? with
     |none=>exact h0
     |some y=>exact h v (Bt e) y (dg e2)
   ·exact mM.gG h0 h n l _ x hx
theorem fx.at{s:ShR}(h:fx φ s){i:Nat}{u:fO}(e:s.under[i]? =some u):Xb φ u:=h.bY u (dg e)
theorem PS{s:ShR}{m:MsgR}(h0:φ 0)(h:fx φ s)(hm:LV φ m):fx φ (jw s m):=by
 unfold jw;split
 ·unfold kT;split
  ·split
   ·exact h.eh ⟨.nil,(h.Tl _).2⟩
   ·exact h
  ·split
   ·exact h
   ·refine fx.qW (fx.each (s:={s with under:=s.under++[⟨m.tx,m.ops,[],false,false,[]⟩]}) {h with bY:=jf h.bY ⟨hm.1,by simp⟩} hm.1 λz k p hz hp=>hz.eh ⟨hp,.nil⟩) _
 split
 ·unfold gQ;split
  ·split
   ·exact h.eh ⟨.nil,h.bT.seen h0 _⟩
   ·exact h
  ·split
   ·split
    ·exact h
    ·exact h.eh ⟨.nil,.nil⟩
   ·split
    ·exact h.eh ⟨.nil,.nil⟩
    ·exact fx.qW (fx.eX (s:={s with aX:=tf s.aX m.tx m.ops,log:=s.log++[{dC with kind:=1,tx:=m.tx,home:=m.bq,ops:=m.ops}]}) {h with log:=jf h.log ⟨hm.1,.nil⟩} ⟨.nil,h.bT.seen h0 _⟩) _
 split
 ·unfold nB;split
  ·exact h
  ·rename_i i _;split
   ·exact h
   ·rename_i u e;have hu:=h.at e;split
    ·exact h
    ·simp only;obtain⟨u1,AH⟩:∃ u1,u1=(if(m.yes&& !(bU u m.bq).isSome)=true then({u with bk:=u.bk++[⟨m.bq,m.reads⟩]}:fO)else u):=⟨_,rfl⟩;rw[<- AH];have h1:Xb φ u1:=by
      rw[AH];split
      ·exact⟨hu.1,jf hu.2 hm.2⟩
      ·exact hu
     split
     ·exact{h with bY:=nG h.bY h1}
     ·have iw:mM φ (if m.yes=true then jG {u1 with dec:=true,yes:=m.yes} s.n else[]):=by
       split
       ·exact mM.gG (u:={u1 with dec:=true,yes:=m.yes}) h0 h1.2 _ _ _
       ·exact .nil
      refine fx.eX (fx.each (s:={s with under:=s.under.set i {u1 with dec:=true,yes:=m.yes},log:=s.log++[_]}) {h with bY:=nG h.bY h1,log:=jf h.log ⟨.nil,iw⟩} h1.1 λz k p hz _=>hz.eX ⟨.nil,.nil⟩) ⟨.nil,iw⟩
 split
 ·unfold ju;split
  ·simp only;refine fx.eX ?_ ⟨.nil,.nil⟩;split
   ·exact{h with log:=jf h.log ⟨.nil,.nil⟩,bT:=h.bT.write (h.Tl _).1}
   ·exact{h with log:=jf h.log ⟨.nil,.nil⟩}
  ·split
   ·split
    ·exact h.eh ⟨.nil,.nil⟩
    ·exact h
   ·split
    ·exact h
    ·exact fx.eX (h.wrote ⟨.nil,.nil⟩) ⟨.nil,.nil⟩
 split
 ·unfold u5;split
  ·exact h
  ·split
   ·exact h
   ·rename_i u e;have hu:=h.at e;split
    ·exact h
    ·simp only;split
     ·exact{h with bY:=zE h.bY}
     ·exact{h with bY:=nG h.bY hu}
 split
 ·unfold u6;split
  ·split
   ·exact h.eh ⟨.nil,.nil⟩
   ·exact h
  ·split
   ·exact h
   ·exact fx.eX (h.wrote ⟨.nil,.nil⟩) ⟨.nil,.nil⟩
 ·exact h
theorem PT{s:ShR}(h:fx φ s):fx φ (u7 s):=⟨h.log,h.bT,h.bY,λm hm=>(by cases hm),λm hm=>by
 rcases bS.1 hm with hm|hm
 ·exact h.out m hm
 ·exact h.waits m hm⟩
theorem Tm{s:ShR}(h:fx φ s)(t:fU):fx φ (nS s t):=by
 unfold nS;split
 ·split
  ·exact fx.qW (h.eh ⟨.nil,.nil⟩) _
  ·exact h
 ·split
  ·exact h
  ·split
   ·exact h
   ·rename_i u e;have hu:=h.at e;refine fx.qW (fx.each h hu.1 λz k p hz hp=>?_) _
    repeat' split
    all_goals first|exact hz|exact hz.eh ⟨hp,mM.nil⟩|exact hz.eh ⟨vm.nil,mM.nil⟩
theorem zF:∀ (f:Nat) {s:ShR},fx φ s->fx φ (eU f s)
 |0,_,h=>h
 |f+1,s,h=>by
  unfold eU;split
  ·exact h
  ·exact zF f (Tm (h.qW _) _)
theorem PU{s:ShR}(h:fx φ s):fx φ (mQ s):=zF _ {h with}
theorem B8(h0:φ 0):mM φ bO:=λx hx=>by rw[UH hx];exact h0
theorem zG{s:ShR}(h0:φ 0)(h:fx φ s):fx φ (cq s):=⟨h.log,B8 h0,by simp[cq],by simp[cq],h.out⟩
theorem LW{s:ShR}(h0:φ 0)(h:fx φ s)(k:Int):fx φ (iV s k):=zG h0 {h with log:=λr hr=>h.log r (EF hr)}
theorem zH{log:List RecR}(hl:∀ r∈log,Tk φ r):∀ (i:Nat) {s:ShR},fx φ s->fx φ (cU log i s)
 |0,_,h=>h
 |i+1,s,h=>by
  have ih:=zH hl i h;unfold cU;simp only;split
  ·exact ih
  ·split
   ·exact{ih with}
   ·split
    ·split
     ·rename_i p _;split
      ·refine{ih with bT:=ih.bT.write ?_};cases e:log[p]? with
       |none=>exact .nil
       |some r=>exact(hl r (dg e)).1
      ·exact{ih with}
     ·exact{ih with}
    ·exact ih
theorem FJ{s:ShR}(h0:φ 0)(h:fx φ s):fx φ (cD s):=fx.qW (zH h.log _ (zG h0 (s:={s with up:=true}) {h with})) _
theorem Tn(h0:φ 0)(n:Int):we φ (kU n):=⟨λs hs=>by obtain⟨k,_,rfl⟩:=bM.1 hs;exact⟨by simp[jQ,cq],B8 h0,by simp[jQ,cq],by simp[jQ,cq],by simp[jQ,cq]⟩,by simp[kU],by simp[kU]⟩
theorem B9{w:WR}(h:we φ w)(tx:Nat):we φ (iW w tx):=by
 unfold iW;split
 ·exact h
 ·rename_i t e;exact{h with aK:=jf h.aK ⟨(h.aF t (dg e)).1,.nil⟩}
theorem HZ{w:WR}(h:we φ w){ops:List bP}(ho:vm φ ops):we φ (bZ w ops).1:=by
 unfold bZ;split
 ·exact h
 split
 ·exact h
 split
 ·exact h
 ·exact B9 (w:={w with aF:=w.aF++[⟨ops,1,[]⟩]}) {h with aF:=jf h.aF ⟨ho,.nil⟩} _
theorem vo{w:WR}(h:we φ w){s:ShR}(hs:fx φ s)(a:Nat):we φ (ml w a s):=
 ⟨nG h.sh {hs with out:=λm hm=>by cases hm},λm hm=>by
  rcases bS.1 hm with hm|hm
  ·exact h.aK m hm
  ·exact hs.out m hm,h.aF⟩
theorem FK{w:WR}(h0:φ 0)(h:we φ w)(k i:Int):we φ (gR w k i).1:=by
 unfold gR;split
 ·exact h
 split
 ·exact h
 ·rename_i m e;have hm:=h.aK m (dg e);have h1:we φ {w with aK:=w.aK.eraseIdx i.toNat}:={h with aK:=zE h.aK};split
  ·split
   ·exact h
   ·exact{h with aK:=jf h.aK hm}
  ·simp only;split
   ·exact h1
   ·split
    ·unfold p9;split
     ·exact h1
     ·rename_i t et;have ht:=h.aF t (dg et);split
      ·refine{h1 with aF:=nG h1.aF ?_};split
       ·exact⟨ht.1,hm.2⟩
       ·exact ht
      ·exact h1
    ·split
     ·exact h1
     ·rename_i s es;split
      ·exact vo h1 (PS h0 (h.sh s (dg es)) hm) _
      ·exact h1
theorem Xc{w:WR}(h0:φ 0)(h:we φ w)(k a b:Int):we φ (gH w k a b).1:=by
 unfold gH;split
 ·exact h
 split
 ·exact h
 split
 ·split
  ·exact h
  split
  ·exact h
  ·exact B9 h _
 split
 ·exact FK h0 h k a
 split
 ·exact h
 split
 ·exact h
 ·rename_i s es;have hs:=h.sh s (dg es);split
  ·split
   ·exact h
   ·exact{h with sh:=nG h.sh (FJ h0 hs)}
  split
  ·exact h
  split
  ·exact vo h (PT hs) _
  split
  ·split
   ·exact h
   ·exact vo h (PU hs) _
  ·exact vo h (LW h0 hs b) _
variable{P:bL}{ao:Bool}{B:kJ}{R:Nat->aM->Array Obj->Prop}{d:Nat}{As L:List HP}
variable{fn:bJ}{kd:Kd}{n:Nat}{e:Nat->Value}{ds:List eo}{k:List Item}{cs:List Frame}
variable{ops:Array Oper}{i:Nat}{aa:List Nat}{ty:aO}{pos:String}{af:Array Edge}{gd:Option (Nat×Bool)}{x y:cZ}{tt t2:aO}{kk kq:IntKind}{p q r:Int}
def Kx(op:BinOp)(kk:IntKind)(p q:Int):Option Int:=match op with
 |.and=>some (kk.wrap (BitVec.ofInt kk.bits p&&& BitVec.ofInt kk.bits q).toNat)
 |.xor=>some (kk.wrap (BitVec.ofInt kk.bits p^^^BitVec.ofInt kk.bits q).toNat)
 |_=>none
theorem ab.bt(C:ab P ao B R){op:BinOp}(ho:aZ ops i=some ⟨some t,.binOp op tt x y t2,ty,pos,af,gd⟩)(hr:Kx op kk p q=some r)(h:Nx R d As fn kd n e ds ops aa k cs t (.int kk r))
  (hx:ev n e x=.int kk p:=by rfl) (hy:ev n e y=.int kk q:=by rfl) (hw:aL ops n e gd=true:=by rfl):Nw R d As fn kd n e ds ops i aa k cs:=
 C.val ho hw (λB H d Q q'=>by
  unfold execOp;simp only[hx,hy];refine ae (ae (gb B H d _ ?_));cases op<;>simp only[Kx,wP]at hr<;>first|(cases hr;done)|skip
  all_goals(subst hr;unfold binOp;simp only[ne_eq,Hg,eR,Op.intBits];exact q')) h
theorem ab.sl(C:ab P ao B R)(ho:aZ ops i=some ⟨some t,.binOp .shl tt x y t2,ty,pos,af,gd⟩)(hr:kk.wrap (p*2^min q.toNat kk.bits)=r)(h:Nx R d As fn kd n e ds ops aa k cs t (.int kk r))
  (hx:ev n e x=.int kk p:=by rfl) (hy:ev n e y=.int kq q:=by rfl) (h0:¬ q<0:=by first|decide|omega) (hw:aL ops n e gd=true:=by rfl):Nw R d As fn kd n e ds ops i aa k cs:=
 C.val ho hw (λB H d Q q'=>by unfold execOp;simp only[hx,hy];refine ae (ae (gb B H d _ ?_));unfold binOp Op.shift;simp only[ax h0,hr];exact q') h
theorem ab.sr(C:ab P ao B R)(ho:aZ ops i=some ⟨some t,.binOp .shr tt x y t2,ty,pos,af,gd⟩)(hr:p.fdiv (2^min q.toNat kk.bits)=r)(h:Nx R d As fn kd n e ds ops aa k cs t (.int kk r))
  (hx:ev n e x=.int kk p:=by rfl) (hy:ev n e y=.int kq q:=by rfl) (h0:¬ q<0:=by first|decide|omega) (hw:aL ops n e gd=true:=by rfl):Nw R d As fn kd n e ds ops i aa k cs:=
 C.val ho hw (λB H d Q q'=>by unfold execOp;simp only[hx,hy];refine ae (ae (gb B H d _ ?_));unfold binOp Op.shift;simp only[ax h0,hr];exact q') h
theorem ab.ixs(C:ab P ao B R){s:ByteArray}{b:UInt8}(hs:P.underlying tt=some .string)(ho:aZ ops i=some ⟨some t,.index tt x y,ty,pos,af,gd⟩)(hb:s[q.toNat]? =some b)(h0:0<=q)(h:Nx R d As fn kd n e ds ops aa k cs t (.int .u8 (b.toNat:Int)))
  (hx:ev n e x=.string s:=by rfl) (hy:ev n e y=.int kq q:=by rfl) (hw:aL ops n e gd=true:=by rfl):Nw R d As fn kd n e ds ops i aa k cs:=
 C.val ho hw (λB H d Q q'=>by unfold execOp;simp only[hx,hy,Instr.index,asIntOf];refine ae (ae (aA (ae (dF hs B H d _ ?_))));simp only[aG h0,hb];exact q') h
theorem H0(a:Nat)(h:a<2^64):IntKind.u64.wrap (a:Int)=a:=by simp only[IntKind.wrap,IntKind.bits,IntKind.signed,yD,gn,false_and,eR];omega
theorem Xd(a b:Nat)(ha:a<2^64)(hb:b<2^64):Kx .xor .u64 (a:Int) (b:Int)=some ((a^^^b:Nat):Int):=by
 have h:=Ob ha hb;have e:(BitVec.ofInt 64 (a:Int)^^^BitVec.ofInt 64 (b:Int)).toNat=a^^^b:=by rw[JG,JG,BitVec.toNat_xor,JH,JH,yy ha,yy hb]
 show some (IntKind.u64.wrap ((BitVec.ofInt 64 (a:Int)^^^BitVec.ofInt 64 (b:Int)).toNat))=_;rw[e,H0 _ h]
theorem aeX(a b:Nat)(ha:a<2^64)(hb:b<2^64):Kx .and .u64 (a:Int) (b:Int)=some ((a&&& b:Nat):Int):=by
 have h:=Nat.and_lt_two_pow a hb;have e:(BitVec.ofInt 64 (a:Int)&&& BitVec.ofInt 64 (b:Int)).toNat=a&&& b:=by rw[JG,JG,BitVec.toNat_and,JH,JH,yy ha,yy hb]
 show some (IntKind.u64.wrap ((BitVec.ofInt 64 (a:Int)&&& BitVec.ofInt 64 (b:Int)).toNat))=_;rw[e,H0 _ h]
end
section
abbrev aD(n:Int):Value:=.int .i64 n
theorem aY{p:Oper->Prop}{x:Option Oper}{o:Oper}(h:p o)(hx:x=some o:=by rfl):∃ o,x=some o/\p o:=⟨o,hx,h⟩
structure na(q:Prop):Prop where d:q
theorem cr{p q:Prop}(h:q)(f:na q->p:=by intro h;simp only[fi,ez];exact h.d):p:=f ⟨h⟩
theorem qY{p q:Prop}(h:q)(f:na q->p:=by intro h;simp only[ez];exact h.d):p:=f ⟨h⟩
variable{P:bL}{ao:Bool}{B:kJ}{R:Nat->aM->Array Obj->Prop}{d:Nat}{As:List HP}{fn:bJ}{kd:Kd}{n:Nat}{e:Nat->Value}{ds:List eo}{k:List Item}{cs:List Frame}
theorem ab.jq(C:ab P ao B R){ops:Array Oper}{i:Nat}{aa:List Nat}{t:Nat}{ty:aO}{pos:String}{af:Array Edge}{gd:Option (Nat×Bool)}{x y:cZ}{tt t2:aO}{p q:Int}{op:BinOp}(m:Nat)(ho:aZ ops i=some ⟨some t,.binOp op tt x y t2,ty,pos,af,gd⟩)(h:Nx R d As fn kd n e ds ops aa k cs t (.int .i64 (m:Int)))
 (hx:ev n e x=.int .i64 p:=by rfl) (hy:ev n e y=.int .i64 q:=by rfl) (ha:arith op p q=some (m:Int):=by exact congrArg some (by omega)) (hr:IntKind.i64.wrap (m:Int)=(m:Int):=by exact uy (by omega) (by omega)) (hw:aL ops n e gd=true:=by rfl):Nw R d As fn kd n e ds ops i aa k cs:=C.ar ho h hx hy ha hr hw
theorem ab.cE(C:ab P ao B R){ops:Array Oper}{i:Nat}{aa:List Nat}{dst:Option Nat}{ty:aO}{pos:String}{af:Array Edge}{gd:Option (Nat×Bool)}{F:List HP}{f:bJ}{fu:Func}{c:Code}{nf:Nat}[b:Body P f fu c nf]{fo:cZ}{args:Array cZ}{gy:Array aO}{vl:List Value}{A A1:List HP}{v0:Value}(hs:aI P ao B f vl.toArray A (λv As=>v=v0/\As=A1))(h:At R d (A1++F) (gr fn kd n (dm e dst v0) ds (.inRegion ops aa::k) cs))
 (ho:aZ ops i=some ⟨dst,.call ⟨.value fo,args,gy⟩,ty,pos,af,gd⟩:=by rfl) (hv:args.toList.map (ev n e)=vl:=by rfl) (hf:ev n e fo=.func (.func f) #[] #[]:=by rfl) (hr:fg A As F:=by exact fg.au) (hw:aL ops n e gd=true:=by rfl):At R d As (gr fn kd n e ds (.inRegion ops (i::aa)::k) cs):=C.fF hs (λ_ _ q=>by obtain⟨rfl,rfl⟩:=q;exact h) ho hv hf hr hw
theorem ab.rgA(C:ab P ao B R){c:Code}{l:List Nat}(h:At R d As (gr fn kd n e ds (.inRegion (cO c) l::k) cs))(hc:ck c=.region:=by rfl)
 (hl:List.range (cO c).size=l:=by first|exact(rfl:[0]=_)|exact(rfl:[0,1]=_)|exact(rfl:[0,1,2]=_)|exact(rfl:[0,1,2,3]=_)|exact(rfl:[0,1,2,3,4]=_)|exact(rfl:[0,1,2,3,4,5]=_)|exact(rfl:[0,1,2,3,4,5,6]=_)|exact(rfl:[0,1,2,3,4,5,6,7]=_)|exact(rfl:[0,1,2,3,4,5,6,7,8]=_)|exact(rfl:[0,1,2,3,4,5,6,7,8,9]=_)|exact(rfl:[0,1,2,3,4,5,6,7,8,9,10]=_)|exact(rfl:[0,1,2,3,4,5,6,7,8,9,10,11]=_)|exact(rfl:[0,1,2,3,4,5,6,7,8,9,10,11,12]=_)|exact(rfl:[0,1,2,3,4,5,6,7,8,9,10,11,12,13]=_)|exact(rfl:[0,1,2,3,4,5,6,7,8,9,10,11,12,13,14]=_)|exact(rfl:[0,1,2,3,4,5,6,7,8,9,10,11,12,13,14,15]=_)|exact(rfl:[0,1,2,3,4,5,6,7,8,9,10,11,12,13,14,15,16]=_)|exact(rfl:[0,1,2,3,4,5,6,7,8,9,10,11,12,13,14,15,16,17]=_)|exact(rfl:[0,1,2,3,4,5,6,7,8,9,10,11,12,13,14,15,16,17,18]=_)|exact(rfl:[0,1,2,3,4,5,6,7,8,9,10,11,12,13,14,15,16,17,18,19]=_)|exact(rfl:[0,1,2,3,4,5,6,7,8,9,10,11,12,13,14,15,16,17,18,19,20]=_)|exact(rfl:[0,1,2,3,4,5,6,7,8,9,10,11,12,13,14,15,16,17,18,19,20,21]=_)|exact(rfl:[0,1,2,3,4,5,6,7,8,9,10,11,12,13,14,15,16,17,18,19,20,21,22]=_)|exact(rfl:[0,1,2,3,4,5,6,7,8,9,10,11,12,13,14,15,16,17,18,19,20,21,22,23]=_)):At R d As (gr fn kd n e ds (.code c::k) cs):=C.rg l h hc hl
variable{ops:Array Oper}{e0:Nat->Value}{D:List (Nat×Nat)}{W lN:List HP}{T:List Nat}{a:Nat}{S:List SE}{i:Nat}{is:List Nat}{t:Nat}{v:Value}
theorem Ch.m{f:Nat}{T':List Nat}(t:Nat){K:List SE}{As:List HP}(h:Nd R d fn kd n ds ops k cs e0 D W S (λK As=>Ch R d fn kd n ds ops k cs e0 D W f S (T'.erase t) (a-1) K As) t a K As)(hc:Da ops T'=[t]:=by rfl):Ch R d fn kd n ds ops k cs e0 D W (f+1) S T' a K As:=Ch.n1 hc h
theorem Ch.q{f:Nat}{T':List Nat}(i:Nat){K:List SE}{As:List HP}(h:∀ {As:List HP} {e:Nat->Value} {aa:List Nat},At R d As (gr fn kd n (put (mW e0 D ops i (K++S) e) t v) ds (.inRegion ops aa::k) cs)->At R d As (gr fn kd n (mW e0 D ops i (K++S) e) ds (.inRegion ops (i::aa)::k) cs))
 (k':Ch R d fn kd n ds ops k cs e0 D W f (⟨i,t,v,false⟩::S) (T'.erase i) a K As) (ho:∃ o,aZ ops i=some o/\o.dst=some t:=by exact⟨_,rfl,rfl⟩) (hi:i∈T':=by decide):Ch R d fn kd n ds ops k cs e0 D W (f+1) S T' a K As:=Ch.pu ho (λ_ _ _=>h) k' hi
theorem pU{A B:List HP}(h:cV A B:=by exact cV.au):Hr B A lN:=.of (λ_ s=>cV.sat h s)
def FL(T:List Nat):Nat->Nat->List Nat
 |_,0=>[]
 |i,n+1=>match T.contains i with
  |true=>FL T (i+1) n
  |false=>i::FL T (i+1) n
def cW:Nat->Nat->Nat->List (Nat×Nat)
 |_,_,0=>[]
 |a,i,n+1=>(a,i)::cW (a+1) (i+1) n
theorem ab.A4{P:bL}{ao:Bool}{B:kJ}(C:ab P ao B R){c:Code}(D:List (Nat×Nat))(m:Nat)(T:List Nat)(a:Nat)(h:Dr R d fn kd n ds (cO c) k cs e0 D W lN T a [] (FL T 0 m))(hc:ck c=.draw:=by rfl)(hr:te (cO c) D T (FL T 0 m)=true:=by decide+kernel)(hn:mI (FL T 0 m)=true:=by rfl):At R d lN (gr fn kd n e0 ds (.code c::k) cs):=C.O7 D _ T a h hc hr hn
theorem ab.dx{P:bL}{ao:Bool}{B:kJ}(C:ab P ao B R){c:Code}(D:List (Nat×Nat))(m:Nat)(T:List Nat)(a:Nat)(h:Dr R d fn kd n ds (cO c) k cs e0 D lN lN T a [] (FL T 0 m))(hc:ck c=.draw:=by rfl)(hr:te (cO c) D T (FL T 0 m)=true:=by decide+kernel)(hn:mI (FL T 0 m)=true:=by rfl):At R d lN (gr fn kd n e0 ds (.code c::k) cs):=C.A4 D m T a h hc hr hn
theorem Dr.p(h:∀ {As:List HP} {e:Nat->Value} {aa:List Nat},At R d As (gr fn kd n (put (mW e0 D ops i S e) t v) ds (.inRegion ops aa::k) cs)->At R d As (gr fn kd n (mW e0 D ops i S e) ds (.inRegion ops (i::aa)::k) cs))
 (k':Dr R d fn kd n ds ops k cs e0 D W lN T a (⟨i,t,v,false⟩::S) is) (ho:∃ o,aZ ops i=some o/\o.dst=some t:=by exact⟨_,rfl,rfl⟩):Dr R d fn kd n ds ops k cs e0 D W lN T a S (i::is):=Dr.pu ho (λ_ _ _=>h) k'
theorem Dr.l(h:∀ {As:List HP} {e:Nat->Value} {aa:List Nat},Ext As W->At R d As (gr fn kd n (put (mW e0 D ops i S e) t v) ds (.inRegion ops aa::k) cs)->At R d As (gr fn kd n (mW e0 D ops i S e) ds (.inRegion ops (i::aa)::k) cs))
 (k':Dr R d fn kd n ds ops k cs e0 D W lN T a (⟨i,t,v,true⟩::S) is) (ho:∃ o,aZ ops i=some o/\o.dst=some t:=by exact⟨_,rfl,rfl⟩):Dr R d fn kd n ds ops k cs e0 D W lN T a S (i::is):=Dr.ld ho (λ_ x _ _=>h x) k'
def Vt(ops:Array Oper)(i:Nat):Nat:=match aZ ops i with
 |some ⟨_,op,_,_,_,g⟩=>(match g with
  |some _=>20
  |none=>match op with
   |.move _=>0
   |.assign _=>1
   |.fieldAddr _ _ _=>2
   |.load _ _=>3
   |.nilCheck _=>4
   |.pick _ _ _=>5
   |.binOp _ _ _ _ _=>6
   |.extract _ _=>7
   |.unOp _ _ _=>8
   |.call _=>9
   |.indexAddr _ _ _=>10
   |.build _ _=>11
   |.store _ _ _=>12
   |.convert _ _ _=>13
   |.makeInterface _ _=>14
   |_=>21)
 |none=>22
structure qTg(k:Nat)(p:Prop):Prop where d:p
theorem uB(k:Nat){p:Prop}(h:p):qTg k p:=⟨h⟩
variable{aa:List Nat}
theorem aeZ(h:qTg t (At R d As (gr fn kd n e ds (.inRegion ops (i::aa)::k) cs)))(hk:Vt ops i=t:=by conv=>{lhs;whnf}):At R d As (gr fn kd n e ds (.inRegion ops (i::aa)::k) cs):=h.d
theorem abc(h:qTg t (Dr R d fn kd n ds ops k cs e0 D W lN T a S (i::aa)))(hk:Vt ops i=t:=by conv=>{lhs;whnf}):Dr R d fn kd n ds ops k cs e0 D W lN T a S (i::aa):=h.d
theorem fG{p q:Prop}(h:q)(f:na q->p:=by
 intro h
 first
 |(refine aeZ ?_;first|(refine uB 0 ?_;refine C.mv rfl ?_)|(refine uB 1 ?_;refine C.oR rfl ?_)|(refine uB 2 ?_;refine C.fa rfl ?_)|(refine uB 3 ?_;first|refine C.ld rfl ?_|refine C.w7 rfl ?_|refine C.Zl rfl ?_|refine C.dd rfl ?_)|(refine uB 4 ?_;refine C.nc rfl ?_)|(refine uB 5 ?_;refine C.pk rfl ?_)|(refine uB 6 ?_;first|refine C.ar rfl ?_|refine C.LK rfl ?_)|(refine uB 7 ?_;refine C.ext rfl ?_)|(refine uB 8 ?_;refine C.nt rfl ?_)|(refine uB 9 ?_;first|refine C.pS rfl ?_|refine C.Zp rfl ?_)|(refine uB 10 ?_;refine C.dQ rfl ?_)|(refine uB 11 ?_;refine C.bd rfl ?_)|(refine uB 12 ?_;first|refine C.st rfl ?_|refine C.tL rfl ?_|refine C.Ve rfl ?_)|(refine uB 13 ?_;refine C.cv rfl ?_)|(refine uB 14 ?_;refine C.mi rfl ?_)|(refine uB 20 ?_;first|refine C.no rfl ?_|refine C.mv rfl ?_|refine C.pk rfl ?_|refine C.ld rfl ?_|refine C.fa rfl ?_|refine C.nc rfl ?_|refine C.dQ rfl ?_|refine C.nt rfl ?_|refine C.pS rfl ?_|refine C.w7 rfl ?_|refine C.oR rfl ?_|refine C.ext rfl ?_|refine C.bd rfl ?_|refine C.dd rfl ?_|refine C.ar rfl ?_|refine C.st rfl ?_|refine C.Zl rfl ?_|refine C.Zp rfl ?_|refine C.tL rfl ?_|refine C.Ve rfl ?_|refine C.LK rfl ?_|refine C.cv rfl ?_|refine C.mi rfl ?_))
 |refine C.rgA ?_
 |refine C.Lv ?_
 |refine C.C7 ?_
 |refine C.go ?_
 exact h.d):p:=f ⟨h⟩
theorem kK{p q:Prop}(h:q)(f:na q->p:=by
 intro h;refine abc ?_
 first|(refine uB 0 ?_;refine Dr.p (λh=>C.mv rfl h) ?_)|(refine uB 1 ?_;refine Dr.p (λh=>C.oR rfl h) ?_)|(refine uB 2 ?_;refine Dr.p (λh=>C.fa rfl h) ?_)|(refine uB 3 ?_;first|refine Dr.l (λhE h=>C.ld rfl h) ?_|refine Dr.l (λhE h=>C.w7 rfl h) ?_|refine Dr.l (λhE h=>C.Zl rfl h) ?_|refine Dr.l (λhE h=>C.dd rfl h) ?_)|(refine uB 4 ?_;refine Dr.p (λh=>C.nc rfl h) ?_)|(refine uB 5 ?_;refine Dr.p (λh=>C.pk rfl h) ?_)|(refine uB 6 ?_;refine Dr.p (λh=>C.ar rfl h) ?_)|(refine uB 7 ?_;refine Dr.p (λh=>C.ext rfl h) ?_)|(refine uB 8 ?_;refine Dr.p (λh=>C.nt rfl h) ?_)|(refine uB 9 ?_;first|refine Dr.l (λhE h=>C.pS rfl h) ?_|refine Dr.l (λhE h=>C.Zp rfl h) ?_)|(refine uB 10 ?_;refine Dr.l (λhE h=>C.dQ rfl h) ?_)|(refine uB 11 ?_;refine Dr.p (λh=>C.bd rfl h) ?_)|(refine uB 13 ?_;refine Dr.p (λh=>C.cv rfl h) ?_)|(refine uB 20 ?_;first|refine Dr.p (λh=>C.no rfl h) ?_|refine Dr.p (λh=>C.mv rfl h) ?_|refine Dr.p (λh=>C.pk rfl h) ?_|refine Dr.l (λhE h=>C.ld rfl h) ?_|refine Dr.p (λh=>C.fa rfl h) ?_|refine Dr.p (λh=>C.nc rfl h) ?_|refine Dr.l (λhE h=>C.dQ rfl h) ?_|refine Dr.p (λh=>C.nt rfl h) ?_|refine Dr.l (λhE h=>C.pS rfl h) ?_|refine Dr.l (λhE h=>C.w7 rfl h) ?_|refine Dr.p (λh=>C.oR rfl h) ?_|refine Dr.p (λh=>C.ext rfl h) ?_|refine Dr.p (λh=>C.bd rfl h) ?_|refine Dr.l (λhE h=>C.dd rfl h) ?_|refine Dr.p (λh=>C.ar rfl h) ?_|refine Dr.l (λhE h=>C.Zl rfl h) ?_|refine Dr.l (λhE h=>C.Zp rfl h) ?_|refine Dr.p (λh=>C.cv rfl h) ?_)
 exact h.d):p:=f ⟨h⟩
theorem bH{p q:Prop}(h:q)(f:na q->p:=by intro h;(iterate 2 refine fG ?_);exact h.d):p:=f ⟨h⟩
theorem dK{p q:Prop}(h:q)(f:na q->p:=by intro h;(iterate 3 refine fG ?_);exact h.d):p:=f ⟨h⟩
theorem dX{p q:Prop}(h:q)(f:na q->p:=by intro h;(iterate 4 refine fG ?_);exact h.d):p:=f ⟨h⟩
theorem eP{p q:Prop}(h:q)(f:na q->p:=by intro h;(iterate 5 refine fG ?_);exact h.d):p:=f ⟨h⟩
theorem gu{p q:Prop}(h:q)(f:na q->p:=by intro h;(iterate 6 refine fG ?_);exact h.d):p:=f ⟨h⟩
theorem gU{p q:Prop}(h:q)(f:na q->p:=by intro h;(iterate 7 refine fG ?_);exact h.d):p:=f ⟨h⟩
theorem nT{p q:Prop}(h:q)(f:na q->p:=by intro h;(iterate 8 refine fG ?_);exact h.d):p:=f ⟨h⟩
theorem oT{p q:Prop}(h:q)(f:na q->p:=by intro h;(iterate 9 refine fG ?_);exact h.d):p:=f ⟨h⟩
theorem tU{p q:Prop}(h:q)(f:na q->p:=by intro h;(iterate 10 refine fG ?_);exact h.d):p:=f ⟨h⟩
theorem lI{p q:Prop}(h:q)(f:na q->p:=by intro h;(iterate 11 refine fG ?_);exact h.d):p:=f ⟨h⟩
theorem kj{p q:Prop}(h:q)(f:na q->p:=by intro h;(iterate 13 refine fG ?_);exact h.d):p:=f ⟨h⟩
theorem kD{p q:Prop}(h:q)(f:na q->p:=by intro h;(iterate 2 refine kK ?_);exact h.d):p:=f ⟨h⟩
theorem sV{p q:Prop}(h:q)(f:na q->p:=by intro h;(iterate 3 refine kK ?_);exact h.d):p:=f ⟨h⟩
theorem H4{p q:Prop}(h:q)(f:na q->p:=by intro h;(iterate 4 refine kK ?_);exact h.d):p:=f ⟨h⟩
theorem NC{p q:Prop}(h:q)(f:na q->p:=by intro h;(iterate 5 refine kK ?_);exact h.d):p:=f ⟨h⟩
theorem pF{p q:Prop}(h:q)(f:na q->p:=by intro h;(iterate 6 refine kK ?_);exact h.d):p:=f ⟨h⟩
theorem nH{p q:Prop}(h:q)(f:na q->p:=by intro h;(iterate 7 refine kK ?_);exact h.d):p:=f ⟨h⟩
theorem Em{p q:Prop}(h:q)(f:na q->p:=by intro h;(iterate 8 refine kK ?_);exact h.d):p:=f ⟨h⟩
theorem mX{p q:Prop}(h:q)(f:na q->p:=by intro h;(iterate 10 refine kK ?_);exact h.d):p:=f ⟨h⟩
theorem sB{p q:Prop}(h:q)(f:na q->p:=by intro h;refine cr ?_;refine fG ?_;exact h.d):p:=f ⟨h⟩
theorem oU{p q:Prop}(h:q)(f:na q->p:=by intro h;refine cr ?_;(iterate 2 refine fG ?_);exact h.d):p:=f ⟨h⟩
theorem Ca{p q:Prop}(h:q)(f:na q->p:=by intro h;refine cr ?_;(iterate 4 refine fG ?_);exact h.d):p:=f ⟨h⟩
theorem tV{p q:Prop}(h:q)(f:na q->p:=by intro h;refine cr ?_;(iterate 5 refine fG ?_);exact h.d):p:=f ⟨h⟩
theorem Xe{p q:Prop}(h:q)(f:na q->p:=by intro h;refine cr ?_;(iterate 6 refine fG ?_);exact h.d):p:=f ⟨h⟩
theorem RZ{p q:Prop}(h:q)(f:na q->p:=by intro h;refine cr ?_;(iterate 7 refine fG ?_);exact h.d):p:=f ⟨h⟩
theorem Ky{p q:Prop}(h:q)(f:na q->p:=by intro h;refine cr ?_;(iterate 8 refine fG ?_);exact h.d):p:=f ⟨h⟩
theorem Vu{p q:Prop}(h:q)(f:na q->p:=by intro h;refine cr ?_;(iterate 9 refine fG ?_);exact h.d):p:=f ⟨h⟩
theorem fP{p q:Prop}(h:q)(f:na q->p:=by intro h;refine Ch.fin ?_;refine fG ?_;exact h.d):p:=f ⟨h⟩
theorem oV{p q:Prop}(h:q)(f:na q->p:=by intro h;refine Ch.fin ?_;(iterate 2 refine fG ?_);exact h.d):p:=f ⟨h⟩
theorem ND{p q:Prop}(h:q)(f:na q->p:=by intro h;refine Ch.fin ?_;(iterate 3 refine fG ?_);exact h.d):p:=f ⟨h⟩
theorem zI{p q:Prop}(h:q)(f:na q->p:=by intro h;refine Ch.fin ?_;(iterate 5 refine fG ?_);exact h.d):p:=f ⟨h⟩
theorem PW{p q:Prop}(h:q)(f:na q->p:=by intro h;refine Ch.fin ?_;(iterate 6 refine fG ?_);exact h.d):p:=f ⟨h⟩
theorem Xf{p q:Prop}(h:q)(f:na q->p:=by intro h;refine Ch.fin ?_;(iterate 7 refine fG ?_);exact h.d):p:=f ⟨h⟩
theorem PX{p q:Prop}(h:q)(f:na q->p:=by intro h;refine Ch.fin ?_;(iterate 8 refine fG ?_);exact h.d):p:=f ⟨h⟩
theorem xT{p q:Prop}(h:q)(f:na q->p:=by intro h;refine kK ?_;refine Dr.chain rfl ?_;exact h.d):p:=f ⟨h⟩
theorem A5{p q:Prop}(h:q)(f:na q->p:=by intro h;(iterate 2 refine kK ?_);refine Dr.chain rfl ?_;exact h.d):p:=f ⟨h⟩
theorem Hb{p q:Prop}(h:q)(f:na q->p:=by intro h;(iterate 4 refine kK ?_);refine Dr.chain rfl ?_;exact h.d):p:=f ⟨h⟩
theorem zw5{p q:Prop}(h:q)(f:na q->p:=by intro h;(iterate 5 refine kK ?_);refine Dr.chain rfl ?_;exact h.d):p:=f ⟨h⟩
theorem To{p q:Prop}(h:q)(f:na q->p:=by intro h;(iterate 7 refine kK ?_);refine Dr.chain rfl ?_;exact h.d):p:=f ⟨h⟩
theorem Xg{p q:Prop}(h:q)(f:na q->p:=by intro h;(iterate 8 refine kK ?_);refine Dr.chain rfl ?_;exact h.d):p:=f ⟨h⟩
theorem R0{p q:Prop}(h:q)(f:na q->p:=by intro h;(iterate 9 refine kK ?_);refine Dr.chain rfl ?_;exact h.d):p:=f ⟨h⟩
theorem H5{p q:Prop}(h:q)(f:na q->p:=by intro h;(iterate 10 refine kK ?_);refine Dr.chain rfl ?_;exact h.d):p:=f ⟨h⟩
theorem PY{p q:Prop}(h:q)(f:na q->p:=by intro h;(iterate 11 refine kK ?_);refine Dr.chain rfl ?_;exact h.d):p:=f ⟨h⟩
theorem PZ{p q:Prop}(h:q)(f:na q->p:=by intro h;(iterate 13 refine kK ?_);refine Dr.chain rfl ?_;exact h.d):p:=f ⟨h⟩
end
structure dU where
 ops:List (List bP)
 order:List Int
 reads:List (List Int)
 looked:List Nat
def Kz(h:dU)(tx:Int):Int:=match h.order.findIdx? (· ==tx)with|some i=>i|none=> -1
def jr(log:List RecR)(aH:Nat):Nat->dU->Nat->dU×Bool
 |0,h,_=>(h,true)
 |f+1,h,i=>if aH<=i then(h,true)else match log[i]? with
  |none=>(h,false)
  |some r=>if r.tx<0\/(h.ops.length:Int)<=r.tx then(h,false)else
   jr log aH f (if r.kind==2&&r.yes then{h with order:=h.order++[r.tx],reads:=h.reads++[r.reads]}else h) (i+1)
def rJ(s:ShR)(k:Nat)(h:dU):dU×Bool:=
 let l:=h.looked[k]?.getD 0
 if s.aH<(l:Int)\/(s.log.length:Int)<s.aH then(h,false)else
 let x:=jr s.log s.aH.toNat (s.aH.toNat+1) h l
 if x.2 then({x.1 with looked:=x.1.looked.set k s.aH.toNat},true)else x
def mR:List ShR->Nat->dU->dU×Bool
 |[],_,h=>(h,true)
 |s::r,k,h=>let x:=rJ s k h;if x.2 then mR r (k+1) x.1 else x
def mS(w:WR)(h:dU):dU×Bool:=mR w.sh 0 h
def H6(w:WR)(h:dU):Bool:=w.sh.all λs=>s.log.all λr=>r.kind != 3||(if r.yes then decide (0<=Kz h r.tx)else decide (Kz h r.tx<0))
def mY(v:List Int):List bP->List Int->Bool
 |[],l=>l.isEmpty
 |o::r,l=>if o.w then mY v r l else match l with
  |[]=>false
  |x::l=>x==(v[(o.k-97).toNat]?).getD 0&&mY v r l
def my(h:dU):Nat->Nat->List Int->List Int×Bool
 |0,_,v=>(v,true)
 |f+1,i,v=>match h.order[i]? with
  |none=>(v,true)
  |some tx=>if Kz h tx≠i then(v,false)else
   let ops:=h.ops[tx.toNat]?.getD []
   if mY v ops (h.reads[i]?.getD [])then my h f (i+1) (cA v ops)else(v,false)
def KA(h:dU):List Int×Bool:=my h (h.order.length+1) 0 bO
def Cb(w:WR)(h:dU):Bool:=(List.range h.ops.length).all λt=>match w.aF[t]? with
 |none=>false
 |some x=> !(x.state<1||3<x.state||(x.state==2&&Kz h t<0)||(x.state==3&&0<=Kz h t))&&(x.state != 2||x.reads==(h.reads[(Kz h t).toNat]?).getD [])
def eY:Nat->WR->WR
 |0,w=>w
 |f+1,w=>let x:=gH w 2 0 0;if x.2≠0 then x.1 else eY f x.1
def P0:List Nat->WR->WR×Bool
 |[],w=>(w,true)
 |s::r,w=>if((w.sh[s]?).map (·.up)).getD false then P0 r w else let x:=gH w 8 s 0;if x.2≠0 then(x.1,false)else P0 r x.1
def vp:List Nat->WR->dU->WR×dU×Bool
 |[],w,h=>(w,h,true)
 |s::r,w,h=>let x:=gH w 5 s 0;let y:=mS x.1 h;if x.2≠0\/ !y.2 then(x.1,y.1,false)else vp r x.1 y.1
def turns(n:Nat):Nat->WR->dU->WR×dU×Bool
 |0,w,h=>(w,h,true)
 |f+1,w,h=>let x:=vp (List.range n) (eY 3000 w) h;if x.2.2 then turns n f x.1 x.2.1 else x
def asks:List Nat->WR->Nat->WR×Nat×Bool
 |[],w,left=>(w,left,true)
 |t::r,w,left=>if((w.aF[t]?).map (·.state)).getD 0=1 then let x:=gH w 1 t 0;if x.2≠0 then(x.1,left+1,false)else asks r x.1 (left+1)else asks r w left
def nI:List Nat->WR->Nat->WR×Nat×Bool
 |[],w,left=>(w,left,true)
 |s::r,w,left=>let l:=left+((w.sh[s]?).map (·.aX.length)).getD 0
  if 0<l then let x:=gH w 6 s 0;if x.2≠0/\x.2≠3 then(x.1,l,false)else nI r x.1 l else nI r w l
def j6(n aF:Nat):Nat->WR->dU->WR×dU×Bool
 |0,w,h=>(w,h,false)
 |f+1,w,h=>
  let a:=P0 (List.range n) w
  if !a.2 then(a.1,h,false)else
  let b:=turns n 10 a.1 h
  if !b.2.2 then b else
  let c:=asks (List.range aF) b.1 b.1.aK.length
  if !c.2.2 then(c.1,b.2.1,false)else
  let d:=nI (List.range n) c.1 c.2.1
  if !d.2.2 then(d.1,b.2.1,false)else
  if d.2.1=0 then(d.1,b.2.1,true)else j6 n aF f d.1 b.2.1
structure Gl where
 dec:Int->Option (Bool×List Int)
 cg:Int->Int->Option (List Int)
structure Gl.Le(G G':Gl):Prop where
 dec:∀ t x,G.dec t=some x->G'.dec t=some x
 cg:∀ t s x,G.cg t s=some x->G'.cg t s=some x
theorem Gl.Le.refl(G:Gl):G.Le G:=⟨λ_ _ h=>h,λ_ _ _ h=>h⟩
structure oM(G:Gl)(m:MsgR):Prop where
 xU:m.kind=3->m.yes=true->G.cg m.tx m.bq=some m.reads
 bF:m.kind=4->∃ rd,G.dec m.tx=some (m.yes,rd)
 told:m.kind=7->G.dec m.tx=some (m.yes,m.reads)
theorem oM.mono{G G':Gl}{m:MsgR}(h:oM G m)(k:G.Le G'):oM G' m:=
 ⟨λa b=>k.cg _ _ _ (h.xU a b),λa=>(h.bF a).imp λ_ z=>k.dec _ _ z,λa=>k.dec _ _ (h.told a)⟩
theorem oM.other{G:Gl}{m:MsgR}(h3:m.kind≠3)(h4:m.kind≠4)(h7:m.kind≠7):oM G m:=⟨λh=>absurd h h3,λh=>absurd h h4,λh=>absurd h h7⟩
def dY(log:List RecR)(i:Nat):List Int:=(cU (log.take i) i (cq ⟨0,0,true,[],0,[],[],[],[],[],0,[]⟩)).bT
structure rK(log:List RecR)(me:Int)(m:MsgR):Prop where
 xU:m.kind=3->m.yes=true->m.bq=me/\∃ (i:Nat) (r:RecR),log[i]? =some r/\r.kind=1/\r.tx=m.tx/\fe (dY log i) r.ops=m.reads
 bF:m.kind=4->∃ (i:Nat) (r:RecR),log[i]? =some r/\r.kind=2/\r.tx=m.tx/\r.yes=m.yes
 told:m.kind=7->∃ (i:Nat) (r:RecR),log[i]? =some r/\r.kind=2/\r.tx=m.tx/\r.yes=m.yes/\r.reads=m.reads
theorem rK.other{log:List RecR}{me:Int}{m:MsgR}(h3:m.kind≠3)(h4:m.kind≠4)(h7:m.kind≠7):rK log me m:=⟨λh=>absurd h h3,λh=>absurd h h4,λh=>absurd h h7⟩
structure Zw(G:Gl)(log:List RecR)(u:fO):Prop where
 free:u.dec=false->aW log 2 u.tx=none
 bk:∀ v∈u.bk,G.cg u.tx v.bq=some v.reads
 bF:u.dec=true->∃ (i:Nat) (r:RecR),log[i]? =some r/\r.kind=2/\r.tx=u.tx/\r.yes=u.yes
structure gN(G:Gl)(s:ShR):Prop where
 aH:0<=s.aH/\s.aH<=s.log.length
 uniq:∀ (i j:Nat) (r r':RecR),s.log[i]? =some r->s.log[j]? =some r'->r.kind=2->r'.kind=2->r.tx=r'.tx->i=j
 bF:∀ (i:Nat) (r:RecR),s.log[i]? =some r->(i:Int)<s.aH->r.kind=2->G.dec r.tx=some (r.yes,r.reads)
 cg:∀ (i:Nat) (r:RecR),s.log[i]? =some r->(i:Int)<s.aH->r.kind=1->G.cg r.tx s.me=some (fe (dY s.log i) r.ops)
 done:∀ (i:Nat) (r:RecR),s.log[i]? =some r->r.kind=3->∃ rd,G.dec r.tx=some (r.yes,rd)
 waits:∀ m∈s.waits,rK s.log s.me m
 out:∀ m∈s.out,oM G m
 nd:(s.under.map (·.tx)).Nodup
 bY:∀ u∈s.under,Zw G s.log u
theorem gN.mono{G G':Gl}{s:ShR}(h:gN G s)(k:G.Le G'):gN G' s:=
 {h with
  bF:=λi r a b c=>k.dec _ _ (h.bF i r a b c)
  cg:=λi r a b c=>k.cg _ _ _ (h.cg i r a b c)
  done:=λi r a b=>(h.done i r a b).imp λ_ z=>k.dec _ _ z
  out:=λm hm=>(h.out m hm).mono k
  bY:=λu hu=>⟨(h.bY u hu).free,λv hv=>k.cg _ _ _ ((h.bY u hu).bk v hv),(h.bY u hu).bF⟩}
theorem gN.send{G:Gl}{s:ShR}{m:MsgR}(h:gN G s)(hm:oM G {m with bq:=s.me}):gN G (eh s m):=
 ⟨h.aH,h.uniq,h.bF,h.cg,h.done,h.waits,λx hx=>by
  rcases bS.1 hx with hx|hx
  ·exact h.out x hx
  ·rw[dL.1 hx];exact hm,h.nd,h.bY⟩
theorem gN.wait{G:Gl}{s:ShR}{m:MsgR}(h:gN G s)(hm:rK s.log s.me {m with bq:=s.me}):gN G (eX s m):=
 ⟨h.aH,h.uniq,h.bF,h.cg,h.done,λx hx=>by
  rcases bS.1 hx with hx|hx
  ·exact h.waits x hx
  ·rw[dL.1 hx];exact hm,h.out,h.nd,h.bY⟩
theorem gN.new{G:Gl}{k n:Int}:gN G (jQ k n):=
 ⟨⟨nW _,nW _⟩,by intro i j r r' h;simp[jQ,cq]at h,by intro i r h;simp[jQ,cq]at h,by intro i r h;simp[jQ,cq]at h,by intro i r h;simp[jQ,cq]at h,by intro m hm;simp[jQ,cq]at hm,by intro m hm;simp[jQ,cq]at hm,by simp[jQ,cq],by intro m hm;simp[jQ,cq]at hm⟩
theorem gN.each{f:ShR->Int->List bP->ShR}{ops:List bP}{s:ShR}{I:ShR->Prop}(h0:I s)(hf:∀ z k p,I z->I (f z k p)):I (im s ops f):=by
 unfold im;generalize upto s.n=l;generalize hn:s.n=n;clear hn
 induction l generalizing s with
 |nil=>exact h0
 |cons k l ih=>
  simp only[mE];by_cases hp:(br ops k n).isEmpty=true
  ·rw[aG hp];exact ih h0
  ·rw[ax hp];exact ih (hf _ _ _ h0)
theorem wh{log:List RecR}{kind tx:Int}(h:aW log kind tx=none)(i:Nat)(r:RecR)(hr:log[i]? =some r)(hk:r.kind=kind):r.tx≠tx:=
 λht=>kg.1 h r (dg hr) ⟨hk,ht⟩
theorem FM{l:List fO}{tx:Int}(h:¬ (dz l tx).isSome=true):∀ u∈l,u.tx≠tx:=λu hu ht=>by apply h;unfold dz;rw[List.findIdx?_isSome,oZ];exact⟨u,hu,by simp[ht]⟩
theorem gN.begin{G:Gl}{s:ShR}{m:MsgR}(h:gN G s):gN G (kT s m):=by
 unfold kT;cases hf:aW s.log 2 m.tx with
 |some d=>
  simp only[];split
  ·rename_i hd;obtain⟨r,hr,hk,ht⟩:=(bX hf).2;refine h.send ⟨by simp,by simp,λ_=>?_⟩;have:=h.bF d r hr hd hk;simp only[hr,iA];rw[<- ht];exact this
  ·exact h
 |none=>
  simp only[];split
  ·exact h
  ·rename_i m7;have h1:gN G {s with under:=s.under++[⟨m.tx,m.ops,[],false,false,[]⟩]}:=
    ⟨h.aH,h.uniq,h.bF,h.cg,h.done,h.waits,h.out,by
     show((s.under++[(⟨m.tx,m.ops,[],false,false,[]⟩:fO)]).map (·.tx)).Nodup;rw[eI,il];refine⟨h.nd,by simp,λa ha b hb=>?_⟩;obtain⟨u,hu,rfl⟩:=bM.1 ha;simp only[gW,l6,dL]at hb;subst hb;exact FM m7 u hu,λu hu=>by
     rcases bS.1 hu with hu|hu
     ·exact h.bY u hu
     ·rw[dL.1 hu];exact⟨λ_=>hf,λv hv=>by simp at hv,λhd=>by simp at hd⟩⟩
   have h2:=gN.each (ops:=m.ops) (f:=λz k p=>eh z {bK with kind:=2,to:=k,tx:=m.tx,ops:=p}) (I:=gN G) h1 (λz k p hz=>hz.send (oM.other (by simp) (by simp) (by simp)));exact⟨h2.aH,h2.uniq,h2.bF,h2.cg,h2.done,h2.waits,h2.out,h2.nd,h2.bY⟩
theorem l3{log:List RecR}{x r:RecR}{i:Nat}(h:(log++[x])[i]? =some r):(log[i]? =some r)\/(i=log.length/\r=x):=by
 rcases lH i log.length with hi|hi
 ·rw[mT hi]at h;exact .inl h
 ·rw[xF hi]at h;rcases Lf (i-log.length)with hz|hz
  ·rw[hz]at h;injection h with h;exact .inr ⟨ai,h.symm⟩
  ·rw[wR (by simp only[gJ];omega)]at h;cases h
theorem sC{log:List RecR}{x r:RecR}{i:Nat}(h:log[i]? =some r):(log++[x])[i]? =some r:=by rw[mT (dG.1 h).1];exact h
theorem kA{log:List RecR}{x:RecR}{i:Nat}(h:i<=log.length):dY (log++[x]) i=dY log i:=by unfold dY;rw[Br h]
theorem rK.app{log:List RecR}{me:Int}{m:MsgR}{x:RecR}(h:rK log me m):rK (log++[x]) me m:=
 ⟨λa b=>by obtain⟨z,i,r,h1,h2,h3,h4⟩:=h.xU a b;exact⟨z,i,r,sC h1,h2,h3,by rw[kA (uI (dG.1 h1).1)];exact h4⟩,
 λa=>by obtain⟨i,r,h1,h2⟩:=h.bF a;exact⟨i,r,sC h1,h2⟩,
 λa=>by obtain⟨i,r,h1,h2⟩:=h.told a;exact⟨i,r,sC h1,h2⟩⟩
theorem Zw.app{G:Gl}{log:List RecR}{u:fO}{x:RecR}(h:Zw G log u)(hx:x.kind=2->u.dec=false->x.tx≠u.tx):Zw G (log++[x]) u:=
 ⟨λhd=>by
  rw[dO,ax (by intro hr;simp only[isRec,jc,sY]at hr;exact hx hr.1 hd hr.2)]
  exact h.free hd,h.bk,λa=>by obtain⟨i,r,h1,h2⟩:=h.bF a;exact⟨i,r,sC h1,h2⟩⟩
theorem gN.write{G:Gl}{s:ShR}{x:RecR}(h:gN G s)(h2:x.kind=2->aW s.log 2 x.tx=none)(h3:x.kind=3->∃ rd,G.dec x.tx=some (x.yes,rd))(h4:x.kind=2->∀ u∈s.under,u.dec=false->x.tx≠u.tx):gN G {s with log:=s.log++[x]}:=by
 have hg:=h.aH;refine⟨⟨hg.1,by simp only[gO];omega⟩,?_,?_,?_,?_,λm hm=>(h.waits m hm).app,h.out,h.nd,λu hu=>(h.bY u hu).app λhk=>h4 hk u hu⟩
 ·intro i j r r' a b c d e;rcases l3 a with a1|⟨a1,a2⟩
  ·rcases l3 b with b1|⟨b1,b2⟩
   ·exact h.uniq i j r r' a1 b1 c d e
   ·subst b2;exact absurd e (wh (h2 d) i r a1 c)
  ·rcases l3 b with b1|⟨b1,b2⟩
   ·subst a2;exact absurd e.symm (wh (h2 c) j r' b1 d)
   ·omega
 ·intro i r a b c;rcases l3 a with a|⟨a,rfl⟩
  ·exact h.bF i r a b c
  ·have:(i:Int)<s.aH:=b;omega
 ·intro i r a b c;rcases l3 a with a|⟨a,rfl⟩
  ·rw[show dY ({s with log:=s.log++[x]}:ShR).log i=dY s.log i from kA (uI (dG.1 a).1)];exact h.cg i r a b c
  ·have:(i:Int)<s.aH:=b;omega
 ·intro i r a c;rcases l3 a with a|⟨a,rfl⟩
  ·exact h.done i r a c
  ·exact h3 c
theorem H7{l:List fO}{i:Nat}{u v:fO}(h:l[i]? =some u)(hv:v.tx=u.tx):(l.set i v).map (·.tx)=l.map (·.tx):=by
 obtain⟨hi,hu⟩:=dG.1 h;rw[wT,hv,<- hu];have e:(l[i]'hi).tx=(l.map (·.tx))[i]'(by simpa using hi):=by simp
 rw[e,Bp]
theorem abd{l:List fO}(h:(l.map (·.tx)).Nodup){x y:fO}(hx:x∈l)(hy:y∈l)(e:x.tx=y.tx):x=y:=by
 induction l with
 |nil=>cases hx
 |cons a l ih=>
  rw[gW,oX]at h;rcases fR.1 hx with h1|h1
  ·rcases fR.1 hy with h2|h2
   ·rw[h1,h2]
   ·exact absurd (bM.2 ⟨y,h2,by rw[<- e,h1]⟩) h.1
  ·rcases fR.1 hy with h2|h2
   ·exact absurd (bM.2 ⟨x,h1,by rw[e,h2]⟩) h.1
   ·exact ih h.2 h1 h2
theorem P1{l:List fO}:∀ {i:Nat} {u x:fO},(l.map (·.tx)).Nodup->l[i]? =some u->x∈l.eraseIdx i->x.tx≠u.tx:=by
 induction l with
 |nil=>intro i u x _ _ hx;cases hx
 |cons a l ih=>
  intro i u x h hu hx;rw[gW,oX]at h;cases i with
  |zero=>
   injection hu with hu;subst hu
   exact λe=>h.1 (bM.2 ⟨x,hx,e⟩)
  |succ i=>
   rcases fR.1 hx with rfl|hx
   ·exact λe=>h.1 (bM.2 ⟨u,dg hu,e.symm⟩)
   ·exact ih h.2 hu hx
theorem gN.ack{G:Gl}{s:ShR}{m:MsgR}(h:gN G s):gN G (u5 s m):=by
 unfold u5;split
 ·exact h
 ·split
  ·exact h
  ·rename_i i hi u hu;split
   ·exact h
   ·have hm:u∈s.under:=dg hu;dsimp only;split
    ·exact⟨h.aH,h.uniq,h.bF,h.cg,h.done,h.waits,h.out,by refine List.Sublist.nodup ?_ h.nd;exact(ko _ _).map _,λv hv=>h.bY v (EB hv)⟩
    ·refine⟨h.aH,h.uniq,h.bF,h.cg,h.done,h.waits,h.out,(show((s.under.set _ {u with cy:=u.cy++[m.bq]}).map (·.tx)).Nodup by rw[H7 (v:={u with cy:=u.cy++[m.bq]}) hu rfl];exact h.nd),λv hv=>?_⟩;rcases iL hv with hv|rfl
     ·exact h.bY v hv
     ·exact⟨(h.bY u hm).free,(h.bY u hm).bk,(h.bY u hm).bF⟩
theorem gN.ask{G:Gl}{s:ShR}{m:MsgR}(h:gN G s):gN G (u6 s m):=by
 unfold u6;cases hf:aW s.log 2 m.tx with
 |some d=>
  simp only[];split
  ·rename_i hd;obtain⟨r,hr,hk,ht⟩:=(bX hf).2;have:=h.bF d r hr hd hk;refine h.send ⟨by simp,λ_=>⟨r.reads,?_⟩,by simp⟩;simp only[hr,iA];rw[<- ht];exact this
  ·exact h
 |none=>
  simp only[];split
  ·exact h
  ·rename_i m7;have h1:=h.write (x:={dC with kind:=2,tx:=m.tx}) (λ_=>hf) (λe=>by simp at e) (λ_ u hu _ e=>FM m7 u hu e.symm);refine h1.wait ⟨by simp,λ_=>⟨s.log.length,{dC with kind:=2,tx:=m.tx},by simp,rfl,rfl,rfl⟩,by simp⟩
theorem gN.xU{G:Gl}{s:ShR}{m:MsgR}(h:gN G s)(hm:oM G m)(hk:m.kind=3):gN G (nB s m):=by
 unfold nB;cases hf:dz s.under m.tx with
 |none=>exact h
 |some i=>
  simp only[];cases hg:s.under[i]? with
  |none=>exact h
  |some u=>
   simp only[];have dR:u∈s.under:=dg hg;have m9:u.tx=m.tx:=by
    unfold dz at hf;obtain⟨hl,hp,_⟩:=uH.1 hf;rw[cK hl]at hg;injection hg with hg
    rw[hg]at hp;simpa using hp
   have Kt:=h.bY u dR;by_cases hd:u.dec=true
   ·rw[aG hd];exact h
   rw[ax hd];have Ek:u.dec=false:=by simpa using hd
   have B7:aW s.log 2 m.tx=none:=by rw[<- m9];exact Kt.free Ek
   generalize AH:(if(m.yes&& !(bU u m.bq).isSome)=true then({u with bk:=u.bk++[⟨m.bq,m.reads⟩]}:fO)else u)=u1;have qV:∀ v∈u1.bk,G.cg u.tx v.bq=some v.reads:=by
    intro v hv;rw[<- AH]at hv;split at hv
    ·rename_i hy;rcases bS.1 hv with hv|hv
     ·exact Kt.bk v hv
     ·rw[dL.1 hv];simp only[jc]at hy;rw[m9];exact hm.xU hk hy.1
    ·exact Kt.bk v hv
   have Cc:u1.tx=u.tx:=by rw[<- AH];split<;>rfl
   have wY:u1.dec=u.dec:=by rw[<- AH];split<;>rfl
   have kS:∀ (u2:fO),Zw G s.log u2->∀ x∈s.under.set i u2,Zw G s.log x:=λu2 h2 x hx=>by
    rcases iL hx with hx|rfl
    ·exact h.bY x hx
    ·exact h2
   by_cases hc:(m.yes&& !n7 s.n u1.ops λk=>(bU u1 k).isSome)=true
   ·rw[aG hc];exact⟨h.aH,h.uniq,h.bF,h.cg,h.done,h.waits,h.out,(by rw[H7 hg Cc];exact h.nd),kS u1 ⟨λ_=>by rw[Cc,m9];exact B7,λv hv=>by rw[Cc];exact qV v hv,λz=>by rw[wY,Ek]at z;cases z⟩⟩
   ·rw[ax hc];generalize iw:(if m.yes=true then jG {u1 with dec:=true,yes:=m.yes} s.n else[])=rd;have hE:gN G {s with under:=s.under.eraseIdx i}:=⟨h.aH,h.uniq,h.bF,h.cg,h.done,h.waits,h.out,((ko _ _).map _).nodup h.nd,λv hv=>h.bY v (EB hv)⟩;have eV:∀ x∈s.under.eraseIdx i,m.tx≠x.tx:=λx hx e=>P1 h.nd hg hx (by rw[m9];exact e.symm);have h1:=hE.write (x:={dC with kind:=2,tx:=m.tx,yes:=m.yes,reads:=rd}) (λ_=>B7) (λe=>by simp at e) (λ_ x hx _=>eV x hx);have mP:((s.under.set i {u1 with dec:=true,yes:=m.yes}).map (·.tx)).Nodup:=by rw[H7 hg (by exact Cc)];exact h.nd
    have xO:({u1 with dec:=true,yes:=m.yes}:fO)∈s.under.set i {u1 with dec:=true,yes:=m.yes}:=l9.2 ⟨i,by rw[EE (dG.1 hg).1]⟩;have h2:gN G {s with under:=s.under.set i {u1 with dec:=true,yes:=m.yes},log:=s.log++[{dC with kind:=2,tx:=m.tx,yes:=m.yes,reads:=rd}]}:=
     ⟨h1.aH,h1.uniq,h1.bF,h1.cg,h1.done,h1.waits,h1.out,mP,λx hx=>by
      by_cases hxt:x.tx=m.tx
      ·rw[abd mP hx xO (by rw[hxt,<- m9];exact Cc.symm)];exact⟨λz=>(by cases z),λv hv=>by show G.cg u1.tx _=_;rw[Cc];exact qV v hv,λ_=>⟨s.log.length,({dC with kind:=2,tx:=m.tx,yes:=m.yes,reads:=rd}:RecR),by simp,rfl,by show m.tx=u1.tx;rw[Cc,m9],rfl⟩⟩
      ·rcases iL hx with hx|rfl
       ·exact(h.bY x hx).app λ_ _ e=>hxt e.symm
       ·exact absurd (show u1.tx=m.tx by rw[Cc,m9]) hxt⟩
    have key:∀ z:ShR,gN G z/\z.log=s.log++[{dC with kind:=2,tx:=m.tx,yes:=m.yes,reads:=rd}]->∀ k:Int,gN G (eX z {bK with kind:=4,to:=k,tx:=m.tx,yes:=m.yes})/\(eX z {bK with kind:=4,to:=k,tx:=m.tx,yes:=m.yes}).log=s.log++[{dC with kind:=2,tx:=m.tx,yes:=m.yes,reads:=rd}]:=λz hz k=>
     ⟨hz.1.wait ⟨by simp,λ_=>⟨s.log.length,({dC with kind:=2,tx:=m.tx,yes:=m.yes,reads:=rd}:RecR),by rw[hz.2];simp,rfl,rfl,rfl⟩,by simp⟩,hz.2⟩
    have h3:=gN.each (ops:=u1.ops) (f:=λz k _=>eX z {bK with kind:=4,to:=k,tx:=m.tx,yes:=m.yes}) (I:=λz=>gN G z/\z.log=s.log++[{dC with kind:=2,tx:=m.tx,yes:=m.yes,reads:=rd}]) ⟨h2,rfl⟩ (λz k p hz=>key z hz k);exact h3.1.wait ⟨by simp,by simp,λ_=>⟨s.log.length,({dC with kind:=2,tx:=m.tx,yes:=m.yes,reads:=rd}:RecR),by rw[h3.2];simp,rfl,rfl,rfl,rfl⟩⟩
theorem gN.same{G:Gl}{s z:ShR}(h:gN G s)(h1:z.me=s.me)(h2:z.log=s.log)(h3:z.aH=s.aH)(h4:z.waits=s.waits)(h5:z.out=s.out)(h6:z.under=s.under):gN G z:=by
 refine⟨?_,?_,?_,?_,?_,?_,?_,?_,?_⟩
 ·rw[h2,h3];exact h.aH
 ·rw[h2];exact h.uniq
 ·rw[h2,h3];exact h.bF
 ·rw[h1,h2,h3];exact h.cg
 ·rw[h2];exact h.done
 ·rw[h1,h2,h4];exact h.waits
 ·rw[h5];exact h.out
 ·rw[h6];exact h.nd
 ·rw[h2,h6];exact h.bY
theorem gN.vq{G:Gl}{s:ShR}{m:MsgR}(h:gN G s)(hm:oM G m)(hk:m.kind=4):gN G (ju s m):=by
 have hd:=hm.bF hk;have hw:=h.write (x:={dC with kind:=3,tx:=m.tx,yes:=m.yes}) (λe=>by simp at e) (λ_=>hd) (λe=>by simp at e);have h5:∀ z:ShR,gN G z->gN G (eX z {bK with kind:=5,to:=m.bq,tx:=m.tx}):=λz hz=>hz.wait (rK.other (by simp) (by simp) (by simp));unfold ju;cases hr:bj s.log m.tx with
 |some r=>
  simp only[];refine h5 _ (hw.same ?_ rfl ?_ ?_ ?_ ?_)
  all_goals(by_cases hy:m.yes=true<;>simp[hy])
 |none=>
  simp only[];cases hf:aW s.log 3 m.tx with
  |some d=>
   simp only[];split
   ·exact h.send (oM.other (by simp) (by simp) (by simp))
   ·exact h
  |none=>
   simp only[];split
   ·exact h
   ·exact h5 _ hw
theorem gN.vr{G:Gl}{s:ShR}{m:MsgR}(h:gN G s)(Tp:s.bT=dY s.log s.log.length)
  (hv:∀ (i:Nat) (r:RecR),bj s.log m.tx=some i->s.log[i]? =some r->fe s.bT r.ops=fe (dY s.log i) r.ops):gN G (gQ s m):=by
 unfold gQ;have m7:gN G (eh s {bK with kind:=3,to:=m.bq,tx:=m.tx}):=h.send ⟨λ_ e=>by simp[bK]at e,by simp,by simp⟩;cases hr:bj s.log m.tx with
 |some i=>
  simp only[];split
  ·rename_i hi;obtain⟨r,h1,h2,h3⟩:=(bX (dD hr).2).2;refine h.send ⟨λ_ _=>?_,by simp,by simp⟩;have:=h.cg i r h1 hi h2;rw[h3,<- hv i r hr h1]at this;simp only[h1,iA];exact this
  ·exact h
 |none=>
  simp only[];cases hf:aW s.log 3 m.tx with
  |some d=>
   simp only[];split
   ·exact h
   ·exact m7
  |none=>
   simp only[];split
   ·exact m7
   ·have hw:=h.write (x:={dC with kind:=1,tx:=m.tx,home:=m.bq,ops:=m.ops}) (λe=>by simp at e) (λe=>by simp at e) (λe=>by simp at e);have h1:gN G {s with aX:=tf s.aX m.tx m.ops,log:=s.log++[{dC with kind:=1,tx:=m.tx,home:=m.bq,ops:=m.ops}]}:=hw.same rfl rfl rfl rfl rfl rfl;have h2:=h1.wait (m:={bK with kind:=3,to:=m.bq,tx:=m.tx,yes:=true,reads:=fe s.bT m.ops}) ⟨λ_ _=>⟨rfl,s.log.length,({dC with kind:=1,tx:=m.tx,home:=m.bq,ops:=m.ops}:RecR),by simp,rfl,rfl,by show fe (dY (s.log++[_]) s.log.length) m.ops=fe s.bT m.ops;rw[kA (e8 _),<- Tp]⟩,by simp,by simp⟩
    exact h2.same rfl rfl rfl rfl rfl rfl
structure kE(H:Int->Int)(G:Gl)(s:ShR):Prop where
 hm:∀ (i:Nat) (r:RecR),s.log[i]? =some r->r.kind=2->H r.tx=s.me
 hu:∀ u∈s.under,H u.tx=s.me
 ex:∀ tx x,G.dec tx=some x->H tx=s.me->∃ (i:Nat) (r:RecR),s.log[i]? =some r/\(i:Int)<s.aH/\r.kind=2/\r.tx=tx/\(r.yes,r.reads)=x
 exp:∀ tx x,G.cg tx s.me=some x->∃ (i:Nat) (r:RecR),s.log[i]? =some r/\(i:Int)<s.aH/\r.kind=1/\r.tx=tx/\fe (dY s.log i) r.ops=x
 u1:∀ (i j:Nat) (r r':RecR),s.log[i]? =some r->s.log[j]? =some r'->r.kind=1->r'.kind=1->r.tx=r'.tx->i=j
def qd(log:List RecR)(g:Nat)(tx:Int):Option (Bool×List Int):=(aW (log.take g) 2 tx).bind λi=>(log[i]?).map λr=>(r.yes,r.reads)
def oc(log:List RecR)(g:Nat)(tx:Int):Option (List Int):=(aW (log.take g) 1 tx).bind λi=>(log[i]?).map λr=>fe (dY log i) r.ops
def Gl.ext(G:Gl)(me:Int)(log:List RecR)(g:Nat):Gl:=⟨λtx=>(G.dec tx).or (qd log g tx),λtx k=>(G.cg tx k).or (if k=me then oc log g tx else none)⟩
theorem Gl.zJ(G:Gl)(me:Int)(log:List RecR)(g:Nat):G.Le (G.ext me log g):=
 ⟨λt x h=>by show(G.dec t).or _=_;rw[h];rfl,λt k x h=>by show(G.cg t k).or _=_;rw[h];rfl⟩
theorem gB{log:List RecR}{g i:Nat}{r:RecR}(h:(log.take g)[i]? =some r):i<g/\log[i]? =some r:=by have hl:=(dG.1 h).1;rw[jS]at hl;refine⟨ai,?_⟩;rw[s4 ai]at h;exact h
theorem xg{log:List RecR}{g:Nat}{tx:Int}{x:Bool×List Int}(h:qd log g tx=some x):∃ (i:Nat) (r:RecR),log[i]? =some r/\i<g/\r.kind=2/\r.tx=tx/\(r.yes,r.reads)=x:=by
 unfold qd at h;cases hf:aW (log.take g) 2 tx with
 |none=>rw[hf]at h;cases h
 |some i=>
  rw[hf]at h;obtain⟨_,r,hr,hk,ht⟩:=bX hf;obtain⟨hg,hr⟩:=gB hr;simp only[nh,hr,jR,wP]at h;exact⟨i,r,hr,hg,hk,ht,h⟩
theorem Du{log:List RecR}{g:Nat}{tx:Int}{x:List Int}(h:oc log g tx=some x):∃ (i:Nat) (r:RecR),log[i]? =some r/\i<g/\r.kind=1/\r.tx=tx/\fe (dY log i) r.ops=x:=by
 unfold oc at h;cases hf:aW (log.take g) 1 tx with
 |none=>rw[hf]at h;cases h
 |some i=>
  rw[hf]at h;obtain⟨_,r,hr,hk,ht⟩:=bX hf;obtain⟨hg,hr⟩:=gB hr;simp only[nh,hr,jR,wP]at h;exact⟨i,r,hr,hg,hk,ht,h⟩
theorem xh{log:List RecR}{g i:Nat}{r:RecR}{k:Int}(h:log[i]? =some r)(hg:i<g)(hk:r.kind=k):∃ j,aW (log.take g) k r.tx=some j:=by
 cases hf:aW (log.take g) k r.tx with
 |some j=>exact⟨j,rfl⟩
 |none=>
  exfalso;refine wh hf i r ?_ hk rfl;rw[s4 hg];exact h
theorem LX{log:List RecR}{g i:Nat}{r:RecR}(hu:∀ (i j:Nat) (r r':RecR),log[i]? =some r->log[j]? =some r'->r.kind=2->r'.kind=2->r.tx=r'.tx->i=j)(h:log[i]? =some r)(hg:i<g)(hk:r.kind=2):qd log g r.tx=some (r.yes,r.reads):=by obtain⟨j,hj⟩:=xh h hg hk;obtain⟨_,r',oD,nP,Ps⟩:=bX hj;have e:=hu i j r r' h (gB oD).2 hk nP Ps.symm;subst e;unfold qd;rw[hj];simp[h]
theorem H8{log:List RecR}{g i:Nat}{r:RecR}(hu:∀ (i j:Nat) (r r':RecR),log[i]? =some r->log[j]? =some r'->r.kind=1->r'.kind=1->r.tx=r'.tx->i=j)(h:log[i]? =some r)(hg:i<g)(hk:r.kind=1):oc log g r.tx=some (fe (dY log i) r.ops):=by obtain⟨j,hj⟩:=xh h hg hk;obtain⟨_,r',oD,nP,Ps⟩:=bX hj;have e:=hu i j r r' h (gB oD).2 hk nP Ps.symm;subst e;unfold oc;rw[hj];simp[h]
theorem gN.grow{H:Int->Int}{G:Gl}{s:ShR}{g:Nat}(h:gN G s)(e:kE H G s)(hg:s.aH<=g)(hl:g<=s.log.length):gN (G.ext s.me s.log g) {s with aH:=g}/\kE H (G.ext s.me s.log g) {s with aH:=g}:=by
 have hm:=h.mono (G.zJ s.me s.log g);have hd:∀ (i:Nat) (r:RecR),s.log[i]? =some r->i<g->r.kind=2->(G.ext s.me s.log g).dec r.tx=some (r.yes,r.reads):=λi r a b c=>by
  show(G.dec r.tx).or _=_;cases hx:G.dec r.tx with
  |none=>rw[LX h.uniq a b c];rfl
  |some x=>
   obtain⟨j,r',h1,h2,h3,h4,h5⟩:=e.ex _ _ hx (e.hm i r a c);have:=h.uniq i j r r' a h1 c h3 h4.symm;subst this;rw[a]at h1;injection h1 with h1;subst h1
   rw[h5];rfl
 have hp:∀ (i:Nat) (r:RecR),s.log[i]? =some r->i<g->r.kind=1->(G.ext s.me s.log g).cg r.tx s.me=some (fe (dY s.log i) r.ops):=λi r a b c=>by
  show(G.cg r.tx s.me).or _=_;cases hx:G.cg r.tx s.me with
  |none=>rw[aG rfl,H8 e.u1 a b c];rfl
  |some x=>
   obtain⟨j,r',h1,h2,h3,h4,h5⟩:=e.exp _ _ hx;have:=e.u1 i j r r' a h1 c h3 h4.symm;subst this;rw[a]at h1;injection h1 with h1;subst h1
   rw[h5];rfl
 refine⟨⟨⟨by show(0:Int)<=(g:Int);omega,by show(g:Int)<=(s.log.length:Int);omega⟩,h.uniq,λi r a b c=>hd i r a (by have:(i:Int)<(g:Int):=b;omega) c,λi r a b c=>hp i r a (by have:(i:Int)<(g:Int):=b;omega) c,hm.done,h.waits,hm.out,h.nd,hm.bY⟩,⟨e.hm,e.hu,λtx x a b=>?_,λtx x a=>?_,e.u1⟩⟩
 ·have a':(G.dec tx).or (qd s.log g tx)=some x:=a;cases hx:G.dec tx with
  |some y=>
   rw[hx]at a';injection a' with a';subst a'
   obtain⟨i,r,h1,h2,h3⟩:=e.ex _ _ hx b;exact⟨i,r,h1,by show(i:Int)<(g:Int);omega,h3⟩
  |none=>
   rw[hx]at a';obtain⟨i,r,h1,h2,h3⟩:=xg (show qd s.log g tx=some x from a');exact⟨i,r,h1,by show(i:Int)<(g:Int);omega,h3⟩
 ·have a':(G.cg tx s.me).or (if s.me=s.me then oc s.log g tx else none)=some x:=a;rw[aG rfl]at a';cases hx:G.cg tx s.me with
  |some y=>
   rw[hx]at a';injection a' with a';subst a'
   obtain⟨i,r,h1,h2,h3⟩:=e.exp _ _ hx;exact⟨i,r,h1,by show(i:Int)<(g:Int);omega,h3⟩
  |none=>
   rw[hx]at a';obtain⟨i,r,h1,h2,h3⟩:=Du (show oc s.log g tx=some x from a');exact⟨i,r,h1,by show(i:Int)<(g:Int);omega,h3⟩
theorem kE.grow{H:Int->Int}{G:Gl}{s z:ShR}{g:Nat}(e:kE H G s)(f:kE H G z)(eV:z.me≠s.me):kE H (G.ext s.me s.log g) z:=by
 refine⟨f.hm,f.hu,λtx x a b=>?_,λtx x a=>?_,f.u1⟩
 ·have a':(G.dec tx).or (qd s.log g tx)=some x:=a;cases hx:G.dec tx with
  |some y=>rw[hx]at a';injection a' with a';subst a';exact f.ex _ _ hx b
  |none=>
   rw[hx]at a';obtain⟨i,r,h1,_,h3,h4,_⟩:=xg (show qd s.log g tx=some x from a');exact absurd (b.symm.trans (h4▸e.hm i r h1 h3)) eV
 ·have a':(G.cg tx z.me).or (if z.me=s.me then oc s.log g tx else none)=some x:=a;rw[ax eV,Option.or_none]at a';exact f.exp _ _ a'
theorem rK.out{H:Int->Int}{G:Gl}{s:ShR}{m:MsgR}(h:gN G s)(e:kE H G s)(hg:(s.aH:Int)=s.log.length)(w:rK s.log s.me m):oM G m:=by
 refine⟨λa b=>?_,λa=>?_,λa=>?_⟩
 ·obtain⟨z,i,r,h1,h2,h3,h4⟩:=w.xU a b;have:=h.cg i r h1 (by have:=(dG.1 h1).1;omega) h2;rw[h3,h4]at this;rw[z];exact this
 ·obtain⟨i,r,h1,h2,h3,h4⟩:=w.bF a;have:=h.bF i r h1 (by have:=(dG.1 h1).1;omega) h2;rw[h3,h4]at this;exact⟨_,this⟩
 ·obtain⟨i,r,h1,h2,h3,h4,h5⟩:=w.told a;have:=h.bF i r h1 (by have:=(dG.1 h1).1;omega) h2;rw[h3,h4,h5]at this;exact this
theorem gN.sync{H:Int->Int}{G:Gl}{s:ShR}(h:gN G s)(e:kE H G s):gN (G.ext s.me s.log s.log.length) (u7 s)/\kE H (G.ext s.me s.log s.log.length) (u7 s):=by
 obtain⟨h1,e1⟩:=h.grow e (g:=s.log.length) h.aH.2 (e8 _);refine⟨⟨h1.aH,h1.uniq,h1.bF,h1.cg,h1.done,λm hm=>(by cases hm),λm hm=>?_,h1.nd,h1.bY⟩,⟨e1.hm,e1.hu,e1.ex,e1.exp,e1.u1⟩⟩;rcases bS.1 hm with hm|hm
 ·exact h1.out m hm
 ·exact rK.out h1 e1 rfl (h1.waits m hm)
theorem FN{log:List RecR}{g i:Nat}{r:RecR}(h:log[i]? =some r)(hg:i<g):(log.take g)[i]? =some r:=by rw[s4 hg];exact h
theorem qe{log:List RecR}{g i:Nat}(h:i<=g):dY (log.take g) i=dY log i:=by unfold dY;rw[List.take_take,xG h]
theorem gN.cut{H:Int->Int}{G:Gl}{s:ShR}{g:Nat}(h:gN G s)(e:kE H G s)(hg:(s.aH:Int)=g)(hl:g<=s.log.length):gN G {s with log:=s.log.take g,waits:=[],under:=[]}/\kE H G {s with log:=s.log.take g,waits:=[],under:=[]}:=by
 refine⟨⟨⟨h.aH.1,by show s.aH<=((s.log.take g).length:Int);rw[jS,xG hl,hg];exact nW _⟩,λi j r r' a b=>h.uniq i j r r' (gB a).2 (gB b).2,λi r a=>h.bF i r (gB a).2,λi r a b c=>?_,λi r a=>h.done i r (gB a).2,λm hm=>(by cases hm),h.out,Ey,λu hu=>(by cases hu)⟩,
  ⟨λi r a=>e.hm i r (gB a).2,λu hu=>(by cases hu),λtx x a b=>?_,λtx x a=>?_,λi j r r' a b=>e.u1 i j r r' (gB a).2 (gB b).2⟩⟩
 ·show G.cg r.tx s.me=some (fe (dY (s.log.take g) i) r.ops);rw[qe (uI (gB a).1)];exact h.cg i r (gB a).2 b c
 ·obtain⟨i,r,h1,h2,h3⟩:=e.ex tx x a b;exact⟨i,r,FN h1 ai,h2,h3⟩
 ·obtain⟨i,r,h1,h2,h3,h4,h5⟩:=e.exp tx x a;refine⟨i,r,FN h1 ai,h2,h3,h4,?_⟩;show fe (dY (s.log.take g) i) r.ops=x;rw[qe ai];exact h5
theorem kE.same{H:Int->Int}{G:Gl}{s z:ShR}(h:kE H G s)(h1:z.me=s.me)(h2:z.log=s.log)(h3:z.aH=s.aH)(h4:∀ u∈z.under,H u.tx=s.me):kE H G z:=by
 refine⟨?_,?_,?_,?_,?_⟩
 ·rw[h1,h2];exact h.hm
 ·rw[h1];exact h4
 ·rw[h1,h2,h3];exact h.ex
 ·rw[h1,h2,h3];exact h.exp
 ·rw[h2];exact h.u1
theorem gN.zK{H:Int->Int}{G:Gl}{s:ShR}{k:Int}(h:gN G s)(e:kE H G s):∃ g:Nat,s.aH<=(g:Int)/\g<=s.log.length/\gN (G.ext s.me s.log g) (iV s k)/\kE H (G.ext s.me s.log g) (iV s k):=by
 have hg:=h.aH;unfold iV;generalize hk:(if k<0 then 0 else k)=k';have nP:0<=k':=by rw[<- hk];split<;>omega
 simp only[];generalize hn:(if k'<(s.log.length:Int)-s.aH then k' else(s.log.length:Int)-s.aH)=n;have hn':0<=n/\n<=(s.log.length:Int)-s.aH:=by rw[<- hn];split<;>omega
 obtain⟨g,hgn⟩:∃ g:Nat,s.aH+n=(g:Int):=⟨(s.aH+n).toNat,ai⟩;refine⟨g,ai,by omega,?_⟩;obtain⟨h1,e1⟩:=h.grow e (g:=g) ai ai;obtain⟨h2,e2⟩:=h1.cut e1 (g:=g) rfl (by show g<=s.log.length;omega);rw[hgn,gv];exact⟨h2.same rfl rfl rfl rfl rfl rfl,e2.same rfl rfl rfl (λu hu=>(by cases hu))⟩
theorem od(log:List RecR):∀ (i:Nat) (s:ShR),(cU log i s).me=s.me/\(cU log i s).log=s.log/\(cU log i s).aH=s.aH/\(cU log i s).waits=s.waits/\(cU log i s).out=s.out/\(cU log i s).under=s.under
 |0,s=>⟨rfl,rfl,rfl,rfl,rfl,rfl⟩
 |i+1,s=>by
  have h:=od log i s;unfold cU;simp only[];split
  ·exact h
  ·split
   ·exact h
   ·split
    ·split
     ·split<;>exact h
     ·exact h
    ·exact h
theorem gN.clear{G:Gl}{s:ShR}(h:gN G s):gN G {s with waits:=[],under:=[]}:=
 ⟨h.aH,h.uniq,h.bF,h.cg,h.done,λm hm=>(by cases hm),h.out,Ey,λu hu=>(by cases hu)⟩
theorem gN.l4{H:Int->Int}{G:Gl}{s:ShR}(h:gN G s)(e:kE H G s):gN G (cD s)/\kE H G (cD s):=by have r:=od s.log s.log.length (cq {s with up:=true});refine⟨h.clear.same r.1 r.2.1 r.2.2.1 r.2.2.2.1 r.2.2.2.2.1 r.2.2.2.2.2,e.same r.1 r.2.1 r.2.2.1 λu hu=>?_⟩;have:u∈(cU s.log s.log.length (cq {s with up:=true})).under:=hu;rw[r.2.2.2.2.2]at this;cases this
theorem gN.off{G:Gl}{s:ShR}{t:fU}(h:gN G s):gN G (nS s t):=by
 unfold nS;split
 ·split
  ·exact(h.send (m:={bK with kind:=6,to:=_,tx:=t.tx}) (oM.other (by simp) (by simp) (by simp))).same rfl rfl rfl rfl rfl rfl
  ·exact h
 ·cases hf:dz s.under t.tx with
  |none=>exact h
  |some i=>
   simp only[];cases hg:s.under[i]? with
   |none=>exact h
   |some u=>
    simp only[];have m9:u.tx=t.tx:=by
     unfold dz at hf;obtain⟨hl,hp,_⟩:=uH.1 hf;rw[cK hl]at hg;injection hg with hg
     rw[hg]at hp;simpa using hp
    have Kt:=h.bY u (dg hg);have fin:∀ gd:Bool,(u.dec=true->gd=true->∃ rd,G.dec t.tx=some (u.yes,rd))->gN G (im s u.ops λz k p=>
      if(!u.dec&& !(bU u k).isSome)=true then eh z {bK with kind:=2,to:=k,tx:=t.tx,ops:=p}
      else if(u.dec&&gd&& !u.cy.contains k)=true then eh z {bK with kind:=4,to:=k,tx:=t.tx,yes:=u.yes}
      else z):=λgd ae0=>gN.each (I:=gN G) h λz k p hz=>by
     by_cases h1:(!u.dec&& !(bU u k).isSome)=true
     ·rw[aG h1];exact hz.send (oM.other (by simp) (by simp) (by simp))
     ·rw[ax h1];by_cases h2:(u.dec&&gd&& !u.cy.contains k)=true
      ·rw[aG h2];simp only[jc]at h2;exact hz.send ⟨by simp,λ_=>ae0 h2.1.1 h2.1.2,by simp⟩
      ·rw[ax h2];exact hz
    cases hr:aW s.log 2 t.tx with
    |none=>
     refine(fin (Decidable.decide (-1<s.aH)) λa _=>?_).same rfl rfl rfl rfl rfl rfl;obtain⟨j,r,h1,h2,h3,h4⟩:=Kt.bF a;exact absurd (h3.trans m9) (wh hr j r h1 h2)
    |some d=>
     refine(fin (Decidable.decide ((d:Int)<s.aH)) λa b=>?_).same rfl rfl rfl rfl rfl rfl;obtain⟨j,r,h1,h2,h3,h4⟩:=Kt.bF a;obtain⟨_,r',oD,nP,Ps⟩:=bX hr;have e:=h.uniq j d r r' h1 oD h2 nP (by rw[h3,m9,Ps]);subst e;have:=h.bF j r h1 (of_decide_eq_true b) h2;rw[h3,m9,h4]at this;exact⟨_,this⟩
theorem gN.eU{G:Gl}:∀ (f:Nat) {s:ShR},gN G s->gN G (Go.Sl.eU f s)
 |0,s,h=>h
 |f+1,s,h=>by
  unfold Go.Sl.eU;split
  ·exact h
  ·rename_i k t _;have h1:gN G {s with timers:=s.timers.eraseIdx k}:=h.same rfl rfl rfl rfl rfl rfl;exact gN.eU f h1.off
theorem gN.tick{G:Gl}{s:ShR}(h:gN G s):gN G (mQ s):=gN.eU _ (h.same rfl rfl rfl rfl rfl rfl)
theorem kE.write{H:Int->Int}{G:Gl}{s:ShR}{x:RecR}(e:kE H G s)(hg:s.aH<=s.log.length)(h1:x.kind=1->aW s.log 1 x.tx=none)(h2:x.kind=2->H x.tx=s.me):kE H G {s with log:=s.log++[x]}:=by
 refine⟨λi r a b=>?_,e.hu,λtx y a b=>?_,λtx y a=>?_,λi j r r' a b c d f=>?_⟩
 ·rcases l3 a with a|⟨_,a⟩
  ·exact e.hm i r a b
  ·subst a;exact h2 b
 ·obtain⟨i,r,z1,z2⟩:=e.ex tx y a b;exact⟨i,r,sC z1,z2⟩
 ·obtain⟨i,r,z1,z2,z3,z4,z5⟩:=e.exp tx y a;refine⟨i,r,sC z1,z2,z3,z4,?_⟩;show fe (dY (s.log++[x]) i) r.ops=y;rw[kA (uI (dG.1 z1).1)];exact z5
 ·rcases l3 a with a1|⟨a1,a2⟩
  ·rcases l3 b with b1|⟨b1,b2⟩
   ·exact e.u1 i j r r' a1 b1 c d f
   ·subst b2;exact absurd f (wh (h1 d) i r a1 c)
  ·rcases l3 b with b1|⟨b1,b2⟩
   ·subst a2;exact absurd f.symm (wh (h1 c) j r' b1 d)
   ·omega
def jM(s z:ShR):Prop:=z.me=s.me/\z.log=s.log/\z.aH=s.aH/\z.under=s.under
theorem jM.refl(s:ShR):jM s s:=⟨rfl,rfl,rfl,rfl⟩
theorem jM.trans{a b c:ShR}(h:jM a b)(k:jM b c):jM a c:=⟨k.1.trans h.1,k.2.1.trans h.2.1,k.2.2.1.trans h.2.2.1,k.2.2.2.trans h.2.2.2⟩
theorem jM.ite{c:Prop}[Decidable c]{z a b:ShR}(h:jM z a)(k:jM z b):jM z (if c then a else b):=by split<;>assumption
theorem jM.each{s:ShR}{ops:List bP}{f:ShR->Int->List bP->ShR}(hf:∀ z k p,jM z (f z k p)):jM s (im s ops f):=
 gN.each (I:=jM s) (jM.refl s) λz k p hz=>hz.trans (hf z k p)
theorem kE.of{H:Int->Int}{G:Gl}{s z:ShR}(h:kE H G s)(k:jM s z):kE H G z:=h.same k.1 k.2.1 k.2.2.1 (by rw[k.2.2.2];exact h.hu)
theorem kE.begin{H:Int->Int}{G:Gl}{s:ShR}{m:MsgR}(e:kE H G s)(hh:H m.tx=s.me):kE H G (kT s m):=by
 unfold kT;split
 ·split
  ·exact e.of ⟨rfl,rfl,rfl,rfl⟩
  ·exact e
 ·split
  ·exact e
  ·have h1:kE H G {s with under:=s.under++[⟨m.tx,m.ops,[],false,false,[]⟩]}:=e.same rfl rfl rfl λu hu=>by
    rcases bS.1 hu with hu|hu
    ·exact e.hu u hu
    ·rw[dL.1 hu];exact hh
   have h2:=h1.of (jM.each (ops:=m.ops) (f:=λz k p=>eh z {bK with kind:=2,to:=k,tx:=m.tx,ops:=p}) λz k p=>⟨rfl,rfl,rfl,rfl⟩);exact h2.of ⟨rfl,rfl,rfl,rfl⟩
theorem kE.ack{H:Int->Int}{G:Gl}{s:ShR}{m:MsgR}(e:kE H G s):kE H G (u5 s m):=by
 unfold u5;split
 ·exact e
 ·split
  ·exact e
  ·rename_i u hu;split
   ·exact e
   ·dsimp only;split
    ·exact e.same rfl rfl rfl λv hv=>e.hu v (EB hv)
    ·refine e.same rfl rfl rfl λv hv=>?_;rcases iL hv with hv|rfl
     ·exact e.hu v hv
     ·exact e.hu u (dg hu)
theorem kE.ask{H:Int->Int}{G:Gl}{s:ShR}{m:MsgR}(e:kE H G s)(hg:s.aH<=s.log.length)(hh:H m.tx=s.me):kE H G (u6 s m):=by
 unfold u6;split
 ·split
  ·exact e.of ⟨rfl,rfl,rfl,rfl⟩
  ·exact e
 ·split
  ·exact e
  ·exact(e.write (x:={dC with kind:=2,tx:=m.tx}) hg (λc=>by simp at c) (λ_=>hh)).of ⟨rfl,rfl,rfl,rfl⟩
theorem kE.vq{H:Int->Int}{G:Gl}{s:ShR}{m:MsgR}(e:kE H G s)(hg:s.aH<=s.log.length):kE H G (ju s m):=by
 have hw:=e.write (x:={dC with kind:=3,tx:=m.tx,yes:=m.yes}) hg (λc=>by simp at c) (λc=>by simp at c);unfold ju;split
 ·refine hw.of ⟨?_,rfl,?_,?_⟩
  all_goals(by_cases hy:m.yes=true<;>simp[hy,eX])
 ·split
  ·split
   ·exact e.of ⟨rfl,rfl,rfl,rfl⟩
   ·exact e
  ·split
   ·exact e
   ·exact hw.of ⟨rfl,rfl,rfl,rfl⟩
theorem kE.vr{H:Int->Int}{G:Gl}{s:ShR}{m:MsgR}(e:kE H G s)(hg:s.aH<=s.log.length):kE H G (gQ s m):=by
 unfold gQ;cases hr:bj s.log m.tx with
 |some i=>
  simp only[];split
  ·exact e.of ⟨rfl,rfl,rfl,rfl⟩
  ·exact e
 |none=>
  simp only[];cases hf:aW s.log 3 m.tx with
  |some d=>
   simp only[];split
   ·exact e
   ·exact e.of ⟨rfl,rfl,rfl,rfl⟩
  |none=>
   simp only[];split
   ·exact e.of ⟨rfl,rfl,rfl,rfl⟩
   ·have h1:aW s.log 1 m.tx=none:=by unfold bj at hr;rw[hf]at hr;simpa using hr
    exact(e.write (x:={dC with kind:=1,tx:=m.tx,home:=m.bq,ops:=m.ops}) hg (λ_=>h1) (λc=>by simp at c)).of ⟨rfl,rfl,rfl,rfl⟩
theorem kE.off{H:Int->Int}{G:Gl}{s:ShR}{t:fU}(e:kE H G s):kE H G (nS s t):=by
 unfold nS;split
 ·split
  ·exact e.of ⟨rfl,rfl,rfl,rfl⟩
  ·exact e
 ·split
  ·exact e
  ·split
   ·exact e
   ·refine e.of ?_;refine jM.trans (jM.each λz k p=>?_) ⟨rfl,rfl,rfl,rfl⟩;exact jM.ite ⟨rfl,rfl,rfl,rfl⟩ (jM.ite ⟨rfl,rfl,rfl,rfl⟩ (jM.refl _))
theorem kE.eU{H:Int->Int}{G:Gl}:∀ (f:Nat) {s:ShR},kE H G s->kE H G (Go.Sl.eU f s)
 |0,s,h=>h
 |f+1,s,h=>by
  unfold Go.Sl.eU;split
  ·exact h
  ·rename_i k t _;have h1:kE H G {s with timers:=s.timers.eraseIdx k}:=h.of ⟨rfl,rfl,rfl,rfl⟩;exact kE.eU f h1.off
theorem kE.tick{H:Int->Int}{G:Gl}{s:ShR}(h:kE H G s):kE H G (mQ s):=kE.eU _ (h.of ⟨rfl,rfl,rfl,rfl⟩)
theorem kE.xU{H:Int->Int}{G:Gl}{s:ShR}{m:MsgR}(e:kE H G s)(hg:s.aH<=s.log.length):kE H G (nB s m):=by
 unfold nB;cases hf:dz s.under m.tx with
 |none=>exact e
 |some i=>
  simp only[];cases hu:s.under[i]? with
  |none=>exact e
  |some u=>
   simp only[];have m9:u.tx=m.tx:=by
    unfold dz at hf;obtain⟨hl,hp,_⟩:=uH.1 hf;rw[cK hl]at hu;injection hu with hu
    rw[hu]at hp;simpa using hp
   have hh:=e.hu u (dg hu);by_cases hd:u.dec=true
   ·rw[aG hd];exact e
   rw[ax hd];generalize AH:(if(m.yes&& !(bU u m.bq).isSome)=true then({u with bk:=u.bk++[⟨m.bq,m.reads⟩]}:fO)else u)=u1;have Cc:u1.tx=u.tx:=by rw[<- AH];split<;>rfl
   have kS:∀ (u2:fO),u2.tx=u.tx->∀ x∈s.under.set i u2,H x.tx=s.me:=λu2 h2 x hx=>by
    rcases iL hx with hx|rfl
    ·exact e.hu x hx
    ·rw[h2];exact hh
   by_cases hc:(m.yes&& !n7 s.n u1.ops λk=>(bU u1 k).isSome)=true
   ·rw[aG hc];exact e.same rfl rfl rfl (kS u1 Cc)
   ·rw[ax hc];generalize iw:(if m.yes=true then jG {u1 with dec:=true,yes:=m.yes} s.n else[])=rd;have h1:=e.write (x:={dC with kind:=2,tx:=m.tx,yes:=m.yes,reads:=rd}) hg (λc=>by simp at c) (λ_=>by show H m.tx=s.me;rw[<- m9];exact hh);have h2:kE H G {s with under:=s.under.set i {u1 with dec:=true,yes:=m.yes},log:=s.log++[{dC with kind:=2,tx:=m.tx,yes:=m.yes,reads:=rd}]}:=h1.same rfl rfl rfl (kS _ (by exact Cc));have h3:=h2.of (jM.each (ops:=u1.ops) (f:=λz k _=>eX z {bK with kind:=4,to:=k,tx:=m.tx,yes:=m.yes}) λz k p=>⟨rfl,rfl,rfl,rfl⟩);exact h3.of ⟨rfl,rfl,rfl,rfl⟩
theorem tW(log more:List RecR)(s:ShR):∀ i,i<=log.length->cU (log++more) i s=cU log i s
 |0,_=>rfl
 |i+1,h=>by
  unfold cU;rw[tW log more s i ai,mT ai];have:∀ tx,y5 (log++more) tx i=y5 log tx i:=λtx=>pz log more 1 tx i ai;simp only[this];cases hr:log[i]? with
  |none=>rfl
  |some r=>
   simp only[];by_cases h1:r.kind=1
   ·rw[aG h1,aG h1]
   ·rw[ax h1,ax h1];by_cases h3:r.kind=3
    ·rw[aG h3,aG h3];cases hp:y5 log r.tx i with
     |none=>rfl
     |some p=>
      have du:p<i:=(zn hp).1;simp only[];rw[mT ai]
    ·rw[ax h3,ax h3]
def Ce:ShR:=cq ⟨0,0,true,[],0,[],[],[],[],[],0,[]⟩
theorem FO{log:List RecR}{i:Nat}(h:i<=log.length):cU (log.take i) i Ce=cU log i Ce:=by have:=tW (log.take i) (log.drop i) Ce i (by rw[jS];omega);rw[sZ]at this;exact this.symm
theorem zL{log:List RecR}{i:Nat}(h:i<=log.length):dY log i=(cU log i Ce).bT:=congrArg ShR.bT (FO h)
theorem km{log:List RecR}{x:RecR}:dY (log++[x]) (log.length+1)=(if x.kind=3 then(match aW log 1 x.tx with|some p=>if x.yes then cA (dY log log.length) (log[p]?.getD dC).ops else dY log log.length|none=>dY log log.length)else dY log log.length):=by
 rw[zL (by simp),zL (e8 _)];rw[cU,tW log [x] Ce log.length (e8 _)];simp only[xF (e8 _),yF,NV];by_cases h1:x.kind=1
 ·rw[aG h1,ax ai]
 ·rw[ax h1];by_cases h3:x.kind=3
  ·rw[aG h3,aG h3];have hp:y5 (log++[x]) x.tx log.length=aW log 1 x.tx:=pz log [x] 1 x.tx log.length (e8 _);rw[hp];cases hf:aW log 1 x.tx with
   |none=>rfl
   |some p=>
    have du:p<log.length:=(bX hf).1;simp only[];rw[mT du];by_cases hy:x.yes=true
    ·simp[hy]
    ·simp[hy]
  ·rw[ax h3,ax h3]
theorem xj(log:List RecR){s z:ShR}(hv:s.bT=z.bT)(hl:s.aX=z.aX):∀ i,(cU log i s).bT=(cU log i z).bT/\(cU log i s).aX=(cU log i z).aX
 |0=>⟨hv,hl⟩
 |i+1=>by
  obtain⟨h1,h2⟩:=xj log hv hl i;unfold cU;cases hr:log[i]? with
  |none=>exact⟨h1,h2⟩
  |some r=>
   simp only[];by_cases k1:r.kind=1
   ·rw[aG k1,aG k1];exact⟨h1,by simp only[h2]⟩
   ·rw[ax k1,ax k1];by_cases k3:r.kind=3
    ·rw[aG k3,aG k3];cases hp:y5 log r.tx i with
     |none=>exact⟨h1,by simp only[h2]⟩
     |some p=>
      simp only[];by_cases hy:r.yes=true
      ·rw[aG hy,aG hy];exact⟨by simp only[h1],by simp only[h2]⟩
      ·rw[ax hy,ax hy];exact⟨h1,by simp only[h2]⟩
    ·rw[ax k3,ax k3];exact⟨h1,h2⟩
def fQ(s:ShR):Prop:=s.up=true->s.bT=dY s.log s.log.length
theorem fQ.same{s z:ShR}(h:fQ s)(h1:z.up=s.up)(h2:z.log=s.log)(h3:z.bT=s.bT):fQ z:=by unfold fQ;rw[h1,h2,h3];exact h
theorem fQ.push{s z:ShR}{x:RecR}(h:fQ s)(hk:x.kind≠3)(h1:z.up=s.up)(h2:z.log=s.log++[x])(h3:z.bT=s.bT):fQ z:=by intro hu;rw[h1]at hu;rw[h2,h3,gO,gJ,km,ax hk];exact h hu
theorem fQ.l4{s:ShR}:fQ (cD s):=by intro _;have r:=od s.log s.log.length (cq {s with up:=true});show(cU s.log s.log.length (cq {s with up:=true})).bT=dY (cU s.log s.log.length (cq {s with up:=true})).log (cU s.log s.log.length (cq {s with up:=true})).log.length;rw[r.2.1];show _=dY s.log s.log.length;rw[zL (e8 _)];exact(xj s.log (s:=cq {s with up:=true}) (z:=Ce) rfl rfl s.log.length).1
theorem fQ.vq{s:ShR}{m:MsgR}(h:fQ s):fQ (ju s m):=by
 unfold ju;cases hr:bj s.log m.tx with
 |some r=>
  simp only[];intro hu;have Ha:s.up=true:=by
   have:(eX {(if m.yes=true then{s with bT:=cA s.bT (s.log[r]?.getD dC).ops}else s)with aX:=w8 s.aX m.tx,log:=s.log++[{dC with kind:=3,tx:=m.tx,yes:=m.yes}]} {bK with kind:=5,to:=m.bq,tx:=m.tx}).up=true:=hu;by_cases hy:m.yes=true
   ·simpa[hy,eX]using this
   ·simpa[hy,eX]using this
  show(if m.yes=true then({s with bT:=cA s.bT (s.log[r]?.getD dC).ops}:ShR)else s).bT=dY (s.log++[{dC with kind:=3,tx:=m.tx,yes:=m.yes}]) (s.log++[{dC with kind:=3,tx:=m.tx,yes:=m.yes}]).length;rw[gO,gJ,km,aG rfl];simp only[(dD hr).2];rw[<- h Ha];by_cases hy:m.yes=true
  ·rw[aG hy,aG hy]
  ·rw[ax hy,ax hy]
 |none=>
  simp only[];cases hf:aW s.log 3 m.tx with
  |some d=>
   simp only[];split
   ·exact h.same rfl rfl rfl
   ·exact h
  |none=>
   simp only[];by_cases hy:m.yes=true
   ·rw[aG hy];exact h
   ·rw[ax hy];intro hu;show s.bT=dY (s.log++[{dC with kind:=3,tx:=m.tx,yes:=m.yes}]) (s.log++[{dC with kind:=3,tx:=m.tx,yes:=m.yes}]).length;rw[gO,gJ,km,aG rfl];have h1:aW s.log 1 m.tx=none:=by unfold bj at hr;rw[hf]at hr;simpa using hr
    simp only[h1];exact h hu
theorem H9{xS:List bP}:∀ {bT:List Int} {ops:List bP},(∀ o∈ops,97<=o.k)->(∀ o∈xS,97<=o.k)->(∀ o∈ops,∀ o'∈xS,o.k≠o'.k)->fe (cA bT xS) ops=fe bT ops:=by
 induction xS with
 |nil=>intro bT ops _ _ _;rfl
 |cons a l ih=>
  intro bT ops h1 h2 h3;have qy:fe (if a.w then bT.set (a.k-97).toNat a.v else bT) ops=fe bT ops:=by
   by_cases hw:a.w=true
   ·rw[aG hw];unfold fe;refine List.map_congr_left λo ho=>?_;have hm:=(gI.1 ho).1;have eV:(a.k-97).toNat≠(o.k-97).toNat:=by have:=h1 o hm;have:=h2 a (fY ..);have:=h3 o hm a (fY ..);omega
    rw[wS eV]
   ·rw[ax hw]
  show fe (cA (if a.w then bT.set (a.k-97).toNat a.v else bT) l) ops=_;rw[ih h1 (λo ho=>h2 o (fp _ ho)) (λo ho o' mq=>h3 o ho o' (fp _ mq)),qy]
structure tX(L:List RecR):Prop where
 key:∀ tx i (r:RecR),bj L tx=some i->L[i]? =some r->∀ o∈r.ops,97<=o.k
 seen:∀ tx i (r:RecR),bj L tx=some i->L[i]? =some r->fe (dY L L.length) r.ops=fe (dY L i) r.ops
 apart:∀ tx R1 i i' (r r':RecR),tx≠R1->bj L tx=some i->bj L R1=some i'->L[i]? =some r->L[i']? =some r'->∀ o∈r.ops,∀ o'∈r'.ops,o.k≠o'.k
theorem lT{L:List RecR}{tx:Int}{i:Nat}(h:bj L tx=some i):i<L.length:=(bX (dD h).2).1
theorem tX.abf{L:List RecR}{x:RecR}(h:tX L)(hk:x.kind=2):tX (L++[x]):=by
 have hr:∀ tx,bj (L++[x]) tx=bj L tx:=λtx=>by
  have e3:aW (L++[x]) 3 tx=aW L 3 tx:=by rw[dO,ax (by simp[isRec,hk])]
  have e1:aW (L++[x]) 1 tx=aW L 1 tx:=by rw[dO,ax (by simp[isRec,hk])]
  unfold bj;rw[e3,e1]
 have hg:∀ {tx i},bj L tx=some i->∀ {r:RecR},(L++[x])[i]? =some r->L[i]? =some r:=λh r hr=>by rw[mT (lT h)]at hr;exact hr
 refine⟨λtx i r a b=>?_,λtx i r a b=>?_,λtx R1 i i' r r' n a b c d=>?_⟩
 ·rw[hr]at a;exact h.key tx i r a (hg a b)
 ·rw[hr]at a;rw[gO,gJ,km,ax ai,kA (uI (lT a))];exact h.seen tx i r a (hg a b)
 ·rw[hr]at a b;exact h.apart tx R1 i i' r r' n a b (hg a c) (hg b d)
theorem tX.abg{L:List RecR}{x:RecR}(h:tX L)(hk:x.kind=3)(hn:aW L 3 x.tx=none):tX (L++[x]):=by
 have hr:∀ tx i,bj (L++[x]) tx=some i->tx≠x.tx/\bj L tx=some i:=λtx i a=>by
  obtain⟨a3,a1⟩:=dD a;rw[dO]at a3 a1;rw[ax (by simp[isRec,hk])]at a1;have eV:isRec 3 tx x=false:=by
   cases hc:isRec 3 tx x with
   |false=>rfl
   |true=>rw[hc]at a3;simp at a3
  rw[eV]at a3;simp only[gn,eR]at a3;refine⟨λe=>?_,?_⟩
  ·simp[isRec,hk,e]at eV
  ·unfold bj;rw[a3];exact a1
 have hg:∀ {tx i},bj L tx=some i->∀ {r:RecR},(L++[x])[i]? =some r->L[i]? =some r:=λh r hr=>by rw[mT (lT h)]at hr;exact hr
 refine⟨λtx i r a b=>?_,λtx i r a b=>?_,λtx R1 i i' r r' n a b c d=>?_⟩
 ·have a:=(hr _ _ a).2;exact h.key tx i r a (hg a b)
 ·obtain⟨eV,a⟩:=hr _ _ a;have b':=hg a b;rw[gO,gJ,km,aG hk,kA (uI (lT a)),<- h.seen tx i r a b'];cases hp:aW L 1 x.tx with
  |none=>rfl
  |some p=>
   simp only[];have Vv:bj L x.tx=some p:=by unfold bj;rw[hn];exact hp
   obtain⟨_,rp,Xh,_,_⟩:=bX hp;by_cases hy:x.yes=true
   ·rw[aG hy,Xh,iA];exact H9 (h.key tx i r a b') (h.key _ p rp Vv Xh) (h.apart tx x.tx i p r rp eV a Vv b' Xh)
   ·rw[ax hy]
 ·have a:=(hr _ _ a).2;have b:=(hr _ _ b).2;exact h.apart tx R1 i i' r r' n a b (hg a c) (hg b d)
theorem tX.abh{L:List RecR}{x:RecR}(h:tX L)(hk:x.kind=1)(hn:aW L 3 x.tx=none)(h1:aW L 1 x.tx=none)(Fu:∀ o∈x.ops,97<=o.k)
  (zr:∀ t i (r:RecR),bj L t=some i->L[i]? =some r->∀ o∈r.ops,∀ o'∈x.ops,o.k≠o'.k):tX (L++[x]):=by
 have hr:∀ tx i,bj (L++[x]) tx=some i->(tx=x.tx/\i=L.length)\/(tx≠x.tx/\bj L tx=some i):=λtx i a=>by
  obtain⟨a3,a1⟩:=dD a;rw[dO]at a3 a1;rw[ax (by simp[isRec,hk])]at a3;by_cases e:tx=x.tx
  ·subst e;rw[aG (by simp[isRec,hk])]at a1;injection a1 with a1
   exact .inl ⟨rfl,a1.symm⟩
  ·rw[ax (by simp[isRec,hk];exact λz=>e z.symm)]at a1;exact .inr ⟨e,by unfold bj;rw[a3];exact a1⟩
 have hg:∀ {tx i},bj L tx=some i->∀ {r:RecR},(L++[x])[i]? =some r->L[i]? =some r:=λh r hr=>by rw[mT (lT h)]at hr;exact hr
 have hx:∀ {r:RecR},(L++[x])[L.length]? =some r->r=x:=λhr=>by simpa using hr.symm
 refine⟨λtx i r a b=>?_,λtx i r a b=>?_,λtx R1 i i' r r' n a b c d=>?_⟩
 ·rcases hr _ _ a with⟨_,rfl⟩|⟨_,a⟩
  ·rw[hx b];exact Fu
  ·exact h.key tx i r a (hg a b)
 ·rw[gO,gJ,km,ax ai];rcases hr _ _ a with⟨_,rfl⟩|⟨_,a⟩
  ·rw[kA (e8 _)]
  ·rw[kA (uI (lT a))];exact h.seen tx i r a (hg a b)
 ·rcases hr _ _ a with⟨e1,rfl⟩|⟨_,a⟩
  ·rcases hr _ _ b with⟨e2,rfl⟩|⟨_,b⟩
   ·exact absurd (e1.trans e2.symm) n
   ·rw[hx c];exact λo ho o' mq=>(zr R1 i' r' b (hg b d) o' mq o ho).symm
  ·rcases hr _ _ b with⟨e2,rfl⟩|⟨_,b⟩
   ·rw[hx d];exact zr tx i r a (hg a c)
   ·exact h.apart tx R1 i i' r r' n a b (hg a c) (hg b d)
theorem tX.nil:tX []:=⟨λtx i r a=>by simp[bj,aW,findD]at a,λtx i r a=>by simp[bj,aW,findD]at a,λtx R1 i i' r r' n a=>by simp[bj,aW,findD]at a⟩
theorem ed.keep{T:List (List bP)}{n me:Int}{E:List aN}(hT:vg T)(h:ed T n me E):tX (E.map aN.aV):=by
 induction h with
 |nil=>exact tX.nil
 |cg h ho ht h1 h3 hf ih=>
  rw[eI];refine ih.abh rfl h3 h1 (λo mq=>?_) (λt i r a b=>hf t i r a b);have hm:=(je ho).2.2;exact((hT.1 _ hm).1 o (gI.1 mq).1).1
 |dec h ho ih=>rw[eI];exact ih.abf rfl
 |jX h ho h3 ih=>rw[eI];exact ih.abg rfl h3
def jy(s z:ShR):Prop:=z.up=s.up/\z.log=s.log/\z.bT=s.bT
theorem jy.refl(s:ShR):jy s s:=⟨rfl,rfl,rfl⟩
theorem jy.trans{a b c:ShR}(h:jy a b)(k:jy b c):jy a c:=⟨k.1.trans h.1,k.2.1.trans h.2.1,k.2.2.trans h.2.2⟩
theorem jy.ite{c:Prop}[Decidable c]{z a b:ShR}(h:jy z a)(k:jy z b):jy z (if c then a else b):=by split<;>assumption
theorem jy.each{s:ShR}{ops:List bP}{f:ShR->Int->List bP->ShR}(hf:∀ z k p,jy z (f z k p)):jy s (im s ops f):=
 gN.each (I:=jy s) (jy.refl s) λz k p hz=>hz.trans (hf z k p)
theorem fQ.of{s z:ShR}(h:fQ s)(k:jy s z):fQ z:=h.same k.1 k.2.1 k.2.2
theorem fQ.begin{s:ShR}{m:MsgR}(h:fQ s):fQ (kT s m):=by
 unfold kT;split
 ·split
  ·exact h.of ⟨rfl,rfl,rfl⟩
  ·exact h
 ·split
  ·exact h
  ·exact(h.of (z:={s with under:=s.under++[⟨m.tx,m.ops,[],false,false,[]⟩]}) ⟨rfl,rfl,rfl⟩).of (jy.trans (jy.each (ops:=m.ops) (f:=λz k p=>eh z {bK with kind:=2,to:=k,tx:=m.tx,ops:=p}) λz k p=>⟨rfl,rfl,rfl⟩) ⟨rfl,rfl,rfl⟩)
theorem fQ.ack{s:ShR}{m:MsgR}(h:fQ s):fQ (u5 s m):=by
 unfold u5;split
 ·exact h
 ·split
  ·exact h
  ·split
   ·exact h
   ·dsimp only;split<;>exact h.of ⟨rfl,rfl,rfl⟩
theorem fQ.ask{s:ShR}{m:MsgR}(h:fQ s):fQ (u6 s m):=by
 unfold u6;split
 ·split
  ·exact h.of ⟨rfl,rfl,rfl⟩
  ·exact h
 ·split
  ·exact h
  ·exact h.push (x:={dC with kind:=2,tx:=m.tx}) (by simp) rfl rfl rfl
theorem fQ.xU{s:ShR}{m:MsgR}(h:fQ s):fQ (nB s m):=by
 unfold nB;split
 ·exact h
 ·split
  ·exact h
  ·rename_i _ i _ _ u _;by_cases hd:u.dec=true
   ·rw[aG hd];exact h
   rw[ax hd];generalize AH:(if(m.yes&& !(bU u m.bq).isSome)=true then({u with bk:=u.bk++[⟨m.bq,m.reads⟩]}:fO)else u)=u1;by_cases hc:(m.yes&& !n7 s.n u1.ops λk=>(bU u1 k).isSome)=true
   ·rw[aG hc];exact h.of ⟨rfl,rfl,rfl⟩
   ·rw[ax hc];generalize iw:(if m.yes=true then jG {u1 with dec:=true,yes:=m.yes} s.n else[])=rd;have h2:fQ {s with under:=s.under.set i {u1 with dec:=true,yes:=m.yes},log:=s.log++[{dC with kind:=2,tx:=m.tx,yes:=m.yes,reads:=rd}]}:=h.push (x:={dC with kind:=2,tx:=m.tx,yes:=m.yes,reads:=rd}) (by simp) rfl rfl rfl;have h3:=h2.of (jy.each (ops:=u1.ops) (f:=λz k _=>eX z {bK with kind:=4,to:=k,tx:=m.tx,yes:=m.yes}) λz k p=>⟨rfl,rfl,rfl⟩);subst iw;exact h3.of ⟨rfl,rfl,rfl⟩
theorem fQ.vr{s:ShR}{m:MsgR}(h:fQ s):fQ (gQ s m):=by
 unfold gQ;split
 ·split
  ·exact h.of ⟨rfl,rfl,rfl⟩
  ·exact h
 ·split
  ·split
   ·exact h
   ·exact h.of ⟨rfl,rfl,rfl⟩
  ·split
   ·exact h.of ⟨rfl,rfl,rfl⟩
   ·exact h.push (x:={dC with kind:=1,tx:=m.tx,home:=m.bq,ops:=m.ops}) (by simp) rfl rfl rfl
theorem fQ.off{s:ShR}{t:fU}(h:fQ s):fQ (nS s t):=by
 unfold nS;split
 ·split
  ·exact h.of ⟨rfl,rfl,rfl⟩
  ·exact h
 ·split
  ·exact h
  ·split
   ·exact h
   ·refine h.of ?_;refine jy.trans (jy.each λz k p=>?_) ⟨rfl,rfl,rfl⟩;exact jy.ite ⟨rfl,rfl,rfl⟩ (jy.ite ⟨rfl,rfl,rfl⟩ (jy.refl _))
theorem fQ.eU:∀ (f:Nat) {s:ShR},fQ s->fQ (Go.Sl.eU f s)
 |0,s,h=>h
 |f+1,s,h=>by
  unfold Go.Sl.eU;split
  ·exact h
  ·rename_i k t _;have h1:fQ {s with timers:=s.timers.eraseIdx k}:=h.of ⟨rfl,rfl,rfl⟩;exact fQ.eU f h1.off
theorem fQ.tick{s:ShR}(h:fQ s):fQ (mQ s):=fQ.eU _ (h.of ⟨rfl,rfl,rfl⟩)
theorem fQ.sync{s:ShR}(h:fQ s):fQ (u7 s):=h.of ⟨rfl,rfl,rfl⟩
theorem fQ.zK{s:ShR}{k:Int}:fQ (iV s k):=λhu=>by have:(iV s k).up=false:=rfl;rw[this]at hu;cases hu
structure En(H:Int->Int)(G:Gl)(s:ShR):Prop where
 g:gN G s
 e:kE H G s
 v:fQ s
theorem En.take{H:Int->Int}{G:Gl}{s:ShR}{m:MsgR}(h:En H G s)(hm:oM G m)(hh:m.kind=1\/m.kind=6->H m.tx=s.me)(hk:tX s.log)(dP:s.up=true):En H G (jw s m):=by
 have hg:=h.g.aH.2;unfold jw;split
 ·rename_i k;exact⟨h.g.begin,h.e.begin (hh (.inl k)),h.v.begin⟩
 split
 ·refine⟨h.g.vr (h.v dP) (λi r a b=>?_),h.e.vr hg,h.v.vr⟩;rw[h.v dP];exact hk.seen m.tx i r a b
 split
 ·rename_i k;exact⟨h.g.xU hm k,h.e.xU hg,h.v.xU⟩
 split
 ·rename_i k;exact⟨h.g.vq hm k,h.e.vq hg,h.v.vq⟩
 split
 ·exact⟨h.g.ack,h.e.ack,h.v.ack⟩
 split
 ·rename_i k;exact⟨h.g.ask,h.e.ask hg (hh (.inr k)),h.v.ask⟩
 ·exact h
theorem En.tick{H:Int->Int}{G:Gl}{s:ShR}(h:En H G s):En H G (mQ s):=⟨h.g.tick,h.e.tick,h.v.tick⟩
theorem En.l4{H:Int->Int}{G:Gl}{s:ShR}(h:En H G s):En H G (cD s):=⟨(h.g.l4 h.e).1,(h.g.l4 h.e).2,fQ.l4⟩
structure Cf(H:Int->Int)(G:Gl)(w:WR):Prop where
 sh:∀ (i:Nat) s,w.sh[i]? =some s->En H G s/\s.me=i/\s.out=[]
 aK:∀ m∈w.aK,oM G m
 aF:∀ (t:Nat) x,w.aF[t]? =some x->(x.state=2->G.dec t=some (true,x.reads))/\(x.state=3->∃ rd,G.dec t=some (false,rd))
theorem En.clear{H:Int->Int}{G:Gl}{s:ShR}(h:En H G s):En H G {s with out:=[]}:=
 ⟨⟨h.g.aH,h.g.uniq,h.g.bF,h.g.cg,h.g.done,h.g.waits,λm hm=>(by cases hm),h.g.nd,h.g.bY⟩,h.e.of ⟨rfl,rfl,rfl,rfl⟩,h.v.of ⟨rfl,rfl,rfl⟩⟩
theorem Cf.A3{H:Int->Int}{G G':Gl}{w:WR}{a:Nat}{s':ShR}(h:Cf H G w)(hle:G.Le G')(hs:En H G' s')(LN:s'.me=a)(ho:∀ z,z.me≠(a:Int)->kE H G z->kE H G' z):Cf H G' (ml w a s'):=by
 refine⟨λi s hi=>?_,λm hm=>?_,λt x ht=>?_⟩
 ·have ee:(w.sh.set a {s' with out:=[]})[i]? =some s:=hi;by_cases e:a=i
  ·subst e;rw[oY]at ee;simp only[eN]at ee;split at ee
   ·injection ee with ee;subst ee;exact⟨hs.clear,LN,rfl⟩
   ·cases ee
  ·rw[wS e]at ee;obtain⟨h1,h2,h3⟩:=h.sh i s ee;exact⟨⟨h1.g.mono hle,ho s (by rw[h2];omega) h1.e,h1.v⟩,h2,h3⟩
 ·rcases bS.1 hm with hm|hm
  ·exact(h.aK m hm).mono hle
  ·exact hs.g.out m hm
 ·obtain⟨h1,h2⟩:=h.aF t x ht;exact⟨λz=>hle.dec _ _ (h1 z),λz=>(h2 z).imp λ_ y=>hle.dec _ _ y⟩
theorem Cf.begin{H:Int->Int}{G:Gl}{w:WR}{tx:Nat}(h:Cf H G w):Cf H G (iW w tx):=by
 unfold iW;split
 ·exact h
 ·refine⟨h.sh,λm hm=>?_,h.aF⟩;rcases bS.1 hm with hm|hm
  ·exact h.aK m hm
  ·rw[dL.1 hm];exact oM.other (by simp) (by simp) (by simp)
theorem Cf.abi{H:Int->Int}{G:Gl}{w:WR}{m:MsgR}(h:Cf H G w)(hm:oM G m)(hk:m.kind=7)(h0:0<=m.tx):Cf H G (p9 w m):=by
 unfold p9;split
 ·exact h
 ·rename_i t ht;split
  ·refine⟨h.sh,h.aK,λi x hx=>?_⟩;have fb:(w.aF.set m.tx.toNat (if m.yes then{t with state:=2,reads:=m.reads}else{t with state:=3}))[i]? =some x:=hx;by_cases e:m.tx.toNat=i
   ·subst e;rw[oY]at fb;simp only[eN]at fb;split at fb
    ·injection fb with fb
     have hd:=hm.told hk;have e2:((m.tx.toNat:Nat):Int)=m.tx:=ai;rw[e2];by_cases hy:m.yes=true
     ·rw[aG hy]at fb;subst fb;rw[hy]at hd;exact⟨λ_=>hd,λz=>by simp at z⟩
     ·rw[ax hy]at fb;subst fb;have xJ:m.yes=false:=by simpa using hy
      rw[xJ]at hd;exact⟨λz=>by simp at z,λ_=>⟨_,hd⟩⟩
    ·cases fb
   ·rw[wS e]at fb;exact h.aF i x fb
  ·exact h
theorem Cf.less{H:Int->Int}{G:Gl}{w:WR}{i:Nat}(h:Cf H G w):Cf H G {w with aK:=w.aK.eraseIdx i}:=⟨h.sh,λm hm=>h.aK m (EB hm),h.aF⟩
structure Xi(H:Int->Int)(w:WR):Prop where
 home:∀ m∈w.aK,m.kind=1\/m.kind=6->H m.tx=m.to
 told:∀ m∈w.aK,m.to= -1->m.kind=7/\0<=m.tx
 to:∀ m∈w.aK, -1<=m.to
 keep:∀ (i:Nat) s,w.sh[i]? =some s->tX s.log
theorem Cf.message{H:Int->Int}{G:Gl}{w:WR}{k i:Int}(h:Cf H G w)(hM:Xi H w):Cf H G (gR w k i).1:=by
 unfold gR;split
 ·exact h
 ·split
  ·exact h
  ·rename_i m hm;have dR:=dg hm;split
   ·split
    ·exact h
    ·refine⟨h.sh,λx hx=>?_,h.aF⟩;rcases bS.1 hx with hx|hx
     ·exact h.aK x hx
     ·rw[dL.1 hx];exact h.aK m dR
   ·dsimp only;split
    ·exact h.less
    ·split
     ·rename_i ht;obtain⟨h7,h0⟩:=hM.told m dR ht;exact h.less.abi (h.aK m dR) h7 h0
     ·rename_i eV;split
      ·exact h.less
      ·rename_i s hs;have nO:w.sh[m.to.toNat]? =some s:=hs;obtain⟨a1,a2,a3⟩:=h.sh _ s nO;have uA:=hM.to m dR;split
       ·rename_i dP;have e:((m.to.toNat:Nat):Int)=m.to:=ai;have h1:=a1.take (h.aK m dR) (λz=>by rw[hM.home m dR z,a2,e]) (hM.keep _ s nO) dP;have LN:(jw s m).me=s.me:=(FC s m).1;exact h.less.A3 (Gl.Le.refl G) h1 (by rw[LN,a2]) (λz _ hz=>hz)
       ·exact h.less
theorem Cf.gH{H:Int->Int}{G:Gl}{w:WR}{k a b:Int}(h:Cf H G w)(hM:Xi H w):∃ G',G.Le G'/\Cf H G' (gH w k a b).1:=by
 unfold Go.Sl.gH;split
 ·exact⟨G,.refl G,h⟩
 split
 ·exact⟨G,.refl G,h⟩
 split
 ·split
  ·exact⟨G,.refl G,h⟩
  split
  ·exact⟨G,.refl G,h⟩
  ·exact⟨G,.refl G,h.begin⟩
 split
 ·exact⟨G,.refl G,h.message hM⟩
 split
 ·exact⟨G,.refl G,h⟩
 split
 ·exact⟨G,.refl G,h⟩
 ·rename_i s hs;obtain⟨a1,a2,a3⟩:=h.sh _ s hs;split
  ·split
   ·exact⟨G,.refl G,h⟩
   ·have hr:=rI s;have e:({w with sh:=w.sh.set a.toNat (cD s)}:WR)=ml w a.toNat (cD s):=by
     unfold ml;have ho:(cD s).out=[]:=hr.2.trans a3;have e1:({cD s with out:=[]}:ShR)=cD s:=by generalize cD s=z at ho;cases z;simp only at ho;subst ho;rfl
     rw[e1,ho,l7]
    refine⟨G,.refl G,?_⟩;show Cf H G {w with sh:=w.sh.set a.toNat (cD s)};rw[e];exact h.A3 (.refl G) a1.l4 (hr.1.trans a2) λz _ e=>e
  split
  ·exact⟨G,.refl G,h⟩
  split
  ·refine⟨_,G.zJ s.me s.log s.log.length,h.A3 (G.zJ _ _ _) ⟨(a1.g.sync a1.e).1,(a1.g.sync a1.e).2,a1.v.sync⟩ a2 λz hz e=>kE.grow a1.e e (by rw[a2];exact hz)⟩
  split
  ·split
   ·exact⟨G,.refl G,h⟩
   ·exact⟨G,.refl G,h.A3 (.refl G) a1.tick ((wc _ _).trans a2) λz _ e=>e⟩
  ·obtain⟨g,_,_,h1,h2⟩:=a1.g.zK a1.e (k:=b);exact⟨_,G.zJ s.me s.log g,h.A3 (G.zJ _ _ _) ⟨h1,h2,fQ.zK⟩ a2 λz hz e=>kE.grow a1.e e (by rw[a2];exact hz)⟩
def lL(w:WR)(t:Int):Int:=gk ((opsOf (cJ w.aF) t).getD []) w.sh.length
theorem iI.ae1{W:WP}{w:WR}(H:iI W w):Xi (lL w) w:=by
 have hn:(0:Int)<w.sh.length:=by have:=H.n.1;omega
 have key:∀ m∈w.aK,∃ ops,opsOf (cJ w.aF) m.tx=some ops/\0<=m.tx/\gf ops/\0<=gk ops w.sh.length:=λm hm=>by
  obtain⟨ops,ho,_⟩:=H.msg m hm;obtain⟨h1,_,h3⟩:=je ho;have hr:=H.tok.1 ops h3;refine⟨ops,ho,h1,hr,?_⟩;have eV:ops≠[]:=λe=>by have:=hr.2.2.1;rw[e]at this;simp at this
  exact(gz hr hn (n9 (n:=w.sh.length) eV)).1
 refine⟨λm hm hk=>?_,λm hm ht=>?_,λm hm=>?_,λi s hs=>?_⟩
 ·obtain⟨ops,ho,hc⟩:=H.msg m hm;have:lL w m.tx=gk ops w.sh.length:=by unfold lL;rw[ho];rfl
  rw[this];rcases hc with c|c|c|c|c|c|c
  ·exact c.2.2.1.symm
  ·exact absurd c.1 ai
  ·exact absurd c.1 ai
  ·exact absurd c.1 ai
  ·exact c.2.1.symm
  ·exact c.2.1.symm
  ·exact absurd c.1 ai
 ·obtain⟨ops,ho,h0,hr,hh⟩:=key m hm;obtain⟨xS,mq,hc⟩:=H.msg m hm;rw[ho]at mq;injection mq with e;subst e
  rcases hc with c|c|c|c|c|c|c
  ·have:=c.2.2.1;omega
  ·have:=(gz hr hn c.2.2.1).1;omega
  ·have:=c.2.1;omega
  ·have:=(gz hr hn c.2.2.1).1;omega
  ·have:=c.2.1;omega
  ·have:=c.2.1;omega
  ·exact⟨c.1,h0⟩
 ·obtain⟨ops,ho,h0,hr,hh⟩:=key m hm;obtain⟨xS,mq,hc⟩:=H.msg m hm;rw[ho]at mq;injection mq with e;subst e
  rcases hc with c|c|c|c|c|c|c
  ·have:=c.2.2.1;omega
  ·have:=(gz hr hn c.2.2.1).1;omega
  ·have:=c.2.1;omega
  ·have:=(gz hr hn c.2.2.1).1;omega
  ·have:=c.2.1;omega
  ·have:=c.2.1;omega
  ·have:=c.2.1;omega
 ·obtain⟨P,hP⟩:∃ P,W.sh[i]? =some P:=by have hi:=(dG.1 hs).1;exact⟨_,cK (by rw[H.len];exact hi)⟩
  obtain⟨h1,_,_⟩:=H.sh i P s hP hs;rw[<- h1.log];exact h1.xa.keep H.tok
section
variable{T:List (List bP)}{n me:Int}
theorem ed.at'{E:List aN}(h:ed T n me E){i:Nat}{e:aN}(he:E[i]? =some e):PK T n me (E.take i) e:=by have:=h.init (i+1);rw[wa he]at this;exact this.inv.2
theorem Dv{E:List aN}{i:Nat}{r:RecR}(h:(E.map aN.aV)[i]? =some r):∃ e,E[i]? =some e/\e.aV=r:=by rw[fH]at h;exact G3.1 h
theorem map_take(E:List aN)(i:Nat):(E.take i).map aN.aV=(E.map aN.aV).take i:=EC
theorem ed.p1{E:List aN}(h:ed T n me E){i:Nat}{r:RecR}(hr:(E.map aN.aV)[i]? =some r)(hk:r.kind=1):
  aW ((E.map aN.aV).take i) 1 r.tx=none/\aW ((E.map aN.aV).take i) 3 r.tx=none/\
  ∀ t j (r':RecR),bj ((E.map aN.aV).take i) t=some j->(E.map aN.aV)[j]? =some r'->∀ o∈r'.ops,∀ o'∈r.ops,o.k≠o'.k:=by
 obtain⟨e,he,rfl⟩:=Dv hr;have hl:=h.at' he;cases e with
 |cg tx home ops=>
  obtain⟨full,h1,h2,h3,h4,h5,h6,h7⟩:=hl;rw[map_take]at h5 h6 h7;refine⟨h5,h6,λt j r' a b=>h7 t j r' a ?_⟩;have:=lT a;rw[jS]at this;rw[s4 ai];exact b
 |dec tx yes rd=>simp[aN.aV]at hk
 |jX tx yes=>simp[aN.aV]at hk
theorem ed.p3{E:List aN}(h:ed T n me E){i:Nat}{r:RecR}(hr:(E.map aN.aV)[i]? =some r)(hk:r.kind=3):aW ((E.map aN.aV).take i) 3 r.tx=none:=by
 obtain⟨e,he,rfl⟩:=Dv hr;have hl:=h.at' he;cases e with
 |cg tx home ops=>simp[aN.aV]at hk
 |dec tx yes rd=>simp[aN.aV]at hk
 |jX tx yes=>rw[<- map_take];exact hl.2
theorem oe{L:List RecR}{k:Int}{i j:Nat}{r:RecR}(hr:L[i]? =some r)(hk:r.kind=k)(hi:i<j):∃ d,aW (L.take j) k r.tx=some d:=by
 cases hf:aW (L.take j) k r.tx with
 |some d=>exact⟨d,rfl⟩
 |none=>exact absurd ⟨hk,rfl⟩ (kg.1 hf r (dg (i:=i) (by rw[s4 hi];exact hr)))
theorem qg{L:List RecR}{k t:Int}{j d:Nat}(h:aW (L.take j) k t=some d):d<j/\∃ r,L[d]? =some r/\r.kind=k/\r.tx=t:=by obtain⟨h1,r,h2,h3,h4⟩:=bX h;obtain⟨a,b⟩:=gB h2;exact⟨a,r,b,h3,h4⟩
theorem ed.abj{E:List aN}(h:ed T n me E){i j:Nat}{r r':RecR}(hr:(E.map aN.aV)[i]? =some r)(oD:(E.map aN.aV)[j]? =some r')(hk:r.kind=3)(nP:r'.kind=3)(e:r.tx=r'.tx):i=j:=by
 rcases yA i j with c|c|c
 ·obtain⟨d,hd⟩:=oe hr hk c;have:=h.p3 oD nP;rw[<- e,hd]at this;cases this
 ·exact c
 ·obtain⟨d,hd⟩:=oe oD nP c;have:=h.p3 hr hk;rw[e,hd]at this;cases this
theorem ed.Tq{E:List aN}(h:ed T n me E){i j:Nat}{r r':RecR}(hr:(E.map aN.aV)[i]? =some r)(oD:(E.map aN.aV)[j]? =some r')(hk:r.kind=1)(nP:r'.kind=1)(e:r.tx=r'.tx):i=j:=by
 rcases yA i j with c|c|c
 ·obtain⟨d,hd⟩:=oe hr hk c;have:=(h.p1 oD nP).1;rw[<- e,hd]at this;cases this
 ·exact c
 ·obtain⟨d,hd⟩:=oe oD nP c;have:=(h.p1 hr hk).1;rw[e,hd]at this;cases this
theorem ed.after{E:List aN}(h:ed T n me E){i d:Nat}{r r':RecR}(hr:(E.map aN.aV)[i]? =some r)(oD:(E.map aN.aV)[d]? =some r')(hk:r.kind=1)(nP:r'.kind=3)(e:r.tx=r'.tx):i<d:=by
 rcases yA i d with c|c|c
 ·exact c
 ·subst c;rw[hr]at oD;injection oD with z;subst z;omega
 ·obtain⟨x,hx⟩:=oe oD nP c;have:=(h.p1 hr hk).2.1;rw[e,hx]at this;cases this
theorem ed.FP{E:List aN}(h:ed T n me E){i j:Nat}{r r':RecR}(hr:(E.map aN.aV)[i]? =some r)(oD:(E.map aN.aV)[j]? =some r')(hk:r.kind=1)(nP:r'.kind=1)
  (eV:r.tx≠r'.tx) {o o':bP} (ho:o∈r.ops) (mq:o'∈r'.ops) (e:o.k=o'.k) (m7:aW (E.map aN.aV) 3 r.tx=none):
  ∃ (d:Nat) (x:RecR),d<i/\(E.map aN.aV)[d]? =some x/\x.kind=3/\x.tx=r'.tx:=by
 have same:∀ (a b:Nat) (x y:RecR),(E.map aN.aV)[a]? =some x->(E.map aN.aV)[b]? =some y->x.kind=1->y.kind=1->x.tx=y.tx->x=y:=λa b x y ha hb kx ky z=>by have:=h.Tq ha hb kx ky z;subst this;rw[ha]at hb;injection hb
 rcases yA i j with c|c|c
 ·exfalso;obtain⟨q,hq⟩:=oe hr hk c;have hn:aW ((E.map aN.aV).take j) 3 r.tx=none:=by rw[kg];intro x hx;exact kg.1 m7 x (EF hx)
  have iw:bj ((E.map aN.aV).take j) r.tx=some q:=by unfold bj;rw[hn];exact hq
  obtain⟨_,y,hy,ky,ty⟩:=qg hq;have:=same q i y r hy hr ky hk ty;subst this;exact(h.p1 oD nP).2.2 _ q y iw hy o ho o' mq e
 ·subst c;rw[hr]at oD;injection oD with z;subst z;exact absurd rfl eV
 ·obtain⟨q,hq⟩:=oe oD nP c;cases hf:aW ((E.map aN.aV).take i) 3 r'.tx with
  |some d=>
   obtain⟨h1,x,h2,h3,h4⟩:=qg hf;exact⟨d,x,h1,h2,h3,h4⟩
  |none=>
   exfalso;have iw:bj ((E.map aN.aV).take i) r'.tx=some q:=by unfold bj;rw[hf];exact hq
   obtain⟨_,y,hy,ky,ty⟩:=qg hq;have:=same q j y r' hy oD ky nP ty;subst this;exact(h.p1 hr hk).2.2 _ q y iw hy o' mq o ho e.symm
theorem mz(v:List Int)(a:bP)(l:List bP):cA v (a::l)=cA (if a.w then v.set (a.k-97).toNat a.v else v) l:=rfl
theorem sD{k:Int}(hk:97<=k):∀ {l:List bP} {v:List Int},(∀ o∈l,97<=o.k)->(∀ o∈l,o.w=true->o.k≠k)->(cA v l)[(k-97).toNat]? =v[(k-97).toNat]? :=by
 intro l
 induction l with
 |nil=>intro v _ _;rfl
 |cons a l ih=>
  intro v h1 h2;rw[mz,ih (λo ho=>h1 o (fp _ ho)) (λo ho=>h2 o (fp _ ho))];by_cases hw:a.w=true
  ·rw[aG hw,wS];have:=h1 a (fY ..);have:=h2 a (fY ..) hw;omega
  ·rw[ax hw]
theorem FQ{k s n:Int}(hk:97<=k)(hs:atR k n=s):∀ {l:List bP} {v v':List Int},(∀ o∈l,97<=o.k)->v.length=v'.length->v[(k-97).toNat]? =v'[(k-97).toNat]? ->(cA v l)[(k-97).toNat]? =(cA v' (br l s n))[(k-97).toNat]? :=by
 intro l
 induction l with
 |nil=>intro v v' _ _ h;exact h
 |cons a l ih=>
  intro v v' h1 hl h2;have AR:∀ o∈l,97<=o.k:=λo ho=>h1 o (fp _ ho);have ha:=h1 a (fY ..);have hc:br (a::l) s n=if atR a.k n=s then a::br l s n else br l s n:=by unfold br;rw[o6];simp
  rw[mz,hc];by_cases hp:atR a.k n=s
  ·rw[aG hp,mz];by_cases hw:a.w=true
   ·rw[aG hw,aG hw];refine ih AR (by simp[hl]) ?_;rw[oY,oY,hl,h2]
   ·rw[ax hw,ax hw];exact ih AR hl h2
  ·rw[ax hp];refine ih AR (by split<;>simp[hl]) ?_;by_cases hw:a.w=true
   ·rw[aG hw,wS]
    ·exact h2
    ·intro e;apply hp;rw[show a.k=k by omega];exact hs
   ·rw[ax hw];exact h2
theorem Ia{k:Int}(hk:97<=k):∀ {l:List bP} {v v':List Int},(∀ o∈l,97<=o.k)->v.length=v'.length->(∃ o∈l,o.w=true/\o.k=k)->(cA v l)[(k-97).toNat]? =(cA v' l)[(k-97).toNat]? :=by
 intro l
 induction l with
 |nil=>rintro v v' _ _ ⟨o,ho,_⟩;cases ho
 |cons a l ih=>
  intro v v' h1 hl h2;have AR:∀ o∈l,97<=o.k:=λo ho=>h1 o (fp _ ho);rw[mz,mz];by_cases hx:∃ o∈l,o.w=true/\o.k=k
  ·exact ih AR (by split<;>simp[hl]) hx
  ·have m7:∀ o∈l,o.w=true->o.k≠k:=λo ho hw e=>hx ⟨o,ho,hw,e⟩;rw[sD hk AR m7,sD hk AR m7];obtain⟨o,ho,hw,e⟩:=h2;rcases fR.1 ho with rfl|ho
   ·rw[aG hw,aG hw,e,oY,oY,hl];simp
   ·exact absurd ⟨o,ho,hw,e⟩ hx
theorem wi{L:List RecR}{i:Nat}{r:RecR}(hr:L[i]? =some r):dY L (i+1)=if r.kind=3 then(match aW (L.take i) 1 r.tx with|some p=>if r.yes then cA (dY L i) (L[p]?.getD dC).ops else dY L i|none=>dY L i)else dY L i:=by
 have hi:=(dG.1 hr).1;have e:=km (log:=L.take i) (x:=r);rw[<- wa hr]at e;have hl:(L.take i).length=i:=by rw[jS];omega
 rw[hl,qe (e8 _),qe (e8 _)]at e;rw[e];by_cases h3:r.kind=3
 ·rw[aG h3,aG h3];cases hf:aW (L.take i) 1 r.tx with
  |none=>rfl
  |some p=>
   simp only[];have:=(qg hf).1;rw[s4 this]
 ·rw[ax h3,ax h3]
theorem P2(L:List RecR):∀ i,i<=L.length->(dY L i).length=26:=by
 intro i
 induction i with
 |zero=>intro _;rfl
 |succ i ih=>
  intro h;have hi:=ih ai;rw[wi (cK ai)]
  repeat' split
  all_goals first|exact hi|(rw[nE];exact hi)
def Wri(L:List RecR)(k:Int)(d:Nat):Prop:=∃ (r:RecR) (p:Nat) (q:RecR),L[d]? =some r/\r.kind=3/\r.yes=true/\aW (L.take d) 1 r.tx=some p/\L[p]? =some q/\∃ o∈q.ops,o.w=true/\o.k=k
theorem Cg{L:List RecR}{k:Int}(hk:97<=k)(hL:∀ r∈L,∀ o∈r.ops,97<=o.k){a:Nat}:∀ b,a<=b->b<=L.length->(∀ d,a<=d->d<b->¬ Wri L k d)->(dY L b)[(k-97).toNat]? =(dY L a)[(k-97).toNat]? :=by
 intro b
 induction b with
 |zero=>intro h _ _;rw[show a=0 by omega]
 |succ b ih=>
  intro h1 h2 h3;rcases lH b a with c|c
  ·rw[show a=b+1 by omega]
  rw[<- ih c ai (λd a1 a2=>h3 d a1 ai),wi (cK ai)];generalize hr:L[b]'(by omega)=r;have oD:L[b]? =some r:=by rw[<- hr];exact cK ai
  by_cases LQ:r.kind=3
  ·rw[aG LQ];cases hf:aW (L.take b) 1 r.tx with
   |none=>rfl
   |some p=>
    simp only[];by_cases hy:r.yes=true
    ·rw[aG hy];obtain⟨hp,q,hq,_,_⟩:=qg hf;rw[hq,iA];refine sD hk (hL q (dg hq)) (λo ho hw e=>h3 b c ai ⟨r,p,q,oD,LQ,hy,hf,hq,o,ho,hw,e⟩)
    ·rw[ax hy]
  ·rw[ax LQ]
theorem LY{L:List RecR}{k:Int}(hk:97<=k)(hL:∀ r∈L,∀ o∈r.ops,97<=o.k){i:Nat}(hi:i<=L.length)(h:∀ d,d<i->¬ Wri L k d):(dY L i)[(k-97).toNat]? =bO[(k-97).toNat]? :=
 Cg hk hL i (eW _) hi (λd _ a=>h d a)
theorem LZ{L:List RecR}{k:Int}(hk:97<=k)(hL:∀ r∈L,∀ o∈r.ops,97<=o.k){i d p:Nat}{r q:RecR}(hi:i<=L.length)(hd:d<i)(hr:L[d]? =some r)(h3:r.kind=3)(hy:r.yes=true)(hp:aW (L.take d) 1 r.tx=some p)(hq:L[p]? =some q)
  (h:∀ c,d<c->c<i->¬ Wri L k c):(dY L i)[(k-97).toNat]? =(cA (dY L d) q.ops)[(k-97).toNat]? :=by
 rw[Cg hk hL i (a:=d+1) ai hi (λc a b=>h c ai b),wi hr,aG h3,hp];simp only[];rw[aG hy,hq,iA]
def runT(T:List (List bP)):List Int->List Int->List Int:=λl v=>l.foldl (λv t=>cA v ((opsOf T t).getD [])) v
theorem zM(T:List (List bP))(a b:List Int)(v:List Int):runT T (a++b) v=runT T b (runT T a v):=by unfold runT;rw[kM]
theorem vu(T:List (List bP)):∀ (l v:List Int),(runT T l v).length=v.length
 |[],_=>rfl
 |t::l,v=>by show(runT T l (cA v _)).length=_;rw[vu T l,nE]
def WrT(T:List (List bP))(k t:Int):Prop:=∃ o∈(opsOf T t).getD [],o.w=true/\o.k=k
instance(T:List (List bP))(k t:Int):Decidable (WrT T k t):=by unfold WrT;exact inferInstance
theorem KB{T:List (List bP)}(hT:vg T){k:Int}(hk:97<=k):∀ {l v:List Int},(∀ t∈l,¬ WrT T k t)->(runT T l v)[(k-97).toNat]? =v[(k-97).toNat]? :=by
 intro l
 induction l with
 |nil=>intro v _;rfl
 |cons t l ih=>
  intro v h;show(runT T l (cA v _))[_]? =_;rw[ih (λx hx=>h x (fp _ hx))];refine sD hk (λo ho=>?_) (λo ho hw e=>h t (fY ..) ⟨o,ho,hw,e⟩);cases hf:opsOf T t with
  |none=>rw[hf]at ho;cases ho
  |some ops=>rw[hf]at ho;exact((hT.of hf).1 o ho).1
theorem KC{p:Int->Prop}[DecidablePred p]:∀ l:List Int,(∀ t∈l,¬ p t)\/∃ a t b,l=a++t::b/\p t/\∀ x∈b,¬ p x
 |[]=>.inl λt h=>by cases h
 |x::l=>by
  rcases KC (p:=p) l with h|⟨a,t,b,h1,h2,h3⟩
  ·by_cases hx:p x
   ·exact .inr ⟨[],x,l,rfl,hx,h⟩
   ·exact .inl λt ht=>by
     rcases fR.1 ht with rfl|ht
     ·exact hx
     ·exact h t ht
  ·exact .inr ⟨x::a,t,b,by rw[h1];rfl,h2,h3⟩
end
end Go.Sl
