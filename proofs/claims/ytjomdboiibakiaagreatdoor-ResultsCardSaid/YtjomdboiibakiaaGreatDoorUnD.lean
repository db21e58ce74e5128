/-
  Texts that the proof needs, joined: part 4.
-/
import Derived.Test.YtjomdboiibakiaaGreatDoorUnC
set_option linter.unusedSimpArgs false
set_option linter.unusedVariables false
set_option maxHeartbeats 4000000
namespace Go.Sl
open Go.Proofs.Tryz
section
variable{T:List (List cy)}{n:Int}{P:dZ}{R:ShR}{m:MsgR}
theorem dP.send(H:dP T n P R)(hm:jq T n {m with aV:=R.me}):dP T n (eP P m) (cA R m):=by
 refine{H with out:=?_,oo:=?_,kl:=λh=>(H.kl h).aS}
 ·show P.out++_=R.out++_;rw[H.out,H.me]
 ·intro x hx;rcases cg.1 hx with h|h
  ·exact H.oo x h
  ·obtain rfl:=dN.1 h;exact hm
theorem dP.wait(H:dP T n P R)(eo:R.up=true)(hm:jq T n {m with aV:=R.me}):dP T n (iG P m) (eV R m):=by
 refine{H with waits:=?_,wo:=?_,dn:=?_,kl:=λh=>(H.kl h).aS}
 ·show P.waits++_=R.waits++_;rw[H.waits,H.me]
 ·intro x hx;rcases cg.1 hx with h|h
  ·exact H.wo x h
  ·obtain rfl:=dN.1 h;exact hm
 ·intro h;have h:R.up=false:=h;rw[eo]at h;cases h
theorem dP.sT(H:dP T n P R){tx ticks:Int}{ag:Bool}(ht:(opsOf T tx).isSome=true):dP T n (jm P tx ticks ag) {R with timers:=R.timers++[⟨R.clock+ticks,ag,tx⟩]}:=by
 refine{H with timers:=?_,tt:=?_,kl:=λh=>(H.kl h).aS}
 ·show P.timers++_=R.timers++_;rw[H.timers,H.clock]
 ·intro x hx;rcases cg.1 hx with h|h
  ·exact H.tt x h
  ·obtain rfl:=dN.1 h;exact ht
theorem yW{J:dZ->ShR->Prop}{ops:List cy}{f:dZ->Int->List cy->dZ}{g:ShR->Int->List cy->ShR}(hnP:P.n=n)(hnR:R.n=n)
  (step:∀ p r k,J p r->cr ops k n=true->0<=k->k<n->J (f p k (aY ops k n)) (g r k (aY ops k n))) (h:J P R):J (qO P ops f) (gb R ops g):=by
 rw[SN];unfold gb;rw[hnP,hnR];have key:∀ (l:List Int),(∀ k∈l,0<=k/\k<n)->∀ p r,J p r->J (l.foldl (λz k=>if(aY ops k n).isEmpty then z else f z k (aY ops k n)) p) (l.foldl (λz k=>if(aY ops k n).isEmpty then z else g z k (aY ops k n)) r):=by
  intro l
  induction l with
  |nil=>intro _ p r h;exact h
  |cons k l ih=>
   intro hl p r h;rw[ks,ks];refine ih (λk hk=>hl k (gu _ hk)) _ _ ?_;have hk:=hl k (iI ..);cases he:(aY ops k n).isEmpty with
   |true=>exact h
   |false=>exact step p r k h (by unfold cr;rw[he];rfl) hk.1 hk.2
 exact key _ (λk hk=>kQ.1 hk) P R h
theorem dP.cf(H:dP T n P R)(eo:R.up=true)(tx:Int):(aC P.cf tx=none/\bF R.log 2 tx=none)\/∃ (d:Nat) (r:RecR),aC P.cf tx=some ⟨d,r.yes⟩/\bF R.log 2 tx=some d/\R.log[d]? =some r:=by
 have:=(H.kl eo).cf tx;rw[H.log]at this;cases h:bF R.log 2 tx with
 |none=>rw[h]at this;exact .inl ⟨this,rfl⟩
 |some d=>
  obtain⟨_,r,hr,_⟩:=dO h;rw[h]at this;simp only[nU,hr,lJ]at this;exact .inr ⟨d,r,this,rfl,hr⟩
theorem dP.done(H:dP T n P R)(eo:R.up=true)(tx:Int):(aC P.done tx=none/\bF R.log 3 tx=none)\/∃ (d:Nat) (r:RecR),aC P.done tx=some ⟨d,r.yes⟩/\bF R.log 3 tx=some d/\R.log[d]? =some r:=by
 have:=(H.kl eo).done tx;rw[H.log]at this;cases h:bF R.log 3 tx with
 |none=>rw[h]at this;exact .inl ⟨this,rfl⟩
 |some d=>
  obtain⟨_,r,hr,_⟩:=dO h;rw[h]at this;simp only[nU,hr,lJ]at this;exact .inr ⟨d,r,this,rfl,hr⟩
theorem dP.bB(H:dP T n P R)(eo:R.up=true)(tx:Int):(aC P.bB tx=none/\bJ R.log tx=none)\/∃ (d:Nat) (r:RecR) (ops:List cy),aC P.bB tx=some ⟨d,r.home,r.ops⟩/\bJ R.log tx=some d/\R.log[d]? =some r/\
  opsOf T tx=some ops/\cr ops R.me n=true/\r.ops=aY ops R.me n/\r.home=gf ops n:=by
 have:=(H.kl eo).bB tx;rw[H.log]at this;cases h:bJ R.log tx with
 |none=>rw[h]at this;exact .inl ⟨this,rfl⟩
 |some d=>
  obtain⟨_,r,hr,_⟩:=dO (eF h).2;rw[h]at this;simp only[nU,hr,lJ]at this;obtain⟨ops,h1,h2,h3,h4,_⟩:=H.CP.ready (by rw[H.log];exact h) (by rw[H.log];exact hr);exact .inr ⟨d,r,ops,this,rfl,hr,h1,h2,h3,h4⟩
theorem dP.len(H:dP T n P R):P.log.length=R.log.length:=by rw[<- H.log];simp
theorem dP.qY(H:dP T n P R)(eo:R.up=true){e:a7}{P':dZ}{R':ShR}(WO:gK T n R.me (P.log++[e]))(hP:P'={P with log:=P.log++[e],aH:=P'.aH,bB:=P'.bB,done:=P'.done,cf:=P'.cf,values:=P'.values})
  (hR:R'={R with log:=R.log++[e.bk],aH:=R'.aH,bH:=R'.bH}) (yU:KL (P.log++[e]) P' R'.aH R'.bH):dP T n P' R':=by
 have e1:P'.log=P.log++[e]:=by rw[hP]
 have e2:R'.log=R.log++[e.bk]:=by rw[hR]
 have aaF:∀ tx,(bF R.log 2 tx).isSome=true->(bF R'.log 2 tx).isSome=true:=λtx h=>by
  rw[e2,fe];split
  ·rfl
  ·exact h
 have ad1:R'.up=R.up:=by rw[hR]
 have WT:R'.me=R.me:=by rw[hR]
 refine⟨by rw[hP,hR];exact H.me,by rw[WT];exact H.mb,by rw[hP];exact H.n1,by rw[hR];exact H.n2,by rw[hP,hR];exact H.up,by rw[e1,e2,<- H.log];simp,by rw[WT,e1];exact WO,by rw[hP,hR];exact H.aX,?_,by rw[hP,hR];exact H.timers,by rw[hP,hR];exact H.clock,by rw[hP,hR];exact H.waits,by rw[hP,hR];exact H.out,by rw[hR];exact H.wo,by rw[hR];exact H.oo,by rw[hR];exact H.tt,λ_=>by rw[e1];exact yU,λh=>?_,λh=>?_,λh u hu hd=>aaF _ (H.ud eo u (by rw[hR]at hu;exact hu) hd),λh=>?_⟩
 ·have hg:=H.gl;rw[e2];have:R'.aX=R.aX:=by rw[hR]
  rw[this];simp;omega
 ·rw[hP];exact H.un eo
 ·rw[WT,hP,hR];exact H.cq eo
 ·rw[ad1,eo]at h;cases h
theorem Lg(H:dP T n P R)(hT:z4 T)(hn:0<n)(eo:R.up=true)(hm:jq T n m)(hk:m.kind=1)(sV:m.to=R.me):dP T n (l4 P m) (l3 R m):=by
 obtain⟨ops,ho,hc⟩:=hm;have hc:m.aV= -1/\m.to=gf ops n/\m.ops=ops:=by rcases hc with h|h|h|h|h|h|h<;>first|exact h.2|exact⟨h.2.1,h.2.2.1⟩|(have:=h.1;omega)
 obtain⟨h1,h2,h3⟩:=hc;unfold l4 l3;rcases H.cf eo m.tx with⟨d1,d2⟩|⟨d,r,d1,d2,d3⟩
 ·rw[d1,d2];simp only;rcases oU (H.cq eo) m.tx with⟨u1,u2⟩|⟨i,a,u,u1,u2,_⟩
  ·rw[u1,u2];simp only[KJ,gR,eY];have hu:kP T n R.me (m.tx,⟨m.ops,[],[],false,false⟩) ⟨m.tx,m.ops,[],false,false,[]⟩:=⟨rfl,⟨rfl,rfl,rfl,λk=>rfl,by simp,by simp,λk=>rfl,by simp,by simp,by simp⟩,by rw[h3];exact ho,by rw[h3,<- h2];exact sV⟩;have hud:∀ u∈R.under++[(⟨m.tx,m.ops,[],false,false,[]⟩:gU)],u.dec=true->(bF R.log 2 u.tx).isSome=true:=λu hu hd=>by
    rcases cg.1 hu with h|h
    ·exact H.ud eo u h hd
    ·obtain rfl:=dN.1 h;cases hd
   have H1:dP T n {P with cq:=bA P.cq m.tx ⟨m.ops,[],[],false,false⟩} {R with under:=R.under++[⟨m.tx,m.ops,[],false,false,[]⟩]}:=
    {H with kl:=λh=>(H.kl h).aS,dn:=λh=>absurd (eo.symm.trans h:true=false) (by decide),un:=λ_=>e9 (H.un eo),cq:=λ_=>SO (H.cq eo) u2 hu,ud:=λ_=>hud}
   have key:=yW (J:=λp r=>dP T n p r/\r.me=R.me) (ops:=m.ops) (f:=λz k p=>eP z {bq with kind:=2,to:=k,tx:=m.tx,ops:=p}) (g:=λz k p=>cA z {bq with kind:=2,to:=k,tx:=m.tx,ops:=p}) H1.n1 H1.n2
    (λp r k hj ht _ _=>⟨hj.1.send ⟨ops,ho,.inr (.inl ⟨rfl,by show r.me=_;rw[hj.2,<- sV,h2],by rw[<- h3];exact ht,by show aY m.ops k n=aY ops k n;rw[h3]⟩)⟩,hj.2⟩) ⟨H1,rfl⟩
   exact key.1.sT (by rw[ho];rfl)
  ·rw[u1,u2];simpa using H
 ·rw[d1,d2];simp only;rw[H.aX];split
  ·have hl:(P.log[(d:Int).toNat]?.map a7.bk).getD eA=r:=by
    have:(P.log.map a7.bk)[d]? =some r:=by rw[H.log];exact d3
    rw[kB]at this;simp[this]
   rw[hl,d3,kt];exact H.send ⟨ops,ho,.inr (.inr (.inr (.inr (.inr (.inr ⟨rfl,rfl,rfl⟩)))))⟩
  ·exact H
theorem SQ(H:dP T n P R)(eo:R.up=true)(hm:jq T n m)(hk:m.kind=6)(sV:m.to=R.me):dP T n (Ar P m) (xp R m):=by
 obtain⟨ops,ho,hc⟩:=hm;have hc:m.to=gf ops n/\cr ops m.aV n=true:=by rcases hc with h|h|h|h|h|h|h<;>first|exact h.2|exact⟨h.2.1,h.2.2.1⟩|(have:=h.1;omega)
 have hdm:∀ (y:Bool),jq T n {({bq with kind:=4,to:=m.aV,tx:=m.tx,yes:=y}:MsgR)with aV:=R.me}:=λy=>⟨ops,ho,.inr (.inr (.inr (.inl ⟨rfl,by show R.me=_;rw[<- sV,hc.1],hc.2,rfl⟩)))⟩;unfold Ar xp;rcases H.cf eo m.tx with⟨d1,d2⟩|⟨d,r,d1,d2,d3⟩
 ·rw[d1,d2];simp only;rcases oU (H.cq eo) m.tx with⟨u1,u2⟩|⟨i,a,u,u1,u2,_⟩
  ·rw[u1,u2];simp only[KJ,gR,eY];have H1:=H.qY eo (e:=.dec m.tx false []) (P':={P with log:=P.log++[.dec m.tx false []],cf:=bA P.cf m.tx ⟨P.log.length,false⟩}) (R':={R with log:=R.log++[{eA with kind:=2,tx:=m.tx}]})
    (.dec H.CP (by rw[ho];rfl)) rfl rfl (KL.dec (tx:=m.tx) (yes:=false) (reads:=[]) (H.kl eo)).aS
   exact H1.wait eo (hdm false)
  ·rw[u1,u2];simpa using H
 ·rw[d1,d2];simp only;rw[H.aX];split
  ·rw[d3,kt];exact H.send (hdm _)
  ·exact H
theorem seen_eq{V:List Int}{vs:List (Int×Int)}(hv:∀ k,97<=k->k<=122->(aC vs k).getD 0=V[(k-97).toNat]?.getD 0){ops:List cy}(ho:∀ o∈ops,97<=o.k/\o.k<=122):iu vs ops=g8 V ops:=by unfold iu g8;refine List.map_congr_left λo h=>?_;have:=ho o (iU.1 h).1;exact hv _ this.1 this.2
theorem Bt(V:List Int)(ops:List cy):(g8 V ops).length=J6 ops:=by simp[g8,J6]
theorem Fg(H:dP T n P R)(hT:z4 T)(eo:R.up=true)(hm:jq T n m)(hk:m.kind=2)(sV:m.to=R.me):dP T n (fN P m) (gJ R m):=by
 obtain⟨ops,ho,hc⟩:=hm;have hc:m.aV=gf ops n/\cr ops m.to n=true/\m.ops=aY ops m.to n:=by rcases hc with h|h|h|h|h|h|h<;>first|exact h.2|exact⟨h.2.1,h.2.2.1⟩|(have:=h.1;omega)
 obtain⟨h1,h2,h3⟩:=hc;rw[sV]at h2 h3;have hr:=hT.of ho;have xq:∀ o∈m.ops,97<=o.k/\o.k<=122:=by rw[h3];exact hr.key
 have pQ:jq T n {({bq with kind:=3,to:=m.aV,tx:=m.tx}:MsgR)with aV:=R.me}:=⟨ops,ho,.inr (.inr (.inl ⟨rfl,h1,h2,(λh=>by cases h),rfl⟩))⟩;have aaG:∀ l:List Int,l.length=J6 (aY ops R.me n)->jq T n {({bq with kind:=3,to:=m.aV,tx:=m.tx,yes:=true,reads:=l}:MsgR)with aV:=R.me}:=λl hl=>⟨ops,ho,.inr (.inr (.inl ⟨rfl,h1,h2,(λ_=>hl),rfl⟩))⟩;have K:=H.kl eo;unfold fN gJ;rcases H.bB eo m.tx with⟨p1,p2⟩|⟨d,r,WU,p1,p2,p3,p4,p5,p6,p7⟩
 ·rw[p1,p2];simp only;rcases H.done eo m.tx with⟨d1,d2⟩|⟨d,r,d1,d2,d3⟩
  ·rw[d1,d2];simp only;have Ao:(m.ops.any λo=>(aC P.aH o.k).isSome)=m.ops.any λo=>decide (ja R.aH o.k>=0):=by
    have vJ:∀ o:cy,(aC P.aH o.k).isSome=decide (ja R.aH o.k>=0):=λo=>by
     unfold ja;rw[K.lock];cases hf:R.aH.find? λh=>h.key==o.k with
     |none=>rfl
     |some h=>
      obtain⟨i,r,e1,e2,_⟩:=K.lk h (AV hf);obtain⟨WU,e3,_⟩:=H.CP.ready e1 e2;have:=(oT e3).1;simp only[lJ,Option.isSome_some,kt]
      symm;simpa using this
    simp only[vJ]
   rw[<- Ao];split
   ·exact H.send pQ
   ·rename_i xG;have J9:∀ o∈m.ops,aC P.aH o.k=none:=λo hm=>by have:¬ (aC P.aH o.k).isSome=true:=λz=>xG (nC.2 ⟨o,hm,z⟩);simpa using this
    have e1:bF (P.log.map a7.bk) 3 m.tx=none:=by rw[H.log];exact d2
    have e0:bF (P.log.map a7.bk) 1 m.tx=none:=by unfold bJ at p2;rw[d2]at p2;rw[H.log];simpa using p2
    have WO:gK T n R.me (P.log++[.eK m.tx m.aV m.ops]):=by
     have:=gK.eK H.CP ho h2 e0 e1 (λt i r xH hi o qp o' ad2 e=>by have:=K.lo t i r xH hi o qp;have h4:=(oR K.ln).2 this;rw[<- K.lock,e,J9 o' (by rw[h3];exact ad2)]at h4;cases h4)
     rw[h1,h3];exact this
    have H1:=H.qY eo (e:=.eK m.tx m.aV m.ops) (P':=sP {P with log:=P.log++[.eK m.tx m.aV m.ops]} m.tx m.aV m.ops P.log.length) (R':={R with aH:=jl R.aH m.tx m.ops,log:=R.log++[{eA with kind:=1,tx:=m.tx,home:=m.aV,ops:=m.ops}]})
     WO rfl rfl (KL.eK (P:=P) (home:=m.aV) K e0 e1 J9 (by rw[h3];exact hr.nod)).aS
    have uQ:iu (sP {P with log:=P.log++[.eK m.tx m.aV m.ops]} m.tx m.aV m.ops P.log.length).values m.ops=g8 R.bH m.ops:=seen_eq K.bH xq;rw[uQ];have H2:=H1.wait eo (m:={bq with kind:=3,to:=m.aV,tx:=m.tx,yes:=true,reads:=g8 R.bH m.ops}) (aaG _ (by rw[Bt,h3]));exact H2.sT (tx:=m.tx) (ticks:=3) (ag:=false) (by rw[ho];rfl)
  ·rw[d1,d2];simp only;rw[d3,kt];split
   ·exact H
   ·exact H.send pQ
 ·rw[p1,p2];simp only;rw[p3,kt];rw[H.aX];rw[ho]at p4;obtain rfl:=bY p4;split
  ·have:iu P.values r.ops=g8 R.bH r.ops:=seen_eq K.bH (by rw[p6];exact hr.key);rw[this];exact H.send (aaG _ (by rw[Bt,p6]))
  ·exact H
theorem HO(H:dP T n P R)(hT:z4 T)(eo:R.up=true)(hm:jq T n m)(hk:m.kind=4)(sV:m.to=R.me):dP T n (jb P m) (iN R m):=by
 obtain⟨ops,ho,hc⟩:=hm;have hc:m.aV=gf ops n/\cr ops m.to n=true:=by rcases hc with h|h|h|h|h|h|h<;>first|exact h.2|exact⟨h.2.1,h.2.2.1⟩|(have:=h.1;omega)
 have hr:=hT.of ho;have WW:jq T n {({bq with kind:=5,to:=m.aV,tx:=m.tx}:MsgR)with aV:=R.me}:=⟨ops,ho,.inr (.inr (.inr (.inr (.inl ⟨rfl,hc.1,by rw[<- sV];exact hc.2,rfl⟩))))⟩;have K:=H.kl eo;have jV:=H.log;have fin:bF R.log 3 m.tx=none->∀ V',V'=(match bJ R.log m.tx with|some i=>if m.yes then eH R.bH ((R.log[i]?).getD eA).ops else R.bH|none=>R.bH)->
   dP T n (py {P with log:=P.log++[.kg m.tx m.yes]} m.tx m.yes P.log.length) {R with bH:=V',aH:=iV R.aH m.tx,log:=R.log++[{eA with kind:=3,tx:=m.tx,yes:=m.yes}]}:=λh3 V' hV=>by
  have h3':bF (P.log.map a7.bk) 3 m.tx=none:=by rw[H.log];exact h3
  refine H.qY eo (e:=.kg m.tx m.yes) (.kg H.CP (by rw[ho];rfl) h3') rfl rfl (KL.kg (P:=P) (yes:=m.yes) K h3' (λi r xH hi=>?_) (by rw[H.log];exact hV)).aS;obtain⟨WU,e1,_,e2,_⟩:=H.CP.ready xH hi;rw[e2];exact(hT.of e1).key
 unfold jb iN;rcases H.bB eo m.tx with⟨p1,p2⟩|⟨d,r,WU,p1,p2,p3,p4,p5,p6,p7⟩
 ·rw[p1,p2];simp only;rcases H.done eo m.tx with⟨d1,d2⟩|⟨d,r,d1,d2,d3⟩
  ·rw[d1,d2];simp only;split
   ·exact H
   ·have J9:iV R.aH m.tx=R.aH:=by
     unfold iV;rw[List.filter_eq_self];intro h hh;obtain⟨i,r,e1,_⟩:=K.lk h hh;have:h.tx≠m.tx:=λe=>by rw[e,H.log,p2]at e1;cases e1
     simpa using this
    have:=fin d2 R.bH (by rw[p2]);rw[J9]at this;exact this.wait eo WW
  ·rw[d1,d2];simp only;rw[H.aX];split
   ·exact H.send WW
   ·exact H
 ·rw[p1,p2];simp only;rw[p3,kt];have:=fin (eF p2).1 (if m.yes then eH R.bH r.ops else R.bH) (by rw[p2];simp only[p3,kt]);have key:=this.wait eo WW;cases hy:m.yes with
  |true=>rw[hy]at key;exact key
  |false=>rw[hy]at key;exact key
theorem sW{u v:gU}(h:u.aT=v.aT)(n:Int):∀ (l:List cy) (used:Int->Nat),eG u n l used=eG v n l used
 |[],_=>rfl
 |o::l,used=>by
  have hv:∀ k,bP u k=bP v k:=λk=>by unfold bP;rw[h]
  unfold eG;simp only[hv,sW h n l]
theorem yX{a:lR}{b:gU}(ua:UA n a b)(je:∀ k,cr b.ops k n=true->(aC a.aT k).isSome=true):∀ (l:List cy) (next:List (Int×Int)) (used:Int->Nat),(∀ k,(aC next k).getD 0=(used k:Int))->
  (∀ k,used k+J6 (aY l k n)<=J6 (aY b.ops k n))->(∀ o∈l,o∈b.ops)->ir a n l next=some (eG b n l used)
 |[],_,_,_,_,_=>rfl
 |o::l,next,used,h1,h2,h3=>by
  unfold ir eG;have hp:aY (o::l) (ie o.k n) n=o::aY l (ie o.k n) n:=by simp[aY]
  have Ru:∀ k,k≠ie o.k n->aY (o::l) k n=aY l k n:=λk hk=>by simp[aY,i3 hk]
  cases hw:o.w with
  |true=>
   simp only[eQ];refine yX ua je l next used h1 (λk=>?_) λo ho=>h3 o (gu _ ho);have:=h2 k;by_cases e:k=ie o.k n
   ·subst e;rw[hp]at this;simpa[J6,hw]using this
   ·rw[Ru k e]at this;exact this
  |false=>
   simp only[gR,eY];have ho:o∈b.ops:=h3 o (iI ..);have ht:cr b.ops (ie o.k n) n=true:=by
    unfold cr;have:o∈aY b.ops (ie o.k n) n:=by simp[aY,ho]
    have eL:aY b.ops (ie o.k n) n≠[]:=λe=>by rw[e]at this;cases this
    cases hh:aY b.ops (ie o.k n) n with
    |nil=>exact absurd hh eL
    |cons _ _=>rfl
   obtain⟨rs,qc⟩:=ur.1 (je _ ht);have hlen:=(ua.vt _ (bU qc)).2;simp only at hlen;have hv:(bP b (ie o.k n)).map (·.reads)=some rs:=by rw[<- ua.aT];exact qc
   rw[qc,hv];simp only[kt,h1];have dI:used (ie o.k n)<rs.length:=by have:=h2 (ie o.k n);rw[hp]at this;simp only[J6,uy,hw,Cm,eQ,jd]at this hlen;omega
   have hi:((used (ie o.k n):Nat):Int).toNat=used (ie o.k n):=ak;rw[hi,fp dI];simp only[kt];rw[yX ua je l (bA next (ie o.k n) ((used (ie o.k n):Nat)+1)) (λj=>if j=ie o.k n then used (ie o.k n)+1 else used j) (λk=>by
     rw[fF];by_cases e:k=ie o.k n
     ·simp[e]
     ·simp[e,h1]) (λk=>by
     have:=h2 k;by_cases e:k=ie o.k n
     ·subst e;rw[hp]at this;simp only[J6,uy,hw,Cm,eQ,jd]at this⊢;omega
     ·rw[Ru k e]at this;simp only[aq e];exact this) λo ho=>h3 o (gu _ ho)]
   rfl
theorem Fh{a:lR}{b:gU}(ua:UA n a b)(je:∀ k,cr b.ops k n=true->(aC a.aT k).isSome=true):l5 a n=some (jH b n):=by unfold l5 jH;rw[ua.ops];exact yX ua je b.ops [] (λ_=>0) (λk=>rfl) (λk=>by simp) λo h=>h
theorem Pq(H:dP T n P R)(hT:z4 T)(hn:0<n)(eo:R.up=true)(hm:jq T n m)(hk:m.kind=3)(sV:m.to=R.me):dP T n (pW P m) (pV R m):=by
 obtain⟨ops,ho,hc⟩:=hm;have hc:m.to=gf ops n/\cr ops m.aV n=true/\(m.yes=true->m.reads.length=J6 (aY ops m.aV n)):=by rcases hc with h|h|h|h|h|h|h<;>first|exact⟨h.2.1,h.2.2.1,h.2.2.2.1⟩|(have:=h.1;omega)
 obtain⟨c1,c2,c3⟩:=hc;have hr:=hT.of ho;unfold pW pV;rcases oU (H.cq eo) m.tx with⟨u1,u2⟩|⟨i,a,u,u1,u2,u3,u4,hu⟩
 ·rw[u1,u2];exact H
 ·rw[u1,u2];simp only;rw[u3];simp only;have cJ:u.ops=ops:=by have:=hu.ops;rw[u4,ho]at this;exact(bY this).symm
  by_cases hd:u.dec=true
  ·rw[aK (hu.ua.dec.trans hd),aK hd];exact H
  ·rw[aq (λz=>hd (hu.ua.dec.symm.trans z)),aq hd];have hd:u.dec=false:=by simpa using hd
   have Ay:(aC a.aT m.aV).isSome=(bP u m.aV).isSome:=by rw[hu.ua.aT];simp
   rw[Ay];obtain⟨a1,M3⟩:∃ a1,a1=(if(m.yes&& !(bP u m.aV).isSome)=true then{a with aT:=bA a.aT m.aV m.reads}else a):=⟨_,rfl⟩;obtain⟨v1,qd⟩:∃ v1,v1=(if(m.yes&& !(bP u m.aV).isSome)=true then{u with aT:=u.aT++[⟨m.aV,m.reads⟩]}else u):=⟨_,rfl⟩;rw[<- M3,<- qd];have mA:kP T n R.me (m.tx,a1) v1:=by
    by_cases hb:(m.yes&& !(bP u m.aV).isSome)=true
    ·rw[aK hb]at M3 qd;subst M3 qd;have nZ:m.yes=true/\(bP u m.aV).isSome=false:=by simpa using hb
     refine⟨hu.tx,⟨hu.ua.ops,hu.ua.dec,hu.ua.yes,λk=>?_,e9 hu.ua.vn,hu.ua.an,hu.ua.bK,hu.ua.ap,λp hp=>?_,hu.ua.at'⟩,hu.ops,hu.home⟩
     ·show aC (bA a.aT m.aV m.reads) k=_;rw[fF,hu.ua.aT];unfold bP;simp only;rw[NN];by_cases e:k=m.aV
      ·subst e;have:List.find? (λv=>v.aV==m.aV) u.aT=none:=by have:=nZ.2;unfold bP at this;simpa using this
       simp[this]
      ·have:(m.aV==k)=false:=by simpa using λz=>e z.symm
       simp[e,this]
     ·rcases dY hp with rfl|hp
      ·show cr u.ops m.aV n=true/\m.reads.length=J6 (aY u.ops m.aV n);rw[cJ];exact⟨c2,c3 nZ.1⟩
      ·exact hu.ua.vt p hp
    ·rw[aq hb]at M3 qd;subst M3 qd;exact hu
   have Pr:v1.ops=ops:=by rw[qd];split<;>exact cJ
   have hvt:v1.tx=m.tx:=by rw[qd];split<;>exact u4
   have EF:a1.ops=ops:=mA.ua.ops.trans Pr;have Ka:(m.yes&&decide (a1.aT.length<(dB a1.ops P.n).length))=(m.yes&& !mY R.n v1.ops λk=>(bP v1 k).isSome):=by
    rw[H.n1,H.n2,EF,Pr]
    congr 1
    have e1:=tK (n:=n) (ops:=ops) mA.ua.vn (λp hp=>by have:=(mA.ua.vt p hp).1;rw[Pr]at this;exact this);have e2:=vR (n:=n) (ops:=ops) (p:=λk=>(bP v1 k).isSome) hr hn;have e3:∀ k,(aC a1.aT k).isSome=(bP v1 k).isSome:=λk=>by rw[mA.ua.aT];simp
    simp only[e3]at e1;rw[<- e1]at e2;cases hA:mY n ops λk=>(bP v1 k).isSome with
    |true=>rw[hA]at e2;have:=e2.1 rfl;simp;omega
    |false=>
      rw[hA]at e2;have:¬ (dB ops n).length<=a1.aT.length:=λz=>by have:=e2.2 z;cases this
      simp;omega
   rw[Ka];split
   ·
    exact{H with kl:=λh=>(H.kl h).aS,dn:=λh=>absurd (eo.symm.trans h:true=false) (by decide),un:=λ_=>e9 (H.un eo),cq:=λ_=>CR (H.cq eo) u2 mA,ud:=λ_ w hw SR=>by{
     rcases fT hw with h|rfl
     ·exact H.ud eo w h SR
     ·have:w.dec=false:=by rw[qd];split<;>exact hd
      rw[this]at SR;cases SR}}
   ·rename_i tL;have i9:(if m.yes=true then(l5 a1 P.n).getD []else[])=if m.yes=true then jH {v1 with dec:=true,yes:=m.yes} R.n else[]:=by
     split
     ·rename_i hy;have je:∀ k,cr v1.ops k n=true->(aC a1.aT k).isSome=true:=by
       have:(mY R.n v1.ops λk=>(bP v1 k).isSome)=true:=by rw[hy]at tL;simpa using tL
       rw[H.n2,Pr]at this;have:=(vR hr hn).1 this;intro k hk;rw[Pr]at hk;rw[mA.ua.aT];simpa using this k hk
      rw[H.n1,H.n2,Fh mA.ua je,kt];unfold jH;exact sW (u:=v1) (v:={v1 with dec:=true,yes:=m.yes}) rfl n _ _
     ·rfl
    rw[i9];generalize aiq:(if m.yes=true then jH {v1 with dec:=true,yes:=m.yes} R.n else[])=rd;have H1:=H.qY eo (e:=.dec m.tx m.yes rd) (P':={P with log:=P.log++[.dec m.tx m.yes rd],cf:=bA P.cf m.tx ⟨P.log.length,m.yes⟩}) (R':={R with log:=R.log++[{eA with kind:=2,tx:=m.tx,yes:=m.yes,reads:=rd}]})
     (.dec H.CP (by rw[ho];rfl)) rfl rfl (KL.dec (tx:=m.tx) (yes:=m.yes) (reads:=rd) (H.kl eo)).aS
    have ad3:kP T n R.me (m.tx,{a1 with dec:=true,yes:=m.yes}) {v1 with dec:=true,yes:=m.yes}:=⟨mA.tx,⟨mA.ua.ops,rfl,rfl,mA.ua.aT,mA.ua.vn,mA.ua.an,mA.ua.bK,mA.ua.ap,mA.ua.vt,mA.ua.at'⟩,mA.ops,mA.home⟩;have H2:dP T n {P with cq:=bA P.cq m.tx {a1 with dec:=true,yes:=m.yes},log:=P.log++[.dec m.tx m.yes rd],cf:=bA P.cf m.tx ⟨P.log.length,m.yes⟩} {R with under:=R.under.set i {v1 with dec:=true,yes:=m.yes},log:=R.log++[{eA with kind:=2,tx:=m.tx,yes:=m.yes,reads:=rd}]}:=
     {H1 with kl:=λh=>(H1.kl h).aS,dn:=λh=>absurd (eo.symm.trans h:true=false) (by decide),un:=λ_=>e9 (H.un eo),cq:=λ_=>CR (H.cq eo) u2 ad3,ud:=λ_ w hw SR=>by{
      rcases fT hw with h|rfl
      ·exact H1.ud eo w h SR
      ·show(bF (R.log++[_]) 2 v1.tx).isSome=true;rw[fe,hvt];simp[isRec]}}
    have WT:∀ {r:ShR},r.me=R.me->r.me=gf ops n:=λe=>by rw[e,<- sV,c1]
    have H3:=yW (J:=λp r=>dP T n p r/\r.me=R.me/\r.up=true) (ops:=a1.ops) (f:=λz k _=>iG z {bq with kind:=4,to:=k,tx:=m.tx,yes:=m.yes}) (g:=λz k _=>eV z {bq with kind:=4,to:=k,tx:=m.tx,yes:=m.yes}) H2.n1 H2.n2
     (λp r k hj ht _ _=>⟨hj.1.wait hj.2.2 ⟨ops,ho,.inr (.inr (.inr (.inl ⟨rfl,WT hj.2.1,by rw[<- EF];exact ht,rfl⟩)))⟩,hj.2.1,hj.2.2⟩) ⟨H2,rfl,eo⟩
    have e4:(a1.ops:List cy)=v1.ops:=mA.ua.ops;rw[e4]at H3⊢;exact H3.1.wait H3.2.2 ⟨ops,ho,.inr (.inr (.inr (.inr (.inr (.inr ⟨rfl,rfl,rfl⟩)))))⟩
theorem SS(H:dP T n P R)(hT:z4 T)(hn:0<n)(eo:R.up=true)(hm:jq T n m)(hk:m.kind=5)(sV:m.to=R.me):dP T n (yE P m) (xo R m):=by
 obtain⟨ops,ho,hc⟩:=hm;have hc:m.to=gf ops n/\cr ops m.aV n=true:=by rcases hc with h|h|h|h|h|h|h<;>first|exact h.2|exact⟨h.2.1,h.2.2.1⟩|(have:=h.1;omega)
 have hr:=hT.of ho;unfold yE xo;rcases oU (H.cq eo) m.tx with⟨u1,u2⟩|⟨i,a,u,u1,u2,u3,u4,hu⟩
 ·rw[u1,u2];exact H
 ·rw[u1,u2];simp only;rw[u3];simp only;have cJ:u.ops=ops:=by have:=hu.ops;rw[u4,ho]at this;exact(bY this).symm
  by_cases hd:u.dec=true
  case neg=>rw[aK (by rw[hu.ua.dec];simpa using hd),aK (by simpa using hd)];exact H
  case pos=>
   have n1:¬ (!a.dec)=true:=by rw[hu.ua.dec,hd];simp
   have n2:¬ (!u.dec)=true:=by rw[hd];simp
   rw[aq n1,aq n2];have YO:0<=(aC a.bK m.aV).getD 0:=by
    cases hg:aC a.bK m.aV with
    |none=>simp
    |some c=>have:=hu.ua.ap _ (bU hg);simp at this⊢;omega
   have mA:kP T n R.me (m.tx,{a with bK:=bA a.bK m.aV ((aC a.bK m.aV).getD 0+1)}) {u with bK:=u.bK++[m.aV]}:=by
    refine⟨hu.tx,⟨hu.ua.ops,hu.ua.dec,hu.ua.yes,hu.ua.aT,hu.ua.vn,e9 hu.ua.an,λk=>?_,λp hp=>?_,hu.ua.vt,λp hp=>?_⟩,hu.ops,hu.home⟩
    ·show(aC (bA a.bK m.aV _) k).isSome=(u.bK++[m.aV]).contains k;rw[fF];by_cases e:k=m.aV
     ·subst e;simp
     ·rw[aq e,hu.ua.bK];simp[e]
    ·rcases dY hp with rfl|hp
     ·show 0<(aC a.bK m.aV).getD 0+1;omega
     ·exact hu.ua.ap p hp
    ·rcases dY hp with rfl|hp
     ·show cr u.ops m.aV n=true;rw[cJ];exact hc.2
     ·exact hu.ua.at' p hp
   have Ka:((bA a.bK m.aV ((aC a.bK m.aV).getD 0+1)).length=(dB a.ops P.n).length)↔(mY R.n u.ops λk=>(u.bK++[m.aV]).contains k)=true:=by have e0:a.ops=ops:=hu.ua.ops.trans cJ;rw[H.n1,H.n2,e0,cJ,vR hr hn,Le mA.ua.an (λp hp=>by have:=mA.ua.at' p hp;simp only[cJ]at this;exact this)];have:=mA.ua.bK;simp only at this;simp only[this]
   by_cases hA:(mY R.n u.ops λk=>(u.bK++[m.aV]).contains k)=true
   ·rw[aK (Ka.2 hA),aK hA];have ad4:dQ (bA P.cq m.tx {a with bK:=bA a.bK m.aV ((aC a.bK m.aV).getD 0+1)}) m.tx=dQ P.cq m.tx:=J7 _ _ _ (by rw[u1];rfl);rw[ad4];exact{H with kl:=λh=>(H.kl h).aS,dn:=λh=>absurd (eo.symm.trans h:true=false) (by decide),un:=λ_=>mT (H.un eo),cq:=λ_=>SP (H.cq eo) u2,ud:=λ_ w hw SR=>H.ud eo w ((jM ..).mem hw) SR}
   ·rw[aq (λz=>hA (Ka.1 z)),aq hA];exact{H with kl:=λh=>(H.kl h).aS,dn:=λh=>absurd (eo.symm.trans h:true=false) (by decide),un:=λ_=>e9 (H.un eo),cq:=λ_=>CR (H.cq eo) u2 mA,ud:=λ_ w hw SR=>by{
     rcases fT hw with h|rfl
     ·exact H.ud eo w h SR
     ·exact H.ud eo u (eS u3) hd}}
theorem Fi(H:dP T n P R)(hT:z4 T)(hn:0<n)(eo:R.up=true)(hm:jq T n m)(sV:m.to=R.me):dP T n (qP P m) (jF R m):=by
 unfold qP jF;split
 ·rename_i h;exact Lg H hT hn eo hm h sV
 split
 ·rename_i h;exact Fg H hT eo hm h sV
 split
 ·rename_i h;exact Pq H hT hn eo hm h sV
 split
 ·rename_i h;exact HO H hT eo hm h sV
 split
 ·rename_i h;exact SS H hT hn eo hm h sV
 split
 ·rename_i h;exact SQ H eo hm h sV
 ·exact H
theorem Fj(H:dP T n P R)(eo:R.up=true):dP T n (sQ P) (yC R):=by
 unfold sQ yC;refine{H with kl:=λh=>(H.kl h).aS,aX:=?_,gl:=?_,waits:=rfl,out:=?_,wo:=?_,oo:=?_,dn:=?_}
 ·show((P.log.length:Nat):Int)=(R.log.length:Nat);rw[H.len]
 ·show(0:Int)<=((R.log.length:Nat):Int)/\_;exact⟨ak,sD _⟩
 ·show P.out++P.waits=R.out++R.waits;rw[H.out,H.waits]
 ·intro x hx;cases hx
 ·intro x hx;rcases cg.1 hx with h|h
  ·exact H.oo x h
  ·exact H.wo x h
 ·intro h;have h:R.up=false:=h;rw[eo]at h;cases h
theorem Bu(H:dP T n P R)(keep:Int):dP T n (m4 P keep) (pw R keep):=by
 have hg:=H.gl;have hlen:=H.len;have e:P.aX+min (max keep 0) ((P.log.length:Int)-P.aX)=R.aX+(if(if keep<0 then 0 else keep)<(R.log.length:Int)-R.aX then(if keep<0 then 0 else keep)else(R.log.length:Int)-R.aX):=by rw[H.aX,hlen];split<;>split<;>omega
 unfold m4 pw;simp only;rw[e];generalize Y8:R.aX+(if(if keep<0 then 0 else keep)<(R.log.length:Int)-R.aX then(if keep<0 then 0 else keep)else(R.log.length:Int)-R.aX)=g;have hb:0<=g/\g<=R.log.length:=by rw[<- Y8];split<;>split<;>omega
 refine⟨H.me,H.mb,H.n1,H.n2,rfl,?_,H.CP.init _,rfl,⟨hb.1,?_⟩,rfl,rfl,rfl,H.out,(λx hx=>by cases hx),H.oo,(λx hx=>by cases hx),(λh=>by cases h),(λh=>by cases h),(λh=>by cases h),(λh=>by cases h),λ_=>⟨rfl,rfl,rfl,rfl,rfl,rfl⟩⟩
 ·show(P.log.take g.toNat).map a7.bk=R.log.take g.toNat;rw[Er,H.log]
 ·show g<=((R.log.take g.toNat).length:Nat);rw[iz];omega
variable{me:Int}
def WX(T:List (List cy))(n me:Int)(E:List a7):a7->Prop
 |.eK tx home ops=>∃ full,opsOf T tx=some full/\cr full me n=true/\home=gf full n/\ops=aY full me n/\bF (E.map a7.bk) 1 tx=none/\bF (E.map a7.bk) 3 tx=none/\
    (∀ t i r,bJ (E.map a7.bk) t=some i->(E.map a7.bk)[i]? =some r->∀ o∈r.ops,∀ o'∈ops,o.k≠o'.k)
 |.dec tx _ _=>(opsOf T tx).isSome=true
 |.kg tx _=>(opsOf T tx).isSome=true/\bF (E.map a7.bk) 3 tx=none
theorem gK.inv{E:List a7}{e:a7}(h:gK T n me (E++[e])):gK T n me E/\WX T n me E e:=by
 generalize hF:E++[e]=F at h;cases h with
 |nil=>simp at hF
 |eK h1 h2 h3 h4 h5 h6=>
  obtain⟨rfl,e2⟩:=NR hF rfl;obtain rfl:=NS.1 e2;exact⟨h1,_,h2,h3,rfl,rfl,h4,h5,h6⟩
 |dec h1 h2=>
  obtain⟨rfl,e2⟩:=NR hF rfl;obtain rfl:=NS.1 e2;exact⟨h1,h2⟩
 |kg h1 h2 h3=>
  obtain⟨rfl,e2⟩:=NR hF rfl;obtain rfl:=NS.1 e2;exact⟨h1,h2,h3⟩
theorem Lh{A:Type}{l:List A}{i:Nat}{x:A}(h:l[i]? =some x):l.take (i+1)=l.take i++[x]:=by rw[List.take_add_one,h];rfl
theorem HQ(log:List RecR)(kind tx:Int)(i:Nat):findD log kind tx i=bF (log.take i) kind tx:=by
 have key:∀ i,i<=log.length->findD log kind tx i=bF (log.take i) kind tx:=λi hi=>by
  unfold bF;rw[iz,Ae hi]
  conv=>lhs;rw[<- wz i log]
  exact vQ _ _ _ _ _ (by rw[iz];omega)
 have over:∀ j,findD log kind tx (log.length+j)=findD log kind tx log.length:=λj=>by
  induction j with
  |zero=>rfl
  |succ j ih=>
   rw[<- Nat.add_assoc]
   conv=>lhs;unfold findD
   rw[wA ak,ih];simp
 by_cases h:i<=log.length
 ·exact key i h
 ·have e:=over (i-log.length);rw[show log.length+(i-log.length)=i by omega]at e;rw[e,key _ (fI _),g5 (fI _),g5 ak]
theorem yY(E:List a7)(P:dZ):∀ k,∃ a b c d e,kL E k P={P with values:=a,aH:=b,bB:=c,done:=d,cf:=e}
 |0=>⟨_,_,_,_,_,rfl⟩
 |k+1=>by
  obtain⟨a,b,c,d,e,h⟩:=yY E P k;unfold kL;cases hg:E[k]? with
  |none=>exact⟨_,_,_,_,_,h⟩
  |some x=>
   simp only;rw[h];cases x<;>exact⟨_,_,_,_,_,rfl⟩
theorem m6(E:List RecR)(R:ShR):∀ k,∃ a b,dL E k R={R with aH:=a,bH:=b}
 |0=>⟨_,_,rfl⟩
 |k+1=>by
  obtain⟨a,b,h⟩:=m6 E R k;unfold dL;simp only;cases hg:E[k]? with
  |none=>exact⟨_,_,h⟩
  |some x=>
   simp only;rw[h];split
   ·exact⟨_,_,rfl⟩
   split
   ·split
    ·split<;>exact⟨_,_,rfl⟩
    ·exact⟨_,_,rfl⟩
   ·exact⟨_,_,rfl⟩
theorem Bv(hT:z4 T){E:List a7}(hE:gK T n me E)(P:dZ)(R:ShR):∀ k,k<=E.length->KL (E.take k) (kL E k (iP P)) (dL (E.map a7.bk) k (eR R)).aH (dL (E.map a7.bk) k (eR R)).bH
 |0,_=>by have:=KL.start P;simpa[kL,dL,eR]using this
 |k+1,hk=>by
  have ih:=Bv hT hE P R k ak;obtain⟨x,hx⟩:∃ x,E[k]? =some x:=⟨E[k],fp ak⟩;have hl:=hE.init (k+1);rw[Lh hx]at hl⊢;obtain⟨WY,Kb⟩:=hl.inv;have hlen:(E.take k).length=k:=by rw[iz];omega
  have sq:(E.map a7.bk)[k]? =some x.bk:=by rw[kB,hx];rfl
  unfold kL dL;rw[hx,sq];simp only;cases x with
  |eK tx home ops=>
   obtain⟨full,f1,f2,f3,f4,f5,f6,f7⟩:=Kb;have zZ:(a7.eK tx home ops).bk.kind=1:=rfl;rw[aK zZ];have:=ih.eK (tx:=tx) (home:=home) (ops:=ops) f5 f6 (λo ho=>by
    cases h:aC (kL E k (iP P)).aH o.k with
    |none=>rfl
    |some t=>
     rw[ih.lock]at h;have hm:=(oR ih.ln).1 h;obtain⟨i,r,h1,h2,o',h3,h4⟩:=ih.lk _ hm;exact absurd h4 (f7 t i r h1 h2 o' h3 o ho)) (by rw[f4];exact(hT.of f1).nod)
   rw[hlen]at this;exact this
  |dec tx yes reads=>
   have zZ:¬ (a7.dec tx yes reads).bk.kind=1:=by simp[a7.bk]
   have D9:¬ (a7.dec tx yes reads).bk.kind=3:=by simp[a7.bk]
   rw[aq zZ,aq D9];have:=ih.dec (tx:=tx) (yes:=yes) (reads:=reads);rw[hlen]at this;exact this
  |kg tx yes=>
   obtain⟨_,f2⟩:=Kb;have zZ:¬ (a7.kg tx yes).bk.kind=1:=by simp[a7.bk]
   have D9:(a7.kg tx yes).bk.kind=3:=rfl;rw[aq zZ,aK D9];have kO:bJ ((E.take k).map a7.bk) tx=findD (E.map a7.bk) 1 tx k:=by unfold bJ;rw[f2,HQ,Er];rfl
   have aaH:∀ i,bJ ((E.take k).map a7.bk) tx=some i->((E.take k).map a7.bk)[i]? =(E.map a7.bk)[i]? :=λi hi=>by have:=(dO (eF hi).2).1;rw[Er,Us (by rw[dd,hlen]at this;exact this)]
   have:=ih.kg (tx:=tx) (yes:=yes) f2 (λi r h1 h2 o ho=>by obtain⟨ops,g1,g2,g3,_⟩:=WY.ready h1 h2;rw[g3]at ho;exact(hT.of g1).key o ho) (V':=match bJ ((E.take k).map a7.bk) tx with|some i=>if yes then eH (dL (E.map a7.bk) k (eR R)).bH ((((E.take k).map a7.bk)[i]?).getD eA).ops else(dL (E.map a7.bk) k (eR R)).bH|none=>(dL (E.map a7.bk) k (eR R)).bH) rfl
   rw[hlen]at this;have e1:JW (E.map a7.bk) (a7.kg tx yes).bk.tx k=bJ ((E.take k).map a7.bk) tx:=kO.symm;have e2:(a7.kg tx yes).bk.yes=yes:=rfl;rw[e1,e2];cases hq:bJ ((E.take k).map a7.bk) tx with
   |none=>rw[hq]at this;exact this
   |some i=>
    rw[hq]at this;simp only at this⊢;rw[aaH i hq]at this;cases yes with
    |false=>exact this
    |true=>exact this
theorem Fp(l:List Int):∀ (P:dZ),l.foldl (λz tx=>jm z tx 3 false) P={P with timers:=P.timers++l.map λtx=>⟨P.clock+3,false,tx⟩}:=by
 induction l with
 |nil=>intro P;simp
 |cons x l ih=>intro P;rw[ks,ih];simp[jm]
theorem Bw(n:Int):(upto n).Pairwise (· < ·):=by unfold upto;rw[Jq];exact List.pairwise_lt_range.imp λh=>Int.ofNat_lt.2 h
theorem CW(hT:z4 T){E:List a7}(hE:gK T n me E){bB:List (Int×yD)}(hn:(bB.map (·.1)).Nodup)(hp:∀ tx,aC bB tx=(bJ (E.map a7.bk) tx).bind λi=>((E.map a7.bk)[i]?).map λr=>⟨i,r.home,r.ops⟩):
  jn (bB.map (·.1))=(upto 60).filter λtx=>(bJ (E.map a7.bk) tx).isSome:=by
 have s1:(jn (bB.map (·.1))).Pairwise (· <= ·):=by have:=NT (le:=λ(a b:Int)=>decide (a<=b)) (λa b c=>by simp;omega) (λa b=>by simp;omega) (bB.map (·.1));exact this.imp λh=>by simpa using h
 have s2:((upto 60).filter λtx=>(bJ (E.map a7.bk) tx).isSome).Pairwise (· < ·):=(Bw 60).sublist Jp;have aaI:=NU (bB.map (·.1)) (λ(a b:Int)=>decide (a<=b));refine Uu (le:=(· <= ·)) (λa b _ _ h1 h2=>by omega) s1 (s2.imp λh=>by omega) ?_;refine(List.perm_ext_iff_of_nodup (aaI.nodup_iff.2 hn) (s2.imp λh=>by omega)).2 λtx=>?_;rw[List.mem_mergeSort,iU,kQ];constructor
 ·intro h;have h1:¬ aC bB tx=none:=λz=>(getM_none.1 z) h;rw[hp]at h1;cases hr:bJ (E.map a7.bk) tx with
  |none=>rw[hr]at h1;exact absurd rfl h1
  |some i=>
   obtain⟨_,r,hi,_⟩:=dO (eF hr).2;obtain⟨ops,g1,_⟩:=hE.ready hr hi;have:=oT g1;have hT2:=hT.2;exact⟨⟨this.1,ak⟩,rfl⟩
 ·rintro⟨_,h⟩;refine Ep.1 λz=>?_;have h1:=getM_none.2 z;rw[hp]at h1;obtain⟨i,hr⟩:=ur.1 h;obtain⟨_,r,hi,_⟩:=dO (eF hr).2;rw[hr,nU,hi]at h1;cases h1
theorem wM(H:dP T n P R)(hT:z4 T):dP T n (jo P) (dU R):=by
 have hk:=Bv hT H.CP {P with up:=true} {R with up:=true} P.log.length (fI _);rw[g5 (fI _)]at hk;have aaJ:=CW hT H.CP hk.pn hk.bB;unfold jo dU;simp only;rw[Fp,aaJ];rw[H.log]at hk⊢;rw[<- H.len];obtain⟨a,b,c,d,e,hP⟩:=yY P.log (iP {P with up:=true}) P.log.length;obtain⟨la,lb,hR⟩:=m6 R.log (eR {R with up:=true}) P.log.length;rw[hP,hR]at hk⊢;refine⟨H.me,H.mb,H.n1,H.n2,rfl,H.log,H.CP,H.aX,H.gl,?_,rfl,rfl,H.out,(λx hx=>by cases hx),H.oo,?_,λ_=>?_,λ_=>.nil,λ_=>.nil,(λ_ u hu=>by cases hu),λh=>by cases h⟩
 ·show[]++_=[]++jx _;unfold jx;rfl
 ·intro t ht;have ht:t∈[]++jx R.log:=ht;rw[eZ,<- H.log]at ht;unfold jx at ht;obtain⟨tx,h1,rfl⟩:=bL.1 ht;obtain⟨_,h2⟩:=iU.1 h1;obtain⟨i,hr⟩:=ur.1 h2;obtain⟨_,r,hi,_⟩:=dO (eF hr).2;obtain⟨ops,g1,_⟩:=H.CP.ready hr hi;show(opsOf T tx).isSome=true;rw[g1];rfl
 ·exact hk.aS
theorem yZ(H:dP T n P R)(k:Nat):dP T n {P with timers:=P.timers.eraseIdx k} {R with timers:=R.timers.eraseIdx k}:=
 {H with timers:=by{show P.timers.eraseIdx k=R.timers.eraseIdx k;rw[H.timers]},tt:=λt ht=>H.tt t ((jM ..).mem ht),kl:=λh=>(H.kl h).aS}
theorem SU(H:dP T n P R)(hT:z4 T)(eo:R.up=true){t:dR}(ht:(opsOf T t.tx).isSome=true):dP T n (yF P t) (lA R t):=by
 unfold yF lA;cases hag:t.again with
 |false=>
  simp only[gR,eY,Cm,eQ];rcases H.bB eo t.tx with⟨p1,p2⟩|⟨d,r,ops,p1,p2,p3,p4,p5,p6,p7⟩
  ·rw[p1,p2];exact H
  ·rw[p1,p2];simp only;rw[p3,kt];have H1:=H.send (m:={bq with kind:=6,to:=r.home,tx:=t.tx}) ⟨ops,p4,.inr (.inr (.inr (.inr (.inr (.inl ⟨rfl,p7,p5,rfl⟩)))))⟩;exact H1.sT ht
 |true=>
  simp only[eQ,AR,gR,eY];unfold qQ;rcases oU (H.cq eo) t.tx with⟨u1,u2⟩|⟨i,a,u,u1,u2,u3,u4,hu⟩
  ·rw[u1,u2];exact H
  ·rw[u1,u2];simp only;rw[u3];simp only;have wN:u.dec=true->decide (((aC P.cf t.tx).map (·.pl)).getD 0<P.aX)=(match bF R.log 2 t.tx with|some d=>decide ((d:Int)<R.aX)|none=>decide (-1<R.aX)):=λhd=>by
    have:=H.ud eo u (eS u3) hd;rw[u4]at this;rcases H.cf eo t.tx with⟨d1,d2⟩|⟨d,r,d1,d2,d3⟩
    ·rw[d2]at this;cases this
    ·rw[d1,d2,H.aX];rfl
   suffices ao:∀ aX:Bool,(u.dec=true->decide (((aC P.cf t.tx).map (·.pl)).getD 0<P.aX)=aX)->dP T n (jm (qO P a.ops λz k p=>
     if(!a.dec&& !(aC a.aT k).isSome)=true then eP z {bq with kind:=2,to:=k,tx:=t.tx,ops:=p}
     else if(a.dec&&decide (((aC P.cf t.tx).map (·.pl)).getD 0<P.aX)&&decide ((aC a.bK k).getD 0=0))=true then eP z {bq with kind:=4,to:=k,tx:=t.tx,yes:=a.yes}else z) t.tx 4 true)
     (let s1:=gb R u.ops λz k p=>
      if(!u.dec&& !(bP u k).isSome)=true then cA z {bq with kind:=2,to:=k,tx:=t.tx,ops:=p}
      else if(u.dec&&aX&& !u.bK.contains k)=true then cA z {bq with kind:=4,to:=k,tx:=t.tx,yes:=u.yes}else z
     {s1 with timers:=s1.timers++[⟨s1.clock+4,true,t.tx⟩]}) by
    cases hq:bF R.log 2 t.tx with
    |none=>rw[hq]at wN;exact ao _ wN
    |some d=>rw[hq]at wN;exact ao _ wN
   clear wN;intro aX wN;have Vc:opsOf T t.tx=some u.ops:=by rw[<- u4];exact hu.ops
   have key:=yW (J:=λp r=>dP T n p r/\r.me=R.me/\r.up=true) (ops:=a.ops)
    (f:=λz k p=>if(!a.dec&& !(aC a.aT k).isSome)=true then eP z {bq with kind:=2,to:=k,tx:=t.tx,ops:=p}
     else if(a.dec&&decide (((aC P.cf t.tx).map (·.pl)).getD 0<P.aX)&&decide ((aC a.bK k).getD 0=0))=true then eP z {bq with kind:=4,to:=k,tx:=t.tx,yes:=a.yes}else z)
    (g:=λz k p=>if(!u.dec&& !(bP u k).isSome)=true then cA z {bq with kind:=2,to:=k,tx:=t.tx,ops:=p}
     else if(u.dec&&aX&& !u.bK.contains k)=true then cA z {bq with kind:=4,to:=k,tx:=t.tx,yes:=u.yes}else z) H.n1 H.n2
    (λp r k hj hk _ _=>by
     have Ay:(aC a.aT k).isSome=(bP u k).isSome:=by rw[hu.ua.aT];simp
     have Vd:decide ((aC a.bK k).getD 0=0)= !u.bK.contains k:=by
      have h1:=hu.ua.bK k;cases hg:aC a.bK k with
      |none=>rw[hg]at h1;simp at h1⊢;exact h1
      |some c=>
       rw[hg]at h1;have h2:=hu.ua.ap _ (bU hg);simp only at h2 h1;simp only[<- h1,kt,Option.isSome_some,AR];simp;omega
     have WZ:(a.dec&&decide (((aC P.cf t.tx).map (·.pl)).getD 0<P.aX)&&decide ((aC a.bK k).getD 0=0))=(u.dec&&aX&& !u.bK.contains k):=by
      rw[hu.ua.dec,Vd];cases hd:u.dec with
      |false=>rfl
      |true=>rw[wN hd]
     have Ps:a.ops=u.ops:=hu.ua.ops;rw[WZ,hu.ua.dec,Ay,hu.ua.yes];have aaK:r.me=gf u.ops n:=by rw[hj.2.1,hu.home]
     split
     ·exact⟨hj.1.send ⟨u.ops,Vc,.inr (.inl ⟨rfl,aaK,by rw[<- Ps];exact hk,by show aY a.ops k n=aY u.ops k n;rw[Ps]⟩)⟩,hj.2.1,hj.2.2⟩
     split
     ·exact⟨hj.1.send ⟨u.ops,Vc,.inr (.inr (.inr (.inl ⟨rfl,aaK,by rw[<- Ps];exact hk,rfl⟩)))⟩,hj.2.1,hj.2.2⟩
     ·exact hj) ⟨H,rfl,eo⟩
   rw[hu.ua.ops]at key⊢;exact key.1.sT ht
theorem SV(s:ShR)(t:dR):(lA s t).up=s.up:=by
 have he:∀ (ops:List cy) (f:ShR->Int->List cy->ShR),(∀ z k p,(f z k p).up=z.up)->∀ z,(gb z ops f).up=z.up:=λops f hf z=>by
  unfold gb;have:∀ (l:List Int) (n:Int) (z:ShR),(l.foldl (λz k=>if(aY ops k n).isEmpty then z else f z k (aY ops k n)) z).up=z.up:=λl n=>by
   induction l with
   |nil=>intro z;rfl
   |cons k l ih=>
    intro z;rw[ks,ih];split
    ·rfl
    ·exact hf ..
  exact this _ _ z
 unfold lA;split
 ·split<;>rfl
 ·split
  ·rfl
  ·split
   ·rfl
   ·simp only;refine he _ _ (λz k p=>?_) s;split
    ·rfl
    ·split<;>(split<;>rfl)
theorem Fq{c:Int}:∀ (l:List dR) (i:Nat) (acc:Option (Nat×dR)) (L:List dR),(∀ p,acc=some p->p.2∈L)->(∀ t∈l,t∈L)->∀ p,jS c l i acc=some p->p.2∈L
 |[],_,_,_,ha,_,p,h=>ha p h
 |t::l,i,acc,L,ha,hl,p,h=>by
  unfold jS at h;refine Fq l (i+1) _ L (λq hq=>?_) (λx hx=>hl x (gu _ hx)) p h;generalize(decide (t.tm<=c)&&_)=z at hq;cases z with
  |true=>obtain rfl:=bY hq;exact hl _ (iI ..)
  |false=>exact ha q hq
theorem y0(hT:z4 T):∀ (f:Nat) (P:dZ) (R:ShR),dP T n P R->R.up=true->dP T n (kK f P) (iO f R)
 |0,_,_,H,_=>H
 |f+1,P,R,H,eo=>by
  unfold kK iO;have e1:jS P.clock P.timers 0 none=jS R.clock R.timers 0 none:=by rw[H.clock,H.timers]
  rw[e1];cases h:jS R.clock R.timers 0 none with
  |none=>exact H
  |some p=>
   obtain⟨k,t⟩:=p;simp only;have ht:=H.tt t (Fq R.timers 0 none R.timers (by simp) (λ_ h=>h) _ h);have H1:=yZ H k;refine y0 hT f _ _ (SU H1 hT eo ht) ?_;rw[SV];exact eo
theorem Fs(H:dP T n P R)(hT:z4 T)(eo:R.up=true):dP T n (oP P) (qM R):=by
 unfold oP qM;simp only;have e:OZ {P with clock:=P.clock+1}=sk {R with clock:=R.clock+1}:=by unfold OZ sk;simp only;rw[H.timers,H.clock]
 rw[e];refine y0 hT _ _ _ {H with clock:=?_,kl:=λh=>(H.kl h).aS} eo;show P.clock+1=R.clock+1;rw[H.clock]
end
section
structure WP where
 sh:List dZ
 aF:List MsgR
 aL:List TxR
 aj:Bool
def Ft(n:Int):WP:=⟨(upto n).map λk=>HE k n,[],[],false⟩
def nL(w:WP)(tx:Nat):WP:=
 match w.aL[tx]? with
 |none=>w
 |some t=>{w with aF:=w.aF++[{bq with kind:=1,aV:= -1,to:=gf t.ops w.sh.length,tx:=tx,ops:=t.ops}]}
def qZ(w:WP)(ops:List cy):WP×Int×Int:=
 if w.aj then(w,0,9)else if¬ fb ops then(w,0,2)else if w.aL.length=60\/400<=w.aF.length then(w,0,3)
 else(nL {w with aL:=w.aL++[⟨ops,1,[]⟩]} w.aL.length,w.aL.length,0)
def gX(w:WP)(a:Nat)(s:dZ):WP:={w with sh:=w.sh.set a {s with out:=[]},aF:=w.aF++s.out}
def m7(aL:List TxR)(m:MsgR):List TxR:=
 match aL[m.tx.toNat]? with
 |none=>aL
 |some t=>if t.state=1 then aL.set m.tx.toNat (if m.yes then{t with state:=2,reads:=m.reads}else{t with state:=3})else aL
def iy(w:WP)(k i:Int):WP×Int:=
 if i<0\/(w.aF.length:Int)<=i then(w,5)else
 match w.aF[i.toNat]? with
 |none=>(w,5)
 |some m=>
  if k=4 then(if 400<=w.aF.length then(w,3)else({w with aF:=w.aF++[m]},0))else
  let w1:={w with aF:=w.aF.eraseIdx i.toNat}
  if k=3 then(w1,0)else
  if m.to= -1 then({w1 with aL:=m7 w1.aL m},0)else
  match w1.sh[m.to.toNat]? with
  |none=>(w1,0)
  |some s=>if s.up then(gX w1 m.to.toNat (qP s m),0)else(w1,0)
def fO(w:WP)(k a b:Int):WP×Int:=
 if k<1\/8<k then(w,0)else if w.aj then(w,9)
 else if k=1 then(if a<0\/(w.aL.length:Int)<=a then(w,4)else if 400<=w.aF.length then(w,3)else(nL w a.toNat,0))
 else if k<=4 then iy w k a
 else if a<0\/(w.sh.length:Int)<=a then(w,6)
 else match w.sh[a.toNat]? with
  |none=>(w,6)
  |some s=>
   if k=8 then(if s.up then(w,8)else(gX w a.toNat (jo s),0))
   else if !s.up then(w,7)
   else if k=5 then(gX w a.toNat (sQ s),0)
   else if k=6 then(if 150<w.aF.length then(w,3)else(gX w a.toNat (oP s),0))
   else(gX w a.toNat (m4 s b),0)
def lT(aL:List TxR):List (List cy):=aL.map (·.ops)
structure gw(W:WP)(w:WR):Prop where
 n:1<=w.sh.length/\w.sh.length<=4
 len:W.sh.length=w.sh.length
 sh:∀ (i:Nat) P R,W.sh[i]? =some P->w.sh[i]? =some R->dP (lT w.aL) w.sh.length P R/\R.me=i/\R.out=[]
 aF:W.aF=w.aF
 aL:W.aL=w.aL
 st:W.aj=w.aj
 tok:z4 (lT w.aL)
 msg:∀ m∈w.aF,jq (lT w.aL) w.sh.length m
theorem W0(k n:Int):KL [] (HE k n) [] il:=KL.start _
theorem dP.app{T:List (List cy)}{n:Int}{P:dZ}{R:ShR}(H:dP T n P R)(more:List (List cy)):dP (T++more) n P R:=by
 have ho:∀ tx,(opsOf T tx).isSome=true->(opsOf (T++more) tx).isSome=true:=λtx h=>by obtain⟨ops,h⟩:=ur.1 h;rw[mH more h];rfl
 exact{H with CP:=H.CP.app more,wo:=λm hm=>(H.wo m hm).app more,oo:=λm hm=>(H.oo m hm).app more,tt:=λt ht=>ho _ (H.tt t ht),cq:=λh=>(H.cq h).mono λa b hu=>{hu with ops:=mH more hu.ops}}
theorem SW{n:Int}(hn:1<=n/\n<=4):gw (Ft n) (qg n):=by
 have hl:(upto n).length=n.toNat:=by simp[upto]
 have e1:(qg n).sh.length=n.toNat:=by simp[qg,hl]
 have e2:(((qg n).sh.length:Nat):Int)=n:=by rw[e1];omega
 refine⟨by rw[e1];omega,by simp[Ft,qg],λi P R hP hR=>?_,rfl,rfl,rfl,⟨by simp[qg,lT],by simp[qg,lT]⟩,by simp[qg]⟩;rw[e2];simp only[Ft,qg,kB]at hP hR;cases hk:(upto n)[i]? with
 |none=>rw[hk]at hP;cases hP
 |some k=>
  rw[hk]at hP hR;obtain rfl:=bY hP;obtain rfl:=bY hR;have hm:=kQ.1 (eS hk);have HI:k=i:=by
   unfold upto at hk;rw[kB]at hk;cases hr:(List.range n.toNat)[i]? with
   |none=>rw[hr]at hk;cases hk
   |some j=>
    rw[hr]at hk;obtain rfl:=bY hk;obtain⟨_,h2⟩:=jC.1 hr;rw[List.getElem_range]at h2;rw[h2];rfl
  refine⟨⟨rfl,hm,rfl,rfl,rfl,rfl,.nil,rfl,⟨sD _,sD _⟩,rfl,rfl,rfl,rfl,(λm h=>by cases h),(λm h=>by cases h),(λm h=>by cases h),λ_=>W0 k n,λ_=>.nil,λ_=>.nil,(λ_ m h=>by cases h),λh=>by cases h⟩,HI,rfl⟩
theorem gw.uW{W:WP}{w:WR}(H:gw W w):(lT w.aL).length=w.aL.length:=by simp[lT]
theorem Li{aL:List TxR}{i:Nat}{t:TxR}(h:aL[i]? =some t):opsOf (lT aL) i=some t.ops:=by unfold opsOf lT;rw[aq ak,kB,gy,h];rfl
variable{W:WP}{w:WR}
theorem gw.Kc(H:gw W w)(i:Nat)(hi:i<w.sh.length):∃ P R,W.sh[i]? =some P/\w.sh[i]? =some R/\dP (lT w.aL) w.sh.length P R/\R.me=i/\R.out=[]:=by have h1:W.sh[i]? =some (W.sh[i]'(by rw[H.len];exact hi)):=fp _;have h2:w.sh[i]? =some w.sh[i]:=fp _;exact⟨_,_,h1,h2,H.sh i _ _ h1 h2⟩
theorem gw.shape(H:gw W w):∃ sh,W=⟨sh,w.aF,w.aL,w.aj⟩:=by refine⟨W.sh,?_⟩;rw[<- H.aF,<- H.aL,<- H.st]
theorem y2(H:gw W w)(tx:Nat):gw (nL W tx) (mZ w tx):=by
 obtain⟨sh,rfl⟩:=H.shape;unfold nL mZ;simp only;cases ht:w.aL[tx]? with
 |none=>simp only;exact H
 |some t=>
  simp only;have hl:sh.length=w.sh.length:=H.len;refine{H with aF:=by{show w.aF++_=w.aF++_;rw[hl]},msg:=λm hm=>?_};rcases cg.1 hm with hm|hm
  ·exact H.msg m hm
  ·obtain rfl:=dN.1 hm;exact⟨t.ops,Li ht,.inl ⟨rfl,rfl,rfl,rfl⟩⟩
theorem gw.tx1(H:gw W w){ops:List cy}(hr:fb ops)(hl:w.aL.length≠60):gw {W with aL:=W.aL++[⟨ops,1,[]⟩]} {w with aL:=w.aL++[⟨ops,1,[]⟩]}:=by
 have e:lT (w.aL++[⟨ops,1,[]⟩])=lT w.aL++[ops]:=by simp[lT]
 refine⟨H.n,H.len,λi P R h1 h2=>?_,H.aF,by show W.aL++_=w.aL++_;rw[H.aL],H.st,?_,λm hm=>?_⟩
 ·obtain⟨a,b,c⟩:=H.sh i P R h1 h2;show dP (lT (w.aL++_)) _ _ _/\_;rw[e];exact⟨a.app _,b,c⟩
 ·show z4 (lT (w.aL++_));rw[e];refine⟨λo ho=>?_,?_⟩
  ·rcases cg.1 ho with h|h
   ·exact H.tok.1 o h
   ·obtain rfl:=dN.1 h;exact hr
  ·have:=H.tok.2;rw[H.uW]at this;rw[ji,H.uW,lL];omega
 ·show jq (lT (w.aL++_)) _ _;rw[e];exact(H.msg m hm).app _
theorem Fu(H:gw W w)(ops:List cy):gw (qZ W ops).1 (eM w ops).1/\(qZ W ops).2=(eM w ops).2:=by
 obtain⟨sh,rfl⟩:=H.shape;unfold qZ eM;simp only;split
 ·exact⟨H,rfl⟩
 split
 ·exact⟨H,rfl⟩
 split
 ·exact⟨H,rfl⟩
 ·rename_i h1 h2 h3;have:=H.tx1 (Ep.1 h2) (λz=>h3 (.inl z));exact⟨y2 this w.aL.length,rfl⟩
theorem oV(H:gw W w){a:Nat}{P:dZ}{R:ShR}(ha:a<w.sh.length)(hr:dP (lT w.aL) w.sh.length P R)(WT:R.me=a):gw (gX W a P) (lQ w a R):=by
 unfold gX lQ;have hl:(w.sh.set a {R with out:=[]}).length=w.sh.length:=cS ..;refine⟨by show 1<=(w.sh.set a _).length/\(w.sh.set a _).length<=4;rw[hl];exact H.n,by show(W.sh.set a _).length=(w.sh.set a _).length;rw[hl,cS];exact H.len,λi P' R' h1 h2=>?_,by show W.aF++P.out=w.aF++R.out;rw[H.aF,hr.out],H.aL,H.st,H.tok,λm hm=>?_⟩
 ·show dP _ ((w.sh.set a _).length:Nat) _ _/\_;rw[hl];have h1:(W.sh.set a {P with out:=[]})[i]? =some P':=h1;have h2:(w.sh.set a {R with out:=[]})[i]? =some R':=h2;by_cases e:a=i
  ·subst e;rw[List.getElem?_set_self (by rw[H.len];exact ha)]at h1;rw[List.getElem?_set_self ha]at h2;obtain rfl:=bY h1;obtain rfl:=bY h2;exact⟨{hr with out:=rfl,oo:=(λm h=>by cases h),kl:=λh=>(hr.kl h).aS},WT,rfl⟩
  ·rw[List.getElem?_set_ne e]at h1 h2;exact H.sh i P' R' h1 h2
 ·show jq _ ((w.sh.set a _).length:Nat) _;rw[hl];rcases cg.1 hm with hm|hm
  ·exact H.msg m hm
  ·exact hr.oo m hm
theorem Pv(s:ShR)(m:MsgR):(jF s m).me=s.me/\(jF s m).n=s.n:=by
 have he:∀ (ops:List cy) (f:ShR->Int->List cy->ShR),(∀ z k p,(f z k p).me=z.me/\(f z k p).n=z.n)->∀ z,(gb z ops f).me=z.me/\(gb z ops f).n=z.n:=λops f hf z=>by
  unfold gb;have:∀ (l:List Int) (n:Int) (z:ShR),(l.foldl (λz k=>if(aY ops k n).isEmpty then z else f z k (aY ops k n)) z).me=z.me/\(l.foldl (λz k=>if(aY ops k n).isEmpty then z else f z k (aY ops k n)) z).n=z.n:=λl n=>by
   induction l with
   |nil=>intro z;exact⟨rfl,rfl⟩
   |cons k l ih=>
    intro z;rw[ks];split
    ·exact ih z
    ·exact⟨(ih _).1.trans (hf z k _).1,(ih _).2.trans (hf z k _).2⟩
  exact this _ _ z
 unfold jF;split
 ·unfold l3;split
  ·split<;>exact⟨rfl,rfl⟩
  ·split
   ·exact⟨rfl,rfl⟩
   ·simp only;refine he _ _ (λz k p=>?_) _;exact⟨rfl,rfl⟩
 split
 ·unfold gJ;split
  ·split<;>exact⟨rfl,rfl⟩
  ·split
   ·split<;>exact⟨rfl,rfl⟩
   ·split<;>exact⟨rfl,rfl⟩
 split
 ·unfold pV;split
  ·exact⟨rfl,rfl⟩
  ·split
   ·exact⟨rfl,rfl⟩
   ·rename_i u _;split
    ·exact⟨rfl,rfl⟩
    ·simp only;generalize(if(m.yes&& !(bP u m.aV).isSome)=true then({u with aT:=u.aT++[⟨m.aV,m.reads⟩]}:gU)else u)=u1;split
     ·exact⟨rfl,rfl⟩
     ·refine he _ _ (λz k p=>?_) _;exact⟨rfl,rfl⟩
 split
 ·unfold iN;split
  ·simp only[eV];split<;>exact⟨rfl,rfl⟩
  ·split
   ·split<;>exact⟨rfl,rfl⟩
   ·split<;>exact⟨rfl,rfl⟩
 split
 ·unfold xo;split
  ·exact⟨rfl,rfl⟩
  ·split
   ·exact⟨rfl,rfl⟩
   ·split
    ·exact⟨rfl,rfl⟩
    ·simp only;split<;>exact⟨rfl,rfl⟩
 split
 ·unfold xp;split
  ·split<;>exact⟨rfl,rfl⟩
  ·split<;>exact⟨rfl,rfl⟩
 ·exact⟨rfl,rfl⟩
theorem tM(aL:List TxR)(m:MsgR):lT (m7 aL m)=lT aL:=by
 unfold m7;cases h:aL[m.tx.toNat]? with
 |none=>rfl
 |some t=>
  simp only;split
  ·unfold lT;rw[kD];have:(if m.yes=true then({t with state:=2,reads:=m.reads}:TxR)else{t with state:=3}).ops=t.ops:=by split<;>rfl
   rw[this];obtain⟨h1,h2⟩:=jC.1 h;apply NC;intro i;rw[yb];split
   ·rename_i e;subst e;rw[aK (by simpa using h1),kB,h];rfl
   ·rfl
  ·rfl
theorem Fv(w:WR)(m:MsgR):qN w m={w with aL:=m7 w.aL m}:=by
 unfold qN m7;cases h:w.aL[m.tx.toNat]? with
 |none=>rfl
 |some t=>simp only;split<;>rfl
theorem SX(s:ShR)(t:dR):(lA s t).me=s.me:=by
 have he:∀ (ops:List cy) (f:ShR->Int->List cy->ShR),(∀ z k p,(f z k p).me=z.me)->∀ z,(gb z ops f).me=z.me:=λops f hf z=>by
  unfold gb;have:∀ (l:List Int) (n:Int) (z:ShR),(l.foldl (λz k=>if(aY ops k n).isEmpty then z else f z k (aY ops k n)) z).me=z.me:=λl n=>by
   induction l with
   |nil=>intro z;rfl
   |cons k l ih=>
    intro z;rw[ks,ih];split
    ·rfl
    ·exact hf ..
  exact this _ _ z
 unfold lA;split
 ·split<;>rfl
 ·split
  ·rfl
  ·split
   ·rfl
   ·simp only;refine he _ _ (λz k p=>?_) s;split
    ·rfl
    ·split<;>(split<;>rfl)
theorem Bx:∀ (f:Nat) (s:ShR),(iO f s).me=s.me
 |0,_=>rfl
 |f+1,s=>by
  unfold iO;split
  ·rfl
  ·rw[Bx f,SX]
theorem wQ(s:ShR):(dU s).me=s.me/\(dU s).out=s.out:=by unfold dU;obtain⟨a,b,e⟩:=m6 s.log (eR {s with up:=true}) s.log.length;simp only[e];exact⟨rfl,rfl⟩
theorem CX(H:gw W w)(k i:Int):gw (iy W k i).1 (cV w k i).1/\(iy W k i).2=(cV w k i).2:=by
 obtain⟨sh,rfl⟩:=H.shape;unfold iy cV;simp only;split
 ·exact⟨H,rfl⟩
 cases hm:w.aF[i.toNat]? with
 |none=>exact⟨H,rfl⟩
 |some m=>
  have Lj:=H.msg m (eS hm);simp only;split
  ·split
   ·exact⟨H,rfl⟩
   ·refine⟨{H with aF:=rfl,msg:=λx hx=>?_},rfl⟩;rcases cg.1 hx with hx|hx
    ·exact H.msg x hx
    ·obtain rfl:=dN.1 hx;exact Lj
  have H1:gw ⟨sh,w.aF.eraseIdx i.toNat,w.aL,w.aj⟩ {w with aF:=w.aF.eraseIdx i.toNat}:={H with aF:=rfl,msg:=λx hx=>H.msg x ((jM ..).mem hx)};split
  ·exact⟨H1,rfl⟩
  split
  ·refine⟨?_,rfl⟩;rw[Fv];refine⟨H.n,H.len,λi P R h1 h2=>?_,rfl,rfl,H.st,?_,λx hx=>?_⟩
   ·show dP (lT (m7 w.aL m)) _ _ _/\_;rw[tM];exact H.sh i P R h1 h2
   ·show z4 (lT (m7 w.aL m));rw[tM];exact H.tok
   ·show jq (lT (m7 w.aL m)) _ _;rw[tM];exact H1.msg x hx
  ·cases hs:w.sh[m.to.toNat]? with
   |none=>
    have:sh[m.to.toNat]? =none:=by rw[Es]at hs⊢;have:=H.len;simp only at this;omega
    rw[this];exact⟨H1,rfl⟩
   |some R=>
    have dI:=(jC.1 hs).1;obtain⟨P,R',h1,h2,h3,h4,h5⟩:=H.Kc m.to.toNat dI;rw[hs]at h2;obtain rfl:=bY h2;rw[h1];simp only;rw[h3.up];split
    ·rename_i hk sV eo;have ad7:m.to=R.me:=by
      have:0<=m.to:=by
       have hn:(0:Int)<w.sh.length:=by have:=H.n;omega
       obtain⟨ops,ho,hc⟩:=Lj;have hr:=H.tok.of ho;have eL:ops≠[]:=by have:=hr.2.2.1;intro z;rw[z]at this;simp at this
       have hh:=(lS hr hn (wL eL)).1;rcases hc with h|h|h|h|h|h|h
       ·rw[h.2.2.1];exact hh
       ·exact(lS hr hn h.2.2.1).1
       ·rw[h.2.1];exact hh
       ·exact(lS hr hn h.2.2.1).1
       ·rw[h.2.1];exact hh
       ·rw[h.2.1];exact hh
       ·exact absurd h.2.1 sV
      rw[h4];omega
     have hn:(0:Int)<w.sh.length:=by have:=H.n;omega
     exact⟨oV H1 dI (Fi h3 H.tok hn eo Lj ad7) ((Pv ..).1.trans h4),rfl⟩
    ·exact⟨H1,rfl⟩
theorem SY(H:gw W w)(k a b:Int):gw (fO W k a b).1 (ny w k a b).1/\(fO W k a b).2=(ny w k a b).2:=by
 obtain⟨sh,rfl⟩:=H.shape;have hl:sh.length=w.sh.length:=H.len;unfold fO ny;dsimp only;rw[hl];by_cases c1:k<1\/8<k
 ·rw[aK c1,aK c1];exact⟨H,rfl⟩
 rw[aq c1,aq c1];by_cases c2:w.aj=true
 ·rw[aK c2,aK c2];exact⟨H,rfl⟩
 rw[aq c2,aq c2];by_cases c3:k=1
 ·rw[aK c3,aK c3];by_cases d1:a<0\/(w.aL.length:Int)<=a
  ·rw[aK d1,aK d1];exact⟨H,rfl⟩
  rw[aq d1,aq d1];by_cases d2:400<=w.aF.length
  ·rw[aK d2,aK d2];exact⟨H,rfl⟩
  rw[aq d2,aq d2];exact⟨y2 H _,rfl⟩
 rw[aq c3,aq c3];by_cases c4:k<=4
 ·rw[aK c4,aK c4];exact CX H k a
 rw[aq c4,aq c4];by_cases c5:a<0\/(w.sh.length:Int)<=a
 ·rw[aK c5,aK c5];exact⟨H,rfl⟩
 rw[aq c5,aq c5];have dI:a.toNat<w.sh.length:=ak;obtain⟨P,R,h1,h2,h3,h4,h5⟩:=H.Kc a.toNat dI;have h1:sh[a.toNat]? =some P:=h1;rw[h1,h2];dsimp only;rw[h3.up];by_cases c6:k=8
 ·rw[aK c6,aK c6];by_cases d1:R.up=true
  ·rw[aK d1,aK d1];exact⟨H,rfl⟩
  rw[aq d1,aq d1];refine⟨?_,rfl⟩;have hr:=wQ R;have:=oV H dI (wM h3 H.tok) (hr.1.trans h4);have e:lQ w a.toNat (dU R)={w with sh:=w.sh.set a.toNat (dU R)}:=by
   unfold lQ;rw[hr.2,h5,lK];have:({dU R with out:=[]}:ShR)=dU R:=by
    have h6:(dU R).out=[]:=hr.2.trans h5
    conv=>rhs;rw[show dU R={dU R with out:=(dU R).out}from rfl,h6]
   rw[this]
  rw[<- e];exact this
 rw[aq c6,aq c6];by_cases c7:(!R.up)=true
 ·rw[aK c7,aK c7];exact⟨H,rfl⟩
 rw[aq c7,aq c7];have eo:R.up=true:=by simpa using c7
 by_cases c8:k=5
 ·rw[aK c8,aK c8];exact⟨oV H dI (Fj h3 eo) h4,rfl⟩
 rw[aq c8,aq c8];by_cases c9:k=6
 ·rw[aK c9,aK c9];by_cases d1:150<w.aF.length
  ·rw[aK d1,aK d1];exact⟨H,rfl⟩
  rw[aq d1,aq d1];exact⟨oV H dI (Fs h3 H.tok eo) ((Bx ..).trans h4),rfl⟩
 rw[aq c9,aq c9];exact⟨oV H dI (Bu h3 b) h4,rfl⟩
theorem Ll(H:gw W w):gw {W with aj:=true} {w with aj:=true}:={H with st:=rfl}
def wt(m:MsgR):Nat:=if m.kind=1 then 45 else if m.kind=2 then 11 else if m.kind=3 then 10 else if m.kind=4 then 2 else if m.kind=6 then 3 else 1
def ws(l:List MsgR):Nat:=(l.map wt).sum
theorem Pw(m:MsgR):1<=wt m/\wt m<=45:=by
 unfold wt;repeat' split
 all_goals omega
theorem CY(a b:List MsgR):ws (a++b)=ws a+ws b:=by simp[ws]
theorem Py(m:MsgR):ws [m]=wt m:=by simp[ws]
theorem CZ:ws []=0:=rfl
theorem BA:∀ l:List MsgR,l.length<=ws l/\ws l<=45*l.length
 |[]=>⟨fI _,fI _⟩
 |m::l=>by
  have h:=BA l;have h1:=Pw m;have:ws (m::l)=wt m+ws l:=by simp[ws]
  rw[this,jd];omega
structure i4(t:Nat)(U:List gU)(L:List RecR)(Ti:List dR)(W:List MsgR)(aX clock:Int):Prop where
 ub:∀ u∈U,u.dec=(bF L 2 u.tx).isSome
 un:(U.map (·.tx)).Nodup
 nd:((L.filter λr=>r.kind==2).map (·.tx)).Nodup
 tn:(Ti.map λt=>(t.again,t.tx)).Nodup
 ta:∀ t∈Ti,t.again=true->t.tx∈U.map (·.tx)\/(bF L 2 t.tx).isSome=true
 tb:∀ t∈Ti,t.again=false->(bF L 1 t.tx).isSome=true\/(bF L 3 t.tx).isSome=true
 wl:(W.length:Int)<=5*(L.length-aX)
 vn:∀ u∈U,(u.aT.map (·.aV)).Nodup
 an:∀ u∈U,u.bK.length<=t
 ck:0<=clock/\clock<=t
def lB(t:Nat)(s:ShR):Prop:=i4 t s.under s.log s.timers s.waits s.aX s.clock
theorem BB{l:List gU}{tx:Int}:cX l tx=none↔tx∉l.map (·.tx):=by unfold cX;rw[List.findIdx?_eq_none_iff];simp
theorem tN{L:List RecR}{r:RecR}{k tx:Int}(h:(bF L k tx).isSome=true):(bF (L++[r]) k tx).isSome=true:=by
 rw[fe];split
 ·rfl
 ·exact h
theorem y3{L:List RecR}{tx:Int}:bF L 2 tx=none↔tx∉(L.filter λr=>r.kind==2).map (·.tx):=by
 rw[yT];constructor
 ·intro h hm;obtain⟨r,hr,e⟩:=bL.1 hm;obtain⟨h1,h2⟩:=iU.1 hr;exact h r h1 ⟨by simpa using h2,e⟩
 ·intro h r hr e;exact h (bL.2 ⟨r,iU.2 ⟨hr,by simpa using e.1⟩,e.2⟩)
variable{t:Nat}{U U':List gU}{L:List RecR}{Ti:List dR}{W:List MsgR}{aX clock:Int}
theorem i4.wrote(h:i4 t U L Ti W aX clock){r:RecR}{w:List MsgR}(hr:r.kind=2->bF L 2 r.tx=none)(hm:U'.map (·.tx)=U.map (·.tx))(hu:∀ u∈U',u.dec=(bF (L++[r]) 2 u.tx).isSome)
  (hv:∀ u∈U',(u.aT.map (·.aV)).Nodup) (ha:∀ u∈U',u.bK.length<=t) (hw:w.length<=5):i4 t U' (L++[r]) Ti (W++w) aX clock:=by
 refine⟨hu,by rw[hm];exact h.un,?_,h.tn,λx hx iR=>?_,λx hx iR=>(h.tb x hx iR).imp tN tN,?_,hv,ha,h.ck⟩
 ·rw[nE,eI];by_cases hk:r.kind=2
  ·have e:[r].filter (λr=>r.kind==2)=[r]:=by simp[hk]
   rw[e];refine iC.2 ⟨h.nd,by simp,λa ha b hb=>?_⟩;obtain rfl:=dN.1 hb;rintro rfl;exact y3.1 (hr hk) ha
  ·have e:[r].filter (λr=>r.kind==2)=[]:=by simp[hk]
   rw[e];simpa using h.nd
 ·rw[hm];exact(h.ta x hx iR).imp id tN
 ·have:=h.wl;rw[ji,ji,lL];omega
theorem i4.mono(h:i4 t U L Ti W aX clock){t':Nat}(ht:t<=t'):i4 t' U L Ti W aX clock:=
 {h with an:=λu hu=>Hf (h.an u hu) ht,ck:=⟨h.ck.1,by have:=h.ck.2;omega⟩}
theorem i4.sT(h:i4 t U L Ti W aX clock){x:dR}(hn:(x.again,x.tx)∉Ti.map λt=>(t.again,t.tx))(ha:x.again=true->x.tx∈U.map (·.tx)\/(bF L 2 x.tx).isSome=true)(hb:x.again=false->(bF L 1 x.tx).isSome=true\/(bF L 3 x.tx).isSome=true):i4 t U L (Ti++[x]) W aX clock:=by
 refine{h with tn:=?_,ta:=λy hy=>?_,tb:=λy hy=>?_}
 ·rw[eI];refine iC.2 ⟨h.tn,by simp,λa ha b hb=>?_⟩;obtain rfl:=dN.1 hb;rintro rfl;exact hn ha
 ·rcases cg.1 hy with hy|hy
  ·exact h.ta y hy
  ·obtain rfl:=dN.1 hy;exact ha
 ·rcases cg.1 hy with hy|hy
  ·exact h.tb y hy
  ·obtain rfl:=dN.1 hy;exact hb
theorem HR{ops:List cy}{f:ShR->Int->List cy->ShR}{g:Int->List cy->MsgR}(c:Nat)(hc:∀ k p x,wt {g k p with aV:=x}=c):
  (∀ z k p,f z k p=cA z (g k p))->∀ z,∃ o,gb z ops f={z with out:=z.out++o}/\o.length<=z.n.toNat/\ws o=c*o.length:=by
 intro hf z;unfold gb;have key:∀ (l:List Int) (n:Int) (z:ShR),∃ o,l.foldl (λz k=>if(aY ops k n).isEmpty then z else f z k (aY ops k n)) z={z with out:=z.out++o}/\o.length<=l.length/\ws o=c*o.length:=by
  intro l n
  induction l with
  |nil=>intro z;exact⟨[],by simp,fI _,rfl⟩
  |cons k l ih=>
   intro z;rw[ks];split
   ·obtain⟨o,h1,h2,h3⟩:=ih z;exact⟨o,h1,by rw[jd];omega,h3⟩
   ·rw[hf];obtain⟨o,h1,h2,h3⟩:=ih (cA z (g k (aY ops k n)));refine⟨{g k (aY ops k n)with aV:=z.me}::o,by rw[h1];simp[cA],by rw[jd,jd];omega,?_⟩;have e:ws ({g k (aY ops k n)with aV:=z.me}::o)=wt {g k (aY ops k n)with aV:=z.me}+ws o:=by simp[ws]
    rw[e,hc,h3,jd,Nat.mul_add];omega
 obtain⟨o,h1,h2,h3⟩:=key (upto z.n) z.n z;exact⟨o,h1,by simpa[upto]using h2,h3⟩
theorem Fw{ops:List cy}{f:ShR->Int->List cy->ShR}{g:Int->List cy->MsgR}(c:Nat)(hc:∀ k p x,wt {g k p with aV:=x}=c):
  (∀ z k p,f z k p=eV z (g k p))->∀ z,∃ o,gb z ops f={z with waits:=z.waits++o}/\o.length<=z.n.toNat/\ws o=c*o.length:=by
 intro hf z;unfold gb;have key:∀ (l:List Int) (n:Int) (z:ShR),∃ o,l.foldl (λz k=>if(aY ops k n).isEmpty then z else f z k (aY ops k n)) z={z with waits:=z.waits++o}/\o.length<=l.length/\ws o=c*o.length:=by
  intro l n
  induction l with
  |nil=>intro z;exact⟨[],by simp,fI _,rfl⟩
  |cons k l ih=>
   intro z;rw[ks];split
   ·obtain⟨o,h1,h2,h3⟩:=ih z;exact⟨o,h1,by rw[jd];omega,h3⟩
   ·rw[hf];obtain⟨o,h1,h2,h3⟩:=ih (eV z (g k (aY ops k n)));refine⟨{g k (aY ops k n)with aV:=z.me}::o,by rw[h1];simp[eV],by rw[jd,jd];omega,?_⟩;have e:ws ({g k (aY ops k n)with aV:=z.me}::o)=wt {g k (aY ops k n)with aV:=z.me}+ws o:=by simp[ws]
    rw[e,hc,h3,jd,Nat.mul_add];omega
 obtain⟨o,h1,h2,h3⟩:=key (upto z.n) z.n z;exact⟨o,h1,by simpa[upto]using h2,h3⟩
structure kS(t:Nat)(s s':ShR)(c:Nat):Prop where
 inv:lB (t+1) s'
 o:∃ o w,s'.out=s.out++o/\s'.waits=s.waits++w/\o.length<=5/\ws o+ws w<=c
variable{s:ShR}{m:MsgR}
theorem kS.same(h:lB t s)(c:Nat):kS t s s c:=⟨i4.mono h (mP t),[],[],by simp,by simp,by simp,by simp[ws]⟩
theorem kS.send(h:lB t s){x:MsgR}{c:Nat}(hc:wt {x with aV:=s.me}<=c):kS t s (cA s x) c:=
 ⟨i4.mono h (mP t),[_],[],rfl,by simp[cA],by simp,by simpa[ws]using hc⟩
theorem tO{U:List gU}{i:Nat}{u v:gU}(h:U[i]? =some u)(e:v.tx=u.tx):(U.set i v).map (·.tx)=U.map (·.tx):=by
 rw[kD,e];obtain⟨h1,rfl⟩:=jC.1 h;have:U[i].tx=(U.map (·.tx))[i]'(by rw[dd];exact h1):=by simp
 rw[this,l9]
theorem tP{U:List gU}{tx:Int}{i:Nat}(h:cX U tx=some i):∃ u,U[i]? =some u/\u.tx=tx:=by obtain⟨h1,h2,_⟩:=Uv.1 h;exact⟨U[i],fp h1,by simpa using h2⟩
theorem Lm(h:lB t s)(hn:s.n<=4):kS t s (l3 s m) 45:=by
 unfold l3;cases hd:bF s.log 2 m.tx with
 |some d=>
  simp only;split
  ·exact .send h (by simp[wt])
  ·exact .same h _
 |none=>
  simp only;cases hu:cX s.under m.tx with
  |some i=>simpa using kS.same h _
  |none=>
   simp only[KJ,gR,eY];obtain⟨o,e1,e2,e3⟩:=HR (ops:=m.ops) (f:=λz k p=>cA z {bq with kind:=2,to:=k,tx:=m.tx,ops:=p}) (g:=λk p=>{bq with kind:=2,to:=k,tx:=m.tx,ops:=p}) 11 (λk p x=>by simp[wt]) (λz k p=>rfl) {s with under:=s.under++[⟨m.tx,m.ops,[],false,false,[]⟩]};rw[e1];have HS:=BB.1 hu;have h1:i4 t (s.under++[⟨m.tx,m.ops,[],false,false,[]⟩]) s.log s.timers s.waits s.aX s.clock:=by
    refine⟨λu hu=>?_,?_,h.nd,h.tn,λx hx iR=>?_,h.tb,h.wl,λu hu=>?_,λu hu=>?_,h.ck⟩
    ·rcases cg.1 hu with hu|hu
     ·exact h.ub u hu
     ·obtain rfl:=dN.1 hu;simp only;rw[hd];rfl
    ·rw[eI];refine iC.2 ⟨h.un,by simp,λa ha b hb=>?_⟩;obtain rfl:=dN.1 hb;rintro rfl;exact HS ha
    ·rw[eI];exact(h.ta x hx iR).imp (λz=>kC _ z) id
    ·rcases cg.1 hu with hu|hu
     ·exact h.vn u hu
     ·obtain rfl:=dN.1 hu;exact .nil
    ·rcases cg.1 hu with hu|hu
     ·exact h.an u hu
     ·obtain rfl:=dN.1 hu;exact eC _
   have h2:i4 t (s.under++[⟨m.tx,m.ops,[],false,false,[]⟩]) s.log (s.timers++[⟨s.clock+4,true,m.tx⟩]) s.waits s.aX s.clock:=by
    refine h1.sT (λhx=>?_) (λ_=>.inl (by simp)) (λz=>by cases z);obtain⟨x,hx,e⟩:=bL.1 hx;simp only[Ei]at e;rcases h.ta x hx e.1 with z|z
    ·rw[e.2]at z;exact HS z
    ·rw[e.2,hd]at z;cases z
   refine⟨i4.mono h2 (mP t),o,[],rfl,by simp,?_,?_⟩
   ·simp only at e2;omega
   ·simp only at e2;rw[e3];simp[ws];omega
theorem SZ(h:lB t s):kS t s (xp s m) 3:=by
 unfold xp;cases hd:bF s.log 2 m.tx with
 |some d=>
  simp only;split
  ·exact .send h (by simp[wt])
  ·exact .same h _
 |none=>
  simp only;cases hu:cX s.under m.tx with
  |some i=>simpa using kS.same h _
  |none=>
   simp only[KJ,gR,eY];have HS:=BB.1 hu;have h1:=i4.wrote h (U':=s.under) (r:={eA with kind:=2,tx:=m.tx}) (w:=[{bq with kind:=4,to:=m.aV,tx:=m.tx,aV:=s.me}]) (λ_=>hd) rfl (λu hu=>by rw[fe,aq (by simp[isRec];intro e;exact HS (bL.2 ⟨u,hu,e.symm⟩))];exact h.ub u hu) h.vn h.an (by simp)
   exact⟨i4.mono h1 (mP t),[],_,by simp[eV],rfl,by simp,by simp[ws,wt]⟩
theorem Fx(h:lB t s):kS t s (gJ s m) 11:=by
 unfold gJ;simp only;cases hr:bJ s.log m.tx with
 |some r=>
  simp only;split
  ·exact .send h (by simp[wt])
  ·exact .same h _
 |none=>
  simp only;cases hd:bF s.log 3 m.tx with
  |some d=>
   simp only;split
   ·exact .same h _
   ·exact .send h (by simp[wt])
  |none=>
   simp only;split
   ·exact .send h (by simp[wt])
   ·have h1n:bF s.log 1 m.tx=none:=by unfold bJ at hr;rw[hd]at hr;simpa using hr
    have h1:=i4.wrote h (U':=s.under) (r:={eA with kind:=1,tx:=m.tx,home:=m.aV,ops:=m.ops}) (w:=[{bq with kind:=3,to:=m.aV,tx:=m.tx,yes:=true,reads:=g8 s.bH m.ops,aV:=s.me}]) (λz=>by simp at z) rfl (λu hu=>by rw[fe,aq (by simp[isRec])];exact h.ub u hu) h.vn h.an (by simp)
    have h2:=h1.sT (x:=⟨s.clock+3,false,m.tx⟩) (λhx=>by
     obtain⟨x,hx,e⟩:=bL.1 hx;simp only[Ei]at e;rcases h.tb x hx e.1 with z|z
     ·rw[e.2,h1n]at z;cases z
     ·rw[e.2,hd]at z;cases z) (λz=>by cases z) (λ_=>.inl (by rw[fe,aK (by simp[isRec])];rfl))
    exact⟨i4.mono h2 (mP t),[],_,by simp[eV],rfl,by simp,by simp[ws,wt]⟩
theorem HT(h:lB t s):kS t s (iN s m) 2:=by
 have key:∀ (b:Bool),i4 t s.under (s.log++[{eA with kind:=3,tx:=m.tx,yes:=b}]) s.timers (s.waits++[{bq with kind:=5,to:=m.aV,tx:=m.tx,aV:=s.me}]) s.aX s.clock:=λb=>
  i4.wrote h (U':=s.under) (r:={eA with kind:=3,tx:=m.tx,yes:=b}) (λz=>by simp at z) rfl (λu hu=>by rw[fe,aq (by simp[isRec])];exact h.ub u hu) h.vn h.an (by simp)
 have fin:∀ (s':ShR) (b:Bool),s'.under=s.under->s'.log=s.log++[{eA with kind:=3,tx:=m.tx,yes:=b}]->s'.timers=s.timers->s'.waits=s.waits++[{bq with kind:=5,to:=m.aV,tx:=m.tx,aV:=s.me}]->s'.aX=s.aX->s'.clock=s.clock->s'.out=s.out->kS t s s' 2:=λs' b e1 e2 e3 e4 e5 e6 e7=>by refine⟨?_,[],_,by simpa using e7,e4,by simp,by simp[ws,wt]⟩;unfold lB;rw[e1,e2,e3,e4,e5,e6];exact i4.mono (key b) (mP t)
 unfold iN;cases hr:bJ s.log m.tx with
 |some r=>
  simp only;cases hy:m.yes with
  |true=>exact fin _ m.yes rfl (by rw[hy];rfl) rfl rfl rfl rfl rfl
  |false=>exact fin _ m.yes rfl (by rw[hy];rfl) rfl rfl rfl rfl rfl
 |none=>
  simp only;cases hd:bF s.log 3 m.tx with
  |some d=>
   simp only;split
   ·exact .send h (by simp[wt])
   ·exact .same h _
  |none=>
   simp only;split
   ·exact .same h _
   ·exact fin _ m.yes rfl rfl rfl rfl rfl rfl rfl
theorem S0(h:lB t s):kS t s (xo s m) 1:=by
 unfold xo;cases hu:cX s.under m.tx with
 |none=>exact .same h _
 |some i=>
  simp only;obtain⟨u,hg,uX⟩:=tP hu;rw[hg];simp only;have eT:=eS hg;by_cases hd:u.dec=true
  case neg=>rw[aK (by simpa using hd)];exact .same h _
  case pos=>
   rw[aq (by simp[hd])];have aaL:(bF s.log 2 u.tx).isSome=true:=by rw[<- h.ub u eT,hd]
   have Ve:=i4.mono h (mP t);split
   ·refine⟨⟨λv hv=>h.ub v ((jM ..).mem hv),?_,h.nd,h.tn,λx hx iR=>?_,h.tb,h.wl,λv hv=>h.vn v ((jM ..).mem hv),λv hv=>Ve.an v ((jM ..).mem hv),Ve.ck⟩,[],[],by simp,by simp,by simp,by simp[ws]⟩
    ·exact h.un.sublist ((jM ..).map _)
    ·rcases h.ta x hx iR with z|z
     ·by_cases ex:x.tx=u.tx
      ·rw[ex];exact .inr aaL
      ·refine .inl ?_;obtain⟨v,hv,ev⟩:=bL.1 z;obtain⟨j,hj⟩:=ov hv;refine bL.2 ⟨v,?_,ev⟩;refine Uw.2 ⟨j,?_,hj⟩;rintro rfl;rw[hg]at hj;obtain rfl:=bY hj;exact ex ev.symm
     ·exact .inr z
   ·have e:=tO (v:={u with bK:=u.bK++[m.aV]}) hg rfl;refine⟨⟨λv hv=>?_,by show(List.map _ (s.under.set i _)).Nodup;rw[e];exact h.un,h.nd,h.tn,λx hx iR=>by show x.tx∈(s.under.set i _).map _\/_;rw[e];exact h.ta x hx iR,h.tb,h.wl,λv hv=>?_,λv hv=>?_,Ve.ck⟩,[],[],by simp,by simp,by simp,by simp[ws]⟩
    ·rcases fT hv with z|rfl
     ·exact h.ub v z
     ·exact h.ub u eT
    ·rcases fT hv with z|rfl
     ·exact h.vn v z
     ·exact h.vn u eT
    ·rcases fT hv with z|rfl
     ·exact Ve.an v z
     ·have:=h.an u eT;show(u.bK++[m.aV]).length<=t+1;rw[ji,lL];omega
theorem Pz(h:lB t s)(hn:s.n<=4):kS t s (pV s m) 10:=by
 unfold pV;cases hu:cX s.under m.tx with
 |none=>exact .same h _
 |some i=>
  simp only;obtain⟨u,hg,uX⟩:=tP hu;rw[hg];simp only;have eT:=eS hg;by_cases hd:u.dec=true
  case pos=>rw[aK hd];exact .same h _
  case neg=>
   rw[aq hd];have hd:u.dec=false:=by simpa using hd
   have PA:bF s.log 2 m.tx=none:=by
    have:=h.ub u eT;rw[hd,uX]at this;cases hf:bF s.log 2 m.tx with
    |none=>rfl
    |some d=>rw[hf]at this;cases this
   obtain⟨v1,qd⟩:∃ v1,v1=(if(m.yes&& !(bP u m.aV).isSome)=true then{u with aT:=u.aT++[⟨m.aV,m.reads⟩]}else u):=⟨_,rfl⟩;rw[<- qd];have e1:v1.tx=u.tx:=by rw[qd];split<;>rfl
   have e2:v1.dec=u.dec:=by rw[qd];split<;>rfl
   have e3:v1.bK=u.bK:=by rw[qd];split<;>rfl
   have e4:(v1.aT.map (·.aV)).Nodup:=by
    rw[qd];split
    ·rename_i hb;have nZ:m.yes=true/\(bP u m.aV).isSome=false:=by simpa using hb
     show((u.aT++[_]).map _).Nodup;rw[eI];refine iC.2 ⟨h.vn u eT,by simp,λa ha b hb=>?_⟩;obtain rfl:=dN.1 hb;rintro rfl;obtain⟨v,hv,ev⟩:=bL.1 ha;have:=nZ.2;unfold bP at this;simp only[Option.isSome_eq_false_iff,Option.isNone_iff_eq_none,Jo]at this;exact this v hv (by simpa using ev)
    ·exact h.vn u eT
   have Ve:=i4.mono h (mP t);split
   ·have e:=tO (v:=v1) hg e1;refine⟨⟨λv hv=>?_,by show(List.map _ (s.under.set i _)).Nodup;rw[e];exact h.un,h.nd,h.tn,λx hx iR=>by show x.tx∈(s.under.set i _).map _\/_;rw[e];exact h.ta x hx iR,h.tb,h.wl,λv hv=>?_,λv hv=>?_,Ve.ck⟩,[],[],by simp,by simp,by simp,by simp[ws]⟩
    ·rcases fT hv with z|rfl
     ·exact h.ub v z
     ·rw[e1,e2];exact h.ub u eT
    ·rcases fT hv with z|rfl
     ·exact h.vn v z
     ·exact e4
    ·rcases fT hv with z|rfl
     ·exact Ve.an v z
     ·rw[e3];exact Ve.an u eT
   ·generalize i9:(if m.yes=true then jH {v1 with dec:=true,yes:=m.yes} s.n else[])=rd;obtain⟨o,w1,w2,w3⟩:=Fw (ops:=v1.ops) (f:=λz k _=>eV z {bq with kind:=4,to:=k,tx:=m.tx,yes:=m.yes}) (g:=λk _=>{bq with kind:=4,to:=k,tx:=m.tx,yes:=m.yes}) 2 (λk p x=>by simp[wt]) (λz k p=>rfl) {s with under:=s.under.set i {v1 with dec:=true,yes:=m.yes},log:=s.log++[{eA with kind:=2,tx:=m.tx,yes:=m.yes,reads:=rd}]};rw[w1];simp only at w2;have hi:=i4.wrote h (U':=s.under.set i {v1 with dec:=true,yes:=m.yes}) (r:={eA with kind:=2,tx:=m.tx,yes:=m.yes,reads:=rd}) (w:=o++[{bq with kind:=7,to:= -1,tx:=m.tx,yes:=m.yes,reads:=rd,aV:=s.me}]) (λ_=>PA) (tO hg e1) (λv hv=>by
      rw[fe];rcases fT hv with z|rfl
      ·by_cases ev:v.tx=m.tx
       ·
        obtain⟨j,W1,Ln⟩:=jO hv;rw[cS]at W1;by_cases C3:i=j
        ·subst C3;rw[wC]at Ln;rw[<- Ln];simp[isRec,e1,uX]
        ·rw[Et C3]at Ln;obtain⟨g1,g2⟩:=jC.1 hg;refine absurd ((List.getElem?_inj (by simpa using g1) h.un).1 ?_) C3;rw[kB,kB,hg,fp W1,Ln];simp only[lJ];rw[uX,ev]
       ·have eL:¬ isRec 2 v.tx ({eA with kind:=2,tx:=m.tx,yes:=m.yes,reads:=rd}:RecR)=true:=by simp[isRec];intro e;exact ev e.symm
        rw[aq eL];exact h.ub v z
      ·rw[aK (by simp[isRec,e1,uX])];rfl) (λv hv=>by
      rcases fT hv with z|rfl
      ·exact h.vn v z
      ·exact e4) (λv hv=>by
      rcases fT hv with z|rfl
      ·exact h.an v z
      ·show v1.bK.length<=t;rw[e3];exact h.an u eT) (by rw[ji,lL];omega)
    refine⟨?_,[],o++[{bq with kind:=7,to:= -1,tx:=m.tx,yes:=m.yes,reads:=rd,aV:=s.me}],by simp[eV],by simp[eV],by simp,?_⟩
    ·have:i4 t (s.under.set i {v1 with dec:=true,yes:=m.yes}) (s.log++[{eA with kind:=2,tx:=m.tx,yes:=m.yes,reads:=rd}]) s.timers ((s.waits++o)++[{bq with kind:=7,to:= -1,tx:=m.tx,yes:=m.yes,reads:=rd,aV:=s.me}]) s.aX s.clock:=by rw[qw];exact hi
     exact i4.mono this (mP t)
    ·have e5:wt ({bq with kind:=7,to:= -1,tx:=m.tx,yes:=m.yes,reads:=rd,aV:=s.me}:MsgR)=1:=by simp[wt]
     rw[CZ,CY,Py,e5,w3];omega
theorem Fy(h:lB t s)(hn:s.n<=4):kS t s (jF s m) (wt m):=by
 unfold jF;split
 ·rename_i hk;have:wt m=45:=by simp[wt,hk]
  rw[this];exact Lm h hn
 split
 ·rename_i hk;have:wt m=11:=by simp[wt,hk]
  rw[this];exact Fx h
 split
 ·rename_i hk;have:wt m=10:=by simp[wt,hk]
  rw[this];exact Pz h hn
 split
 ·rename_i hk;have:wt m=2:=by simp[wt,hk]
  rw[this];exact HT h
 split
 ·rename_i hk;have:wt m=1:=by simp[wt,hk]
  rw[this];exact S0 h
 split
 ·rename_i hk;have:wt m=3:=by simp[wt,hk]
  rw[this];exact SZ h
 ·exact .same h _
end
section
theorem m8{l:List Int}{c:Nat}(hn:l.Nodup)(h:∀ x∈l,0<=x/\x<c):l.length<=c:=by have:=lI hn (b:=upto c) λx hx=>kQ.2 (h x hx);simpa[upto]using this
variable{T:List (List cy)}{n me:Int}
theorem gK.keys{E:List a7}(h:gK T n me E)(hT:z4 T)(lP:(((E.map a7.bk).filter λr=>r.kind==2).map (·.tx)).Nodup):((E.map a7.bk).map λr=>r.kind*60+r.tx).Nodup/\∀ r∈E.map a7.bk,(1<=r.kind/\r.kind<=3)/\0<=r.tx/\r.tx<60:=by
 have dI:∀ tx,(opsOf T tx).isSome=true->0<=tx/\tx<60:=λtx h=>by obtain⟨ops,h⟩:=ur.1 h;have h1:=oT h;have h2:=hT.2;omega
 have add:∀ (E:List a7) (e:a7),(((E.map a7.bk).map λr=>r.kind*60+r.tx).Nodup/\∀ r∈E.map a7.bk,(1<=r.kind/\r.kind<=3)/\0<=r.tx/\r.tx<60)->(1<=e.bk.kind/\e.bk.kind<=3)->(0<=e.bk.tx/\e.bk.tx<60)->bF (E.map a7.bk) e.bk.kind e.bk.tx=none->
   (((E++[e]).map a7.bk).map λr=>r.kind*60+r.tx).Nodup/\∀ r∈(E++[e]).map a7.bk,(1<=r.kind/\r.kind<=3)/\0<=r.tx/\r.tx<60:=λE e ih hk ht hf=>by
  rw[eI,eI];refine⟨iC.2 ⟨ih.1,by simp,λa ha b hb=>?_⟩,λr hr=>?_⟩
  ·obtain rfl:=dN.1 hb;rintro rfl;obtain⟨r,hr,er⟩:=bL.1 ha;have h1:=ih.2 r hr;have er:r.kind*60+r.tx=e.bk.kind*60+e.bk.tx:=er;exact yT.1 hf r hr ⟨ak,ak⟩
  ·rcases cg.1 hr with hr|hr
   ·exact ih.2 r hr
   ·obtain rfl:=dN.1 hr;exact⟨hk,ht⟩
 induction h with
 |nil=>exact⟨.nil,by simp⟩
 |@eK E tx ops h1 h2 h3 h4 h5 h6 ih=>
  rw[eI,nE,eI]at lP;exact add _ _ (ih (iC.1 lP).1) ⟨by simp[a7.bk],by simp[a7.bk]⟩ (dI _ (by simp only[a7.bk];rw[h2];rfl)) h4
 |@dec E tx yes reads h1 h2 ih=>
  rw[eI,nE,eI]at lP;refine add _ _ (ih (iC.1 lP).1) ⟨by simp[a7.bk],by simp[a7.bk]⟩ (dI _ h2) (y3.2 λhm=>?_);exact(iC.1 lP).2.2 _ hm _ (by simp[a7.bk]) rfl
 |@kg E tx yes h1 h2 h3 ih=>
  rw[eI,nE,eI]at lP;exact add _ _ (ih (iC.1 lP).1) ⟨by simp[a7.bk],by simp[a7.bk]⟩ (dI _ h2) h3
variable{P:dZ}{R:ShR}{t:Nat}
structure y4(t:Nat)(s:ShR):Prop where
 log:s.log.length<=240
 waits:s.waits.length<=1200
 timers:s.timers.length<=120
 under:s.under.length<=60
 cq:∀ u∈s.under,u.aT.length<=4/\u.bK.length<=t/\fb u.ops
 aH:s.aH.length<=26
 tQ:∀ r∈s.log,(∀ o∈r.ops,97<=o.k/\o.k<=122)/\r.ops.length<=6
 bH:s.bH.length=26
 clock:0<=s.clock/\s.clock<=t
theorem aaM(H:dP T n P R)(hT:z4 T)(hn:n<=4)(h:lB t R):y4 t R:=by
 have hk:=H.CP.keys hT (by rw[H.log];exact h.nd);rw[H.log]at hk;have jV:R.log.length<=240:=by
  have:=m8 (c:=240) hk.1 (λx hx=>by obtain⟨r,hr,rfl⟩:=bL.1 hx;have:=hk.2 r hr;omega)
  simpa using this
 have dI:∀ tx,(opsOf T tx).isSome=true->0<=tx/\tx<60:=λtx h=>by obtain⟨ops,h⟩:=ur.1 h;have h1:=oT h;have h2:=hT.2;omega
 have HS:∀ u∈R.under,R.up=true/\∃ a,kP T n R.me (u.tx,a) u:=λu hu=>by
  by_cases eo:R.up=true
  ·refine⟨eo,?_⟩;have key:∀ {l:List (Int×lR)} {m:List gU},F2 (kP T n R.me) l m->∀ u∈m,∃ a,kP T n R.me (u.tx,a) u:=by
    intro l m hf
    induction hf with
    |nil=>intro u hu;cases hu
    |cons h1 h2 ih=>
     intro u hu;rcases gq.1 hu with rfl|hu
     ·rename_i a _ _;refine⟨a.2,?_⟩;rw[<- h1.tx];exact h1
     ·exact ih u hu
   exact key (H.cq eo) u hu
  ·have eo:R.up=false:=by simpa using eo
   exact absurd hu (by rw[show R.under=[]from(H.dn eo).2.2.2.2.2];simp)
 refine⟨jV,?_,?_,?_,λu hu=>?_,?_,λr hr=>?_,?_,h.ck⟩
 ·have:=h.wl;have:=H.gl;omega
 ·have:=m8 (c:=120) (l:=R.timers.map λt=>(if t.again then 60 else 0)+t.tx) (by
   have h1:=h.tn;have h2:∀ x∈R.timers,0<=x.tx/\x.tx<60:=λx hx=>dI _ (H.tt x hx);unfold List.Nodup at h1⊢;rw[Jq]at h1⊢;refine List.Pairwise.imp_of_mem (λ{a b} ha hb Ea e=>?_) h1;have ba:=h2 a ha;have bb:=h2 b hb;refine Ea ?_;cases ea:a.again<;>cases eb:b.again<;>simp only[ea,eb,eQ,eY,gR]at e<;>first|(exfalso;omega)|(rw[Ei];exact⟨rfl,ak⟩)) (λx hx=>by
   obtain⟨y,hy,rfl⟩:=bL.1 hx;have:=dI _ (H.tt y hy);split<;>omega)
  simpa using this
 ·have:=m8 (c:=60) h.un (λx hx=>by obtain⟨u,hu,rfl⟩:=bL.1 hx;obtain⟨_,a,ha⟩:=HS u hu;exact dI _ (by rw[ha.ops];rfl))
  simpa using this
 ·obtain⟨_,a,ha⟩:=HS u hu;refine⟨?_,h.an u hu,hT.of ha.ops⟩;have:=m8 (c:=4) (h.vn u hu) (λx hx=>by
   obtain⟨v,hv,rfl⟩:=bL.1 hx;have h1:(bP u v.aV).isSome=true:=by unfold bP;rw[List.find?_isSome];exact⟨v,hv,by simp⟩
   have h2:=ha.ua.aT v.aV;cases hg:aC a.aT v.aV with
   |none=>rw[hg]at h2;cases Vf:bP u v.aV with
    |none=>rw[Vf]at h1;cases h1
    |some z=>rw[Vf]at h2;cases h2
   |some rd=>
    have h3:=(ha.ua.vt _ (bU hg)).1;have hnp:0<n:=by have:=H.mb;omega
    have:=lS (hT.of ha.ops) hnp h3;simp only at this;omega)
  simpa using this
 ·by_cases eo:R.up=true
  ·have yU:=H.kl eo;have:=m8 (c:=26) (l:=R.aH.map λh=>h.key-97) (by
    have:=yU.ln;unfold List.Nodup at this⊢;rw[Jq]at this⊢;exact this.imp λh e=>h ak) (λx hx=>by
    obtain⟨y,hy,rfl⟩:=bL.1 hx;obtain⟨i,r,h1,h2,o,h3,h4⟩:=yU.lk y hy;obtain⟨ops,g1,_,g3,_⟩:=H.CP.ready h1 h2;rw[g3]at h3;have:=(hT.of g1).key o h3;omega)
   simpa using this
  ·have eo:R.up=false:=by simpa using eo
   rw[(H.dn eo).2.2.2.1];simp
 ·obtain⟨i,hi⟩:=ov hr;rw[<- H.log]at hi;obtain⟨ops,g1,g2⟩:=H.CP.U8 i r hi;have hk:r.kind≠1->r.ops=[]:=by
   rw[kB]at hi;cases he:P.log[i]? with
   |none=>rw[he]at hi;cases hi
   |some e=>
    rw[he]at hi;obtain rfl:=bY hi;cases e with
    |eK=>intro z;exact absurd rfl z
    |dec=>intro _;rfl
    |kg=>intro _;rfl
  by_cases k1:r.kind=1
  ·obtain⟨_,g3,_⟩:=g2 k1;rw[g3];exact⟨(hT.of g1).key,Hf (pN ..) (hT.of g1).2.2.2⟩
  ·rw[hk k1];simp
 ·by_cases eo:R.up=true
  ·exact(H.kl eo).Aw
  ·have eo:R.up=false:=by simpa using eo
   rw[(H.dn eo).2.2.1];rfl
theorem i4.fresh{L:List RecR}{aX:Int}{t:Nat}{W:List MsgR}(lP:((L.filter λr=>r.kind==2).map (·.tx)).Nodup)(hg:(W.length:Int)<=5*(L.length-aX)):i4 t [] L [] W aX 0:=
 ⟨by simp,.nil,lP,.nil,by simp,by simp,hg,by simp,by simp,⟨sD _,ak⟩⟩
variable{s:ShR}
theorem PB(h:lB t s):lB (t+1) (yC s):=
 i4.mono (t:=t) {h with wl:=by{show(([]:List MsgR).length:Int)<=5*((s.log.length:Int)-(s.log.length:Nat));simp}} (mP t)
theorem Lo(h:lB t s)(hg:0<=s.aX/\s.aX<=s.log.length)(keep:Int):lB (t+1) (pw s keep):=by
 unfold pw;simp only;generalize Y8:s.aX+(if(if keep<0 then 0 else keep)<(s.log.length:Int)-s.aX then(if keep<0 then 0 else keep)else(s.log.length:Int)-s.aX)=g;have hb:0<=g/\g<=s.log.length:=by rw[<- Y8];split<;>split<;>omega
 refine i4.fresh ?_ ?_
 ·exact h.nd.sublist (((List.take_sublist ..).filter _).map _)
 ·show(0:Int)<=5*(((s.log.take g.toNat).length:Nat)-g);rw[iz];omega
theorem Fz(h:lB t s)(hg:s.aX<=s.log.length):lB (t+1) (dU s):=by
 unfold dU;obtain⟨a,b,e⟩:=m6 s.log (eR {s with up:=true}) s.log.length;simp only[e];have h0:i4 (t+1) [] s.log [] [] s.aX 0:=i4.fresh h.nd (by show(0:Int)<=_;omega);have lP:((jx s.log).map λt=>(t.again,t.tx)).Nodup:=by unfold jx;rw[ux];have s2:((upto 60).filter λtx=>(bJ s.log tx).isSome).Pairwise (· < ·):=(Bw 60).sublist Jp;unfold List.Nodup;rw[Jq];exact s2.imp λh e=>by simp at e;omega
 have eT:∀ x∈jx s.log,x.again=false/\(bJ s.log x.tx).isSome=true:=λx hx=>by obtain⟨tx,h1,rfl⟩:=bL.1 hx;exact⟨rfl,(iU.1 h1).2⟩
 refine{h0 with tn:=lP,ta:=λx hx iR=>?_,tb:=λx hx _=>?_}
 ·rw[(eT x hx).1]at iR;cases iR
 ·obtain⟨i,hi⟩:=ur.1 (eT x hx).2;refine .inl ?_;show(bF s.log 1 x.tx).isSome=true;rw[(eF hi).2];rfl
theorem PC{ops:List cy}{f:ShR->Int->List cy->ShR}(hf:∀ z k p,∃ o,f z k p={z with out:=z.out++o}/\o.length<=1)(z:ShR):∃ o,gb z ops f={z with out:=z.out++o}/\o.length<=z.n.toNat:=by
 unfold gb;have key:∀ (l:List Int) (n:Int) (z:ShR),∃ o,l.foldl (λz k=>if(aY ops k n).isEmpty then z else f z k (aY ops k n)) z={z with out:=z.out++o}/\o.length<=l.length:=by
  intro l n
  induction l with
  |nil=>intro z;exact⟨[],by simp,fI _⟩
  |cons k l ih=>
   intro z;rw[ks];split
   ·obtain⟨o,h1,h2⟩:=ih z;exact⟨o,h1,by rw[jd];omega⟩
   ·obtain⟨o1,f1,f2⟩:=hf z k (aY ops k n);rw[f1];obtain⟨o,h1,h2⟩:=ih {z with out:=z.out++o1};exact⟨o1++o,by rw[h1];simp,by rw[jd,ji];omega⟩
 obtain⟨o,h1,h2⟩:=key (upto z.n) z.n z;exact⟨o,h1,by simpa[upto]using h2⟩
theorem S1(h:lB t s){k:Nat}{x:dR}(hk:s.timers[k]? =some x)(hn:s.n<=4):lB t (lA {s with timers:=s.timers.eraseIdx k} x)/\∃ o,(lA {s with timers:=s.timers.eraseIdx k} x).out=s.out++o/\o.length<=5/\(lA {s with timers:=s.timers.eraseIdx k} x).waits=s.waits/\(lA {s with timers:=s.timers.eraseIdx k} x).n=s.n:=by
 have h0:i4 t s.under s.log (s.timers.eraseIdx k) s.waits s.aX s.clock:=
  {h with tn:=h.tn.sublist ((jM ..).map _),ta:=λy hy=>h.ta y ((jM ..).mem hy),tb:=λy hy=>h.tb y ((jM ..).mem hy)}
 have hx:=eS hk;have tL:(x.again,x.tx)∉(s.timers.eraseIdx k).map λt=>(t.again,t.tx):=λhm=>by obtain⟨y,hy,ey⟩:=bL.1 hm;obtain⟨j,hj,Ln⟩:=Uw.1 hy;obtain⟨g1,g2⟩:=jC.1 Ln;refine hj ((List.getElem?_inj (by rw[dd];exact g1) h.tn).1 ?_);rw[kB,kB,hk,Ln];simp only[lJ,ey]
 unfold lA;cases ha:x.again with
 |false=>
  simp only[Cm,eQ];cases hr:bJ s.log x.tx with
  |none=>exact⟨h0,[],by simp,by simp,rfl,rfl⟩
  |some r=>
   simp only;rw[ha]at tL;exact⟨h0.sT (x:=⟨s.clock+3,false,x.tx⟩) tL (λz=>by cases z) (λ_=>h.tb x hx ha),[_],rfl,by simp,rfl,rfl⟩
 |true=>
  simp only[AR,gR,eY];cases hu:cX s.under x.tx with
  |none=>exact⟨h0,[],by simp,by simp,rfl,rfl⟩
  |some i=>
   simp only;obtain⟨u,hg,uX⟩:=tP hu;rw[hg];simp only;rw[ha]at tL
   suffices ao:∀ aX:Bool,∃ o,(gb {s with timers:=s.timers.eraseIdx k} u.ops λz k p=>
     if(!u.dec&& !(bP u k).isSome)=true then cA z {bq with kind:=2,to:=k,tx:=x.tx,ops:=p}
     else if(u.dec&&aX&& !u.bK.contains k)=true then cA z {bq with kind:=4,to:=k,tx:=x.tx,yes:=u.yes}
     else z)={s with timers:=s.timers.eraseIdx k,out:=s.out++o}/\o.length<=5 by
    cases hf:bF s.log 2 x.tx with
    |none=>
     obtain⟨o,e1,e2⟩:=ao (decide (-1<s.aX));simp only;rw[e1];exact⟨h0.sT (x:=⟨s.clock+4,true,x.tx⟩) tL (λ_=>h.ta x hx ha) (λz=>by cases z),o,rfl,e2,rfl,rfl⟩
    |some d=>
     obtain⟨o,e1,e2⟩:=ao (decide ((d:Int)<s.aX));simp only;rw[e1];exact⟨h0.sT (x:=⟨s.clock+4,true,x.tx⟩) tL (λ_=>h.ta x hx ha) (λz=>by cases z),o,rfl,e2,rfl,rfl⟩
   intro aX;obtain⟨o,e1,e2⟩:=PC (ops:=u.ops) (f:=λz k p=>
     if(!u.dec&& !(bP u k).isSome)=true then cA z {bq with kind:=2,to:=k,tx:=x.tx,ops:=p}
     else if(u.dec&&aX&& !u.bK.contains k)=true then cA z {bq with kind:=4,to:=k,tx:=x.tx,yes:=u.yes}
     else z) (λz k p=>by
      split
      ·exact⟨[_],rfl,fI _⟩
      split
      ·exact⟨[_],rfl,fI _⟩
      ·exact⟨[],by simp,by simp⟩) {s with timers:=s.timers.eraseIdx k}
   exact⟨o,e1,by simp only at e2;omega⟩
theorem Ke{c:Int}{L:List dR}:∀ (l:List dR) (i:Nat) (acc:Option (Nat×dR)),(∀ p,acc=some p->L[p.1]? =some p.2)->L.drop i=l->∀ p,jS c l i acc=some p->L[p.1]? =some p.2
 |[],_,_,ha,_,p,h=>ha p h
 |x::l,i,acc,ha,hd,p,h=>by
  unfold jS at h;refine Ke l (i+1) _ (λq hq=>?_) (by rw[<- NJ,hd];rfl) p h;generalize(decide (x.tm<=c)&&_)=z at hq;cases z with
  |true=>
   obtain rfl:=bY hq;have:(L.drop i)[0]? =some x:=by rw[hd];rfl
   simpa using this
  |false=>exact ha q hq
theorem y5:∀ (f:Nat) (s:ShR),lB t s->s.n<=4->lB t (iO f s)/\∃ o,(iO f s).out=s.out++o/\o.length<=5*f/\(iO f s).waits=s.waits
 |0,s,h,_=>⟨h,[],by simp[iO],by simp,rfl⟩
 |f+1,s,h,hn=>by
  unfold iO;cases hd:jS s.clock s.timers 0 none with
  |none=>exact⟨h,[],by simp,by simp,rfl⟩
  |some p=>
   obtain⟨k,x⟩:=p;simp only;have hk:=Ke s.timers 0 none (L:=s.timers) (by simp) rfl _ hd;obtain⟨h1,o1,e1,e2,e3,e4⟩:=S1 h hk hn;obtain⟨h2,o2,f1,f2,f3⟩:=y5 f _ h1 (by rw[e4];exact hn);exact⟨h2,o1++o2,by rw[f1,e1];simp,by rw[ji];omega,by rw[f3,e3]⟩
theorem FA(h:lB t s)(hn:s.n<=4)(ht:s.timers.length<=120):lB (t+1) (qM s)/\∃ o,(qM s).out=s.out++o/\o.length<=605/\(qM s).waits=s.waits:=by unfold qM;simp only;have h1:lB (t+1) {s with clock:=s.clock+1}:={i4.mono h (mP t)with ck:=by{have:=h.ck;show 0<=s.clock+1/\s.clock+1<=((t+1:Nat):Int);omega}};obtain⟨h2,o,e1,e2,e3⟩:=y5 (sk {s with clock:=s.clock+1}+1) {s with clock:=s.clock+1} h1 hn;refine⟨h2,o,e1,?_,e3⟩;have:sk {s with clock:=s.clock+1}<=s.timers.length:=pN ..;omega
def ss(l:List ShR):Nat:=(l.map λs=>ws s.waits).sum
structure jf(t:Nat)(w:WR):Prop where
 sh:∀ s∈w.sh,lB t s
 phi:ws w.aF+ss w.sh<=300000
theorem y6:∀ {l:List ShR} {a:Nat} {s:ShR} (x:ShR),l[a]? =some s->ss (l.set a x)+ws s.waits=ss l+ws x.waits
 |y::l,0,s,x,h=>by
  obtain rfl:y=s:=by simpa using h
  simp[ss];omega
 |y::l,a+1,s,x,h=>by have:=y6 (l:=l) x (by simpa using h);simp only[xb];simp only[ss,iJ,List.sum_cons]at this⊢;omega
theorem C4{c:Nat}:∀ {l:List ShR},(∀ s∈l,ws s.waits<=c)->ss l<=l.length*c
 |[],_=>by simp[ss]
 |s::l,h=>by have h1:=C4 (l:=l) λx hx=>h x (gu _ hx);have h2:=h s (iI ..);simp only[ss,iJ,List.sum_cons,jd,qb]at h1⊢;omega
variable{W:WP}{w:WR}
theorem jf.size(I:jf t w)(H:gw W w){s:ShR}(hs:s∈w.sh):y4 t s/\0<=s.aX/\s.aX<=s.log.length/\s.n=w.sh.length/\s.out=[]:=by obtain⟨i,hi⟩:=ov hs;obtain⟨dI,_⟩:=jC.1 hi;obtain⟨P,R,h1,h2,h3,h4,h5⟩:=H.Kc i dI;rw[hi]at h2;obtain rfl:=bY h2;exact⟨aaM h3 H.tok (by have:=H.n;omega) (I.sh _ hs),h3.gl.1,h3.gl.2,h3.n2,h5⟩
theorem jf.waits(I:jf t w)(H:gw W w):ss w.sh<=216000:=by
 have h1:∀ s∈w.sh,ws s.waits<=54000:=λs hs=>by have:=(I.size H hs).1.waits;have:=(BA s.waits).2;omega
 have:=C4 h1;have:=H.n;have:w.sh.length*54000<=4*54000:=tu _ ak;omega
theorem jf.mono(I:jf t w):jf (t+1) w:=⟨λs hs=>i4.mono (I.sh s hs) (mP t),I.phi⟩
theorem jf.push(I:jf t w)(H:gw W w)(hb:w.aF.length<400)(m:MsgR){aL:List TxR}:jf (t+1) {w with aF:=w.aF++[m],aL:=aL}:=by refine⟨I.mono.sh,?_⟩;have h1:=I.waits H;have h2:=(BA w.aF).2;have h3:=Pw m;show ws (w.aF++[m])+ss w.sh<=_;rw[CY,Py];omega
theorem jf.vS(I:jf t w){a:Nat}{s x:ShR}(ha:w.sh[a]? =some s)(hi:lB (t+1) x)(ad8:ws w.aF+ws x.out+ss w.sh+ws x.waits<=300000+ws s.waits):jf (t+1) (lQ w a x):=by
 refine⟨λy hy=>?_,?_⟩
 ·rcases fT hy with z|rfl
  ·exact I.mono.sh y z
  ·exact hi
 ·have:=y6 (l:=w.sh) {x with out:=[]} ha;show ws (w.aF++x.out)+ss (w.sh.set a {x with out:=[]})<=_;rw[CY];simp only at this;omega
theorem HU(I:jf t w)(H:gw W w)(hb:w.aF.length<400)(tx:Nat):jf (t+1) (mZ w tx):=by
 unfold mZ;split
 ·exact I.mono
 ·exact I.push H hb _
theorem FB(I:jf t w)(H:gw W w)(ops:List cy):jf (t+1) (eM w ops).1:=by
 unfold eM;split
 ·exact I.mono
 split
 ·exact I.mono
 split
 ·exact I.mono
 ·rename_i h;dsimp only;unfold mZ;simp only[VT (fI _),AW,R6];exact I.push H ak _
theorem FC:∀ {l:List MsgR} {i:Nat} {m:MsgR},l[i]? =some m->ws (l.eraseIdx i)+wt m=ws l
 |x::l,0,m,h=>by
  obtain rfl:x=m:=by simpa using h
  simp[ws];omega
 |x::l,i+1,m,h=>by have:=FC (l:=l) (i:=i) (by simpa using h);simp only[ND];simp only[ws,iJ,List.sum_cons]at this⊢;omega
theorem C5(I:jf t w)(H:gw W w)(k i:Int):jf (t+1) (cV w k i).1:=by
 unfold cV;by_cases c1:i<0\/(w.aF.length:Int)<=i
 ·rw[aK c1];exact I.mono
 rw[aq c1];cases hm:w.aF[i.toNat]? with
 |none=>exact I.mono
 |some m=>
  dsimp only;by_cases c2:k=4
  ·rw[aK c2];by_cases c3:400<=w.aF.length
   ·rw[aK c3];exact I.mono
   rw[aq c3];exact I.push H ak m
  rw[aq c2];have he:=FC hm;have I1:jf t {w with aF:=w.aF.eraseIdx i.toNat}:=⟨I.sh,by have:=I.phi;show ws (w.aF.eraseIdx _)+ss w.sh<=_;omega⟩;by_cases c3:k=3
  ·rw[aK c3];exact I1.mono
  rw[aq c3];by_cases c4:m.to= -1
  ·rw[aK c4,Fv];exact⟨I1.mono.sh,I1.phi⟩
  rw[aq c4];cases hs:w.sh[m.to.toNat]? with
  |none=>exact I1.mono
  |some s=>
   dsimp only;by_cases c5:s.up=true
   ·rw[aK c5];have eT:=eS hs;have hz:=I.size H eT;have hT:=Fy (m:=m) (I.sh s eT) (by rw[hz.2.2.2.1];have:=H.n;omega);obtain⟨o,x,e1,e2,e3,e4⟩:=hT.o;refine I1.vS hs hT.inv ?_;rw[e1,e2,hz.2.2.2.2,eZ,CY];have:=I.phi;show ws (w.aF.eraseIdx _)+ws o+ss w.sh+(ws s.waits+ws x)<=_;omega
   ·rw[aq c5];exact I1.mono
theorem S2(I:jf t w)(H:gw W w)(k a b:Int):jf (t+1) (ny w k a b).1:=by
 unfold ny;by_cases c1:k<1\/8<k
 ·rw[aK c1];exact I.mono
 rw[aq c1];by_cases c2:w.aj=true
 ·rw[aK c2];exact I.mono
 rw[aq c2];by_cases c3:k=1
 ·rw[aK c3];by_cases d1:a<0\/(w.aL.length:Int)<=a
  ·rw[aK d1];exact I.mono
  rw[aq d1];by_cases d2:400<=w.aF.length
  ·rw[aK d2];exact I.mono
  rw[aq d2];exact HU I H ak _
 rw[aq c3];by_cases c4:k<=4
 ·rw[aK c4];exact C5 I H k a
 rw[aq c4];by_cases c5:a<0\/(w.sh.length:Int)<=a
 ·rw[aK c5];exact I.mono
 rw[aq c5];have dI:a.toNat<w.sh.length:=ak;obtain⟨P,R,h1,h2,h3,h4,h5⟩:=H.Kc a.toNat dI;have eT:=eS h2;have hz:=I.size H eT;have ad8:=I.phi;rw[h2];dsimp only;by_cases c6:k=8
 ·rw[aK c6];by_cases d1:R.up=true
  ·rw[aK d1];exact I.mono
  rw[aq d1];have hr:=Fz (I.sh R eT) hz.2.2.1;refine⟨λy hy=>?_,?_⟩
  ·rcases fT hy with z|rfl
   ·exact I.mono.sh y z
   ·exact hr
  ·have hw:(dU R).waits=[]:=by unfold dU;obtain⟨a,b,e⟩:=m6 R.log (eR {R with up:=true}) R.log.length;simp only[e];rfl
   have:=y6 (l:=w.sh) (dU R) h2;rw[hw,CZ]at this;show ws w.aF+ss (w.sh.set _ _)<=_;omega
 rw[aq c6];by_cases c7:(!R.up)=true
 ·rw[aK c7];exact I.mono
 rw[aq c7];by_cases c8:k=5
 ·rw[aK c8];refine I.vS h2 (PB (I.sh R eT)) ?_;show ws w.aF+ws (R.out++R.waits)+_+ws []<=_;rw[h5,eZ,CZ];omega
 rw[aq c8];by_cases c9:k=6
 ·rw[aK c9];by_cases d1:150<w.aF.length
  ·rw[aK d1];exact I.mono
  rw[aq d1];obtain⟨g1,o,g2,g3,g4⟩:=FA (I.sh R eT) (by rw[hz.2.2.2.1];have:=H.n;omega) hz.1.timers;refine I.vS h2 g1 ?_;rw[g2,g4,h5,eZ];have e1:=I.waits H;have e2:=(BA w.aF).2;have e3:=(BA o).2;omega
 rw[aq c9];refine I.vS h2 (Lo (I.sh R eT) ⟨hz.2.1,hz.2.2.1⟩ b) ?_;show ws w.aF+ws R.out+_+ws []<=_;rw[h5,CZ];omega
theorem S3{n:Int}:jf 0 (qg n):=by
 refine⟨λs hs=>?_,?_⟩
 ·obtain⟨k,_,rfl⟩:=bL.1 hs;exact i4.fresh .nil (sD _)
 ·have:ss (qg n).sh<=(qg n).sh.length*0:=C4 λs hs=>by obtain⟨k,_,rfl⟩:=bL.1 hs;exact fI _
  show 0+_<=_;omega
theorem gw.PD(H:gw W w){m:MsgR}(hm:m∈w.aF):(∀ o∈m.ops,97<=o.k/\o.k<=122)/\m.ops.length<=6:=by
 obtain⟨ops,ho,hc⟩:=H.msg m hm;have hr:=H.tok.of ho;have h0:(∀ o∈ops,97<=o.k/\o.k<=122)/\ops.length<=6:=⟨λo h=>⟨(hr.1 o h).1,(hr.1 o h).2.1⟩,hr.2.2.2⟩;have hn:∀ l:List cy,l=[]->(∀ o∈l,97<=o.k/\o.k<=122)/\l.length<=6:=λl h=>by subst h;simp
 rcases hc with h|h|h|h|h|h|h
 ·rw[h.2.2.2];exact h0
 ·rw[h.2.2.2];refine⟨λo ho=>h0.1 o (iU.1 ho).1,Hf (pN _ _) h0.2⟩
 ·exact hn _ h.2.2.2.2
 ·exact hn _ h.2.2.2
 ·exact hn _ h.2.2.2
 ·exact hn _ h.2.2.2
 ·exact hn _ h.2.2
theorem gw.mto(H:gw W w){m:MsgR}(hm:m∈w.aF):(m.to= -1/\0<=m.tx/\m.tx<w.aL.length)\/(0<=m.to/\m.to<w.sh.length):=by
 obtain⟨ops,ho,hc⟩:=H.msg m hm;have hr:=H.tok.of ho;have hn:(0:Int)<w.sh.length:=by have:=H.n;omega
 have eL:ops≠[]:=by have:=hr.2.2.1;intro z;rw[z]at this;simp at this
 have hh:=lS hr hn (wL eL);rcases hc with h|h|h|h|h|h|h
 ·rw[h.2.2.1];exact .inr hh
 ·exact .inr (lS hr hn h.2.2.1)
 ·rw[h.2.1];exact .inr hh
 ·exact .inr (lS hr hn h.2.2.1)
 ·rw[h.2.1];exact .inr hh
 ·rw[h.2.1];exact .inr hh
 ·have:=oT ho;have e:=H.uW;refine .inl ⟨h.2.1,?_,?_⟩<;>omega
theorem jf.aF(I:jf t w):w.aF.length<=300000:=by have h1:=(BA w.aF).1;have h2:=I.phi;omega
theorem jf.take(I:jf t w)(H:gw W w){s:ShR}(hs:s∈w.sh){m:MsgR}(hm:m∈w.aF):(jF s m).out.length<=5:=by obtain⟨h1,_,_,h4,h5⟩:=I.size H hs;obtain⟨_,o,w',e1,_,e3,_⟩:=Fy (m:=m) (I.sh s hs) (by have:=H.n;omega);rw[e1,h5];simpa using e3
theorem gw.HW(H:gw W w){x:TxR}(hx:x∈w.aL):(∀ o∈x.ops,97<=o.k/\o.k<=122)/\x.ops.length<=6/\1<=x.ops.length:=by have hr:=H.tok.1 x.ops (by unfold lT;exact bL.2 ⟨x,hx,rfl⟩);exact⟨λo h=>⟨(hr.1 o h).1,(hr.1 o h).2.1⟩,hr.2.2.2,hr.2.2.1⟩
theorem gw.W2(H:gw W w):w.aL.length<=60:=by have:=H.tok.2;have e:=H.uW;omega
variable{φ:Int->Prop}
def uY(φ:Int->Prop)(l:List cy):Prop:=∀ o∈l,φ o.v
def l7(φ:Int->Prop)(l:List Int):Prop:=∀ x∈l,φ x
def Lp(φ:Int->Prop)(m:MsgR):Prop:=uY φ m.ops/\l7 φ m.reads
def S4(φ:Int->Prop)(r:RecR):Prop:=uY φ r.ops/\l7 φ r.reads
def W3(φ:Int->Prop)(u:gU):Prop:=uY φ u.ops/\∀ v∈u.aT,l7 φ v.reads
structure eW(φ:Int->Prop)(s:ShR):Prop where
 log:∀ r∈s.log,S4 φ r
 bH:l7 φ s.bH
 cq:∀ u∈s.under,W3 φ u
 waits:∀ m∈s.waits,Lp φ m
 out:∀ m∈s.out,Lp φ m
structure tR(φ:Int->Prop)(w:WR):Prop where
 sh:∀ s∈w.sh,eW φ s
 aF:∀ m∈w.aF,Lp φ m
 aL:∀ t∈w.aL,uY φ t.ops/\l7 φ t.reads
theorem uY.nil:uY φ []:=λ_ h=>by cases h
theorem l7.nil:l7 φ []:=λ_ h=>by cases h
theorem iW{A:Type}{p:A->Prop}{l:List A}{x:A}(h:∀ y∈l,p y)(hx:p x):∀ y∈l++[x],p y:=λy hy=>by
 rcases cg.1 hy with hy|hy
 ·exact h y hy
 ·obtain rfl:=dN.1 hy;exact hx
theorem m9{A:Type}{p:A->Prop}{l:List A}{i:Nat}{x:A}(h:∀ y∈l,p y)(hx:p x):∀ y∈l.set i x,p y:=λy hy=>by
 rcases fT hy with hy|rfl
 ·exact h y hy
 ·exact hx
theorem y7{A:Type}{p:A->Prop}{l:List A}{i:Nat}(h:∀ y∈l,p y):∀ y∈l.eraseIdx i,p y:=λy hy=>h y ((jM ..).mem hy)
theorem uY.part{l:List cy}(h:uY φ l)(k n:Int):uY φ (aY l k n):=λo ho=>h o (iU.1 ho).1
theorem eW.cA{s:ShR}(h:eW φ s){m:MsgR}(hm:Lp φ m):eW φ (cA s m):={h with out:=iW h.out hm}
theorem eW.eV{s:ShR}(h:eW φ s){m:MsgR}(hm:Lp φ m):eW φ (eV s m):={h with waits:=iW h.waits hm}
theorem eW.qq{s:ShR}(h:eW φ s)(t:List dR):eW φ {s with timers:=t}:={h with}
theorem eW.wrote{s:ShR}(h:eW φ s){r:RecR}(hr:S4 φ r):eW φ {s with log:=s.log++[r]}:={h with log:=iW h.log hr}
theorem eW.S5{s:ShR}(h:eW φ s)(i:Nat):S4 φ (s.log[i]?.getD eA):=by
 cases e:s.log[i]? with
 |none=>exact⟨.nil,.nil⟩
 |some r=>exact h.log r (eS e)
theorem eW.each{s:ShR}(h:eW φ s){ops:List cy}(ho:uY φ ops){f:ShR->Int->List cy->ShR}(hf:∀ z k p,eW φ z->uY φ p->eW φ (f z k p)):eW φ (gb s ops f):=by
 unfold gb;have key:∀ (l:List Int) (z:ShR) (n:Int),eW φ z->eW φ (l.foldl (λz k=>if(aY ops k n).isEmpty then z else f z k (aY ops k n)) z):=by
  intro l
  induction l with
  |nil=>intro z n hz;exact hz
  |cons k l ih=>
   intro z n hz;rw[ks];refine ih _ n ?_;split
   ·exact hz
   ·exact hf _ _ _ hz (ho.part k n)
 exact key _ _ _ h
theorem l7.seen{bH:List Int}(h0:φ 0)(h:l7 φ bH)(ops:List cy):l7 φ (g8 bH ops):=λx hx=>by
 obtain⟨o,_,rfl⟩:=bL.1 hx;cases e:bH[(o.k-97).toNat]? with
 |none=>exact h0
 |some v=>exact h v (eS e)
theorem l7.write:∀ {ops:List cy} {bH:List Int},l7 φ bH->uY φ ops->l7 φ (eH bH ops)
 |[],_,h,_=>h
 |o::l,bH,h,ho=>by
  show l7 φ (eH (if o.w then bH.set (o.k-97).toNat o.v else bH) l);refine l7.write ?_ λx hx=>ho x (gu _ hx);split
  ·exact m9 h (ho o (iI ..))
  ·exact h
theorem l7.eG{u:gU}(h0:φ 0)(h:∀ v∈u.aT,l7 φ v.reads)(n:Int):∀ (l:List cy) (used:Int->Nat),l7 φ (eG u n l used)
 |[],_=>.nil
 |o::l,used=>by
  unfold Go.Sl.eG;split
  ·exact l7.eG h0 h n l used
  ·intro x hx;rcases gq.1 hx with rfl|hx
   ·cases e:bP u (ie o.k n)with
    |none=>simpa using h0
    |some v=>
     simp only[lJ,kt];cases e2:v.reads[used (ie o.k n)]? with
     |none=>exact h0
     |some y=>exact h v (AV e) y (eS e2)
   ·exact l7.eG h0 h n l _ x hx
theorem eW.at{s:ShR}(h:eW φ s){i:Nat}{u:gU}(e:s.under[i]? =some u):W3 φ u:=h.cq u (eS e)
theorem PE{s:ShR}{m:MsgR}(h0:φ 0)(h:eW φ s)(hm:Lp φ m):eW φ (jF s m):=by
 unfold jF;split
 ·unfold l3;split
  ·split
   ·exact h.cA ⟨.nil,(h.S5 _).2⟩
   ·exact h
  ·split
   ·exact h
   ·refine eW.qq (eW.each (s:={s with under:=s.under++[⟨m.tx,m.ops,[],false,false,[]⟩]}) {h with cq:=iW h.cq ⟨hm.1,by simp⟩} hm.1 λz k p hz hp=>hz.cA ⟨hp,.nil⟩) _
 split
 ·unfold gJ;split
  ·split
   ·exact h.cA ⟨.nil,h.bH.seen h0 _⟩
   ·exact h
  ·split
   ·split
    ·exact h
    ·exact h.cA ⟨.nil,.nil⟩
   ·split
    ·exact h.cA ⟨.nil,.nil⟩
    ·exact eW.qq (eW.eV (s:={s with aH:=jl s.aH m.tx m.ops,log:=s.log++[{eA with kind:=1,tx:=m.tx,home:=m.aV,ops:=m.ops}]}) {h with log:=iW h.log ⟨hm.1,.nil⟩} ⟨.nil,h.bH.seen h0 _⟩) _
 split
 ·unfold pV;split
  ·exact h
  ·rename_i i _;split
   ·exact h
   ·rename_i u e;have hu:=h.at e;split
    ·exact h
    ·simp only;obtain⟨u1,Nb⟩:∃ u1,u1=(if(m.yes&& !(bP u m.aV).isSome)=true then({u with aT:=u.aT++[⟨m.aV,m.reads⟩]}:gU)else u):=⟨_,rfl⟩;rw[<- Nb];have h1:W3 φ u1:=by
      rw[Nb];split
      ·exact⟨hu.1,iW hu.2 hm.2⟩
      ·exact hu
     split
     ·exact{h with cq:=m9 h.cq h1}
     ·have i9:l7 φ (if m.yes=true then jH {u1 with dec:=true,yes:=m.yes} s.n else[]):=by
       split
       ·exact l7.eG (u:={u1 with dec:=true,yes:=m.yes}) h0 h1.2 _ _ _
       ·exact .nil
      refine eW.eV (eW.each (s:={s with under:=s.under.set i {u1 with dec:=true,yes:=m.yes},log:=s.log++[_]}) {h with cq:=m9 h.cq h1,log:=iW h.log ⟨.nil,i9⟩} h1.1 λz k p hz _=>hz.eV ⟨.nil,.nil⟩) ⟨.nil,i9⟩
 split
 ·unfold iN;split
  ·simp only;refine eW.eV ?_ ⟨.nil,.nil⟩;split
   ·exact{h with log:=iW h.log ⟨.nil,.nil⟩,bH:=h.bH.write (h.S5 _).1}
   ·exact{h with log:=iW h.log ⟨.nil,.nil⟩}
  ·split
   ·split
    ·exact h.cA ⟨.nil,.nil⟩
    ·exact h
   ·split
    ·exact h
    ·exact eW.eV (h.wrote ⟨.nil,.nil⟩) ⟨.nil,.nil⟩
 split
 ·unfold xo;split
  ·exact h
  ·split
   ·exact h
   ·rename_i u e;have hu:=h.at e;split
    ·exact h
    ·simp only;split
     ·exact{h with cq:=y7 h.cq}
     ·exact{h with cq:=m9 h.cq hu}
 split
 ·unfold xp;split
  ·split
   ·exact h.cA ⟨.nil,.nil⟩
   ·exact h
  ·split
   ·exact h
   ·exact eW.eV (h.wrote ⟨.nil,.nil⟩) ⟨.nil,.nil⟩
 ·exact h
theorem PF{s:ShR}(h:eW φ s):eW φ (yC s):=⟨h.log,h.bH,h.cq,λm hm=>(by cases hm),λm hm=>by
 rcases cg.1 hm with hm|hm
 ·exact h.out m hm
 ·exact h.waits m hm⟩
theorem S6{s:ShR}(h:eW φ s)(t:dR):eW φ (lA s t):=by
 unfold lA;split
 ·split
  ·exact eW.qq (h.cA ⟨.nil,.nil⟩) _
  ·exact h
 ·split
  ·exact h
  ·split
   ·exact h
   ·rename_i u e;have hu:=h.at e;refine eW.qq (eW.each h hu.1 λz k p hz hp=>?_) _
    repeat' split
    all_goals first|exact hz|exact hz.cA ⟨hp,l7.nil⟩|exact hz.cA ⟨uY.nil,l7.nil⟩
theorem y8:∀ (f:Nat) {s:ShR},eW φ s->eW φ (iO f s)
 |0,_,h=>h
 |f+1,s,h=>by
  unfold iO;split
  ·exact h
  ·exact y8 f (S6 (h.qq _) _)
theorem PG{s:ShR}(h:eW φ s):eW φ (qM s):=y8 _ {h with}
theorem BC(h0:φ 0):l7 φ il:=λx hx=>by rw[Ux hx];exact h0
theorem y9{s:ShR}(h0:φ 0)(h:eW φ s):eW φ (eR s):=⟨h.log,BC h0,by simp[eR],by simp[eR],h.out⟩
theorem Lq{s:ShR}(h0:φ 0)(h:eW φ s)(k:Int):eW φ (pw s k):=y9 h0 {h with log:=λr hr=>h.log r (NV hr)}
theorem za{log:List RecR}(hl:∀ r∈log,S4 φ r):∀ (i:Nat) {s:ShR},eW φ s->eW φ (dL log i s)
 |0,_,h=>h
 |i+1,s,h=>by
  have ih:=za hl i h;unfold dL;simp only;split
  ·exact ih
  ·split
   ·exact{ih with}
   ·split
    ·split
     ·rename_i p _;split
      ·refine{ih with bH:=ih.bH.write ?_};cases e:log[p]? with
       |none=>exact .nil
       |some r=>exact(hl r (eS e)).1
      ·exact{ih with}
     ·exact{ih with}
    ·exact ih
theorem FD{s:ShR}(h0:φ 0)(h:eW φ s):eW φ (dU s):=eW.qq (za h.log _ (y9 h0 (s:={s with up:=true}) {h with})) _
theorem S7(h0:φ 0)(n:Int):tR φ (qg n):=⟨λs hs=>by obtain⟨k,_,rfl⟩:=bL.1 hs;exact⟨by simp[ER,eR],BC h0,by simp[ER,eR],by simp[ER,eR],by simp[ER,eR]⟩,by simp[qg],by simp[qg]⟩
theorem BD{w:WR}(h:tR φ w)(tx:Nat):tR φ (mZ w tx):=by
 unfold mZ;split
 ·exact h
 ·rename_i t e;exact{h with aF:=iW h.aF ⟨(h.aL t (eS e)).1,.nil⟩}
theorem HX{w:WR}(h:tR φ w){ops:List cy}(ho:uY φ ops):tR φ (eM w ops).1:=by
 unfold eM;split
 ·exact h
 split
 ·exact h
 split
 ·exact h
 ·exact BD (w:={w with aL:=w.aL++[⟨ops,1,[]⟩]}) {h with aL:=iW h.aL ⟨ho,.nil⟩} _
theorem uZ{w:WR}(h:tR φ w){s:ShR}(hs:eW φ s)(a:Nat):tR φ (lQ w a s):=
 ⟨m9 h.sh {hs with out:=λm hm=>by cases hm},λm hm=>by
  rcases cg.1 hm with hm|hm
  ·exact h.aF m hm
  ·exact hs.out m hm,h.aL⟩
theorem FE{w:WR}(h0:φ 0)(h:tR φ w)(k i:Int):tR φ (cV w k i).1:=by
 unfold cV;split
 ·exact h
 split
 ·exact h
 ·rename_i m e;have hm:=h.aF m (eS e);have h1:tR φ {w with aF:=w.aF.eraseIdx i.toNat}:={h with aF:=y7 h.aF};split
  ·split
   ·exact h
   ·exact{h with aF:=iW h.aF hm}
  ·simp only;split
   ·exact h1
   ·split
    ·unfold qN;split
     ·exact h1
     ·rename_i t et;have ht:=h.aL t (eS et);split
      ·refine{h1 with aL:=m9 h1.aL ?_};split
       ·exact⟨ht.1,hm.2⟩
       ·exact ht
      ·exact h1
    ·split
     ·exact h1
     ·rename_i s es;split
      ·exact uZ h1 (PE h0 (h.sh s (eS es)) hm) _
      ·exact h1
theorem W4{w:WR}(h0:φ 0)(h:tR φ w)(k a b:Int):tR φ (ny w k a b).1:=by
 unfold ny;split
 ·exact h
 split
 ·exact h
 split
 ·split
  ·exact h
  split
  ·exact h
  ·exact BD h _
 split
 ·exact FE h0 h k a
 split
 ·exact h
 split
 ·exact h
 ·rename_i s es;have hs:=h.sh s (eS es);split
  ·split
   ·exact h
   ·exact{h with sh:=m9 h.sh (FD h0 hs)}
  split
  ·exact h
  split
  ·exact uZ h (PF hs) _
  split
  ·split
   ·exact h
   ·exact uZ h (PG hs) _
  ·exact uZ h (Lq h0 hs b) _
variable{P:bR}{ao:Bool}{B:j9}{R:Nat->aQ->Array Obj->Prop}{d:Nat}{As L:List HP}
variable{fn:bM}{kd:Kd}{n:Nat}{e:Nat->Value}{ds:List dW}{k:List Item}{cs:List Frame}
variable{ops:Array Oper}{i:Nat}{aa:List Nat}{ty:aR}{pos:String}{af:Array Edge}{gd:Option (Nat×Bool)}{x y:cU}{tt t2:aR}{kk kq:IntKind}{p q r:Int}
def Kf(op:BinOp)(kk:IntKind)(p q:Int):Option Int:=match op with
 |.and=>some (kk.wrap (BitVec.ofInt kk.bits p&&& BitVec.ofInt kk.bits q).toNat)
 |.xor=>some (kk.wrap (BitVec.ofInt kk.bits p^^^BitVec.ofInt kk.bits q).toNat)
 |_=>none
theorem ab.bt(C:ab P ao B R){op:BinOp}(ho:aZ ops i=some ⟨some t,.binOp op tt x y t2,ty,pos,af,gd⟩)(hr:Kf op kk p q=some r)(h:Nx R d As fn kd n e ds ops aa k cs t (.int kk r))
  (hx:ev n e x=.int kk p:=by rfl) (hy:ev n e y=.int kk q:=by rfl) (hw:aN ops n e gd=true:=by rfl):Nw R d As fn kd n e ds ops i aa k cs:=
 C.val ho hw (λB H d Q q'=>by
  unfold execOp;simp only[hx,hy];refine ah (ah (gH B H d _ ?_));cases op<;>simp only[Kf,x6]at hr<;>first|(cases hr;done)|skip
  all_goals(subst hr;unfold binOp;simp only[ne_eq,KM,eY,Op.intBits];exact q')) h
theorem ab.sl(C:ab P ao B R)(ho:aZ ops i=some ⟨some t,.binOp .shl tt x y t2,ty,pos,af,gd⟩)(hr:kk.wrap (p*2^min q.toNat kk.bits)=r)(h:Nx R d As fn kd n e ds ops aa k cs t (.int kk r))
  (hx:ev n e x=.int kk p:=by rfl) (hy:ev n e y=.int kq q:=by rfl) (h0:¬ q<0:=by first|decide|omega) (hw:aN ops n e gd=true:=by rfl):Nw R d As fn kd n e ds ops i aa k cs:=
 C.val ho hw (λB H d Q q'=>by unfold execOp;simp only[hx,hy];refine ah (ah (gH B H d _ ?_));unfold binOp Op.shift;simp only[aq h0,hr];exact q') h
theorem ab.sr(C:ab P ao B R)(ho:aZ ops i=some ⟨some t,.binOp .shr tt x y t2,ty,pos,af,gd⟩)(hr:p.fdiv (2^min q.toNat kk.bits)=r)(h:Nx R d As fn kd n e ds ops aa k cs t (.int kk r))
  (hx:ev n e x=.int kk p:=by rfl) (hy:ev n e y=.int kq q:=by rfl) (h0:¬ q<0:=by first|decide|omega) (hw:aN ops n e gd=true:=by rfl):Nw R d As fn kd n e ds ops i aa k cs:=
 C.val ho hw (λB H d Q q'=>by unfold execOp;simp only[hx,hy];refine ah (ah (gH B H d _ ?_));unfold binOp Op.shift;simp only[aq h0,hr];exact q') h
theorem ab.ixs(C:ab P ao B R){s:ByteArray}{b:UInt8}(hs:P.underlying tt=some .string)(ho:aZ ops i=some ⟨some t,.index tt x y,ty,pos,af,gd⟩)(hb:s[q.toNat]? =some b)(h0:0<=q)(h:Nx R d As fn kd n e ds ops aa k cs t (.int .u8 (b.toNat:Int)))
  (hx:ev n e x=.string s:=by rfl) (hy:ev n e y=.int kq q:=by rfl) (hw:aN ops n e gd=true:=by rfl):Nw R d As fn kd n e ds ops i aa k cs:=
 C.val ho hw (λB H d Q q'=>by unfold execOp;simp only[hx,hy,Instr.index,asIntOf];refine ah (ah (aA (ah (dE hs B H d _ ?_))));simp only[aK h0,hb];exact q') h
theorem HY(a:Nat)(h:a<2^64):IntKind.u64.wrap (a:Int)=a:=by simp only[IntKind.wrap,IntKind.bits,IntKind.signed,AQ,gR,false_and,eY];omega
theorem W5(a b:Nat)(ha:a<2^64)(hb:b<2^64):Kf .xor .u64 (a:Int) (b:Int)=some ((a^^^b:Nat):Int):=by
 have h:=NW ha hb;have e:(BitVec.ofInt 64 (a:Int)^^^BitVec.ofInt 64 (b:Int)).toNat=a^^^b:=by rw[Jr,Jr,BitVec.toNat_xor,Js,Js,x9 ha,x9 hb]
 show some (IntKind.u64.wrap ((BitVec.ofInt 64 (a:Int)^^^BitVec.ofInt 64 (b:Int)).toNat))=_;rw[e,HY _ h]
theorem ad9(a b:Nat)(ha:a<2^64)(hb:b<2^64):Kf .and .u64 (a:Int) (b:Int)=some ((a&&& b:Nat):Int):=by
 have h:=Nat.and_lt_two_pow a hb;have e:(BitVec.ofInt 64 (a:Int)&&& BitVec.ofInt 64 (b:Int)).toNat=a&&& b:=by rw[Jr,Jr,BitVec.toNat_and,Js,Js,x9 ha,x9 hb]
 show some (IntKind.u64.wrap ((BitVec.ofInt 64 (a:Int)&&& BitVec.ofInt 64 (b:Int)).toNat))=_;rw[e,HY _ h]
end
section
abbrev az(n:Int):Value:=.int .i64 n
theorem aP{p:Oper->Prop}{x:Option Oper}{o:Oper}(h:p o)(hx:x=some o:=by rfl):∃ o,x=some o/\p o:=⟨o,hx,h⟩
structure lC(q:Prop):Prop where d:q
theorem bI{p q:Prop}(h:q)(f:lC q->p:=by intro h;simp only[iT,eZ];exact h.d):p:=f ⟨h⟩
theorem pb{p q:Prop}(h:q)(f:lC q->p:=by intro h;simp only[eZ];exact h.d):p:=f ⟨h⟩
variable{P:bR}{ao:Bool}{B:j9}{R:Nat->aQ->Array Obj->Prop}{d:Nat}{As:List HP}{fn:bM}{kd:Kd}{n:Nat}{e:Nat->Value}{ds:List dW}{k:List Item}{cs:List Frame}
theorem ab.i5(C:ab P ao B R){ops:Array Oper}{i:Nat}{aa:List Nat}{t:Nat}{ty:aR}{pos:String}{af:Array Edge}{gd:Option (Nat×Bool)}{x y:cU}{tt t2:aR}{p q:Int}{op:BinOp}(m:Nat)(ho:aZ ops i=some ⟨some t,.binOp op tt x y t2,ty,pos,af,gd⟩)(h:Nx R d As fn kd n e ds ops aa k cs t (.int .i64 (m:Int)))
 (hx:ev n e x=.int .i64 p:=by rfl) (hy:ev n e y=.int .i64 q:=by rfl) (ha:arith op p q=some (m:Int):=by exact congrArg some (by omega)) (hr:IntKind.i64.wrap (m:Int)=(m:Int):=by exact pq (by omega) (by omega)) (hw:aN ops n e gd=true:=by rfl):Nw R d As fn kd n e ds ops i aa k cs:=C.ar ho h hx hy ha hr hw
theorem ab.cE(C:ab P ao B R){ops:Array Oper}{i:Nat}{aa:List Nat}{dst:Option Nat}{ty:aR}{pos:String}{af:Array Edge}{gd:Option (Nat×Bool)}{F:List HP}{f:bM}{fu:Func}{c:Code}{nf:Nat}[b:Body P f fu c nf]{fo:cU}{args:Array cU}{ga:Array aR}{vl:List Value}{A A1:List HP}{v0:Value}(hs:aB P ao B f vl.toArray A (λv As=>v=v0/\As=A1))(h:At R d (A1++F) (gr fn kd n (di e dst v0) ds (.inRegion ops aa::k) cs))
 (ho:aZ ops i=some ⟨dst,.call ⟨.value fo,args,ga⟩,ty,pos,af,gd⟩:=by rfl) (hv:args.toList.map (ev n e)=vl:=by rfl) (hf:ev n e fo=.func (.func f) #[] #[]:=by rfl) (hr:dJ A As F:=by exact dJ.au) (hw:aN ops n e gd=true:=by rfl):At R d As (gr fn kd n e ds (.inRegion ops (i::aa)::k) cs):=C.dk hs (λ_ _ q=>by obtain⟨rfl,rfl⟩:=q;exact h) ho hv hf hr hw
theorem ab.rgA(C:ab P ao B R){c:Code}{l:List Nat}(h:At R d As (gr fn kd n e ds (.inRegion (cO c) l::k) cs))(hc:ck c=.region:=by rfl)
 (hl:List.range (cO c).size=l:=by first|exact(rfl:[0]=_)|exact(rfl:[0,1]=_)|exact(rfl:[0,1,2]=_)|exact(rfl:[0,1,2,3]=_)|exact(rfl:[0,1,2,3,4]=_)|exact(rfl:[0,1,2,3,4,5]=_)|exact(rfl:[0,1,2,3,4,5,6]=_)|exact(rfl:[0,1,2,3,4,5,6,7]=_)|exact(rfl:[0,1,2,3,4,5,6,7,8]=_)|exact(rfl:[0,1,2,3,4,5,6,7,8,9]=_)|exact(rfl:[0,1,2,3,4,5,6,7,8,9,10]=_)|exact(rfl:[0,1,2,3,4,5,6,7,8,9,10,11]=_)|exact(rfl:[0,1,2,3,4,5,6,7,8,9,10,11,12]=_)|exact(rfl:[0,1,2,3,4,5,6,7,8,9,10,11,12,13]=_)|exact(rfl:[0,1,2,3,4,5,6,7,8,9,10,11,12,13,14]=_)|exact(rfl:[0,1,2,3,4,5,6,7,8,9,10,11,12,13,14,15]=_)|exact(rfl:[0,1,2,3,4,5,6,7,8,9,10,11,12,13,14,15,16]=_)|exact(rfl:[0,1,2,3,4,5,6,7,8,9,10,11,12,13,14,15,16,17]=_)|exact(rfl:[0,1,2,3,4,5,6,7,8,9,10,11,12,13,14,15,16,17,18]=_)|exact(rfl:[0,1,2,3,4,5,6,7,8,9,10,11,12,13,14,15,16,17,18,19]=_)|exact(rfl:[0,1,2,3,4,5,6,7,8,9,10,11,12,13,14,15,16,17,18,19,20]=_)|exact(rfl:[0,1,2,3,4,5,6,7,8,9,10,11,12,13,14,15,16,17,18,19,20,21]=_)|exact(rfl:[0,1,2,3,4,5,6,7,8,9,10,11,12,13,14,15,16,17,18,19,20,21,22]=_)|exact(rfl:[0,1,2,3,4,5,6,7,8,9,10,11,12,13,14,15,16,17,18,19,20,21,22,23]=_)):At R d As (gr fn kd n e ds (.code c::k) cs):=C.rg l h hc hl
variable{ops:Array Oper}{e0:Nat->Value}{D:List (Nat×Nat)}{W lr:List HP}{T:List Nat}{a:Nat}{S:List SE}{i:Nat}{is:List Nat}{t:Nat}{v:Value}
theorem Ch.m{f:Nat}{T':List Nat}(t:Nat){K:List SE}{As:List HP}(h:Nd R d fn kd n ds ops k cs e0 D W S (λK As=>Ch R d fn kd n ds ops k cs e0 D W f S (T'.erase t) (a-1) K As) t a K As)(hc:CD ops T'=[t]:=by rfl):Ch R d fn kd n ds ops k cs e0 D W (f+1) S T' a K As:=Ch.n1 hc h
theorem Ch.q{f:Nat}{T':List Nat}(i:Nat){K:List SE}{As:List HP}(h:∀ {As:List HP} {e:Nat->Value} {aa:List Nat},At R d As (gr fn kd n (put (mz e0 D ops i (K++S) e) t v) ds (.inRegion ops aa::k) cs)->At R d As (gr fn kd n (mz e0 D ops i (K++S) e) ds (.inRegion ops (i::aa)::k) cs))
 (k':Ch R d fn kd n ds ops k cs e0 D W f (⟨i,t,v,false⟩::S) (T'.erase i) a K As) (ho:∃ o,aZ ops i=some o/\o.dst=some t:=by exact⟨_,rfl,rfl⟩) (hi:i∈T':=by decide):Ch R d fn kd n ds ops k cs e0 D W (f+1) S T' a K As:=Ch.pu ho (λ_ _ _=>h) k' hi
theorem lU{A B:List HP}(h:bZ A B:=by exact bZ.au):Ho B A lr:=.of (λ_ s=>bZ.sat h s)
def FF(T:List Nat):Nat->Nat->List Nat
 |_,0=>[]
 |i,n+1=>match T.contains i with
  |true=>FF T (i+1) n
  |false=>i::FF T (i+1) n
def cm:Nat->Nat->Nat->List (Nat×Nat)
 |_,_,0=>[]
 |a,i,n+1=>(a,i)::cm (a+1) (i+1) n
theorem ab.wR{P:bR}{ao:Bool}{B:j9}(C:ab P ao B R){c:Code}(D:List (Nat×Nat))(m:Nat)(T:List Nat)(a:Nat)(h:Dr R d fn kd n ds (cO c) k cs e0 D W lr T a [] (FF T 0 m))(hc:ck c=.draw:=by rfl)(hr:sO (cO c) D T (FF T 0 m)=true:=by decide+kernel)(hn:lY (FF T 0 m)=true:=by rfl):At R d lr (gr fn kd n e0 ds (.code c::k) cs):=C.OV D _ T a h hc hr hn
theorem ab.dx{P:bR}{ao:Bool}{B:j9}(C:ab P ao B R){c:Code}(D:List (Nat×Nat))(m:Nat)(T:List Nat)(a:Nat)(h:Dr R d fn kd n ds (cO c) k cs e0 D lr lr T a [] (FF T 0 m))(hc:ck c=.draw:=by rfl)(hr:sO (cO c) D T (FF T 0 m)=true:=by decide+kernel)(hn:lY (FF T 0 m)=true:=by rfl):At R d lr (gr fn kd n e0 ds (.code c::k) cs):=C.wR D m T a h hc hr hn
theorem Dr.p(h:∀ {As:List HP} {e:Nat->Value} {aa:List Nat},At R d As (gr fn kd n (put (mz e0 D ops i S e) t v) ds (.inRegion ops aa::k) cs)->At R d As (gr fn kd n (mz e0 D ops i S e) ds (.inRegion ops (i::aa)::k) cs))
 (k':Dr R d fn kd n ds ops k cs e0 D W lr T a (⟨i,t,v,false⟩::S) is) (ho:∃ o,aZ ops i=some o/\o.dst=some t:=by exact⟨_,rfl,rfl⟩):Dr R d fn kd n ds ops k cs e0 D W lr T a S (i::is):=Dr.pu ho (λ_ _ _=>h) k'
theorem Dr.l(h:∀ {As:List HP} {e:Nat->Value} {aa:List Nat},Ext As W->At R d As (gr fn kd n (put (mz e0 D ops i S e) t v) ds (.inRegion ops aa::k) cs)->At R d As (gr fn kd n (mz e0 D ops i S e) ds (.inRegion ops (i::aa)::k) cs))
 (k':Dr R d fn kd n ds ops k cs e0 D W lr T a (⟨i,t,v,true⟩::S) is) (ho:∃ o,aZ ops i=some o/\o.dst=some t:=by exact⟨_,rfl,rfl⟩):Dr R d fn kd n ds ops k cs e0 D W lr T a S (i::is):=Dr.ld ho (λ_ x _ _=>h x) k'
def Vg(ops:Array Oper)(i:Nat):Nat:=match aZ ops i with
 |some ⟨_,op,_,_,_,g⟩=>(match g with
  |some _=>20
  |none=>match op with
   |.move _=>0
   |.assign _=>1
   |.fieldAddr _ _ _=>2
   |.load _ _=>3
   |.nilCheck _=>4
   |.pick _ _ _=>5
   |.binOp _ _ _ _ _=>6
   |.extract _ _=>7
   |.unOp _ _ _=>8
   |.call _=>9
   |.indexAddr _ _ _=>10
   |.build _ _=>11
   |.store _ _ _=>12
   |.convert _ _ _=>13
   |.makeInterface _ _=>14
   |_=>21)
 |none=>22
structure qTg(k:Nat)(p:Prop):Prop where d:p
theorem uk(k:Nat){p:Prop}(h:p):qTg k p:=⟨h⟩
variable{aa:List Nat}
theorem aeb(h:qTg t (At R d As (gr fn kd n e ds (.inRegion ops (i::aa)::k) cs)))(hk:Vg ops i=t:=by conv=>{lhs;whnf}):At R d As (gr fn kd n e ds (.inRegion ops (i::aa)::k) cs):=h.d
theorem aaN(h:qTg t (Dr R d fn kd n ds ops k cs e0 D W lr T a S (i::aa)))(hk:Vg ops i=t:=by conv=>{lhs;whnf}):Dr R d fn kd n ds ops k cs e0 D W lr T a S (i::aa):=h.d
theorem fy{p q:Prop}(h:q)(f:lC q->p:=by
 intro h
 first
 |(refine aeb ?_;first|(refine uk 0 ?_;refine C.mv rfl ?_)|(refine uk 1 ?_;refine C.lh rfl ?_)|(refine uk 2 ?_;refine C.fa rfl ?_)|(refine uk 3 ?_;first|refine C.ld rfl ?_|refine C.vz rfl ?_|refine C.YX rfl ?_|refine C.dG rfl ?_)|(refine uk 4 ?_;refine C.nc rfl ?_)|(refine uk 5 ?_;refine C.pk rfl ?_)|(refine uk 6 ?_;first|refine C.ar rfl ?_|refine C.Ld rfl ?_)|(refine uk 7 ?_;refine C.ext rfl ?_)|(refine uk 8 ?_;refine C.nt rfl ?_)|(refine uk 9 ?_;first|refine C.mW rfl ?_|refine C.Y1 rfl ?_)|(refine uk 10 ?_;refine C.dT rfl ?_)|(refine uk 11 ?_;refine C.bd rfl ?_)|(refine uk 12 ?_;first|refine C.st rfl ?_|refine C.po rfl ?_|refine C.HC rfl ?_)|(refine uk 13 ?_;refine C.cv rfl ?_)|(refine uk 14 ?_;refine C.mi rfl ?_)|(refine uk 20 ?_;first|refine C.no rfl ?_|refine C.mv rfl ?_|refine C.pk rfl ?_|refine C.ld rfl ?_|refine C.fa rfl ?_|refine C.nc rfl ?_|refine C.dT rfl ?_|refine C.nt rfl ?_|refine C.mW rfl ?_|refine C.vz rfl ?_|refine C.lh rfl ?_|refine C.ext rfl ?_|refine C.bd rfl ?_|refine C.dG rfl ?_|refine C.ar rfl ?_|refine C.st rfl ?_|refine C.YX rfl ?_|refine C.Y1 rfl ?_|refine C.po rfl ?_|refine C.HC rfl ?_|refine C.Ld rfl ?_|refine C.cv rfl ?_|refine C.mi rfl ?_))
 |refine C.rgA ?_
 |refine C.KY ?_
 |refine C.CA ?_
 |refine C.go ?_
 exact h.d):p:=f ⟨h⟩
theorem k6{p q:Prop}(h:q)(f:lC q->p:=by
 intro h;refine aaN ?_
 first|(refine uk 0 ?_;refine Dr.p (λh=>C.mv rfl h) ?_)|(refine uk 1 ?_;refine Dr.p (λh=>C.lh rfl h) ?_)|(refine uk 2 ?_;refine Dr.p (λh=>C.fa rfl h) ?_)|(refine uk 3 ?_;first|refine Dr.l (λhE h=>C.ld rfl h) ?_|refine Dr.l (λhE h=>C.vz rfl h) ?_|refine Dr.l (λhE h=>C.YX rfl h) ?_|refine Dr.l (λhE h=>C.dG rfl h) ?_)|(refine uk 4 ?_;refine Dr.p (λh=>C.nc rfl h) ?_)|(refine uk 5 ?_;refine Dr.p (λh=>C.pk rfl h) ?_)|(refine uk 6 ?_;refine Dr.p (λh=>C.ar rfl h) ?_)|(refine uk 7 ?_;refine Dr.p (λh=>C.ext rfl h) ?_)|(refine uk 8 ?_;refine Dr.p (λh=>C.nt rfl h) ?_)|(refine uk 9 ?_;first|refine Dr.l (λhE h=>C.mW rfl h) ?_|refine Dr.l (λhE h=>C.Y1 rfl h) ?_)|(refine uk 10 ?_;refine Dr.l (λhE h=>C.dT rfl h) ?_)|(refine uk 11 ?_;refine Dr.p (λh=>C.bd rfl h) ?_)|(refine uk 13 ?_;refine Dr.p (λh=>C.cv rfl h) ?_)|(refine uk 20 ?_;first|refine Dr.p (λh=>C.no rfl h) ?_|refine Dr.p (λh=>C.mv rfl h) ?_|refine Dr.p (λh=>C.pk rfl h) ?_|refine Dr.l (λhE h=>C.ld rfl h) ?_|refine Dr.p (λh=>C.fa rfl h) ?_|refine Dr.p (λh=>C.nc rfl h) ?_|refine Dr.l (λhE h=>C.dT rfl h) ?_|refine Dr.p (λh=>C.nt rfl h) ?_|refine Dr.l (λhE h=>C.mW rfl h) ?_|refine Dr.l (λhE h=>C.vz rfl h) ?_|refine Dr.p (λh=>C.lh rfl h) ?_|refine Dr.p (λh=>C.ext rfl h) ?_|refine Dr.p (λh=>C.bd rfl h) ?_|refine Dr.l (λhE h=>C.dG rfl h) ?_|refine Dr.p (λh=>C.ar rfl h) ?_|refine Dr.l (λhE h=>C.YX rfl h) ?_|refine Dr.l (λhE h=>C.Y1 rfl h) ?_|refine Dr.p (λh=>C.cv rfl h) ?_)
 exact h.d):p:=f ⟨h⟩
theorem bj{p q:Prop}(h:q)(f:lC q->p:=by intro h;(iterate 2 refine fy ?_);exact h.d):p:=f ⟨h⟩
theorem da{p q:Prop}(h:q)(f:lC q->p:=by intro h;(iterate 3 refine fy ?_);exact h.d):p:=f ⟨h⟩
theorem cN{p q:Prop}(h:q)(f:lC q->p:=by intro h;(iterate 4 refine fy ?_);exact h.d):p:=f ⟨h⟩
theorem cF{p q:Prop}(h:q)(f:lC q->p:=by intro h;(iterate 5 refine fy ?_);exact h.d):p:=f ⟨h⟩
theorem dm{p q:Prop}(h:q)(f:lC q->p:=by intro h;(iterate 6 refine fy ?_);exact h.d):p:=f ⟨h⟩
theorem dV{p q:Prop}(h:q)(f:lC q->p:=by intro h;(iterate 7 refine fy ?_);exact h.d):p:=f ⟨h⟩
theorem jL{p q:Prop}(h:q)(f:lC q->p:=by intro h;(iterate 8 refine fy ?_);exact h.d):p:=f ⟨h⟩
theorem ky{p q:Prop}(h:q)(f:lC q->p:=by intro h;(iterate 9 refine fy ?_);exact h.d):p:=f ⟨h⟩
theorem i6{p q:Prop}(h:q)(f:lC q->p:=by intro h;(iterate 10 refine fy ?_);exact h.d):p:=f ⟨h⟩
theorem k7{p q:Prop}(h:q)(f:lC q->p:=by intro h;(iterate 11 refine fy ?_);exact h.d):p:=f ⟨h⟩
theorem oW{p q:Prop}(h:q)(f:lC q->p:=by intro h;(iterate 12 refine fy ?_);exact h.d):p:=f ⟨h⟩
theorem zb{p q:Prop}(h:q)(f:lC q->p:=by intro h;(iterate 13 refine fy ?_);exact h.d):p:=f ⟨h⟩
theorem oX{p q:Prop}(h:q)(f:lC q->p:=by intro h;(iterate 14 refine fy ?_);exact h.d):p:=f ⟨h⟩
theorem jW{p q:Prop}(h:q)(f:lC q->p:=by intro h;(iterate 15 refine fy ?_);exact h.d):p:=f ⟨h⟩
theorem jy{p q:Prop}(h:q)(f:lC q->p:=by intro h;(iterate 2 refine k6 ?_);exact h.d):p:=f ⟨h⟩
theorem qs{p q:Prop}(h:q)(f:lC q->p:=by intro h;(iterate 3 refine k6 ?_);exact h.d):p:=f ⟨h⟩
theorem HZ{p q:Prop}(h:q)(f:lC q->p:=by intro h;(iterate 4 refine k6 ?_);exact h.d):p:=f ⟨h⟩
theorem Lr{p q:Prop}(h:q)(f:lC q->p:=by intro h;(iterate 5 refine k6 ?_);exact h.d):p:=f ⟨h⟩
theorem n7{p q:Prop}(h:q)(f:lC q->p:=by intro h;(iterate 6 refine k6 ?_);exact h.d):p:=f ⟨h⟩
theorem mB{p q:Prop}(h:q)(f:lC q->p:=by intro h;(iterate 7 refine k6 ?_);exact h.d):p:=f ⟨h⟩
theorem Eb{p q:Prop}(h:q)(f:lC q->p:=by intro h;(iterate 8 refine k6 ?_);exact h.d):p:=f ⟨h⟩
theorem S8{p q:Prop}(h:q)(f:lC q->p:=by intro h;(iterate 9 refine k6 ?_);exact h.d):p:=f ⟨h⟩
theorem gY{p q:Prop}(h:q)(f:lC q->p:=by intro h;(iterate 10 refine k6 ?_);exact h.d):p:=f ⟨h⟩
theorem k8{p q:Prop}(h:q)(f:lC q->p:=by intro h;refine bI ?_;refine fy ?_;exact h.d):p:=f ⟨h⟩
theorem jI{p q:Prop}(h:q)(f:lC q->p:=by intro h;refine bI ?_;(iterate 2 refine fy ?_);exact h.d):p:=f ⟨h⟩
theorem sX{p q:Prop}(h:q)(f:lC q->p:=by intro h;refine bI ?_;(iterate 4 refine fy ?_);exact h.d):p:=f ⟨h⟩
theorem sY{p q:Prop}(h:q)(f:lC q->p:=by intro h;refine bI ?_;(iterate 5 refine fy ?_);exact h.d):p:=f ⟨h⟩
theorem Ec{p q:Prop}(h:q)(f:lC q->p:=by intro h;refine bI ?_;(iterate 6 refine fy ?_);exact h.d):p:=f ⟨h⟩
theorem H0{p q:Prop}(h:q)(f:lC q->p:=by intro h;refine bI ?_;(iterate 7 refine fy ?_);exact h.d):p:=f ⟨h⟩
theorem Ls{p q:Prop}(h:q)(f:lC q->p:=by intro h;refine bI ?_;(iterate 8 refine fy ?_);exact h.d):p:=f ⟨h⟩
theorem Vh{p q:Prop}(h:q)(f:lC q->p:=by intro h;refine bI ?_;(iterate 9 refine fy ?_);exact h.d):p:=f ⟨h⟩
theorem ee{p q:Prop}(h:q)(f:lC q->p:=by intro h;refine Ch.fin ?_;refine fy ?_;exact h.d):p:=f ⟨h⟩
theorem oi{p q:Prop}(h:q)(f:lC q->p:=by intro h;refine Ch.fin ?_;(iterate 2 refine fy ?_);exact h.d):p:=f ⟨h⟩
theorem Nc{p q:Prop}(h:q)(f:lC q->p:=by intro h;refine Ch.fin ?_;(iterate 3 refine fy ?_);exact h.d):p:=f ⟨h⟩
theorem S9{p q:Prop}(h:q)(f:lC q->p:=by intro h;refine Ch.fin ?_;(iterate 4 refine fy ?_);exact h.d):p:=f ⟨h⟩
theorem vT{p q:Prop}(h:q)(f:lC q->p:=by intro h;refine Ch.fin ?_;(iterate 5 refine fy ?_);exact h.d):p:=f ⟨h⟩
theorem Nf{p q:Prop}(h:q)(f:lC q->p:=by intro h;refine Ch.fin ?_;(iterate 6 refine fy ?_);exact h.d):p:=f ⟨h⟩
theorem Lt{p q:Prop}(h:q)(f:lC q->p:=by intro h;refine Ch.fin ?_;(iterate 7 refine fy ?_);exact h.d):p:=f ⟨h⟩
theorem PH{p q:Prop}(h:q)(f:lC q->p:=by intro h;refine Ch.fin ?_;(iterate 8 refine fy ?_);exact h.d):p:=f ⟨h⟩
theorem wS{p q:Prop}(h:q)(f:lC q->p:=by intro h;refine k6 ?_;refine Dr.chain rfl ?_;exact h.d):p:=f ⟨h⟩
theorem xr{p q:Prop}(h:q)(f:lC q->p:=by intro h;(iterate 2 refine k6 ?_);refine Dr.chain rfl ?_;exact h.d):p:=f ⟨h⟩
theorem G7{p q:Prop}(h:q)(f:lC q->p:=by intro h;(iterate 4 refine k6 ?_);refine Dr.chain rfl ?_;exact h.d):p:=f ⟨h⟩
theorem PI{p q:Prop}(h:q)(f:lC q->p:=by intro h;(iterate 5 refine k6 ?_);refine Dr.chain rfl ?_;exact h.d):p:=f ⟨h⟩
theorem Ng{p q:Prop}(h:q)(f:lC q->p:=by intro h;(iterate 7 refine k6 ?_);refine Dr.chain rfl ?_;exact h.d):p:=f ⟨h⟩
theorem Lu{p q:Prop}(h:q)(f:lC q->p:=by intro h;(iterate 8 refine k6 ?_);refine Dr.chain rfl ?_;exact h.d):p:=f ⟨h⟩
theorem Nh{p q:Prop}(h:q)(f:lC q->p:=by intro h;(iterate 9 refine k6 ?_);refine Dr.chain rfl ?_;exact h.d):p:=f ⟨h⟩
theorem C6{p q:Prop}(h:q)(f:lC q->p:=by intro h;(iterate 10 refine k6 ?_);refine Dr.chain rfl ?_;exact h.d):p:=f ⟨h⟩
theorem H4{p q:Prop}(h:q)(f:lC q->p:=by intro h;(iterate 11 refine k6 ?_);refine Dr.chain rfl ?_;exact h.d):p:=f ⟨h⟩
theorem Ta{p q:Prop}(h:q)(f:lC q->p:=by intro h;(iterate 12 refine k6 ?_);refine Dr.chain rfl ?_;exact h.d):p:=f ⟨h⟩
theorem Lv{p q:Prop}(h:q)(f:lC q->p:=by intro h;(iterate 13 refine k6 ?_);refine Dr.chain rfl ?_;exact h.d):p:=f ⟨h⟩
theorem Tb{p q:Prop}(h:q)(f:lC q->p:=by intro h;(iterate 14 refine k6 ?_);refine Dr.chain rfl ?_;exact h.d):p:=f ⟨h⟩
open Go.Proofs
abbrev aM(i:Nat)(f:Func)(n:Nat):=Body prog i f ((f.body).getD .skip) n
abbrev ef:=Fl prog
abbrev ll:=Cz prog
abbrev j6:=Ag prog
abbrev Az:=El prog
abbrev C7:=Bz prog
abbrev Tc:=Pt prog
abbrev Vi:=Mp prog
theorem cY{i n:Nat}{f:Func}(h:prog.funcs[i]? =some f)(h1:(f.name== "runtime.NumGoroutine")=false:=by rfl)(h2:f.body=some ((f.body).getD .skip):=by rfl)(h3:f.ntmps=n:=by rfl):aM i f n:=⟨h,h1,h2,h3⟩
theorem eg{s f o z t:Nat}{fs:Array Field}{fl:Field}{i:TypeInfo}(h1:prog.underlying s=some (.struct fs))(h2:prog.types[t]? =some i)(h3:fs[f]? =some fl:=by rfl)(h4:fl.offset=o:=by rfl)(h5:fl.type=t:=by rfl)(h6:i.size=z:=by rfl)(h7:z≠0:=by decide):ef s f o:=⟨fs,fl,z,h1,h3,h4,⟨i,h5▸ay h2,h6⟩,h7⟩
theorem eJ{f:Field}{l:List Field}{m:List (Nat×Nat)}{o z t:Nat}{i:TypeInfo}(h2:prog.types[t]? =some i)(r:US prog l m)(h4:f.offset=o:=by rfl)(h5:f.type=t:=by rfl)(h6:i.size=z:=by rfl):US prog (f::l) ((o,z)::m):=.cons h4 ⟨i,h5▸ay h2,h6⟩ r
instance:ll 3 1:=⟨_,ay type3,rfl⟩
instance:C7 3 8:=⟨_,ay type3,rfl⟩
instance:Zv prog 3 (.int .i64 0):=⟨_,ay type3,rfl⟩
instance:j6 3 false:=⟨_,underlying3,rfl⟩
instance:Ik prog 3 IntKind.i64:=⟨underlying3⟩
instance:ll 4 1:=⟨_,ay type4,rfl⟩
instance:j6 4 false:=⟨_,underlying4,rfl⟩
instance:j6 5 false:=⟨_,underlying5,rfl⟩
instance:Ik prog 5 IntKind.u8:=⟨underlying5⟩
instance:j6 9 false:=⟨_,underlying9,rfl⟩
instance:ll 21 1:=⟨_,ay type21,rfl⟩
instance:C7 21 4:=⟨_,ay type21,rfl⟩
instance:Zv prog 21 (.int .i32 0):=⟨_,ay type21,rfl⟩
instance:j6 21 false:=⟨_,underlying21,rfl⟩
instance:Ik prog 21 IntKind.i32:=⟨underlying21⟩
instance:Az 22 29:=⟨underlying22⟩
instance:ll 23 1:=⟨_,ay type23,rfl⟩
instance:Zv prog 23 (.pointer none):=⟨_,ay type23,rfl⟩
instance:j6 23 false:=⟨_,underlying23,rfl⟩
instance:Tc 23 92:=⟨underlying23⟩
instance:j6 27 false:=⟨_,underlying27,rfl⟩
instance:Az 27 63:=⟨underlying27⟩
instance:ll 29 6:=⟨_,ay type29,rfl⟩
instance:j6 29 true:=⟨_,underlying29,rfl⟩
instance:ef 29 0 0:=eg underlying29 type3
instance:ef 29 1 1:=eg underlying29 type3
instance:ef 29 2 2:=eg underlying29 type3
instance:ef 29 3 3:=eg underlying29 type3
instance:ef 29 4 4:=eg underlying29 type3
instance:ef 29 5 5:=eg underlying29 type27
instance:j6 30 false:=⟨_,underlying30,rfl⟩
instance:Tc 30 53:=⟨underlying30⟩
instance:ll 36 1:=⟨_,ay type36,rfl⟩
instance:Zv prog 36 (.slice none 0 0):=⟨_,ay type36,rfl⟩
instance:j6 36 false:=⟨_,underlying36,rfl⟩
instance:Az 36 67:=⟨underlying36⟩
instance:ll 46 1:=⟨_,ay type46,rfl⟩
instance:Zv prog 46 (.nilIface):=⟨_,ay type46,rfl⟩
instance:j6 46 false:=⟨_,underlying46,rfl⟩
instance:ll 49 1:=⟨_,ay type49,rfl⟩
instance:j6 49 false:=⟨_,underlying49,rfl⟩
instance:Az 49 54:=⟨underlying49⟩
instance:ll 50 1:=⟨_,ay type50,rfl⟩
instance:j6 50 false:=⟨_,underlying50,rfl⟩
instance:Az 50 137:=⟨underlying50⟩
instance:ll 51 1:=⟨_,ay type51,rfl⟩
instance:j6 51 false:=⟨_,underlying51,rfl⟩
instance:Az 51 71:=⟨underlying51⟩
instance:Zv prog 53 (.agg #[.slice none 0 0,.slice none 0 0,.slice none 0 0,.bool false]):=⟨_,ay type53,rfl⟩
instance:Bd prog 53 [(0,1),(1,1),(2,1),(3,1)]:=⟨_,underlying53,eJ type49 (eJ type50 (eJ type51 (eJ type4 .nil)))⟩
instance:ef 53 0 0:=eg underlying53 type49
instance:ef 53 1 1:=eg underlying53 type50
instance:ef 53 2 2:=eg underlying53 type51
instance:ef 53 3 3:=eg underlying53 type4
instance:ll 54 1:=⟨_,ay type54,rfl⟩
instance:C7 54 8:=⟨_,ay type54,rfl⟩
instance:Zv prog 54 (.pointer none):=⟨_,ay type54,rfl⟩
instance:j6 54 false:=⟨_,underlying54,rfl⟩
instance:Tc 54 61:=⟨underlying54⟩
instance:ll 55 1:=⟨_,ay type55,rfl⟩
instance:j6 55 false:=⟨_,underlying55,rfl⟩
instance:Az 55 247:=⟨underlying55⟩
instance:ll 56 1:=⟨_,ay type56,rfl⟩
instance:j6 56 false:=⟨_,underlying56,rfl⟩
instance:Az 56 3:=⟨underlying56⟩
instance:ll 57 1:=⟨_,ay type57,rfl⟩
instance:j6 57 false:=⟨_,underlying57,rfl⟩
instance:Az 57 258:=⟨underlying57⟩
instance:ll 58 1:=⟨_,ay type58,rfl⟩
instance:j6 58 false:=⟨_,underlying58,rfl⟩
instance:Az 58 287:=⟨underlying58⟩
instance:ll 59 1:=⟨_,ay type59,rfl⟩
instance:j6 59 false:=⟨_,underlying59,rfl⟩
instance:Az 59 251:=⟨underlying59⟩
instance:Zv prog 61 (.agg #[.int .i64 0,.int .i64 0,.bool false,.slice none 0 0,.int .i64 0,.slice none 0 0,.slice none 0 0,.slice none 0 0,.slice none 0 0,.slice none 0 0,.int .i64 0,.slice none 0 0]):=⟨_,ay type61,rfl⟩
instance:Bd prog 61 [(0,1),(1,1),(2,1),(3,1),(4,1),(5,1),(6,1),(7,1),(8,1),(9,1),(10,1),(11,1)]:=⟨_,underlying61,eJ type3 (eJ type3 (eJ type4 (eJ type55 (eJ type3 (eJ type56 (eJ type57 (eJ type58 (eJ type59 (eJ type50 (eJ type3 (eJ type50 .nil)))))))))))⟩
instance:ef 61 0 0:=eg underlying61 type3
instance:ef 61 1 1:=eg underlying61 type3
instance:ef 61 2 2:=eg underlying61 type4
instance:ef 61 3 3:=eg underlying61 type55
instance:ef 61 4 4:=eg underlying61 type3
instance:ef 61 5 5:=eg underlying61 type56
instance:ef 61 6 6:=eg underlying61 type57
instance:ef 61 7 7:=eg underlying61 type58
instance:ef 61 8 8:=eg underlying61 type59
instance:ef 61 9 9:=eg underlying61 type50
instance:ef 61 10 10:=eg underlying61 type3
instance:ef 61 11 11:=eg underlying61 type50
instance:ll 63 3:=⟨_,ay type63,rfl⟩
instance:C7 63 24:=⟨_,ay type63,rfl⟩
instance:Zv prog 63 (.agg #[.bool false,.int .i64 0,.int .i64 0]):=⟨_,ay type63,rfl⟩
instance:j6 63 true:=⟨_,underlying63,rfl⟩
instance:Bd prog 63 [(0,1),(1,1),(2,1)]:=⟨_,underlying63,eJ type4 (eJ type3 (eJ type3 .nil))⟩
instance:ef 63 0 0:=eg underlying63 type4
instance:ef 63 1 1:=eg underlying63 type3
instance:ef 63 2 2:=eg underlying63 type3
instance:ll 67 3:=⟨_,ay type67,rfl⟩
instance:C7 67 8:=⟨_,ay type67,rfl⟩
instance:Zv prog 67 (.agg #[.bool false,.int .u8 0,.int .i32 0]):=⟨_,ay type67,rfl⟩
instance:j6 67 true:=⟨_,underlying67,rfl⟩
instance:Bd prog 67 [(0,1),(1,1),(2,1)]:=⟨_,underlying67,eJ type4 (eJ type5 (eJ type21 .nil))⟩
instance:ef 67 0 0:=eg underlying67 type4
instance:ef 67 1 1:=eg underlying67 type5
instance:ef 67 2 2:=eg underlying67 type21
instance:ll 71 3:=⟨_,ay type71,rfl⟩
instance:C7 71 56:=⟨_,ay type71,rfl⟩
instance:Zv prog 71 (.agg #[.slice none 0 0,.int .i64 0,.slice none 0 0]):=⟨_,ay type71,rfl⟩
instance:Bd prog 71 [(0,1),(1,1),(2,1)]:=⟨_,underlying71,eJ type27 (eJ type3 (eJ type56 .nil))⟩
instance:ef 71 0 0:=eg underlying71 type27
instance:ef 71 1 1:=eg underlying71 type3
instance:ef 71 2 2:=eg underlying71 type56
instance:ll 75 1:=⟨_,ay type75,rfl⟩
instance:Ik prog 75 IntKind.u32:=⟨underlying75⟩
instance:ll 77 2:=⟨_,ay type77,rfl⟩
instance:ef 77 0 0:=eg underlying77 type21
instance:ef 79 1 0:=eg underlying79 type77
instance:ll 80 1:=⟨_,ay type80,rfl⟩
instance:j6 80 false:=⟨_,underlying80,rfl⟩
instance:Az 80 114:=⟨underlying80⟩
instance:ll 81 1:=⟨_,ay type81,rfl⟩
instance:Zv prog 81 (.slice none 0 0):=⟨_,ay type81,rfl⟩
instance:j6 81 false:=⟨_,underlying81,rfl⟩
instance:Az 81 190:=⟨underlying81⟩
instance:ll 82 1:=⟨_,ay type82,rfl⟩
instance:j6 82 false:=⟨_,underlying82,rfl⟩
instance:Az 82 126:=⟨underlying82⟩
instance:j6 83 false:=⟨_,underlying83,rfl⟩
instance:Ik prog 86 IntKind.u64:=⟨underlying86⟩
instance:ef 88 2 0:=eg underlying88 type86
instance:ll 90 2:=⟨_,ay type90,rfl⟩
instance:ef 90 1 0:=eg underlying90 type88
instance:ef 90 2 1:=eg underlying90 type75
instance:Zv prog 92 (.agg #[.int .i32 0,.int .u32 0,.slice none 0 0,.slice none 0 0,.slice none 0 0,.chan none,.bool false,.int .u64 0,.int .u32 0]):=⟨_,ay type92,rfl⟩
instance:Bd prog 92 [(0,2),(2,1),(3,1),(4,1),(5,1),(6,1),(7,2)]:=⟨_,underlying92,eJ type79 (eJ type80 (eJ type81 (eJ type82 (eJ type83 (eJ type4 (eJ type90 .nil))))))⟩
instance:ef 92 0 0:=eg underlying92 type79
instance:ef 92 1 2:=eg underlying92 type80
instance:ef 92 2 3:=eg underlying92 type81
instance:ef 92 3 4:=eg underlying92 type82
instance:ef 92 4 5:=eg underlying92 type83
instance:ef 92 5 6:=eg underlying92 type4
instance:ef 92 6 7:=eg underlying92 type90
instance:ll 94 1:=⟨_,ay type94,rfl⟩
instance:j6 94 false:=⟨_,underlying94,rfl⟩
instance:Az 94 150:=⟨underlying94⟩
instance:Zv prog 96 (.agg #[.slice none 0 0]):=⟨_,ay type96,rfl⟩
instance:Bd prog 96 [(0,1)]:=⟨_,underlying96,eJ type94 .nil⟩
instance:ef 96 0 0:=eg underlying96 type94
instance:ll 104 1:=⟨_,ay type104,rfl⟩
instance:Zv prog 104 (.slice none 0 0):=⟨_,ay type104,rfl⟩
instance:j6 104 false:=⟨_,underlying104,rfl⟩
instance:Az 104 21:=⟨underlying104⟩
instance:ll 114 1:=⟨_,ay type114,rfl⟩
instance:C7 114 8:=⟨_,ay type114,rfl⟩
instance:Zv prog 114 (.pointer none):=⟨_,ay type114,rfl⟩
instance:j6 114 false:=⟨_,underlying114,rfl⟩
instance:j6 115 false:=⟨_,underlying115,rfl⟩
instance:Tc 115 180:=⟨underlying115⟩
instance:j6 117 false:=⟨_,underlying117,rfl⟩
instance:j6 118 false:=⟨_,underlying118,rfl⟩
instance:Zv prog 120 (.agg #[.pointer none,.chan none,.chan none]):=⟨_,ay type120,rfl⟩
instance:Bd prog 120 [(0,1),(1,1),(2,1)]:=⟨_,underlying120,eJ type115 (eJ type117 (eJ type118 .nil))⟩
instance:ef 120 0 0:=eg underlying120 type115
instance:ef 120 1 1:=eg underlying120 type117
instance:ef 120 2 2:=eg underlying120 type118
instance:ll 126 3:=⟨_,ay type126,rfl⟩
instance:C7 126 56:=⟨_,ay type126,rfl⟩
instance:Zv prog 126 (.agg #[.slice none 0 0,.int .i64 0,.slice none 0 0]):=⟨_,ay type126,rfl⟩
instance:Bd prog 126 [(0,1),(1,1),(2,1)]:=⟨_,underlying126,eJ type36 (eJ type3 (eJ type104 .nil))⟩
instance:ef 126 0 0:=eg underlying126 type36
instance:ef 126 1 1:=eg underlying126 type3
instance:ef 126 2 2:=eg underlying126 type104
instance:ll 128 1:=⟨_,ay type128,rfl⟩
instance:Zv prog 128 (.pointer none):=⟨_,ay type128,rfl⟩
instance:j6 128 false:=⟨_,underlying128,rfl⟩
instance:NI prog 128:=⟨_,underlying128,rfl⟩
instance:Tc 128 132:=⟨underlying128⟩
instance:j6 130 false:=⟨_,underlying130,rfl⟩
instance:NI prog 130:=⟨_,underlying130,rfl⟩
instance:ll 132 3:=⟨_,ay type132,rfl⟩
instance:Zv prog 132 (.agg #[.string (ByteArray.mk #[]),.int .i64 0,.nilIface]):=⟨_,ay type132,rfl⟩
instance:Bd prog 132 [(0,1),(1,1),(2,1)]:=⟨_,underlying132,eJ type9 (eJ type3 (eJ type46 .nil))⟩
instance:ef 132 0 0:=eg underlying132 type9
instance:ef 132 1 1:=eg underlying132 type3
instance:ef 132 2 2:=eg underlying132 type46
instance:Az 133 46:=⟨underlying133⟩
instance:ll 137 7:=⟨_,ay type137,rfl⟩
instance:C7 137 88:=⟨_,ay type137,rfl⟩
instance:Zv prog 137 (.agg #[.int .i64 0,.int .i64 0,.int .i64 0,.int .i64 0,.bool false,.slice none 0 0,.slice none 0 0]):=⟨_,ay type137,rfl⟩
instance:j6 137 true:=⟨_,underlying137,rfl⟩
instance:Bd prog 137 [(0,1),(1,1),(2,1),(3,1),(4,1),(5,1),(6,1)]:=⟨_,underlying137,eJ type3 (eJ type3 (eJ type3 (eJ type3 (eJ type4 (eJ type27 (eJ type56 .nil))))))⟩
instance:ef 137 0 0:=eg underlying137 type3
instance:ef 137 1 1:=eg underlying137 type3
instance:ef 137 2 2:=eg underlying137 type3
instance:ef 137 3 3:=eg underlying137 type3
instance:ef 137 4 4:=eg underlying137 type4
instance:ef 137 5 5:=eg underlying137 type27
instance:ef 137 6 6:=eg underlying137 type56
instance:Tc 139 90:=⟨underlying139⟩
instance:Ik prog 141 IntKind.u64:=⟨underlying141⟩
instance:Tc 147 75:=⟨underlying147⟩
instance:ll 150 2:=⟨_,ay type150,rfl⟩
instance:C7 150 16:=⟨_,ay type150,rfl⟩
instance:Zv prog 150 (.agg #[.pointer none,.pointer none]):=⟨_,ay type150,rfl⟩
instance:j6 150 true:=⟨_,underlying150,rfl⟩
instance:Bd prog 150 [(0,1),(1,1)]:=⟨_,underlying150,eJ type23 (eJ type30 .nil)⟩
instance:ef 150 0 0:=eg underlying150 type23
instance:ef 150 1 1:=eg underlying150 type30
instance:j6 158 false:=⟨_,underlying158,rfl⟩
instance:Vi 158 5 21:=⟨underlying158⟩
instance:Az 163 167:=⟨underlying163⟩
instance:ll 167 6:=⟨_,ay type167,rfl⟩
instance:C7 167 80:=⟨_,ay type167,rfl⟩
instance:Zv prog 167 (.agg #[.int .i64 0,.int .i64 0,.bool false,.int .i64 0,.slice none 0 0,.slice none 0 0]):=⟨_,ay type167,rfl⟩
instance:j6 167 true:=⟨_,underlying167,rfl⟩
instance:Bd prog 167 [(0,1),(1,1),(2,1),(3,1),(4,1),(5,1)]:=⟨_,underlying167,eJ type3 (eJ type3 (eJ type4 (eJ type3 (eJ type36 (eJ type104 .nil)))))⟩
instance:ef 167 0 0:=eg underlying167 type3
instance:ef 167 1 1:=eg underlying167 type3
instance:ef 167 2 2:=eg underlying167 type4
instance:ef 167 3 3:=eg underlying167 type3
instance:ef 167 4 4:=eg underlying167 type36
instance:ef 167 5 5:=eg underlying167 type104
instance:j6 169 false:=⟨_,underlying169,rfl⟩
instance:Vi 169 5 3:=⟨underlying169⟩
instance:j6 170 false:=⟨_,underlying170,rfl⟩
instance:Vi 170 3 267:=⟨underlying170⟩
instance:j6 171 false:=⟨_,underlying171,rfl⟩
instance:Vi 171 3 279:=⟨underlying171⟩
instance:j6 172 false:=⟨_,underlying172,rfl⟩
instance:Vi 172 3 295:=⟨underlying172⟩
instance:ll 174 1:=⟨_,ay type174,rfl⟩
instance:j6 174 false:=⟨_,underlying174,rfl⟩
instance:Az 174 263:=⟨underlying174⟩
instance:ll 176 10:=⟨_,ay type176,rfl⟩
instance:Zv prog 176 (.agg #[.map none,.map none,.map none,.map none,.map none,.map none,.slice none 0 0,.int .i64 0,.int .i64 0,.slice none 0 0]):=⟨_,ay type176,rfl⟩
instance:j6 176 true:=⟨_,underlying176,rfl⟩
instance:Bd prog 176 [(0,1),(1,1),(2,1),(3,1),(4,1),(5,1),(6,1),(7,1),(8,1),(9,1)]:=⟨_,underlying176,eJ type158 (eJ type169 (eJ type170 (eJ type171 (eJ type171 (eJ type172 (eJ type174 (eJ type3 (eJ type3 (eJ type81 .nil)))))))))⟩
instance:ef 176 0 0:=eg underlying176 type158
instance:ef 176 1 1:=eg underlying176 type169
instance:ef 176 2 2:=eg underlying176 type170
instance:ef 176 3 3:=eg underlying176 type171
instance:ef 176 4 4:=eg underlying176 type171
instance:ef 176 5 5:=eg underlying176 type172
instance:ef 176 6 6:=eg underlying176 type174
instance:ef 176 7 7:=eg underlying176 type3
instance:ef 176 8 8:=eg underlying176 type3
instance:ef 176 9 9:=eg underlying176 type81
instance:ll 178 1:=⟨_,ay type178,rfl⟩
instance:j6 178 false:=⟨_,underlying178,rfl⟩
instance:Az 178 272:=⟨underlying178⟩
instance:Zv prog 180 (.agg #[.int .i64 0,.int .i64 0,.bool false,.slice none 0 0,.int .i64 0,.map none,.map none,.map none,.map none,.map none,.map none,.slice none 0 0,.int .i64 0,.int .i64 0,.slice none 0 0,.slice none 0 0]):=⟨_,ay type180,rfl⟩
instance:Bd prog 180 [(0,1),(1,1),(2,1),(3,1),(4,1),(5,10),(15,1)]:=⟨_,underlying180,eJ type3 (eJ type3 (eJ type4 (eJ type178 (eJ type3 (eJ type176 (eJ type81 .nil))))))⟩
instance:ef 180 0 0:=eg underlying180 type3
instance:ef 180 1 1:=eg underlying180 type3
instance:ef 180 2 2:=eg underlying180 type4
instance:ef 180 3 3:=eg underlying180 type178
instance:ef 180 4 4:=eg underlying180 type3
instance:ef 180 5 5:=eg underlying180 type176
instance:ef 180 6 15:=eg underlying180 type81
instance:Zv prog 187 (.nilFunc):=⟨_,ay type187,rfl⟩
instance:j6 187 false:=⟨_,underlying187,rfl⟩
instance:ll 190 7:=⟨_,ay type190,rfl⟩
instance:C7 190 88:=⟨_,ay type190,rfl⟩
instance:Zv prog 190 (.agg #[.int .i64 0,.int .i64 0,.int .i64 0,.int .i64 0,.bool false,.slice none 0 0,.slice none 0 0]):=⟨_,ay type190,rfl⟩
instance:j6 190 true:=⟨_,underlying190,rfl⟩
instance:Bd prog 190 [(0,1),(1,1),(2,1),(3,1),(4,1),(5,1),(6,1)]:=⟨_,underlying190,eJ type3 (eJ type3 (eJ type3 (eJ type3 (eJ type4 (eJ type36 (eJ type104 .nil))))))⟩
instance:ef 190 0 0:=eg underlying190 type3
instance:ef 190 1 1:=eg underlying190 type3
instance:ef 190 2 2:=eg underlying190 type3
instance:ef 190 3 3:=eg underlying190 type3
instance:ef 190 4 4:=eg underlying190 type4
instance:ef 190 5 5:=eg underlying190 type36
instance:ef 190 6 6:=eg underlying190 type104
instance:ll 193 3:=⟨_,ay type193,rfl⟩
instance:Zv prog 193 (.agg #[.pointer none,.pointer none,.int .u64 0]):=⟨_,ay type193,rfl⟩
instance:j6 193 true:=⟨_,underlying193,rfl⟩
instance:j6 196 false:=⟨_,underlying196,rfl⟩
instance:Tc 204 77:=⟨underlying204⟩
instance:ll 223 1:=⟨_,ay type223,rfl⟩
instance:j6 223 false:=⟨_,underlying223,rfl⟩
instance:j6 225 false:=⟨_,underlying225,rfl⟩
instance:ll 247 6:=⟨_,ay type247,rfl⟩
instance:C7 247 80:=⟨_,ay type247,rfl⟩
instance:Zv prog 247 (.agg #[.int .i64 0,.int .i64 0,.bool false,.int .i64 0,.slice none 0 0,.slice none 0 0]):=⟨_,ay type247,rfl⟩
instance:j6 247 true:=⟨_,underlying247,rfl⟩
instance:Bd prog 247 [(0,1),(1,1),(2,1),(3,1),(4,1),(5,1)]:=⟨_,underlying247,eJ type3 (eJ type3 (eJ type4 (eJ type3 (eJ type27 (eJ type56 .nil)))))⟩
instance:ef 247 0 0:=eg underlying247 type3
instance:ef 247 1 1:=eg underlying247 type3
instance:ef 247 2 2:=eg underlying247 type4
instance:ef 247 3 3:=eg underlying247 type3
instance:ef 247 4 4:=eg underlying247 type27
instance:ef 247 5 5:=eg underlying247 type56
instance:ll 251 3:=⟨_,ay type251,rfl⟩
instance:C7 251 24:=⟨_,ay type251,rfl⟩
instance:Zv prog 251 (.agg #[.int .i64 0,.bool false,.int .i64 0]):=⟨_,ay type251,rfl⟩
instance:j6 251 true:=⟨_,underlying251,rfl⟩
instance:Bd prog 251 [(0,1),(1,1),(2,1)]:=⟨_,underlying251,eJ type3 (eJ type4 (eJ type3 .nil))⟩
instance:ef 251 0 0:=eg underlying251 type3
instance:ef 251 1 1:=eg underlying251 type4
instance:ef 251 2 2:=eg underlying251 type3
instance:ll 258 2:=⟨_,ay type258,rfl⟩
instance:C7 258 16:=⟨_,ay type258,rfl⟩
instance:Zv prog 258 (.agg #[.int .i64 0,.int .i64 0]):=⟨_,ay type258,rfl⟩
instance:j6 258 true:=⟨_,underlying258,rfl⟩
instance:Bd prog 258 [(0,1),(1,1)]:=⟨_,underlying258,eJ type3 (eJ type3 .nil)⟩
instance:ef 258 0 0:=eg underlying258 type3
instance:ef 258 1 1:=eg underlying258 type3
instance:ll 261 7:=⟨_,ay type261,rfl⟩
instance:Zv prog 261 (.agg #[.nilFunc,.nilFunc,.nilFunc,.nilFunc,.nilFunc,.nilFunc,.nilFunc]):=⟨_,ay type261,rfl⟩
instance:ll 263 4:=⟨_,ay type263,rfl⟩
instance:C7 263 32:=⟨_,ay type263,rfl⟩
instance:Zv prog 263 (.agg #[.int .i64 0,.int .i64 0,.int .i64 0,.bool false]):=⟨_,ay type263,rfl⟩
instance:j6 263 true:=⟨_,underlying263,rfl⟩
instance:NI prog 263:=⟨_,underlying263,rfl⟩
instance:Bd prog 263 [(0,1),(1,1),(2,1),(3,1)]:=⟨_,underlying263,eJ type3 (eJ type3 (eJ type3 (eJ type4 .nil)))⟩
instance:ef 263 0 0:=eg underlying263 type3
instance:ef 263 1 1:=eg underlying263 type3
instance:ef 263 2 2:=eg underlying263 type3
instance:ef 263 3 3:=eg underlying263 type4
instance:NI prog 265:=⟨_,underlying265,rfl⟩
instance:ll 267 3:=⟨_,ay type267,rfl⟩
instance:Zv prog 267 (.agg #[.int .i64 0,.int .i64 0,.slice none 0 0]):=⟨_,ay type267,rfl⟩
instance:Bd prog 267 [(0,1),(1,1),(2,1)]:=⟨_,underlying267,eJ type3 (eJ type3 (eJ type36 .nil))⟩
instance:ef 267 0 0:=eg underlying267 type3
instance:ef 267 1 1:=eg underlying267 type3
instance:ef 267 2 2:=eg underlying267 type36
instance:ll 272 1:=⟨_,ay type272,rfl⟩
instance:C7 272 16:=⟨_,ay type272,rfl⟩
instance:Zv prog 272 (.nilIface):=⟨_,ay type272,rfl⟩
instance:j6 272 false:=⟨_,underlying272,rfl⟩
instance:ll 274 3:=⟨_,ay type274,rfl⟩
instance:Zv prog 274 (.agg #[.int .i64 0,.int .i64 0,.slice none 0 0]):=⟨_,ay type274,rfl⟩
instance:NI prog 274:=⟨_,underlying274,rfl⟩
instance:Bd prog 274 [(0,1),(1,1),(2,1)]:=⟨_,underlying274,eJ type3 (eJ type3 (eJ type36 .nil))⟩
instance:ef 274 0 0:=eg underlying274 type3
instance:ef 274 1 1:=eg underlying274 type3
instance:ef 274 2 2:=eg underlying274 type36
instance:ll 277 3:=⟨_,ay type277,rfl⟩
instance:Zv prog 277 (.agg #[.int .i64 0,.bool false,.slice none 0 0]):=⟨_,ay type277,rfl⟩
instance:NI prog 277:=⟨_,underlying277,rfl⟩
instance:Bd prog 277 [(0,1),(1,1),(2,1)]:=⟨_,underlying277,eJ type3 (eJ type4 (eJ type104 .nil))⟩
instance:ef 277 0 0:=eg underlying277 type3
instance:ef 277 1 1:=eg underlying277 type4
instance:ef 277 2 2:=eg underlying277 type104
instance:ll 279 2:=⟨_,ay type279,rfl⟩
instance:Zv prog 279 (.agg #[.int .i64 0,.bool false]):=⟨_,ay type279,rfl⟩
instance:Bd prog 279 [(0,1),(1,1)]:=⟨_,underlying279,eJ type3 (eJ type4 .nil)⟩
instance:ef 279 0 0:=eg underlying279 type3
instance:ef 279 1 1:=eg underlying279 type4
instance:ll 281 2:=⟨_,ay type281,rfl⟩
instance:Zv prog 281 (.agg #[.int .i64 0,.bool false]):=⟨_,ay type281,rfl⟩
instance:NI prog 281:=⟨_,underlying281,rfl⟩
instance:Bd prog 281 [(0,1),(1,1)]:=⟨_,underlying281,eJ type3 (eJ type4 .nil)⟩
instance:ef 281 0 0:=eg underlying281 type3
instance:ef 281 1 1:=eg underlying281 type4
instance:ll 285 1:=⟨_,ay type285,rfl⟩
instance:j6 285 false:=⟨_,underlying285,rfl⟩
instance:Az 285 290:=⟨underlying285⟩
instance:ll 287 6:=⟨_,ay type287,rfl⟩
instance:C7 287 88:=⟨_,ay type287,rfl⟩
instance:Zv prog 287 (.agg #[.int .i64 0,.slice none 0 0,.slice none 0 0,.bool false,.bool false,.slice none 0 0]):=⟨_,ay type287,rfl⟩
instance:j6 287 true:=⟨_,underlying287,rfl⟩
instance:Bd prog 287 [(0,1),(1,1),(2,1),(3,1),(4,1),(5,1)]:=⟨_,underlying287,eJ type3 (eJ type27 (eJ type285 (eJ type4 (eJ type4 (eJ type56 .nil)))))⟩
instance:ef 287 0 0:=eg underlying287 type3
instance:ef 287 1 1:=eg underlying287 type27
instance:ef 287 2 2:=eg underlying287 type285
instance:ef 287 3 3:=eg underlying287 type4
instance:ef 287 4 4:=eg underlying287 type4
instance:ef 287 5 5:=eg underlying287 type56
instance:ll 290 2:=⟨_,ay type290,rfl⟩
instance:C7 290 32:=⟨_,ay type290,rfl⟩
instance:Zv prog 290 (.agg #[.int .i64 0,.slice none 0 0]):=⟨_,ay type290,rfl⟩
instance:j6 290 true:=⟨_,underlying290,rfl⟩
instance:Bd prog 290 [(0,1),(1,1)]:=⟨_,underlying290,eJ type3 (eJ type56 .nil)⟩
instance:ef 290 0 0:=eg underlying290 type3
instance:ef 290 1 1:=eg underlying290 type56
instance:ll 295 1:=⟨_,ay type295,rfl⟩
instance:Zv prog 295 (.pointer none):=⟨_,ay type295,rfl⟩
instance:j6 295 false:=⟨_,underlying295,rfl⟩
instance:Tc 295 299:=⟨underlying295⟩
instance:j6 296 false:=⟨_,underlying296,rfl⟩
instance:Vi 296 3 104:=⟨underlying296⟩
instance:j6 297 false:=⟨_,underlying297,rfl⟩
instance:Vi 297 3 3:=⟨underlying297⟩
instance:Zv prog 299 (.agg #[.slice none 0 0,.map none,.map none,.bool false,.bool false]):=⟨_,ay type299,rfl⟩
instance:Bd prog 299 [(0,1),(1,1),(2,1),(3,1),(4,1)]:=⟨_,underlying299,eJ type36 (eJ type296 (eJ type297 (eJ type4 (eJ type4 .nil))))⟩
instance:ef 299 0 0:=eg underlying299 type36
instance:ef 299 1 1:=eg underlying299 type296
instance:ef 299 2 2:=eg underlying299 type297
instance:ef 299 3 3:=eg underlying299 type4
instance:ef 299 4 4:=eg underlying299 type4
instance:Vi 304 3 36:=⟨underlying304⟩
instance:ll 332 1:=⟨_,ay type332,rfl⟩
instance:Zv prog 332 (.int .u64 0):=⟨_,ay type332,rfl⟩
instance:j6 332 false:=⟨_,underlying332,rfl⟩
instance:Ik prog 332 IntKind.u64:=⟨underlying332⟩
instance:aM 6 f6 6:=cY func6
instance:aM 14 f14 21:=cY func14
instance:aM 15 f15 13:=cY func15
instance:aM 16 f16 37:=cY func16
instance:aM 17 f17 35:=cY func17
instance:aM 18 f18 31:=cY func18
instance:aM 19 f19 33:=cY func19
instance:aM 20 f20 58:=cY func20
instance:aM 21 f21 25:=cY func21
instance:aM 23 f23 31:=cY func23
instance:aM 26 f26 45:=cY func26
instance:aM 27 f27 45:=cY func27
instance:aM 28 f28 21:=cY func28
instance:aM 29 f29 13:=cY func29
instance:aM 30 f30 60:=cY func30
instance:aM 31 f31 65:=cY func31
instance:aM 32 f32 35:=cY func32
instance:aM 33 f33 6:=cY func33
instance:aM 34 f34 6:=cY func34
instance:aM 35 f35 84:=cY func35
instance:aM 36 f36 148:=cY func36
instance:aM 37 f37 21:=cY func37
instance:aM 39 f39 41:=cY func39
instance:aM 40 f40 52:=cY func40
instance:aM 42 f42 67:=cY func42
instance:aM 47 f47 10:=cY func47
instance:aM 48 f48 117:=cY func48
instance:aM 49 f49 11:=cY func49
instance:aM 50 f50 4:=cY func50
instance:aM 51 f51 30:=cY func51
instance:aM 52 f52 33:=cY func52
instance:aM 53 f53 43:=cY func53
instance:aM 54 f54 52:=cY func54
instance:aM 55 f55 8:=cY func55
instance:aM 56 f56 35:=cY func56
instance:aM 57 f57 42:=cY func57
instance:aM 58 f58 7:=cY func58
instance:aM 59 f59 11:=cY func59
instance:aM 60 f60 22:=cY func60
instance:aM 61 f61 9:=cY func61
instance:aM 62 f62 13:=cY func62
instance:aM 63 f63 21:=cY func63
instance:aM 65 f65 7:=cY func65
instance:aM 69 f69 13:=cY func69
instance:aM 74 f74 102:=cY func74
instance:aM 75 f75 57:=cY func75
instance:aM 76 f76 24:=cY func76
instance:aM 77 f77 41:=cY func77
instance:aM 78 f78 49:=cY func78
instance:aM 79 f79 8:=cY func79
instance:aM 80 f80 21:=cY func80
instance:aM 81 f81 9:=cY func81
instance:aM 82 f82 9:=cY func82
instance:aM 83 f83 9:=cY func83
instance:aM 84 f84 9:=cY func84
instance:aM 85 f85 8:=cY func85
instance:aM 86 f86 8:=cY func86
instance:aM 87 f87 11:=cY func87
instance:aM 88 f88 8:=cY func88
instance:aM 89 f89 23:=cY func89
instance:aM 91 f91 8:=cY func91
instance:aM 96 f96 10:=cY func96
instance:aM 98 f98 9:=cY func98
instance:aM 100 f100 12:=cY func100
instance:aM 101 f101 10:=cY func101
instance:aM 105 f105 62:=cY func105
instance:aM 107 f107 54:=cY func107
instance:aM 114 f114 115:=cY func114
instance:aM 115 f115 109:=cY func115
instance:aM 116 f116 25:=cY func116
instance:aM 117 f117 91:=cY func117
instance:aM 118 f118 47:=cY func118
instance:aM 119 f119 19:=cY func119
instance:aM 120 f120 124:=cY func120
instance:aM 121 f121 49:=cY func121
instance:aM 122 f122 23:=cY func122
instance:aM 123 f123 52:=cY func123
instance:aM 124 f124 64:=cY func124
instance:aM 125 f125 144:=cY func125
instance:aM 126 f126 26:=cY func126
instance:aM 127 f127 8:=cY func127
instance:aM 128 f128 21:=cY func128
instance:aM 129 f129 24:=cY func129
instance:aM 130 f130 27:=cY func130
instance:aM 131 f131 14:=cY func131
instance:aM 132 f132 35:=cY func132
instance:aM 133 f133 34:=cY func133
instance:aM 134 f134 32:=cY func134
instance:aM 135 f135 32:=cY func135
instance:aM 136 f136 6:=cY func136
instance:aM 137 f137 24:=cY func137
instance:aM 138 f138 8:=cY func138
instance:aM 139 f139 21:=cY func139
instance:aM 140 f140 16:=cY func140
instance:aM 141 f141 27:=cY func141
instance:aM 142 f142 73:=cY func142
instance:aM 143 f143 6:=cY func143
instance:aM 144 f144 44:=cY func144
instance:aM 145 f145 92:=cY func145
instance:aM 146 f146 27:=cY func146
instance:aM 159 f159 36:=cY func159
instance:aM 160 f160 29:=cY func160
instance:aM 161 f161 32:=cY func161
instance:aM 162 f162 39:=cY func162
instance:aM 163 f163 14:=cY func163
instance:aM 164 f164 151:=cY func164
instance:aM 165 f165 56:=cY func165
instance:aM 166 f166 27:=cY func166
instance:aM 167 f167 33:=cY func167
instance:aM 168 f168 22:=cY func168
instance:aM 169 f169 25:=cY func169
instance:aM 170 f170 73:=cY func170
instance:aM 171 f171 118:=cY func171
instance:aM 172 f172 110:=cY func172
instance:aM 173 f173 78:=cY func173
instance:aM 174 f174 53:=cY func174
instance:aM 175 f175 71:=cY func175
instance:aM 176 f176 73:=cY func176
instance:aM 177 f177 15:=cY func177
instance:aM 178 f178 24:=cY func178
instance:aM 179 f179 19:=cY func179
instance:aM 180 f180 39:=cY func180
instance:aM 181 f181 8:=cY func181
instance:aM 182 f182 37:=cY func182
instance:aM 183 f183 62:=cY func183
instance:aM 184 f184 11:=cY func184
instance:aM 185 f185 104:=cY func185
instance:aM 186 f186 132:=cY func186
instance:aM 187 f187 162:=cY func187
instance:aM 188 f188 78:=cY func188
instance:aM 189 f189 93:=cY func189
instance:aM 190 f190 58:=cY func190
instance:aM 191 f191 41:=cY func191
instance:aM 192 f192 19:=cY func192
instance:aM 193 f193 26:=cY func193
instance:aM 194 f194 32:=cY func194
instance:aM 195 f195 28:=cY func195
instance:aM 196 f196 18:=cY func196
instance:aM 197 f197 33:=cY func197
instance:aM 198 f198 13:=cY func198
instance:aM 199 f199 30:=cY func199
instance:aM 200 f200 21:=cY func200
instance:aM 201 f201 21:=cY func201
instance:aM 202 f202 30:=cY func202
instance:aM 203 f203 47:=cY func203
instance:aM 204 f204 14:=cY func204
instance:aM 205 f205 48:=cY func205
instance:aM 206 f206 72:=cY func206
instance:aM 207 f207 12:=cY func207
instance:aM 208 f208 134:=cY func208
instance:aM 209 f209 8:=cY func209
instance:aM 210 f210 35:=cY func210
instance:aM 211 f211 33:=cY func211
instance:aM 212 f212 19:=cY func212
instance:aM 213 f213 13:=cY func213
instance:aM 214 f214 74:=cY func214
instance:aM 215 f215 23:=cY func215
instance:aM 216 f216 49:=cY func216
instance:aM 217 f217 56:=cY func217
instance:aM 218 f218 65:=cY func218
instance:aM 219 f219 57:=cY func219
instance:aM 220 f220 32:=cY func220
instance:aM 221 f221 133:=cY func221
instance:aM 222 f222 17:=cY func222
instance:aM 223 f223 84:=cY func223
instance:aM 224 f224 168:=cY func224
instance:aM 226 f226 25:=cY func226
instance:aM 227 f227 76:=cY func227
instance:aM 228 f228 7:=cY func228
instance:aM 229 f229 33:=cY func229
instance:aM 230 f230 15:=cY func230
instance:aM 231 f231 36:=cY func231
instance:aM 232 f232 6:=cY func232
instance:aM 233 f233 28:=cY func233
instance:aM 253 f253 5:=cY func253
instance:aM 254 f254 40:=cY func254
instance:aM 255 f255 20:=cY func255
instance:aM 274 f274 23:=cY func274
instance:aM 275 f275 13:=cY func275
instance:aM 276 f276 11:=cY func276
instance:aM 277 f277 11:=cY func277
instance:aM 278 f278 8:=cY func278
end
section
open Go.Proofs
def bG:j9:=⟨λ_ t _=>t==92||t==114||t==23||t==120,λt _=>t==92||t==114||t==23||t==120,0⟩
def aI(n:Int):List Value:=[az n]
instance:fM aI 1:=⟨λ_=>rfl,λa v h=>by simp[aI]at h;subst h;rfl⟩
def gg(o:cy):List Value:=[.bool o.w,az o.k,az o.v]
instance:fM gg 3:=⟨λ_=>rfl,λa v h=>by simp[gg]at h;rcases h with h|h|h<;>subst h<;>rfl⟩
def iX(l:List cy):Prop:=(∀ o∈l,97<=o.k/\o.k<=122)/\l.length<2^20
structure cu extends MsgR where
 so:ax
 sr:ax
def bQ(m:cu):List Value:=[az m.kind,az m.aV,az m.to,az m.tx,.bool m.yes,m.so.v,m.sr.v]
instance:fM bQ 7:=⟨λ_=>rfl,λa v h=>by simp[bQ]at h;rcases h with h|h|h|h|h|h|h<;>subst h<;>rfl⟩
structure jr extends RecR where
 so:ax
 sr:ax
def recC(m:jr):List Value:=[az m.kind,az m.tx,.bool m.yes,az m.home,m.so.v,m.sr.v]
instance:fM recC 6:=⟨λ_=>rfl,λa v h=>by simp[recC]at h;rcases h with h|h|h|h|h|h<;>subst h<;>rfl⟩
structure vU extends VoteR where
 sr:ax
def qi(m:vU):List Value:=[az m.aV,m.sr.v]
instance:fM qi 2:=⟨λ_=>rfl,λa v h=>by simp[qi]at h;rcases h with h|h<;>subst h<;>rfl⟩
structure fV where
 tx:Int
 ops:List cy
 so:ax
 aT:List vU
 sv:ax
 dec:Bool
 yes:Bool
 bK:List Int
 sa:ax
def fV.abs(u:fV):gU:=⟨u.tx,u.ops,u.aT.map (·.toVoteR),u.dec,u.yes,u.bK⟩
def qj(u:fV):List Value:=[az u.tx,u.so.v,u.sv.v,.bool u.dec,.bool u.yes,u.sa.v]
instance:fM qj 6:=⟨λ_=>rfl,λa v h=>by simp[qj]at h;rcases h with h|h|h|h|h|h<;>subst h<;>rfl⟩
def su(t:dR):List Value:=[az t.tm,.bool t.again,az t.tx]
instance:fM su 3:=⟨λ_=>rfl,λa v h=>by simp[su]at h;rcases h with h|h|h<;>subst h<;>rfl⟩
def mj(t:gz):List Value:=[az t.key,az t.tx]
instance:fM mj 2:=⟨λ_=>rfl,λa v h=>by simp[mj]at h;rcases h with h|h<;>subst h<;>rfl⟩
structure eX where
 me:Int
 n:Int
 up:Bool
 log:List jr
 aX:Int
 bH:List Int
 aH:List gz
 under:List fV
 timers:List dR
 waits:List cu
 clock:Int
 out:List cu
def eX.abs(s:eX):ShR:=⟨s.me,s.n,s.up,s.log.map (·.toRecR),s.aX,s.bH,s.aH,s.under.map (·.abs),s.timers,s.waits.map (·.toMsgR),s.clock,s.out.map (·.toMsgR)⟩
structure ShS where
 log:ax
 bH:ax
 aH:ax
 under:ax
 timers:ax
 waits:ax
 out:ax
def shC(s:eX)(a:ShS):Array Value:=#[az s.me,az s.n,.bool s.up,a.log.v,az s.aX,a.bH.v,a.aH.v,a.under.v,a.timers.v,a.waits.v,az s.clock,a.out.v]
def q5(u:fV):HP:=all [aW qi 2 290 u.sv u.aT,aW aI 1 3 u.sa u.bK]
def shL(s:eX)(a:ShS):List HP:=[aW recC 6 247 a.log s.log,aW aI 1 3 a.bH s.bH,aW mj 2 258 a.aH s.aH,aW qj 6 287 a.under s.under,all (s.under.map q5),
 aW su 3 251 a.timers s.timers,aW bQ 7 137 a.waits s.waits,aW bQ 7 137 a.out s.out]
def dp(b:Nat)(s:eX):HP:=λh=>∃ a,all (bX b (.cells (shC s a) 61 (0,0))::shL s a) h
structure tS(I:HL)(m:cu):Prop where
 o:dX I gg 63 m.so m.ops
 r:dX I aI 3 m.sr m.reads
structure PJ(I:HL)(m:jr):Prop where
 o:dX I gg 63 m.so m.ops
 r:dX I aI 3 m.sr m.reads
structure xu(I:HL)(u:fV):Prop where
 o:dX I gg 63 u.so u.ops
 r:∀ v∈u.aT,dX I aI 3 v.sr v.reads
structure u0(I:HL)(s:eX):Prop where
 log:∀ r∈s.log,PJ I r
 cq:∀ u∈s.under,xu I u
 waits:∀ m∈s.waits,tS I m
 out:∀ m∈s.out,tS I m
theorem tS.mono{I I':HL}{m:cu}(hs:Sub I I')(h:tS I m):tS I' m:=⟨h.o.mono hs,h.r.mono hs⟩
theorem PJ.mono{I I':HL}{m:jr}(hs:Sub I I')(h:PJ I m):PJ I' m:=⟨h.o.mono hs,h.r.mono hs⟩
theorem xu.mono{I I':HL}{m:fV}(hs:Sub I I')(h:xu I m):xu I' m:=⟨h.o.mono hs,λv hv=>(h.r v hv).mono hs⟩
theorem u0.mono{I I':HL}{s:eX}(hs:Sub I I')(h:u0 I s):u0 I' s:=⟨λr hr=>(h.log r hr).mono hs,λu hu=>(h.cq u hu).mono hs,λr hr=>(h.waits r hr).mono hs,λr hr=>(h.out r hr).mono hs⟩
abbrev z5(b:Nat)(s:eX)(lg vl lk un tm wt ot:ax)(F:List HP):List HP:=bX b (.cells #[az s.me,az s.n,.bool s.up,lg.v,az s.aX,vl.v,lk.v,un.v,tm.v,wt.v,az s.clock,ot.v] 61 (0,0))::
  aW recC 6 247 lg s.log::aW aI 1 3 vl s.bH::aW mj 2 258 lk s.aH::aW qj 6 287 un s.under::all (s.under.map q5)::
  aW su 3 251 tm s.timers::aW bQ 7 137 wt s.waits::aW bQ 7 137 ot s.out::F
variable{R:Nat->aQ->Array Obj->Prop}{d:Nat}{As F L:List HP}{g:aQ}{b:Nat}{s:eX}
theorem aaO(h:At R d (all (([]:List fV).map q5)::F) g):At R d F g:=At.yB h
theorem dp.opn(hf:Fo (dp b s) As L:=by exact Fo.au)(h:∀ lg vl lk un tm wt ot:ax,At R d (z5 b s lg vl lk un tm wt ot L) g):At R d As g:=by refine At.fo hf λH st=>?_;obtain⟨a,st⟩:=st.ex;exact h a.log a.bH a.aH a.under a.timers a.waits a.out H (st.flat)
theorem dp.cls{c:Array Value}(s:eX)(h:At R d (dp b s::F) g)(hf:Fo (bX b (.cells c 61 (0,0))) As L:=by exact Fo.au){lg vl lk un tm wt ot:ax}(hc:c=shC s ⟨lg,vl,lk,un,tm,wt,ot⟩:=by rfl)
  (hr:dJ [aW recC 6 247 lg s.log,aW aI 1 3 vl s.bH,aW mj 2 258 lk s.aH,aW qj 6 287 un s.under,all (s.under.map q5),
   aW su 3 251 tm s.timers,aW bQ 7 137 wt s.waits,aW bQ 7 137 ot s.out] L F:=by exact dJ.au):At R d As g:=by
 subst hc;refine At.perm (hf.perm.trans (hr.perm.cons _)) λH st=>h H ?_;exact Sat.imp (λhh x=>⟨⟨lg,vl,lk,un,tm,wt,ot⟩,x⟩) (Sat.fR (l:=bX b (.cells (shC s ⟨lg,vl,lk,un,tm,wt,ot⟩) 61 (0,0))::shL s ⟨lg,vl,lk,un,tm,wt,ot⟩) st)
variable{ao:Bool}
structure mC extends TxR where
 so:ax
 sr:ax
def rV(t:mC):List Value:=[t.so.v,az t.state,t.sr.v]
instance:fM rV 3:=⟨λ_=>rfl,λa v h=>by simp[rV]at h;rcases h with h|h|h<;>subst h<;>rfl⟩
def eB(b:Nat):List Value:=[.pointer (some ⟨b,0,none⟩)]
instance:fM eB 1:=⟨λ_=>rfl,λa v h=>by simp[eB]at h;subst h;rfl⟩
structure WV where
 sh:List (Nat×eX)
 aF:List cu
 aL:List mC
 aj:Bool
def WV.abs(w:WV):WR:=⟨w.sh.map (·.2.abs),w.aF.map (·.toMsgR),w.aL.map (·.toTxR),w.aj⟩
abbrev n8(p:Nat×eX):HP:=dp p.1 p.2
abbrev wO(b:Nat)(w:WV)(sh bg tx:ax)(F:List HP):List HP:=bX b (.cells #[sh.v,bg.v,tx.v,.bool w.aj] 53 (0,0))::aW eB 1 54 sh (w.sh.map (·.1))::aW bQ 7 137 bg w.aF::aW rV 3 71 tx w.aL::all (w.sh.map n8)::F
def wP(b:Nat)(w:WV):HP:=λh=>∃ sh bg tx:ax,all (wO b w sh bg tx []) h
structure TxI(I:HL)(t:mC):Prop where
 o:dX I gg 63 t.so t.ops
 r:dX I aI 3 t.sr t.reads
structure WI(I:HL)(w:WV):Prop where
 sh:∀ p∈w.sh,u0 I p.2
 aF:∀ m∈w.aF,tS I m
 aL:∀ t∈w.aL,TxI I t
theorem TxI.mono{I I':HL}{t:mC}(hs:Sub I I')(h:TxI I t):TxI I' t:=⟨h.o.mono hs,h.r.mono hs⟩
theorem WI.mono{I I':HL}{w:WV}(hs:Sub I I')(h:WI I w):WI I' w:=⟨λp hp=>(h.sh p hp).mono hs,λm hm=>(h.aF m hm).mono hs,λt ht=>(h.aL t ht).mono hs⟩
variable{w:WV}
theorem wP.opn(hf:Fo (wP b w) As L:=by exact Fo.au)(h:∀ sh bg tx:ax,At R d (wO b w sh bg tx L) g):At R d As g:=by refine At.fo hf λH st=>?_;obtain⟨sh,st⟩:=st.ex;obtain⟨bg,st⟩:=st.ex;obtain⟨tx,st⟩:=st.ex;exact h sh bg tx H st.flat
theorem wP.cls{c:Array Value}(w:WV)(h:At R d (wP b w::F) g)(hf:Fo (bX b (.cells c 53 (0,0))) As L:=by exact Fo.au){sh bg tx:ax}(hc:c=#[sh.v,bg.v,tx.v,.bool w.aj]:=by rfl)
  (hr:dJ [aW eB 1 54 sh (w.sh.map (·.1)),aW bQ 7 137 bg w.aF,aW rV 3 71 tx w.aL,all (w.sh.map n8)] L F:=by exact dJ.au):At R d As g:=by
 subst hc;refine At.perm (hf.perm.trans (hr.perm.cons _)) λH st=>h H ?_;exact Sat.imp (λhh x=>⟨sh,bg,tx,x⟩) (Sat.fR (l:=wO b w sh bg tx []) st)
theorem H5{I:HL}{so:ax}{ops:List cy}(ho:dX I gg 63 so ops)(hl:ops.length<2^60):
  aB prog ao bG 31 #[so.v] [a9 I] (λv As=>v=.bool (decide (fb ops))/\As=[a9 I]):=by
 refine aB.of λR C kd d F c cs aJ ai=>?_;refine H0 ?_;refine C.bS (X:=Nat) (λi=>[(0,so.v),(3,az i)]) (λ_=>a9 I::F) (λi=>i<=ops.length/\(∀ j (hj:j<ops.length),j<i->Aq ops[j])/\((ops.take i).map (·.k)).Nodup) (λi=>ops.length-i) 0 ⟨rfl,rfl,trivial⟩ ⟨eC _,by intro j _ hj;omega,by simp⟩ ?_;intro i e ⟨hi,lE,eL⟩ ih;refine cF ?_;refine C.cmp rfl (λh8=>?_) (λh8=>?_)
 ·refine bj ?_;have cG:i<ops.length:=by simpa using h8
  apply OW (Aq ops[i]) [(0,so.v),(3,az i)] (a9 I::F) (R:=R) (d:=d) (fn:=31) (kd:=kd) (n:=65) (ds:=[]) (cs:=c::cs)
  ·intro q6;refine C.rg [0,1,2,3,4,5,6,7,8,9,10,11,12,13,14,15,16,17,18,19,20,21,22,23,24,25,26,27,28,29] ?_;refine cF ?_;refine C.cmp rfl (λEd=>?_) (λEd=>?_)
   ·refine jW ?_;refine oX ?_;refine C.a8 aJ ai ⟨?_,rfl⟩;rw[jD (λh=>by have:=(h.1 _ (bC cG)).1;omega)]
   ·refine dm ?_;refine C.cmp rfl (λRD=>?_) (λRD=>?_)
    ·refine jW ?_;refine dV ?_;refine C.a8 aJ ai ⟨?_,rfl⟩;rw[jD (λh=>by have:=(h.1 _ (bC cG)).2.1;omega)]
    ·refine dV ?_;generalize hw:ops[i].w=z;rcases fU z with rfl|rfl
     ·refine oW ?_;exact join q6 ⟨ak,ak,.inl hw⟩
     ·refine dV ?_;refine C.cmp rfl (λPK=>?_) (λPK=>?_)
      ·refine dV ?_;refine C.a8 aJ ai ⟨?_,rfl⟩;rw[jD (λh=>by
        rcases(h.1 _ (bC cG)).2.2 with h|h
        ·rw[hw]at h;cases h
        ·omega)]
      ·refine cN ?_;exact join q6 ⟨ak,ak,.inr ak⟩
  ·rintro aed e;refine da ?_;refine C.bS (X:=Nat) (λj=>[(0,so.v),(3,az i),(4,az j)]) (λ_=>a9 I::F) (λj=>j<=i/\∀ j' (hj:j'<ops.length),j'<j->ops[j'].k≠ops[i].k) (λj=>i-j) 0 ⟨rfl,rfl,rfl,trivial⟩ ⟨eC _,by intro j' _ hj;omega⟩ ?_;intro j e ⟨hj,hnj⟩ D7;refine cN ?_;refine C.cmp rfl (λC8=>?_) (λC8=>?_)
   ·refine bj ?_;have Te:j<i:=by simpa using C8
    have Ln:j<ops.length:=ak;by_cases h56:ops[j].k=ops[i].k
    ·refine C.dx (cm 46 0 11) 11 [] 0 ?_;refine gY ?_;refine Dr.p (λh=>C.eE rfl h (hf:=h56)) ?_;refine Dr.chain rfl ?_;refine vT ?_;refine C.a8 aJ ai ⟨?_,rfl⟩;rw[jD (λh=>by have h1:=ya.1 h.2.1 j i (by simpa using Ln) (by simpa using cG) Te;rw[qx,qx]at h1;exact h1 h56)]
    ·refine C.dx (cm 46 0 11) 11 [] 0 ?_;refine gY ?_;refine Dr.p (λh=>C.du rfl h (hf:=h56)) ?_;refine Dr.chain rfl ?_;refine Lt ?_;refine again D7 (j+1) ⟨Te,λj' W6 dI=>?_⟩ ak;rcases mO.1 dI with h|rfl
     ·exact hnj j' W6 h
     ·exact h56
   ·refine dV ?_;have C3:j=i:=by have:¬ j<i:=(by simpa using C8);omega
    subst C3;refine again ih (j+1) ⟨cG,λj' W6 dI=>?_,?_⟩ ak
    ·rcases mO.1 dI with h|rfl
     ·exact lE j' W6 h
     ·exact aed
    ·rw[fq cG,eI,iC];refine⟨eL,by simp,λa ha c hc=>?_⟩;simp only[iJ,ml,dN]at hc;subst hc;obtain⟨o,ho,rfl⟩:=bL.1 ha;obtain⟨q,hq,rfl⟩:=jO ho;rw[iz]at hq;rw[NX];exact hnj q ak ak
 ·refine bj ?_;have Lw:i=ops.length:=by have:¬ i<ops.length:=(by simpa using h8);omega
  subst Lw;rw[Jt]at eL;have je:∀ o∈ops,Aq o:=λo ho=>by obtain⟨q,hq,rfl⟩:=jO ho;exact lE q hq hq
  refine da ?_;refine C.cmp rfl (λh59=>?_) (λh59=>?_)
  ·refine da ?_;refine C.cmp rfl (λh63=>?_) (λh63=>?_)
   ·refine da ?_;refine C.a8 aJ ai ⟨?_,rfl⟩;rw[sE (show fb ops from⟨je,eL,ak,ak⟩)]
   ·refine da ?_;refine C.a8 aJ ai ⟨?_,rfl⟩;rw[jD (λh=>by have:=h.2.2.2;omega)]
  ·refine dV ?_;refine C.a8 aJ ai ⟨?_,rfl⟩;rw[jD (λh=>by have:=h.2.2.1;omega)]
instance:ew prog 64 f64 (λ_=>do mark .disable;pure Extern.Race.none_):=⟨func64,rfl,rfl,by kernel_rfl,by kernel_rfl⟩
instance:ew prog 66 f66 (λ_=>do mark .enable;pure Extern.Race.none_):=⟨func66,rfl,rfl,by kernel_rfl,by kernel_rfl⟩
instance:ew prog 67 f67 (Extern.Race.marked .acquire):=⟨func67,rfl,rfl,by kernel_rfl,by kernel_rfl⟩
instance:ew prog 92 f92 (Extern.Race.marked .releaseMerge):=⟨func92,rfl,rfl,by kernel_rfl,by kernel_rfl⟩
instance:ew prog 71 f71 (Extern.Race.marked .write):=⟨func71,rfl,rfl,by kernel_rfl,by kernel_rfl⟩
instance:ew prog 97 f97 (Extern.Race.marked .read):=⟨func97,rfl,rfl,by kernel_rfl,by kernel_rfl⟩
instance:ew prog 108 f108 (Extern.Atomic.casT (.int .i32)):=⟨func108,rfl,rfl,by kernel_rfl,by kernel_rfl⟩
instance:ew prog 110 f110 (Extern.Atomic.update (Op.intArith .add) .i32 true):=⟨func110,rfl,rfl,by kernel_rfl,by kernel_rfl⟩
instance:ew prog 112 f112 (Extern.Atomic.loadT (.int .u64)):=⟨func112,rfl,rfl,by kernel_rfl,by kernel_rfl⟩
instance:ew prog 113 f113 (Extern.Atomic.casT (.int .u64)):=⟨func113,rfl,rfl,by kernel_rfl,by kernel_rfl⟩
instance:ew prog 148 f148 (Extern.Atomic.update (Op.intArith .add) .u64 true):=⟨func148,rfl,rfl,by kernel_rfl,by kernel_rfl⟩
instance:ew prog 149 f149 Extern.Atomic.storeT:=⟨func149,rfl,rfl,by kernel_rfl,by kernel_rfl⟩
instance:ew prog 73 f73 Extern.Sync.semacquire:=⟨func73,rfl,rfl,by kernel_rfl,by kernel_rfl⟩
instance:ew prog 99 f99 Extern.Sync.semrelease:=⟨func99,rfl,rfl,by kernel_rfl,by kernel_rfl⟩
instance:ew prog 72 f72 (λ_=>pure (.bool false)):=⟨func72,rfl,rfl,by kernel_rfl,by kernel_rfl⟩
instance:Up prog 143:=⟨underlying143⟩
end
section
open Go.Proofs
def dv(n:Int):List Value:=[.int .i32 n]
instance:fM dv 1:=⟨λ_=>rfl,λa v h=>by simp[dv]at h;subst h;rfl⟩
def cK(o:cy):List Value:=[.bool o.w,.int .u8 o.k,.int .i32 o.v]
instance:fM cK 3:=⟨λ_=>rfl,λa v h=>by simp[cK]at h;rcases h with h|h|h<;>subst h<;>rfl⟩
structure ku(I:HL)(m:cu):Prop where
 o:dX I cK 67 m.so m.ops
 r:dX I dv 21 m.sr m.reads
 z:m.reads.length<2^20
inductive gZ where
 |eK (tx home:Int) (ops:List cy) (so:ax)
 |dec (tx:Int) (yes:Bool) (reads:List Int) (sr:ax)
 |kg (tx:Int) (yes:Bool)
def gZ.abs:gZ->a7
 |.eK tx home ops _=>.eK tx home ops
 |.dec tx yes reads _=>.dec tx yes reads
 |.kg tx yes=>.kg tx yes
def gZ.tid:gZ->aR
 |.eK .. =>274
 |.dec .. =>277
 |.kg .. =>281
def gZ.pay:gZ->Value
 |.eK tx home _ so=>.agg #[az tx,az home,so.v]
 |.dec tx yes _ sr=>.agg #[az tx,.bool yes,sr.v]
 |.kg tx yes=>.agg #[az tx,.bool yes]
def gZ.val(e:gZ):Value:=.iface e.tid e.pay
def n9(e:gZ):List Value:=[e.val]
instance:fM n9 1:=⟨λ_=>rfl,λa v h=>by simp[n9]at h;subst h;cases a<;>rfl⟩
def gZ.J(I:HL):gZ->Prop
 |.eK _ _ ops so=>dX I cK 67 so ops/\ops.length<2^20
 |.dec _ _ reads sr=>dX I dv 21 sr reads/\reads.length<2^20
 |.kg _ _=>True
structure qk where
 pl:Int
 home:Int
 ops:List cy
 so:ax
def qk.abs(p:qk):yD:=⟨p.pl,p.home,p.ops⟩
def tT(p:qk):Value:=.agg #[az p.pl,az p.home,p.so.v]
def oY(p:gV):Value:=.agg #[az p.pl,.bool p.yes]
def ff(n:Int):Value:=.int .i32 n
def dS(n:Int):Value:=az n
def H6(v:List Int×ax):Value:=v.2.v
abbrev aE(b:Nat):Value:=.pointer (some ⟨b,0,none⟩)
structure fg where
 b:Nat
 ops:List cy
 so:ax
 aT:List (Int×(List Int×ax))
 mv:Nat
 bK:List (Int×Int)
 ma:Nat
 dec:Bool
 yes:Bool
def fg.abs(u:fg):lR:=⟨u.ops,u.aT.map λp=>(p.1,p.2.1),u.bK,u.dec,u.yes⟩
abbrev FG(u:fg)(F:List HP):List HP:=bX u.b (.cells #[u.so.v,.map (some u.mv),.map (some u.ma),.bool u.dec,.bool u.yes] 299 (0,0))::cW .i64 H6 u.mv u.aT::cW .i64 dS u.ma u.bK::F
def aef(u:fg):HP:=all (FG u [])
structure C9(I:HL)(u:fg):Prop where
 o:dX I cK 67 u.so u.ops
 r:∀ v∈u.aT,dX I dv 21 v.2.2 v.2.1
 z:∀ v∈u.aT,v.2.1.length<2^20
def rW(a:kh):List Value:=[az a.tm,az a.ord,az a.tx,.bool a.again]
instance:fM rW 4:=⟨λ_=>rfl,λa v h=>by simp[rW]at h;rcases h with h|h|h|h<;>subst h<;>rfl⟩
structure cZ where
 me:Int
 n:Int
 up:Bool
 log:List gZ
 aX:Int
 values:List (Int×Int)
 aH:List (Int×Int)
 bB:List (Int×qk)
 done:List (Int×gV)
 cf:List (Int×gV)
 cq:List (Int×fg)
 timers:List kh
 order:Int
 clock:Int
 waits:List cu
 out:List cu
def cZ.abs(s:cZ):dZ:=⟨s.me,s.n,s.up,s.log.map (·.abs),s.aX,s.values,s.aH,s.bB.map λp=>(p.1,p.2.abs),s.done,s.cf,s.cq.map λp=>(p.1,p.2.abs),s.timers.map (·.qq),s.clock,s.waits.map (·.toMsgR),s.out.map (·.toMsgR)⟩
def vV(u:fg):Value:=aE u.b
abbrev ql(p:Int×fg):HP:=aef p.2
abbrev Lx(b:Nat)(s:cZ)(lg wt ot tm:ax)(bv bl bp bd be bu:Nat)(tl:List kh)(F:List HP):List HP:=
 bX b (.cells #[az s.me,az s.n,.bool s.up,lg.v,az s.aX,.map (some bv),.map (some bl),.map (some bp),.map (some bd),.map (some be),.map (some bu),tm.v,az s.order,az s.clock,wt.v,ot.v] 180 (0,0))::
  aW n9 1 272 lg s.log::cW .u8 ff bv s.values::cW .u8 dS bl s.aH::cW .i64 tT bp s.bB::cW .i64 oY bd s.done::cW .i64 oY be s.cf::cW .i64 vV bu s.cq::all (s.cq.map ql)::
  aW rW 4 263 tm tl::aW bQ 7 190 wt s.waits::aW bQ 7 190 ot s.out::F
def de(b:Nat)(s:cZ):HP:=λh=>∃ lg wt ot tm:ax,∃ bv bl bp bd be bu:Nat,∃ tl:List kh,oQ s.timers s.order tl/\all (Lx b s lg wt ot tm bv bl bp bd be bu tl []) h
structure ShJ(I:HL)(s:cZ):Prop where
 log:∀ r∈s.log,r.J I
 bB:∀ p∈s.bB,dX I cK 67 p.2.so p.2.ops
 cq:∀ u∈s.cq,C9 I u.2
 waits:∀ m∈s.waits,ku I m
 out:∀ m∈s.out,ku I m
theorem ku.mono{I I':HL}{m:cu}(hs:Sub I I')(h:ku I m):ku I' m:=⟨h.o.mono hs,h.r.mono hs,h.z⟩
theorem gZ.J.mono{I I':HL}{m:gZ}(hs:Sub I I')(h:m.J I):m.J I':=by
 cases m with
 |eK tx home ops so=>exact⟨dX.mono h.1 hs,h.2⟩
 |dec tx yes reads sr=>exact⟨dX.mono h.1 hs,h.2⟩
 |kg tx yes=>trivial
theorem C9.mono{I I':HL}{u:fg}(hs:Sub I I')(h:C9 I u):C9 I' u:=⟨h.o.mono hs,λv hv=>(h.r v hv).mono hs,h.z⟩
theorem ShJ.mono{I I':HL}{s:cZ}(hs:Sub I I')(h:ShJ I s):ShJ I' s:=⟨λr hr=>(h.log r hr).mono hs,λr hr=>(h.bB r hr).mono hs,λu hu=>(h.cq u hu).mono hs,λr hr=>(h.waits r hr).mono hs,λr hr=>(h.out r hr).mono hs⟩
section
variable{R:Nat->aQ->Array Obj->Prop}{d:Nat}{As F L:List HP}{g:aQ}{b:Nat}{s:cZ}
theorem de.opn(hf:Fo (de b s) As L:=by exact Fo.au)(h:∀ (lg wt ot tm:ax) (bv bl bp bd be bu:Nat) (tl:List kh),oQ s.timers s.order tl->At R d (Lx b s lg wt ot tm bv bl bp bd be bu tl L) g):At R d As g:=by refine At.fo hf λH st=>?_;obtain⟨lg,st⟩:=st.ex;obtain⟨wt,st⟩:=st.ex;obtain⟨ot,st⟩:=st.ex;obtain⟨tm,st⟩:=st.ex;obtain⟨bv,st⟩:=st.ex;obtain⟨bl,st⟩:=st.ex;obtain⟨bp,st⟩:=st.ex;obtain⟨bd,st⟩:=st.ex;obtain⟨be,st⟩:=st.ex;obtain⟨bu,st⟩:=st.ex;obtain⟨tl,st⟩:=st.ex;obtain⟨ht,st⟩:=st.pure;exact h lg wt ot tm bv bl bp bd be bu tl ht H st.flat
theorem de.cls{c:Array Value}(s:cZ)(h:At R d (de b s::F) g){lg wt ot tm:ax}{bv bl bp bd be bu:Nat}{tl:List kh}(ht:oQ s.timers s.order tl:=by assumption)(hf:Fo (bX b (.cells c 180 (0,0))) As L:=by exact Fo.au)
  (hc:c=#[az s.me,az s.n,.bool s.up,lg.v,az s.aX,.map (some bv),.map (some bl),.map (some bp),.map (some bd),.map (some be),.map (some bu),tm.v,az s.order,az s.clock,wt.v,ot.v]:=by rfl)
  (hr:dJ [aW n9 1 272 lg s.log,cW .u8 ff bv s.values,cW .u8 dS bl s.aH,cW .i64 tT bp s.bB,cW .i64 oY bd s.done,cW .i64 oY be s.cf,cW .i64 vV bu s.cq,all (s.cq.map ql),
   aW rW 4 263 tm tl,aW bQ 7 190 wt s.waits,aW bQ 7 190 ot s.out] L F:=by exact dJ.au):At R d As g:=by
 subst hc;refine At.perm (hf.perm.trans (hr.perm.cons _)) λH st=>h H ?_;exact Sat.imp (λhh x=>⟨lg,wt,ot,tm,bv,bl,bp,bd,be,bu,tl,ht,x⟩) (Sat.fR (l:=Lx b s lg wt ot tm bv bl bp bd be bu tl []) st)
end
end
section
open Go.Proofs
variable{P:bR}{ao:Bool}{B:j9}{R:Nat->aQ->Array Obj->Prop}{d:Nat}{As:List HP}
variable{fn:bM}{kd:Kd}{n:Nat}{e:Nat->Value}{ds:List dW}{k:List Item}{cs:List Frame}
variable{ops:Array Oper}{i:Nat}{aa:List Nat}{t:Nat}{ty:aR}{pos:String}{af:Array Edge}{gd:Option (Nat×Bool)}{x y:cU}
theorem ab.aeg(C:ab P ao B R){op:BinOp}{r:Bool}{tt t2:aR}{b1 b2:Bool}(hu:P.underlying tt=some .bool)(ho:aZ ops i=some ⟨some t,.binOp op tt x y t2,ty,pos,af,gd⟩)(h:At R d As (gr fn kd n (put e t (.bool ((b1==b2)==r))) ds (.inRegion ops aa::k) cs))
  (cx:isEq op=some r:=by rfl) (hx:ev n e x=.bool b1:=by rfl) (hy:ev n e y=.bool b2:=by rfl) (hw:aN ops n e gd=true:=by rfl):At R d As (gr fn kd n e ds (.inRegion ops (i::aa)::k) cs):=
 C.v0 ho h (by
  unfold execOp;simp only[hx,hy];refine br (a:=.bool ((b1==b2)==r)) ?_ rfl;have h0:fJ P (Op.equal tt (.bool b1) (.bool b2))=some (b1==b2):=by unfold Op.equal;show fJ P (Op.equalIn (9998+1+1) _ _ _)=_;unfold Op.equalIn;refine br (fx hu) ?_;rfl
  cases op<;>first|(cases cx;done)|skip
  ·obtain rfl:=bY cx;refine br (a:=()) (by unfold eqGuard;rfl) ?_;refine br h0 ?_;cases b1<;>cases b2<;>rfl
  ·obtain rfl:=bY cx;refine br (a:=()) (by unfold eqGuard;rfl) ?_;refine br h0 ?_;cases b1<;>cases b2<;>rfl) hw
theorem ab.H7(C:ab P ao B R){op:BinOp}{r:Bool}{tt t2:aR}{b:Bool}(hu:P.underlying tt=some .bool)(ho:aZ ops i=some ⟨some t,.binOp op tt x y t2,ty,pos,af,gd⟩)(h:At R d As (gr fn kd n (put e t (.bool r)) ds (.inRegion ops aa::k) cs))
  (cx:isEq op=some r:=by rfl) (hx:ev n e x=.bool b:=by rfl) (hy:ev n e y=.bool b:=by rfl) (hw:aN ops n e gd=true:=by rfl):At R d As (gr fn kd n e ds (.inRegion ops (i::aa)::k) cs):=
 C.aeg hu ho (by rw[show((b==b)==r)=r by cases b<;>cases r<;>rfl];exact h) cx hx hy hw
theorem u5{I:HL}{A:HP}{so ro:ax}{ops:List cy}(hA:A=aW cK 3 67 so ops)(hr:dX I gg 63 ro ops)(hz:∀ o∈ops,(-9223372036854775808<=o.k/\o.k<=9223372036854775807)/\(-9223372036854775808<=o.v/\o.v<=9223372036854775807))(hl:ops.length<2^40):
  aB prog ao bG 165 #[so.v,ro.v] [A,a9 I] (λv As=>v=.bool true/\As=[A,a9 I]):=by
 subst hA;refine aB.of λR C kd d F c cs aJ ai=>?_;refine Ec ?_;refine C.mW rfl ?_ (s:=so) (l:=ops) (f:=cK);refine fy ?_;refine C.mW rfl ?_ (s:=ro) (l:=ops) (f:=gg);refine C.du rfl ?_;refine cF ?_;refine C.bS (X:=Nat) (λi=>[(0,so.v),(1,ro.v),(5,az i)]) (λ_=>aW cK 3 67 so ops::a9 I::F) (λi=>i<=ops.length) (λi=>ops.length-i) 0 ⟨rfl,rfl,rfl,trivial⟩ (eC _) ?_;intro i e hi ih;refine cN ?_;refine C.mW rfl ?_ (s:=so) (l:=ops) (f:=cK);refine C.cmp rfl (λoj=>?_) (λoj=>?_)
 ·refine bj ?_;have cG:i<ops.length:=ak;have W7:=hz _ (bC cG);refine C.dx (cm 17 0 39) 39 [] 0 ?_;refine jy ?_;refine Dr.l (λhE h=>C.dT rfl h (s:=so) (l:=ops) (f:=cK) (j:=i)) ?_;refine k6 ?_;refine Dr.l (v:=.bool (ops[i]'cG).w) (λhE h=>C.vz rfl h (s:=so) (l:=ops) (f:=cK) (j:=i) (o:=0)) ?_;refine jy ?_;refine Dr.l (λhE h=>C.dT rfl h (s:=ro) (l:=ops) (f:=gg) (j:=i)) ?_;refine k6 ?_;refine Dr.l (v:=.bool (ops[i]'cG).w) (λhE h=>C.vz rfl h (s:=ro) (l:=ops) (f:=gg) (j:=i) (o:=0)) ?_;refine Dr.p (λh=>C.H7 (b:=(ops[i]'cG).w) underlying4 rfl h) ?_;refine qs ?_;refine Dr.l (λhE h=>C.dT rfl h (s:=so) (l:=ops) (f:=cK) (j:=i)) ?_;refine k6 ?_;refine Dr.l (v:=.int .u8 (ops[i]'cG).k) (λhE h=>C.vz rfl h (s:=so) (l:=ops) (f:=cK) (j:=i) (o:=1)) ?_;refine Dr.p (v:=az (ops[i]'cG).k) (λh=>C.cv rfl h (p:=(ops[i]'cG).k) (r:=(ops[i]'cG).k) (k1:=.u8) (k2:=.i64) (hr:=pq W7.1.1 W7.1.2)) ?_;refine jy ?_;refine Dr.l (λhE h=>C.dT rfl h (s:=ro) (l:=ops) (f:=gg) (j:=i)) ?_;refine k6 ?_;refine Dr.l (v:=az (ops[i]'cG).k) (λhE h=>C.vz rfl h (s:=ro) (l:=ops) (f:=gg) (j:=i) (o:=1)) ?_;refine Dr.p (λh=>C.du rfl h (hf:=by intro h;exact h rfl)) ?_;refine HZ ?_;refine Dr.l (λhE h=>C.dT rfl h (s:=so) (l:=ops) (f:=cK) (j:=i)) ?_;refine k6 ?_;refine Dr.l (v:=.int .i32 (ops[i]'cG).v) (λhE h=>C.vz rfl h (s:=so) (l:=ops) (f:=cK) (j:=i) (o:=2)) ?_;refine Dr.p (v:=az (ops[i]'cG).v) (λh=>C.cv rfl h (p:=(ops[i]'cG).v) (r:=(ops[i]'cG).v) (k1:=.i32) (k2:=.i64) (hr:=pq W7.2.1 W7.2.2)) ?_;refine jy ?_;refine Dr.l (λhE h=>C.dT rfl h (s:=ro) (l:=ops) (f:=gg) (j:=i)) ?_;refine k6 ?_;refine Dr.l (v:=az (ops[i]'cG).v) (λhE h=>C.vz rfl h (s:=ro) (l:=ops) (f:=gg) (j:=i) (o:=2)) ?_;refine Dr.p (λh=>C.du rfl h (hf:=by intro h;exact h rfl)) ?_;refine wS ?_;refine Lt ?_;exact again ih (i+1) cG ak
 ·refine cF ?_;exact C.a8 aJ ai ⟨rfl,rfl⟩
theorem na{I:HL}{A:HP}{so ro:ax}{l:List Int}(hA:A=aW dv 1 21 so l)(hr:dX I aI 3 ro l)(hz:∀ x∈l, -9223372036854775808<=x/\x<=9223372036854775807)(hl:l.length<2^40):
  aB prog ao bG 166 #[so.v,ro.v] [A,a9 I] (λv As=>v=.bool true/\As=[A,a9 I]):=by
 subst hA;refine aB.of λR C kd d F c cs aJ ai=>?_;refine Ec ?_;refine C.mW rfl ?_ (s:=so) (l:=l) (f:=dv);refine fy ?_;refine C.mW rfl ?_ (s:=ro) (l:=l) (f:=aI);refine C.du rfl ?_;refine cF ?_;refine C.bS (X:=Nat) (λi=>[(0,so.v),(1,ro.v),(5,az i)]) (λ_=>aW dv 1 21 so l::a9 I::F) (λi=>i<=l.length) (λi=>l.length-i) 0 ⟨rfl,rfl,rfl,trivial⟩ (eC _) ?_;intro i e hi ih;refine cN ?_;refine C.mW rfl ?_ (s:=so) (l:=l) (f:=dv);refine C.cmp rfl (λoj=>?_) (λoj=>?_)
 ·refine bj ?_;have cG:i<l.length:=ak;have W7:=hz _ (bC cG);refine C.dx (cm 17 0 10) 10 [] 0 ?_;refine jy ?_;refine Dr.l (λhE h=>C.dT rfl h (s:=so) (l:=l) (f:=dv) (j:=i)) ?_;refine Dr.l (v:=.int .i32 (l[i]'cG)) (λhE h=>C.dG rfl h (s:=so) (l:=l) (f:=dv) (j:=i)) ?_;refine Dr.p (v:=az (l[i]'cG)) (λh=>C.cv rfl h (p:=l[i]'cG) (r:=l[i]'cG) (k1:=.i32) (k2:=.i64) (hr:=pq W7.1 W7.2)) ?_;refine jy ?_;refine Dr.l (λhE h=>C.dT rfl h (s:=ro) (l:=l) (f:=aI) (j:=i)) ?_;refine Dr.l (v:=az (l[i]'cG)) (λhE h=>C.dG rfl h (s:=ro) (l:=l) (f:=aI) (j:=i)) ?_;refine Dr.p (λh=>C.du rfl h (hf:=by intro h;exact h rfl)) ?_;refine Dr.chain rfl ?_;refine Lt ?_;exact again ih (i+1) cG ak
 ·refine cF ?_;exact C.a8 aJ ai ⟨rfl,rfl⟩
theorem tU:aB prog ao bG 91 #[] [] (λv As=>∃ bv bl bp bd be bu:Nat,v=.agg #[.map (some bv),.map (some bl),.map (some bp),.map (some bd),.map (some be),.map (some bu),.slice none 0 0,az 0,az 0,.slice none 0 0]/\
  As=[cW .u8 ff bv [],cW .u8 dS bl [],cW .i64 tT bp [],cW .i64 oY bd [],cW .i64 oY be [],cW .i64 vV bu []]):=by
 refine aB.of λR C kd d F c cs aJ ai=>?_;refine jI ?_;refine C.al rfl (λb0=>?_);refine bj ?_;refine C.mm .u8 ff rfl (λb1=>?_);refine C.mm .u8 dS rfl (λb2=>?_);refine C.mm .i64 tT rfl (λb3=>?_);refine C.mm .i64 oY rfl (λb4=>?_);refine C.mm .i64 oY rfl (λb5=>?_);refine C.mm .i64 vV rfl (λb6=>?_);refine da ?_;exact C.SM rfl aJ ai ⟨b1,b2,b3,b4,b5,b6,rfl,rfl⟩
def jG(k n:Int):cZ:=⟨k,n,true,[],0,[],[],[],[],[],[],[],0,0,[],[]⟩
theorem Ly(k n:Int):(jG k n).abs=HE k n:=rfl
theorem Tf(I:HL)(k n:Int):ShJ I (jG k n):=⟨by simp[jG],by simp[jG],by simp[jG],by simp[jG],by simp[jG]⟩
theorem eN{k n:Int}:aB prog ao bG 47 #[az k,az n] [] (λv As=>∃ b,v=aE b/\As=[de b (jG k n)]):=by refine aB.of λR C kd d F c cs aJ ai=>?_;refine H0 ?_;refine C.dk tU ?_;rintro v aO ⟨bv,bl,bp,bd,be,bu,rfl,rfl⟩;refine k8 ?_;refine C.bx rfl (λb9=>?_);refine bj ?_;refine At.aG n9 1 272 (At.aG rW 4 263 (At.aG bQ 7 190 (At.aG bQ 7 190 ?_)));refine At.yB (show At R d (all (([]:List (Int×fg)).map ql)::_) _ from ?_);refine de.cls ⟨k,n,true,[],0,[],[],[],[],[],[],[],0,0,[],[]⟩ ?_ (tl:=[]) (lg:=aG) (wt:=aG) (ot:=aG) (tm:=aG) (oQ.zero 0);exact C.a8 (aO:=[de b9 ⟨k,n,true,[],0,[],[],[],[],[],[],[],0,0,[],[]⟩]) aJ ai ⟨_,rfl,rfl⟩
theorem vW{key n:Int}(h1:97<=key/\key<=122)(hn:1<=n):aB prog ao bG 101 #[.int .u8 key,az n] [] (λv As=>v=az (ie key n)/\As=[]):=by refine aB.of λR C kd d F c cs aJ ai=>?_;refine pb ?_;refine ky ?_;refine C.rem rfl ?_;refine bj ?_;exact C.a8 aJ ai ⟨rfl,rfl⟩
theorem tV{I:HL}{so:ax}{ops:List cy}(ho:dX I cK 67 so ops)(hl:ops.length<2^43):aB prog ao bG 55 #[so.v] [a9 I] (λv As=>∃ s',v=s'.v/\As=[aW cK 3 67 s' ops,a9 I]):=by
 refine aB.of λR C kd d F c cs aJ ai=>?_;refine bI ?_;rcases ho with⟨rfl,rfl⟩|⟨pad,h1,h2⟩
 ·refine dm ?_;refine C.U4 rfl ?_ (a:=none) (len:=0) (cap:=0);refine cF ?_;refine At.aG cK 3 67 ?_;exact C.a8 aJ ai ⟨aG,rfl,rfl⟩
 ·have ho:dX I cK 67 so ops:=.inr ⟨pad,h1,h2⟩;have hv:so.v=.slice (some ⟨so.b,0,none⟩) so.len so.cap:=by unfold ax.v;rw[show so.a=some ⟨so.b,0,none⟩from congrArg ax.a h1]
  refine dm ?_;refine C.U4 rfl ?_ (a:=some ⟨so.b,0,none⟩) (len:=so.len) (cap:=so.cap) (hx:=hv);refine da ?_;refine C.bs0 cK rfl (λb5=>?_);refine fy ?_;refine C.EP (l:=[]) ops rfl (λs'=>?_) (hsrc:=λH st=>?_) (s:=⟨some ⟨b5,0,none⟩,0,0⟩)
  ·refine bj ?_;exact C.a8 aJ ai ⟨s',rfl,rfl⟩
  ·exact dF.src (dF.a9 Fo.au ho) st (λj=>rfl)
theorem Da{key n:Int}(h1: -1000<key)(h2:key<1000)(hn:0<n):aB prog ao bG 61 #[az key,az n] [] (λv As=>v=az (ie key n)/\As=[]):=by refine aB.of λR C kd d F c cs aJ ai=>?_;refine pb ?_;refine jL ?_;refine C.rem rfl ?_;refine bj ?_;exact C.a8 aJ ai ⟨rfl,rfl⟩
theorem pA{s:ax}{l:List Int}{x:Int}(hl:l.length<2^60):
  aB prog ao bG 196 #[s.v,az x] [aW aI 1 3 s l] (λv As=>v=.bool (l.contains x)/\As=[aW aI 1 3 s l]):=by
 refine aB.of λR C kd d F c cs aJ ai=>?_;refine H0 ?_;refine C.bS (X:=Nat) (λi=>[(0,s.v),(1,az x),(5,az i)]) (λ_=>aW aI 1 3 s l::F) (λi=>i<=l.length/\∀ j,j<i->l[j]? ≠some x) (λi=>l.length-i) 0 ⟨rfl,rfl,rfl,trivial⟩ ⟨ak,by intro j hj;omega⟩ ?_;intro i e ⟨hi,tL⟩ ih;refine cF ?_;refine C.cmp rfl (λh9=>?_) (λh9=>?_)
 ·refine jL ?_;refine C.cmp rfl (λxv=>?_) (λxv=>?_)
  ·refine cF ?_;refine C.a8 aJ ai ⟨?_,rfl⟩;have:x∈l:=by rw[<- xv];exact bC _
   simp[this]
  ·refine dV ?_;refine again ih (i+1) ⟨ak,λj hj=>?_⟩ ak;rcases mO.1 hj with h|rfl
   ·exact tL j h
   ·intro z;rw[fp ak]at z;exact xv (bY z)
 ·refine cF ?_;refine C.a8 aJ ai ⟨?_,rfl⟩;have:¬ x∈l:=λhm=>by obtain⟨j,hj,e⟩:=jO hm;exact tL j ak (by rw[fp hj,e])
  simp[this]
def tW:Option Nat->Int|some i=>i|none=> -1
theorem find_spec{b:Nat}{s:eX}{kind tx:Int}(hl:s.log.length<2^60):
  aB prog ao bG 191 #[.pointer (some ⟨b,0,none⟩),az kind,az tx] [dp b s] (λv As=>v=az (tW (bF s.abs.log kind tx))/\As=[dp b s]):=by
 refine aB.of λR C kd d F c cs aJ ai=>?_;refine bI ?_;refine dp.opn (h:=λlg vl lk un tm wt ot=>?_);have iA:∀ i (hi:i<s.log.length),s.abs.log[i]? =some (s.log[i]).toRecR:=λi hi=>by simp[eX.abs,hi]
 have xS:s.abs.log.length=s.log.length:=by simp[eX.abs]
 refine zb ?_;refine C.bS (X:=Int) (λx=>[(0,.pointer (some ⟨b,0,none⟩)),(1,az kind),(2,az tx),(7,az x)]) (λ_=>z5 b s lg vl lk un tm wt ot F) (λx=> -1<=x/\x<s.log.length/\bF s.abs.log kind tx=findD s.abs.log kind tx (x+1).toNat) (λx=>(x+1).toNat) _ ⟨rfl,rfl,rfl,rfl,trivial⟩ ⟨ak,ak,by unfold bF;rw[xS];congr 1;omega⟩ ?_;intro x e ⟨hx1,hx2,hf⟩ ih;refine da ?_;refine C.cmp rfl (λnz=>?_) (λnz=>?_)
 ·refine bj ?_;obtain⟨j,rfl⟩:=g7 nz;have e1:((j:Int)+1).toNat=j+1:=ak;rw[e1,findD,iA j ak]at hf;refine i6 ?_;refine C.cmp rfl (λum=>?_) (λum=>?_)
  ·refine i6 ?_;refine C.cmp rfl (λPK=>?_) (λPK=>?_)
   ·refine dV ?_;rw[aK (by simp[isRec,um,PK])]at hf;refine dp.cls s ?_;refine C.a8 aJ ai ⟨?_,rfl⟩;rw[hf];rfl
   ·refine jL ?_;rw[aq (by simp[isRec,PK])]at hf;refine again ih ((j:Int)-1) ⟨ak,ak,by rw[hf];congr 1;omega⟩ ak
  ·refine jW ?_;refine cN ?_;rw[aq (by simp[isRec,um])]at hf;refine again ih ((j:Int)-1) ⟨ak,ak,by rw[hf];congr 1;omega⟩ ak
 ·refine cF ?_;refine dp.cls s ?_;refine C.a8 aJ ai ⟨?_,rfl⟩;have:(x+1).toNat=0:=ak;rw[hf,this];rfl
theorem kj{b:Nat}{s:eX}{m:cu}(hl:s.out.length<2^34):aB prog ao bG 192 #[.pointer (some ⟨b,0,none⟩),.agg #[az m.kind,az m.aV,az m.to,az m.tx,.bool m.yes,m.so.v,m.sr.v]] [dp b s]
  (λv As=>As=[dp b {s with out:=s.out++[{m with aV:=s.me}]}]):=by
 refine aB.of λR C kd d F c cs aJ ai=>?_;refine bI ?_;refine dp.opn (h:=λlg vl lk un tm wt ot=>?_);refine bj ?_;refine C.bx rfl (λb3=>?_);refine ky ?_;refine C.dx (cm 9 0 10) 11 [6,7,10] 1 ?_;refine Lu ?_;refine Ch.m 6 (aP λe aa hk=>?_);refine C.n5 rfl (λb15=>hk _ _ .cons ?_);refine Ch.m 7 (aP λe aa hk=>?_);refine C.oh {m with aV:=s.me} rfl (λs'=>?_);refine hk _ _ ?_;refine Ch.m 10 (aP λe aa hk=>?_);refine C.st rfl (hk _ undef ?_);refine ee ?_;refine dp.cls {s with out:=s.out++[{m with aV:=s.me}]} ?_;exact C.cQ aJ ai rfl
theorem rX{b:Nat}{s:eX}{m:cu}(hl:s.waits.length<2^34):aB prog ao bG 212 #[.pointer (some ⟨b,0,none⟩),.agg #[az m.kind,az m.aV,az m.to,az m.tx,.bool m.yes,m.so.v,m.sr.v]] [dp b s]
  (λv As=>As=[dp b {s with waits:=s.waits++[{m with aV:=s.me}]}]):=by
 refine aB.of λR C kd d F c cs aJ ai=>?_;refine bI ?_;refine dp.opn (h:=λlg vl lk un tm wt ot=>?_);refine bj ?_;refine C.bx rfl (λb3=>?_);refine ky ?_;refine C.dx (cm 9 0 10) 11 [6,7,10] 1 ?_;refine Lu ?_;refine Ch.m 6 (aP λe aa hk=>?_);refine C.n5 rfl (λb15=>hk _ _ .cons ?_);refine Ch.m 7 (aP λe aa hk=>?_);refine C.oh {m with aV:=s.me} rfl (λs'=>?_);refine hk _ _ ?_;refine Ch.m 10 (aP λe aa hk=>?_);refine C.st rfl (hk _ undef ?_);refine ee ?_;refine dp.cls {s with waits:=s.waits++[{m with aV:=s.me}]} ?_;exact C.cQ aJ ai rfl
theorem pB{b:Nat}{s:eX}{tx:Int}(hl:s.log.length<2^60):
  aB prog ao bG 163 #[.pointer (some ⟨b,0,none⟩),az tx] [dp b s] (λv As=>v=az (tW (bJ s.abs.log tx))/\As=[dp b s]):=by
 refine aB.of λR C kd d F c cs aJ ai=>?_;refine H0 ?_;refine C.cE (find_spec (by first|assumption|omega)) ?_;refine sX ?_;refine C.cmp rfl (λAA=>?_) (λAA=>?_)
 ·refine cF ?_;refine C.a8 aJ ai ⟨?_,rfl⟩;cases hf:bF s.abs.log 3 tx with
  |none=>rw[hf]at AA;exact absurd AA (by decide)
  |some i=>simp[bJ,hf,tW]
 ·refine cF ?_;refine C.cE (find_spec (by first|assumption|omega)) ?_;refine jI ?_;refine C.a8 aJ ai ⟨?_,rfl⟩;cases hf:bF s.abs.log 3 tx with
  |none=>simp[bJ,hf]
  |some i=>rw[hf]at AA;exact absurd (show tW (some i)>=0 from Eu i) AA
theorem FH(l:List gU)(tx:Int):∀ i,i<=l.length->(∀ j (hj:j<l.length),j<i->l[j].tx≠tx)->cX l tx=(cX (l.drop i) tx).map (· +i):=by
 intro i
 induction i generalizing l with
 |zero=>intro _ _;simp[cX]
 |succ i ih=>
  intro hi hn;cases l with
  |nil=>simp at hi
  |cons u l=>
   have h0:=hn 0 (by simp) ak;have:=ih l (by simpa using hi) (λj hj C3=>hn (j+1) (by simpa using hj) ak);unfold cX at this⊢;rw[AU];have hb:(u.tx==tx)=false:=by simpa using h0
   rw[hb,VS];simp only[gR,eY];rw[this];simp[wB,Nat.add_assoc]
theorem nb{b:Nat}{s:eX}{tx:Int}(hl:s.under.length<2^60):
  aB prog ao bG 193 #[.pointer (some ⟨b,0,none⟩),az tx] [dp b s] (λv As=>v=az (tW (cX s.abs.under tx))/\As=[dp b s]):=by
 refine aB.of λR C kd d F c cs aJ ai=>?_;refine bI ?_;refine dp.opn (h:=λlg vl lk un tm wt ot=>?_);have xS:s.abs.under.length=s.under.length:=by simp[eX.abs]
 have iA:∀ i (hi:i<s.abs.under.length),s.abs.under[i].tx=(s.under[i]'(by omega)).tx:=λi hi=>by simp[eX.abs,fV.abs]
 refine dV ?_;refine C.bS (X:=Nat) (λi=>[(0,.pointer (some ⟨b,0,none⟩)),(1,az tx),(5,az i)]) (λ_=>z5 b s lg vl lk un tm wt ot F) (λi=>i<=s.under.length/\∀ j (hj:j<s.abs.under.length),j<i->s.abs.under[j].tx≠tx) (λi=>s.under.length-i) 0 ⟨rfl,rfl,rfl,trivial⟩ ⟨ak,by intro j _ hj;omega⟩ ?_;intro i e ⟨hi,tL⟩ ih;refine jL ?_;refine C.cmp rfl (λoa=>?_) (λoa=>?_)
 ·refine oW ?_;refine C.cmp rfl (λjz=>?_) (λjz=>?_)
  ·refine dm ?_;refine dp.cls s ?_;refine C.a8 aJ ai ⟨?_,rfl⟩;rw[FH s.abs.under tx i ak tL];have cG:i<s.abs.under.length:=ak;rw[i7 cG];unfold cX;rw[AU];have hb:(s.abs.under[i].tx==tx)=true:=by rw[iA];simpa using jz
   simp[hb,tW]
  ·refine dV ?_;refine again ih (i+1) ⟨ak,λj hj C3=>?_⟩ ak;rcases mO.1 C3 with h|rfl
   ·exact tL j hj h
   ·rw[iA];exact jz
 ·refine cF ?_;refine dp.cls s ?_;refine C.a8 aJ ai ⟨?_,rfl⟩;rw[FH s.abs.under tx i ak tL,qy ak];simp[cX,tW]
theorem FI{b:Nat}{s:eX}{key:Int}(hl:s.aH.length<2^60):
  aB prog ao bG 211 #[.pointer (some ⟨b,0,none⟩),az key] [dp b s] (λv As=>v=az (ja s.aH key)/\As=[dp b s]):=by
 refine aB.of λR C kd d F c cs aJ ai=>?_;refine bI ?_;refine dp.opn (h:=λlg vl lk un tm wt ot=>?_);refine dV ?_;refine C.bS (X:=Nat) (λi=>[(0,.pointer (some ⟨b,0,none⟩)),(1,az key),(5,az i)]) (λ_=>z5 b s lg vl lk un tm wt ot F) (λi=>i<=s.aH.length/\ja s.aH key=ja (s.aH.drop i) key) (λi=>s.aH.length-i) 0 ⟨rfl,rfl,rfl,trivial⟩ ⟨ak,rfl⟩ ?_;intro i e ⟨hi,hd⟩ ih;refine jL ?_;refine C.cmp rfl (λoa=>?_) (λoa=>?_)
 ·refine oW ?_;refine C.cmp rfl (λjz=>?_) (λjz=>?_)
  ·refine zb ?_;refine dp.cls s ?_;refine C.a8 aJ ai ⟨?_,rfl⟩;rw[hd,i7 ak];have hb:(s.aH[i].key==key)=true:=by simpa using jz
   unfold ja;rw[AT,hb];rfl
  ·refine dV ?_;refine again ih (i+1) ⟨ak,?_⟩ ak;rw[hd,i7 ak];have hb:(s.aH[i].key==key)=false:=by simpa using jz
   unfold ja;rw[AT,hb]
 ·refine cF ?_;refine dp.cls s ?_;refine C.a8 aJ ai ⟨?_,rfl⟩;rw[hd,qy ak];rfl
theorem vX{I:HL}{so:ax}{ops:List cy}{k n:Int}(ho:dX I gg 63 so ops)(hk:∀ o∈ops,97<=o.k/\o.k<=122)(hn:0<n)(hl:ops.length<2^30):
  aB prog ao bG 194 #[so.v,az k,az n] [a9 I] (λv As=>∃ s':ax,v=s'.v/\As=[aW gg 3 63 s' (aY ops k n),a9 I]):=by
 refine aB.of λR C kd d F c cs aJ ai=>?_;refine bI ?_;refine At.aG gg 3 63 ?_;refine i6 ?_;refine C.bS (X:=Nat×ax) (λx=>[(0,so.v),(1,az k),(2,az n),(7,x.2.v),(8,az x.1)]) (λx=>aW gg 3 63 x.2 (aY (ops.take x.1) k n)::a9 I::F) (λx=>x.1<=ops.length) (λx=>ops.length-x.1) (0,aG) ⟨rfl,rfl,rfl,rfl,rfl,trivial⟩ (by simp) ?_ (hI:=.refl);rintro⟨i,s1⟩ e hi ih;dsimp only at hi⊢;refine cF ?_;refine C.cmp rfl (λoa=>?_) (λoa=>?_)
 ·refine ky ?_;have cG:i<ops.length:=by simpa using oa
  have xq:=hk _ (bC cG);refine C.cE (Da (key:=ops[i].k) ak ak hn) ?_;refine pb ?_;refine fy ?_;refine C.cmp rfl (λRD=>?_) (λRD=>?_)
  ·refine dV ?_;refine C.lZ rfl (λhj=>?_);refine C.n5 rfl (λb29=>?_);refine C.oh ops[i] rfl (λs2=>?_) (hsz:=by have:=(uV (ops:=ops.take i) (k:=k) (n:=n)).length_le;simp only[iz]at this;omega);refine dV ?_;refine again ih (i+1,s2) (by simp;omega) (by simp;omega) (hr:=?_);have e1:aY (ops.take (i+1)) k n=aY (ops.take i) k n++[ops[i]]:=by rw[fq cG,Bq];simp[aY,RD]
   rw[e1];exact bZ.au
  ·refine dV ?_;refine again ih (i+1,s1) (by simp;omega) (by simp;omega) (hr:=?_);have e1:aY (ops.take (i+1)) k n=aY (ops.take i) k n:=by rw[fq cG,Bq];simp[aY,RD]
   rw[e1];exact bZ.au
 ·refine dm ?_;have:ops.take i=ops:=g5 (by simp at oa;omega);show At R d (aW gg 3 63 s1 (aY (ops.take i) k n)::a9 I::F) _;rw[this];exact C.a8 aJ ai ⟨s1,rfl,rfl⟩
theorem pC{I:HL}{so:ax}{ops:List cy}{k n:Int}(ho:dX I gg 63 so ops)(hk:∀ o∈ops,97<=o.k/\o.k<=122)(hn:0<n)(hl:ops.length<2^30):
  aB prog ao bG 213 #[so.v,az k,az n] [a9 I] (λv As=>v=.bool (cr ops k n)/\As=[a9 I]):=by
 refine aB.of λR C kd d F c cs aJ ai=>?_;refine Ls ?_;refine C.dk (vX ho hk hn hl) ?_;rintro v aO ⟨s',rfl,rfl⟩;refine k8 ?_;refine C.cmp rfl (λoa=>?_) (λoa=>?_)
 ·refine bj ?_;refine C.a8 aJ ai ⟨?_,rfl⟩;unfold cr;cases hp:aY ops k n with
  |nil=>rw[hp]at oa;simp at oa
  |cons _ _=>rfl
 ·refine bj ?_;refine C.a8 aJ ai ⟨?_,rfl⟩;unfold cr;cases hp:aY ops k n with
  |nil=>rfl
  |cons _ _=>rw[hp]at oa;simp at oa
def pD(l:List vU)(k:Int):Option vU:=l.find? λv=>v.aV==k
theorem H8(u:fV)(k:Int):bP u.abs k=(pD u.aT k).map (·.toVoteR):=by unfold bP pD fV.abs;simp only;rw[List.find?_map];rfl
def PL:Option vU->Value
 |some w=>.tuple #[.agg #[az w.aV,w.sr.v],.bool true]
 |none=>.tuple #[.agg #[az 0,aG.v],.bool false]
theorem ng{l:List vU}{sv:ax}{k x0:Int}{x1 x5:ax}{x3 x4:Bool}(hl:l.length<2^60):aB prog ao bG 195 #[.agg #[az x0,x1.v,sv.v,.bool x3,.bool x4,x5.v],az k] [aW qi 2 290 sv l]
  (λv As=>v=PL (pD l k)/\As=[aW qi 2 290 sv l]):=by
 refine aB.of λR C kd d F c cs aJ ai=>?_;refine jI ?_;refine C.bx rfl (λb2=>?_);refine C.al rfl (λb4=>?_);refine cF ?_;refine C.bS (X:=Nat) (λi=>[(1,az k),(2,.pointer (some ⟨b2,0,none⟩)),(4,.pointer (some ⟨b4,0,none⟩)),(6,az i)]) (λ_=>bX b4 _::bX b2 _::aW qi 2 290 sv l::F) (λi=>i<=l.length/\pD l k=pD (l.drop i) k) (λi=>l.length-i) 0 ⟨rfl,rfl,rfl,rfl,trivial⟩ ⟨ak,rfl⟩ ?_;intro i e ⟨hi,hd⟩ ih;refine dm ?_;refine C.cmp rfl (λq7=>?_) (λq7=>?_)
 ·refine i6 ?_;refine C.cmp rfl (λsZ=>?_) (λsZ=>?_)
  ·refine dV ?_;refine C.lZ rfl (λhj=>?_);refine C.po rfl ?_ (hv:=λv hv=>fM.one l[i] v (by simpa using hv));refine bj ?_;refine C.aai aJ ai (rs:=[.cell 4 290,.tmp 5]) (.cell (.tmp rfl .nil)) ⟨?_,rfl⟩;rw[hd,i7 ak];have hb:(l[i].aV==k)=true:=by simpa using sZ
   unfold pD;rw[AT,hb];rfl
  ·refine dV ?_;refine again ih (i+1) ⟨ak,?_⟩ ak;rw[hd,i7 ak];have hb:(l[i].aV==k)=false:=by simpa using sZ
   unfold pD;rw[AT,hb]
 ·refine dV ?_;refine C.aai aJ ai (rs:=[.cell 4 290,.tmp 5]) (.cell (.tmp rfl .nil)) ⟨?_,rfl⟩;rw[hd,qy ak];rfl
theorem zd(V:List Int)(l:List cy)(o:cy):g8 V (l++[o])=if o.w then g8 V l else g8 V l++[V[(o.k-97).toNat]?.getD 0]:=by unfold g8;cases h:o.w<;>simp[nE,h]
theorem vY{I:HL}{b:Nat}{s:eX}{so:ax}{ops:List cy}(ho:dX I gg 63 so ops)(hk:∀ o∈ops,97<=o.k/\o.k<=122)(hv:s.bH.length=26)(hl:ops.length<2^30):
  aB prog ao bG 210 #[.pointer (some ⟨b,0,none⟩),so.v] [dp b s,a9 I] (λv As=>∃ s':ax,v=s'.v/\As=[aW aI 1 3 s' (g8 s.bH ops),dp b s,a9 I]):=by
 refine aB.of λR C kd d F c cs aJ ai=>?_;refine bI ?_;refine dp.opn (h:=λlg vl lk un tm wt ot=>?_);refine At.aG aI 1 3 ?_;refine i6 ?_;refine C.bS (X:=Nat×ax) (λx=>[(0,.pointer (some ⟨b,0,none⟩)),(1,so.v),(5,x.2.v),(6,az x.1)]) (λx=>aW aI 1 3 x.2 (g8 s.bH (ops.take x.1))::z5 b s lg vl lk un tm wt ot (a9 I::F)) (λx=>x.1<=ops.length) (λx=>ops.length-x.1) (0,aG) ⟨rfl,rfl,rfl,rfl,trivial⟩ (by simp) ?_ (hI:=.refl);rintro⟨i,s1⟩ e hi ih;dsimp only at hi⊢;refine cF ?_;refine C.cmp rfl (λAA=>?_) (λAA=>?_)
 ·refine bj ?_;have cG:i<ops.length:=by simpa using AA
  have xq:=hk _ (bC cG);obtain⟨q,hq⟩:∃ q:Nat,ops[i].k-97=q:=⟨(ops[i].k-97).toNat,ak⟩;have pT:q<s.bH.length:=ak;have PM:(ops[i].k-97).toNat=q:=ak;refine jL ?_;refine C.pU (λH9=>?_) (λH9=>?_)
  ·refine C.go ?_;refine C.dx (cm 19 0 15++[(5,15)]) 16 [13,14,15] 1 ?_;refine gY ?_;refine Dr.p (λh=>C.ar rfl h (r:=(q:Int)) (ha:=congrArg some hq)) ?_;refine xr ?_;refine Ch.m 13 (aP λe aa hk=>?_);refine C.n5 rfl (λb32=>hk _ _ .cons ?_);refine Ch.m 14 (aP λe aa hk=>?_);refine C.oh s.bH[q] rfl (λs2=>?_) (hsz:=by have:=pN (λo:cy=> !o.w) (ops.take i);simp only[g8,dd,iz,jd,uv]at this⊢;omega);refine hk _ _ ?_;refine Ch.q 15 (λh=>C.lh rfl h) ?_;refine Nf ?_;refine again ih (i+1,s2) (by simp;omega) (by simp;omega) (hr:=?_);have e1:g8 s.bH (ops.take (i+1))=g8 s.bH (ops.take i)++[s.bH[q]]:=by
    have:ops[i].w=false:=by simpa using H9
    rw[fq cG,zd,this,PM,fp pT];rfl
   rw[e1];exact bZ.au
  ·refine dm ?_;refine again ih (i+1,s1) (by simp;omega) (by simp;omega) (hr:=?_);have e1:g8 s.bH (ops.take (i+1))=g8 s.bH (ops.take i):=by
    have:ops[i].w=true:=by simpa using H9
    rw[fq cG,zd,this];rfl
   rw[e1];exact bZ.au
 ·refine dm ?_;have e1:ops.take i=ops:=g5 (by simp at AA;omega);simp only[e1];refine dp.cls s ?_;exact C.a8 aJ ai ⟨s1,rfl,rfl⟩
end
end Go.Sl
