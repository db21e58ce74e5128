/-
  Texts that the proof needs, joined: part 4.
-/
import Derived.Test.YtjomdboiibakiaaGreatDoorEnC
set_option linter.unusedSimpArgs false
set_option linter.unusedVariables false
set_option maxHeartbeats 4000000
namespace Go.Sl
open Go.Proofs.Tryz
variable{a i g j d:Nat}{b s z s':ShR}{E:List aR}{A:Type}{t:dU}{n tx k me:Int}{w:WR}{O:List bO}{P:eg}{L log:List RecR}{r x r':RecR}{f:ShR->Int->List bO->ShR}{c:Code}{u:dS}{H:Int->Int}{o:bO}{reads:List (List Int)}
section
variable{T:List (List bO)}{n:Int}{P:eg}{R:ShR}{m:MsgR}
theorem pG{u v:dS}(h:u.bq=v.bq)(n:Int):∀ (l:List bO) (a:Int->Nat),il u n l a=il v n l a
 |[],_=>rfl
 |o::l,a=>by
  have b:∀ k,bJ u k=bJ v k:=λk=>by unfold bJ;rw[h]
  unfold il;simp only[b,pG h n l]
theorem Bi{a:m9}{b:dS}(g:UA n a b)(h:∀ k,cu b.ops k n=true->(aB a.bq k).isSome=true):∀ (l:List bO) (next:List (Int×Int)) (c:Int->Nat),(∀ k,(aB next k).getD 0=(c k:Int))->
  (∀ k,c k+Oj (br l k n)<=Oj (br b.ops k n))->(∀ o∈l,o∈b.ops)->jg a n l next=some (il b n l c)
 |[],_,_,_,_,_=>rfl
 |o::l,next,c,h1,p,i=>by
  unfold jg il;have hp:br (o::l) (atR o.k n) n=o::br l (atR o.k n) n:=by simp[br]
  have q:∀ k,k≠atR o.k n->br (o::l) k n=br l k n:=λk r=>by simp[br,j6 r]
  cases x:o.w with
  |true=>
   simp only[fq];refine Bi g h l next c h1 (λk=>?_) λo d=>i o<|fg _ d
   grind [atR,hp,Oj]
  |false=>
   simp only[fW,eQ];have d:o∈b.ops:=i o<|fX ..;have s:cu b.ops (atR o.k n) n=true:=by
    unfold cu;have:o∈br b.ops (atR o.k n) n:=by simp[br,d]
    have t:br b.ops (atR o.k n) n≠[]:=λe=>by rw[e]at this;cases this
    cases u:br b.ops (atR o.k n) n with
    |nil=>exact absurd u t
    |cons _ _=>rfl
   obtain⟨rs,m⟩:=oM.1<|h _ s;have f:=(g.vt _<|cg m).2;simp only at f;have v:(bJ b<|atR o.k n).map (·.reads)=some rs:=by rw[<- g.bq];exact m
   rw[m,v];simp only[iG,h1];have w:c (atR o.k n)<rs.length:=by grind [atR,hp,Oj]
   have hi:((c (atR o.k n):Nat):Int).toNat=c (atR o.k n):=ai;rw[hi,cQ w];simp only[iG];rw[Bi g h l (bC next (atR o.k n)<|(c (atR o.k n):Nat)+1) (λj=>if j=atR o.k n then c (atR o.k n)+1 else c j) (λk=>by
     rw[gn];by_cases e:k=atR o.k n
     .simp[e]
     .simp[e,h1]) (λk=>by
     have:=p k;by_cases e:k=atR o.k n
     .grind [hp,Oj]
     .rw[q k e]at this;simp only[ax e];exact this) λo d=>i o<|fg _ d]
   rfl
theorem HA{a:m9}{b:dS}(c:UA n a b)(d:∀ k,cu b.ops k n=true->(aB a.bq k).isSome=true):nF a n=some (jU b n):=by unfold nF jU;rw[c.ops];exact Bi c d b.ops [] (λ_=>0) (λk=>rfl) (λk=>by simp) λo h=>h
theorem SR(H:dA T n P R)(U:vd T)(L:0<n)(j:R.up=true)(hm:jM T n m)(y:m.kind=3)(W:m.to=R.me):dA T n (rJ P m) (kO R m):=by
 obtain⟨O,x,M⟩:=hm;have M:m.to=gp O n/\cu O m.aX n=true/\(m.yes=true->m.reads.length=Oj (br O m.aX n)):=by grind
 obtain⟨X,c2,c3⟩:=M;have N:=U.of x;unfold rJ kO;rcases qo (H.cr j) m.tx with⟨A,q⟩|⟨i,a,u,A,q,Y,Z,d⟩
 .rw[A,q];exact H
 .rw[A,q];simp only;rw[Y];simp only;have cY:u.ops=O:=by
   have:=d.ops
   grind
  by_cases l:u.dec=true
  .rw[aJ (d.ua.dec.trans l),aJ l];exact H
  .rw[ax (λz=>l<|d.ua.dec.symm.trans z),ax l];have l:u.dec=false:=by simpa using l
   have C7:(aB a.bq m.aX).isSome=(bJ u m.aX).isSome:=by rw[d.ua.bq];simp
   rw[C7];obtain⟨a1,B⟩:∃ a1,a1=(if(m.yes&& !(bJ u m.aX).isSome)=true then{a with bq:=bC a.bq m.aX m.reads}else a):=⟨_,rfl⟩;obtain⟨b,o⟩:∃ b,b=(if(m.yes&& !(bJ u m.aX).isSome)=true then{u with bq:=u.bq++[⟨m.aX,m.reads⟩]}else u):=⟨_,rfl⟩;rw[<- B,<- o];have c:l5 T n R.me (m.tx,a1) b:=by
    by_cases Q:(m.yes&& !(bJ u m.aX).isSome)=true
    .rw[aJ Q]at B o;subst B o;have m7:m.yes=true/\(bJ u m.aX).isSome=false:=by simpa using Q
     refine⟨d.tx,⟨d.ua.ops,d.ua.dec,d.ua.yes,λk=>?_,fR d.ua.vn,d.ua.an,d.ua.cf,d.ua.ap,λp hp=>?_,d.ua.at'⟩,d.ops,d.home⟩
     .show aB (bC a.bq m.aX m.reads) k=_;rw[gn,d.ua.bq]
      grind [bJ]
     .rcases eO hp with rfl|hp
      .grind
      .exact d.ua.vt p hp
    .grind
   have s:b.ops=O:=by rw[o];split<;>exact cY
   have C:b.tx=m.tx:=by rw[o];split<;>exact Z
   have S:a1.ops=O:=c.ua.ops.trans s;have MM:(m.yes&&decide (a1.bq.length<(dL a1.ops P.n).length))=(m.yes&& !gP R.n b.ops λk=>(bJ b k).isSome):=by
    rw[H.n1,H.n2,S,s]
    congr 1
    have e1:=vE (n:=n) (O:=O) c.ua.vn (λp hp=>by have:=(c.ua.vt p hp).1;rw[s]at this;exact this);have e2:=mR (n:=n) (O:=O) (p:=λk=>(bJ b k).isSome) N L;have e3:∀ k,(aB a1.bq k).isSome=(bJ b k).isSome:=λk=>by rw[c.ua.bq];simp
    simp only[e3]at e1;rw[<- e1]at e2;cases hA:gP n O λk=>(bJ b k).isSome with
    |true=>grind
    |false=>
      rw[hA]at e2;have:¬ (dL O n).length<=a1.bq.length:=λz=>by have:=e2.2 z;cases this
      simp;omega
   rw[MM];split
   ·
    exact{H with kl:=λh=>(H.kl h).aS,dn:=λh=>absurd (j.symm.trans h:true=false) (by decide),un:=λ_=>fR<|H.un j,cr:=λ_=>Fz (H.cr j) q c,ud:=λ_ w D t=>by{
     rcases gk D with h|rfl
     .exact H.ud j w h t
     .have:w.dec=false:=by rw[o];split<;>exact l
      rw[this]at t;cases t}}
   .rename_i Oo;have jo:(if m.yes=true then(nF a1 P.n).getD []else[])=if m.yes=true then jU {b with dec:=true,yes:=m.yes} R.n else[]:=by
     split
     .rename_i hy;have j9:∀ k,cu b.ops k n=true->(aB a1.bq k).isSome=true:=by
       have:(gP R.n b.ops λk=>(bJ b k).isSome)=true:=by grind
       rw[H.n2,s]at this;have:=(mR N L).1 this;intro k y;rw[s]at y;rw[c.ua.bq];simpa using this k y
      rw[H.n1,H.n2,HA c.ua j9,iG]
      grind [jU,pG]
     .rfl
    rw[jo];generalize anc:(if m.yes=true then jU {b with dec:=true,yes:=m.yes} R.n else[])=rd;have E:=H.FB j (e:=.dec m.tx m.yes rd) (P':={P with log:=P.log++[.dec m.tx m.yes rd],bF:=bC P.bF m.tx ⟨P.log.length,m.yes⟩}) (R':={R with log:=R.log++[{dz with kind:=2,tx:=m.tx,yes:=m.yes,reads:=rd}]})
     (.dec H.tA (by rw[x];rfl)) rfl rfl (KL.dec (tx:=m.tx) (yes:=m.yes) (reads:=rd)<|H.kl j).aS
    have F:l5 T n R.me (m.tx,{a1 with dec:=true,yes:=m.yes}) {b with dec:=true,yes:=m.yes}:=⟨c.tx,⟨c.ua.ops,rfl,rfl,c.ua.bq,c.ua.vn,c.ua.an,c.ua.cf,c.ua.ap,c.ua.vt,c.ua.at'⟩,c.ops,c.home⟩;have I:dA T n {P with cr:=bC P.cr m.tx {a1 with dec:=true,yes:=m.yes},log:=P.log++[.dec m.tx m.yes rd],bF:=bC P.bF m.tx ⟨P.log.length,m.yes⟩} {R with under:=R.under.set i {b with dec:=true,yes:=m.yes},log:=R.log++[{dz with kind:=2,tx:=m.tx,yes:=m.yes,reads:=rd}]}:=
     {E with kl:=λh=>(E.kl h).aS,dn:=λh=>absurd (j.symm.trans h:true=false) (by decide),un:=λ_=>fR<|H.un j,cr:=λ_=>Fz (H.cr j) q F,ud:=λ_ w D t=>by{
      rcases gk D with h|rfl
      .exact E.ud j w h t
      .show(aM (R.log++[_]) 2 b.tx).isSome=true;rw[dX,C];simp[isRec]}}
    have FC:∀ {r:ShR},r.me=R.me->r.me=gp O n:=λe=>by rw[e,<- W,X]
    have K:=Bf (J:=λp r=>dA T n p r/\r.me=R.me/\r.up=true) (O:=a1.ops) (f:=λz k _=>jx z {bA with kind:=4,to:=k,tx:=m.tx,yes:=m.yes}) (g:=λz k _=>fb z {bA with kind:=4,to:=k,tx:=m.tx,yes:=m.yes}) I.n1 I.n2
     (λp r k v ht _ _=>⟨v.1.wait v.2.2 ⟨O,x,.inr<|.inr<|.inr<|.inl ⟨rfl,FC v.2.1,by rw[<- S];exact ht,rfl⟩⟩,v.2.1,v.2.2⟩) ⟨I,rfl,j⟩
    have e4:(a1.ops:List bO)=b.ops:=c.ua.ops;rw[e4]at K⊢;exact K.1.wait K.2.2 ⟨O,x,.inr<|.inr<|.inr<|.inr<|.inr<|.inr ⟨rfl,rfl,rfl⟩⟩
theorem Wz(H:dA T n P R)(y:vd T)(A:0<n)(d:R.up=true)(hm:jM T n m)(K:m.kind=5)(L:m.to=R.me):dA T n (AU P m) (qj R m):=by
 obtain⟨O,B,C⟩:=hm;have C:m.to=gp O n/\cu O m.aX n=true:=by grind
 have D:=y.of B;unfold AU qj;rcases qo (H.cr d) m.tx with⟨j,f⟩|⟨i,a,u,j,f,v,M,b⟩
 .rw[j,f];exact H
 .rw[j,f];simp only;rw[v];simp only;have q:u.ops=O:=by
   have:=b.ops
   grind
  by_cases g:u.dec=true
  case neg=>rw[aJ (by rw[b.ua.dec];simpa using g),aJ<|by simpa using g];exact H
  case pos=>
   have E:¬ (!a.dec)=true:=by rw[b.ua.dec,g];simp
   have F:¬ (!u.dec)=true:=by rw[g];simp
   rw[ax E,ax F];have I:0<=(aB a.cf m.aX).getD 0:=by
    cases J:aB a.cf m.aX with
    |none=>simp
    |some c=>have:=b.ua.ap _<|cg J;simp at this⊢;omega
   have l:l5 T n R.me (m.tx,{a with cf:=bC a.cf m.aX<|(aB a.cf m.aX).getD 0+1}) {u with cf:=u.cf++[m.aX]}:=by
    refine⟨b.tx,⟨b.ua.ops,b.ua.dec,b.ua.yes,b.ua.bq,b.ua.vn,fR b.ua.an,λk=>?_,λp hp=>?_,b.ua.vt,λp hp=>?_⟩,b.ops,b.home⟩
    .show(aB (bC a.cf m.aX _) k).isSome=(u.cf++[m.aX]).contains k;rw[gn];by_cases e:k=m.aX
     .subst e;simp
     .rw[ax e,b.ua.cf];simp[e]
    .rcases eO hp with rfl|hp
     .grind
     .exact b.ua.ap p hp
    .rcases eO hp with rfl|hp
     .grind
     .exact b.ua.at' p hp
   have x:((bC a.cf m.aX<|(aB a.cf m.aX).getD 0+1).length=(dL a.ops P.n).length)↔(gP R.n u.ops λk=>(u.cf++[m.aX]).contains k)=true:=by have e0:a.ops=O:=b.ua.ops.trans q;rw[H.n1,H.n2,e0,q,mR D A,Ol l.ua.an (λp hp=>by have:=l.ua.at' p hp;simp only[q]at this;exact this)];have:=l.ua.cf;simp only at this;simp only[this]
   by_cases o:(gP R.n u.ops λk=>(u.cf++[m.aX]).contains k)=true
   .rw[aJ (x.2 o),aJ o];have r:eo (bC P.cr m.tx {a with cf:=bC a.cf m.aX<|(aB a.cf m.aX).getD 0+1}) m.tx=eo P.cr m.tx:=MJ _ _ _ (by rw[j];rfl);rw[r];exact{H with kl:=λh=>(H.kl h).aS,dn:=λh=>absurd (d.symm.trans h:true=false) (by decide),un:=λ_=>oh<|H.un d,cr:=λ_=>Wx (H.cr d) f,ud:=λ_ w s t=>H.ud d w ((kL ..).mem s) t}
   .rw[ax (λz=>o<|x.1 z),ax o];exact{H with kl:=λh=>(H.kl h).aS,dn:=λh=>absurd (d.symm.trans h:true=false) (by decide),un:=λ_=>fR<|H.un d,cr:=λ_=>Fz (H.cr d) f l,ud:=λ_ w s t=>by{
     rcases gk s with h|rfl
     .exact H.ud d w h t
     .exact H.ud d u (bD v) g}}
theorem HD(H:dA T n P R)(a:vd T)(b:0<n)(c:R.up=true)(hm:jM T n m)(d:m.to=R.me):dA T n (s6 P m) (cm R m):=by grind [s6,cm,On,Hy,SR,Km,Wz,Wy]
theorem HE(H:dA T n P R)(b:R.up=true):dA T n (u9 P) (kH R):=by
 unfold u9 kH;refine{H with kl:=λh=>(H.kl h).aS,aE:=?_,gl:=?_,waits:=rfl,out:=?_,wo:=?_,oo:=?_,dn:=?_}
 .show((P.log.length:Nat):Int)=(R.log.length:Nat);rw[H.len]
 .grind
 .show P.out++P.waits=R.out++R.waits;rw[H.out,H.waits]
 .intro x a;cases a
 .intro x a;rcases bS.1 a with h|h
  .exact H.oo x h
  .exact H.wo x h
 .grind
theorem Ea(H:dA T n P R)(a:Int):dA T n (om P a) (gb R a):=by
 have i:=H.gl;have b:=H.len;have e:P.aE+min (max a 0) ((P.log.length:Int)-P.aE)=R.aE+(if(if a<0 then 0 else a)<(R.log.length:Int)-R.aE then(if a<0 then 0 else a)else(R.log.length:Int)-R.aE):=by rw[H.aE,b];split<;>split<;>omega
 unfold om gb;simp only;rw[e];generalize d:R.aE+(if(if a<0 then 0 else a)<(R.log.length:Int)-R.aE then(if a<0 then 0 else a)else(R.log.length:Int)-R.aE)=g;have f:0<=g/\g<=R.log.length:=by grind
 refine⟨H.me,H.mb,H.n1,H.n2,rfl,?_,H.tA.init _,rfl,⟨f.1,?_⟩,rfl,rfl,rfl,H.out,(λx c=>by cases c),H.oo,(λx c=>by cases c),(λh=>by cases h),(λh=>by cases h),(λh=>by cases h),(λh=>by cases h),λ_=>⟨rfl,rfl,rfl,rfl,rfl,rfl⟩⟩
 .show(P.log.take g.toNat).map aR.aZ=R.log.take g.toNat;rw[Q7,H.log]
 .show g<=((R.log.take g.toNat).length:Nat);rw[nO];omega
variable{me:Int}
def SS(T:List (List bO))(n me:Int)(E:List aR):aR->Prop
 |.cK tx home O=>∃ full,opsOf T tx=some full/\cu full me n=true/\home=gp full n/\O=br full me n/\aM (E.map aR.aZ) 1 tx=none/\aM (E.map aR.aZ) 3 tx=none/\
    (∀ t i r,aL (E.map aR.aZ) t=some i->(E.map aR.aZ)[i]? =some r->∀ o∈r.ops,∀ o'∈O,o.k≠o'.k)
 |.dec tx _ _=>(opsOf T tx).isSome=true
 |.kY tx _=>(opsOf T tx).isSome=true/\aM (E.map aR.aZ) 3 tx=none
theorem eH.inv{e:aR}(h:eH T n me (E++[e])):eH T n me E/\SS T n me E e:=by
 generalize b:E++[e]=F at h;cases h with
 |nil=>simp at b
 |cK h1 a c d f g=>
  obtain⟨rfl,e2⟩:=Q8 b rfl;obtain rfl:=Q9.1 e2;exact⟨h1,_,a,c,rfl,rfl,d,f,g⟩
 |dec h1 a=>
  obtain⟨rfl,e2⟩:=Q8 b rfl;obtain rfl:=Q9.1 e2;exact⟨h1,a⟩
 |kY h1 a c=>
  obtain⟨rfl,e2⟩:=Q8 b rfl;obtain rfl:=Q9.1 e2;exact⟨h1,a,c⟩
theorem x6{l:List A}{x:A}(h:l[i]? =some x):l.take (i+1)=l.take i++[x]:=by rw[GV,h];rfl
theorem Ko(log:List RecR)(a tx:Int)(i:Nat):findD log a tx i=aM (log.take i) a tx:=by
 have key:∀ i,i<=log.length->findD log a tx i=aM (log.take i) a tx:=λi hi=>by grind [aM,List.length_take,List.take_append_drop,qm]
 have b:∀ j,findD log a tx (log.length+j)=findD log a tx log.length:=λj=>by
  induction j with
  |zero=>rfl
  |succ j c=>grind [findD]
 by_cases h:i<=log.length
 .exact key i h
 .have e:=b<|i-log.length
  grind
theorem Bj(E:List aR)(P:eg):∀ k,∃ a b c d e,lZ E k P={P with values:=a,aQ:=b,pend:=c,done:=d,bF:=e}
 |0=>⟨_,_,_,_,_,rfl⟩
 |k+1=>by
  obtain⟨a,b,c,d,e,h⟩:=Bj E P k;unfold lZ;cases f:E[k]? with
  |none=>exact⟨_,_,_,_,_,h⟩
  |some x=>
   simp only;rw[h];cases x<;>exact⟨_,_,_,_,_,rfl⟩
theorem ll(E:List RecR)(R:ShR):∀ k,∃ a b,de E k R={R with aQ:=a,bX:=b}
 |0=>⟨_,_,rfl⟩
 |k+1=>by
  obtain⟨a,b,h⟩:=ll E R k;unfold de;simp only;cases c:E[k]? with
  |none=>exact⟨_,_,h⟩
  |some x=>grind
theorem Eb(e:vd T){E:List aR}(p:eH T n me E)(P:eg)(R:ShR):∀ k,k<=E.length->KL (E.take k) (lZ E k<|jD P) (de (E.map aR.aZ) k<|bY R).aQ (de (E.map aR.aZ) k<|bY R).bX
 |0,_=>by grind [KL.start,lZ,de,bY]
 |k+1,F=>by
  have b:=Eb e p P R k ai;obtain⟨x,f⟩:∃ x,E[k]? =some x:=⟨E[k],cQ ai⟩;have hl:=p.init<|k+1;rw[x6 f]at hl⊢;obtain⟨u,q⟩:=hl.inv;have a:(E.take k).length=k:=by rw[nO];omega
  have v:(E.map aR.aZ)[k]? =some x.aZ:=by rw[jJ,f];rfl
  unfold lZ de;rw[f,v];simp only;cases x with
  |cK tx home O=>
   obtain⟨s,f1,f2,f3,f4,f5,f6,f7⟩:=q;have c:(aR.cK tx home O).aZ.kind=1:=rfl;rw[aJ c];have:=b.cK (tx:=tx) (home:=home) (O:=O) f5 f6 (λo d=>by
    cases h:aB (lZ E k<|jD P).aQ o.k with
    |none=>rfl
    |some t=>
     rw[b.lock]at h;have w:=(qn b.ln).1 h;obtain⟨i,r,h1,g,y,z,A⟩:=b.lk _ w;exact absurd A<|f7 t i r h1 g y z o d) (by rw[f4];exact(e.of f1).nod)
   rw[a]at this;exact this
  |dec tx yes reads=>
   have c:¬ (aR.dec tx yes reads).aZ.kind=1:=by simp[aR.aZ]
   have j:¬ (aR.dec tx yes reads).aZ.kind=3:=by simp[aR.aZ]
   rw[ax c,ax j];have:=b.dec (tx:=tx) (yes:=yes) (reads:=reads);rw[a]at this;exact this
  |kY tx yes=>
   obtain⟨_,f2⟩:=q;have c:¬ (aR.kY tx yes).aZ.kind=1:=by simp[aR.aZ]
   have j:(aR.kY tx yes).aZ.kind=3:=rfl;rw[ax c,aJ j];have B:aL ((E.take k).map aR.aZ) tx=findD (E.map aR.aZ) 1 tx k:=by grind [aL,Ko,List.map_take]
   have l:∀ i,aL ((E.take k).map aR.aZ) tx=some i->((E.take k).map aR.aZ)[i]? =(E.map aR.aZ)[i]? :=λi hi=>by grind [bG,cZ,List.map_take,List.length_map]
   have:=b.kY (tx:=tx) (yes:=yes) f2 (λi r h1 g o d=>by obtain⟨O,C,H,D,_⟩:=u.ready h1 g;rw[D]at d;exact(e.of C).key o d) (V':=match aL ((E.take k).map aR.aZ) tx with|some i=>if yes then cS (de (E.map aR.aZ) k<|bY R).bX ((((E.take k).map aR.aZ)[i]?).getD dz).ops else(de (E.map aR.aZ) k<|bY R).bX|none=>(de (E.map aR.aZ) k<|bY R).bX) rfl
   rw[a]at this;have e1:AR (E.map aR.aZ) (aR.kY tx yes).aZ.tx k=aL ((E.take k).map aR.aZ) tx:=B.symm;have e2:(aR.kY tx yes).aZ.yes=yes:=rfl;rw[e1,e2];cases m:aL ((E.take k).map aR.aZ) tx with
   |none=>rw[m]at this;exact this
   |some i=>
    rw[m]at this;simp only at this⊢;rw[l i m]at this;cases yes with
    |false=>exact this
    |true=>exact this
theorem HF(l:List Int):∀ (P:eg),l.foldl (λz tx=>kj z tx 3 false) P={P with timers:=P.timers++l.map λtx=>⟨P.clock+3,false,tx⟩}:=by
 induction l with
 |nil=>intro P;simp
 |cons x l a=>grind [kj]
theorem Ec(n:Int):(upto n).Pairwise (· < ·):=by unfold upto;rw[Ra];exact List.pairwise_lt_range.imp λh=>Int.ofNat_lt.2 h
theorem FD(j:vd T)(k:eH T n me E){d:List (Int×AT)}(l:(d.map (·.1)).Nodup)(hp:∀ tx,aB d tx=(aL (E.map aR.aZ) tx).bind λi=>((E.map aR.aZ)[i]?).map λr=>⟨i,r.home,r.ops⟩):
  km (d.map (·.1))=(upto 60).filter λtx=>(aL (E.map aR.aZ) tx).isSome:=by
 have m:(km (d.map (·.1))).Pairwise (· <= ·):=by have:=Rb (le:=λ(a b:Int)=>decide (a<=b)) (λa b c=>by simp;omega) (λa b=>by simp;omega) (d.map (·.1));exact this.imp λh=>by simpa using h
 have g:((upto 60).filter λtx=>(aL (E.map aR.aZ) tx).isSome).Pairwise (· < ·):=(Ec 60).sublist LX;have f:=Rc (d.map (·.1)) λ(a b:Int)=>decide (a<=b);refine Yi (le:=(· <= ·)) (λa b _ _ h1 q=>by omega) m (g.imp λh=>by omega) ?_;refine(List.perm_ext_iff_of_nodup (f.nodup_iff.2 l) (g.imp λh=>by omega)).2 λtx=>?_;rw[List.mem_mergeSort,gW,oy];constructor
 .intro h;have h1:¬ aB d tx=none:=λz=>(getM_none.1 z) h;rw[hp]at h1;cases e:aL (E.map aR.aZ) tx with
  |none=>rw[e]at h1;exact absurd rfl h1
  |some i=>
   obtain⟨_,r,hi,_⟩:=bG (cZ e).2;obtain⟨O,o,_⟩:=k.ready e hi;have:=ie o;have p:=j.2;exact⟨⟨this.1,ai⟩,rfl⟩
 .rintro⟨_,h⟩;refine sB.1 λz=>?_;have h1:=getM_none.2 z;rw[hp]at h1;obtain⟨i,e⟩:=oM.1 h;obtain⟨_,r,hi,_⟩:=bG (cZ e).2
  grind
theorem yQ(H:dA T n P R)(k:vd T):dA T n (ko P) (cD R):=by
 have f:=Eb k H.tA {P with up:=true} {R with up:=true} P.log.length<|fC _;rw[lA (fC _)]at f;have j:=FD k H.tA f.pn f.pend;unfold ko cD;simp only;rw[HF,j];rw[H.log]at f⊢;rw[<- H.len];obtain⟨a,b,c,d,e,m⟩:=Bj P.log (jD {P with up:=true}) P.log.length;obtain⟨v,w,o⟩:=ll R.log (bY {R with up:=true}) P.log.length;rw[m,o]at f⊢;refine⟨H.me,H.mb,H.n1,H.n2,rfl,H.log,H.tA,H.aE,H.gl,?_,rfl,rfl,H.out,(λx p=>by cases p),H.oo,?_,λ_=>?_,λ_=>.nil,λ_=>.nil,(λ_ u q=>by cases q),λh=>by cases h⟩
 .show[]++_=[]++iw _;unfold iw;rfl
 .intro t g;have g:t∈[]++iw R.log:=g;rw[ek,<- H.log]at g;unfold iw at g;obtain⟨tx,h1,rfl⟩:=cq.1 g;obtain⟨_,s⟩:=gW.1 h1;obtain⟨i,l⟩:=oM.1 s;obtain⟨_,r,hi,_⟩:=bG (cZ l).2;obtain⟨O,y,_⟩:=H.tA.ready l hi
  grind
 .exact f.aS
theorem Bl(H:dA T n P R)(k:Nat):dA T n {P with timers:=P.timers.eraseIdx k} {R with timers:=R.timers.eraseIdx k}:=
 {H with timers:=by{show P.timers.eraseIdx k=R.timers.eraseIdx k;rw[H.timers]},tt:=λt a=>H.tt t<|(kL ..).mem a,kl:=λh=>(H.kl h).aS}
theorem WA(H:dA T n P R)(Z:vd T)(j:R.up=true)(ht:(opsOf T t.tx).isSome=true):dA T n (AV P t) (lF R t):=by
 unfold AV lF;cases N:t.again with
 |false=>
  simp only[fW,eQ,NR,fq];rcases H.pend j t.tx with⟨o,q⟩|⟨d,r,O,o,q,Q,S,U,p6,W⟩
  .rw[o,q];exact H
  .rw[o,q];simp only;rw[Q,iG];have X:=H.send (m:={bA with kind:=6,to:=r.home,tx:=t.tx}) ⟨O,S,.inr<|.inr<|.inr<|.inr<|.inr<|.inl ⟨rfl,W,U,rfl⟩⟩;exact X.ve ht
 |true=>
  simp only[fq,uX,fW,eQ];unfold tc;rcases qo (H.cr j) t.tx with⟨s,v⟩|⟨i,a,u,s,v,E,F,b⟩
  .rw[s,v];exact H
  .rw[s,v];simp only;rw[E];simp only;have h:u.dec=true->decide (((aB P.bF t.tx).map (·.pl)).getD 0<P.aE)=(match aM R.log 2 t.tx with|some d=>decide ((d:Int)<R.aE)|none=>decide (-1<R.aE)):=λw=>by
    have:=H.ud j u (bD E) w;rw[F]at this;rcases H.bF j t.tx with⟨I,x⟩|⟨d,r,I,x,d3⟩
    .rw[x]at this;cases this
    .rw[I,x,H.aE];rfl
   suffices ao:∀ aE:Bool,(u.dec=true->decide (((aB P.bF t.tx).map (·.pl)).getD 0<P.aE)=aE)->dA T n (kj (sZ P a.ops λz k p=>
     if(!a.dec&& !(aB a.bq k).isSome)=true then fI z {bA with kind:=2,to:=k,tx:=t.tx,ops:=p}
     else if(a.dec&&decide (((aB P.bF t.tx).map (·.pl)).getD 0<P.aE)&&decide ((aB a.cf k).getD 0=0))=true then fI z {bA with kind:=4,to:=k,tx:=t.tx,yes:=a.yes}else z) t.tx 4 true)
     (let y:=gO R u.ops λz k p=>
      if(!u.dec&& !(bJ u k).isSome)=true then ee z {bA with kind:=2,to:=k,tx:=t.tx,ops:=p}
      else if(u.dec&&aE&& !u.cf.contains k)=true then ee z {bA with kind:=4,to:=k,tx:=t.tx,yes:=u.yes}else z
     {y with timers:=y.timers++[⟨y.clock+4,true,t.tx⟩]}) by
    cases K:aM R.log 2 t.tx with
    |none=>rw[K]at h;exact ao _ h
    |some d=>rw[K]at h;exact ao _ h
   clear h;intro aE h;have L:opsOf T t.tx=some u.ops:=by rw[<- F];exact b.ops
   have key:=Bf (J:=λp r=>dA T n p r/\r.me=R.me/\r.up=true) (O:=a.ops)
    (f:=λz k p=>if(!a.dec&& !(aB a.bq k).isSome)=true then fI z {bA with kind:=2,to:=k,tx:=t.tx,ops:=p}
     else if(a.dec&&decide (((aB P.bF t.tx).map (·.pl)).getD 0<P.aE)&&decide ((aB a.cf k).getD 0=0))=true then fI z {bA with kind:=4,to:=k,tx:=t.tx,yes:=a.yes}else z)
    (g:=λz k p=>if(!u.dec&& !(bJ u k).isSome)=true then ee z {bA with kind:=2,to:=k,tx:=t.tx,ops:=p}
     else if(u.dec&&aE&& !u.cf.contains k)=true then ee z {bA with kind:=4,to:=k,tx:=t.tx,yes:=u.yes}else z) H.n1 H.n2
    (λp r k e M _ _=>by
     have Y:(aB a.bq k).isSome=(bJ u k).isSome:=by rw[b.ua.bq];simp
     have A:decide ((aB a.cf k).getD 0=0)= !u.cf.contains k:=by
      have h1:=b.ua.cf k;cases B:aB a.cf k with
      |none=>rw[B]at h1;simp at h1⊢;exact h1
      |some c=>
       rw[B]at h1;have h2:=b.ua.ap _<|cg B
       grind
     have C:(a.dec&&decide (((aB P.bF t.tx).map (·.pl)).getD 0<P.aE)&&decide ((aB a.cf k).getD 0=0))=(u.dec&&aE&& !u.cf.contains k):=by
      rw[b.ua.dec,A];cases w:u.dec with
      |false=>rfl
      |true=>rw[h w]
     have D:a.ops=u.ops:=b.ua.ops;rw[C,b.ua.dec,Y,b.ua.yes];have l:r.me=gp u.ops n:=by rw[e.2.1,b.home]
     split
     .exact⟨e.1.send ⟨u.ops,L,.inr<|.inl ⟨rfl,l,by rw[<- D];exact M,by show br a.ops k n=br u.ops k n;rw[D]⟩⟩,e.2.1,e.2.2⟩
     split
     .exact⟨e.1.send ⟨u.ops,L,.inr<|.inr<|.inr<|.inl ⟨rfl,l,by rw[<- D];exact M,rfl⟩⟩,e.2.1,e.2.2⟩
     .exact e) ⟨H,rfl,j⟩
   rw[b.ua.ops]at key⊢;exact key.1.ve ht
theorem WB(s:ShR)(t:dU):(lF s t).up=s.up:=by
 have a:∀ (O:List bO) (f:ShR->Int->List bO->ShR),(∀ z k p,(f z k p).up=z.up)->∀ z,(gO z O f).up=z.up:=λO f b z=>by
  unfold gO;have:∀ (l:List Int) (n:Int) (z:ShR),(l.foldl (λz k=>if(br O k n).isEmpty then z else f z k (br O k n)) z).up=z.up:=λl n=>by
   induction l with
   |nil=>intro z;rfl
   |cons k l c=>grind
  exact this _ _ z
 unfold lF;split
 .split<;>rfl
 .split
  .rfl
  .split
   .rfl
   .simp only;refine a _ _ (λz k p=>?_) s;split
    .rfl
    .split<;>(split<;>rfl)
theorem HH{c:Int}:∀ (l:List dU) (i:Nat) (a:Option (Nat×dU)) (L:List dU),(∀ p,a=some p->p.2∈L)->(∀ t∈l,t∈L)->∀ p,mD c l i a=some p->p.2∈L
 |[],_,_,_,b,_,p,h=>b p h
 |t::l,i,a,L,b,hl,p,h=>by
  unfold mD at h;refine HH l (i+1) _ L (λq d=>?_) (λx e=>hl x<|fg _ e) p h;generalize(decide (t.tm<=c)&&_)=z at d;cases z with
  |true=>grind
  |false=>exact b q d
theorem Bm(a:vd T):∀ (f:Nat) (P:eg) (R:ShR),dA T n P R->R.up=true->dA T n (lY f P) (eG f R)
 |0,_,_,H,_=>H
 |f+1,P,R,H,b=>by
  unfold lY eG;have e1:mD P.clock P.timers 0 none=mD R.clock R.timers 0 none:=by rw[H.clock,H.timers]
  rw[e1];cases h:mD R.clock R.timers 0 none with
  |none=>exact H
  |some p=>
   obtain⟨k,t⟩:=p;simp only;have c:=H.tt t (HH R.timers 0 none R.timers (by simp) (λ_ h=>h) _ h);have d:=Bl H k;refine Bm a f _ _ (WA d a b c) ?_;rw[WB];exact b
theorem HI(H:dA T n P R)(a:vd T)(b:R.up=true):dA T n (qk P) (dv R):=by
 unfold qk dv;simp only;have e:Sk {P with clock:=P.clock+1}=xW {R with clock:=R.clock+1}:=by unfold Sk xW;simp only;rw[H.timers,H.clock]
 rw[e];refine Bm a _ _ _ {H with clock:=?_,kl:=λh=>(H.kl h).aS} b;show P.clock+1=R.clock+1;rw[H.clock]
end
section
structure WP where
 sh:List eg
 aH:List MsgR
 aC:List TxR
 aj:Bool
def Ed(n:Int):WP:=⟨(upto n).map λk=>Kf k n,[],[],false⟩
def oX(w:WP)(tx:Nat):WP:=
 match w.aC[tx]? with
 |none=>w
 |some t=>{w with aH:=w.aH++[{bA with kind:=1,aX:= -1,to:=gp t.ops w.sh.length,tx:=tx,ops:=t.ops}]}
def qp(w:WP)(O:List bO):WP×Int×Int:=
 if w.aj then(w,0,9)else if¬ gw O then(w,0,2)else if w.aC.length=60\/400<=w.aH.length then(w,0,3)
 else(oX {w with aC:=w.aC++[⟨O,1,[]⟩]} w.aC.length,w.aC.length,0)
def iN(w:WP)(a:Nat)(s:eg):WP:={w with sh:=w.sh.set a {s with out:=[]},aH:=w.aH++s.out}
def jE(aC:List TxR)(m:MsgR):List TxR:=
 match aC[m.tx.toNat]? with
 |none=>aC
 |some t=>if t.state=1 then aC.set m.tx.toNat (if m.yes then{t with state:=2,reads:=m.reads}else{t with state:=3})else aC
def jk(w:WP)(k i:Int):WP×Int:=
 if i<0\/(w.aH.length:Int)<=i then(w,5)else
 match w.aH[i.toNat]? with
 |none=>(w,5)
 |some m=>
  if k=4 then(if 400<=w.aH.length then(w,3)else({w with aH:=w.aH++[m]},0))else
  let w1:={w with aH:=w.aH.eraseIdx i.toNat}
  if k=3 then(w1,0)else
  if m.to= -1 then({w1 with aC:=jE w1.aC m},0)else
  match w1.sh[m.to.toNat]? with
  |none=>(w1,0)
  |some s=>if s.up then(iN w1 m.to.toNat<|s6 s m,0)else(w1,0)
def gS(w:WP)(k a b:Int):WP×Int:=
 if k<1\/8<k then(w,0)else if w.aj then(w,9)
 else if k=1 then(if a<0\/(w.aC.length:Int)<=a then(w,4)else if 400<=w.aH.length then(w,3)else(oX w a.toNat,0))
 else if k<=4 then jk w k a
 else if a<0\/(w.sh.length:Int)<=a then(w,6)
 else match w.sh[a.toNat]? with
  |none=>(w,6)
  |some s=>
   if k=8 then(if s.up then(w,8)else(iN w a.toNat<|ko s,0))
   else if !s.up then(w,7)
   else if k=5 then(iN w a.toNat<|u9 s,0)
   else if k=6 then(if 150<w.aH.length then(w,3)else(iN w a.toNat<|qk s,0))
   else(iN w a.toNat<|om s b,0)
def cy(aC:List TxR):List (List bO):=aC.map (·.ops)
structure jl(W:WP)(w:WR):Prop where
 n:1<=w.sh.length/\w.sh.length<=4
 len:W.sh.length=w.sh.length
 sh:∀ (i:Nat) P R,W.sh[i]? =some P->w.sh[i]? =some R->dA (cy w.aC) w.sh.length P R/\R.me=i/\R.out=[]
 aH:W.aH=w.aH
 aC:W.aC=w.aC
 st:W.aj=w.aj
 tok:vd (cy w.aC)
 msg:∀ m∈w.aH,jM (cy w.aC) w.sh.length m
theorem aaM(k n:Int):KL [] (Kf k n) [] bQ:=KL.start _
theorem dA.app{T:List (List bO)}{n:Int}{P:eg}{R:ShR}(H:dA T n P R)(c:List (List bO)):dA (T++c) n P R:=by
 have f:∀ tx,(opsOf T tx).isSome=true->(opsOf (T++c) tx).isSome=true:=λtx h=>by grind [Option.isSome_iff_exists,kC]
 exact{H with tA:=H.tA.app c,wo:=λm d=>(H.wo m d).app c,oo:=λm d=>(H.oo m d).app c,tt:=λt g=>f _<|H.tt t g,cr:=λh=>(H.cr h).mono λa b e=>{e with ops:=kC c e.ops}}
theorem MP(f:1<=n/\n<=4):jl (Ed n) (kP n):=by
 have hl:(upto n).length=n.toNat:=by simp[upto]
 have e1:(kP n).sh.length=n.toNat:=by simp[kP,hl]
 have e2:(((kP n).sh.length:Nat):Int)=n:=by rw[e1];omega
 refine⟨by rw[e1];omega,by simp[Ed,kP],λi P R a b=>?_,rfl,rfl,rfl,⟨by simp[kP,cy],by simp[kP,cy]⟩,by simp[kP]⟩;rw[e2];simp only[Ed,kP,jJ]at a b;cases c:(upto n)[i]? with
 |none=>rw[c]at a;cases a
 |some k=>
  rw[c]at a b;obtain rfl:=cA a;obtain rfl:=cA b;have d:=oy.1<|bD c;have e:k=i:=by grind [upto]
  refine⟨⟨rfl,d,rfl,rfl,rfl,rfl,.nil,rfl,⟨mI _,mI _⟩,rfl,rfl,rfl,rfl,(λm h=>by cases h),(λm h=>by cases h),(λm h=>by cases h),λ_=>aaM k n,λ_=>.nil,λ_=>.nil,(λ_ m h=>by cases h),λh=>by cases h⟩,e,rfl⟩
theorem jl.wY{W:WP}(H:jl W w):(cy w.aC).length=w.aC.length:=by simp[cy]
theorem Ou{aC:List TxR}{t:TxR}(h:aC[i]? =some t):opsOf (cy aC) i=some t.ops:=by grind [opsOf,cy]
variable{W:WP}{w:WR}
theorem jl.eI(H:jl W w)(i:Nat)(hi:i<w.sh.length):∃ P R,W.sh[i]? =some P/\w.sh[i]? =some R/\dA (cy w.aC) w.sh.length P R/\R.me=i/\R.out=[]:=by have h1:W.sh[i]? =some (W.sh[i]'(by rw[H.len];exact hi)):=cQ _;have a:w.sh[i]? =some w.sh[i]:=cQ _;exact⟨_,_,h1,a,H.sh i _ _ h1 a⟩
theorem jl.shape(H:jl W w):∃ sh,W=⟨sh,w.aH,w.aC,w.aj⟩:=by refine⟨W.sh,?_⟩;rw[<- H.aH,<- H.aC,<- H.st]
theorem Bn(H:jl W w)(tx:Nat):jl (oX W tx) (ic w tx):=by
 obtain⟨sh,rfl⟩:=H.shape;unfold oX ic;simp only;cases a:w.aC[tx]? with
 |none=>simp only;exact H
 |some t=>
  simp only;have hl:sh.length=w.sh.length:=H.len;refine{H with aH:=by{show w.aH++_=w.aH++_;rw[hl]},msg:=λm hm=>?_};rcases bS.1 hm with hm|hm
  .exact H.msg m hm
  .obtain rfl:=dR.1 hm;exact⟨t.ops,Ou a,.inl ⟨rfl,rfl,rfl,rfl⟩⟩
theorem jl.tx1(H:jl W w)(hr:gw O)(hl:w.aC.length≠60):jl {W with aC:=W.aC++[⟨O,1,[]⟩]} {w with aC:=w.aC++[⟨O,1,[]⟩]}:=by
 have e:cy (w.aC++[⟨O,1,[]⟩])=cy w.aC++[O]:=by simp[cy]
 refine⟨H.n,H.len,λi P R h1 d=>?_,H.aH,by show W.aC++_=w.aC++_;rw[H.aC],H.st,?_,λm f=>?_⟩
 .obtain⟨a,b,c⟩:=H.sh i P R h1 d;show dA (cy<|w.aC++_) _ _ _/\_;rw[e];exact⟨a.app _,b,c⟩
 .show vd (cy<|w.aC++_);rw[e];refine⟨λo g=>?_,?_⟩
  .rcases bS.1 g with h|h
   .exact H.tok.1 o h
   .grind
  .have:=H.tok.2;rw[H.wY]at this;rw[iV,H.wY,iR];omega
 .show jM (cy<|w.aC++_) _ _;rw[e];exact(H.msg m f).app _
theorem yS(H:jl W w)(O:List bO):jl (qp W O).1 (bZ w O).1/\(qp W O).2=(bZ w O).2:=by
 obtain⟨sh,rfl⟩:=H.shape;unfold qp bZ;simp only;split
 .exact⟨H,rfl⟩
 split
 .exact⟨H,rfl⟩
 split
 .exact⟨H,rfl⟩
 .rename_i h1 a b;have:=H.tx1 (sB.1 a) λz=>b<|.inl z
  grind [Bn]
theorem qq(H:jl W w){R:ShR}(ha:a<w.sh.length)(hr:dA (cy w.aC) w.sh.length P R)(f:R.me=a):jl (iN W a P) (gf w a R):=by
 unfold iN gf;have hl:(w.sh.set a {R with out:=[]}).length=w.sh.length:=eF ..;refine⟨by show 1<=(w.sh.set a _).length/\(w.sh.set a _).length<=4;rw[hl];exact H.n,by show(W.sh.set a _).length=(w.sh.set a _).length;rw[hl,eF];exact H.len,λi c d h1 b=>?_,by show W.aH++P.out=w.aH++R.out;rw[H.aH,hr.out],H.aC,H.st,H.tok,λm hm=>?_⟩
 .show dA _ ((w.sh.set a _).length:Nat) _ _/\_;rw[hl];have h1:(W.sh.set a {P with out:=[]})[i]? =some c:=h1;have b:(w.sh.set a {R with out:=[]})[i]? =some d:=b;by_cases e:a=i
  .subst e;rw[rB (by rw[H.len];exact ha)]at h1;rw[rB ha]at b;obtain rfl:=cA h1;obtain rfl:=cA b;exact⟨{hr with out:=rfl,oo:=(λm h=>by cases h),kl:=λh=>(hr.kl h).aS},f,rfl⟩
  .rw[rC e]at h1 b;exact H.sh i c d h1 b
 .show jM _ ((w.sh.set a _).length:Nat) _;rw[hl];rcases bS.1 hm with hm|hm
  .exact H.msg m hm
  .exact hr.oo m hm
theorem HJ(s:ShR)(m:MsgR):(cm s m).me=s.me/\(cm s m).n=s.n:=by
 have a:∀ (O:List bO) (f:ShR->Int->List bO->ShR),(∀ z k p,(f z k p).me=z.me/\(f z k p).n=z.n)->∀ z,(gO z O f).me=z.me/\(gO z O f).n=z.n:=λO f b z=>by
  unfold gO;have:∀ (l:List Int) (n:Int) (z:ShR),(l.foldl (λz k=>if(br O k n).isEmpty then z else f z k (br O k n)) z).me=z.me/\(l.foldl (λz k=>if(br O k n).isEmpty then z else f z k (br O k n)) z).n=z.n:=λl n=>by
   induction l with
   |nil=>intro z;exact⟨rfl,rfl⟩
   |cons k l c=>grind
  exact this _ _ z
 unfold cm;split
 .unfold gZ;split
  .split<;>exact⟨rfl,rfl⟩
  .split
   .exact⟨rfl,rfl⟩
   .simp only;refine a _ _ (λz k p=>?_) _;exact⟨rfl,rfl⟩
 split
 .unfold eN;split
  .split<;>exact⟨rfl,rfl⟩
  .split
   .split<;>exact⟨rfl,rfl⟩
   .split<;>exact⟨rfl,rfl⟩
 split
 .unfold kO;split
  .exact⟨rfl,rfl⟩
  .split
   .exact⟨rfl,rfl⟩
   .rename_i u _;split
    .exact⟨rfl,rfl⟩
    .simp only;generalize(if(m.yes&& !(bJ u m.aX).isSome)=true then({u with bq:=u.bq++[⟨m.aX,m.reads⟩]}:dS)else u)=d;split
     .exact⟨rfl,rfl⟩
     .refine a _ _ (λz k p=>?_) _;exact⟨rfl,rfl⟩
 split
 .unfold fY;split
  .grind [fb]
  .split
   .split<;>exact⟨rfl,rfl⟩
   .split<;>exact⟨rfl,rfl⟩
 split
 .grind [qj]
 split
 .unfold pE;split
  .split<;>exact⟨rfl,rfl⟩
  .split<;>exact⟨rfl,rfl⟩
 .exact⟨rfl,rfl⟩
theorem qX(aC:List TxR)(m:MsgR):cy (jE aC m)=cy aC:=by
 unfold jE;cases h:aC[m.tx.toNat]? with
 |none=>rfl
 |some t=>
  simp only;split
  .unfold cy;rw[Aq];have:(if m.yes=true then({t with state:=2,reads:=m.reads}:TxR)else{t with state:=3}).ops=t.ops:=by split<;>rfl
   rw[this];obtain⟨h1,a⟩:=dd.1 h;apply Du
   grind
  .rfl
theorem ng(w:WR)(m:MsgR):jV w m={w with aC:=jE w.aC m}:=by
 unfold jV jE;cases h:w.aC[m.tx.toNat]? with
 |none=>rfl
 |some t=>simp only;split<;>rfl
theorem WC(s:ShR)(t:dU):(lF s t).me=s.me:=by
 have a:∀ (O:List bO) (f:ShR->Int->List bO->ShR),(∀ z k p,(f z k p).me=z.me)->∀ z,(gO z O f).me=z.me:=λO f b z=>by
  unfold gO;have:∀ (l:List Int) (n:Int) (z:ShR),(l.foldl (λz k=>if(br O k n).isEmpty then z else f z k (br O k n)) z).me=z.me:=λl n=>by
   induction l with
   |nil=>intro z;rfl
   |cons k l c=>grind
  exact this _ _ z
 unfold lF;split
 .split<;>rfl
 .split
  .rfl
  .split
   .rfl
   .simp only;refine a _ _ (λz k p=>?_) s;split
    .rfl
    .split<;>(split<;>rfl)
theorem x7:∀ (f:Nat) (s:ShR),(eG f s).me=s.me
 |0,_=>rfl
 |f+1,s=>by
  unfold eG;split
  .rfl
  .rw[x7 f,WC]
theorem tB(s:ShR):(cD s).me=s.me/\(cD s).out=s.out:=by unfold cD;obtain⟨a,b,e⟩:=ll s.log (bY {s with up:=true}) s.log.length;simp only[e];exact⟨rfl,rfl⟩
theorem FE(H:jl W w)(k i:Int):jl (jk W k i).1 (fE w k i).1/\(jk W k i).2=(fE w k i).2:=by
 obtain⟨sh,rfl⟩:=H.shape;unfold jk fE;simp only;split
 .exact⟨H,rfl⟩
 cases p:w.aH[i.toNat]? with
 |none=>exact⟨H,rfl⟩
 |some m=>
  have j:=H.msg m<|bD p;simp only;split
  .split
   .exact⟨H,rfl⟩
   .refine⟨{H with aH:=rfl,msg:=λx a=>?_},rfl⟩;rcases bS.1 a with a|a
    .exact H.msg x a
    .grind
  have b:jl ⟨sh,w.aH.eraseIdx i.toNat,w.aC,w.aj⟩ {w with aH:=w.aH.eraseIdx i.toNat}:={H with aH:=rfl,msg:=λx a=>H.msg x<|(kL ..).mem a};split
  .exact⟨b,rfl⟩
  split
  .refine⟨?_,rfl⟩;rw[ng];refine⟨H.n,H.len,λi P R h1 d=>?_,rfl,rfl,H.st,?_,λx a=>?_⟩
   .show dA (cy<|jE w.aC m) _ _ _/\_;rw[qX];exact H.sh i P R h1 d
   .show vd (cy<|jE w.aC m);rw[qX];exact H.tok
   .show jM (cy<|jE w.aC m) _ _;rw[qX];exact b.msg x a
  .cases hs:w.sh[m.to.toNat]? with
   |none=>
    have:sh[m.to.toNat]? =none:=by rw[List.getElem?_eq_none_iff]at hs⊢;have:=H.len;simp only at this;omega
    rw[this];exact⟨b,rfl⟩
   |some R=>
    have l:=(dd.1 hs).1;obtain⟨P,v,h1,d,n,o,y⟩:=H.eI m.to.toNat l;rw[hs]at d;obtain rfl:=cA d;rw[h1];simp only;rw[n.up];split
    .rename_i A q r;have g:m.to=R.me:=by
      have:0<=m.to:=by
       have c:(0:Int)<w.sh.length:=by have:=H.n;omega
       obtain⟨O,s,t⟩:=j;have e:=H.tok.of s;have u:O≠[]:=by have:=e.2.2.1;intro z;rw[z]at this;simp at this
       have f:=(fM e c<|nb u).1;rcases t with h|h|h|h|h|h|h
       .rw[h.2.2.1];exact f
       .exact(fM e c h.2.2.1).1
       .rw[h.2.1];exact f
       .exact(fM e c h.2.2.1).1
       .rw[h.2.1];exact f
       .rw[h.2.1];exact f
       .exact absurd h.2.1 q
      rw[o];omega
     have c:(0:Int)<w.sh.length:=by have:=H.n;omega
     exact⟨qq b l (HD n H.tok c r j g)<|(HJ ..).1.trans o,rfl⟩
    .exact⟨b,rfl⟩
theorem MR(H:jl W w)(k a b:Int):jl (gS W k a b).1 (eV w k a b).1/\(gS W k a b).2=(eV w k a b).2:=by
 obtain⟨sh,rfl⟩:=H.shape;have hl:sh.length=w.sh.length:=H.len;unfold gS eV;dsimp only;rw[hl];by_cases l:k<1\/8<k
 .grind
 rw[ax l,ax l];by_cases m:w.aj=true
 .grind
 rw[ax m,ax m];by_cases n:k=1
 .grind [Bn]
 rw[ax n,ax n];by_cases o:k<=4
 .grind [FE]
 rw[ax o,ax o];by_cases p:a<0\/(w.sh.length:Int)<=a
 .grind
 rw[ax p,ax p];have c:a.toNat<w.sh.length:=ai;obtain⟨P,R,h1,r,d,f,t⟩:=H.eI a.toNat c;have h1:sh[a.toNat]? =some P:=h1;rw[h1,r];dsimp only;rw[d.up];by_cases g:k=8
 .rw[aJ g,aJ g];by_cases e:R.up=true
  .grind
  rw[ax e,ax e];refine⟨?_,rfl⟩;have s:=tB R;have:=qq H c (yQ d H.tok)<|s.1.trans f
  grind [gf,cD]
 rw[ax g,ax g];by_cases j:(!R.up)=true
 .grind
 rw[ax j,ax j];have q:R.up=true:=by simpa using j
 by_cases h:k=5
 .rw[aJ h,aJ h];exact⟨qq H c (HE d q) f,rfl⟩
 rw[ax h,ax h];by_cases i:k=6
 .rw[aJ i,aJ i];by_cases e:150<w.aH.length
  .grind
  rw[ax e,ax e];exact⟨qq H c (HI d H.tok q)<|(x7 ..).trans f,rfl⟩
 rw[ax i,ax i];exact⟨qq H c (Ea d b) f,rfl⟩
def wt(m:MsgR):Nat:=if m.kind=1 then 45 else if m.kind=2 then 11 else if m.kind=3 then 10 else if m.kind=4 then 2 else if m.kind=6 then 3 else 1
def ws(l:List MsgR):Nat:=(l.map wt).sum
theorem Kp(m:MsgR):1<=wt m/\wt m<=45:=by grind [wt]
theorem tC(a b:List MsgR):ws (a++b)=ws a+ws b:=by simp[ws]
theorem FF(m:MsgR):ws [m]=wt m:=by simp[ws]
theorem x8:ws []=0:=rfl
theorem vf:∀ l:List MsgR,l.length<=ws l/\ws l<=45*l.length
 |[]=>⟨fC _,fC _⟩
 |m::l=>by
  have h:=vf l
  grind [ws,wt]
structure jW(t:Nat)(U:List dS)(L:List RecR)(Ti:List dU)(W:List MsgR)(aE clock:Int):Prop where
 ub:∀ u∈U,u.dec=(aM L 2 u.tx).isSome
 un:(U.map (·.tx)).Nodup
 nd:((L.filter λr=>r.kind==2).map (·.tx)).Nodup
 tn:(Ti.map λt=>(t.again,t.tx)).Nodup
 ta:∀ t∈Ti,t.again=true->t.tx∈U.map (·.tx)\/(aM L 2 t.tx).isSome=true
 tb:∀ t∈Ti,t.again=false->(aM L 1 t.tx).isSome=true\/(aM L 3 t.tx).isSome=true
 wl:(W.length:Int)<=5*(L.length-aE)
 vn:∀ u∈U,(u.bq.map (·.aX)).Nodup
 an:∀ u∈U,u.cf.length<=t
 ck:0<=clock/\clock<=t
def l6(t:Nat)(s:ShR):Prop:=jW t s.under s.log s.timers s.waits s.aE s.clock
theorem x9{l:List dS}:bP l tx=none↔tx∉l.map (·.tx):=by grind [bP]
theorem vF(h:(aM L k tx).isSome=true):(aM (L++[r]) k tx).isSome=true:=by grind [dX]
theorem Bo:aM L 2 tx=none↔tx∉(L.filter λr=>r.kind==2).map (·.tx):=by
 rw[iM]
 grind
variable{t:Nat}{U U':List dS}{L:List RecR}{Ti:List dU}{W:List MsgR}{aE clock:Int}
theorem jW.wrote(h:jW t U L Ti W aE clock){w:List MsgR}(hr:r.kind=2->aM L 2 r.tx=none)(hm:U'.map (·.tx)=U.map (·.tx))(hu:∀ u∈U',u.dec=(aM (L++[r]) 2 u.tx).isSome)
  (hv:∀ u∈U',(u.bq.map (·.aX)).Nodup) (ha:∀ u∈U',u.cf.length<=t) (g:w.length<=5):jW t U' (L++[r]) Ti (W++w) aE clock:=by
 refine⟨hu,by rw[hm];exact h.un,?_,h.tn,λx c d=>?_,λx c d=>(h.tb x c d).imp vF vF,?_,hv,ha,h.ck⟩
 .rw[rA,eW];by_cases f:r.kind=2
  .have e:[r].filter (λr=>r.kind==2)=[r]:=by simp[f]
   rw[e];refine jc.2 ⟨h.nd,by simp,λa ha b i=>?_⟩
   grind [List.mem_singleton,Bo]
  .have e:[r].filter (λr=>r.kind==2)=[]:=by simp[f]
   rw[e];simpa using h.nd
 .rw[hm];exact(h.ta x c d).imp id vF
 .have:=h.wl
  grind
theorem jW.mono(h:jW t U L Ti W aE clock){a:Nat}(ht:t<=a):jW a U L Ti W aE clock:=
 {h with an:=λu b=>GJ (h.an u b) ht,ck:=⟨h.ck.1,by have:=h.ck.2;omega⟩}
theorem jW.ve(h:jW t U L Ti W aE clock){x:dU}(e:(x.again,x.tx)∉Ti.map λt=>(t.again,t.tx))(ha:x.again=true->x.tx∈U.map (·.tx)\/(aM L 2 x.tx).isSome=true)(d:x.again=false->(aM L 1 x.tx).isSome=true\/(aM L 3 x.tx).isSome=true):jW t U L (Ti++[x]) W aE clock:=by
 refine{h with tn:=?_,ta:=λy c=>?_,tb:=λy c=>?_}
 .rw[eW];refine jc.2 ⟨h.tn,by simp,λa ha b d=>?_⟩
  grind
 .rcases bS.1 c with c|c
  .exact h.ta y c
  .grind
 .rcases bS.1 c with c|c
  .exact h.tb y c
  .grind
theorem Kq{g:Int->List bO->MsgR}(c:Nat)(hc:∀ k p x,wt {g k p with aX:=x}=c):
  (∀ z k p,f z k p=ee z (g k p))->∀ z,∃ o,gO z O f={z with out:=z.out++o}/\o.length<=z.n.toNat/\ws o=c*o.length:=by
 intro e z;unfold gO;have key:∀ (l:List Int) (n:Int) (z:ShR),∃ o,l.foldl (λz k=>if(br O k n).isEmpty then z else f z k (br O k n)) z={z with out:=z.out++o}/\o.length<=l.length/\ws o=c*o.length:=by
  intro l n
  induction l with
  |nil=>intro z;exact⟨[],by simp,fC _,rfl⟩
  |cons k l a=>
   intro z;rw[qQ];split
   .obtain⟨o,h1,b,d⟩:=a z
    grind
   .rw[e];obtain⟨o,h1,b,d⟩:=a<|ee z<|g k<|br O k n
    grind [br,aX,ee,ws,wt]
 obtain⟨o,h1,b,d⟩:=key (upto z.n) z.n z
 grind [upto]
theorem HK{g:Int->List bO->MsgR}(c:Nat)(hc:∀ k p x,wt {g k p with aX:=x}=c):
  (∀ z k p,f z k p=fb z (g k p))->∀ z,∃ o,gO z O f={z with waits:=z.waits++o}/\o.length<=z.n.toNat/\ws o=c*o.length:=by
 intro e z;unfold gO;have key:∀ (l:List Int) (n:Int) (z:ShR),∃ o,l.foldl (λz k=>if(br O k n).isEmpty then z else f z k (br O k n)) z={z with waits:=z.waits++o}/\o.length<=l.length/\ws o=c*o.length:=by
  intro l n
  induction l with
  |nil=>intro z;exact⟨[],by simp,fC _,rfl⟩
  |cons k l a=>
   intro z;rw[qQ];split
   .obtain⟨o,h1,b,d⟩:=a z
    grind
   .rw[e];obtain⟨o,h1,b,d⟩:=a<|fb z<|g k<|br O k n
    grind [br,aX,fb,ws,wt]
 obtain⟨o,h1,b,d⟩:=key (upto z.n) z.n z
 grind [upto]
structure l7(t:Nat)(s s':ShR)(c:Nat):Prop where
 inv:l6 (t+1) s'
 o:∃ o w,s'.out=s.out++o/\s'.waits=s.waits++w/\o.length<=5/\ws o+ws w<=c
variable{s:ShR}{m:MsgR}
theorem l7.same(h:l6 t s)(c:Nat):l7 t s s c:=⟨jW.mono h<|pW t,[],[],by simp,by simp,by simp,by simp[ws]⟩
theorem l7.send(h:l6 t s){x:MsgR}{c:Nat}(hc:wt {x with aX:=s.me}<=c):l7 t s (ee s x) c:=
 ⟨jW.mono h<|pW t,[_],[],rfl,by simp[ee],by simp,by simpa[ws]using hc⟩
theorem vG{U:List dS}{v:dS}(h:U[i]? =some u)(e:v.tx=u.tx):(U.set i v).map (·.tx)=U.map (·.tx):=by grind [List.map_set,List.length_map,List.set_getElem_self]
theorem lq{U:List dS}(h:bP U tx=some i):∃ u,U[i]? =some u/\u.tx=tx:=by
 obtain⟨h1,a,_⟩:=yB.1 h
 grind
theorem Ov(h:l6 t s)(v:s.n<=4):l7 t s (gZ s m) 45:=by
 unfold gZ;cases j:aM s.log 2 m.tx with
 |some d=>
  simp only;split
  .exact .send h<|by simp[wt]
  .exact .same h _
 |none=>
  simp only;cases hu:bP s.under m.tx with
  |some i=>simpa using l7.same h _
  |none=>
   simp only[GI,fW,eQ];obtain⟨o,e1,e2,l⟩:=Kq (O:=m.ops) (f:=λz k p=>ee z {bA with kind:=2,to:=k,tx:=m.tx,ops:=p}) (g:=λk p=>{bA with kind:=2,to:=k,tx:=m.tx,ops:=p}) 11 (λk p x=>by simp[wt]) (λz k p=>rfl) {s with under:=s.under++[⟨m.tx,m.ops,[],false,false,[]⟩]};rw[e1];have n:=x9.1 hu;have h1:jW t (s.under++[⟨m.tx,m.ops,[],false,false,[]⟩]) s.log s.timers s.waits s.aE s.clock:=by
    refine⟨λu hu=>?_,?_,h.nd,h.tn,λx c q=>?_,h.tb,h.wl,λu hu=>?_,λu hu=>?_,h.ck⟩
    .rcases bS.1 hu with hu|hu
     .exact h.ub u hu
     .grind
    .rw[eW];refine jc.2 ⟨h.un,by simp,λa w b y=>?_⟩
     grind
    .rw[eW];exact(h.ta x c q).imp (λz=>iq _ z) id
    .rcases bS.1 hu with hu|hu
     .exact h.vn u hu
     .grind
    .rcases bS.1 hu with hu|hu
     .exact h.an u hu
     .grind
   have r:jW t (s.under++[⟨m.tx,m.ops,[],false,false,[]⟩]) s.log (s.timers++[⟨s.clock+4,true,m.tx⟩]) s.waits s.aE s.clock:=by
    refine h1.ve (λc=>?_) (λ_=>.inl<|by simp) (λz=>by cases z);obtain⟨x,c,e⟩:=cq.1 c;simp only[GM]at e;rcases h.ta x c e.1 with z|z
    .rw[e.2]at z;exact n z
    .rw[e.2,j]at z;cases z
   refine⟨jW.mono r<|pW t,o,[],rfl,by simp,?_,?_⟩
   .simp only at e2;omega
   .simp only at e2;rw[l];simp[ws];omega
theorem WE(h:l6 t s):l7 t s (pE s m) 3:=by
 unfold pE;cases b:aM s.log 2 m.tx with
 |some d=>
  simp only;split
  .exact .send h<|by simp[wt]
  .exact .same h _
 |none=>
  simp only;cases a:bP s.under m.tx with
  |some i=>simpa using l7.same h _
  |none=>
   simp only[GI,fW,eQ];have c:=x9.1 a;have h1:=jW.wrote h (U':=s.under) (r:={dz with kind:=2,tx:=m.tx}) (w:=[{bA with kind:=4,to:=m.aX,tx:=m.tx,aX:=s.me}]) (λ_=>b) rfl (λu a=>by rw[dX,ax (by simp[isRec];intro e;exact c<|cq.2 ⟨u,a,e.symm⟩)];exact h.ub u a) h.vn h.an<|by simp
   exact⟨jW.mono h1<|pW t,[],_,by simp[fb],rfl,by simp,by simp[ws,wt]⟩
theorem HM(h:l6 t s):l7 t s (eN s m) 11:=by
 unfold eN;simp only;cases a:aL s.log m.tx with
 |some r=>
  simp only;split
  .exact .send h<|by simp[wt]
  .exact .same h _
 |none=>
  simp only;cases f:aM s.log 3 m.tx with
  |some d=>
   simp only;split
   .exact .same h _
   .exact .send h<|by simp[wt]
  |none=>
   simp only;split
   .exact .send h<|by simp[wt]
   .have b:aM s.log 1 m.tx=none:=by unfold aL at a;rw[f]at a;simpa using a
    have h1:=jW.wrote h (U':=s.under) (r:={dz with kind:=1,tx:=m.tx,home:=m.aX,ops:=m.ops}) (w:=[{bA with kind:=3,to:=m.aX,tx:=m.tx,yes:=true,reads:=fH s.bX m.ops,aX:=s.me}]) (λz=>by simp at z) rfl (λu g=>by rw[dX,ax<|by simp[isRec]];exact h.ub u g) h.vn h.an<|by simp
    have i:=h1.ve (x:=⟨s.clock+3,false,m.tx⟩) (λc=>by
     obtain⟨x,c,e⟩:=cq.1 c;simp only[GM]at e;rcases h.tb x c e.1 with z|z
     .rw[e.2,b]at z;cases z
     .rw[e.2,f]at z;cases z) (λz=>by cases z) λ_=>.inl (by rw[dX,aJ<|by simp[isRec]];rfl)
    exact⟨jW.mono i<|pW t,[],_,by simp[fb],rfl,by simp,by simp[ws,wt]⟩
theorem Kr(h:l6 t s):l7 t s (fY s m) 2:=by
 have key:∀ (b:Bool),jW t s.under (s.log++[{dz with kind:=3,tx:=m.tx,yes:=b}]) s.timers (s.waits++[{bA with kind:=5,to:=m.aX,tx:=m.tx,aX:=s.me}]) s.aE s.clock:=λb=>
  jW.wrote h (U':=s.under) (r:={dz with kind:=3,tx:=m.tx,yes:=b}) (λz=>by simp at z) rfl (λu c=>by rw[dX,ax<|by simp[isRec]];exact h.ub u c) h.vn h.an (by simp)
 have fin:∀ (s':ShR) (b:Bool),s'.under=s.under->s'.log=s.log++[{dz with kind:=3,tx:=m.tx,yes:=b}]->s'.timers=s.timers->s'.waits=s.waits++[{bA with kind:=5,to:=m.aX,tx:=m.tx,aX:=s.me}]->s'.aE=s.aE->s'.clock=s.clock->s'.out=s.out->l7 t s s' 2:=λs' b e1 e2 g e i j f=>by
  refine⟨?_,[],_,by simpa using f,e,by simp,by simp[ws,wt]⟩
  grind [l6,jW.mono]
 unfold fY;cases k:aL s.log m.tx with
 |some r=>
  simp only;cases a:m.yes with
  |true=>exact fin _ m.yes rfl (by rw[a];rfl) rfl rfl rfl rfl rfl
  |false=>exact fin _ m.yes rfl (by rw[a];rfl) rfl rfl rfl rfl rfl
 |none=>
  simp only;cases l:aM s.log 3 m.tx with
  |some d=>
   simp only;split
   .exact .send h<|by simp[wt]
   .exact .same h _
  |none=>
   simp only;split
   .exact .same h _
   .exact fin _ m.yes rfl rfl rfl rfl rfl rfl rfl
theorem WH(h:l6 t s):l7 t s (qj s m) 1:=by
 unfold qj;cases l:bP s.under m.tx with
 |none=>exact .same h _
 |some i=>
  simp only;obtain⟨u,d,o⟩:=lq l;rw[d];simp only;have b:=bD d;by_cases f:u.dec=true
  case neg=>rw[aJ (by simpa using f)];exact .same h _
  case pos=>
   rw[ax (by simp[f])];have n:(aM s.log 2 u.tx).isSome=true:=by rw[<- h.ub u b,f]
   have c:=jW.mono h<|pW t;split
   .refine⟨⟨λv a=>h.ub v<|(kL ..).mem a,?_,h.nd,h.tn,λx g k=>?_,h.tb,h.wl,λv a=>h.vn v<|(kL ..).mem a,λv a=>c.an v<|(kL ..).mem a,c.ck⟩,[],[],by simp,by simp,by simp,by simp[ws]⟩
    .exact h.un.sublist<|(kL ..).map _
    .rcases h.ta x g k with z|z
     .by_cases ex:x.tx=u.tx
      .rw[ex];exact .inr n
      .refine .inl ?_;obtain⟨v,a,ev⟩:=cq.1 z;obtain⟨j,p⟩:=pV a
       grind [ev,List.mem_eraseIdx_iff_getElem?,Option.some.inj]
     .exact .inr z
   .have e:=vG (v:={u with cf:=u.cf++[m.aX]}) d rfl;refine⟨⟨λv a=>?_,by show(List.map _<|s.under.set i _).Nodup;rw[e];exact h.un,h.nd,h.tn,λx g k=>by show x.tx∈(s.under.set i _).map _\/_;rw[e];exact h.ta x g k,h.tb,h.wl,λv a=>?_,λv a=>?_,c.ck⟩,[],[],by simp,by simp,by simp,by simp[ws]⟩
    .rcases gk a with z|rfl
     .exact h.ub v z
     .exact h.ub u b
    .rcases gk a with z|rfl
     .exact h.vn v z
     .exact h.vn u b
    .rcases gk a with z|rfl
     .exact c.an v z
     .have:=h.an u b
      grind
theorem SW(h:l6 t s)(U:s.n<=4):l7 t s (kO s m) 10:=by
 unfold kO;cases K:bP s.under m.tx with
 |none=>exact .same h _
 |some i=>
  simp only;obtain⟨u,q,E⟩:=lq K;rw[q];simp only;have n:=bD q;by_cases y:u.dec=true
  case pos=>rw[aJ y];exact .same h _
  case neg=>
   rw[ax y];have y:u.dec=false:=by simpa using y
   have L:aM s.log 2 m.tx=none:=by
    have:=h.ub u n;rw[y,E]at this;cases M:aM s.log 2 m.tx with
    |none=>rfl
    |some d=>rw[M]at this;cases this
   obtain⟨c,A⟩:∃ c,c=(if(m.yes&& !(bJ u m.aX).isSome)=true then{u with bq:=u.bq++[⟨m.aX,m.reads⟩]}else u):=⟨_,rfl⟩;rw[<- A];have e1:c.tx=u.tx:=by rw[A];split<;>rfl
   have e2:c.dec=u.dec:=by rw[A];split<;>rfl
   have F:c.cf=u.cf:=by rw[A];split<;>rfl
   have H:(c.bq.map (·.aX)).Nodup:=by
    rw[A];split
    .rename_i I;have W:m.yes=true/\(bJ u m.aX).isSome=false:=by simpa using I
     show((u.bq++[_]).map _).Nodup;rw[eW];refine jc.2 ⟨h.vn u n,by simp,λa X b I=>?_⟩
     grind [ev,bJ]
    .exact h.vn u n
   have B:=jW.mono h<|pW t;split
   .have e:=vG (v:=c) q e1;refine⟨⟨λv l=>?_,by show(List.map _<|s.under.set i _).Nodup;rw[e];exact h.un,h.nd,h.tn,λx N P=>by show x.tx∈(s.under.set i _).map _\/_;rw[e];exact h.ta x N P,h.tb,h.wl,λv l=>?_,λv l=>?_,B.ck⟩,[],[],by simp,by simp,by simp,by simp[ws]⟩
    .rcases gk l with z|rfl
     .exact h.ub v z
     .rw[e1,e2];exact h.ub u n
    .rcases gk l with z|rfl
     .exact h.vn v z
     .exact H
    .rcases gk l with z|rfl
     .exact B.an v z
     .rw[F];exact B.an u n
   .generalize Y:(if m.yes=true then jU {c with dec:=true,yes:=m.yes} s.n else[])=rd;obtain⟨o,Q,R,Z⟩:=HK (O:=c.ops) (f:=λz k _=>fb z {bA with kind:=4,to:=k,tx:=m.tx,yes:=m.yes}) (g:=λk _=>{bA with kind:=4,to:=k,tx:=m.tx,yes:=m.yes}) 2 (λk p x=>by simp[wt]) (λz k p=>rfl) {s with under:=s.under.set i {c with dec:=true,yes:=m.yes},log:=s.log++[{dz with kind:=2,tx:=m.tx,yes:=m.yes,reads:=rd}]};rw[Q];simp only at R;have hi:=jW.wrote h (U':=s.under.set i {c with dec:=true,yes:=m.yes}) (r:={dz with kind:=2,tx:=m.tx,yes:=m.yes,reads:=rd}) (w:=o++[{bA with kind:=7,to:= -1,tx:=m.tx,yes:=m.yes,reads:=rd,aX:=s.me}]) (λ_=>L) (vG q e1) (λv l=>by
      rw[dX];rcases gk l with z|rfl
      .by_cases ev:v.tx=m.tx
       ·
        obtain⟨j,C,D⟩:=nJ l;rw[eF]at C;by_cases J:i=j
        .grind [isRec]
        .rw[LY J]at D;obtain⟨S,g2⟩:=dd.1 q;refine absurd ((List.getElem?_inj (by simpa using S) h.un).1 ?_) J
         grind
       .have T:¬ isRec 2 v.tx ({dz with kind:=2,tx:=m.tx,yes:=m.yes,reads:=rd}:RecR)=true:=by simp[isRec];intro e;exact ev e.symm
        rw[ax T];exact h.ub v z
      .rw[aJ (by simp[isRec,e1,E])];rfl) (λv l=>by
      rcases gk l with z|rfl
      .exact h.vn v z
      .exact H) (λv l=>by
      rcases gk l with z|rfl
      .exact h.an v z
      .show c.cf.length<=t;rw[F];exact h.an u n) (by rw[iV,iR];omega)
    refine⟨?_,[],o++[{bA with kind:=7,to:= -1,tx:=m.tx,yes:=m.yes,reads:=rd,aX:=s.me}],by simp[fb],by simp[fb],by simp,?_⟩
    .have:jW t (s.under.set i {c with dec:=true,yes:=m.yes}) (s.log++[{dz with kind:=2,tx:=m.tx,yes:=m.yes,reads:=rd}]) s.timers ((s.waits++o)++[{bA with kind:=7,to:= -1,tx:=m.tx,yes:=m.yes,reads:=rd,aX:=s.me}]) s.aE s.clock:=by rw[rT];exact hi
     exact jW.mono this<|pW t
    .grind [wt,bA,aX,MsgR,x8,tC,FF]
theorem HN(h:l6 t s)(a:s.n<=4):l7 t s (cm s m) (wt m):=by
 unfold cm;split
 .grind [wt,Ov]
 split
 .grind [wt,HM]
 split
 .grind [wt,SW]
 split
 .grind [wt,Kr]
 split
 .grind [wt,WH]
 split
 .grind [wt,WE]
 .exact .same h _
end
section
theorem iO{l:List Int}{c:Nat}(a:l.Nodup)(h:∀ x∈l,0<=x/\x<c):l.length<=c:=by have:=m4 a (b:=upto c) λx d=>oy.2<|h x d;simpa[upto]using this
variable{T:List (List bO)}{n me:Int}
theorem eH.keys{E:List aR}(h:eH T n me E)(g:vd T)(a:(((E.map aR.aZ).filter λr=>r.kind==2).map (·.tx)).Nodup):((E.map aR.aZ).map λr=>r.kind*60+r.tx).Nodup/\∀ r∈E.map aR.aZ,(1<=r.kind/\r.kind<=3)/\0<=r.tx/\r.tx<60:=by
 have d:∀ tx,(opsOf T tx).isSome=true->0<=tx/\tx<60:=λtx h=>by obtain⟨O,h⟩:=oM.1 h;have h1:=ie h;have b:=g.2;omega
 have add:∀ (E:List aR) (e:aR),(((E.map aR.aZ).map λr=>r.kind*60+r.tx).Nodup/\∀ r∈E.map aR.aZ,(1<=r.kind/\r.kind<=3)/\0<=r.tx/\r.tx<60)->(1<=e.aZ.kind/\e.aZ.kind<=3)->(0<=e.aZ.tx/\e.aZ.tx<60)->aM (E.map aR.aZ) e.aZ.kind e.aZ.tx=none->
   (((E++[e]).map aR.aZ).map λr=>r.kind*60+r.tx).Nodup/\∀ r∈(E++[e]).map aR.aZ,(1<=r.kind/\r.kind<=3)/\0<=r.tx/\r.tx<60:=λE e c j k l=>by
  rw[eW,eW]
  grind [List.nodup_append,List.mem_singleton,iM]
 induction h with
 |nil=>exact⟨.nil,by simp⟩
 |@cK E tx O h1 b f i m o c=>
  rw[eW,rA,eW]at a;exact add _ _ (c (jc.1 a).1) ⟨by simp[aR.aZ],by simp[aR.aZ]⟩ (d _ (by simp only[aR.aZ];rw[b];rfl)) i
 |@dec E tx yes reads h1 b c=>
  rw[eW,rA,eW]at a;refine add _ _ (c (jc.1 a).1) ⟨by simp[aR.aZ],by simp[aR.aZ]⟩ (d _ b) (Bo.2 λp=>?_)
  grind [aR.aZ]
 |@kY E tx yes h1 b f c=>
  rw[eW,rA,eW]at a;exact add _ _ (c (jc.1 a).1) ⟨by simp[aR.aZ],by simp[aR.aZ]⟩ (d _ b) f
variable{P:eg}{R:ShR}{t:Nat}
structure Bp(t:Nat)(s:ShR):Prop where
 log:s.log.length<=240
 waits:s.waits.length<=1200
 timers:s.timers.length<=120
 under:s.under.length<=60
 cr:∀ u∈s.under,u.bq.length<=4/\u.cf.length<=t/\gw u.ops
 aQ:s.aQ.length<=26
 aiN:∀ r∈s.log,(∀ o∈r.ops,97<=o.k/\o.k<=122)/\r.ops.length<=6
 bX:s.bX.length=26
 clock:0<=s.clock/\s.clock<=t
theorem ae2(H:dA T n P R)(k:vd T)(X:n<=4)(h:l6 t R):Bp t R:=by
 have p:=H.tA.keys k (by rw[H.log];exact h.nd);rw[H.log]at p;have L:R.log.length<=240:=by
  have:=iO (c:=240) p.1 (λx f=>by obtain⟨r,A,rfl⟩:=cq.1 f;have:=p.2 r A;omega)
  simpa using this
 have B:∀ tx,(opsOf T tx).isSome=true->0<=tx/\tx<60:=λtx h=>by obtain⟨O,h⟩:=oM.1 h;have h1:=ie h;have g:=k.2;omega
 have F:∀ u∈R.under,R.up=true/\∃ a,l5 T n R.me (u.tx,a) u:=λu hu=>by
  by_cases d:R.up=true
  .refine⟨d,?_⟩;have key:∀ {l:List (Int×m9)} {m:List dS},F2 (l5 T n R.me) l m->∀ u∈m,∃ a,l5 T n R.me (u.tx,a) u:=by
    intro l m M
    induction M with
    |nil=>intro u hu;cases hu
    |cons h1 g N=>
     intro u hu;rcases gU.1 hu with rfl|hu
     .rename_i a _ _;refine⟨a.2,?_⟩;rw[<- h1.tx];exact h1
     .exact N u hu
   exact key (H.cr d) u hu
  .have d:R.up=false:=by simpa using d
   exact absurd hu (by rw[show R.under=[]from(H.dn d).2.2.2.2.2];simp)
 refine⟨L,?_,?_,?_,λu hu=>?_,?_,λr A=>?_,?_,h.ck⟩
 .have:=h.wl;have:=H.gl;omega
 .have:=iO (c:=120) (l:=R.timers.map λt=>(if t.again then 60 else 0)+t.tx) (by
   have h1:=h.tn;have g:∀ x∈R.timers,0<=x.tx/\x.tx<60:=λx f=>B _<|H.tt x f;unfold List.Nodup at h1⊢;rw[Ra]at h1⊢;refine List.Pairwise.imp_of_mem (λ{a b} j Q S e=>?_) h1;have Y:=g a j;have Z:=g b Q;refine S ?_;cases U:a.again<;>cases eb:b.again<;>simp only[U,eb,fq,eQ,fW]at e<;>first|(exfalso;omega)|(rw[GM];exact⟨rfl,ai⟩)) (λx f=>by
   obtain⟨y,C,rfl⟩:=cq.1 f;have:=B _<|H.tt y C;split<;>omega)
  simpa using this
 .have:=iO (c:=60) h.un (λx f=>by obtain⟨u,hu,rfl⟩:=cq.1 f;obtain⟨_,a,j⟩:=F u hu;exact B _ (by rw[j.ops];rfl))
  simpa using this
 .obtain⟨_,a,j⟩:=F u hu;refine⟨?_,h.an u hu,k.of j.ops⟩;have:=iO (c:=4) (h.vn u hu) (λx f=>by
   obtain⟨v,hv,rfl⟩:=cq.1 f;have h1:(bJ u v.aX).isSome=true:=by grind [bJ]
   have g:=j.ua.bq v.aX;cases I:aB a.bq v.aX with
   |none=>rw[I]at g;cases q:bJ u v.aX with
    |none=>rw[q]at h1;cases h1
    |some z=>rw[q]at g;cases g
   |some rd=>
    have s:=(j.ua.vt _<|cg I).1;have D:0<n:=by have:=H.mb;omega
    have:=fM (k.of j.ops) D s;simp only at this;omega)
  simpa using this
 .by_cases d:R.up=true
  .have J:=H.kl d;have:=iO (c:=26) (l:=R.aQ.map λh=>h.key-97) (by
    have:=J.ln;unfold List.Nodup at this⊢;rw[Ra]at this⊢;exact this.imp λh e=>h ai) (λx f=>by
    obtain⟨y,C,rfl⟩:=cq.1 f;obtain⟨i,r,h1,g,o,s,h4⟩:=J.lk y C;obtain⟨O,w,_,E,_⟩:=H.tA.ready h1 g;rw[E]at s;have:=(k.of w).key o s;omega)
   simpa using this
  .have d:R.up=false:=by simpa using d
   rw[(H.dn d).2.2.2.1];simp
 .obtain⟨i,hi⟩:=pV A;rw[<- H.log]at hi;obtain⟨O,w,W⟩:=H.tA.tw i r hi;have p:r.kind≠1->r.ops=[]:=by
   rw[jJ]at hi;cases K:P.log[i]? with
   |none=>rw[K]at hi;cases hi
   |some e=>
    rw[K]at hi;obtain rfl:=cA hi;cases e with
    |cK=>intro z;exact absurd rfl z
    |dec=>intro _;rfl
    |kY=>intro _;rfl
  by_cases k1:r.kind=1
  .obtain⟨_,E,_⟩:=W k1;rw[E];exact⟨(k.of w).key,GJ (Dx ..) (k.of w).2.2.2⟩
  .rw[p k1];simp
 .by_cases d:R.up=true
  .exact(H.kl d).C5
  .have d:R.up=false:=by simpa using d
   rw[(H.dn d).2.2.1];rfl
theorem jW.fresh{aE:Int}{t:Nat}{W:List MsgR}(a:((L.filter λr=>r.kind==2).map (·.tx)).Nodup)(b:(W.length:Int)<=5*(L.length-aE)):jW t [] L [] W aE 0:=
 ⟨by simp,.nil,a,.nil,by simp,by simp,b,by simp,by simp,⟨mI _,ai⟩⟩
variable{s:ShR}
theorem SX(h:l6 t s):l6 (t+1) (kH s):=
 jW.mono (t:=t) {h with wl:=by{show(([]:List MsgR).length:Int)<=5*((s.log.length:Int)-(s.log.length:Nat));simp}} (pW t)
theorem Ox(h:l6 t s)(c:0<=s.aE/\s.aE<=s.log.length)(a:Int):l6 (t+1) (gb s a):=by
 unfold gb;simp only;generalize b:s.aE+(if(if a<0 then 0 else a)<(s.log.length:Int)-s.aE then(if a<0 then 0 else a)else(s.log.length:Int)-s.aE)=g;have d:0<=g/\g<=s.log.length:=by grind
 refine jW.fresh ?_ ?_
 .exact h.nd.sublist<|((List.take_sublist ..).filter _).map _
 .show(0:Int)<=5*(((s.log.take g.toNat).length:Nat)-g);rw[nO];omega
theorem HO(h:l6 t s)(k:s.aE<=s.log.length):l6 (t+1) (cD s):=by
 unfold cD;obtain⟨a,b,e⟩:=ll s.log (bY {s with up:=true}) s.log.length;simp only[e];have g:jW (t+1) [] s.log [] [] s.aE 0:=jW.fresh h.nd (by show(0:Int)<=_;omega);have j:((iw s.log).map λt=>(t.again,t.tx)).Nodup:=by grind [iw,List.map_map,upto,aL,Ec,List.filter_sublist]
 have d:∀ x∈iw s.log,x.again=false/\(aL s.log x.tx).isSome=true:=λx c=>by obtain⟨tx,h1,rfl⟩:=cq.1 c;exact⟨rfl,(gW.1 h1).2⟩
 refine{g with tn:=j,ta:=λx c f=>?_,tb:=λx c _=>?_}
 .rw[(d x c).1]at f;cases f
 .obtain⟨i,hi⟩:=oM.1 (d x c).2;refine .inl ?_;show(aM s.log 1 x.tx).isSome=true;rw[(cZ hi).2];rfl
theorem SY(hf:∀ z k p,∃ o,f z k p={z with out:=z.out++o}/\o.length<=1)(z:ShR):∃ o,gO z O f={z with out:=z.out++o}/\o.length<=z.n.toNat:=by
 unfold gO;have key:∀ (l:List Int) (n:Int) (z:ShR),∃ o,l.foldl (λz k=>if(br O k n).isEmpty then z else f z k (br O k n)) z={z with out:=z.out++o}/\o.length<=l.length:=by
  intro l n
  induction l with
  |nil=>intro z;exact⟨[],by simp,fC _⟩
  |cons k l b=>
   intro z;rw[qQ];split
   .obtain⟨o,h1,a⟩:=b z
    grind
   .obtain⟨o1,f1,f2⟩:=hf z k<|br O k n;rw[f1];obtain⟨o,h1,a⟩:=b {z with out:=z.out++o1}
    grind
 obtain⟨o,h1,a⟩:=key (upto z.n) z.n z;exact⟨o,h1,by simpa[upto]using a⟩
theorem WJ(h:l6 t s){k:Nat}{x:dU}(m:s.timers[k]? =some x)(B:s.n<=4):l6 t (lF {s with timers:=s.timers.eraseIdx k} x)/\∃ o,(lF {s with timers:=s.timers.eraseIdx k} x).out=s.out++o/\o.length<=5/\(lF {s with timers:=s.timers.eraseIdx k} x).waits=s.waits/\(lF {s with timers:=s.timers.eraseIdx k} x).n=s.n:=by
 have a:jW t s.under s.log (s.timers.eraseIdx k) s.waits s.aE s.clock:=
  {h with tn:=h.tn.sublist<|(kL ..).map _,ta:=λy b=>h.ta y<|(kL ..).mem b,tb:=λy b=>h.tb y<|(kL ..).mem b}
 have g:=bD m;have c:(x.again,x.tx)∉(s.timers.eraseIdx k).map λt=>(t.again,t.tx):=λn=>by
  obtain⟨y,b,C⟩:=cq.1 n;obtain⟨j,q,l⟩:=adM.1 b;obtain⟨v,D⟩:=dd.1 l;refine q<|(List.getElem?_inj (by rw[eM];exact v) h.tn).1 ?_
  grind
 unfold lF;cases e:x.again with
 |false=>
  simp only[NR,fq];cases E:aL s.log x.tx with
  |none=>exact⟨a,[],by simp,by simp,rfl,rfl⟩
  |some r=>
   simp only;rw[e]at c;exact⟨a.ve (x:=⟨s.clock+3,false,x.tx⟩) c (λz=>by cases z) λ_=>h.tb x g e,[_],rfl,by simp,rfl,rfl⟩
 |true=>
  simp only[uX,fW,eQ];cases w:bP s.under x.tx with
  |none=>exact⟨a,[],by simp,by simp,rfl,rfl⟩
  |some i=>
   simp only;obtain⟨u,A,F⟩:=lq w;rw[A];simp only;rw[e]at c
   suffices ao:∀ aE:Bool,∃ o,(gO {s with timers:=s.timers.eraseIdx k} u.ops λz k p=>
     if(!u.dec&& !(bJ u k).isSome)=true then ee z {bA with kind:=2,to:=k,tx:=x.tx,ops:=p}
     else if(u.dec&&aE&& !u.cf.contains k)=true then ee z {bA with kind:=4,to:=k,tx:=x.tx,yes:=u.yes}
     else z)={s with timers:=s.timers.eraseIdx k,out:=s.out++o}/\o.length<=5 by
    cases H:aM s.log 2 x.tx with
    |none=>
     obtain⟨o,e1,e2⟩:=ao<|decide (-1<s.aE);simp only;rw[e1];exact⟨a.ve (x:=⟨s.clock+4,true,x.tx⟩) c (λ_=>h.ta x g e) (λz=>by cases z),o,rfl,e2,rfl,rfl⟩
    |some d=>
     obtain⟨o,e1,e2⟩:=ao<|decide ((d:Int)<s.aE);simp only;rw[e1];exact⟨a.ve (x:=⟨s.clock+4,true,x.tx⟩) c (λ_=>h.ta x g e) (λz=>by cases z),o,rfl,e2,rfl,rfl⟩
   intro aE;obtain⟨o,e1,e2⟩:=SY (O:=u.ops) (f:=λz k p=>
     if(!u.dec&& !(bJ u k).isSome)=true then ee z {bA with kind:=2,to:=k,tx:=x.tx,ops:=p}
     else if(u.dec&&aE&& !u.cf.contains k)=true then ee z {bA with kind:=4,to:=k,tx:=x.tx,yes:=u.yes}
     else z) (λz k p=>by
      split
      .exact⟨[_],rfl,fC _⟩
      split
      .exact⟨[_],rfl,fC _⟩
      .exact⟨[],by simp,by simp⟩) {s with timers:=s.timers.eraseIdx k}
   exact⟨o,e1,by simp only at e2;omega⟩
theorem z9{c:Int}{L:List dU}:∀ (l:List dU) (i:Nat) (a:Option (Nat×dU)),(∀ p,a=some p->L[p.1]? =some p.2)->L.drop i=l->∀ p,mD c l i a=some p->L[p.1]? =some p.2
 |[],_,_,b,_,p,h=>b p h
 |x::l,i,a,b,e,p,h=>by
  unfold mD at h;refine z9 l (i+1) _ (λq d=>?_) (by rw[<- LQ,e];rfl) p h;generalize(decide (x.tm<=c)&&_)=z at d;cases z with
  |true=>
   obtain rfl:=cA d;have:(L.drop i)[0]? =some x:=by rw[e];rfl
   simpa using this
  |false=>exact b q d
theorem Bq:∀ (f:Nat) (s:ShR),l6 t s->s.n<=4->l6 t (eG f s)/\∃ o,(eG f s).out=s.out++o/\o.length<=5*f/\(eG f s).waits=s.waits
 |0,s,h,_=>⟨h,[],by simp[eG],by simp,rfl⟩
 |f+1,s,h,a=>by
  unfold eG;cases b:mD s.clock s.timers 0 none with
  |none=>exact⟨h,[],by simp,by simp,rfl⟩
  |some p=>
   obtain⟨k,x⟩:=p;simp only;have c:=z9 s.timers 0 none (L:=s.timers) (by simp) rfl _ b;obtain⟨h1,o1,e1,e2,e,d⟩:=WJ h c a;obtain⟨g,o2,f1,f2,f3⟩:=Bq f _ h1 (by rw[d];exact a)
   grind
theorem wZ(h:l6 t s)(a:s.n<=4)(ht:s.timers.length<=120):l6 (t+1) (dv s)/\∃ o,(dv s).out=s.out++o/\o.length<=605/\(dv s).waits=s.waits:=by
 unfold dv;simp only;have h1:l6 (t+1) {s with clock:=s.clock+1}:={jW.mono h (pW t)with ck:=by{have:=h.ck;show 0<=s.clock+1/\s.clock+1<=((t+1:Nat):Int);omega}}
 grind [Bq,xW,List.length_filter_le]
def jN(l:List ShR):Nat:=(l.map λs=>ws s.waits).sum
structure kJ(t:Nat)(w:WR):Prop where
 sh:∀ s∈w.sh,l6 t s
 phi:ws w.aH+jN w.sh<=300000
theorem ks:∀ {l:List ShR} {a:Nat} {s:ShR} (x:ShR),l[a]? =some s->jN (l.set a x)+ws s.waits=jN l+ws x.waits
 |y::l,0,s,x,h=>by grind [jN]
 |y::l,a+1,s,x,h=>by
  have:=ks (l:=l) x<|by simpa using h
  grind [jN]
theorem Aa{c:Nat}:∀ {l:List ShR},(∀ s∈l,ws s.waits<=c)->jN l<=l.length*c
 |[],_=>by simp[jN]
 |s::l,h=>by have h1:=Aa (l:=l) λx a=>h x<|fg _ a;have b:=h s<|fX ..;simp only[jN,jq,List.sum_cons,nN,rS]at h1⊢;omega
variable{W:WP}{w:WR}
theorem kJ.size(I:kJ t w)(H:jl W w){s:ShR}(hs:s∈w.sh):Bp t s/\0<=s.aE/\s.aE<=s.log.length/\s.n=w.sh.length/\s.out=[]:=by obtain⟨i,hi⟩:=pV hs;obtain⟨c,_⟩:=dd.1 hi;obtain⟨P,R,h1,b,a,e,d⟩:=H.eI i c;rw[hi]at b;obtain rfl:=cA b;exact⟨ae2 a H.tok (by have:=H.n;omega)<|I.sh _ hs,a.gl.1,a.gl.2,a.n2,d⟩
theorem kJ.waits(I:kJ t w)(H:jl W w):jN w.sh<=216000:=by
 have h1:∀ s∈w.sh,ws s.waits<=54000:=λs hs=>by have:=(I.size H hs).1.waits;have:=(vf s.waits).2;omega
 have:=Aa h1;have:=H.n
 grind
theorem kJ.mono(I:kJ t w):kJ (t+1) w:=⟨λs hs=>jW.mono (I.sh s hs)<|pW t,I.phi⟩
theorem kJ.push(I:kJ t w)(H:jl W w)(a:w.aH.length<400)(m:MsgR){aC:List TxR}:kJ (t+1) {w with aH:=w.aH++[m],aC:=aC}:=by
 refine⟨I.mono.sh,?_⟩;have h1:=I.waits H
 grind [vf,Kp,ws,jN,tC,FF]
theorem kJ.C8(I:kJ t w){s x:ShR}(ha:w.sh[a]? =some s)(hi:l6 (t+1) x)(b:ws w.aH+ws x.out+jN w.sh+ws x.waits<=300000+ws s.waits):kJ (t+1) (gf w a x):=by
 refine⟨λy c=>?_,?_⟩
 .rcases gk c with z|rfl
  .exact I.mono.sh y z
  .exact hi
 .have:=ks (l:=w.sh) {x with out:=[]} ha;show ws (w.aH++x.out)+jN (w.sh.set a {x with out:=[]})<=_;rw[tC];simp only at this;omega
theorem Ks(I:kJ t w)(H:jl W w)(a:w.aH.length<400)(tx:Nat):kJ (t+1) (ic w tx):=by
 unfold ic;split
 .exact I.mono
 .exact I.push H a _
theorem yT(I:kJ t w)(H:jl W w)(O:List bO):kJ (t+1) (bZ w O).1:=by
 unfold bZ;split
 .exact I.mono
 split
 .exact I.mono
 split
 .exact I.mono
 .rename_i h;dsimp only;unfold ic;simp only[E4 (fC _),Ar,QX];exact I.push H ai _
theorem qu:∀ {l:List MsgR} {i:Nat} {m:MsgR},l[i]? =some m->ws (l.eraseIdx i)+wt m=ws l
 |x::l,0,m,h=>by grind [ws]
 |x::l,i+1,m,h=>by
  have:=qu (l:=l) (i:=i)<|by simpa using h
  grind [ws]
theorem FH(I:kJ t w)(H:jl W w)(k i:Int):kJ (t+1) (fE w k i).1:=by
 unfold fE;by_cases c:i<0\/(w.aH.length:Int)<=i
 .rw[aJ c];exact I.mono
 rw[ax c];cases l:w.aH[i.toNat]? with
 |none=>exact I.mono
 |some m=>
  dsimp only;by_cases d:k=4
  .rw[aJ d];by_cases b:400<=w.aH.length
   .rw[aJ b];exact I.mono
   rw[ax b];exact I.push H ai m
  rw[ax d];have n:=qu l;have a:kJ t {w with aH:=w.aH.eraseIdx i.toNat}:=⟨I.sh,by have:=I.phi;show ws (w.aH.eraseIdx _)+jN w.sh<=_;omega⟩;by_cases b:k=3
  .rw[aJ b];exact a.mono
  rw[ax b];by_cases e:m.to= -1
  .rw[aJ e,ng];exact⟨a.mono.sh,a.phi⟩
  rw[ax e];cases hs:w.sh[m.to.toNat]? with
  |none=>exact a.mono
  |some s=>
   dsimp only;by_cases f:s.up=true
   .rw[aJ f];have g:=bD hs;have h:=I.size H g;have j:=HN (m:=m) (I.sh s g) (by rw[h.2.2.2.1];have:=H.n;omega);obtain⟨o,x,e1,e2,p,q⟩:=j.o;refine a.C8 hs j.inv ?_;rw[e1,e2,h.2.2.2.2,ek,tC];have:=I.phi
    grind
   .rw[ax f];exact a.mono
theorem MU(I:kJ t w)(H:jl W w)(k a b:Int):kJ (t+1) (eV w k a b).1:=by
 unfold eV;by_cases i:k<1\/8<k
 .rw[aJ i];exact I.mono
 rw[ax i];by_cases j:w.aj=true
 .rw[aJ j];exact I.mono
 rw[ax j];by_cases l:k=1
 .rw[aJ l];by_cases c:a<0\/(w.aC.length:Int)<=a
  .rw[aJ c];exact I.mono
  rw[ax c];by_cases u:400<=w.aH.length
  .rw[aJ u];exact I.mono
  grind [Ks]
 rw[ax l];by_cases m:k<=4
 .rw[aJ m];exact FH I H k a
 rw[ax m];by_cases n:a<0\/(w.sh.length:Int)<=a
 .rw[aJ n];exact I.mono
 rw[ax n];have v:a.toNat<w.sh.length:=ai;obtain⟨P,R,h1,d,F,J,h⟩:=H.eI a.toNat v;have f:=bD d;have g:=I.size H f;have x:=I.phi;rw[d];dsimp only;by_cases p:k=8
 .rw[aJ p];by_cases c:R.up=true
  .rw[aJ c];exact I.mono
  rw[ax c];have A:=HO (I.sh R f) g.2.2.1;refine⟨λy B=>?_,?_⟩
  .rcases gk B with z|rfl
   .exact I.mono.sh y z
   .exact A
  .have K:(cD R).waits=[]:=by unfold cD;obtain⟨a,b,e⟩:=ll R.log (bY {R with up:=true}) R.log.length;simp only[e];rfl
   grind [ks,cD,x8,ws,jN]
 rw[ax p];by_cases q:(!R.up)=true
 .rw[aJ q];exact I.mono
 rw[ax q];by_cases r:k=5
 .rw[aJ r];refine I.C8 d (SX<|I.sh R f) ?_;show ws w.aH+ws (R.out++R.waits)+_+ws []<=_;rw[h,ek,x8];omega
 rw[ax r];by_cases s:k=6
 .rw[aJ s];by_cases c:150<w.aH.length
  .rw[aJ c];exact I.mono
  rw[ax c];obtain⟨C,o,D,L,E⟩:=wZ (I.sh R f) (by rw[g.2.2.2.1];have:=H.n;omega) g.1.timers;refine I.C8 d C ?_;rw[D,E,h,ek];have e1:=I.waits H
  grind [vf]
 rw[ax s];refine I.C8 d (Ox (I.sh R f) ⟨g.2.1,g.2.2.1⟩ b) ?_;show ws w.aH+ws R.out+_+ws []<=_;rw[h,x8];omega
theorem MV{n:Int}:kJ 0 (kP n):=by
 refine⟨λs hs=>?_,?_⟩
 .obtain⟨k,_,rfl⟩:=cq.1 hs;exact jW.fresh .nil<|mI _
 .have:jN (kP n).sh<=(kP n).sh.length*0:=Aa λs hs=>by obtain⟨k,_,rfl⟩:=cq.1 hs;exact fC _
  show 0+_<=_;omega
theorem jl.ae3(H:jl W w){m:MsgR}(hm:m∈w.aH):(∀ o∈m.ops,97<=o.k/\o.k<=122)/\m.ops.length<=6:=by
 obtain⟨O,b,e⟩:=H.msg m hm;have c:=H.tok.of b;have d:(∀ o∈O,97<=o.k/\o.k<=122)/\O.length<=6:=⟨λo h=>⟨(c.1 o h).1,(c.1 o h).2.1⟩,c.2.2.2⟩;have a:∀ l:List bO,l=[]->(∀ o∈l,97<=o.k/\o.k<=122)/\l.length<=6:=λl h=>by subst h;simp
 rcases e with h|h|h|h|h|h|h
 .rw[h.2.2.2];exact d
 .rw[h.2.2.2];refine⟨λo b=>d.1 o (gW.1 b).1,GJ (Dx _ _) d.2⟩
 .exact a _ h.2.2.2.2
 .exact a _ h.2.2.2
 .exact a _ h.2.2.2
 .exact a _ h.2.2.2
 .exact a _ h.2.2
theorem jl.mto(H:jl W w){m:MsgR}(hm:m∈w.aH):(m.to= -1/\0<=m.tx/\m.tx<w.aC.length)\/(0<=m.to/\m.to<w.sh.length):=by
 obtain⟨O,d,f⟩:=H.msg m hm;have a:=H.tok.of d;have c:(0:Int)<w.sh.length:=by have:=H.n;omega
 have g:O≠[]:=by have:=a.2.2.1;intro z;rw[z]at this;simp at this
 have b:=fM a c<|nb g;rcases f with h|h|h|h|h|h|h
 .rw[h.2.2.1];exact .inr b
 .exact .inr<|fM a c h.2.2.1
 .rw[h.2.1];exact .inr b
 .exact .inr<|fM a c h.2.2.1
 .rw[h.2.1];exact .inr b
 .rw[h.2.1];exact .inr b
 .have:=ie d;have e:=H.wY;refine .inl ⟨h.2.1,?_,?_⟩<;>omega
theorem kJ.aH(I:kJ t w):w.aH.length<=300000:=by have h1:=(vf w.aH).1;have a:=I.phi;omega
theorem kJ.take(I:kJ t w)(H:jl W w){s:ShR}(hs:s∈w.sh){m:MsgR}(hm:m∈w.aH):(cm s m).out.length<=5:=by obtain⟨h1,_,_,c,a⟩:=I.size H hs;obtain⟨_,o,w',e1,_,b,_⟩:=HN (m:=m) (I.sh s hs) (by have:=H.n;omega);rw[e1,a];simpa using b
theorem jl.ae4(H:jl W w){x:TxR}(hx:x∈w.aC):(∀ o∈x.ops,97<=o.k/\o.k<=122)/\x.ops.length<=6/\1<=x.ops.length:=by have a:=H.tok.1 x.ops (by unfold cy;exact cq.2 ⟨x,hx,rfl⟩);exact⟨λo h=>⟨(a.1 o h).1,(a.1 o h).2.1⟩,a.2.2.2,a.2.2.1⟩
theorem jl.aiP(H:jl W w):w.aC.length<=60:=by have:=H.tok.2;have e:=H.wY;omega
variable{φ:Int->Prop}
def w5(φ:Int->Prop)(l:List bO):Prop:=∀ o∈l,φ o.v
def nG(φ:Int->Prop)(l:List Int):Prop:=∀ x∈l,φ x
def Oy(φ:Int->Prop)(m:MsgR):Prop:=w5 φ m.ops/\nG φ m.reads
def WK(φ:Int->Prop)(r:RecR):Prop:=w5 φ r.ops/\nG φ r.reads
def aaN(φ:Int->Prop)(u:dS):Prop:=w5 φ u.ops/\∀ v∈u.bq,nG φ v.reads
structure fN(φ:Int->Prop)(s:ShR):Prop where
 log:∀ r∈s.log,WK φ r
 bX:nG φ s.bX
 cr:∀ u∈s.under,aaN φ u
 waits:∀ m∈s.waits,Oy φ m
 out:∀ m∈s.out,Oy φ m
structure ya(φ:Int->Prop)(w:WR):Prop where
 sh:∀ s∈w.sh,fN φ s
 aH:∀ m∈w.aH,Oy φ m
 aC:∀ t∈w.aC,w5 φ t.ops/\nG φ t.reads
theorem w5.nil:w5 φ []:=λ_ h=>by cases h
theorem nG.nil:nG φ []:=λ_ h=>by cases h
theorem jO{p:A->Prop}{l:List A}{x:A}(h:∀ y∈l,p y)(hx:p x):∀ y∈l++[x],p y:=λy a=>by grind
theorem oA{p:A->Prop}{l:List A}{i:Nat}{x:A}(h:∀ y∈l,p y)(hx:p x):∀ y∈l.set i x,p y:=λy a=>by grind
theorem Br{p:A->Prop}{l:List A}{i:Nat}(h:∀ y∈l,p y):∀ y∈l.eraseIdx i,p y:=λy a=>h y<|(kL ..).mem a
theorem w5.part{l:List bO}(h:w5 φ l)(k n:Int):w5 φ (br l k n):=λo a=>h o (gW.1 a).1
theorem fN.ee{s:ShR}(h:fN φ s){m:MsgR}(hm:Oy φ m):fN φ (ee s m):={h with out:=jO h.out hm}
theorem fN.fb{s:ShR}(h:fN φ s){m:MsgR}(hm:Oy φ m):fN φ (fb s m):={h with waits:=jO h.waits hm}
theorem fN.sj{s:ShR}(h:fN φ s)(t:List dU):fN φ {s with timers:=t}:={h with}
theorem fN.wrote{s:ShR}(h:fN φ s)(hr:WK φ r):fN φ {s with log:=s.log++[r]}:={h with log:=jO h.log hr}
theorem fN.WL{s:ShR}(h:fN φ s)(i:Nat):WK φ (s.log[i]?.getD dz):=by
 cases e:s.log[i]? with
 |none=>exact⟨.nil,.nil⟩
 |some r=>exact h.log r<|bD e
theorem fN.each{s:ShR}(h:fN φ s)(b:w5 φ O)(hf:∀ z k p,fN φ z->w5 φ p->fN φ (f z k p)):fN φ (gO s O f):=by
 unfold gO;have key:∀ (l:List Int) (z:ShR) (n:Int),fN φ z->fN φ (l.foldl (λz k=>if(br O k n).isEmpty then z else f z k (br O k n)) z):=by
  intro l
  induction l with
  |nil=>intro z n a;exact a
  |cons k l c=>
   intro z n a;rw[qQ];refine c _ n ?_;split
   .exact a
   .exact hf _ _ _ a<|b.part k n
 exact key _ _ _ h
theorem nG.seen{a:List Int}(b:φ 0)(h:nG φ a)(O:List bO):nG φ (fH a O):=λx c=>by
 obtain⟨o,_,rfl⟩:=cq.1 c;cases e:a[(o.k-97).toNat]? with
 |none=>exact b
 |some v=>exact h v<|bD e
theorem nG.write:∀ {O:List bO} {a:List Int},nG φ a->w5 φ O->nG φ (cS a O)
 |[],_,h,_=>h
 |o::l,a,h,b=>by
  show nG φ (cS (if o.w then a.set (o.k-97).toNat o.v else a) l);refine nG.write ?_ λx c=>b x<|fg _ c;split
  .exact oA h<|b o<|fX ..
  .exact h
theorem nG.il{u:dS}(b:φ 0)(h:∀ v∈u.bq,nG φ v.reads)(n:Int):∀ (l:List bO) (a:Int->Nat),nG φ<|il u n l a
 |[],_=>.nil
 |o::l,a=>by
  unfold Go.Sl.il;split
  .exact nG.il b h n l a
  .intro x c;rcases gU.1 c with rfl|c
   .cases e:bJ u (atR o.k n)with
    |none=>simpa using b
    |some v=>
     simp only[lQ,iG];cases e2:v.reads[a (atR o.k n)]? with
     |none=>exact b
     |some y=>exact h v (GU e) y<|bD e2
   .exact nG.il b h n l _ x c
theorem fN.at{s:ShR}(h:fN φ s)(e:s.under[i]? =some u):aaN φ u:=h.cr u<|bD e
theorem SZ{s:ShR}{m:MsgR}(c:φ 0)(h:fN φ s)(hm:Oy φ m):fN φ (cm s m):=by
 unfold cm;split
 .unfold gZ;split
  .split
   .exact h.ee ⟨.nil,(h.WL _).2⟩
   .exact h
  .split
   .exact h
   .refine fN.sj (fN.each (s:={s with under:=s.under++[⟨m.tx,m.ops,[],false,false,[]⟩]}) {h with cr:=jO h.cr ⟨hm.1,by simp⟩} hm.1 λz k p d hp=>d.ee ⟨hp,.nil⟩) _
 split
 .unfold eN;split
  .split
   .exact h.ee ⟨.nil,h.bX.seen c _⟩
   .exact h
  .split
   .split
    .exact h
    .exact h.ee ⟨.nil,.nil⟩
   .split
    .exact h.ee ⟨.nil,.nil⟩
    .exact fN.sj (fN.fb (s:={s with aQ:=u6 s.aQ m.tx m.ops,log:=s.log++[{dz with kind:=1,tx:=m.tx,home:=m.aX,ops:=m.ops}]}) {h with log:=jO h.log ⟨hm.1,.nil⟩} ⟨.nil,h.bX.seen c _⟩) _
 split
 .unfold kO;split
  .exact h
  .rename_i i _;split
   .exact h
   .rename_i u e;have b:=h.at e;split
    .exact h
    .simp only;obtain⟨a,f⟩:∃ a,a=(if(m.yes&& !(bJ u m.aX).isSome)=true then({u with bq:=u.bq++[⟨m.aX,m.reads⟩]}:dS)else u):=⟨_,rfl⟩;rw[<- f];have h1:aaN φ a:=by
      rw[f];split
      .exact⟨b.1,jO b.2 hm.2⟩
      .exact b
     split
     .exact{h with cr:=oA h.cr h1}
     .have g:nG φ (if m.yes=true then jU {a with dec:=true,yes:=m.yes} s.n else[]):=by
       split
       .exact nG.il (u:={a with dec:=true,yes:=m.yes}) c h1.2 _ _ _
       .exact .nil
      refine fN.fb (fN.each (s:={s with under:=s.under.set i {a with dec:=true,yes:=m.yes},log:=s.log++[_]}) {h with cr:=oA h.cr h1,log:=jO h.log ⟨.nil,g⟩} h1.1 λz k p d _=>d.fb ⟨.nil,.nil⟩) ⟨.nil,g⟩
 split
 .unfold fY;split
  .simp only;refine fN.fb ?_ ⟨.nil,.nil⟩;split
   .exact{h with log:=jO h.log ⟨.nil,.nil⟩,bX:=h.bX.write (h.WL _).1}
   .exact{h with log:=jO h.log ⟨.nil,.nil⟩}
  .split
   .split
    .exact h.ee ⟨.nil,.nil⟩
    .exact h
   .split
    .exact h
    .exact fN.fb (h.wrote ⟨.nil,.nil⟩) ⟨.nil,.nil⟩
 split
 .unfold qj;split
  .exact h
  .split
   .exact h
   .rename_i u e;have b:=h.at e;split
    .exact h
    .simp only;split
     .exact{h with cr:=Br h.cr}
     .exact{h with cr:=oA h.cr b}
 split
 .unfold pE;split
  .split
   .exact h.ee ⟨.nil,.nil⟩
   .exact h
  .split
   .exact h
   .exact fN.fb (h.wrote ⟨.nil,.nil⟩) ⟨.nil,.nil⟩
 .exact h
theorem S0{s:ShR}(h:fN φ s):fN φ (kH s):=⟨h.log,h.bX,h.cr,λm hm=>(by cases hm),λm hm=>by
 rcases bS.1 hm with hm|hm
 .exact h.out m hm
 .exact h.waits m hm⟩
theorem WM{s:ShR}(h:fN φ s)(t:dU):fN φ (lF s t):=by
 unfold lF;split
 .split
  .exact fN.sj (h.ee ⟨.nil,.nil⟩) _
  .exact h
 .split
  .exact h
  .split
   .exact h
   .rename_i u e;have b:=h.at e;refine fN.sj (fN.each h b.1 λz k p a hp=>?_) _
    repeat' split
    all_goals first|exact a|exact a.ee ⟨hp,nG.nil⟩|exact a.ee ⟨w5.nil,nG.nil⟩
theorem Bt:∀ (f:Nat) {s:ShR},fN φ s->fN φ (eG f s)
 |0,_,h=>h
 |f+1,s,h=>by
  unfold eG;split
  .exact h
  .exact Bt f<|WM (h.sj _) _
theorem S3{s:ShR}(h:fN φ s):fN φ (dv s):=Bt _ {h with}
theorem Eg(a:φ 0):nG φ bQ:=λx b=>by rw[Yj b];exact a
theorem Bu{s:ShR}(a:φ 0)(h:fN φ s):fN φ (bY s):=⟨h.log,Eg a,by simp[bY],by simp[bY],h.out⟩
theorem Oz{s:ShR}(a:φ 0)(h:fN φ s)(k:Int):fN φ (gb s k):=Bu a {h with log:=λr b=>h.log r<|LZ b}
theorem Bv{log:List RecR}(hl:∀ r∈log,WK φ r):∀ (i:Nat) {s:ShR},fN φ s->fN φ (de log i s)
 |0,_,h=>h
 |i+1,s,h=>by
  have a:=Bv hl i h;unfold de;simp only;split
  .exact a
  .split
   .exact{a with}
   .split
    .split
     .rename_i p _;split
      .refine{a with bX:=a.bX.write ?_};cases e:log[p]? with
       |none=>exact .nil
       |some r=>exact(hl r<|bD e).1
      .exact{a with}
     .exact{a with}
    .exact a
theorem HQ{s:ShR}(a:φ 0)(h:fN φ s):fN φ (cD s):=fN.sj (Bv h.log _<|Bu a (s:={s with up:=true}) {h with}) _
theorem WN(a:φ 0)(n:Int):ya φ (kP n):=⟨λs hs=>by obtain⟨k,_,rfl⟩:=cq.1 hs;exact⟨by simp[iS,bY],Eg a,by simp[iS,bY],by simp[iS,bY],by simp[iS,bY]⟩,by simp[kP],by simp[kP]⟩
theorem Eh{w:WR}(h:ya φ w)(tx:Nat):ya φ (ic w tx):=by
 unfold ic;split
 .exact h
 .rename_i t e;exact{h with aH:=jO h.aH ⟨(h.aC t<|bD e).1,.nil⟩}
theorem Kt{w:WR}(h:ya φ w)(a:w5 φ O):ya φ (bZ w O).1:=by
 unfold bZ;split
 .exact h
 split
 .exact h
 split
 .exact h
 .exact Eh (w:={w with aC:=w.aC++[⟨O,1,[]⟩]}) {h with aC:=jO h.aC ⟨a,.nil⟩} _
theorem w6{w:WR}(h:ya φ w){s:ShR}(hs:fN φ s)(a:Nat):ya φ (gf w a s):=
 ⟨oA h.sh {hs with out:=λm hm=>by cases hm},λm hm=>by
  rcases bS.1 hm with hm|hm
  .exact h.aH m hm
  .exact hs.out m hm,h.aC⟩
theorem HR{w:WR}(c:φ 0)(h:ya φ w)(k i:Int):ya φ (fE w k i).1:=by
 unfold fE;split
 .exact h
 split
 .exact h
 .rename_i m e;have a:=h.aH m<|bD e;have h1:ya φ {w with aH:=w.aH.eraseIdx i.toNat}:={h with aH:=Br h.aH};split
  .split
   .exact h
   .exact{h with aH:=jO h.aH a}
  .simp only;split
   .exact h1
   .split
    .unfold jV;split
     .exact h1
     .rename_i t d;have b:=h.aC t<|bD d;split
      .refine{h1 with aC:=oA h1.aC ?_};split
       .exact⟨b.1,a.2⟩
       .exact b
      .exact h1
    .split
     .exact h1
     .rename_i s es;split
      .exact w6 h1 (SZ c (h.sh s<|bD es) a) _
      .exact h1
theorem aaO{w:WR}(c:φ 0)(h:ya φ w)(k a b:Int):ya φ (eV w k a b).1:=by
 unfold eV;split
 .exact h
 split
 .exact h
 split
 .split
  .exact h
  split
  .exact h
  .exact Eh h _
 split
 .exact HR c h k a
 split
 .exact h
 split
 .exact h
 .rename_i s es;have hs:=h.sh s<|bD es;split
  .split
   .exact h
   .exact{h with sh:=oA h.sh<|HQ c hs}
  split
  .exact h
  split
  .exact w6 h (S0 hs) _
  split
  .split
   .exact h
   .exact w6 h (S3 hs) _
  .exact w6 h (Oz c hs b) _
variable{P:bT}{ao:Bool}{B:lM}{R:Nat->aO->Array Obj->Prop}{d:Nat}{As L:List HP}
variable{fn:bN}{kd:Kd}{n:Nat}{e:Nat->Value}{ds:List eK}{k:List Item}{cs:List Frame}
variable{O:Array Oper}{i:Nat}{aa:List Nat}{ty:aP}{pos:String}{af:Array Edge}{gd:Option (Nat×Bool)}{x y:dp}{tt t2:aP}{kk kq:IntKind}{p q r:Int}
def MX(op:BinOp)(kk:IntKind)(p q:Int):Option Int:=match op with
 |.and=>some<|kk.wrap (BitVec.ofInt kk.bits p&&& BitVec.ofInt kk.bits q).toNat
 |.xor=>some<|kk.wrap (BitVec.ofInt kk.bits p^^^BitVec.ofInt kk.bits q).toNat
 |_=>none
theorem ab.bt(C:ab P ao B R){op:BinOp}(a:bk O i=some ⟨some t,.binOp op tt x y t2,ty,pos,af,gd⟩)(hr:MX op kk p q=some r)(h:Nx R d As fn kd n e ds O aa k cs t (.int kk r))
  (hx:ev n e x=.int kk p:=by rfl) (b:ev n e y=.int kk q:=by rfl) (c:aN O n e gd=true:=by rfl):Nw R d As fn kd n e ds O i aa k cs:=
 C.val a c (λB H d Q f=>by
  unfold execOp;simp only[hx,b];refine ae<|ae<|gL B H d _ ?_;cases op<;>simp only[MX,zJ]at hr<;>first|(cases hr;done)|skip
  all_goals(subst hr;unfold binOp;simp only[ne_eq,JO,eQ,Op.intBits];exact f)) h
theorem ab.sl(C:ab P ao B R)(a:bk O i=some ⟨some t,.binOp .shl tt x y t2,ty,pos,af,gd⟩)(hr:kk.wrap (p*2^min q.toNat kk.bits)=r)(h:Nx R d As fn kd n e ds O aa k cs t (.int kk r))
  (hx:ev n e x=.int kk p:=by rfl) (b:ev n e y=.int kq q:=by rfl) (c:¬ q<0:=by first|decide|omega) (f:aN O n e gd=true:=by rfl):Nw R d As fn kd n e ds O i aa k cs:=
 C.val a f (λB H d Q g=>by unfold execOp;simp only[hx,b];refine ae<|ae<|gL B H d _ ?_;unfold binOp Op.shift;simp only[ax c,hr];exact g) h
theorem ab.sr(C:ab P ao B R)(a:bk O i=some ⟨some t,.binOp .shr tt x y t2,ty,pos,af,gd⟩)(hr:p.fdiv (2^min q.toNat kk.bits)=r)(h:Nx R d As fn kd n e ds O aa k cs t (.int kk r))
  (hx:ev n e x=.int kk p:=by rfl) (b:ev n e y=.int kq q:=by rfl) (c:¬ q<0:=by first|decide|omega) (f:aN O n e gd=true:=by rfl):Nw R d As fn kd n e ds O i aa k cs:=
 C.val a f (λB H d Q g=>by unfold execOp;simp only[hx,b];refine ae<|ae<|gL B H d _ ?_;unfold binOp Op.shift;simp only[ax c,hr];exact g) h
theorem ab.ixs(C:ab P ao B R){s:ByteArray}{b:UInt8}(hs:P.underlying tt=some .string)(a:bk O i=some ⟨some t,.index tt x y,ty,pos,af,gd⟩)(c:s[q.toNat]? =some b)(f:0<=q)(h:Nx R d As fn kd n e ds O aa k cs t (.int .u8 (b.toNat:Int)))
  (hx:ev n e x=.string s:=by rfl) (g:ev n e y=.int kq q:=by rfl) (j:aN O n e gd=true:=by rfl):Nw R d As fn kd n e ds O i aa k cs:=
 C.val a j (λB H d Q l=>by unfold execOp;simp only[hx,g,Instr.index,asIntOf];refine ae<|ae<|aA<|ae<|dN hs B H d _ ?_;simp only[aJ f,c];exact l) h
theorem Ku(a:Nat)(h:a<2^64):IntKind.u64.wrap (a:Int)=a:=by simp only[IntKind.wrap,IntKind.bits,IntKind.signed,yA,fW,false_and,eQ];omega
theorem aaP(a b:Nat)(ha:a<2^64)(c:b<2^64):MX .xor .u64 (a:Int) (b:Int)=some ((a^^^b:Nat):Int):=by
 have h:=Rd ha c;have e:(BitVec.ofInt 64 (a:Int)^^^BitVec.ofInt 64 (b:Int)).toNat=a^^^b:=by rw[L0,L0,BitVec.toNat_xor,L1,L1,Al ha,Al c]
 show some (IntKind.u64.wrap<|(BitVec.ofInt 64 (a:Int)^^^BitVec.ofInt 64 (b:Int)).toNat)=_;rw[e,Ku _ h]
theorem aiQ(a b:Nat)(ha:a<2^64)(c:b<2^64):MX .and .u64 (a:Int) (b:Int)=some ((a&&& b:Nat):Int):=by
 have h:=Nat.and_lt_two_pow a c;have e:(BitVec.ofInt 64 (a:Int)&&& BitVec.ofInt 64 (b:Int)).toNat=a&&& b:=by rw[L0,L0,BitVec.toNat_and,L1,L1,Al ha,Al c]
 show some (IntKind.u64.wrap<|(BitVec.ofInt 64 (a:Int)&&& BitVec.ofInt 64 (b:Int)).toNat)=_;rw[e,Ku _ h]
end
section
abbrev aF(n:Int):Value:=.int .i64 n
theorem bj{p:Oper->Prop}{x:Option Oper}{o:Oper}(h:p o)(hx:x=some o:=by rfl):∃ o,x=some o/\p o:=⟨o,hx,h⟩
structure n0(q:Prop):Prop where d:q
theorem cH{p q:Prop}(h:q)(f:n0 q->p:=by intro h;simp only[fJ,ek];exact h.d):p:=f ⟨h⟩
theorem su{p q:Prop}(h:q)(f:n0 q->p:=by intro h;simp only[ek];exact h.d):p:=f ⟨h⟩
variable{P:bT}{ao:Bool}{B:lM}{R:Nat->aO->Array Obj->Prop}{d:Nat}{As:List HP}{fn:bN}{kd:Kd}{n:Nat}{e:Nat->Value}{ds:List eK}{k:List Item}{cs:List Frame}
theorem ab.jX(C:ab P ao B R){O:Array Oper}{aa:List Nat}{t:Nat}{ty:aP}{pos:String}{af:Array Edge}{gd:Option (Nat×Bool)}{x y:dp}{tt t2:aP}{p q:Int}{op:BinOp}(m:Nat)(a:bk O i=some ⟨some t,.binOp op tt x y t2,ty,pos,af,gd⟩)(h:Nx R d As fn kd n e ds O aa k cs t (.int .i64 (m:Int)))
 (hx:ev n e x=.int .i64 p:=by rfl) (b:ev n e y=.int .i64 q:=by rfl) (ha:arith op p q=some (m:Int):=by exact congrArg some<|by omega) (hr:IntKind.i64.wrap (m:Int)=(m:Int):=by exact v9 (by omega)<|by omega) (c:aN O n e gd=true:=by rfl):Nw R d As fn kd n e ds O i aa k cs:=C.ar a h hx b ha hr c
theorem ab.cE(C:ab P ao B R){O:Array Oper}{aa:List Nat}{dst:Option Nat}{ty:aP}{pos:String}{af:Array Edge}{gd:Option (Nat×Bool)}{F:List HP}{f:bN}{fu:Func}{nf:Nat}[b:Body P f fu c nf]{fo:dp}{args:Array dp}{gY:Array aP}{vl:List Value}{A a:List HP}{v0:Value}(hs:aI P ao B f vl.toArray A (λv As=>v=v0/\As=a))(h:At R d (a++F) (gr fn kd n (dD e dst v0) ds (.inRegion O aa::k) cs))
 (g:bk O i=some ⟨dst,.call ⟨.value fo,args,gY⟩,ty,pos,af,gd⟩:=by rfl) (hv:args.toList.map (ev n e)=vl:=by rfl) (hf:ev n e fo=.func (.func f) #[] #[]:=by rfl) (hr:fK A As F:=by exact fK.au) (j:aN O n e gd=true:=by rfl):At R d As (gr fn kd n e ds (.inRegion O (i::aa)::k) cs):=C.fZ hs (λ_ _ q=>by obtain⟨rfl,rfl⟩:=q;exact h) g hv hf hr j
theorem ab.rgA(C:ab P ao B R){l:List Nat}(h:At R d As (gr fn kd n e ds (.inRegion (cO c) l::k) cs))(hc:ck c=.region:=by rfl)
 (hl:List.range (cO c).size=l:=by first|exact(rfl:[0]=_)|exact(rfl:[0,1]=_)|exact(rfl:[0,1,2]=_)|exact(rfl:[0,1,2,3]=_)|exact(rfl:[0,1,2,3,4]=_)|exact(rfl:[0,1,2,3,4,5]=_)|exact(rfl:[0,1,2,3,4,5,6]=_)|exact(rfl:[0,1,2,3,4,5,6,7]=_)|exact(rfl:[0,1,2,3,4,5,6,7,8]=_)|exact(rfl:[0,1,2,3,4,5,6,7,8,9]=_)|exact(rfl:[0,1,2,3,4,5,6,7,8,9,10]=_)|exact(rfl:[0,1,2,3,4,5,6,7,8,9,10,11]=_)|exact(rfl:[0,1,2,3,4,5,6,7,8,9,10,11,12]=_)|exact(rfl:[0,1,2,3,4,5,6,7,8,9,10,11,12,13]=_)|exact(rfl:[0,1,2,3,4,5,6,7,8,9,10,11,12,13,14]=_)|exact(rfl:[0,1,2,3,4,5,6,7,8,9,10,11,12,13,14,15]=_)|exact(rfl:[0,1,2,3,4,5,6,7,8,9,10,11,12,13,14,15,16]=_)|exact(rfl:[0,1,2,3,4,5,6,7,8,9,10,11,12,13,14,15,16,17]=_)|exact(rfl:[0,1,2,3,4,5,6,7,8,9,10,11,12,13,14,15,16,17,18]=_)|exact(rfl:[0,1,2,3,4,5,6,7,8,9,10,11,12,13,14,15,16,17,18,19]=_)|exact(rfl:[0,1,2,3,4,5,6,7,8,9,10,11,12,13,14,15,16,17,18,19,20]=_)|exact(rfl:[0,1,2,3,4,5,6,7,8,9,10,11,12,13,14,15,16,17,18,19,20,21]=_)|exact(rfl:[0,1,2,3,4,5,6,7,8,9,10,11,12,13,14,15,16,17,18,19,20,21,22]=_)|exact(rfl:[0,1,2,3,4,5,6,7,8,9,10,11,12,13,14,15,16,17,18,19,20,21,22,23]=_)):At R d As (gr fn kd n e ds (.code c::k) cs):=C.rg l h hc hl
variable{O:Array Oper}{e0:Nat->Value}{D:List (Nat×Nat)}{W mL:List HP}{T:List Nat}{a:Nat}{S:List SE}{i:Nat}{is:List Nat}{t:Nat}{v:Value}
theorem Ch.m{f:Nat}{T':List Nat}(t:Nat){K:List SE}{As:List HP}(h:Nd R d fn kd n ds O k cs e0 D W S (λK As=>Ch R d fn kd n ds O k cs e0 D W f S (T'.erase t) (a-1) K As) t a K As)(hc:Fj O T'=[t]:=by rfl):Ch R d fn kd n ds O k cs e0 D W (f+1) S T' a K As:=Ch.n1 hc h
theorem Ch.q{f:Nat}{T':List Nat}(i:Nat){K:List SE}{As:List HP}(h:∀ {As:List HP} {e:Nat->Value} {aa:List Nat},At R d As (gr fn kd n (put (nR e0 D O i (K++S) e) t v) ds (.inRegion O aa::k) cs)->At R d As (gr fn kd n (nR e0 D O i (K++S) e) ds (.inRegion O (i::aa)::k) cs))
 (k':Ch R d fn kd n ds O k cs e0 D W f (⟨i,t,v,false⟩::S) (T'.erase i) a K As) (b:∃ o,bk O i=some o/\o.dst=some t:=by exact⟨_,rfl,rfl⟩) (hi:i∈T':=by decide):Ch R d fn kd n ds O k cs e0 D W (f+1) S T' a K As:=Ch.pu b (λ_ _ _=>h) k' hi
theorem qM{A B:List HP}(h:dg A B:=by exact dg.au):J0 B A mL:=.of λ_ s=>dg.sat h s
def HS(T:List Nat):Nat->Nat->List Nat
 |_,0=>[]
 |i,n+1=>match T.contains i with
  |true=>HS T (i+1) n
  |false=>i::HS T (i+1) n
def di:Nat->Nat->Nat->List (Nat×Nat)
 |_,_,0=>[]
 |a,i,n+1=>(a,i)::di (a+1) (i+1) n
theorem ab.C9{P:bT}{ao:Bool}{B:lM}(C:ab P ao B R)(D:List (Nat×Nat))(m:Nat)(T:List Nat)(a:Nat)(h:Dr R d fn kd n ds (cO c) k cs e0 D W mL T a [] (HS T 0 m))(hc:ck c=.draw:=by rfl)(hr:u5 (cO c) D T (HS T 0 m)=true:=by decide+kernel)(b:nD (HS T 0 m)=true:=by rfl):At R d mL (gr fn kd n e0 ds (.code c::k) cs):=C.Sf D _ T a h hc hr b
theorem ab.dx{P:bT}{ao:Bool}{B:lM}(C:ab P ao B R)(D:List (Nat×Nat))(m:Nat)(T:List Nat)(a:Nat)(h:Dr R d fn kd n ds (cO c) k cs e0 D mL mL T a [] (HS T 0 m))(hc:ck c=.draw:=by rfl)(hr:u5 (cO c) D T (HS T 0 m)=true:=by decide+kernel)(b:nD (HS T 0 m)=true:=by rfl):At R d mL (gr fn kd n e0 ds (.code c::k) cs):=C.C9 D m T a h hc hr b
theorem Dr.p(h:∀ {As:List HP} {e:Nat->Value} {aa:List Nat},At R d As (gr fn kd n (put (nR e0 D O i S e) t v) ds (.inRegion O aa::k) cs)->At R d As (gr fn kd n (nR e0 D O i S e) ds (.inRegion O (i::aa)::k) cs))
 (k':Dr R d fn kd n ds O k cs e0 D W mL T a (⟨i,t,v,false⟩::S) is) (b:∃ o,bk O i=some o/\o.dst=some t:=by exact⟨_,rfl,rfl⟩):Dr R d fn kd n ds O k cs e0 D W mL T a S (i::is):=Dr.pu b (λ_ _ _=>h) k'
theorem Dr.l(h:∀ {As:List HP} {e:Nat->Value} {aa:List Nat},Ext As W->At R d As (gr fn kd n (put (nR e0 D O i S e) t v) ds (.inRegion O aa::k) cs)->At R d As (gr fn kd n (nR e0 D O i S e) ds (.inRegion O (i::aa)::k) cs))
 (k':Dr R d fn kd n ds O k cs e0 D W mL T a (⟨i,t,v,true⟩::S) is) (b:∃ o,bk O i=some o/\o.dst=some t:=by exact⟨_,rfl,rfl⟩):Dr R d fn kd n ds O k cs e0 D W mL T a S (i::is):=Dr.ld b (λ_ x _ _=>h x) k'
def Y7(O:Array Oper)(i:Nat):Nat:=match bk O i with
 |some ⟨_,op,_,_,_,g⟩=>(match g with
  |some _=>20
  |none=>match op with
   |.move _=>0
   |.assign _=>1
   |.fieldAddr _ _ _=>2
   |.load _ _=>3
   |.nilCheck _=>4
   |.pick _ _ _=>5
   |.binOp _ _ _ _ _=>6
   |.extract _ _=>7
   |.unOp _ _ _=>8
   |.call _=>9
   |.indexAddr _ _ _=>10
   |.build _ _=>11
   |.store _ _ _=>12
   |.convert _ _ _=>13
   |.makeInterface _ _=>14
   |_=>21)
 |none=>22
structure qTg(k:Nat)(p:Prop):Prop where d:p
theorem wc(k:Nat){p:Prop}(h:p):qTg k p:=⟨h⟩
variable{aa:List Nat}
theorem aiS(h:qTg t (At R d As<|gr fn kd n e ds (.inRegion O (i::aa)::k) cs))(a:Y7 O i=t:=by conv=>{lhs;whnf}):At R d As (gr fn kd n e ds (.inRegion O (i::aa)::k) cs):=h.d
theorem ae5(h:qTg t (Dr R d fn kd n ds O k cs e0 D W mL T a S<|i::aa))(b:Y7 O i=t:=by conv=>{lhs;whnf}):Dr R d fn kd n ds O k cs e0 D W mL T a S (i::aa):=h.d
theorem ga{p q:Prop}(h:q)(f:n0 q->p:=by
 intro h
 first
 |(refine aiS ?_;first|(refine wc 0 ?_;refine C.mv rfl ?_)|(refine wc 1 ?_;refine C.pN rfl ?_)|(refine wc 2 ?_;refine C.fa rfl ?_)|(refine wc 3 ?_;first|refine C.ld rfl ?_|refine C.yM rfl ?_|refine C.ldS rfl ?_|refine C.du rfl ?_)|(refine wc 4 ?_;refine C.nc rfl ?_)|(refine wc 5 ?_;refine C.pk rfl ?_)|(refine wc 6 ?_;first|refine C.ar rfl ?_|refine C.Oi rfl ?_)|(refine wc 7 ?_;refine C.ext rfl ?_)|(refine wc 8 ?_;refine C.nt rfl ?_)|(refine wc 9 ?_;first|refine C.qK rfl ?_|refine C.lnM rfl ?_)|(refine wc 10 ?_;refine C.dZ rfl ?_)|(refine wc 11 ?_;refine C.bd rfl ?_)|(refine wc 12 ?_;first|refine C.st rfl ?_|refine C.vz rfl ?_|refine C.YS rfl ?_)|(refine wc 13 ?_;refine C.cv rfl ?_)|(refine wc 14 ?_;refine C.mi rfl ?_)|(refine wc 20 ?_;first|refine C.no rfl ?_|refine C.mv rfl ?_|refine C.pk rfl ?_|refine C.ld rfl ?_|refine C.fa rfl ?_|refine C.nc rfl ?_|refine C.dZ rfl ?_|refine C.nt rfl ?_|refine C.qK rfl ?_|refine C.yM rfl ?_|refine C.pN rfl ?_|refine C.ext rfl ?_|refine C.bd rfl ?_|refine C.du rfl ?_|refine C.ar rfl ?_|refine C.st rfl ?_|refine C.ldS rfl ?_|refine C.lnM rfl ?_|refine C.vz rfl ?_|refine C.YS rfl ?_|refine C.Oi rfl ?_|refine C.cv rfl ?_|refine C.mi rfl ?_))
 |refine C.rgA ?_
 |refine C.N4 ?_
 |refine C.Fg ?_
 |refine C.go ?_
 exact h.d):p:=f ⟨h⟩
theorem lN{p q:Prop}(h:q)(f:n0 q->p:=by
 intro h;refine ae5 ?_
 first|(refine wc 0 ?_;refine Dr.p (λh=>C.mv rfl h) ?_)|(refine wc 1 ?_;refine Dr.p (λh=>C.pN rfl h) ?_)|(refine wc 2 ?_;refine Dr.p (λh=>C.fa rfl h) ?_)|(refine wc 3 ?_;first|refine Dr.l (λa h=>C.ld rfl h) ?_|refine Dr.l (λa h=>C.yM rfl h) ?_|refine Dr.l (λa h=>C.ldS rfl h) ?_|refine Dr.l (λa h=>C.du rfl h) ?_)|(refine wc 4 ?_;refine Dr.p (λh=>C.nc rfl h) ?_)|(refine wc 5 ?_;refine Dr.p (λh=>C.pk rfl h) ?_)|(refine wc 6 ?_;refine Dr.p (λh=>C.ar rfl h) ?_)|(refine wc 7 ?_;refine Dr.p (λh=>C.ext rfl h) ?_)|(refine wc 8 ?_;refine Dr.p (λh=>C.nt rfl h) ?_)|(refine wc 9 ?_;first|refine Dr.l (λa h=>C.qK rfl h) ?_|refine Dr.l (λa h=>C.lnM rfl h) ?_)|(refine wc 10 ?_;refine Dr.l (λa h=>C.dZ rfl h) ?_)|(refine wc 11 ?_;refine Dr.p (λh=>C.bd rfl h) ?_)|(refine wc 13 ?_;refine Dr.p (λh=>C.cv rfl h) ?_)|(refine wc 20 ?_;first|refine Dr.p (λh=>C.no rfl h) ?_|refine Dr.p (λh=>C.mv rfl h) ?_|refine Dr.p (λh=>C.pk rfl h) ?_|refine Dr.l (λa h=>C.ld rfl h) ?_|refine Dr.p (λh=>C.fa rfl h) ?_|refine Dr.p (λh=>C.nc rfl h) ?_|refine Dr.l (λa h=>C.dZ rfl h) ?_|refine Dr.p (λh=>C.nt rfl h) ?_|refine Dr.l (λa h=>C.qK rfl h) ?_|refine Dr.l (λa h=>C.yM rfl h) ?_|refine Dr.p (λh=>C.pN rfl h) ?_|refine Dr.p (λh=>C.ext rfl h) ?_|refine Dr.p (λh=>C.bd rfl h) ?_|refine Dr.l (λa h=>C.du rfl h) ?_|refine Dr.p (λh=>C.ar rfl h) ?_|refine Dr.l (λa h=>C.ldS rfl h) ?_|refine Dr.l (λa h=>C.lnM rfl h) ?_|refine Dr.p (λh=>C.cv rfl h) ?_)
 exact h.d):p:=f ⟨h⟩
theorem bL{p q:Prop}(h:q)(f:n0 q->p:=by intro h;(iterate 2 refine ga ?_);exact h.d):p:=f ⟨h⟩
theorem dT{p q:Prop}(h:q)(f:n0 q->p:=by intro h;(iterate 3 refine ga ?_);exact h.d):p:=f ⟨h⟩
theorem dY{p q:Prop}(h:q)(f:n0 q->p:=by intro h;(iterate 4 refine ga ?_);exact h.d):p:=f ⟨h⟩
theorem fB{p q:Prop}(h:q)(f:n0 q->p:=by intro h;(iterate 5 refine ga ?_);exact h.d):p:=f ⟨h⟩
theorem gV{p q:Prop}(h:q)(f:n0 q->p:=by intro h;(iterate 6 refine ga ?_);exact h.d):p:=f ⟨h⟩
theorem iE{p q:Prop}(h:q)(f:n0 q->p:=by intro h;(iterate 7 refine ga ?_);exact h.d):p:=f ⟨h⟩
theorem oN{p q:Prop}(h:q)(f:n0 q->p:=by intro h;(iterate 8 refine ga ?_);exact h.d):p:=f ⟨h⟩
theorem pP{p q:Prop}(h:q)(f:n0 q->p:=by intro h;(iterate 9 refine ga ?_);exact h.d):p:=f ⟨h⟩
theorem vH{p q:Prop}(h:q)(f:n0 q->p:=by intro h;(iterate 10 refine ga ?_);exact h.d):p:=f ⟨h⟩
theorem mE{p q:Prop}(h:q)(f:n0 q->p:=by intro h;(iterate 11 refine ga ?_);exact h.d):p:=f ⟨h⟩
theorem lu{p q:Prop}(h:q)(f:n0 q->p:=by intro h;(iterate 13 refine ga ?_);exact h.d):p:=f ⟨h⟩
theorem lH{p q:Prop}(h:q)(f:n0 q->p:=by intro h;(iterate 2 refine lN ?_);exact h.d):p:=f ⟨h⟩
theorem uQ{p q:Prop}(h:q)(f:n0 q->p:=by intro h;(iterate 3 refine lN ?_);exact h.d):p:=f ⟨h⟩
theorem Kv{p q:Prop}(h:q)(f:n0 q->p:=by intro h;(iterate 4 refine lN ?_);exact h.d):p:=f ⟨h⟩
theorem QE{p q:Prop}(h:q)(f:n0 q->p:=by intro h;(iterate 5 refine lN ?_);exact h.d):p:=f ⟨h⟩
theorem qv{p q:Prop}(h:q)(f:n0 q->p:=by intro h;(iterate 6 refine lN ?_);exact h.d):p:=f ⟨h⟩
theorem oB{p q:Prop}(h:q)(f:n0 q->p:=by intro h;(iterate 7 refine lN ?_);exact h.d):p:=f ⟨h⟩
theorem GA{p q:Prop}(h:q)(f:n0 q->p:=by intro h;(iterate 8 refine lN ?_);exact h.d):p:=f ⟨h⟩
theorem nT{p q:Prop}(h:q)(f:n0 q->p:=by intro h;(iterate 10 refine lN ?_);exact h.d):p:=f ⟨h⟩
theorem uz{p q:Prop}(h:q)(f:n0 q->p:=by intro h;refine cH ?_;refine ga ?_;exact h.d):p:=f ⟨h⟩
theorem pQ{p q:Prop}(h:q)(f:n0 q->p:=by intro h;refine cH ?_;(iterate 2 refine ga ?_);exact h.d):p:=f ⟨h⟩
theorem Ei{p q:Prop}(h:q)(f:n0 q->p:=by intro h;refine cH ?_;(iterate 4 refine ga ?_);exact h.d):p:=f ⟨h⟩
theorem vI{p q:Prop}(h:q)(f:n0 q->p:=by intro h;refine cH ?_;(iterate 5 refine ga ?_);exact h.d):p:=f ⟨h⟩
theorem zx6{p q:Prop}(h:q)(f:n0 q->p:=by intro h;refine cH ?_;(iterate 6 refine ga ?_);exact h.d):p:=f ⟨h⟩
theorem Vz{p q:Prop}(h:q)(f:n0 q->p:=by intro h;refine cH ?_;(iterate 7 refine ga ?_);exact h.d):p:=f ⟨h⟩
theorem MY{p q:Prop}(h:q)(f:n0 q->p:=by intro h;refine cH ?_;(iterate 8 refine ga ?_);exact h.d):p:=f ⟨h⟩
theorem Y8{p q:Prop}(h:q)(f:n0 q->p:=by intro h;refine cH ?_;(iterate 9 refine ga ?_);exact h.d):p:=f ⟨h⟩
theorem gy{p q:Prop}(h:q)(f:n0 q->p:=by intro h;refine Ch.fin ?_;refine ga ?_;exact h.d):p:=f ⟨h⟩
theorem pR{p q:Prop}(h:q)(f:n0 q->p:=by intro h;refine Ch.fin ?_;(iterate 2 refine ga ?_);exact h.d):p:=f ⟨h⟩
theorem QF{p q:Prop}(h:q)(f:n0 q->p:=by intro h;refine Ch.fin ?_;(iterate 3 refine ga ?_);exact h.d):p:=f ⟨h⟩
theorem Bw{p q:Prop}(h:q)(f:n0 q->p:=by intro h;refine Ch.fin ?_;(iterate 5 refine ga ?_);exact h.d):p:=f ⟨h⟩
theorem S4{p q:Prop}(h:q)(f:n0 q->p:=by intro h;refine Ch.fin ?_;(iterate 6 refine ga ?_);exact h.d):p:=f ⟨h⟩
theorem zv7{p q:Prop}(h:q)(f:n0 q->p:=by intro h;refine Ch.fin ?_;(iterate 7 refine ga ?_);exact h.d):p:=f ⟨h⟩
theorem S5{p q:Prop}(h:q)(f:n0 q->p:=by intro h;refine Ch.fin ?_;(iterate 8 refine ga ?_);exact h.d):p:=f ⟨h⟩
theorem zy{p q:Prop}(h:q)(f:n0 q->p:=by intro h;refine lN ?_;refine Dr.chain rfl ?_;exact h.d):p:=f ⟨h⟩
theorem Da{p q:Prop}(h:q)(f:n0 q->p:=by intro h;(iterate 2 refine lN ?_);refine Dr.chain rfl ?_;exact h.d):p:=f ⟨h⟩
theorem JH{p q:Prop}(h:q)(f:n0 q->p:=by intro h;(iterate 4 refine lN ?_);refine Dr.chain rfl ?_;exact h.d):p:=f ⟨h⟩
theorem zw5{p q:Prop}(h:q)(f:n0 q->p:=by intro h;(iterate 5 refine lN ?_);refine Dr.chain rfl ?_;exact h.d):p:=f ⟨h⟩
theorem WO{p q:Prop}(h:q)(f:n0 q->p:=by intro h;(iterate 7 refine lN ?_);refine Dr.chain rfl ?_;exact h.d):p:=f ⟨h⟩
theorem zw8{p q:Prop}(h:q)(f:n0 q->p:=by intro h;(iterate 8 refine lN ?_);refine Dr.chain rfl ?_;exact h.d):p:=f ⟨h⟩
theorem VA{p q:Prop}(h:q)(f:n0 q->p:=by intro h;(iterate 9 refine lN ?_);refine Dr.chain rfl ?_;exact h.d):p:=f ⟨h⟩
theorem Kw{p q:Prop}(h:q)(f:n0 q->p:=by intro h;(iterate 10 refine lN ?_);refine Dr.chain rfl ?_;exact h.d):p:=f ⟨h⟩
theorem S6{p q:Prop}(h:q)(f:n0 q->p:=by intro h;(iterate 11 refine lN ?_);refine Dr.chain rfl ?_;exact h.d):p:=f ⟨h⟩
theorem S7{p q:Prop}(h:q)(f:n0 q->p:=by intro h;(iterate 13 refine lN ?_);refine Dr.chain rfl ?_;exact h.d):p:=f ⟨h⟩
end
structure cJ where
 ops:List (List bO)
 order:List Int
 reads:List (List Int)
 looked:List Nat
def MZ(h:cJ)(tx:Int):Int:=match h.order.findIdx? (· ==tx)with|some i=>i|none=> -1
def jY(log:List RecR)(aE:Nat):Nat->cJ->Nat->cJ×Bool
 |0,h,_=>(h,true)
 |f+1,h,i=>if aE<=i then(h,true)else match log[i]? with
  |none=>(h,false)
  |some r=>if r.tx<0\/(h.ops.length:Int)<=r.tx then(h,false)else
   jY log aE f (if r.kind==2&&r.yes then{h with order:=h.order++[r.tx],reads:=h.reads++[r.reads]}else h) (i+1)
def tD(s:ShR)(k:Nat)(h:cJ):cJ×Bool:=
 let l:=h.looked[k]?.getD 0
 if s.aE<(l:Int)\/(s.log.length:Int)<s.aE then(h,false)else
 let x:=jY s.log s.aE.toNat (s.aE.toNat+1) h l
 if x.2 then({x.1 with looked:=x.1.looked.set k s.aE.toNat},true)else x
def nL:List ShR->Nat->cJ->cJ×Bool
 |[],_,h=>(h,true)
 |s::r,k,h=>let x:=tD s k h;if x.2 then nL r (k+1) x.1 else x
def l8(w:WR)(h:cJ):cJ×Bool:=nL w.sh 0 h
def HT(w:WR)(h:cJ):Bool:=w.sh.all λs=>s.log.all λr=>r.kind != 3||(if r.yes then decide (0<=MZ h r.tx)else decide (MZ h r.tx<0))
def nU(v:List Int):List bO->List Int->Bool
 |[],l=>l.isEmpty
 |o::r,l=>if o.w then nU v r l else match l with
  |[]=>false
  |x::l=>x==(v[(o.k-97).toNat]?).getD 0&&nU v r l
def nh(h:cJ):Nat->Nat->List Int->List Int×Bool
 |0,_,v=>(v,true)
 |f+1,i,v=>match h.order[i]? with
  |none=>(v,true)
  |some tx=>if MZ h tx≠i then(v,false)else
   let O:=h.ops[tx.toNat]?.getD []
   if nU v O (h.reads[i]?.getD [])then nh h f (i+1) (cS v O)else(v,false)
def M0(h:cJ):List Int×Bool:=nh h (h.order.length+1) 0 bQ
def Ej(w:WR)(h:cJ):Bool:=(List.range h.ops.length).all λt=>match w.aC[t]? with
 |none=>false
 |some x=> !(x.state<1||3<x.state||(x.state==2&&MZ h t<0)||(x.state==3&&0<=MZ h t))&&(x.state != 2||x.reads==(h.reads[(MZ h t).toNat]?).getD [])
def dC:Nat->WR->WR
 |0,w=>w
 |f+1,w=>let x:=eV w 2 0 0;if x.2≠0 then x.1 else dC f x.1
def JI:List Nat->WR->WR×Bool
 |[],w=>(w,true)
 |s::r,w=>if((w.sh[s]?).map (·.up)).getD false then JI r w else let x:=eV w 8 s 0;if x.2≠0 then(x.1,false)else JI r x.1
def tF:List Nat->WR->cJ->WR×cJ×Bool
 |[],w,h=>(w,h,true)
 |s::r,w,h=>let x:=eV w 5 s 0;let y:=l8 x.1 h;if x.2≠0\/ !y.2 then(x.1,y.1,false)else tF r x.1 y.1
def turns(n:Nat):Nat->WR->cJ->WR×cJ×Bool
 |0,w,h=>(w,h,true)
 |f+1,w,h=>let x:=tF (List.range n) (dC 3000 w) h;if x.2.2 then turns n f x.1 x.2.1 else x
def asks:List Nat->WR->Nat->WR×Nat×Bool
 |[],w,left=>(w,left,true)
 |t::r,w,left=>if((w.aC[t]?).map (·.state)).getD 0=1 then let x:=eV w 1 t 0;if x.2≠0 then(x.1,left+1,false)else asks r x.1 (left+1)else asks r w left
def gz:List Nat->WR->Nat->WR×Nat×Bool
 |[],w,left=>(w,left,true)
 |s::r,w,left=>let l:=left+((w.sh[s]?).map (·.aQ.length)).getD 0
  if 0<l then let x:=eV w 6 s 0;if x.2≠0/\x.2≠3 then(x.1,l,false)else gz r x.1 l else gz r w l
def im(n aC:Nat):Nat->WR->cJ->WR×cJ×Bool
 |0,w,h=>(w,h,false)
 |f+1,w,h=>
  let a:=JI (List.range n) w
  if !a.2 then(a.1,h,false)else
  let b:=turns n 10 a.1 h
  if !b.2.2 then b else
  let c:=asks (List.range aC) b.1 b.1.aH.length
  if !c.2.2 then(c.1,b.2.1,false)else
  let d:=gz (List.range n) c.1 c.2.1
  if !d.2.2 then(d.1,b.2.1,false)else
  if d.2.1=0 then(d.1,b.2.1,true)else im n aC f d.1 b.2.1
structure Gl where
 dec:Int->Option (Bool×List Int)
 cK:Int->Int->Option (List Int)
structure Gl.Le(G G':Gl):Prop where
 dec:∀ t x,G.dec t=some x->G'.dec t=some x
 cK:∀ t s x,G.cK t s=some x->G'.cK t s=some x
theorem Gl.Le.refl(G:Gl):G.Le G:=⟨λ_ _ h=>h,λ_ _ _ h=>h⟩
structure pI(G:Gl)(m:MsgR):Prop where
 zA:m.kind=3->m.yes=true->G.cK m.tx m.aX=some m.reads
 bF:m.kind=4->∃ rd,G.dec m.tx=some (m.yes,rd)
 told:m.kind=7->G.dec m.tx=some (m.yes,m.reads)
theorem pI.mono{G c:Gl}{m:MsgR}(h:pI G m)(k:G.Le c):pI c m:=
 ⟨λa b=>k.cK _ _ _<|h.zA a b,λa=>(h.bF a).imp λ_ z=>k.dec _ _ z,λa=>k.dec _ _<|h.told a⟩
theorem pI.other{G:Gl}{m:MsgR}(a:m.kind≠3)(b:m.kind≠4)(c:m.kind≠7):pI G m:=⟨λh=>absurd h a,λh=>absurd h b,λh=>absurd h c⟩
def ef(log:List RecR)(i:Nat):List Int:=(de (log.take i) i<|bY ⟨0,0,true,[],0,[],[],[],[],[],0,[]⟩).bX
structure tG(log:List RecR)(me:Int)(m:MsgR):Prop where
 zA:m.kind=3->m.yes=true->m.aX=me/\∃ (i:Nat) (r:RecR),log[i]? =some r/\r.kind=1/\r.tx=m.tx/\fH (ef log i) r.ops=m.reads
 bF:m.kind=4->∃ (i:Nat) (r:RecR),log[i]? =some r/\r.kind=2/\r.tx=m.tx/\r.yes=m.yes
 told:m.kind=7->∃ (i:Nat) (r:RecR),log[i]? =some r/\r.kind=2/\r.tx=m.tx/\r.yes=m.yes/\r.reads=m.reads
theorem tG.other{m:MsgR}(a:m.kind≠3)(b:m.kind≠4)(c:m.kind≠7):tG log me m:=⟨λh=>absurd h a,λh=>absurd h b,λh=>absurd h c⟩
structure UnG(G:Gl)(log:List RecR)(u:dS):Prop where
 free:u.dec=false->aM log 2 u.tx=none
 bq:∀ v∈u.bq,G.cK u.tx v.aX=some v.reads
 bF:u.dec=true->∃ (i:Nat) (r:RecR),log[i]? =some r/\r.kind=2/\r.tx=u.tx/\r.yes=u.yes
structure iz(G:Gl)(s:ShR):Prop where
 aE:0<=s.aE/\s.aE<=s.log.length
 uniq:∀ (i j:Nat) (r r':RecR),s.log[i]? =some r->s.log[j]? =some r'->r.kind=2->r'.kind=2->r.tx=r'.tx->i=j
 bF:∀ (i:Nat) (r:RecR),s.log[i]? =some r->(i:Int)<s.aE->r.kind=2->G.dec r.tx=some (r.yes,r.reads)
 cK:∀ (i:Nat) (r:RecR),s.log[i]? =some r->(i:Int)<s.aE->r.kind=1->G.cK r.tx s.me=some (fH (ef s.log i) r.ops)
 done:∀ (i:Nat) (r:RecR),s.log[i]? =some r->r.kind=3->∃ rd,G.dec r.tx=some (r.yes,rd)
 waits:∀ m∈s.waits,tG s.log s.me m
 out:∀ m∈s.out,pI G m
 nd:(s.under.map (·.tx)).Nodup
 cr:∀ u∈s.under,UnG G s.log u
theorem iz.mono{G e:Gl}{s:ShR}(h:iz G s)(k:G.Le e):iz e s:=
 {h with
  bF:=λi r a b c=>k.dec _ _ (h.bF i r a b c)
  cK:=λi r a b c=>k.cK _ _ _ (h.cK i r a b c)
  done:=λi r a b=>(h.done i r a b).imp λ_ z=>k.dec _ _ z
  out:=λm f=>(h.out m f).mono k
  cr:=λu d=>⟨(h.cr u d).free,λv g=>k.cK _ _ _<|(h.cr u d).bq v g,(h.cr u d).bF⟩}
theorem iz.send{G:Gl}{m:MsgR}(h:iz G s)(hm:pI G {m with aX:=s.me}):iz G (ee s m):=
 ⟨h.aE,h.uniq,h.bF,h.cK,h.done,h.waits,λx a=>by
  rcases bS.1 a with a|a
  .exact h.out x a
  .rw[dR.1 a];exact hm,h.nd,h.cr⟩
theorem iz.wait{G:Gl}{m:MsgR}(h:iz G s)(hm:tG s.log s.me {m with aX:=s.me}):iz G (fb s m):=
 ⟨h.aE,h.uniq,h.bF,h.cK,h.done,λx a=>by
  rcases bS.1 a with a|a
  .exact h.waits x a
  .rw[dR.1 a];exact hm,h.out,h.nd,h.cr⟩
theorem iz.new{G:Gl}:iz G (iS k n):=
 ⟨⟨mI _,mI _⟩,by intro i j r r' h;simp[iS,bY]at h,by intro i r h;simp[iS,bY]at h,by intro i r h;simp[iS,bY]at h,by intro i r h;simp[iS,bY]at h,by intro m a;simp[iS,bY]at a,by intro m a;simp[iS,bY]at a,by simp[iS,bY],by intro m a;simp[iS,bY]at a⟩
theorem iz.each{I:ShR->Prop}(a:I s)(hf:∀ z k p,I z->I (f z k p)):I (gO s O f):=by
 unfold gO;generalize upto s.n=l;generalize b:s.n=n;clear b
 induction l generalizing s with
 |nil=>exact a
 |cons k l c=>grind
theorem yb{a:Int}(h:aM log a tx=none)(i:Nat)(r:RecR)(hr:log[i]? =some r)(b:r.kind=a):r.tx≠tx:=
 λc=>iM.1 h r (bD hr) ⟨b,c⟩
theorem HU{l:List dS}(h:¬ (bP l tx).isSome=true):∀ u∈l,u.tx≠tx:=λu a b=>by grind [bP]
theorem iz.begin{G:Gl}{m:MsgR}(h:iz G s):iz G (gZ s m):=by
 unfold gZ;cases g:aM s.log 2 m.tx with
 |some d=>
  simp only[];split
  .rename_i e;obtain⟨r,j,l,w⟩:=(bG g).2;refine h.send ⟨by simp,by simp,λ_=>?_⟩;have:=h.bF d r j e l
   grind
  .exact h
 |none=>
  simp only[];split
  .exact h
  .rename_i n;have h1:iz G {s with under:=s.under++[⟨m.tx,m.ops,[],false,false,[]⟩]}:=
    ⟨h.aE,h.uniq,h.bF,h.cK,h.done,h.waits,h.out,by
     show((s.under++[(⟨m.tx,m.ops,[],false,false,[]⟩:dS)]).map (·.tx)).Nodup;rw[eW,jc];refine⟨h.nd,by simp,λa o b i=>?_⟩;obtain⟨u,hu,rfl⟩:=cq.1 o;simp only[jq,ny,dR]at i;subst i;exact HU n u hu,λu hu=>by
     rcases bS.1 hu with hu|hu
     .exact h.cr u hu
     .rw[dR.1 hu];exact⟨λ_=>g,λv q=>by simp at q,λe=>by simp at e⟩⟩
   have c:=iz.each (O:=m.ops) (f:=λz k p=>ee z {bA with kind:=2,to:=k,tx:=m.tx,ops:=p}) (I:=iz G) h1 (λz k p t=>t.send<|pI.other (by simp) (by simp)<|by simp);exact⟨c.aE,c.uniq,c.bF,c.cK,c.done,c.waits,c.out,c.nd,c.cr⟩
theorem kZ(h:(log++[x])[i]? =some r):(log[i]? =some r)\/(i=log.length/\r=x):=by grind
theorem w7(h:log[i]? =some r):(log++[x])[i]? =some r:=by grind
theorem mS(h:i<=log.length):ef (log++[x]) i=ef log i:=by grind [ef]
theorem tG.app{m:MsgR}(h:tG log me m):tG (log++[x]) me m:=
 ⟨λa b=>by obtain⟨z,i,r,h1,c,d,e⟩:=h.zA a b;exact⟨z,i,r,w7 h1,c,d,by rw[mS (yC (dd.1 h1).1)];exact e⟩,
 λa=>by obtain⟨i,r,h1,c⟩:=h.bF a;exact⟨i,r,w7 h1,c⟩,
 λa=>by obtain⟨i,r,h1,c⟩:=h.told a;exact⟨i,r,w7 h1,c⟩⟩
theorem UnG.app{G:Gl}(h:UnG G log u)(hx:x.kind=2->u.dec=false->x.tx≠u.tx):UnG G (log++[x]) u:=
 ⟨λc=>by
  rw[dX,ax (by intro b;simp only[isRec,jK,uU]at b;exact hx b.1 c b.2)]
  exact h.free c,h.bq,λa=>by obtain⟨i,r,h1,d⟩:=h.bF a;exact⟨i,r,w7 h1,d⟩⟩
theorem iz.write{G:Gl}{s:ShR}(h:iz G s)(p:x.kind=2->aM s.log 2 x.tx=none)(g:x.kind=3->∃ rd,G.dec x.tx=some (x.yes,rd))(k:x.kind=2->∀ u∈s.under,u.dec=false->x.tx≠u.tx):iz G {s with log:=s.log++[x]}:=by
 have l:=h.aE;refine⟨⟨l.1,by simp only[iV];omega⟩,?_,?_,?_,?_,λm n=>(h.waits m n).app,h.out,h.nd,λu f=>(h.cr u f).app λo=>k o u f⟩
 .intro i j r r' a b c d e;rcases kZ a with a1|⟨a1,q⟩
  .rcases kZ b with b1|⟨b1,b2⟩
   .exact h.uniq i j r r' a1 b1 c d e
   .grind [yb]
  .rcases kZ b with b1|⟨b1,b2⟩
   .grind [yb]
   .omega
 .intro i r a b c;rcases kZ a with a|⟨a,rfl⟩
  .exact h.bF i r a b c
  .have:(i:Int)<s.aE:=b;omega
 .intro i r a b c;rcases kZ a with a|⟨a,rfl⟩
  .rw[show ef ({s with log:=s.log++[x]}:ShR).log i=ef s.log i from mS<|yC (dd.1 a).1];exact h.cK i r a b c
  .have:(i:Int)<s.aE:=b;omega
 .intro i r a c;rcases kZ a with a|⟨a,rfl⟩
  .exact h.done i r a c
  .exact g c
theorem tH{l:List dS}{v:dS}(h:l[i]? =some u)(hv:v.tx=u.tx):(l.set i v).map (·.tx)=l.map (·.tx):=by grind [List.map_set,List.set_getElem_self]
theorem Bx{l:List dS}(h:(l.map (·.tx)).Nodup){x y:dS}(hx:x∈l)(b:y∈l)(e:x.tx=y.tx):x=y:=by
 induction l with
 |nil=>cases hx
 |cons a l c=>grind
theorem HW{l:List dS}:∀ {i:Nat} {u x:dS},(l.map (·.tx)).Nodup->l[i]? =some u->x∈l.eraseIdx i->x.tx≠u.tx:=by
 induction l with
 |nil=>intro i u x _ _ b;cases b
 |cons a l c=>
  intro i u x h d b;rw[jq,qP]at h;cases i with
  |zero=>grind
  |succ i=>grind
theorem iz.ack{G:Gl}{m:MsgR}(h:iz G s):iz G (qj s m):=by
 unfold qj;split
 .exact h
 .split
  .exact h
  .rename_i i hi u c;split
   .exact h
   .have b:u∈s.under:=bD c;dsimp only;split
    .exact⟨h.aE,h.uniq,h.bF,h.cK,h.done,h.waits,h.out,by refine List.Sublist.nodup ?_ h.nd;exact(kL _ _).map _,λv a=>h.cr v<|uW a⟩
    .refine⟨h.aE,h.uniq,h.bF,h.cK,h.done,h.waits,h.out,(show((s.under.set _ {u with cf:=u.cf++[m.aX]}).map (·.tx)).Nodup by rw[tH (v:={u with cf:=u.cf++[m.aX]}) c rfl];exact h.nd),λv a=>?_⟩;rcases gk a with a|rfl
     .exact h.cr v a
     .exact⟨(h.cr u b).free,(h.cr u b).bq,(h.cr u b).bF⟩
theorem iz.ask{G:Gl}{m:MsgR}(h:iz G s):iz G (pE s m):=by
 unfold pE;cases a:aM s.log 2 m.tx with
 |some d=>
  simp only[];split
  .rename_i b;obtain⟨r,c,f,j⟩:=(bG a).2;have:=h.bF d r c b f;refine h.send ⟨by simp,λ_=>⟨r.reads,?_⟩,by simp⟩
   grind
  .exact h
 |none=>
  simp only[];split
  .exact h
  .rename_i g;have h1:=h.write (x:={dz with kind:=2,tx:=m.tx}) (λ_=>a) (λe=>by simp at e) λ_ u i _ e=>HU g u i e.symm;refine h1.wait ⟨by simp,λ_=>⟨s.log.length,{dz with kind:=2,tx:=m.tx},by simp,rfl,rfl,rfl⟩,by simp⟩
theorem iz.zA{G:Gl}{s:ShR}{m:MsgR}(h:iz G s)(hm:pI G m)(J:m.kind=3):iz G (kO s m):=by
 unfold kO;cases y:bP s.under m.tx with
 |none=>exact h
 |some i=>
  simp only[];cases l:s.under[i]? with
  |none=>exact h
  |some u=>
   simp only[];have K:u∈s.under:=bD l;have g:u.tx=m.tx:=by
    unfold bP at y;obtain⟨hl,hp,_⟩:=yB.1 y
    grind
   have o:=h.cr u K;by_cases q:u.dec=true
   .rw[aJ q];exact h
   rw[ax q];have A:u.dec=false:=by simpa using q
   have B:aM s.log 2 m.tx=none:=by rw[<- g];exact o.free A
   generalize r:(if(m.yes&& !(bJ u m.aX).isSome)=true then({u with bq:=u.bq++[⟨m.aX,m.reads⟩]}:dS)else u)=a;have C:∀ v∈a.bq,G.cK u.tx v.aX=some v.reads:=by
    intro v b;rw[<- r]at b;split at b
    .rename_i D;rcases bS.1 b with b|b
     .exact o.bq v b
     .rw[dR.1 b];simp only[jK]at D;rw[g];exact hm.zA J D.1
    .exact o.bq v b
   have d:a.tx=u.tx:=by rw[<- r];split<;>rfl
   have L:a.dec=u.dec:=by rw[<- r];split<;>rfl
   have M:∀ (t:dS),UnG G s.log t->∀ x∈s.under.set i t,UnG G s.log x:=λt w x c=>by
    rcases gk c with c|rfl
    .exact h.cr x c
    .exact w
   by_cases E:(m.yes&& !gP s.n a.ops λk=>(bJ a k).isSome)=true
   .rw[aJ E];exact⟨h.aE,h.uniq,h.bF,h.cK,h.done,h.waits,h.out,(by rw[tH l d];exact h.nd),M a ⟨λ_=>by rw[d,g];exact B,λv b=>by rw[d];exact C v b,λz=>by rw[L,A]at z;cases z⟩⟩
   .rw[ax E];generalize R:(if m.yes=true then jU {a with dec:=true,yes:=m.yes} s.n else[])=rd;have N:iz G {s with under:=s.under.eraseIdx i}:=⟨h.aE,h.uniq,h.bF,h.cK,h.done,h.waits,h.out,((kL _ _).map _).nodup h.nd,λv b=>h.cr v<|uW b⟩;have P:∀ x∈s.under.eraseIdx i,m.tx≠x.tx:=λx c e=>HW h.nd l c (by rw[g];exact e.symm);have h1:=N.write (x:={dz with kind:=2,tx:=m.tx,yes:=m.yes,reads:=rd}) (λ_=>B) (λe=>by simp at e) λ_ x c _=>P x c;have F:((s.under.set i {a with dec:=true,yes:=m.yes}).map (·.tx)).Nodup:=by rw[tH l (by exact d)];exact h.nd
    have Q:({a with dec:=true,yes:=m.yes}:dS)∈s.under.set i {a with dec:=true,yes:=m.yes}:=eX.2 ⟨i,by rw[rB (dd.1 l).1]⟩;have w:iz G {s with under:=s.under.set i {a with dec:=true,yes:=m.yes},log:=s.log++[{dz with kind:=2,tx:=m.tx,yes:=m.yes,reads:=rd}]}:=
     ⟨h1.aE,h1.uniq,h1.bF,h1.cK,h1.done,h1.waits,h1.out,F,λx c=>by
      by_cases j:x.tx=m.tx
      .rw[Bx F c Q (by rw[j,<- g];exact d.symm)];exact⟨λz=>(by cases z),λv b=>by show G.cK a.tx _=_;rw[d];exact C v b,λ_=>⟨s.log.length,({dz with kind:=2,tx:=m.tx,yes:=m.yes,reads:=rd}:RecR),by simp,rfl,by show m.tx=a.tx;rw[d,g],rfl⟩⟩
      .rcases gk c with c|rfl
       .exact(h.cr x c).app λ_ _ e=>j e.symm
       .exact absurd (show a.tx=m.tx by rw[d,g]) j⟩
    have key:∀ z:ShR,iz G z/\z.log=s.log++[{dz with kind:=2,tx:=m.tx,yes:=m.yes,reads:=rd}]->∀ k:Int,iz G (fb z {bA with kind:=4,to:=k,tx:=m.tx,yes:=m.yes})/\(fb z {bA with kind:=4,to:=k,tx:=m.tx,yes:=m.yes}).log=s.log++[{dz with kind:=2,tx:=m.tx,yes:=m.yes,reads:=rd}]:=λz n k=>
     ⟨n.1.wait ⟨by simp,λ_=>⟨s.log.length,({dz with kind:=2,tx:=m.tx,yes:=m.yes,reads:=rd}:RecR),by rw[n.2];simp,rfl,rfl,rfl⟩,by simp⟩,n.2⟩
    have H:=iz.each (O:=a.ops) (f:=λz k _=>fb z {bA with kind:=4,to:=k,tx:=m.tx,yes:=m.yes}) (I:=λz=>iz G z/\z.log=s.log++[{dz with kind:=2,tx:=m.tx,yes:=m.yes,reads:=rd}]) ⟨w,rfl⟩ λz k p n=>key z n k;exact H.1.wait ⟨by simp,by simp,λ_=>⟨s.log.length,({dz with kind:=2,tx:=m.tx,yes:=m.yes,reads:=rd}:RecR),by rw[H.2];simp,rfl,rfl,rfl,rfl⟩⟩
theorem iz.same{G:Gl}(h:iz G s)(h1:z.me=s.me)(a:z.log=s.log)(b:z.aE=s.aE)(d:z.waits=s.waits)(e:z.out=s.out)(c:z.under=s.under):iz G z:=by
 refine⟨?_,?_,?_,?_,?_,?_,?_,?_,?_⟩
 .rw[a,b];exact h.aE
 .rw[a];exact h.uniq
 .rw[a,b];exact h.bF
 .rw[h1,a,b];exact h.cK
 .rw[a];exact h.done
 .rw[h1,a,d];exact h.waits
 .rw[e];exact h.out
 .rw[c];exact h.nd
 .rw[a,c];exact h.cr
theorem iz.w8{G:Gl}{m:MsgR}(h:iz G s)(hm:pI G m)(a:m.kind=4):iz G (fY s m):=by
 have b:=hm.bF a;have c:=h.write (x:={dz with kind:=3,tx:=m.tx,yes:=m.yes}) (λe=>by simp at e) (λ_=>b) (λe=>by simp at e);have f:∀ z:ShR,iz G z->iz G (fb z {bA with kind:=5,to:=m.aX,tx:=m.tx}):=λz g=>g.wait (tG.other (by simp) (by simp)<|by simp);unfold fY;cases j:aL s.log m.tx with
 |some r=>
  simp only[];refine f _<|c.same ?_ rfl ?_ ?_ ?_ ?_
  all_goals(by_cases i:m.yes=true<;>simp[i])
 |none=>
  simp only[];cases k:aM s.log 3 m.tx with
  |some d=>
   simp only[];split
   .exact h.send<|pI.other (by simp) (by simp)<|by simp
   .exact h
  |none=>grind
theorem iz.w9{G:Gl}{m:MsgR}(h:iz G s)(b:s.bX=ef s.log s.log.length)
  (hv:∀ (i:Nat) (r:RecR),aL s.log m.tx=some i->s.log[i]? =some r->fH s.bX r.ops=fH (ef s.log i) r.ops):iz G (eN s m):=by
 unfold eN;have c:iz G (ee s {bA with kind:=3,to:=m.aX,tx:=m.tx}):=h.send ⟨λ_ e=>by simp[bA]at e,by simp,by simp⟩;cases f:aL s.log m.tx with
 |some i=>
  simp only[];split
  .rename_i hi;obtain⟨r,h1,a,j⟩:=(bG (cZ f).2).2;refine h.send ⟨λ_ _=>?_,by simp,by simp⟩;have:=h.cK i r h1 hi a
   grind
  .exact h
 |none=>
  simp only[];cases k:aM s.log 3 m.tx with
  |some d=>grind
  |none=>
   simp only[];split
   .exact c
   .have g:=h.write (x:={dz with kind:=1,tx:=m.tx,home:=m.aX,ops:=m.ops}) (λe=>by simp at e) (λe=>by simp at e) (λe=>by simp at e);have h1:iz G {s with aQ:=u6 s.aQ m.tx m.ops,log:=s.log++[{dz with kind:=1,tx:=m.tx,home:=m.aX,ops:=m.ops}]}:=g.same rfl rfl rfl rfl rfl rfl;have a:=h1.wait (m:={bA with kind:=3,to:=m.aX,tx:=m.tx,yes:=true,reads:=fH s.bX m.ops}) ⟨λ_ _=>⟨rfl,s.log.length,({dz with kind:=1,tx:=m.tx,home:=m.aX,ops:=m.ops}:RecR),by simp,rfl,rfl,by show fH (ef (s.log++[_]) s.log.length) m.ops=fH s.bX m.ops;rw[mS (fC _),<- b]⟩,by simp,by simp⟩
    exact a.same rfl rfl rfl rfl rfl rfl
structure lI(H:Int->Int)(G:Gl)(s:ShR):Prop where
 hm:∀ (i:Nat) (r:RecR),s.log[i]? =some r->r.kind=2->H r.tx=s.me
 hu:∀ u∈s.under,H u.tx=s.me
 ex:∀ tx x,G.dec tx=some x->H tx=s.me->∃ (i:Nat) (r:RecR),s.log[i]? =some r/\(i:Int)<s.aE/\r.kind=2/\r.tx=tx/\(r.yes,r.reads)=x
 exp:∀ tx x,G.cK tx s.me=some x->∃ (i:Nat) (r:RecR),s.log[i]? =some r/\(i:Int)<s.aE/\r.kind=1/\r.tx=tx/\fH (ef s.log i) r.ops=x
 u1:∀ (i j:Nat) (r r':RecR),s.log[i]? =some r->s.log[j]? =some r'->r.kind=1->r'.kind=1->r.tx=r'.tx->i=j
def qY(log:List RecR)(g:Nat)(tx:Int):Option (Bool×List Int):=(aM (log.take g) 2 tx).bind λi=>(log[i]?).map λr=>(r.yes,r.reads)
def oY(log:List RecR)(g:Nat)(tx:Int):Option (List Int):=(aM (log.take g) 1 tx).bind λi=>(log[i]?).map λr=>fH (ef log i) r.ops
def Gl.ext(G:Gl)(me:Int)(log:List RecR)(g:Nat):Gl:=⟨λtx=>(G.dec tx).or<|qY log g tx,λtx k=>(G.cK tx k).or (if k=me then oY log g tx else none)⟩
theorem Gl.BA(G:Gl)(me:Int)(log:List RecR)(g:Nat):G.Le (G.ext me log g):=
 ⟨λt x h=>by show(G.dec t).or _=_;rw[h];rfl,λt k x h=>by show(G.cK t k).or _=_;rw[h];rfl⟩
theorem kT(h:(log.take g)[i]? =some r):i<g/\log[i]? =some r:=by grind
theorem yU{x:Bool×List Int}(h:qY log g tx=some x):∃ (i:Nat) (r:RecR),log[i]? =some r/\i<g/\r.kind=2/\r.tx=tx/\(r.yes,r.reads)=x:=by
 unfold qY at h;cases a:aM (log.take g) 2 tx with
 |none=>rw[a]at h;cases h
 |some i=>
  rw[a]at h;obtain⟨_,r,b,c,d⟩:=bG a
  grind
theorem FI{x:List Int}(h:oY log g tx=some x):∃ (i:Nat) (r:RecR),log[i]? =some r/\i<g/\r.kind=1/\r.tx=tx/\fH (ef log i) r.ops=x:=by
 unfold oY at h;cases a:aM (log.take g) 1 tx with
 |none=>rw[a]at h;cases h
 |some i=>
  rw[a]at h;obtain⟨_,r,b,c,d⟩:=bG a
  grind
theorem yV(h:log[i]? =some r)(a:i<g)(b:r.kind=k):∃ j,aM (log.take g) k r.tx=some j:=by
 cases c:aM (log.take g) k r.tx with
 |some j=>exact⟨j,rfl⟩
 |none=>
  exfalso;refine yb c i r ?_ b rfl;rw[LU a];exact h
theorem OA{i:Nat}(hu:∀ (i j:Nat) (r r':RecR),log[i]? =some r->log[j]? =some r'->r.kind=2->r'.kind=2->r.tx=r'.tx->i=j)(h:log[i]? =some r)(a:i<g)(b:r.kind=2):qY log g r.tx=some (r.yes,r.reads):=by
 obtain⟨j,c⟩:=yV h a b;obtain⟨_,r',d,e,f⟩:=bG c
 grind [qY]
theorem Kx{i:Nat}(hu:∀ (i j:Nat) (r r':RecR),log[i]? =some r->log[j]? =some r'->r.kind=1->r'.kind=1->r.tx=r'.tx->i=j)(h:log[i]? =some r)(a:i<g)(b:r.kind=1):oY log g r.tx=some (fH (ef log i) r.ops):=by
 obtain⟨j,c⟩:=yV h a b;obtain⟨_,r',d,e,f⟩:=bG c
 grind [oY]
theorem iz.grow{G:Gl}(h:iz G s)(e:lI H G s)(q:s.aE<=g)(hl:g<=s.log.length):iz (G.ext s.me s.log g) {s with aE:=g}/\lI H (G.ext s.me s.log g) {s with aE:=g}:=by
 have l:=h.mono<|G.BA s.me s.log g;have o:∀ (i:Nat) (r:RecR),s.log[i]? =some r->i<g->r.kind=2->(G.ext s.me s.log g).dec r.tx=some (r.yes,r.reads):=λi r a b c=>by
  show(G.dec r.tx).or _=_;cases f:G.dec r.tx with
  |none=>rw[OA h.uniq a b c];rfl
  |some x=>
   obtain⟨j,r',h1,m,k,n,p⟩:=e.ex _ _ f<|e.hm i r a c;have:=h.uniq i j r r' a h1 c k n.symm
   grind
 have hp:∀ (i:Nat) (r:RecR),s.log[i]? =some r->i<g->r.kind=1->(G.ext s.me s.log g).cK r.tx s.me=some (fH (ef s.log i) r.ops):=λi r a b c=>by
  show(G.cK r.tx s.me).or _=_;cases f:G.cK r.tx s.me with
  |none=>rw[aJ rfl,Kx e.u1 a b c];rfl
  |some x=>
   obtain⟨j,r',h1,m,k,n,p⟩:=e.exp _ _ f;have:=e.u1 i j r r' a h1 c k n.symm
   grind
 refine⟨⟨⟨by show(0:Int)<=(g:Int);omega,by show(g:Int)<=(s.log.length:Int);omega⟩,h.uniq,λi r a b c=>o i r a (by have:(i:Int)<(g:Int):=b;omega) c,λi r a b c=>hp i r a (by have:(i:Int)<(g:Int):=b;omega) c,l.done,h.waits,l.out,h.nd,l.cr⟩,⟨e.hm,e.hu,λtx x a b=>?_,λtx x a=>?_,e.u1⟩⟩
 .have d:(G.dec tx).or (qY s.log g tx)=some x:=a;cases f:G.dec tx with
  |some y=>
   rw[f]at d;injection d with d;subst d
   obtain⟨i,r,h1,m,k⟩:=e.ex _ _ f b
   grind
  |none=>grind [yU,qY]
 .have d:(G.cK tx s.me).or (if s.me=s.me then oY s.log g tx else none)=some x:=a;rw[aJ rfl]at d;cases f:G.cK tx s.me with
  |some y=>
   rw[f]at d;injection d with d;subst d
   obtain⟨i,r,h1,m,k⟩:=e.exp _ _ f
   grind
  |none=>grind [FI,oY]
theorem lI.grow{G:Gl}(e:lI H G s)(f:lI H G z)(h:z.me≠s.me):lI H (G.ext s.me s.log g) z:=by
 refine⟨f.hm,f.hu,λtx x a b=>?_,λtx x a=>?_,f.u1⟩
 .have c:(G.dec tx).or (qY s.log g tx)=some x:=a;cases d:G.dec tx with
  |some y=>rw[d]at c;injection c with c;subst c;exact f.ex _ _ d b
  |none=>
   rw[d]at c;obtain⟨i,r,h1,_,j,k,_⟩:=yU (show qY s.log g tx=some x from c);exact absurd (b.symm.trans<|k▸e.hm i r h1 j) h
 .have c:(G.cK tx z.me).or (if z.me=s.me then oY s.log g tx else none)=some x:=a;rw[ax h,Option.or_none]at c;exact f.exp _ _ c
theorem tG.out{G:Gl}{m:MsgR}(h:iz G s)(e:lI H G s)(j:(s.aE:Int)=s.log.length)(w:tG s.log s.me m):pI G m:=by
 refine⟨λa b=>?_,λa=>?_,λa=>?_⟩
 .obtain⟨z,i,r,h1,c,d,f⟩:=w.zA a b;have:=h.cK i r h1 (by have:=(dd.1 h1).1;omega) c;rw[d,f]at this;rw[z];exact this
 .obtain⟨i,r,h1,c,d,f⟩:=w.bF a;have:=h.bF i r h1 (by have:=(dd.1 h1).1;omega) c;rw[d,f]at this;exact⟨_,this⟩
 .obtain⟨i,r,h1,c,d,f,g⟩:=w.told a;have:=h.bF i r h1 (by have:=(dd.1 h1).1;omega) c;rw[d,f,g]at this;exact this
theorem iz.sync{G:Gl}(h:iz G s)(e:lI H G s):iz (G.ext s.me s.log s.log.length) (kH s)/\lI H (G.ext s.me s.log s.log.length) (kH s):=by
 obtain⟨h1,e1⟩:=h.grow e (g:=s.log.length) h.aE.2<|fC _;refine⟨⟨h1.aE,h1.uniq,h1.bF,h1.cK,h1.done,λm hm=>(by cases hm),λm hm=>?_,h1.nd,h1.cr⟩,⟨e1.hm,e1.hu,e1.ex,e1.exp,e1.u1⟩⟩;rcases bS.1 hm with hm|hm
 .exact h1.out m hm
 .exact tG.out h1 e1 rfl<|h1.waits m hm
theorem HX(h:log[i]? =some r)(a:i<g):(log.take g)[i]? =some r:=by rw[LU a];exact h
theorem BB(h:i<=g):ef (log.take g) i=ef log i:=by grind [ef]
theorem iz.cut{G:Gl}(h:iz G s)(e:lI H G s)(l:(s.aE:Int)=g)(hl:g<=s.log.length):iz G {s with log:=s.log.take g,waits:=[],under:=[]}/\lI H G {s with log:=s.log.take g,waits:=[],under:=[]}:=by
 refine⟨⟨⟨h.aE.1,by show s.aE<=((s.log.take g).length:Int);rw[nO,CN hl,l];exact mI _⟩,λi j r r' a b=>h.uniq i j r r' (kT a).2 (kT b).2,λi r a=>h.bF i r (kT a).2,λi r a b c=>?_,λi r a=>h.done i r (kT a).2,λm n=>(by cases n),h.out,GP,λu d=>(by cases d)⟩,
  ⟨λi r a=>e.hm i r (kT a).2,λu d=>(by cases d),λtx x a b=>?_,λtx x a=>?_,λi j r r' a b=>e.u1 i j r r' (kT a).2 (kT b).2⟩⟩
 .show G.cK r.tx s.me=some (fH (ef (s.log.take g) i) r.ops);rw[BB (yC (kT a).1)];exact h.cK i r (kT a).2 b c
 .obtain⟨i,r,h1,f,k⟩:=e.ex tx x a b;exact⟨i,r,HX h1 ai,f,k⟩
 .obtain⟨i,r,h1,f,k,o,p⟩:=e.exp tx x a;refine⟨i,r,HX h1 ai,f,k,o,?_⟩
  grind [fH,ef]
theorem lI.same{G:Gl}{z:ShR}(h:lI H G s)(h1:z.me=s.me)(a:z.log=s.log)(b:z.aE=s.aE)(c:∀ u∈z.under,H u.tx=s.me):lI H G z:=by
 refine⟨?_,?_,?_,?_,?_⟩
 .rw[h1,a];exact h.hm
 .rw[h1];exact c
 .rw[h1,a,b];exact h.ex
 .rw[h1,a,b];exact h.exp
 .rw[a];exact h.u1
theorem iz.rN{G:Gl}(h:iz G s)(e:lI H G s):∃ g:Nat,s.aE<=(g:Int)/\g<=s.log.length/\iz (G.ext s.me s.log g) (gb s k)/\lI H (G.ext s.me s.log g) (gb s k):=by
 have j:=h.aE;unfold gb;generalize b:(if k<0 then 0 else k)=k';have l:0<=k':=by rw[<- b];split<;>omega
 simp only[];generalize c:(if k'<(s.log.length:Int)-s.aE then k' else(s.log.length:Int)-s.aE)=n;have d:0<=n/\n<=(s.log.length:Int)-s.aE:=by rw[<- c];split<;>omega
 obtain⟨g,a⟩:∃ g:Nat,s.aE+n=(g:Int):=⟨(s.aE+n).toNat,ai⟩;refine⟨g,ai,by omega,?_⟩;obtain⟨h1,e1⟩:=h.grow e (g:=g) ai ai;obtain⟨f,e2⟩:=h1.cut e1 (g:=g) rfl (by show g<=s.log.length;omega);rw[a,gN];exact⟨f.same rfl rfl rfl rfl rfl rfl,e2.same rfl rfl rfl λu i=>(by cases i)⟩
theorem ni(log:List RecR):∀ (i:Nat) (s:ShR),(de log i s).me=s.me/\(de log i s).log=s.log/\(de log i s).aE=s.aE/\(de log i s).waits=s.waits/\(de log i s).out=s.out/\(de log i s).under=s.under
 |0,s=>⟨rfl,rfl,rfl,rfl,rfl,rfl⟩
 |i+1,s=>by
  have h:=ni log i s
  grind [de]
theorem iz.clear{G:Gl}(h:iz G s):iz G {s with waits:=[],under:=[]}:=
 ⟨h.aE,h.uniq,h.bF,h.cK,h.done,λm a=>(by cases a),h.out,GP,λu b=>(by cases b)⟩
theorem iz.iC{G:Gl}(h:iz G s)(e:lI H G s):iz G (cD s)/\lI H G (cD s):=by have r:=ni s.log s.log.length<|bY {s with up:=true};refine⟨h.clear.same r.1 r.2.1 r.2.2.1 r.2.2.2.1 r.2.2.2.2.1 r.2.2.2.2.2,e.same r.1 r.2.1 r.2.2.1 λu a=>?_⟩;have:u∈(de s.log s.log.length<|bY {s with up:=true}).under:=a;rw[r.2.2.2.2.2]at this;cases this
theorem iz.off{G:Gl}(h:iz G s):iz G (lF s t):=by
 unfold lF;split
 .split
  .exact(h.send (m:={bA with kind:=6,to:=_,tx:=t.tx})<|pI.other (by simp) (by simp)<|by simp).same rfl rfl rfl rfl rfl rfl
  .exact h
 .cases l:bP s.under t.tx with
  |none=>exact h
  |some i=>
   simp only[];cases q:s.under[i]? with
   |none=>exact h
   |some u=>
    simp only[];have v:u.tx=t.tx:=by
     unfold bP at l;obtain⟨hl,hp,_⟩:=yB.1 l
     grind
    have n:=h.cr u<|bD q;have fin:∀ gd:Bool,(u.dec=true->gd=true->∃ rd,G.dec t.tx=some (u.yes,rd))->iz G (gO s u.ops λz k p=>
      if(!u.dec&& !(bJ u k).isSome)=true then ee z {bA with kind:=2,to:=k,tx:=t.tx,ops:=p}
      else if(u.dec&&gd&& !u.cf.contains k)=true then ee z {bA with kind:=4,to:=k,tx:=t.tx,yes:=u.yes}
      else z):=λgd f=>iz.each (I:=iz G) h λz k p g=>by
     by_cases h1:(!u.dec&& !(bJ u k).isSome)=true
     .rw[aJ h1];exact g.send<|pI.other (by simp) (by simp)<|by simp
     .rw[ax h1];by_cases c:(u.dec&&gd&& !u.cf.contains k)=true
      .rw[aJ c];simp only[jK]at c;exact g.send ⟨by simp,λ_=>f c.1.1 c.1.2,by simp⟩
      .rw[ax c];exact g
    cases w:aM s.log 2 t.tx with
    |none=>
     refine(fin (Decidable.decide<|-1<s.aE) λa _=>?_).same rfl rfl rfl rfl rfl rfl;obtain⟨j,r,h1,c,o,x⟩:=n.bF a
     grind [yb]
    |some d=>
     refine(fin (Decidable.decide<|(d:Int)<s.aE) λa b=>?_).same rfl rfl rfl rfl rfl rfl;obtain⟨j,r,h1,c,o,x⟩:=n.bF a;obtain⟨_,r',y,A,B⟩:=bG w;have e:=h.uniq j d r r' h1 y c A (by rw[o,v,B]);subst e;have:=h.bF j r h1 (of_decide_eq_true b) c
     grind
theorem iz.eG{G:Gl}:∀ (f:Nat) {s:ShR},iz G s->iz G (Go.Sl.eG f s)
 |0,s,h=>h
 |f+1,s,h=>by
  unfold Go.Sl.eG;split
  .exact h
  .rename_i k t _;have h1:iz G {s with timers:=s.timers.eraseIdx k}:=h.same rfl rfl rfl rfl rfl rfl;exact iz.eG f h1.off
theorem iz.tick{G:Gl}(h:iz G s):iz G (dv s):=iz.eG _<|h.same rfl rfl rfl rfl rfl rfl
theorem lI.write{G:Gl}(e:lI H G s)(h:s.aE<=s.log.length)(h1:x.kind=1->aM s.log 1 x.tx=none)(g:x.kind=2->H x.tx=s.me):lI H G {s with log:=s.log++[x]}:=by
 refine⟨λi r a b=>?_,e.hu,λtx y a b=>?_,λtx y a=>?_,λi j r r' a b c d f=>?_⟩
 .rcases kZ a with a|⟨_,a⟩
  .exact e.hm i r a b
  .subst a;exact g b
 .obtain⟨i,r,z1,z2⟩:=e.ex tx y a b;exact⟨i,r,w7 z1,z2⟩
 .obtain⟨i,r,z1,z2,k,l,m⟩:=e.exp tx y a
  grind [fH,ef]
 .rcases kZ a with a1|⟨a1,n⟩
  .rcases kZ b with b1|⟨b1,b2⟩
   .exact e.u1 i j r r' a1 b1 c d f
   .grind [yb]
  .rcases kZ b with b1|⟨b1,b2⟩
   .grind [yb]
   .omega
def kt(s z:ShR):Prop:=z.me=s.me/\z.log=s.log/\z.aE=s.aE/\z.under=s.under
theorem kt.refl(s:ShR):kt s s:=⟨rfl,rfl,rfl,rfl⟩
theorem kt.trans{a b c:ShR}(h:kt a b)(k:kt b c):kt a c:=⟨k.1.trans h.1,k.2.1.trans h.2.1,k.2.2.1.trans h.2.2.1,k.2.2.2.trans h.2.2.2⟩
theorem kt.ite{c:Prop}[Decidable c]{a:ShR}(h:kt z a)(k:kt z b):kt z (if c then a else b):=by split<;>assumption
theorem kt.each{s:ShR}{O:List bO}{f:ShR->Int->List bO->ShR}(hf:∀ z k p,kt z<|f z k p):kt s (gO s O f):=
 iz.each (I:=kt s) (kt.refl s) λz k p a=>a.trans<|hf z k p
theorem lI.of{G:Gl}(h:lI H G s)(k:kt s z):lI H G z:=h.same k.1 k.2.1 k.2.2.1 (by rw[k.2.2.2];exact h.hu)
theorem lI.begin{G:Gl}{m:MsgR}(e:lI H G s)(hh:H m.tx=s.me):lI H G (gZ s m):=by
 unfold gZ;split
 .split
  .exact e.of ⟨rfl,rfl,rfl,rfl⟩
  .exact e
 .split
  .exact e
  .have h1:lI H G {s with under:=s.under++[⟨m.tx,m.ops,[],false,false,[]⟩]}:=e.same rfl rfl rfl λu hu=>by
    rcases bS.1 hu with hu|hu
    .exact e.hu u hu
    .rw[dR.1 hu];exact hh
   have a:=h1.of (kt.each (O:=m.ops) (f:=λz k p=>ee z {bA with kind:=2,to:=k,tx:=m.tx,ops:=p}) λz k p=>⟨rfl,rfl,rfl,rfl⟩);exact a.of ⟨rfl,rfl,rfl,rfl⟩
theorem lI.ack{G:Gl}{m:MsgR}(e:lI H G s):lI H G (qj s m):=by
 unfold qj;split
 .exact e
 .split
  .exact e
  .rename_i u hu;split
   .exact e
   .dsimp only;split
    .exact e.same rfl rfl rfl λv a=>e.hu v<|uW a
    .refine e.same rfl rfl rfl λv a=>?_;rcases gk a with a|rfl
     .exact e.hu v a
     .exact e.hu u<|bD hu
theorem lI.ask{G:Gl}{m:MsgR}(e:lI H G s)(a:s.aE<=s.log.length)(hh:H m.tx=s.me):lI H G (pE s m):=by
 unfold pE;split
 .split
  .exact e.of ⟨rfl,rfl,rfl,rfl⟩
  .exact e
 .split
  .exact e
  .exact(e.write (x:={dz with kind:=2,tx:=m.tx}) a (λc=>by simp at c) λ_=>hh).of ⟨rfl,rfl,rfl,rfl⟩
theorem lI.w8{G:Gl}{m:MsgR}(e:lI H G s)(b:s.aE<=s.log.length):lI H G (fY s m):=by
 have a:=e.write (x:={dz with kind:=3,tx:=m.tx,yes:=m.yes}) b (λc=>by simp at c) (λc=>by simp at c);unfold fY;split
 .refine a.of ⟨?_,rfl,?_,?_⟩
  all_goals(by_cases d:m.yes=true<;>simp[d,fb])
 .split
  .split
   .exact e.of ⟨rfl,rfl,rfl,rfl⟩
   .exact e
  .split
   .exact e
   .exact a.of ⟨rfl,rfl,rfl,rfl⟩
theorem lI.w9{G:Gl}{m:MsgR}(e:lI H G s)(b:s.aE<=s.log.length):lI H G (eN s m):=by
 unfold eN;cases a:aL s.log m.tx with
 |some i=>
  simp only[];split
  .exact e.of ⟨rfl,rfl,rfl,rfl⟩
  .exact e
 |none=>
  simp only[];cases f:aM s.log 3 m.tx with
  |some d=>
   simp only[];split
   .exact e
   .exact e.of ⟨rfl,rfl,rfl,rfl⟩
  |none=>
   simp only[];split
   .exact e.of ⟨rfl,rfl,rfl,rfl⟩
   .have h1:aM s.log 1 m.tx=none:=by unfold aL at a;rw[f]at a;simpa using a
    exact(e.write (x:={dz with kind:=1,tx:=m.tx,home:=m.aX,ops:=m.ops}) b (λ_=>h1) λc=>by simp at c).of ⟨rfl,rfl,rfl,rfl⟩
theorem lI.off{G:Gl}(e:lI H G s):lI H G (lF s t):=by
 unfold lF;split
 .split
  .exact e.of ⟨rfl,rfl,rfl,rfl⟩
  .exact e
 .split
  .exact e
  .split
   .exact e
   .refine e.of ?_;refine kt.trans (kt.each λz k p=>?_) ⟨rfl,rfl,rfl,rfl⟩;exact kt.ite ⟨rfl,rfl,rfl,rfl⟩<|kt.ite ⟨rfl,rfl,rfl,rfl⟩<|kt.refl _
theorem lI.eG{H:Int->Int}{G:Gl}:∀ (f:Nat) {s:ShR},lI H G s->lI H G (Go.Sl.eG f s)
 |0,s,h=>h
 |f+1,s,h=>by
  unfold Go.Sl.eG;split
  .exact h
  .rename_i k t _;have h1:lI H G {s with timers:=s.timers.eraseIdx k}:=h.of ⟨rfl,rfl,rfl,rfl⟩;exact lI.eG f h1.off
theorem lI.tick{G:Gl}(h:lI H G s):lI H G (dv s):=lI.eG _<|h.of ⟨rfl,rfl,rfl,rfl⟩
theorem lI.zA{G:Gl}{m:MsgR}(e:lI H G s)(q:s.aE<=s.log.length):lI H G (kO s m):=by
 unfold kO;cases g:bP s.under m.tx with
 |none=>exact e
 |some i=>
  simp only[];cases hu:s.under[i]? with
  |none=>exact e
  |some u=>
   simp only[];have r:u.tx=m.tx:=by
    unfold bP at g;obtain⟨hl,hp,_⟩:=yB.1 g
    grind
   have h:=e.hu u<|bD hu;by_cases j:u.dec=true
   .rw[aJ j];exact e
   rw[ax j];generalize t:(if(m.yes&& !(bJ u m.aX).isSome)=true then({u with bq:=u.bq++[⟨m.aX,m.reads⟩]}:dS)else u)=u1;have l:u1.tx=u.tx:=by rw[<- t];split<;>rfl
   have n:∀ (a:dS),a.tx=u.tx->∀ x∈s.under.set i a,H x.tx=s.me:=λa b x d=>by
    rcases gk d with d|rfl
    .exact e.hu x d
    .rw[b];exact h
   by_cases o:(m.yes&& !gP s.n u1.ops λk=>(bJ u1 k).isSome)=true
   .rw[aJ o];exact e.same rfl rfl rfl<|n u1 l
   .rw[ax o];generalize w:(if m.yes=true then jU {u1 with dec:=true,yes:=m.yes} s.n else[])=rd;have h1:=e.write (x:={dz with kind:=2,tx:=m.tx,yes:=m.yes,reads:=rd}) q (λc=>by simp at c) (λ_=>by show H m.tx=s.me;rw[<- r];exact h);have b:lI H G {s with under:=s.under.set i {u1 with dec:=true,yes:=m.yes},log:=s.log++[{dz with kind:=2,tx:=m.tx,yes:=m.yes,reads:=rd}]}:=h1.same rfl rfl rfl (n _<|by exact l);have v:=b.of (kt.each (O:=u1.ops) (f:=λz k _=>fb z {bA with kind:=4,to:=k,tx:=m.tx,yes:=m.yes}) λz k p=>⟨rfl,rfl,rfl,rfl⟩);exact v.of ⟨rfl,rfl,rfl,rfl⟩
theorem vJ(log a:List RecR)(s:ShR):∀ i,i<=log.length->de (log++a) i s=de log i s
 |0,_=>rfl
 |i+1,h=>by
  unfold de;rw[vJ log a s i ai,pT ai];have:∀ tx,AR (log++a) tx i=AR log tx i:=λtx=>qm log a 1 tx i ai;simp only[this];cases c:log[i]? with
  |none=>rfl
  |some r=>
   simp only[];by_cases h1:r.kind=1
   .rw[aJ h1,aJ h1]
   .rw[ax h1,ax h1];by_cases b:r.kind=3
    .rw[aJ b,aJ b];cases hp:AR log r.tx i with
     |none=>rfl
     |some p=>
      have d:p<i:=(Bb hp).1;simp only[];rw[pT ai]
    .rw[ax b,ax b]
def Em:ShR:=bY ⟨0,0,true,[],0,[],[],[],[],[],0,[]⟩
theorem HY(h:i<=log.length):de (log.take i) i Em=de log i Em:=by have:=vJ (log.take i) (log.drop i) Em i (by rw[nO];omega);rw[wj]at this;exact this.symm
theorem BC(h:i<=log.length):ef log i=(de log i Em).bX:=congrArg ShR.bX<|HY h
theorem lv:ef (log++[x]) (log.length+1)=(if x.kind=3 then(match aM log 1 x.tx with|some p=>if x.yes then cS (ef log log.length) (log[p]?.getD dz).ops else ef log log.length|none=>ef log log.length)else ef log log.length):=by
 rw[BC (by simp),BC<|fC _];rw[de,vJ log [x] Em log.length<|fC _];simp only[E4 (fC _),Ar,QX];by_cases h1:x.kind=1
 .rw[aJ h1,ax ai]
 .rw[ax h1];by_cases a:x.kind=3
  .rw[aJ a,aJ a];have hp:AR (log++[x]) x.tx log.length=aM log 1 x.tx:=qm log [x] 1 x.tx log.length<|fC _;rw[hp];cases c:aM log 1 x.tx with
   |none=>rfl
   |some p=>
    have d:p<log.length:=(bG c).1;simp only[];rw[pT d];by_cases b:x.yes=true
    .simp[b]
    .simp[b]
  .rw[ax a,ax a]
theorem yW(log:List RecR){s z:ShR}(hv:s.bX=z.bX)(hl:s.aQ=z.aQ):∀ i,(de log i s).bX=(de log i z).bX/\(de log i s).aQ=(de log i z).aQ
 |0=>⟨hv,hl⟩
 |i+1=>by
  obtain⟨h1,a⟩:=yW log hv hl i;unfold de;cases d:log[i]? with
  |none=>exact⟨h1,a⟩
  |some r=>
   simp only[];by_cases k1:r.kind=1
   .rw[aJ k1,aJ k1];exact⟨h1,by simp only[a]⟩
   .rw[ax k1,ax k1];by_cases b:r.kind=3
    .rw[aJ b,aJ b];cases hp:AR log r.tx i with
     |none=>exact⟨h1,by simp only[a]⟩
     |some p=>
      simp only[];by_cases c:r.yes=true
      .rw[aJ c,aJ c];exact⟨by simp only[h1],by simp only[a]⟩
      .rw[ax c,ax c];exact⟨h1,by simp only[a]⟩
    .rw[ax b,ax b];exact⟨h1,a⟩
def gB(s:ShR):Prop:=s.up=true->s.bX=ef s.log s.log.length
theorem gB.same(h:gB s)(h1:z.up=s.up)(a:z.log=s.log)(b:z.bX=s.bX):gB z:=by unfold gB;rw[h1,a,b];exact h
theorem gB.push(h:gB s)(b:x.kind≠3)(h1:z.up=s.up)(c:z.log=s.log++[x])(d:z.bX=s.bX):gB z:=by intro a;rw[h1]at a;rw[c,d,iV,iR,lv,ax b];exact h a
theorem gB.iC:gB (cD s):=by intro _;have r:=ni s.log s.log.length<|bY {s with up:=true};show(de s.log s.log.length<|bY {s with up:=true}).bX=ef (de s.log s.log.length<|bY {s with up:=true}).log (de s.log s.log.length<|bY {s with up:=true}).log.length;rw[r.2.1];show _=ef s.log s.log.length;rw[BC (fC _)];exact(yW s.log (s:=bY {s with up:=true}) (z:=Em) rfl rfl s.log.length).1
theorem gB.w8{m:MsgR}(h:gB s):gB (fY s m):=by
 unfold fY;cases b:aL s.log m.tx with
 |some r=>
  simp only[];intro c;have e:s.up=true:=by
   have:(fb {(if m.yes=true then{s with bX:=cS s.bX (s.log[r]?.getD dz).ops}else s)with aQ:=yO s.aQ m.tx,log:=s.log++[{dz with kind:=3,tx:=m.tx,yes:=m.yes}]} {bA with kind:=5,to:=m.aX,tx:=m.tx}).up=true:=c;by_cases a:m.yes=true
   .simpa[a,fb]using this
   .simpa[a,fb]using this
  show(if m.yes=true then({s with bX:=cS s.bX (s.log[r]?.getD dz).ops}:ShR)else s).bX=ef (s.log++[{dz with kind:=3,tx:=m.tx,yes:=m.yes}]) (s.log++[{dz with kind:=3,tx:=m.tx,yes:=m.yes}]).length;rw[iV,iR,lv,aJ rfl];simp only[(cZ b).2];rw[<- h e];by_cases a:m.yes=true
  .rw[aJ a,aJ a]
  .rw[ax a,ax a]
 |none=>
  simp only[];cases f:aM s.log 3 m.tx with
  |some d=>
   simp only[];split
   .exact h.same rfl rfl rfl
   .exact h
  |none=>
   simp only[];by_cases a:m.yes=true
   .rw[aJ a];exact h
   .rw[ax a];intro c;show s.bX=ef (s.log++[{dz with kind:=3,tx:=m.tx,yes:=m.yes}]) (s.log++[{dz with kind:=3,tx:=m.tx,yes:=m.yes}]).length;rw[iV,iR,lv,aJ rfl];have h1:aM s.log 1 m.tx=none:=by unfold aL at b;rw[f]at b;simpa using b
    simp only[h1];exact h c
theorem Ky{d:List bO}:∀ {b:List Int} {O:List bO},(∀ o∈O,97<=o.k)->(∀ o∈d,97<=o.k)->(∀ o∈O,∀ o'∈d,o.k≠o'.k)->fH (cS b d) O=fH b O:=by
 induction d with
 |nil=>intro b O _ _ _;rfl
 |cons a l i=>
  intro b O h1 e f;have j:fH (if a.w then b.set (a.k-97).toNat a.v else b) O=fH b O:=by
   by_cases g:a.w=true
   .rw[aJ g];unfold fH;refine List.map_congr_left λo c=>?_;have h:=(gW.1 c).1;have k:(a.k-97).toNat≠(o.k-97).toNat:=by have:=h1 o h;have:=e a<|fX ..;have:=f o h a<|fX ..;omega
    rw[rC k]
   .rw[ax g]
  show fH (cS (if a.w then b.set (a.k-97).toNat a.v else b) l) O=_;rw[i h1 (λo c=>e o<|fg _ c) (λo c o' m=>f o c o'<|fg _ m),j]
structure vK(L:List RecR):Prop where
 key:∀ tx i (r:RecR),aL L tx=some i->L[i]? =some r->∀ o∈r.ops,97<=o.k
 seen:∀ tx i (r:RecR),aL L tx=some i->L[i]? =some r->fH (ef L L.length) r.ops=fH (ef L i) r.ops
 apart:∀ tx VB i i' (r r':RecR),tx≠VB->aL L tx=some i->aL L VB=some i'->L[i]? =some r->L[i']? =some r'->∀ o∈r.ops,∀ o'∈r'.ops,o.k≠o'.k
theorem mT(h:aL L tx=some i):i<L.length:=(bG (cZ h).2).1
theorem vK.ae7(h:vK L)(g:x.kind=2):vK (L++[x]):=by
 have e:∀ tx,aL (L++[x]) tx=aL L tx:=λtx=>by
  have j:aM (L++[x]) 3 tx=aM L 3 tx:=by rw[dX,ax<|by simp[isRec,g]]
  have e1:aM (L++[x]) 1 tx=aM L 1 tx:=by rw[dX,ax<|by simp[isRec,g]]
  unfold aL;rw[j,e1]
 have f:∀ {tx i},aL L tx=some i->∀ {r:RecR},(L++[x])[i]? =some r->L[i]? =some r:=λh r e=>by rw[pT (mT h)]at e;exact e
 refine⟨λtx i r a b=>?_,λtx i r a b=>?_,λtx k i l r r' n a b c d=>?_⟩
 .rw[e]at a;exact h.key tx i r a<|f a b
 .rw[e]at a;rw[iV,iR,lv,ax ai,mS<|yC<|mT a];exact h.seen tx i r a<|f a b
 .rw[e]at a b;exact h.apart tx k i l r r' n a b (f a c)<|f b d
theorem vK.ae8(h:vK L)(m:x.kind=3)(t:aM L 3 x.tx=none):vK (L++[x]):=by
 have f:∀ tx i,aL (L++[x]) tx=some i->tx≠x.tx/\aL L tx=some i:=λtx i a=>by
  obtain⟨j,a1⟩:=cZ a;rw[dX]at j a1;rw[ax (by simp[isRec,m])]at a1;have k:isRec 3 tx x=false:=by
   cases u:isRec 3 tx x with
   |false=>rfl
   |true=>rw[u]at j;simp at j
  rw[k]at j;simp only[fW,eQ]at j;refine⟨λe=>?_,?_⟩
  .simp[isRec,m,e]at k
  .unfold aL;rw[j];exact a1
 have l:∀ {tx i},aL L tx=some i->∀ {r:RecR},(L++[x])[i]? =some r->L[i]? =some r:=λh r f=>by rw[pT (mT h)]at f;exact f
 refine⟨λtx i r a b=>?_,λtx i r a b=>?_,λtx v i w r r' n a b c d=>?_⟩
 .have a:=(f _ _ a).2;exact h.key tx i r a<|l a b
 .obtain⟨k,a⟩:=f _ _ a;have b':=l a b;rw[iV,iR,lv,aJ m,mS<|yC<|mT a,<- h.seen tx i r a b'];cases hp:aM L 1 x.tx with
  |none=>rfl
  |some p=>
   simp only[];have o:aL L x.tx=some p:=by unfold aL;rw[t];exact hp
   obtain⟨_,q,g,_,_⟩:=bG hp;by_cases s:x.yes=true
   .rw[aJ s,g,iG];exact Ky (h.key tx i r a b') (h.key _ p q o g)<|h.apart tx x.tx i p r q k a o b' g
   .rw[ax s]
 .have a:=(f _ _ a).2;have b:=(f _ _ b).2;exact h.apart tx v i w r r' n a b (l a c)<|l b d
theorem vK.ae9{x:RecR}(h:vK L)(j:x.kind=1)(w:aM L 3 x.tx=none)(h1:aM L 1 x.tx=none)(s:∀ o∈x.ops,97<=o.k)
  (m:∀ t i (r:RecR),aL L t=some i->L[i]? =some r->∀ o∈r.ops,∀ o'∈x.ops,o.k≠o'.k):vK (L++[x]):=by
 have f:∀ tx i,aL (L++[x]) tx=some i->(tx=x.tx/\i=L.length)\/(tx≠x.tx/\aL L tx=some i):=λtx i a=>by
  obtain⟨k,a1⟩:=cZ a;rw[dX]at k a1;rw[ax (by simp[isRec,j])]at k;by_cases e:tx=x.tx
  .subst e;rw[aJ (by simp[isRec,j])]at a1;injection a1 with a1
   exact .inl ⟨rfl,a1.symm⟩
  .rw[ax (by simp[isRec,j];exact λz=>e z.symm)]at a1;exact .inr ⟨e,by unfold aL;rw[k];exact a1⟩
 have g:∀ {tx i},aL L tx=some i->∀ {r:RecR},(L++[x])[i]? =some r->L[i]? =some r:=λh r f=>by rw[pT (mT h)]at f;exact f
 have l:∀ {r:RecR},(L++[x])[L.length]? =some r->r=x:=λf=>by simpa using f.symm
 refine⟨λtx i r a b=>?_,λtx i r a b=>?_,λtx p i q r r' n a b c d=>?_⟩
 .rcases f _ _ a with⟨_,rfl⟩|⟨_,a⟩
  .rw[l b];exact s
  .exact h.key tx i r a<|g a b
 .rw[iV,iR,lv,ax ai];rcases f _ _ a with⟨_,rfl⟩|⟨_,a⟩
  .rw[mS (fC _)]
  .rw[mS (yC<|mT a)];exact h.seen tx i r a<|g a b
 .rcases f _ _ a with⟨e1,rfl⟩|⟨_,a⟩
  .rcases f _ _ b with⟨e2,rfl⟩|⟨_,b⟩
   .exact absurd (e1.trans e2.symm) n
   .rw[l c];exact λo u o' v=>(m p q r' b (g b d) o' v o u).symm
  .rcases f _ _ b with⟨e2,rfl⟩|⟨_,b⟩
   .rw[l d];exact m tx i r a<|g a c
   .exact h.apart tx p i q r r' n a b (g a c)<|g b d
theorem vK.nil:vK []:=⟨λtx i r a=>by simp[aL,aM,findD]at a,λtx i r a=>by simp[aL,aM,findD]at a,λtx b i c r r' n a=>by simp[aL,aM,findD]at a⟩
theorem eH.keep{T:List (List bO)}(f:vd T)(h:eH T n me E):vK (E.map aR.aZ):=by
 induction h with
 |nil=>exact vK.nil
 |cK h d l h1 e g c=>
  rw[eW];refine c.ae9 rfl e h1 (λo j=>?_) λt i r a b=>g t i r a b;have k:=(ie d).2.2;exact((f.1 _ k).1 o (gW.1 j).1).1
 |dec h d c=>rw[eW];exact c.ae7 rfl
 |kY h d e c=>rw[eW];exact c.ae8 rfl e
def j3(s z:ShR):Prop:=z.up=s.up/\z.log=s.log/\z.bX=s.bX
theorem j3.refl(s:ShR):j3 s s:=⟨rfl,rfl,rfl⟩
theorem j3.trans{a b c:ShR}(h:j3 a b)(k:j3 b c):j3 a c:=⟨k.1.trans h.1,k.2.1.trans h.2.1,k.2.2.trans h.2.2⟩
theorem j3.ite{c:Prop}[Decidable c]{a:ShR}(h:j3 z a)(k:j3 z b):j3 z (if c then a else b):=by split<;>assumption
theorem j3.each{s:ShR}{O:List bO}{f:ShR->Int->List bO->ShR}(hf:∀ z k p,j3 z<|f z k p):j3 s (gO s O f):=
 iz.each (I:=j3 s) (j3.refl s) λz k p a=>a.trans<|hf z k p
theorem gB.of(h:gB s)(k:j3 s z):gB z:=h.same k.1 k.2.1 k.2.2
theorem gB.begin{m:MsgR}(h:gB s):gB (gZ s m):=by
 unfold gZ;split
 .split
  .exact h.of ⟨rfl,rfl,rfl⟩
  .exact h
 .split
  .exact h
  .exact(h.of (z:={s with under:=s.under++[⟨m.tx,m.ops,[],false,false,[]⟩]}) ⟨rfl,rfl,rfl⟩).of<|j3.trans (j3.each (O:=m.ops) (f:=λz k p=>ee z {bA with kind:=2,to:=k,tx:=m.tx,ops:=p}) λz k p=>⟨rfl,rfl,rfl⟩) ⟨rfl,rfl,rfl⟩
theorem gB.ack{m:MsgR}(h:gB s):gB (qj s m):=by
 unfold qj;split
 .exact h
 .split
  .exact h
  .split
   .exact h
   .dsimp only;split<;>exact h.of ⟨rfl,rfl,rfl⟩
theorem gB.ask{m:MsgR}(h:gB s):gB (pE s m):=by
 unfold pE;split
 .split
  .exact h.of ⟨rfl,rfl,rfl⟩
  .exact h
 .split
  .exact h
  .exact h.push (x:={dz with kind:=2,tx:=m.tx}) (by simp) rfl rfl rfl
theorem gB.zA{m:MsgR}(h:gB s):gB (kO s m):=by
 unfold kO;split
 .exact h
 .split
  .exact h
  .rename_i _ i _ _ u _;by_cases b:u.dec=true
   .rw[aJ b];exact h
   rw[ax b];generalize j:(if(m.yes&& !(bJ u m.aX).isSome)=true then({u with bq:=u.bq++[⟨m.aX,m.reads⟩]}:dS)else u)=a;by_cases c:(m.yes&& !gP s.n a.ops λk=>(bJ a k).isSome)=true
   .rw[aJ c];exact h.of ⟨rfl,rfl,rfl⟩
   .rw[ax c];generalize d:(if m.yes=true then jU {a with dec:=true,yes:=m.yes} s.n else[])=rd;have e:gB {s with under:=s.under.set i {a with dec:=true,yes:=m.yes},log:=s.log++[{dz with kind:=2,tx:=m.tx,yes:=m.yes,reads:=rd}]}:=h.push (x:={dz with kind:=2,tx:=m.tx,yes:=m.yes,reads:=rd}) (by simp) rfl rfl rfl;have g:=e.of (j3.each (O:=a.ops) (f:=λz k _=>fb z {bA with kind:=4,to:=k,tx:=m.tx,yes:=m.yes}) λz k p=>⟨rfl,rfl,rfl⟩);subst d;exact g.of ⟨rfl,rfl,rfl⟩
theorem gB.w9{m:MsgR}(h:gB s):gB (eN s m):=by
 unfold eN;split
 .split
  .exact h.of ⟨rfl,rfl,rfl⟩
  .exact h
 .split
  .split
   .exact h
   .exact h.of ⟨rfl,rfl,rfl⟩
  .split
   .exact h.of ⟨rfl,rfl,rfl⟩
   .exact h.push (x:={dz with kind:=1,tx:=m.tx,home:=m.aX,ops:=m.ops}) (by simp) rfl rfl rfl
theorem gB.off(h:gB s):gB (lF s t):=by
 unfold lF;split
 .split
  .exact h.of ⟨rfl,rfl,rfl⟩
  .exact h
 .split
  .exact h
  .split
   .exact h
   .refine h.of ?_;refine j3.trans (j3.each λz k p=>?_) ⟨rfl,rfl,rfl⟩;exact j3.ite ⟨rfl,rfl,rfl⟩<|j3.ite ⟨rfl,rfl,rfl⟩<|j3.refl _
theorem gB.eG:∀ (f:Nat) {s:ShR},gB s->gB (Go.Sl.eG f s)
 |0,s,h=>h
 |f+1,s,h=>by
  unfold Go.Sl.eG;split
  .exact h
  .rename_i k t _;have h1:gB {s with timers:=s.timers.eraseIdx k}:=h.of ⟨rfl,rfl,rfl⟩;exact gB.eG f h1.off
theorem gB.tick(h:gB s):gB (dv s):=gB.eG _<|h.of ⟨rfl,rfl,rfl⟩
theorem gB.sync(h:gB s):gB (kH s):=h.of ⟨rfl,rfl,rfl⟩
theorem gB.rN:gB (gb s k):=λa=>by have:(gb s k).up=false:=rfl;rw[this]at a;cases a
structure En(H:Int->Int)(G:Gl)(s:ShR):Prop where
 g:iz G s
 e:lI H G s
 v:gB s
theorem En.take{G:Gl}{m:MsgR}(h:En H G s)(hm:pI G m)(hh:m.kind=1\/m.kind=6->H m.tx=s.me)(e:vK s.log)(d:s.up=true):En H G (cm s m):=by
 have c:=h.g.aE.2;unfold cm;split
 .rename_i k;exact⟨h.g.begin,h.e.begin<|hh<|.inl k,h.v.begin⟩
 split
 .refine⟨h.g.w9 (h.v d) λi r a b=>?_,h.e.w9 c,h.v.w9⟩;rw[h.v d];exact e.seen m.tx i r a b
 split
 .rename_i k;exact⟨h.g.zA hm k,h.e.zA c,h.v.zA⟩
 split
 .rename_i k;exact⟨h.g.w8 hm k,h.e.w8 c,h.v.w8⟩
 split
 .exact⟨h.g.ack,h.e.ack,h.v.ack⟩
 split
 .rename_i k;exact⟨h.g.ask,h.e.ask c<|hh<|.inr k,h.v.ask⟩
 .exact h
theorem En.tick{H:Int->Int}{G:Gl}{s:ShR}(h:En H G s):En H G (dv s):=⟨h.g.tick,h.e.tick,h.v.tick⟩
theorem En.iC{H:Int->Int}{G:Gl}{s:ShR}(h:En H G s):En H G (cD s):=⟨(h.g.iC h.e).1,(h.g.iC h.e).2,gB.iC⟩
structure Eo(H:Int->Int)(G:Gl)(w:WR):Prop where
 sh:∀ (i:Nat) s,w.sh[i]? =some s->En H G s/\s.me=i/\s.out=[]
 aH:∀ m∈w.aH,pI G m
 aC:∀ (t:Nat) x,w.aC[t]? =some x->(x.state=2->G.dec t=some (true,x.reads))/\(x.state=3->∃ rd,G.dec t=some (false,rd))
theorem En.clear{G:Gl}(h:En H G s):En H G {s with out:=[]}:=
 ⟨⟨h.g.aE,h.g.uniq,h.g.bF,h.g.cK,h.g.done,h.g.waits,λm a=>(by cases a),h.g.nd,h.g.cr⟩,h.e.of ⟨rfl,rfl,rfl,rfl⟩,h.v.of ⟨rfl,rfl,rfl⟩⟩
theorem Eo.C8{G d:Gl}(h:Eo H G w)(b:G.Le d)(hs:En H d s')(g:s'.me=a)(j:∀ z,z.me≠(a:Int)->lI H G z->lI H d z):Eo H d (gf w a s'):=by
 refine⟨λi s hi=>?_,λm hm=>?_,λt x k=>?_⟩
 .have c:(w.sh.set a {s' with out:=[]})[i]? =some s:=hi;by_cases e:a=i
  .subst e;rw[wi]at c;simp only[fq]at c;split at c
   .injection c with c;subst c;exact⟨hs.clear,g,rfl⟩
   .cases c
  .rw[rC e]at c;obtain⟨h1,f,l⟩:=h.sh i s c;exact⟨⟨h1.g.mono b,j s (by rw[f];omega) h1.e,h1.v⟩,f,l⟩
 .rcases bS.1 hm with hm|hm
  .exact(h.aH m hm).mono b
  .exact hs.g.out m hm
 .obtain⟨h1,f⟩:=h.aC t x k;exact⟨λz=>b.dec _ _<|h1 z,λz=>(f z).imp λ_ y=>b.dec _ _ y⟩
theorem Eo.begin{G:Gl}{tx:Nat}(h:Eo H G w):Eo H G (ic w tx):=by
 unfold ic;split
 .exact h
 .refine⟨h.sh,λm hm=>?_,h.aC⟩;rcases bS.1 hm with hm|hm
  .exact h.aH m hm
  .rw[dR.1 hm];exact pI.other (by simp) (by simp)<|by simp
theorem Eo.xa{G:Gl}{m:MsgR}(h:Eo H G w)(hm:pI G m)(d:m.kind=7)(j:0<=m.tx):Eo H G (jV w m):=by
 unfold jV;split
 .exact h
 .rename_i t k;split
  .refine⟨h.sh,h.aH,λi x f=>?_⟩;have a:(w.aC.set m.tx.toNat (if m.yes then{t with state:=2,reads:=m.reads}else{t with state:=3}))[i]? =some x:=f;by_cases e:m.tx.toNat=i
   .subst e;rw[wi]at a;simp only[fq]at a;split at a
    .injection a with a
     have b:=hm.told d;have e2:((m.tx.toNat:Nat):Int)=m.tx:=ai;rw[e2];by_cases c:m.yes=true
     .rw[aJ c]at a;subst a;rw[c]at b;exact⟨λ_=>b,λz=>by simp at z⟩
     .rw[ax c]at a;subst a;have g:m.yes=false:=by simpa using c
      rw[g]at b;exact⟨λz=>by simp at z,λ_=>⟨_,b⟩⟩
    .cases a
   .rw[rC e]at a;exact h.aC i x a
  .exact h
theorem Eo.less{G:Gl}(h:Eo H G w):Eo H G {w with aH:=w.aH.eraseIdx i}:=⟨h.sh,λm a=>h.aH m<|uW a,h.aC⟩
structure aaU(H:Int->Int)(w:WR):Prop where
 home:∀ m∈w.aH,m.kind=1\/m.kind=6->H m.tx=m.to
 told:∀ m∈w.aH,m.to= -1->m.kind=7/\0<=m.tx
 to:∀ m∈w.aH, -1<=m.to
 keep:∀ (i:Nat) s,w.sh[i]? =some s->vK s.log
theorem Eo.message{G:Gl}{i:Int}(h:Eo H G w)(c:aaU H w):Eo H G (fE w k i).1:=by
 unfold fE;split
 .exact h
 .split
  .exact h
  .rename_i m g;have a:=bD g;split
   .split
    .exact h
    .refine⟨h.sh,λx b=>?_,h.aC⟩;rcases bS.1 b with b|b
     .exact h.aH x b
     .rw[dR.1 b];exact h.aH m a
   .dsimp only;split
    .exact h.less
    .split
     .rename_i j;obtain⟨l,n⟩:=c.told m a j;exact h.less.xa (h.aH m a) l n
     .rename_i r;split
      .exact h.less
      .rename_i s hs;have d:w.sh[m.to.toNat]? =some s:=hs;obtain⟨a1,f,t⟩:=h.sh _ s d;have u:=c.to m a;split
       .rename_i o;have e:((m.to.toNat:Nat):Int)=m.to:=ai;have h1:=a1.take (h.aH m a) (λz=>by rw[c.home m a z,f,e]) (c.keep _ s d) o;have p:(cm s m).me=s.me:=(HJ s m).1;exact h.less.C8 (Gl.Le.refl G) h1 (by rw[p,f]) λz _ q=>q
       .exact h.less
theorem Eo.eV{H:Int->Int}{G:Gl}{w:WR}{k a b:Int}(h:Eo H G w)(l:aaU H w):∃ i,G.Le i/\Eo H i (eV w k a b).1:=by
 unfold Go.Sl.eV;split
 .exact⟨G,.refl G,h⟩
 split
 .exact⟨G,.refl G,h⟩
 split
 .split
  .exact⟨G,.refl G,h⟩
  split
  .exact⟨G,.refl G,h⟩
  .exact⟨G,.refl G,h.begin⟩
 split
 .exact⟨G,.refl G,h.message l⟩
 split
 .exact⟨G,.refl G,h⟩
 split
 .exact⟨G,.refl G,h⟩
 .rename_i s hs;obtain⟨a1,c,m⟩:=h.sh _ s hs;split
  .split
   .exact⟨G,.refl G,h⟩
   .have j:=tB s;have e:({w with sh:=w.sh.set a.toNat<|cD s}:WR)=gf w a.toNat (cD s):=by
     unfold gf;have d:(cD s).out=[]:=j.2.trans m;have e1:({cD s with out:=[]}:ShR)=cD s:=by generalize cD s=z at d;cases z;simp only at d;subst d;rfl
     rw[e1,d,lS]
    refine⟨G,.refl G,?_⟩;show Eo H G {w with sh:=w.sh.set a.toNat<|cD s};rw[e];exact h.C8 (.refl G) a1.iC (j.1.trans c) λz _ e=>e
  split
  .exact⟨G,.refl G,h⟩
  split
  .refine⟨_,G.BA s.me s.log s.log.length,h.C8 (G.BA _ _ _) ⟨(a1.g.sync a1.e).1,(a1.g.sync a1.e).2,a1.v.sync⟩ c λz f e=>lI.grow a1.e e (by rw[c];exact f)⟩
  split
  .split
   .exact⟨G,.refl G,h⟩
   .exact⟨G,.refl G,h.C8 (.refl G) a1.tick ((x7 _ _).trans c) λz _ e=>e⟩
  .obtain⟨g,_,_,h1,n⟩:=a1.g.rN a1.e (k:=b);exact⟨_,G.BA s.me s.log g,h.C8 (G.BA _ _ _) ⟨h1,n,gB.rN⟩ c λz f e=>lI.grow a1.e e (by rw[c];exact f)⟩
def kI(w:WR)(t:Int):Int:=gp ((opsOf (cy w.aC) t).getD []) w.sh.length
theorem jl.S8{W:WP}(H:jl W w):aaU (kI w) w:=by
 have f:(0:Int)<w.sh.length:=by have:=H.n.1;omega
 have key:∀ m∈w.aH,∃ O,opsOf (cy w.aC) m.tx=some O/\0<=m.tx/\gw O/\0<=gp O w.sh.length:=λm a=>by
  obtain⟨O,d,_⟩:=H.msg m a;obtain⟨h1,_,k⟩:=ie d;have b:=H.tok.1 O k;refine⟨O,d,h1,b,?_⟩;have l:O≠[]:=λe=>by have:=b.2.2.1;rw[e]at this;simp at this
  exact(fM b f<|nb (n:=w.sh.length) l).1
 refine⟨λm a r=>?_,λm a t=>?_,λm a=>?_,λi s hs=>?_⟩
 .obtain⟨O,d,h⟩:=H.msg m a
  grind [kI,gp]
 .obtain⟨O,d,j,b,o⟩:=key m a;obtain⟨p,g,h⟩:=H.msg m a;rw[d]at g;injection g with e;subst e
  rcases h with c|c|c|c|c|c|c
  .have:=c.2.2.1;omega
  .have:=(fM b f c.2.2.1).1;omega
  .have:=c.2.1;omega
  .have:=(fM b f c.2.2.1).1;omega
  .have:=c.2.1;omega
  .have:=c.2.1;omega
  .exact⟨c.1,j⟩
 .obtain⟨O,d,j,b,o⟩:=key m a;obtain⟨p,g,h⟩:=H.msg m a;rw[d]at g;injection g with e;subst e
  rcases h with c|c|c|c|c|c|c
  .have:=c.2.2.1;omega
  .have:=(fM b f c.2.2.1).1;omega
  .have:=c.2.1;omega
  .have:=(fM b f c.2.2.1).1;omega
  .have:=c.2.1;omega
  .have:=c.2.1;omega
  .have:=c.2.1;omega
 .obtain⟨P,q⟩:∃ P,W.sh[i]? =some P:=by have hi:=(dd.1 hs).1;exact⟨_,cQ (by rw[H.len];exact hi)⟩
  obtain⟨h1,_,_⟩:=H.sh i P s q hs;rw[<- h1.log];exact h1.tA.keep H.tok
section
variable{T:List (List bO)}{n me:Int}
theorem eH.at'(h:eH T n me E){e:aR}(a:E[i]? =some e):SS T n me (E.take i) e:=by have:=h.init<|i+1;rw[x6 a]at this;exact this.inv.2
theorem FJ(h:(E.map aR.aZ)[i]? =some r):∃ e,E[i]? =some e/\e.aZ=r:=by grind
theorem map_take(E:List aR)(i:Nat):(E.take i).map aR.aZ=(E.map aR.aZ).take i:=Q7
theorem eH.p1(h:eH T n me E){r:RecR}(hr:(E.map aR.aZ)[i]? =some r)(c:r.kind=1):
  aM ((E.map aR.aZ).take i) 1 r.tx=none/\aM ((E.map aR.aZ).take i) 3 r.tx=none/\
  ∀ t j (r':RecR),aL ((E.map aR.aZ).take i) t=some j->(E.map aR.aZ)[j]? =some r'->∀ o∈r'.ops,∀ o'∈r.ops,o.k≠o'.k:=by
 obtain⟨e,l,rfl⟩:=FJ hr;have hl:=h.at' l;cases e with
 |cK tx home O=>
  obtain⟨d,h1,m,p,q,f,g,k⟩:=hl;rw[map_take]at f g k;refine⟨f,g,λt j r' a b=>k t j r' a ?_⟩;have:=mT a
  grind
 |dec tx yes rd=>simp[aR.aZ]at c
 |kY tx yes=>simp[aR.aZ]at c
theorem eH.p3(h:eH T n me E)(hr:(E.map aR.aZ)[i]? =some r)(a:r.kind=3):aM ((E.map aR.aZ).take i) 3 r.tx=none:=by
 obtain⟨e,b,rfl⟩:=FJ hr;have hl:=h.at' b;cases e with
 |cK tx home O=>simp[aR.aZ]at a
 |dec tx yes rd=>simp[aR.aZ]at a
 |kY tx yes=>rw[<- map_take];exact hl.2
theorem oZ(hr:L[i]? =some r)(a:r.kind=k)(hi:i<j):∃ d,aM (L.take j) k r.tx=some d:=by
 cases b:aM (L.take j) k r.tx with
 |some d=>exact⟨d,rfl⟩
 |none=>exact absurd ⟨a,rfl⟩<|iM.1 b r<|bD (i:=i) (by rw[LU hi];exact hr)
theorem qZ{t:Int}(h:aM (L.take j) k t=some d):d<j/\∃ r,L[d]? =some r/\r.kind=k/\r.tx=t:=by
 obtain⟨h1,r,a,b,c⟩:=bG h
 grind
theorem eH.aaV(h:eH T n me E)(hr:(E.map aR.aZ)[i]? =some r)(b:(E.map aR.aZ)[j]? =some r')(f:r.kind=3)(g:r'.kind=3)(e:r.tx=r'.tx):i=j:=by
 rcases Dt i j with c|c|c
 .obtain⟨d,a⟩:=oZ hr f c;have:=h.p3 b g;rw[<- e,a]at this;cases this
 .exact c
 .obtain⟨d,a⟩:=oZ b g c;have:=h.p3 hr f;rw[e,a]at this;cases this
theorem eH.S9(h:eH T n me E)(hr:(E.map aR.aZ)[i]? =some r)(b:(E.map aR.aZ)[j]? =some r')(f:r.kind=1)(g:r'.kind=1)(e:r.tx=r'.tx):i=j:=by
 rcases Dt i j with c|c|c
 .obtain⟨d,a⟩:=oZ hr f c;have:=(h.p1 b g).1;rw[<- e,a]at this;cases this
 .exact c
 .obtain⟨d,a⟩:=oZ b g c;have:=(h.p1 hr f).1;rw[e,a]at this;cases this
theorem eH.after(h:eH T n me E)(hr:(E.map aR.aZ)[i]? =some r)(a:(E.map aR.aZ)[d]? =some r')(b:r.kind=1)(f:r'.kind=3)(e:r.tx=r'.tx):i<d:=by
 rcases Dt i d with c|c|c
 .exact c
 .grind
 .obtain⟨x,g⟩:=oZ a f c;have:=(h.p1 hr b).2.1;rw[e,g]at this;cases this
theorem eH.HZ(h:eH T n me E)(hr:(E.map aR.aZ)[i]? =some r)(l:(E.map aR.aZ)[j]? =some r')(m:r.kind=1)(p:r'.kind=1)
  (I:r.tx≠r'.tx) {o':bO} (u:o∈r.ops) (v:o'∈r'.ops) (e:o.k=o'.k) (J:aM (E.map aR.aZ) 3 r.tx=none):
  ∃ (d:Nat) (x:RecR),d<i/\(E.map aR.aZ)[d]? =some x/\x.kind=3/\x.tx=r'.tx:=by
 have same:∀ (a b:Nat) (x y:RecR),(E.map aR.aZ)[a]? =some x->(E.map aR.aZ)[b]? =some y->x.kind=1->y.kind=1->x.tx=y.tx->x=y:=λa b x y w s B f z=>by have:=h.S9 w s B f z;subst this;rw[w]at s;injection s
 rcases Dt i j with c|c|c
 .exfalso;obtain⟨q,g⟩:=oZ hr m c;have C:aM ((E.map aR.aZ).take j) 3 r.tx=none:=by grind [iM,List.mem_of_mem_take]
  have t:aL ((E.map aR.aZ).take j) r.tx=some q:=by unfold aL;rw[C];exact g
  obtain⟨_,y,k,f,ty⟩:=qZ g;have:=same q i y r k hr f m ty;subst this;exact(h.p1 l p).2.2 _ q y t k o u o' v e
 .grind
 .obtain⟨q,g⟩:=oZ l p c;cases A:aM ((E.map aR.aZ).take i) 3 r'.tx with
  |some d=>
   obtain⟨h1,x,D,F,H⟩:=qZ A;exact⟨d,x,h1,D,F,H⟩
  |none=>
   exfalso;have t:aL ((E.map aR.aZ).take i) r'.tx=some q:=by unfold aL;rw[A];exact g
   obtain⟨_,y,k,f,ty⟩:=qZ g;have:=same q j y r' k l f p ty;subst this;exact(h.p1 hr m).2.2 _ q y t k o' v o u e.symm
theorem nj(v:List Int)(a:bO)(l:List bO):cS v (a::l)=cS (if a.w then v.set (a.k-97).toNat a.v else v) l:=rfl
theorem uA(f:97<=k):∀ {l:List bO} {v:List Int},(∀ o∈l,97<=o.k)->(∀ o∈l,o.w=true->o.k≠k)->(cS v l)[(k-97).toNat]? =v[(k-97).toNat]? :=by
 intro l
 induction l with
 |nil=>intro v _ _;rfl
 |cons a l d=>
  intro v h1 e;rw[nj,d (λo b=>h1 o<|fg _ b) λo b=>e o<|fg _ b];by_cases c:a.w=true
  .rw[aJ c,rC]
   grind
  .rw[ax c]
theorem H0{s n:Int}(m:97<=k)(hs:atR k n=s):∀ {l:List bO} {v c:List Int},(∀ o∈l,97<=o.k)->v.length=c.length->v[(k-97).toNat]? =c[(k-97).toNat]? ->(cS v l)[(k-97).toNat]? =(cS c<|br l s n)[(k-97).toNat]? :=by
 intro l
 induction l with
 |nil=>intro v c _ _ h;exact h
 |cons a l f=>
  intro v c h1 hl d;have g:∀ o∈l,97<=o.k:=λo i=>h1 o<|fg _ i;have p:=h1 a<|fX ..;have j:br (a::l) s n=if atR a.k n=s then a::br l s n else br l s n:=by unfold br;rw[sC];simp
  rw[nj,j];by_cases hp:atR a.k n=s
  .rw[aJ hp,nj];by_cases b:a.w=true
   .rw[aJ b,aJ b];refine f g (by simp[hl]) ?_;rw[wi,wi,hl,d]
   .rw[ax b,ax b];exact f g hl d
  .rw[ax hp];refine f g (by split<;>simp[hl]) ?_;by_cases b:a.w=true
   .rw[aJ b,rC]
    .exact d
    .intro e;apply hp;rw[show a.k=k by omega];exact hs
   .rw[ax b];exact d
theorem Kz(h:97<=k):∀ {l:List bO} {v d:List Int},(∀ o∈l,97<=o.k)->v.length=d.length->(∃ o∈l,o.w=true/\o.k=k)->(cS v l)[(k-97).toNat]? =(cS d l)[(k-97).toNat]? :=by
 intro l
 induction l with
 |nil=>rintro v d _ _ ⟨o,b,_⟩;cases b
 |cons a l j=>
  intro v d h1 hl m;have f:∀ o∈l,97<=o.k:=λo b=>h1 o<|fg _ b;rw[nj,nj];by_cases g:∃ o∈l,o.w=true/\o.k=k
  .exact j f (by split<;>simp[hl]) g
  .have i:∀ o∈l,o.w=true->o.k≠k:=λo b c e=>g ⟨o,b,c,e⟩;rw[uA h f i,uA h f i];obtain⟨o,b,c,e⟩:=m;rcases gU.1 b with rfl|b
   .rw[aJ c,aJ c,e,wi,wi,hl];simp
   .exact absurd ⟨o,b,c,e⟩ g
theorem yc(hr:L[i]? =some r):ef L (i+1)=if r.kind=3 then(match aM (L.take i) 1 r.tx with|some p=>if r.yes then cS (ef L i) (L[p]?.getD dz).ops else ef L i|none=>ef L i)else ef L i:=by
 have hi:=(dd.1 hr).1;have e:=lv (log:=L.take i) (x:=r);rw[<- x6 hr]at e
 grind [List.length_take,BB,aM,qZ]
theorem Ta(L:List RecR):∀ i,i<=L.length->(ef L i).length=26:=by
 intro i
 induction i with
 |zero=>intro _;rfl
 |succ i a=>
  intro h;have hi:=a ai;rw[yc (cQ ai)]
  grind [ox]
def Wri(L:List RecR)(k:Int)(d:Nat):Prop:=∃ (r:RecR) (p:Nat) (q:RecR),L[d]? =some r/\r.kind=3/\r.yes=true/\aM (L.take d) 1 r.tx=some p/\L[p]? =some q/\∃ o∈q.ops,o.w=true/\o.k=k
theorem Ep{L:List RecR}(m:97<=k)(n:∀ r∈L,∀ o∈r.ops,97<=o.k):∀ b,a<=b->b<=L.length->(∀ d,a<=d->d<b->¬ Wri L k d)->(ef L b)[(k-97).toNat]? =(ef L a)[(k-97).toNat]? :=by
 intro b
 induction b with
 |zero=>intro h _ _;rw[show a=0 by omega]
 |succ b s=>
  intro h1 x j;rcases lP b a with c|c
  .rw[show a=b+1 by omega]
  rw[<- s c ai (λd a1 y=>j d a1 ai),yc<|cQ ai];generalize t:L[b]'(by omega)=r;have u:L[b]? =some r:=by rw[<- t];exact cQ ai
  by_cases f:r.kind=3
  .rw[aJ f];cases l:aM (L.take b) 1 r.tx with
   |none=>rfl
   |some p=>
    simp only[];by_cases g:r.yes=true
    .rw[aJ g];obtain⟨hp,q,i,_,_⟩:=qZ l;rw[i,iG];refine uA m (n q<|bD i) λo v w e=>j b c ai ⟨r,p,q,u,f,g,l,i,o,v,w,e⟩
    .rw[ax g]
  .rw[ax f]
theorem OB{L:List RecR}(b:97<=k)(c:∀ r∈L,∀ o∈r.ops,97<=o.k)(hi:i<=L.length)(h:∀ d,d<i->¬ Wri L k d):(ef L i)[(k-97).toNat]? =bQ[(k-97).toNat]? :=
 Ep b c i (fp _) hi (λd _ a=>h d a)
theorem OC{L:List RecR}(e:97<=k)(f:∀ r∈L,∀ o∈r.ops,97<=o.k){p:Nat}{r q:RecR}(hi:i<=L.length)(m:d<i)(hr:L[d]? =some r)(g:r.kind=3)(j:r.yes=true)(hp:aM (L.take d) 1 r.tx=some p)(l:L[p]? =some q)
  (h:∀ c,d<c->c<i->¬ Wri L k c):(ef L i)[(k-97).toNat]? =(cS (ef L d) q.ops)[(k-97).toNat]? :=by
 rw[Ep e f i (a:=d+1) ai hi (λc a b=>h c ai b),yc hr,aJ g,hp];simp only[];rw[aJ j,l,iG]
def runT(T:List (List bO)):List Int->List Int->List Int:=λl v=>l.foldl (λv t=>cS v<|(opsOf T t).getD []) v
theorem BD(T:List (List bO))(a b:List Int)(v:List Int):runT T (a++b) v=runT T b (runT T a v):=by unfold runT;rw[lT]
theorem xb(T:List (List bO)):∀ (l v:List Int),(runT T l v).length=v.length
 |[],_=>rfl
 |t::l,v=>by show(runT T l<|cS v _).length=_;rw[xb T l,ox]
def WrT(T:List (List bO))(k t:Int):Prop:=∃ o∈(opsOf T t).getD [],o.w=true/\o.k=k
instance(T:List (List bO))(k t:Int):Decidable (WrT T k t):=by unfold WrT;exact inferInstance
theorem M1{T:List (List bO)}(c:vd T)(d:97<=k):∀ {l v:List Int},(∀ t∈l,¬ WrT T k t)->(runT T l v)[(k-97).toNat]? =v[(k-97).toNat]? :=by
 intro l
 induction l with
 |nil=>intro v _;rfl
 |cons t l f=>
  intro v h;show(runT T l<|cS v _)[_]? =_;rw[f (λx g=>h x<|fg _ g)];refine uA d (λo a=>?_) λo a i e=>h t (fX ..) ⟨o,a,i,e⟩;cases b:opsOf T t with
  |none=>rw[b]at a;cases a
  |some O=>rw[b]at a;exact((c.of b).1 o a).1
theorem M2{p:Int->Prop}[DecidablePred p]:∀ l:List Int,(∀ t∈l,¬ p t)\/∃ a t b,l=a++t::b/\p t/\∀ x∈b,¬ p x
 |[]=>.inl λt h=>by cases h
 |x::l=>by
  rcases M2 (p:=p) l with h|⟨a,t,b,h1,d,e⟩
  .by_cases c:p x
   .exact .inr ⟨[],x,l,rfl,c,h⟩
   .grind
  .grind
theorem F2.right{B:Type}{r:A->B->Prop}{l:List A}{m:List B}(h:F2 r l m):∀ b∈m,∃ a∈l,r a b:=by
 induction h with
 |nil=>intro b c;cases c
 |@cons a b l m d _ e=>
  grind
theorem dA.H4{T:List (List bO)}{n:Int}{R:ShR}(H:dA T n P R):∀ u∈R.under,opsOf T u.tx=some u.ops:=by
 intro u b;cases c:R.up with
 |true=>obtain⟨a,_,h⟩:=(H.cr c).right u b;exact h.ops
 |false=>rw[(H.dn c).2.2.2.2.2]at b;cases b
def gH(s z:ShR):Prop:=z.log=s.log/\z.aE=s.aE
theorem gH.refl(s:ShR):gH s s:=⟨rfl,rfl⟩
theorem gH.trans{a b c:ShR}(h:gH a b)(k:gH b c):gH a c:=⟨k.1.trans h.1,k.2.trans h.2⟩
theorem gH.ite{c:Prop}[Decidable c]{a:ShR}(h:gH z a)(k:gH z b):gH z (if c then a else b):=by split<;>assumption
theorem gH.each{s:ShR}{O:List bO}{f:ShR->Int->List bO->ShR}(hf:∀ z k p,gH z<|f z k p):gH s (gO s O f):=
 iz.each (I:=gH s) (gH.refl s) λz k p a=>a.trans<|hf z k p
def aaW(s:ShR)(m:MsgR)(x:RecR):Prop:=x.tx=m.tx/\m.kind=3/\m.yes=true/\∃ (i:Nat) (u:dS),s.under[i]? =some u/\u.tx=m.tx/\
 ∃ u1:dS,u1=(if(m.yes&& !(bJ u m.aX).isSome)=true then({u with bq:=u.bq++[⟨m.aX,m.reads⟩]}:dS)else u)/\gP s.n u1.ops (λk=>(bJ u1 k).isSome)=true/\x.reads=jU u1 s.n
def o5(s:ShR)(m:MsgR)(z:ShR):Prop:=z.aE=s.aE/\(z.log=s.log\/∃ x,z.log=s.log++[x]/\(x.kind=2->x.yes=true->aaW s m x))
theorem o5.same{m:MsgR}(h:gH s z):o5 s m z:=⟨h.2,.inl h.1⟩
theorem o5.then{y:ShR}{m:MsgR}(h:o5 s m z)(k:gH z y):o5 s m y:=⟨k.2.trans h.1,by rw[k.1];exact h.2⟩
theorem OD(s:ShR)(m:MsgR)(g:m.kind=3):o5 s m (kO s m):=by
 unfold kO;cases c:bP s.under m.tx with
 |none=>exact .same<|.refl s
 |some i=>
  simp only[];cases h:s.under[i]? with
  |none=>exact .same<|.refl s
  |some u=>
   simp only[];by_cases d:u.dec=true
   .rw[aJ d];exact .same<|.refl s
   rw[ax d];have j:u.tx=m.tx:=by
    unfold bP at c;obtain⟨hl,hp,_⟩:=yB.1 c
    grind
   generalize l:(if(m.yes&& !(bJ u m.aX).isSome)=true then({u with bq:=u.bq++[⟨m.aX,m.reads⟩]}:dS)else u)=a;by_cases b:(m.yes&& !gP s.n a.ops λk=>(bJ a k).isSome)=true
   .rw[aJ b];exact .same ⟨rfl,rfl⟩
   .rw[ax b];generalize q:(if m.yes=true then jU {a with dec:=true,yes:=m.yes} s.n else[])=rd;have h1:o5 s m {s with under:=s.under.set i {a with dec:=true,yes:=m.yes},log:=s.log++[{dz with kind:=2,tx:=m.tx,yes:=m.yes,reads:=rd}]}:=by
     refine⟨rfl,.inr ⟨_,rfl,λ_ n=>?_⟩⟩;have e:m.yes=true:=n;rw[e]at b;refine⟨rfl,g,e,i,u,h,j,a,l.symm,by simpa using b,?_⟩
     grind [jU,pG]
    have o:=h1.then (gH.each (O:=a.ops) (f:=λz k _=>fb z {bA with kind:=4,to:=k,tx:=m.tx,yes:=m.yes}) λz k p=>⟨rfl,rfl⟩);exact o.then ⟨rfl,rfl⟩
theorem yd(s:ShR)(m:MsgR):o5 s m (cm s m):=by
 unfold cm;split
 .unfold gZ;split
  .split
   .exact .same ⟨rfl,rfl⟩
   .exact .same<|.refl s
  .split
   .exact .same<|.refl s
   .exact .same<|gH.trans (b:={s with under:=s.under++[⟨m.tx,m.ops,[],false,false,[]⟩]}) ⟨rfl,rfl⟩<|gH.trans (gH.each (O:=m.ops) (f:=λz k p=>ee z {bA with kind:=2,to:=k,tx:=m.tx,ops:=p}) λz k p=>⟨rfl,rfl⟩) ⟨rfl,rfl⟩
 split
 .unfold eN;split
  .split<;>exact .same ⟨rfl,rfl⟩
  .split
   .split<;>exact .same ⟨rfl,rfl⟩
   .split
    .exact .same ⟨rfl,rfl⟩
    .exact⟨rfl,.inr ⟨_,rfl,λh=>by simp at h⟩⟩
 split
 .rename_i k;exact OD s m k
 split
 .unfold fY;split
  .refine⟨?_,.inr ⟨{dz with kind:=3,tx:=m.tx,yes:=m.yes},?_,λh=>by simp at h⟩⟩
   .grind [fb]
   .grind [fb]
  .split
   .split<;>exact .same ⟨rfl,rfl⟩
   .split
    .exact .same<|.refl s
    .exact⟨rfl,.inr ⟨_,rfl,λh=>by simp at h⟩⟩
 split
 .unfold qj;split
  .exact .same<|.refl s
  .split
   .exact .same<|.refl s
   .split
    .exact .same<|.refl s
    .dsimp only;split<;>exact .same ⟨rfl,rfl⟩
 split
 .unfold pE;split
  .split<;>exact .same ⟨rfl,rfl⟩
  .split
   .exact .same<|.refl s
   .exact⟨rfl,.inr ⟨_,rfl,λ_ h=>by simp[dz]at h⟩⟩
 .exact .same<|.refl s
theorem Tb(s:ShR)(t:dU):gH s (lF s t):=by
 unfold lF;split
 .split
  .exact⟨rfl,rfl⟩
  .exact .refl s
 .split
  .exact .refl s
  .split
   .exact .refl s
   .refine gH.trans (gH.each λz k p=>?_) ⟨rfl,rfl⟩;exact gH.ite ⟨rfl,rfl⟩<|gH.ite ⟨rfl,rfl⟩<|gH.refl _
theorem BE:∀ (f:Nat) (s:ShR),gH s<|eG f s
 |0,s=>.refl s
 |f+1,s=>by
  unfold eG;split
  .exact .refl s
  .rename_i k t _;exact(gH.trans (b:={s with timers:=s.timers.eraseIdx k}) ⟨rfl,rfl⟩<|Tb _ t).trans<|BE f _
theorem ye(s:ShR):gH s (dv s):=gH.trans (b:={s with clock:=s.clock+1}) ⟨rfl,rfl⟩<|BE _ _
theorem q5(s:ShR):gH s (cD s):=by obtain⟨h1,a,b,_⟩:=ni s.log s.log.length<|bY {s with up:=true};exact⟨a,b⟩
inductive ku(w:WR)(s:ShR):ShR->Prop
 |same:ku w s s
 |take (m:MsgR):m∈w.aH->m.to=s.me->s.up=true->ku w s {cm s m with out:=[]}
 |sync:s.up=true->ku w s {kH s with out:=[]}
 |tick:s.up=true->ku w s {dv s with out:=[]}
 |rN (k:Int):s.up=true->ku w s {gb s k with out:=[]}
 |iC:s.up=false->ku w s (cD s)
theorem o6{b x:ShR}(ha:w.sh[a]? =some b)(hx:ku w b {x with out:=[]})(h:(w.sh.set a {x with out:=[]})[i]? =some s'):∃ s,w.sh[i]? =some s/\ku w s s':=by
 by_cases e:a=i
 .grind
 .rw[rC e]at h;exact⟨s',h,.same⟩
theorem qw(w:WR)(t:Nat):(ic w t).sh=w.sh/\(ic w t).aC=w.aC:=by grind [ic]
theorem fS(w:WR)(m:MsgR):(jV w m).sh=w.sh:=by rw[ng]
theorem BF{w:WR}{a b:Int}(j:∀ (i:Nat) s,w.sh[i]? =some s->s.me=i)(l:∀ m∈w.aH, -1<=m.to){i:Nat}(h:(eV w k a b).1.sh[i]? =some s'):∃ s,w.sh[i]? =some s/\ku w s s':=by
 unfold eV at h;split at h
 .exact⟨s',h,.same⟩
 split at h
 .exact⟨s',h,.same⟩
 split at h
 .split at h
  .exact⟨s',h,.same⟩
  split at h
  .exact⟨s',h,.same⟩
  .rw[show(ic w a.toNat,(0:Int)).1.sh=w.sh from(qw w _).1]at h;exact⟨s',h,.same⟩
 split at h
 .unfold fE at h;split at h
  .exact⟨s',h,.same⟩
  .split at h
   .exact⟨s',h,.same⟩
   .rename_i m n;split at h
    .split at h<;>exact⟨s',h,.same⟩
    .dsimp only at h;split at h
     .exact⟨s',h,.same⟩
     .split at h
      .rw[show(jV {w with aH:=w.aH.eraseIdx a.toNat} m,(0:Int)).1.sh=w.sh from fS _ _]at h;exact⟨s',h,.same⟩
      .rename_i o;split at h
       .exact⟨s',h,.same⟩
       .rename_i s hs;split at h
        .rename_i c;have f:w.sh[m.to.toNat]? =some s:=hs;have g:=bD n;have h1:=j _ s f;have p:=l m g;exact o6 f (.take m g ai c) h
        .exact⟨s',h,.same⟩
 split at h
 .exact⟨s',h,.same⟩
 split at h
 .exact⟨s',h,.same⟩
 .rename_i s hs;split at h
  .split at h
   .exact⟨s',h,.same⟩
   .rename_i c;have d:s.up=false:=by simpa using c
    have h':(w.sh.set a.toNat<|cD s)[i]? =some s':=h;by_cases e:a.toNat=i
    .subst e;rw[rB (dd.1 hs).1]at h';injection h' with h';subst h'
     exact⟨s,hs,.iC d⟩
    .rw[rC e]at h';exact⟨s',h',.same⟩
  split at h
  .exact⟨s',h,.same⟩
  rename_i c;have d:s.up=true:=by simpa using c
  split at h
  .exact o6 hs (.sync d) h
  split at h
  .split at h
   .exact⟨s',h,.same⟩
   .exact o6 hs (.tick d) h
  .exact o6 hs (.rN b d) h
def yX(s s':ShR):Prop:=s.aE<=s'.aE/\s'.aE<=s'.log.length/\∀ i:Nat,(i:Int)<s'.aE->s'.log[i]? =s.log[i]?
theorem ku.afa(h:ku w s s')(d:0<=s.aE/\s.aE<=s.log.length):yX s s':=by
 have same:∀ z,gH s z->yX s z:=λz c=>by unfold yX;rw[c.1,c.2];exact⟨mI _,d.2,λ_ _=>rfl⟩
 cases h with
 |same=>exact same s<|.refl s
 |take m e f b=>
  obtain⟨h1,a⟩:=yd s m;rcases a with a|⟨x,a,_⟩
  .exact same _ ⟨a,h1⟩
  .refine⟨by show s.aE<=(cm s m).aE;rw[h1];exact mI _,by show(cm s m).aE<=((cm s m).log.length:Int);rw[h1,a,iV];omega,λi hi=>?_⟩
   grind
 |sync b=>exact⟨by show s.aE<=(s.log.length:Int);omega,mI _,λ_ _=>rfl⟩
 |tick b=>exact same _<|ye s
 |rN k b=>grind [yX,gb,bY]
 |iC b=>exact same _<|q5 s
def vL(f:Int->List Int)(n:Int):List bO->(Int->Nat)->List Int
 |[],_=>[]
 |o::l,used=>if o.w then vL f n l used else(f<|atR o.k n)[used (atR o.k n)]?.getD 0::vL f n l (λj=>if j=atR o.k n then used (atR o.k n)+1 else used j)
theorem yf(u:dS)(n:Int):∀ (l:List bO) (a:Int->Nat),il u n l a=vL (λk=>((bJ u k).map (·.reads)).getD []) n l a
 |[],_=>rfl
 |o::l,a=>by
  unfold il vL;split
  .exact yf u n l a
  .dsimp only;rw[yf u n l]
def o7(T:List (List bO))(n:Int)(G:Gl)(tx:Int)(rd:List Int):Prop:=∃ O f,opsOf T tx=some O/\(∀ k,cu O k n=true->G.cK tx k=some (f k))/\rd=vL f n O λ_=>0
theorem o7.mono{T:List (List bO)}{n:Int}{G a:Gl}{rd:List Int}(h:o7 T n G tx rd)(k:G.Le a):o7 T n a tx rd:=by obtain⟨O,f,h1,b,c⟩:=h;exact⟨O,f,h1,λj d=>k.cK _ _ _<|b j d,c⟩
theorem o7.app{T:List (List bO)}{n:Int}{G:Gl}{rd:List Int}(h:o7 T n G tx rd)(a:List (List bO)):o7 (T++a) n G tx rd:=by obtain⟨O,f,h1,b,c⟩:=h;exact⟨O,f,kC a h1,b,c⟩
def QG(T:List (List bO))(n:Int)(G:Gl)(s:ShR):Prop:=∀ r∈s.log,r.kind=2->r.yes=true->o7 T n G r.tx r.reads
theorem QG.take{T:List (List bO)}{n:Int}{G:Gl}{m:MsgR}(h:QG T n G s)(t:vd T)(w:0<n)(g:iz G s)(R:dA T n P s)(hm:pI G m):QG T n G (cm s m):=by
 obtain⟨_,c⟩:=yd s m;rcases c with c|⟨x,c,y⟩
 .unfold QG;rw[c];exact h
 .unfold QG;rw[c];intro r b j l;rcases bS.1 b with b|b
  .exact h r b j l
  .obtain rfl:=dR.1 b;obtain⟨e,z,A,i,u,B,o,d,p,C,D⟩:=y j l;have f:=bD B;have q:=R.H4 u f;have E:s.n=n:=R.n2;have e1:d.ops=u.ops/\d.tx=u.tx:=by rw[p];split<;>exact⟨rfl,rfl⟩
   have a:∀ v∈d.bq,G.cK u.tx v.aX=some v.reads:=by
    intro v a;rw[p]at a;split at a
    .rcases bS.1 a with a|a
     .exact(g.cr u f).bq v a
     .obtain rfl:=dR.1 a;rw[o];exact hm.zA z A
    .exact(g.cr u f).bq v a
   refine⟨u.ops,λk=>((bJ d k).map (·.reads)).getD [],by rw[e,<- o];exact q,λk F=>?_,?_⟩
   .have b:=t.of q
    grind [mR,Option.isSome_iff_exists,bJ]
   .grind [jU,yf]
theorem QG.of{T:List (List bO)}{n:Int}{G:Gl}{z:ShR}(h:QG T n G s)(hz:∀ r∈z.log,r∈s.log):QG T n G z:=λr a=>h r<|hz r a
theorem QG.step{T:List (List bO)}{n:Int}{G:Gl}{w:WR}(h:QG T n G s)(e:vd T)(c:0<n)(f:iz G s)(R:dA T n P s)(g:∀ m∈w.aH,pI G m)(st:ku w s s'):QG T n G s':=by
 cases st with
 |same=>exact h
 |take m i j b=>exact(h.take e c f R<|g m i).of (z:={cm s m with out:=[]}) λr a=>a
 |sync b=>exact h.of λr a=>a
 |tick b=>exact h.of (z:={dv s with out:=[]}) λr a=>by have d:r∈(dv s).log:=a;rw[(ye s).1]at d;exact d
 |rN k b=>exact h.of (z:={gb s k with out:=[]}) λr a=>LZ a
 |iC b=>exact h.of λr a=>by rw[(q5 s).1]at a;exact a
theorem FK{aC:List TxR}{m:MsgR}(h:∀ x∈aC,1<=x.state/\x.state<=3):∀ x∈jE aC m,1<=x.state/\x.state<=3:=by grind [jE]
theorem M3(w:WR)(k a b:Int):(eV w k a b).1.aC=w.aC\/∃ m∈w.aH,(eV w k a b).1.aC=jE w.aC m:=by
 generalize c:eV w k a b=x;unfold eV at c;split at c
 .subst c;exact .inl rfl
 split at c
 .subst c;exact .inl rfl
 split at c
 .split at c
  .subst c;exact .inl rfl
  split at c
  .subst c;exact .inl rfl
  .subst c;exact .inl (qw _ _).2
 split at c
 .unfold fE at c;split at c
  .subst c;exact .inl rfl
  .split at c
   .subst c;exact .inl rfl
   .rename_i m d;split at c
    .split at c<;>(subst c;exact .inl rfl)
    .dsimp only at c;split at c
     .subst c;exact .inl rfl
     .split at c
      .subst c;rw[ng];exact .inr ⟨m,bD d,rfl⟩
      .split at c
       .subst c;exact .inl rfl
       .split at c<;>(subst c;exact .inl rfl)
 split at c
 .subst c;exact .inl rfl
 split at c
 .subst c;exact .inl rfl
 .split at c
  .split at c<;>(subst c;exact .inl rfl)
  split at c
  .subst c;exact .inl rfl
  split at c
  .subst c;exact .inl rfl
  split at c
  .split at c<;>(subst c;exact .inl rfl)
  .subst c;exact .inl rfl
theorem xc(w:WR)(k a b:Int):cy (eV w k a b).1.aC=cy w.aC:=by grind [M3,qX]
theorem o8(w:WR)(k a b:Int):(eV w k a b).1.sh.length=w.sh.length:=by
 unfold eV;split
 .rfl
 split
 .rfl
 grind [qw,fE,fS,gf]
structure WF(W:WP)(w:WR)(G:Gl):Prop where
 rel:jl W w
 xJ:Eo (kI w) G w
 Za:∀ s∈w.sh,QG (cy w.aC) w.sh.length G s
theorem WF.at{W:WP}{G:Gl}(h:WF W w G)(d:0<=k)(h1:k<w.sh.length):∃ s P,w.sh[k.toNat]? =some s/\dA (cy w.aC) w.sh.length P s/\En (kI w) G s/\s.me=k:=by obtain⟨P,R,e,a,b,c,f⟩:=h.rel.eI k.toNat ai;exact⟨R,P,a,b,(h.xJ.sh _ _ a).1,by rw[c];omega⟩
theorem eH.aaX{T:List (List bO)}{n me:Int}{E:List aR}(d:vd T)(h:eH T n me E):∀ r∈E.map aR.aZ,∀ o∈r.ops,97<=o.k:=by
 intro r f o a;obtain⟨i,hi⟩:=eX.1 f;obtain⟨e,g,rfl⟩:=FJ hi;have hl:=h.at' g;cases e with
 |cK tx home O=>
  obtain⟨b,h1,k,l,j,_⟩:=hl;have c:o∈O:=a;rw[j]at c;exact((d.of h1).key o c).1
 |dec tx yes rd=>cases a
 |kY tx yes=>cases a
theorem xd{n:Int}:o∈br O k n↔o∈O/\atR o.k n=k:=by unfold br;rw[gW];simp
theorem Tc{n:Int}(h:o∈O):cu O (atR o.k n) n=true:=by
 unfold cu;have:o∈br O (atR o.k n) n:=xd.2 ⟨h,rfl⟩;cases hp:br O (atR o.k n) n with
 |nil=>rw[hp]at this;cases this
 |cons a l=>rfl
theorem WF.BG{W:WP}{G:Gl}(h:WF W w G){t:Int}{rd:List Int}{f:Int->List Int}(c:opsOf (cy w.aC) t=some O)(hv:∀ k,cu O k w.sh.length=true->G.cK t k=some (f k))(hm:o∈O):
  ∃ s P,∃ (p:Nat) (q:RecR),w.sh[(atR o.k w.sh.length).toNat]? =some s/\dA (cy w.aC) w.sh.length P s/\En (kI w) G s/\s.log[p]? =some q/\(p:Int)<s.aE/\q.kind=1/\q.tx=t/\q.ops=br O (atR o.k w.sh.length) w.sh.length/\fH (ef s.log p) q.ops=f (atR o.k w.sh.length):=by
 have j:(0:Int)<w.sh.length:=by have:=h.rel.n.1;omega
 have l:=h.rel.tok.of c;have d:=Tc (n:=w.sh.length) hm;obtain⟨m,h1⟩:=fM l j d;obtain⟨s,P,a1,b,e,g⟩:=h.at m h1;have hp:=hv _ d;rw[<- g]at hp;obtain⟨p,q,b1,b2,b3,b4,b5⟩:=e.e.exp _ _ hp;have r:(P.log.map aR.aZ)[p]? =some q:=by rw[b.log];exact b1
 obtain⟨v,a,u⟩:=b.tA.tw p q r;rw[b4,c]at a;injection a with a;subst a
 have i:=(u b3).2.1;rw[g]at i b5;exact⟨s,P,p,q,a1,b,e,b1,b2,b3,b4,i,b5⟩
structure xe(T:List (List bO))(w:WR)(order:List Int)(reads:List (List Int)):Prop where
 len:reads.length=order.length
 nd:order.Nodup
 pre:∀ (i j:Nat) (t t':Int),i<j->order[i]? =some t->order[j]? =some t'->∀ o∈(opsOf T t).getD [],∀ o'∈(opsOf T t').getD [],o.k=o'.k->
  ∃ s,w.sh[(atR o.k w.sh.length).toNat]? =some s/\∃ (p d:Nat) (q r:RecR),s.log[p]? =some q/\(p:Int)<s.aE/\q.kind=1/\q.tx=t'/\d<p/\s.log[d]? =some r/\r.kind=3/\r.tx=t
 val:∀ (j:Nat) (t:Int) (rd:List Int),order[j]? =some t->reads[j]? =some rd->nU (runT T (order.take j) bQ) ((opsOf T t).getD []) rd=true
theorem xe.step{T:List (List bO)}{w':WR}{order:List Int}(h:xe T w order reads)(hl:w'.sh.length=w.sh.length)(hs:∀ (i:Nat) s',w'.sh[i]? =some s'->∃ s,w.sh[i]? =some s/\yX s s'):xe T w' order reads:=by
 refine⟨h.len,h.nd,λi j t g k a b o l m n e=>?_,h.val⟩;obtain⟨s,h1,p,d,q,r,u,C,v,x,y,z,A,B⟩:=h.pre i j t g k a b o l m n e;have hi:=(dd.1 h1).1;have c:w'.sh[(atR o.k w.sh.length).toNat]? =some (w'.sh[(atR o.k w.sh.length).toNat]'(by rw[hl];exact hi)):=cQ _;obtain⟨D,k1,k2,E,f⟩:=hs _ _ c;rw[h1]at k1;injection k1 with k1;subst k1
 refine⟨_,by rw[hl];exact c,p,d,q,r,?_,ai,v,x,y,?_,A,B⟩
 .rw[f p ai];exact u
 .rw[f d ai];exact z
theorem yg{V:List Int}{f:Int->List Int}{n:Int}{O:List bO}(hf:∀ o∈O,o.w=false->∃ vs,f (atR o.k n)=fH vs (br O (atR o.k n) n)/\vs[(o.k-97).toNat]?.getD 0=V[(o.k-97).toNat]?.getD 0):
  ∀ (l a:List bO) (b:Int->Nat),O=a++l->(∀ k,b k=((br a k n).filter λo=> !o.w).length)->nU V l (vL f n l b)=true
 |[],a,b,_,_=>rfl
 |o::l,a,b,i,g=>by
  have d:O=(a++[o])++l:=by rw[i];simp
  have e:∀ k,br (a++[o]) k n=br a k n++(if atR o.k n=k then[o]else[]):=λk=>by rw[D6];congr 1;unfold br;rw[sC];simp
  unfold nU vL;by_cases c:o.w=true
  .rw[aJ c,aJ c];refine yg hf l (a++[o]) b d λk=>?_;rw[g k,e,rA];split<;>simp[c]
  .have j:o.w=false:=by simpa using c
   rw[ax c,ax c];simp only[jK,uU];refine⟨?_,yg hf l (a++[o]) _ d λk=>?_⟩
   .obtain⟨vs,h1,m⟩:=hf o (by rw[i];simp) j;rw[h1,g,<- m];unfold fH;rw[i];have e1:br (a++o::l) (atR o.k n) n=br a (atR o.k n) n++o::br l (atR o.k n) n:=by rw[D6];congr 1;unfold br;rw[sC];simp
    rw[e1,rA,sC];simp only[j,NR,fq];rw[eW,E4<|by simp];simp
   .rw[e,rA];by_cases h:k=atR o.k n
    .rw[aJ h,g,h,aJ rfl];simp[j]
    .rw[ax h,g,ax λz=>h z.symm];simp
theorem xe.Te{W:WP}{G:Gl}{order:List Int}(h:xe (cy w.aC) w order reads)(F:WF W w G)
  (j9:∀ t rd,G.dec t=some (true,rd)->t∈order) (HC:∀ t∈order,(∃ rd,o7 (cy w.aC) w.sh.length G t rd)/\∀ b rd,G.dec t=some (b,rd)->b=true)
   (n:97<=k)   (a1:w.sh[(atR k w.sh.length).toNat]? =some s) (a2:dA (cy w.aC) w.sh.length P s) (a3:En (kI w) G s) {p:Nat} (yN:p<=s.log.length)
  (hb:∀ g∈order,WrT (cy w.aC) k g->∃ (d:Nat) (x:RecR),d<p/\s.log[d]? =some x/\x.kind=3/\x.tx=g):(ef s.log p)[(k-97).toNat]? =(runT (cy w.aC) order bQ)[(k-97).toNat]? :=by
 have K:=F.rel.tok;have f:=a2.log;have l:=a2.tA;have hL:∀ r∈s.log,∀ o∈r.ops,97<=o.k:=by rw[<- f];exact l.aaX K
 have v:∀ {c:Nat} {x:RecR},s.log[c]? =some x->x.kind=1->∀ A∈x.ops,A∈(opsOf (cy w.aC) x.tx).getD []:=λhc L A na=>by obtain⟨xZ,z1,z2⟩:=l.tw _ _ (by rw[f];exact hc);rw[(z2 L).2.1]at na;rw[z1];exact(xd.1 na).1
 have Zb:∀ c,Wri s.log k c->∃ (r:RecR),s.log[c]? =some r/\r.kind=3/\r.tx∈order/\WrT (cy w.aC) k r.tx:=by
  rintro c ⟨r,p',q',z1,z2,q,u,M,A,B,z7,z8⟩;obtain⟨x,L⟩:=a3.g.done c r z1 z2;rw[q]at L;obtain⟨_,q2,N,y2,y3⟩:=qZ u;rw[M]at N;injection N with N;subst N
  refine⟨r,z1,z2,j9 _ _ L,A,?_,z7,z8⟩;have:=v M y2 A B;rw[y3]at this;exact this
 rcases M2 (p:=WrT (cy w.aC) k) order with hn|⟨a,g,b,C,D,E⟩
 .rw[M1 K n hn];refine OB n hL yN λd hd X=>?_;obtain⟨r,_,_,q,u⟩:=Zb d X;exact hn _ q u
 .have Y:g∈order:=by rw[C];simp
  obtain⟨d,x,c8,O,b1,b2⟩:=hb g Y D;obtain⟨os,Q,Z,R⟩:=D;obtain⟨y,hy⟩:=a3.g.done d x O b1;have hxy:x.yes=true:=(HC g Y).2 _ _ (by rw[<- b2];exact hy);obtain⟨⟨rd1,aaZ,f1,e1,e2,_⟩,_⟩:=HC g Y;rw[e1]at Q;obtain⟨s',P',ps,qs,S,_,_,H,g5,T,U,g8,_⟩:=F.BG (rd:=rd1) e1 e2 Q;rw[R,a1]at S;injection S with S;subst S
  have hpd:ps<d:=l.after (by rw[f];exact H) (by rw[f];exact O) T b1 (by rw[U,b2]);obtain⟨pf,m⟩:=oZ H T hpd;rw[U]at m;obtain⟨_,qf,f2,f3,f4⟩:=qZ m;have hfe:pf=ps:=l.S9 (by rw[f];exact f2) (by rw[f];exact H) f3 T (by rw[f4,U]);subst hfe;rw[OC n hL yN c8 O b1 hxy (by rw[b2];exact m) H (λc Zd Tg X=>?_)]
  .rw[C,BD];show _=(runT (cy w.aC) b<|cS (runT (cy w.aC) a bQ)<|(opsOf (cy w.aC) g).getD [])[(k-97).toNat]?;rw[M1 K n E,e1,iG,g8,R];have I:∀ z∈aaZ,97<=z.k:=λz hz=>((K.of e1).1 z hz).1;rw[<- H0 n rfl I rfl rfl];refine Kz n I ?_ ⟨os,Q,Z,R⟩;rw[Ta _ _ ai,xb];rfl
  .obtain⟨r,z1,z2,q,o2,u,M,B⟩:=Zb c X;have fA:r.tx≠g:=λe=>by have:=l.aaV (i:=c) (j:=d) (by rw[f];exact z1) (by rw[f];exact O) z2 b1 (by rw[e,b2]);omega
   rw[C]at q;have iW:r.tx∈a:=by
    rcases bS.1 q with z|z
    .exact z
    .rcases gU.1 z with z|z
     .exact absurd z fA
     .exact absurd ⟨o2,u,M,B⟩<|E _ z
   obtain⟨i,hi⟩:=eX.1 iW;have J:=(dd.1 hi).1;obtain⟨s',k1,p3,d3,q3,r3,k2,k3,k4,k5,k6,k7,k8,k9⟩:=h.pre i a.length r.tx g J (by rw[C,pT J];exact hi) (by rw[C];simp) o2 u os (by rw[e1];exact Q) (by rw[B,R]);rw[B,a1]at k1;injection k1 with k1;subst k1
   have l1:d3=c:=l.aaV (by rw[f];exact k7) (by rw[f];exact z1) k8 z2 k9;have l2:p3=pf:=l.S9 (by rw[f];exact k2) (by rw[f];exact H) k4 T (by rw[k5,U]);omega
theorem xe.add{W:WP}{G:Gl}{order:List Int}(h:xe (cy w.aC) w order reads)(F:WF W w G)
  (j9:∀ t rd,G.dec t=some (true,rd)->t∈order) (Z:∀ t∈order,(∃ rd,o7 (cy w.aC) w.sh.length G t rd)/\∀ b rd,G.dec t=some (b,rd)->b=true)
  {t:Int} {rd:List Int} (oa:t∉order) (hv:o7 (cy w.aC) w.sh.length G t rd) (nC:G.dec t=none):xe (cy w.aC) w (order++[t]) (reads++[rd]):=by
 obtain⟨O,f,D,hp,jo⟩:=hv;have hT:=F.rel.tok;have M:∀ {P:eg} {s:ShR},En (kI w) G s->aM s.log 3 t=none:=λhs=>by rw[iM];rintro r hr ⟨hk,rfl⟩;obtain⟨i,hi⟩:=eX.1 hr;obtain⟨x,hx⟩:=hs.g.done i r hi hk;rw[nC]at hx;cases hx
 have g:∀ (t1:Int),t1∈order->∀ o1∈(opsOf (cy w.aC) t1).getD [],∀ o∈O,o1.k=o.k->
   ∃ s P,∃ (p d:Nat) (q x:RecR),w.sh[(atR o.k w.sh.length).toNat]? =some s/\dA (cy w.aC) w.sh.length P s/\En (kI w) G s/\s.log[p]? =some q/\(p:Int)<s.aE/\q.kind=1/\q.tx=t/\
    q.ops=br O (atR o.k w.sh.length) w.sh.length/\fH (ef s.log p) q.ops=f (atR o.k w.sh.length)/\d<p/\s.log[d]? =some x/\x.kind=3/\x.tx=t1:=by
  intro t1 Ek o1 N o l e;obtain⟨s,P,p,q,a1,n,I,v,J,B,y,C,E⟩:=F.BG (rd:=rd) D hp l;obtain⟨⟨Q,aaZ,f1,b1,b2,_⟩,_⟩:=Z t1 Ek;rw[b1]at N;obtain⟨s',P',p1,q1,m,c2,c3,R,c5,S,K,c8,c9⟩:=F.BG (rd:=Q) b1 b2 N;have e':atR o1.k w.sh.length=atR o.k w.sh.length:=by rw[e]
  rw[e',a1]at m;injection m with m;subst m
  have L:=n.log;have xY:=n.tA;have fA:q.tx≠q1.tx:=by rw[y,K];intro z;exact oa<|z▸Ek
  obtain⟨d,x,d1,d2,d3,d4⟩:=xY.HZ (i:=p) (j:=p1) (r:=q) (r':=q1) (by rw[L];exact v) (by rw[L];exact R) B S fA (o:=o) (o':=o1) (by rw[C];exact xd.2 ⟨l,rfl⟩) (by rw[c8];exact xd.2 ⟨N,rfl⟩) e.symm (by rw[L,y];exact M (P:=P) I);rw[L]at d2;exact⟨s,P,p,d,q,x,a1,n,I,v,J,B,y,C,E,d1,d2,d3,by rw[d4,K]⟩
 refine⟨by simp[h.len],?_,?_,?_⟩
 .rw[jc];exact⟨h.nd,by simp,λa T b H=>by rw[dR.1 H];exact λe=>oa<|e▸T⟩
 .intro i j u u' AD a b o l o' A e;rcases lP j order.length with c|c
  .rw[pT ai]at a b;exact h.pre i j u u' AD a b o l o' A e
  .have U:j=order.length:=by have:=(dd.1 b).1;rw[iV,iR]at this;omega
   subst U;rw[pT AD]at a;have H:u'=t:=by simpa using b.symm
   subst H;rw[D]at A;obtain⟨s,P,p,d,q,x,a1,_,_,v,J,B,y,_,_,C,E,b1,b2⟩:=g u (bD a) o l o' A e;exact⟨s,by rw[e];exact a1,p,d,q,x,v,J,B,y,C,E,b1,b2⟩
 .intro j u X a b;rcases lP j order.length with c|c
  .rw[pT c]at a;rw[pT (by rw[h.len];exact c)]at b;rw[Yk ai];exact h.val j u X a b
  .have U:j=order.length:=by have:=(dd.1 a).1;rw[iV,iR]at this;omega
   subst U;have T:u=t:=by simpa using a.symm
   have H:X=rd:=by rw[E4 (by rw[h.len];exact fC _),h.len,Ar]at b;injection b with b;exact b.symm
   subst T H;rw[Yk (fC _),L3,D,iG,jo];refine yg (λo l hw=>?_) O [] _ rfl λk=>by simp[br]
   obtain⟨s,P,p,q,a1,n,I,v,J,B,y,C,E⟩:=F.BG (rd:=X) D hp l;refine⟨ef s.log p,by rw[<- E,C];rfl,?_⟩;have yN:p<=s.log.length:=yC (dd.1 v).1
   congr 1
   refine h.Te F j9 Z ((hT.of D).1 o l).1 a1 n I yN λts Tf Y=>?_;obtain⟨os,OE,hws,Zc⟩:=Y;obtain⟨s',P',p2,d,q2,x,m,_,_,R,_,S,K,_,_,c8,c9,b1,b2⟩:=g ts Tf os OE o l Zc;rw[a1]at m;injection m with m;subst m
   have hpp:p2=p:=n.tA.S9 (by rw[n.log];exact R) (by rw[n.log];exact v) S B (by rw[K,y]);exact⟨d,x,ai,c9,b1,b2⟩
end
end Go.Sl
