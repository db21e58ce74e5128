/-
  Texts that the proof needs, joined: part 5.
-/
import Derived.Test.YtjomdboiibakiaaGreatDoorEnD
import Derived.KernelRfl
set_option linter.unusedSimpArgs false
set_option linter.unusedVariables false
set_option maxHeartbeats 4000000
namespace Go.Sl
open Go.Proofs.Tryz
variable{s z s':ShR}{o r t j n f i a:Nat}{w w' b b':WR}{G:Gl}{W:WP}{x:dU}{O:List bO}{k c tx C:Int}{m y:MsgR}{l:List lB}{A:Type}{p:Prop}{u:dS}{T:List (List bO)}{P:eg}{I:HL}{so:ay}
def Db(r:RecR):Bool:=r.kind==2&&r.yes
def q6(s:ShR)(l:Nat):List RecR:=((s.log.take s.aE.toNat).drop l).filter Db
def news:List ShR->List Nat->List RecR
 |s::l,o::os=>q6 s o++news l os
 |_,_=>[]
def cJ.add(h:cJ)(B:List RecR):cJ:={h with order:=h.order++B.map (·.tx),reads:=h.reads++B.map (·.reads)}
theorem cJ.add_nil(h:cJ):h.add []=h:=by unfold cJ.add;simp
theorem yh{log:List RecR}{aE:Nat}(e:aE<=log.length){m:Nat}(ht:∀ r∈log,0<=r.tx/\r.tx<m):∀ (f:Nat) (h:cJ) (i:Nat),h.ops.length=m->aE<=i+f->jY log aE f h i=(h.add<|((log.take aE).drop i).filter Db,true)
 |0,h,i,_,g=>by grind [jY,List.drop_of_length_le,List.length_take,RecR,Db,cJ.add_nil]
 |f+1,h,i,b,g=>by
  unfold jY;by_cases hi:aE<=i
  .grind [List.drop_of_length_le,List.length_take,RecR,Db,cJ.add_nil]
  .rw[ax hi];have c:log[i]? =some (log[i]'(by omega)):=cQ _;generalize log[i]'(by omega)=r at c;rw[c];simp only[];have k:=ht r<|bD c;rw[ax (by rw[b];omega)];have j:(log.take aE).drop i=r::(log.take aE).drop (i+1):=by grind [List.drop_eq_getElem_cons,List.length_take]
   rw[j,sC];by_cases a:Db r=true
   .rw[aJ a];have d:(r.kind==2&&r.yes)=true:=a;rw[aJ d,yh e ht f _ (i+1) (by exact b) ai];unfold cJ.add;simp
   .rw[ax a];have d:¬ (r.kind==2&&r.yes)=true:=a;rw[ax d,yh e ht f _ (i+1) b ai]
theorem H5{m:Nat}:∀ (l:List ShR) (os c:List Nat) (h:cJ),h.ops.length=m->h.looked=c++os->os.length=l.length->(∀ s∈l,0<=s.aE/\s.aE<=s.log.length/\∀ r∈s.log,0<=r.tx/\r.tx<m)->
  (∀ (i:Nat) s o,l[i]? =some s->os[i]? =some o->(o:Int)<=s.aE)->nL l c.length h=({h.add (news l os)with looked:=c++l.map λs=>s.aE.toNat},true)
 |[],os,c,h,_,f,d,_,_=>by have:os=[]:=yD (by simpa using d);subst this;unfold nL news;rw[cJ.add_nil];simp only[ny];rw[<- f]
 |s::l,[],c,h,_,_,d,_,_=>by simp at d
 |s::l,o::os,c,h,g,f,d,hs,j=>by
  obtain⟨a1,t,k⟩:=hs s<|fX ..;have n:=j 0 s o rfl rfl;have p:h.looked[c.length]?.getD 0=o:=by rw[f];simp
  unfold nL;have e:tD s c.length h=({h.add (q6 s o)with looked:=(c++[s.aE.toNat])++os},true):=by
   unfold tD;rw[p];rw[ax ai];rw[yh ai k _ h o g ai];simp only[fq]
   congr 2
   show h.looked.set c.length _=_;rw[f];simp
  rw[e];simp only[fq];have u:=H5 l os (c++[s.aE.toNat]) {h.add (q6 s o)with looked:=(c++[s.aE.toNat])++os} (by exact g) rfl (by simpa using d) (λz q=>hs z<|fg _ q) λi z y a b=>j (i+1) z y (by simpa using a)<|by simpa using b
  grind [q6,news,cJ.add]
theorem BH{r:RecR}:∀ {l:List ShR} {os:List Nat},r∈news l os↔∃ (i:Nat) (s:ShR) (o:Nat),l[i]? =some s/\os[i]? =some o/\r∈q6 s o
 |[],os=>by grind [news]
 |s::l,[]=>by grind [news]
 |s::l,o::os=>by
  unfold news;rw[bS,BH];constructor
  .rintro(h|⟨i,z,y,a,b,c⟩)
   .exact⟨0,s,o,rfl,rfl,h⟩
   .exact⟨i+1,z,y,by simpa using a,by simpa using b,c⟩
  .grind
theorem o9{r:RecR}:r∈q6 s o↔∃ i:Nat,o<=i/\(i:Int)<s.aE/\s.log[i]? =some r/\r.kind=2/\r.yes=true:=by
 unfold q6;rw[gW];have a:Db r=true↔r.kind=2/\r.yes=true:=by unfold Db;simp
 rw[a];constructor
 .grind [List.mem_iff_getElem?,kT]
 .rintro⟨i,h1,c,d,b⟩;refine⟨eX.2 ⟨i-o,?_⟩,b⟩
  grind
theorem q7{p:RecR->Bool}:∀ {l:List RecR},(∀ (i j:Nat) (r r':RecR),l[i]? =some r->l[j]? =some r'->p r=true->p r'=true->r.tx=r'.tx->i=j)->((l.filter p).map (·.tx)).Nodup
 |[],_=>by simp
 |a::l,h=>by
  have b:=q7 (p:=p) (l:=l) λi j r r' x y z u v=>by have:=h (i+1) (j+1) r r' (by simpa using x) (by simpa using y) z u v;omega
  rw[sC];split
  .rename_i hp;rw[jq,qP];refine⟨λc=>?_,b⟩;obtain⟨r,d,e⟩:=cq.1 c;obtain⟨h1,f⟩:=gW.1 d;obtain⟨i,hi⟩:=eX.1 h1;have:=h 0 (i+1) a r rfl (by simpa using hi) hp f e.symm;omega
  .exact b
theorem BI{H:Int->Int}:∀ {l:List ShR} {os:List Nat} {b:Nat},(∀ (i:Nat) s,l[i]? =some s->(∀ (i j:Nat) (r r':RecR),s.log[i]? =some r->s.log[j]? =some r'->r.kind=2->r'.kind=2->r.tx=r'.tx->i=j)/\∀ (j:Nat) (r:RecR),s.log[j]? =some r->r.kind=2->H r.tx=((b+i:Nat):Int))->((news l os).map (·.tx)).Nodup
 |[],_,_,_=>by simp[news]
 |s::l,[],_,_=>by simp[news]
 |s::l,o::os,b,h=>by
  unfold news;rw[eW,jc];obtain⟨h1,d⟩:=h 0 s rfl;refine⟨?_,BI (H:=H) (b:=b+1) λi z f=>?_,?_⟩
  .have c:∀ r:RecR,Db r=true->r.kind=2:=λr a=>by unfold Db at a;simp at a;exact a.1
   have:=q7 (p:=Db) (l:=s.log) λi j r r' x y z u v=>h1 i j r r' x y (c r z) (c r' u) v;refine List.Sublist.nodup ?_ this;exact(((List.drop_sublist _ _).trans<|List.take_sublist _ _).filter _).map _
  .obtain⟨a1,D⟩:=h (i+1) z<|by simpa using f
   grind
  .intro x g y m e;subst e;obtain⟨r,a,rfl⟩:=cq.1 g;obtain⟨q,n,e⟩:=cq.1 m;obtain⟨i,_,_,t,w,_⟩:=o9.1 a;obtain⟨k,z,E,b1,b2,b3⟩:=BH.1 n;obtain⟨A,_,_,B,C,_⟩:=o9.1 b3;have e1:=d i r t w;have e2:=(h (k+1) z<|by simpa using b1).2 A q B C;rw[e,e1]at e2;omega
structure mF(w:WR)(G:Gl)(h:cJ):Prop where
 p:xe (cy w.aC) w h.order h.reads
 mem:∀ t rd,G.dec t=some (true,rd)->∃ j:Nat,h.order[j]? =some t/\h.reads[j]? =some rd
 dec:∀ (j:Nat) t rd,h.order[j]? =some t->h.reads[j]? =some rd->G.dec t=some (true,rd)
 ops:h.ops=cy w.aC
 looked:h.looked=w.sh.map λs=>s.aE.toNat
 st:∀ x∈w.aC,1<=x.state/\x.state<=3
theorem mF.ord{h:cJ}(I:mF w G h){t:Int}(ht:t∈h.order):∃ rd,G.dec t=some (true,rd):=by obtain⟨j,a⟩:=eX.1 ht;have hl:=(dd.1 a).1;exact⟨_,I.dec j t _ a<|cQ (by rw[I.p.len];exact hl)⟩
theorem WF.aE{W:WP}{w:WR}{G:Gl}(F:WF W w G){i:Nat}{s:ShR}(hs:w.sh[i]? =some s):0<=s.aE/\s.aE<=s.log.length:=(F.xJ.sh i s hs).1.g.aE
theorem WF.bF(F:WF W w G){t:Int}{x:Bool×List Int}(h:G.dec t=some x):∃ (k:Nat) (s:ShR) (i:Nat) (r:RecR),w.sh[k]? =some s/\s.log[i]? =some r/\(i:Int)<s.aE/\r.kind=2/\r.tx=t/\(r.yes,r.reads)=x/\(opsOf (cy w.aC) t).isSome=true:=by
 have m:=F.rel.n;have a:0<=kI w t/\kI w t<w.sh.length:=by
  unfold kI;cases d:opsOf (cy w.aC) t with
  |none=>simp only[Q5,gp];omega
  |some O=>
   have b:=F.rel.tok.of d;have f:O≠[]:=λe=>by have:=b.2.2.1;rw[e]at this;simp at this
   exact fM b ai<|nb (n:=w.sh.length) f
 obtain⟨s,P,a1,c,g,j⟩:=F.at a.1 a.2;obtain⟨i,r,b1,b2,b3,b4,b5⟩:=g.e.ex t x h j.symm;refine⟨_,s,i,r,a1,b1,b2,b3,b4,b5,?_⟩;obtain⟨O,l,_⟩:=c.tA.tw i r (by rw[c.log];exact b1);rw[<- b4,l];rfl
theorem WF.eV{W:WP}{w:WR}{G:Gl}(F:WF W w G)(k a b:Int):∃ d,G.Le d/\WF (gS W k a b).1 (eV w k a b).1 d/\∀ (i:Nat) s',(eV w k a b).1.sh[i]? =some s'->∃ s,w.sh[i]? =some s/\yX s s'/\ku w s s':=by
 have g:=F.rel.S8;obtain⟨d,c,l⟩:=F.xJ.eV (k:=k) (a:=a) (b:=b) g;have j:∀ (i:Nat) s',(Go.Sl.eV w k a b).1.sh[i]? =some s'->∃ s,w.sh[i]? =some s/\ku w s s':=λi s' h=>BF (λi s hs=>(F.xJ.sh i s hs).2.1) g.to h;have m:=(MR F.rel k a b).1;have n:kI (Go.Sl.eV w k a b).1=kI w:=by grind [kI,xc,o8]
 refine⟨d,c,⟨m,by rw[n];exact l,λs' o=>?_⟩,λi s' h=>?_⟩
 .obtain⟨i,hi⟩:=eX.1 o;obtain⟨s,h1,e⟩:=j i s' hi;obtain⟨P,R,x,f,p,_⟩:=F.rel.eI i (dd.1 h1).1;rw[h1]at f;injection f with f;subst f
  have q:=F.Za s<|bD h1;have t:=q.step F.rel.tok (by have:=F.rel.n.1;omega) (F.xJ.sh i s h1).1.g p F.xJ.aH e;rw[xc,o8];exact λr a1 u v=>(t r a1 u v).mono c
 .obtain⟨s,h1,e⟩:=j i s' h;exact⟨s,h1,e.afa<|F.aE h1,e⟩
theorem xe.Tl{W:WP}{w:WR}{G:Gl}(F:WF W w G):∀ (B:List RecR) {order:List Int} {reads:List (List Int)},xe (cy w.aC) w order reads->
  (∀ t rd,G.dec t=some (true,rd)->t∈order)->(∀ t∈order,(∃ rd,o7 (cy w.aC) w.sh.length G t rd)/\∀ b rd,G.dec t=some (b,rd)->b=true)->
  (B.map (·.tx)).Nodup->(∀ r∈B,r.tx∉order/\o7 (cy w.aC) w.sh.length G r.tx r.reads/\G.dec r.tx=none)->xe (cy w.aC) w (order++B.map (·.tx)) (reads++B.map (·.reads))
 |[],order,reads,h,_,_,_,_=>by simpa using h
 |r::B,order,reads,h,h1,d,c,e=>by
  obtain⟨a1,f,g⟩:=e r<|fX ..;have j:=h.add F h1 d a1 f g;rw[jq,qP]at c;have:=xe.Tl F B j (λt rd z=>iq _<|h1 t rd z) (λt a=>by
   rcases bS.1 a with a|a
   .exact d t a
   .rw[dR.1 a];exact⟨⟨_,f⟩,λb rd z=>by rw[g]at z;cases z⟩) c.2 (λq i=>by
   obtain⟨b1,b2,b3⟩:=e q<|fg _ i;refine⟨λhm=>?_,b2,b3⟩;rcases bS.1 hm with hm|hm
   .exact b1 hm
   .exact c.1<|cq.2 ⟨q,i,dR.1 hm⟩)
  simpa using this
theorem mF.vot{h:cJ}(I:mF w G h)(F:WF W w G):∀ t∈h.order,(∃ rd,o7 (cy w.aC) w.sh.length G t rd)/\∀ b rd,G.dec t=some (b,rd)->b=true:=λt d=>by
 obtain⟨rd,c⟩:=I.ord d;refine⟨?_,λb j z=>by rw[c]at z;injection z with z;injection z with z;exact z.symm⟩;obtain⟨k,s,i,r,a1,e,l,f,g,a,_⟩:=F.bF c;injection a with a m
 have:=F.Za s (bD a1) r (bD e) f a;rw[g]at this;exact⟨_,this⟩
theorem mF.WT{h:cJ}(I:mF w G h):∀ t rd,G.dec t=some (true,rd)->t∈h.order:=λt rd z=>by obtain⟨j,a,_⟩:=I.mem t rd z;exact bD a
theorem mF.look{h:cJ}(I:mF w G h)(F:WF W w G){W':WP}{w':WR}{M:Gl}(g:WF W' w' M)(N:G.Le M)(Q:cy w'.aC=cy w.aC)(hl:w'.sh.length=w.sh.length)(dI:∀ x∈w'.aC,1<=x.state/\x.state<=3)
  (hs:∀ (i:Nat) s',w'.sh[i]? =some s'->∃ s,w.sh[i]? =some s/\yX s s'):∃ h',l8 w' h=(h',true)/\mF w' M h':=by
 have get:∀ {i:Nat} {s},w.sh[i]? =some s->∃ s',w'.sh[i]? =some s'/\yX s s':=λ{i s} hi=>by grind
 have e:l8 w' h=({h.add (news w'.sh (w.sh.map λs=>s.aE.toNat))with looked:=[]++w'.sh.map λs=>s.aE.toNat},true):=by
  unfold l8;refine H5 (m:=(cy w'.aC).length) w'.sh (w.sh.map λs=>s.aE.toNat) [] h (by rw[I.ops,Q]) (by rw[I.looked];rfl) (by simp[hl]) (λs kG=>?_) λi s o a b=>?_
  .obtain⟨i,hi⟩:=eX.1 kG;obtain⟨g1,g2⟩:=g.aE hi;refine⟨g1,g2,λr f=>?_⟩;obtain⟨P,R,c1,A,Y,_⟩:=g.rel.eI i (dd.1 hi).1;rw[hi]at A;injection A with A;subst A
   obtain⟨j,S⟩:=eX.1 f;obtain⟨O,d1,_⟩:=Y.tA.tw j r (by rw[Y.log];exact S);obtain⟨d2,d3,_⟩:=ie d1;omega
  .obtain⟨z,h1,d⟩:=hs i s a;rw[jJ,h1]at b;injection b with b
   have b:z.aE.toNat=o:=b;have:=d.1;have:=F.aE h1;omega
 refine⟨_,e,?_⟩;generalize Z:news w'.sh (w.sh.map λs=>s.aE.toNat)=B at e;have l:∀ r,r∈B↔∃ (k:Nat) (s s':ShR) (i:Nat),w.sh[k]? =some s/\w'.sh[k]? =some s'/\s.aE<=i/\(i:Int)<s'.aE/\s'.log[i]? =some r/\r.kind=2/\r.yes=true:=λr=>by
  rw[<- Z,BH];constructor
  .rintro⟨k,s',o,h1,d,C⟩;obtain⟨s,a1,D⟩:=hs k s' h1;rw[jJ,a1]at d;injection d with d
   have d:s.aE.toNat=o:=d;obtain⟨i,b1,b2,b3,b4,b5⟩:=o9.1 C;have:=F.aE a1;exact⟨k,s,s',i,a1,h1,ai,b2,b3,b4,b5⟩
  .rintro⟨k,s,s',i,h1,d,C,u,v,n,y⟩;have:=F.aE h1;refine⟨k,s',s.aE.toNat,d,by rw[jJ,h1];rfl,o9.2 ⟨i,ai,u,v,n,y⟩⟩
 have T:∀ r∈B,o7 (cy w.aC) w.sh.length G r.tx r.reads/\G.dec r.tx=none:=λr f=>by
  obtain⟨k,s,s',i,h1,d,C,u,v,n,y⟩:=(l r).1 f;obtain⟨z,z1,z2⟩:=hs k s' d;rw[h1]at z1;injection z1 with z1;subst z1
  have U:s.log[i]? =some r:=by rw[<- z2.2.2 i u];exact v
  refine⟨F.Za s (bD h1) r (bD U) n y,?_⟩;cases p:G.dec r.tx with
  |none=>rfl
  |some x=>
   have X:=(F.xJ.sh k s h1).1;obtain⟨j,q,a1,D,E,J,_⟩:=X.e.ex _ _ p<|X.e.hm i r U n;have:=X.g.uniq i j r q U a1 n E J.symm;subst this;omega
 have vot:=I.vot F;have WT:=I.WT;have hp:=(xe.Tl F B I.p WT vot (by
   rw[<- Z];exact BI (H:=kI w') (b:=0) λi s hi=>⟨(g.xJ.sh i s hi).1.g.uniq,λj r a b=>by
    have:=(g.xJ.sh i s hi).1.e.hm j r a b;rw[this,(g.xJ.sh i s hi).2.1,lR]⟩) (λr f=>by
  obtain⟨a,b⟩:=T r f;refine⟨λhm=>?_,a,b⟩;obtain⟨rd,p⟩:=I.ord hm;rw[b]at p;cases p)).step hl hs
 refine⟨?_,λt rd p=>?_,λj t rd a b=>?_,by rw[Q];exact I.ops,rfl,dI⟩
 .rw[Q];exact hp
 .obtain⟨k,s',i,r,a1,D,E,J,a5,K,_⟩:=g.bF p;injection K with K a7
  obtain⟨s,b1,b2⟩:=hs k s' a1;by_cases hi:(i:Int)<s.aE
  .have f:s.log[i]? =some r:=by rw[<- b2.2.2 i E];exact D
   have:=(F.xJ.sh k s b1).1.g.bF i r f hi J;rw[a5,K,a7]at this;obtain⟨j,j1,j2⟩:=I.mem t rd this;exact⟨j,by show(h.order++_)[j]? =_;rw[pT (dd.1 j1).1];exact j1,by show(h.reads++_)[j]? =_;rw[pT (dd.1 j2).1];exact j2⟩
  .have f:r∈B:=(l r).2 ⟨k,s,s',i,b1,a1,ai,E,D,J,K⟩;obtain⟨j,S⟩:=eX.1 f;refine⟨h.order.length+j,?_,?_⟩
   .show(h.order++B.map (·.tx))[_]? =_
    grind
   .show(h.reads++B.map (·.reads))[_]? =_;rw[E4 (by rw[I.p.len];omega),I.p.len,ZQ,jJ,S,lQ,a7]
 .have L:(h.order++B.map (·.tx))[j]? =some t:=a;have b':(h.reads++B.map (·.reads))[j]? =some rd:=b;rcases lP j h.order.length with c|c
  .rw[pT c]at L;rw[pT (by rw[I.p.len];exact c)]at b';exact N.dec _ _<|I.dec j t rd L b'
  .rw[E4 c,jJ]at L;rw[E4 (by rw[I.p.len];exact c),I.p.len,jJ]at b';obtain⟨r,f,rfl⟩:=LO.1 L;rw[f]at b';injection b' with b';subst b'
   obtain⟨k,s,s',i,h1,d,C,u,v,n,y⟩:=(l r).1<|bD f;have:=(g.xJ.sh k s' d).1.g.bF i r v u n;rw[y]at this;exact this
theorem pa:∀ (l:List ShR) (k:Nat) (h:cJ),(∀ s∈l,0<=s.aE/\s.aE<=s.log.length)->(∀ (j:Nat) s,l[j]? =some s->h.looked[k+j]? =some s.aE.toNat)->nL l k h=(h,true)
 |[],_,_,_,_=>rfl
 |s::l,k,h,b,hl=>by
  have c:=hl 0 s rfl;rw[Nat.add_zero]at c;obtain⟨d,f⟩:=b s<|fX ..;have e:tD s k h=(h,true):=by
   unfold tD;rw[c,iG];rw[ax ai];have:jY s.log s.aE.toNat (s.aE.toNat+1) h s.aE.toNat=(h,true):=by grind [jY]
   rw[this];simp only[fq]
   congr 1
   have hs:h.looked.set k s.aE.toNat=h.looked:=by
    apply Du
    grind
   rw[hs]
  unfold nL;rw[e];simp only[fq];exact pa l (k+1) h (λz a=>b z<|fg _ a) λj z a=>by
   have:=hl (j+1) z<|by simpa using a
   grind
theorem FL{h:cJ}{t:Int}:0<=MZ h t↔t∈h.order:=by grind [MZ,hp]
theorem KA{h:cJ}{t:Int}(b:h.order.Nodup)(hj:h.order[j]? =some t):MZ h t=j:=by
 unfold MZ;cases a:h.order.findIdx? (· ==t)with
 |none=>
  rw[Yl]at a;have:=a t<|bD hj;simp at this
 |some i=>
  simp only[];obtain⟨hl,hp,_⟩:=yB.1 a
  grind [hp,List.pairwise_iff_getElem]
theorem mF.one{h:cJ}(I:mF w G h)(F:WF W w G):HT w h=true:=by
 unfold HT;rw[lz];intro s hs;rw[lz];intro r e;obtain⟨k,f⟩:=eX.1 hs;obtain⟨i,hi⟩:=eX.1 e;by_cases b:r.kind=3
 .obtain⟨rd,a⟩:=(F.xJ.sh k s f).1.g.done i r hi b;have g:(r.kind != 3)=false:=by simp[b]
  rw[g,Bool.false_or];cases d:r.yes with
  |true=>
   rw[d]at a;obtain⟨j,l,_⟩:=I.mem _ _ a
   grind [FL,List.mem_of_getElem?]
  |false=>
   rw[d]at a;simp only[fW,eQ];refine wm ?_;rcases Int.lt_or_le (MZ h r.tx) 0 with c|c
   .exact c
   .obtain⟨m,n⟩:=I.ord<|FL.1 c
    grind
 .grind
theorem mF.told{h:cJ}(I:mF w G h)(F:WF W w G):Ej w h=true:=by
 unfold Ej;rw[lz];intro t d;have a:h.ops.length=w.aC.length:=by rw[I.ops];simp[cy]
 rw[iA,a]at d;have b:w.aC[t]? =some (w.aC[t]):=cQ d;generalize w.aC[t]=x at b;rw[b];simp only[];obtain⟨k,l⟩:=I.st x<|bD b;obtain⟨e,f⟩:=F.xJ.aC t x b;have c:x.state=1\/x.state=2\/x.state=3:=ai;rcases c with c|c|c
 .rw[c];simp
 .obtain⟨j,g,j2⟩:=I.mem _ _<|e c;have i:=KA I.p.nd g;rw[c,i];simp[j2]
 .obtain⟨rd,m⟩:=f c;have n:¬ (0<=MZ h t):=λz=>by
   obtain⟨o,p⟩:=I.ord<|FL.1 z
   grind
  rw[c];simp;omega
theorem mF.nh{w:WR}{G:Gl}{h:cJ}(I:mF w G h)(c:vd (cy w.aC))(a:∀ t∈h.order,(opsOf (cy w.aC) t).isSome=true):
  ∀ (f i:Nat),h.order.length<=i+f->nh h f i (runT (cy w.aC) (h.order.take i) bQ)=(runT (cy w.aC) h.order bQ,true)
 |0,i,d=>by unfold Go.Sl.nh;rw[lA ai]
 |f+1,i,d=>by
  unfold Go.Sl.nh;cases hi:h.order[i]? with
  |none=>grind [List.take_of_length_le]
  |some t=>
   simp only[];rw[ax (by rw[KA I.p.nd hi];simp)];have hl:=(dd.1 hi).1;have b:h.reads[i]? =some (h.reads[i]'(by rw[I.p.len];exact hl)):=cQ _;obtain⟨O,g⟩:=oM.1<|a t<|bD hi;have j:h.ops[t.toNat]?.getD []=(opsOf (cy w.aC) t).getD []:=by
    rw[I.ops];unfold opsOf at g⊢
    grind
   have k:=I.p.val i t _ hi b;rw[b,iG,j,aJ k];have e:runT (cy w.aC) (h.order.take<|i+1) bQ=cS (runT (cy w.aC) (h.order.take i) bQ) ((opsOf (cy w.aC) t).getD []):=by rw[GV,hi,BD];rfl
   rw[<- e];exact mF.nh I c a f (i+1) ai
theorem mF.FM{h:cJ}(I:mF w G h)(F:WF W w G):∀ t∈h.order,(opsOf (cy w.aC) t).isSome=true:=λt a=>by obtain⟨rd,b⟩:=I.ord a;obtain⟨_,_,_,_,_,_,_,_,_,_,h⟩:=F.bF b;exact h
theorem mF.aa3{h:cJ}(I:mF w G h)(F:WF W w G):M0 h=(runT (cy w.aC) h.order bQ,true):=by have:=mF.nh I F.rel.tok (I.FM F) (h.order.length+1) 0 ai;rw[ZL]at this;exact this
theorem Er{T T':List (List bO)}:∀ {l v:List Int},(∀ t∈l,opsOf T' t=opsOf T t)->runT T' l v=runT T l v
 |[],_,_=>rfl
 |t::l,v,h=>by show runT T' l (cS v<|(opsOf T' t).getD [])=runT T l (cS v<|(opsOf T t).getD []);rw[h t (fX ..),Er λx a=>h x<|fg _ a]
theorem WF.l9{w:WR}(F:WF W w G)(O:List bO):WF (qp W O).1 (bZ w O).1 G/\(bZ w O).1.sh=w.sh/\∃ a,cy (bZ w O).1.aC=cy w.aC++a/\((bZ w O).2.2=0->a=[O]/\(bZ w O).2.1=w.aC.length)/\((bZ w O).2.2≠0->(bZ w O).1=w)/\((∀ x∈w.aC,1<=x.state/\x.state<=3)->∀ x∈(bZ w O).1.aC,1<=x.state/\x.state<=3):=by
 have e:=(yS F.rel O).1;generalize b:bZ w O=x at*;unfold bZ at b;split at b
 .subst b;exact⟨⟨e,F.xJ,F.Za⟩,rfl,[],by simp,by simp,λ_=>rfl,λh=>h⟩
 split at b
 .subst b;exact⟨⟨e,F.xJ,F.Za⟩,rfl,[],by simp,by simp,λ_=>rfl,λh=>h⟩
 split at b
 .subst b;exact⟨⟨e,F.xJ,F.Za⟩,rfl,[],by simp,by simp,λ_=>rfl,λh=>h⟩
 .subst b;obtain⟨b1,b2⟩:=qw {w with aC:=w.aC++[⟨O,1,[]⟩]} w.aC.length;have q:cy (ic {w with aC:=w.aC++[⟨O,1,[]⟩]} w.aC.length).aC=cy w.aC++[O]:=by rw[b2];simp[cy]
  have d:∀ t,(opsOf (cy w.aC) t).isSome=true->kI (ic {w with aC:=w.aC++[⟨O,1,[]⟩]} w.aC.length) t=kI w t:=λt M=>by grind [Option.isSome_iff_exists,kI,kC]
  refine⟨⟨e,⟨λi s hs=>?_,λm hm=>?_,λt y k=>?_⟩,λs hs=>?_⟩,b1,[O],q,λ_=>⟨rfl,rfl⟩,λh=>absurd rfl h,λh y k=>?_⟩
  .have l:w.sh[i]? =some s:=by rw[b1]at hs;exact hs
   obtain⟨a1,D,E⟩:=F.xJ.sh i s l;obtain⟨P,R,N,f,n,_⟩:=F.rel.eI i (dd.1 l).1;rw[l]at f;injection f with f;subst f
   have p:∀ (j:Nat) (r:RecR),s.log[j]? =some r->(opsOf (cy w.aC) r.tx).isSome=true:=λj r g=>by obtain⟨o,H,_⟩:=n.tA.tw j r (by rw[n.log];exact g);rw[H];rfl
   refine⟨⟨a1.g,⟨λj r g I=>?_,λu v=>?_,λtx z A B=>?_,a1.e.exp,a1.e.u1⟩,a1.v⟩,D,E⟩
   .rw[d _ (p j r g)];exact a1.e.hm j r g I
   .rw[d _ (by rw[n.H4 u v];rfl)];exact a1.e.hu u v
   .obtain⟨_,_,_,_,_,_,_,_,_,_,J⟩:=F.bF A;rw[d _ J]at B;exact a1.e.ex tx z A B
  .unfold ic at hm;split at hm
   .exact F.xJ.aH m hm
   .rcases bS.1 hm with hm|hm
    .exact F.xJ.aH m hm
    .grind [List.mem_singleton,pI.other]
  .rw[b2]at k;have C:(w.aC++[(⟨O,1,[]⟩:TxR)])[t]? =some y:=k;rcases lP t w.aC.length with c|c
   .rw[pT c]at C;exact F.xJ.aC t y C
   .grind
  .rw[b1]at hs;rw[q,b1];exact λr h1 K L=>(F.Za s hs r h1 K L).app [O]
  .grind
theorem mF.l9{h:cJ}(I:mF w G h)(F:WF W w G){w':WR}{c:List (List bO)}(hs:w'.sh=w.sh)(d:cy w'.aC=cy w.aC++c)(f:∀ x∈w'.aC,1<=x.state/\x.state<=3):mF w' G {h with ops:=h.ops++c}:=by
 have same:∀ t∈h.order,opsOf (cy w'.aC) t=opsOf (cy w.aC) t:=λt g=>by obtain⟨o,h1⟩:=oM.1<|I.FM F t g;rw[d,kC c h1,h1]
 refine⟨⟨I.p.len,I.p.nd,λi j t e k a b=>?_,λj t rd a b=>?_⟩,I.mem,I.dec,by rw[d,<- I.ops],by rw[hs];exact I.looked,f⟩
 .rw[same t (bD a),same e<|bD b,hs];exact I.p.pre i j t e k a b
 .rw[same t (bD a),Er λx l=>same x<|LZ l];exact I.p.val j t rd a b
def nH(n:Nat)(w:WR)(h:cJ):Prop:=w.sh.length=n/\∃ W G t,WF W w G/\mF w G h/\kJ t w
theorem nH.new{n:Nat}(l:1<=n/\n<=4):nH n (kP n) ⟨[],[],[],List.replicate n 0⟩:=by
 have d:∀ (i:Nat) s,(kP n).sh[i]? =some s->s=iS i n:=λi s hs=>by
  have o:((upto n).map λk=>iS k n)[i]? =some s:=hs
  grind [upto]
 have hl:(kP n).sh.length=n:=by show((upto n).map _).length=n;simp[upto]
 have p:cy (kP n).aC=[]:=rfl;refine⟨hl,Ed n,⟨λ_=>none,λ_ _=>none⟩,0,⟨MP ⟨ai,ai⟩,⟨λi s hs=>?_,λm e=>(by cases e),λt x b=>?_⟩,λs hs=>?_⟩,⟨⟨rfl,.nil,λi j t q _ a=>by simp at a,λj t rd a=>by simp at a⟩,λt rd z=>(by cases z),λj t rd a=>by simp at a,rfl,?_,λx b=>(by cases b)⟩,MV⟩
 .rw[d i s hs];refine⟨⟨iz.new,⟨λj r c=>by simp[iS,bY]at c,λu f=>by simp[iS,bY]at f,λtx x z=>(by cases z),λtx x z=>(by cases z),λi j r r' c=>by simp[iS,bY]at c⟩,λ_=>rfl⟩,rfl,rfl⟩
 .have g:([]:List TxR)[t]? =some x:=b;simp at g
 .obtain⟨i,hi⟩:=eX.1 hs;rw[d i s hi];intro r h;simp[iS,bY]at h
 .show List.replicate n 0=((upto n).map λk=>iS k n).map λs=>s.aE.toNat;rw[Ap];have:(λs:ShR=>s.aE.toNat)∘(λk=>iS k n)=λ_=>0:=by funext k;rfl
  rw[this];unfold upto;rw[Ap];have:(λ_:Int=>0)∘Int.ofNat=λ_:Nat=>(0:Nat):=rfl;rw[this];simp[List.map_const']
theorem nH.eV{n:Nat}{w:WR}{h:cJ}(S:nH n w h)(a b c:Int):∃ h',l8 (Go.Sl.eV w a b c).1 h=(h',true)/\HT (Go.Sl.eV w a b c).1 h'=true/\nH n (Go.Sl.eV w a b c).1 h':=by
 obtain⟨hl,W,G,t,F,I,V⟩:=S;obtain⟨g,d,f,hs⟩:=F.eV a b c;have j:∀ x∈(Go.Sl.eV w a b c).1.aC,1<=x.state/\x.state<=3:=by
  rcases M3 w a b c with e|⟨m,_,e⟩<;>rw[e]
  .exact I.st
  .exact FK I.st
 obtain⟨h',h1,I'⟩:=I.look F f d (xc w a b c) (o8 w a b c) j λi s' z=>by grind
 exact⟨h',h1,I'.one f,by rw[o8];exact hl,_,g,t+1,f,I',MU V F.rel a b c⟩
theorem nH.l9{n:Nat}{w:WR}{h:cJ}(S:nH n w h)(O:List bO):nH n (bZ w O).1 (if(bZ w O).2.2=0 then{h with ops:=h.ops++[O]}else h)/\((bZ w O).2.2=0->(bZ w O).2.1=h.ops.length):=by
 obtain⟨hl,W,G,t,F,I,V⟩:=S;obtain⟨c,hs,b,h1,d,f,g⟩:=F.l9 O;have i:=yT V F.rel O;by_cases a:(bZ w O).2.2=0
 .obtain⟨rfl,e⟩:=d a;rw[aJ a];refine⟨⟨by rw[hs];exact hl,_,G,t+1,c,I.l9 F hs h1<|g I.st,i⟩,λ_=>?_⟩;rw[e,I.ops];simp[cy]
 .rw[ax a,f a];exact⟨⟨hl,W,G,t,F,I,V⟩,λz=>absurd z a⟩
theorem nH.aiW{h:cJ}(S:nH n w h):Ej w h=true/\(M0 h).2=true:=by obtain⟨_,W,G,t,F,I,V⟩:=S;exact⟨I.told F,by rw[I.aa3 F]⟩
def OG(O:List bO)(n:Int):List Int:=(upto n).filter λk=>cu O k n
theorem FN{n:Int}:k∈OG O n↔(0<=k/\k<n)/\cu O k n=true:=by unfold OG;rw[gW,oy]
theorem WU{n:Int}:(OG O n).length<=n.toNat:=by grind [OG,upto]
theorem Es{f:ShR->Int->List bO->ShR}{h:Int->List bO->Int->List MsgR}(hf:∀ z k p,f z k p={z with out:=z.out++h k p z.me})(z:ShR):
  gO z O f={z with out:=z.out++(OG O z.n).flatMap λk=>h k (br O k z.n) z.me}:=by
 unfold gO OG;have key:∀ (l:List Int) (n:Int) (z:ShR),l.foldl (λz k=>if(br O k n).isEmpty then z else f z k (br O k n)) z={z with out:=z.out++(l.filter λk=>cu O k n).flatMap λk=>h k (br O k n) z.me}:=by
  intro l n
  induction l with
  |nil=>intro z;simp
  |cons k l a=>grind [cu,hp,br]
 exact key (upto z.n) z.n z
theorem BJ{f:ShR->Int->List bO->ShR}{h:Int->List bO->Int->List MsgR}(hf:∀ z k p,f z k p={z with waits:=z.waits++h k p z.me})(z:ShR):
  gO z O f={z with waits:=z.waits++(OG O z.n).flatMap λk=>h k (br O k z.n) z.me}:=by
 unfold gO OG;have key:∀ (l:List Int) (n:Int) (z:ShR),l.foldl (λz k=>if(br O k n).isEmpty then z else f z k (br O k n)) z={z with waits:=z.waits++(l.filter λk=>cu O k n).flatMap λk=>h k (br O k n) z.me}:=by
  intro l n
  induction l with
  |nil=>intro z;simp
  |cons k l a=>grind [cu,hp,br]
 exact key (upto z.n) z.n z
def BK(me n tx:Int)(O:List bO):List MsgR:=(OG O n).flatMap λk=>[{bA with kind:=2,aX:=me,to:=k,tx:=tx,ops:=br O k n}]
theorem kD(a:aM s.log 2 m.tx=none)(hu:bP s.under m.tx=none):
  gZ s m={s with under:=s.under++[⟨m.tx,m.ops,[],false,false,[]⟩],out:=s.out++BK s.me s.n m.tx m.ops,timers:=s.timers++[⟨s.clock+4,true,m.tx⟩]}:=by
 unfold gZ;rw[a,hu];simp only[GI,fW,eQ];rw[Es (f:=λz k p=>ee z {bA with kind:=2,to:=k,tx:=m.tx,ops:=p}) (h:=λk p me=>[{bA with kind:=2,aX:=me,to:=k,tx:=m.tx,ops:=p}]) (λz k p=>rfl)];rfl
theorem kE(h:(aM s.log 2 m.tx).isSome=true\/(bP s.under m.tx).isSome=true):
  (∃ d r,aM s.log 2 m.tx=some d/\(d:Int)<s.aE/\s.log[d]? =some r/\gZ s m={s with out:=s.out++[{bA with kind:=7,aX:=s.me,to:= -1,tx:=m.tx,yes:=r.yes,reads:=r.reads}]})\/
  (gZ s m=s/\((∃ d,aM s.log 2 m.tx=some d/\s.aE<=(d:Int))\/(aM s.log 2 m.tx=none/\(bP s.under m.tx).isSome=true))):=by
 unfold gZ;cases c:aM s.log 2 m.tx with
 |some d=>
  dsimp only;by_cases a:(d:Int)<s.aE
  .rw[aJ a];obtain⟨_,r,b,_⟩:=bG c;exact .inl ⟨d,r,rfl,a,b,by rw[b,iG];rfl⟩
  .grind
 |none=>grind
def uB(me n tx:Int)(yes:Bool)(O:List bO):List MsgR:=(OG O n).flatMap λk=>[{bA with kind:=4,aX:=me,to:=k,tx:=tx,yes:=yes}]
def gI(u:dS)(m:MsgR):dS:=if(m.yes&& !(bJ u m.aX).isSome)=true then{u with bq:=u.bq++[⟨m.aX,m.reads⟩]}else u
theorem oC(u:dS)(m:MsgR):(gI u m).tx=u.tx/\(gI u m).ops=u.ops/\(gI u m).dec=u.dec/\(gI u m).cf=u.cf/\(gI u m).yes=u.yes:=by grind [gI]
theorem oD:(kO s m=s/\∀ (i:Nat) u,bP s.under m.tx=some i->s.under[i]? =some u->u.dec=true)\/
  ∃ (i:Nat) (u:dS),bP s.under m.tx=some i/\s.under[i]? =some u/\u.tx=m.tx/\u.dec=false/\
   ((m.yes=true/\gP s.n (gI u m).ops (λk=>(bJ (gI u m) k).isSome)=false/\kO s m={s with under:=s.under.set i<|gI u m})\/
   ((m.yes=true->gP s.n (gI u m).ops (λk=>(bJ (gI u m) k).isSome)=true)/\∃ rd,kO s m={s with under:=s.under.set i {(gI u m)with dec:=true,yes:=m.yes},log:=s.log++[{dz with kind:=2,tx:=m.tx,yes:=m.yes,reads:=rd}],waits:=s.waits++(uB s.me s.n m.tx m.yes (gI u m).ops++[{bA with kind:=7,aX:=s.me,to:= -1,tx:=m.tx,yes:=m.yes,reads:=rd}])})):=by
 unfold kO;cases c:bP s.under m.tx with
 |none=>exact .inl ⟨by trivial,λi u h=>by cases h⟩
 |some i=>
  dsimp only;obtain⟨u,a,d⟩:=lq c;rw[a];dsimp only;by_cases b:u.dec=true
  .grind
  .rw[ax b];refine .inr ⟨i,u,rfl,a,d,by simpa using b,?_⟩;have e:(if(m.yes&& !(bJ u m.aX).isSome)=true then({u with bq:=u.bq++[⟨m.aX,m.reads⟩]}:dS)else u)=gI u m:=rfl;rw[e];cases g:m.yes with
   |true=>
    cases j:gP s.n (gI u m).ops (λk=>(bJ (gI u m) k).isSome)with
    |false=>exact .inl ⟨rfl,rfl,by simp⟩
    |true=>
     refine .inr ⟨λ_=>rfl,jU {(gI u m)with dec:=true,yes:=true} s.n,?_⟩;simp only[Bool.true_and,uX,fW,eQ,fq];rw[BJ (f:=λz k _=>fb z {bA with kind:=4,to:=k,tx:=m.tx,yes:=true}) (h:=λk p me=>[{bA with kind:=4,aX:=me,to:=k,tx:=m.tx,yes:=true}]) (λz k p=>rfl)];simp only[fb,rT];rfl
   |false=>
    refine .inr ⟨λh=>(by cases h),[],?_⟩;simp only[yA,fW,eQ];rw[BJ (f:=λz k _=>fb z {bA with kind:=4,to:=k,tx:=m.tx,yes:=false}) (h:=λk p me=>[{bA with kind:=4,aX:=me,to:=k,tx:=m.tx,yes:=false}]) (λz k p=>rfl)];simp only[fb,rT];rfl
theorem q8:(qj s m=s/\∀ (i:Nat) u,bP s.under m.tx=some i->s.under[i]? =some u->u.dec=false)\/
  ∃ (i:Nat) (u:dS),bP s.under m.tx=some i/\s.under[i]? =some u/\u.tx=m.tx/\u.dec=true/\
   ((gP s.n u.ops (λk=>(u.cf++[m.aX]).contains k)=true/\qj s m={s with under:=s.under.eraseIdx i})\/
   (gP s.n u.ops (λk=>(u.cf++[m.aX]).contains k)=false/\qj s m={s with under:=s.under.set i {u with cf:=u.cf++[m.aX]}})):=by
 unfold qj;cases a:bP s.under m.tx with
 |none=>exact .inl ⟨by trivial,λi u h=>by cases h⟩
 |some i=>grind [lq,gP]
theorem q9:(∃ (d:Nat) (r:RecR),aM s.log 2 m.tx=some d/\(d:Int)<s.aE/\s.log[d]? =some r/\pE s m={s with out:=s.out++[{bA with kind:=4,aX:=s.me,to:=m.aX,tx:=m.tx,yes:=r.yes}]})\/
  (∃ d:Nat,aM s.log 2 m.tx=some d/\s.aE<=(d:Int)/\pE s m=s)\/(aM s.log 2 m.tx=none/\(bP s.under m.tx).isSome=true/\pE s m=s)\/
  (aM s.log 2 m.tx=none/\bP s.under m.tx=none/\pE s m={s with log:=s.log++[{dz with kind:=2,tx:=m.tx}],waits:=s.waits++[{bA with kind:=4,aX:=s.me,to:=m.aX,tx:=m.tx}]}):=by
 unfold pE;cases c:aM s.log 2 m.tx with
 |some d=>
  dsimp only;by_cases a:(d:Int)<s.aE
  .rw[aJ a];obtain⟨_,r,b,_⟩:=bG c;exact .inl ⟨d,r,rfl,a,b,by rw[b,iG];rfl⟩
  .grind
 |none=>
  dsimp only;cases e:bP s.under m.tx with
  |some i=>grind
  |none=>simp only[GI,fW,eQ];exact .inr<|.inr<|.inr ⟨by trivial,by trivial,by trivial⟩
theorem nl:(∃ (i:Nat) (rd:List Int),aL s.log m.tx=some i/\(i:Int)<s.aE/\eN s m={s with out:=s.out++[{bA with kind:=3,aX:=s.me,to:=m.aX,tx:=m.tx,yes:=true,reads:=rd}]})\/
  (∃ i:Nat,aL s.log m.tx=some i/\s.aE<=(i:Int)/\eN s m=s)\/
  (∃ (d:Nat) (r:RecR),aM s.log 3 m.tx=some d/\s.log[d]? =some r/\r.yes=true/\eN s m=s)\/
  eN s m={s with out:=s.out++[{bA with kind:=3,aX:=s.me,to:=m.aX,tx:=m.tx}]}\/
  (aL s.log m.tx=none/\aM s.log 3 m.tx=none/\∃ (rd:List Int) (lk:List kh),eN s m={s with aQ:=lk,log:=s.log++[{dz with kind:=1,tx:=m.tx,home:=m.aX,ops:=m.ops}],waits:=s.waits++[{bA with kind:=3,aX:=s.me,to:=m.aX,tx:=m.tx,yes:=true,reads:=rd}],timers:=s.timers++[⟨s.clock+3,false,m.tx⟩]}):=by
 unfold eN;simp only;cases c:aL s.log m.tx with
 |some i=>
  dsimp only;by_cases hi:(i:Int)<s.aE
  .rw[aJ hi];exact .inl ⟨i,_,rfl,hi,rfl⟩
  .grind
 |none=>
  dsimp only;cases a:aM s.log 3 m.tx with
  |some d=>
   dsimp only;obtain⟨_,r,b,_⟩:=bG a;rw[b,iG];cases e:r.yes with
   |true=>grind
   |false=>simp only[fW,eQ];exact .inr<|.inr<|.inr<|.inl rfl
  |none=>
   dsimp only;split
   .exact .inr<|.inr<|.inr<|.inl rfl
   .exact .inr<|.inr<|.inr<|.inr ⟨rfl,rfl,_,_,rfl⟩
theorem mU:(∃ d:Nat,aL s.log m.tx=none/\aM s.log 3 m.tx=some d/\(((d:Int)<s.aE/\fY s m={s with out:=s.out++[{bA with kind:=5,aX:=s.me,to:=m.aX,tx:=m.tx}]})\/(s.aE<=(d:Int)/\fY s m=s)))\/
  (aL s.log m.tx=none/\aM s.log 3 m.tx=none/\m.yes=true/\fY s m=s)\/
  (aM s.log 3 m.tx=none/\∃ (vl:List Int) (lk:List kh),fY s m={s with bX:=vl,aQ:=lk,log:=s.log++[{dz with kind:=3,tx:=m.tx,yes:=m.yes}],waits:=s.waits++[{bA with kind:=5,aX:=s.me,to:=m.aX,tx:=m.tx}]}):=by
 unfold fY;cases b:aL s.log m.tx with
 |some i=>
  dsimp only;refine .inr<|.inr ⟨(cZ b).1,?_⟩;cases c:m.yes with
  |true=>exact⟨_,_,rfl⟩
  |false=>exact⟨_,_,rfl⟩
 |none=>
  dsimp only;cases e:aM s.log 3 m.tx with
  |some d=>
   dsimp only;by_cases a:(d:Int)<s.aE
   .rw[aJ a];exact .inl ⟨d,rfl,rfl,.inl ⟨a,rfl⟩⟩
   .grind
  |none=>
   dsimp only;split
   .grind
   .exact .inr<|.inr ⟨rfl,s.bX,s.aQ,rfl⟩
theorem gQ(s:ShR)(m:MsgR):(m.kind=1/\cm s m=gZ s m)\/(m.kind=2/\cm s m=eN s m)\/(m.kind=3/\cm s m=kO s m)\/(m.kind=4/\cm s m=fY s m)\/(m.kind=5/\cm s m=qj s m)\/(m.kind=6/\cm s m=pE s m)\/((m.kind<1\/6<m.kind)/\cm s m=s):=by
 unfold cm;by_cases h1:m.kind=1
 .rw[aJ h1];exact .inl ⟨h1,rfl⟩
 rw[ax h1];by_cases a:m.kind=2
 .grind
 grind
def cost(r:RecR):Nat:=if r.kind=1 then 10 else if r.kind=2 then 9 else 1
def aa4(s:ShR)(m:MsgR)(s':ShR):Prop:=s'.aE=s.aE/\∃ o w,s'.out=s.out++o/\s'.waits=s.waits++w/\ws o+ws w+1<=wt m/\((s'.log=s.log/\w=[])\/∃ x,s'.log=s.log++[x]/\ws w<=cost x)
theorem aa4.id(s:ShR)(m:MsgR):aa4 s m s:=⟨rfl,[],[],by simp,by simp,by have:=Kp m;simp[ws];omega,.inl ⟨rfl,rfl⟩⟩
theorem M5{l:List Int}{f:Int->MsgR}{c:Nat}(h:∀ k,wt (f k)=c):ws (l.flatMap λk=>[f k])=c*l.length:=by
 induction l with
 |nil=>rfl
 |cons k l a=>grind [tC,FF,List.length_cons]
theorem OH(s:ShR)(m:MsgR)(l:s.n<=4):aa4 s m (cm s m):=by
 have g:∀ O,(OG O s.n).length<=4:=λO=>GJ WU ai;rcases gQ s m with⟨b,e⟩|⟨b,e⟩|⟨b,e⟩|⟨b,e⟩|⟨b,e⟩|⟨b,e⟩|⟨b,e⟩<;>rw[e]
 .have a:wt m=45:=by unfold wt;simp[b]
  by_cases f:(aM s.log 2 m.tx).isSome=true\/(bP s.under m.tx).isSome=true
  .rcases kE f with⟨d,r,_,_,_,e⟩|⟨e,_⟩<;>rw[e]
   .exact⟨rfl,_,[],rfl,by simp,by rw[a];simp[ws,wt],.inl ⟨rfl,rfl⟩⟩
   .exact .id s m
  .simp only[not_or,L4,L5,L6]at f;rw[kD f.1 f.2];refine⟨rfl,_,[],rfl,by simp,?_,.inl ⟨rfl,rfl⟩⟩;unfold BK;rw[M5 (c:=11) (λk=>by simp[wt]),a,x8];have:=g m.ops;omega
 .have a:wt m=11:=by unfold wt;simp[b]
  rcases nl (s:=s) (m:=m)with⟨i,rd,_,_,e⟩|⟨i,_,_,e⟩|⟨d,r,_,_,_,e⟩|e|⟨_,_,rd,h,e⟩<;>rw[e]
  .exact⟨rfl,_,[],rfl,by simp,by rw[a];simp[ws,wt],.inl ⟨rfl,rfl⟩⟩
  .exact .id s m
  .exact .id s m
  .exact⟨rfl,_,[],rfl,by simp,by rw[a];simp[ws,wt],.inl ⟨rfl,rfl⟩⟩
  .exact⟨rfl,[],_,by simp,rfl,by rw[a];simp[ws,wt],.inr ⟨_,rfl,by simp[ws,wt,cost]⟩⟩
 .have a:wt m=10:=by unfold wt;simp[b]
  rcases oD (s:=s) (m:=m)with⟨e,_⟩|⟨i,u,_,_,_,_,⟨_,_,e⟩|⟨_,rd,e⟩⟩<;>rw[e]
  .exact .id s m
  .exact⟨rfl,[],[],by simp,by simp,by rw[a];simp[ws],.inl ⟨rfl,rfl⟩⟩
  .have j:ws (uB s.me s.n m.tx m.yes (gI u m).ops++[{bA with kind:=7,aX:=s.me,to:= -1,tx:=m.tx,yes:=m.yes,reads:=rd}])<=9:=by
    rw[tC,FF];unfold uB;rw[M5 (c:=2) (λk=>by simp[wt])]
    grind [gI,wt]
   exact⟨rfl,[],_,by simp,rfl,by rw[a,x8];omega,.inr ⟨_,rfl,by simpa[cost]using j⟩⟩
 .have a:wt m=2:=by unfold wt;simp[b]
  rcases mU (s:=s) (m:=m)with⟨d,_,_,⟨_,e⟩|⟨_,e⟩⟩|⟨_,_,_,e⟩|⟨_,vl,h,e⟩<;>rw[e]
  .exact⟨rfl,_,[],rfl,by simp,by rw[a];simp[ws,wt],.inl ⟨rfl,rfl⟩⟩
  .exact .id s m
  .exact .id s m
  .exact⟨rfl,[],_,by simp,rfl,by rw[a];simp[ws,wt],.inr ⟨_,rfl,by simp[ws,wt,cost]⟩⟩
 .have a:wt m=1:=by unfold wt;simp[b]
  rcases q8 (s:=s) (m:=m)with⟨e,_⟩|⟨i,u,_,_,_,_,⟨_,e⟩|⟨_,e⟩⟩<;>rw[e]
  .exact .id s m
  .exact⟨rfl,[],[],by simp,by simp,by rw[a];simp[ws],.inl ⟨rfl,rfl⟩⟩
  .exact⟨rfl,[],[],by simp,by simp,by rw[a];simp[ws],.inl ⟨rfl,rfl⟩⟩
 .have a:wt m=3:=by unfold wt;simp[b]
  rcases q9 (s:=s) (m:=m)with⟨d,r,_,_,_,e⟩|⟨d,_,_,e⟩|⟨_,_,e⟩|⟨_,_,e⟩<;>rw[e]
  .exact⟨rfl,_,[],rfl,by simp,by rw[a];simp[ws,wt],.inl ⟨rfl,rfl⟩⟩
  .exact .id s m
  .exact .id s m
  .exact⟨rfl,[],_,by simp,rfl,by rw[a];simp[ws,wt],.inr ⟨_,rfl,by simp[ws,wt,cost]⟩⟩
 .exact .id s m
inductive rO(w:WR):WR->Prop
 |same:rO w w
 |push (m:MsgR):w.aH.length<400->(m∈w.aH\/m.kind=1)->rO w {w with aH:=w.aH++[m]}
 |drop (i:Nat):rO w {w with aH:=w.aH.eraseIdx i}
 |xa (i:Nat) (m:MsgR):w.aH[i]? =some m->m.to= -1->rO w (jV {w with aH:=w.aH.eraseIdx i} m)
 |take (i:Nat) (m:MsgR) (s:ShR):w.aH[i]? =some m->0<=m.to->w.sh[m.to.toNat]? =some s->s.up=true->rO w (gf {w with aH:=w.aH.eraseIdx i} m.to.toNat (cm s m))
 |sync (a:Nat) (s:ShR):w.sh[a]? =some s->s.up=true->rO w (gf w a (kH s))
 |tick (a:Nat) (s:ShR):w.sh[a]? =some s->s.up=true->w.aH.length<=150->rO w (gf w a (dv s))
 |rN (a:Nat) (s:ShR) (k:Int):w.sh[a]? =some s->s.up=true->rO w (gf w a (gb s k))
 |iC (a:Nat) (s:ShR):w.sh[a]? =some s->s.up=false->rO w {w with sh:=w.sh.set a (cD s)}
theorem OI(w:WR)(i:∀ m∈w.aH, -1<=m.to)(k a b:Int):rO w (eV w k a b).1:=by
 generalize c:eV w k a b=x;unfold eV at c;split at c
 .subst c;exact .same
 split at c
 .subst c;exact .same
 split at c
 .split at c
  .subst c;exact .same
  split at c
  .subst c;exact .same
  .rename_i j;subst c;unfold ic;split
   .exact .same
   .exact .push _ ai<|.inr rfl
 split at c
 .unfold fE at c;split at c
  .subst c;exact .same
  .split at c
   .subst c;exact .same
   .rename_i m e;have g:=bD e;split at c
    .split at c
     .subst c;exact .same
     .subst c;exact .push m ai<|.inl g
    .dsimp only at c;split at c
     .subst c;exact .drop _
     .split at c
      .rename_i h;subst c;exact .xa _ m e h
      .rename_i h;have:=i m g;split at c
       .subst c;exact .drop _
       .rename_i s hs;split at c
        .rename_i d;subst c;exact .take _ m s e ai hs d
        .subst c;exact .drop _
 split at c
 .subst c;exact .same
 split at c
 .subst c;exact .same
 .rename_i s hs;split at c
  .split at c
   .subst c;exact .same
   .rename_i d;subst c;exact .iC _ s hs<|by simpa using d
  split at c
  .subst c;exact .same
  rename_i d;have f:s.up=true:=by simpa using d
  split at c
  .subst c;exact .sync _ s hs f
  split at c
  .split at c
   .subst c;exact .same
   .rename_i j;subst c;exact .tick _ s hs f ai
  .subst c;exact .rN _ s b hs f
def H6(s:ShR)(tx:Int):Bool:=match aM s.log 2 tx with|some d=>decide ((d:Int)<s.aE)|none=>decide (-1<s.aE)
def xf(s:ShR)(u:dS)(tx k:Int)(p:List bO)(me:Int):List MsgR:=
 if !u.dec&& !(bJ u k).isSome then[{bA with kind:=2,aX:=me,to:=k,tx:=tx,ops:=p}]
 else if u.dec&&H6 s tx&& !u.cf.contains k then[{bA with kind:=4,aX:=me,to:=k,tx:=tx,yes:=u.yes}]else[]
def ra(s:ShR)(u:dS)(tx:Int):List MsgR:=(OG u.ops s.n).flatMap λk=>xf s u tx k (br u.ops k s.n) s.me
def nI(s:ShR)(t:dU):Option (List MsgR×dU):=
 if t.again then(bP s.under t.tx).bind λi=>(s.under[i]?).map λu=>(ra s u t.tx,⟨s.clock+4,true,t.tx⟩)
 else(aL s.log t.tx).map λr=>([{bA with kind:=6,aX:=s.me,to:=(s.log[r]?.getD dz).home,tx:=t.tx}],⟨s.clock+3,false,t.tx⟩)
theorem xg(s:ShR)(t:dU):lF s t=match nI s t with|none=>s|some (o,x)=>{s with out:=s.out++o,timers:=s.timers++[x]}:=by
 unfold lF nI;cases d:t.again with
 |false=>
  simp only[NR,fq,fW,eQ];cases e:aL s.log t.tx with
  |none=>rfl
  |some r=>rfl
 |true=>
  simp only[uX,fW,eQ,fq];cases b:bP s.under t.tx with
  |none=>rfl
  |some i=>
   obtain⟨u,c,g⟩:=lq b;dsimp only[Option.bind];rw[c];dsimp only[Option.map];exact congrArg (λa:ShR=>({a with timers:=a.timers++[⟨a.clock+4,true,t.tx⟩]}:ShR)) (Es (f:=λz k p=>
     if(!u.dec&& !(bJ u k).isSome)=true then ee z {bA with kind:=2,to:=k,tx:=t.tx,ops:=p}
     else if(u.dec&&(H6 s t.tx)&& !u.cf.contains k)=true then ee z {bA with kind:=4,to:=k,tx:=t.tx,yes:=u.yes}
     else z) (h:=λk p me=>xf s u t.tx k p me) (λz k p=>by
      unfold xf;dsimp only;split
      .rfl
      split
      .rfl
      .simp) s)
theorem WW{t:dU}{o:List MsgR}(h:nI s t=some (o,x)):lF s t={s with out:=s.out++o,timers:=s.timers++[x]}:=by rw[xg,h]
def vg(s z:ShR):Prop:=z.me=s.me/\z.n=s.n/\z.up=s.up/\z.log=s.log/\z.aE=s.aE/\z.bX=s.bX/\z.aQ=s.aQ/\z.under=s.under/\z.waits=s.waits/\z.clock=s.clock
theorem vg.refl(s:ShR):vg s s:=⟨rfl,rfl,rfl,rfl,rfl,rfl,rfl,rfl,rfl,rfl⟩
theorem vg.trans{a b c:ShR}(h:vg a b)(k:vg b c):vg a c:=by obtain⟨h1,e,f,g,i,j,l,m,n,o⟩:=h;obtain⟨k1,k2,p,q,r,s,t,u,v,d⟩:=k;exact⟨k1.trans h1,k2.trans e,p.trans f,q.trans g,r.trans i,s.trans j,t.trans l,u.trans m,v.trans n,d.trans o⟩
theorem uC(h:vg s z)(t:dU):nI z t=nI s t:=by obtain⟨h1,a,f,b,c,g,i,d,j,e⟩:=h;unfold nI ra xf H6;rw[h1,a,b,c,d,e]
theorem OJ(s:ShR)(t:dU):vg s (lF s t)/\(∀ m∈s.out,m∈(lF s t).out)/\∀ x∈s.timers,x∈(lF s t).timers:=by
 rw[xg];split
 .exact⟨.refl s,λm h=>h,λx h=>h⟩
 .exact⟨⟨rfl,rfl,rfl,rfl,rfl,rfl,rfl,rfl,rfl,rfl⟩,λm h=>iq _ h,λx h=>iq _ h⟩
def afd(s z:ShR)(t:dU):Prop:=∀ o x,nI s t=some (o,x)->(∀ m∈o,m∈z.out)/\x∈z.timers
theorem M6{c:Int}:∀ (l:List dU) (i:Nat) (a:Option (Nat×dU)),mD c l i a=none->a=none/\∀ t∈l,c<t.tm
 |[],_,a,h=>⟨h,λt b=>by cases b⟩
 |x::l,i,a,h=>by
  unfold mD at h;obtain⟨h1,d⟩:=M6 l (i+1) _ h;cases a with
  |some p=>grind
  |none=>grind
theorem FO{c:Int}:∀ (l:List dU) (i:Nat) (a:Option (Nat×dU)),(∀ p,a=some p->p.2.tm<=c)->∀ p,mD c l i a=some p->p.2.tm<=c
 |[],_,a,b,p,h=>b p h
 |x::l,i,a,b,p,h=>by
  unfold mD at h;refine FO l (i+1) _ (λq d=>?_) p h;generalize e:(decide (x.tm<=c)&&_)=z at d;cases z with
  |true=>grind
  |false=>exact b q d
theorem rb{p:dU->Bool}:∀ {l:List dU} {k:Nat} {x:dU},l[k]? =some x->p x=true->((l.eraseIdx k).filter p).length+1=(l.filter p).length
 |a::l,0,x,h,hp=>by grind
 |a::l,k+1,x,h,hp=>by
  have b:=rb (l:=l) (k:=k) (by simpa using h) hp
  grind
theorem mg{l:List A}{k:Nat}{x y:A}(h:l[k]? =some x)(a:y∈l):y=x\/y∈l.eraseIdx k:=by grind [List.mem_iff_getElem?,List.mem_eraseIdx_iff_getElem?]
theorem yi{t:dU}{o:List MsgR}(h:nI s t=some (o,x)):s.clock<x.tm/\x.again=t.again/\x.tx=t.tx/\x.tm<=s.clock+4/\(x.again=false->x.tm<=s.clock+3):=by grind [nI,Option.bind_eq_some_iff,Option.map_eq_some_iff]
structure Tn(s z:ShR):Prop where
 same:vg s z
 late:∀ t∈z.timers,z.clock<t.tm
 keep:∀ t∈s.timers,s.clock<t.tm->t∈z.timers
 H7:∀ t∈s.timers,t.tm<=s.clock->afd s z t
 M7:∀ m∈z.out,m∈s.out\/∃ t o x,nI s t=some (o,x)/\m∈o
 out:∀ m∈s.out,m∈z.out
theorem To:∀ (f:Nat) (s:ShR),xW s<f->Tn s (eG f s)
 |0,s,h=>absurd h<|Au _
 |f+1,s,h=>by
  unfold eG;cases d:mD s.clock s.timers 0 none with
  |none=>
   obtain⟨_,q⟩:=M6 _ _ _ d;exact⟨.refl s,q,λt a _=>a,λt a hl=>by have:=q t a;omega,λm hm=>.inl hm,λm hm=>hm⟩
  |some p=>
   obtain⟨k,x⟩:=p;dsimp only;have g:=z9 s.timers 0 none (L:=s.timers) (by simp) rfl _ d;have i:=FO s.timers 0 none (by simp) _ d;dsimp only at g i;have j:vg s {s with timers:=s.timers.eraseIdx k}:=⟨rfl,rfl,rfl,rfl,rfl,rfl,rfl,rfl,rfl,rfl⟩;obtain⟨o1,o2,r⟩:=OJ {s with timers:=s.timers.eraseIdx k} x;have h1:=j.trans o1;have u:xW (lF {s with timers:=s.timers.eraseIdx k} x)<f:=by
    have e1:xW {s with timers:=s.timers.eraseIdx k}+1=xW s:=by grind [xW,rb]
    have e2:xW (lF {s with timers:=s.timers.eraseIdx k} x)=xW {s with timers:=s.timers.eraseIdx k}:=by
     rw[xg];split
     .rfl
     .rename_i o y hm;have hl:=(yi hm).1
      grind [xW]
    omega
   have b:=To f _ u;refine⟨h1.trans b.same,b.late,λt a l=>?_,λt a l=>?_,λm hm=>?_,λm hm=>b.out m<|o2 m hm⟩
   .rcases mg g a with rfl|a
    .omega
    .exact b.keep t (r t a) (by rw[h1.2.2.2.2.2.2.2.2.2];exact l)
   .rcases mg g a with rfl|a
    .intro o y hm;have c:nI {s with timers:=s.timers.eraseIdx k} t=some (o,y):=by rw[uC j];exact hm
     have e:=WW c;refine⟨λm n=>b.out m (by rw[e];exact fD _ n),b.keep y (by rw[e];exact fD _<|dR.2 rfl) ?_⟩;rw[h1.2.2.2.2.2.2.2.2.2];exact(yi hm).1
    .intro o y hm;exact b.H7 t (r t a) (by rw[h1.2.2.2.2.2.2.2.2.2];exact l) o y (by rw[uC h1];exact hm)
   .rcases b.M7 m hm with hm|⟨t,o,y,v,n⟩
    .rw[xg]at hm;split at hm
     .exact .inl hm
     .rename_i o y c;rcases bS.1 hm with hm|hm
      .exact .inl hm
      .exact .inr ⟨x,o,y,by rw[<- uC j];exact c,hm⟩
    .exact .inr ⟨t,o,y,by rw[<- uC h1];exact v,n⟩
theorem dO(s:ShR):Tn {s with clock:=s.clock+1} (dv s):=To _ _<|Nat.lt_succ_self _
theorem yj{t:dU}{o:List MsgR}(h:nI s t=some (o,x)):∀ m∈o,wt m<=11/\(m.kind=2\/m.kind=4\/m.kind=6)/\(t.again=false->m.kind=6):=by grind [nI,Option.bind_eq_some_iff,Option.map_eq_some_iff,ra,xf,List.mem_singleton,wt]
def FP(s:ShR):Prop:=ws s.waits<=((s.log.drop s.aE.toNat).map cost).sum
theorem tI(s:ShR):(cD s).waits=[]:=by obtain⟨_,_,_,a,_⟩:=ni s.log s.log.length<|bY {s with up:=true};exact a
theorem FP.step(st:ku w s s')(b:s.n<=4)(c:0<=s.aE/\s.aE<=s.log.length)(h:FP s):FP s':=by
 cases st with
 |same=>exact h
 |take m d e a=>
  obtain⟨e1,o,x,e2,f,g,i⟩:=OH s m b
  grind [FP,ws,cm,cost]
 |sync a=>exact fp _
 |tick a=>
  obtain⟨_,_,_,j,l,_,_,_,n,_⟩:=(dO s).same
  grind [FP,ws,dv,cost]
 |rN k a=>exact fp _
 |iC a=>
  unfold FP;rw[tI];exact fp _
theorem Tp{l:List RecR}(h:∀ r∈l,1<=r.kind/\r.kind<=3):(l.map cost).sum=10*(l.filter λr=>r.kind==1).length+9*(l.filter λr=>r.kind==2).length+(l.filter λr=>r.kind==3).length:=by
 induction l with
 |nil=>rfl
 |cons r l a=>
  have a:=a λx b=>h x<|fg _ b
  grind [cost]
theorem Tq(l:List RecR)(g:Nat):((l.drop g).map cost).sum<=(l.map cost).sum:=by
 conv=>rhs;rw[<- wj g l,eW,List.sum_append]
 omega
def OK(l:List ShR):List Int:=l.flatMap λs=>(s.log.filter λr=>r.kind==2).map (·.tx)
theorem BL{H:Int->Int}:∀ {l:List ShR} {b:Nat},(∀ (i:Nat) s,l[i]? =some s->((s.log.filter λr=>r.kind==2).map (·.tx)).Nodup/\∀ r∈s.log,r.kind=2->H r.tx=((b+i:Nat):Int))->(OK l).Nodup
 |[],_,_=>.nil
 |s::l,b,h=>by
  obtain⟨h1,f⟩:=h 0 s rfl;unfold OK;rw[GK,jc];refine⟨h1,BL (H:=H) (b:=b+1) λi z a=>?_,?_⟩
  .obtain⟨a1,u⟩:=h (i+1) z<|by simpa using a
   grind
  .intro x g y j e;subst e;obtain⟨r,m,rfl⟩:=cq.1 g;obtain⟨z,a,c⟩:=E5.1 j;obtain⟨q,c,e⟩:=cq.1 c;obtain⟨n,o⟩:=gW.1 m;obtain⟨d,p⟩:=gW.1 c;obtain⟨k,t⟩:=eX.1 a;have e1:=f r n (by simpa using o);have e2:=(h (k+1) z<|by simpa using t).2 q d (by simpa using p);rw[e,e1]at e2;omega
theorem Et{B:ShR->Nat}:∀ {l:List ShR},(∀ s∈l,ws s.waits<=660+9*B s)->jN l<=660*l.length+9*(l.map B).sum
 |[],_=>by simp[jN]
 |s::l,h=>by
  have b:=Et (B:=B) (l:=l) λz a=>h z<|fg _ a
  grind [jN]
theorem H9:∀ l:List ShR,(OK l).length=(l.map λs=>(s.log.filter λr=>r.kind==2).length).sum
 |[]=>rfl
 |s::l=>by unfold OK;rw[GK,iV,jq,List.sum_cons,eM];have:=H9 l;unfold OK at this;rw[this]
theorem WF.jN{w:WR}(F:WF W w G)(V:kJ t w)(K:∀ s∈w.sh,FP s):jN w.sh<=3180:=by
 have q:∀ tx,(opsOf (cy w.aC) tx).isSome=true->0<=tx/\tx<60:=λtx h=>by obtain⟨O,h⟩:=oM.1 h;have h1:=ie h;have m:=F.rel.tok.2;omega
 have h1:=Et (l:=w.sh) (B:=λs=>(s.log.filter λr=>r.kind==2).length) λs hs=>by
  obtain⟨i,hi⟩:=eX.1 hs;obtain⟨P,R,n,d,a,_⟩:=F.rel.eI i (dd.1 hi).1;rw[hi]at d;injection d with d;subst d
  have e:=a.tA.keys F.rel.tok (by rw[a.log];exact(V.sh s hs).nd);rw[a.log]at e;have a1:(s.log.filter λr=>r.kind==1).length<=60:=by
   have g:=q7 (p:=λr=>r.kind==1) (l:=s.log) λi j r r' x y z u v=>a.tA.S9 (by rw[a.log];exact x) (by rw[a.log];exact y) (by simpa using z) (by simpa using u) v;have:=iO (c:=60) g λx f=>by grind
   rw[eM]at this;exact this
  have A:(s.log.filter λr=>r.kind==3).length<=60:=by
   have g:=q7 (p:=λr=>r.kind==3) (l:=s.log) λi j r r' x y z u v=>a.tA.aaV (by rw[a.log];exact x) (by rw[a.log];exact y) (by simpa using z) (by simpa using u) v;have:=iO (c:=60) g λx f=>by grind
   rw[eM]at this;exact this
  have b1:ws s.waits<=_:=K s hs
  grind [Tq,Tp]
 have m:(OK w.sh).length<=60:=by
  refine iO (BL (H:=kI w) (b:=0) λi s hi=>⟨(V.sh s<|bD hi).nd,λr k e=>?_⟩) λx f=>?_
  .obtain⟨j,o⟩:=eX.1 k;have:=(F.xJ.sh i s hi).1.e.hm j r o e;rw[this,(F.xJ.sh i s hi).2.1,lR]
  .obtain⟨s,hs,f⟩:=E5.1 f;obtain⟨r,k,rfl⟩:=cq.1 f;obtain⟨i,hi⟩:=eX.1 hs;obtain⟨P,R,n,d,a,_⟩:=F.rel.eI i (dd.1 hi).1;rw[hi]at d;injection d with d;subst d
   have e:=a.tA.keys F.rel.tok (by rw[a.log];exact(V.sh s hs).nd);rw[a.log]at e;exact(e.2 r (gW.1 k).1).2
 rw[H9]at m;have:=F.rel.n;omega
def phi(w:WR):Nat:=ws w.aH+jN w.sh
theorem oE(w:WR)(m:MsgR):(jV w m).aH=w.aH:=by rw[ng]
theorem FQ{c:Nat}:∀ {l:List MsgR},(∀ m∈l,wt m<=c)->ws l<=c*l.length
 |[],_=>fp _
 |m::l,h=>by
  have e:ws (m::l)=wt m+ws l:=by simp[ws]
  have h1:=h m<|fX ..;have b:=FQ (c:=c) λx a=>h x<|fg _ a;rw[e,nN,Nat.mul_add];omega
theorem yY(l:List MsgR)(i:Nat):ws (l.eraseIdx i)<=ws l:=by
 rcases lP i l.length with h|h
 .have:=qu<|cQ h;omega
 .grind [List.eraseIdx_of_length_le]
theorem Tr{w:WR}(F:WF W w G)(V:kJ t w)(K:∀ s∈w.sh,FP s)(st:rO w w')(h:phi w<=21180):phi w'<=21180:=by
 have hs:=F.jN V K;have v:=F.rel.n;have d:∀ {a:Nat} {s:ShR},w.sh[a]? =some s->s.out=[]/\s.n<=4/\s.timers.length<=120/\l6 t s:=λ{a s} f=>by obtain⟨z,_,_,e1,e2⟩:=V.size F.rel<|bD f;exact⟨e2,ai,z.timers,V.sh s<|bD f⟩
 cases st with
 |same=>exact h
 |push m g c=>
  have h1:=vf<|w.aH++[m];rw[iV,iR]at h1;show ws (w.aH++[m])+jN w.sh<=21180;omega
 |drop i=>grind [yY,phi,ws,jN]
 |xa i m c A=>grind [yY,phi,oE,fS,ws,jN]
 |take i m s c B b e=>
  obtain⟨o1,o2,_,_⟩:=d b;obtain⟨_,o,x,e2,j,C,_⟩:=OH s m o2;have h1:=ks {cm s m with out:=[]} b;have l:=qu c;unfold phi at h⊢;show ws (w.aH.eraseIdx i++(cm s m).out)+jN (w.sh.set m.to.toNat {cm s m with out:=[]})<=21180
  grind [ws,cm]
 |sync a s b e=>
  obtain⟨o1,o2,_,_⟩:=d b;have h1:=ks {kH s with out:=[]} b;unfold phi at h⊢;show ws (w.aH++(s.out++s.waits))+jN (w.sh.set a {kH s with out:=[]})<=21180
  grind [ws,kH]
 |tick a s b e g=>
  obtain⟨o1,o2,n,p⟩:=d b;have h1:=ks {dv s with out:=[]} b;obtain⟨_,o,e1,e2,j⟩:=wZ p o2 n;have l:=vf w.aH;have q:ws (dv s).out<=11*(dv s).out.length:=FQ λm c=>by
   rcases(dO s).M7 m c with c|⟨t,o,y,r,u⟩
   .grind
   .exact(yj r m u).1
  rw[e1,o1,ek]at q;unfold phi at h⊢;show ws (w.aH++(dv s).out)+jN (w.sh.set a {dv s with out:=[]})<=21180
  grind [ws,dv]
 |rN a s k b e=>
  obtain⟨o1,o2,_,_⟩:=d b;have h1:=ks {gb s k with out:=[]} b;unfold phi at h⊢;show ws (w.aH++s.out)+jN (w.sh.set a {gb s k with out:=[]})<=21180;rw[o1,lS];have D:ws ({gb s k with out:=[]}:ShR).waits=0:=rfl;omega
 |iC a s b e=>
  grind [ks,cD,phi,ws,jN,tI,MsgR]
structure ShT(s:ShR):Prop where
 t1:s.up=true->∀ u∈s.under,∃ t∈s.timers,t.again=true/\t.tx=u.tx/\t.tm<=s.clock+4
 t2:s.up=true->∀ tx i,aL s.log tx=some i->∃ t∈s.timers,t.again=false/\t.tx=tx/\t.tm<=s.clock+3
 t3:∀ t∈s.timers,s.clock<t.tm
 v:∀ u∈s.under,u.dec=false->gP s.n u.ops (λk=>(bJ u k).isSome)=false
 a:∀ u∈s.under,u.dec=true->gP s.n u.ops (λk=>u.cf.contains k)=false
 a0:∀ u∈s.under,u.dec=false->u.cf=[]
 w1:∀ (i:Nat) r,s.log[i]? =some r->s.aE<=i->r.kind=1->∃ m∈s.waits,m.kind=3/\m.tx=r.tx/\m.aX=s.me/\m.yes=true
 w3:∀ (i:Nat) r,s.log[i]? =some r->s.aE<=i->r.kind=3->∃ m∈s.waits,m.kind=5/\m.tx=r.tx/\m.aX=s.me
 wk:∀ m∈s.waits,m.kind=3\/m.kind=4\/m.kind=5\/m.kind=7
 dn:s.up=false->s.aE=s.log.length/\s.under=[]/\s.waits=[]
theorem ShT.new{n:Int}:ShT (iS k n):=by
 refine⟨λ_ u a=>?_,λ_ tx i h=>?_,λt b=>?_,λu a=>?_,λu a=>?_,λu a=>?_,λi r h=>?_,λi r h=>?_,λm c=>?_,λh=>?_⟩
 .cases a
 .simp[iS,bY,aL,aM,findD]at h
 .cases b
 .cases a
 .cases a
 .cases a
 .simp[iS,bY]at h
 .simp[iS,bY]at h
 .cases c
 .cases h
theorem BM{n:Int}(hr:gw O)(a:0<n){p:Int->Bool}(hp:∀ k,p k=false):gP n O p=false:=by
 cases h:gP n O p with
 |false=>rfl
 |true=>
  have b:O≠[]:=λe=>by have:=hr.2.2.1;rw[e]at this;simp at this
  have:=(mR hr a).1 h _<|nb (n:=n) b;rw[hp]at this;cases this
theorem ShT.more{s z:ShR}(h:ShT s)(h1:z.up=s.up)(d:z.log=s.log)(f:z.aE=s.aE)(e:z.waits=s.waits)(c:z.under=s.under)(k:z.clock=s.clock)(l:z.me=s.me)(m:z.n=s.n)(ht:∀ t∈s.timers,t∈z.timers)(hl:∀ t∈z.timers,z.clock<t.tm):ShT z:=by
 refine⟨?_,?_,hl,?_,?_,?_,?_,?_,?_,?_⟩
 .rw[h1,c,k];exact λg u j=>by obtain⟨t,a,b⟩:=h.t1 g u j;exact⟨t,ht t a,b⟩
 .rw[h1,d,k];exact λg tx i j=>by obtain⟨t,a,b⟩:=h.t2 g tx i j;exact⟨t,ht t a,b⟩
 .rw[c,m];exact h.v
 .rw[c,m];exact h.a
 .rw[c];exact h.a0
 .rw[d,f,e,l];exact h.w1
 .rw[d,f,e,l];exact h.w3
 .rw[e];exact h.wk
 .rw[h1,d,f,e,c];exact h.dn
theorem ShT.out(h:ShT s)(o:List MsgR):ShT {s with out:=o}:=h.more rfl rfl rfl rfl rfl rfl rfl rfl (λt a=>a) h.t3
theorem ShT.wrote{s:ShR}(h:ShT s)(n:s.up=true)(x:RecR)(w:List MsgR){U:List dS}{Ti:List dU}{vl:List Int}{lk:List kh}
  (A:s.aE<=s.log.length) (e:∀ u∈U,(∃ f∈s.under,f.tx=u.tx)/\(u.dec=false->gP s.n u.ops (λk=>(bJ u k).isSome)=false)/\(u.dec=true->gP s.n u.ops (λk=>u.cf.contains k)=false)/\(u.dec=false->u.cf=[]))
  (o:∀ t∈s.timers,t∈Ti) (g:∀ t∈Ti,s.clock<t.tm) (B:x.kind=1->∃ t∈Ti,t.again=false/\t.tx=x.tx/\t.tm<=s.clock+3)
  (h1:x.kind=1->∃ m∈w,m.kind=3/\m.tx=x.tx/\m.aX=s.me/\m.yes=true) (C:x.kind=3->∃ m∈w,m.kind=5/\m.tx=x.tx/\m.aX=s.me) (q:∀ m∈w,m.kind=3\/m.kind=4\/m.kind=5\/m.kind=7):
  ShT {s with log:=s.log++[x],waits:=s.waits++w,under:=U,timers:=Ti,bX:=vl,aQ:=lk}:=by
 refine⟨λ_ u c=>?_,λ_ tx i v=>?_,g,λu c=>(e u c).2.1,λu c=>(e u c).2.2.1,λu c=>(e u c).2.2.2,λi r hi j l=>?_,λi r hi j l=>?_,λm hm=>?_,λD=>?_⟩
 .obtain⟨⟨f,a,b⟩,_⟩:=e u c;obtain⟨t,t1,t2,t3,y⟩:=h.t1 n f a;exact⟨t,o t t1,t2,t3.trans b,y⟩
 .have d:aL (s.log++[x]) tx=some i:=v;rw[oW]at d;by_cases p:isRec 3 tx x=true
  .rw[aJ p]at d;cases d
  .rw[ax p]at d;by_cases z:isRec 1 tx x=true
   .grind [isRec]
   .rw[ax z]at d;obtain⟨t,t1,t2⟩:=h.t2 n tx i d;exact⟨t,o t t1,t2⟩
 .rcases kZ hi with hi|⟨_,rfl⟩
  .obtain⟨m,a,b⟩:=h.w1 i r hi j l;exact⟨m,iq _ a,b⟩
  .grind
 .rcases kZ hi with hi|⟨_,rfl⟩
  .obtain⟨m,a,b⟩:=h.w3 i r hi j l;exact⟨m,iq _ a,b⟩
  .grind
 .rcases bS.1 hm with hm|hm
  .exact h.wk m hm
  .exact q m hm
 .grind
theorem ShT.cr{s:ShR}(h:ShT s)(f:s.up=true){U:List dS}(d:∀ u∈U,(∃ e∈s.under,e.tx=u.tx)/\(u.dec=false->gP s.n u.ops (λk=>(bJ u k).isSome)=false)/\(u.dec=true->gP s.n u.ops (λk=>u.cf.contains k)=false)/\(u.dec=false->u.cf=[])):ShT {s with under:=U}:=by
 refine⟨λ_ u c=>?_,h.t2,h.t3,λu c=>(d u c).2.1,λu c=>(d u c).2.2.1,λu c=>(d u c).2.2.2,h.w1,h.w3,h.wk,λi=>?_⟩
 .obtain⟨⟨e,a,b⟩,_⟩:=d u c;obtain⟨t,t1,t2,t3,g⟩:=h.t1 f e a;exact⟨t,t1,t2,t3.trans b,g⟩
 .grind
theorem ShT.self{s:ShR}(h:ShT s):∀ u∈s.under,(∃ b∈s.under,b.tx=u.tx)/\(u.dec=false->gP s.n u.ops (λk=>(bJ u k).isSome)=false)/\(u.dec=true->gP s.n u.ops (λk=>u.cf.contains k)=false)/\(u.dec=false->u.cf=[]):=
 λu a=>⟨⟨u,a,rfl⟩,h.v u a,h.a u a,h.a0 u a⟩
theorem Ia(h:(bJ u k).isSome=true):(bJ (gI u m) k).isSome=true:=by grind [gI,bJ]
theorem OM(h:m.yes=true):(bJ (gI u m) m.aX).isSome=true:=by grind [gI,bJ]
theorem yZ{me n:Int}{yes:Bool}{O:List bO}:m∈uB me n tx yes O↔∃ k∈OG O n,m={bA with kind:=4,aX:=me,to:=k,tx:=tx,yes:=yes}:=by grind [uB]
theorem ShT.take{n:Int}(h:ShT s)(j:s.up=true)(C:vd T)(D:0<n)(R:dA T n P s)(hm:jM T n m):ShT (cm s m):=by
 have v:=R.gl.2;have E:s.n=n:=R.n2;have g:∀ t∈s.timers,t∈s.timers:=λt f=>f;rcases gQ s m with⟨l,e⟩|⟨l,e⟩|⟨l,e⟩|⟨l,e⟩|⟨l,e⟩|⟨l,e⟩|⟨l,e⟩<;>rw[e]
 .by_cases w:(aM s.log 2 m.tx).isSome=true\/(bP s.under m.tx).isSome=true
  .rcases kE w with⟨d,r,_,_,_,e⟩|⟨e,_⟩<;>rw[e]
   .exact h.out _
   .exact h
  .simp only[not_or,L4,L5,L6]at w;rw[kD w.1 w.2];obtain⟨O,y,M⟩:=hm;have I:m.ops=O:=by grind
   have p:=C.of y;refine⟨λ_ u hu=>?_,λ_ tx i p=>?_,λt f=>?_,λu hu=>?_,λu hu=>?_,λu hu=>?_,h.w1,h.w3,h.wk,λq=>?_⟩
   .rcases bS.1 hu with hu|hu
    .obtain⟨t,a,b⟩:=h.t1 j u hu;exact⟨t,iq _ a,b⟩
    .rw[dR.1 hu];exact⟨_,fD _<|dR.2 rfl,rfl,rfl,mI _⟩
   .obtain⟨t,a,b⟩:=h.t2 j tx i p;exact⟨t,iq _ a,b⟩
   .rcases bS.1 f with f|f
    .exact h.t3 t f
    .grind
   .rcases bS.1 hu with hu|hu
    .exact h.v u hu
    .rw[dR.1 hu];intro _;show gP s.n m.ops _=false;rw[E,I];exact BM p D λk=>rfl
   .rcases bS.1 hu with hu|hu
    .exact h.a u hu
    .grind
   .rcases bS.1 hu with hu|hu
    .exact h.a0 u hu
    .rw[dR.1 hu];intro z;rfl
   .grind
 .rcases nl (s:=s) (m:=m)with⟨i,rd,_,_,e⟩|⟨i,_,_,e⟩|⟨d,r,_,_,_,e⟩|e|⟨_,_,rd,A,e⟩<;>rw[e]
  .exact h.out _
  .exact h
  .exact h
  .exact h.out _
  .exact h.wrote j {dz with kind:=1,tx:=m.tx,home:=m.aX,ops:=m.ops} [{bA with kind:=3,aX:=s.me,to:=m.aX,tx:=m.tx,yes:=true,reads:=rd}] (U:=s.under) (Ti:=s.timers++[⟨s.clock+3,false,m.tx⟩]) (vl:=s.bX) (lk:=A) v h.self
    (λt f=>iq _ f) (λt f=>by
     rcases bS.1 f with f|f
     .exact h.t3 t f
     .rw[dR.1 f];show s.clock<s.clock+3;omega)
    (λ_=>⟨_,fD _<|dR.2 rfl,rfl,rfl,mI _⟩) (λ_=>⟨_,dR.2 rfl,rfl,rfl,rfl,rfl⟩) (λz=>by cases z) (λx c=>by rw[dR.1 c];exact .inl rfl)
 .rcases oD (s:=s) (m:=m)with⟨e,_⟩|⟨i,u,J,hi,K,q,⟨_,F,e⟩|⟨_,rd,e⟩⟩<;>rw[e]
  .exact h
  .refine h.cr j λx c=>?_;rcases gk c with c|rfl
   .exact h.self x c
   .obtain⟨e1,e2,H,B,L⟩:=oC u m;have o:=bD hi;exact⟨⟨u,o,e1.symm⟩,λ_=>F,λz=>by rw[H,q]at z;(cases z),λ_=>by rw[B];exact h.a0 u o q⟩
  .have o:=bD hi;obtain⟨e1,e2,H,B,L⟩:=oC u m;have y:=R.H4 u o;have p:=C.of y;refine h.wrote j {dz with kind:=2,tx:=m.tx,yes:=m.yes,reads:=rd} _ (U:=s.under.set i {(gI u m)with dec:=true,yes:=m.yes}) (Ti:=s.timers) (vl:=s.bX) (lk:=s.aQ) v (λx c=>?_) g h.t3 (λz=>by cases z) (λz=>by cases z) (λz=>by cases z) λx c=>?_
   .rcases gk c with c|rfl
    .exact h.self x c
    .refine⟨⟨u,o,e1.symm⟩,λz=>(by cases z),λ_=>?_,λz=>(by cases z)⟩;show gP s.n (gI u m).ops (λk=>(gI u m).cf.contains k)=false;rw[e2,B,h.a0 u o q,E];exact BM p D λk=>rfl
   .grind [yZ,List.mem_singleton]
 .rcases mU (s:=s) (m:=m)with⟨d,_,_,⟨_,e⟩|⟨_,e⟩⟩|⟨_,_,_,e⟩|⟨_,vl,A,e⟩<;>rw[e]
  .exact h.out _
  .exact h
  .exact h
  .exact h.wrote j {dz with kind:=3,tx:=m.tx,yes:=m.yes} [{bA with kind:=5,aX:=s.me,to:=m.aX,tx:=m.tx}] (U:=s.under) (Ti:=s.timers) (vl:=vl) (lk:=A) v h.self g h.t3 (λz=>by cases z) (λz=>by cases z) (λ_=>⟨_,dR.2 rfl,rfl,rfl,rfl⟩) (λx c=>by rw[dR.1 c];exact .inr<|.inr<|.inl rfl)
 .rcases q8 (s:=s) (m:=m)with⟨e,_⟩|⟨i,u,J,hi,K,q,⟨_,e⟩|⟨F,e⟩⟩<;>rw[e]
  .exact h
  .exact h.cr j λx c=>h.self x<|uW c
  .refine h.cr j λx c=>?_;rcases gk c with c|rfl
   .exact h.self x c
   .grind
 .rcases q9 (s:=s) (m:=m)with⟨d,r,_,_,_,e⟩|⟨d,_,_,e⟩|⟨_,_,e⟩|⟨_,_,e⟩<;>rw[e]
  .exact h.out _
  .exact h
  .exact h
  .exact h.wrote j {dz with kind:=2,tx:=m.tx} [{bA with kind:=4,aX:=s.me,to:=m.aX,tx:=m.tx}] (U:=s.under) (Ti:=s.timers) (vl:=s.bX) (lk:=s.aQ) v h.self g h.t3 (λz=>by cases z) (λz=>by cases z) (λz=>by cases z) (λx c=>by rw[dR.1 c];exact .inr<|.inl rfl)
 .exact h
theorem xh{l:List dS}(h:u∈l):∃ i v,bP l u.tx=some i/\l[i]? =some v/\v.tx=u.tx:=by
 cases a:bP l u.tx with
 |none=>grind [bP]
 |some i=>grind [lq]
theorem ShT.tick(h:ShT s)(l:s.up=true):ShT (dv s):=by
 have k:=dO s;obtain⟨e1,e2,m,n,r,B,C,f,o,e⟩:=k.same;have e:(dv s).clock=s.clock+1:=e;have m:(dv s).up=s.up:=m;refine⟨λ_ u w=>?_,λ_ tx i x=>?_,k.late,?_,?_,?_,?_,?_,?_,λy=>?_⟩
 .have z:u∈s.under:=by rw[f]at w;exact w
  obtain⟨t,a,b,c,d⟩:=h.t1 l u z;rw[e];by_cases p:t.tm<=s.clock+1
  .obtain⟨j,v,f1,f2,f3⟩:=xh z;have q:nI {s with clock:=s.clock+1} t=some (ra {s with clock:=s.clock+1} v t.tx,⟨s.clock+1+4,true,t.tx⟩):=by grind [nI,bP]
   obtain⟨_,g⟩:=k.H7 t a p _ _ q;exact⟨_,g,rfl,c,mI _⟩
  .exact⟨t,k.keep t a (by show s.clock+1<t.tm;omega),b,c,ai⟩
 .have A:aL s.log tx=some i:=by rw[n]at x;exact x
  obtain⟨t,a,b,c,d⟩:=h.t2 l tx i A;rw[e];by_cases p:t.tm<=s.clock+1
  .have q:nI {s with clock:=s.clock+1} t=some ([{bA with kind:=6,aX:=s.me,to:=(s.log[i]?.getD dz).home,tx:=t.tx}],⟨s.clock+1+3,false,t.tx⟩):=by grind [nI,aL]
   obtain⟨_,g⟩:=k.H7 t a p _ _ q;exact⟨_,g,rfl,c,mI _⟩
  .exact⟨t,k.keep t a (by show s.clock+1<t.tm;omega),b,c,ai⟩
 .rw[f,e2];exact h.v
 .rw[f,e2];exact h.a
 .rw[f];exact h.a0
 .rw[n,r,o,e1];exact h.w1
 .rw[n,r,o,e1];exact h.w3
 .rw[o];exact h.wk
 .rw[m,l]at y;cases y
theorem ShT.iC{n:Int}(h:ShT s)(d:s.up=false)(k:vd T)(R:dA T n P s):ShT (cD s):=by
 obtain⟨l,_,_⟩:=h.dn d;obtain⟨a,b,e⟩:=ll s.log (bY {s with up:=true}) s.log.length;have o:cD s={bY {s with up:=true}with aQ:=a,bX:=b,timers:=iw s.log}:=by unfold cD;dsimp only;rw[e];rfl
 rw[o];refine⟨λ_ u c=>(by cases c),λ_ tx i p=>?_,λt q=>?_,λu c=>(by cases c),λu c=>(by cases c),λu c=>(by cases c),λi r hi f=>?_,λi r hi f=>?_,λm v=>(by cases v),λw=>(by cases w)⟩
 .have x:aL s.log tx=some i:=p;have A:0<=tx/\tx<60:=by obtain⟨_,r,h1,B,C⟩:=bG (cZ x).2;obtain⟨O,y,_⟩:=R.tA.tw i r (by rw[R.log];exact h1);have D:=ie y;have E:=k.2;omega
  refine⟨⟨3,false,tx⟩,?_,rfl,rfl,by show(3:Int)<=0+3;omega⟩
  grind [iw,oy]
 .have j:t∈iw s.log:=q;unfold iw at j;obtain⟨tx,_,rfl⟩:=cq.1 j;show(0:Int)<3;omega
 .have z:s.log[i]? =some r:=hi;have g:s.aE<=i:=f
  grind
 .have z:s.log[i]? =some r:=hi;have g:s.aE<=i:=f
  grind
theorem OO(s:ShR)(k:Int)(a:0<=s.aE/\s.aE<=s.log.length):(gb s k).aE=(gb s k).log.length/\(gb s k).under=[]/\(gb s k).waits=[]/\(gb s k).timers=[]/\(gb s k).up=false:=by grind [gb,bY]
theorem ShT.step{n:Int}{w:WR}(h:ShT s)(d:vd T)(e:0<n)(R:dA T n P s)(hm:∀ m∈w.aH,jM T n m)(st:ku w s s'):ShT s':=by
 cases st with
 |same=>exact h
 |take m f l a=>exact(h.take a d e R<|hm m f).out []
 |sync a=>
  refine⟨h.t1,h.t2,h.t3,h.v,h.a,h.a0,λi r hi b=>?_,λi r hi b=>?_,λm hm=>(by cases hm),λg=>?_⟩
  .have j:s.log[i]? =some r:=hi;have c:(s.log.length:Int)<=i:=b
   grind
  .have j:s.log[i]? =some r:=hi;have c:(s.log.length:Int)<=i:=b
   grind
  .have:s.up=false:=g;rw[a]at this;cases this
 |tick a=>exact(h.tick a).out []
 |rN k a=>
  obtain⟨o,p,q,t,u⟩:=OO s k R.gl
  grind [ShT,gb]
 |iC a=>exact h.iC a d R
section
def uD(w:WR)(m:MsgR):Prop:=m∈w.aH\/∃ s∈w.sh,m∈s.waits
def Tt(t k:Int)(m:MsgR):Prop:=m.tx=t/\((m.kind=2/\m.to=k)\/(m.kind=3/\(m.aX=k\/m.yes=false)))
def aa8(t k:Int)(m:MsgR):Prop:=m.tx=t/\((m.kind=4/\m.to=k)\/(m.kind=5/\m.aX=k))
def tJ(w:WR)(n:Int)(u:dS):Prop:=
 (u.dec=false->∀ k,cu u.ops k n=true->(bJ u k).isSome=true\/∃ m,uD w m/\Tt u.tx k m)/\
 (u.dec=true->∀ k,cu u.ops k n=true->u.cf.contains k=true\/∃ m,uD w m/\aa8 u.tx k m)
theorem tJ.imp{w w':WR}{n:Int}{u:dS}(h:tJ w n u)(f:∀ k,cu u.ops k n=true->∀ m,uD w m->(u.dec=false->Tt u.tx k m->∃ c,uD w' c/\Tt u.tx k c)/\(u.dec=true->aa8 u.tx k m->∃ c,uD w' c/\aa8 u.tx k c)):tJ w' n u:=
 ⟨λd k e=>(h.1 d k e).imp id λ⟨m,a,b⟩=>(f k e m a).1 d b,λd k e=>(h.2 d k e).imp id λ⟨m,a,b⟩=>(f k e m a).2 d b⟩
theorem tJ.same{n:Int}(h:tJ w n u)(f:∀ m,uD w m->2<=m.kind->m.kind<=5->uD w' m):tJ w' n u:=
 h.imp λk d m a=>⟨λ_ b=>⟨m,f m a (by rcases b.2 with c|c<;>omega) (by rcases b.2 with c|c<;>omega),b⟩,λ_ b=>⟨m,f m a (by rcases b.2 with c|c<;>omega) (by rcases b.2 with c|c<;>omega),b⟩⟩
structure EW(W:WP)(w:WR)(G:Gl):Prop where
 f:WF W w G
 t:∀ s∈w.sh,ShT s
 ub:∀ s∈w.sh,∀ u∈s.under,u.dec=(aM s.log 2 u.tx).isSome
variable{W:WP}{w:WR}{G:Gl}
theorem EW.eI(H:EW W w G){i:Nat}{s:ShR}(hi:w.sh[i]? =some s):∃ P,dA (cy w.aC) w.sh.length P s/\s.me=i/\s.out=[]/\En (kI w) G s/\ShT s:=by
 obtain⟨P,R,e,a,b,c,d⟩:=H.f.rel.eI i (dd.1 hi).1;rw[hi]at a;injection a with a;subst a
 exact⟨P,b,c,d,(H.f.xJ.sh i s hi).1,H.t s<|bD hi⟩
theorem EW.me(H:EW W w G)(hi:w.sh[i]? =some s)(hj:w.sh[j]? =some z)(e:s.me=z.me):i=j/\s=z:=by
 obtain⟨_,_,a,_⟩:=H.eI hi;obtain⟨_,_,b,_⟩:=H.eI hj
 grind
theorem EW.M8(H:EW W w G)(hj:w.sh[j]? =some z)(hu:u∈z.under){x:Bool×List Int}(c:G.dec u.tx=some x):u.dec=true:=by
 obtain⟨_,_,_,_,b,_⟩:=H.eI hj;obtain⟨k,h,i,r,a1,d,l,e,f,_,_⟩:=H.f.bF c;obtain⟨_,_,_,_,g,_⟩:=H.eI a1;have e1:=g.e.hm i r d e;have e2:=b.e.hu u hu;rw[f,e2]at e1;obtain⟨_,rfl⟩:=H.me hj a1 e1;cases a:u.dec with
 |true=>rfl
 |false=>
  have:=(b.g.cr u hu).free a
  grind [iM,List.mem_of_getElem?]
theorem EW.Tu(H:EW W w G){t:Int}{rd:List Int}(c:G.dec t=some (true,rd))(d:opsOf (cy w.aC) t=some O)(hi:w.sh[i]? =some s)(e:cu O s.me w.sh.length=true):∃ (p:Nat) (q:RecR),s.log[p]? =some q/\(p:Int)<s.aE/\q.kind=1/\q.tx=t/\q.ops=br O s.me w.sh.length:=by
 obtain⟨k,g,i2,r,a1,h,o,j,b,a,_⟩:=H.f.bF c;injection a with a u
 obtain⟨v,f,b1,b2,_⟩:=H.f.Za g (bD a1) r (bD h) j a;rw[b,d]at b1;injection b1 with b1;subst b1
 obtain⟨P,R,_,_,l,_⟩:=H.eI hi;rw[b]at b2;obtain⟨p,q,m,x,y,z,_⟩:=l.e.exp _ _<|b2 _ e;obtain⟨n,A,B⟩:=R.tA.tw p q (by rw[R.log];exact m)
 grind
abbrev nM(w:WR)(i:Nat)(m:MsgR)(s:ShR):WR:=gf {w with aH:=w.aH.eraseIdx i} m.to.toNat<|cm s m
theorem tK{m:MsgR}{s:ShR}(hm:w.aH[i]? =some m)(hs:w.sh[m.to.toNat]? =some s)(c:s.n<=4):(∀ y,uD w y->y=m\/uD (nM w i m s) y)/\(∀ y∈(cm s m).out,uD (nM w i m s) y)/\∀ y∈(cm s m).waits,uD (nM w i m s) y:=by
 have d:=(dd.1 hs).1;have f:({cm s m with out:=[]}:ShR)∈(nM w i m s).sh:=eX.2 ⟨m.to.toNat,by show(w.sh.set _ _)[_]? =_;rw[rB d]⟩;have g:∀ y∈(cm s m).waits,uD (nM w i m s) y:=λy a=>.inr ⟨_,f,a⟩;refine⟨λy a=>?_,λy a=>.inl<|fD _ a,g⟩;rcases a with a|⟨z,h,a⟩
 .rcases mg hm a with e|e
  .exact .inl e
  .exact .inr<|.inl<|iq _ e
 .obtain⟨j,b⟩:=eX.1 h;by_cases e:m.to.toNat=j
  .subst e;rw[hs]at b;injection b with b;subst b
   obtain⟨_,o,x,_,k,_⟩:=OH s m c
   grind
  .refine .inr<|.inr ⟨z,eX.2 ⟨j,?_⟩,a⟩;show(w.sh.set _ _)[j]? =_;rw[rC e];exact b
theorem Eu(H:EW W w G)(hm:w.aH[i]? =some m)(h0:0<=m.to)(hs:w.sh[m.to.toNat]? =some s)(hj:w.sh[j]? =some z)(hu:u∈z.under)(I:m.tx=u.tx->(u.dec=false->m.kind≠3)/\(u.dec=true->m.kind≠5))(h:tJ w w.sh.length u):tJ (nM w i m s) w.sh.length u:=by
 obtain⟨P,R,FC,_,O,J⟩:=H.eI hs;obtain⟨Pz,Q,_,_,S,_⟩:=H.eI hj;have Ib:s.n<=4:=by have:=R.n2;have:=H.f.rel.n;omega
 obtain⟨a1,t,n⟩:=tK hm hs Ib;have T:=bD hm;have U:s.me=m.to:=ai;refine h.imp λk X y K=>⟨λo a=>?_,λo a=>?_⟩
 .rcases a1 y K with rfl|v
  .have A:y.kind=2/\y.to=k:=by
    rcases a.2 with c|c
    .exact c
    .exact absurd c.1<|(I a.1).1 o
   have e:cm s y=eN s y:=by grind [gQ]
   rcases nl (s:=s) (m:=y)with⟨q,rd,_,_,e2⟩|⟨q,b,B,e2⟩|⟨d,r,f,b,L,e2⟩|e2|⟨_,_,rd,Y,e2⟩
   .refine⟨{bA with kind:=3,aX:=s.me,to:=y.aX,tx:=y.tx,yes:=true,reads:=rd},t _ (by rw[e,e2];exact fD _<|dR.2 rfl),a.1,.inr ⟨rfl,.inl ?_⟩⟩;show s.me=k;omega
   .obtain⟨_,r,h1,g,l⟩:=bG (cZ b).2;obtain⟨x,C,D,E,F,_⟩:=J.w1 q r h1 B g;refine⟨x,n x (by rw[e,e2];exact C),by rw[E,l];exact a.1,.inr ⟨D,.inl ?_⟩⟩;rw[F];omega
   .exfalso;obtain⟨_,r',h1,g,l⟩:=bG f;rw[b]at h1;injection h1 with h1;subst h1
    obtain⟨x,M⟩:=O.g.done d r b g;rw[l,a.1]at M;have:=H.M8 hj hu M;rw[o]at this;cases this
   .refine⟨{bA with kind:=3,aX:=s.me,to:=y.aX,tx:=y.tx},t _ (by rw[e,e2];exact fD _<|dR.2 rfl),a.1,.inr ⟨rfl,.inl ?_⟩⟩;show s.me=k;omega
   .refine⟨{bA with kind:=3,aX:=s.me,to:=y.aX,tx:=y.tx,yes:=true,reads:=rd},n _ (by rw[e,e2];exact fD _<|dR.2 rfl),a.1,.inr ⟨rfl,.inl ?_⟩⟩;show s.me=k;omega
  .exact⟨y,v,a⟩
 .rcases a1 y K with rfl|v
  .have A:y.kind=4/\y.to=k:=by
    rcases a.2 with c|c
    .exact c
    .exact absurd c.1<|(I a.1).2 o
   have e:cm s y=fY s y:=by grind [gQ]
   rcases mU (s:=s) (m:=y)with⟨d,b,f,⟨_,e2⟩|⟨B,e2⟩⟩|⟨b,f,L,e2⟩|⟨_,vl,Y,e2⟩
   .refine⟨{bA with kind:=5,aX:=s.me,to:=y.aX,tx:=y.tx},t _ (by rw[e,e2];exact fD _<|dR.2 rfl),a.1,.inr ⟨rfl,?_⟩⟩;show s.me=k;omega
   .obtain⟨_,r,h1,g,l⟩:=bG f;obtain⟨x,C,D,E,F⟩:=J.w3 d r h1 B g;refine⟨x,n x (by rw[e,e2];exact C),by rw[E,l];exact a.1,.inr ⟨D,?_⟩⟩;rw[F];omega
   .exfalso;obtain⟨rd,N⟩:=(H.f.xJ.aH y T).bF A.1;rw[L,a.1]at N;obtain⟨p,q,Z,_,q2,q3,_⟩:=H.Tu N (Q.H4 u hu) hs (by rw[U,A.2];exact X);unfold aL at b;rw[f]at b;have mA:aM s.log 1 y.tx=none:=b;exact absurd ⟨q2,q3.trans a.1.symm⟩<|iM.1 mA q<|bD Z
   .refine⟨{bA with kind:=5,aX:=s.me,to:=y.aX,tx:=y.tx},n _ (by rw[e,e2];exact fD _<|dR.2 rfl),a.1,.inr ⟨rfl,?_⟩⟩;show s.me=k;omega
  .exact⟨y,v,a⟩
theorem kz(s:ShR)(m:MsgR):(cm s m).clock=s.clock/\(cm s m).up=s.up/\(∀ t∈s.timers,t∈(cm s m).timers)/\(m.kind≠1->m.kind≠3->m.kind≠5->(cm s m).under=s.under):=by
 rcases gQ s m with⟨a,e⟩|⟨a,e⟩|⟨a,e⟩|⟨a,e⟩|⟨a,e⟩|⟨a,e⟩|⟨a,e⟩<;>rw[e]
 .grind [aM,bP,kE,Option.isSome_eq_false_iff,Option.isNone_iff_eq_none,kD,List.mem_append_left]
 .grind [nl,List.mem_append_left]
 .grind [oD]
 .rcases mU (s:=s) (m:=m)with⟨d,_,_,⟨_,e⟩|⟨_,e⟩⟩|⟨_,_,_,e⟩|⟨_,vl,b,e⟩<;>rw[e]<;>exact⟨rfl,rfl,λt h=>h,λ_ _ _=>rfl⟩
 .grind [q8]
 .rcases q9 (s:=s) (m:=m)with⟨d,r,_,_,_,e⟩|⟨d,_,_,e⟩|⟨_,_,e⟩|⟨_,_,e⟩<;>rw[e]<;>exact⟨rfl,rfl,λt h=>h,λ_ _ _=>rfl⟩
 .grind
theorem EW.home(H:EW W w G)(hm:m∈w.aH)(b:m.kind=3\/m.kind=5)(hj:w.sh[j]? =some z)(hu:u∈z.under)(e:m.tx=u.tx):m.to=z.me:=by
 obtain⟨P,R,_,_,a,_⟩:=H.eI hj;have h1:=a.e.hu u hu;obtain⟨O,c,d⟩:=H.f.rel.msg m hm
 grind [gp,kI]
theorem OP(H:EW W w G)(hm:w.aH[i]? =some m)(Q:0<=m.to)(hs:w.sh[m.to.toNat]? =some s){z':ShR}(hj:(nM w i m s).sh[j]? =some z'){b:dS}(hu:b∈z'.under):
  tJ (nM w i m s) w.sh.length b\/∃ z u,w.sh[j]? =some z/\u∈z.under/\u.tx=b.tx/\(tJ w w.sh.length u->tJ (nM w i m s) w.sh.length b):=by
 obtain⟨P,R,FC,_,A,ht⟩:=H.eI hs;have hn:=H.f.rel.n;have Ib:s.n<=4:=by have:=R.n2;omega
 have J:s.n=w.sh.length:=R.n2;obtain⟨a1,X,Y⟩:=tK hm hs Ib;have K:=bD hm;have g:(w.sh.set m.to.toNat {cm s m with out:=[]})[j]? =some z':=hj;by_cases e:m.to.toNat=j
 .subst e;rw[rB (dd.1 hs).1]at g;injection g with g;subst g
  have hu:b∈(cm s m).under:=hu;have d:b∈s.under->(m.tx=b.tx->(b.dec=false->m.kind≠3)/\(b.dec=true->m.kind≠5))->tJ (nM w i m s) w.sh.length b\/∃ z u,w.sh[m.to.toNat]? =some z/\u∈z.under/\u.tx=b.tx/\(tJ w w.sh.length u->tJ (nM w i m s) w.sh.length b):=
   λh1 Z=>.inr ⟨s,b,hs,h1,rfl,Eu H hm Q hs hs h1 Z⟩
  by_cases k1:m.kind=1
  .have e1:cm s m=gZ s m:=by unfold cm;rw[aJ k1]
   rw[e1]at hu;by_cases n:(aM s.log 2 m.tx).isSome=true\/(bP s.under m.tx).isSome=true
   .refine d ?_ λ_=>⟨λ_=>by omega,λ_=>by omega⟩
    grind [kE]
   .simp only[not_or,L4,L5,L6]at n;rw[kD n.1 n.2]at hu;rcases bS.1 hu with hu|hu
    .exact d hu λ_=>⟨λ_=>by omega,λ_=>by omega⟩
    .rw[dR.1 hu];obtain⟨O,cY,hc⟩:=H.f.rel.msg m K;have Ee:m.ops=O:=by grind
     have hr:=H.f.rel.tok.of cY;refine .inl ⟨λ_ k a=>.inr ⟨{bA with kind:=2,aX:=s.me,to:=k,tx:=m.tx,ops:=br m.ops k s.n},X _ ?_,rfl,.inl ⟨rfl,rfl⟩⟩,λz=>by cases z⟩
     rw[e1,kD n.1 n.2];refine List.mem_append_right _ ?_;unfold BK;have a:cu m.ops k w.sh.length=true:=a;refine List.mem_flatMap.2 ⟨k,FN.2 ⟨?_,by rw[J];exact a⟩,List.mem_singleton.2 rfl⟩;rw[J];rw[Ee]at a;exact fM hr (by omega) a
  by_cases I:m.kind=3
  .have e1:cm s m=kO s m:=by unfold cm;rw[ax k1,ax ai,aJ I]
   rw[e1]at hu;rcases oD (s:=s) (m:=m)with⟨e,L⟩|⟨q,u,hf,hi,B,o,⟨hy,ha,e⟩|⟨_,rd,e⟩⟩
   .rw[e]at hu;refine d hu λf=>⟨λo=>?_,λ_=>by omega⟩;obtain⟨q,v,f1,f2,f3⟩:=xh hu;have:=L q v (by rw[f];exact f1) f2;rw[Bx A.g.nd (bD f2) hu f3,o]at this;cases this
   .obtain⟨C,M,S,n4,n5⟩:=oC u m;have D:=bD hi;have E:((s.under.set q<|gI u m).map (·.tx)).Nodup:=by rw[tH hi C];exact A.g.nd
    have F:gI u m∈s.under.set q (gI u m):=eX.2 ⟨q,by rw[rB (dd.1 hi).1]⟩;rw[e]at hu;by_cases f:m.tx=b.tx
    .have e2:=Bx E hu F (by rw[C,B];exact f.symm);rw[e2];refine .inr ⟨s,u,hs,D,C.symm,λn=>⟨λh k a=>?_,λh=>by rw[S,o]at h;cases h⟩⟩;rw[M]at a;rcases n.1 o k a with T|⟨y,r,p⟩
     .exact .inl<|Ia T
     .rcases a1 y r with rfl|U
      .rcases p.2 with c|c
       .omega
       .grind [OM]
      .grind
    .grind
   .obtain⟨C,M,S,n4,n5⟩:=oC u m;have D:=bD hi;generalize t:({(gI u m)with dec:=true,yes:=m.yes}:dS)=l at e;have x:l.tx=u.tx:=by rw[<- t];exact C
    have E:((s.under.set q l).map (·.tx)).Nodup:=by rw[tH hi x];exact A.g.nd
    have F:l∈s.under.set q l:=eX.2 ⟨q,by rw[rB (dd.1 hi).1]⟩;rw[e]at hu;by_cases f:m.tx=b.tx
    .have e2:=Bx E hu F (by rw[x,B];exact f.symm);rw[e2];refine .inl ⟨λz=>by rw[<- t]at z;(cases z),λ_ k a=>.inr ⟨{bA with kind:=4,aX:=s.me,to:=k,tx:=m.tx,yes:=m.yes},Y _ ?_,by rw[x,B],.inl ⟨rfl,rfl⟩⟩⟩;rw[e1,e];refine fD _<|iq _<|yZ.2 ⟨k,FN.2 ⟨?_,?_⟩,rfl⟩
     .have a:cu l.ops k w.sh.length=true:=a;rw[<- t]at a;have a:cu (gI u m).ops k w.sh.length=true:=a;rw[M]at a;rw[J];exact fM (H.f.rel.tok.of<|R.H4 u D) ai a
     .grind
    .grind
  by_cases N:m.kind=5
  .have e1:cm s m=qj s m:=by unfold cm;rw[ax k1,ax ai,ax I,ax ai,aJ N]
   rw[e1]at hu;rcases q8 (s:=s) (m:=m)with⟨e,L⟩|⟨q,u,hf,hi,B,o,⟨_,e⟩|⟨ha,e⟩⟩
   .rw[e]at hu;refine d hu λf=>⟨λ_=>by omega,λo=>?_⟩;obtain⟨q,v,f1,f2,f3⟩:=xh hu;have:=L q v (by rw[f];exact f1) f2;rw[Bx A.g.nd (bD f2) hu f3,o]at this;cases this
   .rw[e]at hu;have fA:=HW A.g.nd hi hu
    grind [List.mem_of_mem_eraseIdx]
   .have D:=bD hi;generalize t:({u with cf:=u.cf++[m.aX]}:dS)=l at e;have x:l.tx=u.tx:=by rw[<- t]
    have E:((s.under.set q l).map (·.tx)).Nodup:=by rw[tH hi x];exact A.g.nd
    have F:l∈s.under.set q l:=eX.2 ⟨q,by rw[rB (dd.1 hi).1]⟩;rw[e]at hu;by_cases f:m.tx=b.tx
    .have e2:=Bx E hu F (by rw[x,B];exact f.symm);rw[e2];refine .inr ⟨s,u,hs,D,x.symm,λn=>⟨λh=>(by rw[<- t]at h;have h:u.dec=false:=h;rw[o]at h;cases h),λh k a=>?_⟩⟩;rw[<- t]at a⊢;rcases n.2 o k a with T|⟨y,r,p⟩
     .grind
     .rcases a1 y r with rfl|U
      .rcases p.2 with c|c
       .omega
       .grind
      .exact .inr ⟨y,U,p⟩
    .grind
  .grind [kz]
 .rw[rC e]at g;refine .inr ⟨z',b,g,hu,rfl,Eu H hm Q hs g hu λf=>?_⟩;have hmz:=(H.eI g).choose_spec.2.1;refine⟨λ_ I=>?_,λ_ N=>?_⟩
  .have:=H.home K (.inl I) g hu f;omega
  .have:=H.home K (.inr N) g hu f;omega
structure ExW(w:WR):Prop where
 st:w.aj=false
 t:∀ s∈w.sh,ShT s
 k:∀ s∈w.sh,FP s
 p:phi w<=21180
def fO(n:Nat)(w:WR)(h:cJ):Prop:=nH n w h/\ExW w
theorem Tv{w:WR}(st:rO w w'):w'.aj=w.aj:=by
 cases st with
 |xa i m a b=>rw[ng]
 |_=>rfl
theorem ExW.do{W:WP}{w:WR}{G:Gl}(X:ExW w)(F:WF W w G)(V:kJ t w)(k a b:Int):ExW (eV w k a b).1:=by
 have g:=F.rel.S8;have l:=F.rel.n;have st:=OI w g.to k a b;have h:∀ s'∈(Go.Sl.eV w k a b).1.sh,∃ (i:Nat) (s:ShR),w.sh[i]? =some s/\ku w s s':=λs' d=>by obtain⟨i,hi⟩:=eX.1 d;obtain⟨s,h1,e⟩:=BF (λi s hs=>(F.xJ.sh i s hs).2.1) g.to hi;exact⟨i,s,h1,e⟩
 refine⟨by rw[Tv st];exact X.st,λs' d=>?_,λs' d=>?_,Tr F V X.k st X.p⟩
 .obtain⟨i,s,h1,e⟩:=h s' d;obtain⟨P,R,j,c,f,_⟩:=F.rel.eI i (dd.1 h1).1;rw[h1]at c;injection c with c;subst c
  exact(X.t s<|bD h1).step F.rel.tok ai f F.rel.msg e
 .obtain⟨i,s,h1,e⟩:=h s' d;obtain⟨P,R,j,c,f,_⟩:=F.rel.eI i (dd.1 h1).1;rw[h1]at c;injection c with c;subst c
  exact(X.k s<|bD h1).step e (by have:=f.n2;omega) f.gl
theorem fO.eV{n:Nat}{w:WR}{h:cJ}(S:fO n w h)(a b c:Int):∃ h',l8 (Go.Sl.eV w a b c).1 h=(h',true)/\HT (Go.Sl.eV w a b c).1 h'=true/\fO n (Go.Sl.eV w a b c).1 h':=by obtain⟨h',e1,e2,d⟩:=S.1.eV a b c;obtain⟨_,W,G,t,F,I,V⟩:=S.1;exact⟨h',e1,e2,d,S.2.do F V a b c⟩
theorem fO.l9{n:Nat}{w:WR}{h:cJ}(S:fO n w h)(O:List bO):fO n (bZ w O).1 (if(bZ w O).2.2=0 then{h with ops:=h.ops++[O]}else h)/\((bZ w O).2.2=0->(bZ w O).2.1=h.ops.length):=by
 obtain⟨h1,c⟩:=S.1.l9 O;refine⟨⟨h1,?_⟩,c⟩;obtain⟨_,W,G,t,F,I,V⟩:=S.1;obtain⟨d,b,_⟩:=F.l9 O;have X:=S.2;have hs:=F.jN V X.k;refine⟨?_,λs a=>X.t s (by rw[<- b];exact a),λs a=>X.k s (by rw[<- b];exact a),?_⟩
 .unfold bZ;split
  .exact X.st
  split
  .exact X.st
  split
  .exact X.st
  .unfold ic;split<;>exact X.st
 .unfold bZ;split
  .exact X.p
  split
  .exact X.p
  split
  .exact X.p
  .grind [ic,phi,ws,vf,List.length_append,List.length_singleton]
theorem fO.new{n:Nat}(a:1<=n/\n<=4):fO n (kP n) ⟨[],[],[],List.replicate n 0⟩:=by
 have key:∀ s∈(kP n).sh,∃ k,s=iS k n:=λs hs=>by obtain⟨k,_,e⟩:=cq.1 hs;exact⟨k,e.symm⟩
 refine⟨nH.new a,rfl,λs hs=>?_,λs hs=>?_,?_⟩
 .grind [ShT.new]
 .obtain⟨k,rfl⟩:=key s hs;exact fp _
 .have:jN (kP n).sh=0:=by
   unfold jN;have h:∀ l:List ShR,(∀ s∈l,∃ k,s=iS k n)->(l.map λs=>ws s.waits).sum=0:=λl=>by
    induction l with
    |nil=>intro _;rfl
    |cons s l b=>
     intro h;obtain⟨k,rfl⟩:=h s<|fX ..;rw[jq,List.sum_cons,b λz c=>h z<|fg _ c];rfl
   exact h _ key
  show ws []+_<=_;rw[this];decide
theorem fO.ew{w:WR}{h:cJ}(S:fO n w h):∃ W G t,EW W w G/\kJ t w/\mF w G h/\w.sh.length=n:=by obtain⟨h1,W,G,t,F,I,V⟩:=S.1;exact⟨W,G,t,⟨F,S.2.t,λs hs u a=>(V.sh s hs).ub u a⟩,V,I,h1⟩
def iT(w:WR):Prop:=∀ s∈w.sh,s.up=true
theorem Dc{W:WP}{w:WR}{G:Gl}(H:EW W w G)(f:w.aj=false)(d:iT w):
  (w.aH=[]/\eV w 2 0 0=(w,5))\/(∃ m,w.aH[0]? =some m/\m.to= -1/\m.kind=7/\0<=m.tx/\eV w 2 0 0=(jV {w with aH:=w.aH.eraseIdx 0} m,0))\/
  (∃ m s,w.aH[0]? =some m/\0<=m.to/\w.sh[m.to.toNat]? =some s/\s.up=true/\eV w 2 0 0=(nM w 0 m s,0)):=by
 have e:eV w 2 0 0=fE w 2 0:=by grind [eV]
 rw[e];cases b:w.aH[0]? with
 |none=>grind [List.eq_nil_of_length_eq_zero,fE]
 |some m=>
  have c:m∈w.aH:=bD b;have g:=(dd.1 b).1;have h:=H.f.rel.mto c;have e2:fE w 2 0=if m.to= -1 then((jV {w with aH:=w.aH.eraseIdx 0} m,0):WR×Int)else match w.sh[m.to.toNat]? with
   |none=>(({w with aH:=w.aH.eraseIdx 0},0):WR×Int)
   |some s=>if s.up then(nM w 0 m s,0)else({w with aH:=w.aH.eraseIdx 0},0):=by
   grind [fE]
  rw[e2];by_cases a:m.to= -1
  .rw[aJ a];obtain⟨k1,k2⟩:=H.f.rel.S8.told m c a
   grind
  .rw[ax a];have i:0<=m.to/\m.to<w.sh.length:=by grind
   have hs:w.sh[m.to.toNat]? =some (w.sh[m.to.toNat]'(by omega)):=cQ _;have j:=d _<|bD hs
   grind
theorem WX{w:WR}(a:w.aj=false)(b:iT w)(hj:w.sh[j]? =some s):eV w 5 j 0=(gf w j<|kH s,0):=by
 have c:=(dd.1 hj).1;unfold eV;rw[ax (by decide),a,ax (by decide),ax (by decide),ax (by decide),ax ai];have:w.sh[((j:Int)).toNat]? =some s:=by rw[gN];exact hj
 rw[this];simp only[];have d:=b s<|bD hj
 grind
structure kA(n:Nat)(Inv:WR->Prop):Prop where
 xa:∀ {W w G} (m:MsgR),EW W w G->iT w->w.sh.length=n->w.aH[0]? =some m->m.to= -1->m.kind=7->0<=m.tx->Inv w->Inv (jV {w with aH:=w.aH.eraseIdx 0} m)
 take:∀ {W w G} (m:MsgR) (s:ShR),EW W w G->iT w->w.sh.length=n->w.aH[0]? =some m->0<=m.to->w.sh[m.to.toNat]? =some s->s.up=true->Inv w->Inv (nM w 0 m s)
 sync:∀ {W w G} (j:Nat) (s:ShR),EW W w G->iT w->w.sh.length=n->w.sh[j]? =some s->Inv w->Inv (gf w j (kH s))
theorem kA.up:kA n iT:=by
 refine⟨λm _ h _ _ _ _ _ _=>?_,λm s _ h _ _ _ hs c _=>?_,λj s _ h _ b _=>?_⟩
 .intro z a;rw[fS]at a;exact h z a
 .intro z a;rcases gk a with a|rfl
  .exact h z a
  .grind [cm,kz]
 .intro z a;rcases gk a with a|rfl
  .exact h z a
  .exact h s<|bD b
def KW:Nat->Int->Prop
 |0,_=>False
 |1,_=>False
 |2,k=>k=5
 |3,k=>k=4\/k=5\/k=7
 |_+4,k=>k=3\/k=4\/k=5\/k=7
def KB(r:Nat)(k:Int):Prop:=if 4<=r then True else KW (r+1) k
def BN(r:Nat)(w:WR):Prop:=(∀ m∈w.aH,KB r m.kind)/\∀ s∈w.sh,∀ m∈s.waits,KW r m.kind
theorem KW.kb(h:KW r k):KB r k:=by
 unfold KB;split
 .trivial
 .match r with
  |0=>cases h
  |1=>cases h
  |2=>have h:k=5:=h;exact .inr<|.inl h
  |3=>have h:k=4\/k=5\/k=7:=h;exact .inr h
  |r+4=>omega
theorem BO(s:ShR)(m:MsgR)(g:s.n<=4)(a:s.out=[]):∃ o x,(cm s m).out=o/\(cm s m).waits=s.waits++x/\(∀ y∈x,y.kind=3\/y.kind=4\/y.kind=5\/y.kind=7)/\
  (m.kind=3->o=[]/\∀ y∈x,y.kind=4\/y.kind=7)/\(m.kind=4->(∀ y∈o,y.kind=5)/\∀ y∈x,y.kind=5)/\(m.kind=5\/m.kind=7->o=[]/\x=[]):=by
 rcases gQ s m with⟨b,e⟩|⟨b,e⟩|⟨b,e⟩|⟨b,e⟩|⟨b,e⟩|⟨b,e⟩|⟨b,e⟩<;>rw[e]
 .by_cases c:(aM s.log 2 m.tx).isSome=true\/(bP s.under m.tx).isSome=true
  .rcases kE c with⟨d,r,_,_,_,e⟩|⟨e,_⟩<;>rw[e]<;>exact⟨_,[],rfl,by simp,λy h=>(by cases h),λh=>by omega,λh=>by omega,λh=>by omega⟩
  .simp only[not_or,L4,L5,L6]at c;rw[kD c.1 c.2];exact⟨_,[],rfl,by simp,λy h=>(by cases h),λh=>by omega,λh=>by omega,λh=>by omega⟩
 .rcases nl (s:=s) (m:=m)with⟨i,rd,_,_,e⟩|⟨i,_,_,e⟩|⟨d,r,_,_,_,e⟩|e|⟨_,_,rd,f,e⟩<;>rw[e]
  .exact⟨_,[],rfl,by simp,λy h=>(by cases h),λh=>by omega,λh=>by omega,λh=>by omega⟩
  .exact⟨_,[],rfl,by simp,λy h=>(by cases h),λh=>by omega,λh=>by omega,λh=>by omega⟩
  .exact⟨_,[],rfl,by simp,λy h=>(by cases h),λh=>by omega,λh=>by omega,λh=>by omega⟩
  .exact⟨_,[],rfl,by simp,λy h=>(by cases h),λh=>by omega,λh=>by omega,λh=>by omega⟩
  .grind
 .rcases oD (s:=s) (m:=m)with⟨e,_⟩|⟨i,u,_,_,_,_,⟨_,_,e⟩|⟨_,rd,e⟩⟩<;>rw[e]
  .exact⟨_,[],rfl,by simp,λy h=>(by cases h),λh=>⟨a,λy h=>(by cases h)⟩,λh=>by omega,λh=>by omega⟩
  .exact⟨_,[],rfl,by simp,λy h=>(by cases h),λh=>⟨a,λy h=>(by cases h)⟩,λh=>by omega,λh=>by omega⟩
  .grind [uB,gI,bA,aX]
 .rcases mU (s:=s) (m:=m)with⟨d,_,_,⟨_,e⟩|⟨_,e⟩⟩|⟨_,_,_,e⟩|⟨_,vl,f,e⟩<;>rw[e]
  .exact⟨_,[],rfl,by simp,λy h=>(by cases h),λh=>by omega,λh=>⟨λy h=>(by rw[a]at h;rw[dR.1 h]),λy h=>(by cases h)⟩,λh=>by omega⟩
  .exact⟨_,[],rfl,by simp,λy h=>(by cases h),λh=>by omega,λh=>⟨λy h=>(by rw[a]at h;cases h),λy h=>(by cases h)⟩,λh=>by omega⟩
  .exact⟨_,[],rfl,by simp,λy h=>(by cases h),λh=>by omega,λh=>⟨λy h=>(by rw[a]at h;cases h),λy h=>(by cases h)⟩,λh=>by omega⟩
  .grind
 .rcases q8 (s:=s) (m:=m)with⟨e,_⟩|⟨i,u,_,_,_,_,⟨_,e⟩|⟨_,e⟩⟩<;>rw[e]<;>exact⟨_,[],rfl,by simp,λy h=>(by cases h),λh=>by omega,λh=>by omega,λh=>⟨a,rfl⟩⟩
 .rcases q9 (s:=s) (m:=m)with⟨d,r,_,_,_,e⟩|⟨d,_,_,e⟩|⟨_,_,e⟩|⟨_,_,e⟩<;>rw[e]
  .exact⟨_,[],rfl,by simp,λy h=>(by cases h),λh=>by omega,λh=>by omega,λh=>by omega⟩
  .exact⟨_,[],rfl,by simp,λy h=>(by cases h),λh=>by omega,λh=>by omega,λh=>by omega⟩
  .exact⟨_,[],rfl,by simp,λy h=>(by cases h),λh=>by omega,λh=>by omega,λh=>by omega⟩
  .grind
 .exact⟨_,[],rfl,by simp,λy h=>(by cases h),λh=>⟨a,λy h=>(by cases h)⟩,λh=>⟨λy h=>(by rw[a]at h;cases h),λy h=>(by cases h)⟩,λh=>⟨a,rfl⟩⟩
theorem OQ{s:ShR}{m:MsgR}(b:s.n<=4)(c:s.out=[])(d:KB r m.kind)(e:∀ y∈s.waits,KW r y.kind):(∀ y∈(cm s m).out,KB r y.kind)/\∀ y∈(cm s m).waits,KW r y.kind:=by
 obtain⟨o,x,e1,e2,f,g,i,j⟩:=BO s m b c;rw[e1,e2]
 suffices h:(∀ y∈o,KB r y.kind)/\∀ y∈x,KW r y.kind from⟨h.1,λy a=>by
  rcases bS.1 a with a|a
  .exact e y a
  .exact h.2 y a⟩
 match r with
 |0=>exact absurd d (by unfold KB;simp[KW])
 |1=>grind [KB,KW]
 |2=>grind [KB,KW]
 |3=>grind [KB,KW]
 |r+4=>exact⟨λy _=>by unfold KB;rw[aJ ai];trivial,f⟩
theorem kA.WY:kA n (BN r):=by
 refine⟨λ{W w G} m H f g i o p l h=>⟨λy c=>?_,λz d=>?_⟩,λ{W w G} m s H f g i l hs q h=>?_,λ{W w G} j s H f g k h=>?_⟩
 .rw[oE]at c;exact h.1 y<|uW c
 .rw[fS]at d;exact h.2 z d
 .obtain⟨P,R,_,e,_,_⟩:=H.eI hs;have Ib:s.n<=4:=by have:=R.n2;have:=H.f.rel.n;omega
  obtain⟨a,b⟩:=OQ (r:=r) Ib e (h.1 m<|bD i)<|h.2 s<|bD hs;refine⟨λy c=>?_,λz d=>?_⟩
  .rcases bS.1 c with c|c
   .exact h.1 y<|uW c
   .exact a y c
  .rcases gk d with d|rfl
   .exact h.2 z d
   .exact b
 .obtain⟨P,R,_,e,_,_⟩:=H.eI k;refine⟨λy c=>?_,λz d=>?_⟩
  .rcases bS.1 c with c|c
   .exact h.1 y c
   .have c:y∈s.out++s.waits:=c;rw[e,ek]at c;exact(h.2 s (bD k) y c).kb
  .rcases gk d with d|rfl
   .exact h.2 z d
   .intro y c;cases c
theorem mh{l:List A}{x y z:A}(h:l[a]? =some y)(hz:(l.set a x)[j]? =some z):(a=j/\z=x)\/(a≠j/\l[j]? =some z):=by grind
theorem re{B:Type}{f:A->B}{l:List A}{x y:A}(h:l[a]? =some y)(e:f x=f y):(l.set a x).map f=l.map f:=by
 rw[Aq];refine Du λj=>?_
 grind
theorem fO.calm{w:WR}{h:cJ}(S:fO n w h)(k a b:Int)(c:((Go.Sl.eV w k a b).1.sh.map λs=>s.aE.toNat)=w.sh.map λs=>s.aE.toNat):fO n (Go.Sl.eV w k a b).1 h:=by
 obtain⟨h',e1,_,d⟩:=S.eV k a b;have f:l8 (Go.Sl.eV w k a b).1 h=(h,true):=by
  obtain⟨_,W,G,t,F,I,V⟩:=S.1;obtain⟨_,g,l,m,e,I',o⟩:=d.1;unfold l8;refine pa _ 0 h (λs hs=>?_) λj s hs=>?_
  .obtain⟨i,hi⟩:=eX.1 hs;exact e.aE hi
  .rw[lR,I.looked,<- c,jJ,hs];rfl
 grind
structure OR(Q:(WR->Prop)->Prop)(w w':WR):Prop where
 up:iT w'
 aC:w'.aC.length=w.aC.length
 inv:∀ Inv:WR->Prop,Q Inv->Inv w->Inv w'
theorem OR.trans{Q:(WR->Prop)->Prop}{a b c:WR}(h:OR Q a b)(k:OR Q b c):OR Q a c:=⟨k.up,k.aC.trans h.aC,λInv q i=>k.inv Inv q<|h.inv Inv q i⟩
theorem OR.refl{Q:(WR->Prop)->Prop}{a:WR}(h:iT a):OR Q a a:=⟨h,rfl,λ_ _ i=>i⟩
theorem WZ(w:WR)(k a b:Int):(eV w k a b).1.aC.length=w.aC.length:=by have:=congrArg List.length<|xc w k a b;simpa[cy]using this
theorem dlv{w:WR}{h:cJ}(S:fO n w h)(c:iT w):(w.aH=[]/\eV w 2 0 0=(w,5))\/∃ j,eV w 2 0 0=(j,0)/\fO n j h/\OR (kA n) w j/\phi j+1<=phi w:=by
 obtain⟨W,G,t,E,V,I,hl⟩:=S.ew;have k:=WZ w 2 0 0;rcases Dc E S.2.st c with⟨a,b⟩|⟨m,d,l,p,f,e⟩|⟨m,s,d,f,hs,q,e⟩
 .exact .inl ⟨a,b⟩
 .have g:=S.calm 2 0 0 (by rw[e];show(jV _ m).sh.map _=_;rw[fS]);rw[e]at g k;refine .inr ⟨_,e,g,⟨kA.up.xa m E c hl d l p f c,k,λInv T i=>T.xa m E c hl d l p f i⟩,?_⟩;have h1:=qu d
  grind [Kp,phi,oE,fS,ws,jN]
 .obtain⟨P,R,u,v,_,_⟩:=E.eI hs;have Ib:s.n<=4:=by have:=R.n2;have:=E.f.rel.n;omega
  obtain⟨r,o,x,e2,y,z,_⟩:=OH s m Ib;have g:=S.calm 2 0 0 (by rw[e];show(w.sh.set m.to.toNat {cm s m with out:=[]}).map _=_;exact re hs (by show(cm s m).aE.toNat=_;rw[r]))
  rw[e]at g k;refine .inr ⟨_,e,g,⟨kA.up.take m s E c hl d f hs q c,k,λInv T i=>T.take m s E c hl d f hs q i⟩,?_⟩;have h1:=ks {cm s m with out:=[]} hs;have A:=qu d;unfold phi;show ws (w.aH.eraseIdx 0++(cm s m).out)+jN (w.sh.set m.to.toNat {cm s m with out:=[]})+1<=_
  grind [ws,cm]
theorem y0{n:Nat}{h:cJ}:∀ (f:Nat) {w:WR},fO n w h->iT w->fO n (dC f w) h/\OR (kA n) w (dC f w)/\((dC f w).aH=[]\/phi (dC f w)+f<=phi w)/\phi (dC f w)<=phi w
 |0,w,S,b=>⟨S,.refl b,.inr<|fC _,fC _⟩
 |f+1,w,S,b=>by
  unfold dC;rcases dlv S b with⟨a,e⟩|⟨i,e,c,r,p⟩
  .rw[e];exact⟨S,.refl b,.inl a,fC _⟩
  .rw[e];obtain⟨a1,d,g,j⟩:=y0 f c r.up;dsimp only;rw[ax (λz=>z rfl)];exact⟨a1,r.trans d,g.imp id (λz=>by omega),ai⟩
def M9(n:Nat)(Inv:WR->Prop):Prop:=∀ {W w G} (j:Nat) (s:ShR),EW W w G->iT w->w.sh.length=n->w.sh[j]? =some s->Inv w->Inv (gf w j<|kH s)
def vM(j:Nat)(w:WR):Prop:=∀ s,w.sh[j]? =some s->s.waits=[]/\s.aE=s.log.length
def Low(r:Nat)(w:WR):Prop:=(∀ m∈w.aH,KW r m.kind)/\∀ s∈w.sh,∀ m∈s.waits,KW r m.kind
theorem Ic:M9 n (vM j):=λa s E d e c h z b=>by
 rcases mh c b with⟨rfl,rfl⟩|⟨_,b⟩
 .exact⟨rfl,rfl⟩
 .exact h z b
theorem Tw:M9 n (Low r):=λa s E f g d h=>by
 obtain⟨P,R,_,e,_,_⟩:=E.eI d;refine⟨λy b=>?_,λz c=>?_⟩
 .rcases bS.1 b with b|b
  .exact h.1 y b
  .have b:y∈s.out++s.waits:=b;rw[e,ek]at b;exact h.2 s (bD d) y b
 .rcases gk c with c|rfl
  .exact h.2 z c
  .intro y b;cases b
theorem Ev{n:Nat}:∀ (l:List Nat) {w:WR} {h:cJ},(∀ j∈l,j<n)->fO n w h->iT w->∃ w' h',tF l w h=(w',h',true)/\fO n w' h'/\OR (M9 n) w w'/\phi w'=phi w/\∀ j∈l,vM j w'
 |[],w,h,_,S,d=>⟨w,h,rfl,S,.refl d,rfl,λj b=>by cases b⟩
 |a::l,w,h,hl,S,d=>by
  obtain⟨W,G,t,E,V,I,g⟩:=S.ew;have hs:w.sh[a]? =some (w.sh[a]'(by rw[g];exact hl a<|fX ..)):=cQ _;generalize w.sh[a]'_=s at hs;have e:=WX S.2.st d hs;obtain⟨h1,e1,_,k⟩:=S.eV 5 a 0;rw[e]at e1 k;obtain⟨P,R,_,r,_,_⟩:=E.eI hs;obtain⟨w',h',u,m,f,o,p⟩:=Ev l (λj b=>hl j<|fg _ b) k<|kA.up.sync a s E d g hs d;refine⟨w',h',?_,m,⟨f.up,f.aC,λInv T i=>f.inv Inv T<|T a s E d g hs i⟩,o.trans ?_,λj b=>?_⟩
  .grind [tF]
  .have h1:=ks {kH s with out:=[]} hs;unfold phi;show ws (w.aH++(s.out++s.waits))+jN (w.sh.set a {kH s with out:=[]})=_
   grind [ws,kH]
  .rcases gU.1 b with rfl|b
   .refine f.inv _ Ic λz q=>?_;rcases mh hs q with⟨_,rfl⟩|⟨c,_⟩
    .exact⟨rfl,rfl⟩
    .exact absurd rfl c
   .exact p j b
theorem Tx{w:WR}(h:Low r w)(hs:∀ s∈w.sh,s.waits=[]):BN (r-1) w:=by
 refine⟨λm a=>?_,λs b m a=>by rw[hs s b]at a;cases a⟩;have:=h.1 m a;cases r with
 |zero=>cases this
 |succ r=>grind [KB]
theorem qx{w:WR}(h:BN 0 w):w.aH=[]/\phi w=0:=by
 have e:w.aH=[]:=yE.2 λm a=>by have b:=h.1 m a;unfold KB at b;rw[ax (by decide)]at b;exact b
 refine⟨e,?_⟩;have e2:=Aa (c:=0) (l:=w.sh) λs hs=>by have:s.waits=[]:=yE.2 λm a=>h.2 s hs m a;rw[this];exact fC _
 grind [phi,ws]
theorem kA.afe{Inv:WR->Prop}(T:kA n Inv):M9 n Inv:=λj s E a b c i=>T.sync j s E a b c i
theorem Ew{n:Nat}:∀ (f r e:Nat) {w:WR} {h:cJ},fO n w h->iT w->BN r w->phi w+3000*r<3000*(f+1)+e->
  ∃ w' h',turns n f w h=(w',h',true)/\fO n w' h'/\OR (kA n) w w'/\(BN 0 w'\/phi w'<e)/\(0<f->∀ j,j<n->vM j w')
 |0,r,e,w,h,S,l,o,hp=>by
  refine⟨w,h,rfl,S,.refl l,?_,λz=>absurd z<|Nat.lt_irrefl 0⟩;cases r with
  |zero=>exact .inl o
  |succ r=>exact .inr ai
 |f+1,r,e,w,h,S,l,o,hp=>by
  obtain⟨a1,c,a,v⟩:=y0 3000 S l;generalize F:dC 3000 w=p at a1 c a v;obtain⟨d,H,b1,b2,b3,b4,b5⟩:=Ev (List.range n) (λj g=>iA.1 g) a1 c.up;have b:OR (kA n) p d:=⟨b3.up,b3.aC,λInv T i=>b3.inv Inv T.afe i⟩;have q:=c.inv _ kA.WY o;have x:∀ s∈d.sh,s.waits=[]:=λs hs=>by obtain⟨j,g⟩:=eX.1 hs;have y:=b2.1.1;exact(b5 j (iA.2 (by rw[<- y];exact(dd.1 g).1)) s g).1
  have key:∃ k,BN k d/\phi d+3000*k<3000*(f+1)+e:=by
   rcases a with a|a
   .have A:Low r p:=⟨λm t=>(by rw[a]at t;cases t),q.2⟩;have u:=Tx (b3.inv _ Tw A) x;refine⟨r-1,u,?_⟩;cases r with
    |zero=>have:=(qx u).2;omega
    |succ r=>simp only[Nat.add_sub_cancel];omega
   .exact⟨r,b.inv _ kA.WY q,ai⟩
  obtain⟨k,k1,k2⟩:=key;obtain⟨w',h',I,B,C,D,E⟩:=Ew f k e b2 b3.up k1 k2;refine⟨w',h',?_,B,(c.trans b).trans C,D,λ_=>?_⟩
  .grind [turns]
  .cases f with
   |zero=>grind [turns]
   |succ f=>exact E<|Nat.succ_pos f
theorem Ty{w:WR}(a:w.aj=false){x:TxR}(ht:w.aC[t]? =some x)(b:w.aH.length<400):eV w 1 t 0=({w with aH:=w.aH++[{bA with kind:=1,aX:= -1,to:=gp x.ops w.sh.length,tx:=t,ops:=x.ops}]},0):=by grind [eV,ic]
theorem BP{n:Nat}{h:cJ}:∀ (l:List Nat) {w:WR} (left:Nat),(∀ t∈l,t<w.aC.length)->fO n w h->w.aH.length+l.length<=400->
  ∃ B,asks l w left=({w with aH:=w.aH++B},left+B.length,true)/\fO n {w with aH:=w.aH++B} h/\B.length<=l.length/\(∀ m∈B,m.kind=1/\∃ x∈w.aC,x.state=1)/\∀ t∈l,∀ x,w.aC[t]? =some x->x.state=1->∃ m∈B,m.kind=1/\m.tx=t
 |[],w,left,_,S,_=>by
  have e:({w with aH:=w.aH++[]}:WR)=w:=by rw[lS]
  grind [asks]
 |t::l,w,left,hl,S,d=>by
  have f:=hl t<|fX ..;have a:w.aC[t]? =some (w.aC[t]):=cQ f;generalize w.aC[t]=x at a;have b:∀ t∈l,t<w.aC.length:=λt h=>hl t<|fg _ h;rw[nN]at d;unfold asks;rw[a];simp only[lQ,iG];by_cases hs:x.state=1
  .rw[aJ hs];have e:=Ty S.2.st a ai;have c:=S.calm 1 t 0 (by rw[e]);rw[e]at c;obtain⟨B,b1,b2,b3,b4,b5⟩:=BP (w:={w with aH:=w.aH++[_]}) l (left+1) b c (by show(w.aH++[_]).length+_<=_;rw[iV,iR];omega)
   grind [MsgR,WR,List.append_assoc,List.length_cons,List.mem_of_getElem?,List.mem_cons_self,List.mem_cons_of_mem]
  .rw[ax hs];obtain⟨B,b1,b2,b3,b4,b5⟩:=BP l left b S ai
   grind
def tL(n:Nat)(Inv:WR->Prop):Prop:=∀ {W w G} (j:Nat) (s:ShR),EW W w G->iT w->w.sh.length=n->w.sh[j]? =some s->Inv w->Inv (gf w j<|dv s)
theorem W0:tL n iT:=λj s E c d b h z a=>by
 rcases gk a with a|rfl
 .exact h z a
 .show(dv s).up=true;rw[(dO s).same.2.2.1];exact h s<|bD b
def BQ(j:Nat)(w:WR):Prop:=∀ s,w.sh[j]? =some s->s.under=[]
def vN(j:Nat)(w:WR):Prop:=∀ s,w.sh[j]? =some s->s.aQ=[]
def GB(j:Nat)(c:Int)(w:WR):Prop:=∀ s,w.sh[j]? =some s->c<=s.clock
theorem KE:tL n (BQ j):=λa s E d e c h z b=>by
 rcases mh c b with⟨rfl,rfl⟩|⟨_,b⟩
 .show(dv s).under=[];rw[(dO s).same.2.2.2.2.2.2.2.1];exact h s c
 .exact h z b
theorem BR(s:ShR):(dv s).clock=s.clock+1:=(dO s).same.2.2.2.2.2.2.2.2.2
theorem BS:tL n (GB j c):=λa s E e f d h z b=>by
 rcases mh d b with⟨rfl,rfl⟩|⟨_,b⟩
 .show c<=(dv s).clock;rw[BR];have:=h s d;omega
 .exact h z b
theorem W1{w:WR}(a:w.aj=false)(b:iT w)(hj:w.sh[j]? =some s):eV w 6 j 0=if 150<w.aH.length then(w,3)else(gf w j<|dv s,0):=by
 have c:=(dd.1 hj).1;unfold eV;rw[ax (by decide),a,ax (by decide),ax (by decide),ax (by decide),ax ai];have:w.sh[((j:Int)).toNat]? =some s:=by rw[gN];exact hj
 rw[this];simp only[];have d:=b s<|bD hj
 grind
def OS(s:ShR):Nat:=(s.timers.filter λt=>decide (t.tm<=s.clock)&& !t.again&&(aL s.log t.tx).isSome).length
theorem zB{p:dU->Bool}(l:List dU)(k:Nat):((l.eraseIdx k).filter p).length<=(l.filter p).length:=((kL ..).filter p).length_le
theorem vO:∀ (f:Nat) (s:ShR),s.under=[]->(eG f s).out.length<=s.out.length+OS s
 |0,s,_=>by unfold eG;omega
 |f+1,s,b=>by
  unfold eG;cases c:mD s.clock s.timers 0 none with
  |none=>dsimp only;omega
  |some p=>
   obtain⟨k,x⟩:=p;dsimp only;have d:=z9 s.timers 0 none (L:=s.timers) (by simp) rfl _ c;have a:=FO s.timers 0 none (by simp) _ c;dsimp only at d a;rw[xg];cases e:nI {s with timers:=s.timers.eraseIdx k} x with
   |none=>
    dsimp only;have g:=vO f {s with timers:=s.timers.eraseIdx k} b
    grind [OS,zB]
   |some q=>
    obtain⟨o,y⟩:=q;dsimp only;have h:=yi e;have i:x.again=false/\(aL s.log x.tx).isSome=true/\o.length=1:=by grind [nI,bP,Option.map_eq_some_iff,aL]
    have g:=vO f {s with timers:=s.timers.eraseIdx k++[y],out:=s.out++o} b
    grind [OS,dU,aL,rb,List.length_append]
theorem vP{n:Int}{s:ShR}(b:s.up=true)(R:dA T n P s)(hr:aL s.log tx=some i):∃ h∈s.aQ,h.tx=tx:=by
 obtain⟨_,r,h1,c,e⟩:=bG (cZ hr).2;have a:(P.log.map aR.aZ)[i]? =some r:=by rw[R.log];exact h1
 obtain⟨O,a1,d⟩:=R.tA.tw i r a;obtain⟨b1,b2,_⟩:=d c;unfold cu at b1;cases hp:br O s.me n with
 |nil=>rw[hp]at b1;cases b1
 |cons o l=>exact⟨⟨o.k,tx⟩,(R.kl b).lo tx i r (by rw[R.log];exact hr) a o (by rw[b2,hp];exact fX ..),rfl⟩
theorem aa9{n:Int}(d:s.up=true)(R:dA T n P s)(I:l6 t s)(a:s.aQ.length<=26)(c:Int):OS {s with clock:=c}<=26:=by
 refine GJ ?_ a;unfold OS;dsimp only;generalize b:(s.timers.filter λt=>decide (t.tm<=c)&& !t.again&&(aL s.log t.tx).isSome)=F;have e:∀ t∈F,t.again=false/\(aL s.log t.tx).isSome=true:=λt f=>by grind
 have hp:(F.map (·.tx)).Nodup:=by
  have h1:(F.map λt=>(t.again,t.tx)).Nodup:=I.tn.sublist (by rw[<- b];exact(LX).map _)
  grind
 have:=hp.length_le_of_subset (l₂:=s.aQ.map (·.tx)) λx g=>by grind [Option.isSome_iff_exists,vP]
 grind
structure Tk(n:Nat)(w w':WR):Prop where
 KF:OR (tL n) w w'
 aH:w.aH.length<=755->w'.aH.length<=755
 phi:phi w'+11*w.aH.length<=phi w+11*w'.aH.length
theorem Tk.refl{n:Nat}{w:WR}(h:iT w):Tk n w w:=⟨.refl h,id,fC _⟩
theorem Tk.trans{n:Nat}{a b c:WR}(h:Tk n a b)(k:Tk n b c):Tk n a c:=⟨h.KF.trans k.KF,λz=>k.aH<|h.aH z,by have:=h.phi;have:=k.phi;omega⟩
theorem Ie{h:cJ}{w:WR}(S:fO n w h)(b:iT w)(hj:w.sh[j]? =some s):fO n (eV w 6 j 0).1 h/\Tk n w (eV w 6 j 0).1/\((eV w 6 j 0).2=0\/(eV w 6 j 0).2=3)/\(BQ j w->(eV w 6 j 0).1.aH.length<=w.aH.length+26)/\(w.aH.length<=150->(eV w 6 j 0).1=gf w j (dv s)):=by
 obtain⟨W,G,t,E,V,I,g⟩:=S.ew;obtain⟨P,R,_,v,_,_⟩:=E.eI hj;have p:=b s<|bD hj;have e:=W1 S.2.st b hj;have d:=S.calm 6 j 0 (by
  rw[e];split
  .rfl
  .show(w.sh.set j {dv s with out:=[]}).map _=_;exact re hj (by show(dv s).aE.toNat=_;rw[(dO s).same.2.2.2.2.1]))
 rw[e]at d⊢;obtain⟨z,_,_,z1,z2⟩:=V.size E.f.rel<|bD hj;obtain⟨_,o,e1,e2,q⟩:=wZ (V.sh s<|bD hj) (by have:=E.f.rel.n;omega) z.timers;by_cases k:150<w.aH.length
 .rw[aJ k]at d⊢;exact⟨d,.refl b,.inr rfl,λ_=>Re _ _,λc=>by omega⟩
 .rw[ax k]at d⊢;have a:(gf w j<|dv s).aH.length=w.aH.length+o.length:=by
   show(w.aH++(dv s).out).length=_
   grind
  refine⟨d,⟨⟨W0 j s E b g hj b,rfl,λInv T i=>T j s E b g hj i⟩,λ_=>by rw[a];omega,?_⟩,.inl rfl,λf=>?_,λ_=>rfl⟩
  .have x:ws o<=11*o.length:=FQ λm l=>by
    rcases(dO s).M7 m (by rw[e1];exact fD _ l)with l|⟨t,o,y,r,u⟩
    .grind
    .exact(yj r m u).1
   have h1:=ks {dv s with out:=[]} hj;have A:ws ({dv s with out:=[]}:ShR).waits=ws s.waits:=by show ws (dv s).waits=_;rw[q]
   rw[a];unfold Go.Sl.phi;show ws (w.aH++(dv s).out)+jN (w.sh.set j {dv s with out:=[]})+_<=_
   grind [tC]
  .have B:=vO (xW {s with clock:=s.clock+1}+1) {s with clock:=s.clock+1}<|f s hj;have C:=aa9 p R (V.sh s<|bD hj) z.aQ<|s.clock+1
   grind [dv,OS,gf]
theorem qy{n:Nat}{h:cJ}:∀ (l:List Nat) {w:WR} (left:Nat),(∀ j∈l,j<n)->fO n w h->iT w->∃ w' d,gz l w left=(w',d,true)/\fO n w' h/\Tk n w w'/\
  (d=0->left=0/\w'=w/\∀ j∈l,vN j w)/\((∀ j∈l,BQ j w)->w'.aH.length<=w.aH.length+26*l.length)/\(left=0->(∀ j∈l,vN j w)->w'=w/\d=0)
 |[],w,left,_,S,f=>⟨w,left,rfl,S,.refl f,λz=>⟨z,rfl,λj v=>by cases v⟩,λ_=>fC _,λz _=>⟨rfl,z⟩⟩
 |j::l,w,left,hl,S,f=>by
  have y:=S.1.1;have hs:w.sh[j]? =some (w.sh[j]'(by rw[y];exact hl j<|fX ..)):=cQ _;generalize w.sh[j]'_=s at hs;have q:∀ i∈l,i<n:=λi hi=>hl i<|fg _ hi;unfold gz;dsimp only;rw[hs,lQ,iG];by_cases r:0<left+s.aQ.length
  .rw[aJ r];obtain⟨A,t1,B,b1,_⟩:=Ie S f hs;rw[ax (by rcases B with c|c<;>rw[c]<;>simp)];obtain⟨w',d,k,m,o,p,t,C⟩:=qy l (left+s.aQ.length) q A t1.KF.up;refine⟨w',d,k,m,t1.trans o,λz=>?_,λe=>?_,λz u=>?_⟩
   .have:=(p z).1;omega
   .have:=t λi hi=>t1.KF.inv _ KE<|e i<|fg _ hi
    grind
   .have:=u j (fX ..) s hs
    grind
  .rw[ax r];obtain⟨w',d,k,m,o,p,t,C⟩:=qy l (left+s.aQ.length) q S f;have D:s.aQ=[]:=yD ai;refine⟨w',d,k,m,o,λz=>?_,λe=>?_,λz u=>?_⟩
   .obtain⟨a,b,c⟩:=p z;refine⟨ai,b,λi hi=>?_⟩;rcases gU.1 hi with rfl|hi
    .intro x g;rw[hs]at g;injection g with g;subst g;exact D
    .exact c i hi
   .grind
   .grind
theorem y4(s:Nat)(r:List Nat)(w:WR)(left:Nat):gz (s::r) w left=(let l:=left+((w.sh[s]?).map (·.aQ.length)).getD 0
  if 0<l then let x:=eV w 6 s 0;if x.2≠0/\x.2≠3 then(x.1,l,false)else gz r x.1 l else gz r w l):=rfl
theorem yk:∀ (a b:List Nat) (w:WR) (left:Nat),gz (a++b) w left=if(gz a w left).2.2 then gz b (gz a w left).1 (gz a w left).2.1 else gz a w left
 |[],b,w,left=>rfl
 |j::a,b,w,left=>by
  rw[fJ,y4,y4 j a];dsimp only;split
  .split
   .rfl
   .exact yk a b _ _
  .exact yk a b _ _
def Goes(j:Nat)(w:WR)(left:Nat):Prop:=(0<left/\w.aH.length+26*j<=150/\∀ i,i<j->BQ i w)\/(left=0/\w.aH.length<=150/\(∀ i,i<j->vN i w)/\¬ vN j w)
theorem OT(h:j<n):∃ r,List.range n=List.range j++j::r/\∀ i∈r,i<n:=by
 obtain⟨k,rfl⟩:∃ k,n=j+(k+1):=⟨n-j-1,ai⟩;refine⟨(List.range k).map (j+ · +1),?_,λi hi=>?_⟩
 .rw[List.range_add,List.range_succ_eq_map];simp[Ao,Nat.add_assoc]
 .grind
theorem KG{h:cJ}{w:WR}{left q:Nat}(S:fO n w h)(t:iT w)(hj:j<n)(g:Goes j w left)(e:gz (List.range n) w left=(w',q,true))(hc:GB j c w):GB j (c+1) w':=by
 obtain⟨r,u,v⟩:=OT hj;obtain⟨a,d,a1,f,k,E,F,y⟩:=qy (List.range j) left (λi hi=>by have:=iA.1 hi;omega) S t;rw[u,yk,a1]at e;dsimp only at e;rw[aJ rfl]at e;have hs:a.sh[j]? =some (a.sh[j]'(by rw[f.1.1];exact hj)):=cQ _;generalize a.sh[j]'_=s at hs;have H:=k.KF.inv _ BS hc s hs;have key:0<d+s.aQ.length/\a.aH.length<=150:=by
  rcases g with⟨l,m,o⟩|⟨l,m,o,A⟩
  .grind
  .obtain⟨rfl,rfl⟩:=y l λi hi=>o i<|iA.1 hi;refine⟨?_,m⟩;rcases NQ s.aQ.length with z|z
   .exact absurd (λx b=>by rw[hs]at b;injection b with b;subst b;exact yD z) A
   .omega
 obtain⟨B,t1,C,_,D⟩:=Ie f k.KF.up hs;unfold gz at e;dsimp only at e;rw[hs,lQ,iG,aJ key.1,ax (by rcases C with c|c<;>rw[c]<;>simp)]at e;obtain⟨I,J,b1,b2,b3,_⟩:=qy r (d+s.aQ.length) v B t1.KF.up;rw[b1]at e;obtain rfl:=(JN e).1;refine b3.KF.inv _ BS λz p=>?_;rw[D key.2]at p;rcases mh hs p with⟨_,rfl⟩|⟨x,_⟩
 .grind [dv,BR]
 .exact absurd rfl x
def pJ(w:WR):Prop:=∀ x∈w.aC,x.state≠1
def y5(n aC f:Nat)(b:WR)(hb:cJ):WR×cJ×Bool:=
 let c:=asks (List.range aC) b b.aH.length
 if !c.2.2 then(c.1,hb,false)else
 let d:=gz (List.range n) c.1 c.2.1
 if !d.2.2 then(d.1,hb,false)else
 if d.2.1=0 then(d.1,hb,true)else im n aC f d.1 hb
theorem Ig:kA n (GB j c):=by
 refine⟨λm E _ _ _ _ _ _ h z b=>?_,λm s E _ _ _ _ hs _ h z b=>?_,λa s E _ _ d h z b=>?_⟩
 .rw[fS]at b;exact h z b
 .rcases mh hs b with⟨e,rfl⟩|⟨_,b⟩
  .show c<=(cm s m).clock;rw[(kz s m).1];exact h s (by rw[<- e];exact hs)
  .exact h z b
 .rcases mh d b with⟨rfl,rfl⟩|⟨_,b⟩
  .exact h s d
  .exact h z b
theorem Dd(s:ShR):(cD s).aE=s.aE/\(cD s).up=true:=by obtain⟨a,b,e⟩:=ll s.log (bY {s with up:=true}) s.log.length;unfold cD;dsimp only;rw[e];exact⟨rfl,rfl⟩
theorem KH{n:Nat}{w:WR}(a:w.sh.length=n)(b:iT w):∀ l:List Nat,(∀ j∈l,j<n)->JI l w=(w,true)
 |[],_=>rfl
 |j::l,hl=>by have hs:w.sh[j]? =some (w.sh[j]'(by rw[a];exact hl j<|fX ..)):=cQ _;unfold JI;rw[hs,lQ,iG,aJ<|b _<|bD hs];exact KH a b l λi hi=>hl i<|fg _ hi
theorem FT{n:Nat}{h:cJ}:∀ (l:List Nat) {w:WR},(∀ j∈l,j<n)->fO n w h->∃ w',JI l w=(w',true)/\fO n w' h/\w'.aC=w.aC/\(∀ (j:Nat) (s:ShR),w'.sh[j]? =some s->s.up=false->j∉l/\∃ a,w.sh[j]? =some a/\a.up=false)
 |[],w,_,S=>⟨w,rfl,S,rfl,λj s d hs=>⟨λz=>(by cases z),s,d,hs⟩⟩
 |j::l,w,hl,S=>by
  have f:=S.1.1;have hs:w.sh[j]? =some (w.sh[j]'(by rw[f];exact hl j<|fX ..)):=cQ _;generalize w.sh[j]'_=s at hs;have b:∀ i∈l,i<n:=λi hi=>hl i<|fg _ hi;unfold JI;rw[hs,lQ,iG];cases p:s.up with
  |true=>
   rw[aJ rfl];obtain⟨w',a1,g,k,m⟩:=FT l b S
   grind
  |false=>
   have q:=(dd.1 hs).1;have e:eV w 8 j 0=({w with sh:=w.sh.set j<|cD s},0):=by
    unfold eV;rw[ax (by decide),ax (by rw[S.2.st];decide),ax (by decide),ax (by decide),ax ai]
    grind
   obtain⟨o,r⟩:=Dd s;have c:=S.calm 8 j 0 (by rw[e];exact re hs<|by rw[o])
   rw[e]at c;rw[ax (by decide),e];dsimp only;rw[ax (λz=>z rfl)];obtain⟨w',a1,g,k,m⟩:=FT l b c
   grind
theorem Ih{b:WR}{e:cJ}(f:Nat)(S:fO n b e)(o:iT b)(hp:phi b<340):∃ B d h,y5 n b.aC.length f b e=(if h=0 then(d,e,true)else im n b.aC.length f d e)/\fO n d e/\Tk n {b with aH:=b.aH++B} d/\phi d<=11345/\
  (h=0->d=b/\b.aH=[]/\pJ b/\∀ j,j<n->vN j b)/\(b.aH=[]->pJ b->(∀ j,j<n->vN j b)->h=0)/\(∀ j,j<n->Goes j {b with aH:=b.aH++B} (b.aH.length+B.length)->∀ x,GB j x b->GB j (x+1) d)/\
  B.length<=60/\(∀ m∈B,m.kind=1/\∃ x∈b.aC,x.state=1)/\∀ t x,b.aC[t]? =some x->x.state=1->∃ m∈B,m.kind=1/\m.tx=(t:Nat):=by
 obtain⟨W,G,t,E,V,I,D⟩:=S.ew;have r:b.aC.length<=60:=by have:=E.f.rel.tok.2;simpa[cy]using this
 have F:b.aH.length<=339:=by grind [vf,phi,hp]
 obtain⟨B,a1,p,s,q,u⟩:=BP (List.range b.aC.length) b.aH.length (λt v=>iA.1 v) S (by rw[wq];omega);rw[wq]at s;obtain⟨d,h,t1,t2,t3,w,H,y⟩:=qy (List.range n) (b.aH.length+B.length) (λj a=>iA.1 a) p o;refine⟨B,d,h,?_,t2,t3,?_,λz=>?_,λz1 z2 k=>(y ?_ λj a=>k j<|iA.1 a).2,λj a g x c=>KG p o a g t1 c,ai,q,λt x c h1=>u t (iA.2 (dd.1 c).1) x c h1⟩
 .grind [y5]
 .have h1:=t3.phi;have i:({b with aH:=b.aH++B}:WR).aH.length=b.aH.length+B.length:=iV;have J:=t3.aH (by rw[i];omega)
  grind [phi,ws,jN,tC,vf]
 .obtain⟨z1,z2,k⟩:=w z;have A:b.aH=[]:=yD ai;have l:B=[]:=yD ai;subst l;refine⟨by rw[z2,lS],A,λx c h1=>?_,λj a=>k j<|iA.2 a⟩
  grind [List.mem_iff_getElem?]
 .have l:B=[]:=yE.2 λm C=>by obtain⟨_,x,c,h1⟩:=q m C;exact z2 x c h1
  rw[z1,l];rfl
theorem fO.WY{w:WR}{h:cJ}(S:fO n w h):BN 4 w:=
 ⟨λm _=>by unfold KB;rw[aJ (by decide)];trivial,λs hs m a=>(S.2.t s hs).wk m a⟩
theorem BT{f aC e:Nat}{w:WR}{h:cJ}(S:fO n w h)(c:iT w)(hp:phi w<21000+e):∃ b a,turns n 10 w h=(b,a,true)/\fO n b a/\OR (kA n) w b/\(BN 0 b\/phi b<e)/\∀ j,j<n->vM j b:=by
 obtain⟨b,a,a1,d,g,i,k⟩:=Ew 10 4 e S c S.WY ai
 grind
theorem yl{aC:Nat}{w a:WR}{h c:cJ}(hu:JI (List.range n) w=(a,true))(e:turns n 10 a h=(b,c,true)):im n aC (f+1) w h=y5 n aC f b c:=by
 conv=>lhs;unfold im
 rw[hu];dsimp only;rw[e];rfl
structure Quiet(n:Nat)(w:WR):Prop where
 up:iT w
 aH:w.aH=[]
 syn:∀ j,j<n->vM j w
structure Na(n:Nat)(b b':WR):Prop where
 ex:∃ B:List MsgR,B.length<=60/\(∀ m∈B,m.kind=1/\∃ x∈b.aC,x.state=1)/\(∀ t x,b.aC[t]? =some x->x.state=1->∃ m∈B,m.kind=1/\m.tx=(t:Nat))/\
  (∀ K Inv:WR->Prop,tL n K->kA n Inv->(∀ w,K w->Inv w)->K {b with aH:=B}->Inv b')/\∀ j,j<n->Goes j {b with aH:=B} B.length->∀ x,GB j x b->GB j (x+1) b'
theorem Tz{l:cJ}(f:Nat)(S:fO n b l)(q:Quiet n b):
  (y5 n b.aC.length (f+1) b l=(b,l,true)/\pJ b/\∀ j,j<n->vN j b)\/∃ b' o,y5 n b.aC.length (f+1) b l=y5 n b'.aC.length f b' o/\fO n b' o/\Quiet n b'/\Na n b b'/\¬ (pJ b/\∀ j,j<n->vN j b):=by
 have hp:phi b<340:=by
  have:BN 0 b:=⟨λm c=>(by rw[q.aH]at c;cases c),λs hs m c=>by obtain⟨j,a⟩:=eX.1 hs;have:=(q.syn j (by rw[<- S.1.1];exact(dd.1 a).1) s a).1;rw[this]at c;cases c⟩
  have:=(qx this).2;omega
 obtain⟨B,d,v,r,t,h,I,J,w,u,A,C,D⟩:=Ih (f+1) S q.up hp;rw[q.aH]at h u;by_cases z:v=0
 .grind
 .rw[ax z]at r;obtain⟨b',o,t1,t2,t3,p,E⟩:=BT (f:=0) (aC:=0) (e:=0) t h.KF.up ai;have p:BN 0 b':=p.resolve_right<|Au _;have F:b'.aC.length=b.aC.length:=t3.aC.trans h.KF.aC;refine .inr ⟨b',o,?_,t2,⟨t3.up,(qx p).1,E⟩,⟨B,A,C,D,λK Inv T U k i=>t3.inv Inv U<|k _<|h.KF.inv K T i,λj a g x H=>t3.inv _ Ig<|u j a (by rw[CM,lR];exact g) x H⟩,λy=>z<|w q.aH y.1 y.2⟩;rw[r,F];exact yl (KH t.1.1 h.KF.up _ λj a=>iA.1 a) t1
theorem uE(hm:w.aH[0]? =some m)(h:uD w y):y=m\/uD (jV {w with aH:=w.aH.eraseIdx 0} m) y:=by
 rcases h with h|⟨s,hs,h⟩
 .rcases mg hm h with h|h
  .exact .inl h
  .exact .inr<|.inl (by rw[oE];exact h)
 .exact .inr<|.inr ⟨s,by rw[fS];exact hs,h⟩
theorem KI(h:uD (jV {w with aH:=w.aH.eraseIdx 0} m) y):uD w y:=by
 rcases h with h|⟨s,hs,h⟩
 .rw[oE]at h;exact .inl<|uW h
 .rw[fS]at hs;exact .inr ⟨s,hs,h⟩
theorem Ii{s:ShR}{y:MsgR}(ha:w.sh[a]? =some s)(c:∀ y∈s.waits,y∈s'.out\/y∈s'.waits)(h:uD w y):uD (gf w a s') y:=by
 rcases h with h|⟨z,d,h⟩
 .exact .inl<|iq _ h
 .obtain⟨j,b⟩:=eX.1 d;by_cases e:a=j
  .subst e;rw[ha]at b;injection b with b;subst b
   rcases c y h with h|h
   .exact .inl<|fD _ h
   .exact .inr ⟨{s' with out:=[]},eX.2 ⟨a,by show(w.sh.set _ _)[_]? =_;rw[rB (dd.1 ha).1]⟩,h⟩
  .exact .inr ⟨z,eX.2 ⟨j,by show(w.sh.set _ _)[_]? =_;rw[rC e];exact b⟩,h⟩
theorem ym(h:uD (gf w a s') y):uD w y\/y∈s'.out\/y∈s'.waits:=by
 rcases h with h|⟨z,b,h⟩
 .rcases bS.1 h with h|h
  .exact .inl<|.inl h
  .exact .inr<|.inl h
 .rcases gk b with b|rfl
  .exact .inl<|.inr ⟨z,b,h⟩
  .exact .inr<|.inr h
theorem qz(ha:w.sh[a]? =some s)(h:uD w y):uD (gf w a<|kH s) y:=Ii ha (λy b=>.inl<|fD _ b) h
theorem qA(ha:w.sh[a]? =some s)(h:uD w y):uD (gf w a<|dv s) y:=Ii ha (λy b=>.inr (by rw[(dO s).same.2.2.2.2.2.2.2.2.1];exact b)) h
theorem Quiet.air(q:Quiet n w)(b:w.sh.length=n):∀ m,¬ uD w m:=by
 rintro m (h|⟨s,hs,h⟩)
 .rw[q.aH]at h;cases h
 .obtain⟨j,a⟩:=eX.1 hs;rw[(q.syn j (by rw[<- b];exact(dd.1 a).1) s a).1]at h;cases h
theorem EW.aa(E:EW W w G)(d:∀ m,¬ uD w m)(hj:w.sh[j]? =some s)(hu:u∈s.under):¬ tJ w w.sh.length u:=by
 intro h;obtain⟨P,R,_,_,_,e⟩:=E.eI hj;have f:=E.f.rel.tok.of<|R.H4 u hu;have g:=E.f.rel.n;cases b:u.dec with
 |false=>
  have:=e.v u hu b;rw[R.n2,(mR f ai).2 λk c=>(h.1 b k c).resolve_right λ⟨m,a,_⟩=>d m a]at this;cases this
 |true=>
  have:=e.a u hu b;rw[R.n2,(mR f ai).2 λk c=>(h.2 b k c).resolve_right λ⟨m,a,_⟩=>d m a]at this;cases this
theorem OU(E:EW W w G)(ha:w.sh[a]? =some s)(A:s.aE=s.log.length)(hu:u∈s.under){t:dU}(f:t.again=true)(e:t.tx=u.tx)(c:Int)(hf:∀ o x,nI {s with clock:=c} t=some (o,x)->∀ m∈o,m∈(dv s).out):tJ (gf w a<|dv s) w.sh.length u:=by
 obtain⟨P,R,_,_,q,_⟩:=E.eI ha;have r:=E.f.rel.tok.of<|R.H4 u hu;have B:=E.f.rel.n;have l:s.n=w.sh.length:=R.n2;have y:∀ m∈ra s u t.tx,uD (gf w a<|dv s) m:=λm g=>by refine .inl<|fD _<|hf (ra s u t.tx) ⟨c+4,true,t.tx⟩ ?_ m g;obtain⟨j,v,f1,f2,f3⟩:=xh hu;have:=Bx q.g.nd (bD f2) hu f3;subst this;unfold nI;rw[aJ f,e];show((bP s.under v.tx).bind λi=>(s.under[i]?).map λz=>_)=_;rw[f1];show(s.under[j]?).map _=_;rw[f2];rfl
 have n:∀ k,cu u.ops k w.sh.length=true->∀ m∈xf s u t.tx k (br u.ops k s.n) s.me,uD (gf w a<|dv s) m:=λk b m g=>by refine y m (E5.2 ⟨k,FN.2 ⟨?_,by rw[l];exact b⟩,g⟩);rw[l];exact fM r ai b
 refine⟨λp k b=>?_,λp k b=>?_⟩
 .by_cases h:(bJ u k).isSome=true
  .exact .inl h
  .refine .inr ⟨{bA with kind:=2,aX:=s.me,to:=k,tx:=t.tx,ops:=br u.ops k s.n},n k b _ ?_,e,.inl ⟨rfl,rfl⟩⟩
   grind [xf]
 .by_cases h:u.cf.contains k=true
  .exact .inl h
  .refine .inr ⟨{bA with kind:=4,aX:=s.me,to:=k,tx:=t.tx,yes:=u.yes},n k b _ ?_,e,.inl ⟨rfl,rfl⟩⟩;have C:H6 s t.tx=true:=by unfold H6;have:=E.ub s (bD ha) u hu;rw[p]at this;obtain⟨d,h1⟩:=oM.1 this.symm;rw[e,h1];have:=(bG h1).1;exact wm ai
   grind [xf]
def Ze(j:Nat)(C:Int)(w:WR):Prop:=∀ s,w.sh[j]? =some s->∀ u∈s.under,tJ w w.sh.length u\/∃ t∈s.timers,t.again=true/\t.tx=u.tx/\t.tm<=C
theorem BU(w:WR)(a:Nat)(s:ShR):(gf w a s).sh.length=w.sh.length:=eF
theorem TA:kA n (Ze j C):=by
 refine⟨λm E _ _ p _ A _ h z f u g=>?_,λ{W w G} m s E _ _ p q hs _ h z f u g=>?_,λa s E _ _ l h z f u g=>?_⟩
 .rw[fS]at f⊢;exact(h z f u g).imp (λo=>o.same λy i B D=>(uE p i).resolve_left λe=>by subst e;omega) id
 .have k:(nM w 0 m s).sh.length=w.sh.length:=BU ..;rw[k];rcases OP E p q hs f g with o|⟨r,v,a,b,c,d⟩
  .exact .inl o
  .rcases h r a v b with o|⟨t,t1,t2,t3,x⟩
   .exact .inl<|d o
   .refine .inr ⟨t,?_,t2,t3.trans c,x⟩;rcases mh hs f with⟨e,rfl⟩|⟨_,f⟩
    .grind [kz]
    .grind
 .rw[BU];rcases mh l f with⟨rfl,rfl⟩|⟨_,f⟩
  .exact(h s l u g).imp (λo=>o.same λy i _ _=>qz l i) id
  .exact(h z f u g).imp (λo=>o.same λy i _ _=>qz l i) id
theorem Ij:tL n (vM j):=λa s E g i c h z b=>by
 obtain⟨_,_,_,d,e,_,_,_,f,_⟩:=(dO s).same;rcases mh c b with⟨rfl,rfl⟩|⟨_,b⟩
 .show(dv s).waits=[]/\(dv s).aE=(dv s).log.length;rw[f,e,d];exact h s c
 .exact h z b
theorem TB:tL n λw=>Ze j C w/\vM j w:=λa s E f g b h=>by
 refine⟨λz d u c=>?_,Ij a s E f g b h.2⟩;rw[BU];rcases mh b d with⟨rfl,rfl⟩|⟨_,d⟩
 .have k:=dO s;have c:u∈(dv s).under:=c;rw[k.same.2.2.2.2.2.2.2.1]at c;rcases h.1 s b u c with o|⟨t,t1,t2,t3,i⟩
  .exact .inl (o.same λy e _ _=>qA b e)
  .by_cases l:t.tm<=s.clock+1
   .exact .inl (OU E b (h.2 s b).2 c t2 t3 (s.clock+1) λo x m=>(k.H7 t t1 l o x m).1)
   .exact .inr ⟨t,k.keep t t1 (by show s.clock+1<t.tm;omega),t2,t3,i⟩
 .exact(h.1 z d u c).imp (λo=>o.same λy e _ _=>qA b e) id
theorem OV{W:WP}{w:WR}{G:Gl}(E:EW W w G)(q:Quiet n w)(b:w.sh.length=n)(h:Ze j C w)(hc:GB j C w):BQ j w:=λs hs=>by
 refine yE.2 λu a=>?_;rcases h s hs u a with o|⟨t,t1,_,_,c⟩
 .exact E.aa (q.air b) hs a o
 .have:=(E.t s<|bD hs).t3 t t1;have:=hc s hs;omega
theorem Ey{W:WP}{w:WR}{G:Gl}(E:EW W w G)(b:iT w)(hs:w.sh[j]? =some s):Ze j (s.clock+4) w/\GB j s.clock w:=by
 refine⟨λz a u c=>?_,λz a=>by rw[hs]at a;injection a with a;subst a;exact mI _⟩;rw[hs]at a;injection a with a;subst a
 exact .inr<|(E.t s<|bD hs).t1 (b s<|bD hs) u c
theorem W2{B:List MsgR}(a:b.aH=[])(h:uD b y):uD {b with aH:=B} y:=by
 rcases h with h|h
 .rw[a]at h;cases h
 .exact .inr h
theorem Na.stk(N:Na n b b')(q:Quiet n b)(hj:j<n)(h:Ze j C b):Ze j C b':=by obtain⟨B,_,_,_,k,_⟩:=N.ex;refine k _ _ TB TA (λw z=>z.1) ⟨λs hs u a=>?_,q.syn j hj⟩;exact(h s hs u a).imp (λo=>o.same λy c _ _=>W2 q.aH c) id
theorem Na.clk(N:Na n b b')(h:GB j C b):GB j C b':=by obtain⟨B,_,_,_,k,_⟩:=N.ex;exact k _ _ BS Ig (λw z=>z) h
def TC(t:Nat)(w:WR):Prop:=∀ x,w.aC[t]? =some x->x.state≠1
theorem OW{aC:List TxR}{x:TxR}(h:(jE aC m)[t]? =some x):x.state≠1\/(aC[t]? =some x/\t≠m.tx.toNat):=by grind [jE]
theorem BV{w:WR}(h:TC t w\/t=m.tx.toNat):TC t (jV {w with aH:=w.aH.eraseIdx 0} m):=by
 rw[ng];intro x a;rcases OW a with c|⟨b,d⟩
 .exact c
 .exact h.resolve_right d x b
theorem aba{K:A->Prop}{l:List A}{a:Nat}{x y:A}(ha:l[a]? =some y)(c:K y->K x)(h:∃ s∈l,K s):∃ s∈l.set a x,K s:=by
 obtain⟨s,hs,k⟩:=h;obtain⟨j,b⟩:=eX.1 hs;by_cases e:a=j
 .subst e;rw[ha]at b;injection b with b;subst b
  exact⟨x,eX.2 ⟨a,rB (dd.1 ha).1⟩,c k⟩
 .exact⟨s,eX.2 ⟨j,by rw[rC e];exact b⟩,k⟩
theorem uF{K:ShR->Prop}{w:WR}{a:Nat}{s s':ShR}(ha:w.sh[a]? =some s)(b:K s->K {s' with out:=[]})(h:∃ s∈w.sh,K s):∃ z∈(gf w a s').sh,K z:=by have:=aba (x:=({s' with out:=[]}:ShR)) ha b h;exact this
def KnE(t:Int)(s:ShR):Prop:=(aM s.log 2 t).isSome=true\/t∈s.under.map (·.tx)
theorem W3{s:ShR}(j:∀ u∈s.under,u.dec=(aM s.log 2 u.tx).isSome)(f:s.n<=4){t:Int}(h:KnE t s):KnE t (cm s m):=by
 have g:(aM s.log 2 t).isSome=true->KnE t (cm s m):=λh=>by
  left;obtain⟨_,o,x,_,_,_,c⟩:=OH s m f
  grind [dX]
 rcases h with h|h
 .exact g h
 rcases gQ s m with⟨a,e⟩|⟨a,e⟩|⟨a,e⟩|⟨a,e⟩|⟨a,e⟩|⟨a,e⟩|⟨a,e⟩
 .rw[e];right
  grind [aM,bP,kE,Option.isSome_eq_false_iff,Option.isNone_iff_eq_none,kD,List.mem_append_left]
 .right;rw[(kz s m).2.2.2 ai ai ai];exact h
 .rw[e];right
  grind [oD,tH,oC,gI,dS]
 .right;rw[(kz s m).2.2.2 ai ai ai];exact h
 .rcases q8 (s:=s) (m:=m)with⟨e2,_⟩|⟨i,u,_,hi,_,k,⟨_,e2⟩|⟨_,e2⟩⟩
  .rw[e,e2];exact .inr h
  .obtain⟨v,b,d⟩:=cq.1 h;rcases mg hi b with rfl|b
   .grind
   .rw[e,e2];exact .inr<|cq.2 ⟨v,b,d⟩
  .rw[e,e2];right
   grind [tH]
 .right;rw[(kz s m).2.2.2 ai ai ai];exact h
 .right;rw[e];exact h
theorem TD(a:m.kind=1):KnE m.tx (cm s m):=by grind [cm,gZ,aM,bP,KnE,x9,kE,Option.isSome_eq_false_iff,Option.isNone_iff_eq_none,kD,List.mem_append_right,List.mem_singleton]
def Pd(t:Nat)(w:WR):Prop:=TC t w\/(∃ s∈w.sh,KnE t s)\/∃ m,uD w m/\m.kind=1/\m.tx=t
theorem Ib{W:WP}{w:WR}{G:Gl}(E:EW W w G)(hs:w.sh[a]? =some s):s.n<=4:=by obtain⟨P,R,_⟩:=E.eI hs;have:=R.n2;have:=E.f.rel.n;omega
theorem W4:kA n (Pd t):=by
 refine⟨λm E _ _ f _ i _ h=>?_,λ{W w G} m s E _ _ f j hs _ h=>?_,λa s E _ _ g h=>?_⟩
 .rcases h with h|h|⟨y,b,c,d⟩
  .exact .inl<|BV<|.inl h
  .exact .inr<|.inl (by rw[fS];exact h)
  .exact .inr<|.inr ⟨y,(uE f b).resolve_left λe=>by subst e;omega,c,d⟩
 .rcases h with h|h|⟨y,b,c,d⟩
  .exact .inl h
  .exact .inr<|.inl<|uF (w:={w with aH:=w.aH.eraseIdx 0}) (s':=cm s m) hs (λk=>W3 (m:=m) (E.ub s<|bD hs) (Ib E hs) k) h
  .rcases(tK f hs<|Ib E hs).1 y b with rfl|b
   .refine .inr<|.inl ⟨_,eX.2 ⟨y.to.toNat,rB (dd.1 hs).1⟩,?_⟩;rw[<- d];exact TD c
   .exact .inr<|.inr ⟨y,b,c,d⟩
 .rcases h with h|h|⟨y,b,c,d⟩
  .exact .inl h
  .exact .inr<|.inl<|uF (s':=kH s) g (λk=>k) h
  .exact .inr<|.inr ⟨y,qz g b,c,d⟩
theorem W5:tL n (Pd t):=λa s E _ _ b h=>by
 obtain⟨_,_,_,c,_,_,_,d,_,_⟩:=(dO s).same;rcases h with h|h|⟨y,e,f,g⟩
 .exact .inl h
 .refine .inr<|.inl<|uF (s':=dv s) b (λk=>?_) h;show(aM (dv s).log 2 t).isSome=true\/(t:Int)∈(dv s).under.map (·.tx);rw[c,d];exact k
 .exact .inr<|.inr ⟨y,qA b e,f,g⟩
def Dn(t:Int)(s:ShR):Prop:=∃ (i:Nat) (r:RecR),s.log[i]? =some r/\(i:Int)<s.aE/\r.kind=2/\r.tx=t
theorem W6{t:Int}(a:s.n<=4)(h:Dn t s):Dn t {cm s m with out:=[]}:=by
 obtain⟨i,r,h1,b,d⟩:=h;obtain⟨g,o,x,_,_,_,c⟩:=OH s m a;refine⟨i,r,?_,by show(i:Int)<(cm s m).aE;rw[g];exact b,d⟩
 grind
theorem Nb{W:WP}{w:WR}{G:Gl}(E:EW W w G){t:Int}(g:∃ s∈w.sh,Dn t s){s:ShR}(ha:w.sh[a]? =some s)(hh:kI w t=s.me):∃ d:Nat,aM s.log 2 t=some d/\(d:Int)<s.aE:=by
 obtain⟨z,h,i,r,h1,o,b,c⟩:=g;obtain⟨j,e⟩:=eX.1 h;obtain⟨_,_,_,_,f,_⟩:=E.eI e;have:=f.e.hm i r h1 b;rw[c,hh]at this;obtain⟨_,rfl⟩:=E.me ha e this;cases k:aM s.log 2 t with
 |none=>grind [iM,List.mem_of_getElem?]
 |some d=>
  obtain⟨_,q,l,m,n⟩:=bG k;have:=f.g.uniq i d r q h1 l b m (by rw[c,n]);exact⟨d,rfl,ai⟩
def Pr(t:Nat)(w:WR):Prop:=TC t w\/((∃ s∈w.sh,Dn t s)/\∃ m,uD w m/\(m.kind=1\/m.kind=7)/\m.tx=t)
theorem W7:kA n (Pr t):=by
 refine⟨λm E _ _ j _ v _ h=>?_,λ{W w G} m s E _ _ j x hs _ h=>?_,λa s E _ _ k h=>?_⟩
 .rcases h with h|⟨h,y,b,f,c⟩
  .exact .inl<|BV<|.inl h
  .rcases uE j b with rfl|b
   .exact .inl<|BV<|.inr ai
   .exact .inr ⟨by rw[fS];exact h,y,b,f,c⟩
 .rcases h with h|⟨h,y,b,f,c⟩
  .exact .inl h
  .have h':∃ z∈(nM w 0 m s).sh,Dn t z:=uF (w:={w with aH:=w.aH.eraseIdx 0}) (s':=cm s m) hs (W6<|Ib E hs) h;obtain⟨a1,o,_⟩:=tK j hs<|Ib E hs;rcases a1 y b with rfl|b
   .have l:=bD j;obtain⟨O,_,A⟩:=E.f.rel.msg y l;have k1:y.kind=1:=f.resolve_right λB=>by grind
    have p:=E.f.rel.S8.home y l<|.inl k1;obtain⟨P,R,C,_⟩:=E.eI hs;obtain⟨d,f1,f2⟩:=Nb E h hs (by rw[<- c,p];omega);have e:cm s y=gZ s y:=by unfold cm;rw[aJ k1]
    rw[<- c]at f1;rcases kE (s:=s) (m:=y) (.inl (by rw[f1];rfl))with⟨q,r,_,_,_,e2⟩|⟨_,⟨q,g,D⟩|⟨g,_⟩⟩
    .exact .inr ⟨h',{bA with kind:=7,aX:=s.me,to:= -1,tx:=y.tx,yes:=r.yes,reads:=r.reads},o _ (by rw[e,e2];exact fD _<|dR.2 rfl),.inr rfl,c⟩
    .rw[f1]at g;injection g with g;omega
    .rw[f1]at g;cases g
   .exact .inr ⟨h',y,b,f,c⟩
 .rcases h with h|⟨h,y,b,f,c⟩
  .exact .inl h
  .refine .inr ⟨uF (s':=kH s) k (λ⟨i,r,h1,F,u⟩=>⟨i,r,h1,?_,u⟩) h,y,qz k b,f,c⟩;have:=(dd.1 h1).1;show(i:Int)<(s.log.length:Int);omega
theorem W8:tL n (Pr t):=λa s E _ _ b h=>by
 obtain⟨_,_,_,g,j,_,_,_,_,_⟩:=(dO s).same;rcases h with h|⟨h,y,c,d,e⟩
 .exact .inl h
 .refine .inr ⟨uF (s':=dv s) b (λ⟨i,r,h1,k,f⟩=>⟨i,r,?_,?_,f⟩) h,y,qA b c,d,e⟩
  .grind
  .grind
theorem Na.pd(N:Na n b b')(t:Nat):Pd t b':=by
 obtain⟨B,_,_,a,k,_⟩:=N.ex;refine k _ _ W5 W4 (λw z=>z) ?_;by_cases h:TC t b
 .exact .inl h
 .unfold TC at h;simp only[Rf,sB]at h;obtain⟨x,c,h1⟩:=h;obtain⟨m,d,e⟩:=a t x c h1;exact .inr<|.inr ⟨m,.inl d,e⟩
theorem Na.pr{b:WR}(N:Na n b b')(a:TC t b\/∃ s∈b.sh,Dn t s):Pr t b':=by
 obtain⟨B,_,_,c,k,_⟩:=N.ex;refine k _ _ W8 W7 (λw z=>z) ?_;by_cases h:TC t b
 .exact .inl h
 .have a:=a.resolve_left h;unfold TC at h;simp only[Rf,sB]at h;obtain⟨x,d,h1⟩:=h;obtain⟨m,e,f,g⟩:=c t x d h1;exact .inr ⟨a,m,.inl e,.inl f,g⟩
theorem TE{w:WR}(q:Quiet n w)(b:w.sh.length=n)(hu:∀ j,j<n->BQ j w)(h:Pd t w):TC t w\/∃ s∈w.sh,Dn t s:=by
 rcases h with h|⟨s,hs,h⟩|⟨m,e,_⟩
 .exact .inl h
 .obtain⟨j,a⟩:=eX.1 hs;have c:j<n:=by rw[<- b];exact(dd.1 a).1
  refine .inr ⟨s,hs,?_⟩;rcases h with h|h
  .obtain⟨d,f⟩:=oM.1 h;obtain⟨hl,r,h1,g,i⟩:=bG f;exact⟨d,r,h1,by rw[(q.syn j c s a).2];omega,g,i⟩
  .rw[hu j c s a]at h;cases h
 .exact absurd e<|q.air b m
theorem TF{w:WR}(q:Quiet n w)(a:w.sh.length=n)(h:Pr t w):TC t w:=by
 rcases h with h|⟨_,m,b,_⟩
 .exact h
 .exact absurd b<|q.air a m
structure Ez(w:WR):Prop where
 st:∀ x∈w.aC,x.state=2\/x.state=3
 no:∀ m,uD w m->m.kind≠1/\m.kind≠2
theorem Ez.dec(D:Ez w)(E:EW W w G){tx:Int}(h:(opsOf (cy w.aC) tx).isSome=true):∃ x,G.dec tx=some x:=by
 obtain⟨O,h⟩:=oM.1 h;obtain⟨f,h1,_⟩:=ie h;have hl:(cy w.aC).length=w.aC.length:=by simp[cy]
 have d:w.aC[tx.toNat]? =some (w.aC[tx.toNat]'(by omega)):=cQ _;generalize w.aC[tx.toNat]'_=x at d;obtain⟨a,b⟩:=E.f.xJ.aC tx.toNat x d;have e:((tx.toNat:Nat):Int)=tx:=ai;rw[e]at a b;rcases D.st x (bD d)with c|c
 .exact⟨_,a c⟩
 .exact⟨_,(b c).choose_spec⟩
theorem KJ{aC:List TxR}(h:∀ x∈aC,x.state=2\/x.state=3)(m:MsgR):jE aC m=aC:=by grind [jE]
theorem OX{s:ShR}(j:∀ y∈s.waits,y.kind=3\/y.kind=4\/y.kind=5\/y.kind=7)(f:s.n<=4)(c:s.out=[])(h1:m.kind≠1)(k:m.kind≠2):∀ y,y∈(cm s m).out\/y∈(cm s m).waits->y.kind≠1/\y.kind≠2:=by
 obtain⟨o,x,e1,e2,l,g,h,i⟩:=BO s m f c;rintro y (a|a)
 .rcases gQ s m with⟨b,e⟩|⟨b,e⟩|⟨b,e⟩|⟨b,e⟩|⟨b,e⟩|⟨b,e⟩|⟨b,e⟩
  .omega
  .omega
  .rw[e1,(g b).1]at a;cases a
  .rw[e1]at a;have:=(h b).1 y a;omega
  .rw[e1,(i<|.inl b).1]at a;cases a
  .rw[e]at a;rcases q9 (s:=s) (m:=m)with⟨d,r,_,_,_,e⟩|⟨d,_,_,e⟩|⟨_,_,e⟩|⟨_,_,e⟩<;>rw[e]at a
   .grind
   .rw[c]at a;cases a
   .rw[c]at a;cases a
   .grind
  .rw[e,c]at a;cases a
 .grind
theorem TG{s:ShR}{t:dU}{o:List MsgR}(hu:∀ u∈s.under,u.dec=true)(h:nI s t=some (o,x)):∀ m∈o,m.kind≠1/\m.kind≠2:=by grind [yj,nI,Option.bind_eq_some_iff,Option.map_eq_some_iff,ra,xf,List.mem_of_getElem?,List.mem_singleton]
theorem vQ:kA n Ez:=by
 refine⟨λm E _ _ d _ h _ D=>⟨?_,λy b=>D.no y<|KI b⟩,λ{W w G} m s E _ _ d i hs _ D=>⟨D.st,λy b=>?_⟩,λa s E _ _ e D=>⟨D.st,λy b=>?_⟩⟩
 .rw[ng];show∀ x∈jE _ m,_;rw[KJ D.st];exact D.st
 .obtain⟨P,R,_,c,_,f⟩:=E.eI hs;have g:=D.no m<|.inl<|bD d;rcases ym b with b|b
  .refine D.no y ?_;rcases b with b|b
   .exact .inl<|uW b
   .exact .inr b
  .exact OX f.wk (Ib E hs) c g.1 g.2 y b
 .obtain⟨P,R,_,c,_,f⟩:=E.eI e;rcases ym b with b|b|b
  .exact D.no y b
  .have b:y∈s.out++s.waits:=b;rw[c,ek]at b;exact D.no y<|.inr ⟨s,bD e,b⟩
  .cases b
theorem KM:tL n Ez:=λ{W w G} a s E _ _ d D=>by
 refine⟨D.st,λy b=>?_⟩;obtain⟨P,R,_,h,_,i⟩:=E.eI d;have k:=dO s;rcases ym b with b|b|b
 .exact D.no y b
 .rcases k.M7 y b with b|⟨t,o,x,e,f⟩
  .grind
  .refine TG (λu c=>?_) e y f;have c:u∈s.under:=c;obtain⟨x,g⟩:=D.dec E (tx:=u.tx) (by rw[R.H4 u c];rfl);exact E.M8 d c g
 .rw[k.same.2.2.2.2.2.2.2.2.1]at b;exact D.no y<|.inr ⟨s,bD d,b⟩
theorem KN(c:m.kind≠2)(h:aL (cm s m).log tx=some i):aL s.log tx=some i/\¬ (m.kind=4/\m.tx=tx):=by
 have push:∀ {r:RecR},r.kind=2->aL (s.log++[r]) tx=some i->aL s.log tx=some i:=λ{r} b h=>by grind [oW,isRec]
 rcases gQ s m with⟨a,e⟩|⟨a,e⟩|⟨a,e⟩|⟨a,e⟩|⟨a,e⟩|⟨a,e⟩|⟨a,e⟩
 .grind [aM,bP,kE,Option.isSome_eq_false_iff,Option.isNone_iff_eq_none,kD]
 .exact absurd a c
 .grind [oD]
 .rw[e]at h;rcases mU (s:=s) (m:=m)with⟨d,b,_,⟨_,e⟩|⟨_,e⟩⟩|⟨b,_,_,e⟩|⟨_,vl,f,e⟩<;>rw[e]at h
  .grind
  .grind
  .grind
  .grind [aL,oW,isRec,dz]
 .grind [q8]
 .refine⟨?_,λz=>by omega⟩;rw[e]at h;rcases q9 (s:=s) (m:=m)with⟨d,r,_,_,_,e⟩|⟨d,_,_,e⟩|⟨_,_,e⟩|⟨_,_,e⟩<;>rw[e]at h
  .exact h
  .exact h
  .exact h
  .exact push rfl h
 .grind
def Rdy(p:Prop)(j:Nat)(C:Int)(w:WR):Prop:=∀ s,w.sh[j]? =some s->∀ tx i,aL s.log tx=some i->p/\((∃ m,uD w m/\m.tx=tx/\((m.kind=6/\m.aX=j)\/(m.kind=4/\m.to=j)))\/∃ t∈s.timers,t.again=false/\t.tx=tx/\t.tm<=C)
def OY(p:Prop)(j:Nat)(C:Int)(w:WR):Prop:=Ez w/\Rdy p j C w
theorem OZ{n:Int}(R:dA T n P s)(hr:aL s.log tx=some i):(opsOf T tx).isSome=true:=by obtain⟨_,r,h1,b,a⟩:=bG (cZ hr).2;obtain⟨O,a1,_⟩:=R.tA.tw i r (by rw[R.log];exact h1);rw[<- a,a1];rfl
theorem TH:kA n (OY p j C):=by
 refine⟨λm E g l o K F A h=>⟨vQ.xa m E g l o K F A h.1,λz b tx i q=>?_⟩,λ{W w G} m s E g l o A hs L h=>⟨vQ.take m s E g l o A hs L h.1,λz b tx i q=>?_⟩,λa s E g l B h=>⟨vQ.sync a s E g l B h.1,λz b tx i q=>?_⟩⟩
 .rw[fS]at b;refine(h.2 z b tx i q).imp id<|Or.imp ?_ id
  grind [uE]
 .have H:=bD o;have F:=h.1.no m<|.inl H;obtain⟨P,R,FC,ho,hw,ht⟩:=E.eI hs;have key:∃ u,w.sh[j]? =some u/\aL u.log tx=some i/\(∀ t∈u.timers,t∈z.timers)/\¬ (m.to=j/\m.kind=4/\m.tx=tx):=by
   rcases mh hs b with⟨e,rfl⟩|⟨c,b⟩
   .grind [KN,kz]
   .grind
  obtain⟨u,b1,b2,b3,b4⟩:=key;obtain⟨hp,M⟩:=h.2 u b1 tx i b2;refine⟨hp,?_⟩;rcases M with⟨y,D,v,I⟩|⟨t,t1,t2⟩
  .obtain⟨a1,N,_⟩:=tK o hs<|Ib E hs;rcases a1 y D with rfl|D
   .have J:y.kind=6/\y.aX=j:=I.resolve_right λc=>b4 ⟨c.2,c.1,v⟩;obtain⟨P0,O,_⟩:=E.eI b1;obtain⟨x,Q⟩:=h.1.dec E<|OZ O b2;obtain⟨k,S,i2,T,U,X,Y,Z,c5,_⟩:=E.f.bF Q;have hh:=E.f.rel.S8.home y H<|.inr J.1;obtain⟨d,f1,f2⟩:=Nb E (t:=y.tx) ⟨S,bD U,i2,T,X,Y,Z,by rw[c5,v]⟩ hs (by rw[hh];omega);have e:cm s y=pE s y:=by grind [gQ]
    rcases q9 (s:=s) (m:=y)with⟨d',r,_,_,_,e2⟩|⟨d',f,g2,_⟩|⟨f,_⟩|⟨f,_⟩
    .exact .inl ⟨{bA with kind:=4,aX:=s.me,to:=y.aX,tx:=y.tx,yes:=r.yes},N _ (by rw[e,e2];exact fD _<|dR.2 rfl),v,.inr ⟨rfl,J.2⟩⟩
    .rw[f1]at f;injection f with f;omega
    .rw[f1]at f;cases f
    .rw[f1]at f;cases f
   .exact .inl ⟨y,D,v,I⟩
  .exact .inr ⟨t,b3 t t1,t2⟩
 .rcases mh B b with⟨e,rfl⟩|⟨c,b⟩
  .refine(h.2 s (by rw[<- e];exact B) tx i q).imp id<|Or.imp ?_ id
   grind [qz]
  .refine(h.2 z b tx i q).imp id<|Or.imp ?_ id
   grind [qz]
theorem TI:tL n (OY p j C):=λ{W w G} a s E g l b h=>by
 refine⟨KM a s E g l b h.1,λz f tx i d=>?_⟩;obtain⟨P,R,B,_⟩:=E.eI b;have k:=dO s;rcases mh b f with⟨e,rfl⟩|⟨c,f⟩
 .have m:aL s.log tx=some i:=by have d:aL (dv s).log tx=some i:=d;rw[k.same.2.2.2.1]at d;exact d
  obtain⟨hp,o⟩:=h.2 s (by rw[<- e];exact b) tx i m;refine⟨hp,?_⟩;rcases o with⟨y,q,r,u⟩|⟨t,t1,t2,t3,v⟩
  .exact .inl ⟨y,qA b q,r,u⟩
  .by_cases x:t.tm<=s.clock+1
   .have A:nI {s with clock:=s.clock+1} t=some ([{bA with kind:=6,aX:=s.me,to:=(s.log[i]?.getD dz).home,tx:=t.tx}],⟨s.clock+1+3,false,t.tx⟩):=by grind [nI,aL]
    exact .inl ⟨_,.inl<|fD _<|(k.H7 t t1 x _ _ A).1 _<|dR.2 rfl,t3,.inl ⟨rfl,by show s.me=j;omega⟩⟩
   .exact .inr ⟨t,k.keep t t1 (by show s.clock+1<t.tm;omega),t2,t3,v⟩
 .refine(h.2 z f tx i d).imp id<|Or.imp ?_ id
  grind [qA]
theorem O0(E:EW W w G)(q:Quiet n w)(a:w.sh.length=n)(h:Rdy p j C w)(hc:GB j C w):vN j w:=λs hs=>by
 obtain⟨P,R,_,_,_,b⟩:=E.eI hs;refine yE.2 λl hl=>?_;obtain⟨i,r,h1,_⟩:=(R.kl<|q.up s<|bD hs).lk l hl;rw[R.log]at h1;rcases(h s hs _ i h1).2 with⟨m,c,_⟩|⟨t,t1,_,_,d⟩
 .exact q.air a m c
 .have:=b.t3 t t1;have:=hc s hs;omega
theorem TJ(E:EW W w G)(q:Quiet n w)(h:vN j w):Rdy False j C w:=λs hs tx i a=>by obtain⟨P,R,_⟩:=E.eI hs;obtain⟨l,hl,_⟩:=vP (q.up s<|bD hs) R a;rw[h s hs]at hl;cases hl
theorem EA(E:EW W w G)(b:iT w)(hs:w.sh[j]? =some s):Rdy True j (s.clock+3) w:=λz a tx i c=>by
 rw[hs]at a;injection a with a;subst a
 exact⟨trivial,.inr<|(E.t s<|bD hs).t2 (b s<|bD hs) tx i c⟩
theorem Na.fin(N:Na n b b')(q:Quiet n b)(h:OY p j C b):OY p j C b'/\(j<n->(∀ i,i<j->vN i b)->¬ vN j b->∀ x,GB j x b->GB j (x+1) b'):=by
 obtain⟨B,_,a,_,k,c⟩:=N.ex;have f:B=[]:=yE.2 λm g=>by obtain⟨_,x,d,h1⟩:=a m g;have:=h.1.st x d;omega
 subst f;have e:({b with aH:=[]}:WR)=b:=by rw[<- q.aH]
 rw[e]at k c;exact⟨k _ _ TI TH (λw z=>z) h,λl h1 a x d=>c j l (.inr ⟨rfl,by rw[q.aH];decide,h1,a⟩) x d⟩
theorem mF.W9{W:WP}{w:WR}{G:Gl}{h:cJ}(I:mF w G h)(F:WF W w G)(p:iT w)(r:∀ (j:Nat) s,w.sh[j]? =some s->∀ tx,aL s.log tx=none){q:Nat}(l:q<w.sh.length){k:Nat}(B:k<26)(e:k%w.sh.length=q):(w.sh[q]).bX[k]? =(runT (cy w.aC) h.order bQ)[k]? :=by
 have m:atR ((k:Int)+97) w.sh.length=q:=by grind [atR]
 obtain⟨P,R,C,c,t,_⟩:=F.rel.eI q l;have hs:w.sh[q]? =some w.sh[q]:=cQ l;generalize w.sh[q]=s at hs;rw[hs]at c;injection c with c;subst c
 have n:=(F.xJ.sh q s hs).1;have:=I.p.Te F I.WT (I.vot F) (k:=(k:Int)+97) ai (by rw[m];exact hs) t n (fC _) λf g u=>by
  obtain⟨os,o,_,v⟩:=u;obtain⟨⟨i,y,f1,e1,e2,_⟩,_⟩:=I.vot F f g;rw[e1]at o;obtain⟨s',D,E,H,b,_,_,J,_,K,L,_⟩:=F.BG (rd:=i) e1 e2 o;rw[v,m]at b;have b:w.sh[q]? =some s':=b;rw[hs]at b;injection b with b;subst b
  have z:=r q s hs f;unfold aL at z;cases A:aM s.log 3 f with
  |none=>grind [aM,iM,List.mem_of_getElem?]
  |some d=>
   obtain⟨a,x,b1,b2,b3⟩:=bG A;exact⟨d,x,a,b1,b2,b3⟩
 rw[show((k:Int)+97-97).toNat=k by omega]at this;rw[n.v (p s<|bD hs)];exact this
structure Nc(n:Nat)(w:WR)(h:cJ):Prop where
 s:fO n w h
 q:Quiet n w
 l:∀ j,j<n->vN j w
theorem Quiet.done{n:Nat}{w:WR}{h:cJ}(S:fO n w h)(q:Quiet n w)(b:pJ w):Ez w:=by refine⟨λx a=>?_,λm c=>absurd c<|q.air S.1.1 m⟩;obtain⟨_,W,G,t,F,I,V⟩:=S.1;have:=I.st x a;have:=b x a;omega
def yn(n f:Nat)(b:WR)(hb:cJ):Prop:=∃ e he,y5 n b.aC.length f b hb=(e,he,true)/\Nc n e he
theorem next{d:cJ}(S:fO n b d)(q:Quiet n b)(k:∀ b' a,fO n b' a->Quiet n b'->Na n b b'->¬ (pJ b/\∀ j,j<n->vN j b)->yn n f b' a):yn n (f+1) b d:=by
 rcases Tz f S q with⟨e,_,hl⟩|⟨b',a,e,g,h,N,c⟩
 .exact⟨b,d,e,S,q,hl⟩
 .obtain⟨x,i,e2,l⟩:=k b' a g h N c;exact⟨x,i,e.trans e2,l⟩
theorem xj{a:cJ}(S:fO n b a)(hj:j<n):∃ s,b.sh[j]? =some s:=⟨b.sh[j]'(by rw[S.1.1];exact hj),cQ _⟩
theorem aiZ:∀ (M m g f j:Nat) {C:Int} {b:WR} {e:cJ},4*m+g<=M->M<f->j+m=n->fO n b e->Quiet n b->pJ b->(∀ i,i<j->Rdy False i 0 b)->(0<m->Rdy True j C b/\GB j (C-g) b)->yn n f b e:=by
 intro M
 induction M with
 |zero=>
  intro m g f j C b e h1 y o S q a d u;obtain⟨W,G,t,E,V,I,A⟩:=S.ew;obtain⟨f,rfl⟩:∃ p,f=p+1:=⟨f-1,ai⟩;refine next S q λb' B _ _ _ c=>absurd ⟨a,λi hi=>?_⟩ c;intro s hs;refine yE.2 λl hl=>?_;obtain⟨P,R,_,_,_,_⟩:=E.eI hs;obtain⟨x,r,a1,_⟩:=(R.kl<|q.up s<|bD hs).lk l hl;rw[R.log]at a1;exact(d i ai s hs _ x a1).1
 |succ M h=>
  intro m g f j C b e h1 y o S q a d u;obtain⟨W,G,t,E,V,I,A⟩:=S.ew;obtain⟨f,rfl⟩:∃ p,f=p+1:=⟨f-1,ai⟩;cases m with
  |zero=>exact h 0 0 (f+1) j (C:=C) ai ai o S q a d λz=>absurd z<|by decide
  |succ m=>
   by_cases F:vN j b
   .have v:∀ i,i<j+1->Rdy False i 0 b:=λi hi=>by grind [TJ]
    cases m with
    |zero=>exact h 0 3 (f+1) (j+1) (C:=0) ai ai ai S q a v λz=>absurd z<|by decide
    |succ m=>
     obtain⟨s,hs⟩:=xj S (j:=j+1) ai;exact h (m+1) 3 (f+1) (j+1) (C:=s.clock+3) ai ai ai S q a v λ_=>⟨EA E q.up hs,λz k=>by rw[hs]at k;injection k with k;subst k;omega⟩
   .obtain⟨H,J⟩:=u ai;cases g with
    |zero=>grind [O0]
    |succ g=>
     refine next S q λb' B K L N _=>?_;have D:=q.done S a;obtain⟨w,O⟩:=N.fin q (⟨D,H⟩:OY True j C b);refine h (m+1) g f j (C:=C) ai ai o K L (λx Q=>by have:=w.1.st x Q;omega) (λi hi=>((N.fin q (⟨D,d i hi⟩:OY False i 0 b)).1).2) λ_=>⟨w.2,?_⟩;have:=O ai (λi hi s hs=>?_) F _ J
     .grind
     .refine yE.2 λl hl=>?_;obtain⟨P,R,_,_,_,_⟩:=E.eI hs;obtain⟨x,r,a1,_⟩:=(R.kl<|q.up s<|bD hs).lk l hl;rw[R.log]at a1;exact(d i hi s hs _ x a1).1
theorem Zf{c:cJ}(hf:20<=f)(S:fO n b c)(q:Quiet n b)(d:pJ b):yn n f b c:=by obtain⟨W,G,t,E,V,I,e⟩:=S.ew;have g:=E.f.rel.n;rw[e]at g;obtain⟨s,hs⟩:=xj S (j:=0) ai;exact aiZ 19 n 3 f 0 (C:=s.clock+3) ai ai ai S q d (λi hi=>absurd hi<|Au _) λ_=>⟨EA E q.up hs,λz a=>by rw[hs]at a;injection a with a;subst a;omega⟩
def ClE(j:Nat)(b:WR):Prop:=∃ C,Ze j C b/\GB j C b
theorem TK{a:cJ}(S:fO n b a)(q:Quiet n b)(h:ClE j b):BQ j b:=by obtain⟨W,G,t,E,V,I,c⟩:=S.ew;obtain⟨C,h1,d⟩:=h;exact OV E q c h1 d
theorem Na.cl(N:Na n b b')(q:Quiet n b)(hj:j<n)(h:ClE j b):ClE j b':=by obtain⟨C,h1,a⟩:=h;exact⟨C,N.stk q hj h1,N.clk a⟩
theorem ai0{d:cJ}(hf:20<=f)(S:fO n b d)(q:Quiet n b)(hc:∀ j,j<n->ClE j b):yn n (f+2) b d:=by refine next S q λb1 h1 a c e _=>next a c λb2 p g h k _=>Zf hf g h λx l=>?_;obtain⟨t,m⟩:=eX.1 l;have o:=TE c a.1.1 (λj i=>TK a c<|e.cl q i<|hc j i)<|e.pd t;exact TF h g.1.1 (k.pr o) x m
theorem ai1:∀ (M m g f j:Nat) {C:Int} {b:WR} {d:cJ},5*m+g<=M->M+22<=f->j+m=n->fO n b d->Quiet n b->(∀ i,i<j->ClE i b)->(0<m->Ze j C b/\GB j (C-g) b)->yn n f b d:=by
 intro M
 induction M with
 |zero=>
  intro m g f j C b d h1 y k S q a r;obtain⟨f,rfl⟩:∃ l,f=l+2:=⟨f-2,ai⟩
  grind [ai0]
 |succ M e=>
  intro m g f j C b d h1 y k S q a r;obtain⟨W,G,t,E,V,I,A⟩:=S.ew;have D:=E.f.rel.n;rw[A]at D;cases m with
  |zero=>exact e 0 0 f j (C:=C) ai ai k S q a λz=>absurd z<|by decide
  |succ m=>
   obtain⟨u,v⟩:=r ai;cases g with
   |zero=>
    have w:∀ i,i<j+1->ClE i b:=λi hi=>by
     rcases lP i j with c|c
     .exact a i c
     .obtain rfl:i=j:=ai;exact⟨C,u,by simpa using v⟩
    cases m with
    |zero=>exact e 0 4 f (j+1) (C:=0) ai ai ai S q w λz=>absurd z<|by decide
    |succ m=>
     obtain⟨s,hs⟩:=xj S (j:=j+1) ai;obtain⟨k1,k2⟩:=Ey E q.up hs;exact e (m+1) 4 f (j+1) (C:=s.clock+4) ai ai ai S q w λ_=>⟨k1,by rw[show s.clock+4-((4:Nat):Int)=s.clock by omega];exact k2⟩
   |succ g=>
    by_cases h:pJ b
    .exact Zf ai S q h
    .obtain⟨f,rfl⟩:∃ l,f=l+1:=⟨f-1,ai⟩;refine next S q λb' Q F H N _=>?_;refine e (m+1) g f j (C:=C) ai ai k F H (λi hi=>N.cl q ai<|a i hi) λ_=>⟨N.stk q ai u,?_⟩;obtain⟨B,a1,R,J,_,K⟩:=N.ex;unfold pJ at h;simp only[Rf,sB]at h;obtain⟨x,L,o⟩:=h;obtain⟨t,O⟩:=eX.1 L;obtain⟨T,p,_⟩:=J t x O o;have P:=List.length_pos_of_mem p;have:=K j ai (.inl ⟨P,by show B.length+26*j<=150;omega,λi hi s hs=>TK S q (a i hi) s hs⟩) _ v
     grind
theorem Xa{w:WR}{h:cJ}(S:fO n w h):∃ w' h',im n w.aC.length 60 w h=(w',h',true)/\Nc n w' h':=by
 obtain⟨v,y,k,A,D⟩:=FT (List.range n) (λj a=>iA.1 a) S;have F:iT v:=λs hs=>by
  obtain⟨j,a⟩:=eX.1 hs;cases H:s.up with
  |true=>rfl
  |false=>exact absurd (iA.2 (by rw[<- k.1.1];exact(dd.1 a).1)) (D j s a H).1
 obtain⟨b,q,t1,t2,t3,t4,J⟩:=BT (f:=0) (aC:=0) (e:=340) k F (by have:=k.2.p;omega);have c:b.aC.length=w.aC.length:=t3.aC.trans (by rw[A]);have hp:phi b<340:=by
  rcases t4 with t4|t4
  .have:=(qx t4).2;omega
  .exact t4
 obtain⟨B,d,K,g,l,m,U,L,_⟩:=Ih 59 t2 t3.up hp;rw[c,<- yl y t1]at g;by_cases z:K=0
 .rw[aJ z]at g;obtain⟨rfl,z2,X,M⟩:=L z;exact⟨d,q,g,l,⟨t3.up,z2,J⟩,M⟩
 .rw[ax z]at g;obtain⟨b1,N,O,o,r,p,P⟩:=BT (f:=0) (aC:=0) (e:=0) l m.KF.up ai;have p:BN 0 b1:=p.resolve_right<|Au _;have u:Quiet n b1:=⟨r.up,(qx p).1,P⟩;have Q:b1.aC.length=w.aC.length:=(r.aC.trans m.KF.aC).trans c;have e2:im n w.aC.length 59 d q=y5 n w.aC.length 58 b1 N:=yl (KH l.1.1 m.KF.up _ λj a=>iA.1 a) O;obtain⟨W,G,t,E,V,I,R⟩:=o.ew;have T:=E.f.rel.n;rw[R]at T;obtain⟨s,hs⟩:=xj o (j:=0) ai;obtain⟨k1,k2⟩:=Ey E u.up hs;obtain⟨x,Y,Z,ok⟩:=ai1 24 n 4 58 0 (C:=s.clock+4) ai ai ai o u (λi hi=>absurd hi<|Au _) λ_=>⟨k1,by rw[show s.clock+4-((4:Nat):Int)=s.clock by omega];exact k2⟩
  grind
theorem Nc.bX{w:WR}{h:cJ}(ok:Nc n w h)(q:Nat)(c:q<w.sh.length)(k:Nat)(d:k<26)(e:k%n=q):(w.sh[q]).bX[k]? =(runT (cy w.aC) h.order bQ)[k]? :=by
 obtain⟨b,W,G,t,F,I,V⟩:=ok.s.1;refine I.W9 F ok.q.up (λj s hs tx=>?_) c d (by rw[b];exact e);obtain⟨P,R,m,a,f,_⟩:=F.rel.eI j (dd.1 hs).1;rw[hs]at a;injection a with a;subst a
 cases g:aL s.log tx with
 |none=>rfl
 |some i=>
  obtain⟨l,hl,_⟩:=vP (ok.q.up s<|bD hs) f g;rw[ok.l j (by rw[<- b];exact(dd.1 hs).1) s hs]at hl;cases hl
open Go.Proofs
abbrev aY(i:Nat)(f:Func)(n:Nat):=Body prog i f ((f.body).getD .skip) n
abbrev iP:=Fl prog
abbrev qN:=Cz prog
abbrev oK:=Ag prog
abbrev Nf:=El prog
abbrev QI:=Bz prog
abbrev PtT:=Pt prog
abbrev Zg:=Mp prog
theorem eJ{f:Func}(h:prog.funcs[i]? =some f)(h1:(f.name== "runtime.NumGoroutine")=false:=by rfl)(a:f.body=some ((f.body).getD .skip):=by rfl)(b:f.ntmps=n:=by rfl):aY i f n:=⟨h,h1,a,b⟩
theorem iU{s z:Nat}{b:Array Field}{a:Field}{i:TypeInfo}(h1:prog.underlying s=some (.struct b))(c:prog.types[t]? =some i)(d:b[f]? =some a:=by rfl)(e:a.offset=o:=by rfl)(g:a.type=t:=by rfl)(h:i.size=z:=by rfl)(j:z≠0:=by decide):iP s f o:=⟨b,a,z,h1,d,e,⟨i,g▸aD c,h⟩,j⟩
theorem jH{f:Field}{l:List Field}{m:List (Nat×Nat)}{z:Nat}{i:TypeInfo}(a:prog.types[t]? =some i)(r:YH prog l m)(b:f.offset=o:=by rfl)(c:f.type=t:=by rfl)(d:i.size=z:=by rfl):YH prog (f::l) ((o,z)::m):=.cons b ⟨i,c▸aD a,d⟩ r
instance:qN 3 1:=⟨_,aD type3,rfl⟩
instance:QI 3 8:=⟨_,aD type3,rfl⟩
instance:Zv prog 3 (.int .i64 0):=⟨_,aD type3,rfl⟩
instance:oK 3 false:=⟨_,underlying3,rfl⟩
instance:Ik prog 3 IntKind.i64:=⟨underlying3⟩
instance:qN 4 1:=⟨_,aD type4,rfl⟩
instance:oK 4 false:=⟨_,underlying4,rfl⟩
instance:oK 5 false:=⟨_,underlying5,rfl⟩
instance:Ik prog 5 IntKind.u8:=⟨underlying5⟩
instance:oK 9 false:=⟨_,underlying9,rfl⟩
instance:qN 21 1:=⟨_,aD type21,rfl⟩
instance:QI 21 4:=⟨_,aD type21,rfl⟩
instance:Zv prog 21 (.int .i32 0):=⟨_,aD type21,rfl⟩
instance:oK 21 false:=⟨_,underlying21,rfl⟩
instance:Ik prog 21 IntKind.i32:=⟨underlying21⟩
instance:Nf 22 29:=⟨underlying22⟩
instance:qN 23 1:=⟨_,aD type23,rfl⟩
instance:Zv prog 23 (.pointer none):=⟨_,aD type23,rfl⟩
instance:oK 23 false:=⟨_,underlying23,rfl⟩
instance:PtT 23 92:=⟨underlying23⟩
instance:oK 27 false:=⟨_,underlying27,rfl⟩
instance:Nf 27 63:=⟨underlying27⟩
instance:qN 29 6:=⟨_,aD type29,rfl⟩
instance:Zv prog 29 (.agg #[.int .i64 0,.int .i64 0,.int .i64 0,.int .i64 0,.int .i64 0,.slice none 0 0]):=⟨_,aD type29,rfl⟩
instance:oK 29 true:=⟨_,underlying29,rfl⟩
instance:iP 29 0 0:=iU underlying29 type3
instance:iP 29 2 2:=iU underlying29 type3
instance:iP 29 3 3:=iU underlying29 type3
instance:iP 29 4 4:=iU underlying29 type3
instance:iP 29 5 5:=iU underlying29 type27
instance:qN 36 1:=⟨_,aD type36,rfl⟩
instance:QI 36 24:=⟨_,aD type36,rfl⟩
instance:Zv prog 36 (.slice none 0 0):=⟨_,aD type36,rfl⟩
instance:oK 36 false:=⟨_,underlying36,rfl⟩
instance:Nf 36 67:=⟨underlying36⟩
instance:qN 46 1:=⟨_,aD type46,rfl⟩
instance:Zv prog 46 (.nilIface):=⟨_,aD type46,rfl⟩
instance:oK 46 false:=⟨_,underlying46,rfl⟩
instance:qN 56 1:=⟨_,aD type56,rfl⟩
instance:oK 56 false:=⟨_,underlying56,rfl⟩
instance:Nf 56 3:=⟨underlying56⟩
instance:qN 63 3:=⟨_,aD type63,rfl⟩
instance:QI 63 24:=⟨_,aD type63,rfl⟩
instance:Zv prog 63 (.agg #[.bool false,.int .i64 0,.int .i64 0]):=⟨_,aD type63,rfl⟩
instance:Bd prog 63 [(0,1),(1,1),(2,1)]:=⟨_,underlying63,jH type4<|jH type3<|jH type3 .nil⟩
instance:iP 63 0 0:=iU underlying63 type4
instance:iP 63 1 1:=iU underlying63 type3
instance:iP 63 2 2:=iU underlying63 type3
instance:qN 67 3:=⟨_,aD type67,rfl⟩
instance:QI 67 8:=⟨_,aD type67,rfl⟩
instance:Zv prog 67 (.agg #[.bool false,.int .u8 0,.int .i32 0]):=⟨_,aD type67,rfl⟩
instance:oK 67 true:=⟨_,underlying67,rfl⟩
instance:Bd prog 67 [(0,1),(1,1),(2,1)]:=⟨_,underlying67,jH type4<|jH type5<|jH type21 .nil⟩
instance:iP 67 0 0:=iU underlying67 type4
instance:iP 67 1 1:=iU underlying67 type5
instance:iP 67 2 2:=iU underlying67 type21
instance:qN 75 1:=⟨_,aD type75,rfl⟩
instance:Ik prog 75 IntKind.u32:=⟨underlying75⟩
instance:qN 77 2:=⟨_,aD type77,rfl⟩
instance:iP 77 0 0:=iU underlying77 type21
instance:iP 79 1 0:=iU underlying79 type77
instance:qN 80 1:=⟨_,aD type80,rfl⟩
instance:oK 80 false:=⟨_,underlying80,rfl⟩
instance:Nf 80 114:=⟨underlying80⟩
instance:qN 81 1:=⟨_,aD type81,rfl⟩
instance:Zv prog 81 (.slice none 0 0):=⟨_,aD type81,rfl⟩
instance:oK 81 false:=⟨_,underlying81,rfl⟩
instance:Nf 81 190:=⟨underlying81⟩
instance:qN 82 1:=⟨_,aD type82,rfl⟩
instance:oK 82 false:=⟨_,underlying82,rfl⟩
instance:Nf 82 126:=⟨underlying82⟩
instance:oK 83 false:=⟨_,underlying83,rfl⟩
instance:Ik prog 86 IntKind.u64:=⟨underlying86⟩
instance:iP 88 2 0:=iU underlying88 type86
instance:qN 90 2:=⟨_,aD type90,rfl⟩
instance:iP 90 1 0:=iU underlying90 type88
instance:iP 90 2 1:=iU underlying90 type75
instance:Zv prog 92 (.agg #[.int .i32 0,.int .u32 0,.slice none 0 0,.slice none 0 0,.slice none 0 0,.chan none,.bool false,.int .u64 0,.int .u32 0]):=⟨_,aD type92,rfl⟩
instance:Bd prog 92 [(0,2),(2,1),(3,1),(4,1),(5,1),(6,1),(7,2)]:=⟨_,underlying92,jH type79<|jH type80<|jH type81<|jH type82<|jH type83<|jH type4<|jH type90 .nil⟩
instance:iP 92 0 0:=iU underlying92 type79
instance:iP 92 1 2:=iU underlying92 type80
instance:iP 92 2 3:=iU underlying92 type81
instance:iP 92 3 4:=iU underlying92 type82
instance:iP 92 4 5:=iU underlying92 type83
instance:iP 92 5 6:=iU underlying92 type4
instance:iP 92 6 7:=iU underlying92 type90
instance:qN 99 1:=⟨_,aD type99,rfl⟩
instance:oK 99 false:=⟨_,underlying99,rfl⟩
instance:Nf 99 36:=⟨underlying99⟩
instance:qN 100 1:=⟨_,aD type100,rfl⟩
instance:oK 100 false:=⟨_,underlying100,rfl⟩
instance:Nf 100 104:=⟨underlying100⟩
instance:Zv prog 102 (.agg #[.slice none 0 0,.slice none 0 0,.slice none 0 0,.slice none 0 0]):=⟨_,aD type102,rfl⟩
instance:Bd prog 102 [(0,1),(1,1),(2,1),(3,1)]:=⟨_,underlying102,jH type99<|jH type56<|jH type100<|jH type56 .nil⟩
instance:iP 102 0 0:=iU underlying102 type99
instance:iP 102 1 1:=iU underlying102 type56
instance:iP 102 2 2:=iU underlying102 type100
instance:iP 102 3 3:=iU underlying102 type56
instance:qN 104 1:=⟨_,aD type104,rfl⟩
instance:QI 104 24:=⟨_,aD type104,rfl⟩
instance:Zv prog 104 (.slice none 0 0):=⟨_,aD type104,rfl⟩
instance:oK 104 false:=⟨_,underlying104,rfl⟩
instance:Nf 104 21:=⟨underlying104⟩
instance:qN 114 1:=⟨_,aD type114,rfl⟩
instance:QI 114 8:=⟨_,aD type114,rfl⟩
instance:Zv prog 114 (.pointer none):=⟨_,aD type114,rfl⟩
instance:oK 114 false:=⟨_,underlying114,rfl⟩
instance:oK 115 false:=⟨_,underlying115,rfl⟩
instance:PtT 115 180:=⟨underlying115⟩
instance:oK 117 false:=⟨_,underlying117,rfl⟩
instance:oK 118 false:=⟨_,underlying118,rfl⟩
instance:Zv prog 120 (.agg #[.pointer none,.chan none,.chan none]):=⟨_,aD type120,rfl⟩
instance:Bd prog 120 [(0,1),(1,1),(2,1)]:=⟨_,underlying120,jH type115<|jH type117<|jH type118 .nil⟩
instance:iP 120 0 0:=iU underlying120 type115
instance:iP 120 1 1:=iU underlying120 type117
instance:iP 120 2 2:=iU underlying120 type118
instance:qN 126 3:=⟨_,aD type126,rfl⟩
instance:QI 126 56:=⟨_,aD type126,rfl⟩
instance:Zv prog 126 (.agg #[.slice none 0 0,.int .i64 0,.slice none 0 0]):=⟨_,aD type126,rfl⟩
instance:Bd prog 126 [(0,1),(1,1),(2,1)]:=⟨_,underlying126,jH type36<|jH type3<|jH type104 .nil⟩
instance:iP 126 0 0:=iU underlying126 type36
instance:iP 126 1 1:=iU underlying126 type3
instance:iP 126 2 2:=iU underlying126 type104
instance:qN 128 1:=⟨_,aD type128,rfl⟩
instance:Zv prog 128 (.pointer none):=⟨_,aD type128,rfl⟩
instance:oK 128 false:=⟨_,underlying128,rfl⟩
instance:NI prog 128:=⟨_,underlying128,rfl⟩
instance:PtT 128 132:=⟨underlying128⟩
instance:oK 130 false:=⟨_,underlying130,rfl⟩
instance:NI prog 130:=⟨_,underlying130,rfl⟩
instance:qN 132 3:=⟨_,aD type132,rfl⟩
instance:Zv prog 132 (.agg #[.string (ByteArray.mk #[]),.int .i64 0,.nilIface]):=⟨_,aD type132,rfl⟩
instance:Bd prog 132 [(0,1),(1,1),(2,1)]:=⟨_,underlying132,jH type9<|jH type3<|jH type46 .nil⟩
instance:iP 132 0 0:=iU underlying132 type9
instance:iP 132 1 1:=iU underlying132 type3
instance:iP 132 2 2:=iU underlying132 type46
instance:Nf 133 46:=⟨underlying133⟩
instance:PtT 139 90:=⟨underlying139⟩
instance:Ik prog 141 IntKind.u64:=⟨underlying141⟩
instance:PtT 147 75:=⟨underlying147⟩
instance:oK 158 false:=⟨_,underlying158,rfl⟩
instance:Zg 158 5 21:=⟨underlying158⟩
instance:Nf 163 167:=⟨underlying163⟩
instance:qN 167 6:=⟨_,aD type167,rfl⟩
instance:QI 167 80:=⟨_,aD type167,rfl⟩
instance:Zv prog 167 (.agg #[.int .i64 0,.int .i64 0,.bool false,.int .i64 0,.slice none 0 0,.slice none 0 0]):=⟨_,aD type167,rfl⟩
instance:oK 167 true:=⟨_,underlying167,rfl⟩
instance:Bd prog 167 [(0,1),(1,1),(2,1),(3,1),(4,1),(5,1)]:=⟨_,underlying167,jH type3<|jH type3<|jH type4<|jH type3<|jH type36<|jH type104 .nil⟩
instance:iP 167 0 0:=iU underlying167 type3
instance:iP 167 1 1:=iU underlying167 type3
instance:iP 167 2 2:=iU underlying167 type4
instance:iP 167 5 5:=iU underlying167 type104
instance:oK 169 false:=⟨_,underlying169,rfl⟩
instance:Zg 169 5 3:=⟨underlying169⟩
instance:oK 170 false:=⟨_,underlying170,rfl⟩
instance:Zg 170 3 267:=⟨underlying170⟩
instance:oK 171 false:=⟨_,underlying171,rfl⟩
instance:Zg 171 3 279:=⟨underlying171⟩
instance:oK 172 false:=⟨_,underlying172,rfl⟩
instance:Zg 172 3 295:=⟨underlying172⟩
instance:qN 174 1:=⟨_,aD type174,rfl⟩
instance:oK 174 false:=⟨_,underlying174,rfl⟩
instance:Nf 174 263:=⟨underlying174⟩
instance:qN 176 10:=⟨_,aD type176,rfl⟩
instance:Zv prog 176 (.agg #[.map none,.map none,.map none,.map none,.map none,.map none,.slice none 0 0,.int .i64 0,.int .i64 0,.slice none 0 0]):=⟨_,aD type176,rfl⟩
instance:oK 176 true:=⟨_,underlying176,rfl⟩
instance:Bd prog 176 [(0,1),(1,1),(2,1),(3,1),(4,1),(5,1),(6,1),(7,1),(8,1),(9,1)]:=⟨_,underlying176,jH type158<|jH type169<|jH type170<|jH type171<|jH type171<|jH type172<|jH type174<|jH type3<|jH type3<|jH type81 .nil⟩
instance:iP 176 0 0:=iU underlying176 type158
instance:iP 176 1 1:=iU underlying176 type169
instance:iP 176 2 2:=iU underlying176 type170
instance:iP 176 3 3:=iU underlying176 type171
instance:iP 176 4 4:=iU underlying176 type171
instance:iP 176 5 5:=iU underlying176 type172
instance:iP 176 6 6:=iU underlying176 type174
instance:iP 176 7 7:=iU underlying176 type3
instance:iP 176 8 8:=iU underlying176 type3
instance:iP 176 9 9:=iU underlying176 type81
instance:qN 178 1:=⟨_,aD type178,rfl⟩
instance:oK 178 false:=⟨_,underlying178,rfl⟩
instance:Nf 178 272:=⟨underlying178⟩
instance:Zv prog 180 (.agg #[.int .i64 0,.int .i64 0,.bool false,.slice none 0 0,.int .i64 0,.map none,.map none,.map none,.map none,.map none,.map none,.slice none 0 0,.int .i64 0,.int .i64 0,.slice none 0 0,.slice none 0 0]):=⟨_,aD type180,rfl⟩
instance:Bd prog 180 [(0,1),(1,1),(2,1),(3,1),(4,1),(5,10),(15,1)]:=⟨_,underlying180,jH type3<|jH type3<|jH type4<|jH type178<|jH type3<|jH type176<|jH type81 .nil⟩
instance:iP 180 0 0:=iU underlying180 type3
instance:iP 180 1 1:=iU underlying180 type3
instance:iP 180 2 2:=iU underlying180 type4
instance:iP 180 3 3:=iU underlying180 type178
instance:iP 180 4 4:=iU underlying180 type3
instance:iP 180 5 5:=iU underlying180 type176
instance:iP 180 6 15:=iU underlying180 type81
instance:Zv prog 187 (.nilFunc):=⟨_,aD type187,rfl⟩
instance:oK 187 false:=⟨_,underlying187,rfl⟩
instance:qN 190 7:=⟨_,aD type190,rfl⟩
instance:QI 190 88:=⟨_,aD type190,rfl⟩
instance:Zv prog 190 (.agg #[.int .i64 0,.int .i64 0,.int .i64 0,.int .i64 0,.bool false,.slice none 0 0,.slice none 0 0]):=⟨_,aD type190,rfl⟩
instance:oK 190 true:=⟨_,underlying190,rfl⟩
instance:Bd prog 190 [(0,1),(1,1),(2,1),(3,1),(4,1),(5,1),(6,1)]:=⟨_,underlying190,jH type3<|jH type3<|jH type3<|jH type3<|jH type4<|jH type36<|jH type104 .nil⟩
instance:iP 190 0 0:=iU underlying190 type3
instance:iP 190 1 1:=iU underlying190 type3
instance:iP 190 2 2:=iU underlying190 type3
instance:iP 190 3 3:=iU underlying190 type3
instance:iP 190 4 4:=iU underlying190 type4
instance:iP 190 5 5:=iU underlying190 type36
instance:iP 190 6 6:=iU underlying190 type104
instance:qN 193 3:=⟨_,aD type193,rfl⟩
instance:Zv prog 193 (.agg #[.pointer none,.pointer none,.int .u64 0]):=⟨_,aD type193,rfl⟩
instance:oK 193 true:=⟨_,underlying193,rfl⟩
instance:oK 196 false:=⟨_,underlying196,rfl⟩
instance:PtT 204 77:=⟨underlying204⟩
instance:qN 223 1:=⟨_,aD type223,rfl⟩
instance:oK 223 false:=⟨_,underlying223,rfl⟩
instance:oK 225 false:=⟨_,underlying225,rfl⟩
instance:qN 261 7:=⟨_,aD type261,rfl⟩
instance:Zv prog 261 (.agg #[.nilFunc,.nilFunc,.nilFunc,.nilFunc,.nilFunc,.nilFunc,.nilFunc]):=⟨_,aD type261,rfl⟩
instance:qN 263 4:=⟨_,aD type263,rfl⟩
instance:QI 263 32:=⟨_,aD type263,rfl⟩
instance:Zv prog 263 (.agg #[.int .i64 0,.int .i64 0,.int .i64 0,.bool false]):=⟨_,aD type263,rfl⟩
instance:oK 263 true:=⟨_,underlying263,rfl⟩
instance:NI prog 263:=⟨_,underlying263,rfl⟩
instance:Bd prog 263 [(0,1),(1,1),(2,1),(3,1)]:=⟨_,underlying263,jH type3<|jH type3<|jH type3<|jH type4 .nil⟩
instance:iP 263 0 0:=iU underlying263 type3
instance:iP 263 1 1:=iU underlying263 type3
instance:iP 263 2 2:=iU underlying263 type3
instance:iP 263 3 3:=iU underlying263 type4
instance:NI prog 265:=⟨_,underlying265,rfl⟩
instance:qN 267 3:=⟨_,aD type267,rfl⟩
instance:Zv prog 267 (.agg #[.int .i64 0,.int .i64 0,.slice none 0 0]):=⟨_,aD type267,rfl⟩
instance:Bd prog 267 [(0,1),(1,1),(2,1)]:=⟨_,underlying267,jH type3<|jH type3<|jH type36 .nil⟩
instance:iP 267 0 0:=iU underlying267 type3
instance:iP 267 1 1:=iU underlying267 type3
instance:iP 267 2 2:=iU underlying267 type36
instance:qN 272 1:=⟨_,aD type272,rfl⟩
instance:QI 272 16:=⟨_,aD type272,rfl⟩
instance:Zv prog 272 (.nilIface):=⟨_,aD type272,rfl⟩
instance:oK 272 false:=⟨_,underlying272,rfl⟩
instance:qN 274 3:=⟨_,aD type274,rfl⟩
instance:Zv prog 274 (.agg #[.int .i64 0,.int .i64 0,.slice none 0 0]):=⟨_,aD type274,rfl⟩
instance:NI prog 274:=⟨_,underlying274,rfl⟩
instance:Bd prog 274 [(0,1),(1,1),(2,1)]:=⟨_,underlying274,jH type3<|jH type3<|jH type36 .nil⟩
instance:iP 274 0 0:=iU underlying274 type3
instance:iP 274 1 1:=iU underlying274 type3
instance:iP 274 2 2:=iU underlying274 type36
instance:qN 277 3:=⟨_,aD type277,rfl⟩
instance:Zv prog 277 (.agg #[.int .i64 0,.bool false,.slice none 0 0]):=⟨_,aD type277,rfl⟩
instance:NI prog 277:=⟨_,underlying277,rfl⟩
instance:Bd prog 277 [(0,1),(1,1),(2,1)]:=⟨_,underlying277,jH type3<|jH type4<|jH type104 .nil⟩
instance:iP 277 0 0:=iU underlying277 type3
instance:iP 277 1 1:=iU underlying277 type4
instance:iP 277 2 2:=iU underlying277 type104
instance:qN 279 2:=⟨_,aD type279,rfl⟩
instance:Zv prog 279 (.agg #[.int .i64 0,.bool false]):=⟨_,aD type279,rfl⟩
instance:Bd prog 279 [(0,1),(1,1)]:=⟨_,underlying279,jH type3<|jH type4 .nil⟩
instance:iP 279 0 0:=iU underlying279 type3
instance:iP 279 1 1:=iU underlying279 type4
instance:qN 281 2:=⟨_,aD type281,rfl⟩
instance:Zv prog 281 (.agg #[.int .i64 0,.bool false]):=⟨_,aD type281,rfl⟩
instance:NI prog 281:=⟨_,underlying281,rfl⟩
instance:Bd prog 281 [(0,1),(1,1)]:=⟨_,underlying281,jH type3<|jH type4 .nil⟩
instance:iP 281 0 0:=iU underlying281 type3
instance:iP 281 1 1:=iU underlying281 type4
instance:qN 295 1:=⟨_,aD type295,rfl⟩
instance:Zv prog 295 (.pointer none):=⟨_,aD type295,rfl⟩
instance:oK 295 false:=⟨_,underlying295,rfl⟩
instance:PtT 295 299:=⟨underlying295⟩
instance:oK 296 false:=⟨_,underlying296,rfl⟩
instance:Zg 296 3 104:=⟨underlying296⟩
instance:oK 297 false:=⟨_,underlying297,rfl⟩
instance:Zg 297 3 3:=⟨underlying297⟩
instance:Zv prog 299 (.agg #[.slice none 0 0,.map none,.map none,.bool false,.bool false]):=⟨_,aD type299,rfl⟩
instance:Bd prog 299 [(0,1),(1,1),(2,1),(3,1),(4,1)]:=⟨_,underlying299,jH type36<|jH type296<|jH type297<|jH type4<|jH type4 .nil⟩
instance:iP 299 0 0:=iU underlying299 type36
instance:iP 299 1 1:=iU underlying299 type296
instance:iP 299 2 2:=iU underlying299 type297
instance:iP 299 3 3:=iU underlying299 type4
instance:iP 299 4 4:=iU underlying299 type4
instance:Zg 304 3 36:=⟨underlying304⟩
instance:qN 332 1:=⟨_,aD type332,rfl⟩
instance:Zv prog 332 (.int .u64 0):=⟨_,aD type332,rfl⟩
instance:oK 332 false:=⟨_,underlying332,rfl⟩
instance:Ik prog 332 IntKind.u64:=⟨underlying332⟩
instance:aY 5 f5 10:=eJ func5
instance:aY 14 f14 21:=eJ func14
instance:aY 15 f15 13:=eJ func15
instance:aY 17 f17 35:=eJ func17
instance:aY 18 f18 31:=eJ func18
instance:aY 19 f19 33:=eJ func19
instance:aY 21 f21 25:=eJ func21
instance:aY 24 f24 124:=eJ func24
instance:aY 25 f25 212:=eJ func25
instance:aY 27 f27 45:=eJ func27
instance:aY 29 f29 13:=eJ func29
instance:aY 30 f30 60:=eJ func30
instance:aY 33 f33 6:=eJ func33
instance:aY 34 f34 6:=eJ func34
instance:aY 35 f35 84:=eJ func35
instance:aY 38 f38 127:=eJ func38
instance:aY 39 f39 41:=eJ func39
instance:aY 40 f40 52:=eJ func40
instance:aY 41 f41 24:=eJ func41
instance:aY 42 f42 67:=eJ func42
instance:aY 43 f43 116:=eJ func43
instance:aY 44 f44 89:=eJ func44
instance:aY 45 f45 84:=eJ func45
instance:aY 46 f46 126:=eJ func46
instance:aY 47 f47 10:=eJ func47
instance:aY 48 f48 117:=eJ func48
instance:aY 49 f49 11:=eJ func49
instance:aY 50 f50 4:=eJ func50
instance:aY 51 f51 30:=eJ func51
instance:aY 52 f52 33:=eJ func52
instance:aY 53 f53 43:=eJ func53
instance:aY 54 f54 52:=eJ func54
instance:aY 55 f55 8:=eJ func55
instance:aY 56 f56 35:=eJ func56
instance:aY 57 f57 42:=eJ func57
instance:aY 58 f58 7:=eJ func58
instance:aY 59 f59 11:=eJ func59
instance:aY 60 f60 22:=eJ func60
instance:aY 62 f62 13:=eJ func62
instance:aY 63 f63 21:=eJ func63
instance:aY 65 f65 7:=eJ func65
instance:aY 69 f69 13:=eJ func69
instance:aY 76 f76 24:=eJ func76
instance:aY 77 f77 41:=eJ func77
instance:aY 78 f78 49:=eJ func78
instance:aY 79 f79 8:=eJ func79
instance:aY 80 f80 21:=eJ func80
instance:aY 81 f81 9:=eJ func81
instance:aY 82 f82 9:=eJ func82
instance:aY 83 f83 9:=eJ func83
instance:aY 84 f84 9:=eJ func84
instance:aY 85 f85 8:=eJ func85
instance:aY 86 f86 8:=eJ func86
instance:aY 87 f87 11:=eJ func87
instance:aY 88 f88 8:=eJ func88
instance:aY 89 f89 23:=eJ func89
instance:aY 90 f90 25:=eJ func90
instance:aY 91 f91 8:=eJ func91
instance:aY 96 f96 10:=eJ func96
instance:aY 98 f98 9:=eJ func98
instance:aY 100 f100 12:=eJ func100
instance:aY 101 f101 10:=eJ func101
instance:aY 105 f105 62:=eJ func105
instance:aY 107 f107 54:=eJ func107
instance:aY 126 f126 26:=eJ func126
instance:aY 127 f127 8:=eJ func127
instance:aY 128 f128 21:=eJ func128
instance:aY 129 f129 24:=eJ func129
instance:aY 130 f130 27:=eJ func130
instance:aY 131 f131 14:=eJ func131
instance:aY 132 f132 35:=eJ func132
instance:aY 133 f133 34:=eJ func133
instance:aY 134 f134 32:=eJ func134
instance:aY 135 f135 32:=eJ func135
instance:aY 136 f136 6:=eJ func136
instance:aY 137 f137 24:=eJ func137
instance:aY 138 f138 8:=eJ func138
instance:aY 139 f139 21:=eJ func139
instance:aY 140 f140 16:=eJ func140
instance:aY 141 f141 27:=eJ func141
instance:aY 142 f142 73:=eJ func142
instance:aY 143 f143 6:=eJ func143
instance:aY 144 f144 44:=eJ func144
instance:aY 145 f145 92:=eJ func145
instance:aY 146 f146 27:=eJ func146
instance:aY 168 f168 22:=eJ func168
instance:aY 169 f169 25:=eJ func169
instance:aY 170 f170 73:=eJ func170
instance:aY 171 f171 118:=eJ func171
instance:aY 172 f172 110:=eJ func172
instance:aY 173 f173 78:=eJ func173
instance:aY 174 f174 53:=eJ func174
instance:aY 175 f175 71:=eJ func175
instance:aY 176 f176 73:=eJ func176
instance:aY 177 f177 15:=eJ func177
instance:aY 178 f178 24:=eJ func178
instance:aY 179 f179 19:=eJ func179
instance:aY 180 f180 39:=eJ func180
instance:aY 181 f181 8:=eJ func181
instance:aY 182 f182 37:=eJ func182
instance:aY 183 f183 62:=eJ func183
instance:aY 184 f184 11:=eJ func184
instance:aY 197 f197 33:=eJ func197
instance:aY 198 f198 13:=eJ func198
instance:aY 199 f199 30:=eJ func199
instance:aY 200 f200 21:=eJ func200
instance:aY 201 f201 21:=eJ func201
instance:aY 202 f202 30:=eJ func202
instance:aY 203 f203 47:=eJ func203
instance:aY 204 f204 14:=eJ func204
instance:aY 205 f205 48:=eJ func205
instance:aY 206 f206 72:=eJ func206
instance:aY 207 f207 12:=eJ func207
instance:aY 208 f208 134:=eJ func208
instance:aY 209 f209 8:=eJ func209
instance:aY 215 f215 23:=eJ func215
instance:aY 216 f216 49:=eJ func216
instance:aY 217 f217 56:=eJ func217
instance:aY 218 f218 65:=eJ func218
instance:aY 219 f219 57:=eJ func219
instance:aY 220 f220 32:=eJ func220
instance:aY 221 f221 133:=eJ func221
instance:aY 222 f222 17:=eJ func222
instance:aY 223 f223 84:=eJ func223
instance:aY 224 f224 168:=eJ func224
instance:aY 226 f226 25:=eJ func226
instance:aY 227 f227 76:=eJ func227
instance:aY 228 f228 7:=eJ func228
instance:aY 229 f229 33:=eJ func229
instance:aY 230 f230 15:=eJ func230
instance:aY 231 f231 36:=eJ func231
instance:aY 232 f232 6:=eJ func232
instance:aY 233 f233 28:=eJ func233
instance:aY 253 f253 5:=eJ func253
instance:aY 254 f254 40:=eJ func254
instance:aY 255 f255 20:=eJ func255
instance:aY 274 f274 23:=eJ func274
instance:aY 275 f275 13:=eJ func275
instance:aY 276 f276 11:=eJ func276
instance:aY 277 f277 11:=eJ func277
instance:aY 278 f278 8:=eJ func278
def cX:lM:=⟨λ_ t _=>t==92||t==114||t==23||t==120,λt _=>t==92||t==114||t==23||t==120,0⟩
def aK(n:Int):List Value:=[aF n]
instance:jf aK 1:=⟨λ_=>rfl,λa v h=>by simp[aK]at h;subst h;rfl⟩
def uR(o:bO):List Value:=[.bool o.w,aF o.k,aF o.v]
instance:jf uR 3:=⟨λ_=>rfl,λa v h=>by simp[uR]at h;rcases h with h|h|h<;>subst h<;>rfl⟩
def np(l:List bO):Prop:=(∀ o∈l,97<=o.k/\o.k<=122)/\l.length<2^20
structure dV extends MsgR where
 so:ay
 sr:ay
def dF(m:dV):List Value:=[aF m.kind,aF m.aX,aF m.to,aF m.tx,.bool m.yes,m.so.v,m.sr.v]
instance:jf dF 7:=⟨λ_=>rfl,λa v h=>by simp[dF]at h;rcases h with h|h|h|h|h|h|h<;>subst h<;>rfl⟩
structure vR extends RecR where
 so:ay
 sr:ay
def recC(m:vR):List Value:=[aF m.kind,aF m.tx,.bool m.yes,aF m.home,m.so.v,m.sr.v]
instance:jf recC 6:=⟨λ_=>rfl,λa v h=>by simp[recC]at h;rcases h with h|h|h|h|h|h<;>subst h<;>rfl⟩
structure ai2 extends VoteR where
 sr:ay
structure ai3 where
 tx:Int
 ops:List bO
 so:ay
 bq:List ai2
 sv:ay
 dec:Bool
 yes:Bool
 cf:List Int
 sa:ay
structure ShV where
 me:Int
 n:Int
 up:Bool
 log:List vR
 aE:Int
 bX:List Int
 aQ:List kh
 under:List ai3
 timers:List dU
 waits:List dV
 clock:Int
 out:List dV
variable{R:Nat->aO->Array Obj->Prop}{d:Nat}{As F L:List HP}{g:aO}{b:Nat}{s:ShV}
variable{ao:Bool}
structure we extends TxR where
 so:ay
 sr:ay
def EB(t:we):List Value:=[t.so.v,aF t.state,t.sr.v]
instance:jf EB 3:=⟨λ_=>rfl,λa v h=>by simp[EB]at h;rcases h with h|h|h<;>subst h<;>rfl⟩
def jP(b:Nat):List Value:=[.pointer (some ⟨b,0,none⟩)]
instance:jf jP 1:=⟨λ_=>rfl,λa v h=>by simp[jP]at h;subst h;rfl⟩
structure WV where
 sh:List (Nat×ShV)
 aH:List dV
 aC:List we
 aj:Bool
variable{w:WV}
instance:fi prog 64 f64 (λ_=>do mark .disable;pure Extern.Race.none_):=⟨func64,rfl,rfl,by kernel_rfl,by kernel_rfl⟩
instance:fi prog 66 f66 (λ_=>do mark .enable;pure Extern.Race.none_):=⟨func66,rfl,rfl,by kernel_rfl,by kernel_rfl⟩
instance:fi prog 67 f67 (Extern.Race.marked .acquire):=⟨func67,rfl,rfl,by kernel_rfl,by kernel_rfl⟩
instance:fi prog 92 f92 (Extern.Race.marked .releaseMerge):=⟨func92,rfl,rfl,by kernel_rfl,by kernel_rfl⟩
instance:fi prog 71 f71 (Extern.Race.marked .write):=⟨func71,rfl,rfl,by kernel_rfl,by kernel_rfl⟩
instance:fi prog 97 f97 (Extern.Race.marked .read):=⟨func97,rfl,rfl,by kernel_rfl,by kernel_rfl⟩
instance:fi prog 108 f108 (Extern.Atomic.casT<|.int .i32):=⟨func108,rfl,rfl,by kernel_rfl,by kernel_rfl⟩
instance:fi prog 110 f110 (Extern.Atomic.update (Op.intArith .add) .i32 true):=⟨func110,rfl,rfl,by kernel_rfl,by kernel_rfl⟩
instance:fi prog 112 f112 (Extern.Atomic.loadT<|.int .u64):=⟨func112,rfl,rfl,by kernel_rfl,by kernel_rfl⟩
instance:fi prog 113 f113 (Extern.Atomic.casT<|.int .u64):=⟨func113,rfl,rfl,by kernel_rfl,by kernel_rfl⟩
instance:fi prog 148 f148 (Extern.Atomic.update (Op.intArith .add) .u64 true):=⟨func148,rfl,rfl,by kernel_rfl,by kernel_rfl⟩
instance:fi prog 149 f149 Extern.Atomic.storeT:=⟨func149,rfl,rfl,by kernel_rfl,by kernel_rfl⟩
instance:fi prog 73 f73 Extern.Sync.semacquire:=⟨func73,rfl,rfl,by kernel_rfl,by kernel_rfl⟩
instance:fi prog 99 f99 Extern.Sync.semrelease:=⟨func99,rfl,rfl,by kernel_rfl,by kernel_rfl⟩
instance:fi prog 72 f72 (λ_=>pure<|.bool false):=⟨func72,rfl,rfl,by kernel_rfl,by kernel_rfl⟩
instance:Up prog 143:=⟨underlying143⟩
end
section
open Go.Proofs
def dk(n:Int):List Value:=[.int .i32 n]
instance:jf dk 1:=⟨λ_=>rfl,λa v h=>by simp[dk]at h;subst h;rfl⟩
def db(o:bO):List Value:=[.bool o.w,.int .u8 o.k,.int .i32 o.v]
instance:jf db 3:=⟨λ_=>rfl,λa v h=>by simp[db]at h;rcases h with h|h|h<;>subst h<;>rfl⟩
structure lJ(I:HL)(m:dV):Prop where
 o:gg I db 67 m.so m.ops
 r:gg I dk 21 m.sr m.reads
 z:m.reads.length<2^20
inductive iQ where
 |cK (tx home:Int) (ops:List bO) (so:ay)
 |dec (tx:Int) (yes:Bool) (reads:List Int) (sr:ay)
 |kY (tx:Int) (yes:Bool)
def iQ.abs:iQ->aR
 |.cK tx home O _=>.cK tx home O
 |.dec tx yes reads _=>.dec tx yes reads
 |.kY tx yes=>.kY tx yes
def iQ.tid:iQ->aP
 |.cK .. =>274
 |.dec .. =>277
 |.kY .. =>281
def iQ.pay:iQ->Value
 |.cK tx home _ so=>.agg #[aF tx,aF home,so.v]
 |.dec tx yes _ sr=>.agg #[aF tx,.bool yes,sr.v]
 |.kY tx yes=>.agg #[aF tx,.bool yes]
def iQ.val(e:iQ):Value:=.iface e.tid e.pay
def pK(e:iQ):List Value:=[e.val]
instance:jf pK 1:=⟨λ_=>rfl,λa v h=>by simp[pK]at h;subst h;cases a<;>rfl⟩
def iQ.J(I:HL):iQ->Prop
 |.cK _ _ O so=>gg I db 67 so O/\O.length<2^20
 |.dec _ _ reads sr=>gg I dk 21 sr reads/\reads.length<2^20
 |.kY _ _=>True
structure rY where
 pl:Int
 home:Int
 ops:List bO
 so:ay
def rY.abs(p:rY):AT:=⟨p.pl,p.home,p.ops⟩
def vS(p:rY):Value:=.agg #[aF p.pl,aF p.home,p.so.v]
def qB(p:iK):Value:=.agg #[aF p.pl,.bool p.yes]
def fT(n:Int):Value:=.int .i32 n
def eh(n:Int):Value:=aF n
def KO(v:List Int×ay):Value:=v.2.v
abbrev az(b:Nat):Value:=.pointer<|some ⟨b,0,none⟩
structure fU where
 b:Nat
 ops:List bO
 so:ay
 bq:List (Int×(List Int×ay))
 mv:Nat
 cf:List (Int×Int)
 ma:Nat
 dec:Bool
 yes:Bool
def fU.abs(u:fU):m9:=⟨u.ops,u.bq.map λp=>(p.1,p.2.1),u.cf,u.dec,u.yes⟩
abbrev Il(u:fU)(F:List HP):List HP:=dq u.b (.cells #[u.so.v,.map<|some u.mv,.map<|some u.ma,.bool u.dec,.bool u.yes] 299 (0,0))::dt .i64 KO u.mv u.bq::dt .i64 eh u.ma u.cf::F
def ai4(u:fU):HP:=all<|Il u []
structure FU(I:HL)(u:fU):Prop where
 o:gg I db 67 u.so u.ops
 r:∀ v∈u.bq,gg I dk 21 v.2.2 v.2.1
 z:∀ v∈u.bq,v.2.1.length<2^20
def uG(a:lB):List Value:=[aF a.tm,aF a.ord,aF a.tx,.bool a.again]
instance:jf uG 4:=⟨λ_=>rfl,λa v h=>by simp[uG]at h;rcases h with h|h|h|h<;>subst h<;>rfl⟩
structure dw where
 me:Int
 n:Int
 up:Bool
 log:List iQ
 aE:Int
 values:List (Int×Int)
 aQ:List (Int×Int)
 pend:List (Int×rY)
 done:List (Int×iK)
 bF:List (Int×iK)
 cr:List (Int×fU)
 timers:List lB
 order:Int
 clock:Int
 waits:List dV
 out:List dV
def dw.abs(s:dw):eg:=⟨s.me,s.n,s.up,s.log.map (·.abs),s.aE,s.values,s.aQ,s.pend.map λp=>(p.1,p.2.abs),s.done,s.bF,s.cr.map λp=>(p.1,p.2.abs),s.timers.map (·.sj),s.clock,s.waits.map (·.toMsgR),s.out.map (·.toMsgR)⟩
def yo(u:fU):Value:=az u.b
abbrev rZ(p:Int×fU):HP:=ai4 p.2
abbrev O1(b:Nat)(s:dw)(lg wt ot tm:ay)(bv bl bp bd be bu:Nat)(tl:List lB)(F:List HP):List HP:=
 dq b (.cells #[aF s.me,aF s.n,.bool s.up,lg.v,aF s.aE,.map<|some bv,.map<|some bl,.map<|some bp,.map<|some bd,.map<|some be,.map<|some bu,tm.v,aF s.order,aF s.clock,wt.v,ot.v] 180 (0,0))::
  bK pK 1 272 lg s.log::dt .u8 fT bv s.values::dt .u8 eh bl s.aQ::dt .i64 vS bp s.pend::dt .i64 qB bd s.done::dt .i64 qB be s.bF::dt .i64 yo bu s.cr::all (s.cr.map rZ)::
  bK uG 4 263 tm tl::bK dF 7 190 wt s.waits::bK dF 7 190 ot s.out::F
def dB(b:Nat)(s:dw):HP:=λh=>∃ lg wt ot tm:ay,∃ bv bl bp bd be bu:Nat,∃ tl:List lB,ql s.timers s.order tl/\all (O1 b s lg wt ot tm bv bl bp bd be bu tl []) h
structure ShJ(I:HL)(s:dw):Prop where
 log:∀ r∈s.log,r.J I
 pend:∀ p∈s.pend,gg I db 67 p.2.so p.2.ops
 cr:∀ u∈s.cr,FU I u.2
 waits:∀ m∈s.waits,lJ I m
 out:∀ m∈s.out,lJ I m
theorem lJ.mono{I I':HL}{m:dV}(hs:Sub I I')(h:lJ I m):lJ I' m:=⟨h.o.mono hs,h.r.mono hs,h.z⟩
theorem iQ.J.mono{I I':HL}{m:iQ}(hs:Sub I I')(h:m.J I):m.J I':=by
 cases m with
 |cK tx home O so=>exact⟨gg.mono h.1 hs,h.2⟩
 |dec tx yes reads a=>exact⟨gg.mono h.1 hs,h.2⟩
 |kY tx yes=>trivial
theorem FU.mono{I I':HL}{u:fU}(hs:Sub I I')(h:FU I u):FU I' u:=⟨h.o.mono hs,λv a=>(h.r v a).mono hs,h.z⟩
theorem ShJ.mono{I I':HL}{s:dw}(hs:Sub I I')(h:ShJ I s):ShJ I' s:=⟨λr a=>(h.log r a).mono hs,λr a=>(h.pend r a).mono hs,λu b=>(h.cr u b).mono hs,λr a=>(h.waits r a).mono hs,λr a=>(h.out r a).mono hs⟩
section
variable{R:Nat->aO->Array Obj->Prop}{d:Nat}{As F L:List HP}{g:aO}{b:Nat}{s:dw}
theorem dB.opn(hf:Fo (dB b s) As L:=by exact Fo.au)(h:∀ (lg wt ot tm:ay) (a c e bd f i:Nat) (tl:List lB),ql s.timers s.order tl->At R d (O1 b s lg wt ot tm a c e bd f i tl L) g):At R d As g:=by refine At.fo hf λH st=>?_;obtain⟨lg,st⟩:=st.ex;obtain⟨wt,st⟩:=st.ex;obtain⟨ot,st⟩:=st.ex;obtain⟨tm,st⟩:=st.ex;obtain⟨a,st⟩:=st.ex;obtain⟨c,st⟩:=st.ex;obtain⟨e,st⟩:=st.ex;obtain⟨bd,st⟩:=st.ex;obtain⟨f,st⟩:=st.ex;obtain⟨i,st⟩:=st.ex;obtain⟨tl,st⟩:=st.ex;obtain⟨j,st⟩:=st.pure;exact h lg wt ot tm a c e bd f i tl j H st.flat
theorem dB.cls{c:Array Value}(s:dw)(h:At R d (dB b s::F) g){lg wt ot tm:ay}{a e f bd i j:Nat}{tl:List lB}(ht:ql s.timers s.order tl:=by assumption)(hf:Fo (dq b<|.cells c 180 (0,0)) As L:=by exact Fo.au)
  (hc:c=#[aF s.me,aF s.n,.bool s.up,lg.v,aF s.aE,.map<|some a,.map<|some e,.map<|some f,.map<|some bd,.map<|some i,.map<|some j,tm.v,aF s.order,aF s.clock,wt.v,ot.v]:=by rfl)
  (hr:fK [bK pK 1 272 lg s.log,dt .u8 fT a s.values,dt .u8 eh e s.aQ,dt .i64 vS f s.pend,dt .i64 qB bd s.done,dt .i64 qB i s.bF,dt .i64 yo j s.cr,all<|s.cr.map rZ,
   bK uG 4 263 tm tl,bK dF 7 190 wt s.waits,bK dF 7 190 ot s.out] L F:=by exact fK.au):At R d As g:=by
 subst hc;refine At.perm (hf.perm.trans<|hr.perm.cons _) λH st=>h H ?_;exact Sat.imp (λk x=>⟨lg,wt,ot,tm,a,e,f,bd,i,j,tl,ht,x⟩)<|Sat.je (l:=O1 b s lg wt ot tm a e f bd i j tl []) st
end
end
section
open Go.Proofs
variable{ao:Bool}
theorem vT:aI prog ao cX 91 #[] [] (λv As=>∃ a b e bd f g:Nat,v=.agg #[.map (some a),.map<|some b,.map<|some e,.map<|some bd,.map<|some f,.map<|some g,.slice none 0 0,aF 0,aF 0,.slice none 0 0]/\
  As=[dt .u8 fT a [],dt .u8 eh b [],dt .i64 vS e [],dt .i64 qB bd [],dt .i64 qB f [],dt .i64 yo g []]):=by
 refine aI.of λR C kd d F c cs h i=>?_;refine pQ ?_;refine C.al rfl λk=>?_;refine bL ?_;refine C.mm .u8 fT rfl λb1=>?_;refine C.mm .u8 eh rfl λb2=>?_;refine C.mm .i64 vS rfl λb3=>?_;refine C.mm .i64 qB rfl λb4=>?_;refine C.mm .i64 qB rfl λb5=>?_;refine C.mm .i64 yo rfl λj=>?_;refine dT ?_;exact C.Ws rfl h i ⟨b1,b2,b3,b4,b5,j,rfl,rfl⟩
def kU(k n:Int):dw:=⟨k,n,true,[],0,[],[],[],[],[],[],[],0,0,[],[]⟩
theorem O2(k n:Int):(kU k n).abs=Kf k n:=rfl
theorem Xb(I:HL)(k n:Int):ShJ I (kU k n):=⟨by simp[kU],by simp[kU],by simp[kU],by simp[kU],by simp[kU]⟩
theorem fF{n:Int}:aI prog ao cX 47 #[aF k,aF n] [] (λv As=>∃ b,v=az b/\As=[dB b (kU k n)]):=by refine aI.of λR C kd d F c cs a e=>?_;refine Vz ?_;refine C.fZ vT ?_;rintro v aT ⟨g,h,i,j,l,m,rfl,rfl⟩;refine uz ?_;refine C.bx rfl λf=>?_;refine bL ?_;refine At.aV pK 1 272<|At.aV uG 4 263<|At.aV dF 7 190<|At.aV dF 7 190 ?_;refine At.He (show At R d (all (([]:List (Int×fU)).map rZ)::_) _ from ?_);refine dB.cls ⟨k,n,true,[],0,[],[],[],[],[],[],[],0,0,[],[]⟩ ?_ (tl:=[]) (lg:=aV) (wt:=aV) (ot:=aV) (tm:=aV)<|ql.zero 0;exact C.cG (aT:=[dB f ⟨k,n,true,[],0,[],[],[],[],[],[],[],0,0,[],[]⟩]) a e ⟨_,rfl,rfl⟩
theorem yp{key n:Int}(h1:97<=key/\key<=122)(e:1<=n):aI prog ao cX 101 #[.int .u8 key,aF n] [] (λv As=>v=aF (atR key n)/\As=[]):=by refine aI.of λR C kd d F c cs a b=>?_;refine su ?_;refine pP ?_;refine C.rem rfl ?_;refine bL ?_;exact C.cG a b ⟨rfl,rfl⟩
theorem vU(b:gg I db 67 so O)(hl:O.length<2^43):aI prog ao cX 55 #[so.v] [bI I] (λv As=>∃ s',v=s'.v/\As=[bK db 3 67 s' O,bI I]):=by
 refine aI.of λR C kd d F c cs e f=>?_;refine cH ?_;rcases b with⟨rfl,rfl⟩|⟨pad,h1,g⟩
 .refine gV ?_;refine C.YY rfl ?_ (a:=none) (len:=0) (cap:=0);refine fB ?_;refine At.aV db 3 67 ?_;exact C.cG e f ⟨aV,rfl,rfl⟩
 .have b:gg I db 67 so O:=.inr ⟨pad,h1,g⟩;have h:so.v=.slice (some ⟨so.b,0,none⟩) so.len so.cap:=by unfold ay.v;rw[show so.a=some ⟨so.b,0,none⟩from congrArg ay.a h1]
  refine gV ?_;refine C.YY rfl ?_ (a:=some ⟨so.b,0,none⟩) (len:=so.len) (cap:=so.cap) (hx:=h);refine dT ?_;refine C.bs0 db rfl λb5=>?_;refine ga ?_;refine C.YR (l:=[]) O rfl (λs'=>?_) (hsrc:=λH st=>?_) (s:=⟨some ⟨b5,0,none⟩,0,0⟩)
  .refine bL ?_;exact C.cG e f ⟨s',rfl,rfl⟩
  .exact ez.src (ez.bI Fo.au b) st λj=>rfl
theorem EC{n:Int}(hi:(i:Int)<n):(upto n).take (i+1)=(upto n).take i++[(i:Int)]:=by
 have hl:i<(upto n).length:=by simp[upto];omega
 rw[js hl]
 congr 2
 simp[upto]
theorem TL{n:Int}(hi:¬ (i:Int)<n):(upto n).take i=upto n:=lA (by simp[upto];omega)
abbrev tM(m:dV):Value:=.agg #[aF m.kind,aF m.aX,aF m.to,aF m.tx,.bool m.yes,m.so.v,m.sr.v]
theorem ig{b:Nat}{s:dw}{m:dV}(hl:s.out.length<2^34):aI prog ao cX 179 #[az b,tM m] [dB b s]
  (λv As=>As=[dB b {s with out:=s.out++[{m with aX:=s.me}]}]):=by
 refine aI.of λR C kd d F c cs f g=>?_;refine cH ?_;refine dB.opn (h:=λlg wt j tm k l n o p q r t=>?_);refine bL ?_;refine C.bx rfl λb3=>?_;refine pP ?_;refine C.dx (di 9 0 10) 11 [6,7,10] 1 ?_;refine zw8 ?_;refine Ch.m 6 (bj λe aa a=>?_);refine C.CZ rfl λi=>a _ _ .cons ?_;refine Ch.m 7 (bj λe aa a=>?_);refine C.DR {m with aX:=s.me} rfl λs'=>?_;refine a _ _ ?_;refine Ch.m 10 (bj λe aa a=>?_);refine C.st rfl<|a _ undef ?_;refine gy ?_;refine dB.cls {s with out:=s.out++[{m with aX:=s.me}]} ?_;exact C.eY f g rfl
theorem jF{b:Nat}{s:dw}{m:dV}(hl:s.waits.length<2^34):aI prog ao cX 201 #[az b,tM m] [dB b s]
  (λv As=>As=[dB b {s with waits:=s.waits++[{m with aX:=s.me}]}]):=by
 refine aI.of λR C kd d F c cs f g=>?_;refine cH ?_;refine dB.opn (h:=λlg wt i tm j k l n o p q r=>?_);refine bL ?_;refine C.bx rfl λb3=>?_;refine pP ?_;refine C.dx (di 9 0 12) 13 [7,8,12] 1 ?_;refine Kw ?_;refine Ch.m 7 (bj λe aa a=>?_);refine C.CZ rfl λt=>a _ _ .cons ?_;refine Ch.m 8 (bj λe aa a=>?_);refine C.DR {m with aX:=s.me} rfl λs'=>?_;refine a _ _ ?_;refine Ch.m 12 (bj λe aa a=>?_);refine C.st rfl<|a _ undef ?_;refine gy ?_;refine dB.cls {s with waits:=s.waits++[{m with aX:=s.me}]} ?_;exact C.eY f g rfl
theorem pb{b:Nat}{s:dw}{en:iQ}(hl:s.log.length<2^34):aI prog ao cX 200 #[az b,en.val] [dB b s]
  (λv As=>v=aF s.log.length/\As=[dB b {s with log:=s.log++[en]}]):=by
 refine aI.of λR C kd d F c cs a e=>?_;refine cH ?_;refine dB.opn (h:=λlg wt f tm g i j k m n o p=>?_);refine mE ?_;refine C.CZ rfl λq=>?_;refine C.DR en rfl λs'=>?_;refine pP ?_;refine C.qK rfl ?_ (s:=s') (l:=s.log++[en]);refine C.ar rfl ?_ (r:=s.log.length) (ha:=congrArg some<|by simp) (hr:=v9 ai ai);refine bL ?_;refine dB.cls {s with log:=s.log++[en]} ?_;exact C.cG a e ⟨rfl,rfl⟩
theorem KP{b:Nat}{s:dw}:aI prog ao cX 100 #[az b] [dB b s]
  (λv As=>∃ so:ay,v=so.v/\As=[bK dF 7 190 so s.out,dB b {s with out:=[]}]):=by
 refine aI.of λR C kd d F c cs a e=>?_;refine cH ?_;refine dB.opn (h:=λlg wt f tm g i j k l m n o=>?_);refine lu ?_;refine oN ?_;refine At.aV dF 7 190 ?_;refine dB.cls {s with out:=[]} ?_ (ot:=aV);exact C.cG a e ⟨f,rfl,rfl⟩
abbrev QJ:=List bO×ay
def ptG(v:QJ):Value:=v.2.v
abbrev TM(p:Int×QJ):HP:=bK db 3 67 p.2.2 p.2.1
def y6(m:List (Int×QJ)):List (Int×List bO):=m.map λp=>(p.1,p.2.1)
def rh(m:List (Int×QJ))(k:Int):QJ:=(aB m k).getD ([],aV)
theorem TN(m:List (Int×QJ))(k:Int):((aB m k).map ptG).getD (.slice none 0 0)=(rh m k).2.v:=by unfold rh;cases aB m k<;>rfl
theorem Im(m:List (Int×QJ))(k:Int):(rh m k).1=(aB (y6 m) k).getD []:=by unfold rh y6;rw[wV (w:=λv:QJ=>v.1)];cases aB m k<;>rfl
variable{R:Nat->aO->Array Obj->Prop}{d:Nat}{As L L2:List HP}{g:aO}{m:List (Int×QJ)}{k:Int}
theorem At.ai5(hf:Fo (all<|m.map TM) As L)(h:At R d (bK db 3 67 (rh m k).2 (rh m k).1::all ((eo m k).map TM)::L) g):At R d As g:=by
 unfold rh at h;cases a:aB m k with
 |none=>
  rw[a,D5 a]at h;refine At.aV db 3 67<|At.perm ?_ h;exact hf.perm.cons _
 |some v=>
  rw[a]at h;exact D4 a hf h
theorem At.ai6(hf:Fo (all<|m.map TM) As L)(hi:Fo (bI I) L L2)(h:∀ I',Sub I I'->(∀ p∈m,gg I' db 67 p.2.2 p.2.1)->At R d (bI I'::L2) g):At R d As g:=by
 induction m generalizing I As L with
 |nil=>
  refine At.fo hf λH s=>?_;exact(At.fo hi<|h I (Sub.refl _)<|by simp) H s.drop
 |cons p m e=>
  refine At.fo hf λH s=>?_;refine(show At R d (TM p::all (m.map TM)::bI I::L2) g from ?_) H<|Sat.under (λ_ s=>Sat.under (λ_ s=>s.perm hi.perm) s.je)<|Sat.flat (l:=TM p::m.map TM) s;refine At.Si (I:=I) (s:=p.2.2) (f:=db) .head (.tail .head) λa h1 hs=>?_;refine e (I:=a) (As:=bI a::all (m.map TM)::L2) (L:=bI a::L2) (.tail .head) .head λi c j=>?_;refine h i (h1.trans c) λq b=>?_;rcases gU.1 b with rfl|b
  .exact hs.mono c
  .exact j q b
theorem Io(l:List bO)(o:bO)(n:Int):dL (l++[o]) n=bC (dL l n) (atR o.k n) ((aB (dL l n)<|atR o.k n).getD []++[o]):=by simp[dL]
theorem oF{n:Int}(L:gg I db 67 so O)(y:np O)(z:1<=n):
  aI prog ao cX 202 #[so.v,aF n] [bI I] (λv As=>∃ b I' m,v=.map (some b)/\Sub I I'/\y6 m=dL O n/\(∀ p∈m,gg I' db 67 p.2.2 p.2.1)/\As=[dt .i64 ptG b m,bI I']):=by
 have hl:O.length<2^20:=y.2;refine aI.of λR C kd d F c cs A B=>?_;refine vI ?_;refine C.mm .i64 ptG rfl λo=>?_;refine iE ?_;refine At.He (show At R d (all (([]:List (Int×QJ)).map TM)::_) _ from ?_);refine C.cN (X:=Nat×List (Int×QJ)) (λx=>[(1,aF n),(5,.map<|some o),(10,so.v),(11,aF O.length),(12,aF x.1)]) (λx=>all (x.2.map TM)::dt .i64 ptG o x.2::bI I::F) (λx=>x.1<=O.length/\y6 x.2=dL (O.take x.1) n/\∀ p∈x.2,p.2.1.length<=x.1) (λx=>O.length-x.1) (0,[]) ⟨rfl,rfl,rfl,rfl,rfl,trivial⟩ ⟨fp _,rfl,by simp⟩ ?_;rintro⟨i,m⟩ e ⟨hi,j,a⟩ D;dsimp only at hi j a⊢;refine bL ?_;refine C.cmp rfl (λr=>?_) λr=>?_
 .refine bL ?_;have t:i<O.length:=by simpa using r
  have E:=y.1 _<|dG t;refine bL ?_;refine C.zx rfl λM=>?_;refine C.al rfl λN=>?_;refine C.vz rfl ?_ (hv:=λv h=>jf.one (f:=db) O[i] v<|by simpa using h);refine fB ?_;refine C.cE (yp (key:=O[i].k) (n:=n) E z) ?_;refine su ?_;refine bL ?_;have P:(rh m<|atR O[i].k n).1.length<=i:=by
   unfold rh;cases H:aB m (atR O[i].k n)with
   |none=>exact fp _
   |some v=>exact a _<|cg H
  refine At.ai5 (m:=m) (k:=atR O[i].k n) Fo.au ?_;refine fB ?_;refine C.lkR (co:=false) (g:=ptG) (l:=m) (q:=atR O[i].k n) rfl ?_;simp only[fW,eQ];rw[TN];refine C.ldS rfl ?_ (hz:=zk rfl) (hc:=rfl);refine C.CZ rfl λJ=>?_;refine C.DR (s:=(rh m<|atR O[i].k n).2) (l:=(rh m<|atR O[i].k n).1) O[i] rfl λu=>?_;refine C.mu (w:=((rh m<|atR O[i].k n).1++[O[i]],u)) (l:=m) (q:=atR O[i].k n) rfl ?_;refine fB ?_;refine Hr (f:=TM) (m:=m) (k:=atR O[i].k n) ((rh m<|atR O[i].k n).1++[O[i]],u) fK.au ?_;refine again D (i+1,bC m (atR O[i].k n) ((rh m<|atR O[i].k n).1++[O[i]],u)) ⟨t,?_,λp hp=>?_⟩<|dE
  .rw[js t,Io,<- j,<- Im];exact l4 (λv:QJ=>v.1) m
  .rcases eO hp with rfl|h
   .simp;omega
   .have:=a p h;dsimp only at this⊢;omega
 .refine bL ?_;have e1:O.take i=O:=lA (by simp at r;omega);rw[e1]at j;refine At.ai6 (I:=I) (m:=m) Fo.au Fo.au λI' K hs=>?_;refine dY ?_;exact C.cG A B ⟨o,I',m,rfl,K,j,hs,rfl⟩
theorem fK.skip{A:HP}{Bs As F:List HP}(r:fK Bs As F):fK Bs (A::As) (A::F):=by
 induction r with
 |nil=>exact .nil
 |cons f _ a=>exact .cons (.tail f) a
theorem fK.afh{F:List HP}:∀ A:List HP,fK A (A++F) F
 |[]=>.nil
 |a::A=>.cons .head<|fK.afh A
theorem Fo.app{A:HP}{F:List HP}:∀ E:List HP,Fo A (E++A::F)<|E++F
 |[]=>.head
 |_::E=>.tail<|Fo.app E
theorem qC{f:bN}{fu:Func}{M:Code}{nf:Nat}[bd:Body prog f fu M nf]{a1 a2:Array Value}{b:Nat}{s:dw}{E:List HP}{inv:Nat->dw->HL->Prop}{Zh:eg->Int->List bO->eg}
  (N:gg I db 67 so O) (P:np O) (Q:1<=s.n/\s.n<=4) (S:∀ I',Sub I I'->inv 0 s I') (T:∀ k x I',inv k x I'->inv (k+1) x I')
  (hf:∀ (k:Nat) x I' sp part,Sub I I'->(k:Int)<s.n->inv k x I'->gg I' db 67 sp part->part≠[]->part=(aB (dL O s.n) k).getD []->aI prog ao cX f (a1++[aF k,sp.v].toArray++a2) (dB b x::bI I'::E)
   (λv As=>∃ x' I'',Sub I' I''/\inv (k+1) x' I''/\x'.abs=Zh x.abs k part/\As=dB b x'::bI I''::E)):
  aI prog ao cX 197 #[az b,so.v,.func (.func f) a1 a2] (dB b s::bI I::E)
   (λv As=>∃ x' I',Sub I I'/\inv s.n.toNat x' I'/\x'.abs=sZ s.abs O Zh/\As=dB b x'::bI I'::E):=by
 refine aI.of λR C kd d F c cs U W=>?_;refine cH ?_;refine dB.opn (h:=λlg wt ot tm bv bl bp bd be bu tl ht=>?_);refine iE ?_;refine C.fZ (oF N P Q.1) ?_;rintro v aT ⟨K,w,m,rfl,y,Y,hs,rfl⟩;refine Y8 ?_;refine dB.cls s ?_;refine C.cN (X:=Nat×dw×HL) (λx=>[(0,az b),(2,.func (.func f) a1 a2),(6,.map<|some K),(18,aF s.n),(19,aF x.1)]) (λx=>dB b x.2.1::bI x.2.2::dt .i64 ptG K m::(E++F))
  (λx=>(x.1:Int)<=s.n/\Sub w x.2.2/\inv x.1 x.2.1 x.2.2/\x.2.1.abs=((upto s.n).take x.1).foldl (λz k=>if((aB (dL O s.n) k).getD []).isEmpty then z else Zh z k ((aB (dL O s.n) k).getD [])) s.abs) (λx=>(s.n-x.1).toNat) (0,s,w) ⟨rfl,rfl,rfl,rfl,rfl,trivial⟩ ⟨dE,Sub.refl _,S w y,rfl⟩ ?_
 rintro⟨k,x,o⟩ e ⟨Z,n,a,p⟩ L;dsimp only at Z n a p⊢;refine bL ?_;refine C.cmp rfl (λA=>?_) λA=>?_
 .refine bL ?_;have i:(k:Int)<s.n:=A;have j:(rh m k).1=(aB (dL O s.n) k).getD []:=by rw[Im,Y]
  have r:gg o db 67 (rh m k).2 (rh m k).1:=by
   unfold rh;cases hg:aB m k with
   |none=>exact .nil ..
   |some v=>exact(hs _<|cg hg).mono n
  generalize B:rh m k=u at j r;refine iE ?_;refine C.lkR (co:=false) (g:=ptG) (l:=m) (q:=(k:Int)) rfl ?_;simp only[fW,eQ];rw[TN,B];refine dY ?_;refine C.qK rfl ?_ (s:=u.2) (l:=u.1) (f:=db);refine C.cmp rfl (λt=>?_) λt=>?_
  .refine gV ?_;refine C.YQ (hf k x o u.2 u.1 (y.trans n) i a r (by intro h;rw[h]at t;simp at t) j) ?_ (hr:=.cons .head<|.cons .head<|fK.skip<|fK.afh E);rintro v aT ⟨x',I3,D,H,ml,rfl⟩;refine vI ?_;refine again L (k+1,x',I3) ⟨dE,n.trans D,H,?_⟩ (dE) (hr:=.cons .head<|.cons .head<|.cons (Fo.app E) .refl);rw[EC i,lT,<- p,qQ,yF,<- j,ax (by intro h;rw[Rg]at h;rw[h]at t;simp at t),ml]
  .refine gV ?_;refine again L (k+1,x,o) ⟨dE,n,T _ _ _ a,?_⟩<|dE;rw[EC i,lT,<- p,qQ,yF,<- j,aJ (by rw[Rg];exact yD ai)]
 .refine bL ?_;have i:¬ (k:Int)<s.n:=A;rw[TL i]at p;have J:s.n.toNat=k:=ai;exact C.eY (aT:=dB b x::bI o::E) U W ⟨x,o,y.trans n,by rw[J];exact a,p,rfl⟩
theorem BW{tm:ay}:aI prog ao cX 253 #[tm.v] [bK uG 4 263 tm l] (λv As=>v=aF l.length/\As=[bK uG 4 263 tm l]):=by refine aI.of λR C kd d F c cs a b=>?_;refine Y8 ?_;exact C.cG a b ⟨rfl,rfl⟩
theorem tN{tm:ay}(hi:i<l.length)(hj:j<l.length):aI prog ao cX 254 #[tm.v,aF i,aF j] [bK uG 4 263 tm l] (λv As=>∃ z,v=.bool z/\(z=true↔ov (gA l i) (gA l j))/\As=[bK uG 4 263 tm l]):=by
 refine aI.of λR C kd d F c cs e b=>?_;refine cH ?_;simp only[mQ hi,mQ hj]at b;refine dY ?_;by_cases g:l[i].tm≠l[j].tm
 .refine C.dx (di 7 0 11) 11 [] 0 ?_;refine nT ?_;refine Dr.p (λh=>C.fQ rfl h (hf:=g)) ?_;refine Dr.chain rfl ?_;refine pR ?_;by_cases a:l[i].tm<l[j].tm
  .refine C.dx (di 18 0 11++[(6,11)]) 12 [] 0 ?_;refine nT ?_;refine Dr.p (λh=>C.fQ rfl h (hf:=a)) ?_;refine zy ?_;refine gy ?_;exact C.cG e b ⟨true,rfl,⟨λ_=>.inl a,λ_=>rfl⟩,rfl⟩
  .refine C.dx (di 18 0 11++[(6,11)]) 12 [] 0 ?_;refine nT ?_;refine Dr.p (λh=>C.ed rfl h (hf:=a)) ?_;refine zy ?_;refine gy ?_;exact C.cG e b ⟨false,rfl,⟨nofun,λh=>by rcases h with h|h<;>omega⟩,rfl⟩
 .refine C.dx (di 7 0 11) 11 [] 0 ?_;refine nT ?_;refine Dr.p (λh=>C.ed rfl h (hf:=g)) ?_;refine Dr.chain rfl ?_;refine pR ?_;by_cases f:l[i].ord<l[j].ord
  .refine C.dx (di 29 0 11++[(6,11)]) 12 [] 0 ?_;refine nT ?_;refine Dr.p (λh=>C.fQ rfl h (hf:=f)) ?_;refine zy ?_;refine gy ?_;exact C.cG e b ⟨true,rfl,⟨λ_=>.inr ⟨ai,f⟩,λ_=>rfl⟩,rfl⟩
  .refine C.dx (di 29 0 11++[(6,11)]) 12 [] 0 ?_;refine nT ?_;refine Dr.p (λh=>C.ed rfl h (hf:=f)) ?_;refine zy ?_;refine gy ?_;exact C.cG e b ⟨false,rfl,⟨nofun,λh=>by rcases h with h|h<;>omega⟩,rfl⟩
theorem tO{tm:ay}(hi:i<l.length)(hj:j<l.length):aI prog ao cX 255 #[tm.v,aF i,aF j] [bK uG 4 263 tm l] (λv As=>As=[bK uG 4 263 tm (Fv l i j)]):=by refine aI.of λR C kd d F c cs g b=>?_;refine cH ?_;simp only[Fv,mQ hi,mQ hj]at b;refine C.go ?_;refine C.dx (di 6 0 13++[(19,14)]) 16 [13,14,15] 0 ?_;refine oB ?_;refine Dr.l (λk h=>C.aan hj rfl h (s:=tm) (f:=uG)) ?_;refine uQ ?_;refine Dr.l (λk h=>C.aan hi rfl h (s:=tm) (f:=uG)) ?_;refine zy ?_;refine Ch.m 13 (bj λe aa a=>?_);refine C.aao l[j] rfl (a _ undef ?_) (j:=i);refine Ch.m 14 (bj λe aa a=>?_);refine C.dZ rfl (a _ _ ?_) (hj:=by rw[eF];exact hj);refine Ch.m 15 (bj λe aa a=>?_);refine C.aao l[i] rfl (a _ undef ?_) (j:=j) (hj:=by rw[eF];exact hj);refine gy ?_;exact C.eY g b rfl
theorem Iq{tm:ay}{a:lB}{b off:Nat}{c:Array Value}(hc:c[off]? =some tm.v)(hl:l.length<2^34):aI prog ao cX 275 #[.pointer (some ⟨b,off,none⟩),.iface 263<|.agg (uG a).toArray] [dq b (.cells c 180 (0,0)),bK uG 4 263 tm l]
  (λv As=>∃ i:ay,As=[dq b (.cells (c.setIfInBounds off i.v) 180 (0,0)),bK uG 4 263 i<|l++[a]]):=by
 refine aI.of λR C kd d F cc cs j k=>?_;refine cH ?_;have g:off<c.size:=(iF.1 hc).1;refine C.go ?_;refine C.dx (di 4 0 9) 10 [6,7,9] 1 ?_;refine uQ ?_;refine Dr.l (λn h=>C.ld rfl h (hc:=hc)) ?_;refine lN ?_;refine Dr.p (λh=>C.ta (ok:=false) underlying263 rfl rfl h) ?_;refine zy ?_;refine Ch.m 6 (bj λe aa f=>?_);refine C.CZ rfl λm=>f _ _ .cons ?_;refine Ch.m 7 (bj λe aa f=>?_);refine C.DR a rfl λs'=>?_;refine f _ _ ?_;refine Ch.m 9 (bj λe aa f=>?_);refine C.st rfl (f _ undef ?_) (hz:=g);refine gy ?_;exact C.eY j k ⟨s',rfl⟩
theorem KR{tm:ay}{b off:Nat}{c:Array Value}(hc:c[off]? =some tm.v)(hl:0<l.length)(p:l.length<2^34):aI prog ao cX 274 #[.pointer (some ⟨b,off,none⟩)] [dq b (.cells c 180 (0,0)),bK uG 4 263 tm l]
  (λv As=>∃ e:ay,v=.iface 263 (.agg (uG<|gA l<|l.length-1).toArray)/\As=[dq b (.cells (c.setIfInBounds off e.v) 180 (0,0)),bK uG 4 263 e<|l.take<|l.length-1]):=by
 refine aI.of λR C kd d F cc cs j g=>?_;refine cH ?_;have a:off<c.size:=(iF.1 hc).1;have i:l.length-1<l.length:=ai;rw[mQ i]at g;refine At.G9 (A:=bK uG 4 263 tm l) Fo.au (λh x=>Hd hl h x) λk=>?_;obtain⟨q,m,o⟩:=k;refine iE ?_;refine C.ld rfl ?_ (hc:=hc);refine gV ?_;refine C.ar rfl ?_ (r:=((l.length-1:Nat):Int)) (ha:=congrArg some ai);refine ga ?_;refine C.aan i rfl ?_ (s:=tm) (f:=uG);refine C.al rfl λb4=>?_;refine C.vz rfl ?_ (hv:=λv h=>jf.one (f:=uG) l[l.length-1] v<|by simpa using h);refine gV ?_;refine C.ar rfl ?_ (r:=((l.length-1:Nat):Int)) (ha:=congrArg some ai);refine C.shi rfl ?_ (hi:=((l.length-1:Nat):Int)) (hh:=by constructor<;>omega);rw[gN];refine ga ?_;refine C.st rfl ?_ (hz:=a);refine bL ?_;refine C.ldS rfl ?_ (hz:=zk rfl) (hc:=rfl);refine dT ?_;refine At.turn (A:=bK uG 4 263 tm l) Fo.au (MI (n:=l.length-1) ai) ?_;exact C.cG j g ⟨⟨tm.a,l.length-1,tm.cap⟩,rfl,rfl⟩
set_option maxRecDepth 100000 in
theorem O3:∃ q,prog.types.size+Made.depth=q+1:=⟨prog.types.size+99,by unfold Made.depth;omega⟩
variable{tm:ay}{b off:Nat}{c:Array Value}
def Xc(name:String)(f:bN)(tm:ay)(b off:Nat)(As:List HP):Prop:=∀ H d (Q:bN×Value->Array Obj->Nat->Prop),Sat As (hp H)->Q (f,tm.v) H d->dQ prog cX (method (prog.types.size+Made.depth) 265 (.pointer<|some ⟨b,off,none⟩) name) H d Q
set_option maxRecDepth 100000 in
theorem TP{name:String}{f:bN}{m:Go.Method}(hf:t265.methods.find? (·.name==name)=some m)(a:m.path=#[])(e:m.func=some (f,false))(hc:c[off]? =some tm.v)(hh:Fo (dq b<|.cells c 180 (0,0)) As L):Xc name f tm b off As:=λH d Q s q=>by obtain⟨h,g⟩:=O3;rw[g];exact Om (aD type265) hf a e underlying265 ((s.perm hh.perm).get) hc rfl q
set_option maxRecDepth 100000 in
theorem Zj(hc:c[off]? =some tm.v)(hh:Fo (dq b<|.cells c 180 (0,0)) As L):Xc "Len" 253 tm b off As:=TP (m:=(t265.methods.find? (·.name== "Len")).getD default) (by kernel_rfl) (by kernel_rfl) (by kernel_rfl) hc hh
set_option maxRecDepth 100000 in
theorem KS(hc:c[off]? =some tm.v)(hh:Fo (dq b<|.cells c 180 (0,0)) As L):Xc "Less" 254 tm b off As:=TP (m:=(t265.methods.find? (·.name== "Less")).getD default) (by kernel_rfl) (by kernel_rfl) (by kernel_rfl) hc hh
set_option maxRecDepth 100000 in
theorem KT(hc:c[off]? =some tm.v)(hh:Fo (dq b<|.cells c 180 (0,0)) As L):Xc "Swap" 255 tm b off As:=TP (m:=(t265.methods.find? (·.name== "Swap")).getD default) (by kernel_rfl) (by kernel_rfl) (by kernel_rfl) hc hh
set_option maxRecDepth 100000 in
theorem abf:gG prog (method (prog.types.size+Made.depth) 265 (.pointer<|some ⟨b,off,none⟩) "Push")=some (275,.pointer<|some ⟨b,off,none⟩):=by kernel_rfl
set_option maxRecDepth 100000 in
theorem afj:gG prog (method (prog.types.size+Made.depth) 265 (.pointer<|some ⟨b,off,none⟩) "Pop")=some (274,.pointer<|some ⟨b,off,none⟩):=by kernel_rfl
end
end Go.Sl
