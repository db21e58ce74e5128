/-
  Texts that the proof needs, joined: part 2.
-/
import Derived.Test.YtjomdboiibakiaaGreatDoorUnA
import Derived.Laws.BitsLemmas
import Derived.Laws.Append
import Derived.Orders
set_option linter.unusedSimpArgs false
set_option linter.unusedVariables false
set_option maxHeartbeats 4000000
namespace Go.Sl
open Go.Proofs.Tryz
section
open Go.Conc
class Cz(P:bR)(t:aR)(z:outParam Nat):Prop where
 h:∃ i,P.info? t=some i/\i.size=z
class Bz(P:bR)(t:aR)(z:outParam Nat):Prop where
 h:∃ i,P.info? t=some i/\i.bytes=z
class Zv(P:bR)(t:aR)(v:outParam Value):Prop where
 h:∃ i,P.info? t=some i/\i.zero=some v
def adF:TypeDesc->Bool|.struct _=>true|.array _ _=>true|_=>false
class Ag(P:bR)(t:aR)(b:outParam Bool):Prop where
 h:∃ u,P.underlying t=some u/\adF u=b
class Fl(P:bR)(s f:Nat)(off:outParam Nat):Prop where
 h:∃ fs fl z,P.underlying s=some (.struct fs)/\fs[f]? =some fl/\fl.offset=off/\(∃ i,P.info? fl.type=some i/\i.size=z)/\z≠0
class El(P:bR)(t:aR)(el:outParam aR):Prop where
 h:P.underlying t=some (.slice el)
class Mp(P:bR)(t:aR)(key el:outParam aR):Prop where
 h:P.underlying t=some (.map key el)
class Ik(P:bR)(t:aR)(k:outParam IntKind):Prop where
 h:P.underlying t=some (.int k)
class Pt(P:bR)(t:aR)(el:outParam aR):Prop where
 h:P.underlying t=some (.pointer el)
def Wi:TypeDesc->Bool|.interface _=>true|_=>false
class NI(P:bR)(t:aR):Prop where
 h:∃ u,P.underlying t=some u/\Wi u=false
theorem ay{P:bR}{t:aR}{i:TypeInfo}(h:P.types[t]? =some i):P.info? t=some i:=by have:=(gQ.1 h).1;show(if t<P.types.size then P.types[t]? else _)=_;rw[aK this,h]
variable{P:bR}{B:j9}{α β:Type}{H:Array Obj}{d:Nat}
theorem aA{a:α}{Q:α->Array Obj->Nat->Prop}(h:Q a H d):dC P B (pure a) H d Q:=h
theorem iE{t:aR}{i:TypeInfo}(h:P.info? t=some i):Pu P (typeInfo t) i:=λB H d Q q=>by unfold typeInfo;refine ah ?_;show dC P B _ _ _ _;simp only[program,dC,h];exact q
theorem dE{t:aR}{u:TypeDesc}(h:P.underlying t=some u):Pu P (underlying t) u:=λB H d Q q=>by unfold underlying;refine ah ?_;show dC P B _ _ _ _;simp only[program,dC,h];exact q
theorem ik{t:aR}{z:Nat}[c:Cz P t z]:Pu P (sizeOf t) z:=λB H d Q q=>by obtain⟨i,h,rfl⟩:=c.h;unfold sizeOf;exact ah (iE h B H d _ q)
theorem nG{t:aR}{v:Value}[c:Zv P t v]:Pu P (zeroValue t) v:=λB H d Q q=>by obtain⟨i,h,hz⟩:=c.h;unfold zeroValue;refine ah (iE h B H d _ ?_);rw[hz];exact q
theorem yt{t:aR}{b:Bool}[c:Ag P t b]:Pu P (isAgg t) b:=λB H d Q q=>by obtain⟨u,h,hb⟩:=c.h;unfold isAgg;refine ah (dE h B H d _ ?_);subst hb;cases u<;>exact q
theorem uI{m:Mode}{a:Addr}{c:Array Value}{ty:aR}{fr:Nat×Nat}{v:Value}{Q:Value->Array Obj->Nat->Prop}(h1:hp H a.block=some (.cells c ty fr))(h2:a.spot=none)(h3:c[a.off]? =some v)(h4:m=.plain->B.sh ty a.off=false)(h:Q v H d):dC P B (load a m) H d Q:=
 ⟨c,ty,v,⟨fr,h1⟩,h2,h3,λe=>.inr (h4 e),h⟩
theorem A7{m:Mode}{a:Addr}{c:Array Value}{ty:aR}{fr:Nat×Nat}{v:Value}{Q:Value->Array Obj->Nat->Prop}(h1:hp H a.block=some (.cells c ty fr))(h2:a.spot=none)(h3:c[a.off]? =some v)(h4:a.block<B.bot)(h:Q v H d):dC P B (load a m) H d Q:=
 ⟨c,ty,v,⟨fr,h1⟩,h2,h3,λ_=>.inl h4,h⟩
theorem add_zero(a:Addr):a.add 0=a:=by simp[Addr.add]
theorem gS(b off n:Nat):(⟨b,off,none⟩:Addr).add n=⟨b,off+n,none⟩:=by
 unfold Addr.add;split
 ·rename_i h;subst h;rfl
 ·rfl
theorem nH{b off:Nat}{c:Array Value}{ty:aR}{fr:Nat×Nat}(h1:hp H b=some (.cells c ty fr)):∀ (z i:Nat) (acc:Array Value) {Q:Array Value->Array Obj->Nat->Prop},off+i+z<=c.size->(∀ j,B.sh ty j=false)->Q (acc++c.extract (off+i) (off+i+z)) H d->dC P B (loadCellsFrom ⟨b,off,none⟩ i z acc) H d Q
 |0,i,acc,Q,_,_,q=>by
  unfold loadCellsFrom;refine aA ?_;have:c.extract (off+i) (off+i+0)=#[]:=by simp;omega
  rw[this,w9]at q;exact q
 |z+1,i,acc,Q,hz,hs,q=>by
  unfold loadCellsFrom;refine ah ?_;have dI:off+i<c.size:=ak;refine uI (c:=c) (ty:=ty) (v:=c[off+i]) (by rw[gS];exact h1) (by rw[gS]) (by rw[gS];exact D2 dI) (λ_=>hs _) ?_;refine nH h1 z (i+1) _ ak hs ?_;have:acc.push c[off+i]++c.extract (off+(i+1)) (off+(i+1)+z)=acc++c.extract (off+i) (off+i+(z+1)):=by
   apply se;intro j;simp only[VQ,KI,Nt,VR];by_cases h1:j<acc.size
   ·simp[h1,Nat.lt_succ_of_lt h1,uu h1]
   ·by_cases h2:j=acc.size
    ·subst h2;simp;omega
    ·have:¬ j<acc.size+1:=ak;simp only[this,h1,eY,h2];have e1:off+(i+1)+(j-(acc.size+1))=off+i+(j-acc.size):=ak;rw[e1]
     congr 1
     simp only[eq_iff_iff];omega
  rw[this];exact q
theorem sN{b off z:Nat}{c:Array Value}{ty:aR}{fr:Nat×Nat}{Q:Array Value->Array Obj->Nat->Prop}(h1:hp H b=some (.cells c ty fr))(hz:off+z<=c.size)(hs:∀ j,B.sh ty j=false)(q:Q (c.extract off (off+z)) H d):dC P B (loadCells ⟨b,off,none⟩ z) H d Q:=by unfold loadCells;refine nH (off:=off) h1 z 0 #[] ak hs ?_;simpa using q
theorem gG{t:aR}[Ag P t false]{b off:Nat}{c:Array Value}{ty:aR}{fr:Nat×Nat}{v:Value}{Q:Value->Array Obj->Nat->Prop}(h1:hp H b=some (.cells c ty fr))(h3:c[off]? =some v)(h4:B.sh ty off=false)(h:Q v H d):dC P B (loadVar t ⟨b,off,none⟩) H d Q:=by unfold loadVar;exact ah (yt B H d _ (uI h1 rfl h3 (λ_=>h4) h))
theorem CB{t:aR}[Ag P t false]{b off:Nat}{c:Array Value}{ty:aR}{fr:Nat×Nat}{v:Value}{Q:Value->Array Obj->Nat->Prop}(h1:hp H b=some (.cells c ty fr))(h3:c[off]? =some v)(h4:b<B.bot)(h:Q v H d):dC P B (loadVar t ⟨b,off,none⟩) H d Q:=by unfold loadVar;exact ah (yt B H d _ (A7 h1 rfl h3 h4 h))
theorem my{t:aR}{z:Nat}[Ag P t true][Cz P t z]{b off:Nat}{c:Array Value}{ty:aR}{fr:Nat×Nat}{Q:Value->Array Obj->Nat->Prop}(h1:hp H b=some (.cells c ty fr))(hz:off+z<=c.size)(hs:∀ j,B.sh ty j=false)(h:Q (.agg (c.extract off (off+z))) H d):dC P B (loadVar t ⟨b,off,none⟩) H d Q:=by unfold loadVar;refine ah (yt B H d _ ?_);simp only[eQ];exact ah (ik B H d _ (ah (sN h1 hz hs h)))
def wr(c:Array Value)(off:Nat):List Value->Array Value
 |[]=>c
 |v::l=>wr (c.setIfInBounds off v) (off+1) l
theorem uJ:∀ (l:List Value) (c:Array Value) (off:Nat),(wr c off l).size=c.size
 |[],c,off=>rfl
 |v::l,c,off=>by unfold wr;rw[uJ l];simp
theorem Wj{b:Nat}{o o':Obj}(h:hp H b=some o):hp (H.setIfInBounds b o') b=some o':=by unfold hp at h⊢;exact j4 (gQ.1 h).1
theorem KZ{b:Nat}{o o':Obj}:(H.setIfInBounds b o).setIfInBounds b o'=H.setIfInBounds b o':=by
 apply se;intro i;simp only[ZC];by_cases h:b=i
 ·subst h;simp
 ·simp[h]
theorem OJ{b:Nat}{o:Obj}(h:hp H b=some o):H.setIfInBounds b o=H:=by
 apply se;intro i;simp only[ZC];by_cases z:b=i
 ·subst z;unfold hp at h;have:=(gQ.1 h).1;rw[aK rfl,aK this,h]
 ·simp[z]
theorem kG{b off:Nat}{ty:aR}:∀ (l:List Value) (i:Nat) {H:Array Obj} {c:Array Value} {Q:Unit->Array Obj->Nat->Prop},hp H b=some (.cells c ty (0,0))->off+i+l.length<=c.size->(∀ v∈l,fP v=true)->(∀ j,off+i<=j->j<off+i+l.length->B.rd b ty j=false/\B.sh ty j=false)->
  Q () (H.setIfInBounds b (.cells (wr c (off+i) l) ty (0,0))) d->dC P B (storeCells ⟨b,off,none⟩ l i) H d Q
 |[],i,H,c,Q,h1,_,_,_,q=>by unfold storeCells;refine aA ?_;have:H.setIfInBounds b (.cells (wr c (off+i) []) ty (0,0))=H:=OJ h1;rw[this]at q;exact q
 |v::l,i,H,c,Q,h1,hz,hv,hb,q=>by unfold storeCells;refine ah ?_;simp only[jd]at hz hb;have zU:=hb (off+i) (fI _) ak;rw[gS];refine⟨hv v (iI ..),c,ty,h1,rfl,by simp;omega,zU.1,λ_=>zU.2,?_⟩;refine kG (off:=off) l (i+1) (Wj h1) (by simp;omega) (λv tC=>hv v (gu _ tC)) (λj h1 h2=>hb j ak ak) ?_;rw[KZ];exact q
theorem pg{t:aR}{z:Nat}[Cz P t z]{b off:Nat}{c:Array Value}{ty:aR}{v:Value}{Q:Unit->Array Obj->Nat->Prop}(h1:hp H b=some (.cells c ty (0,0)))(hsz:v.cells.size=z)(hz:off+z<=c.size)(hv:∀ x∈v.cells,fP x=true)
  (hb:∀ j,off<=j->j<off+z->B.rd b ty j=false/\B.sh ty j=false) (q:Q () (H.setIfInBounds b (.cells (wr c off v.cells.toList) ty (0,0))) d):dC P B (storeVar t ⟨b,off,none⟩ v) H d Q:=by
 unfold storeVar;refine ah (ik B H d _ ?_);rw[aq (by rw[hsz];simp)];refine kG (off:=off) v.cells.toList 0 h1 (by simp[hsz];omega) (λx hx=>hv x (Ck.1 hx)) (λj h2 h3=>hb j ak (by simp[hsz]at h3;omega)) q
variable{ao:Bool}{R:Nat->aQ->Array Obj->Prop}{As aO:List HP}
variable{fn:bM}{kd:Kd}{n:Nat}{e:Nat->Value}{ds:List dW}{k:List Item}{cs:List Frame}
variable{ops:Array Oper}{i:Nat}{aa:List Nat}{dst:Option Nat}{t:Nat}{ty:aR}{pos:String}{af:Array Edge}{gd:Option (Nat×Bool)}{x y:cU}{v:Value}{u:Array Value}{b off:Nat}{c:Array Value}{el tt:aR}
theorem ab.mv(C:ab P ao B R)(ho:aZ ops i=some ⟨some t,.move x,ty,pos,af,gd⟩)(h:At R d As (gr fn kd n (put e t v) ds (.inRegion ops aa::k) cs))
  (hx:ev n e x=v:=by conv=>{lhs;whnf}) (hw:aN ops n e gd=true:=by rfl):At R d As (gr fn kd n e ds (.inRegion ops (i::aa)::k) cs):=
 C.val ho hw (λ_ _ _ _ q=>by unfold execOp;simp only[hx];exact q) h
theorem ab.lh(C:ab P ao B R)(ho:aZ ops i=some ⟨some t,.assign x,ty,pos,af,gd⟩)(h:At R d As (gr fn kd n (put e t v) ds (.inRegion ops aa::k) cs))
  (hx:ev n e x=v:=by conv=>{lhs;whnf}) (hw:aN ops n e gd=true:=by rfl):At R d As (gr fn kd n e ds (.inRegion ops (i::aa)::k) cs):=
 C.val ho hw (λ_ _ _ _ q=>by unfold execOp;simp only[hx];exact q) h
theorem ab.nc(C:ab P ao B R){a:Addr}(ho:aZ ops i=some ⟨some t,.nilCheck x,ty,pos,af,gd⟩)(h:At R d As (gr fn kd n (put e t (.pointer (some a))) ds (.inRegion ops aa::k) cs))
  (hx:ev n e x=.pointer (some a):=by rfl) (hw:aN ops n e gd=true:=by rfl):At R d As (gr fn kd n e ds (.inRegion ops (i::aa)::k) cs):=
 C.val ho hw (λ_ _ _ _ q=>by unfold execOp;simp only[hx];exact q) h
theorem ab.fa(C:ab P ao B R){s f o:Nat}[c:Fl P s f o](ho:aZ ops i=some ⟨some t,.fieldAddr s x f,ty,pos,af,gd⟩)(h:At R d As (gr fn kd n (put e t (.pointer (some ⟨b,off+o,none⟩))) ds (.inRegion ops aa::k) cs))
  (hx:ev n e x=.pointer (some ⟨b,off,none⟩):=by rfl) (hw:aN ops n e gd=true:=by rfl):At R d As (gr fn kd n e ds (.inRegion ops (i::aa)::k) cs):=
 C.val ho hw (λB H d Q q=>by obtain⟨fs,fl,z,h1,h2,rfl,⟨inf,h4,h5⟩,h6⟩:=c.h;unfold execOp;simp only[hx,Instr.fieldAt];refine ah (ah (dE h1 B H d _ ?_));simp only[h2,Instr.sureAddr];refine ah (aA ?_);unfold fieldPlace sizeOf;refine ah (ah (ah (iE h4 B H d _ (aA ?_))));rw[h5,aq h6,gS];exact q) h
theorem ab.ld(C:ab P ao B R)[Ag P tt false](ho:aZ ops i=some ⟨some t,.load tt x,ty,pos,af,gd⟩)(h:At R d As (gr fn kd n (put e t v) ds (.inRegion ops aa::k) cs))
  (hx:ev n e x=.pointer (some ⟨b,off,none⟩):=by rfl) (hh:Kn As b (.cells c el (0,0)):=by first|(apply Has.kn;(repeat(first|with_reducible exact Has.head|with_reducible apply Has.tail));done)|(apply Ext.kn;assumption;(repeat(first|with_reducible exact Has.head|with_reducible apply Has.tail));done)) {v0:Value} (hc:c[off]? =some v0:=by rfl) (n4:v0=v:=by first|((conv=>{lhs;whnf});done)|rfl) (hs:B.sh el off=false:=by rfl) (hw:aN ops n e gd=true:=by rfl):At R d As (gr fn kd n e ds (.inRegion ops (i::aa)::k) cs):=
 C.gen ho hw λH s=>by unfold execOp;simp only[hx,Instr.loadAt,Instr.sureAddr];exact ah (ah (aA (gG (hh _ s) (n4▸hc) hs ⟨As,s,h⟩)))
theorem ab.YX(C:ab P ao B R){z:Nat}[Ag P tt true][Cz P tt z](ho:aZ ops i=some ⟨some t,.load tt x,ty,pos,af,gd⟩)(h:At R d As (gr fn kd n (put e t (.agg u)) ds (.inRegion ops aa::k) cs))
  (hx:ev n e x=.pointer (some ⟨b,off,none⟩):=by rfl) (hh:Kn As b (.cells c el (0,0)):=by first|(apply Has.kn;(repeat(first|with_reducible exact Has.head|with_reducible apply Has.tail));done)|(apply Ext.kn;assumption;(repeat(first|with_reducible exact Has.head|with_reducible apply Has.tail));done)) (hz:off+z<=c.size:=by first|decide|(simp only[mL,Nat.reduceAdd,R0,jd,uv];decide)) (hc:c.extract off (off+z)=u:=by first|(simp only[mL,Nat.reduceAdd,R1,R2,Ac,VS,List.take_succ_cons,List.take_zero,Nat.sub_zero,Nat.reduceSub];done)|(simp only[mL,Nat.reduceAdd,R1,R2,Ac,VS,List.take_succ_cons,List.take_zero,Nat.sub_zero,Nat.reduceSub];rfl)|rfl) (hs:∀ j,B.sh el j=false:=by intro j;rfl) (hw:aN ops n e gd=true:=by rfl):At R d As (gr fn kd n e ds (.inRegion ops (i::aa)::k) cs):=
 C.gen ho hw λH s=>by unfold execOp;simp only[hx,Instr.loadAt,Instr.sureAddr];exact ah (ah (aA (my (hh _ s) hz hs ⟨As,s,hc▸h⟩)))
theorem ab.st(C:ab P ao B R)[Cz P tt 1](ho:aZ ops i=some ⟨none,.store tt x y,ty,pos,af,gd⟩)(h:At R d aO (gr fn kd n e ds (.inRegion ops aa::k) cs))
  (hx:ev n e x=.pointer (some ⟨b,off,none⟩):=by rfl) (hy:ev n e y=v:=by conv=>{lhs;whnf}) (hv:fP v=true:=by rfl)
  {c':Array Value} (hu:qG b (.cells c el (0,0)) (.cells c' el (0,0)) As aO:=by repeat(first|with_reducible exact qG.head|with_reducible apply qG.tail)) (lf:c.setIfInBounds off v=c':=by first|(simp only[mL,Nat.reduceAdd,x8,xb,vD];done)|(simp only[mL,Nat.reduceAdd,x8,xb,vD];rfl)|rfl) (hz:off<c.size:=by first|decide|(simp only[mL,Nat.reduceAdd,R0,jd,uv];decide)) (hr:B.rd b el off=false:=by rfl) (hs:B.sh el off=false:=by rfl) (hw:aN ops n e gd=true:=by rfl):At R d As (gr fn kd n e ds (.inRegion ops (i::aa)::k) cs):=
 C.gen ho hw λH s=>by
  subst lf;have Hq:v.cells=#[v]:=by cases v<;>first|rfl|(simp[fP]at hv)
  unfold execOp;simp only[hx,hy,Instr.storeAt,Instr.sureAddr];refine ah (ah (aA (pg (hu.has.get s) (by rw[Hq];rfl) hz (λz OK=>by rw[Hq]at OK;simp at OK;subst OK;exact hv) (λj h1 h2=>by have:j=off:=ak;subst this;exact⟨hr,hs⟩) ?_)))
  refine⟨aO,?_,h⟩;rw[Hq];exact hu.set s
theorem ab.po(C:ab P ao B R){z:Nat}[Cz P tt z]{xs:Array Value}(ho:aZ ops i=some ⟨none,.store tt x y,ty,pos,af,gd⟩)(h:At R d aO (gr fn kd n e ds (.inRegion ops aa::k) cs))
  (hx:ev n e x=.pointer (some ⟨b,off,none⟩):=by rfl) (hy:ev n e y=.agg xs:=by rfl) (hv:∀ v∈xs.toList,fP v=true:=by simp[fP]) (Wk:xs.size=z:=by rfl)
  {c':Array Value} (hu:qG b (.cells c el (0,0)) (.cells c' el (0,0)) As aO:=by repeat(first|with_reducible exact qG.head|with_reducible apply qG.tail)) (lf:wr c off xs.toList=c':=by first|(simp only[mL,Nat.reduceAdd,x8,xb,vD,wr,R3];done)|(simp only[mL,Nat.reduceAdd,x8,xb,vD,wr,R3];rfl)|rfl) (hz:off+z<=c.size:=by first|decide|(simp only[mL,Nat.reduceAdd,R0,jd,uv];decide)) (hr:∀ j,B.rd b el j=false:=by intro j;rfl) (hs:∀ j,B.sh el j=false:=by intro j;rfl) (hw:aN ops n e gd=true:=by rfl):At R d As (gr fn kd n e ds (.inRegion ops (i::aa)::k) cs):=
 C.gen ho hw λH s=>by subst lf;unfold execOp;simp only[hx,hy,Instr.storeAt,Instr.sureAddr];exact ah (ah (aA (pg (v:=.agg xs) (hu.has.get s) Wk hz (λz OK=>hv z (Ck.2 OK)) (λj h1 h2=>⟨hr j,hs j⟩) ⟨aO,hu.set s,h⟩)))
theorem ab.ia(C:ab P ao B R){z len cap:Nat}{kk:IntKind}{j:Int}{o:Nat}[c:El P tt el][Cz P el z](ho:aZ ops i=some ⟨some t,.indexAddr tt x y,ty,pos,af,gd⟩)(h:At R d As (gr fn kd n (put e t (.pointer (some ⟨b,o,none⟩))) ds (.inRegion ops aa::k) cs))
  (hx:ev n e x=.slice (some ⟨b,off,none⟩) len cap:=by rfl) (hy:ev n e y=.int kk j:=by rfl) (hj:0<=j/\j<len:=by constructor<;>omega) (hoff:off+j.toNat*z=o:=by rfl) (hw:aN ops n e gd=true:=by rfl):At R d As (gr fn kd n e ds (.inRegion ops (i::aa)::k) cs):=
 C.val ho hw (λB H d Q q=>by unfold execOp;simp only[hx,hy,Instr.indexAt,asIntOf];refine ah (ah (aA ?_));refine ah (dE c.h B H d _ ?_);refine ah (aA ?_);refine ah (dE c.h B H d _ ?_);simp only;rw[aK hj];refine ah (ik B H d _ (aA ?_));rw[gS,hoff];exact q) h
theorem pq{r:Int}(h1: -9223372036854775808<=r)(h2:r<=9223372036854775807):IntKind.i64.wrap r=r:=by rw[IntKind.wrap_i64];omega
theorem w32{r:Int}(h1: -2147483648<=r)(h2:r<=2147483647):IntKind.i32.wrap r=r:=by rw[IntKind.wrap_i32];omega
theorem YY{r:Int}(h1:0<=r)(h2:r<=255):IntKind.u8.wrap r=r:=by rw[IntKind.wrap_u8];omega
variable{z:cU}{u:Value}{t2:aR}
variable{kk:IntKind}{p q r:Int}
theorem gH{op:BinOp}{k1 k2:IntKind}:Pu P (eqGuard op tt x y (.int k1 p) (.int k2 q)) ():=by cases op<;>exact λ_ _ _ _ h=>h
abbrev Nx(R:Nat->aQ->Array Obj->Prop)(d:Nat)(As:List HP)(fn:bM)(kd:Kd)(n:Nat)(e:Nat->Value)(ds:List dW)(ops:Array Oper)(aa:List Nat)(k:List Item)(cs:List Frame)(t:Nat)(v:Value):Prop:=
 At R d As (gr fn kd n (put e t v) ds (.inRegion ops aa::k) cs)
abbrev Nw(R:Nat->aQ->Array Obj->Prop)(d:Nat)(As:List HP)(fn:bM)(kd:Kd)(n:Nat)(e:Nat->Value)(ds:List dW)(ops:Array Oper)(i:Nat)(aa:List Nat)(k:List Item)(cs:List Frame):Prop:=
 At R d As (gr fn kd n e ds (.inRegion ops (i::aa)::k) cs)
def arith(op:BinOp)(p q:Int):Option Int:=match op with|.add=>some (p+q)|.sub=>some (p-q)|.mul=>some (p*q)|_=>none
theorem OL{op:BinOp}(h:arith op p q=some r)(hr:kk.wrap r=r):Pu P (binOp op tt (.int kk p) (.int kk q)) (.int kk r):=by
 intro B H d Q q';cases op<;>simp only[arith,x6]at h<;>first|(cases h;done)|skip
 all_goals(subst h;unfold binOp;simp only[ne_eq,KM,eY,Op.intArith,hr];exact q')
theorem ab.ar(C:ab P ao B R){op:BinOp}(ho:aZ ops i=some ⟨some t,.binOp op tt x y t2,ty,pos,af,gd⟩)(h:Nx R d As fn kd n e ds ops aa k cs t (.int kk r))
  (hx:ev n e x=.int kk p:=by rfl) (hy:ev n e y=.int kk q:=by rfl) (ha:arith op p q=some r:=by rfl) (hr:kk.wrap r=r:=by first|exact pq ak ak|exact w32 ak ak|exact YY ak ak) (hw:aN ops n e gd=true:=by rfl):Nw R d As fn kd n e ds ops i aa k cs:=
 C.val ho hw (λB H d Q q'=>by unfold execOp;simp only[hx,hy];exact ah (ah (gH B H d _ (OL ha hr B H d _ q')))) h
theorem ab.quo(C:ab P ao B R)(ho:aZ ops i=some ⟨some t,.binOp .quo tt x y t2,ty,pos,af,gd⟩)(h:Nx R d As fn kd n e ds ops aa k cs t (.int kk (p.tdiv q)))
  (hx:ev n e x=.int kk p:=by rfl) (hy:ev n e y=.int kk q:=by rfl) (h0:q≠0:=by first|decide|omega) (hr:kk.wrap (p.tdiv q)=p.tdiv q:=by first|exact pq ak ak) (hw:aN ops n e gd=true:=by rfl):Nw R d As fn kd n e ds ops i aa k cs:=
 C.val ho hw (λB H d Q q'=>by unfold execOp;simp only[hx,hy];refine ah (ah (gH B H d _ ?_));unfold binOp;simp only[ne_eq,KM,eY,Op.intDiv,aq h0,hr];exact q') h
theorem ab.rem(C:ab P ao B R)(ho:aZ ops i=some ⟨some t,.binOp .rem tt x y t2,ty,pos,af,gd⟩)(h:Nx R d As fn kd n e ds ops aa k cs t (.int kk (p.tmod q)))
  (hx:ev n e x=.int kk p:=by rfl) (hy:ev n e y=.int kk q:=by rfl) (h0:q≠0:=by first|decide|omega) (hw:aN ops n e gd=true:=by rfl):Nw R d As fn kd n e ds ops i aa k cs:=
 C.val ho hw (λB H d Q q'=>by unfold execOp;simp only[hx,hy];refine ah (ah (gH B H d _ ?_));unfold binOp;simp only[ne_eq,KM,eY,Op.intDiv,aq h0];exact q') h
def EH(op:BinOp)(p q:Int):Option Prop:=match op with|.eql=>some (p=q)|.neq=>some (p≠q)|.lss=>some (p<q)|.leq=>some (p<=q)|.gtr=>some (p>q)|.geq=>some (p>=q)|_=>none
def Al(op:BinOp)(p q:Int):Bool:=match op with|.eql=>p==q|.neq=>p != q|.lss=>p<q|.leq=>p<=q|.gtr=>p>q|.geq=>p>=q|_=>false
theorem JL{op:BinOp}{φ:Prop}(h:EH op p q=some φ):Al op p q=true↔φ:=by cases op<;>simp only[EH,x6]at h<;>first|(cases h;done)|(subst h;simp[Al])
theorem OM{op:BinOp}{φ:Prop}(h:EH op p q=some φ):Pu P (binOp op tt (.int kk p) (.int kk q)) (.bool (Al op p q)):=by
 intro B H d Q q';cases op<;>simp only[EH,x6]at h<;>first|(cases h;done)|skip
 all_goals(unfold binOp;simp only[ne_eq,KM,eY,Op.intCmp];exact q')
theorem ab.cmp(C:ab P ao B R){op:BinOp}{φ:Prop}(ho:aZ ops i=some ⟨some t,.binOp op tt x y t2,ty,pos,af,gd⟩)(h1:φ->Nx R d As fn kd n e ds ops aa k cs t (.bool true))(h2:¬ φ->Nx R d As fn kd n e ds ops aa k cs t (.bool false))
  (hx:ev n e x=.int kk p:=by rfl) (hy:ev n e y=.int kk q:=by rfl) (hc:EH op p q=some φ:=by rfl) (hw:aN ops n e gd=true:=by rfl):Nw R d As fn kd n e ds ops i aa k cs:=by
 have key:Nx R d As fn kd n e ds ops aa k cs t (.bool (Al op p q)):=by
  cases hb:Al op p q with
  |true=>exact h1 ((JL hc).1 hb)
  |false=>exact h2 λf=>by rw[(JL hc).2 f]at hb;cases hb
 exact C.val ho hw (λB H d Q q'=>by unfold execOp;simp only[hx,hy];exact ah (ah (gH B H d _ (OM hc B H d _ q')))) key
theorem ab.eE(C:ab P ao B R){op:BinOp}{φ:Prop}(ho:aZ ops i=some ⟨some t,.binOp op tt x y t2,ty,pos,af,gd⟩)(h:Nx R d As fn kd n e ds ops aa k cs t (.bool true))
  (hx:ev n e x=.int kk p:=by rfl) (hy:ev n e y=.int kk q:=by rfl) (hc:EH op p q=some φ:=by rfl) (hf:φ:=by first|decide|omega) (hw:aN ops n e gd=true:=by rfl):Nw R d As fn kd n e ds ops i aa k cs:=
 C.cmp ho (λ_=>h) (λf=>absurd hf f) hx hy hc hw
theorem ab.du(C:ab P ao B R){op:BinOp}{φ:Prop}(ho:aZ ops i=some ⟨some t,.binOp op tt x y t2,ty,pos,af,gd⟩)(h:Nx R d As fn kd n e ds ops aa k cs t (.bool false))
  (hx:ev n e x=.int kk p:=by rfl) (hy:ev n e y=.int kk q:=by rfl) (hc:EH op p q=some φ:=by rfl) (hf:¬ φ:=by first|decide|omega) (hw:aN ops n e gd=true:=by rfl):Nw R d As fn kd n e ds ops i aa k cs:=
 C.cmp ho (λf=>absurd f hf) (λ_=>h) hx hy hc hw
theorem ab.Wl(C:ab P ao B R){op:BinOp}{φ:Prop}(ho:aZ ops i=some ⟨some t,.binOp op tt x y t2,ty,pos,af,gd⟩)(h:Nx R d As fn kd n e ds ops aa k cs t (.bool (Al op p q)))
  (hx:ev n e x=.int kk p:=by rfl) (hy:ev n e y=.int kk q:=by rfl) (hc:EH op p q=some φ:=by rfl) (hw:aN ops n e gd=true:=by rfl):Nw R d As fn kd n e ds ops i aa k cs:=
 C.val ho hw (λB H d Q q'=>by unfold execOp;simp only[hx,hy];exact ah (ah (gH B H d _ (OM hc B H d _ q')))) h
theorem ab.nt(C:ab P ao B R){b:Bool}(ho:aZ ops i=some ⟨some t,.unOp .not tt x,ty,pos,af,gd⟩)(h:Nx R d As fn kd n e ds ops aa k cs t (.bool (!b)))
  (hx:ev n e x=.bool b:=by rfl) (hw:aN ops n e gd=true:=by rfl):Nw R d As fn kd n e ds ops i aa k cs:=
 C.val ho hw (λB H d Q q'=>by unfold execOp;simp only[hx];exact q') h
theorem ab.ngI(C:ab P ao B R)(ho:aZ ops i=some ⟨some t,.unOp .neg tt x,ty,pos,af,gd⟩)(h:Nx R d As fn kd n e ds ops aa k cs t (.int kk r))
  (hx:ev n e x=.int kk p:=by rfl) (hr:kk.wrap (0-p)=r:=by exact pq ak ak) (hw:aN ops n e gd=true:=by rfl):Nw R d As fn kd n e ds ops i aa k cs:=
 C.val ho hw (λB H d Q q'=>by unfold execOp;simp only[hx,Op.unary,Op.intArith,hr];exact q') h
theorem ab.pk(C:ab P ao B R){b:Bool}(ho:aZ ops i=some ⟨some t,.pick x y z,ty,pos,af,gd⟩)(h:Nx R d As fn kd n e ds ops aa k cs t v)
  (hx:ev n e x=.bool b:=by rfl) (hv:(if b then ev n e y else ev n e z)=v:=by conv=>{lhs;whnf}) (hw:aN ops n e gd=true:=by rfl):Nw R d As fn kd n e ds ops i aa k cs:=
 C.val ho hw (λB H d Q q'=>by unfold execOp;simp only[hx,asBool];refine ah (aA ?_);cases b<;>(subst hv;exact q')) h
theorem ab.cv(C:ab P ao B R){k1 k2:IntKind}{s1 s2:aR}[c1:Ik P s1 k1][c2:Ik P s2 k2](ho:aZ ops i=some ⟨some t,.convert s1 s2 x,ty,pos,af,gd⟩)(h:Nx R d As fn kd n e ds ops aa k cs t (.int k2 r))
  (hx:ev n e x=.int k1 p:=by rfl) (hr:k2.wrap p=r:=by first|exact pq ak ak|exact w32 ak ak|exact YY ak ak) (hw:aN ops n e gd=true:=by rfl):Nw R d As fn kd n e ds ops i aa k cs:=
 C.val ho hw (λB H d Q q'=>by unfold execOp;simp only[hx];refine ah ?_;unfold convert;refine ah (dE c1.h B H d _ (ah (dE c2.h B H d _ ?_)));simp only[Conv.intToInt,hr];exact q') h
theorem ab.ext(C:ab P ao B R){vs:Array Value}{ix:Nat}(ho:aZ ops i=some ⟨some t,.extract x ix,ty,pos,af,gd⟩)(h:Nx R d As fn kd n e ds ops aa k cs t v)
  (hx:ev n e x=.tuple vs:=by rfl) (hv:vs[ix]? =some v:=by rfl) (hw:aN ops n e gd=true:=by rfl):Nw R d As fn kd n e ds ops i aa k cs:=
 C.val ho hw (λB H d Q q'=>by unfold execOp;simp only[hx,Instr.extract,hv];exact q') h
theorem ab.mi(C:ab P ao B R)[c:NI P tt](ho:aZ ops i=some ⟨some t,.makeInterface tt x,ty,pos,af,gd⟩)(h:Nx R d As fn kd n e ds ops aa k cs t (.iface tt v))
  (hx:ev n e x=v:=by conv=>{lhs;whnf}) (hw:aN ops n e gd=true:=by rfl):Nw R d As fn kd n e ds ops i aa k cs:=
 C.val ho hw (λB H d Q q'=>by obtain⟨u,h1,h2⟩:=c.h;unfold execOp;simp only[hx,Instr.makeInterface];refine ah (ah (dE h1 B H d _ ?_));cases u<;>first|exact q'|cases h2) h
theorem ab.mf(C:ab P ao B R){f:Fn}{a1 a2:Array cU}{v1 v2:List Value}(ho:aZ ops i=some ⟨some t,.makeFunc f a1 a2,ty,pos,af,gd⟩)(h:Nx R d As fn kd n e ds ops aa k cs t (.func f v1.toArray v2.toArray))
  (h1:a1.toList.map (ev n e)=v1:=by rfl) (h2:a2.toList.map (ev n e)=v2:=by rfl) (hw:aN ops n e gd=true:=by rfl):Nw R d As fn kd n e ds ops i aa k cs:=
 C.val ho hw (λB H d Q q'=>by
  have K0:a1.map (ev n e)=v1.toArray:=by rw[<- h1,<- qv,ts]
  have M8:a2.map (ev n e)=v2.toArray:=by rw[<- h2,<- qv,ts]
  unfold execOp;simp only[Instr.makeFunc,K0,M8];exact q') h
theorem ab.fd(C:ab P ao B R){xs:Array Value}{s f o ft:Nat}(hf:∃ fs fl,P.underlying s=some (.struct fs)/\fs[f]? =some fl/\fl.offset=o/\fl.type=ft)[Ag P ft false](ho:aZ ops i=some ⟨some t,.field s x f,ty,pos,af,gd⟩)(h:Nx R d As fn kd n e ds ops aa k cs t v)
  (hx:ev n e x=.agg xs:=by rfl) (hv:xs[o]? =some v:=by rfl) (hw:aN ops n e gd=true:=by rfl):Nw R d As fn kd n e ds ops i aa k cs:=
 C.val ho hw (λB H d Q q'=>by obtain⟨fs,fl,h1,h2,rfl,rfl⟩:=hf;unfold execOp;simp only[hx,Instr.field];refine ah (ah (dE h1 B H d _ ?_));simp only[h2,asAgg];refine ah (aA ?_);unfold part;refine ah (yt B H d _ ?_);simp only[hv];exact q') h
theorem ab.al(C:ab P ao B R){z:Value}[cz:Zv P tt z](ho:aZ ops i=some ⟨some t,.alloc tt,ty,pos,af,gd⟩)(h:∀ b,Nx R d (bX b (.cells c tt (0,0))::As) fn kd n e ds ops aa k cs t (.pointer (some ⟨b,0,none⟩)))
  (hc:z.cells=c:=by first|(simp only[Value.cells];done)|(simp only[Value.cells];rfl)|rfl) (hw:aN ops n e gd=true:=by rfl):Nw R d As fn kd n e ds ops i aa k cs:=
 C.gen ho hw λH s=>by unfold execOp;simp only[Instr.alloc];subst hc;refine ah (ah (nG B H d _ ?_));exact⟨_,s.push _,h _⟩
theorem ab.bx(C:ab P ao B R)(ho:aZ ops i=some ⟨some t,.box tt x,ty,pos,af,gd⟩)(h:∀ b,Nx R d (bX b (.cells c tt (0,0))::As) fn kd n e ds ops aa k cs t (.pointer (some ⟨b,0,none⟩)))
  {v0:Value} (hx0:ev n e x=v0:=by conv=>{lhs;whnf}) (hx:v0.cells=c:=by first|(simp only[Value.cells];done)|(simp only[Value.cells];rfl)|rfl) (hw:aN ops n e gd=true:=by rfl):Nw R d As fn kd n e ds ops i aa k cs:=
 C.gen ho hw λH s=>by unfold execOp;simp only[Instr.box];subst hx0;subst hx;exact⟨_,s.push _,h _⟩
inductive US(P:bR):List Field->List (Nat×Nat)->Prop
 |nil:US P [] []
 |cons {f:Field} {l:List Field} {m:List (Nat×Nat)} {o z:Nat} (ho:f.offset=o) (h:∃ i,P.info? f.type=some i/\i.size=z):US P l m->US P (f::l) ((o,z)::m)
theorem US.pu{P:bR}{l:List Field}{m:List (Nat×Nat)}(s:US P l m):Pu P (l.mapM λf=>(do pure (f.offset,<- sizeOf f.type):Sem (Nat×Nat))) m:=by
 induction s with
 |nil=>rw[R4];exact Pu.pure _
 |cons ho h _ ih=>
  obtain⟨i,h,rfl⟩:=h;subst ho;rw[Ny];refine Pu.bind (a:=(_,_)) (λB H d Q q=>?_) (Pu.bind ih (Pu.pure _));unfold sizeOf;exact ah (ah (iE h B H d _ q))
class Bd(P:bR)(t:aR)(pl:outParam (List (Nat×Nat))):Prop where
 h:∃ fs,P.underlying t=some (.struct fs)/\US P fs.toList pl
def flat{α:Type}(f:α->List Value)(l:List α):List Value:=l.flatMap f
variable{f:α->List Value}{z:Nat}
theorem eU(hz:∀ a,(f a).length=z):∀ (l:List α),(flat f l).length=l.length*z
 |[]=>by simp[flat]
 |a::l=>by have:=eU hz l;simp only[flat,Nz,ji,jd]at this⊢;rw[this,hz,qb];omega
theorem EI(hz:∀ a,(f a).length=z):∀ (l:List α) (pad:List Value) (i j:Nat) (hi:i<l.length),j<z->(flat f l++pad)[i*z+j]? =(f l[i])[j]?
 |a::l,pad,0,j,_,hj=>by simp only[flat,Nz,KN,mL,qw,R5];rw[NA (by rw[hz];exact hj)]
 |a::l,pad,i+1,j,hi,hj=>by
  have:=EI hz l pad i j (by simpa using hi) hj;simp only[flat,Nz,qw,List.getElem_cons_succ]at this⊢;have e:(i+1)*z+j=z+(i*z+j):=by rw[qb];omega
  rw[VT (by rw[hz];omega),hz,e];have:z+(i*z+j)-z=i*z+j:=ak;rw[this];assumption
theorem A8(hz:∀ a,(f a).length=z):∀ (l:List α) (pad:List Value) (i:Nat) (hi:i<l.length),((flat f l++pad).drop (i*z)).take z=f l[i]
 |a::l,pad,0,_=>by simp only[flat,Nz,KN,Ac,qw,R5];rw[<- hz a,List.take_left]
 |a::l,pad,i+1,hi=>by
  have:=A8 hz l pad i (by simpa using hi);simp only[flat,Nz,qw,List.getElem_cons_succ]at this⊢;have e:(i+1)*z=(f a).length+i*z:=by rw[hz,qb];omega
  rw[e,List.drop_append];have h1:(f a).drop ((f a).length+i*z)=[]:=List.drop_eq_nil_of_le ak;have h2:(f a).length+i*z-(f a).length=i*z:=ak;rw[h1,h2,eZ];exact this
theorem jQ(l m:List α):flat f (l++m)=flat f l++flat f m:=by simp[flat]
theorem oI(a:α)(l:List α):flat f (a::l)=f a++flat f l:=by simp[flat]
def gv{α:Type}(f:α->List Value)(l:List α)(pad:List Value):Array Value:=(flat f l++pad).toArray
variable{l:List α}{pad:List Value}
theorem iY(hz:∀ a,(f a).length=z):(gv f l pad).size=l.length*z+pad.length:=by simp[gv,eU hz]
theorem ON(hz:∀ a,(f a).length=z){off i j:Nat}(hi:i<l.length)(hj:j<z)(ho:off=i*z+j):(gv f l pad)[off]? =(f l[i])[j]? :=by subst ho;unfold gv;rw[Hg];exact EI hz l pad i j hi hj
theorem Hr(hz:∀ a,(f a).length=z){off i:Nat}(hi:i<l.length)(ho:off=i*z):(gv f l pad).extract off (off+z)=(f l[i]).toArray:=by
 subst ho;unfold gv;rw[R1]
 congr 1
 rw[<- A8 hz l pad i hi,R2]
 congr 1;omega
theorem lu:∀ (vs:List Value) (a b c:List Value),b.length=vs.length->wr (a++b++c).toArray a.length vs=(a++vs++c).toArray
 |[],a,b,c,h=>by have:b=[]:=Ad.1 (by simpa using h);subst this;rfl
 |v::vs,a,[],c,h=>by simp at h
 |v::vs,a,x::b,c,h=>by
  unfold wr;have h1:((a++x::b++c).toArray).setIfInBounds a.length v=((a++[v])++b++c).toArray:=by simp[List.set_append]
  have h2:a.length+1=(a++[v]).length:=by simp
  rw[h1,h2,lu vs (a++[v]) b c (by simpa using h)];simp
theorem OO(hz:∀ a,(f a).length=z){off i:Nat}(hi:i<l.length)(ho:off=i*z)(a:α):wr (gv f l pad) off (f a)=gv f (l.set i a) pad:=by
 subst ho;unfold gv;have hl:l=l.take i++l[i]::l.drop (i+1):=by simp
 have h1:flat f l++pad=flat f (l.take i)++f l[i]++(flat f (l.drop (i+1))++pad):=by
  conv=>lhs;rw[hl,jQ,oI]
  simp
 have h2:(flat f (l.take i)).length=i*z:=by rw[eU hz,iz,Ae ak]
 rw[h1,<- h2,lu _ _ _ _ (by rw[hz,hz])]
 congr 1
 rw[VU,aK hi,jQ,oI];simp
theorem K1(hz:∀ a,(f a).length=z){off i j:Nat}(hi:i<l.length)(hj:j<z)(ho:off=i*z+j){v:Value}(a:α)(ha:f a=(f l[i]).set j v):(gv f l pad).setIfInBounds off v=gv f (l.set i a) pad:=by
 subst ho;unfold gv;have hl:l=l.take i++l[i]::l.drop (i+1):=by simp
 have h1:flat f l++pad=flat f (l.take i)++(f l[i]++(flat f (l.drop (i+1))++pad)):=by
  conv=>lhs;rw[hl,jQ,oI]
  simp
 have h2:(flat f (l.take i)).length=i*z:=by rw[eU hz,iz,Ae ak]
 have h3:j<(f l[i]).length:=by rw[hz];exact hj
 rw[h1,x8]
 congr 1
 rw[VV _ _ ak,h2,Nat.add_sub_cancel_left,List.set_append_left _ _ h3,<- ha,VU,aK hi,jQ,oI];simp
theorem K2(hz:∀ a,(f a).length=z){off:Nat}(ho:off=l.length*z)(m:List α)(hp:m.length*z<=pad.length):wr (gv f l pad) off (flat f m)=gv f (l++m) (pad.drop (m.length*z)):=by
 subst ho;unfold gv;have h2:(flat f l).length=l.length*z:=eU hz l;have h1:flat f l++pad=flat f l++pad.take (m.length*z)++pad.drop (m.length*z):=by simp
 rw[h1,<- h2,lu _ _ _ _ (by rw[iz,eU hz,Ae hp]),jQ]
variable{z:cU}
theorem ab.ln(C:ab P ao B R){a:Option Addr}{len cap:Nat}[cE:El P tt el](ho:aZ ops i=some ⟨some t,.call ⟨.builtin .len,#[x],#[tt]⟩,ty,pos,af,gd⟩)(h:Nx R d As fn kd n e ds ops aa k cs t (.int .i64 len))
  (hx:ev n e x=.slice a len cap:=by rfl) (hw:aN ops n e gd=true:=by rfl):Nw R d As fn kd n e ds ops i aa k cs:=
 C.val ho hw (λB H d Q q'=>by unfold execOp;simp only[resolve];refine ah (aA ?_);simp only[Af,iJ,ml,hx];unfold invoke builtin;refine ah ?_;unfold Builtin.len_;refine ah (dE cE.h B H d _ ?_);exact q') h
end
section
open Go.Conc
structure ax where
 a:Option Addr
 len:Nat
 cap:Nat
abbrev ax.v(s:ax):Value:=.slice s.a s.len s.cap
def aG:ax:=⟨none,0,0⟩
def aW{α:Type}(f:α->List Value)(z:Nat)(el:aR)(s:ax)(l:List α):HP:=λh=>
 (s=aG/\l=[])\/∃ b pad,s=⟨some ⟨b,0,none⟩,l.length,s.cap⟩/\l.length*z+pad.length=s.cap*z/\l.length<=s.cap/\bX b (.cells (gv f l pad) el (0,0)) h
def lj(B:j9)(H:Array Obj)(z n:Nat)(x:Value)(xs:List Value):Prop:=
 (x=.slice none 0 0/\n=0/\xs=[])\/∃ b off cap c ty,x=.slice (some ⟨b,off,none⟩) n cap/\hp H b=some (.cells c ty (0,0))/\off+n*z<=c.size/\c.extract off (off+n*z)=xs.toArray/\∀ j,B.sh ty j=false
section
variable{P:bR}{B:j9}{H:Array Obj}{d:Nat}{α:Type}{f:α->List Value}{z:Nat}{el tt t3:aR}
theorem lj.len{n:Nat}{x:Value}{xs:List Value}(s:lj B H z n x xs):Pu P (Builtin.lenOf x) n:=by rcases s with⟨rfl,rfl,_⟩|⟨b,off,cap,c,ty,rfl,_⟩<;>exact λ_ _ _ _ q=>q
theorem rN{n:Nat}{x:Value}{xs:List Value}{Q:Array Value->Array Obj->Nat->Prop}(s:lj B H z n x xs)(q:Q xs.toArray H d):dC P B (Builtin.firstCells z n x) H d Q:=by
 rcases s with⟨rfl,rfl,rfl⟩|⟨b,off,cap,c,ty,rfl,h1,h2,h3,h4⟩
 ·exact q
 ·unfold Builtin.firstCells;exact sN h1 h2 h4 (by rw[h3];exact q)
theorem wJ{n:Nat}{Q:Unit->Array Obj->Nat->Prop}(q:Q () H d):dC P B (askRoom n) H d Q:=by
 unfold askRoom;split
 ·exact⟨trivial,q⟩
 ·exact q
theorem yu{ty OP bz:Nat}{zv:Value}{m:List α}{y:Value}{s:ax}{l:List α}{As:List HP}{Q:Value->Array Obj->Nat->Prop}[cE:El P tt el][Z4:El P t3 OP][Cz P el z][cB:Bz P el bz][Zv P el zv]
  (hz:∀ a,(f a).length=z) (h1:∀ a,∀ v∈f a,fP v=true) (OQ:zv.cells.size=z) (hb:∀ b j,s.a=some ⟨b,0,none⟩->B.rd b el j=false) (ui:∀ j,B.sh el j=false) (zU:bz≠0) (hsz:(l.length+m.length)*bz<=140737488355328)
  (hs:Sat (aW f z el s l::As) (hp H)) (hsrc:lj B H z m.length y (flat f m)) (q:∀ s' H',s'.len=l.length+m.length->(s'.a=s.a\/s'.a=some ⟨H.size,0,none⟩)->Sat (aW f z el s' (l++m)::As) (hp H')->Q s'.v H' d):dC P B (Builtin.append_ #[tt,t3] ty #[s.v,y]) H d Q:=by
 have Z5:s.len=l.length:=by
  obtain⟨h',x,_⟩:=hs;rcases x with⟨rfl,rfl⟩|⟨b,pad,e,_⟩
  ·rfl
  ·rw[e]
 unfold Builtin.append_;simp only[Hg,R6,RZ];refine ah (dE cE.h B H d _ ?_);simp only[ax.v];refine ah (ik B H d _ ?_);refine ah (dE Z4.h B H d _ (ah (aA ?_)));simp only[gR,eY,Cm,eQ];refine ah (hsrc.len B H d _ ?_);rw[Z5];split
 ·rename_i hle;refine ah (rN hsrc ?_);obtain⟨hh,x,gD,qI⟩:=hs;rcases x with⟨rfl,rfl⟩|⟨b,pad,e,D6,z3,vJ⟩
  ·have hm:m=[]:=Ad.1 (by simpa[aG]using hle);subst hm;refine ah (aA (aA ?_));exact q aG H rfl (.inl rfl) ⟨hh,.inl ⟨rfl,rfl⟩,gD,qI⟩
  ·have EJ:s.a=some ⟨b,0,none⟩:=by rw[e]
   simp only[EJ];have iA:hp H b=some (.cells (gv f l pad) el (0,0)):=by subst vJ;exact gD b _ (by simp[one])
   refine ah ?_;rw[gS];have UT:(flat f m).length=m.length*z:=eU hz m;have Z6:m.length*z<=pad.length:=by have:(l.length+m.length)*z<=s.cap*z:=tu z hle;rw[qb]at this;omega
   refine kG (off:=0+l.length*z) (flat f m) 0 iA ?_ ?_ (λj _ _=>⟨hb _ j EJ,ui j⟩) ?_
   ·rw[iY hz,UT];omega
   ·intro v hv;obtain⟨a,_,ha⟩:=KO.1 hv;exact h1 a v ha
   ·refine aA ?_;rw[K2 hz ak m Z6];refine q ⟨some ⟨b,0,none⟩,l.length+m.length,s.cap⟩ _ rfl (.inl EJ.symm) ?_;have wD:Sat (bX b (.cells (gv f l pad) el (0,0))::As) (hp H):=⟨hh,vJ,gD,qI⟩;refine Sat.imp (λh Wm=>.inr ⟨b,pad.drop (m.length*z),by simp,?_,?_,Wm⟩) (wD.set)
    ·simp only[ji,uw,qb];omega
    ·simpa using hle
 ·rename_i hgt;have adG:s.cap<l.length+m.length:=ak;obtain⟨inf,hi,Sk⟩:=cB.h;refine ah (iE hi B H d _ ?_);have eL:¬ (((l.length+m.length:Nat):Int)>IntKind.i64.max/\(False\/inf.bytes=0)):=by
   rintro⟨_,h2⟩;rcases h2 with h2|h2
   ·exact h2
   ·exact zU (Sk▸h2)
  rw[aq eL];refine ah (iE hi B H d _ ?_);have ahW:=growslice_fits (bytes:=bz) adG hsz;rw[Sk,aq ak];refine ah ?_;show dC P B (.choose _ _) H d _;simp only[dC,Question.forced,gR,eY];intro t;generalize hN:Question.cut (.appendCap (l.length+m.length) s.cap el) t=N;have adH:l.length+m.length<=N:=by rw[<- hN];show _<=l.length+m.length+t%(2^63-(l.length+m.length));omega
  show dC P B (_ >>= _) H d _;refine ah (iE hi B H d _ ?_);refine ah (wJ ?_);have hold:lj B H z l.length (.slice s.a l.length s.cap) (flat f l):=by
   obtain⟨hh,x,gD,qI⟩:=hs;rcases x with⟨rfl,rfl⟩|⟨b,pad,e,D6,z3,vJ⟩
   ·exact .inl ⟨rfl,rfl,rfl⟩
   ·have EJ:s.a=some ⟨b,0,none⟩:=by rw[e]
    have iA:hp H b=some (.cells (gv f l pad) el (0,0)):=by subst vJ;exact gD b _ (by simp[one])
    have Sn:(flat f l).length=l.length*z:=eU hz l;refine .inr ⟨b,0,s.cap,_,_,by rw[EJ],iA,by rw[iY hz];omega,?_,λj=>ui j⟩;rw[mL,<- Sn];simp[gv]
  refine ah (rN hold ?_);refine ah (rN hsrc ?_);refine ah (nG B H d _ ?_);refine ah ?_;unfold newRow;refine ah ?_;show dC P B (.new _ _) H d _;simp only[dC];show dC P B (pure _) _ d _;have vK:(flat f l).toArray++(flat f m).toArray++Builtin.zeroCells zv.cells (N-(l.length+m.length))=gv f (l++m) (Builtin.zeroCells zv.cells (N-(l.length+m.length))).toList:=by apply Array.ext';simp[gv,jQ]
  rw[vK];refine aA (aA ?_);refine q ⟨some ⟨H.size,0,none⟩,l.length+m.length,N⟩ _ rfl (.inr rfl) ?_;have hd:Sat As (hp H):=hs.drop;refine Sat.imp (λh Wm=>.inr ⟨H.size,_,by simp,?_,by simpa using adH,Wm⟩) (hd.push _);have hl:(Builtin.zeroCells zv.cells (N-(l.length+m.length))).toList.length=(N-(l.length+m.length))*z:=by simp[Builtin.zeroCells,OQ]
  show(l++m).length*z+_=N*z;rw[hl,ji,<- qb]
  congr 1
  omega
theorem CC(off:Nat):∀ (l:List Value) (j:Nat) (c:Array Value),(l.zipIdx j).foldl (λcs (p:Value×Nat)=>cs.setIfInBounds (off+p.2) p.1) c=wr c (off+j) l
 |[],_,_=>rfl
 |v::l,j,c=>by rw[List.zipIdx_cons,ks,CC off l (j+1)];rfl
theorem EK:∀ (vs:List Value) (i:Nat) (a b:List Value),(∀ v∈vs,v.cells.size=z)->a.length=i*z->b.length=vs.length*z->
  Instr.fill (λi=>some (i*z,z)) (a++b).toArray ((vs.zipIdx i).map λp=>(p.2,p.1))=some (a++vs.flatMap (·.cells.toList)).toArray
 |[],i,a,b,_,_,hb=>by have:b=[]:=Ad.1 (by simpa using hb);subst this;simp[Instr.fill]
 |v::vs,i,a,b,hv,ha,hb=>by
  have hz:=hv v (iI ..);rw[jd,qb]at hb;rw[List.zipIdx_cons,iJ];unfold Instr.fill;have hsz:(a++b).toArray.size=i*z+(vs.length*z+1*z):=by rw[R0,ji,ha,hb]
  simp only[hz,hsz];rw[aq (by simp)];have hf:Array.foldl (λcs (x:Value×Nat)=>match x with|(c,j)=>cs.setIfInBounds (i*z+j) c) (a++b).toArray v.cells.zipIdx=wr (a++b).toArray (i*z) v.cells.toList:=by rw[<- VW,VX];exact CC (i*z) v.cells.toList 0 _
  rw[hf];have uE:v.cells.toList.length=z:=by simpa using hz
  have Sk:b=b.take z++b.drop z:=by simp
  have hw:wr (a++b).toArray (i*z) v.cells.toList=((a++v.cells.toList)++b.drop z).toArray:=by
   conv=>lhs;rw[Sk,<- qw,<- ha]
   rw[lu _ _ _ _ (by rw[iz,uE];omega)]
  rw[hw,EK vs (i+1) (a++v.cells.toList) (b.drop z) (λx hx=>hv x (gu _ hx)) (by rw[ji,ha,uE,qb];omega) (by rw[uw,hb];omega)];simp
section
variable{ao:Bool}{R:Nat->aQ->Array Obj->Prop}{As aO:List HP}
variable{fn:bM}{kd:Kd}{n:Nat}{e:Nat->Value}{ds:List dW}{k:List Item}{cs:List Frame}
variable{ops:Array Oper}{i:Nat}{aa:List Nat}{dst:Option Nat}{t:Nat}{ty:aR}{pos:String}{af:Array Edge}{gd:Option (Nat×Bool)}{x y w:cU}{v u:Value}{b off n':Nat}{c:Array Value}
theorem ab.ap(C:ab P ao B R){OP bz:Nat}{zv:Value}{m l:List α}{s:ax}{yv:Value}[cE:El P tt el][Z4:El P t3 OP][Cz P el z][cB:Bz P el bz][Zv P el zv]
  (ho:aZ ops i=some ⟨some t,.call ⟨.builtin .append,#[x,y],#[tt,t3]⟩,ty,pos,af,gd⟩) (hz:∀ a,(f a).length=z) (h1:∀ a,∀ v∈f a,fP v=true)
  (hsrc:∀ H,Sat (aW f z el s l::As) (hp H)->lj B H z m.length yv (flat f m)) (h:∀ s',s'.len=l.length+m.length->Nx R d (aW f z el s' (l++m)::As) fn kd n e ds ops aa k cs t s'.v)
  (hsz:(l.length+m.length)*bz<=140737488355328:=by omega) (hx:ev n e x=s.v:=by rfl) (hy:ev n e y=yv:=by rfl) (OQ:zv.cells.size=z:=by rfl) (zU:bz≠0:=by decide) (hb:∀ b j,B.rd b el j=false/\B.sh el j=false:=by intro _ j;exact⟨rfl,rfl⟩) (hw:aN ops n e gd=true:=by rfl):Nw R d (aW f z el s l::As) fn kd n e ds ops i aa k cs:=
 C.gen ho hw λH s'=>by unfold execOp;simp only[resolve];refine ah (aA ?_);simp only[Af,iJ,ml,hx,hy];unfold invoke builtin;refine ah ?_;exact yu hz h1 OQ (λb j _=>(hb b j).1) (λj=>(hb 0 j).2) zU hsz s' (hsrc H s') λs'' H' hl _ hs=>aA ⟨_,hs,h s'' hl⟩
theorem ab.bs(C:ab P ao B R){zv:Value}{vs:List Value}{parts:Array (Nat×cU)}[cE:El P tt el][Cz P el z][Zv P el zv](ho:aZ ops i=some ⟨some t,.buildSlice tt n' parts,ty,pos,af,gd⟩)
  (h:∀ b,Nx R d (bX b (.cells (vs.flatMap (·.cells.toList)).toArray el (0,0))::As) fn kd n e ds ops aa k cs t (.slice (some ⟨b,0,none⟩) n' n'))
  (hp:(parts.toList.map λ(i,x)=>(i,ev n e x))=(vs.zipIdx 0).map λp=>(p.2,p.1):=by rfl) (hn:vs.length=n':=by rfl) (hv:∀ v∈vs,v.cells.size=z:=by simp[Value.cells]) (h0:n'*z≠0:=by decide) (hm:n'*z<=16777216:=by decide) (hw:aN ops n e gd=true:=by rfl):Nw R d As fn kd n e ds ops i aa k cs:=
 C.gen ho hw λH s=>by
  unfold execOp;simp only[Instr.buildSlice];refine ah (ah (dE cE.h B H d _ ?_));refine ah (ik B H d _ ?_);rw[aq ak,aq h0];refine ah (nG B H d _ (ah (aA ?_)));have UU:=EK (z:=z) vs 0 [] ((Array.range (n'*z)).map (zv.cells[· %zv.cells.size]!)).toList hv (by simp) (by simp[hn]);have Hs:(parts.map λx=>(x.fst,ev n e x.snd)).toList=(vs.zipIdx 0).map λp=>(p.2,p.1):=by rw[qv];exact hp
  simp only[eZ,ts]at UU;rw[Hs,UU];refine ah ?_;unfold newRow;refine ah ?_;show dC P B (.new _ _) H d _;simp only[dC];show dC P B (pure _) _ d _;exact aA (aA ⟨_,s.push _,h _⟩)
end
end
end
section
open Go.Conc
theorem K3{α:Type}{f:α->List Value}{z:Nat}{a0:α}{zc:Array Value}(hf:f a0=zc.toList)(hz:zc.size=z)(h0:z≠0):∀ (L:Nat),(Array.range (L*z)).map (λi=>zc[i%zc.size]!)=gv f (List.replicate L a0) []:=by
 intro L;apply se;intro i;have Sn:(f a0).length=z:=by rw[hf];simpa using hz
 have vK:(gv f (List.replicate L a0) [])[i]? =if i<L*z then some zc[i%z]! else none:=by
  unfold gv;rw[Hg,lK]
  induction L generalizing i with
  |zero=>simp[flat]
  |succ L ih=>
   rw[List.replicate_succ,oI];by_cases h:i<z
   ·rw[NA ak,hf,aK (by rw[qb];omega),x9 h];have hi:i<zc.size:=ak;simp[hi]
   ·rw[VT ak,Sn,ih (i-z)];have e:i%z=(i-z)%z:=by rw[Nat.mod_eq_sub_mod ak]
    rw[e];have:(i-z<L*z)↔(i<(L+1)*z):=by rw[qb];omega
    simp only[this]
 rw[vK];by_cases h:i<L*z
 ·simp[h,hz]
 ·simp[h]
variable{P:bR}{ao:Bool}{B:j9}{R:Nat->aQ->Array Obj->Prop}{d:Nat}{As aO:List HP}{α:Type}{f:α->List Value}{z:Nat}
variable{fn:bM}{kd:Kd}{n:Nat}{e:Nat->Value}{ds:List dW}{k:List Item}{cs:List Frame}
variable{ops:Array Oper}{i:Nat}{aa:List Nat}{dst:Option Nat}{t:Nat}{ty:aR}{pos:String}{af:Array Edge}{gd:Option (Nat×Bool)}{x y w:cU}{v u:Value}{b off:Nat}{c:Array Value}{el tt t3:aR}{kk k2:IntKind}
theorem ab.ms(C:ab P ao B R){zv:Value}{bz:Nat}{a0:α}{L:Int}[cE:El P tt el][Cz P el z][cB:Bz P el bz][Zv P el zv](ho:aZ ops i=some ⟨some t,.makeSlice tt x y,ty,pos,af,gd⟩)(hf:f a0=zv.cells.toList)
  (h:∀ b,Nx R d (bX b (.cells (gv f (List.replicate L.toNat a0) []) el (0,0))::As) fn kd n e ds ops aa k cs t (.slice (some ⟨b,0,none⟩) L.toNat L.toNat))
  (hx:ev n e x=.int kk L:=by rfl) (hy:ev n e y=.int k2 L:=by rfl) (h0:0<=L:=by omega) (h1:L*bz<=281474976710656:=by omega) (zU:0<bz:=by decide) (OQ:zv.cells.size=z:=by rfl) (hz:z≠0:=by decide) (hw:aN ops n e gd=true:=by rfl):Nw R d As fn kd n e ds ops i aa k cs:=
 C.gen ho hw λH s=>by
  obtain⟨inf,hi,Sk⟩:=cB.h;have hL:L<=281474976710656:=by
   rcases Int.lt_or_le 281474976710656 L with h|h
   ·have:L*1<=L*bz:=Int.mul_le_mul_of_nonneg_left ak h0;omega
   ·exact h
  have hwr:IntKind.i64.wrap L=L:=pq ak ak;unfold execOp;simp only[Instr.makeSlice,hx,hy];refine ah (ah (dE cE.h B H d _ ?_));refine ah (aA (ah (aA ?_)));refine ah (iE hi B H d _ ?_);rw[hwr,Sk];have hc:(bz:Int)*L<=2^48:=by rw[Int.mul_comm];exact h1
  rw[aq (by simp;omega)];refine ah (wJ ?_);refine ah (ik B H d _ ?_);by_cases hn:L.toNat*z=0
  ·have UP:L.toNat=0:=by
    rcases Nat.mul_eq_zero.1 hn with h|h
    ·exact h
    ·exact absurd h hz
   rw[aK hn,UP];have e0:∀ g:Nat->Value,(Array.range (0*z)).map g=gv f (List.replicate 0 a0) []:=λg=>by simp[gv,flat]
   refine ah (aA (ah ?_));unfold newRow;refine ah ?_;rw[e0];show dC P B (.new _ _) H d _;simp only[dC];show dC P B (pure _) _ d _;have:=h H.size;rw[UP]at this;exact aA (aA ⟨_,s.push _,this⟩)
  ·rw[aq hn];refine ah (nG B H d _ (ah (aA (ah ?_))));unfold newRow;refine ah ?_;show dC P B (.new _ _) H d _;simp only[dC];show dC P B (pure _) _ d _;rw[K3 hf OQ hz];exact aA (aA ⟨_,s.push _,h _⟩)
theorem ab.Wn(C:ab P ao B R){a:Option Addr}{len cap:Nat}{hi:Int}[cE:El P tt el][Cz P el z](ho:aZ ops i=some ⟨some t,.slice tt x none (some y) none,ty,pos,af,gd⟩)(h:Nx R d As fn kd n e ds ops aa k cs t (.slice a hi.toNat cap))
  (hx:ev n e x=.slice a len cap:=by rfl) (hy:ev n e y=.int kk hi:=by rfl) (hh:0<=hi/\hi<=cap:=by constructor<;>omega) (hw:aN ops n e gd=true:=by rfl):Nw R d As fn kd n e ds ops i aa k cs:=
 C.val ho hw (λB H d Q q=>by
  unfold execOp;simp only[Instr.sliceAt,hx,lJ,Eh,hy];refine ah (ah (dE cE.h B H d _ ?_));simp only[Instr.slice];refine ah (dE cE.h B H d _ ?_);simp only[Instr.sliceBounds,Instr.sliceBound,asIntOf];refine ah (ah (aA (ah (ah (aA ?_)))));rw[aK hh];refine aA (ah (aA (aA (ah (ik B H d _ (aA ?_))))));have:(if cap=0 then a else a.map (·.add (0*z)))=a:=by
   split
   ·rfl
   ·cases a<;>simp[add_zero]
  rw[this];exact q) h
theorem ab.Z7(C:ab P ao B R){len cap:Nat}{lo:Int}{a':Addr}[cE:El P tt el][Cz P el z](ho:aZ ops i=some ⟨some t,.slice tt x (some y) none none,ty,pos,af,gd⟩)(h:Nx R d As fn kd n e ds ops aa k cs t (.slice (some a') (len-lo.toNat) (cap-lo.toNat)))
  (hx:ev n e x=.slice (some ⟨b,off,none⟩) len cap:=by rfl) (hy:ev n e y=.int kk lo:=by rfl) (ha:(if cap=lo.toNat then⟨b,off,none⟩else⟨b,off+lo.toNat*z,none⟩)=a':=by rfl) (hh:0<=lo/\lo<=len:=by constructor<;>omega) (hw:aN ops n e gd=true:=by rfl):Nw R d As fn kd n e ds ops i aa k cs:=
 C.val ho hw (λB H d Q q=>by
  unfold execOp;simp only[Instr.sliceAt,hx,lJ,Eh,hy];refine ah (ah (dE cE.h B H d _ ?_));simp only[Instr.slice];refine ah (dE cE.h B H d _ ?_);simp only[Instr.sliceBounds,Instr.sliceBound,asIntOf];refine ah (ah (aA (ah (aA (ah (ah (aA ?_)))))));rw[aK hh];refine aA (aA (ah (ik B H d _ (aA ?_))));have:(if cap=lo.toNat then(some (⟨b,off,none⟩:Addr))else(some (⟨b,off,none⟩:Addr)).map (·.add (lo.toNat*z)))=some a':=by
   rw[<- ha];split
   ·rfl
   ·simp[gS]
  rw[this];exact q) h
theorem ab.cp(C:ab P ao B R){len cap m:Nat}{yv:Value}{xs:List Value}[cE:El P tt el][Cz P el z](ho:aZ ops i=some ⟨some t,.call ⟨.builtin .copy,#[x,y],#[tt,t3]⟩,ty,pos,af,gd⟩)
  (hsrc:∀ H,Sat As (hp H)->lj B H z m yv xs) (hm:m<=len) (Oc:xs.length=m*z) (h1:∀ v∈xs,fP v=true)
  (h:Nx R d aO fn kd n e ds ops aa k cs t (.int .i64 m)) (hu:qG b (.cells c el (0,0)) (.cells (wr c off xs) el (0,0)) As aO)
  (hz:off+m*z<=c.size) (hx:ev n e x=.slice (some ⟨b,off,none⟩) len cap:=by rfl) (hy:ev n e y=yv:=by rfl) (hb:∀ b j,B.rd b el j=false/\B.sh el j=false:=by intro _ j;exact⟨rfl,rfl⟩) (hw:aN ops n e gd=true:=by rfl):Nw R d As fn kd n e ds ops i aa k cs:=
 C.gen ho hw λH s=>by unfold execOp;simp only[resolve];refine ah (aA ?_);simp only[Af,iJ,ml,hx,hy];unfold invoke builtin;refine ah ?_;unfold Builtin.copy_;simp only[Hg,R6,RZ];refine ah (dE cE.h B H d _ ?_);simp only;have hs:=hsrc H s;refine ah (hs.len B H d _ ?_);have Am:Nat.min m len=m:=Ae hm;rw[Am];refine ah (ik B H d _ (ah (rN hs ?_)));simp only;refine ah (kG (off:=off) xs 0 (hu.has.get s) (by rw[Oc];omega) h1 (λj _ _=>hb _ j) ?_);exact aA (aA ⟨_,hu.set s,h⟩)
inductive Fo(A:HP):List HP->List HP->Prop
 |head {As:List HP}:Fo A (A::As) As
 |tail {X:HP} {As L:List HP}:Fo A As L->Fo A (X::As) (X::L)
theorem Fo.perm{A:HP}{As L:List HP}(x:Fo A As L):As.Perm (A::L):=by
 induction x with
 |head=>exact .refl _
 |tail _ ih=>exact(ih.cons _).trans (.swap _ _ _)
inductive dJ:List HP->List HP->List HP->Prop
 |nil {F:List HP}:dJ [] F F
 |cons {A:HP} {Bs As L F:List HP}:Fo A As L->dJ Bs L F->dJ (A::Bs) As F
theorem dJ.perm{Bs As F:List HP}(x:dJ Bs As F):As.Perm (Bs++F):=by
 induction x with
 |nil=>exact .refl _
 |cons f _ ih=>exact f.perm.trans (ih.cons _)
inductive bZ:List HP->List HP->Prop
 |refl {As:List HP}:bZ As As
 |nil {As:List HP}:bZ As []
 |cons {A:HP} {Bs As L:List HP}:Fo A As L->bZ L Bs->bZ As (A::Bs)
 |drop {X:HP} {As Bs:List HP}:bZ As Bs->bZ (X::As) Bs
theorem bZ.sat{As Bs:List HP}(x:bZ As Bs):∀ {h:HL},Sat As h->Sat Bs h:=by
 induction x with
 |refl=>exact id
 |nil=>exact λ_=>trivial
 |cons f _ ih=>exact λs=>Sat.under (λ_ s=>ih s) (s.perm f.perm)
 |drop _ ih=>exact λs=>ih s.drop
variable{Bs L:List HP}{g:aQ}{A:HP}
theorem At.fo(f:Fo A As L)(h:At R d (A::L) g):At R d As g:=h.perm f.perm
theorem At.jR(x:bZ As Bs)(h:At R d Bs g):At R d As g:=λH s=>h H (x.sat s)
theorem At.turn{A':HP}(f:Fo A As L)(t:∀ h,A h->A' h)(h:At R d (A'::L) g):At R d As g:=λH s=>h H ((s.perm f.perm).imp t)
theorem At.xl{p:Prop}(f:Fo A As L)(t:∀ h,A h->p)(h:p->At R d As g):At R d As g:=λH s=>h (by obtain⟨h1,a,_⟩:=s.perm f.perm;exact t _ a) H s
variable{V W:Type}
def aC:List (Int×V)->Int->Option V
 |[],_=>none
 |p::l,k=>if p.1=k then some p.2 else aC l k
def bA:List (Int×V)->Int->V->List (Int×V)
 |[],k,v=>[(k,v)]
 |p::l,k,v=>if p.1=k then(k,v)::l else p::bA l k v
def dQ:List (Int×V)->Int->List (Int×V)
 |[],_=>[]
 |p::l,k=>if p.1=k then l else p::dQ l k
def kH(g:V->W)(l:List (Int×V)):List (Int×W):=l.map λp=>(p.1,g p.2)
theorem mS(g:V->W)(k:Int):∀ l:List (Int×V),aC (kH g l) k=(aC l k).map g
 |[]=>rfl
 |p::l=>by
  have:=mS g k l;simp only[kH,iJ,aC]at this⊢;split
  ·rfl
  ·exact this
theorem oJ(g:V->W)(k:Int)(v:V):∀ l:List (Int×V),bA (kH g l) k (g v)=kH g (bA l k v)
 |[]=>rfl
 |p::l=>by
  have:=oJ g k v l;simp only[kH,iJ,bA]at this⊢;split
  ·simp
  ·simp[this]
theorem uK(g:V->W)(k:Int):∀ l:List (Int×V),dQ (kH g l) k=kH g (dQ l k)
 |[]=>rfl
 |p::l=>by
  have:=uK g k l;simp only[kH,iJ,dQ]at this⊢;split
  ·rfl
  ·simp[this]
theorem yw{X:Type}{l:List X}(h:l.Nodup){i j:Nat}{x:X}(hi:l[i]? =some x)(hj:l[j]? =some x):i=j:=by
 have hp:=ya.1 h;obtain⟨h1,e1⟩:=jC.1 hi;obtain⟨h2,e2⟩:=jC.1 hj;rcases Nat.lt_trichotomy i j with z|z|z
 ·exact absurd (e1.trans e2.symm) (hp i j h1 h2 z)
 ·exact z
 ·exact absurd (e2.trans e1.symm) (hp j i h2 h1 z)
def qf(k:Int):List (Int×V)->Nat->Option (Nat×V)
 |[],_=>none
 |p::l,i=>if p.1=k then some (i,p.2)else qf k l (i+1)
theorem jj{k:Int}:∀ {l:List (Int×V)} {i j:Nat} {v:V},qf k l i=some (j,v)->∃ n,j=i+n/\l[n]? =some (k,v)/\aC l k=some v/\(∀ w,bA l k w=l.set n (k,w))/\dQ l k=l.eraseIdx n
 |[],i,j,v,h=>by cases h
 |p::l,i,j,v,h=>by
  unfold qf at h;split at h
  ·rename_i hp;obtain⟨rfl,rfl⟩:=x7 (bY h);refine⟨0,rfl,by rw[<- hp];rfl,by simp[aC,hp],λw=>by simp[bA,hp],by simp[dQ,hp]⟩
  ·rename_i hp;obtain⟨n,rfl,h2,h3,h4,h5⟩:=jj h;exact⟨n+1,ak,by simpa using h2,by simp[aC,hp,h3],λw=>by simp[bA,hp,h4],by simp[dQ,hp,h5]⟩
theorem jk{k:Int}:∀ {l:List (Int×V)} {i:Nat},qf k l i=none->aC l k=none/\(∀ w,bA l k w=l++[(k,w)])/\dQ l k=l/\k∉l.map (·.1)
 |[],i,_=>⟨rfl,λ_=>rfl,rfl,by simp⟩
 |p::l,i,h=>by
  unfold qf at h;split at h
  ·cases h
  ·rename_i hp;obtain⟨h1,h2,h3,h4⟩:=jk h;exact⟨by simp[aC,hp,h1],λw=>by simp[bA,hp,h2],by simp[dQ,hp,h3],by simp[h4,i3 hp]⟩
theorem getM_none{k:Int}{l:List (Int×V)}:aC l k=none↔k∉l.map (·.1):=by
 induction l with
 |nil=>simp[aC]
 |cons p l ih=>
  unfold aC;split
  ·rename_i h;subst h;simp
  ·rename_i h;rw[ih];simp[i3 h]
theorem bU{k:Int}{v:V}{l:List (Int×V)}(h:aC l k=some v):(k,v)∈l:=by
 induction l with
 |nil=>cases h
 |cons p l ih=>
  unfold aC at h;split at h
  ·rename_i e;obtain rfl:=bY h;subst e;exact iI ..
  ·exact gu _ (ih h)
theorem ed{k:Int}{v:V}:∀ {l:List (Int×V)},(l.map (·.1)).Nodup->(k,v)∈l->aC l k=some v
 |p::l,hn,hm=>by
  rw[iJ,sf]at hn;unfold aC;rcases gq.1 hm with rfl|hm
  ·simp
  ·have:p.1≠k:=λe=>hn.1 (e▸sC (f:=(·.1)) hm);simp[this,ed hn.2 hm]
theorem vL{k:Int}{v:V}:∀ {l:List (Int×V)},(bA l k v).map (·.1)=if(aC l k).isSome then l.map (·.1)else l.map (·.1)++[k]
 |[]=>rfl
 |p::l=>by
  have:=vL (k:=k) (v:=v) (l:=l);unfold bA aC;split
  ·rename_i h;subst h;simp
  ·simp only[iJ,this];split<;>simp
theorem e9{k:Int}{v:V}{l:List (Int×V)}(h:(l.map (·.1)).Nodup):((bA l k v).map (·.1)).Nodup:=by
 rw[vL];split
 ·exact h
 ·rename_i hs;have:k∉l.map (·.1):=getM_none.1 (by simpa using hs);refine iC.2 ⟨h,by simp,λa ha b hb=>?_⟩;simp at hb;subst hb;exact λe=>this (e▸ha)
theorem uL{k:Int}:∀ {l:List (Int×V)},(dQ l k).Sublist l
 |[]=>.slnil
 |p::l=>by
  unfold dQ;split
  ·exact .cons _ (.refl _)
  ·exact .cons_cons _ uL
theorem mT{k:Int}{l:List (Int×V)}(h:(l.map (·.1)).Nodup):((dQ l k).map (·.1)).Nodup:=h.sublist (uL.map _)
theorem fF{k k':Int}{v:V}:∀ {l:List (Int×V)},aC (bA l k v) k'=if k'=k then some v else aC l k'
 |[]=>by simp only[bA,aC];by_cases h:k=k'<;>simp[h,eq_comm]
 |p::l=>by
  have:=fF (k:=k) (k':=k') (v:=v) (l:=l);unfold bA;split
  ·rename_i h;subst h;simp only[aC];by_cases h:p.1=k'
   ·simp[h]
   ·have:¬ k'=p.1:=λe=>h e.symm;simp[h,this]
  ·rename_i h;simp only[aC,this];by_cases h1:p.1=k'
   ·subst h1;simp[h]
   ·simp[h1]
theorem vM{k k':Int}:∀ {l:List (Int×V)},(l.map (·.1)).Nodup->aC (dQ l k) k'=if k'=k then none else aC l k'
 |[],_=>by simp[dQ,aC]
 |p::l,hn=>by
  rw[iJ,sf]at hn;have:=vM (k:=k) (k':=k') (l:=l) hn.2;unfold dQ;split
  ·rename_i h;subst h;by_cases h:k'=p.1
   ·subst h;simp;exact getM_none.2 hn.1
   ·simp[h,aC,i3 h]
  ·rename_i h;simp only[aC,this];by_cases h1:p.1=k'
   ·subst h1;simp[h]
   ·simp[h1]
def D8(kk:IntKind)(l:List (Int×Value)):List (Value×Value):=l.map λp=>(.int kk p.1,p.2)
structure vN(kk:IntKind)(es:Array MapEntry)(clock:Nat)(l:List (Int×Value)):Prop where
 kv:es.toList.map (λe=>(e.key,e.val))=D8 kk l
 nd:(l.map (·.1)).Nodup
 bn:(es.toList.map (·.born)).Nodup
 lt:∀ e∈es.toList,e.born<clock
def cW{V:Type}(kk:IntKind)(g:V->Value)(b:Nat)(l:List (Int×V)):HP:=λh=>∃ es clock,vN kk es clock (kH g l)/\bX b (.map es clock) h
variable{H:Array Obj}{g:V->Value}
theorem yx(k:Int):∀ (es:List MapEntry) (l:List (Int×Value)) (i:Nat),es.map (λe=>(e.key,e.val))=D8 kk l->Instr.findNow (.int kk) (.int kk k) es i=some (qf k l i)
 |[],[],i,_=>rfl
 |[],p::l,i,h=>by cases h
 |e::es,[],i,h=>by cases h
 |e::es,p::l,i,h=>by
  simp only[D8,iJ,NB,Ei]at h;obtain⟨⟨h1,h2⟩,h3⟩:=h;unfold Instr.findNow qf;simp only[h1,Instr.sameNow,eQ];by_cases hk:p.1=k
  ·subst hk;simp[h2]
  ·have:(k==p.1)=false:=by simpa using i3 hk
   simp only[this,aq hk];exact yx k es l (i+1) h3
theorem nI{t:aR}[c:Ik P t kk]{em:Bool}{k:Int}:Pu P (Instr.checkKey em 10000 t (.int kk k)) ():=by intro B H d Q q;show dC P B (Instr.checkKey em (9999+1) t (.int kk k)) H d Q;unfold Instr.checkKey;exact ah (dE c.h B H d _ q)
theorem pr{t:aR}[c:Ik P t kk]{es:List MapEntry}{l:List (Int×Value)}{k:Int}(h:es.map (λe=>(e.key,e.val))=D8 kk l):Pu P (Instr.findKey t (.int kk k) es) (qf k l 0):=λB H d Q q=>by unfold Instr.findKey;refine ah (dE c.h B H d _ ?_);rw[yx k es l 0 h];exact q
theorem gT{r:Nat}{o:Obj}{Q:Obj->Array Obj->Nat->Prop}(h:hp H r=some o)(hq:Obj.quiet o=true)(q:Q o H d):dC P B (getObj r) H d Q:=⟨o,h,hq,q⟩
theorem lv{r:Nat}{o o₀:Obj}{Q:Unit->Array Obj->Nat->Prop}(h:hp H r=some o₀)(hq:Obj.quiet o₀=true)(D3:Obj.quiet o=true)(q:Q () (H.setIfInBounds r o) d):dC P B (setObj r o) H d Q:=⟨o₀,h,hq,D3,q⟩
theorem yy{tt key el:aR}{z:Value}[cM:Mp P tt key el][Ik P key kk][Zv P el z]{b:Nat}{l:List (Int×V)}{k:Int}{co:Bool}{As:List HP}{Q:Value->Array Obj->Nat->Prop}(s:Sat (cW kk g b l::As) (hp H))
  (q:Q (if co then .tuple #[((aC l k).map g).getD z,.bool (aC l k).isSome]else((aC l k).map g).getD z) H d):dC P B (Instr.lookup tt (.map (some b)) (.int kk k) co) H d Q:=by
 obtain⟨hh,⟨es,clock,mr,vJ⟩,gD,hr⟩:=s;have iA:hp H b=some (.map es clock):=by subst vJ;exact gD b _ (by simp[one])
 unfold Instr.lookup;refine ah (dE cM.h B H d _ ?_);refine ah (gT iA rfl ?_);refine ah (aA ?_);refine ah (nI B H d _ ?_);refine ah (pr mr.kv B H d _ ?_);cases hi:qf k (kH g l) 0 with
 |none=>
  have:=(jk hi).1;rw[mS,Option.map_eq_none_iff]at this;rw[this]at q;refine ah (nG B H d _ (aA ?_));cases co<;>exact q
 |some jv=>
  obtain⟨j,v⟩:=jv;obtain⟨n,_,_,hg,_⟩:=jj hi;rw[mS,M2]at hg;obtain⟨v',tC,rfl⟩:=hg;rw[tC]at q;refine aA ?_;cases co<;>exact q
theorem JM{kk:IntKind}{k:Int}:Pu P (Instr.keyThatStays (.int kk k) (.int kk k)) (.int kk k):=λB H d Q q=>by unfold Instr.keyThatStays;rw[aK (by simp[Instr.sameBits])];exact q
theorem Ht{es:List MapEntry}{l:List (Int×Value)}(h:es.map (λe=>(e.key,e.val))=D8 kk l){n:Nat}{k:Int}{v:Value}(hn:l[n]? =some (k,v)):∃ e,es[n]? =some e/\e.key=.int kk k/\e.val=v:=by
 have:(es.map (λe=>(e.key,e.val)))[n]? =some (.int kk k,v):=by rw[h];simp[D8,hn]
 rw[kB,M2]at this;obtain⟨e,h1,h2⟩:=this;obtain⟨h3,h4⟩:=x7 h2;exact⟨e,h1,h3,h4⟩
theorem vN.modify{es:Array MapEntry}{clock:Nat}{l:List (Int×Value)}(m:vN kk es clock l){n:Nat}{k:Int}{v0 v:Value}(hn:l[n]? =some (k,v0))(hs:bA l k v=l.set n (k,v))(f:MapEntry->MapEntry)(hf:∀ e,es.toList[n]? =some e->(f e).key=.int kk k/\(f e).val=v/\(f e).born=e.born):
  vN kk (es.modify n f) clock (bA l k v):=by
 have hl:(es.modify n f).toList=es.toList.modify n f:=by simp
 have YZ:(es.toList.modify n f).map (·.born)=es.toList.map (·.born):=by
  apply NC;intro i;simp only[kB,AO];by_cases h:n=i
  ·subst h;cases e:es.toList[n]? with
   |none=>rfl
   |some e'=>simp[(hf e' e).2.2]
  ·simp[h]
 refine⟨?_,?_,?_,?_⟩
 ·rw[hl,hs];apply NC;intro i;have hkv:(es.toList.map λe=>(e.key,e.val))[i]? =(D8 kk l)[i]? :=by rw[m.kv]
  simp only[D8,kB,AO,yb]at hkv⊢;by_cases h:n=i
  ·subst h;have dI:=(jC.1 hn).1;obtain⟨e,h1,h2,h3⟩:=Ht m.kv hn;obtain⟨h4,h5,_⟩:=hf e h1;simp[h1,h4,h5,dI]
  ·simpa[h]using hkv
 ·exact e9 m.nd
 ·rw[hl,YZ];exact m.bn
 ·intro e he;rw[hl]at he;have:e.born∈(es.toList.modify n f).map (·.born):=sC (f:=(·.born)) he;rw[YZ]at this;obtain⟨e',h1,h2⟩:=bL.1 this;rw[<- h2];exact m.lt e' h1
theorem vN.push{es:Array MapEntry}{clock:Nat}{l:List (Int×Value)}(m:vN kk es clock l){k:Int}{v:Value}(hk:k∉l.map (·.1))(hs:bA l k v=l++[(k,v)]):vN kk (es.push {key:=.int kk k,val:=v,born:=clock}) (clock+1) (bA l k v):=by
 have hl:(es.push {key:=Value.int kk k,val:=v,born:=clock}).toList=es.toList++[{key:=.int kk k,val:=v,born:=clock}]:=by simp
 refine⟨by rw[hl,hs];simp[D8,m.kv],e9 m.nd,?_,λe he=>?_⟩
 ·rw[hl,eI];refine iC.2 ⟨m.bn,by simp,λa ha b hb=>?_⟩;obtain⟨e,he,rfl⟩:=bL.1 ha;have:=m.lt e he;simp at hb;subst hb;omega
 ·rw[hl]at he;rcases cg.1 he with he|he
  ·have:=m.lt e he;omega
  ·simp at he;subst he;simp
theorem oK{X Y:Type}(f:X->Y):∀ (l:List X) (n:Nat),(l.eraseIdx n).map f=(l.map f).eraseIdx n
 |[],_=>rfl
 |_::_,0=>rfl
 |x::l,n+1=>by simp only[ND,iJ,oK f l n]
theorem vN.erase{es:Array MapEntry}{clock:Nat}{l:List (Int×Value)}(m:vN kk es clock l){n:Nat}{k:Int}(hs:dQ l k=l.eraseIdx n):vN kk (es.eraseIdxIfInBounds n) clock (dQ l k):=by
 have hl:(es.eraseIdxIfInBounds n).toList=es.toList.eraseIdx n:=by simp
 refine⟨?_,mT m.nd,?_,λe he=>?_⟩
 ·rw[hl,hs,oK,m.kv];simp[D8,oK]
 ·rw[hl];exact m.bn.sublist ((jM ..).map _)
 ·rw[hl]at he;exact m.lt e ((jM ..).mem he)
theorem EL{X:Type}(a:Array X)(i:Nat):a[i]? =a.toList[i]? :=by simp
theorem An{tt key el:aR}[cM:Mp P tt key el][Ik P key kk]{b:Nat}{l:List (Int×V)}{k:Int}{v:V}{As:List HP}{Q:Unit->Array Obj->Nat->Prop}(s:Sat (cW kk g b l::As) (hp H))
  (q:∀ H',Sat (cW kk g b (bA l k v)::As) (hp H')->Q () H' d):dC P B (Instr.mapUpdate tt (.map (some b)) (.int kk k) (g v)) H d Q:=by
 obtain⟨hh,⟨es,clock,mr,vJ⟩,gD,hr⟩:=s;have iA:hp H b=some (.map es clock):=by subst vJ;exact gD b _ (by simp[one])
 have wD:Sat (bX b (.map es clock)::As) (hp H):=⟨hh,vJ,gD,hr⟩;unfold Instr.mapUpdate;refine ah (dE cM.h B H d _ ?_);refine ah (gT iA rfl ?_);refine ah (nI B H d _ ?_);refine ah (pr mr.kv B H d _ ?_);cases hi:qf k (kH g l) 0 with
 |none=>
  obtain⟨_,h2,_,h4⟩:=jk hi;refine lv iA rfl rfl (q _ (Sat.imp (λh hh=>⟨_,_,?_,hh⟩) wD.set));rw[<- oJ];exact mr.push h4 (h2 _)
 |some jv=>
  obtain⟨j,v0⟩:=jv;obtain⟨n,rfl,hn,_,sK,_⟩:=jj hi;obtain⟨e,he,hk,_⟩:=Ht mr.kv hn;simp only[mL,EL,he,lJ,kt,hk];refine ah (JM B H d _ ?_);refine lv iA rfl rfl (q _ (Sat.imp (λh hh=>⟨_,_,?_,hh⟩) wD.set));rw[<- oJ];exact mr.modify hn (sK _) _ λe' xj=>⟨rfl,rfl,rfl⟩
theorem Hu{tt t2 key el ty:aR}[cM:Mp P tt key el][Ik P key kk]{b:Nat}{l:List (Int×V)}{k:Int}{As:List HP}{Q:Value->Array Obj->Nat->Prop}(s:Sat (cW kk g b l::As) (hp H))
  (q:∀ H',Sat (cW kk g b (dQ l k)::As) (hp H')->Q (.tuple #[]) H' d):dC P B (Builtin.delete_ #[tt,t2] ty #[.map (some b),.int kk k]) H d Q:=by
 obtain⟨hh,⟨es,clock,mr,vJ⟩,gD,hr⟩:=s;have iA:hp H b=some (.map es clock):=by subst vJ;exact gD b _ (by simp[one])
 have wD:Sat (bX b (.map es clock)::As) (hp H):=⟨hh,vJ,gD,hr⟩;unfold Builtin.delete_;simp only[Hg,R6,RZ];refine ah (dE cM.h B H d _ ?_);refine ah (gT iA rfl ?_);refine ah (nI B H d _ ?_);refine ah (pr mr.kv B H d _ ?_);cases hi:qf k (kH g l) 0 with
 |none=>
  obtain⟨_,_,h3,_⟩:=jk hi;refine ah (lv iA rfl rfl (aA (q _ (Sat.imp (λh hh=>⟨_,_,?_,hh⟩) wD.set))));rw[<- uK,h3];exact mr
 |some jv=>
  obtain⟨j,v0⟩:=jv;obtain⟨n,rfl,hn,_,_,hd⟩:=jj hi;refine ah (lv iA rfl rfl (aA (q _ (Sat.imp (λh hh=>⟨_,_,?_,hh⟩) wD.set))));rw[<- uK,mL];exact mr.erase hd
theorem Fo.au{P:HP}{A L:List HP}(h:Fo P A L:=by(repeat(first|with_reducible exact Fo.head|with_reducible apply Fo.tail));done):Fo P A L:=h
theorem dJ.au{A As L:List HP}(h:dJ A As L:=by(repeat(first|with_reducible exact dJ.nil|with_reducible exact Fo.head|with_reducible apply Fo.tail|with_reducible apply dJ.cons));done):dJ A As L:=h
theorem bZ.au{A L:List HP}(h:bZ A L:=by((try simp only[iT,eZ]);(repeat(first|with_reducible exact bZ.refl|with_reducible exact bZ.nil|with_reducible exact Fo.head|with_reducible apply Fo.tail|with_reducible apply bZ.cons|with_reducible apply bZ.drop));done)):bZ A L:=h
variable{z:cU}{t2 key:aR}
variable{l:List (Int×V)}{q:Int}
def UW(A:HP)(As:List HP):Prop:=∀ h,Sat As h->∃ L,Sat (A::L) h
theorem Fo.K4{A:HP}{As L:List HP}(f:Fo A As L):UW A As:=λ_ s=>⟨L,s.perm f.perm⟩
theorem Ext.K4{A:HP}{As lr L:List HP}(e:Ext As lr)(f:Fo A lr L):UW A As:=λ_ s=>⟨L,(e _ s).perm f.perm⟩
theorem ab.lkC(C:ab P ao B R){zv:Value}[cM:Mp P tt key el][Ik P key kk][Zv P el zv](ho:aZ ops i=some ⟨some t,.lookup tt x y true,ty,pos,af,gd⟩)
  (h1:∀ w,aC l q=some w->Nx R d As fn kd n e ds ops aa k cs t (.tuple #[g w,.bool true])) (h2:aC l q=none->Nx R d As fn kd n e ds ops aa k cs t (.tuple #[zv,.bool false]))
  (hx:ev n e x=.map (some b):=by rfl) (hy:ev n e y=.int kk q:=by rfl) (hf:UW (cW kk g b l) As:=by first|(apply Fo.K4;(repeat(first|with_reducible exact Fo.head|with_reducible apply Fo.tail));done)|(apply Ext.K4;assumption;(repeat(first|with_reducible exact Fo.head|with_reducible apply Fo.tail));done)) (hw:aN ops n e gd=true:=by rfl):Nw R d As fn kd n e ds ops i aa k cs:=
 C.gen ho hw λH s=>by
  unfold execOp;simp only[hx,hy];refine ah ?_;obtain⟨L,sL⟩:=hf _ s;refine yy sL ?_;refine⟨As,s,?_⟩;cases hg:aC l q with
  |none=>exact h2 hg
  |some w=>exact h1 w hg
theorem ab.Y0(C:ab P ao B R){zv:Value}{co:Bool}[cM:Mp P tt key el][Ik P key kk][Zv P el zv](ho:aZ ops i=some ⟨some t,.lookup tt x y co,ty,pos,af,gd⟩)
  (h:Nx R d As fn kd n e ds ops aa k cs t (if co then .tuple #[((aC l q).map g).getD zv,.bool (aC l q).isSome]else((aC l q).map g).getD zv))
  (hx:ev n e x=.map (some b):=by rfl) (hy:ev n e y=.int kk q:=by rfl) (hf:UW (cW kk g b l) As:=by first|(apply Fo.K4;(repeat(first|with_reducible exact Fo.head|with_reducible apply Fo.tail));done)|(apply Ext.K4;assumption;(repeat(first|with_reducible exact Fo.head|with_reducible apply Fo.tail));done)) (hw:aN ops n e gd=true:=by rfl):Nw R d As fn kd n e ds ops i aa k cs:=
 C.gen ho hw λH s=>by unfold execOp;simp only[hx,hy];obtain⟨L,sL⟩:=hf _ s;exact ah (yy sL ⟨As,s,h⟩)
theorem ab.Hv(C:ab P ao B R){zv:Value}{w:V}{co:Bool}[cM:Mp P tt key el][Ik P key kk][Zv P el zv](hg:aC l q=some w)(ho:aZ ops i=some ⟨some t,.lookup tt x y co,ty,pos,af,gd⟩)
  (h:Nx R d As fn kd n e ds ops aa k cs t (if co then .tuple #[g w,.bool true]else g w))
  (hx:ev n e x=.map (some b):=by rfl) (hy:ev n e y=.int kk q:=by rfl) (hf:UW (cW kk g b l) As:=by first|(apply Fo.K4;(repeat(first|with_reducible exact Fo.head|with_reducible apply Fo.tail));done)|(apply Ext.K4;assumption;(repeat(first|with_reducible exact Fo.head|with_reducible apply Fo.tail));done)) (hw:aN ops n e gd=true:=by rfl):Nw R d As fn kd n e ds ops i aa k cs:=
 C.Y0 ho (by rw[hg];exact h) hx hy hf hw
theorem ab.Hw(C:ab P ao B R){zv:Value}{co:Bool}[cM:Mp P tt key el][Ik P key kk][Zv P el zv](hg:aC l q=none)(ho:aZ ops i=some ⟨some t,.lookup tt x y co,ty,pos,af,gd⟩)
  (h:Nx R d As fn kd n e ds ops aa k cs t (if co then .tuple #[zv,.bool false]else zv))
  (hx:ev n e x=.map (some b):=by rfl) (hy:ev n e y=.int kk q:=by rfl) (hf:UW (cW kk g b l) As:=by first|(apply Fo.K4;(repeat(first|with_reducible exact Fo.head|with_reducible apply Fo.tail));done)|(apply Ext.K4;assumption;(repeat(first|with_reducible exact Fo.head|with_reducible apply Fo.tail));done)) (hw:aN ops n e gd=true:=by rfl):Nw R d As fn kd n e ds ops i aa k cs:=
 C.Y0 ho (by rw[hg];exact h) hx hy hf hw
theorem ab.mu(C:ab P ao B R){w:V}[cM:Mp P tt key el][Ik P key kk](ho:aZ ops i=some ⟨none,.mapUpdate tt x y z,ty,pos,af,gd⟩)(h:At R d (cW kk g b (bA l q w)::L) (gr fn kd n e ds (.inRegion ops aa::k) cs))
  (hx:ev n e x=.map (some b):=by rfl) (hy:ev n e y=.int kk q:=by rfl) (hf:Fo (cW kk g b l) As L:=by exact Fo.au) (hz:ev n e z=g w:=by rfl) (hw:aN ops n e gd=true:=by rfl):Nw R d As fn kd n e ds ops i aa k cs:=
 C.gen ho hw λH s=>by unfold execOp;simp only[hx,hy,hz];exact ah (An (s.perm hf.perm) λH' s'=>⟨_,s',h⟩)
theorem ab.dl(C:ab P ao B R)[cM:Mp P tt key el][Ik P key kk](ho:aZ ops i=some ⟨dst,.call ⟨.builtin .delete,#[x,y],#[tt,t2]⟩,ty,pos,af,gd⟩)(h:At R d (cW kk g b (dQ l q)::L) (gr fn kd n (di e dst (.tuple #[])) ds (.inRegion ops aa::k) cs))
  (hx:ev n e x=.map (some b):=by rfl) (hy:ev n e y=.int kk q:=by rfl) (hf:Fo (cW kk g b l) As L:=by exact Fo.au) (hw:aN ops n e gd=true:=by rfl):Nw R d As fn kd n e ds ops i aa k cs:=
 C.gen ho hw λH s=>by unfold execOp;simp only[resolve];refine ah (aA ?_);simp only[Af,iJ,ml,hx,hy];unfold invoke builtin;exact ah (Hu (s.perm hf.perm) λH' s'=>aA ⟨_,s',h⟩)
theorem ab.Y1(C:ab P ao B R)[cM:Mp P tt key el](ho:aZ ops i=some ⟨some t,.call ⟨.builtin .len,#[x],#[tt]⟩,ty,pos,af,gd⟩)(h:Nx R d As fn kd n e ds ops aa k cs t (.int .i64 l.length))
  (hx:ev n e x=.map (some b):=by rfl) (hf:UW (cW kk g b l) As:=by first|(apply Fo.K4;(repeat(first|with_reducible exact Fo.head|with_reducible apply Fo.tail));done)|(apply Ext.K4;assumption;(repeat(first|with_reducible exact Fo.head|with_reducible apply Fo.tail));done)) (hw:aN ops n e gd=true:=by rfl):Nw R d As fn kd n e ds ops i aa k cs:=
 C.gen ho hw λH s=>by
  obtain⟨L',s'⟩:=hf _ s;obtain⟨hh,⟨es,clock,mr,vJ⟩,gD,hr⟩:=s';have iA:hp H b=some (.map es clock):=by subst vJ;exact gD b _ (by simp[one])
  have hsz:es.size=l.length:=by have:=congrArg List.length mr.kv;simpa[D8,kH]using this
  unfold execOp;simp only[resolve];refine ah (aA ?_);simp only[Af,iJ,ml,hx];unfold invoke builtin;refine ah ?_;unfold Builtin.len_;refine ah (dE cM.h B H d _ ?_);refine ah (gT iA rfl (aA (aA ⟨As,s,?_⟩)));rw[hsz];exact h
theorem OR(kk:IntKind)(g:V->Value)(b:Nat)(h:HL)(hh:bX b (.map #[] 0) h):cW kk g b [] h:=⟨_,_,⟨rfl,by simp[kH],by simp,by simp⟩,hh⟩
theorem ab.mm(C:ab P ao B R)(kk:IntKind)(g:V->Value)(ho:aZ ops i=some ⟨some t,.makeMap tt none,ty,pos,af,gd⟩)(h:∀ b,Nx R d (cW kk g b []::As) fn kd n e ds ops aa k cs t (.map (some b)))(hw:aN ops n e gd=true:=by rfl):Nw R d As fn kd n e ds ops i aa k cs:=
 C.gen ho hw λH s=>by unfold execOp;simp only[Instr.makeMap,Eh];refine ah (ah ?_);show dC P B (.new _ _) H d _;simp only[dC];show dC P B (pure _) _ d _;exact aA ⟨_,(s.push _).imp (OR kk g _),h _⟩
end
section
open Go.Conc
def A9(ops:Array Oper)(i:Nat):List Nat:=
 match aZ ops i with
 |some o=>(o.after.toList.filter (Region.binds .any)).map (·.on)
 |none=>[]
structure SE where
 i:Nat
 t:Nat
 v:Value
 ld:Bool
def Wo:List SE->List Nat->Nat->Option Value
 |[],_,_=>none
 |x::S,pre,s=>if x.t=s then(if pre.contains x.i then some x.v else Wo S pre s)else Wo S pre s
def M9:List SE->Nat->Option Value
 |[],_=>none
 |x::S,s=>if x.t=s then some x.v else M9 S s
def G3:List (Nat×Nat)->Nat->Option Nat
 |[],_=>none
 |(s',w)::D,s=>if s'=s then some w else G3 D s
def mz(e0:Nat->Value)(D:List (Nat×Nat))(ops:Array Oper)(i:Nat)(S:List SE)(e:Nat->Value):Nat->Value:=λs=>
 match Wo S (A9 ops i) s with
 |some v=>v
 |none=>match G3 D s with
  |none=>e0 s
  |some w=>if(A9 ops w).contains i then e0 s else e s
def pS(e0:Nat->Value)(S:List SE):Nat->Value:=λs=>
 match M9 S s with
 |some v=>v
 |none=>e0 s
def reach(ops:Array Oper):Nat->Nat->Nat->Bool
 |0,i,j=>i==j
 |f+1,i,j=>i==j||(A9 ops i).any λm=>reach ops f m j
def CD(ops:Array Oper)(T':List Nat):List Nat:=T'.filter λt=>T'.all λu=>u==t|| !reach ops 8 t u
section
variable(P:bR)(R:Nat->aQ->Array Obj->Prop)(d:Nat)(fn:bM)(kd:Kd)(n:Nat)(ds:List dW)(ops:Array Oper)(k:List Item)(cs:List Frame)(e0:Nat->Value)(D:List (Nat×Nat))
def Nd(W:List HP)(S:List SE)(C:List SE->List HP->Prop)(t:Nat):Nat->List SE->List HP->Prop
 |0,K,As=>∃ o,aZ ops t=some o/\∀ e aa,(∀ aO v,C (match o.dst with|some s=>⟨t,s,v,false⟩::K|none=>K) aO->At R d aO (gr fn kd n (di (mz e0 D ops t (K++S) e) o.dst v) ds (.inRegion ops aa::k) cs))->
   At R d As (gr fn kd n (mz e0 D ops t (K++S) e) ds (.inRegion ops (t::aa)::k) cs)
 |_+1,K,As=>∃ o,aZ ops t=some o/\∀ e aa,(∀ aO v,Ho W aO As->C (match o.dst with|some s=>⟨t,s,v,false⟩::K|none=>K) aO->At R d aO (gr fn kd n (di (mz e0 D ops t (K++S) e) o.dst v) ds (.inRegion ops aa::k) cs))->
   At R d As (gr fn kd n (mz e0 D ops t (K++S) e) ds (.inRegion ops (t::aa)::k) cs)
def Y2(W:List HP)(S:List SE)(x:SE):Prop:=
 (∃ o,aZ ops x.i=some o/\o.dst=some x.t)/\∀ As e aa,(x.ld=true->Ext As W)->At R d As (gr fn kd n (put (mz e0 D ops x.i S e) x.t x.v) ds (.inRegion ops aa::k) cs)->At R d As (gr fn kd n (mz e0 D ops x.i S e) ds (.inRegion ops (x.i::aa)::k) cs)
def Ch(W:List HP):Nat->List SE->List Nat->Nat->List SE->List HP->Prop
 |0,S,_,_,K,As=>At R d As (gr fn kd n (pS e0 (K++S)) ds (.inRegion ops []::k) cs)
 |f+1,S,T',a,K,As=>(∀ t∈CD ops T',Nd R d fn kd n ds ops k cs e0 D W S (λK As=>Ch W f S (T'.erase t) (a-1) K As) t a K As)\/(∃ i∈T',∃ t v,Y2 R d fn kd n ds ops k cs e0 D W (K++S) ⟨i,t,v,false⟩/\Ch W f (⟨i,t,v,false⟩::S) (T'.erase i) a K As)\/
   (∃ t,T'=[t]/\(∃ o,aZ ops t=some o/\o.dst=none)/\((List.range ops.size).all λi=>i==t||reach ops 8 t i)=true/\At R d As (gr fn kd n (pS e0 (K++S)) ds (.inRegion ops [t]::k) cs))
def Dr(W lr:List HP)(T:List Nat)(a:Nat):List SE->List Nat->Prop
 |S,[]=>(S.all λx=> !x.ld||decide ((T.filter λt=> !reach ops 8 t x.i).length<=a))=true/\Ext lr W/\Ch R d fn kd n ds ops k cs e0 D W T.length S T a [] lr
 |S,i::is=>∃ t v ld,Y2 R d fn kd n ds ops k cs e0 D W S ⟨i,t,v,ld⟩/\Dr W lr T a (⟨i,t,v,ld⟩::S) is
end
section
variable{P:bR}{ao:Bool}{B:j9}{R:Nat->aQ->Array Obj->Prop}{d:Nat}{fn:bM}{kd:Kd}{n:Nat}{ds:List dW}{ops:Array Oper}{k:List Item}{cs:List Frame}{e0:Nat->Value}{D:List (Nat×Nat)}{W lr:List HP}{T:List Nat}{a:Nat}{S:List SE}{i:Nat}{is:List Nat}
theorem Dr.pu{t:Nat}{v:Value}(ho:∃ o,aZ ops i=some o/\o.dst=some t)(h:∀ As e aa,At R d As (gr fn kd n (put (mz e0 D ops i S e) t v) ds (.inRegion ops aa::k) cs)->At R d As (gr fn kd n (mz e0 D ops i S e) ds (.inRegion ops (i::aa)::k) cs))
  (k':Dr R d fn kd n ds ops k cs e0 D W lr T a (⟨i,t,v,false⟩::S) is):Dr R d fn kd n ds ops k cs e0 D W lr T a S (i::is):=⟨t,v,false,⟨ho,λAs e aa _ h'=>h As e aa h'⟩,k'⟩
theorem Dr.ld{t:Nat}{v:Value}(ho:∃ o,aZ ops i=some o/\o.dst=some t)(h:∀ As,Ext As W->∀ e aa,At R d As (gr fn kd n (put (mz e0 D ops i S e) t v) ds (.inRegion ops aa::k) cs)->At R d As (gr fn kd n (mz e0 D ops i S e) ds (.inRegion ops (i::aa)::k) cs))
  (k':Dr R d fn kd n ds ops k cs e0 D W lr T a (⟨i,t,v,true⟩::S) is):Dr R d fn kd n ds ops k cs e0 D W lr T a S (i::is):=⟨t,v,true,⟨ho,λAs e aa hA h'=>h As (hA rfl) e aa h'⟩,k'⟩
theorem Ch.n1{f:Nat}{T':List Nat}{t a:Nat}{K:List SE}{As:List HP}(hc:CD ops T'=[t])(h:Nd R d fn kd n ds ops k cs e0 D W S (λK As=>Ch R d fn kd n ds ops k cs e0 D W f S (T'.erase t) (a-1) K As) t a K As):Ch R d fn kd n ds ops k cs e0 D W (f+1) S T' a K As:=.inl λt' ht=>by rw[hc]at ht;obtain rfl:=dN.1 ht;exact h
theorem Ch.n2{f:Nat}{T':List Nat}{t u a:Nat}{K:List SE}{As:List HP}(hc:CD ops T'=[t,u])(h:Nd R d fn kd n ds ops k cs e0 D W S (λK As=>Ch R d fn kd n ds ops k cs e0 D W f S (T'.erase t) (a-1) K As) t a K As)
  (h2:Nd R d fn kd n ds ops k cs e0 D W S (λK As=>Ch R d fn kd n ds ops k cs e0 D W f S (T'.erase u) (a-1) K As) u a K As):Ch R d fn kd n ds ops k cs e0 D W (f+1) S T' a K As:=.inl λt' ht=>by
 rw[hc]at ht;rcases gq.1 ht with rfl|ht
 ·exact h
 ·obtain rfl:=dN.1 ht;exact h2
theorem Ch.pu{f:Nat}{T':List Nat}{i t a:Nat}{v:Value}{K:List SE}{As:List HP}(ho:∃ o,aZ ops i=some o/\o.dst=some t)(h:∀ As e aa,At R d As (gr fn kd n (put (mz e0 D ops i (K++S) e) t v) ds (.inRegion ops aa::k) cs)->At R d As (gr fn kd n (mz e0 D ops i (K++S) e) ds (.inRegion ops (i::aa)::k) cs))
  (k':Ch R d fn kd n ds ops k cs e0 D W f (⟨i,t,v,false⟩::S) (T'.erase i) a K As) (hi:i∈T':=by decide):Ch R d fn kd n ds ops k cs e0 D W (f+1) S T' a K As:=.inr (.inl ⟨i,hi,t,v,⟨ho,λAs e aa _ h'=>h As e aa h'⟩,k'⟩)
theorem Ch.last{f:Nat}{T':List Nat}(t:Nat){a:Nat}{K:List SE}{As:List HP}(ho:∃ o,aZ ops t=some o/\o.dst=none)(h:At R d As (gr fn kd n (pS e0 (K++S)) ds (.inRegion ops [t]::k) cs))
  (hT:T'=[t]:=by rfl) (ha:((List.range ops.size).all λi=>i==t||reach ops 8 t i)=true:=by decide+kernel):Ch R d fn kd n ds ops k cs e0 D W (f+1) S T' a K As:=.inr (.inr ⟨t,hT,ho,ha,h⟩)
theorem Ch.fin{T':List Nat}{a:Nat}{K:List SE}{As:List HP}(h:At R d As (gr fn kd n (pS e0 (K++S)) ds (.inRegion ops []::k) cs)):Ch R d fn kd n ds ops k cs e0 D W 0 S T' a K As:=h
theorem Dr.chain(hl:(S.all λx=> !x.ld||decide ((T.filter λt=> !reach ops 8 t x.i).length<=a))=true)(h:Ch R d fn kd n ds ops k cs e0 D W T.length S T a [] lr)(hw:Ext lr W:=by exact λ_ s=>s):Dr R d fn kd n ds ops k cs e0 D W lr T a S []:=⟨hl,hw,h⟩
end
def iF(ops:Array Oper)(i:Nat):Option Nat:=match aZ ops i with|some o=>o.dst|none=>none
def lY:List Nat->Bool
 |[]=>true
 |a::l=> !l.contains a&&lY l
def tF(md:Region.Mode)(ops:Array Oper)(i:Nat):List Nat:=
 match aZ ops i with
 |some o=>(o.after.toList.filter (Region.binds md)).map (·.on)
 |none=>[]
def So(md:Region.Mode)(ops:Array Oper):List Nat->List Nat->Bool
 |_,[]=>true
 |dn,i::l=>(tF md ops i).all (λj=>dn.contains j)&&So md ops (i::dn) l
def UX(md:Region.Mode)(ops:Array Oper):Nat->List Nat->List Nat
 |0,_=>[]
 |f+1,dn=>match(List.range ops.size).find? (λi=> !dn.contains i&&(tF md ops i).all (λj=>dn.contains j))with
  |some i=>i::UX md ops f (i::dn)
  |none=>[]
def UY(md:Region.Mode)(ops:Array Oper)(tp:List Nat):Bool:=(List.range ops.size).all (λi=>tp.contains i)&&tp.all (λi=>decide (i<ops.size))&&So md ops [] tp
theorem Ba{md:Region.Mode}{ops:Array Oper}{L:Nat->Bool}:∀ {tp dn:List Nat},So md ops dn tp=true->(∀ j∈dn,L j=true)->(∃ i∈tp,L i=false)->∃ i∈tp,L i=false/\∀ j∈tF md ops i,L j=true
 |[],_,_,_,h=>by obtain⟨i,hi,_⟩:=h;cases hi
 |i::l,dn,h,hd,he=>by
  simp only[So,j8,k9]at h;cases hL:L i with
  |false=>exact⟨i,iI ..,hL,λj hj=>hd j (by have:=h.1 j hj;simpa using this)⟩
  |true=>
   obtain⟨q,hq,pT⟩:=he;obtain⟨z,h1,h2⟩:=Ba h.2 (λj hj=>(gq.1 hj).elim (λe=>e▸hL) (hd j)) ⟨q,(gq.1 hq).resolve_left (λe=>by rw[e,hL]at pT;cases pT),pT⟩;exact⟨z,gu _ h1,h2⟩
theorem xM{md:Region.Mode}{ops:Array Oper}{i j:Nat}(h:j∈A9 ops i):j∈tF md ops i:=by
 unfold A9 at h;unfold tF;split at h
 ·rename_i o ho;simp only[bL,iU]at h⊢;obtain⟨e,⟨he,hb⟩,rfl⟩:=h;refine⟨e,⟨he,?_⟩,rfl⟩;unfold Region.binds at hb⊢;revert hb;cases e.ground<;>simp
 ·cases h
def sO(ops:Array Oper)(D:List (Nat×Nat))(T is:List Nat):Bool:=
 (!Region.departs ops||UY .gc ops (UX .gc ops ops.size []))&&(List.range ops.size).all (λi=>(tF .text ops i).all (· <i))&&D.all (λp=>iF ops p.2==some p.1)&&
 (List.range ops.size).all (λi=>match iF ops i with|some s=>G3 D s==some i|none=>true)&&
 (List.range ops.size).all (λi=>is.contains i||T.contains i)&&is.all (λi=> !T.contains i&&decide (i<ops.size))&&T.all (λi=>decide (i<ops.size))&&lY T
theorem Sp{D:List (Nat×Nat)}{s w:Nat}(h:G3 D s=some w):(s,w)∈D:=by
 induction D with
 |nil=>cases h
 |cons p D ih=>
  obtain⟨s',w'⟩:=p;unfold G3 at h;split at h
  ·rename_i e;cases h;subst e;exact iI ..
  ·exact gu _ (ih h)
theorem JN{S:List SE}{pre:List Nat}{s:Nat}{v:Value}(h:Wo S pre s=some v):∃ x∈S,x.t=s/\x.v=v/\x.i∈pre:=by
 induction S with
 |nil=>cases h
 |cons x S ih=>
  unfold Wo at h;split at h
  ·split at h
   ·rename_i e1 e2;cases h;exact⟨x,iI ..,e1,rfl,by simpa using e2⟩
   ·obtain⟨y,hy,z⟩:=ih h;exact⟨y,gu _ hy,z⟩
  ·obtain⟨y,hy,z⟩:=ih h;exact⟨y,gu _ hy,z⟩
theorem JO{S:List SE}{s:Nat}{v:Value}(h:M9 S s=some v):∃ x∈S,x.t=s/\x.v=v:=by
 induction S with
 |nil=>cases h
 |cons x S ih=>
  unfold M9 at h;split at h
  ·rename_i e1;cases h;exact⟨x,iI ..,e1,rfl⟩
  ·obtain⟨y,hy,z⟩:=ih h;exact⟨y,gu _ hy,z⟩
theorem EM{S:List SE}{s:Nat}(h:M9 S s=none):∀ x∈S,x.t≠s:=by
 induction S with
 |nil=>intro x hx;cases hx
 |cons y S ih=>
  unfold M9 at h;split at h
  ·cases h
  ·rename_i e1;intro x hx;rcases gq.1 hx with rfl|hx
   ·exact e1
   ·exact ih h x hx
theorem ly{ops:Array Oper}{f i j:Nat}(h:reach ops (f+1) i j=true):i=j\/∃ m∈A9 ops i,reach ops f m j=true:=by simpa only[reach,AP,Ej,nC]using h
theorem gI{ops:Array Oper}{L:Nat->Prop}(hc:∀ w,L w->∀ j∈A9 ops w,L j):∀ (f i j:Nat),reach ops f i j=true->L i->L j
 |0,i,j,h,hl=>by simp[reach]at h;subst h;exact hl
 |f+1,i,j,h,hl=>by
  simp only[reach,AP,Ej,nC]at h;rcases h with rfl|⟨m,hm,h⟩
  ·exact hl
  ·exact gI hc f m j h (hc i hl m hm)
structure Bb(ops:Array Oper)(D:List (Nat×Nat))(T is:List Nat):Prop where
 prog:∀ md (L:Nat->Bool),(∃ i,i<ops.size/\L i=false)->∃ i,i<ops.size/\L i=false/\∀ j∈tF md ops i,L j=true
 down:∀ i,i<ops.size->∀ j∈A9 ops i,j<i
 d1:∀ s w,G3 D s=some w->iF ops w=some s
 d2:∀ i s,iF ops i=some s->G3 D s=some i
 Z8:∀ i,i<ops.size->i∈is\/i∈T
 Z9:∀ i∈is,i∉T/\i<ops.size
 Tlt:∀ i∈T,i<ops.size
 nd:lY T=true
theorem JP:∀ {l:List Oper} {i:Nat} {o:Oper},Sj l i=some o->i<l.length
 |[],_,_,h=>by cases h
 |_::_,0,_,_=>by simp
 |_::l,i+1,_,h=>by have:=JP (l:=l) h;simp;omega
theorem mU{ops:Array Oper}{i s:Nat}(h:iF ops i=some s):i<ops.size:=by
 unfold iF at h;cases e:aZ ops i with
 |none=>rw[e]at h;cases h
 |some o=>have:=JP e;simpa using this
section
variable{P:bR}{ao:Bool}{B:j9}{R:Nat->aQ->Array Obj->Prop}{d:Nat}{fn:bM}{kd:Kd}{n:Nat}{ds:List dW}{ops:Array Oper}{k:List Item}{cs:List Frame}{e0:Nat->Value}{D:List (Nat×Nat)}{W lr:List HP}{T is:List Nat}{a:Nat}{S:List SE}
structure UZ(R:Nat->aQ->Array Obj->Prop)(d:Nat)(fn:bM)(kd:Kd)(n:Nat)(ds:List dW)(ops:Array Oper)(k:List Item)(cs:List Frame)(e0:Nat->Value)(D:List (Nat×Nat))(W lr:List HP)(T is:List Nat)(a:Nat)(S:List SE)(L:Nat->Prop)(e:Nat->Value)(K:List SE)(Td T' Ts:List Nat)(As:List HP):Prop where
 v1:∀ x∈K++S,L x.i->e x.t=x.v
 v2:∀ s,G3 D s=none->e s=e0 s
 v3:∀ s w,G3 D s=some w->¬ L w->e s=e0 s
 cl:∀ w,L w->∀ j∈A9 ops w,L j
 tt:T.Perm (Td++(T'++Ts))
 td:∀ t∈Td,L t
 tn:∀ t∈T',¬ L t
 lk:∀ x∈K++S,iF ops x.i=some x.t
 ka:∀ t∈Td,∀ s,iF ops t=some s->∃ x∈K,x.t=s
 ki:∀ x∈K,x.i∈Td
 sS:∀ x∈S,(x.i∈is\/x.i∈Ts)/\∃ Sx,(∀ y∈Sx,y∈K++S)/\Y2 R d fn kd n ds ops k cs e0 D W Sx x
 sI:∀ i,i∈is\/i∈Ts->∃ x∈S,x.i=i
 sL:∀ x∈S,x.ld=true->(T.filter λt=> !reach ops 8 t x.i).length<=a
 sU:∀ x∈S,∀ y∈S,x.i=y.i->x=y
 ch:Ch R d fn kd n ds ops k cs e0 D W T'.length S T' (a-Td.length) K As
 aS:Td.length<=a->Ext As W
theorem UZ.env{L:Nat->Prop}{e:Nat->Value}{K:List SE}{Td T' Ts:List Nat}{As:List HP}(h:UZ R d fn kd n ds ops k cs e0 D W lr T is a S L e K Td T' Ts As){i:Nat}(hi:¬ L i)(hr:∀ j∈A9 ops i,L j){S':List SE}(hS:∀ x∈S',x∈K++S):mz e0 D ops i S' e=e:=by
 funext s
 unfold mz;cases h1:Wo S' (A9 ops i) s with
 |some v=>
  obtain⟨x,hx,rfl,rfl,hp⟩:=JN h1;exact(h.v1 x (hS x hx) (hr _ hp)).symm
 |none=>
  simp only;cases h2:G3 D s with
  |none=>exact(h.v2 s h2).symm
  |some w=>
   simp only;split
   ·rename_i hc;have OS:i∈A9 ops w:=by simpa using hc
    exact(h.v3 s w h2 λhl=>hi (h.cl w hl i OS)).symm
   ·rfl
def vO(f:Nat->Bool):Nat->Nat
 |0=>0
 |m+1=>vO f m+(if f m then 0 else 1)
theorem qJ{f:Nat->Bool}:∀ {m:Nat},vO f m=0->∀ i,i<m->f i=true
 |0,_,i,hi=>by omega
 |m+1,h,i,hi=>by
  unfold vO at h;by_cases e:i=m
  ·subst e;by_cases hf:f i=true
   ·exact hf
   ·simp[hf]at h
  ·exact qJ (m:=m) ak i ak
theorem uM{f f':Nat->Bool}{i:Nat}(h1:f i=false)(h2:f' i=true)(h3:∀ j,j≠i->f' j=f j):∀ {m:Nat},(i<m->vO f' m+1=vO f m)/\(m<=i->vO f' m=vO f m)
 |0=>⟨λh=>by omega,λ_=>rfl⟩
 |m+1=>by
  have ih:=uM h1 h2 h3 (m:=m);refine⟨λh=>?_,λh=>?_⟩
  ·unfold vO;by_cases e:i=m
   ·subst e;rw[ih.2 (fI _),h1,h2];simp
   ·have:=ih.1 ak;rw[h3 m (i3 e)];omega
  ·unfold vO;rw[ih.2 ak,h3 m ak]
theorem iM{f:Nat->Bool}:∀ {m:Nat},vO f m≠0->∃ i,i<m/\f i=false/\∀ j,j<i->f j=true
 |0,h=>absurd rfl h
 |m+1,h=>by
  by_cases e:vO f m=0
  ·refine⟨m,ak,?_,λj hj=>qJ e j hj⟩;by_cases hf:f m=true
   ·unfold vO at h;simp[e,hf]at h
   ·simpa using hf
  ·obtain⟨i,h1,h2⟩:=iM e;exact⟨i,ak,h2⟩
theorem tG{ops:Array Oper}{md:Region.Mode}(hd:∀ i,i<ops.size->∀ j∈tF md ops i,j<i)(L:Nat->Bool)(h:∃ i,i<ops.size/\L i=false):∃ i,i<ops.size/\L i=false/\∀ j∈tF md ops i,L j=true:=by obtain⟨q,hq,hL⟩:=h;obtain⟨i,h1,h2,h3⟩:=iM (f:=L) (m:=ops.size) (λz=>by rw[qJ z q hq]at hL;cases hL);exact⟨i,h1,h2,λj hj=>h3 j (hd i h1 j hj)⟩
theorem uN{ops:Array Oper}{md:Region.Mode}{i j:Nat}:j∈tF md ops i↔∃ o,aZ ops i=some o/\∃ e∈o.after,Region.binds md e=true/\e.on=j:=by
 unfold tF;constructor
 ·intro h;split at h
  ·rename_i o ho;simp only[bL,iU,Ck]at h;obtain⟨e,⟨he,hb⟩,rfl⟩:=h;exact⟨o,ho,e,he,hb,rfl⟩
  ·cases h
 ·rintro⟨o,ho,e,he,hb,rfl⟩;rw[ho];simp only[bL,iU,Ck];exact⟨e,⟨he,hb⟩,rfl⟩
theorem uO{ops:Array Oper}{D:List (Nat×Nat)}{T is:List Nat}(h:sO ops D T is=true):Bb ops D T is:=by
 simp only[sO,j8,Ek,k9,mM,AP,List.contains_iff_mem,nD,Ej]at h;obtain⟨⟨⟨⟨⟨⟨⟨h1,h2⟩,h3⟩,h4⟩,h5⟩,h6⟩,h7⟩,h8⟩:=h;have Ao:∀ i,i<ops.size->∀ j∈tF .any ops i,j<i:=λi hi j hj=>h2 i hi j (xM (by exact hj));refine⟨λmd L hex=>?_,λi hi j hj=>h2 i hi j (xM hj),λs w e=>h3 (s,w) (Sp e),λi s e=>?_,h5,λi hi=>?_,h7,h8⟩
 ·cases md with
  |text=>exact tG h2 L hex
  |any=>exact tG Ao L hex
  |gc=>
   rcases h1 with h1|h1
   ·refine tG (λi hi j hj=>?_) L hex;obtain⟨o,ho,e,he,hb,rfl⟩:=uN.1 hj;refine Ao i hi _ (uN.2 ⟨o,ho,e,he,?_,rfl⟩);unfold Region.departs at h1;rw[Array.any_eq_false]at h1;have hn:ops[i]? =some o:=by rw[dw];exact ho
    rw[D2 hi]at hn;have:=h1 i hi;rw[bY hn]at this;cases hz:Region.binds .any e with
    |true=>rfl
    |false=>
     obtain⟨q,hq,rfl⟩:=ZB.1 he;exact absurd (Array.any_eq_true.2 ⟨q,hq,by simp[hz]⟩) this
   ·simp only[UY,j8,k9,mM,nD]at h1;obtain⟨⟨c1,c2⟩,c3⟩:=h1;obtain⟨q,hq,hL⟩:=hex;obtain⟨i,hi,Ap⟩:=Ba (L:=L) c3 (λj hj=>by cases hj) ⟨q,by have:=c1 q hq;simpa using this,hL⟩;exact⟨i,c2 i hi,Ap⟩
 ·have:=h4 i (mU e);rw[e]at this;simpa using this
 ·have:=h6 i hi;exact⟨by have:=this.1;simpa using this,this.2⟩
theorem rO{md:Region.Mode}{listed:Array Bool}{i:Nat}(dI:i<ops.size):(((ops[i]?).map (·.after.all λe=> !Region.binds md e||listed.getD e.on false)).getD false)=true↔∀ j∈tF md ops i,listed[j]?.getD false=true:=by
 have ho:ops[i]? =some ops[i]:=D2 dI;have hn:aZ ops i=some ops[i]:=by rw[<- dw];exact ho
 rw[ho];simp only[lJ,kt,Array.all_eq_true];constructor
 ·intro h j hj;obtain⟨o,Rx,e,he,hb,rfl⟩:=uN.1 hj;rw[hn]at Rx;obtain rfl:=bY Rx;obtain⟨q,hq,rfl⟩:=ZB.1 he;have:=h q hq;rw[hb]at this;simpa[Array.getD_eq_getD_getElem?]using this
 ·intro h q hq;cases hb:Region.binds md (ops[i]).after[q]with
  |false=>simp
  |true=>
   have:=h _ (uN.2 ⟨_,hn,_,Array.getElem_mem hq,hb,rfl⟩);simp[Array.getD_eq_getD_getElem?,this]
theorem nJ(md:Region.Mode)(ops:Array Oper)(fuel t:Nat)(listed:Array Bool)(i:Nat):Region.linearise.go md ops fuel t listed [i]=i::Region.linearise.go md ops fuel t listed []:=by rw[linearise_go_acc md ops fuel t listed [i]];rfl
theorem xN{listed:Array Bool}{i:Nat}(hi:i<listed.size)(j:Nat):(listed.setIfInBounds i true)[j]?.getD false=if j=i then true else listed[j]?.getD false:=by
 by_cases e:j=i
 ·subst e;rw[j4 hi];simp
 ·rw[gC (i3 e)];simp[e]
theorem qK{a:Nat}{l:List Nat}(h:lY (a::l)=true):a∉l/\lY l=true:=by simp only[lY,j8,Ek]at h;exact⟨by have:=h.1;simpa using this,h.2⟩
theorem rP:∀ {l:List Nat},lY l=true->l.Nodup
 |[],_=>NF
 |a::l,h=>sf.2 ⟨(qK h).1,rP (qK h).2⟩
theorem uP(rg:Bb ops D T is){i j s:Nat}(h1:iF ops i=some s)(h2:iF ops j=some s):i=j:=by have:=(rg.d2 i s h1).symm.trans (rg.d2 j s h2);exact bY this
theorem UZ.norm(rg:Bb ops D T is){L:Nat->Prop}{e:Nat->Value}{K:List SE}{Td:List Nat}{As:List HP}:∀ (m:Nat) {S:List SE} {T' Ts:List Nat},T'.length=m->UZ R d fn kd n ds ops k cs e0 D W lr T is a S L e K Td T' Ts As->
  ∃ S' T2 Ts',UZ R d fn kd n ds ops k cs e0 D W lr T is a S' L e K Td T2 Ts' As/\(∀ f,T2.length=f+1->(∀ t∈CD ops T2,Nd R d fn kd n ds ops k cs e0 D W S' (λK As=>Ch R d fn kd n ds ops k cs e0 D W f S' (T2.erase t) (a-Td.length-1) K As) t (a-Td.length) K As)\/
   (∃ t,T2=[t]/\(∃ o,aZ ops t=some o/\o.dst=none)/\((List.range ops.size).all λi=>i==t||reach ops 8 t i)=true/\At R d As (gr fn kd n (pS e0 (K++S')) ds (.inRegion ops [t]::k) cs)))
 |0,S,T',Ts,hm,st=>⟨S,T',Ts,st,λf hf=>by omega⟩
 |m+1,S,T',Ts,hm,st=>by
  have nX:=st.ch;rw[hm]at nX;rcases nX with nX|⟨i,hi,t,v,ob,nX⟩|nX
  ·exact⟨S,T',Ts,st,λf hf=>by obtain rfl:f=m:=ak;exact .inl nX⟩
  rotate_left
  ·exact⟨S,T',Ts,st,λf hf=>.inr nX⟩
  ·have U0:T'.Perm (i::T'.erase i):=NG hi;have hlen:(T'.erase i).length=m:=by have:=U0.length_eq;simp only[jd]at this;omega
   have lP:(Td++(T'++Ts)).Nodup:=st.tt.nodup_iff.1 (rP rg.nd);have hTi:i∈T:=st.tt.mem_iff.2 (jN _ (kC _ hi));have Ry:∀ y∈S,y.i≠i:=λy hy e=>by
    rcases(st.sS y hy).1 with h|h
    ·exact(rg.Z9 _ h).1 (e▸hTi)
    ·exact(iC.1 (iC.1 lP).2.1).2.2 i hi y.i h e.symm
   have oL:iF ops i=some t:=by obtain⟨⟨o,ho,hd⟩,_⟩:=ob;unfold iF;rw[ho];exact hd
   refine UZ.norm rg m (Ts:=i::Ts) hlen ⟨λx hx hL=>?_,st.v2,st.v3,st.cl,?_,st.td,λu hu=>st.tn u (List.mem_of_mem_erase hu),λx hx=>?_,st.ka,st.ki,λx hx=>?_,λj hj=>?_,λx hx Y3=>?_,λx hx y hy e=>?_,by rw[hlen];exact nX,st.aS⟩
   ·rcases cg.1 hx with hx|hx
    ·exact st.v1 x (kC _ hx) hL
    ·rcases gq.1 hx with rfl|hx
     ·exact absurd hL (st.tn _ hi)
     ·exact st.v1 x (jN _ hx) hL
   ·exact st.tt.trans (List.Perm.append_left _ ((U0.append_right Ts).trans (by simp only[iT];exact Jk.symm)))
   ·rcases cg.1 hx with hx|hx
    ·exact st.lk x (kC _ hx)
    ·rcases gq.1 hx with rfl|hx
     ·exact oL
     ·exact st.lk x (jN _ hx)
   ·rcases gq.1 hx with rfl|hx
    ·exact⟨.inr (iI ..),K++S,λy hy=>(cg.1 hy).elim (λh=>kC _ h) (λh=>jN _ (gu _ h)),ob⟩
    ·obtain⟨h1,Sx,h2,h3⟩:=st.sS x hx;exact⟨h1.imp_right (gu _),Sx,λy hy=>(cg.1 (h2 y hy)).elim (λh=>kC _ h) (λh=>jN _ (gu _ h)),h3⟩
   ·have:j=i\/(j∈is\/j∈Ts):=by
     rcases hj with h|h
     ·exact .inr (.inl h)
     ·rcases gq.1 h with h|h
      ·exact .inl h
      ·exact .inr (.inr h)
    rcases this with rfl|h
    ·exact⟨_,iI ..,rfl⟩
    ·obtain⟨x,hx,e⟩:=st.sI j h;exact⟨x,gu _ hx,e⟩
   ·rcases gq.1 hx with rfl|hx
    ·cases Y3
    ·exact st.sL x hx Y3
   ·rcases gq.1 hx with rfl|hx<;>rcases gq.1 hy with rfl|hy
    ·rfl
    ·exact absurd e.symm (Ry y hy)
    ·exact absurd e (Ry x hx)
    ·exact st.sU x hx y hy e
theorem vP{md:Region.Mode}(rg:Bb ops D T is):
  ∀ (fuel t:Nat) (listed:Array Bool) (e:Nat->Value) (S:List SE) (K:List SE) (Td T' Ts:List Nat) (As:List HP),listed.size=ops.size->vO (λi=>listed[i]?.getD false) ops.size=fuel->UZ R d fn kd n ds ops k cs e0 D W lr T is a S (λi=>listed[i]?.getD false=true) e K Td T' Ts As->
   At R d As (gr fn kd n e ds (.inRegion ops (Region.linearise.go md ops fuel t listed [])::k) cs):=by
 intro fuel
 induction fuel with
 |zero=>
  intro t listed e S K Td T' Ts As hsz hu st;have je:=qJ hu;have hT':T'=[]:=by
   cases T' with
   |nil=>rfl
   |cons x l=>exact absurd (je x (rg.Tlt x (st.tt.mem_iff.2 (jN _ (kC _ (iI ..)))))) (st.tn x (iI ..))
  subst hT';simp only[Region.linearise.go,Em];have he:e=pS e0 (K++S):=by
   funext s
   unfold pS;cases h1:M9 (K++S) s with
   |some v=>
    obtain⟨x,hx,rfl,rfl⟩:=JO h1;exact st.v1 x hx (je _ (mU (st.lk x hx)))
   |none=>
    simp only;have pQ:=EM h1;cases h2:G3 D s with
    |none=>exact st.v2 s h2
    |some w=>
     have hd:=rg.d1 s w h2;have hwc:(w∈is\/w∈Ts)\/w∈Td:=by
      rcases rg.Z8 w (mU hd)with hw|hw
      ·exact .inl (.inl hw)
      ·rcases cg.1 (st.tt.mem_iff.1 hw)with hw|hw
       ·exact .inr hw
       ·exact .inl (.inr (by simpa using hw))
     rcases hwc with hw|hw
     ·obtain⟨x,hx,rfl⟩:=st.sI w hw;have:=st.lk x (jN _ hx);rw[hd]at this;exact absurd (bY this).symm (pQ x (jN _ hx))
     ·obtain⟨x,hx,Wk⟩:=st.ka w hw s hd;exact absurd Wk (pQ x (kC _ hx))
  rw[he];exact st.ch
 |succ fuel ih=>
  intro t listed e S K Td T' Ts As hsz hu st0;obtain⟨S,T',Ts,st,adL⟩:=st0.norm rg _ rfl;have qc:∀ i,i∈((List.range ops.size).filter λi=> !listed.getD i true&&((ops[i]?).map (·.after.all λe=> !Region.binds md e||listed.getD e.on false)).getD false)↔i<ops.size/\listed[i]?.getD false=false/\∀ j∈tF md ops i,listed[j]?.getD false=true:=by
   intro i;simp only[iU,mM,j8,Ek];constructor
   ·rintro⟨h1,h2,h3⟩;refine⟨h1,?_,(rO h1).1 h3⟩;have:i<listed.size:=ak;simpa[Array.getD_eq_getD_getElem?,this]using h2
   ·rintro⟨h1,h2,h3⟩;refine⟨h1,?_,(rO h1).2 h3⟩;have:i<listed.size:=ak;simpa[Array.getD_eq_getD_getElem?,this]using h2
  simp only[Region.linearise.go];generalize hG:((List.range ops.size).filter λi=> !listed.getD i true&&((ops[i]?).map (·.after.all λe=> !Region.binds md e||listed.getD e.on false)).getD false)=rs at qc;obtain⟨i1,xm,K5,_⟩:=iM (f:=λi=>listed[i]?.getD false) (m:=ops.size) (by rw[hu];omega);obtain⟨i0,EB,Sq,Hx⟩:=rg.prog md (λi=>listed[i]?.getD false) ⟨i1,xm,K5⟩;have eL:rs.length≠0:=by have:i0∈rs:=(qc i0).2 ⟨EB,Sq,Hx⟩;intro z;rw[Ad]at z;rw[z]at this;cases this
  have OT:t%rs.length<rs.length:=En _ ak;rw[fp OT];simp only;generalize cG:rs[t%rs.length]=i;have eT:i∈rs:=by rw[<- cG];exact bC OT
  obtain⟨dI,xG,Wp⟩:=(qc i).1 eT;have i9:∀ j∈A9 ops i,listed[j]?.getD false=true:=λj hj=>Wp j (xM hj);have Hy:Region.linearise.go md ops fuel (t/rs.length) (listed.setIfInBounds i true) [i]=i::Region.linearise.go md ops fuel (t/rs.length) (listed.setIfInBounds i true) []:=nJ md ops fuel (t/rs.length) (listed.setIfInBounds i true) i;rw[Hy];have tw:(listed.setIfInBounds i true).size=ops.size:=by simpa using hsz
  have Ai:i<listed.size:=ak;have oM:=xN (listed:=listed) Ai;have JQ:vO (λj=>(listed.setIfInBounds i true)[j]?.getD false) ops.size=fuel:=by have:=(uM (f:=λj=>listed[j]?.getD false) (f':=λj=>(listed.setIfInBounds i true)[j]?.getD false) (i:=i) xG (by simp[oM]) (λj hj=>by simp[oM,hj]) (m:=ops.size)).1 dI;rw[hu]at this;omega
  have Hz:¬ (listed[i]?.getD false=true):=by rw[xG];simp
  have hL:∀ j,((listed.setIfInBounds i true)[j]?.getD false=true)↔(j=i\/listed[j]?.getD false=true):=λj=>by rw[oM];by_cases e:j=i<;>simp[e]
  have lO:∀ w,(listed.setIfInBounds i true)[w]?.getD false=true->∀ j∈A9 ops w,(listed.setIfInBounds i true)[j]?.getD false=true:=λw hw j hj=>by
   rw[hL]at hw⊢;rcases hw with rfl|hw
   ·exact .inr (i9 j hj)
   ·exact .inr (st.cl w hw j hj)
  have lP:(Td++(T'++Ts)).Nodup:=st.tt.nodup_iff.1 (rP rg.nd);have adM:(i∈is\/i∈Ts)\/i∈T':=by
   rcases rg.Z8 i dI with jE|jE
   ·exact .inl (.inl jE)
   ·rcases cg.1 (st.tt.mem_iff.1 jE)with h|h
    ·exact absurd (st.td i h) Hz
    ·rcases cg.1 h with h|h
     ·exact .inr h
     ·exact .inl (.inr h)
  have Wq:∀ j,(j∈is\/j∈Ts)->j∉Td/\j∉T':=λj hj=>by
   rcases hj with hj|hj
   ·have:=(rg.Z9 j hj).1;exact⟨λh=>this (st.tt.mem_iff.2 (kC _ h)),λh=>this (st.tt.mem_iff.2 (jN _ (kC _ h)))⟩
   ·obtain⟨_,n2,n3⟩:=iC.1 lP;exact⟨λh=>n3 j h j (jN _ hj) rfl,λh=>(iC.1 n2).2.2 j h j hj rfl⟩
  rcases adM with jE|jE
  ·
   obtain⟨x,hx,rfl⟩:=st.sI i jE;obtain⟨_,Sx,hSx,ob⟩:=st.sS x hx;have HA:iF ops x.i=some x.t:=st.lk x (jN _ hx);have K6:=st.env Hz i9 (S':=Sx) λy hy=>hSx y hy;have hA:x.ld=true->Ext As W:=λY3=>by
    rcases oq a Td.length with dI|YO
    ·exfalso;have tv:∀ t∈Td,(!reach ops 8 t x.i)=true:=λt ht=>by
      cases hr:reach ops 8 t x.i with
      |false=>rfl
      |true=>exact absurd (gI st.cl 8 t x.i hr (st.td t ht)) Hz
     have h1:=st.sL x hx Y3;have h2:(T.filter λt=> !reach ops 8 t x.i).length=((Td++(T'++Ts)).filter λt=> !reach ops 8 t x.i).length:=(st.tt.filter _).length_eq;rw[nE,List.filter_eq_self.2 tv,ji]at h2;omega
    ·exact st.aS YO
   have key:=ob.2 As e (Region.linearise.go md ops fuel (t/rs.length) (listed.setIfInBounds x.i true) []) hA;rw[K6]at key;refine key (ih _ _ _ S K Td T' Ts As tw JQ ⟨λy hy Wr=>?_,λs h2=>?_,λs w h2 hw=>?_,lO,st.tt,λt ht=>(hL t).2 (.inr (st.td t ht)),λt ht hLt=>?_,st.lk,st.ka,st.ki,st.sS,st.sI,st.sL,st.sU,st.ch,st.aS⟩)
   ·by_cases OU:y.i=x.i
    ·have YQ:y=x:=by
      rcases cg.1 hy with hy|hy
      ·exact absurd (OU▸st.ki y hy) (Wq _ jE).1
      ·exact st.sU y hy x hx OU
     subst YQ;simp[put]
    ·have Ws:listed[y.i]?.getD false=true:=((hL _).1 Wr).resolve_left OU;have hyt:y.t≠x.t:=λe=>OU (uP rg (st.lk y hy) (e▸HA));simp only[put,aq hyt];exact st.v1 y hy Ws
   ·have:s≠x.t:=λe=>by subst e;rw[rg.d2 _ _ HA]at h2;cases h2
    simp only[put,aq this];exact st.v2 s h2
   ·have:s≠x.t:=λe=>by subst e;rw[rg.d2 _ _ HA]at h2;exact hw ((hL w).2 (.inl (bY h2).symm))
    simp only[put,aq this];exact st.v3 s w h2 λh=>hw ((hL w).2 (.inr h))
   ·rcases(hL t).1 hLt with rfl|h
    ·exact(Wq _ jE).2 ht
    ·exact st.tn t ht h
  ·
   have JR:i∈T':=jE;have adO:T'.Nodup:=(iC.1 (iC.1 lP).2.1).1;have aab:i∈CD ops T':=by
    unfold CD;refine iU.2 ⟨JR,k9.2 λu hu=>?_⟩;by_cases G4:u=i
    ·simp[G4]
    ·cases hr:reach ops 8 i u with
     |false=>simp
     |true=>
      rcases ly (f:=7) hr with hr|⟨m,hm,hr⟩
      ·exact absurd hr.symm G4
      ·exact absurd (gI st.cl 7 m u hr (i9 m hm)) (st.tn u hu)
   obtain⟨b,hb⟩:∃ b,b=T'.erase i:=⟨_,rfl⟩;have U0:T'.Perm (i::b):=by rw[hb];exact NG JR
   have aac:T'.length=b.length+1:=by rw[U0.length_eq];rfl
   have Om:i∉b:=by rw[hb];exact adO.not_mem_erase
   rcases adL _ aac with nX|⟨t1,Y4,⟨o,ho,hod⟩,je,nX⟩
   rotate_left
   ·obtain rfl:i=t1:=by rw[Y4]at JR;exact dN.1 JR
    have aad:∀ j,j<ops.size->j≠i->listed[j]?.getD false=true:=λj hj eL=>by
     have h1:=k9.1 je j (mM.2 hj);have h2:reach ops 8 i j=true:=by simpa[eL]using h1
     rcases ly (f:=7) h2 with h3|⟨m,hm,h3⟩
     ·exact absurd h3.symm eL
     ·exact gI st.cl 7 m j h3 (i9 m hm)
    have Sq:fuel=0:=by
     rw[<- JQ];rcases Nu (vO (λj=>(listed.setIfInBounds i true)[j]?.getD false) ops.size)with h1|h1
     ·exact h1
     ·obtain⟨j,hj,hfj,_⟩:=iM (f:=λj=>(listed.setIfInBounds i true)[j]?.getD false) (NH.1 h1);exfalso;have:(listed.setIfInBounds i true)[j]?.getD false=true:=(hL j).2 (by
       by_cases e:j=i
       ·exact .inl e
       ·exact .inr (aad j hj e))
      rw[this]at hfj;cases hfj
    subst Sq;simp only[Region.linearise.go,Em];have he:e=pS e0 (K++S):=by
     funext s
     unfold pS;cases h1:M9 (K++S) s with
     |some v=>
      obtain⟨x,hx,rfl,rfl⟩:=JO h1;refine st.v1 x hx (aad _ (mU (st.lk x hx)) λz=>?_);have:=st.lk x hx;rw[z]at this;unfold iF at this;rw[ho]at this;simp only at this;rw[hod]at this;cases this
     |none=>
      simp only;have pQ:=EM h1;cases h2:G3 D s with
      |none=>exact st.v2 s h2
      |some w=>
       have hd:=rg.d1 s w h2;have hwi:w≠i:=λz=>by unfold iF at hd;rw[z,ho]at hd;simp only at hd;rw[hod]at hd;cases hd
       have hwc:(w∈is\/w∈Ts)\/w∈Td:=by
        rcases rg.Z8 w (mU hd)with hw|hw
        ·exact .inl (.inl hw)
        ·rcases cg.1 (st.tt.mem_iff.1 hw)with hw|hw
         ·exact .inr hw
         ·rcases cg.1 hw with hw|hw
          ·rw[Y4]at hw;exact absurd (dN.1 hw) hwi
          ·exact .inl (.inr hw)
       rcases hwc with hw|hw
       ·obtain⟨x,hx,rfl⟩:=st.sI w hw;have:=st.lk x (jN _ hx);rw[hd]at this;exact absurd (bY this).symm (pQ x (jN _ hx))
       ·obtain⟨x,hx,Wk⟩:=st.ka w hw s hd;exact absurd Wk (pQ x (kC _ hx))
    rw[he];exact nX
   have nX:=nX i aab;rw[<- hb]at nX;have K6:=st.env Hz i9 (S':=K++S) λy hy=>hy;have aae:∀ y∈K++S,y.i≠i:=λy hy e=>by
    rcases cg.1 hy with hy|hy
    ·exact Hz (e▸st.td _ (st.ki y hy))
    ·exact(Wq _ (st.sS y hy).1).2 (e▸jE)
   have htn:∀ t∈b,¬ (listed.setIfInBounds i true)[t]?.getD false=true:=λu hu hLu=>by
    rcases(hL u).1 hLu with rfl|h
    ·exact Om hu
    ·exact st.tn u (U0.mem_iff.2 (gu _ hu)) h
   have htt:T.Perm (Td++[i]++(b++Ts)):=by refine st.tt.trans ?_;rw[qw];exact(U0.append_right Ts).append_left Td
   have EN:∀ (o:Oper),aZ ops i=some o->∀ aO v,((Td++[i]).length<=a->Ext aO W)->Ch R d fn kd n ds ops k cs e0 D W b.length S b (a-(Td++[i]).length) (match o.dst with|some s=>⟨i,s,v,false⟩::K|none=>K) aO->
     At R d aO (gr fn kd n (di e o.dst v) ds (.inRegion ops (Region.linearise.go md ops fuel (t/rs.length) (listed.setIfInBounds i true) [])::k) cs):=by
    intro o ho aO v aaf kx;cases hd:o.dst with
    |none=>
     rw[hd]at kx;have Y5:iF ops i=none:=by unfold iF;rw[ho];exact hd
     refine ih _ _ _ S K (Td++[i]) b Ts aO tw JQ ⟨λy hy Wr=>?_,st.v2,λs w h2 hw=>st.v3 s w h2 λh=>hw ((hL w).2 (.inr h)),lO,htt,λu hu=>?_,htn,st.lk,λu hu s hs=>?_,λy hy=>kC _ (st.ki y hy),st.sS,st.sI,st.sL,st.sU,kx,aaf⟩
     ·exact st.v1 y hy (((hL _).1 Wr).resolve_left (aae y hy))
     ·rcases cg.1 hu with hu|hu
      ·exact(hL u).2 (.inr (st.td u hu))
      ·exact(hL u).2 (.inl (by simpa using hu))
     ·rcases cg.1 hu with hu|hu
      ·exact st.ka u hu s hs
      ·have:u=i:=by simpa using hu
       subst this;rw[Y5]at hs;cases hs
    |some s0=>
     rw[hd]at kx;have hdi:iF ops i=some s0:=by unfold iF;rw[ho];exact hd
     refine ih _ _ _ S (⟨i,s0,v,false⟩::K) (Td++[i]) b Ts aO tw JQ ⟨λy hy Wr=>?_,λs h2=>?_,λs w h2 hw=>?_,lO,htt,λu hu=>?_,htn,λy hy=>?_,λu hu s hs=>?_,λy hy=>?_,λx hx=>(by obtain⟨h1,Sx,h2,h3⟩:=st.sS x hx;exact⟨h1,Sx,λy hy=>gu _ (h2 y hy),h3⟩),st.sI,st.sL,st.sU,kx,aaf⟩
     ·rcases gq.1 hy with rfl|hy
      ·simp[di,put]
      ·have OU:=aae y hy;have hyt:y.t≠s0:=λe=>OU (uP rg (st.lk y hy) (e▸hdi));simp only[di,put,aq hyt];exact st.v1 y hy (((hL _).1 Wr).resolve_left OU)
     ·have:s≠s0:=λe=>by subst e;rw[rg.d2 _ _ hdi]at h2;cases h2
      simp only[di,put,aq this];exact st.v2 s h2
     ·have:s≠s0:=λe=>by subst e;rw[rg.d2 _ _ hdi]at h2;exact hw ((hL w).2 (.inl (bY h2).symm))
      simp only[di,put,aq this];exact st.v3 s w h2 λh=>hw ((hL w).2 (.inr h))
     ·rcases cg.1 hu with hu|hu
      ·exact(hL u).2 (.inr (st.td u hu))
      ·exact(hL u).2 (.inl (by simpa using hu))
     ·rcases gq.1 hy with rfl|hy
      ·exact hdi
      ·exact st.lk y hy
     ·rcases cg.1 hu with hu|hu
      ·obtain⟨x,hx,e⟩:=st.ka u hu s hs;exact⟨x,gu _ hx,e⟩
      ·have:u=i:=by simpa using hu
       subst this;rw[hdi]at hs;exact⟨_,iI ..,bY hs⟩
     ·rcases gq.1 hy with rfl|hy
      ·exact jN _ (iI ..)
      ·exact kC _ (st.ki y hy)
   have hlen:(Td++[i]).length=Td.length+1:=by simp
   cases hm:a-Td.length with
   |zero=>
    rw[hm]at nX;obtain⟨o,ho,nX⟩:=nX;have key:=nX e (Region.linearise.go md ops fuel (t/rs.length) (listed.setIfInBounds i true) []);rw[K6]at key;refine key λaO v kx=>EN o ho aO v (λh=>by omega) ?_;have:a-(Td++[i]).length=0-1:=ak;rw[this];exact kx
   |succ m=>
    rw[hm]at nX;obtain⟨o,ho,nX⟩:=nX;have key:=nX e (Region.linearise.go md ops fuel (t/rs.length) (listed.setIfInBounds i true) []);rw[K6]at key;refine key λaO v hx kx=>EN o ho aO v (λh=>hx.ext (st.aS ak)) ?_;have:a-(Td++[i]).length=m+1-1:=ak;rw[this];exact kx
theorem Dr.uniq:∀ (is:List Nat) (S:List SE),lY is=true->(∀ x∈S,x.i∉is)->(∀ x∈S,∀ y∈S,x.i=y.i->x=y)->Dr R d fn kd n ds ops k cs e0 D W lr T a S is->∃ S',(∀ x∈S,x∈S')/\(∀ x∈S',x∈S\/(x.i∈is/\∃ Sx,(∀ y∈Sx,y∈S')/\Y2 R d fn kd n ds ops k cs e0 D W Sx x))/\(∀ i∈is,∃ x∈S',x.i=i)/\
  (∀ x∈S',x.ld=true->(T.filter λt=> !reach ops 8 t x.i).length<=a)/\(Ext lr W/\Ch R d fn kd n ds ops k cs e0 D W T.length S' T a [] lr)/\(∀ x∈S',∀ y∈S',x.i=y.i->x=y)
 |[],S,_,_,hU,h=>by obtain⟨h1,h2⟩:=h;refine⟨S,λx hx=>hx,λx hx=>.inl hx,λi hi=>(by cases hi),λx hx Y3=>?_,h2,hU⟩;have:=k9.1 h1 x hx;rw[Y3]at this;simpa using this
 |i::is,S,hn,Ry,hU,h=>by
  obtain⟨t,v,ld,o,h⟩:=h;obtain⟨yz,hn2⟩:=qK hn;obtain⟨S',a1,a2,a3,a4,a5,a6⟩:=Dr.uniq is _ hn2 (λx hx=>by
   rcases gq.1 hx with rfl|hx
   ·exact yz
   ·exact λz=>Ry x hx (gu _ z)) (λx hx y hy e=>by
   rcases gq.1 hx with rfl|hx<;>rcases gq.1 hy with rfl|hy
   ·rfl
   ·exact absurd (gq.2 (.inl e.symm)) (Ry y hy)
   ·exact absurd (gq.2 (.inl e)) (Ry x hx)
   ·exact hU x hx y hy e) h
  refine⟨S',λx hx=>a1 x (gu _ hx),λx hx=>?_,λj hj=>?_,a4,a5,a6⟩
  ·rcases a2 x hx with hx|⟨hx,y⟩
   ·rcases gq.1 hx with rfl|hx
    ·exact .inr ⟨iI ..,S,λy hy=>a1 y (gu _ hy),o⟩
    ·exact .inl hx
   ·exact .inr ⟨gu _ hx,y⟩
  ·rcases gq.1 hj with rfl|hj
   ·exact⟨_,a1 _ (iI ..),rfl⟩
   ·exact a3 j hj
theorem mV(m i:Nat):(Array.replicate m false)[i]?.getD false=false:=by rw[Array.getElem?_replicate];split<;>rfl
theorem ab.OV(C:ab P ao B R){c:Code}(D:List (Nat×Nat))(is T:List Nat)(a:Nat)(h:Dr R d fn kd n ds (cO c) k cs e0 D W lr T a [] is)(hc:ck c=.draw:=by rfl)(hr:sO (cO c) D T is=true:=by decide+kernel)(hn:lY is=true:=by rfl):
  At R d lr (gr fn kd n e0 ds (.code c::k) cs):=by
 refine C.dr (λt=>?_) hc;have rg:=uO hr;obtain⟨S,_,a2,a3,a4,a5,a6⟩:=Dr.uniq is [] hn (λx hx=>by cases hx) (λx hx=>by cases hx) h;have a2':∀ x∈S,x.i∈is/\∃ Sx,(∀ y∈Sx,y∈S)/\Y2 R d fn kd n ds (cO c) k cs e0 D W Sx x:=λx hx=>(a2 x hx).resolve_left (by simp);have dt:∀ listed:Array Bool,listed=Array.replicate (cO c).size false->UZ R d fn kd n ds (cO c) k cs e0 D W lr T is a S (λi=>listed[i]?.getD false=true) e0 [] [] T [] lr:=λlisted hl=>by
  have pQ:∀ i,¬ (listed[i]?.getD false=true):=λi=>by subst hl;rw[mV];simp
  have oL:∀ x∈([]:List SE)++S,iF (cO c) x.i=some x.t:=λx hx=>by obtain⟨_,Sx,_,⟨o,ho,hd⟩,_⟩:=a2' x (by simpa using hx);unfold iF;rw[ho];exact hd
  exact⟨λx _ hx=>absurd hx (pQ _),λ_ _=>rfl,λ_ _ _ _=>rfl,λw hw=>absurd hw (pQ w),by rw[lK];exact .refl _,λt ht=>(by cases ht),λt _=>pQ t,oL,λt ht=>(by cases ht),λx hx=>(by cases hx),λx hx=>(by obtain⟨h1,Sx,h2,h3⟩:=a2' x hx;exact⟨.inl h1,Sx,λy hy=>by simpa using h2 y hy,h3⟩),λi hi=>a3 i (hi.resolve_right (by simp)),a4,a6,a5.2,λ_=>a5.1⟩
 have aah:∀ m,vO (λi=>(Array.replicate (cO c).size false)[i]?.getD false) m=m:=λm=>by
  induction m with
  |zero=>rfl
  |succ m ih=>
   unfold vO;rw[ih,mV];rfl
 unfold Region.schedule;split
 ·unfold Region.linearise;exact vP rg (cO c).size _ _ e0 S [] [] T [] lr (by simp) (aah _) (dt _ rfl)
 ·unfold Region.linearise;exact vP rg (cO c).size _ _ e0 S [] [] T [] lr (by simp) (aah _) (dt _ rfl)
theorem ab.drawn(C:ab P ao B R){c:Code}(D:List (Nat×Nat))(is T:List Nat)(a:Nat)(h:Dr R d fn kd n ds (cO c) k cs e0 D lr lr T a [] is)(hc:ck c=.draw:=by rfl)(hr:sO (cO c) D T is=true:=by decide+kernel)(hn:lY is=true:=by rfl):
  At R d lr (gr fn kd n e0 ds (.code c::k) cs):=C.OV D is T a h hc hr hn
end
end
section
open Go.Conc
class fM{α:Type}(f:α->List Value)(z:outParam Nat):Prop where
 len:∀ a,(f a).length=z
 one:∀ a,∀ v∈f a,fP v=true
def ax.b(s:ax):Nat:=match s.a with|some a=>a.block|none=>0
def dX{α:Type}(I:HL)(f:α->List Value)(el:aR)(s:ax)(l:List α):Prop:=
 (s=aG/\l=[])\/∃ pad,s=⟨some ⟨s.b,0,none⟩,l.length,s.cap⟩/\I s.b=some (.cells (gv f l pad) el (0,0))
theorem dX.mono{α:Type}{I I':HL}{f:α->List Value}{el:aR}{s:ax}{l:List α}(h:dX I f el s l)(hs:Sub I I'):dX I' f el s l:=
 h.imp id λ⟨pad,h1,h2⟩=>⟨pad,h1,hs _ _ h2⟩
theorem dX.nil{α:Type}(I:HL)(f:α->List Value)(el:aR):dX I f el aG []:=.inl ⟨rfl,rfl⟩
inductive dF{α:Type}(f:α->List Value)(el:aR)(s:ax)(l:List α):List HP->Prop
 |own {z:Nat} {As L:List HP}:Fo (aW f z el s l) As L->dF f el s l As
 |a9 {I:HL} {As L:List HP}:Fo (a9 I) As L->dX I f el s l->dF f el s l As
 |ext {As lr:List HP}:Ext As lr->dF f el s l lr->dF f el s l As
section
variable{α:Type}{f:α->List Value}{el:aR}{s:ax}{l:List α}{As:List HP}{h:HL}
theorem dF.get(r:dF f el s l As)(st:Sat As h):(s=aG/\l=[])\/∃ pad,s=⟨some ⟨s.b,0,none⟩,l.length,s.cap⟩/\h s.b=some (.cells (gv f l pad) el (0,0)):=by
 induction r with
 |@own z As L fo=>
  obtain⟨hh,x,gD,_⟩:=st.perm fo.perm;rcases x with⟨rfl,rfl⟩|⟨b,pad,e,_,_,vJ⟩
  ·exact .inl ⟨rfl,rfl⟩
  ·have hb:s.b=b:=by rw[e];rfl
   refine .inr ⟨pad,by rw[hb];exact e,?_⟩;subst vJ;rw[hb];exact gD b _ (by simp[one])
 |a9 fo hi=>
  rcases hi with⟨rfl,rfl⟩|⟨pad,h1,h2⟩
  ·exact .inl ⟨rfl,rfl⟩
  ·exact .inr ⟨pad,h1,(st.perm fo.perm).pf h2⟩
 |ext e _ ih=>exact ih (e _ st)
theorem dF.at{i:Nat}(r:dF f el s l As)(st:Sat As h)(hi:i<l.length):∃ pad,s=⟨some ⟨s.b,0,none⟩,l.length,s.cap⟩/\h s.b=some (.cells (gv f l pad) el (0,0)):=by
 rcases r.get st with⟨_,rfl⟩|h
 ·simp at hi
 ·exact h
theorem dF.src{B:j9}{H:Array Obj}{z:Nat}[rf:fM f z](r:dF f el s l As)(st:Sat As (hp H))(hs:∀ j,B.sh el j=false):lj B H z l.length s.v (flat f l):=by
 rcases r.get st with⟨rfl,rfl⟩|⟨pad,h1,h2⟩
 ·exact .inl ⟨rfl,rfl,rfl⟩
 ·refine .inr ⟨s.b,0,s.cap,_,_,by rw[h1];rfl,h2,?_,?_,hs⟩
  ·rw[iY rf.len];omega
  ·have Sn:(flat f l).length=l.length*z:=eU rf.len l;rw[mL,<- Sn];simp[gv]
theorem dF.K7{B:j9}{H:Array Obj}{z:Nat}[rf:fM f z](r:dF f el s l As)(st:Sat As (hp H))(hs:∀ j,B.sh el j=false)(i m:Nat)(him:i+m<=l.length)(cap:Nat)(a:Option Addr)(ha:m≠0->a=some ⟨s.b,i*z,none⟩)(hn:m=0->a=none/\cap=0\/∃ o,a=some ⟨s.b,o,none⟩/\l≠[]/\o<=l.length*z):
  lj B H z m (.slice a m cap) (flat f ((l.drop i).take m)):=by
 rcases r.get st with⟨rfl,rfl⟩|⟨pad,h1,h2⟩
 ·have:m=0:=by simp at him;omega
  subst this;rcases hn rfl with⟨rfl,rfl⟩|⟨o,_,eL,_⟩
  ·exact .inl ⟨rfl,rfl,by simp[flat]⟩
  ·exact absurd rfl eL
 ·have Sn:(flat f l).length=l.length*z:=eU rf.len l;by_cases hm:m=0
  ·subst hm;rcases hn rfl with⟨rfl,rfl⟩|⟨o,rfl,eL,ho⟩
   ·exact .inl ⟨rfl,rfl,by simp[flat]⟩
   ·exact .inr ⟨s.b,o,cap,_,_,rfl,h2,by rw[iY rf.len];omega,by simp[flat];omega,hs⟩
  ·rw[ha hm];refine .inr ⟨s.b,i*z,cap,_,_,rfl,h2,?_,?_,hs⟩
   ·rw[iY rf.len,<- qb];have:=tu z him;omega
   ·rw[<- qb];have hlen:(l.take (i+m)).length=i+m:=by rw[iz];omega
    have e1:flat f l++pad=flat f (l.take i)++(flat f ((l.drop i).take m)++(flat f (l.drop (i+m))++pad)):=by
     have:l=l.take i++((l.drop i).take m++l.drop (i+m)):=by rw[<- NJ,wz,wz]
     conv=>lhs;rw[this,jQ,jQ]
     simp
    have e2:(flat f (l.take i)).length=i*z:=by rw[eU rf.len,iz,Ae ak]
    have e3:(flat f ((l.drop i).take m)).length=m*z:=by rw[eU rf.len,iz,uw,Ae ak]
    unfold gv;rw[e1,R1]
    congr 1
    rw[R2,qb,<- e2,List.drop_left,Nat.add_sub_cancel_left,<- e3,List.take_left]
end
section
variable{P:bR}{ao:Bool}{B:j9}{R:Nat->aQ->Array Obj->Prop}{d:Nat}{As aO L F:List HP}
variable{fn:bM}{kd:Kd}{n:Nat}{e:Nat->Value}{ds:List dW}{k:List Item}{cs:List Frame}
variable{ops:Array Oper}{i:Nat}{aa:List Nat}{dst:Option Nat}{t:Nat}{ty:aR}{pos:String}{af:Array Edge}{gd:Option (Nat×Bool)}{x y w:cU}{v u:Value}{b off:Nat}{c:Array Value}{el tt t2 t3:aR}{kk:IntKind}
theorem ab.pU(C:ab P ao B R){c:Code}{t:Bool}(h1:t=true->At R d As (gr fn kd n e ds (.code (cT c)::k) cs))(h2:t=false->At R d As (gr fn kd n e ds (.code (cE c)::k) cs))(hc:ck c=.cond:=by rfl)(hb:ev n e (cC c)=.bool t:=by rfl):At R d As (gr fn kd n e ds (.code c::k) cs):=by
 cases t with
 |true=>exact C.cT' (h1 rfl) hc hb
 |false=>exact C.cF' (h2 rfl) hc hb
theorem ab.dk(C:ab P ao B R){f:bM}{fu:Func}{c:Code}{nf:Nat}[b:Body P f fu c nf]{fo:cU}{args:Array cU}{ga:Array aR}{vl:List Value}{A:List HP}{Q:Value->List HP->Prop}(hs:aB P ao B f vl.toArray A Q)
  (h:∀ v aO,Q v aO->At R d (aO++F) (gr fn kd n (di e dst v) ds (.inRegion ops aa::k) cs))
  (ho:aZ ops i=some ⟨dst,.call ⟨.value fo,args,ga⟩,ty,pos,af,gd⟩:=by rfl) (hv:args.toList.map (ev n e)=vl:=by rfl) (hf:ev n e fo=.func (.func f) #[] #[]:=by rfl)
  (hr:dJ A As F:=by exact dJ.au) (hw:aN ops n e gd=true:=by rfl):Nw R d As fn kd n e ds ops i aa k cs:=
 At.perm hr.perm (C.cl hs h ho hw hf hv)
theorem ab.U1(C:ab P ao B R){f:bM}{fu:Func}{c:Code}{nf:Nat}[b:Body P f fu c nf]{fo:cU}{args:Array cU}{ga:Array aR}{a1 a2:Array Value}{vl:List Value}{A:List HP}{Q:Value->List HP->Prop}(hs:aB P ao B f (a1++vl.toArray++a2) A Q)
  (h:∀ v aO,Q v aO->At R d (aO++F) (gr fn kd n (di e dst v) ds (.inRegion ops aa::k) cs))
  (ho:aZ ops i=some ⟨dst,.call ⟨.value fo,args,ga⟩,ty,pos,af,gd⟩:=by rfl) (hv:args.toList.map (ev n e)=vl:=by rfl) (hf:ev n e fo=.func (.func f) a1 a2:=by rfl)
  (hr:dJ A As F:=by exact dJ.au) (hw:aN ops n e gd=true:=by rfl):Nw R d As fn kd n e ds ops i aa k cs:=by
 refine At.perm hr.perm (C.gen ho hw λH s=>?_);unfold execOp;simp only;refine ah ?_;have tC:args.map (ev n e)=vl.toArray:=by rw[<- hv,<- qv,ts]
 simp only[resolve,hf,Deferred.ofValue,tC];refine ah ?_;show dC P B _ _ _ _;show dC P B (invoke (.fn (.func f) a2) (a1++vl.toArray)) H d _;unfold invoke;refine nF (P:=P) _ B H d _ ⟨A++F,s,?_⟩;exact hs R C .pR d F _ cs trivial λv aO q=>by show At R d (aO++F) (e8 _ cs v);rw[oH ho];exact h v aO q
section
variable{α:Type}{f:α->List Value}{z:Nat}{s:ax}{l:List α}{j o:Nat}
theorem ab.mW(C:ab P ao B R)[cE:El P tt el](ho:aZ ops i=some ⟨some t,.call ⟨.builtin .len,#[x],#[tt]⟩,ty,pos,af,gd⟩)(h:Nx R d As fn kd n e ds ops aa k cs t (.int .i64 l.length))
  (hx:ev n e x=s.v:=by rfl) (hr:dF f el s l As:=by first|(apply dF.own;exact Fo.au;done)|(apply dF.a9;exact Fo.au;assumption)|(apply dF.ext;assumption;apply dF.own;exact Fo.au;done)|(apply dF.ext;assumption;apply dF.a9;exact Fo.au;assumption)) (hw:aN ops n e gd=true:=by rfl):Nw R d As fn kd n e ds ops i aa k cs:=
 C.gen ho hw λH st=>by
  have hl:s.len=l.length:=by
   rcases hr.get st with⟨rfl,rfl⟩|⟨pad,h1,_⟩
   ·rfl
   ·rw[h1]
  unfold execOp;simp only[resolve];refine ah (aA ?_);simp only[Af,iJ,ml,hx];unfold invoke builtin;refine ah ?_;unfold Builtin.len_;refine ah (dE cE.h B H d _ ?_);refine aA (aA ⟨As,st,?_⟩);rw[hl];exact h
theorem ab.dT(C:ab P ao B R)[rf:fM f z][c:El P tt el][Cz P el z](ho:aZ ops i=some ⟨some t,.indexAddr tt x y,ty,pos,af,gd⟩)(h:Nx R d As fn kd n e ds ops aa k cs t (.pointer (some ⟨s.b,j*z,none⟩)))
  (hx:ev n e x=s.v:=by rfl) (hy:ev n e y=.int kk (j:Int):=by rfl) (hr:dF f el s l As:=by first|(apply dF.own;exact Fo.au;done)|(apply dF.a9;exact Fo.au;assumption)|(apply dF.ext;assumption;apply dF.own;exact Fo.au;done)|(apply dF.ext;assumption;apply dF.a9;exact Fo.au;assumption)) (hj:j<l.length:=by omega) (hw:aN ops n e gd=true:=by rfl):Nw R d As fn kd n e ds ops i aa k cs:=
 C.gen ho hw λH st=>by
  obtain⟨pad,hs,_⟩:=hr.at st hj;have jK:ev n e x=.slice (some ⟨s.b,0,none⟩) l.length s.cap:=by rw[hx];unfold ax.v;have h1:s.a=some ⟨s.b,0,none⟩:=congrArg ax.a hs;have h2:s.len=l.length:=congrArg ax.len hs;rw[h1,h2]
  unfold execOp;simp only[jK,hy,Instr.indexAt,asIntOf];refine ah (ah (aA ?_));refine ah (dE c.h B H d _ ?_);refine ah (aA ?_);refine ah (dE c.h B H d _ ?_);simp only;rw[aK ak];refine ah (ik B H d _ (aA ?_));rw[gS];refine⟨As,st,?_⟩;have:0+(j:Int).toNat*z=j*z:=by simp
  rw[this];exact h
theorem ab.vz(C:ab P ao B R)[rf:fM f z][Ag P tt false](ho:aZ ops i=some ⟨some t,.load tt x,ty,pos,af,gd⟩)(h:Nx R d As fn kd n e ds ops aa k cs t v)
  (hx:ev n e x=.pointer (some ⟨s.b,j*z+o,none⟩):=by rfl) (hr:dF f el s l As:=by first|(apply dF.own;exact Fo.au;done)|(apply dF.a9;exact Fo.au;assumption)|(apply dF.ext;assumption;apply dF.own;exact Fo.au;done)|(apply dF.ext;assumption;apply dF.a9;exact Fo.au;assumption)) (hj:j<l.length:=by omega) (hv:(f l[j])[o]? =some v:=by rfl) (hz:o<z:=by decide) (hs:B.sh el (j*z+o)=false:=by rfl) (hw:aN ops n e gd=true:=by rfl):Nw R d As fn kd n e ds ops i aa k cs:=
 C.gen ho hw λH st=>by obtain⟨pad,_,hg⟩:=hr.at st hj;unfold execOp;simp only[hx,Instr.loadAt,Instr.sureAddr];exact ah (ah (aA (gG hg ((ON rf.len hj hz rfl).trans hv) hs ⟨As,st,h⟩)))
theorem ab.dG(C:ab P ao B R)[rf:fM f z][Ag P tt false](ho:aZ ops i=some ⟨some t,.load tt x,ty,pos,af,gd⟩)(h:Nx R d As fn kd n e ds ops aa k cs t v)
  (hx:ev n e x=.pointer (some ⟨s.b,j*z,none⟩):=by rfl) (hr:dF f el s l As:=by first|(apply dF.own;exact Fo.au;done)|(apply dF.a9;exact Fo.au;assumption)|(apply dF.ext;assumption;apply dF.own;exact Fo.au;done)|(apply dF.ext;assumption;apply dF.a9;exact Fo.au;assumption)) (hj:j<l.length:=by omega) (hv:(f l[j])[0]? =some v:=by rfl) (hz:0<z:=by decide) (hs:B.sh el (j*z+0)=false:=by rfl) (hw:aN ops n e gd=true:=by rfl):Nw R d As fn kd n e ds ops i aa k cs:=
 C.vz (o:=0) ho h hx hr hj hv hz hs hw
theorem ab.lZ(C:ab P ao B R)[rf:fM f z][Ag P tt true][Cz P tt z](ho:aZ ops i=some ⟨some t,.load tt x,ty,pos,af,gd⟩)(h:∀ hj:j<l.length,Nx R d As fn kd n e ds ops aa k cs t (.agg (f l[j]).toArray))
  (hx:ev n e x=.pointer (some ⟨s.b,j*z,none⟩):=by rfl) (hr:dF f el s l As:=by first|(apply dF.own;exact Fo.au;done)|(apply dF.a9;exact Fo.au;assumption)|(apply dF.ext;assumption;apply dF.own;exact Fo.au;done)|(apply dF.ext;assumption;apply dF.a9;exact Fo.au;assumption)) (hj:j<l.length:=by omega) (hs:∀ q,B.sh el q=false:=by intro q;rfl) (hw:aN ops n e gd=true:=by rfl):Nw R d As fn kd n e ds ops i aa k cs:=
 C.gen ho hw λH st=>by
  obtain⟨pad,_,hg⟩:=hr.at st hj;unfold execOp;simp only[hx,Instr.loadAt,Instr.sureAddr];refine ah (ah (aA (my hg ?_ hs ?_)))
  ·rw[iY rf.len];have:=tu z (show j+1<=l.length by omega);rw[qb]at this;omega
  ·rw[Hr rf.len hj rfl];exact⟨As,st,h hj⟩
theorem ab.EO(C:ab P ao B R)(hj:j<l.length)[rf:fM f z][Ag P tt true][Cz P tt z](ho:aZ ops i=some ⟨some t,.load tt x,ty,pos,af,gd⟩)(h:Nx R d As fn kd n e ds ops aa k cs t (.agg (f l[j]).toArray))
  (hx:ev n e x=.pointer (some ⟨s.b,j*z,none⟩):=by rfl) (hr:dF f el s l As:=by first|(apply dF.own;exact Fo.au;done)|(apply dF.a9;exact Fo.au;assumption)|(apply dF.ext;assumption;apply dF.own;exact Fo.au;done)|(apply dF.ext;assumption;apply dF.a9;exact Fo.au;assumption)) (hs:∀ q,B.sh el q=false:=by intro q;rfl) (hw:aN ops n e gd=true:=by rfl):Nw R d As fn kd n e ds ops i aa k cs:=C.lZ ho (λ_=>h) hx hr hj hs hw
end
end
end
section
open Go.Conc
section
variable{P:bR}{ao:Bool}{B:j9}{R:Nat->aQ->Array Obj->Prop}{d:Nat}{As aO Bs L F:List HP}
variable{fn:bM}{kd:Kd}{n:Nat}{e:Nat->Value}{ds:List dW}{k:List Item}{cs:List Frame}
variable{ops:Array Oper}{i:Nat}{aa:List Nat}{dst:Option Nat}{t:Nat}{ty:aR}{pos:String}{af:Array Edge}{gd:Option (Nat×Bool)}{x y w:cU}{v u:Value}{b off:Nat}{c:Array Value}{el tt t2 t3:aR}{kk:IntKind}
theorem ab.bS(C:ab P ao B R){c:Code}{X:Type}(L:X->List (Nat×Value))(I:X->List HP)(Ok:X->Prop)(m:X->Nat)(x0:X)(he:jP e (L x0))(lE:Ok x0)
  (step:∀ x e,Ok x->(∀ y e' aO,Ok y->m y<m x->jP e' (L y)->bZ aO (I y)->At R d aO (gr fn kd n e' ds (.inLoop (cB c)::k) cs))->At R d (I x) (gr fn kd n (qH e (L x)) ds (.code (cB c):: .inLoop (cB c)::k) cs))
  (hI:bZ As (I x0):=by exact bZ.au) (hc:ck c=.loop:=by rfl):At R d As (gr fn kd n e ds (.code c::k) cs):=
 At.jR hI (C.Z2 L I Ok m x0 he rfl lE (λx e lE ih=>step x e lE λy e' aO hy dI xj hr=>At.jR hr (ih y e' xj hy dI)) hc)
theorem again{X:Type}{L:X->List (Nat×Value)}{I:X->List HP}{Ok:X->Prop}{m:X->Nat}{x0:X}{body:Code}(ih:∀ y e' aO,Ok y->m y<m x0->jP e' (L y)->bZ aO (I y)->At R d aO (gr fn kd n e' ds (.inLoop body::k) cs))(y:X)(hy:Ok y)(hm:m y<m x0)
  (he:jP e (L y):=by repeat(first|exact trivial|refine And.intro rfl ?_)) (hr:bZ As (I y):=by exact bZ.au):At R d As (gr fn kd n e ds (.inLoop body::k) cs):=ih y e As hy hm he hr
theorem OW{G:Prop}(φ:Prop)(L:List (Nat×Value))(OX:List HP){k1:List Item}(h1:(∀ e' aO,φ->jP e' L->bZ aO OX->At R d aO (gr fn kd n e' ds k1 cs))->G)(h2:φ->∀ e,At R d OX (gr fn kd n (qH e L) ds k1 cs)):G:=
 h1 λe' aO hφ he hr=>At.jR hr (by rw[<- j0 he];exact h2 hφ e')
theorem join{φ:Prop}{L:List (Nat×Value)}{OX:List HP}{k1:List Item}(h:∀ e' aO,φ->jP e' L->bZ aO OX->At R d aO (gr fn kd n e' ds k1 cs))(hφ:φ)
  (he:jP e L:=by repeat(first|exact trivial|refine And.intro rfl ?_)) (hr:bZ As OX:=by exact bZ.au):At R d As (gr fn kd n e ds k1 cs):=h e As hφ he hr
theorem kI{G:Prop}{X:Type}(φ:X->Prop)(L:X->List (Nat×Value))(OX:X->List HP){k1:List Item}(h1:(∀ x e' aO,φ x->jP e' (L x)->bZ aO (OX x)->At R d aO (gr fn kd n e' ds k1 cs))->G)(h2:∀ x,φ x->∀ e,At R d (OX x) (gr fn kd n (qH e (L x)) ds k1 cs)):G:=
 h1 λx e' aO hφ he hr=>At.jR hr (by rw[<- j0 he];exact h2 x hφ e')
theorem bN{X:Type}{φ:X->Prop}{L:X->List (Nat×Value)}{OX:X->List HP}{k1:List Item}(h:∀ x e' aO,φ x->jP e' (L x)->bZ aO (OX x)->At R d aO (gr fn kd n e' ds k1 cs))(x:X)(hφ:φ x)
  (he:jP e (L x):=by repeat(first|exact trivial|refine And.intro rfl ?_)) (hr:bZ As (OX x):=by exact bZ.au):At R d As (gr fn kd n e ds k1 cs):=h x e As hφ he hr
theorem ab.a8(C:ab P ao B R){fu:Func}{cc:Code}{n':Nat}[b:Body P fn fu cc n']{c:Frame}{x:Code}{Q:Value->List HP->Prop}(aJ:uH kd c)(ai:∀ v aO,Q v aO->At R d (aO++F) (after kd c cs v)){v0:Value}(q:Q v aO)
  (hv:sj fu n e=some v0:=by rfl) (qd:v0=v:=by first|((conv=>{lhs;whnf});done)|rfl) (hr:bZ As (aO++F):=by exact bZ.au) (hx:ck x=.ret:=by rfl):At R d As (gr fn kd n e [] (.code x::k) (c::cs)):=
 C.OI aJ (At.jR hr (ai v aO q)) (qd▸hv) hx
theorem ab.cQ(C:ab P ao B R){fu:Func}{cc:Code}{n':Nat}[b:Body P fn fu cc n']{c:Frame}{Q:Value->List HP->Prop}(aJ:uH kd c)(ai:∀ v aO,Q v aO->At R d (aO++F) (after kd c cs v)){v0:Value}(q:Q v aO)
  (hv:sj fu n e=some v0:=by rfl) (qd:v0=v:=by first|((conv=>{lhs;whnf});done)|rfl) (hr:bZ As (aO++F):=by exact bZ.au):At R d As (gr fn kd n e [] [] (c::cs)):=
 C.Wh aJ (At.jR hr (ai v aO q)) (qd▸hv)
def Bc(pl:List (Nat×Nat)):Array Value->List (Nat×Value)->Array Value
 |c,[]=>c
 |c,(i,v)::l=>Bc pl (wr c (pl.getD i (0,0)).1 v.cells.toList) l
def CE(pl:List (Nat×Nat))(m:Nat):List (Nat×Value)->Bool
 |[]=>true
 |(i,v)::l=>(match pl[i]? with|some (o,z)=>v.cells.size==z&&decide (o+z<=m)|none=>false)&&CE pl m l
theorem fill_eq(pl:List (Nat×Nat)):∀ (l:List (Nat×Value)) (c:Array Value),CE pl c.size l=true->Instr.fill (pl.toArray[·]?) c l=some (Bc pl c l)
 |[],c,_=>rfl
 |(i,v)::l,c,h=>by
  unfold CE at h;simp only[j8]at h;obtain⟨h1,h2⟩:=h;unfold Instr.fill Bc;simp only[Hg];cases hp:pl[i]? with
  |none=>rw[hp]at h1;cases h1
  |some oz=>
   obtain⟨o,z⟩:=oz;rw[hp]at h1;simp only[j8,Ej,nD]at h1;have hg:pl.getD i (0,0)=(o,z):=by simp[List.getD,hp]
   simp only[hg];have hn:¬ ((decide (v.cells.size≠z)||decide (o+v.cells.size>c.size))=true):=by rw[h1.1];have:=h1.2;simp;omega
   rw[aq hn];have hf:Array.foldl (λcs (x:Value×Nat)=>match x with|(c,j)=>cs.setIfInBounds (o+j) c) c v.cells.zipIdx=wr c o v.cells.toList:=by rw[<- VW,VX];exact CC o v.cells.toList 0 _
   rw[hf];have key:=fill_eq pl l (wr c o v.cells.toList) (by rw[uJ];exact h2);simp only[Hg]at key;exact key
inductive PV(n:Nat)(e:Nat->Value):List (Nat×cU)->List (Nat×Value)->Prop
 |nil:PV n e [] []
 |cons {i:Nat} {x:cU} {v:Value} {l:List (Nat×cU)} {m:List (Nat×Value)} (h:ev n e x=v):PV n e l m->PV n e ((i,x)::l) ((i,v)::m)
theorem PV.eq{l:List (Nat×cU)}{m:List (Nat×Value)}(p:PV n e l m):l.map (λ(i,x)=>(i,ev n e x))=m:=by
 induction p with
 |nil=>rfl
 |cons h _ ih=>simp[h,ih]
theorem ab.bd(C:ab P ao B R){zs xs:Array Value}{parts:Array (Nat×cU)}{pl:List (Nat×Nat)}{pv:List (Nat×Value)}[cz:Zv P tt (.agg zs)][xn:Bd P tt pl](ho:aZ ops i=some ⟨some t,.build tt parts,ty,pos,af,gd⟩)(h:Nx R d As fn kd n e ds ops aa k cs t (.agg xs))
  (hp:PV n e parts.toList pv:=by repeat(first|exact PV.nil|(apply PV.cons;focus (conv=>{lhs;whnf})))) (lE:CE pl zs.size pv=true:=by rfl)
  (hx:Bc pl zs pv=xs:=by first|(simp only[Bc,wr,Value.cells,List.getD_cons_zero,List.getD_cons_succ,R3,mL,Nat.reduceAdd,x8,xb,vD];done)|(simp only[Bc,wr,Value.cells,List.getD_cons_zero,List.getD_cons_succ,R3,mL,Nat.reduceAdd,x8,xb,vD];rfl)|rfl) (hw:aN ops n e gd=true:=by rfl):Nw R d As fn kd n e ds ops i aa k cs:=
 C.val ho hw (λB H d Q q'=>by obtain⟨fs,h1,h2⟩:=xn.h;unfold execOp;simp only[Instr.build];refine ah (ah (nG B H d _ (ah (dE h1 B H d _ ?_))));simp only[Value.cells];rw[Jl];refine ah ?_;rw[Jm];refine ah (h2.pu B H d _ (aA ?_));have:=fill_eq pl pv zs lE;rw[qv,hp.eq,this,hx];exact q') h
theorem ab.n5(C:ab P ao B R){z:Nat}{zv:Value}[cE:El P tt el][Cz P el z][Zv P el zv](ho:aZ ops i=some ⟨some t,.buildSlice tt 1 #[(0,x)],ty,pos,af,gd⟩)
  (h:∀ b,Nx R d (bX b (.cells c el (0,0))::As) fn kd n e ds ops aa k cs t (.slice (some ⟨b,0,none⟩) 1 1))
  (hx:ev n e x=v:=by conv=>{lhs;whnf}) (hc:v.cells=c:=by first|(simp only[Value.cells];done)|(simp only[Value.cells];rfl)|rfl) (hv:v.cells.size=z:=by rfl) (h0:1*z≠0:=by decide) (hm:1*z<=16777216:=by decide) (hw:aN ops n e gd=true:=by rfl):Nw R d As fn kd n e ds ops i aa k cs:=by
 subst hc;refine C.bs (vs:=[v]) ho (λb=>?_) (by simp[hx]) rfl (by simpa using hv) h0 hm hw;have e1:([v].flatMap (·.cells.toList)).toArray=v.cells:=by simp
 rw[e1];exact h b
inductive CF(P:bR)(B:j9)(As:List HP)(n:Nat)(e:Nat->Value):List ResultVar->List Value->Prop
 |nil:CF P B As n e [] []
 |tmp {t:Nat} {rs:List ResultVar} {v:Value} {vs:List Value} (h:(if t<n then e t else undef)=v):CF P B As n e rs vs->CF P B As n e (.tmp t::rs) (v::vs)
 |cell {a tt z b off:Nat} {c u:Array Value} {el:aR} {rs:List ResultVar} {vs:List Value} [Ag P tt true] [Cz P tt z] (r:CF P B As n e rs vs) (h:(if a<n then e a else undef)=.pointer (some ⟨b,off,none⟩):=by rfl) (hk:Kn As b (.cells c el (0,0)):=by apply Has.kn;repeat(first|with_reducible exact Has.head|with_reducible apply Has.tail)) (hz:off+z<=c.size:=by first|decide|(simp only[uJ];decide)) (hs:∀ j,B.sh el j=false:=by intro j;rfl) (hu:c.extract off (off+z)=u:=by rfl):
   CF P B As n e (.cell a tt::rs) (.agg u::vs)
def OY:List Value->Value
 |[v]=>v
 |vs=>.tuple vs.toArray
theorem CF.ok{rs:List ResultVar}{vs:List Value}(r:CF P B As n e rs vs){H:Array Obj}(st:Sat As (hp H)){Q:List Value->Array Obj->Nat->Prop}(q:Q vs H d):dC P B (rs.mapM λ
  |.tmp t=>(pure ((tm n e).getD t undef):Sem Value)
  |.cell a t=>do loadVar t (<- asAddr ((tm n e).getD a undef))) H d Q:=by
 induction r generalizing Q with
 |nil=>rw[R4];exact q
 |tmp h _ ih=>
  rw[Ny];refine ah (aA (ah (ih ?_)));rw[pe,h];exact q
 |cell _ h hk hz hs hu ih=>
  rw[Ny];refine ah ?_;show dC P B (asAddr _ >>= _) _ _ _;rw[pe,h];refine ah (aA (my (hk _ st) hz hs ?_));rw[hu];exact ah (ih (Q:=λa H d=>dC P B (pure (Value.agg _::a)) H d Q) q)
theorem yA{fu:Func}{rs:List ResultVar}{vs:List Value}(hr:fu.results.toList=rs)(r:CF P B As n e rs vs){H:Array Obj}(st:Sat As (hp H)){Q:Value->Array Obj->Nat->Prop}(q:Q (OY vs) H d):dC P B (results fu (tm n e)) H d Q:=by
 subst hr;unfold results;rw[Jl,Jm,bind_assoc];refine ah (r.ok st ?_);refine ah (aA (aA ?_));have:(if h:vs.toArray.size=1 then vs.toArray[0]else Value.tuple vs.toArray)=OY vs:=by
  match vs with
  |[]=>rfl
  |[_]=>rfl
  |_::_::_=>rfl
 rw[this];exact q
theorem ab.aai(C:ab P ao B R){fu:Func}{cc:Code}{n':Nat}[b:Body P fn fu cc n']{c:Frame}{x:Code}{Q:Value->List HP->Prop}(aJ:uH kd c)(ai:∀ v aO,Q v aO->At R d (aO++F) (after kd c cs v)){rs:List ResultVar}{vs:List Value}(r:CF P B As n e rs vs)(q:Q (OY vs) aO)
  (qc:fu.results.toList=rs:=by rfl) (hr:bZ As (aO++F):=by exact bZ.au) (hx:ck x=.ret:=by rfl):At R d As (gr fn kd n e [] (.code x::k) (c::cs)):=λH s=>by
 have z:=fA hx;simp only at z;subst z;refine C.ret ?_;have hh:=At.jR hr (ai _ aO q) H s;cases kd with
 |pR=>exact C.back b.func (yA qc r s hh)
 |oF=>exact C.Cx aJ b.func (yA qc r s hh)
section
variable{α:Type}{f:α->List Value}{z:Nat}{s:ax}{l m:List α}{j o:Nat}
theorem ab.EP(C:ab P ao B R){OP bz:Nat}{zv:Value}{yv:Value}[rf:fM f z][cE:El P tt el][Z4:El P t3 OP][Cz P el z][cB:Bz P el bz][Zv P el zv](m:List α)
  (ho:aZ ops i=some ⟨some t,.call ⟨.builtin .append,#[x,y],#[tt,t3]⟩,ty,pos,af,gd⟩) (h:∀ s':ax,Nx R d (aW f z el s' (l++m)::L) fn kd n e ds ops aa k cs t s'.v)
  (hx:ev n e x=s.v:=by rfl) (hy:ev n e y=yv:=by rfl) (hf:Fo (aW f z el s l) As L:=by exact Fo.au) (hsrc:∀ H,Sat As (hp H)->lj B H z m.length yv (flat f m))
  (hsz:(l.length+m.length)*bz<=140737488355328:=by(try simp only[jd,uv]);omega) (OQ:zv.cells.size=z:=by rfl) (zU:bz≠0:=by decide) (hb:∀ b j,B.rd b el j=false/\B.sh el j=false:=by intro _ j;exact⟨rfl,rfl⟩) (hw:aN ops n e gd=true:=by rfl):Nw R d As fn kd n e ds ops i aa k cs:=
 At.fo hf (C.ap ho rf.len rf.one (λH s'=>hsrc H (s'.perm hf.perm.symm)) (λs' _=>h s') hsz hx hy OQ zU hb hw)
theorem At.Sr{B:j9}{H:Array Obj}{b2:Nat}{ty2:aR}{c2:Array Value}{nn:Nat}(hh:Has b2 (.cells c2 ty2 (0,0)) As)(st:Sat As (hp H))(hs:∀ j,B.sh ty2 j=false){xs:List Value}(hc:c2=xs.toArray)(hn:nn*z=xs.length):lj B H z nn (.slice (some ⟨b2,0,none⟩) nn nn) xs:=by subst hc;exact .inr ⟨b2,0,nn,_,_,rfl,hh.get st,by simp[hn],by rw[hn,mL];simp,hs⟩
theorem ab.oh(C:ab P ao B R){OP bz b2:Nat}{ty2:aR}{c2:Array Value}{zv:Value}[rf:fM f z][cE:El P tt el][Z4:El P t3 OP][Cz P el z][cB:Bz P el bz][Zv P el zv](a:α)
  (ho:aZ ops i=some ⟨some t,.call ⟨.builtin .append,#[x,y],#[tt,t3]⟩,ty,pos,af,gd⟩) (h:∀ s':ax,Nx R d (aW f z el s' (l++[a])::L) fn kd n e ds ops aa k cs t s'.v)
  (hx:ev n e x=s.v:=by rfl) (hy:ev n e y=.slice (some ⟨b2,0,none⟩) 1 1:=by rfl) (hf:Fo (aW f z el s l) As L:=by exact Fo.au) (hh:Has b2 (.cells c2 ty2 (0,0)) As:=by exact Has.au) (hc:c2=(f a).toArray:=by rfl)
  (hsz:(l.length+1)*bz<=140737488355328:=by omega) (hs:∀ j,B.sh ty2 j=false:=by intro j;rfl) (OQ:zv.cells.size=z:=by rfl) (zU:bz≠0:=by decide) (hb:∀ b j,B.rd b el j=false/\B.sh el j=false:=by intro _ j;exact⟨rfl,rfl⟩) (hw:aN ops n e gd=true:=by rfl):Nw R d As fn kd n e ds ops i aa k cs:=
 C.EP (OP:=OP) [a] ho h hx hy hf (λH st=>At.Sr hh st hs (xs:=flat f [a]) (by rw[hc];simp[flat]) (by simp[flat,rf.len])) hsz OQ zU hb hw
theorem qL{α:Type}{f:α->List Value}{z:Nat}{el:aR}{s:ax}{l:List α}(hl:0<l.length)(h:HL)(x:aW f z el s l h):s.a=some ⟨s.b,0,none⟩/\s.len=l.length/\l.length<=s.cap:=by
 rcases x with⟨_,rfl⟩|⟨b,pad,e,_,h2,_⟩
 ·simp at hl
 ·have hb:s.b=b:=by rw[e];rfl
  exact⟨by rw[hb];exact congrArg ax.a e,congrArg ax.len e,h2⟩
theorem At.aG(f:α->List Value)(z:Nat)(el:aR){g:aQ}(h:At R d (aW f z el Go.Sl.aG []::As) g):At R d As g:=λH s=>by
 have e:less (hp H) (λ_=>none)=hp H:=by funext b;simp[less]
 refine h H ⟨λ_=>none,.inl ⟨rfl,rfl⟩,λ_ _ x=>(by cases x),?_⟩;rw[e];exact s
theorem At.yB{g:aQ}(h:At R d (all []::As) g):At R d As g:=λH s=>h H (Sat.fR (l:=[]) s)
theorem At.JS{I:HL}{g:aQ}{L2:List HP}(hf:Fo (aW f z el s l) As L)(hi:Fo (a9 I) L L2)(h:∀ I',Sub I I'->dX I' f el s l->At R d (a9 I'::L2) g):At R d As g:=by
 refine At.fo hf λH st=>?_;obtain⟨hh,x,gD,hr⟩:=st;rcases x with⟨rfl,rfl⟩|⟨b,pad,e,_,_,vJ⟩
 ·exact h I (Sub.refl I) (.inl ⟨rfl,rfl⟩) H ((hr.mono mR).perm hi.perm)
 ·have JU:Sat (bX b (.cells (gv f l pad) el (0,0))::a9 I::L2) (hp H):=⟨hh,vJ,gD,hr.perm hi.perm⟩;have hb:s.b=b:=by rw[e];rfl
  refine At.freeze (λI' h1 h2=>h I' h1 (.inr ⟨pad,by rw[hb];exact e,by rw[hb];exact h2⟩)) H JU
theorem At.own{g:aQ}(s:ax)(pad:List Value)(hs:s=⟨some ⟨b,0,none⟩,l.length,s.cap⟩)(hl:l.length*z+pad.length=s.cap*z)(hle:l.length<=s.cap)(hf:Fo (bX b (.cells (gv f l pad) el (0,0))) As L)(h:At R d (aW f z el s l::L) g):At R d As g:=
 At.turn hf (λ_ hh=>.inr ⟨b,pad,hs,hl,hle,hh⟩) h
theorem ab.HC(C:ab P ao B R)[rf:fM f z][Cz P tt 1](a:α)(ho:aZ ops i=some ⟨none,.store tt x y,ty,pos,af,gd⟩)(h:At R d (aW f z el s (l.set j a)::L) (gr fn kd n e ds (.inRegion ops aa::k) cs))
  (hx:ev n e x=.pointer (some ⟨s.b,j*z+o,none⟩):=by rfl) (hy:ev n e y=v:=by conv=>{lhs;whnf}) (hf:Fo (aW f z el s l) As L:=by exact Fo.au) (hj:j<l.length:=by omega) (ha:f a=(f l[j]).set o v:=by rfl) (hz:o<z:=by decide) (hb:∀ b j,B.rd b el j=false/\B.sh el j=false:=by intro _ j;exact⟨rfl,rfl⟩) (hv:fP v=true:=by rfl) (hw:aN ops n e gd=true:=by rfl):Nw R d As fn kd n e ds ops i aa k cs:=by
 refine At.fo hf λH st=>?_;obtain⟨hh,xx,gD,hr⟩:=st;rcases xx with⟨rfl,rfl⟩|⟨b,pad,e1,h1,h2,vJ⟩
 ·simp at hj
 ·have Rz:s.b=b:=by rw[e1];rfl
  rw[Rz]at hx;have JU:Sat (bX b (.cells (gv f l pad) el (0,0))::L) (hp H):=⟨hh,vJ,gD,hr⟩;refine C.st ho ?_ hx hy hv .head rfl ?_ (hb _ _).1 (hb 0 _).2 hw H JU
  ·rw[K1 rf.len hj hz rfl a ha];refine λH st=>h H (st.imp λhl hhl=>.inr ⟨b,pad,?_,?_,?_,hhl⟩)
   ·rw[cS];exact e1
   ·rw[cS];exact h1
   ·rw[cS];exact h2
  ·rw[iY rf.len];have:=tu z (show j+1<=l.length by omega);rw[qb]at this;omega
theorem ab.iB(C:ab P ao B R)[rf:fM f z][Cz P tt 1](a:α)(ho:aZ ops i=some ⟨none,.store tt x y,ty,pos,af,gd⟩)(h:At R d (aW f z el s (l.set j a)::L) (gr fn kd n e ds (.inRegion ops aa::k) cs))
  (hx:ev n e x=.pointer (some ⟨s.b,j*z,none⟩):=by rfl) (hy:ev n e y=v:=by conv=>{lhs;whnf}) (hf:Fo (aW f z el s l) As L:=by exact Fo.au) (hj:j<l.length:=by omega) (ha:f a=(f l[j]).set 0 v:=by rfl) (hz:0<z:=by decide) (hb:∀ b j,B.rd b el j=false/\B.sh el j=false:=by intro _ j;exact⟨rfl,rfl⟩) (hv:fP v=true:=by rfl) (hw:aN ops n e gd=true:=by rfl):Nw R d As fn kd n e ds ops i aa k cs:=
 C.HC (o:=0) a ho h hx hy hf hj ha hz hb hv hw
theorem ab.HD(C:ab P ao B R)[rf:fM f z][Cz P tt z]{xs:Array Value}(a:α)(ho:aZ ops i=some ⟨none,.store tt x y,ty,pos,af,gd⟩)(h:At R d (aW f z el s (l.set j a)::L) (gr fn kd n e ds (.inRegion ops aa::k) cs))
  (hx:ev n e x=.pointer (some ⟨s.b,j*z,none⟩):=by rfl) (hy:ev n e y=.agg xs:=by rfl) (hf:Fo (aW f z el s l) As L:=by exact Fo.au) (hj:j<l.length:=by omega) (ha:(f a).toArray=xs:=by rfl) (hb:∀ b j,B.rd b el j=false/\B.sh el j=false:=by intro _ j;exact⟨rfl,rfl⟩) (hw:aN ops n e gd=true:=by rfl):Nw R d As fn kd n e ds ops i aa k cs:=by
 refine At.fo hf λH st=>?_;obtain⟨hh,xx,gD,hr⟩:=st;rcases xx with⟨rfl,rfl⟩|⟨b,pad,e1,h1,h2,vJ⟩
 ·simp at hj
 ·have Rz:s.b=b:=by rw[e1];rfl
  rw[Rz]at hx;subst ha;have JU:Sat (bX b (.cells (gv f l pad) el (0,0))::L) (hp H):=⟨hh,vJ,gD,hr⟩;refine C.po ho ?_ hx hy (λv hv=>rf.one a v (by simpa using hv)) (by simp[rf.len]) .head rfl ?_ (λj=>(hb _ j).1) (λj=>(hb 0 j).2) hw H JU
  ·rw[OO rf.len hj rfl a];refine λH st=>h H (st.imp λhl hhl=>.inr ⟨b,pad,?_,?_,?_,hhl⟩)
   ·rw[cS];exact e1
   ·rw[cS];exact h1
   ·rw[cS];exact h2
  ·rw[iY rf.len];have:=tu z (show j+1<=l.length by omega);rw[qb]at this;omega
end
end
end
section
variable{R:Nat->aQ->Array Obj->Prop}{d:Nat}{As F L:List HP}{g:aQ}
theorem oN{l m As:List HP}(p:l.Perm m){h:HL}(s:Sat (all l::As) h):Sat (all m::As) h:=(s.flat.perm (p.append_right As)).fR
theorem oO{X:Type}{l:List X}{i:Nat}(hi:i<l.length):l.Perm (l[i]::l.eraseIdx i):=by
 rw[yc]
 conv=>lhs;rw[<- wz i l,i7 hi]
 exact Jk
theorem JV{X:Type}{l:List X}{i:Nat}(hi:i<l.length)(u:X):(l.set i u).Perm (u::l.eraseIdx i):=by rw[yc,VU,aK hi];exact Jk
variable{α:Type}{f:α->HP}{l:List α}{i:Nat}
theorem kJ(hi:i<l.length)(hf:Fo (all (l.map f)) As L)(h:At R d (f l[i]::all ((l.eraseIdx i).map f)::L) g):At R d As g:=
 At.fo hf λH s=>h H (Sat.under (λ_ s=>Sat.fR s) (Sat.flat (l:=f l[i]::(l.eraseIdx i).map f) (oN ((oO hi).map f) s)))
theorem mX(hi:i<l.length)(u:α)(hr:dJ [f u,all ((l.eraseIdx i).map f)] As L)(h:At R d (all ((l.set i u).map f)::L) g):At R d As g:=
 At.perm hr.perm λH s=>h H (oN ((JV hi u).symm.map f) (Sat.fR (l:=f u::(l.eraseIdx i).map f) (Sat.under (λ_ s=>Sat.flat s) s)))
theorem rQ(u:α)(hr:dJ [f u,all (l.map f)] As L)(h:At R d (all ((l++[u]).map f)::L) g):At R d As g:=
 At.perm hr.perm λH s=>h H (oN (by have:=(NK u l).symm.map f;exact this) (Sat.fR (l:=f u::l.map f) (Sat.under (λ_ s=>Sat.flat s) s)))
structure cy where
 w:Bool
 k:Int
 v:Int
structure MsgR where
 kind:Int
 aV:Int
 to:Int
 tx:Int
 yes:Bool
 ops:List cy
 reads:List Int
structure RecR where
 kind:Int
 tx:Int
 yes:Bool
 home:Int
 ops:List cy
 reads:List Int
structure VoteR where
 aV:Int
 reads:List Int
structure gU where
 tx:Int
 ops:List cy
 aT:List VoteR
 dec:Bool
 yes:Bool
 bK:List Int
structure dR where
 tm:Int
 again:Bool
 tx:Int
structure gz where
 key:Int
 tx:Int
structure ShR where
 me:Int
 n:Int
 up:Bool
 log:List RecR
 aX:Int
 bH:List Int
 aH:List gz
 under:List gU
 timers:List dR
 waits:List MsgR
 clock:Int
 out:List MsgR
def ie(key n:Int):Int:=(key-97).tmod n
def aY(ops:List cy)(s n:Int):List cy:=ops.filter λo=>ie o.k n==s
def cr(ops:List cy)(s n:Int):Bool:= !(aY ops s n).isEmpty
def isRec(kind tx:Int)(r:RecR):Bool:=r.kind==kind&&r.tx==tx
def findD(log:List RecR)(kind tx:Int):Nat->Option Nat
 |0=>none
 |i+1=>if(log[i]?).any (isRec kind tx)then some i else findD log kind tx i
def bF(log:List RecR)(kind tx:Int):Option Nat:=findD log kind tx log.length
def bJ(log:List RecR)(tx:Int):Option Nat:=if(bF log 3 tx).isSome then none else bF log 1 tx
def cX(l:List gU)(tx:Int):Option Nat:=l.findIdx? λu=>u.tx==tx
def cA(s:ShR)(m:MsgR):ShR:={s with out:=s.out++[{m with aV:=s.me}]}
def eV(s:ShR)(m:MsgR):ShR:={s with waits:=s.waits++[{m with aV:=s.me}]}
def bq:MsgR:=⟨0,0,0,0,false,[],[]⟩
def eA:RecR:=⟨0,0,false,0,[],[]⟩
def upto(n:Int):List Int:=(List.range n.toNat).map Int.ofNat
def gb(s:ShR)(ops:List cy)(f:ShR->Int->List cy->ShR):ShR:=(upto s.n).foldl (λz k=>if(aY ops k s.n).isEmpty then z else f z k (aY ops k s.n)) s
def l3(s:ShR)(m:MsgR):ShR:=
 match bF s.log 2 m.tx with
 |some d=>if(d:Int)<s.aX then cA s {bq with kind:=7,to:= -1,tx:=m.tx,yes:=(s.log[d]?.getD eA).yes,reads:=(s.log[d]?.getD eA).reads}else s
 |none=>
  if(cX s.under m.tx).isSome then s else
  let s1:=gb {s with under:=s.under++[⟨m.tx,m.ops,[],false,false,[]⟩]} m.ops λz k p=>cA z {bq with kind:=2,to:=k,tx:=m.tx,ops:=p}
  {s1 with timers:=s1.timers++[⟨s1.clock+4,true,m.tx⟩]}
def bP(u:gU)(k:Int):Option VoteR:=u.aT.find? λv=>v.aV==k
def eG(u:gU)(n:Int):List cy->(Int->Nat)->List Int
 |[],_=>[]
 |o::l,used=>
  if o.w then eG u n l used else
  let k:=ie o.k n
  (((bP u k).map (·.reads)).getD [])[used k]?.getD 0::eG u n l (λj=>if j=k then used k+1 else used j)
def jH(u:gU)(n:Int):List Int:=eG u n u.ops λ_=>0
def mY(n:Int)(ops:List cy)(p:Int->Bool):Bool:=(upto n).all λk=> !cr ops k n||p k
def pV(s:ShR)(m:MsgR):ShR:=
 match cX s.under m.tx with
 |none=>s
 |some i=>
  match s.under[i]? with
  |none=>s
  |some u=>
   if u.dec then s else
   let u1:=if m.yes&& !(bP u m.aV).isSome then{u with aT:=u.aT++[⟨m.aV,m.reads⟩]}else u
   if m.yes&& !mY s.n u1.ops (λk=>(bP u1 k).isSome)then{s with under:=s.under.set i u1}else
   let u2:={u1 with dec:=true,yes:=m.yes}
   let rd:=if m.yes then jH u2 s.n else[]
   let s1:={s with under:=s.under.set i u2,log:=s.log++[{eA with kind:=2,tx:=m.tx,yes:=m.yes,reads:=rd}]}
   let s2:=gb s1 u2.ops λz k _=>eV z {bq with kind:=4,to:=k,tx:=m.tx,yes:=m.yes}
   eV s2 {bq with kind:=7,to:= -1,tx:=m.tx,yes:=m.yes,reads:=rd}
def xo(s:ShR)(m:MsgR):ShR:=
 match cX s.under m.tx with
 |none=>s
 |some i=>
  match s.under[i]? with
  |none=>s
  |some u=>
   if !u.dec then s else
   let u1:={u with bK:=u.bK++[m.aV]}
   if mY s.n u1.ops (λk=>u1.bK.contains k)then{s with under:=s.under.eraseIdx i}else{s with under:=s.under.set i u1}
def xp(s:ShR)(m:MsgR):ShR:=
 match bF s.log 2 m.tx with
 |some d=>if(d:Int)<s.aX then cA s {bq with kind:=4,to:=m.aV,tx:=m.tx,yes:=(s.log[d]?.getD eA).yes}else s
 |none=>
  if(cX s.under m.tx).isSome then s else
  eV {s with log:=s.log++[{eA with kind:=2,tx:=m.tx}]} {bq with kind:=4,to:=m.aV,tx:=m.tx}
def ja(l:List gz)(key:Int):Int:=((l.find? λh=>h.key==key).map (·.tx)).getD (-1)
def g8(bH:List Int)(ops:List cy):List Int:=(ops.filter λo=> !o.w).map λo=>bH[(o.k-97).toNat]?.getD 0
def jl(l:List gz)(tx:Int)(ops:List cy):List gz:=l++ops.map λo=>⟨o.k,tx⟩
def iV(l:List gz)(tx:Int):List gz:=l.filter λh=>h.tx != tx
def eH(bH:List Int)(ops:List cy):List Int:=ops.foldl (λv o=>if o.w then v.set (o.k-97).toNat o.v else v) bH
def gJ(s:ShR)(m:MsgR):ShR:=
 let no:={bq with kind:=3,to:=m.aV,tx:=m.tx}
 let yes:={no with yes:=true,reads:=g8 s.bH m.ops}
 match bJ s.log m.tx with
 |some r=>if(r:Int)<s.aX then cA s {yes with reads:=g8 s.bH (s.log[r]?.getD eA).ops}else s
 |none=>
  match bF s.log 3 m.tx with
  |some d=>if(s.log[d]?.getD eA).yes then s else cA s no
  |none=>
   if m.ops.any (λo=>decide (ja s.aH o.k>=0))then cA s no else
   let s1:=eV {s with aH:=jl s.aH m.tx m.ops,log:=s.log++[{eA with kind:=1,tx:=m.tx,home:=m.aV,ops:=m.ops}]} yes
   {s1 with timers:=s1.timers++[⟨s1.clock+3,false,m.tx⟩]}
def iN(s:ShR)(m:MsgR):ShR:=
 match bJ s.log m.tx with
 |some r=>
  let s1:=if m.yes then{s with bH:=eH s.bH (s.log[r]?.getD eA).ops}else s
  eV {s1 with aH:=iV s.aH m.tx,log:=s.log++[{eA with kind:=3,tx:=m.tx,yes:=m.yes}]} {bq with kind:=5,to:=m.aV,tx:=m.tx}
 |none=>
  match bF s.log 3 m.tx with
  |some d=>if(d:Int)<s.aX then cA s {bq with kind:=5,to:=m.aV,tx:=m.tx}else s
  |none=>if m.yes then s else eV {s with log:=s.log++[{eA with kind:=3,tx:=m.tx,yes:=m.yes}]} {bq with kind:=5,to:=m.aV,tx:=m.tx}
def jF(s:ShR)(m:MsgR):ShR:=
 if m.kind=1 then l3 s m else if m.kind=2 then gJ s m else if m.kind=3 then pV s m else if m.kind=4 then iN s m else if m.kind=5 then xo s m else if m.kind=6 then xp s m else s
def yC(s:ShR):ShR:={s with aX:=s.log.length,out:=s.out++s.waits,waits:=[]}
def jS(clock:Int):List dR->Nat->Option (Nat×dR)->Option (Nat×dR)
 |[],_,k=>k
 |t::l,i,k=>jS clock l (i+1) (if decide (t.tm<=clock)&&(match k with|none=>true|some (_,u)=>decide (t.tm<u.tm))then some (i,t)else k)
def lA(s:ShR)(t:dR):ShR:=
 if !t.again then
  match bJ s.log t.tx with
  |some r=>
   let s1:=cA s {bq with kind:=6,to:=(s.log[r]?.getD eA).home,tx:=t.tx}
   {s1 with timers:=s1.timers++[⟨s1.clock+3,false,t.tx⟩]}
  |none=>s
 else
  match cX s.under t.tx with
  |none=>s
  |some i=>
   match s.under[i]? with
   |none=>s
   |some u=>
    let aX:=match bF s.log 2 t.tx with|some d=>decide ((d:Int)<s.aX)|none=>decide (-1<s.aX)
    let s1:=gb s u.ops λz k p=>
     if !u.dec&& !(bP u k).isSome then cA z {bq with kind:=2,to:=k,tx:=t.tx,ops:=p}
     else if u.dec&&aX&& !u.bK.contains k then cA z {bq with kind:=4,to:=k,tx:=t.tx,yes:=u.yes}
     else z
    {s1 with timers:=s1.timers++[⟨s1.clock+4,true,t.tx⟩]}
def iO:Nat->ShR->ShR
 |0,s=>s
 |f+1,s=>
  match jS s.clock s.timers 0 none with
  |none=>s
  |some (k,t)=>iO f (lA {s with timers:=s.timers.eraseIdx k} t)
def sk(s:ShR):Nat:=(s.timers.filter λt=>t.tm<=s.clock).length
def qM(s:ShR):ShR:=let s1:={s with clock:=s.clock+1};iO (sk s1+1) s1
def il:List Int:=List.replicate 26 0
def eR(s:ShR):ShR:={s with bH:=il,aH:=[],under:=[],timers:=[],waits:=[],clock:=0}
def pw(s:ShR)(keep:Int):ShR:=
 let k:=if keep<0 then 0 else keep
 let n:=(s.log.length:Int)-s.aX
 let n:=if k<n then k else n
 eR {s with up:=false,aX:=s.aX+n,log:=s.log.take (s.aX+n).toNat}
def JW(log:List RecR)(tx:Int)(i:Nat):Option Nat:=findD log 1 tx i
def dL(log:List RecR):Nat->ShR->ShR
 |0,s=>s
 |i+1,s=>
  let s:=dL log i s
  match log[i]? with
  |none=>s
  |some r=>
   if r.kind=1 then{s with aH:=jl s.aH r.tx r.ops}
   else if r.kind=3 then
    let s1:=match JW log r.tx i with|some p=>if r.yes then{s with bH:=eH s.bH (log[p]?.getD eA).ops}else s|none=>s
    {s1 with aH:=iV s1.aH r.tx}
   else s
def jx(log:List RecR):List dR:=((upto 60).filter λtx=>(bJ log tx).isSome).map λtx=>⟨3,false,tx⟩
def dU(s:ShR):ShR:=
 let s1:=dL s.log s.log.length (eR {s with up:=true})
 {s1 with timers:=s1.timers++jx s.log}
structure TxR where
 ops:List cy
 state:Int
 reads:List Int
structure WR where
 sh:List ShR
 aF:List MsgR
 aL:List TxR
 aj:Bool
def ER(k n:Int):ShR:=eR ⟨k,n,true,[],0,[],[],[],[],[],0,[]⟩
def qg(n:Int):WR:=⟨(upto n).map λk=>ER k n,[],[],false⟩
def Aq(o:cy):Prop:=97<=o.k/\o.k<=122/\(o.w=true\/o.v=0)
instance(o:cy):Decidable (Aq o):=by unfold Aq;exact inferInstance
def fb(l:List cy):Prop:=(∀ o∈l,Aq o)/\(l.map (·.k)).Nodup/\1<=l.length/\l.length<=6
instance(l:List cy):Decidable (fb l):=by unfold fb;exact inferInstance
def gf(ops:List cy)(n:Int):Int:=match ops with|o::_=>ie o.k n|[]=>0
def mZ(w:WR)(tx:Nat):WR:=
 match w.aL[tx]? with
 |none=>w
 |some t=>{w with aF:=w.aF++[{bq with kind:=1,aV:= -1,to:=gf t.ops w.sh.length,tx:=tx,ops:=t.ops}]}
def eM(w:WR)(ops:List cy):WR×Int×Int:=
 if w.aj then(w,0,9)else if¬ fb ops then(w,0,2)else if w.aL.length=60\/400<=w.aF.length then(w,0,3)
 else(mZ {w with aL:=w.aL++[⟨ops,1,[]⟩]} w.aL.length,w.aL.length,0)
def lQ(w:WR)(a:Nat)(s:ShR):WR:={w with sh:=w.sh.set a {s with out:=[]},aF:=w.aF++s.out}
def qN(w:WR)(m:MsgR):WR:=
 match w.aL[m.tx.toNat]? with
 |none=>w
 |some t=>if t.state=1 then{w with aL:=w.aL.set m.tx.toNat (if m.yes then{t with state:=2,reads:=m.reads}else{t with state:=3})}else w
def cV(w:WR)(k i:Int):WR×Int:=
 if i<0\/(w.aF.length:Int)<=i then(w,5)else
 match w.aF[i.toNat]? with
 |none=>(w,5)
 |some m=>
  if k=4 then(if 400<=w.aF.length then(w,3)else({w with aF:=w.aF++[m]},0))else
  let w1:={w with aF:=w.aF.eraseIdx i.toNat}
  if k=3 then(w1,0)else
  if m.to= -1 then(qN w1 m,0)else
  match w1.sh[m.to.toNat]? with
  |none=>(w1,0)
  |some s=>if s.up then(lQ w1 m.to.toNat (jF s m),0)else(w1,0)
def ny(w:WR)(k a b:Int):WR×Int:=
 if k<1\/8<k then(w,0)else if w.aj then(w,9)
 else if k=1 then(if a<0\/(w.aL.length:Int)<=a then(w,4)else if 400<=w.aF.length then(w,3)else(mZ w a.toNat,0))
 else if k<=4 then cV w k a
 else if a<0\/(w.sh.length:Int)<=a then(w,6)
 else match w.sh[a.toNat]? with
  |none=>(w,6)
  |some s=>
   if k=8 then(if s.up then(w,8)else({w with sh:=w.sh.set a.toNat (dU s)},0))
   else if !s.up then(w,7)
   else if k=5 then(lQ w a.toNat (yC s),0)
   else if k=6 then(if 150<w.aF.length then(w,3)else(lQ w a.toNat (qM s),0))
   else(lQ w a.toNat (pw s b),0)
inductive a7 where
 |eK (tx home:Int) (ops:List cy)
 |dec (tx:Int) (yes:Bool) (reads:List Int)
 |kg (tx:Int) (yes:Bool)
def a7.bk:a7->RecR
 |.eK tx home ops=>{eA with kind:=1,tx:=tx,home:=home,ops:=ops}
 |.dec tx yes reads=>{eA with kind:=2,tx:=tx,yes:=yes,reads:=reads}
 |.kg tx yes=>{eA with kind:=3,tx:=tx,yes:=yes}
structure gV where
 pl:Int
 yes:Bool
structure yD where
 pl:Int
 home:Int
 ops:List cy
structure lR where
 ops:List cy
 aT:List (Int×List Int)
 bK:List (Int×Int)
 dec:Bool
 yes:Bool
structure dZ where
 me:Int
 n:Int
 up:Bool
 log:List a7
 aX:Int
 values:List (Int×Int)
 aH:List (Int×Int)
 bB:List (Int×yD)
 done:List (Int×gV)
 cf:List (Int×gV)
 cq:List (Int×lR)
 timers:List dR
 clock:Int
 waits:List MsgR
 out:List MsgR
def dB(ops:List cy)(n:Int):List (Int×List cy):=ops.foldl (λm o=>bA m (ie o.k n) ((aC m (ie o.k n)).getD []++[o])) []
def eP(s:dZ)(m:MsgR):dZ:={s with out:=s.out++[{m with aV:=s.me}]}
def iG(s:dZ)(m:MsgR):dZ:={s with waits:=s.waits++[{m with aV:=s.me}]}
def jm(s:dZ)(tx ticks:Int)(again:Bool):dZ:={s with timers:=s.timers++[⟨s.clock+ticks,again,tx⟩]}
def qO(s:dZ)(ops:List cy)(f:dZ->Int->List cy->dZ):dZ:=
 (upto s.n).foldl (λz k=>if((aC (dB ops s.n) k).getD []).isEmpty then z else f z k ((aC (dB ops s.n) k).getD [])) s
def l4(s:dZ)(m:MsgR):dZ:=
 match aC s.cf m.tx with
 |some d=>if d.pl<s.aX then eP s {bq with kind:=7,to:= -1,tx:=m.tx,yes:=d.yes,reads:=((s.log[d.pl.toNat]?.map a7.bk).getD eA).reads}else s
 |none=>
  if(aC s.cq m.tx).isSome then s else
  jm (qO {s with cq:=bA s.cq m.tx ⟨m.ops,[],[],false,false⟩} m.ops λz k p=>eP z {bq with kind:=2,to:=k,tx:=m.tx,ops:=p}) m.tx 4 true
def ir(u:lR)(n:Int):List cy->List (Int×Int)->Option (List Int)
 |[],_=>some []
 |o::l,next=>
  if o.w then ir u n l next else
  let k:=ie o.k n
  let i:=(aC next k).getD 0
  match((aC u.aT k).getD [])[i.toNat]? with
  |none=>none
  |some x=>(ir u n l (bA next k (i+1))).map (x:: ·)
def l5(u:lR)(n:Int):Option (List Int):=ir u n u.ops []
def pW(s:dZ)(m:MsgR):dZ:=
 match aC s.cq m.tx with
 |none=>s
 |some u=>
  if u.dec then s else
  let u1:=if m.yes&& !(aC u.aT m.aV).isSome then{u with aT:=bA u.aT m.aV m.reads}else u
  if m.yes&&decide (u1.aT.length<(dB u1.ops s.n).length)then{s with cq:=bA s.cq m.tx u1}else
  let rd:=if m.yes then(l5 u1 s.n).getD []else[]
  let s1:={s with cq:=bA s.cq m.tx {u1 with dec:=true,yes:=m.yes},log:=s.log++[.dec m.tx m.yes rd],cf:=bA s.cf m.tx ⟨s.log.length,m.yes⟩}
  let s2:=qO s1 u1.ops λz k _=>iG z {bq with kind:=4,to:=k,tx:=m.tx,yes:=m.yes}
  iG s2 {bq with kind:=7,to:= -1,tx:=m.tx,yes:=m.yes,reads:=rd}
def yE(s:dZ)(m:MsgR):dZ:=
 match aC s.cq m.tx with
 |none=>s
 |some u=>
  if !u.dec then s else
  let u1:={u with bK:=bA u.bK m.aV ((aC u.bK m.aV).getD 0+1)}
  if u1.bK.length=(dB u1.ops s.n).length then{s with cq:=dQ (bA s.cq m.tx u1) m.tx}else{s with cq:=bA s.cq m.tx u1}
def Ar(s:dZ)(m:MsgR):dZ:=
 match aC s.cf m.tx with
 |some d=>if d.pl<s.aX then eP s {bq with kind:=4,to:=m.aV,tx:=m.tx,yes:=d.yes}else s
 |none=>
  if(aC s.cq m.tx).isSome then s else
  iG {s with log:=s.log++[.dec m.tx false []],cf:=bA s.cf m.tx ⟨s.log.length,false⟩} {bq with kind:=4,to:=m.aV,tx:=m.tx}
def iu(values:List (Int×Int))(ops:List cy):List Int:=(ops.filter λo=> !o.w).map λo=>(aC values o.k).getD 0
def sP(s:dZ)(tx home:Int)(ops:List cy)(pl:Int):dZ:={s with aH:=ops.foldl (λl o=>bA l o.k tx) s.aH,bB:=bA s.bB tx ⟨pl,home,ops⟩}
def py(s:dZ)(tx:Int)(yes:Bool)(pl:Int):dZ:=
 let ops:=((aC s.bB tx).map (·.ops)).getD []
 {s with values:=ops.foldl (λv o=>if yes&&o.w then bA v o.k o.v else v) s.values,aH:=ops.foldl (λl o=>dQ l o.k) s.aH,bB:=dQ s.bB tx,done:=bA s.done tx ⟨pl,yes⟩}
def fN(s:dZ)(m:MsgR):dZ:=
 let answer:={bq with kind:=3,to:=m.aV,tx:=m.tx}
 match aC s.bB m.tx with
 |some p=>if p.pl<s.aX then eP s {answer with yes:=true,reads:=iu s.values p.ops}else s
 |none=>
  match aC s.done m.tx with
  |some d=>if d.yes then s else eP s answer
  |none=>
   if m.ops.any (λo=>(aC s.aH o.k).isSome)then eP s answer else
   let s1:=sP {s with log:=s.log++[.eK m.tx m.aV m.ops]} m.tx m.aV m.ops s.log.length
   jm (iG s1 {answer with yes:=true,reads:=iu s1.values m.ops}) m.tx 3 false
def jb(s:dZ)(m:MsgR):dZ:=
 let fin:=iG (py {s with log:=s.log++[.kg m.tx m.yes]} m.tx m.yes s.log.length) {bq with kind:=5,to:=m.aV,tx:=m.tx}
 match aC s.bB m.tx with
 |some _=>fin
 |none=>
  match aC s.done m.tx with
  |some d=>if d.pl<s.aX then eP s {bq with kind:=5,to:=m.aV,tx:=m.tx}else s
  |none=>if m.yes then s else fin
def qP(s:dZ)(m:MsgR):dZ:=
 if m.kind=1 then l4 s m else if m.kind=2 then fN s m else if m.kind=3 then pW s m else if m.kind=4 then jb s m else if m.kind=5 then yE s m else if m.kind=6 then Ar s m else s
def sQ(s:dZ):dZ:={s with aX:=s.log.length,out:=s.out++s.waits,waits:=[]}
def qQ(s:dZ)(tx:Int):dZ:=
 match aC s.cq tx with
 |none=>s
 |some u=>
  jm (qO s u.ops λz k p=>
   if !u.dec&& !(aC u.aT k).isSome then eP z {bq with kind:=2,to:=k,tx:=tx,ops:=p}
   else if u.dec&&decide (((aC s.cf tx).map (·.pl)).getD 0<s.aX)&&decide ((aC u.bK k).getD 0=0)then eP z {bq with kind:=4,to:=k,tx:=tx,yes:=u.yes}
   else z) tx 4 true
def yF(s:dZ)(t:dR):dZ:=
 if t.again then qQ s t.tx else
 match aC s.bB t.tx with
 |some p=>jm (eP s {bq with kind:=6,to:=p.home,tx:=t.tx}) t.tx 3 false
 |none=>s
def kK:Nat->dZ->dZ
 |0,s=>s
 |f+1,s=>
  match jS s.clock s.timers 0 none with
  |none=>s
  |some (k,t)=>kK f (yF {s with timers:=s.timers.eraseIdx k} t)
def OZ(s:dZ):Nat:=(s.timers.filter λt=>t.tm<=s.clock).length
def oP(s:dZ):dZ:=let s1:={s with clock:=s.clock+1};kK (OZ s1+1) s1
def iP(s:dZ):dZ:={s with values:=[],aH:=[],bB:=[],done:=[],cf:=[],cq:=[],timers:=[],clock:=0,waits:=[]}
def m4(s:dZ)(keep:Int):dZ:=
 let aX:=s.aX+min (max keep 0) ((s.log.length:Int)-s.aX)
 iP {s with up:=false,aX:=aX,log:=s.log.take aX.toNat}
def yG(s:dZ)(i:Nat):a7->dZ
 |.eK tx home ops=>sP s tx home ops i
 |.dec tx yes _=>{s with cf:=bA s.cf tx ⟨i,yes⟩}
 |.kg tx yes=>py s tx yes i
def kL(log:List a7):Nat->dZ->dZ
 |0,s=>s
 |i+1,s=>match log[i]? with|none=>kL log i s|some e=>yG (kL log i s) i e
def jn(l:List Int):List Int:=l.mergeSort (λa b=>decide (a<=b))
def jo(s:dZ):dZ:=
 let s1:=kL s.log s.log.length (iP {s with up:=true})
 (jn (s1.bB.map (·.1))).foldl (λz tx=>jm z tx 3 false) s1
def HE(k n:Int):dZ:=iP ⟨k,n,true,[],0,[],[],[],[],[],[],[],0,[],[]⟩
end
section
open Go.Conc
structure Wt(B:j9)(σ:Gh)(H:Array Obj):Prop where
 still:∀ i s p,σ.aU i=some s->p∈s.mem->p.1.spot=none/\∃ c ty,H[p.1.block]? =some (.cells c ty (0,0))/\B.rd p.1.block ty p.1.off=true
 qA:∀ l,σ.sh l->∃ a:Addr,l=.cell a/\∃ c ty,H[a.block]? =some (.cells c ty (0,0))/\B.sh ty a.off=true/\B.bot<=a.block
theorem Wt.step{B:j9}{σ:Gh}{H H':Array Obj}(h:Wt B σ H)(s:fQ B H H'):Wt B σ H':=
 ⟨λi s' p e hp=>by
  obtain⟨h1,c,ty,h2,h3⟩:=h.still i s' p e hp;obtain⟨c',h4,_⟩:=s.cells _ _ _ _ h2;exact⟨h1,c',ty,h4,h3⟩,λl hl=>by
  obtain⟨a,rfl,c,ty,h2,h3⟩:=h.qA l hl;obtain⟨c',h4,_⟩:=s.cells _ _ _ _ h2;exact⟨a,rfl,c',ty,h4,h3⟩⟩
theorem O0{B:j9}{σ:Gh}{w w':World}{es:Array Event}(g:Wt B σ w.heap)(s:fQ B w.heap w'.heap)(he:∀ e∈es,Ak B w'.heap e):pO σ w w' es:=by
 have g':=g.step s;refine⟨s.size,s.chans,λi s' p e hp hc=>?_,λe xI=>?_⟩
 ·obtain⟨h1,c,ty,h2,h3⟩:=g.still i s' p e hp;obtain⟨c',h4,h5⟩:=s.cells _ _ _ _ h2;unfold World.cell? at hc⊢;rw[h2]at hc;rw[h4];simp only[h1]at hc⊢;rw[h5 _ h3];exact hc
 ·have Sg:=he e xI;have i9:∀ i a c ty fr,σ.rd i (.cell a)->w'.heap[a.block]? =some (.cells c ty fr)->B.rd a.block ty a.off=true:=λi a c ty fr hr hh=>by obtain⟨s',e',p,hp,ep⟩:=hr;obtain rfl:=Loc.cell.inj ep;obtain⟨_,c',UR,h2,h3⟩:=g'.still i s' p e' hp;rw[hh]at h2;cases h2;exact h3
  have ui:∀ a c ty fr,σ.sh (.cell a)->w'.heap[a.block]? =some (.cells c ty fr)->B.sh ty a.off=true/\B.bot<=a.block:=λa c ty fr hr hh=>by obtain⟨a',ea,c',UR,h2,h3⟩:=g'.qA _ hr;obtain rfl:=Loc.cell.inj ea;rw[hh]at h2;cases h2;exact h3
  have dI:∀ b o,w'.heap[b]? =some o->b<w'.heap.size:=λb o h=>(gQ.1 h).1;obtain⟨loc,wr,sy⟩:=e;cases loc with
  |cell a=>
   obtain⟨h1,c,ty,⟨fr,h2⟩,h3,h4⟩:=Sg;refine⟨λb hb=>?_,λad ea=>(by simp[MemAct.ofEvent]at ea),?_⟩
   ·simp only[MemAct.ofEvent,MemAct.touch?,x6]at hb;subst hb;refine⟨λhw i hr=>?_,λhs hk=>?_⟩
    ·have:=i9 i a c ty fr hr h2;rw[h3 hw]at this;cases this
    ·have:=ui a c ty fr hs h2;cases sy with
     |true=>simp at hk
     |false=>
      rcases h4 rfl with h5|h5
      ·have:=this.2;omega
      ·rw[h5]at this;cases this.1
   ·exact dI _ _ h2
  |obj r=>
   obtain⟨h1,h2⟩:=Sg;have h2:sy=false:=h2;subst h2;have hof:MemAct.ofEvent ⟨.obj r,wr,false⟩=.access ⟨.obj r,wr,false⟩:=by cases wr<;>rfl
   rw[hof];refine⟨λb hb=>?_,λad ea=>(by cases ea),h1⟩;simp only[MemAct.touch?,x6]at hb;subst hb;refine⟨λhw i hr=>?_,λhs _=>?_⟩
   ·obtain⟨s',e',p,hp,ep⟩:=hr;cases ep
   ·obtain⟨a,ea,_⟩:=g'.qA _ hs;cases ea
  |mark m=>
   obtain⟨h1,h2⟩:=Sg;have hof:MemAct.ofEvent ⟨.mark m,wr,sy⟩=.mark m:=by cases wr<;>cases sy<;>rfl
   rw[hof];refine⟨λb hb=>?_,λad ea=>?_,?_⟩
   ·cases m with
    |read a=>
     simp only[MemAct.touch?,x6]at hb;subst hb;exact⟨λhw=>by simp at hw,λ_ hk=>by simp at hk⟩
    |write a=>
     obtain⟨c,ty,h3,h4⟩:=h1;simp only[MemAct.touch?,x6]at hb;subst hb;refine⟨λ_ i hr=>?_,λ_ hk=>by simp at hk⟩;have:=i9 i a c ty _ hr h3;rw[h4]at this;cases this
    |_=>simp[MemAct.touch?]at hb
   ·cases ea;obtain⟨c,ty,h3,h4⟩:=h1;intro hs;have:=(ui _ c ty _ hs h3).1;rw[h4]at this;cases this
   ·cases m with
    |acquire a=>obtain⟨c,ty,h3⟩:=h1;exact dI _ _ h3
    |release a=>obtain⟨c,ty,h3,_⟩:=h1;exact dI _ _ h3
    |releaseMerge a=>obtain⟨c,ty,h3⟩:=h1;exact dI _ _ h3
    |read a=>obtain⟨c,ty,h3⟩:=h1;exact dI _ _ h3
    |write a=>obtain⟨c,ty,h3,_⟩:=h1;exact dI _ _ h3
    |_=>trivial
  |_=>exact Sg.elim
structure BLe(B B':j9):Prop where
 rd:∀ b ty o,B.rd b ty o=true->B'.rd b ty o=true
 sh:∀ ty o,B.sh ty o=true->B'.sh ty o=true
 bot:B'.bot<=B.bot
structure tH where
 B0:j9
 h0:B0.bot=0
 mkd:aR->Nat->Bool
 sh:aR->Nat->Bool
 h1:∀ b ty o,mkd ty o=true->B0.rd b ty o=true
 h2:∀ ty o,sh ty o=true->B0.sh ty o=true
def Gh.blk(σ:Gh)(b:Nat):Bool:=(List.range σ.n).any λi=>match σ.aU i with|none=>false|some s=>s.mem.any λp=>p.1.block==b
def tH.bw(X:tH)(σ:Gh):j9:=⟨λb ty o=>X.mkd ty o&&σ.blk b,X.sh,σ.bot⟩
theorem Gh.Ss{σ:Gh}(hn:∀ i s,σ.aU i=some s->i<σ.n){b:Nat}:σ.blk b=true↔∃ i s p,σ.aU i=some s/\p∈s.mem/\p.1.block=b:=by
 unfold Gh.blk;rw[nC];constructor
 ·rintro⟨i,_,h⟩;cases e:σ.aU i with
  |none=>rw[e]at h;cases h
  |some s=>
   rw[e]at h;obtain⟨p,hp,hb⟩:=nC.1 h;exact⟨i,s,p,e,hp,by simpa using hb⟩
 ·rintro⟨i,s,p,e,hp,hb⟩;refine⟨i,mM.2 (hn i s e),?_⟩;rw[e];exact nC.2 ⟨p,hp,by simpa using hb⟩
def tH.rd(X:tH)(i:Nat):Nat->aR->Nat->Bool:=if i=0 then X.B0.rd else λ_ ty o=>X.mkd ty o
theorem tH.le(X:tH)(σ:Gh):BLe (X.bw σ) X.B0:=⟨λb ty o h=>X.h1 b ty o (by unfold tH.bw at h;simp only[j8]at h;exact h.1),X.h2,by rw[X.h0];exact eC _⟩
structure GO(X:tH)(σ:Gh)(H:Array Obj):Prop where
 lt:∀ i s,σ.aU i=some s->i<σ.n
 cl:∀ i s c,σ.aU i=some s->s.has c->c<H.size
 still:∀ i s p,σ.aU i=some s->p∈s.mem->p.1.spot=none/\∃ c ty,H[p.1.block]? =some (.cells c ty (0,0))/\X.rd i p.1.block ty p.1.off=true
 qA:∀ l,σ.sh l->∃ a:Addr,l=.cell a/\∃ c ty,H[a.block]? =some (.cells c ty (0,0))/\X.sh ty a.off=true/\σ.bot<=a.block
 bot:σ.bot<=H.size
theorem GO.zero{X:tH}{σ:Gh}{H:Array Obj}(h:GO X σ H)(h0:σ.aU 0=none):Wt (X.bw σ) σ H:=⟨λi s p e hp=>by
 have hi:i≠0:=λz=>by rw[z,h0]at e;cases e
 obtain⟨h1,c,ty,h2,h3⟩:=h.still i s p e hp;refine⟨h1,c,ty,h2,?_⟩;unfold tH.rd at h3;rw[aq hi]at h3;unfold tH.bw;simp only[j8];exact⟨h3,(Gh.Ss h.lt).2 ⟨i,s,p,e,hp,rfl⟩⟩,h.qA⟩
theorem GO.all{X:tH}{σ:Gh}{H:Array Obj}(h:GO X σ H):Wt X.B0 σ H:=⟨λi s p e hp=>by
 obtain⟨h1,c,ty,h2,h3⟩:=h.still i s p e hp;refine⟨h1,c,ty,h2,?_⟩;unfold tH.rd at h3;split at h3
 ·exact h3
 ·exact X.h1 _ _ _ h3,λl hl=>by
 obtain⟨a,e,c,ty,h1,h2,_⟩:=h.qA l hl;exact⟨a,e,c,ty,h1,X.h2 _ _ h2,by rw[X.h0];exact eC _⟩⟩
theorem GO.Su{B:j9}{X:tH}{σ:Gh}{H H':Array Obj}(h:GO X σ H)(s:fQ B H H'):GO X σ H':=
 ⟨h.lt,λi s' c e hc=>Nv (h.cl i s' c e hc) s.size,λi s' p e hp=>by
  obtain⟨h1,c,ty,h2,h3⟩:=h.still i s' p e hp;obtain⟨c',h4,_⟩:=s.cells _ _ _ _ h2;exact⟨h1,c',ty,h4,h3⟩,λl hl=>by
  obtain⟨a,rfl,c,ty,h2,h3⟩:=h.qA l hl;obtain⟨c',h4,_⟩:=s.cells _ _ _ _ h2;exact⟨a,rfl,c',ty,h4,h3⟩,Hf h.bot s.size⟩
def aD(P:bR)(Post:Value->World->Prop)(X:tH)(σ:Gh)(h:Nat)(os:Os)(out:Array (Nat×ByteArray)):Nat->aQ->Array Obj->Prop:=
 λd g H=>σ.aU h=none->GO X σ H->∀ w:World,w.heap=H->w.os=os->w.output=out->wH P Post σ h d g w
section
variable{P:bR}{Post:Value->World->Prop}{X:tH}{σ:Gh}{h:Nat}{os:Os}{out:Array (Nat×ByteArray)}
open Classical in
theorem aD.JX{B:j9}(hB:σ.aU h=none->∀ H,GO X σ H->Wt B σ H):ab P (h==0) B (aD P Post X σ h os out):=⟨λd g H hs step hole go w hw ho hu=>by
 have gok:=hB hole H go;have key:∀ w₁,Sm w w₁->∃ r:aQ×World×Array Event,stepG P (h==0) g w₁=.go r.1 r.2.1 r.2.2/\pO σ w₁ r.2.1 r.2.2/\wH P Post σ h (deafBehind d r.2.2) r.1 r.2.1:=λw₁ O1=>by have U2:w₁.heap=H:=O1.hp.trans hw;obtain⟨g',w',es,h1,h2,h3,h4,h5,h6⟩:=step w₁ U2;subst U2;exact⟨(g',w',es),h1,O0 gok h4 h5,h6 hole (go.Su h4) w' rfl (h2.trans (O1.os.trans ho)) (h3.trans (O1.out.trans hu))⟩
 refine wH.own (λw₁=>if q:Sm w w₁ then(Classical.choose (key w₁ q)).1 else g) (λw₁=>if q:Sm w w₁ then(Classical.choose (key w₁ q)).2.1 else w₁) (λw₁=>if q:Sm w w₁ then(Classical.choose (key w₁ q)).2.2 else#[]) hs (λw₁ q=>?_) (λw₁ q=>?_) (λw₁ q=>?_)
 ·simp only[yd q];exact(Jn (key w₁ q)).1
 ·simp only[yd q];exact(Jn (key w₁ q)).2.1
 ·simp only[yd q];exact(Jn (key w₁ q)).2.2⟩
theorem aD.dM:ab P true (X.bw σ) (aD P Post X σ 0 os out):=aD.JX (h:=0) λh0 H g=>g.zero h0
theorem aD.Sv(hh:h≠0):ab P false X.B0 (aD P Post X σ h os out):=by
 have:(h==0)=false:=by simpa using hh
 rw[<- this];exact aD.JX λ_ H g=>g.all
end
theorem ab.less{P:bR}{ao:Bool}{B B':j9}{R:Nat->aQ->Array Obj->Prop}(hb:BLe B B')(C:ab P ao B R):ab P ao B' R:=⟨λd g H hs step=>C.step d g H hs λw hw=>by
 obtain⟨g',w',es,h1,h2,h3,h4,h5,h6⟩:=step w hw;refine⟨g',w',es,h1,h2,h3,⟨h4.size,h4.chans,λb c ty fr hc=>?_⟩,λe he=>?_,h6⟩
 ·obtain⟨c',k1,k2⟩:=h4.cells b c ty fr hc;exact⟨c',k1,λj hj=>k2 j (hb.rd _ _ _ hj)⟩
 ·have i9:∀ b ty o,B'.rd b ty o=false->B.rd b ty o=false:=λb ty o z=>by
   cases q:B.rd b ty o with
   |false=>rfl
   |true=>rw[hb.rd _ _ _ q]at z;cases z
  have ui:∀ ty o,B'.sh ty o=false->B.sh ty o=false:=λty o z=>by
   cases q:B.sh ty o with
   |false=>rfl
   |true=>rw[hb.sh _ _ q]at z;cases z
  have hm:∀ m,kF B' w'.heap m->kF B w'.heap m:=λm z=>by
   cases m with
   |release a=>obtain⟨c,ty,k1,k2⟩:=z;exact⟨c,ty,k1,ui _ _ k2⟩
   |write a=>obtain⟨c,ty,k1,k2⟩:=z;exact⟨c,ty,k1,i9 _ _ _ k2⟩
   |_=>exact z
  have:=h5 e he;obtain⟨loc,wr,sy⟩:=e;cases loc with
  |cell a=>obtain⟨k1,c,ty,k2,k3,k4⟩:=this;exact⟨k1,c,ty,k2,λz=>i9 _ _ _ (k3 z),λz=>(k4 z).imp (λz=>Nv z hb.bot) (ui _ _)⟩
  |obj r=>exact this
  |mark m=>exact⟨hm m this.1,this.2⟩
  |_=>exact this.elim⟩
end
section
open Go.Conc
class ew(P:bR)(f:bM)(fu:outParam Func)(ex:outParam (Array Value->Sem Value)):Prop where
 func:P.funcs[f]? =some fu
 name:(fu.name== "runtime.NumGoroutine")=false
 body:fu.body.isNone=true
 nx:Extern.findNext fu=none
 fd:Extern.find fu=some ex
variable{P:bR}{ao:Bool}{B:j9}{R:Nat->aQ->Array Obj->Prop}{d:Nat}{As aO Bs L F:List HP}
variable{fn:bM}{kd:Kd}{n:Nat}{e:Nat->Value}{ds:List dW}{k:List Item}{cs:List Frame}
variable{ops:Array Oper}{i:Nat}{aa:List Nat}{dst:Option Nat}{t:Nat}{ty:aR}{pos:String}{af:Array Edge}{gd:Option (Nat×Bool)}
theorem ab.xt(C:ab P ao B R){f:bM}{fu:Func}{ex:Array Value->Sem Value}[b:ew P f fu ex]{fo:cU}{args:Array cU}{ga:Array aR}{vl:List Value}
  (h:∀ H,Sat As (hp H)->dC P B (ex vl.toArray) H d λv H' d'=>∃ aO,Sat aO (hp H')/\At R d' aO (gr fn kd n (di e dst v) ds (.inRegion ops aa::k) cs))
  (ho:aZ ops i=some ⟨dst,.call ⟨.value fo,args,ga⟩,ty,pos,af,gd⟩) (hw:aN ops n e gd=true) (hf:ev n e fo=.func (.func f) #[] #[]) (hv:args.toList.map (ev n e)=vl):Nw R d As fn kd n e ds ops i aa k cs:=by
 refine C.gen ho hw λH s=>?_;unfold execOp;simp only;refine ah ?_;have tC:args.map (ev n e)=vl.toArray:=by rw[<- hv,<- qv,ts]
 simp only[resolve,hf,Deferred.ofValue,tC];refine ah ?_;show dC P B _ _ _ _;simp only[Ab];show dC P B (invoke (.fn (.func f) #[]) vl.toArray) H d _;unfold invoke;simp only[w9];unfold callFunc;refine ah ?_;show dC P B _ H d _;simp only[program,dC];rw[b.func];simp only[b.name,b.body,eQ,gR,eY];refine ah ?_;simp only[mark,dC,kF,n0,mN];simp only[b.nx,b.fd];refine ah (oD (λv H' d' q=>?_) (h H s));obtain⟨aO,s',q⟩:=q;exact aA ⟨aO,s',q⟩
variable{f:bM}{fu:Func}{fo:cU}{args:Array cU}{ga:Array aR}{a:Addr}{b off:Nat}{c:Array Value}{el:aR}
theorem ab.Sw(C:ab P ao B R)[x:ew P f fu (λ_=>do mark .disable;pure Extern.Race.none_)]{vl:List Value}(ho:aZ ops i=some ⟨dst,.call ⟨.value fo,args,ga⟩,ty,pos,af,gd⟩)(h:At R (d+1) As (gr fn kd n (di e dst (.tuple #[])) ds (.inRegion ops aa::k) cs))
  (hw:aN ops n e gd=true:=by rfl) (hf:ev n e fo=.func (.func f) #[] #[]:=by rfl) (hv:args.toList.map (ev n e)=vl:=by rfl):Nw R d As fn kd n e ds ops i aa k cs:=
 C.xt (f:=f) (vl:=vl) (λH s=>by refine ah ?_;simp only[mark,dC,kF,n0,mN];exact aA ⟨As,s,h⟩) ho hw hf hv
theorem ab.Wu(C:ab P ao B R)[x:ew P f fu (λ_=>do mark .enable;pure Extern.Race.none_)]{vl:List Value}(ho:aZ ops i=some ⟨dst,.call ⟨.value fo,args,ga⟩,ty,pos,af,gd⟩)(h:At R (d-1) As (gr fn kd n (di e dst (.tuple #[])) ds (.inRegion ops aa::k) cs))
  (hw:aN ops n e gd=true:=by rfl) (hf:ev n e fo=.func (.func f) #[] #[]:=by rfl) (hv:args.toList.map (ev n e)=vl:=by rfl):Nw R d As fn kd n e ds ops i aa k cs:=
 C.xt (f:=f) (vl:=vl) (λH s=>by refine ah ?_;simp only[mark,dC,kF,n0,mN];exact aA ⟨As,s,h⟩) ho hw hf hv
theorem ab.xMk(C:ab P ao B R){mk:Addr->Mark}[x:ew P f fu (Extern.Race.marked mk)]{aS:List Value}(ho:aZ ops i=some ⟨dst,.call ⟨.value fo,args,ga⟩,ty,pos,af,gd⟩)(h:At R d As (gr fn kd n (di e dst (.tuple #[])) ds (.inRegion ops aa::k) cs))
  (hm:∀ H,Sat As (hp H)->kF B H (mk a)) (hd:n0 (mk a) d=d:=by rfl) (hw:aN ops n e gd=true:=by rfl) (hf:ev n e fo=.func (.func f) #[] #[]:=by rfl) (hv:args.toList.map (ev n e)=.pointer (some a)::aS:=by rfl):Nw R d As fn kd n e ds ops i aa k cs:=
 C.xt (f:=f) (vl:=.pointer (some a)::aS) (λH s=>by unfold Extern.Race.marked;refine ah (aA ?_);refine ah ?_;refine⟨hm H s,?_⟩;rw[hd];exact aA ⟨As,s,h⟩) ho hw hf hv
variable{kk:IntKind}{z y z':Int}
theorem yH{H:Array Obj}{Q:Value->Array Obj->Nat->Prop}(h1:hp H b=some (.cells c el (0,0)))(h3:c[off]? =some (.int kk z))(q:Q (.int kk z) H d):dC P B (Extern.Atomic.read (.int kk) ⟨b,off,none⟩) H d Q:=by unfold Extern.Atomic.read;refine ah (uI h1 rfl h3 (λh=>by cases h) ?_);simp only[eQ];exact aA q
theorem ab.xLd(C:ab P ao B R)[x:ew P f fu (Extern.Atomic.loadT (.int kk))](ho:aZ ops i=some ⟨dst,.call ⟨.value fo,args,ga⟩,ty,pos,af,gd⟩)(h:At R d As (gr fn kd n (di e dst (.int kk z)) ds (.inRegion ops aa::k) cs))
  (hh:Kn As b (.cells c el (0,0)):=by apply Has.kn;(repeat(first|with_reducible exact Has.head|with_reducible apply Has.tail));done) (hc:c[off]? =some (.int kk z):=by rfl) (hw:aN ops n e gd=true:=by rfl) (hf:ev n e fo=.func (.func f) #[] #[]:=by rfl) (hv:args.toList.map (ev n e)=[.pointer (some ⟨b,off,none⟩)]:=by rfl):Nw R d As fn kd n e ds ops i aa k cs:=
 C.xt (f:=f) (vl:=[.pointer (some ⟨b,off,none⟩)]) (λH s=>by show dC P B (Extern.Atomic.loadT (.int kk) #[.pointer (some ⟨b,off,none⟩)]) H d _;unfold Extern.Atomic.loadT;refine ah (aA ?_);exact yH (hh _ s) hc ⟨As,s,h⟩) ho hw hf hv
theorem pz{H:Array Obj}{Q:Option (Addr×aR)->Array Obj->Nat->Prop}(h1:hp H b=some (.cells c el (0,0)))(q:Q none H d):dC P B (viewAt b) H d Q:=by unfold viewAt;refine ah ?_;have K0:H[b]? =some (.cells c el (0,0)):=h1;simp only[shape,dC,tD,K0];exact q
theorem ES{H:Array Obj}{Q:Bool->Array Obj->Nat->Prop}(h1:hp H b=some (.cells c el (0,0)))(q:Q false H d):dC P B (Extern.Atomic.touchesFrozen ⟨b,off,none⟩) H d Q:=by unfold Extern.Atomic.touchesFrozen;refine ah (pz h1 ?_);have K0:H[b]? =some (.cells c el (0,0)):=h1;simp only[frozen,dC,xL,K0];simpa using q
theorem ab.aal(C:ab P ao B R)[x:ew P f fu (Extern.Atomic.casT (.int kk))](ho:aZ ops i=some ⟨dst,.call ⟨.value fo,args,ga⟩,ty,pos,af,gd⟩)(h:At R d aO (gr fn kd n (di e dst (.bool true)) ds (.inRegion ops aa::k) cs))
  (hv:args.toList.map (ev n e)=[.pointer (some ⟨b,off,none⟩),.int kk z,.int kk y]:=by rfl) {c':Array Value} (hu:qG b (.cells c el (0,0)) (.cells c' el (0,0)) As aO:=by repeat(first|with_reducible exact qG.head|with_reducible apply qG.tail)) (hc:c[off]? =some (.int kk z):=by rfl) (lf:c.setIfInBounds off (.int kk y)=c':=by first|(simp only[mL,Nat.reduceAdd,x8,xb,vD];done)|(simp only[mL,Nat.reduceAdd,x8,xb,vD];rfl)|rfl)
  (hr:B.rd b el off=false:=by rfl) (hw:aN ops n e gd=true:=by rfl) (hf:ev n e fo=.func (.func f) #[] #[]:=by rfl):Nw R d As fn kd n e ds ops i aa k cs:=
 C.xt (f:=f) (vl:=[.pointer (some ⟨b,off,none⟩),.int kk z,.int kk y]) (λH s=>by subst lf;have hh:=hu.has.get s;show dC P B (Extern.Atomic.casT (.int kk) #[.pointer (some ⟨b,off,none⟩),.int kk z,.int kk y]) H d _;unfold Extern.Atomic.casT;refine ah (aA ?_);refine ah (ES hh ?_);simp only[gR,eY];refine ah (yH hh hc ?_);refine ah (aA ?_);simp only[beq_self_eq_true,eQ];refine ah ?_;show dC P B (store _ _ _) H d _;refine⟨rfl,c,el,hh,rfl,(gQ.1 hc).1,hr,λz=>(by cases z),?_⟩;exact aA ⟨aO,hu.set s,h⟩) ho hw hf hv
theorem ab.aam(C:ab P ao B R)[x:ew P f fu (Extern.Atomic.update (Op.intArith .add) kk true)](ho:aZ ops i=some ⟨dst,.call ⟨.value fo,args,ga⟩,ty,pos,af,gd⟩)(h:At R d aO (gr fn kd n (di e dst (.int kk z')) ds (.inRegion ops aa::k) cs))
  (hv:args.toList.map (ev n e)=[.pointer (some ⟨b,off,none⟩),.int kk y]:=by rfl) {c':Array Value} (hu:qG b (.cells c el (0,0)) (.cells c' el (0,0)) As aO:=by repeat(first|with_reducible exact qG.head|with_reducible apply qG.tail)) (hc:c[off]? =some (.int kk z):=by rfl) (hz:kk.wrap (z+y)=z':=by rfl) (lf:c.setIfInBounds off (.int kk z')=c':=by first|(simp only[mL,Nat.reduceAdd,x8,xb,vD];done)|(simp only[mL,Nat.reduceAdd,x8,xb,vD];rfl)|rfl)
  (hr:B.rd b el off=false:=by rfl) (hw:aN ops n e gd=true:=by rfl) (hf:ev n e fo=.func (.func f) #[] #[]:=by rfl):Nw R d As fn kd n e ds ops i aa k cs:=
 C.xt (f:=f) (vl:=[.pointer (some ⟨b,off,none⟩),.int kk y]) (λH s=>by subst lf hz;have hh:=hu.has.get s;show dC P B (Extern.Atomic.update (Op.intArith .add) kk true #[.pointer (some ⟨b,off,none⟩),.int kk y]) H d _;unfold Extern.Atomic.update;refine ah (aA ?_);refine ah (yH hh hc ?_);refine ah (aA ?_);refine ah (aA ?_);refine ah (aA ?_);refine ah ?_;show dC P B (store _ _ _) H d _;refine⟨rfl,c,el,hh,rfl,(gQ.1 hc).1,hr,λz=>(by cases z),?_⟩;exact aA ⟨aO,hu.set s,h⟩) ho hw hf hv
class Up(P:bR)(t:aR):Prop where
 h:P.underlying t=some .unsafePointer
theorem ab.Sy(C:ab P ao B R){s1 s2 t1:aR}{z:Nat}{x:cU}{t':Nat}[c1:Pt P s1 t1][c2:Up P s2][c3:Cz P t1 z](ho:aZ ops i=some ⟨some t',.convert s1 s2 x,ty,pos,af,gd⟩)(h:At R d As (gr fn kd n (put e t' (.pointer (some ⟨b,off,none⟩))) ds (.inRegion ops aa::k) cs))
  (hz:z≠0:=by decide) (hx:ev n e x=.pointer (some ⟨b,off,none⟩):=by rfl) (hh:Kn As b (.cells c el (0,0)):=by apply Has.kn;(repeat(first|with_reducible exact Has.head|with_reducible apply Has.tail));done) (hl:off<c.size:=by first|decide|(simp;done)) (hw:aN ops n e gd=true:=by rfl):Nw R d As fn kd n e ds ops i aa k cs:=
 C.gen ho hw λH s=>by
  have hh:=hh _ s;have hH:H[b]? =some (.cells c el (0,0)):=hh;unfold execOp;simp only[hx];refine ah ?_;unfold convert;refine ah (dE c1.h B H d _ (ah (dE c2.h B H d _ ?_)));show dC P B (Conv.unsafePointer s1 s2 (.pointer (some ⟨b,off,none⟩))) H d _;unfold Conv.unsafePointer;refine ah (dE c1.h B H d _ (ah (dE c2.h B H d _ ?_)));simp only;refine ah ?_;unfold Conv.seenAt;refine ah (pz hh ?_);refine aA ?_;refine ah ?_;unfold cellsIn;refine ah ?_;simp only[shape,dC,tD,hH];refine aA ?_;refine ah (ik B H d _ ?_);have e1:¬ (decide (off>=c.size)&&(none:Option Nat).isNone)=true:=by simp;omega
  simp only[e1,Bool.or_false,gR,eY];rw[aq (by simp[hz,hl])];exact aA (aA ⟨As,s,h⟩)
end
end Go.Sl
