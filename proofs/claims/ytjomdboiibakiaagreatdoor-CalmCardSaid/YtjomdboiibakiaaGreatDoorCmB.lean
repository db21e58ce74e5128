/-
  Texts that the proof needs, joined: part 2.
-/
import Derived.Test.YtjomdboiibakiaaGreatDoorCmA
import Derived.Laws.BitsLemmas
import Derived.Laws.Append
import Derived.Orders
set_option linter.unusedSimpArgs false
set_option linter.unusedVariables false
set_option maxHeartbeats 4000000
namespace Go.Sl
open Go.Proofs.Tryz
section
open Go.Conc
class Cz(P:bL)(t:aQ)(z:outParam Nat):Prop where
 h:∃ i,P.info? t=some i/\i.size=z
class Bz(P:bL)(t:aQ)(z:outParam Nat):Prop where
 h:∃ i,P.info? t=some i/\i.bytes=z
class Zv(P:bL)(t:aQ)(v:outParam Value):Prop where
 h:∃ i,P.info? t=some i/\i.zero=some v
def aaz:TypeDesc->Bool|.struct _=>true|.array _ _=>true|_=>false
class Ag(P:bL)(t:aQ)(b:outParam Bool):Prop where
 h:∃ u,P.underlying t=some u/\aaz u=b
class Fl(P:bL)(s f:Nat)(off:outParam Nat):Prop where
 h:∃ fs fl z,P.underlying s=some (.struct fs)/\fs[f]? =some fl/\fl.offset=off/\(∃ i,P.info? fl.type=some i/\i.size=z)/\z≠0
class El(P:bL)(t:aQ)(el:outParam aQ):Prop where
 h:P.underlying t=some (.slice el)
class Mp(P:bL)(t:aQ)(key el:outParam aQ):Prop where
 h:P.underlying t=some (.map key el)
class Ik(P:bL)(t:aQ)(k:outParam IntKind):Prop where
 h:P.underlying t=some (.int k)
class Pt(P:bL)(t:aQ)(el:outParam aQ):Prop where
 h:P.underlying t=some (.pointer el)
def TS:TypeDesc->Bool|.interface _=>true|_=>false
class NI(P:bL)(t:aQ):Prop where
 h:∃ u,P.underlying t=some u/\TS u=false
theorem ax{P:bL}{t:aQ}{i:TypeInfo}(h:P.types[t]? =some i):P.info? t=some i:=by have:=(gJ.1 h).1;show(if t<P.types.size then P.types[t]? else _)=_;rw[aK this,h]
variable{P:bL}{B:jW}{α β:Type}{H:Array Obj}{d:Nat}
theorem aA{a:α}{Q:α->Array Obj->Nat->Prop}(h:Q a H d):di P B (pure a) H d Q:=h
theorem ir{t:aQ}{i:TypeInfo}(h:P.info? t=some i):Pu P (typeInfo t) i:=λB H d Q q=>by unfold typeInfo;refine ah ?_;show di P B _ _ _ _;simp only[program,di,h];exact q
theorem dz{t:aQ}{u:TypeDesc}(h:P.underlying t=some u):Pu P (underlying t) u:=λB H d Q q=>by unfold underlying;refine ah ?_;show di P B _ _ _ _;simp only[program,di,h];exact q
theorem gW{t:aQ}{z:Nat}[c:Cz P t z]:Pu P (sizeOf t) z:=λB H d Q q=>by obtain⟨i,h,rfl⟩:=c.h;unfold sizeOf;exact ah (ir h B H d _ q)
theorem nb{t:aQ}{v:Value}[c:Zv P t v]:Pu P (zeroValue t) v:=λB H d Q q=>by obtain⟨i,h,hz⟩:=c.h;unfold zeroValue;refine ah (ir h B H d _ ?_);rw[hz];exact q
theorem xo{t:aQ}{b:Bool}[c:Ag P t b]:Pu P (isAgg t) b:=λB H d Q q=>by obtain⟨u,h,hb⟩:=c.h;unfold isAgg;refine ah (dz h B H d _ ?_);subst hb;cases u<;>exact q
theorem tQ{m:Mode}{a:Addr}{c:Array Value}{ty:aQ}{fr:Nat×Nat}{v:Value}{Q:Value->Array Obj->Nat->Prop}(h1:hp H a.block=some (.cells c ty fr))(h2:a.spot=none)(h3:c[a.off]? =some v)(h4:m=.plain->B.sh ty a.off=false)(h:Q v H d):di P B (load a m) H d Q:=
 ⟨c,ty,v,⟨fr,h1⟩,h2,h3,λe=>.inr (h4 e),h⟩
theorem z7{m:Mode}{a:Addr}{c:Array Value}{ty:aQ}{fr:Nat×Nat}{v:Value}{Q:Value->Array Obj->Nat->Prop}(h1:hp H a.block=some (.cells c ty fr))(h2:a.spot=none)(h3:c[a.off]? =some v)(h4:a.block<B.bot)(h:Q v H d):di P B (load a m) H d Q:=
 ⟨c,ty,v,⟨fr,h1⟩,h2,h3,λ_=>.inl h4,h⟩
theorem add_zero(a:Addr):a.add 0=a:=by simp[Addr.add]
theorem gK(b off n:Nat):(⟨b,off,none⟩:Addr).add n=⟨b,off+n,none⟩:=by
 unfold Addr.add;split
 ·rename_i h;subst h;rfl
 ·rfl
theorem ng{b off:Nat}{c:Array Value}{ty:aQ}{fr:Nat×Nat}(h1:hp H b=some (.cells c ty fr)):∀ (z i:Nat) (acc:Array Value) {Q:Array Value->Array Obj->Nat->Prop},off+i+z<=c.size->(∀ j,B.sh ty j=false)->Q (acc++c.extract (off+i) (off+i+z)) H d->di P B (loadCellsFrom ⟨b,off,none⟩ i z acc) H d Q
 |0,i,acc,Q,_,_,q=>by
  unfold loadCellsFrom;refine aA ?_;have:c.extract (off+i) (off+i+0)=#[]:=by simp;omega
  rw[this,vV]at q;exact q
 |z+1,i,acc,Q,hz,hs,q=>by
  unfold loadCellsFrom;refine ah ?_;have dA:off+i<c.size:=az;refine tQ (c:=c) (ty:=ty) (v:=c[off+i]) (by rw[gK];exact h1) (by rw[gK]) (by rw[gK];exact CA dA) (λ_=>hs _) ?_;refine ng h1 z (i+1) _ az hs ?_;have:acc.push c[off+i]++c.extract (off+(i+1)) (off+(i+1)+z)=acc++c.extract (off+i) (off+i+(z+1)):=by
   apply re;intro j;simp only[Tq,I6,Ly,Tr];by_cases h1:j<acc.size
   ·simp[h1,Nat.lt_succ_of_lt h1,tw h1]
   ·by_cases h2:j=acc.size
    ·subst h2;simp;omega
    ·have:¬ j<acc.size+1:=az;simp only[this,h1,fB,h2];have e1:off+(i+1)+(j-(acc.size+1))=off+i+(j-acc.size):=az;rw[e1]
     congr 1
     simp only[eq_iff_iff];omega
  rw[this];exact q
theorem rM{b off z:Nat}{c:Array Value}{ty:aQ}{fr:Nat×Nat}{Q:Array Value->Array Obj->Nat->Prop}(h1:hp H b=some (.cells c ty fr))(hz:off+z<=c.size)(hs:∀ j,B.sh ty j=false)(q:Q (c.extract off (off+z)) H d):di P B (loadCells ⟨b,off,none⟩ z) H d Q:=by unfold loadCells;refine ng (off:=off) h1 z 0 #[] az hs ?_;simpa using q
theorem gy{t:aQ}[Ag P t false]{b off:Nat}{c:Array Value}{ty:aQ}{fr:Nat×Nat}{v:Value}{Q:Value->Array Obj->Nat->Prop}(h1:hp H b=some (.cells c ty fr))(h3:c[off]? =some v)(h4:B.sh ty off=false)(h:Q v H d):di P B (loadVar t ⟨b,off,none⟩) H d Q:=by unfold loadVar;exact ah (xo B H d _ (tQ h1 rfl h3 (λ_=>h4) h))
theorem Bt{t:aQ}[Ag P t false]{b off:Nat}{c:Array Value}{ty:aQ}{fr:Nat×Nat}{v:Value}{Q:Value->Array Obj->Nat->Prop}(h1:hp H b=some (.cells c ty fr))(h3:c[off]? =some v)(h4:b<B.bot)(h:Q v H d):di P B (loadVar t ⟨b,off,none⟩) H d Q:=by unfold loadVar;exact ah (xo B H d _ (z7 h1 rfl h3 h4 h))
theorem lW{t:aQ}{z:Nat}[Ag P t true][Cz P t z]{b off:Nat}{c:Array Value}{ty:aQ}{fr:Nat×Nat}{Q:Value->Array Obj->Nat->Prop}(h1:hp H b=some (.cells c ty fr))(hz:off+z<=c.size)(hs:∀ j,B.sh ty j=false)(h:Q (.agg (c.extract off (off+z))) H d):di P B (loadVar t ⟨b,off,none⟩) H d Q:=by unfold loadVar;refine ah (xo B H d _ ?_);simp only[eM];exact ah (gW B H d _ (ah (rM h1 hz hs h)))
def wr(c:Array Value)(off:Nat):List Value->Array Value
 |[]=>c
 |v::l=>wr (c.setIfInBounds off v) (off+1) l
theorem tR:∀ (l:List Value) (c:Array Value) (off:Nat),(wr c off l).size=c.size
 |[],c,off=>rfl
 |v::l,c,off=>by unfold wr;rw[tR l];simp
theorem TT{b:Nat}{o o':Obj}(h:hp H b=some o):hp (H.setIfInBounds b o') b=some o':=by unfold hp at h⊢;exact jM (gJ.1 h).1
theorem Jn{b:Nat}{o o':Obj}:(H.setIfInBounds b o).setIfInBounds b o'=H.setIfInBounds b o':=by
 apply re;intro i;simp only[WO];by_cases h:b=i
 ·subst h;simp
 ·simp[h]
theorem ME{b:Nat}{o:Obj}(h:hp H b=some o):H.setIfInBounds b o=H:=by
 apply re;intro i;simp only[WO];by_cases z:b=i
 ·subst z;unfold hp at h;have:=(gJ.1 h).1;rw[aK rfl,aK this,h]
 ·simp[z]
theorem j4{b off:Nat}{ty:aQ}:∀ (l:List Value) (i:Nat) {H:Array Obj} {c:Array Value} {Q:Unit->Array Obj->Nat->Prop},hp H b=some (.cells c ty (0,0))->off+i+l.length<=c.size->(∀ v∈l,eA v=true)->(∀ j,off+i<=j->j<off+i+l.length->B.rd b ty j=false/\B.sh ty j=false)->
  Q () (H.setIfInBounds b (.cells (wr c (off+i) l) ty (0,0))) d->di P B (storeCells ⟨b,off,none⟩ l i) H d Q
 |[],i,H,c,Q,h1,_,_,_,q=>by unfold storeCells;refine aA ?_;have:H.setIfInBounds b (.cells (wr c (off+i) []) ty (0,0))=H:=ME h1;rw[this]at q;exact q
 |v::l,i,H,c,Q,h1,hz,hv,hb,q=>by unfold storeCells;refine ah ?_;simp only[jc]at hz hb;have y2:=hb (off+i) (gZ _) az;rw[gK];refine⟨hv v (iz ..),c,ty,h1,rfl,by simp;omega,y2.1,λ_=>y2.2,?_⟩;refine j4 (off:=off) l (i+1) (TT h1) (by simp;omega) (λv sk=>hv v (gb _ sk)) (λj h1 h2=>hb j az az) ?_;rw[Jn];exact q
theorem oK{t:aQ}{z:Nat}[Cz P t z]{b off:Nat}{c:Array Value}{ty:aQ}{v:Value}{Q:Unit->Array Obj->Nat->Prop}(h1:hp H b=some (.cells c ty (0,0)))(hsz:v.cells.size=z)(hz:off+z<=c.size)(hv:∀ x∈v.cells,eA x=true)
  (hb:∀ j,off<=j->j<off+z->B.rd b ty j=false/\B.sh ty j=false) (q:Q () (H.setIfInBounds b (.cells (wr c off v.cells.toList) ty (0,0))) d):di P B (storeVar t ⟨b,off,none⟩ v) H d Q:=by
 unfold storeVar;refine ah (gW B H d _ ?_);rw[ao (by rw[hsz];simp)];refine j4 (off:=off) v.cells.toList 0 h1 (by simp[hsz];omega) (λx hx=>hv x (Bf.1 hx)) (λj h2 h3=>hb j az (by simp[hsz]at h3;omega)) q
variable{ak:Bool}{R:Nat->aP->Array Obj->Prop}{As aN:List HP}
variable{fn:bI}{kd:Kd}{n:Nat}{e:Nat->Value}{ds:List dQ}{k:List Item}{cs:List Frame}
variable{ops:Array Oper}{i:Nat}{aa:List Nat}{dst:Option Nat}{t:Nat}{ty:aQ}{pos:String}{af:Array Edge}{gd:Option (Nat×Bool)}{x y:cA}{v:Value}{u:Array Value}{b off:Nat}{c:Array Value}{el tt:aQ}
theorem ab.mv(C:ab P ak B R)(ho:aZ ops i=some ⟨some t,.move x,ty,pos,af,gd⟩)(h:At R d As (gr fn kd n (put e t v) ds (.inRegion ops aa::k) cs))
  (hx:ev n e x=v:=by conv=>{lhs;whnf}) (hw:aM ops n e gd=true:=by rfl):At R d As (gr fn kd n e ds (.inRegion ops (i::aa)::k) cs):=
 C.val ho hw (λ_ _ _ _ q=>by unfold execOp;simp only[hx];exact q) h
theorem ab.kH(C:ab P ak B R)(ho:aZ ops i=some ⟨some t,.assign x,ty,pos,af,gd⟩)(h:At R d As (gr fn kd n (put e t v) ds (.inRegion ops aa::k) cs))
  (hx:ev n e x=v:=by conv=>{lhs;whnf}) (hw:aM ops n e gd=true:=by rfl):At R d As (gr fn kd n e ds (.inRegion ops (i::aa)::k) cs):=
 C.val ho hw (λ_ _ _ _ q=>by unfold execOp;simp only[hx];exact q) h
theorem ab.nc(C:ab P ak B R){a:Addr}(ho:aZ ops i=some ⟨some t,.nilCheck x,ty,pos,af,gd⟩)(h:At R d As (gr fn kd n (put e t (.pointer (some a))) ds (.inRegion ops aa::k) cs))
  (hx:ev n e x=.pointer (some a):=by rfl) (hw:aM ops n e gd=true:=by rfl):At R d As (gr fn kd n e ds (.inRegion ops (i::aa)::k) cs):=
 C.val ho hw (λ_ _ _ _ q=>by unfold execOp;simp only[hx];exact q) h
theorem ab.fa(C:ab P ak B R){s f o:Nat}[c:Fl P s f o](ho:aZ ops i=some ⟨some t,.fieldAddr s x f,ty,pos,af,gd⟩)(h:At R d As (gr fn kd n (put e t (.pointer (some ⟨b,off+o,none⟩))) ds (.inRegion ops aa::k) cs))
  (hx:ev n e x=.pointer (some ⟨b,off,none⟩):=by rfl) (hw:aM ops n e gd=true:=by rfl):At R d As (gr fn kd n e ds (.inRegion ops (i::aa)::k) cs):=
 C.val ho hw (λB H d Q q=>by obtain⟨fs,fl,z,h1,h2,rfl,⟨inf,h4,h5⟩,h6⟩:=c.h;unfold execOp;simp only[hx,Instr.fieldAt];refine ah (ah (dz h1 B H d _ ?_));simp only[h2,Instr.sureAddr];refine ah (aA ?_);unfold fieldPlace sizeOf;refine ah (ah (ah (ir h4 B H d _ (aA ?_))));rw[h5,ao h6,gK];exact q) h
theorem ab.ld(C:ab P ak B R)[Ag P tt false](ho:aZ ops i=some ⟨some t,.load tt x,ty,pos,af,gd⟩)(h:At R d As (gr fn kd n (put e t v) ds (.inRegion ops aa::k) cs))
  (hx:ev n e x=.pointer (some ⟨b,off,none⟩):=by rfl) (hh:Kn As b (.cells c el (0,0)):=by first|(apply Has.kn;(repeat(first|with_reducible exact Has.head|with_reducible apply Has.tail));done)|(apply Ext.kn;assumption;(repeat(first|with_reducible exact Has.head|with_reducible apply Has.tail));done)) {v0:Value} (hc:c[off]? =some v0:=by rfl) (nK:v0=v:=by first|((conv=>{lhs;whnf});done)|rfl) (hs:B.sh el off=false:=by rfl) (hw:aM ops n e gd=true:=by rfl):At R d As (gr fn kd n e ds (.inRegion ops (i::aa)::k) cs):=
 C.gen ho hw λH s=>by unfold execOp;simp only[hx,Instr.loadAt,Instr.sureAddr];exact ah (ah (aA (gy (hh _ s) (nK▸hc) hs ⟨As,s,h⟩)))
theorem ab.V9(C:ab P ak B R){z:Nat}[Ag P tt true][Cz P tt z](ho:aZ ops i=some ⟨some t,.load tt x,ty,pos,af,gd⟩)(h:At R d As (gr fn kd n (put e t (.agg u)) ds (.inRegion ops aa::k) cs))
  (hx:ev n e x=.pointer (some ⟨b,off,none⟩):=by rfl) (hh:Kn As b (.cells c el (0,0)):=by first|(apply Has.kn;(repeat(first|with_reducible exact Has.head|with_reducible apply Has.tail));done)|(apply Ext.kn;assumption;(repeat(first|with_reducible exact Has.head|with_reducible apply Has.tail));done)) (hz:off+z<=c.size:=by first|decide|(simp only[mj,Nat.reduceAdd,PE,jc,tA];decide)) (hc:c.extract off (off+z)=u:=by first|(simp only[mj,Nat.reduceAdd,PF,PG,zg,Tt,List.take_succ_cons,List.take_zero,Nat.sub_zero,Nat.reduceSub];done)|(simp only[mj,Nat.reduceAdd,PF,PG,zg,Tt,List.take_succ_cons,List.take_zero,Nat.sub_zero,Nat.reduceSub];rfl)|rfl) (hs:∀ j,B.sh el j=false:=by intro j;rfl) (hw:aM ops n e gd=true:=by rfl):At R d As (gr fn kd n e ds (.inRegion ops (i::aa)::k) cs):=
 C.gen ho hw λH s=>by unfold execOp;simp only[hx,Instr.loadAt,Instr.sureAddr];exact ah (ah (aA (lW (hh _ s) hz hs ⟨As,s,hc▸h⟩)))
theorem ab.st(C:ab P ak B R)[Cz P tt 1](ho:aZ ops i=some ⟨none,.store tt x y,ty,pos,af,gd⟩)(h:At R d aN (gr fn kd n e ds (.inRegion ops aa::k) cs))
  (hx:ev n e x=.pointer (some ⟨b,off,none⟩):=by rfl) (hy:ev n e y=v:=by conv=>{lhs;whnf}) (hv:eA v=true:=by rfl)
  {c':Array Value} (hu:p8 b (.cells c el (0,0)) (.cells c' el (0,0)) As aN:=by repeat(first|with_reducible exact p8.head|with_reducible apply p8.tail)) (o5:c.setIfInBounds off v=c':=by first|(simp only[mj,Nat.reduceAdd,wZ,vX,uT];done)|(simp only[mj,Nat.reduceAdd,wZ,vX,uT];rfl)|rfl) (hz:off<c.size:=by first|decide|(simp only[mj,Nat.reduceAdd,PE,jc,tA];decide)) (hr:B.rd b el off=false:=by rfl) (hs:B.sh el off=false:=by rfl) (hw:aM ops n e gd=true:=by rfl):At R d As (gr fn kd n e ds (.inRegion ops (i::aa)::k) cs):=
 C.gen ho hw λH s=>by
  subst o5;have F8:v.cells=#[v]:=by cases v<;>first|rfl|(simp[eA]at hv)
  unfold execOp;simp only[hx,hy,Instr.storeAt,Instr.sureAddr];refine ah (ah (aA (oK (hu.has.get s) (by rw[F8];rfl) hz (λz MF=>by rw[F8]at MF;simp at MF;subst MF;exact hv) (λj h1 h2=>by have:j=off:=az;subst this;exact⟨hr,hs⟩) ?_)))
  refine⟨aN,?_,h⟩;rw[F8];exact hu.set s
theorem ab.pd(C:ab P ak B R){z:Nat}[Cz P tt z]{xs:Array Value}(ho:aZ ops i=some ⟨none,.store tt x y,ty,pos,af,gd⟩)(h:At R d aN (gr fn kd n e ds (.inRegion ops aa::k) cs))
  (hx:ev n e x=.pointer (some ⟨b,off,none⟩):=by rfl) (hy:ev n e y=.agg xs:=by rfl) (hv:∀ v∈xs.toList,eA v=true:=by simp[eA]) (TU:xs.size=z:=by rfl)
  {c':Array Value} (hu:p8 b (.cells c el (0,0)) (.cells c' el (0,0)) As aN:=by repeat(first|with_reducible exact p8.head|with_reducible apply p8.tail)) (o5:wr c off xs.toList=c':=by first|(simp only[mj,Nat.reduceAdd,wZ,vX,uT,wr,PH];done)|(simp only[mj,Nat.reduceAdd,wZ,vX,uT,wr,PH];rfl)|rfl) (hz:off+z<=c.size:=by first|decide|(simp only[mj,Nat.reduceAdd,PE,jc,tA];decide)) (hr:∀ j,B.rd b el j=false:=by intro j;rfl) (hs:∀ j,B.sh el j=false:=by intro j;rfl) (hw:aM ops n e gd=true:=by rfl):At R d As (gr fn kd n e ds (.inRegion ops (i::aa)::k) cs):=
 C.gen ho hw λH s=>by subst o5;unfold execOp;simp only[hx,hy,Instr.storeAt,Instr.sureAddr];exact ah (ah (aA (oK (v:=.agg xs) (hu.has.get s) TU hz (λz MF=>hv z (Bf.2 MF)) (λj h1 h2=>⟨hr j,hs j⟩) ⟨aN,hu.set s,h⟩)))
theorem ab.ia(C:ab P ak B R){z len cap:Nat}{kk:IntKind}{j:Int}{o:Nat}[c:El P tt el][Cz P el z](ho:aZ ops i=some ⟨some t,.indexAddr tt x y,ty,pos,af,gd⟩)(h:At R d As (gr fn kd n (put e t (.pointer (some ⟨b,o,none⟩))) ds (.inRegion ops aa::k) cs))
  (hx:ev n e x=.slice (some ⟨b,off,none⟩) len cap:=by rfl) (hy:ev n e y=.int kk j:=by rfl) (hj:0<=j/\j<len:=by constructor<;>omega) (hoff:off+j.toNat*z=o:=by rfl) (hw:aM ops n e gd=true:=by rfl):At R d As (gr fn kd n e ds (.inRegion ops (i::aa)::k) cs):=
 C.val ho hw (λB H d Q q=>by unfold execOp;simp only[hx,hy,Instr.indexAt,asIntOf];refine ah (ah (aA ?_));refine ah (dz c.h B H d _ ?_);refine ah (aA ?_);refine ah (dz c.h B H d _ ?_);simp only;rw[aK hj];refine ah (gW B H d _ (aA ?_));rw[gK,hoff];exact q) h
theorem xp{r:Int}(h1: -9223372036854775808<=r)(h2:r<=9223372036854775807):IntKind.i64.wrap r=r:=by rw[IntKind.wrap_i64];omega
theorem w32{r:Int}(h1: -2147483648<=r)(h2:r<=2147483647):IntKind.i32.wrap r=r:=by rw[IntKind.wrap_i32];omega
theorem wu8{r:Int}(h1:0<=r)(h2:r<=255):IntKind.u8.wrap r=r:=by rw[IntKind.wrap_u8];omega
variable{z:cA}{u:Value}{t2:aQ}
variable{kk:IntKind}{p q r:Int}
theorem j5{op:BinOp}{k1 k2:IntKind}:Pu P (eqGuard op tt x y (.int k1 p) (.int k2 q)) ():=by cases op<;>exact λ_ _ _ _ h=>h
abbrev Nx(R:Nat->aP->Array Obj->Prop)(d:Nat)(As:List HP)(fn:bI)(kd:Kd)(n:Nat)(e:Nat->Value)(ds:List dQ)(ops:Array Oper)(aa:List Nat)(k:List Item)(cs:List Frame)(t:Nat)(v:Value):Prop:=
 At R d As (gr fn kd n (put e t v) ds (.inRegion ops aa::k) cs)
abbrev Nw(R:Nat->aP->Array Obj->Prop)(d:Nat)(As:List HP)(fn:bI)(kd:Kd)(n:Nat)(e:Nat->Value)(ds:List dQ)(ops:Array Oper)(i:Nat)(aa:List Nat)(k:List Item)(cs:List Frame):Prop:=
 At R d As (gr fn kd n e ds (.inRegion ops (i::aa)::k) cs)
def arith(op:BinOp)(p q:Int):Option Int:=match op with|.add=>some (p+q)|.sub=>some (p-q)|.mul=>some (p*q)|_=>none
theorem MG{op:BinOp}(h:arith op p q=some r)(hr:kk.wrap r=r):Pu P (binOp op tt (.int kk p) (.int kk q)) (.int kk r):=by
 intro B H d Q q';cases op<;>simp only[arith,y0]at h<;>first|(cases h;done)|skip
 all_goals(subst h;unfold binOp;simp only[ne_eq,LB,fB,Op.intArith,hr];exact q')
theorem ab.ar(C:ab P ak B R){op:BinOp}(ho:aZ ops i=some ⟨some t,.binOp op tt x y t2,ty,pos,af,gd⟩)(h:Nx R d As fn kd n e ds ops aa k cs t (.int kk r))
  (hx:ev n e x=.int kk p:=by rfl) (hy:ev n e y=.int kk q:=by rfl) (ha:arith op p q=some r:=by rfl) (hr:kk.wrap r=r:=by first|exact xp az az|exact w32 az az|exact wu8 az az) (hw:aM ops n e gd=true:=by rfl):Nw R d As fn kd n e ds ops i aa k cs:=
 C.val ho hw (λB H d Q q'=>by unfold execOp;simp only[hx,hy];exact ah (ah (j5 B H d _ (MG ha hr B H d _ q')))) h
theorem ab.quo(C:ab P ak B R)(ho:aZ ops i=some ⟨some t,.binOp .quo tt x y t2,ty,pos,af,gd⟩)(h:Nx R d As fn kd n e ds ops aa k cs t (.int kk (p.tdiv q)))
  (hx:ev n e x=.int kk p:=by rfl) (hy:ev n e y=.int kk q:=by rfl) (h0:q≠0:=by first|decide|omega) (hr:kk.wrap (p.tdiv q)=p.tdiv q:=by first|exact xp az az) (hw:aM ops n e gd=true:=by rfl):Nw R d As fn kd n e ds ops i aa k cs:=
 C.val ho hw (λB H d Q q'=>by unfold execOp;simp only[hx,hy];refine ah (ah (j5 B H d _ ?_));unfold binOp;simp only[ne_eq,LB,fB,Op.intDiv,ao h0,hr];exact q') h
theorem ab.rem(C:ab P ak B R)(ho:aZ ops i=some ⟨some t,.binOp .rem tt x y t2,ty,pos,af,gd⟩)(h:Nx R d As fn kd n e ds ops aa k cs t (.int kk (p.tmod q)))
  (hx:ev n e x=.int kk p:=by rfl) (hy:ev n e y=.int kk q:=by rfl) (h0:q≠0:=by first|decide|omega) (hw:aM ops n e gd=true:=by rfl):Nw R d As fn kd n e ds ops i aa k cs:=
 C.val ho hw (λB H d Q q'=>by unfold execOp;simp only[hx,hy];refine ah (ah (j5 B H d _ ?_));unfold binOp;simp only[ne_eq,LB,fB,Op.intDiv,ao h0];exact q') h
def Dk(op:BinOp)(p q:Int):Option Prop:=match op with|.eql=>some (p=q)|.neq=>some (p≠q)|.lss=>some (p<q)|.leq=>some (p<=q)|.gtr=>some (p>q)|.geq=>some (p>=q)|_=>none
def Dl(op:BinOp)(p q:Int):Bool:=match op with|.eql=>p==q|.neq=>p != q|.lss=>p<q|.leq=>p<=q|.gtr=>p>q|.geq=>p>=q|_=>false
theorem H5{op:BinOp}{φ:Prop}(h:Dk op p q=some φ):Dl op p q=true↔φ:=by cases op<;>simp only[Dk,y0]at h<;>first|(cases h;done)|(subst h;simp[Dl])
theorem MH{op:BinOp}{φ:Prop}(h:Dk op p q=some φ):Pu P (binOp op tt (.int kk p) (.int kk q)) (.bool (Dl op p q)):=by
 intro B H d Q q';cases op<;>simp only[Dk,y0]at h<;>first|(cases h;done)|skip
 all_goals(unfold binOp;simp only[ne_eq,LB,fB,Op.intCmp];exact q')
theorem ab.cmp(C:ab P ak B R){op:BinOp}{φ:Prop}(ho:aZ ops i=some ⟨some t,.binOp op tt x y t2,ty,pos,af,gd⟩)(h1:φ->Nx R d As fn kd n e ds ops aa k cs t (.bool true))(h2:¬ φ->Nx R d As fn kd n e ds ops aa k cs t (.bool false))
  (hx:ev n e x=.int kk p:=by rfl) (hy:ev n e y=.int kk q:=by rfl) (hc:Dk op p q=some φ:=by rfl) (hw:aM ops n e gd=true:=by rfl):Nw R d As fn kd n e ds ops i aa k cs:=by
 have key:Nx R d As fn kd n e ds ops aa k cs t (.bool (Dl op p q)):=by
  cases hb:Dl op p q with
  |true=>exact h1 ((H5 hc).1 hb)
  |false=>exact h2 λf=>by rw[(H5 hc).2 f]at hb;cases hb
 exact C.val ho hw (λB H d Q q'=>by unfold execOp;simp only[hx,hy];exact ah (ah (j5 B H d _ (MH hc B H d _ q')))) key
theorem ab.fe(C:ab P ak B R){op:BinOp}{φ:Prop}(ho:aZ ops i=some ⟨some t,.binOp op tt x y t2,ty,pos,af,gd⟩)(h:Nx R d As fn kd n e ds ops aa k cs t (.bool true))
  (hx:ev n e x=.int kk p:=by rfl) (hy:ev n e y=.int kk q:=by rfl) (hc:Dk op p q=some φ:=by rfl) (hf:φ:=by first|decide|omega) (hw:aM ops n e gd=true:=by rfl):Nw R d As fn kd n e ds ops i aa k cs:=
 C.cmp ho (λ_=>h) (λf=>absurd hf f) hx hy hc hw
theorem ab.dP(C:ab P ak B R){op:BinOp}{φ:Prop}(ho:aZ ops i=some ⟨some t,.binOp op tt x y t2,ty,pos,af,gd⟩)(h:Nx R d As fn kd n e ds ops aa k cs t (.bool false))
  (hx:ev n e x=.int kk p:=by rfl) (hy:ev n e y=.int kk q:=by rfl) (hc:Dk op p q=some φ:=by rfl) (hf:¬ φ:=by first|decide|omega) (hw:aM ops n e gd=true:=by rfl):Nw R d As fn kd n e ds ops i aa k cs:=
 C.cmp ho (λf=>absurd f hf) (λ_=>h) hx hy hc hw
theorem ab.aaA(C:ab P ak B R){op:BinOp}{φ:Prop}(ho:aZ ops i=some ⟨some t,.binOp op tt x y t2,ty,pos,af,gd⟩)(h:Nx R d As fn kd n e ds ops aa k cs t (.bool (Dl op p q)))
  (hx:ev n e x=.int kk p:=by rfl) (hy:ev n e y=.int kk q:=by rfl) (hc:Dk op p q=some φ:=by rfl) (hw:aM ops n e gd=true:=by rfl):Nw R d As fn kd n e ds ops i aa k cs:=
 C.val ho hw (λB H d Q q'=>by unfold execOp;simp only[hx,hy];exact ah (ah (j5 B H d _ (MH hc B H d _ q')))) h
theorem ab.nt(C:ab P ak B R){b:Bool}(ho:aZ ops i=some ⟨some t,.unOp .not tt x,ty,pos,af,gd⟩)(h:Nx R d As fn kd n e ds ops aa k cs t (.bool (!b)))
  (hx:ev n e x=.bool b:=by rfl) (hw:aM ops n e gd=true:=by rfl):Nw R d As fn kd n e ds ops i aa k cs:=
 C.val ho hw (λB H d Q q'=>by unfold execOp;simp only[hx];exact q') h
theorem ab.ngI(C:ab P ak B R)(ho:aZ ops i=some ⟨some t,.unOp .neg tt x,ty,pos,af,gd⟩)(h:Nx R d As fn kd n e ds ops aa k cs t (.int kk r))
  (hx:ev n e x=.int kk p:=by rfl) (hr:kk.wrap (0-p)=r:=by exact xp az az) (hw:aM ops n e gd=true:=by rfl):Nw R d As fn kd n e ds ops i aa k cs:=
 C.val ho hw (λB H d Q q'=>by unfold execOp;simp only[hx,Op.unary,Op.intArith,hr];exact q') h
theorem ab.pk(C:ab P ak B R){b:Bool}(ho:aZ ops i=some ⟨some t,.pick x y z,ty,pos,af,gd⟩)(h:Nx R d As fn kd n e ds ops aa k cs t v)
  (hx:ev n e x=.bool b:=by rfl) (hv:(if b then ev n e y else ev n e z)=v:=by conv=>{lhs;whnf}) (hw:aM ops n e gd=true:=by rfl):Nw R d As fn kd n e ds ops i aa k cs:=
 C.val ho hw (λB H d Q q'=>by unfold execOp;simp only[hx,asBool];refine ah (aA ?_);cases b<;>(subst hv;exact q')) h
theorem ab.cv(C:ab P ak B R){k1 k2:IntKind}{s1 s2:aQ}[c1:Ik P s1 k1][c2:Ik P s2 k2](ho:aZ ops i=some ⟨some t,.convert s1 s2 x,ty,pos,af,gd⟩)(h:Nx R d As fn kd n e ds ops aa k cs t (.int k2 r))
  (hx:ev n e x=.int k1 p:=by rfl) (hr:k2.wrap p=r:=by first|exact xp az az|exact w32 az az|exact wu8 az az) (hw:aM ops n e gd=true:=by rfl):Nw R d As fn kd n e ds ops i aa k cs:=
 C.val ho hw (λB H d Q q'=>by unfold execOp;simp only[hx];refine ah ?_;unfold convert;refine ah (dz c1.h B H d _ (ah (dz c2.h B H d _ ?_)));simp only[Conv.intToInt,hr];exact q') h
theorem ab.ext(C:ab P ak B R){vs:Array Value}{ix:Nat}(ho:aZ ops i=some ⟨some t,.extract x ix,ty,pos,af,gd⟩)(h:Nx R d As fn kd n e ds ops aa k cs t v)
  (hx:ev n e x=.tuple vs:=by rfl) (hv:vs[ix]? =some v:=by rfl) (hw:aM ops n e gd=true:=by rfl):Nw R d As fn kd n e ds ops i aa k cs:=
 C.val ho hw (λB H d Q q'=>by unfold execOp;simp only[hx,Instr.extract,hv];exact q') h
theorem ab.mi(C:ab P ak B R)[c:NI P tt](ho:aZ ops i=some ⟨some t,.makeInterface tt x,ty,pos,af,gd⟩)(h:Nx R d As fn kd n e ds ops aa k cs t (.iface tt v))
  (hx:ev n e x=v:=by conv=>{lhs;whnf}) (hw:aM ops n e gd=true:=by rfl):Nw R d As fn kd n e ds ops i aa k cs:=
 C.val ho hw (λB H d Q q'=>by obtain⟨u,h1,h2⟩:=c.h;unfold execOp;simp only[hx,Instr.makeInterface];refine ah (ah (dz h1 B H d _ ?_));cases u<;>first|exact q'|cases h2) h
theorem ab.mf(C:ab P ak B R){f:Fn}{a1 a2:Array cA}{v1 v2:List Value}(ho:aZ ops i=some ⟨some t,.makeFunc f a1 a2,ty,pos,af,gd⟩)(h:Nx R d As fn kd n e ds ops aa k cs t (.func f v1.toArray v2.toArray))
  (h1:a1.toList.map (ev n e)=v1:=by rfl) (h2:a2.toList.map (ev n e)=v2:=by rfl) (hw:aM ops n e gd=true:=by rfl):Nw R d As fn kd n e ds ops i aa k cs:=
 C.val ho hw (λB H d Q q'=>by
  have Jo:a1.map (ev n e)=v1.toArray:=by rw[<- h1,<- pP,sd]
  have Ln:a2.map (ev n e)=v2.toArray:=by rw[<- h2,<- pP,sd]
  unfold execOp;simp only[Instr.makeFunc,Jo,Ln];exact q') h
theorem ab.fd(C:ab P ak B R){xs:Array Value}{s f o ft:Nat}(hf:∃ fs fl,P.underlying s=some (.struct fs)/\fs[f]? =some fl/\fl.offset=o/\fl.type=ft)[Ag P ft false](ho:aZ ops i=some ⟨some t,.field s x f,ty,pos,af,gd⟩)(h:Nx R d As fn kd n e ds ops aa k cs t v)
  (hx:ev n e x=.agg xs:=by rfl) (hv:xs[o]? =some v:=by rfl) (hw:aM ops n e gd=true:=by rfl):Nw R d As fn kd n e ds ops i aa k cs:=
 C.val ho hw (λB H d Q q'=>by obtain⟨fs,fl,h1,h2,rfl,rfl⟩:=hf;unfold execOp;simp only[hx,Instr.field];refine ah (ah (dz h1 B H d _ ?_));simp only[h2,asAgg];refine ah (aA ?_);unfold part;refine ah (xo B H d _ ?_);simp only[hv];exact q') h
theorem ab.al(C:ab P ak B R){z:Value}[cz:Zv P tt z](ho:aZ ops i=some ⟨some t,.alloc tt,ty,pos,af,gd⟩)(h:∀ b,Nx R d (bR b (.cells c tt (0,0))::As) fn kd n e ds ops aa k cs t (.pointer (some ⟨b,0,none⟩)))
  (hc:z.cells=c:=by first|(simp only[Value.cells];done)|(simp only[Value.cells];rfl)|rfl) (hw:aM ops n e gd=true:=by rfl):Nw R d As fn kd n e ds ops i aa k cs:=
 C.gen ho hw λH s=>by unfold execOp;simp only[Instr.alloc];subst hc;refine ah (ah (nb B H d _ ?_));exact⟨_,s.push _,h _⟩
theorem ab.bx(C:ab P ak B R)(ho:aZ ops i=some ⟨some t,.box tt x,ty,pos,af,gd⟩)(h:∀ b,Nx R d (bR b (.cells c tt (0,0))::As) fn kd n e ds ops aa k cs t (.pointer (some ⟨b,0,none⟩)))
  {v0:Value} (hx0:ev n e x=v0:=by conv=>{lhs;whnf}) (hx:v0.cells=c:=by first|(simp only[Value.cells];done)|(simp only[Value.cells];rfl)|rfl) (hw:aM ops n e gd=true:=by rfl):Nw R d As fn kd n e ds ops i aa k cs:=
 C.gen ho hw λH s=>by unfold execOp;simp only[Instr.box];subst hx0;subst hx;exact⟨_,s.push _,h _⟩
inductive Sp(P:bL):List Field->List (Nat×Nat)->Prop
 |nil:Sp P [] []
 |cons {f:Field} {l:List Field} {m:List (Nat×Nat)} {o z:Nat} (ho:f.offset=o) (h:∃ i,P.info? f.type=some i/\i.size=z):Sp P l m->Sp P (f::l) ((o,z)::m)
theorem Sp.pu{P:bL}{l:List Field}{m:List (Nat×Nat)}(s:Sp P l m):Pu P (l.mapM λf=>(do pure (f.offset,<- sizeOf f.type):Sem (Nat×Nat))) m:=by
 induction s with
 |nil=>rw[PI];exact Pu.pure _
 |cons ho h _ ih=>
  obtain⟨i,h,rfl⟩:=h;subst ho;rw[LC];refine Pu.bind (a:=(_,_)) (λB H d Q q=>?_) (Pu.bind ih (Pu.pure _));unfold sizeOf;exact ah (ah (ir h B H d _ q))
class Bd(P:bL)(t:aQ)(pl:outParam (List (Nat×Nat))):Prop where
 h:∃ fs,P.underlying t=some (.struct fs)/\Sp P fs.toList pl
def flat{α:Type}(f:α->List Value)(l:List α):List Value:=l.flatMap f
variable{f:α->List Value}{z:Nat}
theorem eO(hz:∀ a,(f a).length=z):∀ (l:List α),(flat f l).length=l.length*z
 |[]=>by simp[flat]
 |a::l=>by have:=eO hz l;simp only[flat,LD,jd,jc]at this⊢;rw[this,hz,pA];omega
theorem Dm(hz:∀ a,(f a).length=z):∀ (l:List α) (pad:List Value) (i j:Nat) (hi:i<l.length),j<z->(flat f l++pad)[i*z+j]? =(f l[i])[j]?
 |a::l,pad,0,j,_,hj=>by simp only[flat,LD,I8,mj,pQ,PJ];rw[LF (by rw[hz];exact hj)]
 |a::l,pad,i+1,j,hi,hj=>by
  have:=Dm hz l pad i j (by simpa using hi) hj;simp only[flat,LD,pQ,List.getElem_cons_succ]at this⊢;have e:(i+1)*z+j=z+(i*z+j):=by rw[pA];omega
  rw[Tu (by rw[hz];omega),hz,e];have:z+(i*z+j)-z=i*z+j:=az;rw[this];assumption
theorem z8(hz:∀ a,(f a).length=z):∀ (l:List α) (pad:List Value) (i:Nat) (hi:i<l.length),((flat f l++pad).drop (i*z)).take z=f l[i]
 |a::l,pad,0,_=>by simp only[flat,LD,I8,zg,pQ,PJ];rw[<- hz a,List.take_left]
 |a::l,pad,i+1,hi=>by
  have:=z8 hz l pad i (by simpa using hi);simp only[flat,LD,pQ,List.getElem_cons_succ]at this⊢;have e:(i+1)*z=(f a).length+i*z:=by rw[hz,pA];omega
  rw[e,List.drop_append];have h1:(f a).drop ((f a).length+i*z)=[]:=List.drop_eq_nil_of_le az;have h2:(f a).length+i*z-(f a).length=i*z:=az;rw[h1,h2,fi];exact this
theorem jA(l m:List α):flat f (l++m)=flat f l++flat f m:=by simp[flat]
theorem oa(a:α)(l:List α):flat f (a::l)=f a++flat f l:=by simp[flat]
def gf{α:Type}(f:α->List Value)(l:List α)(pad:List Value):Array Value:=(flat f l++pad).toArray
variable{l:List α}{pad:List Value}
theorem iN(hz:∀ a,(f a).length=z):(gf f l pad).size=l.length*z+pad.length:=by simp[gf,eO hz]
theorem Dn(hz:∀ a,(f a).length=z){off i j:Nat}(hi:i<l.length)(hj:j<z)(ho:off=i*z+j):(gf f l pad)[off]? =(f l[i])[j]? :=by subst ho;unfold gf;rw[FX];exact Dm hz l pad i j hi hj
theorem F9(hz:∀ a,(f a).length=z){off i:Nat}(hi:i<l.length)(ho:off=i*z):(gf f l pad).extract off (off+z)=(f l[i]).toArray:=by
 subst ho;unfold gf;rw[PF]
 congr 1
 rw[<- z8 hz l pad i hi,PG]
 congr 1;omega
theorem kO:∀ (vs:List Value) (a b c:List Value),b.length=vs.length->wr (a++b++c).toArray a.length vs=(a++vs++c).toArray
 |[],a,b,c,h=>by have:b=[]:=zh.1 (by simpa using h);subst this;rfl
 |v::vs,a,[],c,h=>by simp at h
 |v::vs,a,x::b,c,h=>by
  unfold wr;have h1:((a++x::b++c).toArray).setIfInBounds a.length v=((a++[v])++b++c).toArray:=by simp[List.set_append]
  have h2:a.length+1=(a++[v]).length:=by simp
  rw[h1,h2,kO vs (a++[v]) b c (by simpa using h)];simp
theorem MI(hz:∀ a,(f a).length=z){off i:Nat}(hi:i<l.length)(ho:off=i*z)(a:α):wr (gf f l pad) off (f a)=gf f (l.set i a) pad:=by
 subst ho;unfold gf;have hl:l=l.take i++l[i]::l.drop (i+1):=by simp
 have h1:flat f l++pad=flat f (l.take i)++f l[i]++(flat f (l.drop (i+1))++pad):=by
  conv=>lhs;rw[hl,jA,oa]
  simp
 have h2:(flat f (l.take i)).length=i*z:=by rw[eO hz,ik,CP az]
 rw[h1,<- h2,kO _ _ _ _ (by rw[hz,hz])]
 congr 1
 rw[Tv,aK hi,jA,oa];simp
theorem Jp(hz:∀ a,(f a).length=z){off i j:Nat}(hi:i<l.length)(hj:j<z)(ho:off=i*z+j){v:Value}(a:α)(ha:f a=(f l[i]).set j v):(gf f l pad).setIfInBounds off v=gf f (l.set i a) pad:=by
 subst ho;unfold gf;have hl:l=l.take i++l[i]::l.drop (i+1):=by simp
 have h1:flat f l++pad=flat f (l.take i)++(f l[i]++(flat f (l.drop (i+1))++pad)):=by
  conv=>lhs;rw[hl,jA,oa]
  simp
 have h2:(flat f (l.take i)).length=i*z:=by rw[eO hz,ik,CP az]
 have h3:j<(f l[i]).length:=by rw[hz];exact hj
 rw[h1,wZ]
 congr 1
 rw[Tw _ _ az,h2,Nat.add_sub_cancel_left,List.set_append_left _ _ h3,<- ha,Tv,aK hi,jA,oa];simp
theorem Jq(hz:∀ a,(f a).length=z){off:Nat}(ho:off=l.length*z)(m:List α)(hp:m.length*z<=pad.length):wr (gf f l pad) off (flat f m)=gf f (l++m) (pad.drop (m.length*z)):=by
 subst ho;unfold gf;have h2:(flat f l).length=l.length*z:=eO hz l;have h1:flat f l++pad=flat f l++pad.take (m.length*z)++pad.drop (m.length*z):=by simp
 rw[h1,<- h2,kO _ _ _ _ (by rw[ik,eO hz,CP hp]),jA]
variable{z:cA}
theorem ab.ln(C:ab P ak B R){a:Option Addr}{len cap:Nat}[cE:El P tt el](ho:aZ ops i=some ⟨some t,.call ⟨.builtin .len,#[x],#[tt]⟩,ty,pos,af,gd⟩)(h:Nx R d As fn kd n e ds ops aa k cs t (.int .i64 len))
  (hx:ev n e x=.slice a len cap:=by rfl) (hw:aM ops n e gd=true:=by rfl):Nw R d As fn kd n e ds ops i aa k cs:=
 C.val ho hw (λB H d Q q'=>by unfold execOp;simp only[resolve];refine ah (aA ?_);simp only[zi,iJ,m1,hx];unfold invoke builtin;refine ah ?_;unfold Builtin.len_;refine ah (dz cE.h B H d _ ?_);exact q') h
end
section
open Go.Conc
structure ay where
 a:Option Addr
 len:Nat
 cap:Nat
abbrev ay.v(s:ay):Value:=.slice s.a s.len s.cap
def aG:ay:=⟨none,0,0⟩
def a9{α:Type}(f:α->List Value)(z:Nat)(el:aQ)(s:ay)(l:List α):HP:=λh=>
 (s=aG/\l=[])\/∃ b pad,s=⟨some ⟨b,0,none⟩,l.length,s.cap⟩/\l.length*z+pad.length=s.cap*z/\l.length<=s.cap/\bR b (.cells (gf f l pad) el (0,0)) h
def kI(B:jW)(H:Array Obj)(z n:Nat)(x:Value)(xs:List Value):Prop:=
 (x=.slice none 0 0/\n=0/\xs=[])\/∃ b off cap c ty,x=.slice (some ⟨b,off,none⟩) n cap/\hp H b=some (.cells c ty (0,0))/\off+n*z<=c.size/\c.extract off (off+n*z)=xs.toArray/\∀ j,B.sh ty j=false
section
variable{P:bL}{B:jW}{H:Array Obj}{d:Nat}{α:Type}{f:α->List Value}{z:Nat}{el tt t3:aQ}
theorem kI.len{n:Nat}{x:Value}{xs:List Value}(s:kI B H z n x xs):Pu P (Builtin.lenOf x) n:=by rcases s with⟨rfl,rfl,_⟩|⟨b,off,cap,c,ty,rfl,_⟩<;>exact λ_ _ _ _ q=>q
theorem qQ{n:Nat}{x:Value}{xs:List Value}{Q:Array Value->Array Obj->Nat->Prop}(s:kI B H z n x xs)(q:Q xs.toArray H d):di P B (Builtin.firstCells z n x) H d Q:=by
 rcases s with⟨rfl,rfl,rfl⟩|⟨b,off,cap,c,ty,rfl,h1,h2,h3,h4⟩
 ·exact q
 ·unfold Builtin.firstCells;exact rM h1 h2 h4 (by rw[h3];exact q)
theorem vH{n:Nat}{Q:Unit->Array Obj->Nat->Prop}(q:Q () H d):di P B (askRoom n) H d Q:=by
 unfold askRoom;split
 ·exact⟨trivial,q⟩
 ·exact q
theorem xq{ty MJ bz:Nat}{zv:Value}{m:List α}{y:Value}{s:ay}{l:List α}{As:List HP}{Q:Value->Array Obj->Nat->Prop}[cE:El P tt el][Xl:El P t3 MJ][Cz P el z][cB:Bz P el bz][Zv P el zv]
  (hz:∀ a,(f a).length=z) (h1:∀ a,∀ v∈f a,eA v=true) (ML:zv.cells.size=z) (hb:∀ b j,s.a=some ⟨b,0,none⟩->B.rd b el j=false) (rJ:∀ j,B.sh el j=false) (y2:bz≠0) (hsz:(l.length+m.length)*bz<=140737488355328)
  (hs:Sat (a9 f z el s l::As) (hp H)) (hsrc:kI B H z m.length y (flat f m)) (q:∀ s' H',s'.len=l.length+m.length->(s'.a=s.a\/s'.a=some ⟨H.size,0,none⟩)->Sat (a9 f z el s' (l++m)::As) (hp H')->Q s'.v H' d):di P B (Builtin.append_ #[tt,t3] ty #[s.v,y]) H d Q:=by
 have Xm:s.len=l.length:=by
  obtain⟨h',x,_⟩:=hs;rcases x with⟨rfl,rfl⟩|⟨b,pad,e,_⟩
  ·rfl
  ·rw[e]
 unfold Builtin.append_;simp only[FX,PK,PD];refine ah (dz cE.h B H d _ ?_);simp only[ay.v];refine ah (gW B H d _ ?_);refine ah (dz Xl.h B H d _ (ah (aA ?_)));simp only[ij,fB,Bg,eM];refine ah (hsrc.len B H d _ ?_);rw[Xm];split
 ·rename_i hle;refine ah (qQ hsrc ?_);obtain⟨hh,x,gu,qa⟩:=hs;rcases x with⟨rfl,rfl⟩|⟨b,pad,e,HZ,Je,uY⟩
  ·have hm:m=[]:=zh.1 (by simpa[aG]using hle);subst hm;refine ah (aA (aA ?_));exact q aG H rfl (.inl rfl) ⟨hh,.inl ⟨rfl,rfl⟩,gu,qa⟩
  ·have Dp:s.a=some ⟨b,0,none⟩:=by rw[e]
   simp only[Dp];have il:hp H b=some (.cells (gf f l pad) el (0,0)):=by subst uY;exact gu b _ (by simp[one])
   refine ah ?_;rw[gK];have Sq:(flat f m).length=m.length*z:=eO hz m;have Xn:m.length*z<=pad.length:=by have:(l.length+m.length)*z<=s.cap*z:=se z hle;rw[pA]at this;omega
   refine j4 (off:=0+l.length*z) (flat f m) 0 il ?_ ?_ (λj _ _=>⟨hb _ j Dp,rJ j⟩) ?_
   ·rw[iN hz,Sq];omega
   ·intro v hv;obtain⟨a,_,ha⟩:=I9.1 hv;exact h1 a v ha
   ·refine aA ?_;rw[Jq hz az m Xn];refine q ⟨some ⟨b,0,none⟩,l.length+m.length,s.cap⟩ _ rfl (.inl Dp.symm) ?_;have uP:Sat (bR b (.cells (gf f l pad) el (0,0))::As) (hp H):=⟨hh,uY,gu,qa⟩;refine Sat.imp (λh TV=>.inr ⟨b,pad.drop (m.length*z),by simp,?_,?_,TV⟩) (uP.set)
    ·simp only[jd,tB,pA];omega
    ·simpa using hle
 ·rename_i hgt;have aaB:s.cap<l.length+m.length:=az;obtain⟨inf,hi,P0⟩:=cB.h;refine ah (ir hi B H d _ ?_);have eI:¬ (((l.length+m.length:Nat):Int)>IntKind.i64.max/\(False\/inf.bytes=0)):=by
   rintro⟨_,h2⟩;rcases h2 with h2|h2
   ·exact h2
   ·exact y2 (P0▸h2)
  rw[ao eI];refine ah (ir hi B H d _ ?_);have aeF:=growslice_fits (bytes:=bz) aaB hsz;rw[P0,ao az];refine ah ?_;show di P B (.choose _ _) H d _;simp only[di,Question.forced,ij,fB];intro t;generalize hN:Question.cut (.appendCap (l.length+m.length) s.cap el) t=N;have aaC:l.length+m.length<=N:=by rw[<- hN];show _<=l.length+m.length+t%(2^63-(l.length+m.length));omega
  show di P B (_ >>= _) H d _;refine ah (ir hi B H d _ ?_);refine ah (vH ?_);have hold:kI B H z l.length (.slice s.a l.length s.cap) (flat f l):=by
   obtain⟨hh,x,gu,qa⟩:=hs;rcases x with⟨rfl,rfl⟩|⟨b,pad,e,HZ,Je,uY⟩
   ·exact .inl ⟨rfl,rfl,rfl⟩
   ·have Dp:s.a=some ⟨b,0,none⟩:=by rw[e]
    have il:hp H b=some (.cells (gf f l pad) el (0,0)):=by subst uY;exact gu b _ (by simp[one])
    have Sr:(flat f l).length=l.length*z:=eO hz l;refine .inr ⟨b,0,s.cap,_,_,by rw[Dp],il,by rw[iN hz];omega,?_,λj=>rJ j⟩;rw[mj,<- Sr];simp[gf]
  refine ah (qQ hold ?_);refine ah (qQ hsrc ?_);refine ah (nb B H d _ ?_);refine ah ?_;unfold newRow;refine ah ?_;show di P B (.new _ _) H d _;simp only[di];show di P B (pure _) _ d _;have su:(flat f l).toArray++(flat f m).toArray++Builtin.zeroCells zv.cells (N-(l.length+m.length))=gf f (l++m) (Builtin.zeroCells zv.cells (N-(l.length+m.length))).toList:=by apply Array.ext';simp[gf,jA]
  rw[su];refine aA (aA ?_);refine q ⟨some ⟨H.size,0,none⟩,l.length+m.length,N⟩ _ rfl (.inr rfl) ?_;have hd:Sat As (hp H):=hs.drop;refine Sat.imp (λh TV=>.inr ⟨H.size,_,by simp,?_,by simpa using aaC,TV⟩) (hd.push _);have hl:(Builtin.zeroCells zv.cells (N-(l.length+m.length))).toList.length=(N-(l.length+m.length))*z:=by simp[Builtin.zeroCells,ML]
  show(l++m).length*z+_=N*z;rw[hl,jd,<- pA]
  congr 1
  omega
theorem Bu(off:Nat):∀ (l:List Value) (j:Nat) (c:Array Value),(l.zipIdx j).foldl (λcs (p:Value×Nat)=>cs.setIfInBounds (off+p.2) p.1) c=wr c (off+j) l
 |[],_,_=>rfl
 |v::l,j,c=>by rw[List.zipIdx_cons,kM,Bu off l (j+1)];rfl
theorem Dq:∀ (vs:List Value) (i:Nat) (a b:List Value),(∀ v∈vs,v.cells.size=z)->a.length=i*z->b.length=vs.length*z->
  Instr.fill (λi=>some (i*z,z)) (a++b).toArray ((vs.zipIdx i).map λp=>(p.2,p.1))=some (a++vs.flatMap (·.cells.toList)).toArray
 |[],i,a,b,_,_,hb=>by have:b=[]:=zh.1 (by simpa using hb);subst this;simp[Instr.fill]
 |v::vs,i,a,b,hv,ha,hb=>by
  have hz:=hv v (iz ..);rw[jc,pA]at hb;rw[List.zipIdx_cons,iJ];unfold Instr.fill;have hsz:(a++b).toArray.size=i*z+(vs.length*z+1*z):=by rw[PE,jd,ha,hb]
  simp only[hz,hsz];rw[ao (by simp)];have hf:Array.foldl (λcs (x:Value×Nat)=>match x with|(c,j)=>cs.setIfInBounds (i*z+j) c) (a++b).toArray v.cells.zipIdx=wr (a++b).toArray (i*z) v.cells.toList:=by rw[<- Tx,Ty];exact Bu (i*z) v.cells.toList 0 _
  rw[hf];have tL:v.cells.toList.length=z:=by simpa using hz
  have P0:b=b.take z++b.drop z:=by simp
  have hw:wr (a++b).toArray (i*z) v.cells.toList=((a++v.cells.toList)++b.drop z).toArray:=by
   conv=>lhs;rw[P0,<- pQ,<- ha]
   rw[kO _ _ _ _ (by rw[ik,tL];omega)]
  rw[hw,Dq vs (i+1) (a++v.cells.toList) (b.drop z) (λx hx=>hv x (gb _ hx)) (by rw[jd,ha,tL,pA];omega) (by rw[tB,hb];omega)];simp
section
variable{ak:Bool}{R:Nat->aP->Array Obj->Prop}{As aN:List HP}
variable{fn:bI}{kd:Kd}{n:Nat}{e:Nat->Value}{ds:List dQ}{k:List Item}{cs:List Frame}
variable{ops:Array Oper}{i:Nat}{aa:List Nat}{dst:Option Nat}{t:Nat}{ty:aQ}{pos:String}{af:Array Edge}{gd:Option (Nat×Bool)}{x y w:cA}{v u:Value}{b off n':Nat}{c:Array Value}
theorem ab.ap(C:ab P ak B R){MJ bz:Nat}{zv:Value}{m l:List α}{s:ay}{yv:Value}[cE:El P tt el][Xl:El P t3 MJ][Cz P el z][cB:Bz P el bz][Zv P el zv]
  (ho:aZ ops i=some ⟨some t,.call ⟨.builtin .append,#[x,y],#[tt,t3]⟩,ty,pos,af,gd⟩) (hz:∀ a,(f a).length=z) (h1:∀ a,∀ v∈f a,eA v=true)
  (hsrc:∀ H,Sat (a9 f z el s l::As) (hp H)->kI B H z m.length yv (flat f m)) (h:∀ s',s'.len=l.length+m.length->Nx R d (a9 f z el s' (l++m)::As) fn kd n e ds ops aa k cs t s'.v)
  (hsz:(l.length+m.length)*bz<=140737488355328:=by omega) (hx:ev n e x=s.v:=by rfl) (hy:ev n e y=yv:=by rfl) (ML:zv.cells.size=z:=by rfl) (y2:bz≠0:=by decide) (hb:∀ b j,B.rd b el j=false/\B.sh el j=false:=by intro _ j;exact⟨rfl,rfl⟩) (hw:aM ops n e gd=true:=by rfl):Nw R d (a9 f z el s l::As) fn kd n e ds ops i aa k cs:=
 C.gen ho hw λH s'=>by unfold execOp;simp only[resolve];refine ah (aA ?_);simp only[zi,iJ,m1,hx,hy];unfold invoke builtin;refine ah ?_;exact xq hz h1 ML (λb j _=>(hb b j).1) (λj=>(hb 0 j).2) y2 hsz s' (hsrc H s') λs'' H' hl _ hs=>aA ⟨_,hs,h s'' hl⟩
theorem ab.bs(C:ab P ak B R){zv:Value}{vs:List Value}{parts:Array (Nat×cA)}[cE:El P tt el][Cz P el z][Zv P el zv](ho:aZ ops i=some ⟨some t,.buildSlice tt n' parts,ty,pos,af,gd⟩)
  (h:∀ b,Nx R d (bR b (.cells (vs.flatMap (·.cells.toList)).toArray el (0,0))::As) fn kd n e ds ops aa k cs t (.slice (some ⟨b,0,none⟩) n' n'))
  (hp:(parts.toList.map λ(i,x)=>(i,ev n e x))=(vs.zipIdx 0).map λp=>(p.2,p.1):=by rfl) (hn:vs.length=n':=by rfl) (hv:∀ v∈vs,v.cells.size=z:=by simp[Value.cells]) (h0:n'*z≠0:=by decide) (hm:n'*z<=16777216:=by decide) (hw:aM ops n e gd=true:=by rfl):Nw R d As fn kd n e ds ops i aa k cs:=
 C.gen ho hw λH s=>by
  unfold execOp;simp only[Instr.buildSlice];refine ah (ah (dz cE.h B H d _ ?_));refine ah (gW B H d _ ?_);rw[ao az,ao h0];refine ah (nb B H d _ (ah (aA ?_)));have Ss:=Dq (z:=z) vs 0 [] ((Array.range (n'*z)).map (zv.cells[· %zv.cells.size]!)).toList hv (by simp) (by simp[hn]);have Ga:(parts.map λx=>(x.fst,ev n e x.snd)).toList=(vs.zipIdx 0).map λp=>(p.2,p.1):=by rw[pP];exact hp
  simp only[fi,sd]at Ss;rw[Ga,Ss];refine ah ?_;unfold newRow;refine ah ?_;show di P B (.new _ _) H d _;simp only[di];show di P B (pure _) _ d _;exact aA (aA ⟨_,s.push _,h _⟩)
end
end
end
section
open Go.Conc
theorem Jr{α:Type}{f:α->List Value}{z:Nat}{a0:α}{zc:Array Value}(hf:f a0=zc.toList)(hz:zc.size=z)(h0:z≠0):∀ (L:Nat),(Array.range (L*z)).map (λi=>zc[i%zc.size]!)=gf f (List.replicate L a0) []:=by
 intro L;apply re;intro i;have Sr:(f a0).length=z:=by rw[hf];simpa using hz
 have su:(gf f (List.replicate L a0) [])[i]? =if i<L*z then some zc[i%z]! else none:=by
  unfold gf;rw[FX,k8]
  induction L generalizing i with
  |zero=>simp[flat]
  |succ L ih=>
   rw[List.replicate_succ,oa];by_cases h:i<z
   ·rw[LF az,hf,aK (by rw[pA];omega),Nat.mod_eq_of_lt h];have hi:i<zc.size:=az;simp[hi]
   ·rw[Tu az,Sr,ih (i-z)];have e:i%z=(i-z)%z:=by rw[Nat.mod_eq_sub_mod az]
    rw[e];have:(i-z<L*z)↔(i<(L+1)*z):=by rw[pA];omega
    simp only[this]
 rw[su];by_cases h:i<L*z
 ·simp[h,hz]
 ·simp[h]
variable{P:bL}{ak:Bool}{B:jW}{R:Nat->aP->Array Obj->Prop}{d:Nat}{As aN:List HP}{α:Type}{f:α->List Value}{z:Nat}
variable{fn:bI}{kd:Kd}{n:Nat}{e:Nat->Value}{ds:List dQ}{k:List Item}{cs:List Frame}
variable{ops:Array Oper}{i:Nat}{aa:List Nat}{dst:Option Nat}{t:Nat}{ty:aQ}{pos:String}{af:Array Edge}{gd:Option (Nat×Bool)}{x y w:cA}{v u:Value}{b off:Nat}{c:Array Value}{el tt t3:aQ}{kk k2:IntKind}
theorem ab.ms(C:ab P ak B R){zv:Value}{bz:Nat}{a0:α}{L:Int}[cE:El P tt el][Cz P el z][cB:Bz P el bz][Zv P el zv](ho:aZ ops i=some ⟨some t,.makeSlice tt x y,ty,pos,af,gd⟩)(hf:f a0=zv.cells.toList)
  (h:∀ b,Nx R d (bR b (.cells (gf f (List.replicate L.toNat a0) []) el (0,0))::As) fn kd n e ds ops aa k cs t (.slice (some ⟨b,0,none⟩) L.toNat L.toNat))
  (hx:ev n e x=.int kk L:=by rfl) (hy:ev n e y=.int k2 L:=by rfl) (h0:0<=L:=by omega) (h1:L*bz<=281474976710656:=by omega) (y2:0<bz:=by decide) (ML:zv.cells.size=z:=by rfl) (hz:z≠0:=by decide) (hw:aM ops n e gd=true:=by rfl):Nw R d As fn kd n e ds ops i aa k cs:=
 C.gen ho hw λH s=>by
  obtain⟨inf,hi,P0⟩:=cB.h;have hL:L<=281474976710656:=by
   rcases Int.lt_or_le 281474976710656 L with h|h
   ·have:L*1<=L*bz:=Int.mul_le_mul_of_nonneg_left az h0;omega
   ·exact h
  have Zh:IntKind.i64.wrap L=L:=xp az az;unfold execOp;simp only[Instr.makeSlice,hx,hy];refine ah (ah (dz cE.h B H d _ ?_));refine ah (aA (ah (aA ?_)));refine ah (ir hi B H d _ ?_);rw[Zh,P0];have hc:(bz:Int)*L<=2^48:=by rw[Int.mul_comm];exact h1
  rw[ao (by simp;omega)];refine ah (vH ?_);refine ah (gW B H d _ ?_);by_cases hn:L.toNat*z=0
  ·have Sk:L.toNat=0:=by
    rcases Nat.mul_eq_zero.1 hn with h|h
    ·exact h
    ·exact absurd h hz
   rw[aK hn,Sk];have e0:∀ g:Nat->Value,(Array.range (0*z)).map g=gf f (List.replicate 0 a0) []:=λg=>by simp[gf,flat]
   refine ah (aA (ah ?_));unfold newRow;refine ah ?_;rw[e0];show di P B (.new _ _) H d _;simp only[di];show di P B (pure _) _ d _;have:=h H.size;rw[Sk]at this;exact aA (aA ⟨_,s.push _,this⟩)
  ·rw[ao hn];refine ah (nb B H d _ (ah (aA (ah ?_))));unfold newRow;refine ah ?_;show di P B (.new _ _) H d _;simp only[di];show di P B (pure _) _ d _;rw[Jr hf ML hz];exact aA (aA ⟨_,s.push _,h _⟩)
theorem ab.TW(C:ab P ak B R){a:Option Addr}{len cap:Nat}{hi:Int}[cE:El P tt el][Cz P el z](ho:aZ ops i=some ⟨some t,.slice tt x none (some y) none,ty,pos,af,gd⟩)(h:Nx R d As fn kd n e ds ops aa k cs t (.slice a hi.toNat cap))
  (hx:ev n e x=.slice a len cap:=by rfl) (hy:ev n e y=.int kk hi:=by rfl) (hh:0<=hi/\hi<=cap:=by constructor<;>omega) (hw:aM ops n e gd=true:=by rfl):Nw R d As fn kd n e ds ops i aa k cs:=
 C.val ho hw (λB H d Q q=>by
  unfold execOp;simp only[Instr.sliceAt,hx,k7,CR,hy];refine ah (ah (dz cE.h B H d _ ?_));simp only[Instr.slice];refine ah (dz cE.h B H d _ ?_);simp only[Instr.sliceBounds,Instr.sliceBound,asIntOf];refine ah (ah (aA (ah (ah (aA ?_)))));rw[aK hh];refine aA (ah (aA (aA (ah (gW B H d _ (aA ?_))))));have:(if cap=0 then a else a.map (·.add (0*z)))=a:=by
   split
   ·rfl
   ·cases a<;>simp[add_zero]
  rw[this];exact q) h
theorem ab.Xo(C:ab P ak B R){len cap:Nat}{lo:Int}{a':Addr}[cE:El P tt el][Cz P el z](ho:aZ ops i=some ⟨some t,.slice tt x (some y) none none,ty,pos,af,gd⟩)(h:Nx R d As fn kd n e ds ops aa k cs t (.slice (some a') (len-lo.toNat) (cap-lo.toNat)))
  (hx:ev n e x=.slice (some ⟨b,off,none⟩) len cap:=by rfl) (hy:ev n e y=.int kk lo:=by rfl) (ha:(if cap=lo.toNat then⟨b,off,none⟩else⟨b,off+lo.toNat*z,none⟩)=a':=by rfl) (hh:0<=lo/\lo<=len:=by constructor<;>omega) (hw:aM ops n e gd=true:=by rfl):Nw R d As fn kd n e ds ops i aa k cs:=
 C.val ho hw (λB H d Q q=>by
  unfold execOp;simp only[Instr.sliceAt,hx,k7,CR,hy];refine ah (ah (dz cE.h B H d _ ?_));simp only[Instr.slice];refine ah (dz cE.h B H d _ ?_);simp only[Instr.sliceBounds,Instr.sliceBound,asIntOf];refine ah (ah (aA (ah (aA (ah (ah (aA ?_)))))));rw[aK hh];refine aA (aA (ah (gW B H d _ (aA ?_))));have:(if cap=lo.toNat then(some (⟨b,off,none⟩:Addr))else(some (⟨b,off,none⟩:Addr)).map (·.add (lo.toNat*z)))=some a':=by
   rw[<- ha];split
   ·rfl
   ·simp[gK]
  rw[this];exact q) h
theorem ab.cp(C:ab P ak B R){len cap m:Nat}{yv:Value}{xs:List Value}[cE:El P tt el][Cz P el z](ho:aZ ops i=some ⟨some t,.call ⟨.builtin .copy,#[x,y],#[tt,t3]⟩,ty,pos,af,gd⟩)
  (hsrc:∀ H,Sat As (hp H)->kI B H z m yv xs) (hm:m<=len) (Ma:xs.length=m*z) (h1:∀ v∈xs,eA v=true)
  (h:Nx R d aN fn kd n e ds ops aa k cs t (.int .i64 m)) (hu:p8 b (.cells c el (0,0)) (.cells (wr c off xs) el (0,0)) As aN)
  (hz:off+m*z<=c.size) (hx:ev n e x=.slice (some ⟨b,off,none⟩) len cap:=by rfl) (hy:ev n e y=yv:=by rfl) (hb:∀ b j,B.rd b el j=false/\B.sh el j=false:=by intro _ j;exact⟨rfl,rfl⟩) (hw:aM ops n e gd=true:=by rfl):Nw R d As fn kd n e ds ops i aa k cs:=
 C.gen ho hw λH s=>by unfold execOp;simp only[resolve];refine ah (aA ?_);simp only[zi,iJ,m1,hx,hy];unfold invoke builtin;refine ah ?_;unfold Builtin.copy_;simp only[FX,PK,PD];refine ah (dz cE.h B H d _ ?_);simp only;have hs:=hsrc H s;refine ah (hs.len B H d _ ?_);have zo:Nat.min m len=m:=CP hm;rw[zo];refine ah (gW B H d _ (ah (qQ hs ?_)));simp only;refine ah (j4 (off:=off) xs 0 (hu.has.get s) (by rw[Ma];omega) h1 (λj _ _=>hb _ j) ?_);exact aA (aA ⟨_,hu.set s,h⟩)
inductive Fo(A:HP):List HP->List HP->Prop
 |head {As:List HP}:Fo A (A::As) As
 |tail {X:HP} {As L:List HP}:Fo A As L->Fo A (X::As) (X::L)
theorem Fo.perm{A:HP}{As L:List HP}(x:Fo A As L):As.Perm (A::L):=by
 induction x with
 |head=>exact .refl _
 |tail _ ih=>exact(ih.cons _).trans (.swap _ _ _)
inductive dB:List HP->List HP->List HP->Prop
 |nil {F:List HP}:dB [] F F
 |cons {A:HP} {Bs As L F:List HP}:Fo A As L->dB Bs L F->dB (A::Bs) As F
theorem dB.perm{Bs As F:List HP}(x:dB Bs As F):As.Perm (Bs++F):=by
 induction x with
 |nil=>exact .refl _
 |cons f _ ih=>exact f.perm.trans (ih.cons _)
inductive bZ:List HP->List HP->Prop
 |refl {As:List HP}:bZ As As
 |nil {As:List HP}:bZ As []
 |cons {A:HP} {Bs As L:List HP}:Fo A As L->bZ L Bs->bZ As (A::Bs)
 |drop {X:HP} {As Bs:List HP}:bZ As Bs->bZ (X::As) Bs
theorem bZ.sat{As Bs:List HP}(x:bZ As Bs):∀ {h:HL},Sat As h->Sat Bs h:=by
 induction x with
 |refl=>exact id
 |nil=>exact λ_=>trivial
 |cons f _ ih=>exact λs=>Sat.under (λ_ s=>ih s) (s.perm f.perm)
 |drop _ ih=>exact λs=>ih s.drop
variable{Bs L:List HP}{g:aP}{A:HP}
theorem At.fo(f:Fo A As L)(h:At R d (A::L) g):At R d As g:=h.perm f.perm
theorem At.jB(x:bZ As Bs)(h:At R d Bs g):At R d As g:=λH s=>h H (x.sat s)
theorem At.turn{A':HP}(f:Fo A As L)(t:∀ h,A h->A' h)(h:At R d (A'::L) g):At R d As g:=λH s=>h H ((s.perm f.perm).imp t)
theorem At.xr{p:Prop}(f:Fo A As L)(t:∀ h,A h->p)(h:p->At R d As g):At R d As g:=λH s=>h (by obtain⟨h1,a,_⟩:=s.perm f.perm;exact t _ a) H s
variable{V W:Type}
def aB:List (Int×V)->Int->Option V
 |[],_=>none
 |p::l,k=>if p.1=k then some p.2 else aB l k
def bA:List (Int×V)->Int->V->List (Int×V)
 |[],k,v=>[(k,v)]
 |p::l,k,v=>if p.1=k then(k,v)::l else p::bA l k v
def ee:List (Int×V)->Int->List (Int×V)
 |[],_=>[]
 |p::l,k=>if p.1=k then l else p::ee l k
def j6(g:V->W)(l:List (Int×V)):List (Int×W):=l.map λp=>(p.1,g p.2)
theorem mA(g:V->W)(k:Int):∀ l:List (Int×V),aB (j6 g l) k=(aB l k).map g
 |[]=>rfl
 |p::l=>by
  have:=mA g k l;simp only[j6,iJ,aB]at this⊢;split
  ·rfl
  ·exact this
theorem oc(g:V->W)(k:Int)(v:V):∀ l:List (Int×V),bA (j6 g l) k (g v)=j6 g (bA l k v)
 |[]=>rfl
 |p::l=>by
  have:=oc g k v l;simp only[j6,iJ,bA]at this⊢;split
  ·simp
  ·simp[this]
theorem tS(g:V->W)(k:Int):∀ l:List (Int×V),ee (j6 g l) k=j6 g (ee l k)
 |[]=>rfl
 |p::l=>by
  have:=tS g k l;simp only[j6,iJ,ee]at this⊢;split
  ·rfl
  ·simp[this]
theorem xu{X:Type}{l:List X}(h:l.Nodup){i j:Nat}{x:X}(hi:l[i]? =some x)(hj:l[j]? =some x):i=j:=by
 have hp:=w5.1 h;obtain⟨h1,e1⟩:=jk.1 hi;obtain⟨h2,e2⟩:=jk.1 hj;rcases Nat.lt_trichotomy i j with z|z|z
 ·exact absurd (e1.trans e2.symm) (hp i j h1 h2 z)
 ·exact z
 ·exact absurd (e2.trans e1.symm) (hp j i h2 h1 z)
def pD(k:Int):List (Int×V)->Nat->Option (Nat×V)
 |[],_=>none
 |p::l,i=>if p.1=k then some (i,p.2)else pD k l (i+1)
theorem iY{k:Int}:∀ {l:List (Int×V)} {i j:Nat} {v:V},pD k l i=some (j,v)->∃ n,j=i+n/\l[n]? =some (k,v)/\aB l k=some v/\(∀ w,bA l k w=l.set n (k,w))/\ee l k=l.eraseIdx n
 |[],i,j,v,h=>by cases h
 |p::l,i,j,v,h=>by
  unfold pD at h;split at h
  ·rename_i hp;obtain⟨rfl,rfl⟩:=wY (bS h);refine⟨0,rfl,by rw[<- hp];rfl,by simp[aB,hp],λw=>by simp[bA,hp],by simp[ee,hp]⟩
  ·rename_i hp;obtain⟨n,rfl,h2,h3,h4,h5⟩:=iY h;exact⟨n+1,az,by simpa using h2,by simp[aB,hp,h3],λw=>by simp[bA,hp,h4],by simp[ee,hp,h5]⟩
theorem iZ{k:Int}:∀ {l:List (Int×V)} {i:Nat},pD k l i=none->aB l k=none/\(∀ w,bA l k w=l++[(k,w)])/\ee l k=l/\k∉l.map (·.1)
 |[],i,_=>⟨rfl,λ_=>rfl,rfl,by simp⟩
 |p::l,i,h=>by
  unfold pD at h;split at h
  ·cases h
  ·rename_i hp;obtain⟨h1,h2,h3,h4⟩:=iZ h;exact⟨by simp[aB,hp,h1],λw=>by simp[bA,hp,h2],by simp[ee,hp,h3],by simp[h4,iP hp]⟩
theorem getM_none{k:Int}{l:List (Int×V)}:aB l k=none↔k∉l.map (·.1):=by
 induction l with
 |nil=>simp[aB]
 |cons p l ih=>
  unfold aB;split
  ·rename_i h;subst h;simp
  ·rename_i h;rw[ih];simp[iP h]
theorem bT{k:Int}{v:V}{l:List (Int×V)}(h:aB l k=some v):(k,v)∈l:=by
 induction l with
 |nil=>cases h
 |cons p l ih=>
  unfold aB at h;split at h
  ·rename_i e;obtain rfl:=bS h;subst e;exact iz ..
  ·exact gb _ (ih h)
theorem ew{k:Int}{v:V}:∀ {l:List (Int×V)},(l.map (·.1)).Nodup->(k,v)∈l->aB l k=some v
 |p::l,hn,hm=>by
  rw[iJ,rh]at hn;unfold aB;rcases ga.1 hm with rfl|hm
  ·simp
  ·have:p.1≠k:=λe=>hn.1 (e▸rF (f:=(·.1)) hm);simp[this,ew hn.2 hm]
theorem uZ{k:Int}{v:V}:∀ {l:List (Int×V)},(bA l k v).map (·.1)=if(aB l k).isSome then l.map (·.1)else l.map (·.1)++[k]
 |[]=>rfl
 |p::l=>by
  have:=uZ (k:=k) (v:=v) (l:=l);unfold bA aB;split
  ·rename_i h;subst h;simp
  ·simp only[iJ,this];split<;>simp
theorem eU{k:Int}{v:V}{l:List (Int×V)}(h:(l.map (·.1)).Nodup):((bA l k v).map (·.1)).Nodup:=by
 rw[uZ];split
 ·exact h
 ·rename_i hs;have:k∉l.map (·.1):=getM_none.1 (by simpa using hs);refine im.2 ⟨h,by simp,λa ha b hb=>?_⟩;simp at hb;subst hb;exact λe=>this (e▸ha)
theorem xv{k:Int}:∀ {l:List (Int×V)},(ee l k).Sublist l
 |[]=>.slnil
 |p::l=>by
  unfold ee;split
  ·exact .cons _ (.refl _)
  ·exact .cons_cons _ xv
theorem mB{k:Int}{l:List (Int×V)}(h:(l.map (·.1)).Nodup):((ee l k).map (·.1)).Nodup:=h.sublist (xv.map _)
theorem fx{k k':Int}{v:V}:∀ {l:List (Int×V)},aB (bA l k v) k'=if k'=k then some v else aB l k'
 |[]=>by simp only[bA,aB];by_cases h:k=k'<;>simp[h,eq_comm]
 |p::l=>by
  have:=fx (k:=k) (k':=k') (v:=v) (l:=l);unfold bA;split
  ·rename_i h;subst h;simp only[aB];by_cases h:p.1=k'
   ·simp[h]
   ·have:¬ k'=p.1:=λe=>h e.symm;simp[h,this]
  ·rename_i h;simp only[aB,this];by_cases h1:p.1=k'
   ·subst h1;simp[h]
   ·simp[h1]
theorem u5{k k':Int}:∀ {l:List (Int×V)},(l.map (·.1)).Nodup->aB (ee l k) k'=if k'=k then none else aB l k'
 |[],_=>by simp[ee,aB]
 |p::l,hn=>by
  rw[iJ,rh]at hn;have:=u5 (k:=k) (k':=k') (l:=l) hn.2;unfold ee;split
  ·rename_i h;subst h;by_cases h:k'=p.1
   ·subst h;simp;exact getM_none.2 hn.1
   ·simp[h,aB,iP h]
  ·rename_i h;simp only[aB,this];by_cases h1:p.1=k'
   ·subst h1;simp[h]
   ·simp[h1]
def CE(kk:IntKind)(l:List (Int×Value)):List (Value×Value):=l.map λp=>(.int kk p.1,p.2)
structure u6(kk:IntKind)(es:Array MapEntry)(clock:Nat)(l:List (Int×Value)):Prop where
 kv:es.toList.map (λe=>(e.key,e.val))=CE kk l
 nd:(l.map (·.1)).Nodup
 bn:(es.toList.map (·.born)).Nodup
 lt:∀ e∈es.toList,e.born<clock
def dp{V:Type}(kk:IntKind)(g:V->Value)(b:Nat)(l:List (Int×V)):HP:=λh=>∃ es clock,u6 kk es clock (j6 g l)/\bR b (.map es clock) h
variable{H:Array Obj}{g:V->Value}
theorem xw(k:Int):∀ (es:List MapEntry) (l:List (Int×Value)) (i:Nat),es.map (λe=>(e.key,e.val))=CE kk l->Instr.findNow (.int kk) (.int kk k) es i=some (pD k l i)
 |[],[],i,_=>rfl
 |[],p::l,i,h=>by cases h
 |e::es,[],i,h=>by cases h
 |e::es,p::l,i,h=>by
  simp only[CE,iJ,LG,CS]at h;obtain⟨⟨h1,h2⟩,h3⟩:=h;unfold Instr.findNow pD;simp only[h1,Instr.sameNow,eM];by_cases hk:p.1=k
  ·subst hk;simp[h2]
  ·have:(k==p.1)=false:=by simpa using iP hk
   simp only[this,ao hk];exact xw k es l (i+1) h3
theorem nh{t:aQ}[c:Ik P t kk]{em:Bool}{k:Int}:Pu P (Instr.checkKey em 10000 t (.int kk k)) ():=by intro B H d Q q;show di P B (Instr.checkKey em (9999+1) t (.int kk k)) H d Q;unfold Instr.checkKey;exact ah (dz c.h B H d _ q)
theorem oL{t:aQ}[c:Ik P t kk]{es:List MapEntry}{l:List (Int×Value)}{k:Int}(h:es.map (λe=>(e.key,e.val))=CE kk l):Pu P (Instr.findKey t (.int kk k) es) (pD k l 0):=λB H d Q q=>by unfold Instr.findKey;refine ah (dz c.h B H d _ ?_);rw[xw k es l 0 h];exact q
theorem gL{r:Nat}{o:Obj}{Q:Obj->Array Obj->Nat->Prop}(h:hp H r=some o)(hq:Obj.quiet o=true)(q:Q o H d):di P B (getObj r) H d Q:=⟨o,h,hq,q⟩
theorem kP{r:Nat}{o o₀:Obj}{Q:Unit->Array Obj->Nat->Prop}(h:hp H r=some o₀)(hq:Obj.quiet o₀=true)(CB:Obj.quiet o=true)(q:Q () (H.setIfInBounds r o) d):di P B (setObj r o) H d Q:=⟨o₀,h,hq,CB,q⟩
theorem xy{tt key el:aQ}{z:Value}[cM:Mp P tt key el][Ik P key kk][Zv P el z]{b:Nat}{l:List (Int×V)}{k:Int}{co:Bool}{As:List HP}{Q:Value->Array Obj->Nat->Prop}(s:Sat (dp kk g b l::As) (hp H))
  (q:Q (if co then .tuple #[((aB l k).map g).getD z,.bool (aB l k).isSome]else((aB l k).map g).getD z) H d):di P B (Instr.lookup tt (.map (some b)) (.int kk k) co) H d Q:=by
 obtain⟨hh,⟨es,clock,mr,uY⟩,gu,hr⟩:=s;have il:hp H b=some (.map es clock):=by subst uY;exact gu b _ (by simp[one])
 unfold Instr.lookup;refine ah (dz cM.h B H d _ ?_);refine ah (gL il rfl ?_);refine ah (aA ?_);refine ah (nh B H d _ ?_);refine ah (oL mr.kv B H d _ ?_);cases hi:pD k (j6 g l) 0 with
 |none=>
  have:=(iZ hi).1;rw[mA,Option.map_eq_none_iff]at this;rw[this]at q;refine ah (nb B H d _ (aA ?_));cases co<;>exact q
 |some jv=>
  obtain⟨j,v⟩:=jv;obtain⟨n,_,_,hg,_⟩:=iY hi;rw[mA,Lf]at hg;obtain⟨v',sk,rfl⟩:=hg;rw[sk]at q;refine aA ?_;cases co<;>exact q
theorem H6{kk:IntKind}{k:Int}:Pu P (Instr.keyThatStays (.int kk k) (.int kk k)) (.int kk k):=λB H d Q q=>by unfold Instr.keyThatStays;rw[aK (by simp[Instr.sameBits])];exact q
theorem Gb{es:List MapEntry}{l:List (Int×Value)}(h:es.map (λe=>(e.key,e.val))=CE kk l){n:Nat}{k:Int}{v:Value}(hn:l[n]? =some (k,v)):∃ e,es[n]? =some e/\e.key=.int kk k/\e.val=v:=by
 have:(es.map (λe=>(e.key,e.val)))[n]? =some (.int kk k,v):=by rw[h];simp[CE,hn]
 rw[kG,Lf]at this;obtain⟨e,h1,h2⟩:=this;obtain⟨h3,h4⟩:=wY h2;exact⟨e,h1,h3,h4⟩
theorem u6.modify{es:Array MapEntry}{clock:Nat}{l:List (Int×Value)}(m:u6 kk es clock l){n:Nat}{k:Int}{v0 v:Value}(hn:l[n]? =some (k,v0))(hs:bA l k v=l.set n (k,v))(f:MapEntry->MapEntry)(hf:∀ e,es.toList[n]? =some e->(f e).key=.int kk k/\(f e).val=v/\(f e).born=e.born):
  u6 kk (es.modify n f) clock (bA l k v):=by
 have hl:(es.modify n f).toList=es.toList.modify n f:=by simp
 have Wa:(es.toList.modify n f).map (·.born)=es.toList.map (·.born):=by
  apply LH;intro i;simp only[kG,zQ];by_cases h:n=i
  ·subst h;cases e:es.toList[n]? with
   |none=>rfl
   |some e'=>simp[(hf e' e).2.2]
  ·simp[h]
 refine⟨?_,?_,?_,?_⟩
 ·rw[hl,hs];apply LH;intro i;have Zs:(es.toList.map λe=>(e.key,e.val))[i]? =(CE kk l)[i]? :=by rw[m.kv]
  simp only[CE,kG,zQ,w6]at Zs⊢;by_cases h:n=i
  ·subst h;have dA:=(jk.1 hn).1;obtain⟨e,h1,h2,h3⟩:=Gb m.kv hn;obtain⟨h4,h5,_⟩:=hf e h1;simp[h1,h4,h5,dA]
  ·simpa[h]using Zs
 ·exact eU m.nd
 ·rw[hl,Wa];exact m.bn
 ·intro e he;rw[hl]at he;have:e.born∈(es.toList.modify n f).map (·.born):=rF (f:=(·.born)) he;rw[Wa]at this;obtain⟨e',h1,h2⟩:=bH.1 this;rw[<- h2];exact m.lt e' h1
theorem u6.push{es:Array MapEntry}{clock:Nat}{l:List (Int×Value)}(m:u6 kk es clock l){k:Int}{v:Value}(hk:k∉l.map (·.1))(hs:bA l k v=l++[(k,v)]):u6 kk (es.push {key:=.int kk k,val:=v,born:=clock}) (clock+1) (bA l k v):=by
 have hl:(es.push {key:=Value.int kk k,val:=v,born:=clock}).toList=es.toList++[{key:=.int kk k,val:=v,born:=clock}]:=by simp
 refine⟨by rw[hl,hs];simp[CE,m.kv],eU m.nd,?_,λe he=>?_⟩
 ·rw[hl,eF];refine im.2 ⟨m.bn,by simp,λa ha b hb=>?_⟩;obtain⟨e,he,rfl⟩:=bH.1 ha;have:=m.lt e he;simp at hb;subst hb;omega
 ·rw[hl]at he;rcases bU.1 he with he|he
  ·have:=m.lt e he;omega
  ·simp at he;subst he;simp
theorem od{X Y:Type}(f:X->Y):∀ (l:List X) (n:Nat),(l.eraseIdx n).map f=(l.map f).eraseIdx n
 |[],_=>rfl
 |_::_,0=>rfl
 |x::l,n+1=>by simp only[LI,iJ,od f l n]
theorem u6.erase{es:Array MapEntry}{clock:Nat}{l:List (Int×Value)}(m:u6 kk es clock l){n:Nat}{k:Int}(hs:ee l k=l.eraseIdx n):u6 kk (es.eraseIdxIfInBounds n) clock (ee l k):=by
 have hl:(es.eraseIdxIfInBounds n).toList=es.toList.eraseIdx n:=by simp
 refine⟨?_,mB m.nd,?_,λe he=>?_⟩
 ·rw[hl,hs,od,m.kv];simp[CE,od]
 ·rw[hl];exact m.bn.sublist ((ju ..).map _)
 ·rw[hl]at he;exact m.lt e ((ju ..).mem he)
theorem Ds{X:Type}(a:Array X)(i:Nat):a[i]? =a.toList[i]? :=by simp
theorem zp{tt key el:aQ}[cM:Mp P tt key el][Ik P key kk]{b:Nat}{l:List (Int×V)}{k:Int}{v:V}{As:List HP}{Q:Unit->Array Obj->Nat->Prop}(s:Sat (dp kk g b l::As) (hp H))
  (q:∀ H',Sat (dp kk g b (bA l k v)::As) (hp H')->Q () H' d):di P B (Instr.mapUpdate tt (.map (some b)) (.int kk k) (g v)) H d Q:=by
 obtain⟨hh,⟨es,clock,mr,uY⟩,gu,hr⟩:=s;have il:hp H b=some (.map es clock):=by subst uY;exact gu b _ (by simp[one])
 have uP:Sat (bR b (.map es clock)::As) (hp H):=⟨hh,uY,gu,hr⟩;unfold Instr.mapUpdate;refine ah (dz cM.h B H d _ ?_);refine ah (gL il rfl ?_);refine ah (nh B H d _ ?_);refine ah (oL mr.kv B H d _ ?_);cases hi:pD k (j6 g l) 0 with
 |none=>
  obtain⟨_,h2,_,h4⟩:=iZ hi;refine kP il rfl rfl (q _ (Sat.imp (λh hh=>⟨_,_,?_,hh⟩) uP.set));rw[<- oc];exact mr.push h4 (h2 _)
 |some jv=>
  obtain⟨j,v0⟩:=jv;obtain⟨n,rfl,hn,_,zl,_⟩:=iY hi;obtain⟨e,he,hk,_⟩:=Gb mr.kv hn;simp only[mj,Ds,he,k7,jU,hk];refine ah (H6 B H d _ ?_);refine kP il rfl rfl (q _ (Sat.imp (λh hh=>⟨_,_,?_,hh⟩) uP.set));rw[<- oc];exact mr.modify hn (zl _) _ λe' we=>⟨rfl,rfl,rfl⟩
theorem Gc{tt t2 key el ty:aQ}[cM:Mp P tt key el][Ik P key kk]{b:Nat}{l:List (Int×V)}{k:Int}{As:List HP}{Q:Value->Array Obj->Nat->Prop}(s:Sat (dp kk g b l::As) (hp H))
  (q:∀ H',Sat (dp kk g b (ee l k)::As) (hp H')->Q (.tuple #[]) H' d):di P B (Builtin.delete_ #[tt,t2] ty #[.map (some b),.int kk k]) H d Q:=by
 obtain⟨hh,⟨es,clock,mr,uY⟩,gu,hr⟩:=s;have il:hp H b=some (.map es clock):=by subst uY;exact gu b _ (by simp[one])
 have uP:Sat (bR b (.map es clock)::As) (hp H):=⟨hh,uY,gu,hr⟩;unfold Builtin.delete_;simp only[FX,PK,PD];refine ah (dz cM.h B H d _ ?_);refine ah (gL il rfl ?_);refine ah (nh B H d _ ?_);refine ah (oL mr.kv B H d _ ?_);cases hi:pD k (j6 g l) 0 with
 |none=>
  obtain⟨_,_,h3,_⟩:=iZ hi;refine ah (kP il rfl rfl (aA (q _ (Sat.imp (λh hh=>⟨_,_,?_,hh⟩) uP.set))));rw[<- tS,h3];exact mr
 |some jv=>
  obtain⟨j,v0⟩:=jv;obtain⟨n,rfl,hn,_,_,hd⟩:=iY hi;refine ah (kP il rfl rfl (aA (q _ (Sat.imp (λh hh=>⟨_,_,?_,hh⟩) uP.set))));rw[<- tS,mj];exact mr.erase hd
theorem Fo.au{P:HP}{A L:List HP}(h:Fo P A L:=by(repeat(first|with_reducible exact Fo.head|with_reducible apply Fo.tail));done):Fo P A L:=h
theorem dB.au{A As L:List HP}(h:dB A As L:=by(repeat(first|with_reducible exact dB.nil|with_reducible exact Fo.head|with_reducible apply Fo.tail|with_reducible apply dB.cons));done):dB A As L:=h
theorem bZ.au{A L:List HP}(h:bZ A L:=by((try simp only[iX,fi]);(repeat(first|with_reducible exact bZ.refl|with_reducible exact bZ.nil|with_reducible exact Fo.head|with_reducible apply Fo.tail|with_reducible apply bZ.cons|with_reducible apply bZ.drop));done)):bZ A L:=h
variable{z:cA}{t2 key:aQ}
variable{l:List (Int×V)}{q:Int}
def Su(A:HP)(As:List HP):Prop:=∀ h,Sat As h->∃ L,Sat (A::L) h
theorem Fo.Js{A:HP}{As L:List HP}(f:Fo A As L):Su A As:=λ_ s=>⟨L,s.perm f.perm⟩
theorem Ext.Js{A:HP}{As kN L:List HP}(e:Ext As kN)(f:Fo A kN L):Su A As:=λ_ s=>⟨L,(e _ s).perm f.perm⟩
theorem ab.lkC(C:ab P ak B R){zv:Value}[cM:Mp P tt key el][Ik P key kk][Zv P el zv](ho:aZ ops i=some ⟨some t,.lookup tt x y true,ty,pos,af,gd⟩)
  (h1:∀ w,aB l q=some w->Nx R d As fn kd n e ds ops aa k cs t (.tuple #[g w,.bool true])) (h2:aB l q=none->Nx R d As fn kd n e ds ops aa k cs t (.tuple #[zv,.bool false]))
  (hx:ev n e x=.map (some b):=by rfl) (hy:ev n e y=.int kk q:=by rfl) (hf:Su (dp kk g b l) As:=by first|(apply Fo.Js;(repeat(first|with_reducible exact Fo.head|with_reducible apply Fo.tail));done)|(apply Ext.Js;assumption;(repeat(first|with_reducible exact Fo.head|with_reducible apply Fo.tail));done)) (hw:aM ops n e gd=true:=by rfl):Nw R d As fn kd n e ds ops i aa k cs:=
 C.gen ho hw λH s=>by
  unfold execOp;simp only[hx,hy];refine ah ?_;obtain⟨L,sL⟩:=hf _ s;refine xy sL ?_;refine⟨As,s,?_⟩;cases hg:aB l q with
  |none=>exact h2 hg
  |some w=>exact h1 w hg
theorem ab.Wb(C:ab P ak B R){zv:Value}{co:Bool}[cM:Mp P tt key el][Ik P key kk][Zv P el zv](ho:aZ ops i=some ⟨some t,.lookup tt x y co,ty,pos,af,gd⟩)
  (h:Nx R d As fn kd n e ds ops aa k cs t (if co then .tuple #[((aB l q).map g).getD zv,.bool (aB l q).isSome]else((aB l q).map g).getD zv))
  (hx:ev n e x=.map (some b):=by rfl) (hy:ev n e y=.int kk q:=by rfl) (hf:Su (dp kk g b l) As:=by first|(apply Fo.Js;(repeat(first|with_reducible exact Fo.head|with_reducible apply Fo.tail));done)|(apply Ext.Js;assumption;(repeat(first|with_reducible exact Fo.head|with_reducible apply Fo.tail));done)) (hw:aM ops n e gd=true:=by rfl):Nw R d As fn kd n e ds ops i aa k cs:=
 C.gen ho hw λH s=>by unfold execOp;simp only[hx,hy];obtain⟨L,sL⟩:=hf _ s;exact ah (xy sL ⟨As,s,h⟩)
theorem ab.Gd(C:ab P ak B R){zv:Value}{w:V}{co:Bool}[cM:Mp P tt key el][Ik P key kk][Zv P el zv](hg:aB l q=some w)(ho:aZ ops i=some ⟨some t,.lookup tt x y co,ty,pos,af,gd⟩)
  (h:Nx R d As fn kd n e ds ops aa k cs t (if co then .tuple #[g w,.bool true]else g w))
  (hx:ev n e x=.map (some b):=by rfl) (hy:ev n e y=.int kk q:=by rfl) (hf:Su (dp kk g b l) As:=by first|(apply Fo.Js;(repeat(first|with_reducible exact Fo.head|with_reducible apply Fo.tail));done)|(apply Ext.Js;assumption;(repeat(first|with_reducible exact Fo.head|with_reducible apply Fo.tail));done)) (hw:aM ops n e gd=true:=by rfl):Nw R d As fn kd n e ds ops i aa k cs:=
 C.Wb ho (by rw[hg];exact h) hx hy hf hw
theorem ab.Ge(C:ab P ak B R){zv:Value}{co:Bool}[cM:Mp P tt key el][Ik P key kk][Zv P el zv](hg:aB l q=none)(ho:aZ ops i=some ⟨some t,.lookup tt x y co,ty,pos,af,gd⟩)
  (h:Nx R d As fn kd n e ds ops aa k cs t (if co then .tuple #[zv,.bool false]else zv))
  (hx:ev n e x=.map (some b):=by rfl) (hy:ev n e y=.int kk q:=by rfl) (hf:Su (dp kk g b l) As:=by first|(apply Fo.Js;(repeat(first|with_reducible exact Fo.head|with_reducible apply Fo.tail));done)|(apply Ext.Js;assumption;(repeat(first|with_reducible exact Fo.head|with_reducible apply Fo.tail));done)) (hw:aM ops n e gd=true:=by rfl):Nw R d As fn kd n e ds ops i aa k cs:=
 C.Wb ho (by rw[hg];exact h) hx hy hf hw
theorem ab.mu(C:ab P ak B R){w:V}[cM:Mp P tt key el][Ik P key kk](ho:aZ ops i=some ⟨none,.mapUpdate tt x y z,ty,pos,af,gd⟩)(h:At R d (dp kk g b (bA l q w)::L) (gr fn kd n e ds (.inRegion ops aa::k) cs))
  (hx:ev n e x=.map (some b):=by rfl) (hy:ev n e y=.int kk q:=by rfl) (hf:Fo (dp kk g b l) As L:=by exact Fo.au) (hz:ev n e z=g w:=by rfl) (hw:aM ops n e gd=true:=by rfl):Nw R d As fn kd n e ds ops i aa k cs:=
 C.gen ho hw λH s=>by unfold execOp;simp only[hx,hy,hz];exact ah (zp (s.perm hf.perm) λH' s'=>⟨_,s',h⟩)
theorem ab.dl(C:ab P ak B R)[cM:Mp P tt key el][Ik P key kk](ho:aZ ops i=some ⟨dst,.call ⟨.builtin .delete,#[x,y],#[tt,t2]⟩,ty,pos,af,gd⟩)(h:At R d (dp kk g b (ee l q)::L) (gr fn kd n (cS e dst (.tuple #[])) ds (.inRegion ops aa::k) cs))
  (hx:ev n e x=.map (some b):=by rfl) (hy:ev n e y=.int kk q:=by rfl) (hf:Fo (dp kk g b l) As L:=by exact Fo.au) (hw:aM ops n e gd=true:=by rfl):Nw R d As fn kd n e ds ops i aa k cs:=
 C.gen ho hw λH s=>by unfold execOp;simp only[resolve];refine ah (aA ?_);simp only[zi,iJ,m1,hx,hy];unfold invoke builtin;exact ah (Gc (s.perm hf.perm) λH' s'=>aA ⟨_,s',h⟩)
theorem ab.Wc(C:ab P ak B R)[cM:Mp P tt key el](ho:aZ ops i=some ⟨some t,.call ⟨.builtin .len,#[x],#[tt]⟩,ty,pos,af,gd⟩)(h:Nx R d As fn kd n e ds ops aa k cs t (.int .i64 l.length))
  (hx:ev n e x=.map (some b):=by rfl) (hf:Su (dp kk g b l) As:=by first|(apply Fo.Js;(repeat(first|with_reducible exact Fo.head|with_reducible apply Fo.tail));done)|(apply Ext.Js;assumption;(repeat(first|with_reducible exact Fo.head|with_reducible apply Fo.tail));done)) (hw:aM ops n e gd=true:=by rfl):Nw R d As fn kd n e ds ops i aa k cs:=
 C.gen ho hw λH s=>by
  obtain⟨L',s'⟩:=hf _ s;obtain⟨hh,⟨es,clock,mr,uY⟩,gu,hr⟩:=s';have il:hp H b=some (.map es clock):=by subst uY;exact gu b _ (by simp[one])
  have hsz:es.size=l.length:=by have:=congrArg List.length mr.kv;simpa[CE,j6]using this
  unfold execOp;simp only[resolve];refine ah (aA ?_);simp only[zi,iJ,m1,hx];unfold invoke builtin;refine ah ?_;unfold Builtin.len_;refine ah (dz cM.h B H d _ ?_);refine ah (gL il rfl (aA (aA ⟨As,s,?_⟩)));rw[hsz];exact h
theorem MM(kk:IntKind)(g:V->Value)(b:Nat)(h:HL)(hh:bR b (.map #[] 0) h):dp kk g b [] h:=⟨_,_,⟨rfl,by simp[j6],by simp,by simp⟩,hh⟩
theorem ab.mm(C:ab P ak B R)(kk:IntKind)(g:V->Value)(ho:aZ ops i=some ⟨some t,.makeMap tt none,ty,pos,af,gd⟩)(h:∀ b,Nx R d (dp kk g b []::As) fn kd n e ds ops aa k cs t (.map (some b)))(hw:aM ops n e gd=true:=by rfl):Nw R d As fn kd n e ds ops i aa k cs:=
 C.gen ho hw λH s=>by unfold execOp;simp only[Instr.makeMap,CR];refine ah (ah ?_);show di P B (.new _ _) H d _;simp only[di];show di P B (pure _) _ d _;exact aA ⟨_,(s.push _).imp (MM kk g _),h _⟩
end
section
open Go.Conc
def z9(ops:Array Oper)(i:Nat):List Nat:=
 match aZ ops i with
 |some o=>(o.after.toList.filter (Region.binds .any)).map (·.on)
 |none=>[]
structure SE where
 i:Nat
 t:Nat
 v:Value
 ld:Bool
def TX:List SE->List Nat->Nat->Option Value
 |[],_,_=>none
 |x::S,pre,s=>if x.t=s then(if pre.contains x.i then some x.v else TX S pre s)else TX S pre s
def Lo:List SE->Nat->Option Value
 |[],_=>none
 |x::S,s=>if x.t=s then some x.v else Lo S s
def FJ:List (Nat×Nat)->Nat->Option Nat
 |[],_=>none
 |(s',w)::D,s=>if s'=s then some w else FJ D s
def lX(e0:Nat->Value)(D:List (Nat×Nat))(ops:Array Oper)(i:Nat)(S:List SE)(e:Nat->Value):Nat->Value:=λs=>
 match TX S (z9 ops i) s with
 |some v=>v
 |none=>match FJ D s with
  |none=>e0 s
  |some w=>if(z9 ops w).contains i then e0 s else e s
def pe(e0:Nat->Value)(S:List SE):Nat->Value:=λs=>
 match Lo S s with
 |some v=>v
 |none=>e0 s
def reach(ops:Array Oper):Nat->Nat->Nat->Bool
 |0,i,j=>i==j
 |f+1,i,j=>i==j||(z9 ops i).any λm=>reach ops f m j
def Bv(ops:Array Oper)(T':List Nat):List Nat:=T'.filter λt=>T'.all λu=>u==t|| !reach ops 8 t u
section
variable(P:bL)(R:Nat->aP->Array Obj->Prop)(d:Nat)(fn:bI)(kd:Kd)(n:Nat)(ds:List dQ)(ops:Array Oper)(k:List Item)(cs:List Frame)(e0:Nat->Value)(D:List (Nat×Nat))
def Nd(W:List HP)(S:List SE)(C:List SE->List HP->Prop)(t:Nat):Nat->List SE->List HP->Prop
 |0,K,As=>∃ o,aZ ops t=some o/\∀ e aa,(∀ aN v,C (match o.dst with|some s=>⟨t,s,v,false⟩::K|none=>K) aN->At R d aN (gr fn kd n (cS (lX e0 D ops t (K++S) e) o.dst v) ds (.inRegion ops aa::k) cs))->
   At R d As (gr fn kd n (lX e0 D ops t (K++S) e) ds (.inRegion ops (t::aa)::k) cs)
 |_+1,K,As=>∃ o,aZ ops t=some o/\∀ e aa,(∀ aN v,F6 W aN As->C (match o.dst with|some s=>⟨t,s,v,false⟩::K|none=>K) aN->At R d aN (gr fn kd n (cS (lX e0 D ops t (K++S) e) o.dst v) ds (.inRegion ops aa::k) cs))->
   At R d As (gr fn kd n (lX e0 D ops t (K++S) e) ds (.inRegion ops (t::aa)::k) cs)
def Wd(W:List HP)(S:List SE)(x:SE):Prop:=
 (∃ o,aZ ops x.i=some o/\o.dst=some x.t)/\∀ As e aa,(x.ld=true->Ext As W)->At R d As (gr fn kd n (put (lX e0 D ops x.i S e) x.t x.v) ds (.inRegion ops aa::k) cs)->At R d As (gr fn kd n (lX e0 D ops x.i S e) ds (.inRegion ops (x.i::aa)::k) cs)
def Ch(W:List HP):Nat->List SE->List Nat->Nat->List SE->List HP->Prop
 |0,S,_,_,K,As=>At R d As (gr fn kd n (pe e0 (K++S)) ds (.inRegion ops []::k) cs)
 |f+1,S,T',a,K,As=>(∀ t∈Bv ops T',Nd R d fn kd n ds ops k cs e0 D W S (λK As=>Ch W f S (T'.erase t) (a-1) K As) t a K As)\/(∃ i∈T',∃ t v,Wd R d fn kd n ds ops k cs e0 D W (K++S) ⟨i,t,v,false⟩/\Ch W f (⟨i,t,v,false⟩::S) (T'.erase i) a K As)\/
   (∃ t,T'=[t]/\(∃ o,aZ ops t=some o/\o.dst=none)/\((List.range ops.size).all λi=>i==t||reach ops 8 t i)=true/\At R d As (gr fn kd n (pe e0 (K++S)) ds (.inRegion ops [t]::k) cs))
def Dr(W kN:List HP)(T:List Nat)(a:Nat):List SE->List Nat->Prop
 |S,[]=>(S.all λx=> !x.ld||decide ((T.filter λt=> !reach ops 8 t x.i).length<=a))=true/\Ext kN W/\Ch R d fn kd n ds ops k cs e0 D W T.length S T a [] kN
 |S,i::is=>∃ t v ld,Wd R d fn kd n ds ops k cs e0 D W S ⟨i,t,v,ld⟩/\Dr W kN T a (⟨i,t,v,ld⟩::S) is
end
section
variable{P:bL}{ak:Bool}{B:jW}{R:Nat->aP->Array Obj->Prop}{d:Nat}{fn:bI}{kd:Kd}{n:Nat}{ds:List dQ}{ops:Array Oper}{k:List Item}{cs:List Frame}{e0:Nat->Value}{D:List (Nat×Nat)}{W kN:List HP}{T:List Nat}{a:Nat}{S:List SE}{i:Nat}{is:List Nat}
theorem Dr.pu{t:Nat}{v:Value}(ho:∃ o,aZ ops i=some o/\o.dst=some t)(h:∀ As e aa,At R d As (gr fn kd n (put (lX e0 D ops i S e) t v) ds (.inRegion ops aa::k) cs)->At R d As (gr fn kd n (lX e0 D ops i S e) ds (.inRegion ops (i::aa)::k) cs))
  (k':Dr R d fn kd n ds ops k cs e0 D W kN T a (⟨i,t,v,false⟩::S) is):Dr R d fn kd n ds ops k cs e0 D W kN T a S (i::is):=⟨t,v,false,⟨ho,λAs e aa _ h'=>h As e aa h'⟩,k'⟩
theorem Dr.ld{t:Nat}{v:Value}(ho:∃ o,aZ ops i=some o/\o.dst=some t)(h:∀ As,Ext As W->∀ e aa,At R d As (gr fn kd n (put (lX e0 D ops i S e) t v) ds (.inRegion ops aa::k) cs)->At R d As (gr fn kd n (lX e0 D ops i S e) ds (.inRegion ops (i::aa)::k) cs))
  (k':Dr R d fn kd n ds ops k cs e0 D W kN T a (⟨i,t,v,true⟩::S) is):Dr R d fn kd n ds ops k cs e0 D W kN T a S (i::is):=⟨t,v,true,⟨ho,λAs e aa hA h'=>h As (hA rfl) e aa h'⟩,k'⟩
theorem Ch.n1{f:Nat}{T':List Nat}{t a:Nat}{K:List SE}{As:List HP}(hc:Bv ops T'=[t])(h:Nd R d fn kd n ds ops k cs e0 D W S (λK As=>Ch R d fn kd n ds ops k cs e0 D W f S (T'.erase t) (a-1) K As) t a K As):Ch R d fn kd n ds ops k cs e0 D W (f+1) S T' a K As:=.inl λt' ht=>by rw[hc]at ht;obtain rfl:=dF.1 ht;exact h
theorem Ch.n2{f:Nat}{T':List Nat}{t u a:Nat}{K:List SE}{As:List HP}(hc:Bv ops T'=[t,u])(h:Nd R d fn kd n ds ops k cs e0 D W S (λK As=>Ch R d fn kd n ds ops k cs e0 D W f S (T'.erase t) (a-1) K As) t a K As)
  (h2:Nd R d fn kd n ds ops k cs e0 D W S (λK As=>Ch R d fn kd n ds ops k cs e0 D W f S (T'.erase u) (a-1) K As) u a K As):Ch R d fn kd n ds ops k cs e0 D W (f+1) S T' a K As:=.inl λt' ht=>by
 rw[hc]at ht;rcases ga.1 ht with rfl|ht
 ·exact h
 ·obtain rfl:=dF.1 ht;exact h2
theorem Ch.pu{f:Nat}{T':List Nat}{i t a:Nat}{v:Value}{K:List SE}{As:List HP}(ho:∃ o,aZ ops i=some o/\o.dst=some t)(h:∀ As e aa,At R d As (gr fn kd n (put (lX e0 D ops i (K++S) e) t v) ds (.inRegion ops aa::k) cs)->At R d As (gr fn kd n (lX e0 D ops i (K++S) e) ds (.inRegion ops (i::aa)::k) cs))
  (k':Ch R d fn kd n ds ops k cs e0 D W f (⟨i,t,v,false⟩::S) (T'.erase i) a K As) (hi:i∈T':=by decide):Ch R d fn kd n ds ops k cs e0 D W (f+1) S T' a K As:=.inr (.inl ⟨i,hi,t,v,⟨ho,λAs e aa _ h'=>h As e aa h'⟩,k'⟩)
theorem Ch.last{f:Nat}{T':List Nat}(t:Nat){a:Nat}{K:List SE}{As:List HP}(ho:∃ o,aZ ops t=some o/\o.dst=none)(h:At R d As (gr fn kd n (pe e0 (K++S)) ds (.inRegion ops [t]::k) cs))
  (hT:T'=[t]:=by rfl) (ha:((List.range ops.size).all λi=>i==t||reach ops 8 t i)=true:=by decide+kernel):Ch R d fn kd n ds ops k cs e0 D W (f+1) S T' a K As:=.inr (.inr ⟨t,hT,ho,ha,h⟩)
theorem Ch.fin{T':List Nat}{a:Nat}{K:List SE}{As:List HP}(h:At R d As (gr fn kd n (pe e0 (K++S)) ds (.inRegion ops []::k) cs)):Ch R d fn kd n ds ops k cs e0 D W 0 S T' a K As:=h
theorem Dr.chain(hl:(S.all λx=> !x.ld||decide ((T.filter λt=> !reach ops 8 t x.i).length<=a))=true)(h:Ch R d fn kd n ds ops k cs e0 D W T.length S T a [] kN)(hw:Ext kN W:=by exact λ_ s=>s):Dr R d fn kd n ds ops k cs e0 D W kN T a S []:=⟨hl,hw,h⟩
end
def iu(ops:Array Oper)(i:Nat):Option Nat:=match aZ ops i with|some o=>o.dst|none=>none
def lG:List Nat->Bool
 |[]=>true
 |a::l=> !l.contains a&&lG l
def sx(md:Region.Mode)(ops:Array Oper)(i:Nat):List Nat:=
 match aZ ops i with
 |some o=>(o.after.toList.filter (Region.binds md)).map (·.on)
 |none=>[]
def P1(md:Region.Mode)(ops:Array Oper):List Nat->List Nat->Bool
 |_,[]=>true
 |dn,i::l=>(sx md ops i).all (λj=>dn.contains j)&&P1 md ops (i::dn) l
def Sv(md:Region.Mode)(ops:Array Oper):Nat->List Nat->List Nat
 |0,_=>[]
 |f+1,dn=>match(List.range ops.size).find? (λi=> !dn.contains i&&(sx md ops i).all (λj=>dn.contains j))with
  |some i=>i::Sv md ops f (i::dn)
  |none=>[]
def Sw(md:Region.Mode)(ops:Array Oper)(tp:List Nat):Bool:=(List.range ops.size).all (λi=>tp.contains i)&&tp.all (λi=>decide (i<ops.size))&&P1 md ops [] tp
theorem Aa{md:Region.Mode}{ops:Array Oper}{L:Nat->Bool}:∀ {tp dn:List Nat},P1 md ops dn tp=true->(∀ j∈dn,L j=true)->(∃ i∈tp,L i=false)->∃ i∈tp,L i=false/\∀ j∈sx md ops i,L j=true
 |[],_,_,_,h=>by obtain⟨i,hi,_⟩:=h;cases hi
 |i::l,dn,h,hd,he=>by
  simp only[P1,lN,k9]at h;cases hL:L i with
  |false=>exact⟨i,iz ..,hL,λj hj=>hd j (by have:=h.1 j hj;simpa using this)⟩
  |true=>
   obtain⟨q,hq,qR⟩:=he;obtain⟨z,h1,h2⟩:=Aa h.2 (λj hj=>(ga.1 hj).elim (λe=>e▸hL) (hd j)) ⟨q,(ga.1 hq).resolve_left (λe=>by rw[e,hL]at qR;cases qR),qR⟩;exact⟨z,gb _ h1,h2⟩
theorem wI{md:Region.Mode}{ops:Array Oper}{i j:Nat}(h:j∈z9 ops i):j∈sx md ops i:=by
 unfold z9 at h;unfold sx;split at h
 ·rename_i o ho;simp only[bH,gP]at h⊢;obtain⟨e,⟨he,hb⟩,rfl⟩:=h;refine⟨e,⟨he,?_⟩,rfl⟩;unfold Region.binds at hb⊢;revert hb;cases e.ground<;>simp
 ·cases h
def rN(ops:Array Oper)(D:List (Nat×Nat))(T is:List Nat):Bool:=
 (!Region.departs ops||Sw .gc ops (Sv .gc ops ops.size []))&&(List.range ops.size).all (λi=>(sx .text ops i).all (· <i))&&D.all (λp=>iu ops p.2==some p.1)&&
 (List.range ops.size).all (λi=>match iu ops i with|some s=>FJ D s==some i|none=>true)&&
 (List.range ops.size).all (λi=>is.contains i||T.contains i)&&is.all (λi=> !T.contains i&&decide (i<ops.size))&&T.all (λi=>decide (i<ops.size))&&lG T
theorem P2{D:List (Nat×Nat)}{s w:Nat}(h:FJ D s=some w):(s,w)∈D:=by
 induction D with
 |nil=>cases h
 |cons p D ih=>
  obtain⟨s',w'⟩:=p;unfold FJ at h;split at h
  ·rename_i e;cases h;subst e;exact iz ..
  ·exact gb _ (ih h)
theorem H7{S:List SE}{pre:List Nat}{s:Nat}{v:Value}(h:TX S pre s=some v):∃ x∈S,x.t=s/\x.v=v/\x.i∈pre:=by
 induction S with
 |nil=>cases h
 |cons x S ih=>
  unfold TX at h;split at h
  ·split at h
   ·rename_i e1 e2;cases h;exact⟨x,iz ..,e1,rfl,by simpa using e2⟩
   ·obtain⟨y,hy,z⟩:=ih h;exact⟨y,gb _ hy,z⟩
  ·obtain⟨y,hy,z⟩:=ih h;exact⟨y,gb _ hy,z⟩
theorem H8{S:List SE}{s:Nat}{v:Value}(h:Lo S s=some v):∃ x∈S,x.t=s/\x.v=v:=by
 induction S with
 |nil=>cases h
 |cons x S ih=>
  unfold Lo at h;split at h
  ·rename_i e1;cases h;exact⟨x,iz ..,e1,rfl⟩
  ·obtain⟨y,hy,z⟩:=ih h;exact⟨y,gb _ hy,z⟩
theorem Dt{S:List SE}{s:Nat}(h:Lo S s=none):∀ x∈S,x.t≠s:=by
 induction S with
 |nil=>intro x hx;cases hx
 |cons y S ih=>
  unfold Lo at h;split at h
  ·cases h
  ·rename_i e1;intro x hx;rcases ga.1 hx with rfl|hx
   ·exact e1
   ·exact ih h x hx
theorem kQ{ops:Array Oper}{f i j:Nat}(h:reach ops (f+1) i j=true):i=j\/∃ m∈z9 ops i,reach ops f m j=true:=by simpa only[reach,CU,CW,m6]using h
theorem gz{ops:Array Oper}{L:Nat->Prop}(hc:∀ w,L w->∀ j∈z9 ops w,L j):∀ (f i j:Nat),reach ops f i j=true->L i->L j
 |0,i,j,h,hl=>by simp[reach]at h;subst h;exact hl
 |f+1,i,j,h,hl=>by
  simp only[reach,CU,CW,m6]at h;rcases h with rfl|⟨m,hm,h⟩
  ·exact hl
  ·exact gz hc f m j h (hc i hl m hm)
structure Ab(ops:Array Oper)(D:List (Nat×Nat))(T is:List Nat):Prop where
 prog:∀ md (L:Nat->Bool),(∃ i,i<ops.size/\L i=false)->∃ i,i<ops.size/\L i=false/\∀ j∈sx md ops i,L j=true
 down:∀ i,i<ops.size->∀ j∈z9 ops i,j<i
 d1:∀ s w,FJ D s=some w->iu ops w=some s
 d2:∀ i s,iu ops i=some s->FJ D s=some i
 Xp:∀ i,i<ops.size->i∈is\/i∈T
 Xq:∀ i∈is,i∉T/\i<ops.size
 Tlt:∀ i∈T,i<ops.size
 nd:lG T=true
theorem H9:∀ {l:List Oper} {i:Nat} {o:Oper},PZ l i=some o->i<l.length
 |[],_,_,h=>by cases h
 |_::_,0,_,_=>by simp
 |_::l,i+1,_,h=>by have:=H9 (l:=l) h;simp;omega
theorem mC{ops:Array Oper}{i s:Nat}(h:iu ops i=some s):i<ops.size:=by
 unfold iu at h;cases e:aZ ops i with
 |none=>rw[e]at h;cases h
 |some o=>have:=H9 e;simpa using this
section
variable{P:bL}{ak:Bool}{B:jW}{R:Nat->aP->Array Obj->Prop}{d:Nat}{fn:bI}{kd:Kd}{n:Nat}{ds:List dQ}{ops:Array Oper}{k:List Item}{cs:List Frame}{e0:Nat->Value}{D:List (Nat×Nat)}{W kN:List HP}{T is:List Nat}{a:Nat}{S:List SE}
structure Sy(R:Nat->aP->Array Obj->Prop)(d:Nat)(fn:bI)(kd:Kd)(n:Nat)(ds:List dQ)(ops:Array Oper)(k:List Item)(cs:List Frame)(e0:Nat->Value)(D:List (Nat×Nat))(W kN:List HP)(T is:List Nat)(a:Nat)(S:List SE)(L:Nat->Prop)(e:Nat->Value)(K:List SE)(Td T' Ts:List Nat)(As:List HP):Prop where
 v1:∀ x∈K++S,L x.i->e x.t=x.v
 v2:∀ s,FJ D s=none->e s=e0 s
 v3:∀ s w,FJ D s=some w->¬ L w->e s=e0 s
 cl:∀ w,L w->∀ j∈z9 ops w,L j
 tt:T.Perm (Td++(T'++Ts))
 td:∀ t∈Td,L t
 tn:∀ t∈T',¬ L t
 lk:∀ x∈K++S,iu ops x.i=some x.t
 ka:∀ t∈Td,∀ s,iu ops t=some s->∃ x∈K,x.t=s
 ki:∀ x∈K,x.i∈Td
 sS:∀ x∈S,(x.i∈is\/x.i∈Ts)/\∃ Sx,(∀ y∈Sx,y∈K++S)/\Wd R d fn kd n ds ops k cs e0 D W Sx x
 sI:∀ i,i∈is\/i∈Ts->∃ x∈S,x.i=i
 sL:∀ x∈S,x.ld=true->(T.filter λt=> !reach ops 8 t x.i).length<=a
 sU:∀ x∈S,∀ y∈S,x.i=y.i->x=y
 ch:Ch R d fn kd n ds ops k cs e0 D W T'.length S T' (a-Td.length) K As
 aS:Td.length<=a->Ext As W
theorem Sy.env{L:Nat->Prop}{e:Nat->Value}{K:List SE}{Td T' Ts:List Nat}{As:List HP}(h:Sy R d fn kd n ds ops k cs e0 D W kN T is a S L e K Td T' Ts As){i:Nat}(hi:¬ L i)(hr:∀ j∈z9 ops i,L j){S':List SE}(hS:∀ x∈S',x∈K++S):lX e0 D ops i S' e=e:=by
 funext s
 unfold lX;cases h1:TX S' (z9 ops i) s with
 |some v=>
  obtain⟨x,hx,rfl,rfl,hp⟩:=H7 h1;exact(h.v1 x (hS x hx) (hr _ hp)).symm
 |none=>
  simp only;cases h2:FJ D s with
  |none=>exact(h.v2 s h2).symm
  |some w=>
   simp only;split
   ·rename_i hc;have MN:i∈z9 ops w:=by simpa using hc
    exact(h.v3 s w h2 λhl=>hi (h.cl w hl i MN)).symm
   ·rfl
def u7(f:Nat->Bool):Nat->Nat
 |0=>0
 |m+1=>u7 f m+(if f m then 0 else 1)
theorem qb{f:Nat->Bool}:∀ {m:Nat},u7 f m=0->∀ i,i<m->f i=true
 |0,_,i,hi=>by omega
 |m+1,h,i,hi=>by
  unfold u7 at h;by_cases e:i=m
  ·subst e;by_cases hf:f i=true
   ·exact hf
   ·simp[hf]at h
  ·exact qb (m:=m) az i az
theorem tT{f f':Nat->Bool}{i:Nat}(h1:f i=false)(h2:f' i=true)(h3:∀ j,j≠i->f' j=f j):∀ {m:Nat},(i<m->u7 f' m+1=u7 f m)/\(m<=i->u7 f' m=u7 f m)
 |0=>⟨λh=>by omega,λ_=>rfl⟩
 |m+1=>by
  have ih:=tT h1 h2 h3 (m:=m);refine⟨λh=>?_,λh=>?_⟩
  ·unfold u7;by_cases e:i=m
   ·subst e;rw[ih.2 (gZ _),h1,h2];simp
   ·have:=ih.1 az;rw[h3 m (iP e)];omega
  ·unfold u7;rw[ih.2 az,h3 m az]
theorem iC{f:Nat->Bool}:∀ {m:Nat},u7 f m≠0->∃ i,i<m/\f i=false/\∀ j,j<i->f j=true
 |0,h=>absurd rfl h
 |m+1,h=>by
  by_cases e:u7 f m=0
  ·refine⟨m,az,?_,λj hj=>qb e j hj⟩;by_cases hf:f m=true
   ·unfold u7 at h;simp[e,hf]at h
   ·simpa using hf
  ·obtain⟨i,h1,h2⟩:=iC e;exact⟨i,az,h2⟩
theorem sA{ops:Array Oper}{md:Region.Mode}(hd:∀ i,i<ops.size->∀ j∈sx md ops i,j<i)(L:Nat->Bool)(h:∃ i,i<ops.size/\L i=false):∃ i,i<ops.size/\L i=false/\∀ j∈sx md ops i,L j=true:=by obtain⟨q,hq,hL⟩:=h;obtain⟨i,h1,h2,h3⟩:=iC (f:=L) (m:=ops.size) (λz=>by rw[qb z q hq]at hL;cases hL);exact⟨i,h1,h2,λj hj=>h3 j (hd i h1 j hj)⟩
theorem tU{ops:Array Oper}{md:Region.Mode}{i j:Nat}:j∈sx md ops i↔∃ o,aZ ops i=some o/\∃ e∈o.after,Region.binds md e=true/\e.on=j:=by
 unfold sx;constructor
 ·intro h;split at h
  ·rename_i o ho;simp only[bH,gP,Bf]at h;obtain⟨e,⟨he,hb⟩,rfl⟩:=h;exact⟨o,ho,e,he,hb,rfl⟩
  ·cases h
 ·rintro⟨o,ho,e,he,hb,rfl⟩;rw[ho];simp only[bH,gP,Bf];exact⟨e,⟨he,hb⟩,rfl⟩
theorem tV{ops:Array Oper}{D:List (Nat×Nat)}{T is:List Nat}(h:rN ops D T is=true):Ab ops D T is:=by
 simp only[rN,lN,CX,k9,m7,CU,List.contains_iff_mem,o4,CW]at h;obtain⟨⟨⟨⟨⟨⟨⟨h1,h2⟩,h3⟩,h4⟩,h5⟩,h6⟩,h7⟩,h8⟩:=h;have zq:∀ i,i<ops.size->∀ j∈sx .any ops i,j<i:=λi hi j hj=>h2 i hi j (wI (by exact hj));refine⟨λmd L hex=>?_,λi hi j hj=>h2 i hi j (wI hj),λs w e=>h3 (s,w) (P2 e),λi s e=>?_,h5,λi hi=>?_,h7,h8⟩
 ·cases md with
  |text=>exact sA h2 L hex
  |any=>exact sA zq L hex
  |gc=>
   rcases h1 with h1|h1
   ·refine sA (λi hi j hj=>?_) L hex;obtain⟨o,ho,e,he,hb,rfl⟩:=tU.1 hj;refine zq i hi _ (tU.2 ⟨o,ho,e,he,?_,rfl⟩);unfold Region.departs at h1;rw[Array.any_eq_false]at h1;have hn:ops[i]? =some o:=by rw[db];exact ho
    rw[CA hi]at hn;have:=h1 i hi;rw[bS hn]at this;cases hz:Region.binds .any e with
    |true=>rfl
    |false=>
     obtain⟨q,hq,rfl⟩:=WN.1 he;exact absurd (Array.any_eq_true.2 ⟨q,hq,by simp[hz]⟩) this
   ·simp only[Sw,lN,k9,m7,o4]at h1;obtain⟨⟨c1,c2⟩,c3⟩:=h1;obtain⟨q,hq,hL⟩:=hex;obtain⟨i,hi,Jt⟩:=Aa (L:=L) c3 (λj hj=>by cases hj) ⟨q,by have:=c1 q hq;simpa using this,hL⟩;exact⟨i,c2 i hi,Jt⟩
 ·have:=h4 i (mC e);rw[e]at this;simpa using this
 ·have:=h6 i hi;exact⟨by have:=this.1;simpa using this,this.2⟩
theorem qS{md:Region.Mode}{listed:Array Bool}{i:Nat}(dA:i<ops.size):(((ops[i]?).map (·.after.all λe=> !Region.binds md e||listed.getD e.on false)).getD false)=true↔∀ j∈sx md ops i,listed[j]?.getD false=true:=by
 have ho:ops[i]? =some ops[i]:=CA dA;have hn:aZ ops i=some ops[i]:=by rw[<- db];exact ho
 rw[ho];simp only[k7,jU,Array.all_eq_true];constructor
 ·intro h j hj;obtain⟨o,Sz,e,he,hb,rfl⟩:=tU.1 hj;rw[hn]at Sz;obtain rfl:=bS Sz;obtain⟨q,hq,rfl⟩:=WN.1 he;have:=h q hq;rw[hb]at this;simpa[Array.getD_eq_getD_getElem?]using this
 ·intro h q hq;cases hb:Region.binds md (ops[i]).after[q]with
  |false=>simp
  |true=>
   have:=h _ (tU.2 ⟨_,hn,_,Array.getElem_mem hq,hb,rfl⟩);simp[Array.getD_eq_getD_getElem?,this]
theorem ni(md:Region.Mode)(ops:Array Oper)(fuel t:Nat)(listed:Array Bool)(i:Nat):Region.linearise.go md ops fuel t listed [i]=i::Region.linearise.go md ops fuel t listed []:=by rw[linearise_go_acc md ops fuel t listed [i]];rfl
theorem wJ{listed:Array Bool}{i:Nat}(hi:i<listed.size)(j:Nat):(listed.setIfInBounds i true)[j]?.getD false=if j=i then true else listed[j]?.getD false:=by
 by_cases e:j=i
 ·subst e;rw[jM hi];simp
 ·rw[gq (iP e)];simp[e]
theorem qc{a:Nat}{l:List Nat}(h:lG (a::l)=true):a∉l/\lG l=true:=by simp only[lG,lN,CX]at h;exact⟨by have:=h.1;simpa using this,h.2⟩
theorem qT:∀ {l:List Nat},lG l=true->l.Nodup
 |[],_=>LJ
 |a::l,h=>rh.2 ⟨(qc h).1,qT (qc h).2⟩
theorem tW(rg:Ab ops D T is){i j s:Nat}(h1:iu ops i=some s)(h2:iu ops j=some s):i=j:=by have:=(rg.d2 i s h1).symm.trans (rg.d2 j s h2);exact bS this
theorem Sy.norm(rg:Ab ops D T is){L:Nat->Prop}{e:Nat->Value}{K:List SE}{Td:List Nat}{As:List HP}:∀ (m:Nat) {S:List SE} {T' Ts:List Nat},T'.length=m->Sy R d fn kd n ds ops k cs e0 D W kN T is a S L e K Td T' Ts As->
  ∃ S' T2 Ts',Sy R d fn kd n ds ops k cs e0 D W kN T is a S' L e K Td T2 Ts' As/\(∀ f,T2.length=f+1->(∀ t∈Bv ops T2,Nd R d fn kd n ds ops k cs e0 D W S' (λK As=>Ch R d fn kd n ds ops k cs e0 D W f S' (T2.erase t) (a-Td.length-1) K As) t (a-Td.length) K As)\/
   (∃ t,T2=[t]/\(∃ o,aZ ops t=some o/\o.dst=none)/\((List.range ops.size).all λi=>i==t||reach ops 8 t i)=true/\At R d As (gr fn kd n (pe e0 (K++S')) ds (.inRegion ops [t]::k) cs)))
 |0,S,T',Ts,hm,st=>⟨S,T',Ts,st,λf hf=>by omega⟩
 |m+1,S,T',Ts,hm,st=>by
  have o8:=st.ch;rw[hm]at o8;rcases o8 with o8|⟨i,hi,t,v,ob,o8⟩|o8
  ·exact⟨S,T',Ts,st,λf hf=>by obtain rfl:f=m:=az;exact .inl o8⟩
  rotate_left
  ·exact⟨S,T',Ts,st,λf hf=>.inr o8⟩
  ·have SA:T'.Perm (i::T'.erase i):=LK hi;have hlen:(T'.erase i).length=m:=by have:=SA.length_eq;simp only[jc]at this;omega
   have lR:(Td++(T'++Ts)).Nodup:=st.tt.nodup_iff.1 (qT rg.nd);have hTi:i∈T:=st.tt.mem_iff.2 (jw _ (j0 _ hi));have SB:∀ y∈S,y.i≠i:=λy hy e=>by
    rcases(st.sS y hy).1 with h|h
    ·exact(rg.Xq _ h).1 (e▸hTi)
    ·exact(im.1 (im.1 lR).2.1).2.2 i hi y.i h e.symm
   have tX:iu ops i=some t:=by obtain⟨⟨o,ho,hd⟩,_⟩:=ob;unfold iu;rw[ho];exact hd
   refine Sy.norm rg m (Ts:=i::Ts) hlen ⟨λx hx hL=>?_,st.v2,st.v3,st.cl,?_,st.td,λu hu=>st.tn u (List.mem_of_mem_erase hu),λx hx=>?_,st.ka,st.ki,λx hx=>?_,λj hj=>?_,λx hx We=>?_,λx hx y hy e=>?_,by rw[hlen];exact o8,st.aS⟩
   ·rcases bU.1 hx with hx|hx
    ·exact st.v1 x (j0 _ hx) hL
    ·rcases ga.1 hx with rfl|hx
     ·exact absurd hL (st.tn _ hi)
     ·exact st.v1 x (jw _ hx) hL
   ·exact st.tt.trans (List.Perm.append_left _ ((SA.append_right Ts).trans (by simp only[iX];exact Hy.symm)))
   ·rcases bU.1 hx with hx|hx
    ·exact st.lk x (j0 _ hx)
    ·rcases ga.1 hx with rfl|hx
     ·exact tX
     ·exact st.lk x (jw _ hx)
   ·rcases ga.1 hx with rfl|hx
    ·exact⟨.inr (iz ..),K++S,λy hy=>(bU.1 hy).elim (λh=>j0 _ h) (λh=>jw _ (gb _ h)),ob⟩
    ·obtain⟨h1,Sx,h2,h3⟩:=st.sS x hx;exact⟨h1.imp_right (gb _),Sx,λy hy=>(bU.1 (h2 y hy)).elim (λh=>j0 _ h) (λh=>jw _ (gb _ h)),h3⟩
   ·have:j=i\/(j∈is\/j∈Ts):=by
     rcases hj with h|h
     ·exact .inr (.inl h)
     ·rcases ga.1 h with h|h
      ·exact .inl h
      ·exact .inr (.inr h)
    rcases this with rfl|h
    ·exact⟨_,iz ..,rfl⟩
    ·obtain⟨x,hx,e⟩:=st.sI j h;exact⟨x,gb _ hx,e⟩
   ·rcases ga.1 hx with rfl|hx
    ·cases We
    ·exact st.sL x hx We
   ·rcases ga.1 hx with rfl|hx<;>rcases ga.1 hy with rfl|hy
    ·rfl
    ·exact absurd e.symm (SB y hy)
    ·exact absurd e (SB x hx)
    ·exact st.sU x hx y hy e
theorem u9{md:Region.Mode}(rg:Ab ops D T is):
  ∀ (fuel t:Nat) (listed:Array Bool) (e:Nat->Value) (S:List SE) (K:List SE) (Td T' Ts:List Nat) (As:List HP),listed.size=ops.size->u7 (λi=>listed[i]?.getD false) ops.size=fuel->Sy R d fn kd n ds ops k cs e0 D W kN T is a S (λi=>listed[i]?.getD false=true) e K Td T' Ts As->
   At R d As (gr fn kd n e ds (.inRegion ops (Region.linearise.go md ops fuel t listed [])::k) cs):=by
 intro fuel
 induction fuel with
 |zero=>
  intro t listed e S K Td T' Ts As hsz hu st;have iK:=qb hu;have Zt:T'=[]:=by
   cases T' with
   |nil=>rfl
   |cons x l=>exact absurd (iK x (rg.Tlt x (st.tt.mem_iff.2 (jw _ (j0 _ (iz ..)))))) (st.tn x (iz ..))
  subst Zt;simp only[Region.linearise.go,Hz];have he:e=pe e0 (K++S):=by
   funext s
   unfold pe;cases h1:Lo (K++S) s with
   |some v=>
    obtain⟨x,hx,rfl,rfl⟩:=H8 h1;exact st.v1 x hx (iK _ (mC (st.lk x hx)))
   |none=>
    simp only;have pa:=Dt h1;cases h2:FJ D s with
    |none=>exact st.v2 s h2
    |some w=>
     have hd:=rg.d1 s w h2;have hwc:(w∈is\/w∈Ts)\/w∈Td:=by
      rcases rg.Xp w (mC hd)with hw|hw
      ·exact .inl (.inl hw)
      ·rcases bU.1 (st.tt.mem_iff.1 hw)with hw|hw
       ·exact .inr hw
       ·exact .inl (.inr (by simpa using hw))
     rcases hwc with hw|hw
     ·obtain⟨x,hx,rfl⟩:=st.sI w hw;have:=st.lk x (jw _ hx);rw[hd]at this;exact absurd (bS this).symm (pa x (jw _ hx))
     ·obtain⟨x,hx,TU⟩:=st.ka w hw s hd;exact absurd TU (pa x (j0 _ hx))
  rw[he];exact st.ch
 |succ fuel ih=>
  intro t listed e S K Td T' Ts As hsz hu st0;obtain⟨S,T',Ts,st,aaG⟩:=st0.norm rg _ rfl;have pB:∀ i,i∈((List.range ops.size).filter λi=> !listed.getD i true&&((ops[i]?).map (·.after.all λe=> !Region.binds md e||listed.getD e.on false)).getD false)↔i<ops.size/\listed[i]?.getD false=false/\∀ j∈sx md ops i,listed[j]?.getD false=true:=by
   intro i;simp only[gP,m7,lN,CX];constructor
   ·rintro⟨h1,h2,h3⟩;refine⟨h1,?_,(qS h1).1 h3⟩;have:i<listed.size:=az;simpa[Array.getD_eq_getD_getElem?,this]using h2
   ·rintro⟨h1,h2,h3⟩;refine⟨h1,?_,(qS h1).2 h3⟩;have:i<listed.size:=az;simpa[Array.getD_eq_getD_getElem?,this]using h2
  simp only[Region.linearise.go];generalize hG:((List.range ops.size).filter λi=> !listed.getD i true&&((ops[i]?).map (·.after.all λe=> !Region.binds md e||listed.getD e.on false)).getD false)=rs at pB;obtain⟨i1,CF,Ju,_⟩:=iC (f:=λi=>listed[i]?.getD false) (m:=ops.size) (by rw[hu];omega);obtain⟨i0,Ja,P3,Gf⟩:=rg.prog md (λi=>listed[i]?.getD false) ⟨i1,CF,Ju⟩;have eI:rs.length≠0:=by have:i0∈rs:=(pB i0).2 ⟨Ja,P3,Gf⟩;intro z;rw[zh]at z;rw[z]at this;cases this
  have MO:t%rs.length<rs.length:=Nat.mod_lt _ az;rw[e9 MO];simp only;generalize cN:rs[t%rs.length]=i;have eN:i∈rs:=by rw[<- cN];exact br MO
  obtain⟨dA,y3,TY⟩:=(pB i).1 eN;have iS:∀ j∈z9 ops i,listed[j]?.getD false=true:=λj hj=>TY j (wI hj);have Gg:Region.linearise.go md ops fuel (t/rs.length) (listed.setIfInBounds i true) [i]=i::Region.linearise.go md ops fuel (t/rs.length) (listed.setIfInBounds i true) []:=ni md ops fuel (t/rs.length) (listed.setIfInBounds i true) i;rw[Gg];have sg:(listed.setIfInBounds i true).size=ops.size:=by simpa using hsz
  have zk:i<listed.size:=az;have oe:=wJ (listed:=listed) zk;have Ia:u7 (λj=>(listed.setIfInBounds i true)[j]?.getD false) ops.size=fuel:=by have:=(tT (f:=λj=>listed[j]?.getD false) (f':=λj=>(listed.setIfInBounds i true)[j]?.getD false) (i:=i) y3 (by simp[oe]) (λj hj=>by simp[oe,hj]) (m:=ops.size)).1 dA;rw[hu]at this;omega
  have Gi:¬ (listed[i]?.getD false=true):=by rw[y3];simp
  have hL:∀ j,((listed.setIfInBounds i true)[j]?.getD false=true)↔(j=i\/listed[j]?.getD false=true):=λj=>by rw[oe];by_cases e:j=i<;>simp[e]
  have lh:∀ w,(listed.setIfInBounds i true)[w]?.getD false=true->∀ j∈z9 ops w,(listed.setIfInBounds i true)[j]?.getD false=true:=λw hw j hj=>by
   rw[hL]at hw⊢;rcases hw with rfl|hw
   ·exact .inr (iS j hj)
   ·exact .inr (st.cl w hw j hj)
  have lR:(Td++(T'++Ts)).Nodup:=st.tt.nodup_iff.1 (qT rg.nd);have aaH:(i∈is\/i∈Ts)\/i∈T':=by
   rcases rg.Xp i dA with jC|jC
   ·exact .inl (.inl jC)
   ·rcases bU.1 (st.tt.mem_iff.1 jC)with h|h
    ·exact absurd (st.td i h) Gi
    ·rcases bU.1 h with h|h
     ·exact .inr h
     ·exact .inl (.inr h)
  have TZ:∀ j,(j∈is\/j∈Ts)->j∉Td/\j∉T':=λj hj=>by
   rcases hj with hj|hj
   ·have:=(rg.Xq j hj).1;exact⟨λh=>this (st.tt.mem_iff.2 (j0 _ h)),λh=>this (st.tt.mem_iff.2 (jw _ (j0 _ h)))⟩
   ·obtain⟨_,n2,n3⟩:=im.1 lR;exact⟨λh=>n3 j h j (jw _ hj) rfl,λh=>(im.1 n2).2.2 j h j hj rfl⟩
  rcases aaH with jC|jC
  ·
   obtain⟨x,hx,rfl⟩:=st.sI i jC;obtain⟨_,Sx,hSx,ob⟩:=st.sS x hx;have Gj:iu ops x.i=some x.t:=st.lk x (jw _ hx);have Jv:=st.env Gi iS (S':=Sx) λy hy=>hSx y hy;have hA:x.ld=true->Ext As W:=λWe=>by
    rcases Bc a Td.length with dA|V0
    ·exfalso;have sf:∀ t∈Td,(!reach ops 8 t x.i)=true:=λt ht=>by
      cases hr:reach ops 8 t x.i with
      |false=>rfl
      |true=>exact absurd (gz st.cl 8 t x.i hr (st.td t ht)) Gi
     have h1:=st.sL x hx We;have h2:(T.filter λt=> !reach ops 8 t x.i).length=((Td++(T'++Ts)).filter λt=> !reach ops 8 t x.i).length:=(st.tt.filter _).length_eq;rw[ml,List.filter_eq_self.2 sf,jd]at h2;omega
    ·exact st.aS V0
   have key:=ob.2 As e (Region.linearise.go md ops fuel (t/rs.length) (listed.setIfInBounds x.i true) []) hA;rw[Jv]at key;refine key (ih _ _ _ S K Td T' Ts As sg Ia ⟨λy hy T0=>?_,λs h2=>?_,λs w h2 hw=>?_,lh,st.tt,λt ht=>(hL t).2 (.inr (st.td t ht)),λt ht hLt=>?_,st.lk,st.ka,st.ki,st.sS,st.sI,st.sL,st.sU,st.ch,st.aS⟩)
   ·by_cases MP:y.i=x.i
    ·have V2:y=x:=by
      rcases bU.1 hy with hy|hy
      ·exact absurd (MP▸st.ki y hy) (TZ _ jC).1
      ·exact st.sU y hy x hx MP
     subst V2;simp[put]
    ·have T3:listed[y.i]?.getD false=true:=((hL _).1 T0).resolve_left MP;have Xr:y.t≠x.t:=λe=>MP (tW rg (st.lk y hy) (e▸Gj));simp only[put,ao Xr];exact st.v1 y hy T3
   ·have:s≠x.t:=λe=>by subst e;rw[rg.d2 _ _ Gj]at h2;cases h2
    simp only[put,ao this];exact st.v2 s h2
   ·have:s≠x.t:=λe=>by subst e;rw[rg.d2 _ _ Gj]at h2;exact hw ((hL w).2 (.inl (bS h2).symm))
    simp only[put,ao this];exact st.v3 s w h2 λh=>hw ((hL w).2 (.inr h))
   ·rcases(hL t).1 hLt with rfl|h
    ·exact(TZ _ jC).2 ht
    ·exact st.tn t ht h
  ·
   have Ib:i∈T':=jC;have aaJ:T'.Nodup:=(im.1 (im.1 lR).2.1).1;have Xs:i∈Bv ops T':=by
    unfold Bv;refine gP.2 ⟨Ib,k9.2 λu hu=>?_⟩;by_cases FK:u=i
    ·simp[FK]
    ·cases hr:reach ops 8 i u with
     |false=>simp
     |true=>
      rcases kQ (f:=7) hr with hr|⟨m,hm,hr⟩
      ·exact absurd hr.symm FK
      ·exact absurd (gz st.cl 7 m u hr (iS m hm)) (st.tn u hu)
   obtain⟨b,hb⟩:∃ b,b=T'.erase i:=⟨_,rfl⟩;have SA:T'.Perm (i::b):=by rw[hb];exact LK Ib
   have Xt:T'.length=b.length+1:=by rw[SA.length_eq];rfl
   have Sc:i∉b:=by rw[hb];exact aaJ.not_mem_erase
   rcases aaG _ Xt with o8|⟨t1,Wg,⟨o,ho,hod⟩,iK,o8⟩
   rotate_left
   ·obtain rfl:i=t1:=by rw[Wg]at Ib;exact dF.1 Ib
    have Xu:∀ j,j<ops.size->j≠i->listed[j]?.getD false=true:=λj hj eI=>by
     have h1:=k9.1 iK j (m7.2 hj);have h2:reach ops 8 i j=true:=by simpa[eI]using h1
     rcases kQ (f:=7) h2 with h3|⟨m,hm,h3⟩
     ·exact absurd h3.symm eI
     ·exact gz st.cl 7 m j h3 (iS m hm)
    have P3:fuel=0:=by
     rw[<- Ia];rcases Lz (u7 (λj=>(listed.setIfInBounds i true)[j]?.getD false) ops.size)with h1|h1
     ·exact h1
     ·obtain⟨j,hj,hfj,_⟩:=iC (f:=λj=>(listed.setIfInBounds i true)[j]?.getD false) (LL.1 h1);exfalso;have:(listed.setIfInBounds i true)[j]?.getD false=true:=(hL j).2 (by
       by_cases e:j=i
       ·exact .inl e
       ·exact .inr (Xu j hj e))
      rw[this]at hfj;cases hfj
    subst P3;simp only[Region.linearise.go,Hz];have he:e=pe e0 (K++S):=by
     funext s
     unfold pe;cases h1:Lo (K++S) s with
     |some v=>
      obtain⟨x,hx,rfl,rfl⟩:=H8 h1;refine st.v1 x hx (Xu _ (mC (st.lk x hx)) λz=>?_);have:=st.lk x hx;rw[z]at this;unfold iu at this;rw[ho]at this;simp only at this;rw[hod]at this;cases this
     |none=>
      simp only;have pa:=Dt h1;cases h2:FJ D s with
      |none=>exact st.v2 s h2
      |some w=>
       have hd:=rg.d1 s w h2;have hwi:w≠i:=λz=>by unfold iu at hd;rw[z,ho]at hd;simp only at hd;rw[hod]at hd;cases hd
       have hwc:(w∈is\/w∈Ts)\/w∈Td:=by
        rcases rg.Xp w (mC hd)with hw|hw
        ·exact .inl (.inl hw)
        ·rcases bU.1 (st.tt.mem_iff.1 hw)with hw|hw
         ·exact .inr hw
         ·rcases bU.1 hw with hw|hw
          ·rw[Wg]at hw;exact absurd (dF.1 hw) hwi
          ·exact .inl (.inr hw)
       rcases hwc with hw|hw
       ·obtain⟨x,hx,rfl⟩:=st.sI w hw;have:=st.lk x (jw _ hx);rw[hd]at this;exact absurd (bS this).symm (pa x (jw _ hx))
       ·obtain⟨x,hx,TU⟩:=st.ka w hw s hd;exact absurd TU (pa x (j0 _ hx))
    rw[he];exact o8
   have o8:=o8 i Xs;rw[<- hb]at o8;have Jv:=st.env Gi iS (S':=K++S) λy hy=>hy;have Xv:∀ y∈K++S,y.i≠i:=λy hy e=>by
    rcases bU.1 hy with hy|hy
    ·exact Gi (e▸st.td _ (st.ki y hy))
    ·exact(TZ _ (st.sS y hy).1).2 (e▸jC)
   have htn:∀ t∈b,¬ (listed.setIfInBounds i true)[t]?.getD false=true:=λu hu hLu=>by
    rcases(hL u).1 hLu with rfl|h
    ·exact Sc hu
    ·exact st.tn u (SA.mem_iff.2 (gb _ hu)) h
   have htt:T.Perm (Td++[i]++(b++Ts)):=by refine st.tt.trans ?_;rw[pQ];exact(SA.append_right Ts).append_left Td
   have Du:∀ (o:Oper),aZ ops i=some o->∀ aN v,((Td++[i]).length<=a->Ext aN W)->Ch R d fn kd n ds ops k cs e0 D W b.length S b (a-(Td++[i]).length) (match o.dst with|some s=>⟨i,s,v,false⟩::K|none=>K) aN->
     At R d aN (gr fn kd n (cS e o.dst v) ds (.inRegion ops (Region.linearise.go md ops fuel (t/rs.length) (listed.setIfInBounds i true) [])::k) cs):=by
    intro o ho aN v Xw kF;cases hd:o.dst with
    |none=>
     rw[hd]at kF;have Wh:iu ops i=none:=by unfold iu;rw[ho];exact hd
     refine ih _ _ _ S K (Td++[i]) b Ts aN sg Ia ⟨λy hy T0=>?_,st.v2,λs w h2 hw=>st.v3 s w h2 λh=>hw ((hL w).2 (.inr h)),lh,htt,λu hu=>?_,htn,st.lk,λu hu s hs=>?_,λy hy=>j0 _ (st.ki y hy),st.sS,st.sI,st.sL,st.sU,kF,Xw⟩
     ·exact st.v1 y hy (((hL _).1 T0).resolve_left (Xv y hy))
     ·rcases bU.1 hu with hu|hu
      ·exact(hL u).2 (.inr (st.td u hu))
      ·exact(hL u).2 (.inl (by simpa using hu))
     ·rcases bU.1 hu with hu|hu
      ·exact st.ka u hu s hs
      ·have:u=i:=by simpa using hu
       subst this;rw[Wh]at hs;cases hs
    |some s0=>
     rw[hd]at kF;have Xx:iu ops i=some s0:=by unfold iu;rw[ho];exact hd
     refine ih _ _ _ S (⟨i,s0,v,false⟩::K) (Td++[i]) b Ts aN sg Ia ⟨λy hy T0=>?_,λs h2=>?_,λs w h2 hw=>?_,lh,htt,λu hu=>?_,htn,λy hy=>?_,λu hu s hs=>?_,λy hy=>?_,λx hx=>(by obtain⟨h1,Sx,h2,h3⟩:=st.sS x hx;exact⟨h1,Sx,λy hy=>gb _ (h2 y hy),h3⟩),st.sI,st.sL,st.sU,kF,Xw⟩
     ·rcases ga.1 hy with rfl|hy
      ·simp[cS,put]
      ·have MP:=Xv y hy;have Xr:y.t≠s0:=λe=>MP (tW rg (st.lk y hy) (e▸Xx));simp only[cS,put,ao Xr];exact st.v1 y hy (((hL _).1 T0).resolve_left MP)
     ·have:s≠s0:=λe=>by subst e;rw[rg.d2 _ _ Xx]at h2;cases h2
      simp only[cS,put,ao this];exact st.v2 s h2
     ·have:s≠s0:=λe=>by subst e;rw[rg.d2 _ _ Xx]at h2;exact hw ((hL w).2 (.inl (bS h2).symm))
      simp only[cS,put,ao this];exact st.v3 s w h2 λh=>hw ((hL w).2 (.inr h))
     ·rcases bU.1 hu with hu|hu
      ·exact(hL u).2 (.inr (st.td u hu))
      ·exact(hL u).2 (.inl (by simpa using hu))
     ·rcases ga.1 hy with rfl|hy
      ·exact Xx
      ·exact st.lk y hy
     ·rcases bU.1 hu with hu|hu
      ·obtain⟨x,hx,e⟩:=st.ka u hu s hs;exact⟨x,gb _ hx,e⟩
      ·have:u=i:=by simpa using hu
       subst this;rw[Xx]at hs;exact⟨_,iz ..,bS hs⟩
     ·rcases ga.1 hy with rfl|hy
      ·exact jw _ (iz ..)
      ·exact j0 _ (st.ki y hy)
   have hlen:(Td++[i]).length=Td.length+1:=by simp
   cases hm:a-Td.length with
   |zero=>
    rw[hm]at o8;obtain⟨o,ho,o8⟩:=o8;have key:=o8 e (Region.linearise.go md ops fuel (t/rs.length) (listed.setIfInBounds i true) []);rw[Jv]at key;refine key λaN v kF=>Du o ho aN v (λh=>by omega) ?_;have:a-(Td++[i]).length=0-1:=az;rw[this];exact kF
   |succ m=>
    rw[hm]at o8;obtain⟨o,ho,o8⟩:=o8;have key:=o8 e (Region.linearise.go md ops fuel (t/rs.length) (listed.setIfInBounds i true) []);rw[Jv]at key;refine key λaN v hx kF=>Du o ho aN v (λh=>hx.ext (st.aS az)) ?_;have:a-(Td++[i]).length=m+1-1:=az;rw[this];exact kF
theorem Dr.uniq:∀ (is:List Nat) (S:List SE),lG is=true->(∀ x∈S,x.i∉is)->(∀ x∈S,∀ y∈S,x.i=y.i->x=y)->Dr R d fn kd n ds ops k cs e0 D W kN T a S is->∃ S',(∀ x∈S,x∈S')/\(∀ x∈S',x∈S\/(x.i∈is/\∃ Sx,(∀ y∈Sx,y∈S')/\Wd R d fn kd n ds ops k cs e0 D W Sx x))/\(∀ i∈is,∃ x∈S',x.i=i)/\
  (∀ x∈S',x.ld=true->(T.filter λt=> !reach ops 8 t x.i).length<=a)/\(Ext kN W/\Ch R d fn kd n ds ops k cs e0 D W T.length S' T a [] kN)/\(∀ x∈S',∀ y∈S',x.i=y.i->x=y)
 |[],S,_,_,hU,h=>by obtain⟨h1,h2⟩:=h;refine⟨S,λx hx=>hx,λx hx=>.inl hx,λi hi=>(by cases hi),λx hx We=>?_,h2,hU⟩;have:=k9.1 h1 x hx;rw[We]at this;simpa using this
 |i::is,S,hn,SB,hU,h=>by
  obtain⟨t,v,ld,o,h⟩:=h;obtain⟨xz,hn2⟩:=qc hn;obtain⟨S',a1,a2,a3,a4,a5,a6⟩:=Dr.uniq is _ hn2 (λx hx=>by
   rcases ga.1 hx with rfl|hx
   ·exact xz
   ·exact λz=>SB x hx (gb _ z)) (λx hx y hy e=>by
   rcases ga.1 hx with rfl|hx<;>rcases ga.1 hy with rfl|hy
   ·rfl
   ·exact absurd (ga.2 (.inl e.symm)) (SB y hy)
   ·exact absurd (ga.2 (.inl e)) (SB x hx)
   ·exact hU x hx y hy e) h
  refine⟨S',λx hx=>a1 x (gb _ hx),λx hx=>?_,λj hj=>?_,a4,a5,a6⟩
  ·rcases a2 x hx with hx|⟨hx,y⟩
   ·rcases ga.1 hx with rfl|hx
    ·exact .inr ⟨iz ..,S,λy hy=>a1 y (gb _ hy),o⟩
    ·exact .inl hx
   ·exact .inr ⟨gb _ hx,y⟩
  ·rcases ga.1 hj with rfl|hj
   ·exact⟨_,a1 _ (iz ..),rfl⟩
   ·exact a3 j hj
theorem mD(m i:Nat):(Array.replicate m false)[i]?.getD false=false:=by rw[Array.getElem?_replicate];split<;>rfl
theorem ab.MR(C:ab P ak B R){c:Code}(D:List (Nat×Nat))(is T:List Nat)(a:Nat)(h:Dr R d fn kd n ds (cO c) k cs e0 D W kN T a [] is)(hc:ck c=.draw:=by rfl)(hr:rN (cO c) D T is=true:=by decide+kernel)(hn:lG is=true:=by rfl):
  At R d kN (gr fn kd n e0 ds (.code c::k) cs):=by
 refine C.dr (λt=>?_) hc;have rg:=tV hr;obtain⟨S,_,a2,a3,a4,a5,a6⟩:=Dr.uniq is [] hn (λx hx=>by cases hx) (λx hx=>by cases hx) h;have a2':∀ x∈S,x.i∈is/\∃ Sx,(∀ y∈Sx,y∈S)/\Wd R d fn kd n ds (cO c) k cs e0 D W Sx x:=λx hx=>(a2 x hx).resolve_left (by simp);have dJ:∀ listed:Array Bool,listed=Array.replicate (cO c).size false->Sy R d fn kd n ds (cO c) k cs e0 D W kN T is a S (λi=>listed[i]?.getD false=true) e0 [] [] T [] kN:=λlisted hl=>by
  have pa:∀ i,¬ (listed[i]?.getD false=true):=λi=>by subst hl;rw[mD];simp
  have tX:∀ x∈([]:List SE)++S,iu (cO c) x.i=some x.t:=λx hx=>by obtain⟨_,Sx,_,⟨o,ho,hd⟩,_⟩:=a2' x (by simpa using hx);unfold iu;rw[ho];exact hd
  exact⟨λx _ hx=>absurd hx (pa _),λ_ _=>rfl,λ_ _ _ _=>rfl,λw hw=>absurd hw (pa w),by rw[k8];exact .refl _,λt ht=>(by cases ht),λt _=>pa t,tX,λt ht=>(by cases ht),λx hx=>(by cases hx),λx hx=>(by obtain⟨h1,Sx,h2,h3⟩:=a2' x hx;exact⟨.inl h1,Sx,λy hy=>by simpa using h2 y hy,h3⟩),λi hi=>a3 i (hi.resolve_right (by simp)),a4,a6,a5.2,λ_=>a5.1⟩
 have Xy:∀ m,u7 (λi=>(Array.replicate (cO c).size false)[i]?.getD false) m=m:=λm=>by
  induction m with
  |zero=>rfl
  |succ m ih=>
   unfold u7;rw[ih,mD];rfl
 unfold Region.schedule;split
 ·unfold Region.linearise;exact u9 rg (cO c).size _ _ e0 S [] [] T [] kN (by simp) (Xy _) (dJ _ rfl)
 ·unfold Region.linearise;exact u9 rg (cO c).size _ _ e0 S [] [] T [] kN (by simp) (Xy _) (dJ _ rfl)
theorem ab.drawn(C:ab P ak B R){c:Code}(D:List (Nat×Nat))(is T:List Nat)(a:Nat)(h:Dr R d fn kd n ds (cO c) k cs e0 D kN kN T a [] is)(hc:ck c=.draw:=by rfl)(hr:rN (cO c) D T is=true:=by decide+kernel)(hn:lG is=true:=by rfl):
  At R d kN (gr fn kd n e0 ds (.code c::k) cs):=C.MR D is T a h hc hr hn
end
end
section
open Go.Conc
class fC{α:Type}(f:α->List Value)(z:outParam Nat):Prop where
 len:∀ a,(f a).length=z
 one:∀ a,∀ v∈f a,eA v=true
def ay.b(s:ay):Nat:=match s.a with|some a=>a.block|none=>0
def dS{α:Type}(I:HL)(f:α->List Value)(el:aQ)(s:ay)(l:List α):Prop:=
 (s=aG/\l=[])\/∃ pad,s=⟨some ⟨s.b,0,none⟩,l.length,s.cap⟩/\I s.b=some (.cells (gf f l pad) el (0,0))
theorem dS.mono{α:Type}{I I':HL}{f:α->List Value}{el:aQ}{s:ay}{l:List α}(h:dS I f el s l)(hs:Sub I I'):dS I' f el s l:=
 h.imp id λ⟨pad,h1,h2⟩=>⟨pad,h1,hs _ _ h2⟩
theorem dS.nil{α:Type}(I:HL)(f:α->List Value)(el:aQ):dS I f el aG []:=.inl ⟨rfl,rfl⟩
inductive dt{α:Type}(f:α->List Value)(el:aQ)(s:ay)(l:List α):List HP->Prop
 |own {z:Nat} {As L:List HP}:Fo (a9 f z el s l) As L->dt f el s l As
 |a7 {I:HL} {As L:List HP}:Fo (a7 I) As L->dS I f el s l->dt f el s l As
 |ext {As kN:List HP}:Ext As kN->dt f el s l kN->dt f el s l As
section
variable{α:Type}{f:α->List Value}{el:aQ}{s:ay}{l:List α}{As:List HP}{h:HL}
theorem dt.get(r:dt f el s l As)(st:Sat As h):(s=aG/\l=[])\/∃ pad,s=⟨some ⟨s.b,0,none⟩,l.length,s.cap⟩/\h s.b=some (.cells (gf f l pad) el (0,0)):=by
 induction r with
 |@own z As L fo=>
  obtain⟨hh,x,gu,_⟩:=st.perm fo.perm;rcases x with⟨rfl,rfl⟩|⟨b,pad,e,_,_,uY⟩
  ·exact .inl ⟨rfl,rfl⟩
  ·have hb:s.b=b:=by rw[e];rfl
   refine .inr ⟨pad,by rw[hb];exact e,?_⟩;subst uY;rw[hb];exact gu b _ (by simp[one])
 |a7 fo hi=>
  rcases hi with⟨rfl,rfl⟩|⟨pad,h1,h2⟩
  ·exact .inl ⟨rfl,rfl⟩
  ·exact .inr ⟨pad,h1,(st.perm fo.perm).oJ h2⟩
 |ext e _ ih=>exact ih (e _ st)
theorem dt.at{i:Nat}(r:dt f el s l As)(st:Sat As h)(hi:i<l.length):∃ pad,s=⟨some ⟨s.b,0,none⟩,l.length,s.cap⟩/\h s.b=some (.cells (gf f l pad) el (0,0)):=by
 rcases r.get st with⟨_,rfl⟩|h
 ·simp at hi
 ·exact h
theorem dt.src{B:jW}{H:Array Obj}{z:Nat}[rf:fC f z](r:dt f el s l As)(st:Sat As (hp H))(hs:∀ j,B.sh el j=false):kI B H z l.length s.v (flat f l):=by
 rcases r.get st with⟨rfl,rfl⟩|⟨pad,h1,h2⟩
 ·exact .inl ⟨rfl,rfl,rfl⟩
 ·refine .inr ⟨s.b,0,s.cap,_,_,by rw[h1];rfl,h2,?_,?_,hs⟩
  ·rw[iN rf.len];omega
  ·have Sr:(flat f l).length=l.length*z:=eO rf.len l;rw[mj,<- Sr];simp[gf]
theorem dt.Jw{B:jW}{H:Array Obj}{z:Nat}[rf:fC f z](r:dt f el s l As)(st:Sat As (hp H))(hs:∀ j,B.sh el j=false)(i m:Nat)(Zu:i+m<=l.length)(cap:Nat)(a:Option Addr)(ha:m≠0->a=some ⟨s.b,i*z,none⟩)(hn:m=0->a=none/\cap=0\/∃ o,a=some ⟨s.b,o,none⟩/\l≠[]/\o<=l.length*z):
  kI B H z m (.slice a m cap) (flat f ((l.drop i).take m)):=by
 rcases r.get st with⟨rfl,rfl⟩|⟨pad,h1,h2⟩
 ·have:m=0:=by simp at Zu;omega
  subst this;rcases hn rfl with⟨rfl,rfl⟩|⟨o,_,eI,_⟩
  ·exact .inl ⟨rfl,rfl,by simp[flat]⟩
  ·exact absurd rfl eI
 ·have Sr:(flat f l).length=l.length*z:=eO rf.len l;by_cases hm:m=0
  ·subst hm;rcases hn rfl with⟨rfl,rfl⟩|⟨o,rfl,eI,ho⟩
   ·exact .inl ⟨rfl,rfl,by simp[flat]⟩
   ·exact .inr ⟨s.b,o,cap,_,_,rfl,h2,by rw[iN rf.len];omega,by simp[flat];omega,hs⟩
  ·rw[ha hm];refine .inr ⟨s.b,i*z,cap,_,_,rfl,h2,?_,?_,hs⟩
   ·rw[iN rf.len,<- pA];have:=se z Zu;omega
   ·rw[<- pA];have hlen:(l.take (i+m)).length=i+m:=by rw[ik];omega
    have e1:flat f l++pad=flat f (l.take i)++(flat f ((l.drop i).take m)++(flat f (l.drop (i+m))++pad)):=by
     have:l=l.take i++((l.drop i).take m++l.drop (i+m)):=by rw[<- LM,vA,vA]
     conv=>lhs;rw[this,jA,jA]
     simp
    have e2:(flat f (l.take i)).length=i*z:=by rw[eO rf.len,ik,CP az]
    have e3:(flat f ((l.drop i).take m)).length=m*z:=by rw[eO rf.len,ik,tB,CP az]
    unfold gf;rw[e1,PF]
    congr 1
    rw[PG,pA,<- e2,List.drop_left,Nat.add_sub_cancel_left,<- e3,List.take_left]
end
section
variable{P:bL}{ak:Bool}{B:jW}{R:Nat->aP->Array Obj->Prop}{d:Nat}{As aN L F:List HP}
variable{fn:bI}{kd:Kd}{n:Nat}{e:Nat->Value}{ds:List dQ}{k:List Item}{cs:List Frame}
variable{ops:Array Oper}{i:Nat}{aa:List Nat}{dst:Option Nat}{t:Nat}{ty:aQ}{pos:String}{af:Array Edge}{gd:Option (Nat×Bool)}{x y w:cA}{v u:Value}{b off:Nat}{c:Array Value}{el tt t2 t3:aQ}{kk:IntKind}
theorem ab.xA(C:ab P ak B R){c:Code}{t:Bool}(h1:t=true->At R d As (gr fn kd n e ds (.code (cT c)::k) cs))(h2:t=false->At R d As (gr fn kd n e ds (.code (cE c)::k) cs))(hc:ck c=.cond:=by rfl)(hb:ev n e (cC c)=.bool t:=by rfl):At R d As (gr fn kd n e ds (.code c::k) cs):=by
 cases t with
 |true=>exact C.cT' (h1 rfl) hc hb
 |false=>exact C.cF' (h2 rfl) hc hb
theorem ab.dv(C:ab P ak B R){f:bI}{fu:Func}{c:Code}{nf:Nat}[b:Body P f fu c nf]{fo:cA}{args:Array cA}{fU:Array aQ}{vl:List Value}{A:List HP}{Q:Value->List HP->Prop}(hs:aD P ak B f vl.toArray A Q)
  (h:∀ v aN,Q v aN->At R d (aN++F) (gr fn kd n (cS e dst v) ds (.inRegion ops aa::k) cs))
  (ho:aZ ops i=some ⟨dst,.call ⟨.value fo,args,fU⟩,ty,pos,af,gd⟩:=by rfl) (hv:args.toList.map (ev n e)=vl:=by rfl) (hf:ev n e fo=.func (.func f) #[] #[]:=by rfl)
  (hr:dB A As F:=by exact dB.au) (hw:aM ops n e gd=true:=by rfl):Nw R d As fn kd n e ds ops i aa k cs:=
 At.perm hr.perm (C.cl hs h ho hw hf hv)
theorem ab.SC(C:ab P ak B R){f:bI}{fu:Func}{c:Code}{nf:Nat}[b:Body P f fu c nf]{fo:cA}{args:Array cA}{fU:Array aQ}{a1 a2:Array Value}{vl:List Value}{A:List HP}{Q:Value->List HP->Prop}(hs:aD P ak B f (a1++vl.toArray++a2) A Q)
  (h:∀ v aN,Q v aN->At R d (aN++F) (gr fn kd n (cS e dst v) ds (.inRegion ops aa::k) cs))
  (ho:aZ ops i=some ⟨dst,.call ⟨.value fo,args,fU⟩,ty,pos,af,gd⟩:=by rfl) (hv:args.toList.map (ev n e)=vl:=by rfl) (hf:ev n e fo=.func (.func f) a1 a2:=by rfl)
  (hr:dB A As F:=by exact dB.au) (hw:aM ops n e gd=true:=by rfl):Nw R d As fn kd n e ds ops i aa k cs:=by
 refine At.perm hr.perm (C.gen ho hw λH s=>?_);unfold execOp;simp only;refine ah ?_;have sk:args.map (ev n e)=vl.toArray:=by rw[<- hv,<- pP,sd]
 simp only[resolve,hf,Deferred.ofValue,sk];refine ah ?_;show di P B _ _ _ _;show di P B (invoke (.fn (.func f) a2) (a1++vl.toArray)) H d _;unfold invoke;refine na (P:=P) _ B H d _ ⟨A++F,s,?_⟩;exact hs R C .pb d F _ cs trivial λv aN q=>by show At R d (aN++F) (eT _ cs v);rw[n9 ho];exact h v aN q
section
variable{α:Type}{f:α->List Value}{z:Nat}{s:ay}{l:List α}{j o:Nat}
theorem ab.m3(C:ab P ak B R)[cE:El P tt el](ho:aZ ops i=some ⟨some t,.call ⟨.builtin .len,#[x],#[tt]⟩,ty,pos,af,gd⟩)(h:Nx R d As fn kd n e ds ops aa k cs t (.int .i64 l.length))
  (hx:ev n e x=s.v:=by rfl) (hr:dt f el s l As:=by first|(apply dt.own;exact Fo.au;done)|(apply dt.a7;exact Fo.au;assumption)|(apply dt.ext;assumption;apply dt.own;exact Fo.au;done)|(apply dt.ext;assumption;apply dt.a7;exact Fo.au;assumption)) (hw:aM ops n e gd=true:=by rfl):Nw R d As fn kd n e ds ops i aa k cs:=
 C.gen ho hw λH st=>by
  have hl:s.len=l.length:=by
   rcases hr.get st with⟨rfl,rfl⟩|⟨pad,h1,_⟩
   ·rfl
   ·rw[h1]
  unfold execOp;simp only[resolve];refine ah (aA ?_);simp only[zi,iJ,m1,hx];unfold invoke builtin;refine ah ?_;unfold Builtin.len_;refine ah (dz cE.h B H d _ ?_);refine aA (aA ⟨As,st,?_⟩);rw[hl];exact h
theorem ab.kJ(C:ab P ak B R)[rf:fC f z][c:El P tt el][Cz P el z](ho:aZ ops i=some ⟨some t,.indexAddr tt x y,ty,pos,af,gd⟩)(h:Nx R d As fn kd n e ds ops aa k cs t (.pointer (some ⟨s.b,j*z,none⟩)))
  (hx:ev n e x=s.v:=by rfl) (hy:ev n e y=.int kk (j:Int):=by rfl) (hr:dt f el s l As:=by first|(apply dt.own;exact Fo.au;done)|(apply dt.a7;exact Fo.au;assumption)|(apply dt.ext;assumption;apply dt.own;exact Fo.au;done)|(apply dt.ext;assumption;apply dt.a7;exact Fo.au;assumption)) (hj:j<l.length:=by omega) (hw:aM ops n e gd=true:=by rfl):Nw R d As fn kd n e ds ops i aa k cs:=
 C.gen ho hw λH st=>by
  obtain⟨pad,hs,_⟩:=hr.at st hj;have jV:ev n e x=.slice (some ⟨s.b,0,none⟩) l.length s.cap:=by rw[hx];unfold ay.v;have h1:s.a=some ⟨s.b,0,none⟩:=congrArg ay.a hs;have h2:s.len=l.length:=congrArg ay.len hs;rw[h1,h2]
  unfold execOp;simp only[jV,hy,Instr.indexAt,asIntOf];refine ah (ah (aA ?_));refine ah (dz c.h B H d _ ?_);refine ah (aA ?_);refine ah (dz c.h B H d _ ?_);simp only;rw[aK az];refine ah (gW B H d _ (aA ?_));rw[gK];refine⟨As,st,?_⟩;have:0+(j:Int).toNat*z=j*z:=by simp
  rw[this];exact h
theorem ab.vI(C:ab P ak B R)[rf:fC f z][Ag P tt false](ho:aZ ops i=some ⟨some t,.load tt x,ty,pos,af,gd⟩)(h:Nx R d As fn kd n e ds ops aa k cs t v)
  (hx:ev n e x=.pointer (some ⟨s.b,j*z+o,none⟩):=by rfl) (hr:dt f el s l As:=by first|(apply dt.own;exact Fo.au;done)|(apply dt.a7;exact Fo.au;assumption)|(apply dt.ext;assumption;apply dt.own;exact Fo.au;done)|(apply dt.ext;assumption;apply dt.a7;exact Fo.au;assumption)) (hj:j<l.length:=by omega) (hv:(f l[j])[o]? =some v:=by rfl) (hz:o<z:=by decide) (hs:B.sh el (j*z+o)=false:=by rfl) (hw:aM ops n e gd=true:=by rfl):Nw R d As fn kd n e ds ops i aa k cs:=
 C.gen ho hw λH st=>by obtain⟨pad,_,hg⟩:=hr.at st hj;unfold execOp;simp only[hx,Instr.loadAt,Instr.sureAddr];exact ah (ah (aA (gy hg ((Dn rf.len hj hz rfl).trans hv) hs ⟨As,st,h⟩)))
theorem ab.nL(C:ab P ak B R)[rf:fC f z][Ag P tt false](ho:aZ ops i=some ⟨some t,.load tt x,ty,pos,af,gd⟩)(h:Nx R d As fn kd n e ds ops aa k cs t v)
  (hx:ev n e x=.pointer (some ⟨s.b,j*z,none⟩):=by rfl) (hr:dt f el s l As:=by first|(apply dt.own;exact Fo.au;done)|(apply dt.a7;exact Fo.au;assumption)|(apply dt.ext;assumption;apply dt.own;exact Fo.au;done)|(apply dt.ext;assumption;apply dt.a7;exact Fo.au;assumption)) (hj:j<l.length:=by omega) (hv:(f l[j])[0]? =some v:=by rfl) (hz:0<z:=by decide) (hs:B.sh el (j*z+0)=false:=by rfl) (hw:aM ops n e gd=true:=by rfl):Nw R d As fn kd n e ds ops i aa k cs:=
 C.vI (o:=0) ho h hx hr hj hv hz hs hw
theorem ab.mE(C:ab P ak B R)[rf:fC f z][Ag P tt true][Cz P tt z](ho:aZ ops i=some ⟨some t,.load tt x,ty,pos,af,gd⟩)(h:∀ hj:j<l.length,Nx R d As fn kd n e ds ops aa k cs t (.agg (f l[j]).toArray))
  (hx:ev n e x=.pointer (some ⟨s.b,j*z,none⟩):=by rfl) (hr:dt f el s l As:=by first|(apply dt.own;exact Fo.au;done)|(apply dt.a7;exact Fo.au;assumption)|(apply dt.ext;assumption;apply dt.own;exact Fo.au;done)|(apply dt.ext;assumption;apply dt.a7;exact Fo.au;assumption)) (hj:j<l.length:=by omega) (hs:∀ q,B.sh el q=false:=by intro q;rfl) (hw:aM ops n e gd=true:=by rfl):Nw R d As fn kd n e ds ops i aa k cs:=
 C.gen ho hw λH st=>by
  obtain⟨pad,_,hg⟩:=hr.at st hj;unfold execOp;simp only[hx,Instr.loadAt,Instr.sureAddr];refine ah (ah (aA (lW hg ?_ hs ?_)))
  ·rw[iN rf.len];have:=se z (show j+1<=l.length by omega);rw[pA]at this;omega
  ·rw[F9 rf.len hj rfl];exact⟨As,st,h hj⟩
theorem ab.Dv(C:ab P ak B R)(hj:j<l.length)[rf:fC f z][Ag P tt true][Cz P tt z](ho:aZ ops i=some ⟨some t,.load tt x,ty,pos,af,gd⟩)(h:Nx R d As fn kd n e ds ops aa k cs t (.agg (f l[j]).toArray))
  (hx:ev n e x=.pointer (some ⟨s.b,j*z,none⟩):=by rfl) (hr:dt f el s l As:=by first|(apply dt.own;exact Fo.au;done)|(apply dt.a7;exact Fo.au;assumption)|(apply dt.ext;assumption;apply dt.own;exact Fo.au;done)|(apply dt.ext;assumption;apply dt.a7;exact Fo.au;assumption)) (hs:∀ q,B.sh el q=false:=by intro q;rfl) (hw:aM ops n e gd=true:=by rfl):Nw R d As fn kd n e ds ops i aa k cs:=C.mE ho (λ_=>h) hx hr hj hs hw
end
end
end
section
open Go.Conc
section
variable{P:bL}{ak:Bool}{B:jW}{R:Nat->aP->Array Obj->Prop}{d:Nat}{As aN Bs L F:List HP}
variable{fn:bI}{kd:Kd}{n:Nat}{e:Nat->Value}{ds:List dQ}{k:List Item}{cs:List Frame}
variable{ops:Array Oper}{i:Nat}{aa:List Nat}{dst:Option Nat}{t:Nat}{ty:aQ}{pos:String}{af:Array Edge}{gd:Option (Nat×Bool)}{x y w:cA}{v u:Value}{b off:Nat}{c:Array Value}{el tt t2 t3:aQ}{kk:IntKind}
theorem ab.cx(C:ab P ak B R){c:Code}{X:Type}(L:X->List (Nat×Value))(I:X->List HP)(Ok:X->Prop)(m:X->Nat)(x0:X)(he:jz e (L x0))(kV:Ok x0)
  (step:∀ x e,Ok x->(∀ y e' aN,Ok y->m y<m x->jz e' (L y)->bZ aN (I y)->At R d aN (gr fn kd n e' ds (.inLoop (cB c)::k) cs))->At R d (I x) (gr fn kd n (p9 e (L x)) ds (.code (cB c):: .inLoop (cB c)::k) cs))
  (hI:bZ As (I x0):=by exact bZ.au) (hc:ck c=.loop:=by rfl):At R d As (gr fn kd n e ds (.code c::k) cs):=
 At.jB hI (C.Xj L I Ok m x0 he rfl kV (λx e kV ih=>step x e kV λy e' aN hy dA we hr=>At.jB hr (ih y e' we hy dA)) hc)
theorem again{X:Type}{L:X->List (Nat×Value)}{I:X->List HP}{Ok:X->Prop}{m:X->Nat}{x0:X}{body:Code}(ih:∀ y e' aN,Ok y->m y<m x0->jz e' (L y)->bZ aN (I y)->At R d aN (gr fn kd n e' ds (.inLoop body::k) cs))(y:X)(hy:Ok y)(hm:m y<m x0)
  (he:jz e (L y):=by repeat(first|exact trivial|refine And.intro rfl ?_)) (hr:bZ As (I y):=by exact bZ.au):At R d As (gr fn kd n e ds (.inLoop body::k) cs):=ih y e As hy hm he hr
theorem MT{G:Prop}(φ:Prop)(L:List (Nat×Value))(MU:List HP){k1:List Item}(h1:(∀ e' aN,φ->jz e' L->bZ aN MU->At R d aN (gr fn kd n e' ds k1 cs))->G)(h2:φ->∀ e,At R d MU (gr fn kd n (p9 e L) ds k1 cs)):G:=
 h1 λe' aN hφ he hr=>At.jB hr (by rw[<- jJ he];exact h2 hφ e')
theorem join{φ:Prop}{L:List (Nat×Value)}{MU:List HP}{k1:List Item}(h:∀ e' aN,φ->jz e' L->bZ aN MU->At R d aN (gr fn kd n e' ds k1 cs))(hφ:φ)
  (he:jz e L:=by repeat(first|exact trivial|refine And.intro rfl ?_)) (hr:bZ As MU:=by exact bZ.au):At R d As (gr fn kd n e ds k1 cs):=h e As hφ he hr
theorem xB{G:Prop}{X:Type}(φ:X->Prop)(L:X->List (Nat×Value))(MU:X->List HP){k1:List Item}(h1:(∀ x e' aN,φ x->jz e' (L x)->bZ aN (MU x)->At R d aN (gr fn kd n e' ds k1 cs))->G)(h2:∀ x,φ x->∀ e,At R d (MU x) (gr fn kd n (p9 e (L x)) ds k1 cs)):G:=
 h1 λx e' aN hφ he hr=>At.jB hr (by rw[<- jJ he];exact h2 x hφ e')
theorem cZ{X:Type}{φ:X->Prop}{L:X->List (Nat×Value)}{MU:X->List HP}{k1:List Item}(h:∀ x e' aN,φ x->jz e' (L x)->bZ aN (MU x)->At R d aN (gr fn kd n e' ds k1 cs))(x:X)(hφ:φ x)
  (he:jz e (L x):=by repeat(first|exact trivial|refine And.intro rfl ?_)) (hr:bZ As (MU x):=by exact bZ.au):At R d As (gr fn kd n e ds k1 cs):=h x e As hφ he hr
theorem ab.bk(C:ab P ak B R){fu:Func}{cc:Code}{n':Nat}[b:Body P fn fu cc n']{c:Frame}{x:Code}{Q:Value->List HP->Prop}(aJ:tP kd c)(aj:∀ v aN,Q v aN->At R d (aN++F) (after kd c cs v)){v0:Value}(q:Q v aN)
  (hv:rl fu n e=some v0:=by rfl) (tM:v0=v:=by first|((conv=>{lhs;whnf});done)|rfl) (hr:bZ As (aN++F):=by exact bZ.au) (hx:ck x=.ret:=by rfl):At R d As (gr fn kd n e [] (.code x::k) (c::cs)):=
 C.MD aJ (At.jB hr (aj v aN q)) (tM▸hv) hx
theorem ab.cX(C:ab P ak B R){fu:Func}{cc:Code}{n':Nat}[b:Body P fn fu cc n']{c:Frame}{Q:Value->List HP->Prop}(aJ:tP kd c)(aj:∀ v aN,Q v aN->At R d (aN++F) (after kd c cs v)){v0:Value}(q:Q v aN)
  (hv:rl fu n e=some v0:=by rfl) (tM:v0=v:=by first|((conv=>{lhs;whnf});done)|rfl) (hr:bZ As (aN++F):=by exact bZ.au):At R d As (gr fn kd n e [] [] (c::cs)):=
 C.TR aJ (At.jB hr (aj v aN q)) (tM▸hv)
def Ac(pl:List (Nat×Nat)):Array Value->List (Nat×Value)->Array Value
 |c,[]=>c
 |c,(i,v)::l=>Ac pl (wr c (pl.getD i (0,0)).1 v.cells.toList) l
def Bw(pl:List (Nat×Nat))(m:Nat):List (Nat×Value)->Bool
 |[]=>true
 |(i,v)::l=>(match pl[i]? with|some (o,z)=>v.cells.size==z&&decide (o+z<=m)|none=>false)&&Bw pl m l
theorem fill_eq(pl:List (Nat×Nat)):∀ (l:List (Nat×Value)) (c:Array Value),Bw pl c.size l=true->Instr.fill (pl.toArray[·]?) c l=some (Ac pl c l)
 |[],c,_=>rfl
 |(i,v)::l,c,h=>by
  unfold Bw at h;simp only[lN]at h;obtain⟨h1,h2⟩:=h;unfold Instr.fill Ac;simp only[FX];cases hp:pl[i]? with
  |none=>rw[hp]at h1;cases h1
  |some oz=>
   obtain⟨o,z⟩:=oz;rw[hp]at h1;simp only[lN,CW,o4]at h1;have hg:pl.getD i (0,0)=(o,z):=by simp[List.getD,hp]
   simp only[hg];have hn:¬ ((decide (v.cells.size≠z)||decide (o+v.cells.size>c.size))=true):=by rw[h1.1];have:=h1.2;simp;omega
   rw[ao hn];have hf:Array.foldl (λcs (x:Value×Nat)=>match x with|(c,j)=>cs.setIfInBounds (o+j) c) c v.cells.zipIdx=wr c o v.cells.toList:=by rw[<- Tx,Ty];exact Bu o v.cells.toList 0 _
   rw[hf];have key:=fill_eq pl l (wr c o v.cells.toList) (by rw[tR];exact h2);simp only[FX]at key;exact key
inductive PV(n:Nat)(e:Nat->Value):List (Nat×cA)->List (Nat×Value)->Prop
 |nil:PV n e [] []
 |cons {i:Nat} {x:cA} {v:Value} {l:List (Nat×cA)} {m:List (Nat×Value)} (h:ev n e x=v):PV n e l m->PV n e ((i,x)::l) ((i,v)::m)
theorem PV.eq{l:List (Nat×cA)}{m:List (Nat×Value)}(p:PV n e l m):l.map (λ(i,x)=>(i,ev n e x))=m:=by
 induction p with
 |nil=>rfl
 |cons h _ ih=>simp[h,ih]
theorem ab.bd(C:ab P ak B R){zs xs:Array Value}{parts:Array (Nat×cA)}{pl:List (Nat×Nat)}{pv:List (Nat×Value)}[cz:Zv P tt (.agg zs)][wh:Bd P tt pl](ho:aZ ops i=some ⟨some t,.build tt parts,ty,pos,af,gd⟩)(h:Nx R d As fn kd n e ds ops aa k cs t (.agg xs))
  (hp:PV n e parts.toList pv:=by repeat(first|exact PV.nil|(apply PV.cons;focus (conv=>{lhs;whnf})))) (kV:Bw pl zs.size pv=true:=by rfl)
  (hx:Ac pl zs pv=xs:=by first|(simp only[Ac,wr,Value.cells,List.getD_cons_zero,List.getD_cons_succ,PH,mj,Nat.reduceAdd,wZ,vX,uT];done)|(simp only[Ac,wr,Value.cells,List.getD_cons_zero,List.getD_cons_succ,PH,mj,Nat.reduceAdd,wZ,vX,uT];rfl)|rfl) (hw:aM ops n e gd=true:=by rfl):Nw R d As fn kd n e ds ops i aa k cs:=
 C.val ho hw (λB H d Q q'=>by obtain⟨fs,h1,h2⟩:=wh.h;unfold execOp;simp only[Instr.build];refine ah (ah (nb B H d _ (ah (dz h1 B H d _ ?_))));simp only[Value.cells];rw[HA];refine ah ?_;rw[HC];refine ah (h2.pu B H d _ (aA ?_));have:=fill_eq pl pv zs kV;rw[pP,hp.eq,this,hx];exact q') h
theorem ab.nj(C:ab P ak B R){z:Nat}{zv:Value}[cE:El P tt el][Cz P el z][Zv P el zv](ho:aZ ops i=some ⟨some t,.buildSlice tt 1 #[(0,x)],ty,pos,af,gd⟩)
  (h:∀ b,Nx R d (bR b (.cells c el (0,0))::As) fn kd n e ds ops aa k cs t (.slice (some ⟨b,0,none⟩) 1 1))
  (hx:ev n e x=v:=by conv=>{lhs;whnf}) (hc:v.cells=c:=by first|(simp only[Value.cells];done)|(simp only[Value.cells];rfl)|rfl) (hv:v.cells.size=z:=by rfl) (h0:1*z≠0:=by decide) (hm:1*z<=16777216:=by decide) (hw:aM ops n e gd=true:=by rfl):Nw R d As fn kd n e ds ops i aa k cs:=by
 subst hc;refine C.bs (vs:=[v]) ho (λb=>?_) (by simp[hx]) rfl (by simpa using hv) h0 hm hw;have e1:([v].flatMap (·.cells.toList)).toArray=v.cells:=by simp
 rw[e1];exact h b
inductive Bx(P:bL)(B:jW)(As:List HP)(n:Nat)(e:Nat->Value):List ResultVar->List Value->Prop
 |nil:Bx P B As n e [] []
 |tmp {t:Nat} {rs:List ResultVar} {v:Value} {vs:List Value} (h:(if t<n then e t else undef)=v):Bx P B As n e rs vs->Bx P B As n e (.tmp t::rs) (v::vs)
 |cell {a tt z b off:Nat} {c u:Array Value} {el:aQ} {rs:List ResultVar} {vs:List Value} [Ag P tt true] [Cz P tt z] (r:Bx P B As n e rs vs) (h:(if a<n then e a else undef)=.pointer (some ⟨b,off,none⟩):=by rfl) (hk:Kn As b (.cells c el (0,0)):=by apply Has.kn;repeat(first|with_reducible exact Has.head|with_reducible apply Has.tail)) (hz:off+z<=c.size:=by first|decide|(simp only[tR];decide)) (hs:∀ j,B.sh el j=false:=by intro j;rfl) (hu:c.extract off (off+z)=u:=by rfl):
   Bx P B As n e (.cell a tt::rs) (.agg u::vs)
def MV:List Value->Value
 |[v]=>v
 |vs=>.tuple vs.toArray
theorem Bx.ok{rs:List ResultVar}{vs:List Value}(r:Bx P B As n e rs vs){H:Array Obj}(st:Sat As (hp H)){Q:List Value->Array Obj->Nat->Prop}(q:Q vs H d):di P B (rs.mapM λ
  |.tmp t=>(pure ((tm n e).getD t undef):Sem Value)
  |.cell a t=>do loadVar t (<- asAddr ((tm n e).getD a undef))) H d Q:=by
 induction r generalizing Q with
 |nil=>rw[PI];exact q
 |tmp h _ ih=>
  rw[LC];refine ah (aA (ah (ih ?_)));rw[oI,h];exact q
 |cell _ h hk hz hs hu ih=>
  rw[LC];refine ah ?_;show di P B (asAddr _ >>= _) _ _ _;rw[oI,h];refine ah (aA (lW (hk _ st) hz hs ?_));rw[hu];exact ah (ih (Q:=λa H d=>di P B (pure (Value.agg _::a)) H d Q) q)
theorem xC{fu:Func}{rs:List ResultVar}{vs:List Value}(hr:fu.results.toList=rs)(r:Bx P B As n e rs vs){H:Array Obj}(st:Sat As (hp H)){Q:Value->Array Obj->Nat->Prop}(q:Q (MV vs) H d):di P B (results fu (tm n e)) H d Q:=by
 subst hr;unfold results;rw[HA,HC,bind_assoc];refine ah (r.ok st ?_);refine ah (aA (aA ?_));have:(if h:vs.toArray.size=1 then vs.toArray[0]else Value.tuple vs.toArray)=MV vs:=by
  match vs with
  |[]=>rfl
  |[_]=>rfl
  |_::_::_=>rfl
 rw[this];exact q
theorem ab.Xz(C:ab P ak B R){fu:Func}{cc:Code}{n':Nat}[b:Body P fn fu cc n']{c:Frame}{x:Code}{Q:Value->List HP->Prop}(aJ:tP kd c)(aj:∀ v aN,Q v aN->At R d (aN++F) (after kd c cs v)){rs:List ResultVar}{vs:List Value}(r:Bx P B As n e rs vs)(q:Q (MV vs) aN)
  (pB:fu.results.toList=rs:=by rfl) (hr:bZ As (aN++F):=by exact bZ.au) (hx:ck x=.ret:=by rfl):At R d As (gr fn kd n e [] (.code x::k) (c::cs)):=λH s=>by
 have z:=fb hx;simp only at z;subst z;refine C.ret ?_;have hh:=At.jB hr (aj _ aN q) H s;cases kd with
 |pb=>exact C.back b.func (xC pB r s hh)
 |n7=>exact C.Bp aJ b.func (xC pB r s hh)
section
variable{α:Type}{f:α->List Value}{z:Nat}{s:ay}{l m:List α}{j o:Nat}
theorem ab.Dw(C:ab P ak B R){MJ bz:Nat}{zv:Value}{yv:Value}[rf:fC f z][cE:El P tt el][Xl:El P t3 MJ][Cz P el z][cB:Bz P el bz][Zv P el zv](m:List α)
  (ho:aZ ops i=some ⟨some t,.call ⟨.builtin .append,#[x,y],#[tt,t3]⟩,ty,pos,af,gd⟩) (h:∀ s':ay,Nx R d (a9 f z el s' (l++m)::L) fn kd n e ds ops aa k cs t s'.v)
  (hx:ev n e x=s.v:=by rfl) (hy:ev n e y=yv:=by rfl) (hf:Fo (a9 f z el s l) As L:=by exact Fo.au) (hsrc:∀ H,Sat As (hp H)->kI B H z m.length yv (flat f m))
  (hsz:(l.length+m.length)*bz<=140737488355328:=by(try simp only[jc,tA]);omega) (ML:zv.cells.size=z:=by rfl) (y2:bz≠0:=by decide) (hb:∀ b j,B.rd b el j=false/\B.sh el j=false:=by intro _ j;exact⟨rfl,rfl⟩) (hw:aM ops n e gd=true:=by rfl):Nw R d As fn kd n e ds ops i aa k cs:=
 At.fo hf (C.ap ho rf.len rf.one (λH s'=>hsrc H (s'.perm hf.perm.symm)) (λs' _=>h s') hsz hx hy ML y2 hb hw)
theorem At.P4{B:jW}{H:Array Obj}{b2:Nat}{XA:aQ}{c2:Array Value}{nn:Nat}(hh:Has b2 (.cells c2 XA (0,0)) As)(st:Sat As (hp H))(hs:∀ j,B.sh XA j=false){xs:List Value}(hc:c2=xs.toArray)(hn:nn*z=xs.length):kI B H z nn (.slice (some ⟨b2,0,none⟩) nn nn) xs:=by subst hc;exact .inr ⟨b2,0,nn,_,_,rfl,hh.get st,by simp[hn],by rw[hn,mj];simp,hs⟩
theorem ab.nM(C:ab P ak B R){MJ bz b2:Nat}{XA:aQ}{c2:Array Value}{zv:Value}[rf:fC f z][cE:El P tt el][Xl:El P t3 MJ][Cz P el z][cB:Bz P el bz][Zv P el zv](a:α)
  (ho:aZ ops i=some ⟨some t,.call ⟨.builtin .append,#[x,y],#[tt,t3]⟩,ty,pos,af,gd⟩) (h:∀ s':ay,Nx R d (a9 f z el s' (l++[a])::L) fn kd n e ds ops aa k cs t s'.v)
  (hx:ev n e x=s.v:=by rfl) (hy:ev n e y=.slice (some ⟨b2,0,none⟩) 1 1:=by rfl) (hf:Fo (a9 f z el s l) As L:=by exact Fo.au) (hh:Has b2 (.cells c2 XA (0,0)) As:=by exact Has.au) (hc:c2=(f a).toArray:=by rfl)
  (hsz:(l.length+1)*bz<=140737488355328:=by omega) (hs:∀ j,B.sh XA j=false:=by intro j;rfl) (ML:zv.cells.size=z:=by rfl) (y2:bz≠0:=by decide) (hb:∀ b j,B.rd b el j=false/\B.sh el j=false:=by intro _ j;exact⟨rfl,rfl⟩) (hw:aM ops n e gd=true:=by rfl):Nw R d As fn kd n e ds ops i aa k cs:=
 C.Dw (MJ:=MJ) [a] ho h hx hy hf (λH st=>At.P4 hh st hs (xs:=flat f [a]) (by rw[hc];simp[flat]) (by simp[flat,rf.len])) hsz ML y2 hb hw
theorem qd{α:Type}{f:α->List Value}{z:Nat}{el:aQ}{s:ay}{l:List α}(hl:0<l.length)(h:HL)(x:a9 f z el s l h):s.a=some ⟨s.b,0,none⟩/\s.len=l.length/\l.length<=s.cap:=by
 rcases x with⟨_,rfl⟩|⟨b,pad,e,_,h2,_⟩
 ·simp at hl
 ·have hb:s.b=b:=by rw[e];rfl
  exact⟨by rw[hb];exact congrArg ay.a e,congrArg ay.len e,h2⟩
theorem At.aG(f:α->List Value)(z:Nat)(el:aQ){g:aP}(h:At R d (a9 f z el Go.Sl.aG []::As) g):At R d As g:=λH s=>by
 have e:less (hp H) (λ_=>none)=hp H:=by funext b;simp[less]
 refine h H ⟨λ_=>none,.inl ⟨rfl,rfl⟩,λ_ _ x=>(by cases x),?_⟩;rw[e];exact s
theorem At.zr{g:aP}(h:At R d (all []::As) g):At R d As g:=λH s=>h H (Sat.fS (l:=[]) s)
theorem At.Gk{I:HL}{g:aP}{L2:List HP}(hf:Fo (a9 f z el s l) As L)(hi:Fo (a7 I) L L2)(h:∀ I',Sub I I'->dS I' f el s l->At R d (a7 I'::L2) g):At R d As g:=by
 refine At.fo hf λH st=>?_;obtain⟨hh,x,gu,hr⟩:=st;rcases x with⟨rfl,rfl⟩|⟨b,pad,e,_,_,uY⟩
 ·exact h I (Sub.refl I) (.inl ⟨rfl,rfl⟩) H ((hr.mono mz).perm hi.perm)
 ·have Ic:Sat (bR b (.cells (gf f l pad) el (0,0))::a7 I::L2) (hp H):=⟨hh,uY,gu,hr.perm hi.perm⟩;have hb:s.b=b:=by rw[e];rfl
  refine At.freeze (λI' h1 h2=>h I' h1 (.inr ⟨pad,by rw[hb];exact e,by rw[hb];exact h2⟩)) H Ic
theorem At.own{g:aP}(s:ay)(pad:List Value)(hs:s=⟨some ⟨b,0,none⟩,l.length,s.cap⟩)(hl:l.length*z+pad.length=s.cap*z)(hle:l.length<=s.cap)(hf:Fo (bR b (.cells (gf f l pad) el (0,0))) As L)(h:At R d (a9 f z el s l::L) g):At R d As g:=
 At.turn hf (λ_ hh=>.inr ⟨b,pad,hs,hl,hle,hh⟩) h
theorem ab.Gl(C:ab P ak B R)[rf:fC f z][Cz P tt 1](a:α)(ho:aZ ops i=some ⟨none,.store tt x y,ty,pos,af,gd⟩)(h:At R d (a9 f z el s (l.set j a)::L) (gr fn kd n e ds (.inRegion ops aa::k) cs))
  (hx:ev n e x=.pointer (some ⟨s.b,j*z+o,none⟩):=by rfl) (hy:ev n e y=v:=by conv=>{lhs;whnf}) (hf:Fo (a9 f z el s l) As L:=by exact Fo.au) (hj:j<l.length:=by omega) (ha:f a=(f l[j]).set o v:=by rfl) (hz:o<z:=by decide) (hb:∀ b j,B.rd b el j=false/\B.sh el j=false:=by intro _ j;exact⟨rfl,rfl⟩) (hv:eA v=true:=by rfl) (hw:aM ops n e gd=true:=by rfl):Nw R d As fn kd n e ds ops i aa k cs:=by
 refine At.fo hf λH st=>?_;obtain⟨hh,xx,gu,hr⟩:=st;rcases xx with⟨rfl,rfl⟩|⟨b,pad,e1,h1,h2,uY⟩
 ·simp at hj
 ·have Pl:s.b=b:=by rw[e1];rfl
  rw[Pl]at hx;have Ic:Sat (bR b (.cells (gf f l pad) el (0,0))::L) (hp H):=⟨hh,uY,gu,hr⟩;refine C.st ho ?_ hx hy hv .head rfl ?_ (hb _ _).1 (hb 0 _).2 hw H Ic
  ·rw[Jp rf.len hj hz rfl a ha];refine λH st=>h H (st.imp λhl hhl=>.inr ⟨b,pad,?_,?_,?_,hhl⟩)
   ·rw[fM];exact e1
   ·rw[fM];exact h1
   ·rw[fM];exact h2
  ·rw[iN rf.len];have:=se z (show j+1<=l.length by omega);rw[pA]at this;omega
theorem ab.zt(C:ab P ak B R)[rf:fC f z][Cz P tt 1](a:α)(ho:aZ ops i=some ⟨none,.store tt x y,ty,pos,af,gd⟩)(h:At R d (a9 f z el s (l.set j a)::L) (gr fn kd n e ds (.inRegion ops aa::k) cs))
  (hx:ev n e x=.pointer (some ⟨s.b,j*z,none⟩):=by rfl) (hy:ev n e y=v:=by conv=>{lhs;whnf}) (hf:Fo (a9 f z el s l) As L:=by exact Fo.au) (hj:j<l.length:=by omega) (ha:f a=(f l[j]).set 0 v:=by rfl) (hz:0<z:=by decide) (hb:∀ b j,B.rd b el j=false/\B.sh el j=false:=by intro _ j;exact⟨rfl,rfl⟩) (hv:eA v=true:=by rfl) (hw:aM ops n e gd=true:=by rfl):Nw R d As fn kd n e ds ops i aa k cs:=
 C.Gl (o:=0) a ho h hx hy hf hj ha hz hb hv hw
theorem ab.Gm(C:ab P ak B R)[rf:fC f z][Cz P tt z]{xs:Array Value}(a:α)(ho:aZ ops i=some ⟨none,.store tt x y,ty,pos,af,gd⟩)(h:At R d (a9 f z el s (l.set j a)::L) (gr fn kd n e ds (.inRegion ops aa::k) cs))
  (hx:ev n e x=.pointer (some ⟨s.b,j*z,none⟩):=by rfl) (hy:ev n e y=.agg xs:=by rfl) (hf:Fo (a9 f z el s l) As L:=by exact Fo.au) (hj:j<l.length:=by omega) (ha:(f a).toArray=xs:=by rfl) (hb:∀ b j,B.rd b el j=false/\B.sh el j=false:=by intro _ j;exact⟨rfl,rfl⟩) (hw:aM ops n e gd=true:=by rfl):Nw R d As fn kd n e ds ops i aa k cs:=by
 refine At.fo hf λH st=>?_;obtain⟨hh,xx,gu,hr⟩:=st;rcases xx with⟨rfl,rfl⟩|⟨b,pad,e1,h1,h2,uY⟩
 ·simp at hj
 ·have Pl:s.b=b:=by rw[e1];rfl
  rw[Pl]at hx;subst ha;have Ic:Sat (bR b (.cells (gf f l pad) el (0,0))::L) (hp H):=⟨hh,uY,gu,hr⟩;refine C.pd ho ?_ hx hy (λv hv=>rf.one a v (by simpa using hv)) (by simp[rf.len]) .head rfl ?_ (λj=>(hb _ j).1) (λj=>(hb 0 j).2) hw H Ic
  ·rw[MI rf.len hj rfl a];refine λH st=>h H (st.imp λhl hhl=>.inr ⟨b,pad,?_,?_,?_,hhl⟩)
   ·rw[fM];exact e1
   ·rw[fM];exact h1
   ·rw[fM];exact h2
  ·rw[iN rf.len];have:=se z (show j+1<=l.length by omega);rw[pA]at this;omega
end
end
end
section
variable{R:Nat->aP->Array Obj->Prop}{d:Nat}{As F L:List HP}{g:aP}
theorem og{l m As:List HP}(p:l.Perm m){h:HL}(s:Sat (all l::As) h):Sat (all m::As) h:=(s.flat.perm (p.append_right As)).fS
theorem oh{X:Type}{l:List X}{i:Nat}(hi:i<l.length):l.Perm (l[i]::l.eraseIdx i):=by
 rw[w7]
 conv=>lhs;rw[<- vA i l,iR hi]
 exact Hy
theorem Ie{X:Type}{l:List X}{i:Nat}(hi:i<l.length)(u:X):(l.set i u).Perm (u::l.eraseIdx i):=by rw[w7,Tv,aK hi];exact Hy
variable{α:Type}{f:α->HP}{l:List α}{i:Nat}
theorem j7(hi:i<l.length)(hf:Fo (all (l.map f)) As L)(h:At R d (f l[i]::all ((l.eraseIdx i).map f)::L) g):At R d As g:=
 At.fo hf λH s=>h H (Sat.under (λ_ s=>Sat.fS s) (Sat.flat (l:=f l[i]::(l.eraseIdx i).map f) (og ((oh hi).map f) s)))
theorem mF(hi:i<l.length)(u:α)(hr:dB [f u,all ((l.eraseIdx i).map f)] As L)(h:At R d (all ((l.set i u).map f)::L) g):At R d As g:=
 At.perm hr.perm λH s=>h H (og ((Ie hi u).symm.map f) (Sat.fS (l:=f u::(l.eraseIdx i).map f) (Sat.under (λ_ s=>Sat.flat s) s)))
theorem qU(u:α)(hr:dB [f u,all (l.map f)] As L)(h:At R d (all ((l++[u]).map f)::L) g):At R d As g:=
 At.perm hr.perm λH s=>h H (og (by have:=(LN u l).symm.map f;exact this) (Sat.fS (l:=f u::l.map f) (Sat.under (λ_ s=>Sat.flat s) s)))
structure cr where
 w:Bool
 k:Int
 v:Int
structure MsgR where
 kind:Int
 aU:Int
 to:Int
 tx:Int
 yes:Bool
 ops:List cr
 reads:List Int
structure RecR where
 kind:Int
 tx:Int
 yes:Bool
 home:Int
 ops:List cr
 reads:List Int
structure VoteR where
 aU:Int
 reads:List Int
structure gM where
 tx:Int
 ops:List cr
 aR:List VoteR
 dec:Bool
 yes:Bool
 bG:List Int
structure dM where
 tm:Int
 again:Bool
 tx:Int
structure gn where
 key:Int
 tx:Int
structure ShR where
 me:Int
 n:Int
 up:Bool
 log:List RecR
 aX:Int
 bD:List Int
 aH:List gn
 under:List gM
 timers:List dM
 waits:List MsgR
 clock:Int
 out:List MsgR
def gU(key n:Int):Int:=(key-97).tmod n
def aV(ops:List cr)(s n:Int):List cr:=ops.filter λo=>gU o.k n==s
def bX(ops:List cr)(s n:Int):Bool:= !(aV ops s n).isEmpty
def isRec(kind tx:Int)(r:RecR):Bool:=r.kind==kind&&r.tx==tx
def findD(log:List RecR)(kind tx:Int):Nat->Option Nat
 |0=>none
 |i+1=>if(log[i]?).any (isRec kind tx)then some i else findD log kind tx i
def bB(log:List RecR)(kind tx:Int):Option Nat:=findD log kind tx log.length
def bF(log:List RecR)(tx:Int):Option Nat:=if(bB log 3 tx).isSome then none else bB log 1 tx
def cH(l:List gM)(tx:Int):Option Nat:=l.findIdx? λu=>u.tx==tx
def cu(s:ShR)(m:MsgR):ShR:={s with out:=s.out++[{m with aU:=s.me}]}
def eP(s:ShR)(m:MsgR):ShR:={s with waits:=s.waits++[{m with aU:=s.me}]}
def bj:MsgR:=⟨0,0,0,0,false,[],[]⟩
def eh:RecR:=⟨0,0,false,0,[],[]⟩
def upto(n:Int):List Int:=(List.range n.toNat).map Int.ofNat
def fV(s:ShR)(ops:List cr)(f:ShR->Int->List cr->ShR):ShR:=(upto s.n).foldl (λz k=>if(aV ops k s.n).isEmpty then z else f z k (aV ops k s.n)) s
def lH(s:ShR)(m:MsgR):ShR:=
 match bB s.log 2 m.tx with
 |some d=>if(d:Int)<s.aX then cu s {bj with kind:=7,to:= -1,tx:=m.tx,yes:=(s.log[d]?.getD eh).yes,reads:=(s.log[d]?.getD eh).reads}else s
 |none=>
  if(cH s.under m.tx).isSome then s else
  let s1:=fV {s with under:=s.under++[⟨m.tx,m.ops,[],false,false,[]⟩]} m.ops λz k p=>cu z {bj with kind:=2,to:=k,tx:=m.tx,ops:=p}
  {s1 with timers:=s1.timers++[⟨s1.clock+4,true,m.tx⟩]}
def bK(u:gM)(k:Int):Option VoteR:=u.aR.find? λv=>v.aU==k
def eB(u:gM)(n:Int):List cr->(Int->Nat)->List Int
 |[],_=>[]
 |o::l,used=>
  if o.w then eB u n l used else
  let k:=gU o.k n
  (((bK u k).map (·.reads)).getD [])[used k]?.getD 0::eB u n l (λj=>if j=k then used k+1 else used j)
def jo(u:gM)(n:Int):List Int:=eB u n u.ops λ_=>0
def mG(n:Int)(ops:List cr)(p:Int->Bool):Bool:=(upto n).all λk=> !bX ops k n||p k
def pf(s:ShR)(m:MsgR):ShR:=
 match cH s.under m.tx with
 |none=>s
 |some i=>
  match s.under[i]? with
  |none=>s
  |some u=>
   if u.dec then s else
   let u1:=if m.yes&& !(bK u m.aU).isSome then{u with aR:=u.aR++[⟨m.aU,m.reads⟩]}else u
   if m.yes&& !mG s.n u1.ops (λk=>(bK u1 k).isSome)then{s with under:=s.under.set i u1}else
   let u2:={u1 with dec:=true,yes:=m.yes}
   let rd:=if m.yes then jo u2 s.n else[]
   let s1:={s with under:=s.under.set i u2,log:=s.log++[{eh with kind:=2,tx:=m.tx,yes:=m.yes,reads:=rd}]}
   let s2:=fV s1 u2.ops λz k _=>eP z {bj with kind:=4,to:=k,tx:=m.tx,yes:=m.yes}
   eP s2 {bj with kind:=7,to:= -1,tx:=m.tx,yes:=m.yes,reads:=rd}
def wi(s:ShR)(m:MsgR):ShR:=
 match cH s.under m.tx with
 |none=>s
 |some i=>
  match s.under[i]? with
  |none=>s
  |some u=>
   if !u.dec then s else
   let u1:={u with bG:=u.bG++[m.aU]}
   if mG s.n u1.ops (λk=>u1.bG.contains k)then{s with under:=s.under.eraseIdx i}else{s with under:=s.under.set i u1}
def wj(s:ShR)(m:MsgR):ShR:=
 match bB s.log 2 m.tx with
 |some d=>if(d:Int)<s.aX then cu s {bj with kind:=4,to:=m.aU,tx:=m.tx,yes:=(s.log[d]?.getD eh).yes}else s
 |none=>
  if(cH s.under m.tx).isSome then s else
  eP {s with log:=s.log++[{eh with kind:=2,tx:=m.tx}]} {bj with kind:=4,to:=m.aU,tx:=m.tx}
def iT(l:List gn)(key:Int):Int:=((l.find? λh=>h.key==key).map (·.tx)).getD (-1)
def gS(bD:List Int)(ops:List cr):List Int:=(ops.filter λo=> !o.w).map λo=>bD[(o.k-97).toNat]?.getD 0
def i3(l:List gn)(tx:Int)(ops:List cr):List gn:=l++ops.map λo=>⟨o.k,tx⟩
def iL(l:List gn)(tx:Int):List gn:=l.filter λh=>h.tx != tx
def eC(bD:List Int)(ops:List cr):List Int:=ops.foldl (λv o=>if o.w then v.set (o.k-97).toNat o.v else v) bD
def gB(s:ShR)(m:MsgR):ShR:=
 let no:={bj with kind:=3,to:=m.aU,tx:=m.tx}
 let yes:={no with yes:=true,reads:=gS s.bD m.ops}
 match bF s.log m.tx with
 |some r=>if(r:Int)<s.aX then cu s {yes with reads:=gS s.bD (s.log[r]?.getD eh).ops}else s
 |none=>
  match bB s.log 3 m.tx with
  |some d=>if(s.log[d]?.getD eh).yes then s else cu s no
  |none=>
   if m.ops.any (λo=>decide (iT s.aH o.k>=0))then cu s no else
   let s1:=eP {s with aH:=i3 s.aH m.tx m.ops,log:=s.log++[{eh with kind:=1,tx:=m.tx,home:=m.aU,ops:=m.ops}]} yes
   {s1 with timers:=s1.timers++[⟨s1.clock+3,false,m.tx⟩]}
def iD(s:ShR)(m:MsgR):ShR:=
 match bF s.log m.tx with
 |some r=>
  let s1:=if m.yes then{s with bD:=eC s.bD (s.log[r]?.getD eh).ops}else s
  eP {s1 with aH:=iL s.aH m.tx,log:=s.log++[{eh with kind:=3,tx:=m.tx,yes:=m.yes}]} {bj with kind:=5,to:=m.aU,tx:=m.tx}
 |none=>
  match bB s.log 3 m.tx with
  |some d=>if(d:Int)<s.aX then cu s {bj with kind:=5,to:=m.aU,tx:=m.tx}else s
  |none=>if m.yes then s else eP {s with log:=s.log++[{eh with kind:=3,tx:=m.tx,yes:=m.yes}]} {bj with kind:=5,to:=m.aU,tx:=m.tx}
def jl(s:ShR)(m:MsgR):ShR:=
 if m.kind=1 then lH s m else if m.kind=2 then gB s m else if m.kind=3 then pf s m else if m.kind=4 then iD s m else if m.kind=5 then wi s m else if m.kind=6 then wj s m else s
def xD(s:ShR):ShR:={s with aX:=s.log.length,out:=s.out++s.waits,waits:=[]}
def jD(clock:Int):List dM->Nat->Option (Nat×dM)->Option (Nat×dM)
 |[],_,k=>k
 |t::l,i,k=>jD clock l (i+1) (if decide (t.tm<=clock)&&(match k with|none=>true|some (_,u)=>decide (t.tm<u.tm))then some (i,t)else k)
def kS(s:ShR)(t:dM):ShR:=
 if !t.again then
  match bF s.log t.tx with
  |some r=>
   let s1:=cu s {bj with kind:=6,to:=(s.log[r]?.getD eh).home,tx:=t.tx}
   {s1 with timers:=s1.timers++[⟨s1.clock+3,false,t.tx⟩]}
  |none=>s
 else
  match cH s.under t.tx with
  |none=>s
  |some i=>
   match s.under[i]? with
   |none=>s
   |some u=>
    let aX:=match bB s.log 2 t.tx with|some d=>decide ((d:Int)<s.aX)|none=>decide (-1<s.aX)
    let s1:=fV s u.ops λz k p=>
     if !u.dec&& !(bK u k).isSome then cu z {bj with kind:=2,to:=k,tx:=t.tx,ops:=p}
     else if u.dec&&aX&& !u.bG.contains k then cu z {bj with kind:=4,to:=k,tx:=t.tx,yes:=u.yes}
     else z
    {s1 with timers:=s1.timers++[⟨s1.clock+4,true,t.tx⟩]}
def iE:Nat->ShR->ShR
 |0,s=>s
 |f+1,s=>
  match jD s.clock s.timers 0 none with
  |none=>s
  |some (k,t)=>iE f (kS {s with timers:=s.timers.eraseIdx k} t)
def rm(s:ShR):Nat:=(s.timers.filter λt=>t.tm<=s.clock).length
def qe(s:ShR):ShR:=let s1:={s with clock:=s.clock+1};iE (rm s1+1) s1
def gX:List Int:=List.replicate 26 0
def eL(s:ShR):ShR:={s with bD:=gX,aH:=[],under:=[],timers:=[],waits:=[],clock:=0}
def oM(s:ShR)(keep:Int):ShR:=
 let k:=if keep<0 then 0 else keep
 let n:=(s.log.length:Int)-s.aX
 let n:=if k<n then k else n
 eL {s with up:=false,aX:=s.aX+n,log:=s.log.take (s.aX+n).toNat}
def Ig(log:List RecR)(tx:Int)(i:Nat):Option Nat:=findD log 1 tx i
def dC(log:List RecR):Nat->ShR->ShR
 |0,s=>s
 |i+1,s=>
  let s:=dC log i s
  match log[i]? with
  |none=>s
  |some r=>
   if r.kind=1 then{s with aH:=i3 s.aH r.tx r.ops}
   else if r.kind=3 then
    let s1:=match Ig log r.tx i with|some p=>if r.yes then{s with bD:=eC s.bD (log[p]?.getD eh).ops}else s|none=>s
    {s1 with aH:=iL s1.aH r.tx}
   else s
def je(log:List RecR):List dM:=((upto 60).filter λtx=>(bF log tx).isSome).map λtx=>⟨3,false,tx⟩
def dO(s:ShR):ShR:=
 let s1:=dC s.log s.log.length (eL {s with up:=true})
 {s1 with timers:=s1.timers++je s.log}
structure TxR where
 ops:List cr
 state:Int
 reads:List Int
structure WR where
 sh:List ShR
 aE:List MsgR
 aL:List TxR
 ai:Bool
def Dx(k n:Int):ShR:=eL ⟨k,n,true,[],0,[],[],[],[],[],0,[]⟩
def pE(n:Int):WR:=⟨(upto n).map λk=>Dx k n,[],[],false⟩
def zu(o:cr):Prop:=97<=o.k/\o.k<=122/\(o.w=true\/o.v=0)
instance(o:cr):Decidable (zu o):=by unfold zu;exact inferInstance
def eV(l:List cr):Prop:=(∀ o∈l,zu o)/\(l.map (·.k)).Nodup/\1<=l.length/\l.length<=6
instance(l:List cr):Decidable (eV l):=by unfold eV;exact inferInstance
def fW(ops:List cr)(n:Int):Int:=match ops with|o::_=>gU o.k n|[]=>0
def mH(w:WR)(tx:Nat):WR:=
 match w.aL[tx]? with
 |none=>w
 |some t=>{w with aE:=w.aE++[{bj with kind:=1,aU:= -1,to:=fW t.ops w.sh.length,tx:=tx,ops:=t.ops}]}
def eG(w:WR)(ops:List cr):WR×Int×Int:=
 if w.ai then(w,0,9)else if¬ eV ops then(w,0,2)else if w.aL.length=60\/400<=w.aE.length then(w,0,3)
 else(mH {w with aL:=w.aL++[⟨ops,1,[]⟩]} w.aL.length,w.aL.length,0)
def lj(w:WR)(a:Nat)(s:ShR):WR:={w with sh:=w.sh.set a {s with out:=[]},aE:=w.aE++s.out}
def qf(w:WR)(m:MsgR):WR:=
 match w.aL[m.tx.toNat]? with
 |none=>w
 |some t=>if t.state=1 then{w with aL:=w.aL.set m.tx.toNat (if m.yes then{t with state:=2,reads:=m.reads}else{t with state:=3})}else w
def cD(w:WR)(k i:Int):WR×Int:=
 if i<0\/(w.aE.length:Int)<=i then(w,5)else
 match w.aE[i.toNat]? with
 |none=>(w,5)
 |some m=>
  if k=4 then(if 400<=w.aE.length then(w,3)else({w with aE:=w.aE++[m]},0))else
  let w1:={w with aE:=w.aE.eraseIdx i.toNat}
  if k=3 then(w1,0)else
  if m.to= -1 then(qf w1 m,0)else
  match w1.sh[m.to.toNat]? with
  |none=>(w1,0)
  |some s=>if s.up then(lj w1 m.to.toNat (jl s m),0)else(w1,0)
def mY(w:WR)(k a b:Int):WR×Int:=
 if k<1\/8<k then(w,0)else if w.ai then(w,9)
 else if k=1 then(if a<0\/(w.aL.length:Int)<=a then(w,4)else if 400<=w.aE.length then(w,3)else(mH w a.toNat,0))
 else if k<=4 then cD w k a
 else if a<0\/(w.sh.length:Int)<=a then(w,6)
 else match w.sh[a.toNat]? with
  |none=>(w,6)
  |some s=>
   if k=8 then(if s.up then(w,8)else({w with sh:=w.sh.set a.toNat (dO s)},0))
   else if !s.up then(w,7)
   else if k=5 then(lj w a.toNat (xD s),0)
   else if k=6 then(if 150<w.aE.length then(w,3)else(lj w a.toNat (qe s),0))
   else(lj w a.toNat (oM s b),0)
inductive aY where
 |eZ (tx home:Int) (ops:List cr)
 |dec (tx:Int) (yes:Bool) (reads:List Int)
 |kD (tx:Int) (yes:Bool)
def aY.a8:aY->RecR
 |.eZ tx home ops=>{eh with kind:=1,tx:=tx,home:=home,ops:=ops}
 |.dec tx yes reads=>{eh with kind:=2,tx:=tx,yes:=yes,reads:=reads}
 |.kD tx yes=>{eh with kind:=3,tx:=tx,yes:=yes}
structure iF where
 pl:Int
 yes:Bool
structure xE where
 pl:Int
 home:Int
 ops:List cr
structure ll where
 ops:List cr
 aR:List (Int×List Int)
 bG:List (Int×Int)
 dec:Bool
 yes:Bool
structure dT where
 me:Int
 n:Int
 up:Bool
 log:List aY
 aX:Int
 values:List (Int×Int)
 aH:List (Int×Int)
 pend:List (Int×xE)
 done:List (Int×iF)
 cf:List (Int×iF)
 cg:List (Int×ll)
 timers:List dM
 clock:Int
 waits:List MsgR
 out:List MsgR
def dg(ops:List cr)(n:Int):List (Int×List cr):=ops.foldl (λm o=>bA m (gU o.k n) ((aB m (gU o.k n)).getD []++[o])) []
def eJ(s:dT)(m:MsgR):dT:={s with out:=s.out++[{m with aU:=s.me}]}
def iw(s:dT)(m:MsgR):dT:={s with waits:=s.waits++[{m with aU:=s.me}]}
def jq(s:dT)(tx ticks:Int)(again:Bool):dT:={s with timers:=s.timers++[⟨s.clock+ticks,again,tx⟩]}
def qg(s:dT)(ops:List cr)(f:dT->Int->List cr->dT):dT:=
 (upto s.n).foldl (λz k=>if((aB (dg ops s.n) k).getD []).isEmpty then z else f z k ((aB (dg ops s.n) k).getD [])) s
def lI(s:dT)(m:MsgR):dT:=
 match aB s.cf m.tx with
 |some d=>if d.pl<s.aX then eJ s {bj with kind:=7,to:= -1,tx:=m.tx,yes:=d.yes,reads:=((s.log[d.pl.toNat]?.map aY.a8).getD eh).reads}else s
 |none=>
  if(aB s.cg m.tx).isSome then s else
  jq (qg {s with cg:=bA s.cg m.tx ⟨m.ops,[],[],false,false⟩} m.ops λz k p=>eJ z {bj with kind:=2,to:=k,tx:=m.tx,ops:=p}) m.tx 4 true
def g8(u:ll)(n:Int):List cr->List (Int×Int)->Option (List Int)
 |[],_=>some []
 |o::l,next=>
  if o.w then g8 u n l next else
  let k:=gU o.k n
  let i:=(aB next k).getD 0
  match((aB u.aR k).getD [])[i.toNat]? with
  |none=>none
  |some x=>(g8 u n l (bA next k (i+1))).map (x:: ·)
def lJ(u:ll)(n:Int):Option (List Int):=g8 u n u.ops []
def pg(s:dT)(m:MsgR):dT:=
 match aB s.cg m.tx with
 |none=>s
 |some u=>
  if u.dec then s else
  let u1:=if m.yes&& !(aB u.aR m.aU).isSome then{u with aR:=bA u.aR m.aU m.reads}else u
  if m.yes&&decide (u1.aR.length<(dg u1.ops s.n).length)then{s with cg:=bA s.cg m.tx u1}else
  let rd:=if m.yes then(lJ u1 s.n).getD []else[]
  let s1:={s with cg:=bA s.cg m.tx {u1 with dec:=true,yes:=m.yes},log:=s.log++[.dec m.tx m.yes rd],cf:=bA s.cf m.tx ⟨s.log.length,m.yes⟩}
  let s2:=qg s1 u1.ops λz k _=>iw z {bj with kind:=4,to:=k,tx:=m.tx,yes:=m.yes}
  iw s2 {bj with kind:=7,to:= -1,tx:=m.tx,yes:=m.yes,reads:=rd}
def xF(s:dT)(m:MsgR):dT:=
 match aB s.cg m.tx with
 |none=>s
 |some u=>
  if !u.dec then s else
  let u1:={u with bG:=bA u.bG m.aU ((aB u.bG m.aU).getD 0+1)}
  if u1.bG.length=(dg u1.ops s.n).length then{s with cg:=ee (bA s.cg m.tx u1) m.tx}else{s with cg:=bA s.cg m.tx u1}
def zw(s:dT)(m:MsgR):dT:=
 match aB s.cf m.tx with
 |some d=>if d.pl<s.aX then eJ s {bj with kind:=4,to:=m.aU,tx:=m.tx,yes:=d.yes}else s
 |none=>
  if(aB s.cg m.tx).isSome then s else
  iw {s with log:=s.log++[.dec m.tx false []],cf:=bA s.cf m.tx ⟨s.log.length,false⟩} {bj with kind:=4,to:=m.aU,tx:=m.tx}
def g9(values:List (Int×Int))(ops:List cr):List Int:=(ops.filter λo=> !o.w).map λo=>(aB values o.k).getD 0
def rO(s:dT)(tx home:Int)(ops:List cr)(pl:Int):dT:={s with aH:=ops.foldl (λl o=>bA l o.k tx) s.aH,pend:=bA s.pend tx ⟨pl,home,ops⟩}
def oN(s:dT)(tx:Int)(yes:Bool)(pl:Int):dT:=
 let ops:=((aB s.pend tx).map (·.ops)).getD []
 {s with values:=ops.foldl (λv o=>if yes&&o.w then bA v o.k o.v else v) s.values,aH:=ops.foldl (λl o=>ee l o.k) s.aH,pend:=ee s.pend tx,done:=bA s.done tx ⟨pl,yes⟩}
def fH(s:dT)(m:MsgR):dT:=
 let answer:={bj with kind:=3,to:=m.aU,tx:=m.tx}
 match aB s.pend m.tx with
 |some p=>if p.pl<s.aX then eJ s {answer with yes:=true,reads:=g9 s.values p.ops}else s
 |none=>
  match aB s.done m.tx with
  |some d=>if d.yes then s else eJ s answer
  |none=>
   if m.ops.any (λo=>(aB s.aH o.k).isSome)then eJ s answer else
   let s1:=rO {s with log:=s.log++[.eZ m.tx m.aU m.ops]} m.tx m.aU m.ops s.log.length
   jq (iw s1 {answer with yes:=true,reads:=g9 s1.values m.ops}) m.tx 3 false
def iU(s:dT)(m:MsgR):dT:=
 let fin:=iw (oN {s with log:=s.log++[.kD m.tx m.yes]} m.tx m.yes s.log.length) {bj with kind:=5,to:=m.aU,tx:=m.tx}
 match aB s.pend m.tx with
 |some _=>fin
 |none=>
  match aB s.done m.tx with
  |some d=>if d.pl<s.aX then eJ s {bj with kind:=5,to:=m.aU,tx:=m.tx}else s
  |none=>if m.yes then s else fin
def qi(s:dT)(m:MsgR):dT:=
 if m.kind=1 then lI s m else if m.kind=2 then fH s m else if m.kind=3 then pg s m else if m.kind=4 then iU s m else if m.kind=5 then xF s m else if m.kind=6 then zw s m else s
def rP(s:dT):dT:={s with aX:=s.log.length,out:=s.out++s.waits,waits:=[]}
def qj(s:dT)(tx:Int):dT:=
 match aB s.cg tx with
 |none=>s
 |some u=>
  jq (qg s u.ops λz k p=>
   if !u.dec&& !(aB u.aR k).isSome then eJ z {bj with kind:=2,to:=k,tx:=tx,ops:=p}
   else if u.dec&&decide (((aB s.cf tx).map (·.pl)).getD 0<s.aX)&&decide ((aB u.bG k).getD 0=0)then eJ z {bj with kind:=4,to:=k,tx:=tx,yes:=u.yes}
   else z) tx 4 true
def xG(s:dT)(t:dM):dT:=
 if t.again then qj s t.tx else
 match aB s.pend t.tx with
 |some p=>jq (eJ s {bj with kind:=6,to:=p.home,tx:=t.tx}) t.tx 3 false
 |none=>s
def j8:Nat->dT->dT
 |0,s=>s
 |f+1,s=>
  match jD s.clock s.timers 0 none with
  |none=>s
  |some (k,t)=>j8 f (xG {s with timers:=s.timers.eraseIdx k} t)
def MX(s:dT):Nat:=(s.timers.filter λt=>t.tm<=s.clock).length
def oi(s:dT):dT:=let s1:={s with clock:=s.clock+1};j8 (MX s1+1) s1
def i4(s:dT):dT:={s with values:=[],aH:=[],pend:=[],done:=[],cf:=[],cg:=[],timers:=[],clock:=0,waits:=[]}
def mI(s:dT)(keep:Int):dT:=
 let aX:=s.aX+min (max keep 0) ((s.log.length:Int)-s.aX)
 i4 {s with up:=false,aX:=aX,log:=s.log.take aX.toNat}
def MY(s:dT)(i:Nat):aY->dT
 |.eZ tx home ops=>rO s tx home ops i
 |.dec tx yes _=>{s with cf:=bA s.cf tx ⟨i,yes⟩}
 |.kD tx yes=>oN s tx yes i
def lY(log:List aY):Nat->dT->dT
 |0,s=>s
 |i+1,s=>match log[i]? with|none=>lY log i s|some e=>MY (lY log i s) i e
def xH(l:List Int):List Int:=l.mergeSort (λa b=>decide (a<=b))
def j9(s:dT):dT:=
 let s1:=lY s.log s.log.length (i4 {s with up:=true})
 (xH (s1.pend.map (·.1))).foldl (λz tx=>jq z tx 3 false) s1
def Gn(k n:Int):dT:=i4 ⟨k,n,true,[],0,[],[],[],[],[],[],[],0,[],[]⟩
end
section
open Go.Conc
structure T4(B:jW)(σ:Gh)(H:Array Obj):Prop where
 still:∀ i s p,σ.aT i=some s->p∈s.mem->p.1.spot=none/\∃ c ty,H[p.1.block]? =some (.cells c ty (0,0))/\B.rd p.1.block ty p.1.off=true
 pU:∀ l,σ.sh l->∃ a:Addr,l=.cell a/\∃ c ty,H[a.block]? =some (.cells c ty (0,0))/\B.sh ty a.off=true/\B.bot<=a.block
theorem T4.step{B:jW}{σ:Gh}{H H':Array Obj}(h:T4 B σ H)(s:fK B H H'):T4 B σ H':=
 ⟨λi s' p e hp=>by
  obtain⟨h1,c,ty,h2,h3⟩:=h.still i s' p e hp;obtain⟨c',h4,_⟩:=s.cells _ _ _ _ h2;exact⟨h1,c',ty,h4,h3⟩,λl hl=>by
  obtain⟨a,rfl,c,ty,h2,h3⟩:=h.pU l hl;obtain⟨c',h4,_⟩:=s.cells _ _ _ _ h2;exact⟨a,rfl,c',ty,h4,h3⟩⟩
theorem MZ{B:jW}{σ:Gh}{w w':World}{es:Array Event}(g:T4 B σ w.heap)(s:fK B w.heap w'.heap)(he:∀ e∈es,zn B w'.heap e):o7 σ w w' es:=by
 have g':=g.step s;refine⟨s.size,s.chans,λi s' p e hp hc=>?_,λe wD=>?_⟩
 ·obtain⟨h1,c,ty,h2,h3⟩:=g.still i s' p e hp;obtain⟨c',h4,h5⟩:=s.cells _ _ _ _ h2;unfold World.cell? at hc⊢;rw[h2]at hc;rw[h4];simp only[h1]at hc⊢;rw[h5 _ h3];exact hc
 ·have PW:=he e wD;have iS:∀ i a c ty fr,σ.rd i (.cell a)->w'.heap[a.block]? =some (.cells c ty fr)->B.rd a.block ty a.off=true:=λi a c ty fr hr hh=>by obtain⟨s',e',p,hp,ep⟩:=hr;obtain rfl:=Loc.cell.inj ep;obtain⟨_,c',So,h2,h3⟩:=g'.still i s' p e' hp;rw[hh]at h2;cases h2;exact h3
  have rJ:∀ a c ty fr,σ.sh (.cell a)->w'.heap[a.block]? =some (.cells c ty fr)->B.sh ty a.off=true/\B.bot<=a.block:=λa c ty fr hr hh=>by obtain⟨a',ea,c',So,h2,h3⟩:=g'.pU _ hr;obtain rfl:=Loc.cell.inj ea;rw[hh]at h2;cases h2;exact h3
  have dA:∀ b o,w'.heap[b]? =some o->b<w'.heap.size:=λb o h=>(gJ.1 h).1;obtain⟨loc,wr,sy⟩:=e;cases loc with
  |cell a=>
   obtain⟨h1,c,ty,⟨fr,h2⟩,h3,h4⟩:=PW;refine⟨λb hb=>?_,λad ea=>(by simp[MemAct.ofEvent]at ea),?_⟩
   ·simp only[MemAct.ofEvent,MemAct.touch?,y0]at hb;subst hb;refine⟨λhw i hr=>?_,λhs hk=>?_⟩
    ·have:=iS i a c ty fr hr h2;rw[h3 hw]at this;cases this
    ·have:=rJ a c ty fr hs h2;cases sy with
     |true=>simp at hk
     |false=>
      rcases h4 rfl with h5|h5
      ·have:=this.2;omega
      ·rw[h5]at this;cases this.1
   ·exact dA _ _ h2
  |obj r=>
   obtain⟨h1,h2⟩:=PW;have h2:sy=false:=h2;subst h2;have hof:MemAct.ofEvent ⟨.obj r,wr,false⟩=.access ⟨.obj r,wr,false⟩:=by cases wr<;>rfl
   rw[hof];refine⟨λb hb=>?_,λad ea=>(by cases ea),h1⟩;simp only[MemAct.touch?,y0]at hb;subst hb;refine⟨λhw i hr=>?_,λhs _=>?_⟩
   ·obtain⟨s',e',p,hp,ep⟩:=hr;cases ep
   ·obtain⟨a,ea,_⟩:=g'.pU _ hs;cases ea
  |mark m=>
   obtain⟨h1,h2⟩:=PW;have hof:MemAct.ofEvent ⟨.mark m,wr,sy⟩=.mark m:=by cases wr<;>cases sy<;>rfl
   rw[hof];refine⟨λb hb=>?_,λad ea=>?_,?_⟩
   ·cases m with
    |read a=>
     simp only[MemAct.touch?,y0]at hb;subst hb;exact⟨λhw=>by simp at hw,λ_ hk=>by simp at hk⟩
    |write a=>
     obtain⟨c,ty,h3,h4⟩:=h1;simp only[MemAct.touch?,y0]at hb;subst hb;refine⟨λ_ i hr=>?_,λ_ hk=>by simp at hk⟩;have:=iS i a c ty _ hr h3;rw[h4]at this;cases this
    |_=>simp[MemAct.touch?]at hb
   ·cases ea;obtain⟨c,ty,h3,h4⟩:=h1;intro hs;have:=(rJ _ c ty _ hs h3).1;rw[h4]at this;cases this
   ·cases m with
    |acquire a=>obtain⟨c,ty,h3⟩:=h1;exact dA _ _ h3
    |release a=>obtain⟨c,ty,h3,_⟩:=h1;exact dA _ _ h3
    |releaseMerge a=>obtain⟨c,ty,h3⟩:=h1;exact dA _ _ h3
    |read a=>obtain⟨c,ty,h3⟩:=h1;exact dA _ _ h3
    |write a=>obtain⟨c,ty,h3,_⟩:=h1;exact dA _ _ h3
    |_=>trivial
  |_=>exact PW.elim
structure XB(B B':jW):Prop where
 rd:∀ b ty o,B.rd b ty o=true->B'.rd b ty o=true
 sh:∀ ty o,B.sh ty o=true->B'.sh ty o=true
 bot:B'.bot<=B.bot
structure sB where
 B0:jW
 h0:B0.bot=0
 Zw:aQ->Nat->Bool
 sh:aQ->Nat->Bool
 h1:∀ b ty o,Zw ty o=true->B0.rd b ty o=true
 h2:∀ ty o,sh ty o=true->B0.sh ty o=true
def Gh.blk(σ:Gh)(b:Nat):Bool:=(List.range σ.n).any λi=>match σ.aT i with|none=>false|some s=>s.mem.any λp=>p.1.block==b
def sB.bw(X:sB)(σ:Gh):jW:=⟨λb ty o=>X.Zw ty o&&σ.blk b,X.sh,σ.bot⟩
theorem Gh.P5{σ:Gh}(hn:∀ i s,σ.aT i=some s->i<σ.n){b:Nat}:σ.blk b=true↔∃ i s p,σ.aT i=some s/\p∈s.mem/\p.1.block=b:=by
 unfold Gh.blk;rw[m6];constructor
 ·rintro⟨i,_,h⟩;cases e:σ.aT i with
  |none=>rw[e]at h;cases h
  |some s=>
   rw[e]at h;obtain⟨p,hp,hb⟩:=m6.1 h;exact⟨i,s,p,e,hp,by simpa using hb⟩
 ·rintro⟨i,s,p,e,hp,hb⟩;refine⟨i,m7.2 (hn i s e),?_⟩;rw[e];exact m6.2 ⟨p,hp,by simpa using hb⟩
def sB.rd(X:sB)(i:Nat):Nat->aQ->Nat->Bool:=if i=0 then X.B0.rd else λ_ ty o=>X.Zw ty o
theorem sB.le(X:sB)(σ:Gh):XB (X.bw σ) X.B0:=⟨λb ty o h=>X.h1 b ty o (by unfold sB.bw at h;simp only[lN]at h;exact h.1),X.h2,by rw[X.h0];exact eK _⟩
structure GO(X:sB)(σ:Gh)(H:Array Obj):Prop where
 lt:∀ i s,σ.aT i=some s->i<σ.n
 cl:∀ i s c,σ.aT i=some s->s.has c->c<H.size
 still:∀ i s p,σ.aT i=some s->p∈s.mem->p.1.spot=none/\∃ c ty,H[p.1.block]? =some (.cells c ty (0,0))/\X.rd i p.1.block ty p.1.off=true
 pU:∀ l,σ.sh l->∃ a:Addr,l=.cell a/\∃ c ty,H[a.block]? =some (.cells c ty (0,0))/\X.sh ty a.off=true/\σ.bot<=a.block
 bot:σ.bot<=H.size
theorem GO.zero{X:sB}{σ:Gh}{H:Array Obj}(h:GO X σ H)(h0:σ.aT 0=none):T4 (X.bw σ) σ H:=⟨λi s p e hp=>by
 have hi:i≠0:=λz=>by rw[z,h0]at e;cases e
 obtain⟨h1,c,ty,h2,h3⟩:=h.still i s p e hp;refine⟨h1,c,ty,h2,?_⟩;unfold sB.rd at h3;rw[ao hi]at h3;unfold sB.bw;simp only[lN];exact⟨h3,(Gh.P5 h.lt).2 ⟨i,s,p,e,hp,rfl⟩⟩,h.pU⟩
theorem GO.all{X:sB}{σ:Gh}{H:Array Obj}(h:GO X σ H):T4 X.B0 σ H:=⟨λi s p e hp=>by
 obtain⟨h1,c,ty,h2,h3⟩:=h.still i s p e hp;refine⟨h1,c,ty,h2,?_⟩;unfold sB.rd at h3;split at h3
 ·exact h3
 ·exact X.h1 _ _ _ h3,λl hl=>by
 obtain⟨a,e,c,ty,h1,h2,_⟩:=h.pU l hl;exact⟨a,e,c,ty,h1,X.h2 _ _ h2,by rw[X.h0];exact eK _⟩⟩
theorem GO.P6{B:jW}{X:sB}{σ:Gh}{H H':Array Obj}(h:GO X σ H)(s:fK B H H'):GO X σ H':=
 ⟨h.lt,λi s' c e hc=>LA (h.cl i s' c e hc) s.size,λi s' p e hp=>by
  obtain⟨h1,c,ty,h2,h3⟩:=h.still i s' p e hp;obtain⟨c',h4,_⟩:=s.cells _ _ _ _ h2;exact⟨h1,c',ty,h4,h3⟩,λl hl=>by
  obtain⟨a,rfl,c,ty,h2,h3⟩:=h.pU l hl;obtain⟨c',h4,_⟩:=s.cells _ _ _ _ h2;exact⟨a,rfl,c',ty,h4,h3⟩,Be h.bot s.size⟩
def aC(P:bL)(Post:Value->World->Prop)(X:sB)(σ:Gh)(h:Nat)(os:Os)(out:Array (Nat×ByteArray)):Nat->aP->Array Obj->Prop:=
 λd g H=>σ.aT h=none->GO X σ H->∀ w:World,w.heap=H->w.os=os->w.output=out->vF P Post σ h d g w
section
variable{P:bL}{Post:Value->World->Prop}{X:sB}{σ:Gh}{h:Nat}{os:Os}{out:Array (Nat×ByteArray)}
open Classical in
theorem aC.Ih{B:jW}(hB:σ.aT h=none->∀ H,GO X σ H->T4 B σ H):ab P (h==0) B (aC P Post X σ h os out):=⟨λd g H hs step hole go w hw ho hu=>by
 have gok:=hB hole H go;have key:∀ w₁,Sm w w₁->∃ r:aP×World×Array Event,stepG P (h==0) g w₁=.go r.1 r.2.1 r.2.2/\o7 σ w₁ r.2.1 r.2.2/\vF P Post σ h (deafBehind d r.2.2) r.1 r.2.1:=λw₁ M0=>by have SD:w₁.heap=H:=M0.hp.trans hw;obtain⟨g',w',es,h1,h2,h3,h4,h5,h6⟩:=step w₁ SD;subst SD;exact⟨(g',w',es),h1,MZ gok h4 h5,h6 hole (go.P6 h4) w' rfl (h2.trans (M0.os.trans ho)) (h3.trans (M0.out.trans hu))⟩
 refine vF.own (λw₁=>if q:Sm w w₁ then(Classical.choose (key w₁ q)).1 else g) (λw₁=>if q:Sm w w₁ then(Classical.choose (key w₁ q)).2.1 else w₁) (λw₁=>if q:Sm w w₁ then(Classical.choose (key w₁ q)).2.2 else#[]) hs (λw₁ q=>?_) (λw₁ q=>?_) (λw₁ q=>?_)
 ·simp only[dif_pos q];exact(HD (key w₁ q)).1
 ·simp only[dif_pos q];exact(HD (key w₁ q)).2.1
 ·simp only[dif_pos q];exact(HD (key w₁ q)).2.2⟩
theorem aC.dK:ab P true (X.bw σ) (aC P Post X σ 0 os out):=aC.Ih (h:=0) λh0 H g=>g.zero h0
theorem aC.P7(hh:h≠0):ab P false X.B0 (aC P Post X σ h os out):=by
 have:(h==0)=false:=by simpa using hh
 rw[<- this];exact aC.Ih λ_ H g=>g.all
end
theorem ab.less{P:bL}{ak:Bool}{B B':jW}{R:Nat->aP->Array Obj->Prop}(hb:XB B B')(C:ab P ak B R):ab P ak B' R:=⟨λd g H hs step=>C.step d g H hs λw hw=>by
 obtain⟨g',w',es,h1,h2,h3,h4,h5,h6⟩:=step w hw;refine⟨g',w',es,h1,h2,h3,⟨h4.size,h4.chans,λb c ty fr hc=>?_⟩,λe he=>?_,h6⟩
 ·obtain⟨c',k1,k2⟩:=h4.cells b c ty fr hc;exact⟨c',k1,λj hj=>k2 j (hb.rd _ _ _ hj)⟩
 ·have iS:∀ b ty o,B'.rd b ty o=false->B.rd b ty o=false:=λb ty o z=>by
   cases q:B.rd b ty o with
   |false=>rfl
   |true=>rw[hb.rd _ _ _ q]at z;cases z
  have rJ:∀ ty o,B'.sh ty o=false->B.sh ty o=false:=λty o z=>by
   cases q:B.sh ty o with
   |false=>rfl
   |true=>rw[hb.sh _ _ q]at z;cases z
  have hm:∀ m,j3 B' w'.heap m->j3 B w'.heap m:=λm z=>by
   cases m with
   |release a=>obtain⟨c,ty,k1,k2⟩:=z;exact⟨c,ty,k1,rJ _ _ k2⟩
   |write a=>obtain⟨c,ty,k1,k2⟩:=z;exact⟨c,ty,k1,iS _ _ _ k2⟩
   |_=>exact z
  have:=h5 e he;obtain⟨loc,wr,sy⟩:=e;cases loc with
  |cell a=>obtain⟨k1,c,ty,k2,k3,k4⟩:=this;exact⟨k1,c,ty,k2,λz=>iS _ _ _ (k3 z),λz=>(k4 z).imp (λz=>LA z hb.bot) (rJ _ _)⟩
  |obj r=>exact this
  |mark m=>exact⟨hm m this.1,this.2⟩
  |_=>exact this.elim⟩
end
section
open Go.Conc
class ef(P:bL)(f:bI)(fu:outParam Func)(ex:outParam (Array Value->Sem Value)):Prop where
 func:P.funcs[f]? =some fu
 name:(fu.name== "runtime.NumGoroutine")=false
 body:fu.body.isNone=true
 nx:Extern.findNext fu=none
 fd:Extern.find fu=some ex
variable{P:bL}{ak:Bool}{B:jW}{R:Nat->aP->Array Obj->Prop}{d:Nat}{As aN Bs L F:List HP}
variable{fn:bI}{kd:Kd}{n:Nat}{e:Nat->Value}{ds:List dQ}{k:List Item}{cs:List Frame}
variable{ops:Array Oper}{i:Nat}{aa:List Nat}{dst:Option Nat}{t:Nat}{ty:aQ}{pos:String}{af:Array Edge}{gd:Option (Nat×Bool)}
theorem ab.xt(C:ab P ak B R){f:bI}{fu:Func}{ex:Array Value->Sem Value}[b:ef P f fu ex]{fo:cA}{args:Array cA}{fU:Array aQ}{vl:List Value}
  (h:∀ H,Sat As (hp H)->di P B (ex vl.toArray) H d λv H' d'=>∃ aN,Sat aN (hp H')/\At R d' aN (gr fn kd n (cS e dst v) ds (.inRegion ops aa::k) cs))
  (ho:aZ ops i=some ⟨dst,.call ⟨.value fo,args,fU⟩,ty,pos,af,gd⟩) (hw:aM ops n e gd=true) (hf:ev n e fo=.func (.func f) #[] #[]) (hv:args.toList.map (ev n e)=vl):Nw R d As fn kd n e ds ops i aa k cs:=by
 refine C.gen ho hw λH s=>?_;unfold execOp;simp only;refine ah ?_;have sk:args.map (ev n e)=vl.toArray:=by rw[<- hv,<- pP,sd]
 simp only[resolve,hf,Deferred.ofValue,sk];refine ah ?_;show di P B _ _ _ _;simp only[zf];show di P B (invoke (.fn (.func f) #[]) vl.toArray) H d _;unfold invoke;simp only[vV];unfold callFunc;refine ah ?_;show di P B _ H d _;simp only[program,di];rw[b.func];simp only[b.name,b.body,eM,ij,fB];refine ah ?_;simp only[mark,di,j3,nJ,mo];simp only[b.nx,b.fd];refine ah (n5 (λv H' d' q=>?_) (h H s));obtain⟨aN,s',q⟩:=q;exact aA ⟨aN,s',q⟩
variable{f:bI}{fu:Func}{fo:cA}{args:Array cA}{fU:Array aQ}{a:Addr}{b off:Nat}{c:Array Value}{el:aQ}
theorem ab.P8(C:ab P ak B R)[x:ef P f fu (λ_=>do mark .disable;pure Extern.Race.none_)]{vl:List Value}(ho:aZ ops i=some ⟨dst,.call ⟨.value fo,args,fU⟩,ty,pos,af,gd⟩)(h:At R (d+1) As (gr fn kd n (cS e dst (.tuple #[])) ds (.inRegion ops aa::k) cs))
  (hw:aM ops n e gd=true:=by rfl) (hf:ev n e fo=.func (.func f) #[] #[]:=by rfl) (hv:args.toList.map (ev n e)=vl:=by rfl):Nw R d As fn kd n e ds ops i aa k cs:=
 C.xt (f:=f) (vl:=vl) (λH s=>by refine ah ?_;simp only[mark,di,j3,nJ,mo];exact aA ⟨As,s,h⟩) ho hw hf hv
theorem ab.T5(C:ab P ak B R)[x:ef P f fu (λ_=>do mark .enable;pure Extern.Race.none_)]{vl:List Value}(ho:aZ ops i=some ⟨dst,.call ⟨.value fo,args,fU⟩,ty,pos,af,gd⟩)(h:At R (d-1) As (gr fn kd n (cS e dst (.tuple #[])) ds (.inRegion ops aa::k) cs))
  (hw:aM ops n e gd=true:=by rfl) (hf:ev n e fo=.func (.func f) #[] #[]:=by rfl) (hv:args.toList.map (ev n e)=vl:=by rfl):Nw R d As fn kd n e ds ops i aa k cs:=
 C.xt (f:=f) (vl:=vl) (λH s=>by refine ah ?_;simp only[mark,di,j3,nJ,mo];exact aA ⟨As,s,h⟩) ho hw hf hv
theorem ab.Zx(C:ab P ak B R){mk:Addr->Mark}[x:ef P f fu (Extern.Race.marked mk)]{aS:List Value}(ho:aZ ops i=some ⟨dst,.call ⟨.value fo,args,fU⟩,ty,pos,af,gd⟩)(h:At R d As (gr fn kd n (cS e dst (.tuple #[])) ds (.inRegion ops aa::k) cs))
  (hm:∀ H,Sat As (hp H)->j3 B H (mk a)) (hd:nJ (mk a) d=d:=by rfl) (hw:aM ops n e gd=true:=by rfl) (hf:ev n e fo=.func (.func f) #[] #[]:=by rfl) (hv:args.toList.map (ev n e)=.pointer (some a)::aS:=by rfl):Nw R d As fn kd n e ds ops i aa k cs:=
 C.xt (f:=f) (vl:=.pointer (some a)::aS) (λH s=>by unfold Extern.Race.marked;refine ah (aA ?_);refine ah ?_;refine⟨hm H s,?_⟩;rw[hd];exact aA ⟨As,s,h⟩) ho hw hf hv
variable{kk:IntKind}{z y z':Int}
theorem xI{H:Array Obj}{Q:Value->Array Obj->Nat->Prop}(h1:hp H b=some (.cells c el (0,0)))(h3:c[off]? =some (.int kk z))(q:Q (.int kk z) H d):di P B (Extern.Atomic.read (.int kk) ⟨b,off,none⟩) H d Q:=by unfold Extern.Atomic.read;refine ah (tQ h1 rfl h3 (λh=>by cases h) ?_);simp only[eM];exact aA q
theorem ab.xLd(C:ab P ak B R)[x:ef P f fu (Extern.Atomic.loadT (.int kk))](ho:aZ ops i=some ⟨dst,.call ⟨.value fo,args,fU⟩,ty,pos,af,gd⟩)(h:At R d As (gr fn kd n (cS e dst (.int kk z)) ds (.inRegion ops aa::k) cs))
  (hh:Kn As b (.cells c el (0,0)):=by apply Has.kn;(repeat(first|with_reducible exact Has.head|with_reducible apply Has.tail));done) (hc:c[off]? =some (.int kk z):=by rfl) (hw:aM ops n e gd=true:=by rfl) (hf:ev n e fo=.func (.func f) #[] #[]:=by rfl) (hv:args.toList.map (ev n e)=[.pointer (some ⟨b,off,none⟩)]:=by rfl):Nw R d As fn kd n e ds ops i aa k cs:=
 C.xt (f:=f) (vl:=[.pointer (some ⟨b,off,none⟩)]) (λH s=>by show di P B (Extern.Atomic.loadT (.int kk) #[.pointer (some ⟨b,off,none⟩)]) H d _;unfold Extern.Atomic.loadT;refine ah (aA ?_);exact xI (hh _ s) hc ⟨As,s,h⟩) ho hw hf hv
theorem oO{H:Array Obj}{Q:Option (Addr×aQ)->Array Obj->Nat->Prop}(h1:hp H b=some (.cells c el (0,0)))(q:Q none H d):di P B (viewAt b) H d Q:=by unfold viewAt;refine ah ?_;have Jo:H[b]? =some (.cells c el (0,0)):=h1;simp only[shape,di,ss,Jo];exact q
theorem Dy{H:Array Obj}{Q:Bool->Array Obj->Nat->Prop}(h1:hp H b=some (.cells c el (0,0)))(q:Q false H d):di P B (Extern.Atomic.touchesFrozen ⟨b,off,none⟩) H d Q:=by unfold Extern.Atomic.touchesFrozen;refine ah (oO h1 ?_);have Jo:H[b]? =some (.cells c el (0,0)):=h1;simp only[frozen,di,wH,Jo];simpa using q
theorem ab.XC(C:ab P ak B R)[x:ef P f fu (Extern.Atomic.casT (.int kk))](ho:aZ ops i=some ⟨dst,.call ⟨.value fo,args,fU⟩,ty,pos,af,gd⟩)(h:At R d aN (gr fn kd n (cS e dst (.bool true)) ds (.inRegion ops aa::k) cs))
  (hv:args.toList.map (ev n e)=[.pointer (some ⟨b,off,none⟩),.int kk z,.int kk y]:=by rfl) {c':Array Value} (hu:p8 b (.cells c el (0,0)) (.cells c' el (0,0)) As aN:=by repeat(first|with_reducible exact p8.head|with_reducible apply p8.tail)) (hc:c[off]? =some (.int kk z):=by rfl) (o5:c.setIfInBounds off (.int kk y)=c':=by first|(simp only[mj,Nat.reduceAdd,wZ,vX,uT];done)|(simp only[mj,Nat.reduceAdd,wZ,vX,uT];rfl)|rfl)
  (hr:B.rd b el off=false:=by rfl) (hw:aM ops n e gd=true:=by rfl) (hf:ev n e fo=.func (.func f) #[] #[]:=by rfl):Nw R d As fn kd n e ds ops i aa k cs:=
 C.xt (f:=f) (vl:=[.pointer (some ⟨b,off,none⟩),.int kk z,.int kk y]) (λH s=>by subst o5;have hh:=hu.has.get s;show di P B (Extern.Atomic.casT (.int kk) #[.pointer (some ⟨b,off,none⟩),.int kk z,.int kk y]) H d _;unfold Extern.Atomic.casT;refine ah (aA ?_);refine ah (Dy hh ?_);simp only[ij,fB];refine ah (xI hh hc ?_);refine ah (aA ?_);simp only[beq_self_eq_true,eM];refine ah ?_;show di P B (store _ _ _) H d _;refine⟨rfl,c,el,hh,rfl,(gJ.1 hc).1,hr,λz=>(by cases z),?_⟩;exact aA ⟨aN,hu.set s,h⟩) ho hw hf hv
theorem ab.XD(C:ab P ak B R)[x:ef P f fu (Extern.Atomic.update (Op.intArith .add) kk true)](ho:aZ ops i=some ⟨dst,.call ⟨.value fo,args,fU⟩,ty,pos,af,gd⟩)(h:At R d aN (gr fn kd n (cS e dst (.int kk z')) ds (.inRegion ops aa::k) cs))
  (hv:args.toList.map (ev n e)=[.pointer (some ⟨b,off,none⟩),.int kk y]:=by rfl) {c':Array Value} (hu:p8 b (.cells c el (0,0)) (.cells c' el (0,0)) As aN:=by repeat(first|with_reducible exact p8.head|with_reducible apply p8.tail)) (hc:c[off]? =some (.int kk z):=by rfl) (hz:kk.wrap (z+y)=z':=by rfl) (o5:c.setIfInBounds off (.int kk z')=c':=by first|(simp only[mj,Nat.reduceAdd,wZ,vX,uT];done)|(simp only[mj,Nat.reduceAdd,wZ,vX,uT];rfl)|rfl)
  (hr:B.rd b el off=false:=by rfl) (hw:aM ops n e gd=true:=by rfl) (hf:ev n e fo=.func (.func f) #[] #[]:=by rfl):Nw R d As fn kd n e ds ops i aa k cs:=
 C.xt (f:=f) (vl:=[.pointer (some ⟨b,off,none⟩),.int kk y]) (λH s=>by subst o5 hz;have hh:=hu.has.get s;show di P B (Extern.Atomic.update (Op.intArith .add) kk true #[.pointer (some ⟨b,off,none⟩),.int kk y]) H d _;unfold Extern.Atomic.update;refine ah (aA ?_);refine ah (xI hh hc ?_);refine ah (aA ?_);refine ah (aA ?_);refine ah (aA ?_);refine ah ?_;show di P B (store _ _ _) H d _;refine⟨rfl,c,el,hh,rfl,(gJ.1 hc).1,hr,λz=>(by cases z),?_⟩;exact aA ⟨aN,hu.set s,h⟩) ho hw hf hv
class Up(P:bL)(t:aQ):Prop where
 h:P.underlying t=some .unsafePointer
theorem ab.P9(C:ab P ak B R){s1 s2 t1:aQ}{z:Nat}{x:cA}{t':Nat}[c1:Pt P s1 t1][c2:Up P s2][c3:Cz P t1 z](ho:aZ ops i=some ⟨some t',.convert s1 s2 x,ty,pos,af,gd⟩)(h:At R d As (gr fn kd n (put e t' (.pointer (some ⟨b,off,none⟩))) ds (.inRegion ops aa::k) cs))
  (hz:z≠0:=by decide) (hx:ev n e x=.pointer (some ⟨b,off,none⟩):=by rfl) (hh:Kn As b (.cells c el (0,0)):=by apply Has.kn;(repeat(first|with_reducible exact Has.head|with_reducible apply Has.tail));done) (hl:off<c.size:=by first|decide|(simp;done)) (hw:aM ops n e gd=true:=by rfl):Nw R d As fn kd n e ds ops i aa k cs:=
 C.gen ho hw λH s=>by
  have hh:=hh _ s;have hH:H[b]? =some (.cells c el (0,0)):=hh;unfold execOp;simp only[hx];refine ah ?_;unfold convert;refine ah (dz c1.h B H d _ (ah (dz c2.h B H d _ ?_)));show di P B (Conv.unsafePointer s1 s2 (.pointer (some ⟨b,off,none⟩))) H d _;unfold Conv.unsafePointer;refine ah (dz c1.h B H d _ (ah (dz c2.h B H d _ ?_)));simp only;refine ah ?_;unfold Conv.seenAt;refine ah (oO hh ?_);refine aA ?_;refine ah ?_;unfold cellsIn;refine ah ?_;simp only[shape,di,ss,hH];refine aA ?_;refine ah (gW B H d _ ?_);have e1:¬ (decide (off>=c.size)&&(none:Option Nat).isNone)=true:=by simp;omega
  simp only[e1,Bool.or_false,ij,fB];rw[ao (by simp[hz,hl])];exact aA (aA ⟨As,s,h⟩)
end
end Go.Sl
