/-
  Texts that the proof needs, joined: part 2.
-/
import Derived.Test.YtjomdboiibakiabGreatDoorSeA
import Derived.Laws.BitsLemmas
import Derived.Laws.Append
import Derived.Orders
set_option linter.unusedSimpArgs false
set_option linter.unusedVariables false
set_option maxHeartbeats 4000000
namespace Go.Sl
open Go.Proofs.Tryz
section
open Go.Conc
class Cz(P:bL)(t:aO)(z:outParam Nat):Prop where
 h:∃ i,P.info? t=some i/\i.size=z
class Bz(P:bL)(t:aO)(z:outParam Nat):Prop where
 h:∃ i,P.info? t=some i/\i.bytes=z
class Zv(P:bL)(t:aO)(v:outParam Value):Prop where
 h:∃ i,P.info? t=some i/\i.zero=some v
def aeo:TypeDesc->Bool|.struct _=>true|.array _ _=>true|_=>false
class Ag(P:bL)(t:aO)(b:outParam Bool):Prop where
 h:∃ u,P.underlying t=some u/\aeo u=b
class Fl(P:bL)(s f:Nat)(off:outParam Nat):Prop where
 h:∃ fs fl z,P.underlying s=some (.struct fs)/\fs[f]? =some fl/\fl.offset=off/\(∃ i,P.info? fl.type=some i/\i.size=z)/\z≠0
class El(P:bL)(t:aO)(el:outParam aO):Prop where
 h:P.underlying t=some (.slice el)
class Mp(P:bL)(t:aO)(key el:outParam aO):Prop where
 h:P.underlying t=some (.map key el)
class Ik(P:bL)(t:aO)(k:outParam IntKind):Prop where
 h:P.underlying t=some (.int k)
class Pt(P:bL)(t:aO)(el:outParam aO):Prop where
 h:P.underlying t=some (.pointer el)
def Wv:TypeDesc->Bool|.interface _=>true|_=>false
class NI(P:bL)(t:aO):Prop where
 h:∃ u,P.underlying t=some u/\Wv u=false
theorem aC{P:bL}{t:aO}{i:TypeInfo}(h:P.types[t]? =some i):P.info? t=some i:=by have:=(gV.1 h).1;show(if t<P.types.size then P.types[t]? else _)=_;rw[aG this,h]
variable{P:bL}{B:kJ}{α β:Type}{H:Array Obj}{d:Nat}
theorem aA{a:α}{Q:α->Array Obj->Nat->Prop}(h:Q a H d):dJ P B (pure a) H d Q:=h
theorem iN{t:aO}{i:TypeInfo}(h:P.info? t=some i):Pu P (typeInfo t) i:=λB H d Q q=>by unfold typeInfo;refine ae ?_;show dJ P B _ _ _ _;simp only[program,dJ,h];exact q
theorem dF{t:aO}{u:TypeDesc}(h:P.underlying t=some u):Pu P (underlying t) u:=λB H d Q q=>by unfold underlying;refine ae ?_;show dJ P B _ _ _ _;simp only[program,dJ,h];exact q
theorem iy{t:aO}{z:Nat}[c:Cz P t z]:Pu P (sizeOf t) z:=λB H d Q q=>by obtain⟨i,h,rfl⟩:=c.h;unfold sizeOf;exact ae (iN h B H d _ q)
theorem nZ{t:aO}{v:Value}[c:Zv P t v]:Pu P (zeroValue t) v:=λB H d Q q=>by obtain⟨i,h,hz⟩:=c.h;unfold zeroValue;refine ae (iN h B H d _ ?_);rw[hz];exact q
theorem yW{t:aO}{b:Bool}[c:Ag P t b]:Pu P (isAgg t) b:=λB H d Q q=>by obtain⟨u,h,hb⟩:=c.h;unfold isAgg;refine ae (dF h B H d _ ?_);subst hb;cases u<;>exact q
theorem uS{m:Mode}{a:Addr}{c:Array Value}{ty:aO}{fr:Nat×Nat}{v:Value}{Q:Value->Array Obj->Nat->Prop}(h1:hp H a.block=some (.cells c ty fr))(h2:a.spot=none)(h3:c[a.off]? =some v)(h4:m=.plain->B.sh ty a.off=false)(h:Q v H d):dJ P B (load a m) H d Q:=
 ⟨c,ty,v,⟨fr,h1⟩,h2,h3,λe=>.inr (h4 e),h⟩
theorem BC{m:Mode}{a:Addr}{c:Array Value}{ty:aO}{fr:Nat×Nat}{v:Value}{Q:Value->Array Obj->Nat->Prop}(h1:hp H a.block=some (.cells c ty fr))(h2:a.spot=none)(h3:c[a.off]? =some v)(h4:a.block<B.bot)(h:Q v H d):dJ P B (load a m) H d Q:=
 ⟨c,ty,v,⟨fr,h1⟩,h2,h3,λ_=>.inl h4,h⟩
theorem add_zero(a:Addr):a.add 0=a:=by simp[Addr.add]
theorem gY(b off n:Nat):(⟨b,off,none⟩:Addr).add n=⟨b,off+n,none⟩:=by
 unfold Addr.add;split
 ·rename_i h;subst h;rfl
 ·rfl
theorem n0{b off:Nat}{c:Array Value}{ty:aO}{fr:Nat×Nat}(h1:hp H b=some (.cells c ty fr)):∀ (z i:Nat) (acc:Array Value) {Q:Array Value->Array Obj->Nat->Prop},off+i+z<=c.size->(∀ j,B.sh ty j=false)->Q (acc++c.extract (off+i) (off+i+z)) H d->dJ P B (loadCellsFrom ⟨b,off,none⟩ i z acc) H d Q
 |0,i,acc,Q,_,_,q=>by
  unfold loadCellsFrom;refine aA ?_;have:c.extract (off+i) (off+i+0)=#[]:=by simp;omega
  rw[this,xC]at q;exact q
 |z+1,i,acc,Q,hz,hs,q=>by
  unfold loadCellsFrom;refine ae ?_;have du:off+i<c.size:=ai;refine uS (c:=c) (ty:=ty) (v:=c[off+i]) (by rw[gY];exact h1) (by rw[gY]) (by rw[gY];exact Ee du) (λ_=>hs _) ?_;refine n0 h1 z (i+1) _ ai hs ?_;have:acc.push c[off+i]++c.extract (off+(i+1)) (off+(i+1)+z)=acc++c.extract (off+i) (off+i+(z+1)):=by
   apply sJ;intro j;simp only[V1,Ld,NQ,V2];by_cases h1:j<acc.size
   ·simp[h1,Nat.lt_succ_of_lt h1,uE h1]
   ·by_cases h2:j=acc.size
    ·subst h2;simp;omega
    ·have:¬ j<acc.size+1:=ai;simp only[this,h1,eR,h2];have e1:off+(i+1)+(j-(acc.size+1))=off+i+(j-acc.size):=ai;rw[e1]
     congr 1
     simp only[eq_iff_iff];omega
  rw[this];exact q
theorem tc{b off z:Nat}{c:Array Value}{ty:aO}{fr:Nat×Nat}{Q:Array Value->Array Obj->Nat->Prop}(h1:hp H b=some (.cells c ty fr))(hz:off+z<=c.size)(hs:∀ j,B.sh ty j=false)(q:Q (c.extract off (off+z)) H d):dJ P B (loadCells ⟨b,off,none⟩ z) H d Q:=by unfold loadCells;refine n0 (off:=off) h1 z 0 #[] ai hs ?_;simpa using q
theorem iT{t:aO}[Ag P t false]{b off:Nat}{c:Array Value}{ty:aO}{fr:Nat×Nat}{v:Value}{Q:Value->Array Obj->Nat->Prop}(h1:hp H b=some (.cells c ty fr))(h3:c[off]? =some v)(h4:B.sh ty off=false)(h:Q v H d):dJ P B (loadVar t ⟨b,off,none⟩) H d Q:=by unfold loadVar;exact ae (yW B H d _ (uS h1 rfl h3 (λ_=>h4) h))
theorem C8{t:aO}[Ag P t false]{b off:Nat}{c:Array Value}{ty:aO}{fr:Nat×Nat}{v:Value}{Q:Value->Array Obj->Nat->Prop}(h1:hp H b=some (.cells c ty fr))(h3:c[off]? =some v)(h4:b<B.bot)(h:Q v H d):dJ P B (loadVar t ⟨b,off,none⟩) H d Q:=by unfold loadVar;exact ae (yW B H d _ (BC h1 rfl h3 h4 h))
theorem pY{t:aO}{z:Nat}[Ag P t true][Cz P t z]{b off:Nat}{c:Array Value}{ty:aO}{fr:Nat×Nat}{Q:Value->Array Obj->Nat->Prop}(h1:hp H b=some (.cells c ty fr))(hz:off+z<=c.size)(hs:∀ j,B.sh ty j=false)(h:Q (.agg (c.extract off (off+z))) H d):dJ P B (loadVar t ⟨b,off,none⟩) H d Q:=by unfold loadVar;refine ae (yW B H d _ ?_);simp only[eN];exact ae (iy B H d _ (ae (tc h1 hz hs h)))
def wr(c:Array Value)(off:Nat):List Value->Array Value
 |[]=>c
 |v::l=>wr (c.setIfInBounds off v) (off+1) l
theorem yf:∀ (l:List Value) (c:Array Value) (off:Nat),(wr c off l).size=c.size
 |[],c,off=>rfl
 |v::l,c,off=>by unfold wr;rw[yf l];simp
theorem Ww{b:Nat}{o o':Obj}(h:hp H b=some o):hp (H.setIfInBounds b o') b=some o':=by unfold hp at h⊢;exact j7 (gV.1 h).1
theorem Lw{b:Nat}{o o':Obj}:(H.setIfInBounds b o).setIfInBounds b o'=H.setIfInBounds b o':=by
 apply sJ;intro i;simp only[ZU];by_cases h:b=i
 ·subst h;simp
 ·simp[h]
theorem OX{b:Nat}{o:Obj}(h:hp H b=some o):H.setIfInBounds b o=H:=by
 apply sJ;intro i;simp only[ZU];by_cases z:b=i
 ·subst z;unfold hp at h;have:=(gV.1 h).1;rw[aG rfl,aG this,h]
 ·simp[z]
theorem kP{b off:Nat}{ty:aO}:∀ (l:List Value) (i:Nat) {H:Array Obj} {c:Array Value} {Q:Unit->Array Obj->Nat->Prop},hp H b=some (.cells c ty (0,0))->off+i+l.length<=c.size->(∀ v∈l,fZ v=true)->(∀ j,off+i<=j->j<off+i+l.length->B.rd b ty j=false/\B.sh ty j=false)->
  Q () (H.setIfInBounds b (.cells (wr c (off+i) l) ty (0,0))) d->dJ P B (storeCells ⟨b,off,none⟩ l i) H d Q
 |[],i,H,c,Q,h1,_,_,_,q=>by unfold storeCells;refine aA ?_;have:H.setIfInBounds b (.cells (wr c (off+i) []) ty (0,0))=H:=OX h1;rw[this]at q;exact q
 |v::l,i,H,c,Q,h1,hz,hv,hb,q=>by unfold storeCells;refine ae ?_;simp only[jC]at hz hb;have Az:=hb (off+i) (e8 _) ai;rw[gY];refine⟨hv v (fY ..),c,ty,h1,rfl,by simp;omega,Az.1,λ_=>Az.2,?_⟩;refine kP (off:=off) l (i+1) (Ww h1) (by simp;omega) (λv qK=>hv v (fp _ qK)) (λj h1 h2=>hb j ai ai) ?_;rw[Lw];exact q
theorem pZ{t:aO}{z:Nat}[Cz P t z]{b off:Nat}{c:Array Value}{ty:aO}{v:Value}{Q:Unit->Array Obj->Nat->Prop}(h1:hp H b=some (.cells c ty (0,0)))(hsz:v.cells.size=z)(hz:off+z<=c.size)(hv:∀ x∈v.cells,fZ x=true)
  (hb:∀ j,off<=j->j<off+z->B.rd b ty j=false/\B.sh ty j=false) (q:Q () (H.setIfInBounds b (.cells (wr c off v.cells.toList) ty (0,0))) d):dJ P B (storeVar t ⟨b,off,none⟩ v) H d Q:=by
 unfold storeVar;refine ae (iy B H d _ ?_);rw[ax (by rw[hsz];simp)];refine kP (off:=off) v.cells.toList 0 h1 (by simp[hsz];omega) (λx hx=>hv x (CP.1 hx)) (λj h2 h3=>hb j ai (by simp[hsz]at h3;omega)) q
variable{ao:Bool}{R:Nat->aM->Array Obj->Prop}{As aP:List HP}
variable{fn:bJ}{kd:Kd}{n:Nat}{e:Nat->Value}{ds:List eo}{k:List Item}{cs:List Frame}
variable{ops:Array Oper}{i:Nat}{aa:List Nat}{dst:Option Nat}{t:Nat}{ty:aO}{pos:String}{af:Array Edge}{gd:Option (Nat×Bool)}{x y:cZ}{v:Value}{u:Array Value}{b off:Nat}{c:Array Value}{el tt:aO}
theorem ab.mv(C:ab P ao B R)(ho:aZ ops i=some ⟨some t,.move x,ty,pos,af,gd⟩)(h:At R d As (gr fn kd n (put e t v) ds (.inRegion ops aa::k) cs))
  (hx:ev n e x=v:=by conv=>{lhs;whnf}) (hw:aL ops n e gd=true:=by rfl):At R d As (gr fn kd n e ds (.inRegion ops (i::aa)::k) cs):=
 C.val ho hw (λ_ _ _ _ q=>by unfold execOp;simp only[hx];exact q) h
theorem ab.oR(C:ab P ao B R)(ho:aZ ops i=some ⟨some t,.assign x,ty,pos,af,gd⟩)(h:At R d As (gr fn kd n (put e t v) ds (.inRegion ops aa::k) cs))
  (hx:ev n e x=v:=by conv=>{lhs;whnf}) (hw:aL ops n e gd=true:=by rfl):At R d As (gr fn kd n e ds (.inRegion ops (i::aa)::k) cs):=
 C.val ho hw (λ_ _ _ _ q=>by unfold execOp;simp only[hx];exact q) h
theorem ab.nc(C:ab P ao B R){a:Addr}(ho:aZ ops i=some ⟨some t,.nilCheck x,ty,pos,af,gd⟩)(h:At R d As (gr fn kd n (put e t (.pointer (some a))) ds (.inRegion ops aa::k) cs))
  (hx:ev n e x=.pointer (some a):=by rfl) (hw:aL ops n e gd=true:=by rfl):At R d As (gr fn kd n e ds (.inRegion ops (i::aa)::k) cs):=
 C.val ho hw (λ_ _ _ _ q=>by unfold execOp;simp only[hx];exact q) h
theorem ab.fa(C:ab P ao B R){s f o:Nat}[c:Fl P s f o](ho:aZ ops i=some ⟨some t,.fieldAddr s x f,ty,pos,af,gd⟩)(h:At R d As (gr fn kd n (put e t (.pointer (some ⟨b,off+o,none⟩))) ds (.inRegion ops aa::k) cs))
  (hx:ev n e x=.pointer (some ⟨b,off,none⟩):=by rfl) (hw:aL ops n e gd=true:=by rfl):At R d As (gr fn kd n e ds (.inRegion ops (i::aa)::k) cs):=
 C.val ho hw (λB H d Q q=>by obtain⟨fs,fl,z,h1,h2,rfl,⟨inf,h4,h5⟩,h6⟩:=c.h;unfold execOp;simp only[hx,Instr.fieldAt];refine ae (ae (dF h1 B H d _ ?_));simp only[h2,Instr.sureAddr];refine ae (aA ?_);unfold fieldPlace sizeOf;refine ae (ae (ae (iN h4 B H d _ (aA ?_))));rw[h5,ax h6,gY];exact q) h
theorem ab.ld(C:ab P ao B R)[Ag P tt false](ho:aZ ops i=some ⟨some t,.load tt x,ty,pos,af,gd⟩)(h:At R d As (gr fn kd n (put e t v) ds (.inRegion ops aa::k) cs))
  (hx:ev n e x=.pointer (some ⟨b,off,none⟩):=by rfl) (hh:Kn As b (.cells c el (0,0)):=by first|(apply Has.kn;(repeat(first|with_reducible exact Has.head|with_reducible apply Has.tail));done)|(apply Ext.kn;assumption;(repeat(first|with_reducible exact Has.head|with_reducible apply Has.tail));done)) {v0:Value} (hc:c[off]? =some v0:=by rfl) (oS:v0=v:=by first|((conv=>{lhs;whnf});done)|rfl) (hs:B.sh el off=false:=by rfl) (hw:aL ops n e gd=true:=by rfl):At R d As (gr fn kd n e ds (.inRegion ops (i::aa)::k) cs):=
 C.gen ho hw λH s=>by unfold execOp;simp only[hx,Instr.loadAt,Instr.sureAddr];exact ae (ae (aA (iT (hh _ s) (oS▸hc) hs ⟨As,s,h⟩)))
theorem ab.Zl(C:ab P ao B R){z:Nat}[Ag P tt true][Cz P tt z](ho:aZ ops i=some ⟨some t,.load tt x,ty,pos,af,gd⟩)(h:At R d As (gr fn kd n (put e t (.agg u)) ds (.inRegion ops aa::k) cs))
  (hx:ev n e x=.pointer (some ⟨b,off,none⟩):=by rfl) (hh:Kn As b (.cells c el (0,0)):=by first|(apply Has.kn;(repeat(first|with_reducible exact Has.head|with_reducible apply Has.tail));done)|(apply Ext.kn;assumption;(repeat(first|with_reducible exact Has.head|with_reducible apply Has.tail));done)) (hz:off+z<=c.size:=by first|decide|(simp only[l5,Nat.reduceAdd,Se,jC,CR];decide)) (hc:c.extract off (off+z)=u:=by first|(simp only[l5,Nat.reduceAdd,Sf,Sg,NS,List.drop_succ_cons,List.take_succ_cons,V3,Nat.sub_zero,Nat.reduceSub];done)|(simp only[l5,Nat.reduceAdd,Sf,Sg,NS,List.drop_succ_cons,List.take_succ_cons,V3,Nat.sub_zero,Nat.reduceSub];rfl)|rfl) (hs:∀ j,B.sh el j=false:=by intro j;rfl) (hw:aL ops n e gd=true:=by rfl):At R d As (gr fn kd n e ds (.inRegion ops (i::aa)::k) cs):=
 C.gen ho hw λH s=>by unfold execOp;simp only[hx,Instr.loadAt,Instr.sureAddr];exact ae (ae (aA (pY (hh _ s) hz hs ⟨As,s,hc▸h⟩)))
theorem ab.st(C:ab P ao B R)[Cz P tt 1](ho:aZ ops i=some ⟨none,.store tt x y,ty,pos,af,gd⟩)(h:At R d aP (gr fn kd n e ds (.inRegion ops aa::k) cs))
  (hx:ev n e x=.pointer (some ⟨b,off,none⟩):=by rfl) (hy:ev n e y=v:=by conv=>{lhs;whnf}) (hv:fZ v=true:=by rfl)
  {c':Array Value} (hu:rj b (.cells c el (0,0)) (.cells c' el (0,0)) As aP:=by repeat(first|with_reducible exact rj.head|with_reducible apply rj.tail)) (lF:c.setIfInBounds off v=c':=by first|(simp only[l5,Nat.reduceAdd,yx,xE,sK];done)|(simp only[l5,Nat.reduceAdd,yx,xE,sK];rfl)|rfl) (hz:off<c.size:=by first|decide|(simp only[l5,Nat.reduceAdd,Se,jC,CR];decide)) (hr:B.rd b el off=false:=by rfl) (hs:B.sh el off=false:=by rfl) (hw:aL ops n e gd=true:=by rfl):At R d As (gr fn kd n e ds (.inRegion ops (i::aa)::k) cs):=
 C.gen ho hw λH s=>by
  subst lF;have Ht:v.cells=#[v]:=by cases v<;>first|rfl|(simp[fZ]at hv)
  unfold execOp;simp only[hx,hy,Instr.storeAt,Instr.sureAddr];refine ae (ae (aA (pZ (hu.has.get s) (by rw[Ht];rfl) hz (λz OY=>by rw[Ht]at OY;simp at OY;subst OY;exact hv) (λj h1 h2=>by have:j=off:=ai;subst this;exact⟨hr,hs⟩) ?_)))
  refine⟨aP,?_,h⟩;rw[Ht];exact hu.set s
theorem ab.tL(C:ab P ao B R){z:Nat}[Cz P tt z]{xs:Array Value}(ho:aZ ops i=some ⟨none,.store tt x y,ty,pos,af,gd⟩)(h:At R d aP (gr fn kd n e ds (.inRegion ops aa::k) cs))
  (hx:ev n e x=.pointer (some ⟨b,off,none⟩):=by rfl) (hy:ev n e y=.agg xs:=by rfl) (hv:∀ v∈xs.toList,fZ v=true:=by simp[fZ]) (Wx:xs.size=z:=by rfl)
  {c':Array Value} (hu:rj b (.cells c el (0,0)) (.cells c' el (0,0)) As aP:=by repeat(first|with_reducible exact rj.head|with_reducible apply rj.tail)) (lF:wr c off xs.toList=c':=by first|(simp only[l5,Nat.reduceAdd,yx,xE,sK,wr,Si];done)|(simp only[l5,Nat.reduceAdd,yx,xE,sK,wr,Si];rfl)|rfl) (hz:off+z<=c.size:=by first|decide|(simp only[l5,Nat.reduceAdd,Se,jC,CR];decide)) (hr:∀ j,B.rd b el j=false:=by intro j;rfl) (hs:∀ j,B.sh el j=false:=by intro j;rfl) (hw:aL ops n e gd=true:=by rfl):At R d As (gr fn kd n e ds (.inRegion ops (i::aa)::k) cs):=
 C.gen ho hw λH s=>by subst lF;unfold execOp;simp only[hx,hy,Instr.storeAt,Instr.sureAddr];exact ae (ae (aA (pZ (v:=.agg xs) (hu.has.get s) Wx hz (λz OY=>hv z (CP.2 OY)) (λj h1 h2=>⟨hr j,hs j⟩) ⟨aP,hu.set s,h⟩)))
theorem ab.ia(C:ab P ao B R){z len cap:Nat}{kk:IntKind}{j:Int}{o:Nat}[c:El P tt el][Cz P el z](ho:aZ ops i=some ⟨some t,.indexAddr tt x y,ty,pos,af,gd⟩)(h:At R d As (gr fn kd n (put e t (.pointer (some ⟨b,o,none⟩))) ds (.inRegion ops aa::k) cs))
  (hx:ev n e x=.slice (some ⟨b,off,none⟩) len cap:=by rfl) (hy:ev n e y=.int kk j:=by rfl) (hj:0<=j/\j<len:=by constructor<;>omega) (hoff:off+j.toNat*z=o:=by rfl) (hw:aL ops n e gd=true:=by rfl):At R d As (gr fn kd n e ds (.inRegion ops (i::aa)::k) cs):=
 C.val ho hw (λB H d Q q=>by unfold execOp;simp only[hx,hy,Instr.indexAt,asIntOf];refine ae (ae (aA ?_));refine ae (dF c.h B H d _ ?_);refine ae (aA ?_);refine ae (dF c.h B H d _ ?_);simp only;rw[aG hj];refine ae (iy B H d _ (aA ?_));rw[gY,hoff];exact q) h
theorem uy{r:Int}(h1: -9223372036854775808<=r)(h2:r<=9223372036854775807):IntKind.i64.wrap r=r:=by rw[IntKind.wrap_i64];omega
theorem w32{r:Int}(h1: -2147483648<=r)(h2:r<=2147483647):IntKind.i32.wrap r=r:=by rw[IntKind.wrap_i32];omega
theorem Zm{r:Int}(h1:0<=r)(h2:r<=255):IntKind.u8.wrap r=r:=by rw[IntKind.wrap_u8];omega
variable{z:cZ}{u:Value}{t2:aO}
variable{kk:IntKind}{p q r:Int}
theorem gb{op:BinOp}{k1 k2:IntKind}:Pu P (eqGuard op tt x y (.int k1 p) (.int k2 q)) ():=by cases op<;>exact λ_ _ _ _ h=>h
abbrev Nx(R:Nat->aM->Array Obj->Prop)(d:Nat)(As:List HP)(fn:bJ)(kd:Kd)(n:Nat)(e:Nat->Value)(ds:List eo)(ops:Array Oper)(aa:List Nat)(k:List Item)(cs:List Frame)(t:Nat)(v:Value):Prop:=
 At R d As (gr fn kd n (put e t v) ds (.inRegion ops aa::k) cs)
abbrev Nw(R:Nat->aM->Array Obj->Prop)(d:Nat)(As:List HP)(fn:bJ)(kd:Kd)(n:Nat)(e:Nat->Value)(ds:List eo)(ops:Array Oper)(i:Nat)(aa:List Nat)(k:List Item)(cs:List Frame):Prop:=
 At R d As (gr fn kd n e ds (.inRegion ops (i::aa)::k) cs)
def arith(op:BinOp)(p q:Int):Option Int:=match op with|.add=>some (p+q)|.sub=>some (p-q)|.mul=>some (p*q)|_=>none
theorem OZ{op:BinOp}(h:arith op p q=some r)(hr:kk.wrap r=r):Pu P (binOp op tt (.int kk p) (.int kk q)) (.int kk r):=by
 intro B H d Q q';cases op<;>simp only[arith,wP]at h<;>first|(cases h;done)|skip
 all_goals(subst h;unfold binOp;simp only[ne_eq,Hg,eR,Op.intArith,hr];exact q')
theorem ab.ar(C:ab P ao B R){op:BinOp}(ho:aZ ops i=some ⟨some t,.binOp op tt x y t2,ty,pos,af,gd⟩)(h:Nx R d As fn kd n e ds ops aa k cs t (.int kk r))
  (hx:ev n e x=.int kk p:=by rfl) (hy:ev n e y=.int kk q:=by rfl) (ha:arith op p q=some r:=by rfl) (hr:kk.wrap r=r:=by first|exact uy ai ai|exact w32 ai ai|exact Zm ai ai) (hw:aL ops n e gd=true:=by rfl):Nw R d As fn kd n e ds ops i aa k cs:=
 C.val ho hw (λB H d Q q'=>by unfold execOp;simp only[hx,hy];exact ae (ae (gb B H d _ (OZ ha hr B H d _ q')))) h
theorem ab.arw(C:ab P ao B R){op:BinOp}(ho:aZ ops i=some ⟨some t,.binOp op tt x y t2,ty,pos,af,gd⟩)(h:Nx R d As fn kd n e ds ops aa k cs t (.int kk (kk.wrap r)))
  (hx:ev n e x=.int kk p:=by rfl) (hy:ev n e y=.int kk q:=by rfl) (ha:arith op p q=some r:=by rfl) (hw:aL ops n e gd=true:=by rfl):Nw R d As fn kd n e ds ops i aa k cs:=
 C.val ho hw (λB H d Q q'=>by
  unfold execOp;simp only[hx,hy];refine ae (ae (gb B H d _ ?_));cases op<;>simp only[arith,wP]at ha<;>first|(cases ha;done)|skip
  all_goals(subst ha;unfold binOp;simp only[ne_eq,Hg,eR,Op.intArith];exact q')) h
theorem ab.quo(C:ab P ao B R)(ho:aZ ops i=some ⟨some t,.binOp .quo tt x y t2,ty,pos,af,gd⟩)(h:Nx R d As fn kd n e ds ops aa k cs t (.int kk (p.tdiv q)))
  (hx:ev n e x=.int kk p:=by rfl) (hy:ev n e y=.int kk q:=by rfl) (h0:q≠0:=by first|decide|omega) (hr:kk.wrap (p.tdiv q)=p.tdiv q:=by first|exact uy ai ai) (hw:aL ops n e gd=true:=by rfl):Nw R d As fn kd n e ds ops i aa k cs:=
 C.val ho hw (λB H d Q q'=>by unfold execOp;simp only[hx,hy];refine ae (ae (gb B H d _ ?_));unfold binOp;simp only[ne_eq,Hg,eR,Op.intDiv,ax h0,hr];exact q') h
theorem ab.rem(C:ab P ao B R)(ho:aZ ops i=some ⟨some t,.binOp .rem tt x y t2,ty,pos,af,gd⟩)(h:Nx R d As fn kd n e ds ops aa k cs t (.int kk (p.tmod q)))
  (hx:ev n e x=.int kk p:=by rfl) (hy:ev n e y=.int kk q:=by rfl) (h0:q≠0:=by first|decide|omega) (hw:aL ops n e gd=true:=by rfl):Nw R d As fn kd n e ds ops i aa k cs:=
 C.val ho hw (λB H d Q q'=>by unfold execOp;simp only[hx,hy];refine ae (ae (gb B H d _ ?_));unfold binOp;simp only[ne_eq,Hg,eR,Op.intDiv,ax h0];exact q') h
def EO(op:BinOp)(p q:Int):Option Prop:=match op with|.eql=>some (p=q)|.neq=>some (p≠q)|.lss=>some (p<q)|.leq=>some (p<=q)|.gtr=>some (p>q)|.geq=>some (p>=q)|_=>none
def EP(op:BinOp)(p q:Int):Bool:=match op with|.eql=>p==q|.neq=>p != q|.lss=>p<q|.leq=>p<=q|.gtr=>p>q|.geq=>p>=q|_=>false
theorem J4{op:BinOp}{φ:Prop}(h:EO op p q=some φ):EP op p q=true↔φ:=by cases op<;>simp only[EO,wP]at h<;>first|(cases h;done)|(subst h;simp[EP])
theorem O0{op:BinOp}{φ:Prop}(h:EO op p q=some φ):Pu P (binOp op tt (.int kk p) (.int kk q)) (.bool (EP op p q)):=by
 intro B H d Q q';cases op<;>simp only[EO,wP]at h<;>first|(cases h;done)|skip
 all_goals(unfold binOp;simp only[ne_eq,Hg,eR,Op.intCmp];exact q')
theorem ab.cmp(C:ab P ao B R){op:BinOp}{φ:Prop}(ho:aZ ops i=some ⟨some t,.binOp op tt x y t2,ty,pos,af,gd⟩)(h1:φ->Nx R d As fn kd n e ds ops aa k cs t (.bool true))(h2:¬ φ->Nx R d As fn kd n e ds ops aa k cs t (.bool false))
  (hx:ev n e x=.int kk p:=by rfl) (hy:ev n e y=.int kk q:=by rfl) (hc:EO op p q=some φ:=by rfl) (hw:aL ops n e gd=true:=by rfl):Nw R d As fn kd n e ds ops i aa k cs:=by
 have key:Nx R d As fn kd n e ds ops aa k cs t (.bool (EP op p q)):=by
  cases hb:EP op p q with
  |true=>exact h1 ((J4 hc).1 hb)
  |false=>exact h2 λf=>by rw[(J4 hc).2 f]at hb;cases hb
 exact C.val ho hw (λB H d Q q'=>by unfold execOp;simp only[hx,hy];exact ae (ae (gb B H d _ (O0 hc B H d _ q')))) key
theorem ab.fA(C:ab P ao B R){op:BinOp}{φ:Prop}(ho:aZ ops i=some ⟨some t,.binOp op tt x y t2,ty,pos,af,gd⟩)(h:Nx R d As fn kd n e ds ops aa k cs t (.bool true))
  (hx:ev n e x=.int kk p:=by rfl) (hy:ev n e y=.int kk q:=by rfl) (hc:EO op p q=some φ:=by rfl) (hf:φ:=by first|decide|omega) (hw:aL ops n e gd=true:=by rfl):Nw R d As fn kd n e ds ops i aa k cs:=
 C.cmp ho (λ_=>h) (λf=>absurd hf f) hx hy hc hw
theorem ab.dS(C:ab P ao B R){op:BinOp}{φ:Prop}(ho:aZ ops i=some ⟨some t,.binOp op tt x y t2,ty,pos,af,gd⟩)(h:Nx R d As fn kd n e ds ops aa k cs t (.bool false))
  (hx:ev n e x=.int kk p:=by rfl) (hy:ev n e y=.int kk q:=by rfl) (hc:EO op p q=some φ:=by rfl) (hf:¬ φ:=by first|decide|omega) (hw:aL ops n e gd=true:=by rfl):Nw R d As fn kd n e ds ops i aa k cs:=
 C.cmp ho (λf=>absurd f hf) (λ_=>h) hx hy hc hw
theorem ab.aan(C:ab P ao B R){op:BinOp}{φ:Prop}(ho:aZ ops i=some ⟨some t,.binOp op tt x y t2,ty,pos,af,gd⟩)(h:Nx R d As fn kd n e ds ops aa k cs t (.bool (EP op p q)))
  (hx:ev n e x=.int kk p:=by rfl) (hy:ev n e y=.int kk q:=by rfl) (hc:EO op p q=some φ:=by rfl) (hw:aL ops n e gd=true:=by rfl):Nw R d As fn kd n e ds ops i aa k cs:=
 C.val ho hw (λB H d Q q'=>by unfold execOp;simp only[hx,hy];exact ae (ae (gb B H d _ (O0 hc B H d _ q')))) h
theorem ab.nt(C:ab P ao B R){b:Bool}(ho:aZ ops i=some ⟨some t,.unOp .not tt x,ty,pos,af,gd⟩)(h:Nx R d As fn kd n e ds ops aa k cs t (.bool (!b)))
  (hx:ev n e x=.bool b:=by rfl) (hw:aL ops n e gd=true:=by rfl):Nw R d As fn kd n e ds ops i aa k cs:=
 C.val ho hw (λB H d Q q'=>by unfold execOp;simp only[hx];exact q') h
theorem ab.ngI(C:ab P ao B R)(ho:aZ ops i=some ⟨some t,.unOp .neg tt x,ty,pos,af,gd⟩)(h:Nx R d As fn kd n e ds ops aa k cs t (.int kk r))
  (hx:ev n e x=.int kk p:=by rfl) (hr:kk.wrap (0-p)=r:=by exact uy ai ai) (hw:aL ops n e gd=true:=by rfl):Nw R d As fn kd n e ds ops i aa k cs:=
 C.val ho hw (λB H d Q q'=>by unfold execOp;simp only[hx,Op.unary,Op.intArith,hr];exact q') h
theorem ab.pk(C:ab P ao B R){b:Bool}(ho:aZ ops i=some ⟨some t,.pick x y z,ty,pos,af,gd⟩)(h:Nx R d As fn kd n e ds ops aa k cs t v)
  (hx:ev n e x=.bool b:=by rfl) (hv:(if b then ev n e y else ev n e z)=v:=by conv=>{lhs;whnf}) (hw:aL ops n e gd=true:=by rfl):Nw R d As fn kd n e ds ops i aa k cs:=
 C.val ho hw (λB H d Q q'=>by unfold execOp;simp only[hx,asBool];refine ae (aA ?_);cases b<;>(subst hv;exact q')) h
theorem ab.cv(C:ab P ao B R){k1 k2:IntKind}{s1 s2:aO}[c1:Ik P s1 k1][c2:Ik P s2 k2](ho:aZ ops i=some ⟨some t,.convert s1 s2 x,ty,pos,af,gd⟩)(h:Nx R d As fn kd n e ds ops aa k cs t (.int k2 r))
  (hx:ev n e x=.int k1 p:=by rfl) (hr:k2.wrap p=r:=by first|exact uy ai ai|exact w32 ai ai|exact Zm ai ai) (hw:aL ops n e gd=true:=by rfl):Nw R d As fn kd n e ds ops i aa k cs:=
 C.val ho hw (λB H d Q q'=>by unfold execOp;simp only[hx];refine ae ?_;unfold convert;refine ae (dF c1.h B H d _ (ae (dF c2.h B H d _ ?_)));simp only[Conv.intToInt,hr];exact q') h
theorem ab.ext(C:ab P ao B R){vs:Array Value}{ix:Nat}(ho:aZ ops i=some ⟨some t,.extract x ix,ty,pos,af,gd⟩)(h:Nx R d As fn kd n e ds ops aa k cs t v)
  (hx:ev n e x=.tuple vs:=by rfl) (hv:vs[ix]? =some v:=by rfl) (hw:aL ops n e gd=true:=by rfl):Nw R d As fn kd n e ds ops i aa k cs:=
 C.val ho hw (λB H d Q q'=>by unfold execOp;simp only[hx,Instr.extract,hv];exact q') h
theorem ab.mi(C:ab P ao B R)[c:NI P tt](ho:aZ ops i=some ⟨some t,.makeInterface tt x,ty,pos,af,gd⟩)(h:Nx R d As fn kd n e ds ops aa k cs t (.iface tt v))
  (hx:ev n e x=v:=by conv=>{lhs;whnf}) (hw:aL ops n e gd=true:=by rfl):Nw R d As fn kd n e ds ops i aa k cs:=
 C.val ho hw (λB H d Q q'=>by obtain⟨u,h1,h2⟩:=c.h;unfold execOp;simp only[hx,Instr.makeInterface];refine ae (ae (dF h1 B H d _ ?_));cases u<;>first|exact q'|cases h2) h
theorem ab.mf(C:ab P ao B R){f:Fn}{a1 a2:Array cZ}{v1 v2:List Value}(ho:aZ ops i=some ⟨some t,.makeFunc f a1 a2,ty,pos,af,gd⟩)(h:Nx R d As fn kd n e ds ops aa k cs t (.func f v1.toArray v2.toArray))
  (h1:a1.toList.map (ev n e)=v1:=by rfl) (h2:a2.toList.map (ev n e)=v2:=by rfl) (hw:aL ops n e gd=true:=by rfl):Nw R d As fn kd n e ds ops i aa k cs:=
 C.val ho hw (λB H d Q q'=>by
  have AR:a1.map (ev n e)=v1.toArray:=by rw[<- h1,<- qZ,tC]
  have Nz:a2.map (ev n e)=v2.toArray:=by rw[<- h2,<- qZ,tC]
  unfold execOp;simp only[Instr.makeFunc,AR,Nz];exact q') h
theorem ab.fd(C:ab P ao B R){xs:Array Value}{s f o ft:Nat}(hf:∃ fs fl,P.underlying s=some (.struct fs)/\fs[f]? =some fl/\fl.offset=o/\fl.type=ft)[Ag P ft false](ho:aZ ops i=some ⟨some t,.field s x f,ty,pos,af,gd⟩)(h:Nx R d As fn kd n e ds ops aa k cs t v)
  (hx:ev n e x=.agg xs:=by rfl) (hv:xs[o]? =some v:=by rfl) (hw:aL ops n e gd=true:=by rfl):Nw R d As fn kd n e ds ops i aa k cs:=
 C.val ho hw (λB H d Q q'=>by obtain⟨fs,fl,h1,h2,rfl,rfl⟩:=hf;unfold execOp;simp only[hx,Instr.field];refine ae (ae (dF h1 B H d _ ?_));simp only[h2,asAgg];refine ae (aA ?_);unfold part;refine ae (yW B H d _ ?_);simp only[hv];exact q') h
theorem ab.al(C:ab P ao B R){z:Value}[cz:Zv P tt z](ho:aZ ops i=some ⟨some t,.alloc tt,ty,pos,af,gd⟩)(h:∀ b,Nx R d (da b (.cells c tt (0,0))::As) fn kd n e ds ops aa k cs t (.pointer (some ⟨b,0,none⟩)))
  (hc:z.cells=c:=by first|(simp only[Value.cells];done)|(simp only[Value.cells];rfl)|rfl) (hw:aL ops n e gd=true:=by rfl):Nw R d As fn kd n e ds ops i aa k cs:=
 C.gen ho hw λH s=>by unfold execOp;simp only[Instr.alloc];subst hc;refine ae (ae (nZ B H d _ ?_));exact⟨_,s.push _,h _⟩
theorem ab.bx(C:ab P ao B R)(ho:aZ ops i=some ⟨some t,.box tt x,ty,pos,af,gd⟩)(h:∀ b,Nx R d (da b (.cells c tt (0,0))::As) fn kd n e ds ops aa k cs t (.pointer (some ⟨b,0,none⟩)))
  {v0:Value} (hx0:ev n e x=v0:=by conv=>{lhs;whnf}) (hx:v0.cells=c:=by first|(simp only[Value.cells];done)|(simp only[Value.cells];rfl)|rfl) (hw:aL ops n e gd=true:=by rfl):Nw R d As fn kd n e ds ops i aa k cs:=
 C.gen ho hw λH s=>by unfold execOp;simp only[Instr.box];subst hx0;subst hx;exact⟨_,s.push _,h _⟩
inductive U2(P:bL):List Field->List (Nat×Nat)->Prop
 |nil:U2 P [] []
 |cons {f:Field} {l:List Field} {m:List (Nat×Nat)} {o z:Nat} (ho:f.offset=o) (h:∃ i,P.info? f.type=some i/\i.size=z):U2 P l m->U2 P (f::l) ((o,z)::m)
theorem U2.pu{P:bL}{l:List Field}{m:List (Nat×Nat)}(s:U2 P l m):Pu P (l.mapM λf=>(do pure (f.offset,<- sizeOf f.type):Sem (Nat×Nat))) m:=by
 induction s with
 |nil=>rw[List.mapM_nil];exact Pu.pure _
 |cons ho h _ ih=>
  obtain⟨i,h,rfl⟩:=h;subst ho;rw[V4];refine Pu.bind (a:=(_,_)) (λB H d Q q=>?_) (Pu.bind ih (Pu.pure _));unfold sizeOf;exact ae (ae (iN h B H d _ q))
class Bd(P:bL)(t:aO)(pl:outParam (List (Nat×Nat))):Prop where
 h:∃ fs,P.underlying t=some (.struct fs)/\U2 P fs.toList pl
def flat{α:Type}(f:α->List Value)(l:List α):List Value:=l.flatMap f
variable{f:α->List Value}{z:Nat}
theorem fq(hz:∀ a,(f a).length=z):∀ (l:List α),(flat f l).length=l.length*z
 |[]=>by simp[flat]
 |a::l=>by have:=fq hz l;simp only[flat,Lj,gO,jC]at this⊢;rw[this,hz,qI];omega
theorem ER(hz:∀ a,(f a).length=z):∀ (l:List α) (pad:List Value) (i j:Nat) (hi:i<l.length),j<z->(flat f l++pad)[i*z+j]? =(f l[i])[j]?
 |a::l,pad,0,j,_,hj=>by simp only[flat,Lj,NT,l5,sN,V5];rw[mT (by rw[hz];exact hj)]
 |a::l,pad,i+1,j,hi,hj=>by
  have:=ER hz l pad i j (by simpa using hi) hj;simp only[flat,Lj,sN,List.getElem_cons_succ]at this⊢;have e:(i+1)*z+j=z+(i*z+j):=by rw[qI];omega
  rw[xF (by rw[hz];omega),hz,e];have:z+(i*z+j)-z=i*z+j:=ai;rw[this];assumption
theorem BD(hz:∀ a,(f a).length=z):∀ (l:List α) (pad:List Value) (i:Nat) (hi:i<l.length),((flat f l++pad).drop (i*z)).take z=f l[i]
 |a::l,pad,0,_=>by simp only[flat,Lj,NT,NS,sN,V5];rw[<- hz a,List.take_left]
 |a::l,pad,i+1,hi=>by
  have:=BD hz l pad i (by simpa using hi);simp only[flat,Lj,sN,List.getElem_cons_succ]at this⊢;have e:(i+1)*z=(f a).length+i*z:=by rw[hz,qI];omega
  rw[e,List.drop_append];have h1:(f a).drop ((f a).length+i*z)=[]:=List.drop_eq_nil_of_le ai;have h2:(f a).length+i*z-(f a).length=i*z:=ai;rw[h1,h2,ez];exact this
theorem jW(l m:List α):flat f (l++m)=flat f l++flat f m:=by simp[flat]
theorem pq(a:α)(l:List α):flat f (a::l)=f a++flat f l:=by simp[flat]
def gL{α:Type}(f:α->List Value)(l:List α)(pad:List Value):Array Value:=(flat f l++pad).toArray
variable{l:List α}{pad:List Value}
theorem jj(hz:∀ a,(f a).length=z):(gL f l pad).size=l.length*z+pad.length:=by simp[gL,fq hz]
theorem O1(hz:∀ a,(f a).length=z){off i j:Nat}(hi:i<l.length)(hj:j<z)(ho:off=i*z+j):(gL f l pad)[off]? =(f l[i])[j]? :=by subst ho;unfold gL;rw[Hh];exact ER hz l pad i j hi hj
theorem Hu(hz:∀ a,(f a).length=z){off i:Nat}(hi:i<l.length)(ho:off=i*z):(gL f l pad).extract off (off+z)=(f l[i]).toArray:=by
 subst ho;unfold gL;rw[Sf]
 congr 1
 rw[<- BD hz l pad i hi,Sg]
 congr 1;omega
theorem lO:∀ (vs:List Value) (a b c:List Value),b.length=vs.length->wr (a++b++c).toArray a.length vs=(a++vs++c).toArray
 |[],a,b,c,h=>by have:b=[]:=NU.1 (by simpa using h);subst this;rfl
 |v::vs,a,[],c,h=>by simp at h
 |v::vs,a,x::b,c,h=>by
  unfold wr;have h1:((a++x::b++c).toArray).setIfInBounds a.length v=((a++[v])++b++c).toArray:=by simp[List.set_append]
  have h2:a.length+1=(a++[v]).length:=by simp
  rw[h1,h2,lO vs (a++[v]) b c (by simpa using h)];simp
theorem O2(hz:∀ a,(f a).length=z){off i:Nat}(hi:i<l.length)(ho:off=i*z)(a:α):wr (gL f l pad) off (f a)=gL f (l.set i a) pad:=by
 subst ho;unfold gL;have hl:l=l.take i++l[i]::l.drop (i+1):=by simp
 have h1:flat f l++pad=flat f (l.take i)++f l[i]++(flat f (l.drop (i+1))++pad):=by
  conv=>lhs;rw[hl,jW,pq]
  simp
 have h2:(flat f (l.take i)).length=i*z:=by rw[fq hz,jS,xG ai]
 rw[h1,<- h2,lO _ _ _ _ (by rw[hz,hz])]
 congr 1
 rw[V6,aG hi,jW,pq];simp
theorem Lx(hz:∀ a,(f a).length=z){off i j:Nat}(hi:i<l.length)(hj:j<z)(ho:off=i*z+j){v:Value}(a:α)(ha:f a=(f l[i]).set j v):(gL f l pad).setIfInBounds off v=gL f (l.set i a) pad:=by
 subst ho;unfold gL;have hl:l=l.take i++l[i]::l.drop (i+1):=by simp
 have h1:flat f l++pad=flat f (l.take i)++(f l[i]++(flat f (l.drop (i+1))++pad)):=by
  conv=>lhs;rw[hl,jW,pq]
  simp
 have h2:(flat f (l.take i)).length=i*z:=by rw[fq hz,jS,xG ai]
 have h3:j<(f l[i]).length:=by rw[hz];exact hj
 rw[h1,yx]
 congr 1
 rw[V7 _ _ ai,h2,Sj,List.set_append_left _ _ h3,<- ha,V6,aG hi,jW,pq];simp
theorem Ly(hz:∀ a,(f a).length=z){off:Nat}(ho:off=l.length*z)(m:List α)(hp:m.length*z<=pad.length):wr (gL f l pad) off (flat f m)=gL f (l++m) (pad.drop (m.length*z)):=by
 subst ho;unfold gL;have h2:(flat f l).length=l.length*z:=fq hz l;have h1:flat f l++pad=flat f l++pad.take (m.length*z)++pad.drop (m.length*z):=by simp
 rw[h1,<- h2,lO _ _ _ _ (by rw[jS,fq hz,xG hp]),jW]
variable{z:cZ}
theorem ab.ln(C:ab P ao B R){a:Option Addr}{len cap:Nat}[cE:El P tt el](ho:aZ ops i=some ⟨some t,.call ⟨.builtin .len,#[x],#[tt]⟩,ty,pos,af,gd⟩)(h:Nx R d As fn kd n e ds ops aa k cs t (.int .i64 len))
  (hx:ev n e x=.slice a len cap:=by rfl) (hw:aL ops n e gd=true:=by rfl):Nw R d As fn kd n e ds ops i aa k cs:=
 C.val ho hw (λB H d Q q'=>by unfold execOp;simp only[resolve];refine ae (aA ?_);simp only[AM,gW,l6,hx];unfold invoke builtin;refine ae ?_;unfold Builtin.len_;refine ae (dF cE.h B H d _ ?_);exact q') h
end
section
open Go.Conc
structure az where
 a:Option Addr
 len:Nat
 cap:Nat
abbrev az.v(s:az):Value:=.slice s.a s.len s.cap
def aR:az:=⟨none,0,0⟩
def bG{α:Type}(f:α->List Value)(z:Nat)(el:aO)(s:az)(l:List α):HP:=λh=>
 (s=aR/\l=[])\/∃ b pad,s=⟨some ⟨b,0,none⟩,l.length,s.cap⟩/\l.length*z+pad.length=s.cap*z/\l.length<=s.cap/\da b (.cells (gL f l pad) el (0,0)) h
def n4(B:kJ)(H:Array Obj)(z n:Nat)(x:Value)(xs:List Value):Prop:=
 (x=.slice none 0 0/\n=0/\xs=[])\/∃ b off cap c ty,x=.slice (some ⟨b,off,none⟩) n cap/\hp H b=some (.cells c ty (0,0))/\off+n*z<=c.size/\c.extract off (off+n*z)=xs.toArray/\∀ j,B.sh ty j=false
section
variable{P:bL}{B:kJ}{H:Array Obj}{d:Nat}{α:Type}{f:α->List Value}{z:Nat}{el tt t3:aO}
theorem n4.len{n:Nat}{x:Value}{xs:List Value}(s:n4 B H z n x xs):Pu P (Builtin.lenOf x) n:=by rcases s with⟨rfl,rfl,_⟩|⟨b,off,cap,c,ty,rfl,_⟩<;>exact λ_ _ _ _ q=>q
theorem sf{n:Nat}{x:Value}{xs:List Value}{Q:Array Value->Array Obj->Nat->Prop}(s:n4 B H z n x xs)(q:Q xs.toArray H d):dJ P B (Builtin.firstCells z n x) H d Q:=by
 rcases s with⟨rfl,rfl,rfl⟩|⟨b,off,cap,c,ty,rfl,h1,h2,h3,h4⟩
 ·exact q
 ·unfold Builtin.firstCells;exact tc h1 h2 h4 (by rw[h3];exact q)
theorem w6{n:Nat}{Q:Unit->Array Obj->Nat->Prop}(q:Q () H d):dJ P B (askRoom n) H d Q:=by
 unfold askRoom;split
 ·exact⟨trivial,q⟩
 ·exact q
theorem yX{ty O3 bz:Nat}{zv:Value}{m:List α}{y:Value}{s:az}{l:List α}{As:List HP}{Q:Value->Array Obj->Nat->Prop}[cE:El P tt el][cE3:El P t3 O3][Cz P el z][cB:Bz P el bz][Zv P el zv]
  (hz:∀ a,(f a).length=z) (h1:∀ a,∀ v∈f a,fZ v=true) (O4:zv.cells.size=z) (hb:∀ b j,s.a=some ⟨b,0,none⟩->B.rd b el j=false) (qJ:∀ j,B.sh el j=false) (Az:bz≠0) (hsz:(l.length+m.length)*bz<=140737488355328)
  (hs:Sat (bG f z el s l::As) (hp H)) (hsrc:n4 B H z m.length y (flat f m)) (q:∀ s' H',s'.len=l.length+m.length->(s'.a=s.a\/s'.a=some ⟨H.size,0,none⟩)->Sat (bG f z el s' (l++m)::As) (hp H')->Q s'.v H' d):dJ P B (Builtin.append_ #[tt,t3] ty #[s.v,y]) H d Q:=by
 have aap:s.len=l.length:=by
  obtain⟨h',x,_⟩:=hs;rcases x with⟨rfl,rfl⟩|⟨b,pad,e,_⟩
  ·rfl
  ·rw[e]
 unfold Builtin.append_;simp only[Hh,NV,Sd];refine ae (dF cE.h B H d _ ?_);simp only[az.v];refine ae (iy B H d _ ?_);refine ae (dF cE3.h B H d _ (ae (aA ?_)));simp only[gn,eR,Eu,eN];refine ae (hsrc.len B H d _ ?_);rw[aap];split
 ·rename_i hle;refine ae (sf hsrc ?_);obtain⟨hh,x,jd,rl⟩:=hs;rcases x with⟨rfl,rfl⟩|⟨b,pad,e,Eh,CZ,vW⟩
  ·have hm:m=[]:=NU.1 (by simpa[aR]using hle);subst hm;refine ae (aA (aA ?_));exact q aR H rfl (.inl rfl) ⟨hh,.inl ⟨rfl,rfl⟩,jd,rl⟩
  ·have ES:s.a=some ⟨b,0,none⟩:=by rw[e]
   simp only[ES];have jm:hp H b=some (.cells (gL f l pad) el (0,0)):=by subst vW;exact jd b _ (by simp[one])
   refine ae ?_;rw[gY];have Wy:(flat f m).length=m.length*z:=fq hz m;have aaq:m.length*z<=pad.length:=by have:(l.length+m.length)*z<=s.cap*z:=CS z hle;rw[qI]at this;omega
   refine kP (off:=0+l.length*z) (flat f m) 0 jm ?_ ?_ (λj _ _=>⟨hb _ j ES,qJ j⟩) ?_
   ·rw[jj hz,Wy];omega
   ·intro v hv;obtain⟨a,_,ha⟩:=Ll.1 hv;exact h1 a v ha
   ·refine aA ?_;rw[Ly hz ai m aaq];refine q ⟨some ⟨b,0,none⟩,l.length+m.length,s.cap⟩ _ rfl (.inl ES.symm) ?_;have nO:Sat (da b (.cells (gL f l pad) el (0,0))::As) (hp H):=⟨hh,vW,jd,rl⟩;refine Sat.imp (λh Wz=>.inr ⟨b,pad.drop (m.length*z),by simp,?_,?_,Wz⟩) (nO.set)
    ·simp only[gO,CU,qI];omega
    ·simpa using hle
 ·rename_i hgt;have aep:s.cap<l.length+m.length:=ai;obtain⟨inf,hi,SD⟩:=cB.h;refine ae (iN hi B H d _ ?_);have eV:¬ (((l.length+m.length:Nat):Int)>IntKind.i64.max/\(False\/inf.bytes=0)):=by
   rintro⟨_,h2⟩;rcases h2 with h2|h2
   ·exact h2
   ·exact Az (SD▸h2)
  rw[ax eV];refine ae (iN hi B H d _ ?_);have aiL:=growslice_fits (bytes:=bz) aep hsz;rw[SD,ax ai];refine ae ?_;show dJ P B (.choose _ _) H d _;simp only[dJ,Question.forced,gn,eR];intro t;generalize hN:Question.cut (.appendCap (l.length+m.length) s.cap el) t=N;have aeq:l.length+m.length<=N:=by rw[<- hN];show _<=l.length+m.length+t%(2^63-(l.length+m.length));omega
  show dJ P B (_ >>= _) H d _;refine ae (iN hi B H d _ ?_);refine ae (w6 ?_);have hold:n4 B H z l.length (.slice s.a l.length s.cap) (flat f l):=by
   obtain⟨hh,x,jd,rl⟩:=hs;rcases x with⟨rfl,rfl⟩|⟨b,pad,e,Eh,CZ,vW⟩
   ·exact .inl ⟨rfl,rfl,rfl⟩
   ·have ES:s.a=some ⟨b,0,none⟩:=by rw[e]
    have jm:hp H b=some (.cells (gL f l pad) el (0,0)):=by subst vW;exact jd b _ (by simp[one])
    have U3:(flat f l).length=l.length*z:=fq hz l;refine .inr ⟨b,0,s.cap,_,_,by rw[ES],jm,by rw[jj hz];omega,?_,λj=>qJ j⟩;rw[l5,<- U3];simp[gL]
  refine ae (sf hold ?_);refine ae (sf hsrc ?_);refine ae (nZ B H d _ ?_);refine ae ?_;unfold newRow;refine ae ?_;show dJ P B (.new _ _) H d _;simp only[dJ];show dJ P B (pure _) _ d _;have sR:(flat f l).toArray++(flat f m).toArray++Builtin.zeroCells zv.cells (N-(l.length+m.length))=gL f (l++m) (Builtin.zeroCells zv.cells (N-(l.length+m.length))).toList:=by apply Array.ext';simp[gL,jW]
  rw[sR];refine aA (aA ?_);refine q ⟨some ⟨H.size,0,none⟩,l.length+m.length,N⟩ _ rfl (.inr rfl) ?_;have hd:Sat As (hp H):=hs.drop;refine Sat.imp (λh Wz=>.inr ⟨H.size,_,by simp,?_,by simpa using aeq,Wz⟩) (hd.push _);have hl:(Builtin.zeroCells zv.cells (N-(l.length+m.length))).toList.length=(N-(l.length+m.length))*z:=by simp[Builtin.zeroCells,O4]
  show(l++m).length*z+_=N*z;rw[hl,gO,<- qI]
  congr 1
  omega
theorem C9(off:Nat):∀ (l:List Value) (j:Nat) (c:Array Value),(l.zipIdx j).foldl (λcs (p:Value×Nat)=>cs.setIfInBounds (off+p.2) p.1) c=wr c (off+j) l
 |[],_,_=>rfl
 |v::l,j,c=>by rw[List.zipIdx_cons,mE,C9 off l (j+1)];rfl
theorem ET:∀ (vs:List Value) (i:Nat) (a b:List Value),(∀ v∈vs,v.cells.size=z)->a.length=i*z->b.length=vs.length*z->
  Instr.fill (λi=>some (i*z,z)) (a++b).toArray ((vs.zipIdx i).map λp=>(p.2,p.1))=some (a++vs.flatMap (·.cells.toList)).toArray
 |[],i,a,b,_,_,hb=>by have:b=[]:=NU.1 (by simpa using hb);subst this;simp[Instr.fill]
 |v::vs,i,a,b,hv,ha,hb=>by
  have hz:=hv v (fY ..);rw[jC,qI]at hb;rw[List.zipIdx_cons,gW];unfold Instr.fill;have hsz:(a++b).toArray.size=i*z+(vs.length*z+1*z):=by rw[Se,gO,ha,hb]
  simp only[hz,hsz];rw[ax (by simp)];have hf:Array.foldl (λcs (x:Value×Nat)=>match x with|(c,j)=>cs.setIfInBounds (i*z+j) c) (a++b).toArray v.cells.zipIdx=wr (a++b).toArray (i*z) v.cells.toList:=by rw[<- V8,V9];exact C9 (i*z) v.cells.toList 0 _
  rw[hf];have AF:v.cells.toList.length=z:=by simpa using hz
  have SD:b=b.take z++b.drop z:=by simp
  have hw:wr (a++b).toArray (i*z) v.cells.toList=((a++v.cells.toList)++b.drop z).toArray:=by
   conv=>lhs;rw[SD,<- sN,<- ha]
   rw[lO _ _ _ _ (by rw[jS,AF];omega)]
  rw[hw,ET vs (i+1) (a++v.cells.toList) (b.drop z) (λx hx=>hv x (fp _ hx)) (by rw[gO,ha,AF,qI];omega) (by rw[CU,hb];omega)];simp
section
variable{ao:Bool}{R:Nat->aM->Array Obj->Prop}{As aP:List HP}
variable{fn:bJ}{kd:Kd}{n:Nat}{e:Nat->Value}{ds:List eo}{k:List Item}{cs:List Frame}
variable{ops:Array Oper}{i:Nat}{aa:List Nat}{dst:Option Nat}{t:Nat}{ty:aO}{pos:String}{af:Array Edge}{gd:Option (Nat×Bool)}{x y w:cZ}{v u:Value}{b off n':Nat}{c:Array Value}
theorem ab.ap(C:ab P ao B R){O3 bz:Nat}{zv:Value}{m l:List α}{s:az}{yv:Value}[cE:El P tt el][cE3:El P t3 O3][Cz P el z][cB:Bz P el bz][Zv P el zv]
  (ho:aZ ops i=some ⟨some t,.call ⟨.builtin .append,#[x,y],#[tt,t3]⟩,ty,pos,af,gd⟩) (hz:∀ a,(f a).length=z) (h1:∀ a,∀ v∈f a,fZ v=true)
  (hsrc:∀ H,Sat (bG f z el s l::As) (hp H)->n4 B H z m.length yv (flat f m)) (h:∀ s',s'.len=l.length+m.length->Nx R d (bG f z el s' (l++m)::As) fn kd n e ds ops aa k cs t s'.v)
  (hsz:(l.length+m.length)*bz<=140737488355328:=by omega) (hx:ev n e x=s.v:=by rfl) (hy:ev n e y=yv:=by rfl) (O4:zv.cells.size=z:=by rfl) (Az:bz≠0:=by decide) (hb:∀ b j,B.rd b el j=false/\B.sh el j=false:=by intro _ j;exact⟨rfl,rfl⟩) (hw:aL ops n e gd=true:=by rfl):Nw R d (bG f z el s l::As) fn kd n e ds ops i aa k cs:=
 C.gen ho hw λH s'=>by unfold execOp;simp only[resolve];refine ae (aA ?_);simp only[AM,gW,l6,hx,hy];unfold invoke builtin;refine ae ?_;exact yX hz h1 O4 (λb j _=>(hb b j).1) (λj=>(hb 0 j).2) Az hsz s' (hsrc H s') λs'' H' hl _ hs=>aA ⟨_,hs,h s'' hl⟩
theorem ab.bs(C:ab P ao B R){zv:Value}{vs:List Value}{parts:Array (Nat×cZ)}[cE:El P tt el][Cz P el z][Zv P el zv](ho:aZ ops i=some ⟨some t,.buildSlice tt n' parts,ty,pos,af,gd⟩)
  (h:∀ b,Nx R d (da b (.cells (vs.flatMap (·.cells.toList)).toArray el (0,0))::As) fn kd n e ds ops aa k cs t (.slice (some ⟨b,0,none⟩) n' n'))
  (hp:(parts.toList.map λ(i,x)=>(i,ev n e x))=(vs.zipIdx 0).map λp=>(p.2,p.1):=by rfl) (hn:vs.length=n':=by rfl) (hv:∀ v∈vs,v.cells.size=z:=by simp[Value.cells]) (h0:n'*z≠0:=by decide) (hm:n'*z<=16777216:=by decide) (hw:aL ops n e gd=true:=by rfl):Nw R d As fn kd n e ds ops i aa k cs:=
 C.gen ho hw λH s=>by
  unfold execOp;simp only[Instr.buildSlice];refine ae (ae (dF cE.h B H d _ ?_));refine ae (iy B H d _ ?_);rw[ax ai,ax h0];refine ae (nZ B H d _ (ae (aA ?_)));have U4:=ET (z:=z) vs 0 [] ((Array.range (n'*z)).map (zv.cells[· %zv.cells.size]!)).toList hv (by simp) (by simp[hn]);have SF:(parts.map λx=>(x.fst,ev n e x.snd)).toList=(vs.zipIdx 0).map λp=>(p.2,p.1):=by rw[qZ];exact hp
  simp only[ez,tC]at U4;rw[SF,U4];refine ae ?_;unfold newRow;refine ae ?_;show dJ P B (.new _ _) H d _;simp only[dJ];show dJ P B (pure _) _ d _;exact aA (aA ⟨_,s.push _,h _⟩)
end
end
end
section
open Go.Conc
theorem Lz{α:Type}{f:α->List Value}{z:Nat}{a0:α}{zc:Array Value}(hf:f a0=zc.toList)(hz:zc.size=z)(h0:z≠0):∀ (L:Nat),(Array.range (L*z)).map (λi=>zc[i%zc.size]!)=gL f (List.replicate L a0) []:=by
 intro L;apply sJ;intro i;have U3:(f a0).length=z:=by rw[hf];simpa using hz
 have sR:(gL f (List.replicate L a0) [])[i]? =if i<L*z then some zc[i%z]! else none:=by
  unfold gL;rw[Hh,l7]
  induction L generalizing i with
  |zero=>simp[flat]
  |succ L ih=>
   rw[List.replicate_succ,pq];by_cases h:i<z
   ·rw[mT ai,hf,aG (by rw[qI];omega),yy h];have hi:i<zc.size:=ai;simp[hi]
   ·rw[xF ai,U3,ih (i-z)];have e:i%z=(i-z)%z:=by rw[Nat.mod_eq_sub_mod ai]
    rw[e];have:(i-z<L*z)↔(i<(L+1)*z):=by rw[qI];omega
    simp only[this]
 rw[sR];by_cases h:i<L*z
 ·simp[h,hz]
 ·simp[h]
variable{P:bL}{ao:Bool}{B:kJ}{R:Nat->aM->Array Obj->Prop}{d:Nat}{As aP:List HP}{α:Type}{f:α->List Value}{z:Nat}
variable{fn:bJ}{kd:Kd}{n:Nat}{e:Nat->Value}{ds:List eo}{k:List Item}{cs:List Frame}
variable{ops:Array Oper}{i:Nat}{aa:List Nat}{dst:Option Nat}{t:Nat}{ty:aO}{pos:String}{af:Array Edge}{gd:Option (Nat×Bool)}{x y w:cZ}{v u:Value}{b off:Nat}{c:Array Value}{el tt t3:aO}{kk k2:IntKind}
theorem ab.ms(C:ab P ao B R){zv:Value}{bz:Nat}{a0:α}{L:Int}[cE:El P tt el][Cz P el z][cB:Bz P el bz][Zv P el zv](ho:aZ ops i=some ⟨some t,.makeSlice tt x y,ty,pos,af,gd⟩)(hf:f a0=zv.cells.toList)
  (h:∀ b,Nx R d (da b (.cells (gL f (List.replicate L.toNat a0) []) el (0,0))::As) fn kd n e ds ops aa k cs t (.slice (some ⟨b,0,none⟩) L.toNat L.toNat))
  (hx:ev n e x=.int kk L:=by rfl) (hy:ev n e y=.int k2 L:=by rfl) (h0:0<=L:=by omega) (h1:L*bz<=281474976710656:=by omega) (Az:0<bz:=by decide) (O4:zv.cells.size=z:=by rfl) (hz:z≠0:=by decide) (hw:aL ops n e gd=true:=by rfl):Nw R d As fn kd n e ds ops i aa k cs:=
 C.gen ho hw λH s=>by
  obtain⟨inf,hi,SD⟩:=cB.h;have hL:L<=281474976710656:=by
   rcases Int.lt_or_le 281474976710656 L with h|h
   ·have:L*1<=L*bz:=Int.mul_le_mul_of_nonneg_left ai h0;omega
   ·exact h
  have Ze:IntKind.i64.wrap L=L:=uy ai ai;unfold execOp;simp only[Instr.makeSlice,hx,hy];refine ae (ae (dF cE.h B H d _ ?_));refine ae (aA (ae (aA ?_)));refine ae (iN hi B H d _ ?_);rw[Ze,SD];have hc:(bz:Int)*L<=2^48:=by rw[Int.mul_comm];exact h1
  rw[ax (by simp;omega)];refine ae (w6 ?_);refine ae (iy B H d _ ?_);by_cases hn:L.toNat*z=0
  ·have UY:L.toNat=0:=by
    rcases Nat.mul_eq_zero.1 hn with h|h
    ·exact h
    ·exact absurd h hz
   rw[aG hn,UY];have e0:∀ g:Nat->Value,(Array.range (0*z)).map g=gL f (List.replicate 0 a0) []:=λg=>by simp[gL,flat]
   refine ae (aA (ae ?_));unfold newRow;refine ae ?_;rw[e0];show dJ P B (.new _ _) H d _;simp only[dJ];show dJ P B (pure _) _ d _;have:=h H.size;rw[UY]at this;exact aA (aA ⟨_,s.push _,this⟩)
  ·rw[ax hn];refine ae (nZ B H d _ (ae (aA (ae ?_))));unfold newRow;refine ae ?_;show dJ P B (.new _ _) H d _;simp only[dJ];show dJ P B (pure _) _ d _;rw[Lz hf O4 hz];exact aA (aA ⟨_,s.push _,h _⟩)
theorem ab.shi(C:ab P ao B R){a:Option Addr}{len cap:Nat}{hi:Int}[cE:El P tt el][Cz P el z](ho:aZ ops i=some ⟨some t,.slice tt x none (some y) none,ty,pos,af,gd⟩)(h:Nx R d As fn kd n e ds ops aa k cs t (.slice a hi.toNat cap))
  (hx:ev n e x=.slice a len cap:=by rfl) (hy:ev n e y=.int kk hi:=by rfl) (hh:0<=hi/\hi<=cap:=by constructor<;>omega) (hw:aL ops n e gd=true:=by rfl):Nw R d As fn kd n e ds ops i aa k cs:=
 C.val ho hw (λB H d Q q=>by
  unfold execOp;simp only[Instr.sliceAt,hx,jR,Jp,hy];refine ae (ae (dF cE.h B H d _ ?_));simp only[Instr.slice];refine ae (dF cE.h B H d _ ?_);simp only[Instr.sliceBounds,Instr.sliceBound,asIntOf];refine ae (ae (aA (ae (ae (aA ?_)))));rw[aG hh];refine aA (ae (aA (aA (ae (iy B H d _ (aA ?_))))));have:(if cap=0 then a else a.map (·.add (0*z)))=a:=by
   split
   ·rfl
   ·cases a<;>simp[add_zero]
  rw[this];exact q) h
theorem ab.slo(C:ab P ao B R){len cap:Nat}{lo:Int}{a':Addr}[cE:El P tt el][Cz P el z](ho:aZ ops i=some ⟨some t,.slice tt x (some y) none none,ty,pos,af,gd⟩)(h:Nx R d As fn kd n e ds ops aa k cs t (.slice (some a') (len-lo.toNat) (cap-lo.toNat)))
  (hx:ev n e x=.slice (some ⟨b,off,none⟩) len cap:=by rfl) (hy:ev n e y=.int kk lo:=by rfl) (ha:(if cap=lo.toNat then⟨b,off,none⟩else⟨b,off+lo.toNat*z,none⟩)=a':=by rfl) (hh:0<=lo/\lo<=len:=by constructor<;>omega) (hw:aL ops n e gd=true:=by rfl):Nw R d As fn kd n e ds ops i aa k cs:=
 C.val ho hw (λB H d Q q=>by
  unfold execOp;simp only[Instr.sliceAt,hx,jR,Jp,hy];refine ae (ae (dF cE.h B H d _ ?_));simp only[Instr.slice];refine ae (dF cE.h B H d _ ?_);simp only[Instr.sliceBounds,Instr.sliceBound,asIntOf];refine ae (ae (aA (ae (aA (ae (ae (aA ?_)))))));rw[aG hh];refine aA (aA (ae (iy B H d _ (aA ?_))));have:(if cap=lo.toNat then(some (⟨b,off,none⟩:Addr))else(some (⟨b,off,none⟩:Addr)).map (·.add (lo.toNat*z)))=some a':=by
   rw[<- ha];split
   ·rfl
   ·simp[gY]
  rw[this];exact q) h
theorem ab.cp(C:ab P ao B R){len cap m:Nat}{yv:Value}{xs:List Value}[cE:El P tt el][Cz P el z](ho:aZ ops i=some ⟨some t,.call ⟨.builtin .copy,#[x,y],#[tt,t3]⟩,ty,pos,af,gd⟩)
  (hsrc:∀ H,Sat As (hp H)->n4 B H z m yv xs) (hm:m<=len) (Ou:xs.length=m*z) (h1:∀ v∈xs,fZ v=true)
  (h:Nx R d aP fn kd n e ds ops aa k cs t (.int .i64 m)) (hu:rj b (.cells c el (0,0)) (.cells (wr c off xs) el (0,0)) As aP)
  (hz:off+m*z<=c.size) (hx:ev n e x=.slice (some ⟨b,off,none⟩) len cap:=by rfl) (hy:ev n e y=yv:=by rfl) (hb:∀ b j,B.rd b el j=false/\B.sh el j=false:=by intro _ j;exact⟨rfl,rfl⟩) (hw:aL ops n e gd=true:=by rfl):Nw R d As fn kd n e ds ops i aa k cs:=
 C.gen ho hw λH s=>by unfold execOp;simp only[resolve];refine ae (aA ?_);simp only[AM,gW,l6,hx,hy];unfold invoke builtin;refine ae ?_;unfold Builtin.copy_;simp only[Hh,NV,Sd];refine ae (dF cE.h B H d _ ?_);simp only;have hs:=hsrc H s;refine ae (hs.len B H d _ ?_);have AT:Nat.min m len=m:=xG hm;rw[AT];refine ae (iy B H d _ (ae (sf hs ?_)));simp only;refine ae (kP (off:=off) xs 0 (hu.has.get s) (by rw[Ou];omega) h1 (λj _ _=>hb _ j) ?_);exact aA (aA ⟨_,hu.set s,h⟩)
inductive Fo(A:HP):List HP->List HP->Prop
 |head {As:List HP}:Fo A (A::As) As
 |tail {X:HP} {As L:List HP}:Fo A As L->Fo A (X::As) (X::L)
theorem Fo.perm{A:HP}{As L:List HP}(x:Fo A As L):As.Perm (A::L):=by
 induction x with
 |head=>exact .refl _
 |tail _ ih=>exact(ih.cons _).trans (.swap _ _ _)
inductive fg:List HP->List HP->List HP->Prop
 |nil {F:List HP}:fg [] F F
 |cons {A:HP} {Bs As L F:List HP}:Fo A As L->fg Bs L F->fg (A::Bs) As F
theorem fg.perm{Bs As F:List HP}(x:fg Bs As F):As.Perm (Bs++F):=by
 induction x with
 |nil=>exact .refl _
 |cons f _ ih=>exact f.perm.trans (ih.cons _)
inductive cV:List HP->List HP->Prop
 |refl {As:List HP}:cV As As
 |nil {As:List HP}:cV As []
 |cons {A:HP} {Bs As L:List HP}:Fo A As L->cV L Bs->cV As (A::Bs)
 |drop {X:HP} {As Bs:List HP}:cV As Bs->cV (X::As) Bs
theorem cV.sat{As Bs:List HP}(x:cV As Bs):∀ {h:HL},Sat As h->Sat Bs h:=by
 induction x with
 |refl=>exact id
 |nil=>exact λ_=>trivial
 |cons f _ ih=>exact λs=>Sat.under (λ_ s=>ih s) (s.perm f.perm)
 |drop _ ih=>exact λs=>ih s.drop
variable{Bs L:List HP}{g:aM}{A:HP}
theorem At.fo(f:Fo A As L)(h:At R d (A::L) g):At R d As g:=h.perm f.perm
theorem At.lP(x:cV As Bs)(h:At R d Bs g):At R d As g:=λH s=>h H (x.sat s)
theorem At.turn{A':HP}(f:Fo A As L)(t:∀ h,A h->A' h)(h:At R d (A'::L) g):At R d As g:=λH s=>h H ((s.perm f.perm).imp t)
theorem At.EU{p:Prop}(f:Fo A As L)(t:∀ h,A h->p)(h:p->At R d As g):At R d As g:=λH s=>h (by obtain⟨h1,a,_⟩:=s.perm f.perm;exact t _ a) H s
variable{V W:Type}
def aB:List (Int×V)->Int->Option V
 |[],_=>none
 |p::l,k=>if p.1=k then some p.2 else aB l k
def bB:List (Int×V)->Int->V->List (Int×V)
 |[],k,v=>[(k,v)]
 |p::l,k,v=>if p.1=k then(k,v)::l else p::bB l k v
def dT:List (Int×V)->Int->List (Int×V)
 |[],_=>[]
 |p::l,k=>if p.1=k then l else p::dT l k
def kQ(g:V->W)(l:List (Int×V)):List (Int×W):=l.map λp=>(p.1,g p.2)
theorem nu(g:V->W)(k:Int):∀ l:List (Int×V),aB (kQ g l) k=(aB l k).map g
 |[]=>rfl
 |p::l=>by
  have:=nu g k l;simp only[kQ,gW,aB]at this⊢;split
  ·rfl
  ·exact this
theorem pr(g:V->W)(k:Int)(v:V):∀ l:List (Int×V),bB (kQ g l) k (g v)=kQ g (bB l k v)
 |[]=>rfl
 |p::l=>by
  have:=pr g k v l;simp only[kQ,gW,bB]at this⊢;split
  ·simp
  ·simp[this]
theorem uT(g:V->W)(k:Int):∀ l:List (Int×V),dT (kQ g l) k=kQ g (dT l k)
 |[]=>rfl
 |p::l=>by
  have:=uT g k l;simp only[kQ,gW,dT]at this⊢;split
  ·rfl
  ·simp[this]
theorem yY{X:Type}{l:List X}(h:l.Nodup){i j:Nat}{x:X}(hi:l[i]? =some x)(hj:l[j]? =some x):i=j:=by
 have hp:=yz.1 h;obtain⟨h1,e1⟩:=dG.1 hi;obtain⟨h2,e2⟩:=dG.1 hj;rcases yA i j with z|z|z
 ·exact absurd (e1.trans e2.symm) (hp i j h1 h2 z)
 ·exact z
 ·exact absurd (e2.trans e1.symm) (hp j i h2 h1 z)
def qN(k:Int):List (Int×V)->Nat->Option (Nat×V)
 |[],_=>none
 |p::l,i=>if p.1=k then some (i,p.2)else qN k l (i+1)
theorem jE{k:Int}:∀ {l:List (Int×V)} {i j:Nat} {v:V},qN k l i=some (j,v)->∃ n,j=i+n/\l[n]? =some (k,v)/\aB l k=some v/\(∀ w,bB l k w=l.set n (k,w))/\dT l k=l.eraseIdx n
 |[],i,j,v,h=>by cases h
 |p::l,i,j,v,h=>by
  unfold qN at h;split at h
  ·rename_i hp;obtain⟨rfl,rfl⟩:=Li (bR h);refine⟨0,rfl,by rw[<- hp];rfl,by simp[aB,hp],λw=>by simp[bB,hp],by simp[dT,hp]⟩
  ·rename_i hp;obtain⟨n,rfl,h2,h3,h4,h5⟩:=jE h;exact⟨n+1,ai,by simpa using h2,by simp[aB,hp,h3],λw=>by simp[bB,hp,h4],by simp[dT,hp,h5]⟩
theorem jF{k:Int}:∀ {l:List (Int×V)} {i:Nat},qN k l i=none->aB l k=none/\(∀ w,bB l k w=l++[(k,w)])/\dT l k=l/\k∉l.map (·.1)
 |[],i,_=>⟨rfl,λ_=>rfl,rfl,by simp⟩
 |p::l,i,h=>by
  unfold qN at h;split at h
  ·cases h
  ·rename_i hp;obtain⟨h1,h2,h3,h4⟩:=jF h;exact⟨by simp[aB,hp,h1],λw=>by simp[bB,hp,h2],by simp[dT,hp,h3],by simp[h4,jl hp]⟩
theorem getM_none{k:Int}{l:List (Int×V)}:aB l k=none↔k∉l.map (·.1):=by
 induction l with
 |nil=>simp[aB]
 |cons p l ih=>
  unfold aB;split
  ·rename_i h;subst h;simp
  ·rename_i h;rw[ih];simp[jl h]
theorem bQ{k:Int}{v:V}{l:List (Int×V)}(h:aB l k=some v):(k,v)∈l:=by
 induction l with
 |nil=>cases h
 |cons p l ih=>
  unfold aB at h;split at h
  ·rename_i e;obtain rfl:=bR h;subst e;exact fY ..
  ·exact fp _ (ih h)
theorem eG{k:Int}{v:V}:∀ {l:List (Int×V)},(l.map (·.1)).Nodup->(k,v)∈l->aB l k=some v
 |p::l,hn,hm=>by
  rw[gW,oX]at hn;unfold aB;rcases fR.1 hm with rfl|hm
  ·simp
  ·have:p.1≠k:=λe=>hn.1 (e▸wQ (f:=(·.1)) hm);simp[this,eG hn.2 hm]
theorem vX{k:Int}{v:V}:∀ {l:List (Int×V)},(bB l k v).map (·.1)=if(aB l k).isSome then l.map (·.1)else l.map (·.1)++[k]
 |[]=>rfl
 |p::l=>by
  have:=vX (k:=k) (v:=v) (l:=l);unfold bB aB;split
  ·rename_i h;subst h;simp
  ·simp only[gW,this];split<;>simp
theorem fB{k:Int}{v:V}{l:List (Int×V)}(h:(l.map (·.1)).Nodup):((bB l k v).map (·.1)).Nodup:=by
 rw[vX];split
 ·exact h
 ·rename_i hs;have:k∉l.map (·.1):=getM_none.1 (by simpa using hs);refine il.2 ⟨h,by simp,λa ha b hb=>?_⟩;simp at hb;subst hb;exact λe=>this (e▸ha)
theorem uU{k:Int}:∀ {l:List (Int×V)},(dT l k).Sublist l
 |[]=>.slnil
 |p::l=>by
  unfold dT;split
  ·exact .cons _ (.refl _)
  ·exact .cons_cons _ uU
theorem ny{k:Int}{l:List (Int×V)}(h:(l.map (·.1)).Nodup):((dT l k).map (·.1)).Nodup:=h.sublist (uU.map _)
theorem fK{k k':Int}{v:V}:∀ {l:List (Int×V)},aB (bB l k v) k'=if k'=k then some v else aB l k'
 |[]=>by simp only[bB,aB];by_cases h:k=k'<;>simp[h,eq_comm]
 |p::l=>by
  have:=fK (k:=k) (k':=k') (v:=v) (l:=l);unfold bB;split
  ·rename_i h;subst h;simp only[aB];by_cases h:p.1=k'
   ·simp[h]
   ·have:¬ k'=p.1:=λe=>h e.symm;simp[h,this]
  ·rename_i h;simp only[aB,this];by_cases h1:p.1=k'
   ·subst h1;simp[h]
   ·simp[h1]
theorem vY{k k':Int}:∀ {l:List (Int×V)},(l.map (·.1)).Nodup->aB (dT l k) k'=if k'=k then none else aB l k'
 |[],_=>by simp[dT,aB]
 |p::l,hn=>by
  rw[gW,oX]at hn;have:=vY (k:=k) (k':=k') (l:=l) hn.2;unfold dT;split
  ·rename_i h;subst h;by_cases h:k'=p.1
   ·subst h;simp;exact getM_none.2 hn.1
   ·simp[h,aB,jl h]
  ·rename_i h;simp only[aB,this];by_cases h1:p.1=k'
   ·subst h1;simp[h]
   ·simp[h1]
def Ei(kk:IntKind)(l:List (Int×Value)):List (Value×Value):=l.map λp=>(.int kk p.1,p.2)
structure vZ(kk:IntKind)(es:Array MapEntry)(clock:Nat)(l:List (Int×Value)):Prop where
 kv:es.toList.map (λe=>(e.key,e.val))=Ei kk l
 nd:(l.map (·.1)).Nodup
 bn:(es.toList.map (·.born)).Nodup
 lt:∀ e∈es.toList,e.born<clock
def db{V:Type}(kk:IntKind)(g:V->Value)(b:Nat)(l:List (Int×V)):HP:=λh=>∃ es clock,vZ kk es clock (kQ g l)/\da b (.map es clock) h
variable{H:Array Obj}{g:V->Value}
theorem yZ(k:Int):∀ (es:List MapEntry) (l:List (Int×Value)) (i:Nat),es.map (λe=>(e.key,e.val))=Ei kk l->Instr.findNow (.int kk) (.int kk k) es i=some (qN k l i)
 |[],[],i,_=>rfl
 |[],p::l,i,h=>by cases h
 |e::es,[],i,h=>by cases h
 |e::es,p::l,i,h=>by
  simp only[Ei,gW,List.cons.injEq,Ev]at h;obtain⟨⟨h1,h2⟩,h3⟩:=h;unfold Instr.findNow qN;simp only[h1,Instr.sameNow,eN];by_cases hk:p.1=k
  ·subst hk;simp[h2]
  ·have:(k==p.1)=false:=by simpa using jl hk
   simp only[this,ax hk];exact yZ k es l (i+1) h3
theorem n5{t:aO}[c:Ik P t kk]{em:Bool}{k:Int}:Pu P (Instr.checkKey em 10000 t (.int kk k)) ():=by intro B H d Q q;show dJ P B (Instr.checkKey em (9999+1) t (.int kk k)) H d Q;unfold Instr.checkKey;exact ae (dF c.h B H d _ q)
theorem p8{t:aO}[c:Ik P t kk]{es:List MapEntry}{l:List (Int×Value)}{k:Int}(h:es.map (λe=>(e.key,e.val))=Ei kk l):Pu P (Instr.findKey t (.int kk k) es) (qN k l 0):=λB H d Q q=>by unfold Instr.findKey;refine ae (dF c.h B H d _ ?_);rw[yZ k es l 0 h];exact q
theorem gZ{r:Nat}{o:Obj}{Q:Obj->Array Obj->Nat->Prop}(h:hp H r=some o)(hq:Obj.quiet o=true)(q:Q o H d):dJ P B (getObj r) H d Q:=⟨o,h,hq,q⟩
theorem lQ{r:Nat}{o o₀:Obj}{Q:Unit->Array Obj->Nat->Prop}(h:hp H r=some o₀)(hq:Obj.quiet o₀=true)(AN:Obj.quiet o=true)(q:Q () (H.setIfInBounds r o) d):dJ P B (setObj r o) H d Q:=⟨o₀,h,hq,AN,q⟩
theorem y0{tt key el:aO}{z:Value}[cM:Mp P tt key el][Ik P key kk][Zv P el z]{b:Nat}{l:List (Int×V)}{k:Int}{co:Bool}{As:List HP}{Q:Value->Array Obj->Nat->Prop}(s:Sat (db kk g b l::As) (hp H))
  (q:Q (if co then .tuple #[((aB l k).map g).getD z,.bool (aB l k).isSome]else((aB l k).map g).getD z) H d):dJ P B (Instr.lookup tt (.map (some b)) (.int kk k) co) H d Q:=by
 obtain⟨hh,⟨es,clock,mr,vW⟩,jd,hr⟩:=s;have jm:hp H b=some (.map es clock):=by subst vW;exact jd b _ (by simp[one])
 unfold Instr.lookup;refine ae (dF cM.h B H d _ ?_);refine ae (gZ jm rfl ?_);refine ae (aA ?_);refine ae (n5 B H d _ ?_);refine ae (p8 mr.kv B H d _ ?_);cases hi:qN k (kQ g l) 0 with
 |none=>
  have:=(jF hi).1;rw[nu,Option.map_eq_none_iff]at this;rw[this]at q;refine ae (nZ B H d _ (aA ?_));cases co<;>exact q
 |some jv=>
  obtain⟨j,v⟩:=jv;obtain⟨n,_,_,hg,_⟩:=jE hi;rw[nu,G3]at hg;obtain⟨v',qK,rfl⟩:=hg;rw[qK]at q;refine aA ?_;cases co<;>exact q
theorem J5{kk:IntKind}{k:Int}:Pu P (Instr.keyThatStays (.int kk k) (.int kk k)) (.int kk k):=λB H d Q q=>by unfold Instr.keyThatStays;rw[aG (by simp[Instr.sameBits])];exact q
theorem Hv{es:List MapEntry}{l:List (Int×Value)}(h:es.map (λe=>(e.key,e.val))=Ei kk l){n:Nat}{k:Int}{v:Value}(hn:l[n]? =some (k,v)):∃ e,es[n]? =some e/\e.key=.int kk k/\e.val=v:=by
 have:(es.map (λe=>(e.key,e.val)))[n]? =some (.int kk k,v):=by rw[h];simp[Ei,hn]
 rw[fH,G3]at this;obtain⟨e,h1,h2⟩:=this;obtain⟨h3,h4⟩:=Li h2;exact⟨e,h1,h3,h4⟩
theorem vZ.modify{es:Array MapEntry}{clock:Nat}{l:List (Int×Value)}(m:vZ kk es clock l){n:Nat}{k:Int}{v0 v:Value}(hn:l[n]? =some (k,v0))(hs:bB l k v=l.set n (k,v))(f:MapEntry->MapEntry)(hf:∀ e,es.toList[n]? =some e->(f e).key=.int kk k/\(f e).val=v/\(f e).born=e.born):
  vZ kk (es.modify n f) clock (bB l k v):=by
 have hl:(es.modify n f).toList=es.toList.modify n f:=by simp
 have Zn:(es.toList.modify n f).map (·.born)=es.toList.map (·.born):=by
  apply Ew;intro i;simp only[fH,Bn];by_cases h:n=i
  ·subst h;cases e:es.toList[n]? with
   |none=>rfl
   |some e'=>simp[(hf e' e).2.2]
  ·simp[h]
 refine⟨?_,?_,?_,?_⟩
 ·rw[hl,hs];apply Ew;intro i;have hkv:(es.toList.map λe=>(e.key,e.val))[i]? =(Ei kk l)[i]? :=by rw[m.kv]
  simp only[Ei,fH,Bn,oY]at hkv⊢;by_cases h:n=i
  ·subst h;have du:=(dG.1 hn).1;obtain⟨e,h1,h2,h3⟩:=Hv m.kv hn;obtain⟨h4,h5,_⟩:=hf e h1;simp[h1,h4,h5,du]
  ·simpa[h]using hkv
 ·exact fB m.nd
 ·rw[hl,Zn];exact m.bn
 ·intro e he;rw[hl]at he;have:e.born∈(es.toList.modify n f).map (·.born):=wQ (f:=(·.born)) he;rw[Zn]at this;obtain⟨e',h1,h2⟩:=bM.1 this;rw[<- h2];exact m.lt e' h1
theorem vZ.push{es:Array MapEntry}{clock:Nat}{l:List (Int×Value)}(m:vZ kk es clock l){k:Int}{v:Value}(hk:k∉l.map (·.1))(hs:bB l k v=l++[(k,v)]):vZ kk (es.push {key:=.int kk k,val:=v,born:=clock}) (clock+1) (bB l k v):=by
 have hl:(es.push {key:=Value.int kk k,val:=v,born:=clock}).toList=es.toList++[{key:=.int kk k,val:=v,born:=clock}]:=by simp
 refine⟨by rw[hl,hs];simp[Ei,m.kv],fB m.nd,?_,λe he=>?_⟩
 ·rw[hl,eI];refine il.2 ⟨m.bn,by simp,λa ha b hb=>?_⟩;obtain⟨e,he,rfl⟩:=bM.1 ha;have:=m.lt e he;simp at hb;subst hb;omega
 ·rw[hl]at he;rcases bS.1 he with he|he
  ·have:=m.lt e he;omega
  ·simp at he;subst he;simp
theorem v5{X Y:Type}(f:X->Y):∀ (l:List X) (n:Nat),(l.eraseIdx n).map f=(l.map f).eraseIdx n
 |[],_=>rfl
 |_::_,0=>rfl
 |x::l,n+1=>by simp only[NW,gW,v5 f l n]
theorem vZ.erase{es:Array MapEntry}{clock:Nat}{l:List (Int×Value)}(m:vZ kk es clock l){n:Nat}{k:Int}(hs:dT l k=l.eraseIdx n):vZ kk (es.eraseIdxIfInBounds n) clock (dT l k):=by
 have hl:(es.eraseIdxIfInBounds n).toList=es.toList.eraseIdx n:=by simp
 refine⟨?_,ny m.nd,?_,λe he=>?_⟩
 ·rw[hl,hs,v5,m.kv];simp[Ei,v5]
 ·rw[hl];exact m.bn.sublist ((ko ..).map _)
 ·rw[hl]at he;exact m.lt e ((ko ..).mem he)
theorem EV{X:Type}(a:Array X)(i:Nat):a[i]? =a.toList[i]? :=by simp
theorem AU{tt key el:aO}[cM:Mp P tt key el][Ik P key kk]{b:Nat}{l:List (Int×V)}{k:Int}{v:V}{As:List HP}{Q:Unit->Array Obj->Nat->Prop}(s:Sat (db kk g b l::As) (hp H))
  (q:∀ H',Sat (db kk g b (bB l k v)::As) (hp H')->Q () H' d):dJ P B (Instr.mapUpdate tt (.map (some b)) (.int kk k) (g v)) H d Q:=by
 obtain⟨hh,⟨es,clock,mr,vW⟩,jd,hr⟩:=s;have jm:hp H b=some (.map es clock):=by subst vW;exact jd b _ (by simp[one])
 have nO:Sat (da b (.map es clock)::As) (hp H):=⟨hh,vW,jd,hr⟩;unfold Instr.mapUpdate;refine ae (dF cM.h B H d _ ?_);refine ae (gZ jm rfl ?_);refine ae (n5 B H d _ ?_);refine ae (p8 mr.kv B H d _ ?_);cases hi:qN k (kQ g l) 0 with
 |none=>
  obtain⟨_,h2,_,h4⟩:=jF hi;refine lQ jm rfl rfl (q _ (Sat.imp (λh hh=>⟨_,_,?_,hh⟩) nO.set));rw[<- pr];exact mr.push h4 (h2 _)
 |some jv=>
  obtain⟨j,v0⟩:=jv;obtain⟨n,rfl,hn,_,qU,_⟩:=jE hi;obtain⟨e,he,hk,_⟩:=Hv mr.kv hn;simp only[l5,EV,he,jR,iA,hk];refine ae (J5 B H d _ ?_);refine lQ jm rfl rfl (q _ (Sat.imp (λh hh=>⟨_,_,?_,hh⟩) nO.set));rw[<- pr];exact mr.modify hn (qU _) _ λe' xM=>⟨rfl,rfl,rfl⟩
theorem Hw{tt t2 key el ty:aO}[cM:Mp P tt key el][Ik P key kk]{b:Nat}{l:List (Int×V)}{k:Int}{As:List HP}{Q:Value->Array Obj->Nat->Prop}(s:Sat (db kk g b l::As) (hp H))
  (q:∀ H',Sat (db kk g b (dT l k)::As) (hp H')->Q (.tuple #[]) H' d):dJ P B (Builtin.delete_ #[tt,t2] ty #[.map (some b),.int kk k]) H d Q:=by
 obtain⟨hh,⟨es,clock,mr,vW⟩,jd,hr⟩:=s;have jm:hp H b=some (.map es clock):=by subst vW;exact jd b _ (by simp[one])
 have nO:Sat (da b (.map es clock)::As) (hp H):=⟨hh,vW,jd,hr⟩;unfold Builtin.delete_;simp only[Hh,NV,Sd];refine ae (dF cM.h B H d _ ?_);refine ae (gZ jm rfl ?_);refine ae (n5 B H d _ ?_);refine ae (p8 mr.kv B H d _ ?_);cases hi:qN k (kQ g l) 0 with
 |none=>
  obtain⟨_,_,h3,_⟩:=jF hi;refine ae (lQ jm rfl rfl (aA (q _ (Sat.imp (λh hh=>⟨_,_,?_,hh⟩) nO.set))));rw[<- uT,h3];exact mr
 |some jv=>
  obtain⟨j,v0⟩:=jv;obtain⟨n,rfl,hn,_,_,hd⟩:=jE hi;refine ae (lQ jm rfl rfl (aA (q _ (Sat.imp (λh hh=>⟨_,_,?_,hh⟩) nO.set))));rw[<- uT,l5];exact mr.erase hd
theorem Fo.au{P:HP}{A L:List HP}(h:Fo P A L:=by(repeat(first|with_reducible exact Fo.head|with_reducible apply Fo.tail));done):Fo P A L:=h
theorem fg.au{A As L:List HP}(h:fg A As L:=by(repeat(first|with_reducible exact fg.nil|with_reducible exact Fo.head|with_reducible apply Fo.tail|with_reducible apply fg.cons));done):fg A As L:=h
theorem cV.au{A L:List HP}(h:cV A L:=by((try simp only[fi,ez]);(repeat(first|with_reducible exact cV.refl|with_reducible exact cV.nil|with_reducible exact Fo.head|with_reducible apply Fo.tail|with_reducible apply cV.cons|with_reducible apply cV.drop));done)):cV A L:=h
variable{z:cZ}{t2 key:aO}
variable{l:List (Int×V)}{q:Int}
def U5(A:HP)(As:List HP):Prop:=∀ h,Sat As h->∃ L,Sat (A::L) h
theorem Fo.LA{A:HP}{As L:List HP}(f:Fo A As L):U5 A As:=λ_ s=>⟨L,s.perm f.perm⟩
theorem Ext.LA{A:HP}{As lN L:List HP}(e:Ext As lN)(f:Fo A lN L):U5 A As:=λ_ s=>⟨L,(e _ s).perm f.perm⟩
theorem ab.lkC(C:ab P ao B R){zv:Value}[cM:Mp P tt key el][Ik P key kk][Zv P el zv](ho:aZ ops i=some ⟨some t,.lookup tt x y true,ty,pos,af,gd⟩)
  (h1:∀ w,aB l q=some w->Nx R d As fn kd n e ds ops aa k cs t (.tuple #[g w,.bool true])) (h2:aB l q=none->Nx R d As fn kd n e ds ops aa k cs t (.tuple #[zv,.bool false]))
  (hx:ev n e x=.map (some b):=by rfl) (hy:ev n e y=.int kk q:=by rfl) (hf:U5 (db kk g b l) As:=by first|(apply Fo.LA;(repeat(first|with_reducible exact Fo.head|with_reducible apply Fo.tail));done)|(apply Ext.LA;assumption;(repeat(first|with_reducible exact Fo.head|with_reducible apply Fo.tail));done)) (hw:aL ops n e gd=true:=by rfl):Nw R d As fn kd n e ds ops i aa k cs:=
 C.gen ho hw λH s=>by
  unfold execOp;simp only[hx,hy];refine ae ?_;obtain⟨L,sL⟩:=hf _ s;refine y0 sL ?_;refine⟨As,s,?_⟩;cases hg:aB l q with
  |none=>exact h2 hg
  |some w=>exact h1 w hg
theorem ab.Zo(C:ab P ao B R){zv:Value}{co:Bool}[cM:Mp P tt key el][Ik P key kk][Zv P el zv](ho:aZ ops i=some ⟨some t,.lookup tt x y co,ty,pos,af,gd⟩)
  (h:Nx R d As fn kd n e ds ops aa k cs t (if co then .tuple #[((aB l q).map g).getD zv,.bool (aB l q).isSome]else((aB l q).map g).getD zv))
  (hx:ev n e x=.map (some b):=by rfl) (hy:ev n e y=.int kk q:=by rfl) (hf:U5 (db kk g b l) As:=by first|(apply Fo.LA;(repeat(first|with_reducible exact Fo.head|with_reducible apply Fo.tail));done)|(apply Ext.LA;assumption;(repeat(first|with_reducible exact Fo.head|with_reducible apply Fo.tail));done)) (hw:aL ops n e gd=true:=by rfl):Nw R d As fn kd n e ds ops i aa k cs:=
 C.gen ho hw λH s=>by unfold execOp;simp only[hx,hy];obtain⟨L,sL⟩:=hf _ s;exact ae (y0 sL ⟨As,s,h⟩)
theorem ab.Hx(C:ab P ao B R){zv:Value}{w:V}{co:Bool}[cM:Mp P tt key el][Ik P key kk][Zv P el zv](hg:aB l q=some w)(ho:aZ ops i=some ⟨some t,.lookup tt x y co,ty,pos,af,gd⟩)
  (h:Nx R d As fn kd n e ds ops aa k cs t (if co then .tuple #[g w,.bool true]else g w))
  (hx:ev n e x=.map (some b):=by rfl) (hy:ev n e y=.int kk q:=by rfl) (hf:U5 (db kk g b l) As:=by first|(apply Fo.LA;(repeat(first|with_reducible exact Fo.head|with_reducible apply Fo.tail));done)|(apply Ext.LA;assumption;(repeat(first|with_reducible exact Fo.head|with_reducible apply Fo.tail));done)) (hw:aL ops n e gd=true:=by rfl):Nw R d As fn kd n e ds ops i aa k cs:=
 C.Zo ho (by rw[hg];exact h) hx hy hf hw
theorem ab.Hy(C:ab P ao B R){zv:Value}{co:Bool}[cM:Mp P tt key el][Ik P key kk][Zv P el zv](hg:aB l q=none)(ho:aZ ops i=some ⟨some t,.lookup tt x y co,ty,pos,af,gd⟩)
  (h:Nx R d As fn kd n e ds ops aa k cs t (if co then .tuple #[zv,.bool false]else zv))
  (hx:ev n e x=.map (some b):=by rfl) (hy:ev n e y=.int kk q:=by rfl) (hf:U5 (db kk g b l) As:=by first|(apply Fo.LA;(repeat(first|with_reducible exact Fo.head|with_reducible apply Fo.tail));done)|(apply Ext.LA;assumption;(repeat(first|with_reducible exact Fo.head|with_reducible apply Fo.tail));done)) (hw:aL ops n e gd=true:=by rfl):Nw R d As fn kd n e ds ops i aa k cs:=
 C.Zo ho (by rw[hg];exact h) hx hy hf hw
theorem ab.mu(C:ab P ao B R){w:V}[cM:Mp P tt key el][Ik P key kk](ho:aZ ops i=some ⟨none,.mapUpdate tt x y z,ty,pos,af,gd⟩)(h:At R d (db kk g b (bB l q w)::L) (gr fn kd n e ds (.inRegion ops aa::k) cs))
  (hx:ev n e x=.map (some b):=by rfl) (hy:ev n e y=.int kk q:=by rfl) (hf:Fo (db kk g b l) As L:=by exact Fo.au) (hz:ev n e z=g w:=by rfl) (hw:aL ops n e gd=true:=by rfl):Nw R d As fn kd n e ds ops i aa k cs:=
 C.gen ho hw λH s=>by unfold execOp;simp only[hx,hy,hz];exact ae (AU (s.perm hf.perm) λH' s'=>⟨_,s',h⟩)
theorem ab.dl(C:ab P ao B R)[cM:Mp P tt key el][Ik P key kk](ho:aZ ops i=some ⟨dst,.call ⟨.builtin .delete,#[x,y],#[tt,t2]⟩,ty,pos,af,gd⟩)(h:At R d (db kk g b (dT l q)::L) (gr fn kd n (dm e dst (.tuple #[])) ds (.inRegion ops aa::k) cs))
  (hx:ev n e x=.map (some b):=by rfl) (hy:ev n e y=.int kk q:=by rfl) (hf:Fo (db kk g b l) As L:=by exact Fo.au) (hw:aL ops n e gd=true:=by rfl):Nw R d As fn kd n e ds ops i aa k cs:=
 C.gen ho hw λH s=>by unfold execOp;simp only[resolve];refine ae (aA ?_);simp only[AM,gW,l6,hx,hy];unfold invoke builtin;exact ae (Hw (s.perm hf.perm) λH' s'=>aA ⟨_,s',h⟩)
theorem ab.Zp(C:ab P ao B R)[cM:Mp P tt key el](ho:aZ ops i=some ⟨some t,.call ⟨.builtin .len,#[x],#[tt]⟩,ty,pos,af,gd⟩)(h:Nx R d As fn kd n e ds ops aa k cs t (.int .i64 l.length))
  (hx:ev n e x=.map (some b):=by rfl) (hf:U5 (db kk g b l) As:=by first|(apply Fo.LA;(repeat(first|with_reducible exact Fo.head|with_reducible apply Fo.tail));done)|(apply Ext.LA;assumption;(repeat(first|with_reducible exact Fo.head|with_reducible apply Fo.tail));done)) (hw:aL ops n e gd=true:=by rfl):Nw R d As fn kd n e ds ops i aa k cs:=
 C.gen ho hw λH s=>by
  obtain⟨L',s'⟩:=hf _ s;obtain⟨hh,⟨es,clock,mr,vW⟩,jd,hr⟩:=s';have jm:hp H b=some (.map es clock):=by subst vW;exact jd b _ (by simp[one])
  have hsz:es.size=l.length:=by have:=congrArg List.length mr.kv;simpa[Ei,kQ]using this
  unfold execOp;simp only[resolve];refine ae (aA ?_);simp only[AM,gW,l6,hx];unfold invoke builtin;refine ae ?_;unfold Builtin.len_;refine ae (dF cM.h B H d _ ?_);refine ae (gZ jm rfl (aA (aA ⟨As,s,?_⟩)));rw[hsz];exact h
theorem O5(kk:IntKind)(g:V->Value)(b:Nat)(h:HL)(hh:da b (.map #[] 0) h):db kk g b [] h:=⟨_,_,⟨rfl,by simp[kQ],by simp,by simp⟩,hh⟩
theorem ab.mm(C:ab P ao B R)(kk:IntKind)(g:V->Value)(ho:aZ ops i=some ⟨some t,.makeMap tt none,ty,pos,af,gd⟩)(h:∀ b,Nx R d (db kk g b []::As) fn kd n e ds ops aa k cs t (.map (some b)))(hw:aL ops n e gd=true:=by rfl):Nw R d As fn kd n e ds ops i aa k cs:=
 C.gen ho hw λH s=>by unfold execOp;simp only[Instr.makeMap,Jp];refine ae (ae ?_);show dJ P B (.new _ _) H d _;simp only[dJ];show dJ P B (pure _) _ d _;exact aA ⟨_,(s.push _).imp (O5 kk g _),h _⟩
end
section
open Go.Conc
def BE(ops:Array Oper)(i:Nat):List Nat:=
 match aZ ops i with
 |some o=>(o.after.toList.filter (Region.binds .any)).map (·.on)
 |none=>[]
structure SE where
 i:Nat
 t:Nat
 v:Value
 ld:Bool
def WA:List SE->List Nat->Nat->Option Value
 |[],_,_=>none
 |x::S,pre,s=>if x.t=s then(if pre.contains x.i then some x.v else WA S pre s)else WA S pre s
def NA:List SE->Nat->Option Value
 |[],_=>none
 |x::S,s=>if x.t=s then some x.v else NA S s
def G9:List (Nat×Nat)->Nat->Option Nat
 |[],_=>none
 |(s',w)::D,s=>if s'=s then some w else G9 D s
def mW(e0:Nat->Value)(D:List (Nat×Nat))(ops:Array Oper)(i:Nat)(S:List SE)(e:Nat->Value):Nat->Value:=λs=>
 match WA S (BE ops i) s with
 |some v=>v
 |none=>match G9 D s with
  |none=>e0 s
  |some w=>if(BE ops w).contains i then e0 s else e s
def qC(e0:Nat->Value)(S:List SE):Nat->Value:=λs=>
 match NA S s with
 |some v=>v
 |none=>e0 s
def reach(ops:Array Oper):Nat->Nat->Nat->Bool
 |0,i,j=>i==j
 |f+1,i,j=>i==j||(BE ops i).any λm=>reach ops f m j
def Da(ops:Array Oper)(T':List Nat):List Nat:=T'.filter λt=>T'.all λu=>u==t|| !reach ops 8 t u
section
variable(P:bL)(R:Nat->aM->Array Obj->Prop)(d:Nat)(fn:bJ)(kd:Kd)(n:Nat)(ds:List eo)(ops:Array Oper)(k:List Item)(cs:List Frame)(e0:Nat->Value)(D:List (Nat×Nat))
def Nd(W:List HP)(S:List SE)(C:List SE->List HP->Prop)(t:Nat):Nat->List SE->List HP->Prop
 |0,K,As=>∃ o,aZ ops t=some o/\∀ e aa,(∀ aP v,C (match o.dst with|some s=>⟨t,s,v,false⟩::K|none=>K) aP->At R d aP (gr fn kd n (dm (mW e0 D ops t (K++S) e) o.dst v) ds (.inRegion ops aa::k) cs))->
   At R d As (gr fn kd n (mW e0 D ops t (K++S) e) ds (.inRegion ops (t::aa)::k) cs)
 |_+1,K,As=>∃ o,aZ ops t=some o/\∀ e aa,(∀ aP v,Hr W aP As->C (match o.dst with|some s=>⟨t,s,v,false⟩::K|none=>K) aP->At R d aP (gr fn kd n (dm (mW e0 D ops t (K++S) e) o.dst v) ds (.inRegion ops aa::k) cs))->
   At R d As (gr fn kd n (mW e0 D ops t (K++S) e) ds (.inRegion ops (t::aa)::k) cs)
def Zq(W:List HP)(S:List SE)(x:SE):Prop:=
 (∃ o,aZ ops x.i=some o/\o.dst=some x.t)/\∀ As e aa,(x.ld=true->Ext As W)->At R d As (gr fn kd n (put (mW e0 D ops x.i S e) x.t x.v) ds (.inRegion ops aa::k) cs)->At R d As (gr fn kd n (mW e0 D ops x.i S e) ds (.inRegion ops (x.i::aa)::k) cs)
def Ch(W:List HP):Nat->List SE->List Nat->Nat->List SE->List HP->Prop
 |0,S,_,_,K,As=>At R d As (gr fn kd n (qC e0 (K++S)) ds (.inRegion ops []::k) cs)
 |f+1,S,T',a,K,As=>(∀ t∈Da ops T',Nd R d fn kd n ds ops k cs e0 D W S (λK As=>Ch W f S (T'.erase t) (a-1) K As) t a K As)\/(∃ i∈T',∃ t v,Zq R d fn kd n ds ops k cs e0 D W (K++S) ⟨i,t,v,false⟩/\Ch W f (⟨i,t,v,false⟩::S) (T'.erase i) a K As)\/
   (∃ t,T'=[t]/\(∃ o,aZ ops t=some o/\o.dst=none)/\((List.range ops.size).all λi=>i==t||reach ops 8 t i)=true/\At R d As (gr fn kd n (qC e0 (K++S)) ds (.inRegion ops [t]::k) cs))
def Dr(W lN:List HP)(T:List Nat)(a:Nat):List SE->List Nat->Prop
 |S,[]=>(S.all λx=> !x.ld||decide ((T.filter λt=> !reach ops 8 t x.i).length<=a))=true/\Ext lN W/\Ch R d fn kd n ds ops k cs e0 D W T.length S T a [] lN
 |S,i::is=>∃ t v ld,Zq R d fn kd n ds ops k cs e0 D W S ⟨i,t,v,ld⟩/\Dr W lN T a (⟨i,t,v,ld⟩::S) is
end
section
variable{P:bL}{ao:Bool}{B:kJ}{R:Nat->aM->Array Obj->Prop}{d:Nat}{fn:bJ}{kd:Kd}{n:Nat}{ds:List eo}{ops:Array Oper}{k:List Item}{cs:List Frame}{e0:Nat->Value}{D:List (Nat×Nat)}{W lN:List HP}{T:List Nat}{a:Nat}{S:List SE}{i:Nat}{is:List Nat}
theorem Dr.pu{t:Nat}{v:Value}(ho:∃ o,aZ ops i=some o/\o.dst=some t)(h:∀ As e aa,At R d As (gr fn kd n (put (mW e0 D ops i S e) t v) ds (.inRegion ops aa::k) cs)->At R d As (gr fn kd n (mW e0 D ops i S e) ds (.inRegion ops (i::aa)::k) cs))
  (k':Dr R d fn kd n ds ops k cs e0 D W lN T a (⟨i,t,v,false⟩::S) is):Dr R d fn kd n ds ops k cs e0 D W lN T a S (i::is):=⟨t,v,false,⟨ho,λAs e aa _ h'=>h As e aa h'⟩,k'⟩
theorem Dr.ld{t:Nat}{v:Value}(ho:∃ o,aZ ops i=some o/\o.dst=some t)(h:∀ As,Ext As W->∀ e aa,At R d As (gr fn kd n (put (mW e0 D ops i S e) t v) ds (.inRegion ops aa::k) cs)->At R d As (gr fn kd n (mW e0 D ops i S e) ds (.inRegion ops (i::aa)::k) cs))
  (k':Dr R d fn kd n ds ops k cs e0 D W lN T a (⟨i,t,v,true⟩::S) is):Dr R d fn kd n ds ops k cs e0 D W lN T a S (i::is):=⟨t,v,true,⟨ho,λAs e aa hA h'=>h As (hA rfl) e aa h'⟩,k'⟩
theorem Ch.n1{f:Nat}{T':List Nat}{t a:Nat}{K:List SE}{As:List HP}(hc:Da ops T'=[t])(h:Nd R d fn kd n ds ops k cs e0 D W S (λK As=>Ch R d fn kd n ds ops k cs e0 D W f S (T'.erase t) (a-1) K As) t a K As):Ch R d fn kd n ds ops k cs e0 D W (f+1) S T' a K As:=.inl λt' ht=>by rw[hc]at ht;obtain rfl:=dL.1 ht;exact h
theorem Ch.n2{f:Nat}{T':List Nat}{t u a:Nat}{K:List SE}{As:List HP}(hc:Da ops T'=[t,u])(h:Nd R d fn kd n ds ops k cs e0 D W S (λK As=>Ch R d fn kd n ds ops k cs e0 D W f S (T'.erase t) (a-1) K As) t a K As)
  (h2:Nd R d fn kd n ds ops k cs e0 D W S (λK As=>Ch R d fn kd n ds ops k cs e0 D W f S (T'.erase u) (a-1) K As) u a K As):Ch R d fn kd n ds ops k cs e0 D W (f+1) S T' a K As:=.inl λt' ht=>by
 rw[hc]at ht;rcases fR.1 ht with rfl|ht
 ·exact h
 ·obtain rfl:=dL.1 ht;exact h2
theorem Ch.pu{f:Nat}{T':List Nat}{i t a:Nat}{v:Value}{K:List SE}{As:List HP}(ho:∃ o,aZ ops i=some o/\o.dst=some t)(h:∀ As e aa,At R d As (gr fn kd n (put (mW e0 D ops i (K++S) e) t v) ds (.inRegion ops aa::k) cs)->At R d As (gr fn kd n (mW e0 D ops i (K++S) e) ds (.inRegion ops (i::aa)::k) cs))
  (k':Ch R d fn kd n ds ops k cs e0 D W f (⟨i,t,v,false⟩::S) (T'.erase i) a K As) (hi:i∈T':=by decide):Ch R d fn kd n ds ops k cs e0 D W (f+1) S T' a K As:=.inr (.inl ⟨i,hi,t,v,⟨ho,λAs e aa _ h'=>h As e aa h'⟩,k'⟩)
theorem Ch.last{f:Nat}{T':List Nat}(t:Nat){a:Nat}{K:List SE}{As:List HP}(ho:∃ o,aZ ops t=some o/\o.dst=none)(h:At R d As (gr fn kd n (qC e0 (K++S)) ds (.inRegion ops [t]::k) cs))
  (hT:T'=[t]:=by rfl) (ha:((List.range ops.size).all λi=>i==t||reach ops 8 t i)=true:=by decide+kernel):Ch R d fn kd n ds ops k cs e0 D W (f+1) S T' a K As:=.inr (.inr ⟨t,hT,ho,ha,h⟩)
theorem Ch.fin{T':List Nat}{a:Nat}{K:List SE}{As:List HP}(h:At R d As (gr fn kd n (qC e0 (K++S)) ds (.inRegion ops []::k) cs)):Ch R d fn kd n ds ops k cs e0 D W 0 S T' a K As:=h
theorem Dr.chain(hl:(S.all λx=> !x.ld||decide ((T.filter λt=> !reach ops 8 t x.i).length<=a))=true)(h:Ch R d fn kd n ds ops k cs e0 D W T.length S T a [] lN)(hw:Ext lN W:=by exact λ_ s=>s):Dr R d fn kd n ds ops k cs e0 D W lN T a S []:=⟨hl,hw,h⟩
end
def iO(ops:Array Oper)(i:Nat):Option Nat:=match aZ ops i with|some o=>o.dst|none=>none
def mI:List Nat->Bool
 |[]=>true
 |a::l=> !l.contains a&&mI l
def tM(md:Region.Mode)(ops:Array Oper)(i:Nat):List Nat:=
 match aZ ops i with
 |some o=>(o.after.toList.filter (Region.binds md)).map (·.on)
 |none=>[]
def SG(md:Region.Mode)(ops:Array Oper):List Nat->List Nat->Bool
 |_,[]=>true
 |dn,i::l=>(tM md ops i).all (λj=>dn.contains j)&&SG md ops (i::dn) l
def U6(md:Region.Mode)(ops:Array Oper):Nat->List Nat->List Nat
 |0,_=>[]
 |f+1,dn=>match(List.range ops.size).find? (λi=> !dn.contains i&&(tM md ops i).all (λj=>dn.contains j))with
  |some i=>i::U6 md ops f (i::dn)
  |none=>[]
def U7(md:Region.Mode)(ops:Array Oper)(tp:List Nat):Bool:=(List.range ops.size).all (λi=>tp.contains i)&&tp.all (λi=>decide (i<ops.size))&&SG md ops [] tp
theorem BF{md:Region.Mode}{ops:Array Oper}{L:Nat->Bool}:∀ {tp dn:List Nat},SG md ops dn tp=true->(∀ j∈dn,L j=true)->(∃ i∈tp,L i=false)->∃ i∈tp,L i=false/\∀ j∈tM md ops i,L j=true
 |[],_,_,_,h=>by obtain⟨i,hi,_⟩:=h;cases hi
 |i::l,dn,h,hd,he=>by
  simp only[SG,jc,kp]at h;cases hL:L i with
  |false=>exact⟨i,fY ..,hL,λj hj=>hd j (by have:=h.1 j hj;simpa using this)⟩
  |true=>
   obtain⟨q,hq,Ej⟩:=he;obtain⟨z,h1,h2⟩:=BF h.2 (λj hj=>(fR.1 hj).elim (λe=>e▸hL) (hd j)) ⟨q,(fR.1 hq).resolve_left (λe=>by rw[e,hL]at Ej;cases Ej),Ej⟩;exact⟨z,fp _ h1,h2⟩
theorem yg{md:Region.Mode}{ops:Array Oper}{i j:Nat}(h:j∈BE ops i):j∈tM md ops i:=by
 unfold BE at h;unfold tM;split at h
 ·rename_i o ho;simp only[bM,gI]at h⊢;obtain⟨e,⟨he,hb⟩,rfl⟩:=h;refine⟨e,⟨he,?_⟩,rfl⟩;unfold Region.binds at hb⊢;revert hb;cases e.ground<;>simp
 ·cases h
def te(ops:Array Oper)(D:List (Nat×Nat))(T is:List Nat):Bool:=
 (!Region.departs ops||U7 .gc ops (U6 .gc ops ops.size []))&&(List.range ops.size).all (λi=>(tM .text ops i).all (· <i))&&D.all (λp=>iO ops p.2==some p.1)&&
 (List.range ops.size).all (λi=>match iO ops i with|some s=>G9 D s==some i|none=>true)&&
 (List.range ops.size).all (λi=>is.contains i||T.contains i)&&is.all (λi=> !T.contains i&&decide (i<ops.size))&&T.all (λi=>decide (i<ops.size))&&mI T
theorem SH{D:List (Nat×Nat)}{s w:Nat}(h:G9 D s=some w):(s,w)∈D:=by
 induction D with
 |nil=>cases h
 |cons p D ih=>
  obtain⟨s',w'⟩:=p;unfold G9 at h;split at h
  ·rename_i e;cases h;subst e;exact fY ..
  ·exact fp _ (ih h)
theorem J6{S:List SE}{pre:List Nat}{s:Nat}{v:Value}(h:WA S pre s=some v):∃ x∈S,x.t=s/\x.v=v/\x.i∈pre:=by
 induction S with
 |nil=>cases h
 |cons x S ih=>
  unfold WA at h;split at h
  ·split at h
   ·rename_i e1 e2;cases h;exact⟨x,fY ..,e1,rfl,by simpa using e2⟩
   ·obtain⟨y,hy,z⟩:=ih h;exact⟨y,fp _ hy,z⟩
  ·obtain⟨y,hy,z⟩:=ih h;exact⟨y,fp _ hy,z⟩
theorem J7{S:List SE}{s:Nat}{v:Value}(h:NA S s=some v):∃ x∈S,x.t=s/\x.v=v:=by
 induction S with
 |nil=>cases h
 |cons x S ih=>
  unfold NA at h;split at h
  ·rename_i e1;cases h;exact⟨x,fY ..,e1,rfl⟩
  ·obtain⟨y,hy,z⟩:=ih h;exact⟨y,fp _ hy,z⟩
theorem EW{S:List SE}{s:Nat}(h:NA S s=none):∀ x∈S,x.t≠s:=by
 induction S with
 |nil=>intro x hx;cases hx
 |cons y S ih=>
  unfold NA at h;split at h
  ·cases h
  ·rename_i e1;intro x hx;rcases fR.1 hx with rfl|hx
   ·exact e1
   ·exact ih h x hx
theorem lR{ops:Array Oper}{f i j:Nat}(h:reach ops (f+1) i j=true):i=j\/∃ m∈BE ops i,reach ops f m j=true:=by simpa only[reach,yB,sY,oZ]using h
theorem gP{ops:Array Oper}{L:Nat->Prop}(hc:∀ w,L w->∀ j∈BE ops w,L j):∀ (f i j:Nat),reach ops f i j=true->L i->L j
 |0,i,j,h,hl=>by simp[reach]at h;subst h;exact hl
 |f+1,i,j,h,hl=>by
  simp only[reach,yB,sY,oZ]at h;rcases h with rfl|⟨m,hm,h⟩
  ·exact hl
  ·exact gP hc f m j h (hc i hl m hm)
structure BG(ops:Array Oper)(D:List (Nat×Nat))(T is:List Nat):Prop where
 prog:∀ md (L:Nat->Bool),(∃ i,i<ops.size/\L i=false)->∃ i,i<ops.size/\L i=false/\∀ j∈tM md ops i,L j=true
 down:∀ i,i<ops.size->∀ j∈BE ops i,j<i
 d1:∀ s w,G9 D s=some w->iO ops w=some s
 d2:∀ i s,iO ops i=some s->G9 D s=some i
 cov:∀ i,i<ops.size->i∈is\/i∈T
 isT:∀ i∈is,i∉T/\i<ops.size
 Tlt:∀ i∈T,i<ops.size
 nd:mI T=true
theorem J8:∀ {l:List Oper} {i:Nat} {o:Oper},SC l i=some o->i<l.length
 |[],_,_,h=>by cases h
 |_::_,0,_,_=>by simp
 |_::l,i+1,_,h=>by have:=J8 (l:=l) h;simp;omega
theorem nz{ops:Array Oper}{i s:Nat}(h:iO ops i=some s):i<ops.size:=by
 unfold iO at h;cases e:aZ ops i with
 |none=>rw[e]at h;cases h
 |some o=>have:=J8 e;simpa using this
section
variable{P:bL}{ao:Bool}{B:kJ}{R:Nat->aM->Array Obj->Prop}{d:Nat}{fn:bJ}{kd:Kd}{n:Nat}{ds:List eo}{ops:Array Oper}{k:List Item}{cs:List Frame}{e0:Nat->Value}{D:List (Nat×Nat)}{W lN:List HP}{T is:List Nat}{a:Nat}{S:List SE}
structure U8(R:Nat->aM->Array Obj->Prop)(d:Nat)(fn:bJ)(kd:Kd)(n:Nat)(ds:List eo)(ops:Array Oper)(k:List Item)(cs:List Frame)(e0:Nat->Value)(D:List (Nat×Nat))(W lN:List HP)(T is:List Nat)(a:Nat)(S:List SE)(L:Nat->Prop)(e:Nat->Value)(K:List SE)(Td T' Ts:List Nat)(As:List HP):Prop where
 v1:∀ x∈K++S,L x.i->e x.t=x.v
 v2:∀ s,G9 D s=none->e s=e0 s
 v3:∀ s w,G9 D s=some w->¬ L w->e s=e0 s
 cl:∀ w,L w->∀ j∈BE ops w,L j
 tt:T.Perm (Td++(T'++Ts))
 td:∀ t∈Td,L t
 tn:∀ t∈T',¬ L t
 lk:∀ x∈K++S,iO ops x.i=some x.t
 ka:∀ t∈Td,∀ s,iO ops t=some s->∃ x∈K,x.t=s
 ki:∀ x∈K,x.i∈Td
 sS:∀ x∈S,(x.i∈is\/x.i∈Ts)/\∃ Sx,(∀ y∈Sx,y∈K++S)/\Zq R d fn kd n ds ops k cs e0 D W Sx x
 sI:∀ i,i∈is\/i∈Ts->∃ x∈S,x.i=i
 sL:∀ x∈S,x.ld=true->(T.filter λt=> !reach ops 8 t x.i).length<=a
 sU:∀ x∈S,∀ y∈S,x.i=y.i->x=y
 ch:Ch R d fn kd n ds ops k cs e0 D W T'.length S T' (a-Td.length) K As
 aS:Td.length<=a->Ext As W
theorem U8.env{L:Nat->Prop}{e:Nat->Value}{K:List SE}{Td T' Ts:List Nat}{As:List HP}(h:U8 R d fn kd n ds ops k cs e0 D W lN T is a S L e K Td T' Ts As){i:Nat}(hi:¬ L i)(hr:∀ j∈BE ops i,L j){S':List SE}(hS:∀ x∈S',x∈K++S):mW e0 D ops i S' e=e:=by
 funext s
 unfold mW;cases h1:WA S' (BE ops i) s with
 |some v=>
  obtain⟨x,hx,rfl,rfl,hp⟩:=J6 h1;exact(h.v1 x (hS x hx) (hr _ hp)).symm
 |none=>
  simp only;cases h2:G9 D s with
  |none=>exact(h.v2 s h2).symm
  |some w=>
   simp only;split
   ·rename_i hc;have hiw:i∈BE ops w:=by simpa using hc
    exact(h.v3 s w h2 λhl=>hi (h.cl w hl i hiw)).symm
   ·rfl
def v7(f:Nat->Bool):Nat->Nat
 |0=>0
 |m+1=>v7 f m+(if f m then 0 else 1)
theorem rm{f:Nat->Bool}:∀ {m:Nat},v7 f m=0->∀ i,i<m->f i=true
 |0,_,i,hi=>by omega
 |m+1,h,i,hi=>by
  unfold v7 at h;by_cases e:i=m
  ·subst e;by_cases hf:f i=true
   ·exact hf
   ·simp[hf]at h
  ·exact rm (m:=m) ai i ai
theorem uV{f f':Nat->Bool}{i:Nat}(h1:f i=false)(h2:f' i=true)(h3:∀ j,j≠i->f' j=f j):∀ {m:Nat},(i<m->v7 f' m+1=v7 f m)/\(m<=i->v7 f' m=v7 f m)
 |0=>⟨λh=>by omega,λ_=>rfl⟩
 |m+1=>by
  have ih:=uV h1 h2 h3 (m:=m);refine⟨λh=>?_,λh=>?_⟩
  ·unfold v7;by_cases e:i=m
   ·subst e;rw[ih.2 (e8 _),h1,h2];simp
   ·have:=ih.1 ai;rw[h3 m (jl e)];omega
  ·unfold v7;rw[ih.2 ai,h3 m ai]
theorem iU{f:Nat->Bool}:∀ {m:Nat},v7 f m≠0->∃ i,i<m/\f i=false/\∀ j,j<i->f j=true
 |0,h=>absurd rfl h
 |m+1,h=>by
  by_cases e:v7 f m=0
  ·refine⟨m,ai,?_,λj hj=>rm e j hj⟩;by_cases hf:f m=true
   ·unfold v7 at h;simp[e,hf]at h
   ·simpa using hf
  ·obtain⟨i,h1,h2⟩:=iU e;exact⟨i,ai,h2⟩
theorem tN{ops:Array Oper}{md:Region.Mode}(hd:∀ i,i<ops.size->∀ j∈tM md ops i,j<i)(L:Nat->Bool)(h:∃ i,i<ops.size/\L i=false):∃ i,i<ops.size/\L i=false/\∀ j∈tM md ops i,L j=true:=by obtain⟨q,hq,hL⟩:=h;obtain⟨i,h1,h2,h3⟩:=iU (f:=L) (m:=ops.size) (λz=>by rw[rm z q hq]at hL;cases hL);exact⟨i,h1,h2,λj hj=>h3 j (hd i h1 j hj)⟩
theorem uW{ops:Array Oper}{md:Region.Mode}{i j:Nat}:j∈tM md ops i↔∃ o,aZ ops i=some o/\∃ e∈o.after,Region.binds md e=true/\e.on=j:=by
 unfold tM;constructor
 ·intro h;split at h
  ·rename_i o ho;simp only[bM,gI,CP]at h;obtain⟨e,⟨he,hb⟩,rfl⟩:=h;exact⟨o,ho,e,he,hb,rfl⟩
  ·cases h
 ·rintro⟨o,ho,e,he,hb,rfl⟩;rw[ho];simp only[bM,gI,CP];exact⟨e,⟨he,hb⟩,rfl⟩
theorem uX{ops:Array Oper}{D:List (Nat×Nat)}{T is:List Nat}(h:te ops D T is=true):BG ops D T is:=by
 simp only[te,jc,Ex,kp,l8,yB,List.contains_iff_mem,qv,sY]at h;obtain⟨⟨⟨⟨⟨⟨⟨h1,h2⟩,h3⟩,h4⟩,h5⟩,h6⟩,h7⟩,h8⟩:=h;have LB:∀ i,i<ops.size->∀ j∈tM .any ops i,j<i:=λi hi j hj=>h2 i hi j (yg (by exact hj));refine⟨λmd L hex=>?_,λi hi j hj=>h2 i hi j (yg hj),λs w e=>h3 (s,w) (SH e),λi s e=>?_,h5,λi hi=>?_,h7,h8⟩
 ·cases md with
  |text=>exact tN h2 L hex
  |any=>exact tN LB L hex
  |gc=>
   rcases h1 with h1|h1
   ·refine tN (λi hi j hj=>?_) L hex;obtain⟨o,ho,e,he,hb,rfl⟩:=uW.1 hj;refine LB i hi _ (uW.2 ⟨o,ho,e,he,?_,rfl⟩);unfold Region.departs at h1;rw[Array.any_eq_false]at h1;have hn:ops[i]? =some o:=by rw[dv];exact ho
    rw[Ee hi]at hn;have:=h1 i hi;rw[bR hn]at this;cases hz:Region.binds .any e with
    |true=>rfl
    |false=>
     obtain⟨q,hq,rfl⟩:=ZT.1 he;exact absurd (Array.any_eq_true.2 ⟨q,hq,by simp[hz]⟩) this
   ·simp only[U7,jc,kp,l8,qv]at h1;obtain⟨⟨c1,c2⟩,c3⟩:=h1;obtain⟨q,hq,hL⟩:=hex;obtain⟨i,hi,xO⟩:=BF (L:=L) c3 (λj hj=>by cases hj) ⟨q,by have:=c1 q hq;simpa using this,hL⟩;exact⟨i,c2 i hi,xO⟩
 ·have:=h4 i (nz e);rw[e]at this;simpa using this
 ·have:=h6 i hi;exact⟨by have:=this.1;simpa using this,this.2⟩
theorem sg{md:Region.Mode}{listed:Array Bool}{i:Nat}(du:i<ops.size):(((ops[i]?).map (·.after.all λe=> !Region.binds md e||listed.getD e.on false)).getD false)=true↔∀ j∈tM md ops i,listed[j]?.getD false=true:=by
 have ho:ops[i]? =some ops[i]:=Ee du;have hn:aZ ops i=some ops[i]:=by rw[<- dv];exact ho
 rw[ho];simp only[jR,iA,Array.all_eq_true];constructor
 ·intro h j hj;obtain⟨o,U9,e,he,hb,rfl⟩:=uW.1 hj;rw[hn]at U9;obtain rfl:=bR U9;obtain⟨q,hq,rfl⟩:=ZT.1 he;have:=h q hq;rw[hb]at this;simpa[Array.getD_eq_getD_getElem?]using this
 ·intro h q hq;cases hb:Region.binds md (ops[i]).after[q]with
  |false=>simp
  |true=>
   have:=h _ (uW.2 ⟨_,hn,_,Array.getElem_mem hq,hb,rfl⟩);simp[Array.getD_eq_getD_getElem?,this]
theorem n6(md:Region.Mode)(ops:Array Oper)(fuel t:Nat)(listed:Array Bool)(i:Nat):Region.linearise.go md ops fuel t listed [i]=i::Region.linearise.go md ops fuel t listed []:=by rw[linearise_go_acc md ops fuel t listed [i]];rfl
theorem yh{listed:Array Bool}{i:Nat}(hi:i<listed.size)(j:Nat):(listed.setIfInBounds i true)[j]?.getD false=if j=i then true else listed[j]?.getD false:=by
 by_cases e:j=i
 ·subst e;rw[j7 hi];simp
 ·rw[gK (jl e)];simp[e]
theorem rq{a:Nat}{l:List Nat}(h:mI (a::l)=true):a∉l/\mI l=true:=by simp only[mI,jc,Ex]at h;exact⟨by have:=h.1;simpa using this,h.2⟩
theorem si:∀ {l:List Nat},mI l=true->l.Nodup
 |[],_=>Ey
 |a::l,h=>oX.2 ⟨(rq h).1,si (rq h).2⟩
theorem uY(rg:BG ops D T is){i j s:Nat}(h1:iO ops i=some s)(h2:iO ops j=some s):i=j:=by have:=(rg.d2 i s h1).symm.trans (rg.d2 j s h2);exact bR this
theorem U8.norm(rg:BG ops D T is){L:Nat->Prop}{e:Nat->Value}{K:List SE}{Td:List Nat}{As:List HP}:∀ (m:Nat) {S:List SE} {T' Ts:List Nat},T'.length=m->U8 R d fn kd n ds ops k cs e0 D W lN T is a S L e K Td T' Ts As->
  ∃ S' T2 Ts',U8 R d fn kd n ds ops k cs e0 D W lN T is a S' L e K Td T2 Ts' As/\(∀ f,T2.length=f+1->(∀ t∈Da ops T2,Nd R d fn kd n ds ops k cs e0 D W S' (λK As=>Ch R d fn kd n ds ops k cs e0 D W f S' (T2.erase t) (a-Td.length-1) K As) t (a-Td.length) K As)\/
   (∃ t,T2=[t]/\(∃ o,aZ ops t=some o/\o.dst=none)/\((List.range ops.size).all λi=>i==t||reach ops 8 t i)=true/\At R d As (gr fn kd n (qC e0 (K++S')) ds (.inRegion ops [t]::k) cs)))
 |0,S,T',Ts,hm,st=>⟨S,T',Ts,st,λf hf=>by omega⟩
 |m+1,S,T',Ts,hm,st=>by
  have oE:=st.ch;rw[hm]at oE;rcases oE with oE|⟨i,hi,t,v,ob,oE⟩|oE
  ·exact⟨S,T',Ts,st,λf hf=>by obtain rfl:f=m:=ai;exact .inl oE⟩
  rotate_left
  ·exact⟨S,T',Ts,st,λf hf=>.inr oE⟩
  ·have Va:T'.Perm (i::T'.erase i):=NX hi;have hlen:(T'.erase i).length=m:=by have:=Va.length_eq;simp only[jC]at this;omega
   have mP:(Td++(T'++Ts)).Nodup:=st.tt.nodup_iff.1 (si rg.nd);have hTi:i∈T:=st.tt.mem_iff.2 (jU _ (ks _ hi));have RR:∀ y∈S,y.i≠i:=λy hy e=>by
    rcases(st.sS y hy).1 with h|h
    ·exact(rg.isT _ h).1 (e▸hTi)
    ·exact(il.1 (il.1 mP).2.1).2.2 i hi y.i h e.symm
   have oI:iO ops i=some t:=by obtain⟨⟨o,ho,hd⟩,_⟩:=ob;unfold iO;rw[ho];exact hd
   refine U8.norm rg m (Ts:=i::Ts) hlen ⟨λx hx hL=>?_,st.v2,st.v3,st.cl,?_,st.td,λu hu=>st.tn u (List.mem_of_mem_erase hu),λx hx=>?_,st.ka,st.ki,λx hx=>?_,λj hj=>?_,λx hx Zr=>?_,λx hx y hy e=>?_,by rw[hlen];exact oE,st.aS⟩
   ·rcases bS.1 hx with hx|hx
    ·exact st.v1 x (ks _ hx) hL
    ·rcases fR.1 hx with rfl|hx
     ·exact absurd hL (st.tn _ hi)
     ·exact st.v1 x (jU _ hx) hL
   ·exact st.tt.trans (List.Perm.append_left _ ((Va.append_right Ts).trans (by simp only[fi];exact Jq.symm)))
   ·rcases bS.1 hx with hx|hx
    ·exact st.lk x (ks _ hx)
    ·rcases fR.1 hx with rfl|hx
     ·exact oI
     ·exact st.lk x (jU _ hx)
   ·rcases fR.1 hx with rfl|hx
    ·exact⟨.inr (fY ..),K++S,λy hy=>(bS.1 hy).elim (λh=>ks _ h) (λh=>jU _ (fp _ h)),ob⟩
    ·obtain⟨h1,Sx,h2,h3⟩:=st.sS x hx;exact⟨h1.imp_right (fp _),Sx,λy hy=>(bS.1 (h2 y hy)).elim (λh=>ks _ h) (λh=>jU _ (fp _ h)),h3⟩
   ·have:j=i\/(j∈is\/j∈Ts):=by
     rcases hj with h|h
     ·exact .inr (.inl h)
     ·rcases fR.1 h with h|h
      ·exact .inl h
      ·exact .inr (.inr h)
    rcases this with rfl|h
    ·exact⟨_,fY ..,rfl⟩
    ·obtain⟨x,hx,e⟩:=st.sI j h;exact⟨x,fp _ hx,e⟩
   ·rcases fR.1 hx with rfl|hx
    ·cases Zr
    ·exact st.sL x hx Zr
   ·rcases fR.1 hx with rfl|hx<;>rcases fR.1 hy with rfl|hy
    ·rfl
    ·exact absurd e.symm (RR y hy)
    ·exact absurd e (RR x hx)
    ·exact st.sU x hx y hy e
theorem v8{md:Region.Mode}(rg:BG ops D T is):
  ∀ (fuel t:Nat) (listed:Array Bool) (e:Nat->Value) (S:List SE) (K:List SE) (Td T' Ts:List Nat) (As:List HP),listed.size=ops.size->v7 (λi=>listed[i]?.getD false) ops.size=fuel->U8 R d fn kd n ds ops k cs e0 D W lN T is a S (λi=>listed[i]?.getD false=true) e K Td T' Ts As->
   At R d As (gr fn kd n e ds (.inRegion ops (Region.linearise.go md ops fuel t listed [])::k) cs):=by
 intro fuel
 induction fuel with
 |zero=>
  intro t listed e S K Td T' Ts As hsz hu st;have kC:=rm hu;have hT':T'=[]:=by
   cases T' with
   |nil=>rfl
   |cons x l=>exact absurd (kC x (rg.Tlt x (st.tt.mem_iff.2 (jU _ (ks _ (fY ..)))))) (st.tn x (fY ..))
  subst hT';simp only[Region.linearise.go,Ez];have he:e=qC e0 (K++S):=by
   funext s
   unfold qC;cases h1:NA (K++S) s with
   |some v=>
    obtain⟨x,hx,rfl,rfl⟩:=J7 h1;exact st.v1 x hx (kC _ (nz (st.lk x hx)))
   |none=>
    simp only;have m7:=EW h1;cases h2:G9 D s with
    |none=>exact st.v2 s h2
    |some w=>
     have hd:=rg.d1 s w h2;have hwc:(w∈is\/w∈Ts)\/w∈Td:=by
      rcases rg.cov w (nz hd)with hw|hw
      ·exact .inl (.inl hw)
      ·rcases bS.1 (st.tt.mem_iff.1 hw)with hw|hw
       ·exact .inr hw
       ·exact .inl (.inr (by simpa using hw))
     rcases hwc with hw|hw
     ·obtain⟨x,hx,rfl⟩:=st.sI w hw;have:=st.lk x (jU _ hx);rw[hd]at this;exact absurd (bR this).symm (m7 x (jU _ hx))
     ·obtain⟨x,hx,Wx⟩:=st.ka w hw s hd;exact absurd Wx (m7 x (ks _ hx))
  rw[he];exact st.ch
 |succ fuel ih=>
  intro t listed e S K Td T' Ts As hsz hu st0;obtain⟨S,T',Ts,st,aew⟩:=st0.norm rg _ rfl;have vQ:∀ i,i∈((List.range ops.size).filter λi=> !listed.getD i true&&((ops[i]?).map (·.after.all λe=> !Region.binds md e||listed.getD e.on false)).getD false)↔i<ops.size/\listed[i]?.getD false=false/\∀ j∈tM md ops i,listed[j]?.getD false=true:=by
   intro i;simp only[gI,l8,jc,Ex];constructor
   ·rintro⟨h1,h2,h3⟩;refine⟨h1,?_,(sg h1).1 h3⟩;have:i<listed.size:=ai;simpa[Array.getD_eq_getD_getElem?,this]using h2
   ·rintro⟨h1,h2,h3⟩;refine⟨h1,?_,(sg h1).2 h3⟩;have:i<listed.size:=ai;simpa[Array.getD_eq_getD_getElem?,this]using h2
  simp only[Region.linearise.go];generalize hG:((List.range ops.size).filter λi=> !listed.getD i true&&((ops[i]?).map (·.after.all λe=> !Region.binds md e||listed.getD e.on false)).getD false)=rs at vQ;obtain⟨i1,xP,LC,_⟩:=iU (f:=λi=>listed[i]?.getD false) (m:=ops.size) (by rw[hu];omega);obtain⟨i0,EJ,SI,Hz⟩:=rg.prog md (λi=>listed[i]?.getD false) ⟨i1,xP,LC⟩;have eV:rs.length≠0:=by have:i0∈rs:=(vQ i0).2 ⟨EJ,SI,Hz⟩;intro z;rw[NU]at z;rw[z]at this;cases this
  have HA:t%rs.length<rs.length:=EA _ ai;rw[cK HA];simp only;generalize ee:rs[t%rs.length]=i;have dR:i∈rs:=by rw[<- ee];exact dp HA
  obtain⟨du,AA,WB⟩:=(vQ i).1 dR;have iw:∀ j∈BE ops i,listed[j]?.getD false=true:=λj hj=>WB j (yg hj);have HC:Region.linearise.go md ops fuel (t/rs.length) (listed.setIfInBounds i true) [i]=i::Region.linearise.go md ops fuel (t/rs.length) (listed.setIfInBounds i true) []:=n6 md ops fuel (t/rs.length) (listed.setIfInBounds i true) i;rw[HC];have tG:(listed.setIfInBounds i true).size=ops.size:=by simpa using hsz
  have AO:i<listed.size:=ai;have kS:=yh (listed:=listed) AO;have Ha:v7 (λj=>(listed.setIfInBounds i true)[j]?.getD false) ops.size=fuel:=by have:=(uV (f:=λj=>listed[j]?.getD false) (f':=λj=>(listed.setIfInBounds i true)[j]?.getD false) (i:=i) AA (by simp[kS]) (λj hj=>by simp[kS,hj]) (m:=ops.size)).1 du;rw[hu]at this;omega
  have HD:¬ (listed[i]?.getD false=true):=by rw[AA];simp
  have hL:∀ j,((listed.setIfInBounds i true)[j]?.getD false=true)↔(j=i\/listed[j]?.getD false=true):=λj=>by rw[kS];by_cases e:j=i<;>simp[e]
  have mh:∀ w,(listed.setIfInBounds i true)[w]?.getD false=true->∀ j∈BE ops w,(listed.setIfInBounds i true)[j]?.getD false=true:=λw hw j hj=>by
   rw[hL]at hw⊢;rcases hw with rfl|hw
   ·exact .inr (iw j hj)
   ·exact .inr (st.cl w hw j hj)
  have mP:(Td++(T'++Ts)).Nodup:=st.tt.nodup_iff.1 (si rg.nd);have aex:(i∈is\/i∈Ts)\/i∈T':=by
   rcases rg.cov i du with jB|jB
   ·exact .inl (.inl jB)
   ·rcases bS.1 (st.tt.mem_iff.1 jB)with h|h
    ·exact absurd (st.td i h) HD
    ·rcases bS.1 h with h|h
     ·exact .inr h
     ·exact .inl (.inr h)
  have WC:∀ j,(j∈is\/j∈Ts)->j∉Td/\j∉T':=λj hj=>by
   rcases hj with hj|hj
   ·have:=(rg.isT j hj).1;exact⟨λh=>this (st.tt.mem_iff.2 (ks _ h)),λh=>this (st.tt.mem_iff.2 (jU _ (ks _ h)))⟩
   ·obtain⟨_,n2,n3⟩:=il.1 mP;exact⟨λh=>n3 j h j (jU _ hj) rfl,λh=>(il.1 n2).2.2 j h j hj rfl⟩
  rcases aex with jB|jB
  ·
   obtain⟨x,hx,rfl⟩:=st.sI i jB;obtain⟨_,Sx,hSx,ob⟩:=st.sS x hx;have HE:iO ops x.i=some x.t:=st.lk x (jU _ hx);have LD:=st.env HD iw (S':=Sx) λy hy=>hSx y hy;have hA:x.ld=true->Ext As W:=λZr=>by
    rcases lH a Td.length with du|Zc
    ·exfalso;have tF:∀ t∈Td,(!reach ops 8 t x.i)=true:=λt ht=>by
      cases hr:reach ops 8 t x.i with
      |false=>rfl
      |true=>exact absurd (gP st.cl 8 t x.i hr (st.td t ht)) HD
     have h1:=st.sL x hx Zr;have h2:(T.filter λt=> !reach ops 8 t x.i).length=((Td++(T'++Ts)).filter λt=> !reach ops 8 t x.i).length:=(st.tt.filter _).length_eq;rw[qw,List.filter_eq_self.2 tF,gO]at h2;omega
    ·exact st.aS Zc
   have key:=ob.2 As e (Region.linearise.go md ops fuel (t/rs.length) (listed.setIfInBounds x.i true) []) hA;rw[LD]at key;refine key (ih _ _ _ S K Td T' Ts As tG Ha ⟨λy hy WE=>?_,λs h2=>?_,λs w h2 hw=>?_,mh,st.tt,λt ht=>(hL t).2 (.inr (st.td t ht)),λt ht hLt=>?_,st.lk,st.ka,st.ki,st.sS,st.sI,st.sL,st.sU,st.ch,st.aS⟩)
   ·by_cases O6:y.i=x.i
    ·have Zf:y=x:=by
      rcases bS.1 hy with hy|hy
      ·exact absurd (O6▸st.ki y hy) (WC _ jB).1
      ·exact st.sU y hy x hx O6
     subst Zf;simp[put]
    ·have WH:listed[y.i]?.getD false=true:=((hL _).1 WE).resolve_left O6;have hyt:y.t≠x.t:=λe=>O6 (uY rg (st.lk y hy) (e▸HE));simp only[put,ax hyt];exact st.v1 y hy WH
   ·have:s≠x.t:=λe=>by subst e;rw[rg.d2 _ _ HE]at h2;cases h2
    simp only[put,ax this];exact st.v2 s h2
   ·have:s≠x.t:=λe=>by subst e;rw[rg.d2 _ _ HE]at h2;exact hw ((hL w).2 (.inl (bR h2).symm))
    simp only[put,ax this];exact st.v3 s w h2 λh=>hw ((hL w).2 (.inr h))
   ·rcases(hL t).1 hLt with rfl|h
    ·exact(WC _ jB).2 ht
    ·exact st.tn t ht h
  ·
   have J9:i∈T':=jB;have aez:T'.Nodup:=(il.1 (il.1 mP).2.1).1;have aau:i∈Da ops T':=by
    unfold Da;refine gI.2 ⟨J9,kp.2 λu hu=>?_⟩;by_cases hui:u=i
    ·simp[hui]
    ·cases hr:reach ops 8 i u with
     |false=>simp
     |true=>
      rcases lR (f:=7) hr with hr|⟨m,hm,hr⟩
      ·exact absurd hr.symm hui
      ·exact absurd (gP st.cl 7 m u hr (iw m hm)) (st.tn u hu)
   obtain⟨b,hb⟩:∃ b,b=T'.erase i:=⟨_,rfl⟩;have Va:T'.Perm (i::b):=by rw[hb];exact NX J9
   have aav:T'.length=b.length+1:=by rw[Va.length_eq];rfl
   have OD:i∉b:=by rw[hb];exact aez.not_mem_erase
   rcases aew _ aav with oE|⟨t1,hT1,⟨o,ho,hod⟩,kC,oE⟩
   rotate_left
   ·obtain rfl:i=t1:=by rw[hT1]at J9;exact dL.1 J9
    have aaw:∀ j,j<ops.size->j≠i->listed[j]?.getD false=true:=λj hj eV=>by
     have h1:=kp.1 kC j (l8.2 hj);have h2:reach ops 8 i j=true:=by simpa[eV]using h1
     rcases lR (f:=7) h2 with h3|⟨m,hm,h3⟩
     ·exact absurd h3.symm eV
     ·exact gP st.cl 7 m j h3 (iw m hm)
    have SI:fuel=0:=by
     rw[<- Ha];rcases Lf (v7 (λj=>(listed.setIfInBounds i true)[j]?.getD false) ops.size)with h1|h1
     ·exact h1
     ·obtain⟨j,hj,hfj,_⟩:=iU (f:=λj=>(listed.setIfInBounds i true)[j]?.getD false) (NY.1 h1);exfalso;have:(listed.setIfInBounds i true)[j]?.getD false=true:=(hL j).2 (by
       by_cases e:j=i
       ·exact .inl e
       ·exact .inr (aaw j hj e))
      rw[this]at hfj;cases hfj
    subst SI;simp only[Region.linearise.go,Ez];have he:e=qC e0 (K++S):=by
     funext s
     unfold qC;cases h1:NA (K++S) s with
     |some v=>
      obtain⟨x,hx,rfl,rfl⟩:=J7 h1;refine st.v1 x hx (aaw _ (nz (st.lk x hx)) λz=>?_);have:=st.lk x hx;rw[z]at this;unfold iO at this;rw[ho]at this;simp only at this;rw[hod]at this;cases this
     |none=>
      simp only;have m7:=EW h1;cases h2:G9 D s with
      |none=>exact st.v2 s h2
      |some w=>
       have hd:=rg.d1 s w h2;have hwi:w≠i:=λz=>by unfold iO at hd;rw[z,ho]at hd;simp only at hd;rw[hod]at hd;cases hd
       have hwc:(w∈is\/w∈Ts)\/w∈Td:=by
        rcases rg.cov w (nz hd)with hw|hw
        ·exact .inl (.inl hw)
        ·rcases bS.1 (st.tt.mem_iff.1 hw)with hw|hw
         ·exact .inr hw
         ·rcases bS.1 hw with hw|hw
          ·rw[hT1]at hw;exact absurd (dL.1 hw) hwi
          ·exact .inl (.inr hw)
       rcases hwc with hw|hw
       ·obtain⟨x,hx,rfl⟩:=st.sI w hw;have:=st.lk x (jU _ hx);rw[hd]at this;exact absurd (bR this).symm (m7 x (jU _ hx))
       ·obtain⟨x,hx,Wx⟩:=st.ka w hw s hd;exact absurd Wx (m7 x (ks _ hx))
    rw[he];exact oE
   have oE:=oE i aau;rw[<- hb]at oE;have LD:=st.env HD iw (S':=K++S) λy hy=>hy;have aax:∀ y∈K++S,y.i≠i:=λy hy e=>by
    rcases bS.1 hy with hy|hy
    ·exact HD (e▸st.td _ (st.ki y hy))
    ·exact(WC _ (st.sS y hy).1).2 (e▸jB)
   have htn:∀ t∈b,¬ (listed.setIfInBounds i true)[t]?.getD false=true:=λu hu hLu=>by
    rcases(hL u).1 hLu with rfl|h
    ·exact OD hu
    ·exact st.tn u (Va.mem_iff.2 (fp _ hu)) h
   have htt:T.Perm (Td++[i]++(b++Ts)):=by refine st.tt.trans ?_;rw[sN];exact(Va.append_right Ts).append_left Td
   have EX:∀ (o:Oper),aZ ops i=some o->∀ aP v,((Td++[i]).length<=a->Ext aP W)->Ch R d fn kd n ds ops k cs e0 D W b.length S b (a-(Td++[i]).length) (match o.dst with|some s=>⟨i,s,v,false⟩::K|none=>K) aP->
     At R d aP (gr fn kd n (dm e o.dst v) ds (.inRegion ops (Region.linearise.go md ops fuel (t/rs.length) (listed.setIfInBounds i true) [])::k) cs):=by
    intro o ho aP v aaz kI;cases hd:o.dst with
    |none=>
     rw[hd]at kI;have hdn:iO ops i=none:=by unfold iO;rw[ho];exact hd
     refine ih _ _ _ S K (Td++[i]) b Ts aP tG Ha ⟨λy hy WE=>?_,st.v2,λs w h2 hw=>st.v3 s w h2 λh=>hw ((hL w).2 (.inr h)),mh,htt,λu hu=>?_,htn,st.lk,λu hu s hs=>?_,λy hy=>ks _ (st.ki y hy),st.sS,st.sI,st.sL,st.sU,kI,aaz⟩
     ·exact st.v1 y hy (((hL _).1 WE).resolve_left (aax y hy))
     ·rcases bS.1 hu with hu|hu
      ·exact(hL u).2 (.inr (st.td u hu))
      ·exact(hL u).2 (.inl (by simpa using hu))
     ·rcases bS.1 hu with hu|hu
      ·exact st.ka u hu s hs
      ·have:u=i:=by simpa using hu
       subst this;rw[hdn]at hs;cases hs
    |some s0=>
     rw[hd]at kI;have hdi:iO ops i=some s0:=by unfold iO;rw[ho];exact hd
     refine ih _ _ _ S (⟨i,s0,v,false⟩::K) (Td++[i]) b Ts aP tG Ha ⟨λy hy WE=>?_,λs h2=>?_,λs w h2 hw=>?_,mh,htt,λu hu=>?_,htn,λy hy=>?_,λu hu s hs=>?_,λy hy=>?_,λx hx=>(by obtain⟨h1,Sx,h2,h3⟩:=st.sS x hx;exact⟨h1,Sx,λy hy=>fp _ (h2 y hy),h3⟩),st.sI,st.sL,st.sU,kI,aaz⟩
     ·rcases fR.1 hy with rfl|hy
      ·simp[dm,put]
      ·have O6:=aax y hy;have hyt:y.t≠s0:=λe=>O6 (uY rg (st.lk y hy) (e▸hdi));simp only[dm,put,ax hyt];exact st.v1 y hy (((hL _).1 WE).resolve_left O6)
     ·have:s≠s0:=λe=>by subst e;rw[rg.d2 _ _ hdi]at h2;cases h2
      simp only[dm,put,ax this];exact st.v2 s h2
     ·have:s≠s0:=λe=>by subst e;rw[rg.d2 _ _ hdi]at h2;exact hw ((hL w).2 (.inl (bR h2).symm))
      simp only[dm,put,ax this];exact st.v3 s w h2 λh=>hw ((hL w).2 (.inr h))
     ·rcases bS.1 hu with hu|hu
      ·exact(hL u).2 (.inr (st.td u hu))
      ·exact(hL u).2 (.inl (by simpa using hu))
     ·rcases fR.1 hy with rfl|hy
      ·exact hdi
      ·exact st.lk y hy
     ·rcases bS.1 hu with hu|hu
      ·obtain⟨x,hx,e⟩:=st.ka u hu s hs;exact⟨x,fp _ hx,e⟩
      ·have:u=i:=by simpa using hu
       subst this;rw[hdi]at hs;exact⟨_,fY ..,bR hs⟩
     ·rcases fR.1 hy with rfl|hy
      ·exact jU _ (fY ..)
      ·exact ks _ (st.ki y hy)
   have hlen:(Td++[i]).length=Td.length+1:=by simp
   cases hm:a-Td.length with
   |zero=>
    rw[hm]at oE;obtain⟨o,ho,oE⟩:=oE;have key:=oE e (Region.linearise.go md ops fuel (t/rs.length) (listed.setIfInBounds i true) []);rw[LD]at key;refine key λaP v kI=>EX o ho aP v (λh=>by omega) ?_;have:a-(Td++[i]).length=0-1:=ai;rw[this];exact kI
   |succ m=>
    rw[hm]at oE;obtain⟨o,ho,oE⟩:=oE;have key:=oE e (Region.linearise.go md ops fuel (t/rs.length) (listed.setIfInBounds i true) []);rw[LD]at key;refine key λaP v hx kI=>EX o ho aP v (λh=>hx.ext (st.aS ai)) ?_;have:a-(Td++[i]).length=m+1-1:=ai;rw[this];exact kI
theorem Dr.uniq:∀ (is:List Nat) (S:List SE),mI is=true->(∀ x∈S,x.i∉is)->(∀ x∈S,∀ y∈S,x.i=y.i->x=y)->Dr R d fn kd n ds ops k cs e0 D W lN T a S is->∃ S',(∀ x∈S,x∈S')/\(∀ x∈S',x∈S\/(x.i∈is/\∃ Sx,(∀ y∈Sx,y∈S')/\Zq R d fn kd n ds ops k cs e0 D W Sx x))/\(∀ i∈is,∃ x∈S',x.i=i)/\
  (∀ x∈S',x.ld=true->(T.filter λt=> !reach ops 8 t x.i).length<=a)/\(Ext lN W/\Ch R d fn kd n ds ops k cs e0 D W T.length S' T a [] lN)/\(∀ x∈S',∀ y∈S',x.i=y.i->x=y)
 |[],S,_,_,hU,h=>by obtain⟨h1,h2⟩:=h;refine⟨S,λx hx=>hx,λx hx=>.inl hx,λi hi=>(by cases hi),λx hx Zr=>?_,h2,hU⟩;have:=kp.1 h1 x hx;rw[Zr]at this;simpa using this
 |i::is,S,hn,RR,hU,h=>by
  obtain⟨t,v,ld,o,h⟩:=h;obtain⟨EY,hn2⟩:=rq hn;obtain⟨S',a1,a2,a3,a4,a5,a6⟩:=Dr.uniq is _ hn2 (λx hx=>by
   rcases fR.1 hx with rfl|hx
   ·exact EY
   ·exact λz=>RR x hx (fp _ z)) (λx hx y hy e=>by
   rcases fR.1 hx with rfl|hx<;>rcases fR.1 hy with rfl|hy
   ·rfl
   ·exact absurd (fR.2 (.inl e.symm)) (RR y hy)
   ·exact absurd (fR.2 (.inl e)) (RR x hx)
   ·exact hU x hx y hy e) h
  refine⟨S',λx hx=>a1 x (fp _ hx),λx hx=>?_,λj hj=>?_,a4,a5,a6⟩
  ·rcases a2 x hx with hx|⟨hx,y⟩
   ·rcases fR.1 hx with rfl|hx
    ·exact .inr ⟨fY ..,S,λy hy=>a1 y (fp _ hy),o⟩
    ·exact .inl hx
   ·exact .inr ⟨fp _ hx,y⟩
  ·rcases fR.1 hj with rfl|hj
   ·exact⟨_,a1 _ (fY ..),rfl⟩
   ·exact a3 j hj
theorem nA(m i:Nat):(Array.replicate m false)[i]?.getD false=false:=by rw[Array.getElem?_replicate];split<;>rfl
theorem ab.O7(C:ab P ao B R){c:Code}(D:List (Nat×Nat))(is T:List Nat)(a:Nat)(h:Dr R d fn kd n ds (cO c) k cs e0 D W lN T a [] is)(hc:ck c=.draw:=by rfl)(hr:te (cO c) D T is=true:=by decide+kernel)(hn:mI is=true:=by rfl):
  At R d lN (gr fn kd n e0 ds (.code c::k) cs):=by
 refine C.dr (λt=>?_) hc;have rg:=uX hr;obtain⟨S,_,a2,a3,a4,a5,a6⟩:=Dr.uniq is [] hn (λx hx=>by cases hx) (λx hx=>by cases hx) h;have a2':∀ x∈S,x.i∈is/\∃ Sx,(∀ y∈Sx,y∈S)/\Zq R d fn kd n ds (cO c) k cs e0 D W Sx x:=λx hx=>(a2 x hx).resolve_left (by simp);have dI:∀ listed:Array Bool,listed=Array.replicate (cO c).size false->U8 R d fn kd n ds (cO c) k cs e0 D W lN T is a S (λi=>listed[i]?.getD false=true) e0 [] [] T [] lN:=λlisted hl=>by
  have m7:∀ i,¬ (listed[i]?.getD false=true):=λi=>by subst hl;rw[nA];simp
  have oI:∀ x∈([]:List SE)++S,iO (cO c) x.i=some x.t:=λx hx=>by obtain⟨_,Sx,_,⟨o,ho,hd⟩,_⟩:=a2' x (by simpa using hx);unfold iO;rw[ho];exact hd
  exact⟨λx _ hx=>absurd hx (m7 _),λ_ _=>rfl,λ_ _ _ _=>rfl,λw hw=>absurd hw (m7 w),by rw[l7];exact .refl _,λt ht=>(by cases ht),λt _=>m7 t,oI,λt ht=>(by cases ht),λx hx=>(by cases hx),λx hx=>(by obtain⟨h1,Sx,h2,h3⟩:=a2' x hx;exact⟨.inl h1,Sx,λy hy=>by simpa using h2 y hy,h3⟩),λi hi=>a3 i (hi.resolve_right (by simp)),a4,a6,a5.2,λ_=>a5.1⟩
 have aaB:∀ m,v7 (λi=>(Array.replicate (cO c).size false)[i]?.getD false) m=m:=λm=>by
  induction m with
  |zero=>rfl
  |succ m ih=>
   unfold v7;rw[ih,nA];rfl
 unfold Region.schedule;split
 ·unfold Region.linearise;exact v8 rg (cO c).size _ _ e0 S [] [] T [] lN (by simp) (aaB _) (dI _ rfl)
 ·unfold Region.linearise;exact v8 rg (cO c).size _ _ e0 S [] [] T [] lN (by simp) (aaB _) (dI _ rfl)
theorem ab.drawn(C:ab P ao B R){c:Code}(D:List (Nat×Nat))(is T:List Nat)(a:Nat)(h:Dr R d fn kd n ds (cO c) k cs e0 D lN lN T a [] is)(hc:ck c=.draw:=by rfl)(hr:te (cO c) D T is=true:=by decide+kernel)(hn:mI is=true:=by rfl):
  At R d lN (gr fn kd n e0 ds (.code c::k) cs):=C.O7 D is T a h hc hr hn
end
end
section
open Go.Conc
class iD{α:Type}(f:α->List Value)(z:outParam Nat):Prop where
 len:∀ a,(f a).length=z
 one:∀ a,∀ v∈f a,fZ v=true
def az.b(s:az):Nat:=match s.a with|some a=>a.block|none=>0
def fI{α:Type}(I:HL)(f:α->List Value)(el:aO)(s:az)(l:List α):Prop:=
 (s=aR/\l=[])\/∃ pad,s=⟨some ⟨s.b,0,none⟩,l.length,s.cap⟩/\I s.b=some (.cells (gL f l pad) el (0,0))
theorem fI.mono{α:Type}{I I':HL}{f:α->List Value}{el:aO}{s:az}{l:List α}(h:fI I f el s l)(hs:Sub I I'):fI I' f el s l:=
 h.imp id λ⟨pad,h1,h2⟩=>⟨pad,h1,hs _ _ h2⟩
theorem fI.nil{α:Type}(I:HL)(f:α->List Value)(el:aO):fI I f el aR []:=.inl ⟨rfl,rfl⟩
inductive dZ{α:Type}(f:α->List Value)(el:aO)(s:az)(l:List α):List HP->Prop
 |own {z:Nat} {As L:List HP}:Fo (bG f z el s l) As L->dZ f el s l As
 |bD {I:HL} {As L:List HP}:Fo (bD I) As L->fI I f el s l->dZ f el s l As
 |ext {As lN:List HP}:Ext As lN->dZ f el s l lN->dZ f el s l As
section
variable{α:Type}{f:α->List Value}{el:aO}{s:az}{l:List α}{As:List HP}{h:HL}
theorem dZ.get(r:dZ f el s l As)(st:Sat As h):(s=aR/\l=[])\/∃ pad,s=⟨some ⟨s.b,0,none⟩,l.length,s.cap⟩/\h s.b=some (.cells (gL f l pad) el (0,0)):=by
 induction r with
 |@own z As L fo=>
  obtain⟨hh,x,jd,_⟩:=st.perm fo.perm;rcases x with⟨rfl,rfl⟩|⟨b,pad,e,_,_,vW⟩
  ·exact .inl ⟨rfl,rfl⟩
  ·have hb:s.b=b:=by rw[e];rfl
   refine .inr ⟨pad,by rw[hb];exact e,?_⟩;subst vW;rw[hb];exact jd b _ (by simp[one])
 |bD fo hi=>
  rcases hi with⟨rfl,rfl⟩|⟨pad,h1,h2⟩
  ·exact .inl ⟨rfl,rfl⟩
  ·exact .inr ⟨pad,h1,(st.perm fo.perm).rh h2⟩
 |ext e _ ih=>exact ih (e _ st)
theorem dZ.at{i:Nat}(r:dZ f el s l As)(st:Sat As h)(hi:i<l.length):∃ pad,s=⟨some ⟨s.b,0,none⟩,l.length,s.cap⟩/\h s.b=some (.cells (gL f l pad) el (0,0)):=by
 rcases r.get st with⟨_,rfl⟩|h
 ·simp at hi
 ·exact h
theorem dZ.src{B:kJ}{H:Array Obj}{z:Nat}[rf:iD f z](r:dZ f el s l As)(st:Sat As (hp H))(hs:∀ j,B.sh el j=false):n4 B H z l.length s.v (flat f l):=by
 rcases r.get st with⟨rfl,rfl⟩|⟨pad,h1,h2⟩
 ·exact .inl ⟨rfl,rfl,rfl⟩
 ·refine .inr ⟨s.b,0,s.cap,_,_,by rw[h1];rfl,h2,?_,?_,hs⟩
  ·rw[jj rf.len];omega
  ·have U3:(flat f l).length=l.length*z:=fq rf.len l;rw[l5,<- U3];simp[gL]
theorem dZ.aaC{B:kJ}{H:Array Obj}{z:Nat}[rf:iD f z](r:dZ f el s l As)(st:Sat As (hp H))(hs:∀ j,B.sh el j=false)(i m:Nat)(him:i+m<=l.length)(cap:Nat)(a:Option Addr)(ha:m≠0->a=some ⟨s.b,i*z,none⟩)(hn:m=0->a=none/\cap=0\/∃ o,a=some ⟨s.b,o,none⟩/\l≠[]/\o<=l.length*z):
  n4 B H z m (.slice a m cap) (flat f ((l.drop i).take m)):=by
 rcases r.get st with⟨rfl,rfl⟩|⟨pad,h1,h2⟩
 ·have:m=0:=by simp at him;omega
  subst this;rcases hn rfl with⟨rfl,rfl⟩|⟨o,_,eV,_⟩
  ·exact .inl ⟨rfl,rfl,by simp[flat]⟩
  ·exact absurd rfl eV
 ·have U3:(flat f l).length=l.length*z:=fq rf.len l;by_cases hm:m=0
  ·subst hm;rcases hn rfl with⟨rfl,rfl⟩|⟨o,rfl,eV,ho⟩
   ·exact .inl ⟨rfl,rfl,by simp[flat]⟩
   ·exact .inr ⟨s.b,o,cap,_,_,rfl,h2,by rw[jj rf.len];omega,by simp[flat];omega,hs⟩
  ·rw[ha hm];refine .inr ⟨s.b,i*z,cap,_,_,rfl,h2,?_,?_,hs⟩
   ·rw[jj rf.len,<- qI];have:=CS z him;omega
   ·rw[<- qI];have hlen:(l.take (i+m)).length=i+m:=by rw[jS];omega
    have e1:flat f l++pad=flat f (l.take i)++(flat f ((l.drop i).take m)++(flat f (l.drop (i+m))++pad)):=by
     have:l=l.take i++((l.drop i).take m++l.drop (i+m)):=by rw[<- Jr,sZ,sZ]
     conv=>lhs;rw[this,jW,jW]
     simp
    have e2:(flat f (l.take i)).length=i*z:=by rw[fq rf.len,jS,xG ai]
    have e3:(flat f ((l.drop i).take m)).length=m*z:=by rw[fq rf.len,jS,CU,xG ai]
    unfold gL;rw[e1,Sf]
    congr 1
    rw[Sg,qI,<- e2,List.drop_left,Sj,<- e3,List.take_left]
end
section
variable{P:bL}{ao:Bool}{B:kJ}{R:Nat->aM->Array Obj->Prop}{d:Nat}{As aP L F:List HP}
variable{fn:bJ}{kd:Kd}{n:Nat}{e:Nat->Value}{ds:List eo}{k:List Item}{cs:List Frame}
variable{ops:Array Oper}{i:Nat}{aa:List Nat}{dst:Option Nat}{t:Nat}{ty:aO}{pos:String}{af:Array Edge}{gd:Option (Nat×Bool)}{x y w:cZ}{v u:Value}{b off:Nat}{c:Array Value}{el tt t2 t3:aO}{kk:IntKind}
theorem ab.xQ(C:ab P ao B R){c:Code}{t:Bool}(h1:t=true->At R d As (gr fn kd n e ds (.code (cT c)::k) cs))(h2:t=false->At R d As (gr fn kd n e ds (.code (cE c)::k) cs))(hc:ck c=.cond:=by rfl)(hb:ev n e (cC c)=.bool t:=by rfl):At R d As (gr fn kd n e ds (.code c::k) cs):=by
 cases t with
 |true=>exact C.cT' (h1 rfl) hc hb
 |false=>exact C.cF' (h2 rfl) hc hb
theorem ab.fF(C:ab P ao B R){f:bJ}{fu:Func}{c:Code}{nf:Nat}[b:Body P f fu c nf]{fo:cZ}{args:Array cZ}{gy:Array aO}{vl:List Value}{A:List HP}{Q:Value->List HP->Prop}(hs:aI P ao B f vl.toArray A Q)
  (h:∀ v aP,Q v aP->At R d (aP++F) (gr fn kd n (dm e dst v) ds (.inRegion ops aa::k) cs))
  (ho:aZ ops i=some ⟨dst,.call ⟨.value fo,args,gy⟩,ty,pos,af,gd⟩:=by rfl) (hv:args.toList.map (ev n e)=vl:=by rfl) (hf:ev n e fo=.func (.func f) #[] #[]:=by rfl)
  (hr:fg A As F:=by exact fg.au) (hw:aL ops n e gd=true:=by rfl):Nw R d As fn kd n e ds ops i aa k cs:=
 At.perm hr.perm (C.cl hs h ho hw hf hv)
theorem ab.Vb(C:ab P ao B R){f:bJ}{fu:Func}{c:Code}{nf:Nat}[b:Body P f fu c nf]{fo:cZ}{args:Array cZ}{gy:Array aO}{a1 a2:Array Value}{vl:List Value}{A:List HP}{Q:Value->List HP->Prop}(hs:aI P ao B f (a1++vl.toArray++a2) A Q)
  (h:∀ v aP,Q v aP->At R d (aP++F) (gr fn kd n (dm e dst v) ds (.inRegion ops aa::k) cs))
  (ho:aZ ops i=some ⟨dst,.call ⟨.value fo,args,gy⟩,ty,pos,af,gd⟩:=by rfl) (hv:args.toList.map (ev n e)=vl:=by rfl) (hf:ev n e fo=.func (.func f) a1 a2:=by rfl)
  (hr:fg A As F:=by exact fg.au) (hw:aL ops n e gd=true:=by rfl):Nw R d As fn kd n e ds ops i aa k cs:=by
 refine At.perm hr.perm (C.gen ho hw λH s=>?_);unfold execOp;simp only;refine ae ?_;have qK:args.map (ev n e)=vl.toArray:=by rw[<- hv,<- qZ,tC]
 simp only[resolve,hf,Deferred.ofValue,qK];refine ae ?_;show dJ P B _ _ _ _;show dJ P B (invoke (.fn (.func f) a2) (a1++vl.toArray)) H d _;unfold invoke;refine nY (P:=P) _ B H d _ ⟨A++F,s,?_⟩;exact hs R C .qL d F _ cs trivial λv aP q=>by show At R d (aP++F) (fy _ cs v);rw[po ho];exact h v aP q
section
variable{α:Type}{f:α->List Value}{z:Nat}{s:az}{l:List α}{j o:Nat}
theorem ab.pS(C:ab P ao B R)[cE:El P tt el](ho:aZ ops i=some ⟨some t,.call ⟨.builtin .len,#[x],#[tt]⟩,ty,pos,af,gd⟩)(h:Nx R d As fn kd n e ds ops aa k cs t (.int .i64 l.length))
  (hx:ev n e x=s.v:=by rfl) (hr:dZ f el s l As:=by first|(apply dZ.own;exact Fo.au;done)|(apply dZ.bD;exact Fo.au;assumption)|(apply dZ.ext;assumption;apply dZ.own;exact Fo.au;done)|(apply dZ.ext;assumption;apply dZ.bD;exact Fo.au;assumption)) (hw:aL ops n e gd=true:=by rfl):Nw R d As fn kd n e ds ops i aa k cs:=
 C.gen ho hw λH st=>by
  have hl:s.len=l.length:=by
   rcases hr.get st with⟨rfl,rfl⟩|⟨pad,h1,_⟩
   ·rfl
   ·rw[h1]
  unfold execOp;simp only[resolve];refine ae (aA ?_);simp only[AM,gW,l6,hx];unfold invoke builtin;refine ae ?_;unfold Builtin.len_;refine ae (dF cE.h B H d _ ?_);refine aA (aA ⟨As,st,?_⟩);rw[hl];exact h
theorem ab.dQ(C:ab P ao B R)[rf:iD f z][c:El P tt el][Cz P el z](ho:aZ ops i=some ⟨some t,.indexAddr tt x y,ty,pos,af,gd⟩)(h:Nx R d As fn kd n e ds ops aa k cs t (.pointer (some ⟨s.b,j*z,none⟩)))
  (hx:ev n e x=s.v:=by rfl) (hy:ev n e y=.int kk (j:Int):=by rfl) (hr:dZ f el s l As:=by first|(apply dZ.own;exact Fo.au;done)|(apply dZ.bD;exact Fo.au;assumption)|(apply dZ.ext;assumption;apply dZ.own;exact Fo.au;done)|(apply dZ.ext;assumption;apply dZ.bD;exact Fo.au;assumption)) (hj:j<l.length:=by omega) (hw:aL ops n e gd=true:=by rfl):Nw R d As fn kd n e ds ops i aa k cs:=
 C.gen ho hw λH st=>by
  obtain⟨pad,hs,_⟩:=hr.at st hj;have fb:ev n e x=.slice (some ⟨s.b,0,none⟩) l.length s.cap:=by rw[hx];unfold az.v;have h1:s.a=some ⟨s.b,0,none⟩:=congrArg az.a hs;have h2:s.len=l.length:=congrArg az.len hs;rw[h1,h2]
  unfold execOp;simp only[fb,hy,Instr.indexAt,asIntOf];refine ae (ae (aA ?_));refine ae (dF c.h B H d _ ?_);refine ae (aA ?_);refine ae (dF c.h B H d _ ?_);simp only;rw[aG ai];refine ae (iy B H d _ (aA ?_));rw[gY];refine⟨As,st,?_⟩;have:0+(j:Int).toNat*z=j*z:=by simp
  rw[this];exact h
theorem ab.w7(C:ab P ao B R)[rf:iD f z][Ag P tt false](ho:aZ ops i=some ⟨some t,.load tt x,ty,pos,af,gd⟩)(h:Nx R d As fn kd n e ds ops aa k cs t v)
  (hx:ev n e x=.pointer (some ⟨s.b,j*z+o,none⟩):=by rfl) (hr:dZ f el s l As:=by first|(apply dZ.own;exact Fo.au;done)|(apply dZ.bD;exact Fo.au;assumption)|(apply dZ.ext;assumption;apply dZ.own;exact Fo.au;done)|(apply dZ.ext;assumption;apply dZ.bD;exact Fo.au;assumption)) (hj:j<l.length:=by omega) (hv:(f l[j])[o]? =some v:=by rfl) (hz:o<z:=by decide) (hs:B.sh el (j*z+o)=false:=by rfl) (hw:aL ops n e gd=true:=by rfl):Nw R d As fn kd n e ds ops i aa k cs:=
 C.gen ho hw λH st=>by obtain⟨pad,_,hg⟩:=hr.at st hj;unfold execOp;simp only[hx,Instr.loadAt,Instr.sureAddr];exact ae (ae (aA (iT hg ((O1 rf.len hj hz rfl).trans hv) hs ⟨As,st,h⟩)))
theorem ab.dd(C:ab P ao B R)[rf:iD f z][Ag P tt false](ho:aZ ops i=some ⟨some t,.load tt x,ty,pos,af,gd⟩)(h:Nx R d As fn kd n e ds ops aa k cs t v)
  (hx:ev n e x=.pointer (some ⟨s.b,j*z,none⟩):=by rfl) (hr:dZ f el s l As:=by first|(apply dZ.own;exact Fo.au;done)|(apply dZ.bD;exact Fo.au;assumption)|(apply dZ.ext;assumption;apply dZ.own;exact Fo.au;done)|(apply dZ.ext;assumption;apply dZ.bD;exact Fo.au;assumption)) (hj:j<l.length:=by omega) (hv:(f l[j])[0]? =some v:=by rfl) (hz:0<z:=by decide) (hs:B.sh el (j*z+0)=false:=by rfl) (hw:aL ops n e gd=true:=by rfl):Nw R d As fn kd n e ds ops i aa k cs:=
 C.w7 (o:=0) ho h hx hr hj hv hz hs hw
theorem ab.xR(C:ab P ao B R)[rf:iD f z][Ag P tt true][Cz P tt z](ho:aZ ops i=some ⟨some t,.load tt x,ty,pos,af,gd⟩)(h:∀ hj:j<l.length,Nx R d As fn kd n e ds ops aa k cs t (.agg (f l[j]).toArray))
  (hx:ev n e x=.pointer (some ⟨s.b,j*z,none⟩):=by rfl) (hr:dZ f el s l As:=by first|(apply dZ.own;exact Fo.au;done)|(apply dZ.bD;exact Fo.au;assumption)|(apply dZ.ext;assumption;apply dZ.own;exact Fo.au;done)|(apply dZ.ext;assumption;apply dZ.bD;exact Fo.au;assumption)) (hj:j<l.length:=by omega) (hs:∀ q,B.sh el q=false:=by intro q;rfl) (hw:aL ops n e gd=true:=by rfl):Nw R d As fn kd n e ds ops i aa k cs:=
 C.gen ho hw λH st=>by
  obtain⟨pad,_,hg⟩:=hr.at st hj;unfold execOp;simp only[hx,Instr.loadAt,Instr.sureAddr];refine ae (ae (aA (pY hg ?_ hs ?_)))
  ·rw[jj rf.len];have:=CS z (show j+1<=l.length by omega);rw[qI]at this;omega
  ·rw[Hu rf.len hj rfl];exact⟨As,st,h hj⟩
theorem ab.WI(C:ab P ao B R)(hj:j<l.length)[rf:iD f z][Ag P tt true][Cz P tt z](ho:aZ ops i=some ⟨some t,.load tt x,ty,pos,af,gd⟩)(h:Nx R d As fn kd n e ds ops aa k cs t (.agg (f l[j]).toArray))
  (hx:ev n e x=.pointer (some ⟨s.b,j*z,none⟩):=by rfl) (hr:dZ f el s l As:=by first|(apply dZ.own;exact Fo.au;done)|(apply dZ.bD;exact Fo.au;assumption)|(apply dZ.ext;assumption;apply dZ.own;exact Fo.au;done)|(apply dZ.ext;assumption;apply dZ.bD;exact Fo.au;assumption)) (hs:∀ q,B.sh el q=false:=by intro q;rfl) (hw:aL ops n e gd=true:=by rfl):Nw R d As fn kd n e ds ops i aa k cs:=C.xR ho (λ_=>h) hx hr hj hs hw
end
end
end
section
open Go.Conc
variable{P:bL}{ao:Bool}{B:kJ}{R:Nat->aM->Array Obj->Prop}{d:Nat}{As aP Bs L F:List HP}
variable{fn:bJ}{kd:Kd}{n:Nat}{e:Nat->Value}{ds:List eo}{k:List Item}{cs:List Frame}
variable{ops:Array Oper}{i:Nat}{aa:List Nat}{dst:Option Nat}{t:Nat}{ty:aO}{pos:String}{af:Array Edge}{gd:Option (Nat×Bool)}{x y w:cZ}{v u:Value}{b off:Nat}{c:Array Value}{el tt t2 t3:aO}{kk:IntKind}
theorem ab.cu(C:ab P ao B R){c:Code}{X:Type}(L:X->List (Nat×Value))(I:X->List HP)(Ok:X->Prop)(m:X->Nat)(x0:X)(he:jV e (L x0))(mG:Ok x0)
  (step:∀ x e,Ok x->(∀ y e' aP,Ok y->m y<m x->jV e' (L y)->cV aP (I y)->At R d aP (gr fn kd n e' ds (.inLoop (cB c)::k) cs))->At R d (I x) (gr fn kd n (rk e (L x)) ds (.code (cB c):: .inLoop (cB c)::k) cs))
  (hI:cV As (I x0):=by exact cV.au) (hc:ck c=.loop:=by rfl):At R d As (gr fn kd n e ds (.code c::k) cs):=
 At.lP hI (C.aak L I Ok m x0 he rfl mG (λx e mG ih=>step x e mG λy e' aP hy du xM hr=>At.lP hr (ih y e' xM hy du)) hc)
theorem again{X:Type}{L:X->List (Nat×Value)}{I:X->List HP}{Ok:X->Prop}{m:X->Nat}{x0:X}{body:Code}(ih:∀ y e' aP,Ok y->m y<m x0->jV e' (L y)->cV aP (I y)->At R d aP (gr fn kd n e' ds (.inLoop body::k) cs))(y:X)(hy:Ok y)(hm:m y<m x0)
  (he:jV e (L y):=by repeat(first|exact trivial|refine And.intro rfl ?_)) (hr:cV As (I y):=by exact cV.au):At R d As (gr fn kd n e ds (.inLoop body::k) cs):=ih y e As hy hm he hr
theorem aeD{G:Prop}(φ:Prop)(L:List (Nat×Value))(O8:List HP){k1:List Item}(h1:(∀ e' aP,φ->jV e' L->cV aP O8->At R d aP (gr fn kd n e' ds k1 cs))->G)(h2:φ->∀ e,At R d O8 (gr fn kd n (rk e L) ds k1 cs)):G:=
 h1 λe' aP hφ he hr=>At.lP hr (by rw[<- j5 he];exact h2 hφ e')
theorem join{φ:Prop}{L:List (Nat×Value)}{O8:List HP}{k1:List Item}(h:∀ e' aP,φ->jV e' L->cV aP O8->At R d aP (gr fn kd n e' ds k1 cs))(hφ:φ)
  (he:jV e L:=by repeat(first|exact trivial|refine And.intro rfl ?_)) (hr:cV As O8:=by exact cV.au):At R d As (gr fn kd n e ds k1 cs):=h e As hφ he hr
theorem mj{G:Prop}{X:Type}(φ:X->Prop)(L:X->List (Nat×Value))(O8:X->List HP){k1:List Item}(h1:(∀ x e' aP,φ x->jV e' (L x)->cV aP (O8 x)->At R d aP (gr fn kd n e' ds k1 cs))->G)(h2:∀ x,φ x->∀ e,At R d (O8 x) (gr fn kd n (rk e (L x)) ds k1 cs)):G:=
 h1 λx e' aP hφ he hr=>At.lP hr (by rw[<- j5 he];exact h2 x hφ e')
theorem bN{X:Type}{φ:X->Prop}{L:X->List (Nat×Value)}{O8:X->List HP}{k1:List Item}(h:∀ x e' aP,φ x->jV e' (L x)->cV aP (O8 x)->At R d aP (gr fn kd n e' ds k1 cs))(x:X)(hφ:φ x)
  (he:jV e (L x):=by repeat(first|exact trivial|refine And.intro rfl ?_)) (hr:cV As (O8 x):=by exact cV.au):At R d As (gr fn kd n e ds k1 cs):=h x e As hφ he hr
theorem ab.cm(C:ab P ao B R){fu:Func}{cc:Code}{n':Nat}[b:Body P fn fu cc n']{c:Frame}{x:Code}{Q:Value->List HP->Prop}(aT:xN kd c)(ak:∀ v aP,Q v aP->At R d (aP++F) (after kd c cs v)){v0:Value}(q:Q v aP)
  (hv:tK fu n e=some v0:=by rfl) (qV:v0=v:=by first|((conv=>{lhs;whnf});done)|rfl) (hr:cV As (aP++F):=by exact cV.au) (hx:ck x=.ret:=by rfl):At R d As (gr fn kd n e [] (.code x::k) (c::cs)):=
 C.OW aT (At.lP hr (ak v aP q)) (qV▸hv) hx
theorem ab.eJ(C:ab P ao B R){fu:Func}{cc:Code}{n':Nat}[b:Body P fn fu cc n']{c:Frame}{Q:Value->List HP->Prop}(aT:xN kd c)(ak:∀ v aP,Q v aP->At R d (aP++F) (after kd c cs v)){v0:Value}(q:Q v aP)
  (hv:tK fu n e=some v0:=by rfl) (qV:v0=v:=by first|((conv=>{lhs;whnf});done)|rfl) (hr:cV As (aP++F):=by exact cV.au):At R d As (gr fn kd n e [] [] (c::cs)):=
 C.aam aT (At.lP hr (ak v aP q)) (qV▸hv)
def BH(pl:List (Nat×Nat)):Array Value->List (Nat×Value)->Array Value
 |c,[]=>c
 |c,(i,v)::l=>BH pl (wr c (pl.getD i (0,0)).1 v.cells.toList) l
def Db(pl:List (Nat×Nat))(m:Nat):List (Nat×Value)->Bool
 |[]=>true
 |(i,v)::l=>(match pl[i]? with|some (o,z)=>v.cells.size==z&&decide (o+z<=m)|none=>false)&&Db pl m l
theorem fill_eq(pl:List (Nat×Nat)):∀ (l:List (Nat×Value)) (c:Array Value),Db pl c.size l=true->Instr.fill (pl.toArray[·]?) c l=some (BH pl c l)
 |[],c,_=>rfl
 |(i,v)::l,c,h=>by
  unfold Db at h;simp only[jc]at h;obtain⟨h1,h2⟩:=h;unfold Instr.fill BH;simp only[Hh];cases hp:pl[i]? with
  |none=>rw[hp]at h1;cases h1
  |some oz=>
   obtain⟨o,z⟩:=oz;rw[hp]at h1;simp only[jc,sY,qv]at h1;have hg:pl.getD i (0,0)=(o,z):=by simp[List.getD,hp]
   simp only[hg];have hn:¬ ((decide (v.cells.size≠z)||decide (o+v.cells.size>c.size))=true):=by rw[h1.1];have:=h1.2;simp;omega
   rw[ax hn];have hf:Array.foldl (λcs (x:Value×Nat)=>match x with|(c,j)=>cs.setIfInBounds (o+j) c) c v.cells.zipIdx=wr c o v.cells.toList:=by rw[<- V8,V9];exact C9 o v.cells.toList 0 _
   rw[hf];have key:=fill_eq pl l (wr c o v.cells.toList) (by rw[yf];exact h2);simp only[Hh]at key;exact key
inductive PV(n:Nat)(e:Nat->Value):List (Nat×cZ)->List (Nat×Value)->Prop
 |nil:PV n e [] []
 |cons {i:Nat} {x:cZ} {v:Value} {l:List (Nat×cZ)} {m:List (Nat×Value)} (h:ev n e x=v):PV n e l m->PV n e ((i,x)::l) ((i,v)::m)
theorem PV.eq{l:List (Nat×cZ)}{m:List (Nat×Value)}(p:PV n e l m):l.map (λ(i,x)=>(i,ev n e x))=m:=by
 induction p with
 |nil=>rfl
 |cons h _ ih=>simp[h,ih]
theorem ab.bd(C:ab P ao B R){zs xs:Array Value}{parts:Array (Nat×cZ)}{pl:List (Nat×Nat)}{pv:List (Nat×Value)}[cz:Zv P tt (.agg zs)][yi:Bd P tt pl](ho:aZ ops i=some ⟨some t,.build tt parts,ty,pos,af,gd⟩)(h:Nx R d As fn kd n e ds ops aa k cs t (.agg xs))
  (hp:PV n e parts.toList pv:=by repeat(first|exact PV.nil|(apply PV.cons;focus (conv=>{lhs;whnf})))) (mG:Db pl zs.size pv=true:=by rfl)
  (hx:BH pl zs pv=xs:=by first|(simp only[BH,wr,Value.cells,List.getD_cons_zero,List.getD_cons_succ,Si,l5,Nat.reduceAdd,yx,xE,sK];done)|(simp only[BH,wr,Value.cells,List.getD_cons_zero,List.getD_cons_succ,Si,l5,Nat.reduceAdd,yx,xE,sK];rfl)|rfl) (hw:aL ops n e gd=true:=by rfl):Nw R d As fn kd n e ds ops i aa k cs:=
 C.val ho hw (λB H d Q q'=>by obtain⟨fs,h1,h2⟩:=yi.h;unfold execOp;simp only[Instr.build];refine ae (ae (nZ B H d _ (ae (dF h1 B H d _ ?_))));simp only[Value.cells];rw[NZ];refine ae ?_;rw[N3];refine ae (h2.pu B H d _ (aA ?_));have:=fill_eq pl pv zs mG;rw[qZ,hp.eq,this,hx];exact q') h
theorem ab.AV(C:ab P ao B R){z:Nat}{zv:Value}[cE:El P tt el][Cz P el z][Zv P el zv](ho:aZ ops i=some ⟨some t,.buildSlice tt 1 #[(0,x)],ty,pos,af,gd⟩)
  (h:∀ b,Nx R d (da b (.cells c el (0,0))::As) fn kd n e ds ops aa k cs t (.slice (some ⟨b,0,none⟩) 1 1))
  (hx:ev n e x=v:=by conv=>{lhs;whnf}) (hc:v.cells=c:=by first|(simp only[Value.cells];done)|(simp only[Value.cells];rfl)|rfl) (hv:v.cells.size=z:=by rfl) (h0:1*z≠0:=by decide) (hm:1*z<=16777216:=by decide) (hw:aL ops n e gd=true:=by rfl):Nw R d As fn kd n e ds ops i aa k cs:=by
 subst hc;refine C.bs (vs:=[v]) ho (λb=>?_) (by simp[hx]) rfl (by simpa using hv) h0 hm hw;have e1:([v].flatMap (·.cells.toList)).toArray=v.cells:=by simp
 rw[e1];exact h b
variable{α:Type}{f:α->List Value}{z:Nat}{s:az}{l m:List α}{j o:Nat}
theorem ab.Vd(C:ab P ao B R){O3 bz:Nat}{zv:Value}{yv:Value}[rf:iD f z][cE:El P tt el][cE3:El P t3 O3][Cz P el z][cB:Bz P el bz][Zv P el zv](m:List α)
  (ho:aZ ops i=some ⟨some t,.call ⟨.builtin .append,#[x,y],#[tt,t3]⟩,ty,pos,af,gd⟩) (h:∀ s':az,Nx R d (bG f z el s' (l++m)::L) fn kd n e ds ops aa k cs t s'.v)
  (hx:ev n e x=s.v:=by rfl) (hy:ev n e y=yv:=by rfl) (hf:Fo (bG f z el s l) As L:=by exact Fo.au) (hsrc:∀ H,Sat As (hp H)->n4 B H z m.length yv (flat f m))
  (hsz:(l.length+m.length)*bz<=140737488355328:=by(try simp only[jC,CR]);omega) (O4:zv.cells.size=z:=by rfl) (Az:bz≠0:=by decide) (hb:∀ b j,B.rd b el j=false/\B.sh el j=false:=by intro _ j;exact⟨rfl,rfl⟩) (hw:aL ops n e gd=true:=by rfl):Nw R d As fn kd n e ds ops i aa k cs:=
 At.fo hf (C.ap ho rf.len rf.one (λH s'=>hsrc H (s'.perm hf.perm.symm)) (λs' _=>h s') hsz hx hy O4 Az hb hw)
theorem At.SJ{B:kJ}{H:Array Obj}{b2:Nat}{ty2:aO}{c2:Array Value}{nn:Nat}(hh:Has b2 (.cells c2 ty2 (0,0)) As)(st:Sat As (hp H))(hs:∀ j,B.sh ty2 j=false){xs:List Value}(hc:c2=xs.toArray)(hn:nn*z=xs.length):n4 B H z nn (.slice (some ⟨b2,0,none⟩) nn nn) xs:=by subst hc;exact .inr ⟨b2,0,nn,_,_,rfl,hh.get st,by simp[hn],by rw[hn,l5];simp,hs⟩
theorem ab.BI(C:ab P ao B R){O3 bz b2:Nat}{ty2:aO}{c2:Array Value}{zv:Value}[rf:iD f z][cE:El P tt el][cE3:El P t3 O3][Cz P el z][cB:Bz P el bz][Zv P el zv](a:α)
  (ho:aZ ops i=some ⟨some t,.call ⟨.builtin .append,#[x,y],#[tt,t3]⟩,ty,pos,af,gd⟩) (h:∀ s':az,Nx R d (bG f z el s' (l++[a])::L) fn kd n e ds ops aa k cs t s'.v)
  (hx:ev n e x=s.v:=by rfl) (hy:ev n e y=.slice (some ⟨b2,0,none⟩) 1 1:=by rfl) (hf:Fo (bG f z el s l) As L:=by exact Fo.au) (hh:Has b2 (.cells c2 ty2 (0,0)) As:=by exact Has.au) (hc:c2=(f a).toArray:=by rfl)
  (hsz:(l.length+1)*bz<=140737488355328:=by omega) (hs:∀ j,B.sh ty2 j=false:=by intro j;rfl) (O4:zv.cells.size=z:=by rfl) (Az:bz≠0:=by decide) (hb:∀ b j,B.rd b el j=false/\B.sh el j=false:=by intro _ j;exact⟨rfl,rfl⟩) (hw:aL ops n e gd=true:=by rfl):Nw R d As fn kd n e ds ops i aa k cs:=
 C.Vd (O3:=O3) [a] ho h hx hy hf (λH st=>At.SJ hh st hs (xs:=flat f [a]) (by rw[hc];simp[flat]) (by simp[flat,rf.len])) hsz O4 Az hb hw
theorem EZ{α:Type}{f:α->List Value}{z:Nat}{el:aO}{s:az}{l:List α}(hl:0<l.length)(h:HL)(x:bG f z el s l h):s.a=some ⟨s.b,0,none⟩/\s.len=l.length/\l.length<=s.cap:=by
 rcases x with⟨_,rfl⟩|⟨b,pad,e,_,h2,_⟩
 ·simp at hl
 ·have hb:s.b=b:=by rw[e];rfl
  exact⟨by rw[hb];exact congrArg az.a e,congrArg az.len e,h2⟩
theorem At.aR(f:α->List Value)(z:Nat)(el:aO){g:aM}(h:At R d (bG f z el Go.Sl.aR []::As) g):At R d As g:=λH s=>by
 have e:less (hp H) (λ_=>none)=hp H:=by funext b;simp[less]
 refine h H ⟨λ_=>none,.inl ⟨rfl,rfl⟩,λ_ _ x=>(by cases x),?_⟩;rw[e];exact s
theorem At.E0{g:aM}(h:At R d (all []::As) g):At R d As g:=λH s=>h H (Sat.iC (l:=[]) s)
theorem At.O9{I:HL}{g:aM}{L2:List HP}(hf:Fo (bG f z el s l) As L)(hi:Fo (bD I) L L2)(h:∀ I',Sub I I'->fI I' f el s l->At R d (bD I'::L2) g):At R d As g:=by
 refine At.fo hf λH st=>?_;obtain⟨hh,x,jd,hr⟩:=st;rcases x with⟨rfl,rfl⟩|⟨b,pad,e,_,_,vW⟩
 ·exact h I (Sub.refl I) (.inl ⟨rfl,rfl⟩) H ((hr.mono ns).perm hi.perm)
 ·have Ka:Sat (da b (.cells (gL f l pad) el (0,0))::bD I::L2) (hp H):=⟨hh,vW,jd,hr.perm hi.perm⟩;have hb:s.b=b:=by rw[e];rfl
  refine At.freeze (λI' h1 h2=>h I' h1 (.inr ⟨pad,by rw[hb];exact e,by rw[hb];exact h2⟩)) H Ka
theorem At.own{g:aM}(s:az)(pad:List Value)(hs:s=⟨some ⟨b,0,none⟩,l.length,s.cap⟩)(hl:l.length*z+pad.length=s.cap*z)(hle:l.length<=s.cap)(hf:Fo (da b (.cells (gL f l pad) el (0,0))) As L)(h:At R d (bG f z el s l::L) g):At R d As g:=
 At.turn hf (λ_ hh=>.inr ⟨b,pad,hs,hl,hle,hh⟩) h
theorem ab.Ve(C:ab P ao B R)[rf:iD f z][Cz P tt 1](a:α)(ho:aZ ops i=some ⟨none,.store tt x y,ty,pos,af,gd⟩)(h:At R d (bG f z el s (l.set j a)::L) (gr fn kd n e ds (.inRegion ops aa::k) cs))
  (hx:ev n e x=.pointer (some ⟨s.b,j*z+o,none⟩):=by rfl) (hy:ev n e y=v:=by conv=>{lhs;whnf}) (hf:Fo (bG f z el s l) As L:=by exact Fo.au) (hj:j<l.length:=by omega) (ha:f a=(f l[j]).set o v:=by rfl) (hz:o<z:=by decide) (hb:∀ b j,B.rd b el j=false/\B.sh el j=false:=by intro _ j;exact⟨rfl,rfl⟩) (hv:fZ v=true:=by rfl) (hw:aL ops n e gd=true:=by rfl):Nw R d As fn kd n e ds ops i aa k cs:=by
 refine At.fo hf λH st=>?_;obtain⟨hh,xx,jd,hr⟩:=st;rcases xx with⟨rfl,rfl⟩|⟨b,pad,e1,h1,h2,vW⟩
 ·simp at hj
 ·have hsb:s.b=b:=by rw[e1];rfl
  rw[hsb]at hx;have Ka:Sat (da b (.cells (gL f l pad) el (0,0))::L) (hp H):=⟨hh,vW,jd,hr⟩;refine C.st ho ?_ hx hy hv .head rfl ?_ (hb _ _).1 (hb 0 _).2 hw H Ka
  ·rw[Lx rf.len hj hz rfl a ha];refine λH st=>h H (st.imp λhl hhl=>.inr ⟨b,pad,?_,?_,?_,hhl⟩)
   ·rw[eg];exact e1
   ·rw[eg];exact h1
   ·rw[eg];exact h2
  ·rw[jj rf.len];have:=CS z (show j+1<=l.length by omega);rw[qI]at this;omega
theorem ab.jA(C:ab P ao B R)[rf:iD f z][Cz P tt 1](a:α)(ho:aZ ops i=some ⟨none,.store tt x y,ty,pos,af,gd⟩)(h:At R d (bG f z el s (l.set j a)::L) (gr fn kd n e ds (.inRegion ops aa::k) cs))
  (hx:ev n e x=.pointer (some ⟨s.b,j*z,none⟩):=by rfl) (hy:ev n e y=v:=by conv=>{lhs;whnf}) (hf:Fo (bG f z el s l) As L:=by exact Fo.au) (hj:j<l.length:=by omega) (ha:f a=(f l[j]).set 0 v:=by rfl) (hz:0<z:=by decide) (hb:∀ b j,B.rd b el j=false/\B.sh el j=false:=by intro _ j;exact⟨rfl,rfl⟩) (hv:fZ v=true:=by rfl) (hw:aL ops n e gd=true:=by rfl):Nw R d As fn kd n e ds ops i aa k cs:=
 C.Ve (o:=0) a ho h hx hy hf hj ha hz hb hv hw
theorem ab.WJ(C:ab P ao B R)[rf:iD f z][Cz P tt z]{xs:Array Value}(a:α)(ho:aZ ops i=some ⟨none,.store tt x y,ty,pos,af,gd⟩)(h:At R d (bG f z el s (l.set j a)::L) (gr fn kd n e ds (.inRegion ops aa::k) cs))
  (hx:ev n e x=.pointer (some ⟨s.b,j*z,none⟩):=by rfl) (hy:ev n e y=.agg xs:=by rfl) (hf:Fo (bG f z el s l) As L:=by exact Fo.au) (hj:j<l.length:=by omega) (ha:(f a).toArray=xs:=by rfl) (hb:∀ b j,B.rd b el j=false/\B.sh el j=false:=by intro _ j;exact⟨rfl,rfl⟩) (hw:aL ops n e gd=true:=by rfl):Nw R d As fn kd n e ds ops i aa k cs:=by
 refine At.fo hf λH st=>?_;obtain⟨hh,xx,jd,hr⟩:=st;rcases xx with⟨rfl,rfl⟩|⟨b,pad,e1,h1,h2,vW⟩
 ·simp at hj
 ·have hsb:s.b=b:=by rw[e1];rfl
  rw[hsb]at hx;subst ha;have Ka:Sat (da b (.cells (gL f l pad) el (0,0))::L) (hp H):=⟨hh,vW,jd,hr⟩;refine C.tL ho ?_ hx hy (λv hv=>rf.one a v (by simpa using hv)) (by simp[rf.len]) .head rfl ?_ (λj=>(hb _ j).1) (λj=>(hb 0 j).2) hw H Ka
  ·rw[O2 rf.len hj rfl a];refine λH st=>h H (st.imp λhl hhl=>.inr ⟨b,pad,?_,?_,?_,hhl⟩)
   ·rw[eg];exact e1
   ·rw[eg];exact h1
   ·rw[eg];exact h2
  ·rw[jj rf.len];have:=CS z (show j+1<=l.length by omega);rw[qI]at this;omega
variable{g:aM}
theorem y4{l m As:List HP}(p:l.Perm m){h:HL}(s:Sat (all l::As) h):Sat (all m::As) h:=(s.flat.perm (p.append_right As)).iC
theorem uZ{X:Type}{l:List X}{i:Nat}(hi:i<l.length):l.Perm (l[i]::l.eraseIdx i):=by
 rw[Js]
 conv=>lhs;rw[<- sZ i l,o3 hi]
 exact Jq
theorem SK{X:Type}{l:List X}{i:Nat}(hi:i<l.length)(u:X):(l.set i u).Perm (u::l.eraseIdx i):=by rw[Js,V6,aG hi];exact Jq
variable{f:α->HP}
theorem Dc(hi:i<l.length)(hf:Fo (all (l.map f)) As L)(h:At R d (f l[i]::all ((l.eraseIdx i).map f)::L) g):At R d As g:=
 At.fo hf λH s=>h H (Sat.under (λ_ s=>Sat.iC s) (Sat.flat (l:=f l[i]::(l.eraseIdx i).map f) (y4 ((uZ hi).map f) s)))
theorem Pa(hi:i<l.length)(u:α)(hr:fg [f u,all ((l.eraseIdx i).map f)] As L)(h:At R d (all ((l.set i u).map f)::L) g):At R d As g:=
 At.perm hr.perm λH s=>h H (y4 ((SK hi u).symm.map f) (Sat.iC (l:=f u::(l.eraseIdx i).map f) (Sat.under (λ_ s=>Sat.flat s) s)))
theorem yj(u:α)(hr:fg [f u,all (l.map f)] As L)(h:At R d (all ((l++[u]).map f)::L) g):At R d As g:=
 At.perm hr.perm λH s=>h H (y4 (by have:=(UC u l).symm.map f;exact this) (Sat.iC (l:=f u::l.map f) (Sat.under (λ_ s=>Sat.flat s) s)))
end
structure bP where
 w:Bool
 k:Int
 v:Int
structure MsgR where
 kind:Int
 bq:Int
 to:Int
 tx:Int
 yes:Bool
 ops:List bP
 reads:List Int
structure RecR where
 kind:Int
 tx:Int
 yes:Bool
 home:Int
 ops:List bP
 reads:List Int
structure VoteR where
 bq:Int
 reads:List Int
structure fO where
 tx:Int
 ops:List bP
 bk:List VoteR
 dec:Bool
 yes:Bool
 cy:List Int
structure fU where
 tm:Int
 again:Bool
 tx:Int
structure kt where
 key:Int
 tx:Int
structure ShR where
 me:Int
 n:Int
 up:Bool
 log:List RecR
 aH:Int
 bT:List Int
 aX:List kt
 under:List fO
 timers:List fU
 waits:List MsgR
 clock:Int
 out:List MsgR
def atR(key n:Int):Int:=(key-97).tmod n
def br(ops:List bP)(s n:Int):List bP:=ops.filter λo=>atR o.k n==s
def de(ops:List bP)(s n:Int):Bool:= !(br ops s n).isEmpty
def isRec(kind tx:Int)(r:RecR):Bool:=r.kind==kind&&r.tx==tx
def findD(log:List RecR)(kind tx:Int):Nat->Option Nat
 |0=>none
 |i+1=>if(log[i]?).any (isRec kind tx)then some i else findD log kind tx i
def aW(log:List RecR)(kind tx:Int):Option Nat:=findD log kind tx log.length
def bj(log:List RecR)(tx:Int):Option Nat:=if(aW log 3 tx).isSome then none else aW log 1 tx
def dz(l:List fO)(tx:Int):Option Nat:=l.findIdx? λu=>u.tx==tx
def eh(s:ShR)(m:MsgR):ShR:={s with out:=s.out++[{m with bq:=s.me}]}
def eX(s:ShR)(m:MsgR):ShR:={s with waits:=s.waits++[{m with bq:=s.me}]}
def bK:MsgR:=⟨0,0,0,0,false,[],[]⟩
def dC:RecR:=⟨0,0,false,0,[],[]⟩
def upto(n:Int):List Int:=(List.range n.toNat).map Int.ofNat
def im(s:ShR)(ops:List bP)(f:ShR->Int->List bP->ShR):ShR:=(upto s.n).foldl (λz k=>if(br ops k s.n).isEmpty then z else f z k (br ops k s.n)) s
def kT(s:ShR)(m:MsgR):ShR:=
 match aW s.log 2 m.tx with
 |some d=>if(d:Int)<s.aH then eh s {bK with kind:=7,to:= -1,tx:=m.tx,yes:=(s.log[d]?.getD dC).yes,reads:=(s.log[d]?.getD dC).reads}else s
 |none=>
  if(dz s.under m.tx).isSome then s else
  let s1:=im {s with under:=s.under++[⟨m.tx,m.ops,[],false,false,[]⟩]} m.ops λz k p=>eh z {bK with kind:=2,to:=k,tx:=m.tx,ops:=p}
  {s1 with timers:=s1.timers++[⟨s1.clock+4,true,m.tx⟩]}
def bU(u:fO)(k:Int):Option VoteR:=u.bk.find? λv=>v.bq==k
def gG(u:fO)(n:Int):List bP->(Int->Nat)->List Int
 |[],_=>[]
 |o::l,used=>
  if o.w then gG u n l used else
  let k:=atR o.k n
  (((bU u k).map (·.reads)).getD [])[used k]?.getD 0::gG u n l (λj=>if j=k then used k+1 else used j)
def jG(u:fO)(n:Int):List Int:=gG u n u.ops λ_=>0
def n7(n:Int)(ops:List bP)(p:Int->Bool):Bool:=(upto n).all λk=> !de ops k n||p k
def nB(s:ShR)(m:MsgR):ShR:=
 match dz s.under m.tx with
 |none=>s
 |some i=>
  match s.under[i]? with
  |none=>s
  |some u=>
   if u.dec then s else
   let u1:=if m.yes&& !(bU u m.bq).isSome then{u with bk:=u.bk++[⟨m.bq,m.reads⟩]}else u
   if m.yes&& !n7 s.n u1.ops (λk=>(bU u1 k).isSome)then{s with under:=s.under.set i u1}else
   let u2:={u1 with dec:=true,yes:=m.yes}
   let rd:=if m.yes then jG u2 s.n else[]
   let s1:={s with under:=s.under.set i u2,log:=s.log++[{dC with kind:=2,tx:=m.tx,yes:=m.yes,reads:=rd}]}
   let s2:=im s1 u2.ops λz k _=>eX z {bK with kind:=4,to:=k,tx:=m.tx,yes:=m.yes}
   eX s2 {bK with kind:=7,to:= -1,tx:=m.tx,yes:=m.yes,reads:=rd}
def u5(s:ShR)(m:MsgR):ShR:=
 match dz s.under m.tx with
 |none=>s
 |some i=>
  match s.under[i]? with
  |none=>s
  |some u=>
   if !u.dec then s else
   let u1:={u with cy:=u.cy++[m.bq]}
   if n7 s.n u1.ops (λk=>u1.cy.contains k)then{s with under:=s.under.eraseIdx i}else{s with under:=s.under.set i u1}
def u6(s:ShR)(m:MsgR):ShR:=
 match aW s.log 2 m.tx with
 |some d=>if(d:Int)<s.aH then eh s {bK with kind:=4,to:=m.bq,tx:=m.tx,yes:=(s.log[d]?.getD dC).yes}else s
 |none=>
  if(dz s.under m.tx).isSome then s else
  eX {s with log:=s.log++[{dC with kind:=2,tx:=m.tx}]} {bK with kind:=4,to:=m.bq,tx:=m.tx}
def yk(l:List kt)(key:Int):Int:=((l.find? λh=>h.key==key).map (·.tx)).getD (-1)
def fe(bT:List Int)(ops:List bP):List Int:=(ops.filter λo=> !o.w).map λo=>bT[(o.k-97).toNat]?.getD 0
def tf(l:List kt)(tx:Int)(ops:List bP):List kt:=l++ops.map λo=>⟨o.k,tx⟩
def w8(l:List kt)(tx:Int):List kt:=l.filter λh=>h.tx != tx
def cA(bT:List Int)(ops:List bP):List Int:=ops.foldl (λv o=>if o.w then v.set (o.k-97).toNat o.v else v) bT
def gQ(s:ShR)(m:MsgR):ShR:=
 let no:={bK with kind:=3,to:=m.bq,tx:=m.tx}
 let yes:={no with yes:=true,reads:=fe s.bT m.ops}
 match bj s.log m.tx with
 |some r=>if(r:Int)<s.aH then eh s {yes with reads:=fe s.bT (s.log[r]?.getD dC).ops}else s
 |none=>
  match aW s.log 3 m.tx with
  |some d=>if(s.log[d]?.getD dC).yes then s else eh s no
  |none=>
   if m.ops.any (λo=>decide (yk s.aX o.k>=0))then eh s no else
   let s1:=eX {s with aX:=tf s.aX m.tx m.ops,log:=s.log++[{dC with kind:=1,tx:=m.tx,home:=m.bq,ops:=m.ops}]} yes
   {s1 with timers:=s1.timers++[⟨s1.clock+3,false,m.tx⟩]}
def ju(s:ShR)(m:MsgR):ShR:=
 match bj s.log m.tx with
 |some r=>
  let s1:=if m.yes then{s with bT:=cA s.bT (s.log[r]?.getD dC).ops}else s
  eX {s1 with aX:=w8 s.aX m.tx,log:=s.log++[{dC with kind:=3,tx:=m.tx,yes:=m.yes}]} {bK with kind:=5,to:=m.bq,tx:=m.tx}
 |none=>
  match aW s.log 3 m.tx with
  |some d=>if(d:Int)<s.aH then eh s {bK with kind:=5,to:=m.bq,tx:=m.tx}else s
  |none=>if m.yes then s else eX {s with log:=s.log++[{dC with kind:=3,tx:=m.tx,yes:=m.yes}]} {bK with kind:=5,to:=m.bq,tx:=m.tx}
def jw(s:ShR)(m:MsgR):ShR:=
 if m.kind=1 then kT s m else if m.kind=2 then gQ s m else if m.kind=3 then nB s m else if m.kind=4 then ju s m else if m.kind=5 then u5 s m else if m.kind=6 then u6 s m else s
def u7(s:ShR):ShR:={s with aH:=s.log.length,out:=s.out++s.waits,waits:=[]}
def nR(clock:Int):List fU->Nat->Option (Nat×fU)->Option (Nat×fU)
 |[],_,k=>k
 |t::l,i,k=>nR clock l (i+1) (if decide (t.tm<=clock)&&(match k with|none=>true|some (_,u)=>decide (t.tm<u.tm))then some (i,t)else k)
def nS(s:ShR)(t:fU):ShR:=
 if !t.again then
  match bj s.log t.tx with
  |some r=>
   let s1:=eh s {bK with kind:=6,to:=(s.log[r]?.getD dC).home,tx:=t.tx}
   {s1 with timers:=s1.timers++[⟨s1.clock+3,false,t.tx⟩]}
  |none=>s
 else
  match dz s.under t.tx with
  |none=>s
  |some i=>
   match s.under[i]? with
   |none=>s
   |some u=>
    let aH:=match aW s.log 2 t.tx with|some d=>decide ((d:Int)<s.aH)|none=>decide (-1<s.aH)
    let s1:=im s u.ops λz k p=>
     if !u.dec&& !(bU u k).isSome then eh z {bK with kind:=2,to:=k,tx:=t.tx,ops:=p}
     else if u.dec&&aH&& !u.cy.contains k then eh z {bK with kind:=4,to:=k,tx:=t.tx,yes:=u.yes}
     else z
    {s1 with timers:=s1.timers++[⟨s1.clock+4,true,t.tx⟩]}
def eU:Nat->ShR->ShR
 |0,s=>s
 |f+1,s=>
  match nR s.clock s.timers 0 none with
  |none=>s
  |some (k,t)=>eU f (nS {s with timers:=s.timers.eraseIdx k} t)
def Pb(s:ShR):Nat:=(s.timers.filter λt=>t.tm<=s.clock).length
def mQ(s:ShR):ShR:=let s1:={s with clock:=s.clock+1};eU (Pb s1+1) s1
def bO:List Int:=List.replicate 26 0
def cq(s:ShR):ShR:={s with bT:=bO,aX:=[],under:=[],timers:=[],waits:=[],clock:=0}
def iV(s:ShR)(keep:Int):ShR:=
 let k:=if keep<0 then 0 else keep
 let n:=(s.log.length:Int)-s.aH
 let n:=if k<n then k else n
 cq {s with up:=false,aH:=s.aH+n,log:=s.log.take (s.aH+n).toNat}
def y5(log:List RecR)(tx:Int)(i:Nat):Option Nat:=findD log 1 tx i
def cU(log:List RecR):Nat->ShR->ShR
 |0,s=>s
 |i+1,s=>
  let s:=cU log i s
  match log[i]? with
  |none=>s
  |some r=>
   if r.kind=1 then{s with aX:=tf s.aX r.tx r.ops}
   else if r.kind=3 then
    let s1:=match y5 log r.tx i with|some p=>if r.yes then{s with bT:=cA s.bT (log[p]?.getD dC).ops}else s|none=>s
    {s1 with aX:=w8 s1.aX r.tx}
   else s
def ku(log:List RecR):List fU:=((upto 60).filter λtx=>(bj log tx).isSome).map λtx=>⟨3,false,tx⟩
def cD(s:ShR):ShR:=
 let s1:=cU s.log s.log.length (cq {s with up:=true})
 {s1 with timers:=s1.timers++ku s.log}
structure TxR where
 ops:List bP
 state:Int
 reads:List Int
structure WR where
 sh:List ShR
 aK:List MsgR
 aF:List TxR
 aj:Bool
def jQ(k n:Int):ShR:=cq ⟨k,n,true,[],0,[],[],[],[],[],0,[]⟩
def kU(n:Int):WR:=⟨(upto n).map λk=>jQ k n,[],[],false⟩
def HF(o:bP):Prop:=97<=o.k/\o.k<=122/\(o.w=true\/o.v=0)
instance(o:bP):Decidable (HF o):=by unfold HF;exact inferInstance
def gf(l:List bP):Prop:=(∀ o∈l,HF o)/\(l.map (·.k)).Nodup/\1<=l.length/\l.length<=6
instance(l:List bP):Decidable (gf l):=by unfold gf;exact inferInstance
def gk(ops:List bP)(n:Int):Int:=match ops with|o::_=>atR o.k n|[]=>0
def iW(w:WR)(tx:Nat):WR:=
 match w.aF[tx]? with
 |none=>w
 |some t=>{w with aK:=w.aK++[{bK with kind:=1,bq:= -1,to:=gk t.ops w.sh.length,tx:=tx,ops:=t.ops}]}
def bZ(w:WR)(ops:List bP):WR×Int×Int:=
 if w.aj then(w,0,9)else if¬ gf ops then(w,0,2)else if w.aF.length=60\/400<=w.aK.length then(w,0,3)
 else(iW {w with aF:=w.aF++[⟨ops,1,[]⟩]} w.aF.length,w.aF.length,0)
def ml(w:WR)(a:Nat)(s:ShR):WR:={w with sh:=w.sh.set a {s with out:=[]},aK:=w.aK++s.out}
def p9(w:WR)(m:MsgR):WR:=
 match w.aF[m.tx.toNat]? with
 |none=>w
 |some t=>if t.state=1 then{w with aF:=w.aF.set m.tx.toNat (if m.yes then{t with state:=2,reads:=m.reads}else{t with state:=3})}else w
def gR(w:WR)(k i:Int):WR×Int:=
 if i<0\/(w.aK.length:Int)<=i then(w,5)else
 match w.aK[i.toNat]? with
 |none=>(w,5)
 |some m=>
  if k=4 then(if 400<=w.aK.length then(w,3)else({w with aK:=w.aK++[m]},0))else
  let w1:={w with aK:=w.aK.eraseIdx i.toNat}
  if k=3 then(w1,0)else
  if m.to= -1 then(p9 w1 m,0)else
  match w1.sh[m.to.toNat]? with
  |none=>(w1,0)
  |some s=>if s.up then(ml w1 m.to.toNat (jw s m),0)else(w1,0)
def gH(w:WR)(k a b:Int):WR×Int:=
 if k<1\/8<k then(w,0)else if w.aj then(w,9)
 else if k=1 then(if a<0\/(w.aF.length:Int)<=a then(w,4)else if 400<=w.aK.length then(w,3)else(iW w a.toNat,0))
 else if k<=4 then gR w k a
 else if a<0\/(w.sh.length:Int)<=a then(w,6)
 else match w.sh[a.toNat]? with
  |none=>(w,6)
  |some s=>
   if k=8 then(if s.up then(w,8)else({w with sh:=w.sh.set a.toNat (cD s)},0))
   else if !s.up then(w,7)
   else if k=5 then(ml w a.toNat (u7 s),0)
   else if k=6 then(if 150<w.aK.length then(w,3)else(ml w a.toNat (mQ s),0))
   else(ml w a.toNat (iV s b),0)
inductive aN where
 |cg (tx home:Int) (ops:List bP)
 |dec (tx:Int) (yes:Bool) (reads:List Int)
 |jX (tx:Int) (yes:Bool)
def aN.aV:aN->RecR
 |.cg tx home ops=>{dC with kind:=1,tx:=tx,home:=home,ops:=ops}
 |.dec tx yes reads=>{dC with kind:=2,tx:=tx,yes:=yes,reads:=reads}
 |.jX tx yes=>{dC with kind:=3,tx:=tx,yes:=yes}
structure ic where
 pl:Int
 yes:Bool
structure y6 where
 pl:Int
 home:Int
 ops:List bP
structure mo where
 ops:List bP
 bk:List (Int×List Int)
 cy:List (Int×Int)
 dec:Bool
 yes:Bool
structure ek where
 me:Int
 n:Int
 up:Bool
 log:List aN
 aH:Int
 values:List (Int×Int)
 aX:List (Int×Int)
 pend:List (Int×y6)
 done:List (Int×ic)
 bF:List (Int×ic)
 bY:List (Int×mo)
 timers:List fU
 clock:Int
 waits:List MsgR
 out:List MsgR
def dA(ops:List bP)(n:Int):List (Int×List bP):=ops.foldl (λm o=>bB m (atR o.k n) ((aB m (atR o.k n)).getD []++[o])) []
def ff(s:ek)(m:MsgR):ek:={s with out:=s.out++[{m with bq:=s.me}]}
def iP(s:ek)(m:MsgR):ek:={s with waits:=s.waits++[{m with bq:=s.me}]}
def jH(s:ek)(tx ticks:Int)(again:Bool):ek:={s with timers:=s.timers++[⟨s.clock+ticks,again,tx⟩]}
def ru(s:ek)(ops:List bP)(f:ek->Int->List bP->ek):ek:=
 (upto s.n).foldl (λz k=>if((aB (dA ops s.n) k).getD []).isEmpty then z else f z k ((aB (dA ops s.n) k).getD [])) s
def mJ(s:ek)(m:MsgR):ek:=
 match aB s.bF m.tx with
 |some d=>if d.pl<s.aH then ff s {bK with kind:=7,to:= -1,tx:=m.tx,yes:=d.yes,reads:=((s.log[d.pl.toNat]?.map aN.aV).getD dC).reads}else s
 |none=>
  if(aB s.bY m.tx).isSome then s else
  jH (ru {s with bY:=bB s.bY m.tx ⟨m.ops,[],[],false,false⟩} m.ops λz k p=>ff z {bK with kind:=2,to:=k,tx:=m.tx,ops:=p}) m.tx 4 true
def iE(u:mo)(n:Int):List bP->List (Int×Int)->Option (List Int)
 |[],_=>some []
 |o::l,next=>
  if o.w then iE u n l next else
  let k:=atR o.k n
  let i:=(aB next k).getD 0
  match((aB u.bk k).getD [])[i.toNat]? with
  |none=>none
  |some x=>(iE u n l (bB next k (i+1))).map (x:: ·)
def mK(u:mo)(n:Int):Option (List Int):=iE u n u.ops []
def qD(s:ek)(m:MsgR):ek:=
 match aB s.bY m.tx with
 |none=>s
 |some u=>
  if u.dec then s else
  let u1:=if m.yes&& !(aB u.bk m.bq).isSome then{u with bk:=bB u.bk m.bq m.reads}else u
  if m.yes&&decide (u1.bk.length<(dA u1.ops s.n).length)then{s with bY:=bB s.bY m.tx u1}else
  let rd:=if m.yes then(mK u1 s.n).getD []else[]
  let s1:={s with bY:=bB s.bY m.tx {u1 with dec:=true,yes:=m.yes},log:=s.log++[.dec m.tx m.yes rd],bF:=bB s.bF m.tx ⟨s.log.length,m.yes⟩}
  let s2:=ru s1 u1.ops λz k _=>iP z {bK with kind:=4,to:=k,tx:=m.tx,yes:=m.yes}
  iP s2 {bK with kind:=7,to:= -1,tx:=m.tx,yes:=m.yes,reads:=rd}
def y7(s:ek)(m:MsgR):ek:=
 match aB s.bY m.tx with
 |none=>s
 |some u=>
  if !u.dec then s else
  let u1:={u with cy:=bB u.cy m.bq ((aB u.cy m.bq).getD 0+1)}
  if u1.cy.length=(dA u1.ops s.n).length then{s with bY:=dT (bB s.bY m.tx u1) m.tx}else{s with bY:=bB s.bY m.tx u1}
def AW(s:ek)(m:MsgR):ek:=
 match aB s.bF m.tx with
 |some d=>if d.pl<s.aH then ff s {bK with kind:=4,to:=m.bq,tx:=m.tx,yes:=d.yes}else s
 |none=>
  if(aB s.bY m.tx).isSome then s else
  iP {s with log:=s.log++[.dec m.tx false []],bF:=bB s.bF m.tx ⟨s.log.length,false⟩} {bK with kind:=4,to:=m.bq,tx:=m.tx}
def iF(values:List (Int×Int))(ops:List bP):List Int:=(ops.filter λo=> !o.w).map λo=>(aB values o.k).getD 0
def th(s:ek)(tx home:Int)(ops:List bP)(pl:Int):ek:={s with aX:=ops.foldl (λl o=>bB l o.k tx) s.aX,pend:=bB s.pend tx ⟨pl,home,ops⟩}
def qa(s:ek)(tx:Int)(yes:Bool)(pl:Int):ek:=
 let ops:=((aB s.pend tx).map (·.ops)).getD []
 {s with values:=ops.foldl (λv o=>if yes&&o.w then bB v o.k o.v else v) s.values,aX:=ops.foldl (λl o=>dT l o.k) s.aX,pend:=dT s.pend tx,done:=bB s.done tx ⟨pl,yes⟩}
def fV(s:ek)(m:MsgR):ek:=
 let answer:={bK with kind:=3,to:=m.bq,tx:=m.tx}
 match aB s.pend m.tx with
 |some p=>if p.pl<s.aH then ff s {answer with yes:=true,reads:=iF s.values p.ops}else s
 |none=>
  match aB s.done m.tx with
  |some d=>if d.yes then s else ff s answer
  |none=>
   if m.ops.any (λo=>(aB s.aX o.k).isSome)then ff s answer else
   let s1:=th {s with log:=s.log++[.cg m.tx m.bq m.ops]} m.tx m.bq m.ops s.log.length
   jH (iP s1 {answer with yes:=true,reads:=iF s1.values m.ops}) m.tx 3 false
def jx(s:ek)(m:MsgR):ek:=
 let fin:=iP (qa {s with log:=s.log++[.jX m.tx m.yes]} m.tx m.yes s.log.length) {bK with kind:=5,to:=m.bq,tx:=m.tx}
 match aB s.pend m.tx with
 |some _=>fin
 |none=>
  match aB s.done m.tx with
  |some d=>if d.pl<s.aH then ff s {bK with kind:=5,to:=m.bq,tx:=m.tx}else s
  |none=>if m.yes then s else fin
def ry(s:ek)(m:MsgR):ek:=
 if m.kind=1 then mJ s m else if m.kind=2 then fV s m else if m.kind=3 then qD s m else if m.kind=4 then jx s m else if m.kind=5 then y7 s m else if m.kind=6 then AW s m else s
def ti(s:ek):ek:={s with aH:=s.log.length,out:=s.out++s.waits,waits:=[]}
def rz(s:ek)(tx:Int):ek:=
 match aB s.bY tx with
 |none=>s
 |some u=>
  jH (ru s u.ops λz k p=>
   if !u.dec&& !(aB u.bk k).isSome then ff z {bK with kind:=2,to:=k,tx:=tx,ops:=p}
   else if u.dec&&decide (((aB s.bF tx).map (·.pl)).getD 0<s.aH)&&decide ((aB u.cy k).getD 0=0)then ff z {bK with kind:=4,to:=k,tx:=tx,yes:=u.yes}
   else z) tx 4 true
def y8(s:ek)(t:fU):ek:=
 if t.again then rz s t.tx else
 match aB s.pend t.tx with
 |some p=>jH (ff s {bK with kind:=6,to:=p.home,tx:=t.tx}) t.tx 3 false
 |none=>s
def kV:Nat->ek->ek
 |0,s=>s
 |f+1,s=>
  match nR s.clock s.timers 0 none with
  |none=>s
  |some (k,t)=>kV f (y8 {s with timers:=s.timers.eraseIdx k} t)
def Pd(s:ek):Nat:=(s.timers.filter λt=>t.tm<=s.clock).length
def pw(s:ek):ek:=let s1:={s with clock:=s.clock+1};kV (Pd s1+1) s1
def iX(s:ek):ek:={s with values:=[],aX:=[],pend:=[],done:=[],bF:=[],bY:=[],timers:=[],clock:=0,waits:=[]}
def nC(s:ek)(keep:Int):ek:=
 let aH:=s.aH+min (max keep 0) ((s.log.length:Int)-s.aH)
 iX {s with up:=false,aH:=aH,log:=s.log.take aH.toNat}
def y9(s:ek)(i:Nat):aN->ek
 |.cg tx home ops=>th s tx home ops i
 |.dec tx yes _=>{s with bF:=bB s.bF tx ⟨i,yes⟩}
 |.jX tx yes=>qa s tx yes i
def kW(log:List aN):Nat->ek->ek
 |0,s=>s
 |i+1,s=>match log[i]? with|none=>kW log i s|some e=>y9 (kW log i s) i e
def jI(l:List Int):List Int:=l.mergeSort (λa b=>decide (a<=b))
def jJ(s:ek):ek:=
 let s1:=kW s.log s.log.length (iX {s with up:=true})
 (jI (s1.pend.map (·.1))).foldl (λz tx=>jH z tx 3 false) s1
def HH(k n:Int):ek:=iX ⟨k,n,true,[],0,[],[],[],[],[],[],[],0,[],[]⟩
section
open Go.Conc
structure WK(B:kJ)(σ:Gh)(H:Array Obj):Prop where
 still:∀ i s p,σ.aQ i=some s->p∈s.mem->p.1.spot=none/\∃ c ty,H[p.1.block]? =some (.cells c ty (0,0))/\B.rd p.1.block ty p.1.off=true
 q7:∀ l,σ.sh l->∃ a:Addr,l=.cell a/\∃ c ty,H[a.block]? =some (.cells c ty (0,0))/\B.sh ty a.off=true/\B.bot<=a.block
theorem WK.step{B:kJ}{σ:Gh}{H H':Array Obj}(h:WK B σ H)(s:ga B H H'):WK B σ H':=
 ⟨λi s' p e hp=>by
  obtain⟨h1,c,ty,h2,h3⟩:=h.still i s' p e hp;obtain⟨c',h4,_⟩:=s.cells _ _ _ _ h2;exact⟨h1,c',ty,h4,h3⟩,λl hl=>by
  obtain⟨a,rfl,c,ty,h2,h3⟩:=h.q7 l hl;obtain⟨c',h4,_⟩:=s.cells _ _ _ _ h2;exact⟨a,rfl,c',ty,h4,h3⟩⟩
theorem Pe{B:kJ}{σ:Gh}{w w':World}{es:Array Event}(g:WK B σ w.heap)(s:ga B w.heap w'.heap)(he:∀ e∈es,AQ B w'.heap e):qA σ w w' es:=by
 have g':=g.step s;refine⟨s.size,s.chans,λi s' p e hp hc=>?_,λe ya=>?_⟩
 ·obtain⟨h1,c,ty,h2,h3⟩:=g.still i s' p e hp;obtain⟨c',h4,h5⟩:=s.cells _ _ _ _ h2;unfold World.cell? at hc⊢;rw[h2]at hc;rw[h4];simp only[h1]at hc⊢;rw[h5 _ h3];exact hc
 ·have Sy:=he e ya;have iw:∀ i a c ty fr,σ.rd i (.cell a)->w'.heap[a.block]? =some (.cells c ty fr)->B.rd a.block ty a.off=true:=λi a c ty fr hr hh=>by obtain⟨s',e',p,hp,ep⟩:=hr;obtain rfl:=Loc.cell.inj ep;obtain⟨_,c',U1,h2,h3⟩:=g'.still i s' p e' hp;rw[hh]at h2;cases h2;exact h3
  have qJ:∀ a c ty fr,σ.sh (.cell a)->w'.heap[a.block]? =some (.cells c ty fr)->B.sh ty a.off=true/\B.bot<=a.block:=λa c ty fr hr hh=>by obtain⟨a',ea,c',U1,h2,h3⟩:=g'.q7 _ hr;obtain rfl:=Loc.cell.inj ea;rw[hh]at h2;cases h2;exact h3
  have du:∀ b o,w'.heap[b]? =some o->b<w'.heap.size:=λb o h=>(gV.1 h).1;obtain⟨loc,wr,sy⟩:=e;cases loc with
  |cell a=>
   obtain⟨h1,c,ty,⟨fr,h2⟩,h3,h4⟩:=Sy;refine⟨λb hb=>?_,λad ea=>(by simp[MemAct.ofEvent]at ea),?_⟩
   ·simp only[MemAct.ofEvent,MemAct.touch?,wP]at hb;subst hb;refine⟨λhw i hr=>?_,λhs hk=>?_⟩
    ·have:=iw i a c ty fr hr h2;rw[h3 hw]at this;cases this
    ·have:=qJ a c ty fr hs h2;cases sy with
     |true=>simp at hk
     |false=>
      rcases h4 rfl with h5|h5
      ·have:=this.2;omega
      ·rw[h5]at this;cases this.1
   ·exact du _ _ h2
  |obj r=>
   obtain⟨h1,h2⟩:=Sy;have h2:sy=false:=h2;subst h2;have hof:MemAct.ofEvent ⟨.obj r,wr,false⟩=.access ⟨.obj r,wr,false⟩:=by cases wr<;>rfl
   rw[hof];refine⟨λb hb=>?_,λad ea=>(by cases ea),h1⟩;simp only[MemAct.touch?,wP]at hb;subst hb;refine⟨λhw i hr=>?_,λhs _=>?_⟩
   ·obtain⟨s',e',p,hp,ep⟩:=hr;cases ep
   ·obtain⟨a,ea,_⟩:=g'.q7 _ hs;cases ea
  |mark m=>
   obtain⟨h1,h2⟩:=Sy;have hof:MemAct.ofEvent ⟨.mark m,wr,sy⟩=.mark m:=by cases wr<;>cases sy<;>rfl
   rw[hof];refine⟨λb hb=>?_,λad ea=>?_,?_⟩
   ·cases m with
    |read a=>
     simp only[MemAct.touch?,wP]at hb;subst hb;exact⟨λhw=>by simp at hw,λ_ hk=>by simp at hk⟩
    |write a=>
     obtain⟨c,ty,h3,h4⟩:=h1;simp only[MemAct.touch?,wP]at hb;subst hb;refine⟨λ_ i hr=>?_,λ_ hk=>by simp at hk⟩;have:=iw i a c ty _ hr h3;rw[h4]at this;cases this
    |_=>simp[MemAct.touch?]at hb
   ·cases ea;obtain⟨c,ty,h3,h4⟩:=h1;intro hs;have:=(qJ _ c ty _ hs h3).1;rw[h4]at this;cases this
   ·cases m with
    |acquire a=>obtain⟨c,ty,h3⟩:=h1;exact du _ _ h3
    |release a=>obtain⟨c,ty,h3,_⟩:=h1;exact du _ _ h3
    |releaseMerge a=>obtain⟨c,ty,h3⟩:=h1;exact du _ _ h3
    |read a=>obtain⟨c,ty,h3⟩:=h1;exact du _ _ h3
    |write a=>obtain⟨c,ty,h3,_⟩:=h1;exact du _ _ h3
    |_=>trivial
  |_=>exact Sy.elim
structure BLe(B B':kJ):Prop where
 rd:∀ b ty o,B.rd b ty o=true->B'.rd b ty o=true
 sh:∀ ty o,B.sh ty o=true->B'.sh ty o=true
 bot:B'.bot<=B.bot
structure tO where
 B0:kJ
 h0:B0.bot=0
 mkd:aO->Nat->Bool
 sh:aO->Nat->Bool
 h1:∀ b ty o,mkd ty o=true->B0.rd b ty o=true
 h2:∀ ty o,sh ty o=true->B0.sh ty o=true
def Gh.blk(σ:Gh)(b:Nat):Bool:=(List.range σ.n).any λi=>match σ.aQ i with|none=>false|some s=>s.mem.any λp=>p.1.block==b
def tO.bw(X:tO)(σ:Gh):kJ:=⟨λb ty o=>X.mkd ty o&&σ.blk b,X.sh,σ.bot⟩
theorem Gh.SL{σ:Gh}(hn:∀ i s,σ.aQ i=some s->i<σ.n){b:Nat}:σ.blk b=true↔∃ i s p,σ.aQ i=some s/\p∈s.mem/\p.1.block=b:=by
 unfold Gh.blk;rw[oZ];constructor
 ·rintro⟨i,_,h⟩;cases e:σ.aQ i with
  |none=>rw[e]at h;cases h
  |some s=>
   rw[e]at h;obtain⟨p,hp,hb⟩:=oZ.1 h;exact⟨i,s,p,e,hp,by simpa using hb⟩
 ·rintro⟨i,s,p,e,hp,hb⟩;refine⟨i,l8.2 (hn i s e),?_⟩;rw[e];exact oZ.2 ⟨p,hp,by simpa using hb⟩
def tO.rd(X:tO)(i:Nat):Nat->aO->Nat->Bool:=if i=0 then X.B0.rd else λ_ ty o=>X.mkd ty o
theorem tO.le(X:tO)(σ:Gh):BLe (X.bw σ) X.B0:=⟨λb ty o h=>X.h1 b ty o (by unfold tO.bw at h;simp only[jc]at h;exact h.1),X.h2,by rw[X.h0];exact eW _⟩
structure GO(X:tO)(σ:Gh)(H:Array Obj):Prop where
 lt:∀ i s,σ.aQ i=some s->i<σ.n
 cl:∀ i s c,σ.aQ i=some s->s.has c->c<H.size
 still:∀ i s p,σ.aQ i=some s->p∈s.mem->p.1.spot=none/\∃ c ty,H[p.1.block]? =some (.cells c ty (0,0))/\X.rd i p.1.block ty p.1.off=true
 q7:∀ l,σ.sh l->∃ a:Addr,l=.cell a/\∃ c ty,H[a.block]? =some (.cells c ty (0,0))/\X.sh ty a.off=true/\σ.bot<=a.block
 bot:σ.bot<=H.size
theorem GO.zero{X:tO}{σ:Gh}{H:Array Obj}(h:GO X σ H)(h0:σ.aQ 0=none):WK (X.bw σ) σ H:=⟨λi s p e hp=>by
 have hi:i≠0:=λz=>by rw[z,h0]at e;cases e
 obtain⟨h1,c,ty,h2,h3⟩:=h.still i s p e hp;refine⟨h1,c,ty,h2,?_⟩;unfold tO.rd at h3;rw[ax hi]at h3;unfold tO.bw;simp only[jc];exact⟨h3,(Gh.SL h.lt).2 ⟨i,s,p,e,hp,rfl⟩⟩,h.q7⟩
theorem GO.all{X:tO}{σ:Gh}{H:Array Obj}(h:GO X σ H):WK X.B0 σ H:=⟨λi s p e hp=>by
 obtain⟨h1,c,ty,h2,h3⟩:=h.still i s p e hp;refine⟨h1,c,ty,h2,?_⟩;unfold tO.rd at h3;split at h3
 ·exact h3
 ·exact X.h1 _ _ _ h3,λl hl=>by
 obtain⟨a,e,c,ty,h1,h2,_⟩:=h.q7 l hl;exact⟨a,e,c,ty,h1,X.h2 _ _ h2,by rw[X.h0];exact eW _⟩⟩
theorem GO.SM{B:kJ}{X:tO}{σ:Gh}{H H':Array Obj}(h:GO X σ H)(s:ga B H H'):GO X σ H':=
 ⟨h.lt,λi s' c e hc=>NR (h.cl i s' c e hc) s.size,λi s' p e hp=>by
  obtain⟨h1,c,ty,h2,h3⟩:=h.still i s' p e hp;obtain⟨c',h4,_⟩:=s.cells _ _ _ _ h2;exact⟨h1,c',ty,h4,h3⟩,λl hl=>by
  obtain⟨a,rfl,c,ty,h2,h3⟩:=h.q7 l hl;obtain⟨c',h4,_⟩:=s.cells _ _ _ _ h2;exact⟨a,rfl,c',ty,h4,h3⟩,Lh h.bot s.size⟩
def aE(P:bL)(Post:Value->World->Prop)(X:tO)(σ:Gh)(h:Nat)(os:Os)(out:Array (Nat×ByteArray)):Nat->aM->Array Obj->Prop:=
 λd g H=>σ.aQ h=none->GO X σ H->∀ w:World,w.heap=H->w.os=os->w.output=out->wZ P Post σ h d g w
section
variable{P:bL}{Post:Value->World->Prop}{X:tO}{σ:Gh}{h:Nat}{os:Os}{out:Array (Nat×ByteArray)}
open Classical in
theorem aE.Kb{B:kJ}(hB:σ.aQ h=none->∀ H,GO X σ H->WK B σ H):ab P (h==0) B (aE P Post X σ h os out):=⟨λd g H hs step hole go w hw ho hu=>by
 have gok:=hB hole H go;have key:∀ w₁,Sm w w₁->∃ r:aM×World×Array Event,stepG P (h==0) g w₁=.go r.1 r.2.1 r.2.2/\qA σ w₁ r.2.1 r.2.2/\wZ P Post σ h (deafBehind d r.2.2) r.1 r.2.1:=λw₁ Pf=>by have Vf:w₁.heap=H:=Pf.hp.trans hw;obtain⟨g',w',es,h1,h2,h3,h4,h5,h6⟩:=step w₁ Vf;subst Vf;exact⟨(g',w',es),h1,Pe gok h4 h5,h6 hole (go.SM h4) w' rfl (h2.trans (Pf.os.trans ho)) (h3.trans (Pf.out.trans hu))⟩
 refine wZ.own (λw₁=>if q:Sm w w₁ then(Classical.choose (key w₁ q)).1 else g) (λw₁=>if q:Sm w w₁ then(Classical.choose (key w₁ q)).2.1 else w₁) (λw₁=>if q:Sm w w₁ then(Classical.choose (key w₁ q)).2.2 else#[]) hs (λw₁ q=>?_) (λw₁ q=>?_) (λw₁ q=>?_)
 ·simp only[yC q];exact(Jt (key w₁ q)).1
 ·simp only[yC q];exact(Jt (key w₁ q)).2.1
 ·simp only[yC q];exact(Jt (key w₁ q)).2.2⟩
theorem aE.ew:ab P true (X.bw σ) (aE P Post X σ 0 os out):=aE.Kb (h:=0) λh0 H g=>g.zero h0
theorem aE.SN(hh:h≠0):ab P false X.B0 (aE P Post X σ h os out):=by
 have:(h==0)=false:=by simpa using hh
 rw[<- this];exact aE.Kb λ_ H g=>g.all
end
theorem ab.less{P:bL}{ao:Bool}{B B':kJ}{R:Nat->aM->Array Obj->Prop}(hb:BLe B B')(C:ab P ao B R):ab P ao B' R:=⟨λd g H hs step=>C.step d g H hs λw hw=>by
 obtain⟨g',w',es,h1,h2,h3,h4,h5,h6⟩:=step w hw;refine⟨g',w',es,h1,h2,h3,⟨h4.size,h4.chans,λb c ty fr hc=>?_⟩,λe he=>?_,h6⟩
 ·obtain⟨c',k1,k2⟩:=h4.cells b c ty fr hc;exact⟨c',k1,λj hj=>k2 j (hb.rd _ _ _ hj)⟩
 ·have iw:∀ b ty o,B'.rd b ty o=false->B.rd b ty o=false:=λb ty o z=>by
   cases q:B.rd b ty o with
   |false=>rfl
   |true=>rw[hb.rd _ _ _ q]at z;cases z
  have qJ:∀ ty o,B'.sh ty o=false->B.sh ty o=false:=λty o z=>by
   cases q:B.sh ty o with
   |false=>rfl
   |true=>rw[hb.sh _ _ q]at z;cases z
  have hm:∀ m,kO B' w'.heap m->kO B w'.heap m:=λm z=>by
   cases m with
   |release a=>obtain⟨c,ty,k1,k2⟩:=z;exact⟨c,ty,k1,qJ _ _ k2⟩
   |write a=>obtain⟨c,ty,k1,k2⟩:=z;exact⟨c,ty,k1,iw _ _ _ k2⟩
   |_=>exact z
  have:=h5 e he;obtain⟨loc,wr,sy⟩:=e;cases loc with
  |cell a=>obtain⟨k1,c,ty,k2,k3,k4⟩:=this;exact⟨k1,c,ty,k2,λz=>iw _ _ _ (k3 z),λz=>(k4 z).imp (λz=>NR z hb.bot) (qJ _ _)⟩
  |obj r=>exact this
  |mark m=>exact⟨hm m this.1,this.2⟩
  |_=>exact this.elim⟩
end
section
open Go.Conc
class eM(P:bL)(f:bJ)(fu:outParam Func)(ex:outParam (Array Value->Sem Value)):Prop where
 func:P.funcs[f]? =some fu
 name:(fu.name== "runtime.NumGoroutine")=false
 body:fu.body.isNone=true
 nx:Extern.findNext fu=none
 fd:Extern.find fu=some ex
variable{P:bL}{ao:Bool}{B:kJ}{R:Nat->aM->Array Obj->Prop}{d:Nat}{As aP Bs L F:List HP}
variable{fn:bJ}{kd:Kd}{n:Nat}{e:Nat->Value}{ds:List eo}{k:List Item}{cs:List Frame}
variable{ops:Array Oper}{i:Nat}{aa:List Nat}{dst:Option Nat}{t:Nat}{ty:aO}{pos:String}{af:Array Edge}{gd:Option (Nat×Bool)}
theorem ab.xt(C:ab P ao B R){f:bJ}{fu:Func}{ex:Array Value->Sem Value}[b:eM P f fu ex]{fo:cZ}{args:Array cZ}{gy:Array aO}{vl:List Value}
  (h:∀ H,Sat As (hp H)->dJ P B (ex vl.toArray) H d λv H' d'=>∃ aP,Sat aP (hp H')/\At R d' aP (gr fn kd n (dm e dst v) ds (.inRegion ops aa::k) cs))
  (ho:aZ ops i=some ⟨dst,.call ⟨.value fo,args,gy⟩,ty,pos,af,gd⟩) (hw:aL ops n e gd=true) (hf:ev n e fo=.func (.func f) #[] #[]) (hv:args.toList.map (ev n e)=vl):Nw R d As fn kd n e ds ops i aa k cs:=by
 refine C.gen ho hw λH s=>?_;unfold execOp;simp only;refine ae ?_;have qK:args.map (ev n e)=vl.toArray:=by rw[<- hv,<- qZ,tC]
 simp only[resolve,hf,Deferred.ofValue,qK];refine ae ?_;show dJ P B _ _ _ _;simp only[AL];show dJ P B (invoke (.fn (.func f) #[]) vl.toArray) H d _;unfold invoke;simp only[xC];unfold callFunc;refine ae ?_;show dJ P B _ H d _;simp only[program,dJ];rw[b.func];simp only[b.name,b.body,eN,gn,eR];refine ae ?_;simp only[mark,dJ,kO,oH,o4];simp only[b.nx,b.fd];refine ae (pd (λv H' d' q=>?_) (h H s));obtain⟨aP,s',q⟩:=q;exact aA ⟨aP,s',q⟩
variable{f:bJ}{fu:Func}{fo:cZ}{args:Array cZ}{gy:Array aO}{a:Addr}{b off:Nat}{c:Array Value}{el:aO}
theorem ab.SO(C:ab P ao B R)[x:eM P f fu (λ_=>do mark .disable;pure Extern.Race.none_)]{vl:List Value}(ho:aZ ops i=some ⟨dst,.call ⟨.value fo,args,gy⟩,ty,pos,af,gd⟩)(h:At R (d+1) As (gr fn kd n (dm e dst (.tuple #[])) ds (.inRegion ops aa::k) cs))
  (hw:aL ops n e gd=true:=by rfl) (hf:ev n e fo=.func (.func f) #[] #[]:=by rfl) (hv:args.toList.map (ev n e)=vl:=by rfl):Nw R d As fn kd n e ds ops i aa k cs:=
 C.xt (f:=f) (vl:=vl) (λH s=>by refine ae ?_;simp only[mark,dJ,kO,oH,o4];exact aA ⟨As,s,h⟩) ho hw hf hv
theorem ab.WL(C:ab P ao B R)[x:eM P f fu (λ_=>do mark .enable;pure Extern.Race.none_)]{vl:List Value}(ho:aZ ops i=some ⟨dst,.call ⟨.value fo,args,gy⟩,ty,pos,af,gd⟩)(h:At R (d-1) As (gr fn kd n (dm e dst (.tuple #[])) ds (.inRegion ops aa::k) cs))
  (hw:aL ops n e gd=true:=by rfl) (hf:ev n e fo=.func (.func f) #[] #[]:=by rfl) (hv:args.toList.map (ev n e)=vl:=by rfl):Nw R d As fn kd n e ds ops i aa k cs:=
 C.xt (f:=f) (vl:=vl) (λH s=>by refine ae ?_;simp only[mark,dJ,kO,oH,o4];exact aA ⟨As,s,h⟩) ho hw hf hv
theorem ab.xMk(C:ab P ao B R){mk:Addr->Mark}[x:eM P f fu (Extern.Race.marked mk)]{aS:List Value}(ho:aZ ops i=some ⟨dst,.call ⟨.value fo,args,gy⟩,ty,pos,af,gd⟩)(h:At R d As (gr fn kd n (dm e dst (.tuple #[])) ds (.inRegion ops aa::k) cs))
  (hm:∀ H,Sat As (hp H)->kO B H (mk a)) (hd:oH (mk a) d=d:=by rfl) (hw:aL ops n e gd=true:=by rfl) (hf:ev n e fo=.func (.func f) #[] #[]:=by rfl) (hv:args.toList.map (ev n e)=.pointer (some a)::aS:=by rfl):Nw R d As fn kd n e ds ops i aa k cs:=
 C.xt (f:=f) (vl:=.pointer (some a)::aS) (λH s=>by unfold Extern.Race.marked;refine ae (aA ?_);refine ae ?_;refine⟨hm H s,?_⟩;rw[hd];exact aA ⟨As,s,h⟩) ho hw hf hv
variable{kk:IntKind}{z y z':Int}
theorem za{H:Array Obj}{Q:Value->Array Obj->Nat->Prop}(h1:hp H b=some (.cells c el (0,0)))(h3:c[off]? =some (.int kk z))(q:Q (.int kk z) H d):dJ P B (Extern.Atomic.read (.int kk) ⟨b,off,none⟩) H d Q:=by unfold Extern.Atomic.read;refine ae (uS h1 rfl h3 (λh=>by cases h) ?_);simp only[eN];exact aA q
theorem ab.xLd(C:ab P ao B R)[x:eM P f fu (Extern.Atomic.loadT (.int kk))](ho:aZ ops i=some ⟨dst,.call ⟨.value fo,args,gy⟩,ty,pos,af,gd⟩)(h:At R d As (gr fn kd n (dm e dst (.int kk z)) ds (.inRegion ops aa::k) cs))
  (hh:Kn As b (.cells c el (0,0)):=by apply Has.kn;(repeat(first|with_reducible exact Has.head|with_reducible apply Has.tail));done) (hc:c[off]? =some (.int kk z):=by rfl) (hw:aL ops n e gd=true:=by rfl) (hf:ev n e fo=.func (.func f) #[] #[]:=by rfl) (hv:args.toList.map (ev n e)=[.pointer (some ⟨b,off,none⟩)]:=by rfl):Nw R d As fn kd n e ds ops i aa k cs:=
 C.xt (f:=f) (vl:=[.pointer (some ⟨b,off,none⟩)]) (λH s=>by show dJ P B (Extern.Atomic.loadT (.int kk) #[.pointer (some ⟨b,off,none⟩)]) H d _;unfold Extern.Atomic.loadT;refine ae (aA ?_);exact za (hh _ s) hc ⟨As,s,h⟩) ho hw hf hv
theorem qb{H:Array Obj}{Q:Option (Addr×aO)->Array Obj->Nat->Prop}(h1:hp H b=some (.cells c el (0,0)))(q:Q none H d):dJ P B (viewAt b) H d Q:=by unfold viewAt;refine ae ?_;have AR:H[b]? =some (.cells c el (0,0)):=h1;simp only[shape,dJ,tJ,AR];exact q
theorem E1{H:Array Obj}{Q:Bool->Array Obj->Nat->Prop}(h1:hp H b=some (.cells c el (0,0)))(q:Q false H d):dJ P B (Extern.Atomic.touchesFrozen ⟨b,off,none⟩) H d Q:=by unfold Extern.Atomic.touchesFrozen;refine ae (qb h1 ?_);have AR:H[b]? =some (.cells c el (0,0)):=h1;simp only[frozen,dJ,ye,AR];simpa using q
theorem ab.aaF(C:ab P ao B R)[x:eM P f fu (Extern.Atomic.casT (.int kk))](ho:aZ ops i=some ⟨dst,.call ⟨.value fo,args,gy⟩,ty,pos,af,gd⟩)(h:At R d aP (gr fn kd n (dm e dst (.bool true)) ds (.inRegion ops aa::k) cs))
  (hv:args.toList.map (ev n e)=[.pointer (some ⟨b,off,none⟩),.int kk z,.int kk y]:=by rfl) {c':Array Value} (hu:rj b (.cells c el (0,0)) (.cells c' el (0,0)) As aP:=by repeat(first|with_reducible exact rj.head|with_reducible apply rj.tail)) (hc:c[off]? =some (.int kk z):=by rfl) (lF:c.setIfInBounds off (.int kk y)=c':=by first|(simp only[l5,Nat.reduceAdd,yx,xE,sK];done)|(simp only[l5,Nat.reduceAdd,yx,xE,sK];rfl)|rfl)
  (hr:B.rd b el off=false:=by rfl) (hw:aL ops n e gd=true:=by rfl) (hf:ev n e fo=.func (.func f) #[] #[]:=by rfl):Nw R d As fn kd n e ds ops i aa k cs:=
 C.xt (f:=f) (vl:=[.pointer (some ⟨b,off,none⟩),.int kk z,.int kk y]) (λH s=>by subst lF;have hh:=hu.has.get s;show dJ P B (Extern.Atomic.casT (.int kk) #[.pointer (some ⟨b,off,none⟩),.int kk z,.int kk y]) H d _;unfold Extern.Atomic.casT;refine ae (aA ?_);refine ae (E1 hh ?_);simp only[gn,eR];refine ae (za hh hc ?_);refine ae (aA ?_);simp only[beq_self_eq_true,eN];refine ae ?_;show dJ P B (store _ _ _) H d _;refine⟨rfl,c,el,hh,rfl,(gV.1 hc).1,hr,λz=>(by cases z),?_⟩;exact aA ⟨aP,hu.set s,h⟩) ho hw hf hv
theorem ab.aaG(C:ab P ao B R)[x:eM P f fu (Extern.Atomic.update (Op.intArith .add) kk true)](ho:aZ ops i=some ⟨dst,.call ⟨.value fo,args,gy⟩,ty,pos,af,gd⟩)(h:At R d aP (gr fn kd n (dm e dst (.int kk z')) ds (.inRegion ops aa::k) cs))
  (hv:args.toList.map (ev n e)=[.pointer (some ⟨b,off,none⟩),.int kk y]:=by rfl) {c':Array Value} (hu:rj b (.cells c el (0,0)) (.cells c' el (0,0)) As aP:=by repeat(first|with_reducible exact rj.head|with_reducible apply rj.tail)) (hc:c[off]? =some (.int kk z):=by rfl) (hz:kk.wrap (z+y)=z':=by rfl) (lF:c.setIfInBounds off (.int kk z')=c':=by first|(simp only[l5,Nat.reduceAdd,yx,xE,sK];done)|(simp only[l5,Nat.reduceAdd,yx,xE,sK];rfl)|rfl)
  (hr:B.rd b el off=false:=by rfl) (hw:aL ops n e gd=true:=by rfl) (hf:ev n e fo=.func (.func f) #[] #[]:=by rfl):Nw R d As fn kd n e ds ops i aa k cs:=
 C.xt (f:=f) (vl:=[.pointer (some ⟨b,off,none⟩),.int kk y]) (λH s=>by subst lF hz;have hh:=hu.has.get s;show dJ P B (Extern.Atomic.update (Op.intArith .add) kk true #[.pointer (some ⟨b,off,none⟩),.int kk y]) H d _;unfold Extern.Atomic.update;refine ae (aA ?_);refine ae (za hh hc ?_);refine ae (aA ?_);refine ae (aA ?_);refine ae (aA ?_);refine ae ?_;show dJ P B (store _ _ _) H d _;refine⟨rfl,c,el,hh,rfl,(gV.1 hc).1,hr,λz=>(by cases z),?_⟩;exact aA ⟨aP,hu.set s,h⟩) ho hw hf hv
class Up(P:bL)(t:aO):Prop where
 h:P.underlying t=some .unsafePointer
theorem ab.SP(C:ab P ao B R){s1 s2 t1:aO}{z:Nat}{x:cZ}{t':Nat}[c1:Pt P s1 t1][c2:Up P s2][c3:Cz P t1 z](ho:aZ ops i=some ⟨some t',.convert s1 s2 x,ty,pos,af,gd⟩)(h:At R d As (gr fn kd n (put e t' (.pointer (some ⟨b,off,none⟩))) ds (.inRegion ops aa::k) cs))
  (hz:z≠0:=by decide) (hx:ev n e x=.pointer (some ⟨b,off,none⟩):=by rfl) (hh:Kn As b (.cells c el (0,0)):=by apply Has.kn;(repeat(first|with_reducible exact Has.head|with_reducible apply Has.tail));done) (hl:off<c.size:=by first|decide|(simp;done)) (hw:aL ops n e gd=true:=by rfl):Nw R d As fn kd n e ds ops i aa k cs:=
 C.gen ho hw λH s=>by
  have hh:=hh _ s;have hH:H[b]? =some (.cells c el (0,0)):=hh;unfold execOp;simp only[hx];refine ae ?_;unfold convert;refine ae (dF c1.h B H d _ (ae (dF c2.h B H d _ ?_)));show dJ P B (Conv.unsafePointer s1 s2 (.pointer (some ⟨b,off,none⟩))) H d _;unfold Conv.unsafePointer;refine ae (dF c1.h B H d _ (ae (dF c2.h B H d _ ?_)));simp only;refine ae ?_;unfold Conv.seenAt;refine ae (qb hh ?_);refine aA ?_;refine ae ?_;unfold cellsIn;refine ae ?_;simp only[shape,dJ,tJ,hH];refine aA ?_;refine ae (iy B H d _ ?_);have e1:¬ (decide (off>=c.size)&&(none:Option Nat).isNone)=true:=by simp;omega
  simp only[e1,Bool.or_false,gn,eR];rw[ax (by simp[hz,hl])];exact aA (aA ⟨As,s,h⟩)
end
end Go.Sl
