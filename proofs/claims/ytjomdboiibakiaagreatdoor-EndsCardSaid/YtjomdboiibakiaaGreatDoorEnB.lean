/-
  Texts that the proof needs, joined: part 2.
-/
import Derived.Test.YtjomdboiibakiaaGreatDoorEnA
import Derived.Laws.BitsLemmas
import Derived.Laws.Append
import Derived.Orders
set_option linter.unusedSimpArgs false
set_option linter.unusedVariables false
set_option maxHeartbeats 4000000
namespace Go.Sl
open Go.Proofs.Tryz
variable{t ty key:aP}{i z off s f cap j n Sa bz:Nat}{a:Addr}{c c':Array Value}{fr:Nat×Nat}{Q:Value->Array Obj->Nat->Prop}{o:Obj}{v0 zv yv:Value}{r:Int}{op:BinOp}{k1:List Item}{φ:Prop}{As:List HP}{α X:Type}{co:Bool}{T':List Nat}{B:lM}{H:Array Obj}{fu:Func}{args:Array dp}{gY:Array aP}{vl:List Value}{g:aO}
section
open Go.Conc
class Cz(P:bT)(t:aP)(z:outParam Nat):Prop where
 h:∃ i,P.info? t=some i/\i.size=z
class Bz(P:bT)(t:aP)(z:outParam Nat):Prop where
 h:∃ i,P.info? t=some i/\i.bytes=z
class Zv(P:bT)(t:aP)(v:outParam Value):Prop where
 h:∃ i,P.info? t=some i/\i.zero=some v
def aie:TypeDesc->Bool|.struct _=>true|.array _ _=>true|_=>false
class Ag(P:bT)(t:aP)(b:outParam Bool):Prop where
 h:∃ u,P.underlying t=some u/\aie u=b
class Fl(P:bT)(s f:Nat)(off:outParam Nat):Prop where
 h:∃ fs fl z,P.underlying s=some (.struct fs)/\fs[f]? =some fl/\fl.offset=off/\(∃ i,P.info? fl.type=some i/\i.size=z)/\z≠0
class El(P:bT)(t:aP)(el:outParam aP):Prop where
 h:P.underlying t=some (.slice el)
class Mp(P:bT)(t:aP)(key el:outParam aP):Prop where
 h:P.underlying t=some (.map key el)
class Ik(P:bT)(t:aP)(k:outParam IntKind):Prop where
 h:P.underlying t=some (.int k)
class Pt(P:bT)(t:aP)(el:outParam aP):Prop where
 h:P.underlying t=some (.pointer el)
def aad:TypeDesc->Bool|.interface _=>true|_=>false
class NI(P:bT)(t:aP):Prop where
 h:∃ u,P.underlying t=some u/\aad u=false
theorem aD{P:bT}{i:TypeInfo}(h:P.types[t]? =some i):P.info? t=some i:=by have:=(iF.1 h).1;show(if t<P.types.size then P.types[t]? else _)=_;rw[aJ this,h]
variable{P:bT}{B:lM}{α β:Type}{H:Array Obj}{d:Nat}
theorem aA{a:α}{Q:α->Array Obj->Nat->Prop}(h:Q a H d):dQ P B (pure a) H d Q:=h
theorem ju{i:TypeInfo}(h:P.info? t=some i):Pu P (typeInfo t) i:=λB H d Q q=>by unfold typeInfo;refine ae ?_;show dQ P B _ _ _ _;simp only[program,dQ,h];exact q
theorem dN{u:TypeDesc}(h:P.underlying t=some u):Pu P (underlying t) u:=λB H d Q q=>by unfold underlying;refine ae ?_;show dQ P B _ _ _ _;simp only[program,dQ,h];exact q
theorem ja[c:Cz P t z]:Pu P (sizeOf t) z:=λB H d Q q=>by obtain⟨i,h,rfl⟩:=c.h;unfold sizeOf;exact ae<|ju h B H d _ q
theorem oR{v:Value}[c:Zv P t v]:Pu P (zeroValue t) v:=λB H d Q q=>by obtain⟨i,h,a⟩:=c.h;unfold zeroValue;refine ae<|ju h B H d _ ?_;rw[a];exact q
theorem AL{b:Bool}[c:Ag P t b]:Pu P (isAgg t) b:=λB H d Q q=>by obtain⟨u,h,a⟩:=c.h;unfold isAgg;refine ae<|dN h B H d _ ?_;subst a;cases u<;>exact q
theorem wL{m:Mode}{v:Value}(h1:hp H a.block=some (.cells c ty fr))(b:a.spot=none)(f:c[a.off]? =some v)(g:m=.plain->B.sh ty a.off=false)(h:Q v H d):dQ P B (load a m) H d Q:=
 ⟨c,ty,v,⟨fr,h1⟩,b,f,λe=>.inr<|g e,h⟩
theorem DI{m:Mode}{v:Value}(h1:hp H a.block=some (.cells c ty fr))(b:a.spot=none)(e:c[a.off]? =some v)(f:a.block<B.bot)(h:Q v H d):dQ P B (load a m) H d Q:=
 ⟨c,ty,v,⟨fr,h1⟩,b,e,λ_=>.inl f,h⟩
theorem add_zero(a:Addr):a.add 0=a:=by simp[Addr.add]
theorem iI(b off n:Nat):(⟨b,off,none⟩:Addr).add n=⟨b,off+n,none⟩:=by
 unfold Addr.add;split
 .rename_i h;subst h;rfl
 .rfl
theorem oS{b off:Nat}{c:Array Value}{ty:aP}{fr:Nat×Nat}(h1:hp H b=some (.cells c ty fr)):∀ (z i:Nat) (a:Array Value) {Q:Array Value->Array Obj->Nat->Prop},off+i+z<=c.size->(∀ j,B.sh ty j=false)->Q (a++c.extract (off+i) (off+i+z)) H d->dQ P B (loadCellsFrom ⟨b,off,none⟩ i z a) H d Q
 |0,i,a,Q,_,_,q=>by
  unfold loadCellsFrom;refine aA ?_;have:c.extract (off+i) (off+i+0)=#[]:=by simp;omega
  rw[this,zj]at q;exact q
 |z+1,i,a,Q,g,hs,q=>by
  unfold loadCellsFrom;refine ae ?_;have f:off+i<c.size:=ai;refine wL (c:=c) (ty:=ty) (v:=c[off+i]) (by rw[iI];exact h1) (by rw[iI]) (by rw[iI];exact Gu f) (λ_=>hs _) ?_;refine oS h1 z (i+1) _ ai hs ?_;have:a.push c[off+i]++c.extract (off+(i+1)) (off+(i+1)+z)=a++c.extract (off+i) (off+i+(z+1)):=by
   apply uJ;intro j;simp only[ZJ,NP,QR,ZK];by_cases h1:j<a.size
   .simp[h1,Nat.lt_succ_of_lt h1,QT h1]
   .by_cases e:j=a.size
    .subst e;simp;omega
    .have:¬ j<a.size+1:=ai;simp only[this,h1,eQ,e];have e1:off+(i+1)+(j-(a.size+1))=off+i+(j-a.size):=ai;rw[e1]
     congr 1
     simp only[eq_iff_iff];omega
  rw[this];exact q
theorem uZ{b:Nat}{Q:Array Value->Array Obj->Nat->Prop}(h1:hp H b=some (.cells c ty fr))(hz:off+z<=c.size)(hs:∀ j,B.sh ty j=false)(q:Q (c.extract off<|off+z) H d):dQ P B (loadCells ⟨b,off,none⟩ z) H d Q:=by unfold loadCells;refine oS (off:=off) h1 z 0 #[] ai hs ?_;simpa using q
theorem jB[Ag P t false]{b:Nat}{v:Value}(h1:hp H b=some (.cells c ty fr))(a:c[off]? =some v)(e:B.sh ty off=false)(h:Q v H d):dQ P B (loadVar t ⟨b,off,none⟩) H d Q:=by unfold loadVar;exact ae<|AL B H d _<|wL h1 rfl a (λ_=>e) h
theorem Fh[Ag P t false]{b:Nat}{v:Value}(h1:hp H b=some (.cells c ty fr))(a:c[off]? =some v)(e:b<B.bot)(h:Q v H d):dQ P B (loadVar t ⟨b,off,none⟩) H d Q:=by unfold loadVar;exact ae<|AL B H d _<|DI h1 rfl a e h
theorem qS[Ag P t true][Cz P t z]{b:Nat}(h1:hp H b=some (.cells c ty fr))(hz:off+z<=c.size)(hs:∀ j,B.sh ty j=false)(h:Q (.agg<|c.extract off<|off+z) H d):dQ P B (loadVar t ⟨b,off,none⟩) H d Q:=by unfold loadVar;refine ae<|AL B H d _ ?_;simp only[fq];exact ae<|ja B H d _<|ae<|uZ h1 hz hs h
def wr(c:Array Value)(off:Nat):List Value->Array Value
 |[]=>c
 |v::l=>wr (c.setIfInBounds off v) (off+1) l
theorem zR:∀ (l:List Value) (c:Array Value) (off:Nat),(wr c off l).size=c.size
 |[],c,off=>rfl
 |v::l,c,off=>by unfold wr;rw[zR l];simp
theorem aae{b:Nat}{o':Obj}(h:hp H b=some o):hp (H.setIfInBounds b o') b=some o':=by unfold hp at h⊢;exact lh (iF.1 h).1
theorem N5{b:Nat}{o':Obj}:(H.setIfInBounds b o).setIfInBounds b o'=H.setIfInBounds b o':=by
 apply uJ;intro i;simp only[adL];by_cases h:b=i
 .subst h;simp
 .simp[h]
theorem R4{b:Nat}(h:hp H b=some o):H.setIfInBounds b o=H:=by
 apply uJ;intro i;simp only[adL];by_cases z:b=i
 .subst z;unfold hp at h;have:=(iF.1 h).1;rw[aJ rfl,aJ this,h]
 .simp[z]
theorem lW{b off:Nat}{ty:aP}:∀ (l:List Value) (i:Nat) {H:Array Obj} {c:Array Value} {Q:Unit->Array Obj->Nat->Prop},hp H b=some (.cells c ty (0,0))->off+i+l.length<=c.size->(∀ v∈l,gJ v=true)->(∀ j,off+i<=j->j<off+i+l.length->B.rd b ty j=false/\B.sh ty j=false)->
  Q () (H.setIfInBounds b<|.cells (wr c (off+i) l) ty (0,0)) d->dQ P B (storeCells ⟨b,off,none⟩ l i) H d Q
 |[],i,H,c,Q,h1,_,_,_,q=>by unfold storeCells;refine aA ?_;have:H.setIfInBounds b (.cells (wr c (off+i) []) ty (0,0))=H:=R4 h1;rw[this]at q;exact q
 |v::l,i,H,c,Q,h1,g,e,a,q=>by unfold storeCells;refine ae ?_;simp only[nN]at g a;have f:=a (off+i) (fC _) ai;rw[iI];refine⟨e v<|fX ..,c,ty,h1,rfl,by simp;omega,f.1,λ_=>f.2,?_⟩;refine lW (off:=off) l (i+1) (aae h1) (by simp;omega) (λv h=>e v<|fg _ h) (λj h1 k=>a j ai ai) ?_;rw[N5];exact q
theorem qT[Cz P t z]{b:Nat}{v:Value}{Q:Unit->Array Obj->Nat->Prop}(h1:hp H b=some (.cells c ty (0,0)))(hsz:v.cells.size=z)(hz:off+z<=c.size)(hv:∀ x∈v.cells,gJ x=true)
  (a:∀ j,off<=j->j<off+z->B.rd b ty j=false/\B.sh ty j=false) (q:Q () (H.setIfInBounds b<|.cells (wr c off v.cells.toList) ty (0,0)) d):dQ P B (storeVar t ⟨b,off,none⟩ v) H d Q:=by
 unfold storeVar;refine ae<|ja B H d _ ?_;rw[ax (by rw[hsz];simp)];refine lW (off:=off) v.cells.toList 0 h1 (by simp[hsz];omega) (λx e=>hv x<|E3.1 e) (λj g f=>a j ai (by simp[hsz]at f;omega)) q
variable{ao:Bool}{R:Nat->aO->Array Obj->Prop}{As aT:List HP}
variable{fn:bN}{kd:Kd}{n:Nat}{e:Nat->Value}{ds:List eK}{k:List Item}{cs:List Frame}
variable{O:Array Oper}{i:Nat}{aa:List Nat}{dst:Option Nat}{t:Nat}{ty:aP}{pos:String}{af:Array Edge}{gd:Option (Nat×Bool)}{x y:dp}{v:Value}{u:Array Value}{b off:Nat}{c:Array Value}{el tt:aP}
theorem ab.mv(C:ab P ao B R)(a:bk O i=some ⟨some t,.move x,ty,pos,af,gd⟩)(h:At R d As (gr fn kd n (put e t v) ds (.inRegion O aa::k) cs))
  (hx:ev n e x=v:=by conv=>{lhs;whnf}) (b:aN O n e gd=true:=by rfl):At R d As (gr fn kd n e ds (.inRegion O (i::aa)::k) cs):=
 C.val a b (λ_ _ _ _ q=>by unfold execOp;simp only[hx];exact q) h
theorem ab.pN(C:ab P ao B R)(a:bk O i=some ⟨some t,.assign x,ty,pos,af,gd⟩)(h:At R d As (gr fn kd n (put e t v) ds (.inRegion O aa::k) cs))
  (hx:ev n e x=v:=by conv=>{lhs;whnf}) (b:aN O n e gd=true:=by rfl):At R d As (gr fn kd n e ds (.inRegion O (i::aa)::k) cs):=
 C.val a b (λ_ _ _ _ q=>by unfold execOp;simp only[hx];exact q) h
theorem ab.nc(C:ab P ao B R)(b:bk O i=some ⟨some t,.nilCheck x,ty,pos,af,gd⟩)(h:At R d As (gr fn kd n (put e t<|.pointer<|some a) ds (.inRegion O aa::k) cs))
  (hx:ev n e x=.pointer (some a):=by rfl) (c:aN O n e gd=true:=by rfl):At R d As (gr fn kd n e ds (.inRegion O (i::aa)::k) cs):=
 C.val b c (λ_ _ _ _ q=>by unfold execOp;simp only[hx];exact q) h
theorem ab.fa(C:ab P ao B R){o:Nat}[c:Fl P s f o](a:bk O i=some ⟨some t,.fieldAddr s x f,ty,pos,af,gd⟩)(h:At R d As (gr fn kd n (put e t<|.pointer<|some ⟨b,off+o,none⟩) ds (.inRegion O aa::k) cs))
  (hx:ev n e x=.pointer (some ⟨b,off,none⟩):=by rfl) (g:aN O n e gd=true:=by rfl):At R d As (gr fn kd n e ds (.inRegion O (i::aa)::k) cs):=
 C.val a g (λB H d Q q=>by obtain⟨r,u,z,h1,j,rfl,⟨inf,l,m⟩,p⟩:=c.h;unfold execOp;simp only[hx,Instr.fieldAt];refine ae<|ae<|dN h1 B H d _ ?_;simp only[j,Instr.sureAddr];refine ae<|aA ?_;unfold fieldPlace sizeOf;refine ae<|ae<|ae<|ju l B H d _<|aA ?_;rw[m,ax p,iI];exact q) h
theorem ab.ld(C:ab P ao B R)[Ag P tt false](a:bk O i=some ⟨some t,.load tt x,ty,pos,af,gd⟩)(h:At R d As (gr fn kd n (put e t v) ds (.inRegion O aa::k) cs))
  (hx:ev n e x=.pointer (some ⟨b,off,none⟩):=by rfl) (hh:Kn As b (.cells c el (0,0)):=by first|(apply Has.kn;(repeat(first|with_reducible exact Has.head|with_reducible apply Has.tail));done)|(apply Ext.kn;assumption;(repeat(first|with_reducible exact Has.head|with_reducible apply Has.tail));done))  (hc:c[off]? =some v0:=by rfl) (pO:v0=v:=by first|((conv=>{lhs;whnf});done)|rfl) (hs:B.sh el off=false:=by rfl) (f:aN O n e gd=true:=by rfl):At R d As (gr fn kd n e ds (.inRegion O (i::aa)::k) cs):=
 C.gen a f λH s=>by unfold execOp;simp only[hx,Instr.loadAt,Instr.sureAddr];exact ae<|ae<|aA<|jB (hh _ s) (pO▸hc) hs ⟨As,s,h⟩
theorem ab.ldS(C:ab P ao B R)[Ag P tt true][Cz P tt z](a:bk O i=some ⟨some t,.load tt x,ty,pos,af,gd⟩)(h:At R d As (gr fn kd n (put e t<|.agg u) ds (.inRegion O aa::k) cs))
  (hx:ev n e x=.pointer (some ⟨b,off,none⟩):=by rfl) (hh:Kn As b (.cells c el (0,0)):=by first|(apply Has.kn;(repeat(first|with_reducible exact Has.head|with_reducible apply Has.tail));done)|(apply Ext.kn;assumption;(repeat(first|with_reducible exact Has.head|with_reducible apply Has.tail));done)) (hz:off+z<=c.size:=by first|decide|(simp only[lR,Nat.reduceAdd,VN,nN,CM];decide)) (hc:c.extract off (off+z)=u:=by first|(simp only[lR,Nat.reduceAdd,VO,VP,QU,List.drop_succ_cons,List.take_succ_cons,ZL,Nat.sub_zero,Nat.reduceSub];done)|(simp only[lR,Nat.reduceAdd,VO,VP,QU,List.drop_succ_cons,List.take_succ_cons,ZL,Nat.sub_zero,Nat.reduceSub];rfl)|rfl) (hs:∀ j,B.sh el j=false:=by intro j;rfl) (f:aN O n e gd=true:=by rfl):At R d As (gr fn kd n e ds (.inRegion O (i::aa)::k) cs):=
 C.gen a f λH s=>by unfold execOp;simp only[hx,Instr.loadAt,Instr.sureAddr];exact ae<|ae<|aA<|qS (hh _ s) hz hs ⟨As,s,hc▸h⟩
theorem ab.st(C:ab P ao B R)[Cz P tt 1](g:bk O i=some ⟨none,.store tt x y,ty,pos,af,gd⟩)(h:At R d aT (gr fn kd n e ds (.inRegion O aa::k) cs))
  (hx:ev n e x=.pointer (some ⟨b,off,none⟩):=by rfl) (l:ev n e y=v:=by conv=>{lhs;whnf}) (hv:gJ v=true:=by rfl)
   (hu:sT b (.cells c el (0,0)) (.cells c' el (0,0)) As aT:=by repeat(first|with_reducible exact sT.head|with_reducible apply sT.tail)) (m:c.setIfInBounds off v=c':=by first|(simp only[lR,Nat.reduceAdd,Aj,Ak,uK];done)|(simp only[lR,Nat.reduceAdd,Aj,Ak,uK];rfl)|rfl) (hz:off<c.size:=by first|decide|(simp only[lR,Nat.reduceAdd,VN,nN,CM];decide)) (hr:B.rd b el off=false:=by rfl) (hs:B.sh el off=false:=by rfl) (o:aN O n e gd=true:=by rfl):At R d As (gr fn kd n e ds (.inRegion O (i::aa)::k) cs):=
 C.gen g o λH s=>by
  subst m;have a:v.cells=#[v]:=by cases v<;>first|rfl|(simp[gJ]at hv)
  unfold execOp;simp only[hx,l,Instr.storeAt,Instr.sureAddr];refine ae<|ae<|aA<|qT (hu.has.get s) (by rw[a];rfl) hz (λz f=>by rw[a]at f;simp at f;subst f;exact hv) (λj h1 p=>by have:j=off:=ai;subst this;exact⟨hr,hs⟩) ?_
  refine⟨aT,?_,h⟩;rw[a];exact hu.set s
theorem ab.vz(C:ab P ao B R)[Cz P tt z]{xs:Array Value}(f:bk O i=some ⟨none,.store tt x y,ty,pos,af,gd⟩)(h:At R d aT (gr fn kd n e ds (.inRegion O aa::k) cs))
  (hx:ev n e x=.pointer (some ⟨b,off,none⟩):=by rfl) (g:ev n e y=.agg xs:=by rfl) (hv:∀ v∈xs.toList,gJ v=true:=by simp[gJ]) (a:xs.size=z:=by rfl)
   (hu:sT b (.cells c el (0,0)) (.cells c' el (0,0)) As aT:=by repeat(first|with_reducible exact sT.head|with_reducible apply sT.tail)) (l:wr c off xs.toList=c':=by first|(simp only[lR,Nat.reduceAdd,Aj,Ak,uK,wr,VQ];done)|(simp only[lR,Nat.reduceAdd,Aj,Ak,uK,wr,VQ];rfl)|rfl) (hz:off+z<=c.size:=by first|decide|(simp only[lR,Nat.reduceAdd,VN,nN,CM];decide)) (hr:∀ j,B.rd b el j=false:=by intro j;rfl) (hs:∀ j,B.sh el j=false:=by intro j;rfl) (m:aN O n e gd=true:=by rfl):At R d As (gr fn kd n e ds (.inRegion O (i::aa)::k) cs):=
 C.gen f m λH s=>by subst l;unfold execOp;simp only[hx,g,Instr.storeAt,Instr.sureAddr];exact ae<|ae<|aA<|qT (v:=.agg xs) (hu.has.get s) a hz (λz o=>hv z<|E3.2 o) (λj h1 p=>⟨hr j,hs j⟩) ⟨aT,hu.set s,h⟩
theorem ab.ia(C:ab P ao B R){len:Nat}{kk:IntKind}{j:Int}{o:Nat}[c:El P tt el][Cz P el z](a:bk O i=some ⟨some t,.indexAddr tt x y,ty,pos,af,gd⟩)(h:At R d As (gr fn kd n (put e t<|.pointer<|some ⟨b,o,none⟩) ds (.inRegion O aa::k) cs))
  (hx:ev n e x=.slice (some ⟨b,off,none⟩) len cap:=by rfl) (f:ev n e y=.int kk j:=by rfl) (hj:0<=j/\j<len:=by constructor<;>omega) (hoff:off+j.toNat*z=o:=by rfl) (g:aN O n e gd=true:=by rfl):At R d As (gr fn kd n e ds (.inRegion O (i::aa)::k) cs):=
 C.val a g (λB H d Q q=>by unfold execOp;simp only[hx,f,Instr.indexAt,asIntOf];refine ae<|ae<|aA ?_;refine ae<|dN c.h B H d _ ?_;refine ae<|aA ?_;refine ae<|dN c.h B H d _ ?_;simp only;rw[aJ hj];refine ae<|ja B H d _<|aA ?_;rw[iI,hoff];exact q) h
theorem v9(h1: -9223372036854775808<=r)(a:r<=9223372036854775807):IntKind.i64.wrap r=r:=by rw[IntKind.wrap_i64];omega
theorem w32(h1: -2147483648<=r)(a:r<=2147483647):IntKind.i32.wrap r=r:=by rw[IntKind.wrap_i32];omega
theorem wu8(h1:0<=r)(a:r<=255):IntKind.u8.wrap r=r:=by rw[IntKind.wrap_u8];omega
variable{z:dp}{u:Value}{t2:aP}
variable{kk:IntKind}{p q r:Int}
theorem gL{k1 k2:IntKind}:Pu P (eqGuard op tt x y (.int k1 p)<|.int k2 q) ():=by cases op<;>exact λ_ _ _ _ h=>h
abbrev Nx(R:Nat->aO->Array Obj->Prop)(d:Nat)(As:List HP)(fn:bN)(kd:Kd)(n:Nat)(e:Nat->Value)(ds:List eK)(O:Array Oper)(aa:List Nat)(k:List Item)(cs:List Frame)(t:Nat)(v:Value):Prop:=
 At R d As (gr fn kd n (put e t v) ds (.inRegion O aa::k) cs)
abbrev Nw(R:Nat->aO->Array Obj->Prop)(d:Nat)(As:List HP)(fn:bN)(kd:Kd)(n:Nat)(e:Nat->Value)(ds:List eK)(O:Array Oper)(i:Nat)(aa:List Nat)(k:List Item)(cs:List Frame):Prop:=
 At R d As (gr fn kd n e ds (.inRegion O (i::aa)::k) cs)
def arith(op:BinOp)(p q:Int):Option Int:=match op with|.add=>some (p+q)|.sub=>some (p-q)|.mul=>some (p*q)|_=>none
theorem R6(h:arith op p q=some r)(hr:kk.wrap r=r):Pu P (binOp op tt (.int kk p)<|.int kk q) (.int kk r):=by
 intro B H d Q a;cases op<;>simp only[arith,zJ]at h<;>first|(cases h;done)|skip
 all_goals(subst h;unfold binOp;simp only[ne_eq,JO,eQ,Op.intArith,hr];exact a)
theorem ab.ar(C:ab P ao B R)(a:bk O i=some ⟨some t,.binOp op tt x y t2,ty,pos,af,gd⟩)(h:Nx R d As fn kd n e ds O aa k cs t (.int kk r))
  (hx:ev n e x=.int kk p:=by rfl) (b:ev n e y=.int kk q:=by rfl) (ha:arith op p q=some r:=by rfl) (hr:kk.wrap r=r:=by first|exact v9 ai ai|exact w32 ai ai|exact wu8 ai ai) (c:aN O n e gd=true:=by rfl):Nw R d As fn kd n e ds O i aa k cs:=
 C.val a c (λB H d Q f=>by unfold execOp;simp only[hx,b];exact ae<|ae<|gL B H d _<|R6 ha hr B H d _ f) h
theorem ab.arw(C:ab P ao B R)(a:bk O i=some ⟨some t,.binOp op tt x y t2,ty,pos,af,gd⟩)(h:Nx R d As fn kd n e ds O aa k cs t (.int kk<|kk.wrap r))
  (hx:ev n e x=.int kk p:=by rfl) (b:ev n e y=.int kk q:=by rfl) (ha:arith op p q=some r:=by rfl) (c:aN O n e gd=true:=by rfl):Nw R d As fn kd n e ds O i aa k cs:=
 C.val a c (λB H d Q f=>by
  unfold execOp;simp only[hx,b];refine ae<|ae<|gL B H d _ ?_;cases op<;>simp only[arith,zJ]at ha<;>first|(cases ha;done)|skip
  all_goals(subst ha;unfold binOp;simp only[ne_eq,JO,eQ,Op.intArith];exact f)) h
theorem ab.quo(C:ab P ao B R)(a:bk O i=some ⟨some t,.binOp .quo tt x y t2,ty,pos,af,gd⟩)(h:Nx R d As fn kd n e ds O aa k cs t (.int kk<|p.tdiv q))
  (hx:ev n e x=.int kk p:=by rfl) (b:ev n e y=.int kk q:=by rfl) (c:q≠0:=by first|decide|omega) (hr:kk.wrap (p.tdiv q)=p.tdiv q:=by first|exact v9 ai ai) (f:aN O n e gd=true:=by rfl):Nw R d As fn kd n e ds O i aa k cs:=
 C.val a f (λB H d Q g=>by unfold execOp;simp only[hx,b];refine ae<|ae<|gL B H d _ ?_;unfold binOp;simp only[ne_eq,JO,eQ,Op.intDiv,ax c,hr];exact g) h
theorem ab.rem(C:ab P ao B R)(a:bk O i=some ⟨some t,.binOp .rem tt x y t2,ty,pos,af,gd⟩)(h:Nx R d As fn kd n e ds O aa k cs t (.int kk<|p.tmod q))
  (hx:ev n e x=.int kk p:=by rfl) (b:ev n e y=.int kk q:=by rfl) (c:q≠0:=by first|decide|omega) (f:aN O n e gd=true:=by rfl):Nw R d As fn kd n e ds O i aa k cs:=
 C.val a f (λB H d Q g=>by unfold execOp;simp only[hx,b];refine ae<|ae<|gL B H d _ ?_;unfold binOp;simp only[ne_eq,JO,eQ,Op.intDiv,ax c];exact g) h
def G4(op:BinOp)(p q:Int):Option Prop:=match op with|.eql=>some (p=q)|.neq=>some (p≠q)|.lss=>some (p<q)|.leq=>some (p<=q)|.gtr=>some (p>q)|.geq=>some (p>=q)|_=>none
def G5(op:BinOp)(p q:Int):Bool:=match op with|.eql=>p==q|.neq=>p != q|.lss=>p<q|.leq=>p<=q|.gtr=>p>q|.geq=>p>=q|_=>false
theorem Ms(h:G4 op p q=some φ):G5 op p q=true↔φ:=by cases op<;>simp only[G4,zJ]at h<;>first|(cases h;done)|(subst h;simp[G5])
theorem R7(h:G4 op p q=some φ):Pu P (binOp op tt (.int kk p)<|.int kk q) (.bool<|G5 op p q):=by
 intro B H d Q a;cases op<;>simp only[G4,zJ]at h<;>first|(cases h;done)|skip
 all_goals(unfold binOp;simp only[ne_eq,JO,eQ,Op.intCmp];exact a)
theorem ab.cmp(C:ab P ao B R)(b:bk O i=some ⟨some t,.binOp op tt x y t2,ty,pos,af,gd⟩)(h1:φ->Nx R d As fn kd n e ds O aa k cs t (.bool true))(c:¬ φ->Nx R d As fn kd n e ds O aa k cs t (.bool false))
  (hx:ev n e x=.int kk p:=by rfl) (g:ev n e y=.int kk q:=by rfl) (hc:G4 op p q=some φ:=by rfl) (h:aN O n e gd=true:=by rfl):Nw R d As fn kd n e ds O i aa k cs:=by
 have key:Nx R d As fn kd n e ds O aa k cs t (.bool<|G5 op p q):=by
  cases a:G5 op p q with
  |true=>exact h1<|(Ms hc).1 a
  |false=>exact c λf=>by rw[(Ms hc).2 f]at a;cases a
 exact C.val b h (λB H d Q j=>by unfold execOp;simp only[hx,g];exact ae<|ae<|gL B H d _<|R7 hc B H d _ j) key
theorem ab.fQ(C:ab P ao B R)(a:bk O i=some ⟨some t,.binOp op tt x y t2,ty,pos,af,gd⟩)(h:Nx R d As fn kd n e ds O aa k cs t (.bool true))
  (hx:ev n e x=.int kk p:=by rfl) (b:ev n e y=.int kk q:=by rfl) (hc:G4 op p q=some φ:=by rfl) (hf:φ:=by first|decide|omega) (c:aN O n e gd=true:=by rfl):Nw R d As fn kd n e ds O i aa k cs:=
 C.cmp a (λ_=>h) (λf=>absurd hf f) hx b hc c
theorem ab.ed(C:ab P ao B R)(a:bk O i=some ⟨some t,.binOp op tt x y t2,ty,pos,af,gd⟩)(h:Nx R d As fn kd n e ds O aa k cs t (.bool false))
  (hx:ev n e x=.int kk p:=by rfl) (b:ev n e y=.int kk q:=by rfl) (hc:G4 op p q=some φ:=by rfl) (hf:¬ φ:=by first|decide|omega) (c:aN O n e gd=true:=by rfl):Nw R d As fn kd n e ds O i aa k cs:=
 C.cmp a (λf=>absurd f hf) (λ_=>h) hx b hc c
theorem ab.aeg(C:ab P ao B R)(a:bk O i=some ⟨some t,.binOp op tt x y t2,ty,pos,af,gd⟩)(h:Nx R d As fn kd n e ds O aa k cs t (.bool<|G5 op p q))
  (hx:ev n e x=.int kk p:=by rfl) (b:ev n e y=.int kk q:=by rfl) (hc:G4 op p q=some φ:=by rfl) (c:aN O n e gd=true:=by rfl):Nw R d As fn kd n e ds O i aa k cs:=
 C.val a c (λB H d Q f=>by unfold execOp;simp only[hx,b];exact ae<|ae<|gL B H d _<|R7 hc B H d _ f) h
theorem ab.nt(C:ab P ao B R){b:Bool}(a:bk O i=some ⟨some t,.unOp .not tt x,ty,pos,af,gd⟩)(h:Nx R d As fn kd n e ds O aa k cs t (.bool<|!b))
  (hx:ev n e x=.bool b:=by rfl) (c:aN O n e gd=true:=by rfl):Nw R d As fn kd n e ds O i aa k cs:=
 C.val a c (λB H d Q f=>by unfold execOp;simp only[hx];exact f) h
theorem ab.ngI(C:ab P ao B R)(a:bk O i=some ⟨some t,.unOp .neg tt x,ty,pos,af,gd⟩)(h:Nx R d As fn kd n e ds O aa k cs t (.int kk r))
  (hx:ev n e x=.int kk p:=by rfl) (hr:kk.wrap (0-p)=r:=by exact v9 ai ai) (b:aN O n e gd=true:=by rfl):Nw R d As fn kd n e ds O i aa k cs:=
 C.val a b (λB H d Q c=>by unfold execOp;simp only[hx,Op.unary,Op.intArith,hr];exact c) h
theorem ab.pk(C:ab P ao B R){b:Bool}(a:bk O i=some ⟨some t,.pick x y z,ty,pos,af,gd⟩)(h:Nx R d As fn kd n e ds O aa k cs t v)
  (hx:ev n e x=.bool b:=by rfl) (hv:(if b then ev n e y else ev n e z)=v:=by conv=>{lhs;whnf}) (c:aN O n e gd=true:=by rfl):Nw R d As fn kd n e ds O i aa k cs:=
 C.val a c (λB H d Q f=>by unfold execOp;simp only[hx,asBool];refine ae<|aA ?_;cases b<;>(subst hv;exact f)) h
theorem ab.cv(C:ab P ao B R){k1 k2:IntKind}{a b:aP}[c:Ik P a k1][f:Ik P b k2](g:bk O i=some ⟨some t,.convert a b x,ty,pos,af,gd⟩)(h:Nx R d As fn kd n e ds O aa k cs t (.int k2 r))
  (hx:ev n e x=.int k1 p:=by rfl) (hr:k2.wrap p=r:=by first|exact v9 ai ai|exact w32 ai ai|exact wu8 ai ai) (j:aN O n e gd=true:=by rfl):Nw R d As fn kd n e ds O i aa k cs:=
 C.val g j (λB H d Q l=>by unfold execOp;simp only[hx];refine ae ?_;unfold convert;refine ae<|dN c.h B H d _<|ae<|dN f.h B H d _ ?_;simp only[Conv.intToInt,hr];exact l) h
theorem ab.ext(C:ab P ao B R){vs:Array Value}{a:Nat}(b:bk O i=some ⟨some t,.extract x a,ty,pos,af,gd⟩)(h:Nx R d As fn kd n e ds O aa k cs t v)
  (hx:ev n e x=.tuple vs:=by rfl) (hv:vs[a]? =some v:=by rfl) (c:aN O n e gd=true:=by rfl):Nw R d As fn kd n e ds O i aa k cs:=
 C.val b c (λB H d Q f=>by unfold execOp;simp only[hx,Instr.extract,hv];exact f) h
theorem ab.mi(C:ab P ao B R)[c:NI P tt](a:bk O i=some ⟨some t,.makeInterface tt x,ty,pos,af,gd⟩)(h:Nx R d As fn kd n e ds O aa k cs t (.iface tt v))
  (hx:ev n e x=v:=by conv=>{lhs;whnf}) (b:aN O n e gd=true:=by rfl):Nw R d As fn kd n e ds O i aa k cs:=
 C.val a b (λB H d Q f=>by obtain⟨u,h1,g⟩:=c.h;unfold execOp;simp only[hx,Instr.makeInterface];refine ae<|ae<|dN h1 B H d _ ?_;cases u<;>first|exact f|cases g) h
theorem ab.mf(C:ab P ao B R){f:Fn}{a1 a2:Array dp}{v1 v2:List Value}(a:bk O i=some ⟨some t,.makeFunc f a1 a2,ty,pos,af,gd⟩)(h:Nx R d As fn kd n e ds O aa k cs t (.func f v1.toArray v2.toArray))
  (h1:a1.toList.map (ev n e)=v1:=by rfl) (b:a2.toList.map (ev n e)=v2:=by rfl) (c:aN O n e gd=true:=by rfl):Nw R d As fn kd n e ds O i aa k cs:=
 C.val a c (λB H d Q g=>by
  have j:a1.map (ev n e)=v1.toArray:=by rw[<- h1,<- sx,vo]
  have l:a2.map (ev n e)=v2.toArray:=by rw[<- b,<- sx,vo]
  unfold execOp;simp only[Instr.makeFunc,j,l];exact g) h
theorem ab.fd(C:ab P ao B R){xs:Array Value}{o ft:Nat}(hf:∃ b a,P.underlying s=some (.struct b)/\b[f]? =some a/\a.offset=o/\a.type=ft)[Ag P ft false](c:bk O i=some ⟨some t,.field s x f,ty,pos,af,gd⟩)(h:Nx R d As fn kd n e ds O aa k cs t v)
  (hx:ev n e x=.agg xs:=by rfl) (hv:xs[o]? =some v:=by rfl) (g:aN O n e gd=true:=by rfl):Nw R d As fn kd n e ds O i aa k cs:=
 C.val c g (λB H d Q j=>by obtain⟨b,a,h1,l,rfl,rfl⟩:=hf;unfold execOp;simp only[hx,Instr.field];refine ae<|ae<|dN h1 B H d _ ?_;simp only[l,asAgg];refine ae<|aA ?_;unfold part;refine ae<|AL B H d _ ?_;simp only[hv];exact j) h
theorem ab.al(C:ab P ao B R){z:Value}[g:Zv P tt z](a:bk O i=some ⟨some t,.alloc tt,ty,pos,af,gd⟩)(h:∀ b,Nx R d (dq b (.cells c tt (0,0))::As) fn kd n e ds O aa k cs t<|.pointer<|some ⟨b,0,none⟩)
  (hc:z.cells=c:=by first|(simp only[Value.cells];done)|(simp only[Value.cells];rfl)|rfl) (f:aN O n e gd=true:=by rfl):Nw R d As fn kd n e ds O i aa k cs:=
 C.gen a f λH s=>by unfold execOp;simp only[Instr.alloc];subst hc;refine ae<|ae<|oR B H d _ ?_;exact⟨_,s.push _,h _⟩
theorem ab.bx(C:ab P ao B R)(f:bk O i=some ⟨some t,.box tt x,ty,pos,af,gd⟩)(h:∀ b,Nx R d (dq b (.cells c tt (0,0))::As) fn kd n e ds O aa k cs t<|.pointer<|some ⟨b,0,none⟩)
   (a:ev n e x=v0:=by conv=>{lhs;whnf}) (hx:v0.cells=c:=by first|(simp only[Value.cells];done)|(simp only[Value.cells];rfl)|rfl) (g:aN O n e gd=true:=by rfl):Nw R d As fn kd n e ds O i aa k cs:=
 C.gen f g λH s=>by unfold execOp;simp only[Instr.box];subst a;subst hx;exact⟨_,s.push _,h _⟩
inductive YH(P:bT):List Field->List (Nat×Nat)->Prop
 |nil:YH P [] []
 |cons {f:Field} {l:List Field} {m:List (Nat×Nat)} {o z:Nat} (ho:f.offset=o) (h:∃ i,P.info? f.type=some i/\i.size=z):YH P l m->YH P (f::l) ((o,z)::m)
theorem YH.pu{P:bT}{l:List Field}{m:List (Nat×Nat)}(s:YH P l m):Pu P (l.mapM λf=>(do pure (f.offset,<- sizeOf f.type):Sem (Nat×Nat))) m:=by
 induction s with
 |nil=>rw[List.mapM_nil];exact Pu.pure _
 |cons b h _ c=>
  obtain⟨i,h,rfl⟩:=h;subst b;rw[ZM];refine Pu.bind (a:=(_,_)) (λB H d Q q=>?_)<|Pu.bind c<|Pu.pure _;unfold sizeOf;exact ae<|ae<|ju h B H d _ q
class Bd(P:bT)(t:aP)(pl:outParam (List (Nat×Nat))):Prop where
 h:∃ fs,P.underlying t=some (.struct fs)/\YH P fs.toList pl
def flat{α:Type}(f:α->List Value)(l:List α):List Value:=l.flatMap f
variable{f:α->List Value}{z:Nat}
theorem fL(hz:∀ a,(f a).length=z):∀ (l:List α),(flat f l).length=l.length*z
 |[]=>by simp[flat]
 |a::l=>by have:=fL hz l;simp only[flat,GK,iV,nN]at this⊢;rw[this,hz,rS];omega
theorem G6(hz:∀ a,(f a).length=z):∀ (l:List α) (pad:List Value) (i j:Nat) (hi:i<l.length),j<z->(flat f l++pad)[i*z+j]? =(f l[i])[j]?
 |a::l,pad,0,j,_,b=>by simp only[flat,GK,QV,lR,rT,ZN];rw[pT (by rw[hz];exact b)]
 |a::l,pad,i+1,j,hi,b=>by
  have:=G6 hz l pad i j (by simpa using hi) b;simp only[flat,GK,rT,List.getElem_cons_succ]at this⊢;have e:(i+1)*z+j=z+(i*z+j):=by rw[rS];omega
  rw[E4 (by rw[hz];omega),hz,e];have:z+(i*z+j)-z=i*z+j:=ai;rw[this];assumption
theorem DJ(hz:∀ a,(f a).length=z):∀ (l:List α) (pad:List Value) (i:Nat) (hi:i<l.length),((flat f l++pad).drop<|i*z).take z=f l[i]
 |a::l,pad,0,_=>by simp only[flat,GK,QV,QU,rT,ZN];rw[<- hz a,List.take_left]
 |a::l,pad,i+1,hi=>by
  have:=DJ hz l pad i (by simpa using hi);simp only[flat,GK,rT,List.getElem_cons_succ]at this⊢;have e:(i+1)*z=(f a).length+i*z:=by rw[hz,rS];omega
  rw[e,List.drop_append];have h1:(f a).drop ((f a).length+i*z)=[]:=List.drop_eq_nil_of_le ai;have b:(f a).length+i*z-(f a).length=i*z:=ai;rw[h1,b,ek];exact this
theorem kN(l m:List α):flat f (l++m)=flat f l++flat f m:=by simp[flat]
theorem qg(a:α)(l:List α):flat f (a::l)=f a++flat f l:=by simp[flat]
def iv{α:Type}(f:α->List Value)(l:List α)(pad:List Value):Array Value:=(flat f l++pad).toArray
variable{l:List α}{pad:List Value}
theorem jR(hz:∀ a,(f a).length=z):(iv f l pad).size=l.length*z+pad.length:=by simp[iv,fL hz]
theorem R8(hz:∀ a,(f a).length=z){off i:Nat}(hi:i<l.length)(hj:j<z)(b:off=i*z+j):(iv f l pad)[off]? =(f l[i])[j]? :=by subst b;unfold iv;rw[JP];exact G6 hz l pad i j hi hj
theorem J5(hz:∀ a,(f a).length=z){off i:Nat}(hi:i<l.length)(b:off=i*z):(iv f l pad).extract off (off+z)=(f l[i]).toArray:=by
 subst b;unfold iv;rw[VO]
 congr 1
 rw[<- DJ hz l pad i hi,VP]
 congr 1;omega
theorem mM:∀ (vs:List Value) (a b c:List Value),b.length=vs.length->wr (a++b++c).toArray a.length vs=(a++vs++c).toArray
 |[],a,b,c,h=>by have:b=[]:=QW.1 (by simpa using h);subst this;rfl
 |v::vs,a,[],c,h=>by simp at h
 |v::vs,a,x::b,c,h=>by
  unfold wr;have h1:((a++x::b++c).toArray).setIfInBounds a.length v=((a++[v])++b++c).toArray:=by simp[List.set_append]
  have d:a.length+1=(a++[v]).length:=by simp
  rw[h1,d,mM vs (a++[v]) b c<|by simpa using h];simp
theorem R9(hz:∀ a,(f a).length=z){off i:Nat}(hi:i<l.length)(b:off=i*z)(a:α):wr (iv f l pad) off (f a)=iv f (l.set i a) pad:=by
 subst b;unfold iv;have hl:l=l.take i++l[i]::l.drop (i+1):=by simp
 have h1:flat f l++pad=flat f (l.take i)++f l[i]++(flat f (l.drop<|i+1)++pad):=by
  conv=>lhs;rw[hl,kN,qg]
  simp
 have c:(flat f<|l.take i).length=i*z:=by rw[fL hz,nO,CN ai]
 rw[h1,<- c,mM _ _ _ _<|by rw[hz,hz]]
 congr 1
 rw[ZO,aJ hi,kN,qg];simp
theorem N6(hz:∀ a,(f a).length=z){off i:Nat}(hi:i<l.length)(hj:j<z)(b:off=i*z+j){v:Value}(a:α)(ha:f a=(f l[i]).set j v):(iv f l pad).setIfInBounds off v=iv f (l.set i a) pad:=by
 subst b;unfold iv;have hl:l=l.take i++l[i]::l.drop (i+1):=by simp
 have h1:flat f l++pad=flat f (l.take i)++(f l[i]++(flat f (l.drop<|i+1)++pad)):=by
  conv=>lhs;rw[hl,kN,qg]
  simp
 have c:(flat f<|l.take i).length=i*z:=by rw[fL hz,nO,CN ai]
 have d:j<(f l[i]).length:=by rw[hz];exact hj
 rw[h1,Aj]
 congr 1
 rw[ZP _ _ ai,c,ZQ,List.set_append_left _ _ d,<- ha,ZO,aJ hi,kN,qg];simp
theorem N7(hz:∀ a,(f a).length=z){off:Nat}(b:off=l.length*z)(m:List α)(hp:m.length*z<=pad.length):wr (iv f l pad) off (flat f m)=iv f (l++m) (pad.drop<|m.length*z):=by
 subst b;unfold iv;have c:(flat f l).length=l.length*z:=fL hz l;have h1:flat f l++pad=flat f l++pad.take (m.length*z)++pad.drop (m.length*z):=by simp
 rw[h1,<- c,mM _ _ _ _ (by rw[nO,fL hz,CN hp]),kN]
variable{z:dp}
theorem ab.ln(C:ab P ao B R){a:Option Addr}{len:Nat}[cE:El P tt el](b:bk O i=some ⟨some t,.call ⟨.builtin .len,#[x],#[tt]⟩,ty,pos,af,gd⟩)(h:Nx R d As fn kd n e ds O aa k cs t (.int .i64 len))
  (hx:ev n e x=.slice a len cap:=by rfl) (c:aN O n e gd=true:=by rfl):Nw R d As fn kd n e ds O i aa k cs:=
 C.val b c (λB H d Q f=>by unfold execOp;simp only[resolve];refine ae<|aA ?_;simp only[CO,jq,ny,hx];unfold invoke builtin;refine ae ?_;unfold Builtin.len_;refine ae<|dN cE.h B H d _ ?_;exact f) h
end
section
open Go.Conc
structure ay where
 a:Option Addr
 len:Nat
 cap:Nat
abbrev ay.v(s:ay):Value:=.slice s.a s.len s.cap
def aV:ay:=⟨none,0,0⟩
def bK{α:Type}(f:α->List Value)(z:Nat)(el:aP)(s:ay)(l:List α):HP:=λh=>
 (s=aV/\l=[])\/∃ b pad,s=⟨some ⟨b,0,none⟩,l.length,s.cap⟩/\l.length*z+pad.length=s.cap*z/\l.length<=s.cap/\dq b (.cells (iv f l pad) el (0,0)) h
def oT(B:lM)(H:Array Obj)(z n:Nat)(x:Value)(xs:List Value):Prop:=
 (x=.slice none 0 0/\n=0/\xs=[])\/∃ b off cap c ty,x=.slice (some ⟨b,off,none⟩) n cap/\hp H b=some (.cells c ty (0,0))/\off+n*z<=c.size/\c.extract off (off+n*z)=xs.toArray/\∀ j,B.sh ty j=false
section
variable{P:bT}{B:lM}{H:Array Obj}{d:Nat}{α:Type}{f:α->List Value}{z:Nat}{el tt t3:aP}
theorem oT.len{x:Value}{xs:List Value}(s:oT B H z n x xs):Pu P (Builtin.lenOf x) n:=by rcases s with⟨rfl,rfl,_⟩|⟨b,off,cap,c,ty,rfl,_⟩<;>exact λ_ _ _ _ q=>q
theorem uj{x:Value}{xs:List Value}{Q:Array Value->Array Obj->Nat->Prop}(s:oT B H z n x xs)(q:Q xs.toArray H d):dQ P B (Builtin.firstCells z n x) H d Q:=by
 rcases s with⟨rfl,rfl,rfl⟩|⟨b,off,cap,c,ty,rfl,h1,a,e,f⟩
 .exact q
 .unfold Builtin.firstCells;exact uZ h1 a f (by rw[e];exact q)
theorem yL{Q:Unit->Array Obj->Nat->Prop}(q:Q () H d):dQ P B (askRoom n) H d Q:=by
 unfold askRoom;split
 .exact⟨trivial,q⟩
 .exact q
theorem AM{ty:Nat}{m:List α}{y:Value}{s:ay}{l:List α}[cE:El P tt el][r:El P t3 Sa][Cz P el z][cB:Bz P el bz][Zv P el zv]
  (hz:∀ a,(f a).length=z) (h1:∀ a,∀ v∈f a,gJ v=true) (M:zv.cells.size=z) (O:∀ b j,s.a=some ⟨b,0,none⟩->B.rd b el j=false) (J:∀ j,B.sh el j=false) (R:bz≠0) (hsz:(l.length+m.length)*bz<=140737488355328)
  (hs:Sat (bK f z el s l::As) (hp H)) (hsrc:oT B H z m.length y (flat f m)) (q:∀ s' K,s'.len=l.length+m.length->(s'.a=s.a\/s'.a=some ⟨H.size,0,none⟩)->Sat (bK f z el s' (l++m)::As) (hp K)->Q s'.v K d):dQ P B (Builtin.append_ #[tt,t3] ty #[s.v,y]) H d Q:=by
 have u:s.len=l.length:=by
  obtain⟨h',x,_⟩:=hs;rcases x with⟨rfl,rfl⟩|⟨b,pad,e,_⟩
  .rfl
  .rw[e]
 unfold Builtin.append_;simp only[JP,QX,VM];refine ae<|dN cE.h B H d _ ?_;simp only[ay.v];refine ae<|ja B H d _ ?_;refine ae<|dN r.h B H d _<|ae<|aA ?_;simp only[fW,eQ,NR,fq];refine ae<|hsrc.len B H d _ ?_;rw[u];split
 .rename_i c;refine ae<|uj hsrc ?_;obtain⟨w,x,i,A⟩:=hs;rcases x with⟨rfl,rfl⟩|⟨b,pad,e,S,T,p⟩
  .have U:m=[]:=QW.1 (by simpa[aV]using c);subst U;refine ae<|aA<|aA ?_;exact q aV H rfl (.inl rfl) ⟨w,.inl ⟨rfl,rfl⟩,i,A⟩
  .have k:s.a=some ⟨b,0,none⟩:=by rw[e]
   simp only[k];have C:hp H b=some (.cells (iv f l pad) el (0,0)):=by subst p;exact i b _<|by simp[one]
   refine ae ?_;rw[iI];have D:(flat f m).length=m.length*z:=fL hz m;have E:m.length*z<=pad.length:=by have:(l.length+m.length)*z<=s.cap*z:=GL z c;rw[rS]at this;omega
   refine lW (off:=0+l.length*z) (flat f m) 0 C ?_ ?_ (λj _ _=>⟨O _ j k,J j⟩) ?_
   .rw[jR hz,D];omega
   .intro v W;obtain⟨a,_,X⟩:=E5.1 W;exact h1 a v X
   .refine aA ?_;rw[N7 hz ai m E];refine q ⟨some ⟨b,0,none⟩,l.length+m.length,s.cap⟩ _ rfl (.inl k.symm) ?_;have Y:Sat (dq b (.cells (iv f l pad) el (0,0))::As) (hp H):=⟨w,p,i,A⟩;refine Sat.imp (λh g=>.inr ⟨b,pad.drop<|m.length*z,by simp,?_,?_,g⟩)<|Y.set
    .simp only[iV,E6,rS];omega
    .simpa using c
 .rename_i Z;have F:s.cap<l.length+m.length:=ai;obtain⟨inf,hi,L⟩:=cB.h;refine ae<|ju hi B H d _ ?_;have fA:¬ (((l.length+m.length:Nat):Int)>IntKind.i64.max/\(False\/inf.bytes=0)):=by
   rintro⟨_,n⟩;rcases n with n|n
   .exact n
   .exact R<|L▸n
  rw[ax fA];refine ae<|ju hi B H d _ ?_;have amN:=growslice_fits (bytes:=bz) F hsz;rw[L,ax ai];refine ae ?_;show dQ P B (.choose _ _) H d _;simp only[dQ,Question.forced,fW,eQ];intro t;generalize hN:Question.cut (.appendCap (l.length+m.length) s.cap el) t=N;have I:l.length+m.length<=N:=by rw[<- hN];show _<=l.length+m.length+t%(2^63-(l.length+m.length));omega
  show dQ P B (_ >>= _) H d _;refine ae<|ju hi B H d _ ?_;refine ae<|yL ?_;have o:oT B H z l.length (.slice s.a l.length s.cap) (flat f l):=by
   obtain⟨w,x,i,A⟩:=hs;rcases x with⟨rfl,rfl⟩|⟨b,pad,e,S,T,p⟩
   .exact .inl ⟨rfl,rfl,rfl⟩
   .have k:s.a=some ⟨b,0,none⟩:=by rw[e]
    have C:hp H b=some (.cells (iv f l pad) el (0,0)):=by subst p;exact i b _<|by simp[one]
    have YI:(flat f l).length=l.length*z:=fL hz l;refine .inr ⟨b,0,s.cap,_,_,by rw[k],C,by rw[jR hz];omega,?_,λj=>J j⟩;rw[lR,<- YI];simp[iv]
  refine ae<|uj o ?_;refine ae<|uj hsrc ?_;refine ae<|oR B H d _ ?_;refine ae ?_;unfold newRow;refine ae ?_;show dQ P B (.new _ _) H d _;simp only[dQ];show dQ P B (pure _) _ d _;have uP:(flat f l).toArray++(flat f m).toArray++Builtin.zeroCells zv.cells (N-(l.length+m.length))=iv f (l++m) (Builtin.zeroCells zv.cells<|N-(l.length+m.length)).toList:=by apply Array.ext';simp[iv,kN]
  rw[uP];refine aA<|aA ?_;refine q ⟨some ⟨H.size,0,none⟩,l.length+m.length,N⟩ _ rfl (.inr rfl) ?_;have hd:Sat As (hp H):=hs.drop;refine Sat.imp (λh g=>.inr ⟨H.size,_,by simp,?_,by simpa using I,g⟩)<|hd.push _;have hl:(Builtin.zeroCells zv.cells<|N-(l.length+m.length)).toList.length=(N-(l.length+m.length))*z:=by simp[Builtin.zeroCells,M]
  show(l++m).length*z+_=N*z;rw[hl,iV,<- rS]
  congr 1
  omega
theorem Fi(off:Nat):∀ (l:List Value) (j:Nat) (c:Array Value),(l.zipIdx j).foldl (λcs (p:Value×Nat)=>cs.setIfInBounds (off+p.2) p.1) c=wr c (off+j) l
 |[],_,_=>rfl
 |v::l,j,c=>by rw[List.zipIdx_cons,qQ,Fi off l<|j+1];rfl
theorem G8:∀ (vs:List Value) (i:Nat) (a b:List Value),(∀ v∈vs,v.cells.size=z)->a.length=i*z->b.length=vs.length*z->
  Instr.fill (λi=>some (i*z,z)) (a++b).toArray ((vs.zipIdx i).map λp=>(p.2,p.1))=some (a++vs.flatMap (·.cells.toList)).toArray
 |[],i,a,b,_,_,d=>by have:b=[]:=QW.1 (by simpa using d);subst this;simp[Instr.fill]
 |v::vs,i,a,b,g,e,d=>by
  have h:=g v<|fX ..;rw[nN,rS]at d;rw[List.zipIdx_cons,jq];unfold Instr.fill;have f:(a++b).toArray.size=i*z+(vs.length*z+1*z):=by rw[VN,iV,e,d]
  simp only[h,f];rw[ax (by simp)];have l:Array.foldl (λcs (x:Value×Nat)=>match x with|(c,j)=>cs.setIfInBounds (i*z+j) c) (a++b).toArray v.cells.zipIdx=wr (a++b).toArray (i*z) v.cells.toList:=by rw[<- ZR,ZS];exact Fi (i*z) v.cells.toList 0 _
  rw[l];have k:v.cells.toList.length=z:=by simpa using h
  have m:b=b.take z++b.drop z:=by simp
  have n:wr (a++b).toArray (i*z) v.cells.toList=((a++v.cells.toList)++b.drop z).toArray:=by
   conv=>lhs;rw[m,<- rT,<- e]
   rw[mM _ _ _ _ (by rw[nO,k];omega)]
  rw[n,G8 vs (i+1) (a++v.cells.toList) (b.drop z) (λx o=>g x<|fg _ o) (by rw[iV,e,k,rS];omega) (by rw[E6,d];omega)];simp
section
variable{ao:Bool}{R:Nat->aO->Array Obj->Prop}{As aT:List HP}
variable{fn:bN}{kd:Kd}{n:Nat}{e:Nat->Value}{ds:List eK}{k:List Item}{cs:List Frame}
variable{O:Array Oper}{i:Nat}{aa:List Nat}{dst:Option Nat}{t:Nat}{ty:aP}{pos:String}{af:Array Edge}{gd:Option (Nat×Bool)}{x y w:dp}{v u:Value}{b off n':Nat}{c:Array Value}
theorem ab.ap(C:ab P ao B R){m l:List α}{s:ay}[cE:El P tt el][o:El P t3 Sa][Cz P el z][cB:Bz P el bz][Zv P el zv]
  (p:bk O i=some ⟨some t,.call ⟨.builtin .append,#[x,y],#[tt,t3]⟩,ty,pos,af,gd⟩) (hz:∀ a,(f a).length=z) (h1:∀ a,∀ v∈f a,gJ v=true)
  (hsrc:∀ H,Sat (bK f z el s l::As) (hp H)->oT B H z m.length yv (flat f m)) (h:∀ s',s'.len=l.length+m.length->Nx R d (bK f z el s' (l++m)::As) fn kd n e ds O aa k cs t s'.v)
  (hsz:(l.length+m.length)*bz<=140737488355328:=by omega) (hx:ev n e x=s.v:=by rfl) (q:ev n e y=yv:=by rfl) (r:zv.cells.size=z:=by rfl) (u:bz≠0:=by decide) (g:∀ b j,B.rd b el j=false/\B.sh el j=false:=by intro _ j;exact⟨rfl,rfl⟩) (w:aN O n e gd=true:=by rfl):Nw R d (bK f z el s l::As) fn kd n e ds O i aa k cs:=
 C.gen p w λH s'=>by unfold execOp;simp only[resolve];refine ae<|aA ?_;simp only[CO,jq,ny,hx,q];unfold invoke builtin;refine ae ?_;exact AM hz h1 r (λb j _=>(g b j).1) (λj=>(g 0 j).2) u hsz s' (hsrc H s') λc A hl _ hs=>aA ⟨_,hs,h c hl⟩
theorem ab.bs(C:ab P ao B R){vs:List Value}{parts:Array (Nat×dp)}[cE:El P tt el][Cz P el z][Zv P el zv](c:bk O i=some ⟨some t,.buildSlice tt n' parts,ty,pos,af,gd⟩)
  (h:∀ b,Nx R d (dq b (.cells (vs.flatMap (·.cells.toList)).toArray el (0,0))::As) fn kd n e ds O aa k cs t<|.slice (some ⟨b,0,none⟩) n' n')
  (hp:(parts.toList.map λ(i,x)=>(i,ev n e x))=(vs.zipIdx 0).map λp=>(p.2,p.1):=by rfl) (f:vs.length=n':=by rfl) (hv:∀ v∈vs,v.cells.size=z:=by simp[Value.cells]) (g:n'*z≠0:=by decide) (hm:n'*z<=16777216:=by decide) (j:aN O n e gd=true:=by rfl):Nw R d As fn kd n e ds O i aa k cs:=
 C.gen c j λH s=>by
  unfold execOp;simp only[Instr.buildSlice];refine ae<|ae<|dN cE.h B H d _ ?_;refine ae<|ja B H d _ ?_;rw[ax ai,ax g];refine ae<|oR B H d _<|ae<|aA ?_;have a:=G8 (z:=z) vs 0 [] ((Array.range<|n'*z).map (zv.cells[· %zv.cells.size]!)).toList hv (by simp) (by simp[f]);have l:(parts.map λx=>(x.fst,ev n e x.snd)).toList=(vs.zipIdx 0).map λp=>(p.2,p.1):=by rw[sx];exact hp
  simp only[ek,vo]at a;rw[l,a];refine ae ?_;unfold newRow;refine ae ?_;show dQ P B (.new _ _) H d _;simp only[dQ];show dQ P B (pure _) _ d _;exact aA<|aA ⟨_,s.push _,h _⟩
end
end
end
section
open Go.Conc
theorem N8{f:α->List Value}{a0:α}{a:Array Value}(hf:f a0=a.toList)(hz:a.size=z)(g:z≠0):∀ (L:Nat),(Array.range<|L*z).map (λi=>a[i%a.size]!)=iv f (List.replicate L a0) []:=by
 intro L;apply uJ;intro i;have b:(f a0).length=z:=by rw[hf];simpa using hz
 have c:(iv f (List.replicate L a0) [])[i]? =if i<L*z then some a[i%z]! else none:=by
  unfold iv;rw[JP,lS]
  induction L generalizing i with
  |zero=>simp[flat]
  |succ L d=>
   rw[List.replicate_succ,qg];by_cases h:i<z
   .rw[pT ai,hf,aJ (by rw[rS];omega),Al h];have hi:i<a.size:=ai;simp[hi]
   .rw[E4 ai,b,d<|i-z];have e:i%z=(i-z)%z:=by rw[Nat.mod_eq_sub_mod ai]
    rw[e];have:(i-z<L*z)↔(i<(L+1)*z):=by rw[rS];omega
    simp only[this]
 rw[c];by_cases h:i<L*z
 .simp[h,hz]
 .simp[h]
variable{P:bT}{ao:Bool}{B:lM}{R:Nat->aO->Array Obj->Prop}{d:Nat}{As aT:List HP}{α:Type}{f:α->List Value}{z:Nat}
variable{fn:bN}{kd:Kd}{n:Nat}{e:Nat->Value}{ds:List eK}{k:List Item}{cs:List Frame}
variable{O:Array Oper}{i:Nat}{aa:List Nat}{dst:Option Nat}{t:Nat}{ty:aP}{pos:String}{af:Array Edge}{gd:Option (Nat×Bool)}{x y w:dp}{v u:Value}{b off:Nat}{c:Array Value}{el tt t3:aP}{kk k2:IntKind}
theorem ab.ms(C:ab P ao B R){a0:α}{L:Int}[cE:El P tt el][Cz P el z][cB:Bz P el bz][Zv P el zv](l:bk O i=some ⟨some t,.makeSlice tt x y,ty,pos,af,gd⟩)(hf:f a0=zv.cells.toList)
  (h:∀ b,Nx R d (dq b (.cells (iv f (List.replicate L.toNat a0) []) el (0,0))::As) fn kd n e ds O aa k cs t<|.slice (some ⟨b,0,none⟩) L.toNat L.toNat)
  (hx:ev n e x=.int kk L:=by rfl) (m:ev n e y=.int k2 L:=by rfl) (o:0<=L:=by omega) (h1:L*bz<=281474976710656:=by omega) (u:0<bz:=by decide) (p:zv.cells.size=z:=by rfl) (hz:z≠0:=by decide) (q:aN O n e gd=true:=by rfl):Nw R d As fn kd n e ds O i aa k cs:=
 C.gen l q λH s=>by
  obtain⟨inf,hi,r⟩:=cB.h;have v:L<=281474976710656:=by
   rcases Int.lt_or_le 281474976710656 L with h|h
   .have:L*1<=L*bz:=Int.mul_le_mul_of_nonneg_left ai o;omega
   .exact h
  have a:IntKind.i64.wrap L=L:=v9 ai ai;unfold execOp;simp only[Instr.makeSlice,hx,m];refine ae<|ae<|dN cE.h B H d _ ?_;refine ae<|aA<|ae<|aA ?_;refine ae<|ju hi B H d _ ?_;rw[a,r];have w:(bz:Int)*L<=2^48:=by rw[Int.mul_comm];exact h1
  rw[ax (by simp;omega)];refine ae<|yL ?_;refine ae<|ja B H d _ ?_;by_cases c:L.toNat*z=0
  .have j:L.toNat=0:=by
    rcases Nat.mul_eq_zero.1 c with h|h
    .exact h
    .exact absurd h hz
   rw[aJ c,j];have e0:∀ g:Nat->Value,(Array.range<|0*z).map g=iv f (List.replicate 0 a0) []:=λg=>by simp[iv,flat]
   refine ae<|aA<|ae ?_;unfold newRow;refine ae ?_;rw[e0];show dQ P B (.new _ _) H d _;simp only[dQ];show dQ P B (pure _) _ d _;have:=h H.size;rw[j]at this;exact aA<|aA ⟨_,s.push _,this⟩
  .rw[ax c];refine ae<|oR B H d _<|ae<|aA<|ae ?_;unfold newRow;refine ae ?_;show dQ P B (.new _ _) H d _;simp only[dQ];show dQ P B (pure _) _ d _;rw[N8 hf p hz];exact aA<|aA ⟨_,s.push _,h _⟩
theorem ab.shi(C:ab P ao B R){a:Option Addr}{len:Nat}{hi:Int}[cE:El P tt el][Cz P el z](b:bk O i=some ⟨some t,.slice tt x none (some y) none,ty,pos,af,gd⟩)(h:Nx R d As fn kd n e ds O aa k cs t (.slice a hi.toNat cap))
  (hx:ev n e x=.slice a len cap:=by rfl) (c:ev n e y=.int kk hi:=by rfl) (hh:0<=hi/\hi<=cap:=by constructor<;>omega) (f:aN O n e gd=true:=by rfl):Nw R d As fn kd n e ds O i aa k cs:=
 C.val b f (λB H d Q q=>by
  unfold execOp;simp only[Instr.sliceAt,hx,lQ,LP,c];refine ae<|ae<|dN cE.h B H d _ ?_;simp only[Instr.slice];refine ae<|dN cE.h B H d _ ?_;simp only[Instr.sliceBounds,Instr.sliceBound,asIntOf];refine ae<|ae<|aA<|ae<|ae<|aA ?_;rw[aJ hh];refine aA<|ae<|aA<|aA<|ae<|ja B H d _<|aA ?_;have:(if cap=0 then a else a.map (·.add (0*z)))=a:=by
   split
   .rfl
   .cases a<;>simp[add_zero]
  rw[this];exact q) h
theorem ab.slo(C:ab P ao B R){len:Nat}{lo:Int}{a':Addr}[cE:El P tt el][Cz P el z](a:bk O i=some ⟨some t,.slice tt x (some y) none none,ty,pos,af,gd⟩)(h:Nx R d As fn kd n e ds O aa k cs t (.slice (some a') (len-lo.toNat)<|cap-lo.toNat))
  (hx:ev n e x=.slice (some ⟨b,off,none⟩) len cap:=by rfl) (c:ev n e y=.int kk lo:=by rfl) (ha:(if cap=lo.toNat then⟨b,off,none⟩else⟨b,off+lo.toNat*z,none⟩)=a':=by rfl) (hh:0<=lo/\lo<=len:=by constructor<;>omega) (f:aN O n e gd=true:=by rfl):Nw R d As fn kd n e ds O i aa k cs:=
 C.val a f (λB H d Q q=>by
  unfold execOp;simp only[Instr.sliceAt,hx,lQ,LP,c];refine ae<|ae<|dN cE.h B H d _ ?_;simp only[Instr.slice];refine ae<|dN cE.h B H d _ ?_;simp only[Instr.sliceBounds,Instr.sliceBound,asIntOf];refine ae<|ae<|aA<|ae<|aA<|ae<|ae<|aA ?_;rw[aJ hh];refine aA<|aA<|ae<|ja B H d _<|aA ?_;have:(if cap=lo.toNat then(some (⟨b,off,none⟩:Addr))else(some (⟨b,off,none⟩:Addr)).map (·.add (lo.toNat*z)))=some a':=by
   rw[<- ha];split
   .rfl
   .simp[iI]
  rw[this];exact q) h
theorem ab.cp(C:ab P ao B R){len m:Nat}{xs:List Value}[cE:El P tt el][Cz P el z](a:bk O i=some ⟨some t,.call ⟨.builtin .copy,#[x,y],#[tt,t3]⟩,ty,pos,af,gd⟩)
  (hsrc:∀ H,Sat As (hp H)->oT B H z m yv xs) (hm:m<=len) (Rv:xs.length=m*z) (h1:∀ v∈xs,gJ v=true)
  (h:Nx R d aT fn kd n e ds O aa k cs t (.int .i64 m)) (hu:sT b (.cells c el (0,0)) (.cells (wr c off xs) el (0,0)) As aT)
  (hz:off+m*z<=c.size) (hx:ev n e x=.slice (some ⟨b,off,none⟩) len cap:=by rfl) (f:ev n e y=yv:=by rfl) (g:∀ b j,B.rd b el j=false/\B.sh el j=false:=by intro _ j;exact⟨rfl,rfl⟩) (l:aN O n e gd=true:=by rfl):Nw R d As fn kd n e ds O i aa k cs:=
 C.gen a l λH s=>by unfold execOp;simp only[resolve];refine ae<|aA ?_;simp only[CO,jq,ny,hx,f];unfold invoke builtin;refine ae ?_;unfold Builtin.copy_;simp only[JP,QX,VM];refine ae<|dN cE.h B H d _ ?_;simp only;have hs:=hsrc H s;refine ae<|hs.len B H d _ ?_;have o:Nat.min m len=m:=CN hm;rw[o];refine ae<|ja B H d _<|ae<|uj hs ?_;simp only;refine ae (lW (off:=off) xs 0 (hu.has.get s) (by rw[Rv];omega) h1 (λj _ _=>g _ j) ?_);exact aA<|aA ⟨_,hu.set s,h⟩
inductive Fo(A:HP):List HP->List HP->Prop
 |head {As:List HP}:Fo A (A::As) As
 |tail {X:HP} {As L:List HP}:Fo A As L->Fo A (X::As) (X::L)
theorem Fo.perm{A:HP}{As L:List HP}(x:Fo A As L):As.Perm (A::L):=by
 induction x with
 |head=>exact .refl _
 |tail _ a=>exact(a.cons _).trans<|.swap _ _ _
inductive fK:List HP->List HP->List HP->Prop
 |nil {F:List HP}:fK [] F F
 |cons {A:HP} {Bs As L F:List HP}:Fo A As L->fK Bs L F->fK (A::Bs) As F
theorem fK.perm{Bs As F:List HP}(x:fK Bs As F):As.Perm (Bs++F):=by
 induction x with
 |nil=>exact .refl _
 |cons f _ a=>exact f.perm.trans<|a.cons _
inductive dg:List HP->List HP->Prop
 |refl {As:List HP}:dg As As
 |nil {As:List HP}:dg As []
 |cons {A:HP} {Bs As L:List HP}:Fo A As L->dg L Bs->dg As (A::Bs)
 |drop {X:HP} {As Bs:List HP}:dg As Bs->dg (X::As) Bs
theorem dg.sat{As Bs:List HP}(x:dg As Bs):∀ {h:HL},Sat As h->Sat Bs h:=by
 induction x with
 |refl=>exact id
 |nil=>exact λ_=>trivial
 |cons f _ a=>exact λs=>Sat.under (λ_ s=>a s)<|s.perm f.perm
 |drop _ a=>exact λs=>a s.drop
variable{Bs L:List HP}{g:aO}{A:HP}
theorem At.fo(f:Fo A As L)(h:At R d (A::L) g):At R d As g:=h.perm f.perm
theorem At.mN(x:dg As Bs)(h:At R d Bs g):At R d As g:=λH s=>h H<|x.sat s
theorem At.turn{A':HP}(f:Fo A As L)(t:∀ h,A h->A' h)(h:At R d (A'::L) g):At R d As g:=λH s=>h H<|(s.perm f.perm).imp t
theorem At.G9{p:Prop}(f:Fo A As L)(t:∀ h,A h->p)(h:p->At R d As g):At R d As g:=λH s=>h (by obtain⟨h1,a,_⟩:=s.perm f.perm;exact t _ a) H s
variable{V W:Type}
def aB:List (Int×V)->Int->Option V
 |[],_=>none
 |p::l,k=>if p.1=k then some p.2 else aB l k
def bC:List (Int×V)->Int->V->List (Int×V)
 |[],k,v=>[(k,v)]
 |p::l,k,v=>if p.1=k then(k,v)::l else p::bC l k v
def eo:List (Int×V)->Int->List (Int×V)
 |[],_=>[]
 |p::l,k=>if p.1=k then l else p::eo l k
def lX(g:V->W)(l:List (Int×V)):List (Int×W):=l.map λp=>(p.1,g p.2)
theorem og(g:V->W)(k:Int):∀ l:List (Int×V),aB (lX g l) k=(aB l k).map g
 |[]=>rfl
 |p::l=>by
  have:=og g k l;simp only[lX,jq,aB]at this⊢;split
  .rfl
  .exact this
theorem qi(g:V->W)(k:Int)(v:V):∀ l:List (Int×V),bC (lX g l) k (g v)=lX g (bC l k v)
 |[]=>rfl
 |p::l=>by
  have:=qi g k v l;simp only[lX,jq,bC]at this⊢;split
  .simp
  .simp[this]
theorem wM(g:V->W)(k:Int):∀ l:List (Int×V),eo (lX g l) k=lX g (eo l k)
 |[]=>rfl
 |p::l=>by
  have:=wM g k l;simp only[lX,jq,eo]at this⊢;split
  .rfl
  .simp[this]
theorem AN{l:List X}(h:l.Nodup){i:Nat}{x:X}(hi:l[i]? =some x)(hj:l[j]? =some x):i=j:=by
 have hp:=Ds.1 h;obtain⟨h1,e1⟩:=dd.1 hi;obtain⟨a,e2⟩:=dd.1 hj;rcases Dt i j with z|z|z
 .exact absurd (e1.trans e2.symm)<|hp i j h1 a z
 .exact z
 .exact absurd (e2.trans e1.symm)<|hp j i a h1 z
def rW(k:Int):List (Int×V)->Nat->Option (Nat×V)
 |[],_=>none
 |p::l,i=>if p.1=k then some (i,p.2)else rW k l (i+1)
theorem j7{k:Int}:∀ {l:List (Int×V)} {i j:Nat} {v:V},rW k l i=some (j,v)->∃ n,j=i+n/\l[n]? =some (k,v)/\aB l k=some v/\(∀ w,bC l k w=l.set n (k,w))/\eo l k=l.eraseIdx n
 |[],i,j,v,h=>by cases h
 |p::l,i,j,v,h=>by
  unfold rW at h;split at h
  .rename_i hp;obtain⟨rfl,rfl⟩:=JN<|cA h;refine⟨0,rfl,by rw[<- hp];rfl,by simp[aB,hp],λw=>by simp[bC,hp],by simp[eo,hp]⟩
  .rename_i hp;obtain⟨n,rfl,a,b,c,d⟩:=j7 h;exact⟨n+1,ai,by simpa using a,by simp[aB,hp,b],λw=>by simp[bC,hp,c],by simp[eo,hp,d]⟩
theorem j8{k:Int}:∀ {l:List (Int×V)} {i:Nat},rW k l i=none->aB l k=none/\(∀ w,bC l k w=l++[(k,w)])/\eo l k=l/\k∉l.map (·.1)
 |[],i,_=>⟨rfl,λ_=>rfl,rfl,by simp⟩
 |p::l,i,h=>by
  unfold rW at h;split at h
  .cases h
  .rename_i hp;obtain⟨h1,a,b,c⟩:=j8 h;exact⟨by simp[aB,hp,h1],λw=>by simp[bC,hp,a],by simp[eo,hp,b],by simp[c,j6 hp]⟩
theorem getM_none{k:Int}{l:List (Int×V)}:aB l k=none↔k∉l.map (·.1):=by
 induction l with
 |nil=>simp[aB]
 |cons p l a=>
  unfold aB;split
  .rename_i h;subst h;simp
  .rename_i h;rw[a];simp[j6 h]
theorem cg{k:Int}{v:V}{l:List (Int×V)}(h:aB l k=some v):(k,v)∈l:=by
 induction l with
 |nil=>cases h
 |cons p l a=>
  unfold aB at h;split at h
  .rename_i e;obtain rfl:=cA h;subst e;exact fX ..
  .exact fg _<|a h
theorem eR{k:Int}{v:V}:∀ {l:List (Int×V)},(l.map (·.1)).Nodup->(k,v)∈l->aB l k=some v
 |p::l,a,hm=>by
  rw[jq,qP]at a;unfold aB;rcases gU.1 hm with rfl|hm
  .simp
  .have:p.1≠k:=λe=>a.1 (e▸yz (f:=(·.1)) hm);simp[this,eR a.2 hm]
theorem xQ{k:Int}{v:V}:∀ {l:List (Int×V)},(bC l k v).map (·.1)=if(aB l k).isSome then l.map (·.1)else l.map (·.1)++[k]
 |[]=>rfl
 |p::l=>by
  have:=xQ (k:=k) (v:=v) (l:=l);unfold bC aB;split
  .rename_i h;subst h;simp
  .simp only[jq,this];split<;>simp
theorem fR{k:Int}{v:V}{l:List (Int×V)}(h:(l.map (·.1)).Nodup):((bC l k v).map (·.1)).Nodup:=by
 rw[xQ];split
 .exact h
 .rename_i hs;have:k∉l.map (·.1):=getM_none.1 (by simpa using hs);refine jc.2 ⟨h,by simp,λa d b c=>?_⟩;simp at c;subst c;exact λe=>this<|e▸d
theorem wN{k:Int}:∀ {l:List (Int×V)},(eo l k).Sublist l
 |[]=>.slnil
 |p::l=>by
  unfold eo;split
  .exact .cons _<|.refl _
  .exact .cons_cons _ wN
theorem oh{k:Int}{l:List (Int×V)}(h:(l.map (·.1)).Nodup):((eo l k).map (·.1)).Nodup:=h.sublist<|wN.map _
theorem gn{k k':Int}{v:V}:∀ {l:List (Int×V)},aB (bC l k v) k'=if k'=k then some v else aB l k'
 |[]=>by simp only[bC,aB];by_cases h:k=k'<;>simp[h,eq_comm]
 |p::l=>by
  have:=gn (k:=k) (k':=k') (v:=v) (l:=l);unfold bC;split
  .rename_i h;subst h;simp only[aB];by_cases h:p.1=k'
   .simp[h]
   .have:¬ k'=p.1:=λe=>h e.symm;simp[h,this]
  .rename_i h;simp only[aB,this];by_cases h1:p.1=k'
   .subst h1;simp[h]
   .simp[h1]
theorem xR{k k':Int}:∀ {l:List (Int×V)},(l.map (·.1)).Nodup->aB (eo l k) k'=if k'=k then none else aB l k'
 |[],_=>by simp[eo,aB]
 |p::l,a=>by
  rw[jq,qP]at a;have:=xR (k:=k) (k':=k') (l:=l) a.2;unfold eo;split
  .rename_i h;subst h;by_cases h:k'=p.1
   .subst h;simp;exact getM_none.2 a.1
   .simp[h,aB,j6 h]
  .rename_i h;simp only[aB,this];by_cases h1:p.1=k'
   .subst h1;simp[h]
   .simp[h1]
def Gz(kk:IntKind)(l:List (Int×Value)):List (Value×Value):=l.map λp=>(.int kk p.1,p.2)
structure xS(kk:IntKind)(es:Array MapEntry)(clock:Nat)(l:List (Int×Value)):Prop where
 kv:es.toList.map (λe=>(e.key,e.val))=Gz kk l
 nd:(l.map (·.1)).Nodup
 bn:(es.toList.map (·.born)).Nodup
 lt:∀ e∈es.toList,e.born<clock
def dt{V:Type}(kk:IntKind)(g:V->Value)(b:Nat)(l:List (Int×V)):HP:=λh=>∃ es clock,xS kk es clock (lX g l)/\dq b (.map es clock) h
variable{H:Array Obj}{g:V->Value}
theorem AO(k:Int):∀ (es:List MapEntry) (l:List (Int×Value)) (i:Nat),es.map (λe=>(e.key,e.val))=Gz kk l->Instr.findNow (.int kk) (.int kk k) es i=some (rW k l i)
 |[],[],i,_=>rfl
 |[],p::l,i,h=>by cases h
 |e::es,[],i,h=>by cases h
 |e::es,p::l,i,h=>by
  simp only[Gz,jq,List.cons.injEq,GM]at h;obtain⟨⟨h1,b⟩,c⟩:=h;unfold Instr.findNow rW;simp only[h1,Instr.sameNow,fq];by_cases a:p.1=k
  .subst a;simp[b]
  .have:(k==p.1)=false:=by simpa using j6 a
   simp only[this,ax a];exact AO k es l (i+1) c
theorem oU{t:aP}[c:Ik P t kk]{em:Bool}{k:Int}:Pu P (Instr.checkKey em 10000 t<|.int kk k) ():=by intro B H d Q q;show dQ P B (Instr.checkKey em (9999+1) t<|.int kk k) H d Q;unfold Instr.checkKey;exact ae<|dN c.h B H d _ q
theorem qU{t:aP}[c:Ik P t kk]{es:List MapEntry}{l:List (Int×Value)}{k:Int}(h:es.map (λe=>(e.key,e.val))=Gz kk l):Pu P (Instr.findKey t (.int kk k) es) (rW k l 0):=λB H d Q q=>by unfold Instr.findKey;refine ae<|dN c.h B H d _ ?_;rw[AO k es l 0 h];exact q
theorem iJ{r:Nat}{Q:Obj->Array Obj->Nat->Prop}(h:hp H r=some o)(a:Obj.quiet o=true)(q:Q o H d):dQ P B (getObj r) H d Q:=⟨o,h,a,q⟩
theorem mO{r:Nat}{a:Obj}{Q:Unit->Array Obj->Nat->Prop}(h:hp H r=some a)(b:Obj.quiet a=true)(c:Obj.quiet o=true)(q:Q () (H.setIfInBounds r o) d):dQ P B (setObj r o) H d Q:=⟨a,h,b,c,q⟩
theorem AP{tt el:aP}{z:Value}[c:Mp P tt key el][Ik P key kk][Zv P el z]{b:Nat}{l:List (Int×V)}{k:Int}{As:List HP}(s:Sat (dt kk g b l::As) (hp H))
  (q:Q (if co then .tuple #[((aB l k).map g).getD z,.bool (aB l k).isSome]else((aB l k).map g).getD z) H d):dQ P B (Instr.lookup tt (.map<|some b) (.int kk k) co) H d Q:=by
 obtain⟨p,⟨es,clock,e,f⟩,h,r⟩:=s;have i:hp H b=some (.map es clock):=by subst f;exact h b _<|by simp[one]
 unfold Instr.lookup;refine ae<|dN c.h B H d _ ?_;refine ae<|iJ i rfl ?_;refine ae<|aA ?_;refine ae<|oU B H d _ ?_;refine ae<|qU e.kv B H d _ ?_;cases hi:rW k (lX g l) 0 with
 |none=>
  have:=(j8 hi).1;rw[og,Option.map_eq_none_iff]at this;rw[this]at q;refine ae<|oR B H d _<|aA ?_;cases co<;>exact q
 |some m=>
  obtain⟨j,v⟩:=m;obtain⟨n,_,_,a,_⟩:=j7 hi;rw[og,LO]at a;obtain⟨t,o,rfl⟩:=a;rw[o]at q;refine aA ?_;cases co<;>exact q
theorem Mu{kk:IntKind}{k:Int}:Pu P (Instr.keyThatStays (.int kk k)<|.int kk k) (.int kk k):=λB H d Q q=>by unfold Instr.keyThatStays;rw[aJ (by simp[Instr.sameBits])];exact q
theorem J6{es:List MapEntry}{l:List (Int×Value)}(h:es.map (λe=>(e.key,e.val))=Gz kk l){n:Nat}{k:Int}{v:Value}(a:l[n]? =some (k,v)):∃ e,es[n]? =some e/\e.key=.int kk k/\e.val=v:=by
 have:(es.map λe=>(e.key,e.val))[n]? =some (.int kk k,v):=by rw[h];simp[Gz,a]
 rw[jJ,LO]at this;obtain⟨e,h1,b⟩:=this;obtain⟨c,d⟩:=JN b;exact⟨e,h1,c,d⟩
theorem xS.modify{es:Array MapEntry}{clock:Nat}{l:List (Int×Value)}(m:xS kk es clock l){n:Nat}{k:Int}{v0 v:Value}(d:l[n]? =some (k,v0))(hs:bC l k v=l.set n (k,v))(f:MapEntry->MapEntry)(hf:∀ e,es.toList[n]? =some e->(f e).key=.int kk k/\(f e).val=v/\(f e).born=e.born):
  xS kk (es.modify n f) clock (bC l k v):=by
 have hl:(es.modify n f).toList=es.toList.modify n f:=by simp
 have a:(es.toList.modify n f).map (·.born)=es.toList.map (·.born):=by
  apply Du;intro i;simp only[jJ,Dv];by_cases h:n=i
  .subst h;cases e:es.toList[n]? with
   |none=>rfl
   |some c=>simp[(hf c e).2.2]
  .simp[h]
 refine⟨?_,?_,?_,?_⟩
 .rw[hl,hs];apply Du;intro i;have b:(es.toList.map λe=>(e.key,e.val))[i]? =(Gz kk l)[i]? :=by rw[m.kv]
  simp only[Gz,jJ,Dv,wi]at b⊢;by_cases h:n=i
  .subst h;have o:=(dd.1 d).1;obtain⟨e,h1,g,r⟩:=J6 m.kv d;obtain⟨p,q,_⟩:=hf e h1;simp[h1,p,q,o]
  .simpa[h]using b
 .exact fR m.nd
 .rw[hl,a];exact m.bn
 .intro e j;rw[hl]at j;have:e.born∈(es.toList.modify n f).map (·.born):=yz (f:=(·.born)) j;rw[a]at this;obtain⟨c,h1,g⟩:=cq.1 this;rw[<- g];exact m.lt c h1
theorem xS.push{es:Array MapEntry}{clock:Nat}{l:List (Int×Value)}(m:xS kk es clock l){k:Int}{v:Value}(f:k∉l.map (·.1))(hs:bC l k v=l++[(k,v)]):xS kk (es.push {key:=.int kk k,val:=v,born:=clock}) (clock+1) (bC l k v):=by
 have hl:(es.push {key:=Value.int kk k,val:=v,born:=clock}).toList=es.toList++[{key:=.int kk k,val:=v,born:=clock}]:=by simp
 refine⟨by rw[hl,hs];simp[Gz,m.kv],fR m.nd,?_,λe he=>?_⟩
 .rw[hl,eW];refine jc.2 ⟨m.bn,by simp,λa d b c=>?_⟩;obtain⟨e,he,rfl⟩:=cq.1 d;have:=m.lt e he;simp at c;subst c;omega
 .rw[hl]at he;rcases bS.1 he with he|he
  .have:=m.lt e he;omega
  .simp at he;subst he;simp
theorem xT{X Y:Type}(f:X->Y):∀ (l:List X) (n:Nat),(l.eraseIdx n).map f=(l.map f).eraseIdx n
 |[],_=>rfl
 |_::_,0=>rfl
 |x::l,n+1=>by simp only[List.eraseIdx_cons_succ,jq,xT f l n]
theorem xS.erase{es:Array MapEntry}{clock:Nat}{l:List (Int×Value)}(m:xS kk es clock l){n:Nat}{k:Int}(hs:eo l k=l.eraseIdx n):xS kk (es.eraseIdxIfInBounds n) clock (eo l k):=by
 have hl:(es.eraseIdxIfInBounds n).toList=es.toList.eraseIdx n:=by simp
 refine⟨?_,oh m.nd,?_,λe a=>?_⟩
 .rw[hl,hs,xT,m.kv];simp[Gz,xT]
 .rw[hl];exact m.bn.sublist<|(kL ..).map _
 .rw[hl]at a;exact m.lt e<|(kL ..).mem a
theorem Ha(a:Array X)(i:Nat):a[i]? =a.toList[i]? :=by simp
theorem CY{tt el:aP}[t:Mp P tt key el][Ik P key kk]{b:Nat}{l:List (Int×V)}{k:Int}{v:V}{As:List HP}{Q:Unit->Array Obj->Nat->Prop}(s:Sat (dt kk g b l::As) (hp H))
  (q:∀ i,Sat (dt kk g b (bC l k v)::As) (hp i)->Q () i d):dQ P B (Instr.mapUpdate tt (.map<|some b) (.int kk k)<|g v) H d Q:=by
 obtain⟨a,⟨es,clock,c,m⟩,o,u⟩:=s;have f:hp H b=some (.map es clock):=by subst m;exact o b _<|by simp[one]
 have p:Sat (dq b (.map es clock)::As) (hp H):=⟨a,m,o,u⟩;unfold Instr.mapUpdate;refine ae<|dN t.h B H d _ ?_;refine ae<|iJ f rfl ?_;refine ae<|oU B H d _ ?_;refine ae<|qU c.kv B H d _ ?_;cases hi:rW k (lX g l) 0 with
 |none=>
  obtain⟨_,w,_,x⟩:=j8 hi;refine mO f rfl rfl<|q _<|Sat.imp (λh a=>⟨_,_,?_,a⟩) p.set;rw[<- qi];exact c.push x<|w _
 |some y=>
  obtain⟨j,v0⟩:=y;obtain⟨n,rfl,r,_,z,_⟩:=j7 hi;obtain⟨e,A,C,_⟩:=J6 c.kv r;simp only[lR,Ha,A,lQ,iG,C];refine ae<|Mu B H d _ ?_;refine mO f rfl rfl<|q _<|Sat.imp (λh a=>⟨_,_,?_,a⟩) p.set;rw[<- qi];exact c.modify r (z _) _ λD E=>⟨rfl,rfl,rfl⟩
theorem J7{tt t2 el ty:aP}[p:Mp P tt key el][Ik P key kk]{b:Nat}{l:List (Int×V)}{k:Int}{As:List HP}(s:Sat (dt kk g b l::As) (hp H))
  (q:∀ f,Sat (dt kk g b (eo l k)::As) (hp f)->Q (.tuple #[]) f d):dQ P B (Builtin.delete_ #[tt,t2] ty #[.map (some b),.int kk k]) H d Q:=by
 obtain⟨a,⟨es,clock,c,i⟩,m,r⟩:=s;have e:hp H b=some (.map es clock):=by subst i;exact m b _<|by simp[one]
 have o:Sat (dq b (.map es clock)::As) (hp H):=⟨a,i,m,r⟩;unfold Builtin.delete_;simp only[JP,QX,VM];refine ae<|dN p.h B H d _ ?_;refine ae<|iJ e rfl ?_;refine ae<|oU B H d _ ?_;refine ae<|qU c.kv B H d _ ?_;cases hi:rW k (lX g l) 0 with
 |none=>
  obtain⟨_,_,t,_⟩:=j8 hi;refine ae<|mO e rfl rfl<|aA<|q _<|Sat.imp (λh a=>⟨_,_,?_,a⟩) o.set;rw[<- wM,t];exact c
 |some u=>
  obtain⟨j,v0⟩:=u;obtain⟨n,rfl,w,_,_,v⟩:=j7 hi;refine ae<|mO e rfl rfl<|aA<|q _<|Sat.imp (λh a=>⟨_,_,?_,a⟩) o.set;rw[<- wM,lR];exact c.erase v
theorem Fo.au{P:HP}{A L:List HP}(h:Fo P A L:=by(repeat(first|with_reducible exact Fo.head|with_reducible apply Fo.tail));done):Fo P A L:=h
theorem fK.au{A As L:List HP}(h:fK A As L:=by(repeat(first|with_reducible exact fK.nil|with_reducible exact Fo.head|with_reducible apply Fo.tail|with_reducible apply fK.cons));done):fK A As L:=h
theorem dg.au{A L:List HP}(h:dg A L:=by((try simp only[fJ,ek]);(repeat(first|with_reducible exact dg.refl|with_reducible exact dg.nil|with_reducible exact Fo.head|with_reducible apply Fo.tail|with_reducible apply dg.cons|with_reducible apply dg.drop));done)):dg A L:=h
variable{z:dp}{t2 key:aP}
variable{l:List (Int×V)}{q:Int}
def YK(A:HP)(As:List HP):Prop:=∀ h,Sat As h->∃ L,Sat (A::L) h
theorem Fo.N9{A:HP}{As L:List HP}(f:Fo A As L):YK A As:=λ_ s=>⟨L,s.perm f.perm⟩
theorem Ext.N9{A:HP}{As mL L:List HP}(e:Ext As mL)(f:Fo A mL L):YK A As:=λ_ s=>⟨L,(e _ s).perm f.perm⟩
theorem ab.lkC(C:ab P ao B R)[o:Mp P tt key el][Ik P key kk][Zv P el zv](c:bk O i=some ⟨some t,.lookup tt x y true,ty,pos,af,gd⟩)
  (h1:∀ w,aB l q=some w->Nx R d As fn kd n e ds O aa k cs t (.tuple #[g w,.bool true])) (f:aB l q=none->Nx R d As fn kd n e ds O aa k cs t (.tuple #[zv,.bool false]))
  (hx:ev n e x=.map (some b):=by rfl) (h:ev n e y=.int kk q:=by rfl) (hf:YK (dt kk g b l) As:=by first|(apply Fo.N9;(repeat(first|with_reducible exact Fo.head|with_reducible apply Fo.tail));done)|(apply Ext.N9;assumption;(repeat(first|with_reducible exact Fo.head|with_reducible apply Fo.tail));done)) (j:aN O n e gd=true:=by rfl):Nw R d As fn kd n e ds O i aa k cs:=
 C.gen c j λH s=>by
  unfold execOp;simp only[hx,h];refine ae ?_;obtain⟨L,m⟩:=hf _ s;refine AP m ?_;refine⟨As,s,?_⟩;cases a:aB l q with
  |none=>exact f a
  |some w=>exact h1 w a
theorem ab.lkR(C:ab P ao B R)[m:Mp P tt key el][Ik P key kk][Zv P el zv](a:bk O i=some ⟨some t,.lookup tt x y co,ty,pos,af,gd⟩)
  (h:Nx R d As fn kd n e ds O aa k cs t (if co then .tuple #[((aB l q).map g).getD zv,.bool (aB l q).isSome]else((aB l q).map g).getD zv))
  (hx:ev n e x=.map (some b):=by rfl) (c:ev n e y=.int kk q:=by rfl) (hf:YK (dt kk g b l) As:=by first|(apply Fo.N9;(repeat(first|with_reducible exact Fo.head|with_reducible apply Fo.tail));done)|(apply Ext.N9;assumption;(repeat(first|with_reducible exact Fo.head|with_reducible apply Fo.tail));done)) (f:aN O n e gd=true:=by rfl):Nw R d As fn kd n e ds O i aa k cs:=
 C.gen a f λH s=>by unfold execOp;simp only[hx,c];obtain⟨L,j⟩:=hf _ s;exact ae<|AP j ⟨As,s,h⟩
theorem ab.J8(C:ab P ao B R){w:V}[m:Mp P tt key el][Ik P key kk][Zv P el zv](a:aB l q=some w)(c:bk O i=some ⟨some t,.lookup tt x y co,ty,pos,af,gd⟩)
  (h:Nx R d As fn kd n e ds O aa k cs t (if co then .tuple #[g w,.bool true]else g w))
  (hx:ev n e x=.map (some b):=by rfl) (f:ev n e y=.int kk q:=by rfl) (hf:YK (dt kk g b l) As:=by first|(apply Fo.N9;(repeat(first|with_reducible exact Fo.head|with_reducible apply Fo.tail));done)|(apply Ext.N9;assumption;(repeat(first|with_reducible exact Fo.head|with_reducible apply Fo.tail));done)) (j:aN O n e gd=true:=by rfl):Nw R d As fn kd n e ds O i aa k cs:=
 C.lkR c (by rw[a];exact h) hx f hf j
theorem ab.J9(C:ab P ao B R)[m:Mp P tt key el][Ik P key kk][Zv P el zv](a:aB l q=none)(c:bk O i=some ⟨some t,.lookup tt x y co,ty,pos,af,gd⟩)
  (h:Nx R d As fn kd n e ds O aa k cs t (if co then .tuple #[zv,.bool false]else zv))
  (hx:ev n e x=.map (some b):=by rfl) (f:ev n e y=.int kk q:=by rfl) (hf:YK (dt kk g b l) As:=by first|(apply Fo.N9;(repeat(first|with_reducible exact Fo.head|with_reducible apply Fo.tail));done)|(apply Ext.N9;assumption;(repeat(first|with_reducible exact Fo.head|with_reducible apply Fo.tail));done)) (j:aN O n e gd=true:=by rfl):Nw R d As fn kd n e ds O i aa k cs:=
 C.lkR c (by rw[a];exact h) hx f hf j
theorem ab.mu(C:ab P ao B R){w:V}[j:Mp P tt key el][Ik P key kk](a:bk O i=some ⟨none,.mapUpdate tt x y z,ty,pos,af,gd⟩)(h:At R d (dt kk g b (bC l q w)::L) (gr fn kd n e ds (.inRegion O aa::k) cs))
  (hx:ev n e x=.map (some b):=by rfl) (c:ev n e y=.int kk q:=by rfl) (hf:Fo (dt kk g b l) As L:=by exact Fo.au) (hz:ev n e z=g w:=by rfl) (f:aN O n e gd=true:=by rfl):Nw R d As fn kd n e ds O i aa k cs:=
 C.gen a f λH s=>by unfold execOp;simp only[hx,c,hz];exact ae (CY (s.perm hf.perm) λm s'=>⟨_,s',h⟩)
theorem ab.dl(C:ab P ao B R)[j:Mp P tt key el][Ik P key kk](a:bk O i=some ⟨dst,.call ⟨.builtin .delete,#[x,y],#[tt,t2]⟩,ty,pos,af,gd⟩)(h:At R d (dt kk g b (eo l q)::L) (gr fn kd n (dD e dst<|.tuple #[]) ds (.inRegion O aa::k) cs))
  (hx:ev n e x=.map (some b):=by rfl) (c:ev n e y=.int kk q:=by rfl) (hf:Fo (dt kk g b l) As L:=by exact Fo.au) (f:aN O n e gd=true:=by rfl):Nw R d As fn kd n e ds O i aa k cs:=
 C.gen a f λH s=>by unfold execOp;simp only[resolve];refine ae<|aA ?_;simp only[CO,jq,ny,hx,c];unfold invoke builtin;exact ae (J7 (s.perm hf.perm) λm s'=>aA ⟨_,s',h⟩)
theorem ab.lnM(C:ab P ao B R)[c:Mp P tt key el](f:bk O i=some ⟨some t,.call ⟨.builtin .len,#[x],#[tt]⟩,ty,pos,af,gd⟩)(h:Nx R d As fn kd n e ds O aa k cs t (.int .i64 l.length))
  (hx:ev n e x=.map (some b):=by rfl) (hf:YK (dt kk g b l) As:=by first|(apply Fo.N9;(repeat(first|with_reducible exact Fo.head|with_reducible apply Fo.tail));done)|(apply Ext.N9;assumption;(repeat(first|with_reducible exact Fo.head|with_reducible apply Fo.tail));done)) (j:aN O n e gd=true:=by rfl):Nw R d As fn kd n e ds O i aa k cs:=
 C.gen f j λH s=>by
  obtain⟨r,s'⟩:=hf _ s;obtain⟨u,⟨es,clock,m,o⟩,p,v⟩:=s';have q:hp H b=some (.map es clock):=by subst o;exact p b _<|by simp[one]
  have a:es.size=l.length:=by have:=congrArg List.length m.kv;simpa[Gz,lX]using this
  unfold execOp;simp only[resolve];refine ae<|aA ?_;simp only[CO,jq,ny,hx];unfold invoke builtin;refine ae ?_;unfold Builtin.len_;refine ae<|dN c.h B H d _ ?_;refine ae<|iJ q rfl<|aA<|aA ⟨As,s,?_⟩;rw[a];exact h
theorem Sc(kk:IntKind)(g:V->Value)(b:Nat)(h:HL)(hh:dq b (.map #[] 0) h):dt kk g b [] h:=⟨_,_,⟨rfl,by simp[lX],by simp,by simp⟩,hh⟩
theorem ab.mm(C:ab P ao B R)(kk:IntKind)(g:V->Value)(a:bk O i=some ⟨some t,.makeMap tt none,ty,pos,af,gd⟩)(h:∀ b,Nx R d (dt kk g b []::As) fn kd n e ds O aa k cs t<|.map<|some b)(c:aN O n e gd=true:=by rfl):Nw R d As fn kd n e ds O i aa k cs:=
 C.gen a c λH s=>by unfold execOp;simp only[Instr.makeMap,LP];refine ae<|ae ?_;show dQ P B (.new _ _) H d _;simp only[dQ];show dQ P B (pure _) _ d _;exact aA ⟨_,(s.push _).imp<|Sc kk g _,h _⟩
end
section
open Go.Conc
def DK(O:Array Oper)(i:Nat):List Nat:=
 match bk O i with
 |some o=>(o.after.toList.filter<|Region.binds .any).map (·.on)
 |none=>[]
structure SE where
 i:Nat
 t:Nat
 v:Value
 ld:Bool
def lkS:List SE->List Nat->Nat->Option Value
 |[],_,_=>none
 |x::S,pre,s=>if x.t=s then(if pre.contains x.i then some x.v else lkS S pre s)else lkS S pre s
def QB:List SE->Nat->Option Value
 |[],_=>none
 |x::S,s=>if x.t=s then some x.v else QB S s
def JF:List (Nat×Nat)->Nat->Option Nat
 |[],_=>none
 |(s',w)::D,s=>if s'=s then some w else JF D s
def nR(e0:Nat->Value)(D:List (Nat×Nat))(O:Array Oper)(i:Nat)(S:List SE)(e:Nat->Value):Nat->Value:=λs=>
 match lkS S (DK O i) s with
 |some v=>v
 |none=>match JF D s with
  |none=>e0 s
  |some w=>if(DK O w).contains i then e0 s else e s
def rI(e0:Nat->Value)(S:List SE):Nat->Value:=λs=>
 match QB S s with
 |some v=>v
 |none=>e0 s
def reach(O:Array Oper):Nat->Nat->Nat->Bool
 |0,i,j=>i==j
 |f+1,i,j=>i==j||(DK O i).any λm=>reach O f m j
def Fj(O:Array Oper)(T':List Nat):List Nat:=T'.filter λt=>T'.all λu=>u==t|| !reach O 8 t u
section
variable(P:bT)(R:Nat->aO->Array Obj->Prop)(d:Nat)(fn:bN)(kd:Kd)(n:Nat)(ds:List eK)(O:Array Oper)(k:List Item)(cs:List Frame)(e0:Nat->Value)(D:List (Nat×Nat))
def Nd(W:List HP)(S:List SE)(C:List SE->List HP->Prop)(t:Nat):Nat->List SE->List HP->Prop
 |0,K,As=>∃ o,bk O t=some o/\∀ e aa,(∀ aT v,C (match o.dst with|some s=>⟨t,s,v,false⟩::K|none=>K) aT->At R d aT (gr fn kd n (dD (nR e0 D O t (K++S) e) o.dst v) ds (.inRegion O aa::k) cs))->
   At R d As (gr fn kd n (nR e0 D O t (K++S) e) ds (.inRegion O (t::aa)::k) cs)
 |_+1,K,As=>∃ o,bk O t=some o/\∀ e aa,(∀ aT v,J0 W aT As->C (match o.dst with|some s=>⟨t,s,v,false⟩::K|none=>K) aT->At R d aT (gr fn kd n (dD (nR e0 D O t (K++S) e) o.dst v) ds (.inRegion O aa::k) cs))->
   At R d As (gr fn kd n (nR e0 D O t (K++S) e) ds (.inRegion O (t::aa)::k) cs)
def Obl(W:List HP)(S:List SE)(x:SE):Prop:=
 (∃ o,bk O x.i=some o/\o.dst=some x.t)/\∀ As e aa,(x.ld=true->Ext As W)->At R d As (gr fn kd n (put (nR e0 D O x.i S e) x.t x.v) ds (.inRegion O aa::k) cs)->At R d As (gr fn kd n (nR e0 D O x.i S e) ds (.inRegion O (x.i::aa)::k) cs)
def Ch(W:List HP):Nat->List SE->List Nat->Nat->List SE->List HP->Prop
 |0,S,_,_,K,As=>At R d As<|gr fn kd n (rI e0<|K++S) ds (.inRegion O []::k) cs
 |f+1,S,T',a,K,As=>(∀ t∈Fj O T',Nd R d fn kd n ds O k cs e0 D W S (λK As=>Ch W f S (T'.erase t) (a-1) K As) t a K As)\/(∃ i∈T',∃ t v,Obl R d fn kd n ds O k cs e0 D W (K++S) ⟨i,t,v,false⟩/\Ch W f (⟨i,t,v,false⟩::S) (T'.erase i) a K As)\/
   (∃ t,T'=[t]/\(∃ o,bk O t=some o/\o.dst=none)/\((List.range O.size).all λi=>i==t||reach O 8 t i)=true/\At R d As (gr fn kd n (rI e0<|K++S) ds (.inRegion O [t]::k) cs))
def Dr(W mL:List HP)(T:List Nat)(a:Nat):List SE->List Nat->Prop
 |S,[]=>(S.all λx=> !x.ld||decide ((T.filter λt=> !reach O 8 t x.i).length<=a))=true/\Ext mL W/\Ch R d fn kd n ds O k cs e0 D W T.length S T a [] mL
 |S,i::is=>∃ t v ld,Obl R d fn kd n ds O k cs e0 D W S ⟨i,t,v,ld⟩/\Dr W mL T a (⟨i,t,v,ld⟩::S) is
end
section
variable{P:bT}{ao:Bool}{B:lM}{R:Nat->aO->Array Obj->Prop}{d:Nat}{fn:bN}{kd:Kd}{n:Nat}{ds:List eK}{O:Array Oper}{k:List Item}{cs:List Frame}{e0:Nat->Value}{D:List (Nat×Nat)}{W mL:List HP}{T:List Nat}{a:Nat}{S:List SE}{i:Nat}{is:List Nat}
theorem Dr.pu{t:Nat}{v:Value}(b:∃ o,bk O i=some o/\o.dst=some t)(h:∀ As e aa,At R d As (gr fn kd n (put (nR e0 D O i S e) t v) ds (.inRegion O aa::k) cs)->At R d As (gr fn kd n (nR e0 D O i S e) ds (.inRegion O (i::aa)::k) cs))
  (k':Dr R d fn kd n ds O k cs e0 D W mL T a (⟨i,t,v,false⟩::S) is):Dr R d fn kd n ds O k cs e0 D W mL T a S (i::is):=⟨t,v,false,⟨b,λAs e aa _ h'=>h As e aa h'⟩,k'⟩
theorem Dr.ld{t:Nat}{v:Value}(b:∃ o,bk O i=some o/\o.dst=some t)(h:∀ As,Ext As W->∀ e aa,At R d As (gr fn kd n (put (nR e0 D O i S e) t v) ds (.inRegion O aa::k) cs)->At R d As (gr fn kd n (nR e0 D O i S e) ds (.inRegion O (i::aa)::k) cs))
  (k':Dr R d fn kd n ds O k cs e0 D W mL T a (⟨i,t,v,true⟩::S) is):Dr R d fn kd n ds O k cs e0 D W mL T a S (i::is):=⟨t,v,true,⟨b,λAs e aa c h'=>h As (c rfl) e aa h'⟩,k'⟩
theorem Ch.n1{t a:Nat}{K:List SE}{As:List HP}(hc:Fj O T'=[t])(h:Nd R d fn kd n ds O k cs e0 D W S (λK As=>Ch R d fn kd n ds O k cs e0 D W f S (T'.erase t) (a-1) K As) t a K As):Ch R d fn kd n ds O k cs e0 D W (f+1) S T' a K As:=.inl λc b=>by rw[hc]at b;obtain rfl:=dR.1 b;exact h
theorem Ch.n2{t u a:Nat}{K:List SE}{As:List HP}(hc:Fj O T'=[t,u])(h:Nd R d fn kd n ds O k cs e0 D W S (λK As=>Ch R d fn kd n ds O k cs e0 D W f S (T'.erase t) (a-1) K As) t a K As)
  (c:Nd R d fn kd n ds O k cs e0 D W S (λK As=>Ch R d fn kd n ds O k cs e0 D W f S (T'.erase u) (a-1) K As) u a K As):Ch R d fn kd n ds O k cs e0 D W (f+1) S T' a K As:=.inl λe b=>by
 rw[hc]at b;rcases gU.1 b with rfl|b
 .exact h
 .obtain rfl:=dR.1 b;exact c
theorem Ch.pu{i t a:Nat}{v:Value}{K:List SE}{As:List HP}(b:∃ o,bk O i=some o/\o.dst=some t)(h:∀ As e aa,At R d As (gr fn kd n (put (nR e0 D O i (K++S) e) t v) ds (.inRegion O aa::k) cs)->At R d As (gr fn kd n (nR e0 D O i (K++S) e) ds (.inRegion O (i::aa)::k) cs))
  (k':Ch R d fn kd n ds O k cs e0 D W f (⟨i,t,v,false⟩::S) (T'.erase i) a K As) (hi:i∈T':=by decide):Ch R d fn kd n ds O k cs e0 D W (f+1) S T' a K As:=.inr<|.inl ⟨i,hi,t,v,⟨b,λAs e aa _ h'=>h As e aa h'⟩,k'⟩
theorem Ch.last{f:Nat}{T':List Nat}(t:Nat){a:Nat}{K:List SE}{As:List HP}(b:∃ o,bk O t=some o/\o.dst=none)(h:At R d As (gr fn kd n (rI e0<|K++S) ds (.inRegion O [t]::k) cs))
  (c:T'=[t]:=by rfl) (ha:((List.range O.size).all λi=>i==t||reach O 8 t i)=true:=by decide+kernel):Ch R d fn kd n ds O k cs e0 D W (f+1) S T' a K As:=.inr<|.inr ⟨t,c,b,ha,h⟩
theorem Ch.fin{a:Nat}{K:List SE}(h:At R d As (gr fn kd n (rI e0<|K++S) ds (.inRegion O []::k) cs)):Ch R d fn kd n ds O k cs e0 D W 0 S T' a K As:=h
theorem Dr.chain(hl:(S.all λx=> !x.ld||decide ((T.filter λt=> !reach O 8 t x.i).length<=a))=true)(h:Ch R d fn kd n ds O k cs e0 D W T.length S T a [] mL)(b:Ext mL W:=by exact λ_ s=>s):Dr R d fn kd n ds O k cs e0 D W mL T a S []:=⟨hl,b,h⟩
end
def jw(O:Array Oper)(i:Nat):Option Nat:=match bk O i with|some o=>o.dst|none=>none
def nD:List Nat->Bool
 |[]=>true
 |a::l=> !l.contains a&&nD l
def vA(md:Region.Mode)(O:Array Oper)(i:Nat):List Nat:=
 match bk O i with
 |some o=>(o.after.toList.filter<|Region.binds md).map (·.on)
 |none=>[]
def V7(md:Region.Mode)(O:Array Oper):List Nat->List Nat->Bool
 |_,[]=>true
 |dn,i::l=>(vA md O i).all (λj=>dn.contains j)&&V7 md O (i::dn) l
def YL(md:Region.Mode)(O:Array Oper):Nat->List Nat->List Nat
 |0,_=>[]
 |f+1,dn=>match(List.range O.size).find? (λi=> !dn.contains i&&(vA md O i).all (λj=>dn.contains j))with
  |some i=>i::YL md O f (i::dn)
  |none=>[]
def YM(md:Region.Mode)(O:Array Oper)(tp:List Nat):Bool:=(List.range O.size).all (λi=>tp.contains i)&&tp.all (λi=>decide (i<O.size))&&V7 md O [] tp
theorem DL{f:Region.Mode}{O:Array Oper}{L:Nat->Bool}:∀ {a dn:List Nat},V7 f O dn a=true->(∀ j∈dn,L j=true)->(∃ i∈a,L i=false)->∃ i∈a,L i=false/\∀ j∈vA f O i,L j=true
 |[],_,_,_,h=>by obtain⟨i,hi,_⟩:=h;cases hi
 |i::l,dn,h,g,k=>by
  simp only[V7,jK,lz]at h;cases b:L i with
  |false=>exact⟨i,fX ..,b,λj c=>g j (by have:=h.1 j c;simpa using this)⟩
  |true=>
   obtain⟨q,m,d⟩:=k;obtain⟨z,h1,n⟩:=DL h.2 (λj c=>(gU.1 c).elim (λe=>e▸b)<|g j) ⟨q,(gU.1 m).resolve_left (λe=>by rw[e,b]at d;cases d),d⟩;exact⟨z,fg _ h1,n⟩
theorem zS{b:Region.Mode}{O:Array Oper}(h:j∈DK O i):j∈vA b O i:=by
 unfold DK at h;unfold vA;split at h
 .rename_i o d;simp only[cq,gW]at h⊢;obtain⟨e,⟨c,a⟩,rfl⟩:=h;refine⟨e,⟨c,?_⟩,rfl⟩;unfold Region.binds at a⊢;revert a;cases e.ground<;>simp
 .cases h
def u5(O:Array Oper)(D:List (Nat×Nat))(T is:List Nat):Bool:=
 (!Region.departs O||YM .gc O (YL .gc O O.size []))&&(List.range O.size).all (λi=>(vA .text O i).all (· <i))&&D.all (λp=>jw O p.2==some p.1)&&
 (List.range O.size).all (λi=>match jw O i with|some s=>JF D s==some i|none=>true)&&
 (List.range O.size).all (λi=>is.contains i||T.contains i)&&is.all (λi=> !T.contains i&&decide (i<O.size))&&T.all (λi=>decide (i<O.size))&&nD T
theorem V8{D:List (Nat×Nat)}{w:Nat}(h:JF D s=some w):(s,w)∈D:=by
 induction D with
 |nil=>cases h
 |cons p D a=>
  obtain⟨s',w'⟩:=p;unfold JF at h;split at h
  .rename_i e;cases h;subst e;exact fX ..
  .exact fg _<|a h
theorem Mv{S:List SE}{a:List Nat}{v:Value}(h:lkS S a s=some v):∃ x∈S,x.t=s/\x.v=v/\x.i∈a:=by
 induction S with
 |nil=>cases h
 |cons x S c=>
  unfold lkS at h;split at h
  .split at h
   .rename_i e1 e2;cases h;exact⟨x,fX ..,e1,rfl,by simpa using e2⟩
   .obtain⟨y,b,z⟩:=c h;exact⟨y,fg _ b,z⟩
  .obtain⟨y,b,z⟩:=c h;exact⟨y,fg _ b,z⟩
theorem Mw{S:List SE}{v:Value}(h:QB S s=some v):∃ x∈S,x.t=s/\x.v=v:=by
 induction S with
 |nil=>cases h
 |cons x S a=>
  unfold QB at h;split at h
  .rename_i e1;cases h;exact⟨x,fX ..,e1,rfl⟩
  .obtain⟨y,b,z⟩:=a h;exact⟨y,fg _ b,z⟩
theorem Hb{S:List SE}(h:QB S s=none):∀ x∈S,x.t≠s:=by
 induction S with
 |nil=>intro x a;cases a
 |cons y S b=>
  unfold QB at h;split at h
  .cases h
  .rename_i e1;intro x a;rcases gU.1 a with rfl|a
   .exact e1
   .exact b h x a
theorem mP{O:Array Oper}{i:Nat}(h:reach O (f+1) i j=true):i=j\/∃ m∈DK O i,reach O f m j=true:=by simpa only[reach,Am,uU,uV]using h
theorem iB{O:Array Oper}{L:Nat->Prop}(hc:∀ w,L w->∀ j∈DK O w,L j):∀ (f i j:Nat),reach O f i j=true->L i->L j
 |0,i,j,h,hl=>by simp[reach]at h;subst h;exact hl
 |f+1,i,j,h,hl=>by
  simp only[reach,Am,uU,uV]at h;rcases h with rfl|⟨m,a,h⟩
  .exact hl
  .exact iB hc f m j h<|hc i hl m a
structure DO(ops:Array Oper)(D:List (Nat×Nat))(T is:List Nat):Prop where
 prog:∀ md (L:Nat->Bool),(∃ i,i<ops.size/\L i=false)->∃ i,i<ops.size/\L i=false/\∀ j∈vA md ops i,L j=true
 down:∀ i,i<ops.size->∀ j∈DK ops i,j<i
 d1:∀ s w,JF D s=some w->jw ops w=some s
 d2:∀ i s,jw ops i=some s->JF D s=some i
 cov:∀ i,i<ops.size->i∈is\/i∈T
 isT:∀ i∈is,i∉T/\i<ops.size
 Tlt:∀ i∈T,i<ops.size
 nd:nD T=true
theorem Mx:∀ {l:List Oper} {i:Nat} {o:Oper},V4 l i=some o->i<l.length
 |[],_,_,h=>by cases h
 |_::_,0,_,_=>by simp
 |_::l,i+1,_,h=>by have:=Mx (l:=l) h;simp;omega
theorem oi{O:Array Oper}(h:jw O i=some s):i<O.size:=by
 unfold jw at h;cases e:bk O i with
 |none=>rw[e]at h;cases h
 |some o=>have:=Mx e;simpa using this
section
variable{P:bT}{ao:Bool}{B:lM}{R:Nat->aO->Array Obj->Prop}{d:Nat}{fn:bN}{kd:Kd}{n:Nat}{ds:List eK}{O:Array Oper}{k:List Item}{cs:List Frame}{e0:Nat->Value}{D:List (Nat×Nat)}{W mL:List HP}{T is:List Nat}{a:Nat}{S:List SE}
structure YN(R:Nat->aO->Array Obj->Prop)(d:Nat)(fn:bN)(kd:Kd)(n:Nat)(ds:List eK)(ops:Array Oper)(k:List Item)(cs:List Frame)(e0:Nat->Value)(D:List (Nat×Nat))(W mL:List HP)(T is:List Nat)(a:Nat)(S:List SE)(L:Nat->Prop)(e:Nat->Value)(K:List SE)(Td T' Ts:List Nat)(As:List HP):Prop where
 v1:∀ x∈K++S,L x.i->e x.t=x.v
 v2:∀ s,JF D s=none->e s=e0 s
 v3:∀ s w,JF D s=some w->¬ L w->e s=e0 s
 cl:∀ w,L w->∀ j∈DK ops w,L j
 tt:T.Perm (Td++(T'++Ts))
 td:∀ t∈Td,L t
 tn:∀ t∈T',¬ L t
 lk:∀ x∈K++S,jw ops x.i=some x.t
 ka:∀ t∈Td,∀ s,jw ops t=some s->∃ x∈K,x.t=s
 ki:∀ x∈K,x.i∈Td
 sS:∀ x∈S,(x.i∈is\/x.i∈Ts)/\∃ Sx,(∀ y∈Sx,y∈K++S)/\Obl R d fn kd n ds ops k cs e0 D W Sx x
 sI:∀ i,i∈is\/i∈Ts->∃ x∈S,x.i=i
 sL:∀ x∈S,x.ld=true->(T.filter λt=> !reach ops 8 t x.i).length<=a
 sU:∀ x∈S,∀ y∈S,x.i=y.i->x=y
 ch:Ch R d fn kd n ds ops k cs e0 D W T'.length S T' (a-Td.length) K As
 aS:Td.length<=a->Ext As W
theorem YN.env{L:Nat->Prop}{e:Nat->Value}{K:List SE}{f Ts:List Nat}(h:YN R d fn kd n ds O k cs e0 D W mL T is a S L e K f T' Ts As){i:Nat}(hi:¬ L i)(hr:∀ j∈DK O i,L j){S':List SE}(g:∀ x∈S',x∈K++S):nR e0 D O i S' e=e:=by
 funext s
 unfold nR;cases h1:lkS S' (DK O i) s with
 |some v=>
  obtain⟨x,l,rfl,rfl,hp⟩:=Mv h1;exact(h.v1 x (g x l)<|hr _ hp).symm
 |none=>
  simp only;cases c:JF D s with
  |none=>exact(h.v2 s c).symm
  |some w=>
   simp only;split
   .rename_i m;have b:i∈DK O w:=by simpa using m
    exact(h.v3 s w c λhl=>hi<|h.cl w hl i b).symm
   .rfl
def xU(f:Nat->Bool):Nat->Nat
 |0=>0
 |m+1=>xU f m+(if f m then 0 else 1)
theorem sX{f:Nat->Bool}:∀ {m:Nat},xU f m=0->∀ i,i<m->f i=true
 |0,_,i,hi=>by omega
 |m+1,h,i,hi=>by
  unfold xU at h;by_cases e:i=m
  .subst e;by_cases a:f i=true
   .exact a
   .simp[a]at h
  .exact sX (m:=m) ai i ai
theorem wO{f f':Nat->Bool}{i:Nat}(h1:f i=false)(c:f' i=true)(a:∀ j,j≠i->f' j=f j):∀ {m:Nat},(i<m->xU f' m+1=xU f m)/\(m<=i->xU f' m=xU f m)
 |0=>⟨λh=>by omega,λ_=>rfl⟩
 |m+1=>by
  have b:=wO h1 c a (m:=m);refine⟨λh=>?_,λh=>?_⟩
  .unfold xU;by_cases e:i=m
   .subst e;rw[b.2 (fC _),h1,c];simp
   .have:=b.1 ai;rw[a m (j6 e)];omega
  .unfold xU;rw[b.2 ai,a m ai]
theorem jC{f:Nat->Bool}:∀ {m:Nat},xU f m≠0->∃ i,i<m/\f i=false/\∀ j,j<i->f j=true
 |0,h=>absurd rfl h
 |m+1,h=>by
  by_cases e:xU f m=0
  .refine⟨m,ai,?_,λj b=>sX e j b⟩;by_cases a:f m=true
   .unfold xU at h;simp[e,a]at h
   .simpa using a
  .obtain⟨i,h1,c⟩:=jC e;exact⟨i,ai,c⟩
theorem vB{O:Array Oper}{a:Region.Mode}(c:∀ i,i<O.size->∀ j∈vA a O i,j<i)(L:Nat->Bool)(h:∃ i,i<O.size/\L i=false):∃ i,i<O.size/\L i=false/\∀ j∈vA a O i,L j=true:=by obtain⟨q,d,b⟩:=h;obtain⟨i,h1,e,g⟩:=jC (f:=L) (m:=O.size) (λz=>by rw[sX z q d]at b;cases b);exact⟨i,h1,e,λj k=>g j<|c i h1 j k⟩
theorem wP{O:Array Oper}{d:Region.Mode}:j∈vA d O i↔∃ o,bk O i=some o/\∃ e∈o.after,Region.binds d e=true/\e.on=j:=by
 unfold vA;constructor
 .intro h;split at h
  .rename_i o a;simp only[cq,gW,E3]at h;obtain⟨e,⟨b,c⟩,rfl⟩:=h;exact⟨o,a,e,b,c,rfl⟩
  .cases h
 .rintro⟨o,a,e,b,c,rfl⟩;rw[a];simp only[cq,gW,E3];exact⟨e,⟨b,c⟩,rfl⟩
theorem wQ{O:Array Oper}{D:List (Nat×Nat)}{T is:List Nat}(h:u5 O D T is=true):DO O D T is:=by
 simp only[u5,jK,GN,lz,iA,Am,List.contains_iff_mem,rz,uU]at h;obtain⟨⟨⟨⟨⟨⟨⟨h1,c⟩,m⟩,n⟩,p⟩,r⟩,t⟩,u⟩:=h;have f:∀ i,i<O.size->∀ j∈vA .any O i,j<i:=λi hi j b=>c i hi j (zS<|by exact b);refine⟨λv L a=>?_,λi hi j b=>c i hi j<|zS b,λs w e=>m (s,w)<|V8 e,λi s e=>?_,p,λi hi=>?_,t,u⟩
 .cases v with
  |text=>exact vB c L a
  |any=>exact vB f L a
  |gc=>
   rcases h1 with h1|h1
   .refine vB (λi hi j b=>?_) L a;obtain⟨o,g,e,k,E,rfl⟩:=wP.1 b;refine f i hi _<|wP.2 ⟨o,g,e,k,?_,rfl⟩;unfold Region.departs at h1;rw[Array.any_eq_false]at h1;have l:O[i]? =some o:=by rw[dJ];exact g
    rw[Gu hi]at l;have:=h1 i hi;rw[cA l]at this;cases x:Region.binds .any e with
    |true=>rfl
    |false=>
     obtain⟨q,d,rfl⟩:=qq2.1 k;exact absurd (Array.any_eq_true.2 ⟨q,d,by simp[x]⟩) this
   .simp only[YM,jK,lz,iA,rz]at h1;obtain⟨⟨y,z⟩,A⟩:=h1;obtain⟨q,d,B⟩:=a;obtain⟨i,hi,C⟩:=DL (L:=L) A (λj b=>by cases b) ⟨q,by have:=y q d;simpa using this,B⟩;exact⟨i,z i hi,C⟩
 .have:=n i<|oi e;rw[e]at this;simpa using this
 .have:=r i hi;exact⟨by have:=this.1;simpa using this,this.2⟩
theorem uk{a:Region.Mode}{listed:Array Bool}{i:Nat}(k:i<O.size):(((O[i]?).map (·.after.all λe=> !Region.binds a e||listed.getD e.on false)).getD false)=true↔∀ j∈vA a O i,listed[j]?.getD false=true:=by
 have d:O[i]? =some O[i]:=Gu k;have f:bk O i=some O[i]:=by rw[<- dJ];exact d
 rw[d];simp only[lQ,iG,Array.all_eq_true];constructor
 .intro h j l;obtain⟨o,g,e,m,b,rfl⟩:=wP.1 l;rw[f]at g;obtain rfl:=cA g;obtain⟨q,c,rfl⟩:=qq2.1 m;have:=h q c;rw[b]at this;simpa[Array.getD_eq_getD_getElem?]using this
 .intro h q c;cases b:Region.binds a (O[i]).after[q]with
  |false=>simp
  |true=>
   have:=h _<|wP.2 ⟨_,f,_,Array.getElem_mem c,b,rfl⟩;simp[Array.getD_eq_getD_getElem?,this]
theorem oV(b:Region.Mode)(O:Array Oper)(a t:Nat)(listed:Array Bool)(i:Nat):Region.linearise.go b O a t listed [i]=i::Region.linearise.go b O a t listed []:=by rw[linearise_go_acc b O a t listed [i]];rfl
theorem zT{listed:Array Bool}(hi:i<listed.size)(j:Nat):(listed.setIfInBounds i true)[j]?.getD false=if j=i then true else listed[j]?.getD false:=by
 by_cases e:j=i
 .subst e;rw[lh hi];simp
 .rw[ir (j6 e)];simp[e]
theorem sY{a:Nat}{l:List Nat}(h:nD (a::l)=true):a∉l/\nD l=true:=by simp only[nD,jK,GN]at h;exact⟨by have:=h.1;simpa using this,h.2⟩
theorem um:∀ {l:List Nat},nD l=true->l.Nodup
 |[],_=>GP
 |a::l,h=>qP.2 ⟨(sY h).1,um (sY h).2⟩
theorem wR(a:DO O D T is)(h1:jw O i=some s)(b:jw O j=some s):i=j:=by have:=(a.d2 i s h1).symm.trans<|a.d2 j s b;exact cA this
theorem YN.norm(r:DO O D T is){L:Nat->Prop}{e:Nat->Value}{K:List SE}{p:List Nat}{As:List HP}:∀ (m:Nat) {S:List SE} {T' Ts:List Nat},T'.length=m->YN R d fn kd n ds O k cs e0 D W mL T is a S L e K p T' Ts As->
  ∃ S' T2 s,YN R d fn kd n ds O k cs e0 D W mL T is a S' L e K p T2 s As/\(∀ f,T2.length=f+1->(∀ t∈Fj O T2,Nd R d fn kd n ds O k cs e0 D W S' (λK As=>Ch R d fn kd n ds O k cs e0 D W f S' (T2.erase t) (a-p.length-1) K As) t (a-p.length) K As)\/
   (∃ t,T2=[t]/\(∃ o,bk O t=some o/\o.dst=none)/\((List.range O.size).all λi=>i==t||reach O 8 t i)=true/\At R d As (gr fn kd n (rI e0<|K++S') ds (.inRegion O [t]::k) cs)))
 |0,S,T',Ts,A,st=>⟨S,T',Ts,st,λf B=>by omega⟩
 |m+1,S,T',Ts,A,st=>by
  have g:=st.ch;rw[A]at g;rcases g with g|⟨i,hi,t,v,C,g⟩|g
  .exact⟨S,T',Ts,st,λf B=>by obtain rfl:f=m:=ai;exact .inl g⟩
  rotate_left
  .exact⟨S,T',Ts,st,λf B=>.inr g⟩
  .have E:T'.Perm (i::T'.erase i):=QY hi;have l:(T'.erase i).length=m:=by have:=E.length_eq;simp only[nN]at this;omega
   have H:(p++(T'++Ts)).Nodup:=st.tt.nodup_iff.1<|um r.nd;have w:i∈T:=st.tt.mem_iff.2<|fD _<|iq _ hi;have F:∀ y∈S,y.i≠i:=λy c e=>by
    rcases(st.sS y c).1 with h|h
    .exact(r.isT _ h).1<|e▸w
    .exact(jc.1 (jc.1 H).2.1).2.2 i hi y.i h e.symm
   have I:jw O i=some t:=by obtain⟨⟨o,J,M⟩,_⟩:=C;unfold jw;rw[J];exact M
   refine YN.norm r m (Ts:=i::Ts) l ⟨λx b z=>?_,st.v2,st.v3,st.cl,?_,st.td,λu N=>st.tn u<|List.mem_of_mem_erase N,λx b=>?_,st.ka,st.ki,λx b=>?_,λj P=>?_,λx b q=>?_,λx b y c e=>?_,by rw[l];exact g,st.aS⟩
   .rcases bS.1 b with b|b
    .exact st.v1 x (iq _ b) z
    .rcases gU.1 b with rfl|b
     .exact absurd z<|st.tn _ hi
     .exact st.v1 x (fD _ b) z
   .exact st.tt.trans<|List.Perm.append_left _<|(E.append_right Ts).trans (by simp only[fJ];exact QZ.symm)
   .rcases bS.1 b with b|b
    .exact st.lk x<|iq _ b
    .rcases gU.1 b with rfl|b
     .exact I
     .exact st.lk x<|fD _ b
   .rcases gU.1 b with rfl|b
    .exact⟨.inr<|fX ..,K++S,λy c=>(bS.1 c).elim (λh=>iq _ h) λh=>fD _<|fg _ h,C⟩
    .obtain⟨h1,Q,U,X⟩:=st.sS x b;exact⟨h1.imp_right<|fg _,Q,λy c=>(bS.1<|U y c).elim (λh=>iq _ h) λh=>fD _<|fg _ h,X⟩
   .have:j=i\/(j∈is\/j∈Ts):=by
     rcases P with h|h
     .exact .inr<|.inl h
     .rcases gU.1 h with h|h
      .exact .inl h
      .exact .inr<|.inr h
    rcases this with rfl|h
    .exact⟨_,fX ..,rfl⟩
    .obtain⟨x,b,e⟩:=st.sI j h;exact⟨x,fg _ b,e⟩
   .rcases gU.1 b with rfl|b
    .cases q
    .exact st.sL x b q
   .rcases gU.1 b with rfl|b<;>rcases gU.1 c with rfl|c
    .rfl
    .exact absurd e.symm<|F y c
    .exact absurd e<|F x b
    .exact st.sU x b y c e
theorem xV{H:Region.Mode}(E:DO O D T is):
  ∀ (c t:Nat) (listed:Array Bool) (e:Nat->Value) (S:List SE) (K:List SE) (r T' Ts:List Nat) (As:List HP),listed.size=O.size->xU (λi=>listed[i]?.getD false) O.size=c->YN R d fn kd n ds O k cs e0 D W mL T is a S (λi=>listed[i]?.getD false=true) e K r T' Ts As->
   At R d As (gr fn kd n e ds (.inRegion O (Region.linearise.go H O c t listed [])::k) cs):=by
 intro c
 induction c with
 |zero=>
  intro t listed e S K r T' Ts As hsz hu st;have j9:=sX hu;have hT':T'=[]:=by
   cases T' with
   |nil=>rfl
   |cons x l=>exact absurd (j9 x<|E.Tlt x<|st.tt.mem_iff.2<|fD _<|iq _<|fX ..)<|st.tn x<|fX ..
  subst hT';simp only[Region.linearise.go,GQ];have he:e=rI e0 (K++S):=by
   funext s
   unfold rI;cases h1:QB (K++S) s with
   |some v=>
    obtain⟨x,q,rfl,rfl⟩:=Mw h1;exact st.v1 x q<|j9 _<|oi<|st.lk x q
   |none=>
    simp only;have nC:=Hb h1;cases p:JF D s with
    |none=>exact st.v2 s p
    |some w=>
     have A:=E.d1 s w p;have Q:(w∈is\/w∈Ts)\/w∈r:=by
      rcases E.cov w (oi A)with hw|hw
      .exact .inl<|.inl hw
      .rcases bS.1 (st.tt.mem_iff.1 hw)with hw|hw
       .exact .inr hw
       .exact .inl<|.inr<|by simpa using hw
     rcases Q with hw|hw
     .obtain⟨x,q,rfl⟩:=st.sI w hw;have:=st.lk x<|fD _ q;rw[A]at this;exact absurd (cA this).symm<|nC x<|fD _ q
     .obtain⟨x,q,U⟩:=st.ka w hw s A;exact absurd U<|nC x<|iq _ q
  rw[he];exact st.ch
 |succ c ih=>
  intro t listed e S K r T' Ts As hsz hu st0;obtain⟨S,T',Ts,st,ain⟩:=st0.norm E _ rfl;have xI:∀ i,i∈((List.range O.size).filter λi=> !listed.getD i true&&((O[i]?).map (·.after.all λe=> !Region.binds H e||listed.getD e.on false)).getD false)↔i<O.size/\listed[i]?.getD false=false/\∀ j∈vA H O i,listed[j]?.getD false=true:=by
   intro i;simp only[gW,iA,jK,GN];constructor
   .rintro⟨h1,p,M⟩;refine⟨h1,?_,(uk h1).1 M⟩;have:i<listed.size:=ai;simpa[Array.getD_eq_getD_getElem?,this]using p
   .rintro⟨h1,p,M⟩;refine⟨h1,?_,(uk h1).2 M⟩;have:i<listed.size:=ai;simpa[Array.getD_eq_getD_getElem?,this]using p
  simp only[Region.linearise.go];generalize hG:((List.range O.size).filter λi=> !listed.getD i true&&((O[i]?).map (·.after.all λe=> !Region.binds H e||listed.getD e.on false)).getD false)=rs at xI;obtain⟨i1,zu,Ob,_⟩:=jC (f:=λi=>listed[i]?.getD false) (m:=O.size) (by rw[hu];omega);obtain⟨i0,GZ,V9,Fp⟩:=E.prog H (λi=>listed[i]?.getD false) ⟨i1,zu,Ob⟩;have fA:rs.length≠0:=by have:i0∈rs:=(xI i0).2 ⟨GZ,V9,Fp⟩;intro z;rw[QW]at z;rw[z]at this;cases this
  have Ka:t%rs.length<rs.length:=GR _ ai;rw[cQ Ka];simp only;generalize eE:rs[t%rs.length]=i;have cW:i∈rs:=by rw[<- eE];exact dG Ka
  obtain⟨dH,CA,aaj⟩:=(xI i).1 cW;have jo:∀ j∈DK O i,listed[j]?.getD false=true:=λj B=>aaj j<|zS B;have Sd:Region.linearise.go H O c (t/rs.length) (listed.setIfInBounds i true) [i]=i::Region.linearise.go H O c (t/rs.length) (listed.setIfInBounds i true) []:=oV H O c (t/rs.length) (listed.setIfInBounds i true) i;rw[Sd];have vr:(listed.setIfInBounds i true).size=O.size:=by simpa using hsz
  have CR:i<listed.size:=ai;have kg:=zT (listed:=listed) CR;have Fq:xU (λj=>(listed.setIfInBounds i true)[j]?.getD false) O.size=c:=by have:=(wO (f:=λj=>listed[j]?.getD false) (f':=λj=>(listed.setIfInBounds i true)[j]?.getD false) (i:=i) CA (by simp[kg]) (λj B=>by simp[kg,B]) (m:=O.size)).1 dH;rw[hu]at this;omega
  have Kb:¬ (listed[i]?.getD false=true):=by rw[CA];simp
  have C:∀ j,((listed.setIfInBounds i true)[j]?.getD false=true)↔(j=i\/listed[j]?.getD false=true):=λj=>by rw[kg];by_cases e:j=i<;>simp[e]
  have m6:∀ w,(listed.setIfInBounds i true)[w]?.getD false=true->∀ j∈DK O w,(listed.setIfInBounds i true)[j]?.getD false=true:=λw hw j B=>by
   rw[C]at hw⊢;rcases hw with rfl|hw
   .exact .inr<|jo j B
   .exact .inr<|st.cl w hw j B
  have nS:(r++(T'++Ts)).Nodup:=st.tt.nodup_iff.1<|um E.nd;have aio:(i∈is\/i∈Ts)\/i∈T':=by
   rcases E.cov i dH with L|L
   .exact .inl<|.inl L
   .rcases bS.1 (st.tt.mem_iff.1 L)with h|h
    .exact absurd (st.td i h) Kb
    .rcases bS.1 h with h|h
     .exact .inr h
     .exact .inl<|.inr h
  have X:∀ j,(j∈is\/j∈Ts)->j∉r/\j∉T':=λj B=>by
   rcases B with B|B
   .have:=(E.isT j B).1;exact⟨λh=>this<|st.tt.mem_iff.2<|iq _ h,λh=>this<|st.tt.mem_iff.2<|fD _<|iq _ h⟩
   .obtain⟨_,n2,n3⟩:=jc.1 nS;exact⟨λh=>n3 j h j (fD _ B) rfl,λh=>(jc.1 n2).2.2 j h j B rfl⟩
  rcases aio with L|L
  ·
   obtain⟨x,q,rfl⟩:=st.sI i L;obtain⟨_,Sx,hSx,ob⟩:=st.sS x q;have Kc:jw O x.i=some x.t:=st.lk x<|fD _ q;have Oc:=st.env Kb jo (S':=Sx) λy g=>hSx y g;have hA:x.ld=true->Ext As W:=λhld=>by
    rcases lP a r.length with dH|hge
    .exfalso;have vq:∀ t∈r,(!reach O 8 t x.i)=true:=λt ht=>by
      cases Y:reach O 8 t x.i with
      |false=>rfl
      |true=>exact absurd (iB st.cl 8 t x.i Y<|st.td t ht) Kb
     have h1:=st.sL x q hld;have p:(T.filter λt=> !reach O 8 t x.i).length=((r++(T'++Ts)).filter λt=> !reach O 8 t x.i).length:=(st.tt.filter _).length_eq;rw[rA,List.filter_eq_self.2 vq,iV]at p;omega
    .exact st.aS hge
   have key:=ob.2 As e (Region.linearise.go H O c (t/rs.length) (listed.setIfInBounds x.i true) []) hA;rw[Oc]at key;refine key<|ih _ _ _ S K r T' Ts As vr Fq ⟨λy g I=>?_,λs p=>?_,λs w p hw=>?_,m6,st.tt,λt ht=>(C t).2<|.inr<|st.td t ht,λt ht hLt=>?_,st.lk,st.ka,st.ki,st.sS,st.sI,st.sL,st.sU,st.ch,st.aS⟩
   .by_cases Z:y.i=x.i
    .have hyx:y=x:=by
      rcases bS.1 g with g|g
      .exact absurd (Z▸st.ki y g) (X _ L).1
      .exact st.sU y g x q Z
     subst hyx;simp[put]
    .have aam:listed[y.i]?.getD false=true:=((C _).1 I).resolve_left Z;have hyt:y.t≠x.t:=λe=>Z<|wR E (st.lk y g)<|e▸Kc;simp only[put,ax hyt];exact st.v1 y g aam
   .have:s≠x.t:=λe=>by subst e;rw[E.d2 _ _ Kc]at p;cases p
    simp only[put,ax this];exact st.v2 s p
   .have:s≠x.t:=λe=>by subst e;rw[E.d2 _ _ Kc]at p;exact hw<|(C w).2<|.inl (cA p).symm
    simp only[put,ax this];exact st.v3 s w p λh=>hw<|(C w).2<|.inr h
   .rcases(C t).1 hLt with rfl|h
    .exact(X _ L).2 ht
    .exact st.tn t ht h
  ·
   have My:i∈T':=L;have aiq:T'.Nodup:=(jc.1 (jc.1 nS).2.1).1;have aen:i∈Fj O T':=by
    unfold Fj;refine gW.2 ⟨My,lz.2 λu hu=>?_⟩;by_cases hui:u=i
    .simp[hui]
    .cases Y:reach O 8 i u with
     |false=>simp
     |true=>
      rcases mP (f:=7) Y with Y|⟨m,hm,Y⟩
      .exact absurd Y.symm hui
      .exact absurd (iB st.cl 7 m u Y<|jo m hm)<|st.tn u hu
   obtain⟨b,hb⟩:∃ b,b=T'.erase i:=⟨_,rfl⟩;have YP:T'.Perm (i::b):=by rw[hb];exact QY My
   have aeo:T'.length=b.length+1:=by rw[YP.length_eq];rfl
   have RG:i∉b:=by rw[hb];exact aiq.not_mem_erase
   rcases ain _ aeo with F|⟨t1,hT1,⟨o,N,hod⟩,j9,F⟩
   rotate_left
   .obtain rfl:i=t1:=by rw[hT1]at My;exact dR.1 My
    have aep:∀ j,j<O.size->j≠i->listed[j]?.getD false=true:=λj B fA=>by
     have h1:=lz.1 j9 j<|iA.2 B;have p:reach O 8 i j=true:=by simpa[fA]using h1
     rcases mP (f:=7) p with M|⟨m,hm,M⟩
     .exact absurd M.symm fA
     .exact iB st.cl 7 m j M<|jo m hm
    have V9:c=0:=by
     rw[<- Fq];rcases NQ (xU (λj=>(listed.setIfInBounds i true)[j]?.getD false) O.size)with h1|h1
     .exact h1
     .obtain⟨j,B,hfj,_⟩:=jC (f:=λj=>(listed.setIfInBounds i true)[j]?.getD false)<|Q0.1 h1;exfalso;have:(listed.setIfInBounds i true)[j]?.getD false=true:=(C j).2 (by
       by_cases e:j=i
       .exact .inl e
       .exact .inr<|aep j B e)
      rw[this]at hfj;cases hfj
    subst V9;simp only[Region.linearise.go,GQ];have he:e=rI e0 (K++S):=by
     funext s
     unfold rI;cases h1:QB (K++S) s with
     |some v=>
      obtain⟨x,q,rfl,rfl⟩:=Mw h1;refine st.v1 x q (aep _ (oi<|st.lk x q) λz=>?_);have:=st.lk x q;rw[z]at this;unfold jw at this;rw[N]at this;simp only at this;rw[hod]at this;cases this
     |none=>
      simp only;have nC:=Hb h1;cases p:JF D s with
      |none=>exact st.v2 s p
      |some w=>
       have A:=E.d1 s w p;have hwi:w≠i:=λz=>by unfold jw at A;rw[z,N]at A;simp only at A;rw[hod]at A;cases A
       have Q:(w∈is\/w∈Ts)\/w∈r:=by
        rcases E.cov w (oi A)with hw|hw
        .exact .inl<|.inl hw
        .rcases bS.1 (st.tt.mem_iff.1 hw)with hw|hw
         .exact .inr hw
         .rcases bS.1 hw with hw|hw
          .rw[hT1]at hw;exact absurd (dR.1 hw) hwi
          .exact .inl<|.inr hw
       rcases Q with hw|hw
       .obtain⟨x,q,rfl⟩:=st.sI w hw;have:=st.lk x<|fD _ q;rw[A]at this;exact absurd (cA this).symm<|nC x<|fD _ q
       .obtain⟨x,q,U⟩:=st.ka w hw s A;exact absurd U<|nC x<|iq _ q
    rw[he];exact F
   have F:=F i aen;rw[<- hb]at F;have Oc:=st.env Kb jo (S':=K++S) λy g=>g;have aeq:∀ y∈K++S,y.i≠i:=λy g e=>by
    rcases bS.1 g with g|g
    .exact Kb<|e▸st.td _ (st.ki y g)
    .exact(X _ (st.sS y g).1).2<|e▸L
   have htn:∀ t∈b,¬ (listed.setIfInBounds i true)[t]?.getD false=true:=λu hu hLu=>by
    rcases(C u).1 hLu with rfl|h
    .exact RG hu
    .exact st.tn u (YP.mem_iff.2<|fg _ hu) h
   have htt:T.Perm (r++[i]++(b++Ts)):=by refine st.tt.trans ?_;rw[rT];exact(YP.append_right Ts).append_left r
   have Hc:∀ (o:Oper),bk O i=some o->∀ aT v,((r++[i]).length<=a->Ext aT W)->Ch R d fn kd n ds O k cs e0 D W b.length S b (a-(r++[i]).length) (match o.dst with|some s=>⟨i,s,v,false⟩::K|none=>K) aT->
     At R d aT (gr fn kd n (dD e o.dst v) ds (.inRegion O (Region.linearise.go H O c (t/rs.length) (listed.setIfInBounds i true) [])::k) cs):=by
    intro o N aT v aes P;cases A:o.dst with
    |none=>
     rw[A]at P;have hdn:jw O i=none:=by unfold jw;rw[N];exact A
     refine ih _ _ _ S K (r++[i]) b Ts aT vr Fq ⟨λy g I=>?_,st.v2,λs w p hw=>st.v3 s w p λh=>hw<|(C w).2<|.inr h,m6,htt,λu hu=>?_,htn,st.lk,λu hu s hs=>?_,λy g=>iq _<|st.ki y g,st.sS,st.sI,st.sL,st.sU,P,aes⟩
     .exact st.v1 y g<|((C _).1 I).resolve_left<|aeq y g
     .rcases bS.1 hu with hu|hu
      .exact(C u).2<|.inr<|st.td u hu
      .exact(C u).2<|.inl<|by simpa using hu
     .rcases bS.1 hu with hu|hu
      .exact st.ka u hu s hs
      .have:u=i:=by simpa using hu
       subst this;rw[hdn]at hs;cases hs
    |some s0=>
     rw[A]at P;have J:jw O i=some s0:=by unfold jw;rw[N];exact A
     refine ih _ _ _ S (⟨i,s0,v,false⟩::K) (r++[i]) b Ts aT vr Fq ⟨λy g I=>?_,λs p=>?_,λs w p hw=>?_,m6,htt,λu hu=>?_,htn,λy g=>?_,λu hu s hs=>?_,λy g=>?_,λx q=>(by obtain⟨h1,Sx,p,M⟩:=st.sS x q;exact⟨h1,Sx,λy g=>fg _<|p y g,M⟩),st.sI,st.sL,st.sU,P,aes⟩
     .rcases gU.1 g with rfl|g
      .simp[dD,put]
      .have Z:=aeq y g;have hyt:y.t≠s0:=λe=>Z<|wR E (st.lk y g)<|e▸J;simp only[dD,put,ax hyt];exact st.v1 y g<|((C _).1 I).resolve_left Z
     .have:s≠s0:=λe=>by subst e;rw[E.d2 _ _ J]at p;cases p
      simp only[dD,put,ax this];exact st.v2 s p
     .have:s≠s0:=λe=>by subst e;rw[E.d2 _ _ J]at p;exact hw<|(C w).2<|.inl (cA p).symm
      simp only[dD,put,ax this];exact st.v3 s w p λh=>hw<|(C w).2<|.inr h
     .rcases bS.1 hu with hu|hu
      .exact(C u).2<|.inr<|st.td u hu
      .exact(C u).2<|.inl<|by simpa using hu
     .rcases gU.1 g with rfl|g
      .exact J
      .exact st.lk y g
     .rcases bS.1 hu with hu|hu
      .obtain⟨x,q,e⟩:=st.ka u hu s hs;exact⟨x,fg _ q,e⟩
      .have:u=i:=by simpa using hu
       subst this;rw[J]at hs;exact⟨_,fX ..,cA hs⟩
     .rcases gU.1 g with rfl|g
      .exact fD _<|fX ..
      .exact iq _<|st.ki y g
   have hlen:(r++[i]).length=r.length+1:=by simp
   cases hm:a-r.length with
   |zero=>
    rw[hm]at F;obtain⟨o,N,F⟩:=F;have key:=F e<|Region.linearise.go H O c (t/rs.length) (listed.setIfInBounds i true) [];rw[Oc]at key;refine key λaT v P=>Hc o N aT v (λh=>by omega) ?_;have:a-(r++[i]).length=0-1:=ai;rw[this];exact P
   |succ m=>
    rw[hm]at F;obtain⟨o,N,F⟩:=F;have key:=F e<|Region.linearise.go H O c (t/rs.length) (listed.setIfInBounds i true) [];rw[Oc]at key;refine key λaT v q P=>Hc o N aT v (λh=>q.ext<|st.aS ai) ?_;have:a-(r++[i]).length=m+1-1:=ai;rw[this];exact P
theorem Dr.uniq:∀ (is:List Nat) (S:List SE),nD is=true->(∀ x∈S,x.i∉is)->(∀ x∈S,∀ y∈S,x.i=y.i->x=y)->Dr R d fn kd n ds O k cs e0 D W mL T a S is->∃ S',(∀ x∈S,x∈S')/\(∀ x∈S',x∈S\/(x.i∈is/\∃ q,(∀ y∈q,y∈S')/\Obl R d fn kd n ds O k cs e0 D W q x))/\(∀ i∈is,∃ x∈S',x.i=i)/\
  (∀ x∈S',x.ld=true->(T.filter λt=> !reach O 8 t x.i).length<=a)/\(Ext mL W/\Ch R d fn kd n ds O k cs e0 D W T.length S' T a [] mL)/\(∀ x∈S',∀ y∈S',x.i=y.i->x=y)
 |[],S,_,_,f,h=>by obtain⟨h1,r⟩:=h;refine⟨S,λx b=>b,λx b=>.inl b,λi hi=>(by cases hi),λx b g=>?_,r,f⟩;have:=lz.1 h1 x b;rw[g]at this;simpa using this
 |i::is,S,s,l,f,h=>by
  obtain⟨t,v,ld,o,h⟩:=h;obtain⟨u,m⟩:=sY s;obtain⟨S',a1,w,A,B,C,E⟩:=Dr.uniq is _ m (λx b=>by
   rcases gU.1 b with rfl|b
   .exact u
   .exact λz=>l x b<|fg _ z) (λx b y c e=>by
   rcases gU.1 b with rfl|b<;>rcases gU.1 c with rfl|c
   .rfl
   .exact absurd (gU.2<|.inl e.symm)<|l y c
   .exact absurd (gU.2<|.inl e)<|l x b
   .exact f x b y c e) h
  refine⟨S',λx b=>a1 x<|fg _ b,λx b=>?_,λj p=>?_,B,C,E⟩
  .rcases w x b with b|⟨b,y⟩
   .rcases gU.1 b with rfl|b
    .exact .inr ⟨fX ..,S,λy c=>a1 y<|fg _ c,o⟩
    .exact .inl b
   .exact .inr ⟨fg _ b,y⟩
  .rcases gU.1 p with rfl|p
   .exact⟨_,a1 _<|fX ..,rfl⟩
   .exact A j p
theorem oj(m i:Nat):(Array.replicate m false)[i]?.getD false=false:=by rw[Array.getElem?_replicate];split<;>rfl
theorem ab.Sf(C:ab P ao B R){c:Code}(D:List (Nat×Nat))(is T:List Nat)(a:Nat)(h:Dr R d fn kd n ds (cO c) k cs e0 D W mL T a [] is)(hc:ck c=.draw:=by rfl)(hr:u5 (cO c) D T is=true:=by decide+kernel)(r:nD is=true:=by rfl):
  At R d mL (gr fn kd n e0 ds (.code c::k) cs):=by
 refine C.dr (λt=>?_) hc;have rg:=wQ hr;obtain⟨S,_,s,u,v,p,z⟩:=Dr.uniq is [] r (λx b=>by cases b) (λx b=>by cases b) h;have e:∀ x∈S,x.i∈is/\∃ f,(∀ y∈f,y∈S)/\Obl R d fn kd n ds (cO c) k cs e0 D W f x:=λx b=>(s x b).resolve_left (by simp);have q:∀ listed:Array Bool,listed=Array.replicate (cO c).size false->YN R d fn kd n ds (cO c) k cs e0 D W mL T is a S (λi=>listed[i]?.getD false=true) e0 [] [] T [] mL:=λlisted hl=>by
  have j:∀ i,¬ (listed[i]?.getD false=true):=λi=>by subst hl;rw[oj];simp
  have A:∀ x∈([]:List SE)++S,jw (cO c) x.i=some x.t:=λx b=>by obtain⟨_,f,_,⟨o,E,F⟩,_⟩:=e x (by simpa using b);unfold jw;rw[E];exact F
  exact⟨λx _ b=>absurd b<|j _,λ_ _=>rfl,λ_ _ _ _=>rfl,λw H=>absurd H<|j w,by rw[lS];exact .refl _,λt l=>(by cases l),λt _=>j t,A,λt l=>(by cases l),λx b=>(by cases b),λx b=>(by obtain⟨h1,f,I,J⟩:=e x b;exact⟨.inl h1,f,λy K=>by simpa using I y K,J⟩),λi hi=>u i (hi.resolve_right<|by simp),v,z,p.2,λ_=>p.1⟩
 have g:∀ m,xU (λi=>(Array.replicate (cO c).size false)[i]?.getD false) m=m:=λm=>by
  induction m with
  |zero=>rfl
  |succ m L=>
   unfold xU;rw[L,oj];rfl
 unfold Region.schedule;split
 .unfold Region.linearise;exact xV rg (cO c).size _ _ e0 S [] [] T [] mL (by simp) (g _)<|q _ rfl
 .unfold Region.linearise;exact xV rg (cO c).size _ _ e0 S [] [] T [] mL (by simp) (g _)<|q _ rfl
theorem ab.drawn(C:ab P ao B R){c:Code}(D:List (Nat×Nat))(is T:List Nat)(a:Nat)(h:Dr R d fn kd n ds (cO c) k cs e0 D mL mL T a [] is)(hc:ck c=.draw:=by rfl)(hr:u5 (cO c) D T is=true:=by decide+kernel)(b:nD is=true:=by rfl):
  At R d mL (gr fn kd n e0 ds (.code c::k) cs):=C.Sf D is T a h hc hr b
end
end
section
open Go.Conc
class jf{α:Type}(f:α->List Value)(z:outParam Nat):Prop where
 len:∀ a,(f a).length=z
 one:∀ a,∀ v∈f a,gJ v=true
def ay.b(s:ay):Nat:=match s.a with|some a=>a.block|none=>0
def gg{α:Type}(I:HL)(f:α->List Value)(el:aP)(s:ay)(l:List α):Prop:=
 (s=aV/\l=[])\/∃ pad,s=⟨some ⟨s.b,0,none⟩,l.length,s.cap⟩/\I s.b=some (.cells (iv f l pad) el (0,0))
theorem gg.mono{I I':HL}{f:α->List Value}{el:aP}{s:ay}{l:List α}(h:gg I f el s l)(hs:Sub I I'):gg I' f el s l:=
 h.imp id λ⟨pad,h1,a⟩=>⟨pad,h1,hs _ _ a⟩
theorem gg.nil(I:HL)(f:α->List Value)(el:aP):gg I f el aV []:=.inl ⟨rfl,rfl⟩
inductive ez{α:Type}(f:α->List Value)(el:aP)(s:ay)(l:List α):List HP->Prop
 |own {z:Nat} {As L:List HP}:Fo (bK f z el s l) As L->ez f el s l As
 |bI {I:HL} {As L:List HP}:Fo (bI I) As L->gg I f el s l->ez f el s l As
 |ext {As mL:List HP}:Ext As mL->ez f el s l mL->ez f el s l As
section
variable{α:Type}{f:α->List Value}{el:aP}{s:ay}{l:List α}{As:List HP}{h:HL}
theorem ez.get(r:ez f el s l As)(st:Sat As h):(s=aV/\l=[])\/∃ pad,s=⟨some ⟨s.b,0,none⟩,l.length,s.cap⟩/\h s.b=some (.cells (iv f l pad) el (0,0)):=by
 induction r with
 |@own z As L fo=>
  obtain⟨j,x,c,_⟩:=st.perm fo.perm;rcases x with⟨rfl,rfl⟩|⟨b,pad,e,_,_,d⟩
  .exact .inl ⟨rfl,rfl⟩
  .have a:s.b=b:=by rw[e];rfl
   refine .inr ⟨pad,by rw[a];exact e,?_⟩;subst d;rw[a];exact c b _<|by simp[one]
 |bI fo hi=>
  rcases hi with⟨rfl,rfl⟩|⟨pad,h1,g⟩
  .exact .inl ⟨rfl,rfl⟩
  .exact .inr ⟨pad,h1,(st.perm fo.perm).sR g⟩
 |ext e _ i=>exact i<|e _ st
theorem ez.at{i:Nat}(r:ez f el s l As)(st:Sat As h)(hi:i<l.length):∃ pad,s=⟨some ⟨s.b,0,none⟩,l.length,s.cap⟩/\h s.b=some (.cells (iv f l pad) el (0,0)):=by
 rcases r.get st with⟨_,rfl⟩|h
 .simp at hi
 .exact h
theorem ez.src[a:jf f z](r:ez f el s l As)(st:Sat As (hp H))(hs:∀ j,B.sh el j=false):oT B H z l.length s.v (flat f l):=by
 rcases r.get st with⟨rfl,rfl⟩|⟨pad,h1,b⟩
 .exact .inl ⟨rfl,rfl,rfl⟩
 .refine .inr ⟨s.b,0,s.cap,_,_,by rw[h1];rfl,b,?_,?_,hs⟩
  .rw[jR a.len];omega
  .have c:(flat f l).length=l.length*z:=fL a.len l;rw[lR,<- c];simp[iv]
theorem ez.aew[b:jf f z](r:ez f el s l As)(st:Sat As (hp H))(hs:∀ j,B.sh el j=false)(i m:Nat)(c:i+m<=l.length)(cap:Nat)(a:Option Addr)(ha:m≠0->a=some ⟨s.b,i*z,none⟩)(d:m=0->a=none/\cap=0\/∃ o,a=some ⟨s.b,o,none⟩/\l≠[]/\o<=l.length*z):
  oT B H z m (.slice a m cap) (flat f<|(l.drop i).take m):=by
 rcases r.get st with⟨rfl,rfl⟩|⟨pad,h1,e⟩
 .have:m=0:=by simp at c;omega
  subst this;rcases d rfl with⟨rfl,rfl⟩|⟨o,_,g,_⟩
  .exact .inl ⟨rfl,rfl,by simp[flat]⟩
  .exact absurd rfl g
 .have p:(flat f l).length=l.length*z:=fL b.len l;by_cases h:m=0
  .subst h;rcases d rfl with⟨rfl,rfl⟩|⟨o,rfl,g,q⟩
   .exact .inl ⟨rfl,rfl,by simp[flat]⟩
   .exact .inr ⟨s.b,o,cap,_,_,rfl,e,by rw[jR b.len];omega,by simp[flat];omega,hs⟩
  .rw[ha h];refine .inr ⟨s.b,i*z,cap,_,_,rfl,e,?_,?_,hs⟩
   .rw[jR b.len,<- rS];have:=GL z c;omega
   .rw[<- rS];have k:(l.take<|i+m).length=i+m:=by rw[nO];omega
    have e1:flat f l++pad=flat f (l.take i)++(flat f ((l.drop i).take m)++(flat f (l.drop<|i+m)++pad)):=by
     have:l=l.take i++((l.drop i).take m++l.drop (i+m)):=by rw[<- LQ,wj,wj]
     conv=>lhs;rw[this,kN,kN]
     simp
    have e2:(flat f<|l.take i).length=i*z:=by rw[fL b.len,nO,CN ai]
    have n:(flat f<|(l.drop i).take m).length=m*z:=by rw[fL b.len,nO,E6,CN ai]
    unfold iv;rw[e1,VO]
    congr 1
    rw[VP,rS,<- e2,List.drop_left,ZQ,<- n,List.take_left]
end
section
variable{P:bT}{ao:Bool}{B:lM}{R:Nat->aO->Array Obj->Prop}{d:Nat}{As aT L F:List HP}
variable{fn:bN}{kd:Kd}{n:Nat}{e:Nat->Value}{ds:List eK}{k:List Item}{cs:List Frame}
variable{O:Array Oper}{i:Nat}{aa:List Nat}{dst:Option Nat}{t:Nat}{ty:aP}{pos:String}{af:Array Edge}{gd:Option (Nat×Bool)}{x y w:dp}{v u:Value}{b off:Nat}{c:Array Value}{el tt t2 t3:aP}{kk:IntKind}
theorem ab.zw(C:ab P ao B R){c:Code}{t:Bool}(h1:t=true->At R d As (gr fn kd n e ds (.code (cT c)::k) cs))(b:t=false->At R d As (gr fn kd n e ds (.code (cE c)::k) cs))(hc:ck c=.cond:=by rfl)(a:ev n e (cC c)=.bool t:=by rfl):At R d As (gr fn kd n e ds (.code c::k) cs):=by
 cases t with
 |true=>exact C.cT' (h1 rfl) hc a
 |false=>exact C.cF' (b rfl) hc a
theorem ab.fZ(C:ab P ao B R){f:bN}{c:Code}{nf:Nat}[b:Body P f fu c nf]{fo:dp}{A:List HP}{Q:Value->List HP->Prop}(hs:aI P ao B f vl.toArray A Q)
  (h:∀ v aT,Q v aT->At R d (aT++F) (gr fn kd n (dD e dst v) ds (.inRegion O aa::k) cs))
  (a:bk O i=some ⟨dst,.call ⟨.value fo,args,gY⟩,ty,pos,af,gd⟩:=by rfl) (hv:args.toList.map (ev n e)=vl:=by rfl) (hf:ev n e fo=.func (.func f) #[] #[]:=by rfl)
  (hr:fK A As F:=by exact fK.au) (g:aN O n e gd=true:=by rfl):Nw R d As fn kd n e ds O i aa k cs:=
 At.perm hr.perm (C.cl hs h a g hf hv)
theorem ab.YQ(C:ab P ao B R){f:bN}{c:Code}{nf:Nat}[b:Body P f fu c nf]{fo:dp}{a1 a2:Array Value}{A:List HP}{Q:Value->List HP->Prop}(hs:aI P ao B f (a1++vl.toArray++a2) A Q)
  (h:∀ v aT,Q v aT->At R d (aT++F) (gr fn kd n (dD e dst v) ds (.inRegion O aa::k) cs))
  (a:bk O i=some ⟨dst,.call ⟨.value fo,args,gY⟩,ty,pos,af,gd⟩:=by rfl) (hv:args.toList.map (ev n e)=vl:=by rfl) (hf:ev n e fo=.func (.func f) a1 a2:=by rfl)
  (hr:fK A As F:=by exact fK.au) (g:aN O n e gd=true:=by rfl):Nw R d As fn kd n e ds O i aa k cs:=by
 refine At.perm hr.perm (C.gen a g λH s=>?_);unfold execOp;simp only;refine ae ?_;have j:args.map (ev n e)=vl.toArray:=by rw[<- hv,<- sx,vo]
 simp only[resolve,hf,Deferred.ofValue,j];refine ae ?_;show dQ P B _ _ _ _;show dQ P B (invoke (.fn (.func f) a2)<|a1++vl.toArray) H d _;unfold invoke;refine oQ (P:=P) _ B H d _ ⟨A++F,s,?_⟩;exact hs R C .rU d F _ cs trivial λv aT q=>by show At R d (aT++F) (fP _ cs v);rw[qe a];exact h v aT q
section
variable{α:Type}{f:α->List Value}{z:Nat}{s:ay}{l:List α}{j o:Nat}
theorem ab.qK(C:ab P ao B R)[cE:El P tt el](a:bk O i=some ⟨some t,.call ⟨.builtin .len,#[x],#[tt]⟩,ty,pos,af,gd⟩)(h:Nx R d As fn kd n e ds O aa k cs t (.int .i64 l.length))
  (hx:ev n e x=s.v:=by rfl) (hr:ez f el s l As:=by first|(apply ez.own;exact Fo.au;done)|(apply ez.bI;exact Fo.au;assumption)|(apply ez.ext;assumption;apply ez.own;exact Fo.au;done)|(apply ez.ext;assumption;apply ez.bI;exact Fo.au;assumption)) (b:aN O n e gd=true:=by rfl):Nw R d As fn kd n e ds O i aa k cs:=
 C.gen a b λH st=>by
  have hl:s.len=l.length:=by
   rcases hr.get st with⟨rfl,rfl⟩|⟨pad,h1,_⟩
   .rfl
   .rw[h1]
  unfold execOp;simp only[resolve];refine ae<|aA ?_;simp only[CO,jq,ny,hx];unfold invoke builtin;refine ae ?_;unfold Builtin.len_;refine ae<|dN cE.h B H d _ ?_;refine aA<|aA ⟨As,st,?_⟩;rw[hl];exact h
theorem ab.dZ(C:ab P ao B R)[p:jf f z][c:El P tt el][Cz P el z](a:bk O i=some ⟨some t,.indexAddr tt x y,ty,pos,af,gd⟩)(h:Nx R d As fn kd n e ds O aa k cs t (.pointer<|some ⟨s.b,j*z,none⟩))
  (hx:ev n e x=s.v:=by rfl) (b:ev n e y=.int kk (j:Int):=by rfl) (hr:ez f el s l As:=by first|(apply ez.own;exact Fo.au;done)|(apply ez.bI;exact Fo.au;assumption)|(apply ez.ext;assumption;apply ez.own;exact Fo.au;done)|(apply ez.ext;assumption;apply ez.bI;exact Fo.au;assumption)) (hj:j<l.length:=by omega) (g:aN O n e gd=true:=by rfl):Nw R d As fn kd n e ds O i aa k cs:=
 C.gen a g λH st=>by
  obtain⟨pad,hs,_⟩:=hr.at st hj;have m:ev n e x=.slice (some ⟨s.b,0,none⟩) l.length s.cap:=by rw[hx];unfold ay.v;have h1:s.a=some ⟨s.b,0,none⟩:=congrArg ay.a hs;have o:s.len=l.length:=congrArg ay.len hs;rw[h1,o]
  unfold execOp;simp only[m,b,Instr.indexAt,asIntOf];refine ae<|ae<|aA ?_;refine ae<|dN c.h B H d _ ?_;refine ae<|aA ?_;refine ae<|dN c.h B H d _ ?_;simp only;rw[aJ ai];refine ae<|ja B H d _<|aA ?_;rw[iI];refine⟨As,st,?_⟩;have:0+(j:Int).toNat*z=j*z:=by simp
  rw[this];exact h
theorem ab.yM(C:ab P ao B R)[a:jf f z][Ag P tt false](b:bk O i=some ⟨some t,.load tt x,ty,pos,af,gd⟩)(h:Nx R d As fn kd n e ds O aa k cs t v)
  (hx:ev n e x=.pointer (some ⟨s.b,j*z+o,none⟩):=by rfl) (hr:ez f el s l As:=by first|(apply ez.own;exact Fo.au;done)|(apply ez.bI;exact Fo.au;assumption)|(apply ez.ext;assumption;apply ez.own;exact Fo.au;done)|(apply ez.ext;assumption;apply ez.bI;exact Fo.au;assumption)) (hj:j<l.length:=by omega) (hv:(f l[j])[o]? =some v:=by rfl) (hz:o<z:=by decide) (hs:B.sh el (j*z+o)=false:=by rfl) (c:aN O n e gd=true:=by rfl):Nw R d As fn kd n e ds O i aa k cs:=
 C.gen b c λH st=>by obtain⟨pad,_,g⟩:=hr.at st hj;unfold execOp;simp only[hx,Instr.loadAt,Instr.sureAddr];exact ae<|ae<|aA<|jB g ((R8 a.len hj hz rfl).trans hv) hs ⟨As,st,h⟩
theorem ab.du(C:ab P ao B R)[c:jf f z][Ag P tt false](a:bk O i=some ⟨some t,.load tt x,ty,pos,af,gd⟩)(h:Nx R d As fn kd n e ds O aa k cs t v)
  (hx:ev n e x=.pointer (some ⟨s.b,j*z,none⟩):=by rfl) (hr:ez f el s l As:=by first|(apply ez.own;exact Fo.au;done)|(apply ez.bI;exact Fo.au;assumption)|(apply ez.ext;assumption;apply ez.own;exact Fo.au;done)|(apply ez.ext;assumption;apply ez.bI;exact Fo.au;assumption)) (hj:j<l.length:=by omega) (hv:(f l[j])[0]? =some v:=by rfl) (hz:0<z:=by decide) (hs:B.sh el (j*z+0)=false:=by rfl) (b:aN O n e gd=true:=by rfl):Nw R d As fn kd n e ds O i aa k cs:=
 C.yM (o:=0) a h hx hr hj hv hz hs b
theorem ab.zx(C:ab P ao B R)[a:jf f z][Ag P tt true][Cz P tt z](b:bk O i=some ⟨some t,.load tt x,ty,pos,af,gd⟩)(h:∀ hj:j<l.length,Nx R d As fn kd n e ds O aa k cs t<|.agg (f l[j]).toArray)
  (hx:ev n e x=.pointer (some ⟨s.b,j*z,none⟩):=by rfl) (hr:ez f el s l As:=by first|(apply ez.own;exact Fo.au;done)|(apply ez.bI;exact Fo.au;assumption)|(apply ez.ext;assumption;apply ez.own;exact Fo.au;done)|(apply ez.ext;assumption;apply ez.bI;exact Fo.au;assumption)) (hj:j<l.length:=by omega) (hs:∀ q,B.sh el q=false:=by intro q;rfl) (c:aN O n e gd=true:=by rfl):Nw R d As fn kd n e ds O i aa k cs:=
 C.gen b c λH st=>by
  obtain⟨pad,_,g⟩:=hr.at st hj;unfold execOp;simp only[hx,Instr.loadAt,Instr.sureAddr];refine ae<|ae<|aA<|qS g ?_ hs ?_
  .rw[jR a.len];have:=GL z (show j+1<=l.length by omega);rw[rS]at this;omega
  .rw[J5 a.len hj rfl];exact⟨As,st,h hj⟩
theorem ab.aan(C:ab P ao B R)(hj:j<l.length)[c:jf f z][Ag P tt true][Cz P tt z](a:bk O i=some ⟨some t,.load tt x,ty,pos,af,gd⟩)(h:Nx R d As fn kd n e ds O aa k cs t (.agg (f l[j]).toArray))
  (hx:ev n e x=.pointer (some ⟨s.b,j*z,none⟩):=by rfl) (hr:ez f el s l As:=by first|(apply ez.own;exact Fo.au;done)|(apply ez.bI;exact Fo.au;assumption)|(apply ez.ext;assumption;apply ez.own;exact Fo.au;done)|(apply ez.ext;assumption;apply ez.bI;exact Fo.au;assumption)) (hs:∀ q,B.sh el q=false:=by intro q;rfl) (b:aN O n e gd=true:=by rfl):Nw R d As fn kd n e ds O i aa k cs:=C.zx a (λ_=>h) hx hr hj hs b
end
end
end
section
open Go.Conc
variable{P:bT}{ao:Bool}{B:lM}{R:Nat->aO->Array Obj->Prop}{d:Nat}{As aT Bs L F:List HP}
variable{fn:bN}{kd:Kd}{n:Nat}{e:Nat->Value}{ds:List eK}{k:List Item}{cs:List Frame}
variable{O:Array Oper}{i:Nat}{aa:List Nat}{dst:Option Nat}{t:Nat}{ty:aP}{pos:String}{af:Array Edge}{gd:Option (Nat×Bool)}{x y w:dp}{v u:Value}{b off:Nat}{c:Array Value}{el tt t2 t3:aP}{kk:IntKind}
theorem ab.cN(C:ab P ao B R){c:Code}(L:X->List (Nat×Value))(I:X->List HP)(Ok:X->Prop)(m:X->Nat)(x0:X)(f:kM e (L x0))(b:Ok x0)
  (step:∀ x e,Ok x->(∀ y a aT,Ok y->m y<m x->kM a (L y)->dg aT (I y)->At R d aT (gr fn kd n a ds (.inLoop (cB c)::k) cs))->At R d (I x) (gr fn kd n (sV e<|L x) ds (.code (cB c):: .inLoop (cB c)::k) cs))
  (hI:dg As (I x0):=by exact dg.au) (hc:ck c=.loop:=by rfl):At R d As (gr fn kd n e ds (.code c::k) cs):=
 At.mN hI (C.aed L I Ok m x0 f rfl b (λx e b g=>step x e b λy a aT h i j l=>At.mN l<|g y a j h i) hc)
theorem again{L:X->List (Nat×Value)}{I:X->List HP}{Ok:X->Prop}{m:X->Nat}{x0:X}{a:Code}(c:∀ y b aT,Ok y->m y<m x0->kM b (L y)->dg aT (I y)->At R d aT (gr fn kd n b ds (.inLoop a::k) cs))(y:X)(f:Ok y)(hm:m y<m x0)
  (g:kM e (L y):=by repeat(first|exact trivial|refine And.intro rfl ?_)) (hr:dg As (I y):=by exact dg.au):At R d As (gr fn kd n e ds (.inLoop a::k) cs):=c y e As f hm g hr
theorem aiu{G:Prop}(φ:Prop)(L:List (Nat×Value))(c:List HP)(h1:(∀ a aT,φ->kM a L->dg aT c->At R d aT (gr fn kd n a ds k1 cs))->G)(f:φ->∀ e,At R d c<|gr fn kd n (sV e L) ds k1 cs):G:=
 h1 λa aT b g h=>At.mN h (by rw[<- kX g];exact f b a)
theorem join{L:List (Nat×Value)}{b:List HP}(h:∀ c aT,φ->kM c L->dg aT b->At R d aT (gr fn kd n c ds k1 cs))(a:φ)
  (f:kM e L:=by repeat(first|exact trivial|refine And.intro rfl ?_)) (hr:dg As b:=by exact dg.au):At R d As (gr fn kd n e ds k1 cs):=h e As a f hr
theorem m8{G:Prop}(φ:X->Prop)(L:X->List (Nat×Value))(c:X->List HP)(h1:(∀ x a aT,φ x->kM a (L x)->dg aT (c x)->At R d aT (gr fn kd n a ds k1 cs))->G)(f:∀ x,φ x->∀ e,At R d (c x)<|gr fn kd n (sV e<|L x) ds k1 cs):G:=
 h1 λx a aT b g h=>At.mN h (by rw[<- kX g];exact f x b a)
theorem bU{φ:X->Prop}{L:X->List (Nat×Value)}{b:X->List HP}(h:∀ x c aT,φ x->kM c (L x)->dg aT (b x)->At R d aT (gr fn kd n c ds k1 cs))(x:X)(a:φ x)
  (f:kM e (L x):=by repeat(first|exact trivial|refine And.intro rfl ?_)) (hr:dg As (b x):=by exact dg.au):At R d As (gr fn kd n e ds k1 cs):=h x e As a f hr
theorem ab.cG(C:ab P ao B R){cc:Code}{n':Nat}[b:Body P fn fu cc n']{c:Frame}{x:Code}{Q:Value->List HP->Prop}(a:zr kd c)(f:∀ v aT,Q v aT->At R d (aT++F) (after kd c cs v))(q:Q v aT)
  (hv:vy fu n e=some v0:=by rfl) (g:v0=v:=by first|((conv=>{lhs;whnf});done)|rfl) (hr:dg As (aT++F):=by exact dg.au) (hx:ck x=.ret:=by rfl):At R d As (gr fn kd n e [] (.code x::k)<|c::cs):=
 C.R3 a (At.mN hr<|f v aT q) (g▸hv) hx
theorem ab.eY(C:ab P ao B R){cc:Code}{n':Nat}[b:Body P fn fu cc n']{c:Frame}{Q:Value->List HP->Prop}(a:zr kd c)(f:∀ v aT,Q v aT->At R d (aT++F) (after kd c cs v))(q:Q v aT)
  (hv:vy fu n e=some v0:=by rfl) (g:v0=v:=by first|((conv=>{lhs;whnf});done)|rfl) (hr:dg As (aT++F):=by exact dg.au):At R d As (gr fn kd n e [] []<|c::cs):=
 C.aef a (At.mN hr<|f v aT q) (g▸hv)
def DQ(pl:List (Nat×Nat)):Array Value->List (Nat×Value)->Array Value
 |c,[]=>c
 |c,(i,v)::l=>DQ pl (wr c (pl.getD i (0,0)).1 v.cells.toList) l
def Fs(pl:List (Nat×Nat))(m:Nat):List (Nat×Value)->Bool
 |[]=>true
 |(i,v)::l=>(match pl[i]? with|some (o,z)=>v.cells.size==z&&decide (o+z<=m)|none=>false)&&Fs pl m l
theorem fill_eq(pl:List (Nat×Nat)):∀ (l:List (Nat×Value)) (c:Array Value),Fs pl c.size l=true->Instr.fill (pl.toArray[·]?) c l=some (DQ pl c l)
 |[],c,_=>rfl
 |(i,v)::l,c,h=>by
  unfold Fs at h;simp only[jK]at h;obtain⟨h1,a⟩:=h;unfold Instr.fill DQ;simp only[JP];cases hp:pl[i]? with
  |none=>rw[hp]at h1;cases h1
  |some b=>
   obtain⟨o,z⟩:=b;rw[hp]at h1;simp only[jK,uU,rz]at h1;have d:pl.getD i (0,0)=(o,z):=by simp[List.getD,hp]
   simp only[d];have e:¬ ((decide (v.cells.size≠z)||decide (o+v.cells.size>c.size))=true):=by rw[h1.1];have:=h1.2;simp;omega
   rw[ax e];have f:Array.foldl (λcs (x:Value×Nat)=>match x with|(c,j)=>cs.setIfInBounds (o+j) c) c v.cells.zipIdx=wr c o v.cells.toList:=by rw[<- ZR,ZS];exact Fi o v.cells.toList 0 _
   rw[f];have key:=fill_eq pl l (wr c o v.cells.toList) (by rw[zR];exact a);simp only[JP]at key;exact key
inductive PV(n:Nat)(e:Nat->Value):List (Nat×dp)->List (Nat×Value)->Prop
 |nil:PV n e [] []
 |cons {i:Nat} {x:dp} {v:Value} {l:List (Nat×dp)} {m:List (Nat×Value)} (h:ev n e x=v):PV n e l m->PV n e ((i,x)::l) ((i,v)::m)
theorem PV.eq{l:List (Nat×dp)}{m:List (Nat×Value)}(p:PV n e l m):l.map (λ(i,x)=>(i,ev n e x))=m:=by
 induction p with
 |nil=>rfl
 |cons h _ a=>simp[h,a]
theorem ab.bd(C:ab P ao B R){a xs:Array Value}{parts:Array (Nat×dp)}{pl:List (Nat×Nat)}{pv:List (Nat×Value)}[m:Zv P tt (.agg a)][b:Bd P tt pl](c:bk O i=some ⟨some t,.build tt parts,ty,pos,af,gd⟩)(h:Nx R d As fn kd n e ds O aa k cs t (.agg xs))
  (hp:PV n e parts.toList pv:=by repeat(first|exact PV.nil|(apply PV.cons;focus (conv=>{lhs;whnf})))) (f:Fs pl a.size pv=true:=by rfl)
  (hx:DQ pl a pv=xs:=by first|(simp only[DQ,wr,Value.cells,List.getD_cons_zero,List.getD_cons_succ,VQ,lR,Nat.reduceAdd,Aj,Ak,uK];done)|(simp only[DQ,wr,Value.cells,List.getD_cons_zero,List.getD_cons_succ,VQ,lR,Nat.reduceAdd,Aj,Ak,uK];rfl)|rfl) (g:aN O n e gd=true:=by rfl):Nw R d As fn kd n e ds O i aa k cs:=
 C.val c g (λB H d Q j=>by obtain⟨o,h1,l⟩:=b.h;unfold execOp;simp only[Instr.build];refine ae<|ae<|oR B H d _<|ae<|dN h1 B H d _ ?_;simp only[Value.cells];rw[Q1];refine ae ?_;rw[Q2];refine ae<|l.pu B H d _<|aA ?_;have:=fill_eq pl pv a f;rw[sx,hp.eq,this,hx];exact j) h
theorem ab.CZ(C:ab P ao B R)[cE:El P tt el][Cz P el z][Zv P el zv](a:bk O i=some ⟨some t,.buildSlice tt 1 #[(0,x)],ty,pos,af,gd⟩)
  (h:∀ b,Nx R d (dq b (.cells c el (0,0))::As) fn kd n e ds O aa k cs t<|.slice (some ⟨b,0,none⟩) 1 1)
  (hx:ev n e x=v:=by conv=>{lhs;whnf}) (hc:v.cells=c:=by first|(simp only[Value.cells];done)|(simp only[Value.cells];rfl)|rfl) (hv:v.cells.size=z:=by rfl) (f:1*z≠0:=by decide) (hm:1*z<=16777216:=by decide) (g:aN O n e gd=true:=by rfl):Nw R d As fn kd n e ds O i aa k cs:=by
 subst hc;refine C.bs (vs:=[v]) a (λb=>?_) (by simp[hx]) rfl (by simpa using hv) f hm g;have e1:([v].flatMap (·.cells.toList)).toArray=v.cells:=by simp
 rw[e1];exact h b
variable{α:Type}{f:α->List Value}{z:Nat}{s:ay}{l m:List α}{j o:Nat}
theorem ab.YR(C:ab P ao B R)[a:jf f z][cE:El P tt el][c:El P t3 Sa][Cz P el z][cB:Bz P el bz][Zv P el zv](m:List α)
  (g:bk O i=some ⟨some t,.call ⟨.builtin .append,#[x,y],#[tt,t3]⟩,ty,pos,af,gd⟩) (h:∀ s':ay,Nx R d (bK f z el s' (l++m)::L) fn kd n e ds O aa k cs t s'.v)
  (hx:ev n e x=s.v:=by rfl) (o:ev n e y=yv:=by rfl) (hf:Fo (bK f z el s l) As L:=by exact Fo.au) (hsrc:∀ H,Sat As (hp H)->oT B H z m.length yv (flat f m))
  (hsz:(l.length+m.length)*bz<=140737488355328:=by(try simp only[nN,CM]);omega) (p:zv.cells.size=z:=by rfl) (q:bz≠0:=by decide) (r:∀ b j,B.rd b el j=false/\B.sh el j=false:=by intro _ j;exact⟨rfl,rfl⟩) (u:aN O n e gd=true:=by rfl):Nw R d As fn kd n e ds O i aa k cs:=
 At.fo hf (C.ap g a.len a.one (λH s'=>hsrc H<|s'.perm hf.perm.symm) (λs' _=>h s') hsz hx o p q r u)
theorem At.Wa{B:lM}{b2:Nat}{a:aP}{c:Array Value}{b:Nat}(hh:Has b2 (.cells c a (0,0)) As)(st:Sat As (hp H))(hs:∀ j,B.sh a j=false){xs:List Value}(hc:c=xs.toArray)(d:b*z=xs.length):oT B H z b (.slice (some ⟨b2,0,none⟩) b b) xs:=by subst hc;exact .inr ⟨b2,0,b,_,_,rfl,hh.get st,by simp[d],by rw[d,lR];simp,hs⟩
theorem ab.DR(C:ab P ao B R){b2:Nat}{c:aP}{g:Array Value}[m:jf f z][cE:El P tt el][o:El P t3 Sa][Cz P el z][cB:Bz P el bz][Zv P el zv](a:α)
  (p:bk O i=some ⟨some t,.call ⟨.builtin .append,#[x,y],#[tt,t3]⟩,ty,pos,af,gd⟩) (h:∀ s':ay,Nx R d (bK f z el s' (l++[a])::L) fn kd n e ds O aa k cs t s'.v)
  (hx:ev n e x=s.v:=by rfl) (q:ev n e y=.slice (some ⟨b2,0,none⟩) 1 1:=by rfl) (hf:Fo (bK f z el s l) As L:=by exact Fo.au) (hh:Has b2 (.cells g c (0,0)) As:=by exact Has.au) (hc:g=(f a).toArray:=by rfl)
  (hsz:(l.length+1)*bz<=140737488355328:=by omega) (hs:∀ j,B.sh c j=false:=by intro j;rfl) (r:zv.cells.size=z:=by rfl) (u:bz≠0:=by decide) (v:∀ b j,B.rd b el j=false/\B.sh el j=false:=by intro _ j;exact⟨rfl,rfl⟩) (w:aN O n e gd=true:=by rfl):Nw R d As fn kd n e ds O i aa k cs:=
 C.YR (Sa:=Sa) [a] p h hx q hf (λH st=>At.Wa hh st hs (xs:=flat f [a]) (by rw[hc];simp[flat])<|by simp[flat,m.len]) hsz r u v w
theorem Hd{α:Type}{f:α->List Value}{z:Nat}{el:aP}{s:ay}{l:List α}(hl:0<l.length)(h:HL)(x:bK f z el s l h):s.a=some ⟨s.b,0,none⟩/\s.len=l.length/\l.length<=s.cap:=by
 rcases x with⟨_,rfl⟩|⟨b,pad,e,_,a,_⟩
 .simp at hl
 .have c:s.b=b:=by rw[e];rfl
  exact⟨by rw[c];exact congrArg ay.a e,congrArg ay.len e,a⟩
theorem At.aV(f:α->List Value)(z:Nat)(el:aP)(h:At R d (bK f z el Go.Sl.aV []::As) g):At R d As g:=λH s=>by
 have e:less (hp H) (λ_=>none)=hp H:=by funext b;simp[less]
 refine h H ⟨λ_=>none,.inl ⟨rfl,rfl⟩,λ_ _ x=>(by cases x),?_⟩;rw[e];exact s
theorem At.He(h:At R d (all []::As) g):At R d As g:=λH s=>h H<|Sat.je (l:=[]) s
theorem At.Si{I:HL}{L2:List HP}(hf:Fo (bK f z el s l) As L)(hi:Fo (bI I) L L2)(h:∀ I',Sub I I'->gg I' f el s l->At R d (bI I'::L2) g):At R d As g:=by
 refine At.fo hf λH st=>?_;obtain⟨i,x,j,a⟩:=st;rcases x with⟨rfl,rfl⟩|⟨b,pad,e,_,_,k⟩
 .exact h I (Sub.refl I) (.inl ⟨rfl,rfl⟩) H<|(a.mono oe).perm hi.perm
 .have m:Sat (dq b (.cells (iv f l pad) el (0,0))::bI I::L2) (hp H):=⟨i,k,j,a.perm hi.perm⟩;have c:s.b=b:=by rw[e];rfl
  refine At.freeze (λI' h1 n=>h I' h1<|.inr ⟨pad,by rw[c];exact e,by rw[c];exact n⟩) H m
theorem At.own{g:aO}(s:ay)(pad:List Value)(hs:s=⟨some ⟨b,0,none⟩,l.length,s.cap⟩)(hl:l.length*z+pad.length=s.cap*z)(a:l.length<=s.cap)(hf:Fo (dq b<|.cells (iv f l pad) el (0,0)) As L)(h:At R d (bK f z el s l::L) g):At R d As g:=
 At.turn hf (λ_ c=>.inr ⟨b,pad,hs,hl,a,c⟩) h
theorem ab.YS(C:ab P ao B R)[m:jf f z][Cz P tt 1](a:α)(q:bk O i=some ⟨none,.store tt x y,ty,pos,af,gd⟩)(h:At R d (bK f z el s (l.set j a)::L) (gr fn kd n e ds (.inRegion O aa::k) cs))
  (hx:ev n e x=.pointer (some ⟨s.b,j*z+o,none⟩):=by rfl) (r:ev n e y=v:=by conv=>{lhs;whnf}) (hf:Fo (bK f z el s l) As L:=by exact Fo.au) (hj:j<l.length:=by omega) (ha:f a=(f l[j]).set o v:=by rfl) (hz:o<z:=by decide) (p:∀ b j,B.rd b el j=false/\B.sh el j=false:=by intro _ j;exact⟨rfl,rfl⟩) (hv:gJ v=true:=by rfl) (t:aN O n e gd=true:=by rfl):Nw R d As fn kd n e ds O i aa k cs:=by
 refine At.fo hf λH st=>?_;obtain⟨u,w,A,D⟩:=st;rcases w with⟨rfl,rfl⟩|⟨b,pad,e1,h1,E,F⟩
 .simp at hj
 .have c:s.b=b:=by rw[e1];rfl
  rw[c]at hx;have I:Sat (dq b (.cells (iv f l pad) el (0,0))::L) (hp H):=⟨u,F,A,D⟩;refine C.st q ?_ hx r hv .head rfl ?_ (p _ _).1 (p 0 _).2 t H I
  .rw[N6 m.len hj hz rfl a ha];refine λH st=>h H (st.imp λhl g=>.inr ⟨b,pad,?_,?_,?_,g⟩)
   .rw[eF];exact e1
   .rw[eF];exact h1
   .rw[eF];exact E
  .rw[jR m.len];have:=GL z (show j+1<=l.length by omega);rw[rS]at this;omega
theorem ab.j5(C:ab P ao B R)[q:jf f z][Cz P tt 1](a:α)(c:bk O i=some ⟨none,.store tt x y,ty,pos,af,gd⟩)(h:At R d (bK f z el s (l.set j a)::L) (gr fn kd n e ds (.inRegion O aa::k) cs))
  (hx:ev n e x=.pointer (some ⟨s.b,j*z,none⟩):=by rfl) (g:ev n e y=v:=by conv=>{lhs;whnf}) (hf:Fo (bK f z el s l) As L:=by exact Fo.au) (hj:j<l.length:=by omega) (ha:f a=(f l[j]).set 0 v:=by rfl) (hz:0<z:=by decide) (m:∀ b j,B.rd b el j=false/\B.sh el j=false:=by intro _ j;exact⟨rfl,rfl⟩) (hv:gJ v=true:=by rfl) (p:aN O n e gd=true:=by rfl):Nw R d As fn kd n e ds O i aa k cs:=
 C.YS (o:=0) a c h hx g hf hj ha hz m hv p
theorem ab.aao(C:ab P ao B R)[c:jf f z][Cz P tt z]{xs:Array Value}(a:α)(p:bk O i=some ⟨none,.store tt x y,ty,pos,af,gd⟩)(h:At R d (bK f z el s (l.set j a)::L) (gr fn kd n e ds (.inRegion O aa::k) cs))
  (hx:ev n e x=.pointer (some ⟨s.b,j*z,none⟩):=by rfl) (q:ev n e y=.agg xs:=by rfl) (hf:Fo (bK f z el s l) As L:=by exact Fo.au) (hj:j<l.length:=by omega) (ha:(f a).toArray=xs:=by rfl) (o:∀ b j,B.rd b el j=false/\B.sh el j=false:=by intro _ j;exact⟨rfl,rfl⟩) (r:aN O n e gd=true:=by rfl):Nw R d As fn kd n e ds O i aa k cs:=by
 refine At.fo hf λH st=>?_;obtain⟨t,u,w,A⟩:=st;rcases u with⟨rfl,rfl⟩|⟨b,pad,e1,h1,D,E⟩
 .simp at hj
 .have g:s.b=b:=by rw[e1];rfl
  rw[g]at hx;subst ha;have F:Sat (dq b (.cells (iv f l pad) el (0,0))::L) (hp H):=⟨t,E,w,A⟩;refine C.vz p ?_ hx q (λv I=>c.one a v<|by simpa using I) (by simp[c.len]) .head rfl ?_ (λj=>(o _ j).1) (λj=>(o 0 j).2) r H F
  .rw[R9 c.len hj rfl a];refine λH st=>h H (st.imp λhl m=>.inr ⟨b,pad,?_,?_,?_,m⟩)
   .rw[eF];exact e1
   .rw[eF];exact h1
   .rw[eF];exact D
  .rw[jR c.len];have:=GL z (show j+1<=l.length by omega);rw[rS]at this;omega
variable{g:aO}
theorem AQ{l m As:List HP}(p:l.Perm m){h:HL}(s:Sat (all l::As) h):Sat (all m::As) h:=(s.flat.perm<|p.append_right As).je
theorem wS{l:List X}{i:Nat}(hi:i<l.length):l.Perm (l[i]::l.eraseIdx i):=by
 rw[Q3]
 conv=>lhs;rw[<- wj i l,sA hi]
 exact QZ
theorem Wb{l:List X}{i:Nat}(hi:i<l.length)(u:X):(l.set i u).Perm (u::l.eraseIdx i):=by rw[Q3,ZO,aJ hi];exact QZ
variable{f:α->HP}
theorem Ft(hi:i<l.length)(hf:Fo (all<|l.map f) As L)(h:At R d (f l[i]::all ((l.eraseIdx i).map f)::L) g):At R d As g:=
 At.fo hf λH s=>h H<|Sat.under (λ_ s=>Sat.je s)<|Sat.flat (l:=f l[i]::(l.eraseIdx i).map f)<|AQ ((wS hi).map f) s
theorem Sj(hi:i<l.length)(u:α)(hr:fK [f u,all<|(l.eraseIdx i).map f] As L)(h:At R d (all ((l.set i u).map f)::L) g):At R d As g:=
 At.perm hr.perm λH s=>h H<|AQ ((Wb hi u).symm.map f)<|Sat.je (l:=f u::(l.eraseIdx i).map f)<|Sat.under (λ_ s=>Sat.flat s) s
theorem zU(u:α)(hr:fK [f u,all<|l.map f] As L)(h:At R d (all ((l++[u]).map f)::L) g):At R d As g:=
 At.perm hr.perm λH s=>h H<|AQ (by have:=(Yf u l).symm.map f;exact this)<|Sat.je (l:=f u::l.map f)<|Sat.under (λ_ s=>Sat.flat s) s
end
structure bO where
 w:Bool
 k:Int
 v:Int
structure MsgR where
 kind:Int
 aX:Int
 to:Int
 tx:Int
 yes:Bool
 ops:List bO
 reads:List Int
structure RecR where
 kind:Int
 tx:Int
 yes:Bool
 home:Int
 ops:List bO
 reads:List Int
structure VoteR where
 aX:Int
 reads:List Int
structure dS where
 tx:Int
 ops:List bO
 bq:List VoteR
 dec:Bool
 yes:Bool
 cf:List Int
structure dU where
 tm:Int
 again:Bool
 tx:Int
structure kh where
 key:Int
 tx:Int
structure ShR where
 me:Int
 n:Int
 up:Bool
 log:List RecR
 aE:Int
 bX:List Int
 aQ:List kh
 under:List dS
 timers:List dU
 waits:List MsgR
 clock:Int
 out:List MsgR
def atR(key n:Int):Int:=(key-97).tmod n
def br(O:List bO)(s n:Int):List bO:=O.filter λo=>atR o.k n==s
def cu(O:List bO)(s n:Int):Bool:= !(br O s n).isEmpty
def isRec(kind tx:Int)(r:RecR):Bool:=r.kind==kind&&r.tx==tx
def findD(log:List RecR)(kind tx:Int):Nat->Option Nat
 |0=>none
 |i+1=>if(log[i]?).any (isRec kind tx)then some i else findD log kind tx i
def aM(log:List RecR)(kind tx:Int):Option Nat:=findD log kind tx log.length
def aL(log:List RecR)(tx:Int):Option Nat:=if(aM log 3 tx).isSome then none else aM log 1 tx
def bP(l:List dS)(tx:Int):Option Nat:=l.findIdx? λu=>u.tx==tx
def ee(s:ShR)(m:MsgR):ShR:={s with out:=s.out++[{m with aX:=s.me}]}
def fb(s:ShR)(m:MsgR):ShR:={s with waits:=s.waits++[{m with aX:=s.me}]}
def bA:MsgR:=⟨0,0,0,0,false,[],[]⟩
def dz:RecR:=⟨0,0,false,0,[],[]⟩
def upto(n:Int):List Int:=(List.range n.toNat).map Int.ofNat
def gO(s:ShR)(O:List bO)(f:ShR->Int->List bO->ShR):ShR:=(upto s.n).foldl (λz k=>if(br O k s.n).isEmpty then z else f z k (br O k s.n)) s
def gZ(s:ShR)(m:MsgR):ShR:=
 match aM s.log 2 m.tx with
 |some d=>if(d:Int)<s.aE then ee s {bA with kind:=7,to:= -1,tx:=m.tx,yes:=(s.log[d]?.getD dz).yes,reads:=(s.log[d]?.getD dz).reads}else s
 |none=>
  if(bP s.under m.tx).isSome then s else
  let s1:=gO {s with under:=s.under++[⟨m.tx,m.ops,[],false,false,[]⟩]} m.ops λz k p=>ee z {bA with kind:=2,to:=k,tx:=m.tx,ops:=p}
  {s1 with timers:=s1.timers++[⟨s1.clock+4,true,m.tx⟩]}
def bJ(u:dS)(k:Int):Option VoteR:=u.bq.find? λv=>v.aX==k
def il(u:dS)(n:Int):List bO->(Int->Nat)->List Int
 |[],_=>[]
 |o::l,used=>
  if o.w then il u n l used else
  let k:=atR o.k n
  (((bJ u k).map (·.reads)).getD [])[used k]?.getD 0::il u n l (λj=>if j=k then used k+1 else used j)
def jU(u:dS)(n:Int):List Int:=il u n u.ops λ_=>0
def gP(n:Int)(O:List bO)(p:Int->Bool):Bool:=(upto n).all λk=> !cu O k n||p k
def kO(s:ShR)(m:MsgR):ShR:=
 match bP s.under m.tx with
 |none=>s
 |some i=>
  match s.under[i]? with
  |none=>s
  |some u=>
   if u.dec then s else
   let u1:=if m.yes&& !(bJ u m.aX).isSome then{u with bq:=u.bq++[⟨m.aX,m.reads⟩]}else u
   if m.yes&& !gP s.n u1.ops (λk=>(bJ u1 k).isSome)then{s with under:=s.under.set i u1}else
   let u2:={u1 with dec:=true,yes:=m.yes}
   let rd:=if m.yes then jU u2 s.n else[]
   let s1:={s with under:=s.under.set i u2,log:=s.log++[{dz with kind:=2,tx:=m.tx,yes:=m.yes,reads:=rd}]}
   let s2:=gO s1 u2.ops λz k _=>fb z {bA with kind:=4,to:=k,tx:=m.tx,yes:=m.yes}
   fb s2 {bA with kind:=7,to:= -1,tx:=m.tx,yes:=m.yes,reads:=rd}
def qj(s:ShR)(m:MsgR):ShR:=
 match bP s.under m.tx with
 |none=>s
 |some i=>
  match s.under[i]? with
  |none=>s
  |some u=>
   if !u.dec then s else
   let u1:={u with cf:=u.cf++[m.aX]}
   if gP s.n u1.ops (λk=>u1.cf.contains k)then{s with under:=s.under.eraseIdx i}else{s with under:=s.under.set i u1}
def pE(s:ShR)(m:MsgR):ShR:=
 match aM s.log 2 m.tx with
 |some d=>if(d:Int)<s.aE then ee s {bA with kind:=4,to:=m.aX,tx:=m.tx,yes:=(s.log[d]?.getD dz).yes}else s
 |none=>
  if(bP s.under m.tx).isSome then s else
  fb {s with log:=s.log++[{dz with kind:=2,tx:=m.tx}]} {bA with kind:=4,to:=m.aX,tx:=m.tx}
def zV(l:List kh)(key:Int):Int:=((l.find? λh=>h.key==key).map (·.tx)).getD<|-1
def fH(bX:List Int)(O:List bO):List Int:=(O.filter λo=> !o.w).map λo=>bX[(o.k-97).toNat]?.getD 0
def u6(l:List kh)(tx:Int)(O:List bO):List kh:=l++O.map λo=>⟨o.k,tx⟩
def yO(l:List kh)(tx:Int):List kh:=l.filter λh=>h.tx != tx
def cS(bX:List Int)(O:List bO):List Int:=O.foldl (λv o=>if o.w then v.set (o.k-97).toNat o.v else v) bX
def eN(s:ShR)(m:MsgR):ShR:=
 let no:={bA with kind:=3,to:=m.aX,tx:=m.tx}
 let yes:={no with yes:=true,reads:=fH s.bX m.ops}
 match aL s.log m.tx with
 |some r=>if(r:Int)<s.aE then ee s {yes with reads:=fH s.bX (s.log[r]?.getD dz).ops}else s
 |none=>
  match aM s.log 3 m.tx with
  |some d=>if(s.log[d]?.getD dz).yes then s else ee s no
  |none=>
   if m.ops.any (λo=>decide (zV s.aQ o.k>=0))then ee s no else
   let s1:=fb {s with aQ:=u6 s.aQ m.tx m.ops,log:=s.log++[{dz with kind:=1,tx:=m.tx,home:=m.aX,ops:=m.ops}]} yes
   {s1 with timers:=s1.timers++[⟨s1.clock+3,false,m.tx⟩]}
def fY(s:ShR)(m:MsgR):ShR:=
 match aL s.log m.tx with
 |some r=>
  let s1:=if m.yes then{s with bX:=cS s.bX (s.log[r]?.getD dz).ops}else s
  fb {s1 with aQ:=yO s.aQ m.tx,log:=s.log++[{dz with kind:=3,tx:=m.tx,yes:=m.yes}]} {bA with kind:=5,to:=m.aX,tx:=m.tx}
 |none=>
  match aM s.log 3 m.tx with
  |some d=>if(d:Int)<s.aE then ee s {bA with kind:=5,to:=m.aX,tx:=m.tx}else s
  |none=>if m.yes then s else fb {s with log:=s.log++[{dz with kind:=3,tx:=m.tx,yes:=m.yes}]} {bA with kind:=5,to:=m.aX,tx:=m.tx}
def cm(s:ShR)(m:MsgR):ShR:=
 if m.kind=1 then gZ s m else if m.kind=2 then eN s m else if m.kind=3 then kO s m else if m.kind=4 then fY s m else if m.kind=5 then qj s m else if m.kind=6 then pE s m else s
def kH(s:ShR):ShR:={s with aE:=s.log.length,out:=s.out++s.waits,waits:=[]}
def mD(clock:Int):List dU->Nat->Option (Nat×dU)->Option (Nat×dU)
 |[],_,k=>k
 |t::l,i,k=>mD clock l (i+1) (if decide (t.tm<=clock)&&(match k with|none=>true|some (_,u)=>decide (t.tm<u.tm))then some (i,t)else k)
def lF(s:ShR)(t:dU):ShR:=
 if !t.again then
  match aL s.log t.tx with
  |some r=>
   let s1:=ee s {bA with kind:=6,to:=(s.log[r]?.getD dz).home,tx:=t.tx}
   {s1 with timers:=s1.timers++[⟨s1.clock+3,false,t.tx⟩]}
  |none=>s
 else
  match bP s.under t.tx with
  |none=>s
  |some i=>
   match s.under[i]? with
   |none=>s
   |some u=>
    let aE:=match aM s.log 2 t.tx with|some d=>decide ((d:Int)<s.aE)|none=>decide (-1<s.aE)
    let s1:=gO s u.ops λz k p=>
     if !u.dec&& !(bJ u k).isSome then ee z {bA with kind:=2,to:=k,tx:=t.tx,ops:=p}
     else if u.dec&&aE&& !u.cf.contains k then ee z {bA with kind:=4,to:=k,tx:=t.tx,yes:=u.yes}
     else z
    {s1 with timers:=s1.timers++[⟨s1.clock+4,true,t.tx⟩]}
def eG:Nat->ShR->ShR
 |0,s=>s
 |f+1,s=>
  match mD s.clock s.timers 0 none with
  |none=>s
  |some (k,t)=>eG f<|lF {s with timers:=s.timers.eraseIdx k} t
def xW(s:ShR):Nat:=(s.timers.filter λt=>t.tm<=s.clock).length
def dv(s:ShR):ShR:=let s1:={s with clock:=s.clock+1};eG (xW s1+1) s1
def bQ:List Int:=List.replicate 26 0
def bY(s:ShR):ShR:={s with bX:=bQ,aQ:=[],under:=[],timers:=[],waits:=[],clock:=0}
def gb(s:ShR)(keep:Int):ShR:=
 let k:=if keep<0 then 0 else keep
 let n:=(s.log.length:Int)-s.aE
 let n:=if k<n then k else n
 bY {s with up:=false,aE:=s.aE+n,log:=s.log.take (s.aE+n).toNat}
def AR(log:List RecR)(tx:Int)(i:Nat):Option Nat:=findD log 1 tx i
def de(log:List RecR):Nat->ShR->ShR
 |0,s=>s
 |i+1,s=>
  let s:=de log i s
  match log[i]? with
  |none=>s
  |some r=>
   if r.kind=1 then{s with aQ:=u6 s.aQ r.tx r.ops}
   else if r.kind=3 then
    let s1:=match AR log r.tx i with|some p=>if r.yes then{s with bX:=cS s.bX (log[p]?.getD dz).ops}else s|none=>s
    {s1 with aQ:=yO s1.aQ r.tx}
   else s
def iw(log:List RecR):List dU:=((upto 60).filter λtx=>(aL log tx).isSome).map λtx=>⟨3,false,tx⟩
def cD(s:ShR):ShR:=
 let s1:=de s.log s.log.length (bY {s with up:=true})
 {s1 with timers:=s1.timers++iw s.log}
structure TxR where
 ops:List bO
 state:Int
 reads:List Int
structure WR where
 sh:List ShR
 aH:List MsgR
 aC:List TxR
 aj:Bool
def iS(k n:Int):ShR:=bY ⟨k,n,true,[],0,[],[],[],[],[],0,[]⟩
def kP(n:Int):WR:=⟨(upto n).map λk=>iS k n,[],[],false⟩
def Ke(o:bO):Prop:=97<=o.k/\o.k<=122/\(o.w=true\/o.v=0)
instance(o:bO):Decidable (Ke o):=by unfold Ke;exact inferInstance
def gw(l:List bO):Prop:=(∀ o∈l,Ke o)/\(l.map (·.k)).Nodup/\1<=l.length/\l.length<=6
instance(l:List bO):Decidable (gw l):=by unfold gw;exact inferInstance
def gp(O:List bO)(n:Int):Int:=match O with|o::_=>atR o.k n|[]=>0
def ic(w:WR)(tx:Nat):WR:=
 match w.aC[tx]? with
 |none=>w
 |some t=>{w with aH:=w.aH++[{bA with kind:=1,aX:= -1,to:=gp t.ops w.sh.length,tx:=tx,ops:=t.ops}]}
def bZ(w:WR)(O:List bO):WR×Int×Int:=
 if w.aj then(w,0,9)else if¬ gw O then(w,0,2)else if w.aC.length=60\/400<=w.aH.length then(w,0,3)
 else(ic {w with aC:=w.aC++[⟨O,1,[]⟩]} w.aC.length,w.aC.length,0)
def gf(w:WR)(a:Nat)(s:ShR):WR:={w with sh:=w.sh.set a {s with out:=[]},aH:=w.aH++s.out}
def jV(w:WR)(m:MsgR):WR:=
 match w.aC[m.tx.toNat]? with
 |none=>w
 |some t=>if t.state=1 then{w with aC:=w.aC.set m.tx.toNat (if m.yes then{t with state:=2,reads:=m.reads}else{t with state:=3})}else w
def fE(w:WR)(k i:Int):WR×Int:=
 if i<0\/(w.aH.length:Int)<=i then(w,5)else
 match w.aH[i.toNat]? with
 |none=>(w,5)
 |some m=>
  if k=4 then(if 400<=w.aH.length then(w,3)else({w with aH:=w.aH++[m]},0))else
  let w1:={w with aH:=w.aH.eraseIdx i.toNat}
  if k=3 then(w1,0)else
  if m.to= -1 then(jV w1 m,0)else
  match w1.sh[m.to.toNat]? with
  |none=>(w1,0)
  |some s=>if s.up then(gf w1 m.to.toNat<|cm s m,0)else(w1,0)
def eV(w:WR)(k a b:Int):WR×Int:=
 if k<1\/8<k then(w,0)else if w.aj then(w,9)
 else if k=1 then(if a<0\/(w.aC.length:Int)<=a then(w,4)else if 400<=w.aH.length then(w,3)else(ic w a.toNat,0))
 else if k<=4 then fE w k a
 else if a<0\/(w.sh.length:Int)<=a then(w,6)
 else match w.sh[a.toNat]? with
  |none=>(w,6)
  |some s=>
   if k=8 then(if s.up then(w,8)else({w with sh:=w.sh.set a.toNat<|cD s},0))
   else if !s.up then(w,7)
   else if k=5 then(gf w a.toNat<|kH s,0)
   else if k=6 then(if 150<w.aH.length then(w,3)else(gf w a.toNat<|dv s,0))
   else(gf w a.toNat<|gb s b,0)
inductive aR where
 |cK (tx home:Int) (ops:List bO)
 |dec (tx:Int) (yes:Bool) (reads:List Int)
 |kY (tx:Int) (yes:Bool)
def aR.aZ:aR->RecR
 |.cK tx home O=>{dz with kind:=1,tx:=tx,home:=home,ops:=O}
 |.dec tx yes reads=>{dz with kind:=2,tx:=tx,yes:=yes,reads:=reads}
 |.kY tx yes=>{dz with kind:=3,tx:=tx,yes:=yes}
structure iK where
 pl:Int
 yes:Bool
structure AT where
 pl:Int
 home:Int
 ops:List bO
structure m9 where
 ops:List bO
 bq:List (Int×List Int)
 cf:List (Int×Int)
 dec:Bool
 yes:Bool
structure eg where
 me:Int
 n:Int
 up:Bool
 log:List aR
 aE:Int
 values:List (Int×Int)
 aQ:List (Int×Int)
 pend:List (Int×AT)
 done:List (Int×iK)
 bF:List (Int×iK)
 cr:List (Int×m9)
 timers:List dU
 clock:Int
 waits:List MsgR
 out:List MsgR
def dL(O:List bO)(n:Int):List (Int×List bO):=O.foldl (λm o=>bC m (atR o.k n)<|(aB m<|atR o.k n).getD []++[o]) []
def fI(s:eg)(m:MsgR):eg:={s with out:=s.out++[{m with aX:=s.me}]}
def jx(s:eg)(m:MsgR):eg:={s with waits:=s.waits++[{m with aX:=s.me}]}
def kj(s:eg)(tx ticks:Int)(again:Bool):eg:={s with timers:=s.timers++[⟨s.clock+ticks,again,tx⟩]}
def sZ(s:eg)(O:List bO)(f:eg->Int->List bO->eg):eg:=
 (upto s.n).foldl (λz k=>if((aB (dL O s.n) k).getD []).isEmpty then z else f z k ((aB (dL O s.n) k).getD [])) s
def nE(s:eg)(m:MsgR):eg:=
 match aB s.bF m.tx with
 |some d=>if d.pl<s.aE then fI s {bA with kind:=7,to:= -1,tx:=m.tx,yes:=d.yes,reads:=((s.log[d.pl.toNat]?.map aR.aZ).getD dz).reads}else s
 |none=>
  if(aB s.cr m.tx).isSome then s else
  kj (sZ {s with cr:=bC s.cr m.tx ⟨m.ops,[],[],false,false⟩} m.ops λz k p=>fI z {bA with kind:=2,to:=k,tx:=m.tx,ops:=p}) m.tx 4 true
def jg(u:m9)(n:Int):List bO->List (Int×Int)->Option (List Int)
 |[],_=>some []
 |o::l,next=>
  if o.w then jg u n l next else
  let k:=atR o.k n
  let i:=(aB next k).getD 0
  match((aB u.bq k).getD [])[i.toNat]? with
  |none=>none
  |some x=>(jg u n l<|bC next k<|i+1).map (x:: ·)
def nF(u:m9)(n:Int):Option (List Int):=jg u n u.ops []
def rJ(s:eg)(m:MsgR):eg:=
 match aB s.cr m.tx with
 |none=>s
 |some u=>
  if u.dec then s else
  let u1:=if m.yes&& !(aB u.bq m.aX).isSome then{u with bq:=bC u.bq m.aX m.reads}else u
  if m.yes&&decide (u1.bq.length<(dL u1.ops s.n).length)then{s with cr:=bC s.cr m.tx u1}else
  let rd:=if m.yes then(nF u1 s.n).getD []else[]
  let s1:={s with cr:=bC s.cr m.tx {u1 with dec:=true,yes:=m.yes},log:=s.log++[.dec m.tx m.yes rd],bF:=bC s.bF m.tx ⟨s.log.length,m.yes⟩}
  let s2:=sZ s1 u1.ops λz k _=>jx z {bA with kind:=4,to:=k,tx:=m.tx,yes:=m.yes}
  jx s2 {bA with kind:=7,to:= -1,tx:=m.tx,yes:=m.yes,reads:=rd}
def AU(s:eg)(m:MsgR):eg:=
 match aB s.cr m.tx with
 |none=>s
 |some u=>
  if !u.dec then s else
  let u1:={u with cf:=bC u.cf m.aX<|(aB u.cf m.aX).getD 0+1}
  if u1.cf.length=(dL u1.ops s.n).length then{s with cr:=eo (bC s.cr m.tx u1) m.tx}else{s with cr:=bC s.cr m.tx u1}
def C3(s:eg)(m:MsgR):eg:=
 match aB s.bF m.tx with
 |some d=>if d.pl<s.aE then fI s {bA with kind:=4,to:=m.aX,tx:=m.tx,yes:=d.yes}else s
 |none=>
  if(aB s.cr m.tx).isSome then s else
  jx {s with log:=s.log++[.dec m.tx false []],bF:=bC s.bF m.tx ⟨s.log.length,false⟩} {bA with kind:=4,to:=m.aX,tx:=m.tx}
def ji(values:List (Int×Int))(O:List bO):List Int:=(O.filter λo=> !o.w).map λo=>(aB values o.k).getD 0
def u7(s:eg)(tx home:Int)(O:List bO)(pl:Int):eg:={s with aQ:=O.foldl (λl o=>bC l o.k tx) s.aQ,pend:=bC s.pend tx ⟨pl,home,O⟩}
def qV(s:eg)(tx:Int)(yes:Bool)(pl:Int):eg:=
 let O:=((aB s.pend tx).map (·.ops)).getD []
 {s with values:=O.foldl (λv o=>if yes&&o.w then bC v o.k o.v else v) s.values,aQ:=O.foldl (λl o=>eo l o.k) s.aQ,pend:=eo s.pend tx,done:=bC s.done tx ⟨pl,yes⟩}
def gF(s:eg)(m:MsgR):eg:=
 let answer:={bA with kind:=3,to:=m.aX,tx:=m.tx}
 match aB s.pend m.tx with
 |some p=>if p.pl<s.aE then fI s {answer with yes:=true,reads:=ji s.values p.ops}else s
 |none=>
  match aB s.done m.tx with
  |some d=>if d.yes then s else fI s answer
  |none=>
   if m.ops.any (λo=>(aB s.aQ o.k).isSome)then fI s answer else
   let s1:=u7 {s with log:=s.log++[.cK m.tx m.aX m.ops]} m.tx m.aX m.ops s.log.length
   kj (jx s1 {answer with yes:=true,reads:=ji s1.values m.ops}) m.tx 3 false
def j0(s:eg)(m:MsgR):eg:=
 let fin:=jx (qV {s with log:=s.log++[.kY m.tx m.yes]} m.tx m.yes s.log.length) {bA with kind:=5,to:=m.aX,tx:=m.tx}
 match aB s.pend m.tx with
 |some _=>fin
 |none=>
  match aB s.done m.tx with
  |some d=>if d.pl<s.aE then fI s {bA with kind:=5,to:=m.aX,tx:=m.tx}else s
  |none=>if m.yes then s else fin
def s6(s:eg)(m:MsgR):eg:=
 if m.kind=1 then nE s m else if m.kind=2 then gF s m else if m.kind=3 then rJ s m else if m.kind=4 then j0 s m else if m.kind=5 then AU s m else if m.kind=6 then C3 s m else s
def u9(s:eg):eg:={s with aE:=s.log.length,out:=s.out++s.waits,waits:=[]}
def tc(s:eg)(tx:Int):eg:=
 match aB s.cr tx with
 |none=>s
 |some u=>
  kj (sZ s u.ops λz k p=>
   if !u.dec&& !(aB u.bq k).isSome then fI z {bA with kind:=2,to:=k,tx:=tx,ops:=p}
   else if u.dec&&decide (((aB s.bF tx).map (·.pl)).getD 0<s.aE)&&decide ((aB u.cf k).getD 0=0)then fI z {bA with kind:=4,to:=k,tx:=tx,yes:=u.yes}
   else z) tx 4 true
def AV(s:eg)(t:dU):eg:=
 if t.again then tc s t.tx else
 match aB s.pend t.tx with
 |some p=>kj (fI s {bA with kind:=6,to:=p.home,tx:=t.tx}) t.tx 3 false
 |none=>s
def lY:Nat->eg->eg
 |0,s=>s
 |f+1,s=>
  match mD s.clock s.timers 0 none with
  |none=>s
  |some (k,t)=>lY f<|AV {s with timers:=s.timers.eraseIdx k} t
def Sk(s:eg):Nat:=(s.timers.filter λt=>t.tm<=s.clock).length
def qk(s:eg):eg:=let s1:={s with clock:=s.clock+1};lY (Sk s1+1) s1
def jD(s:eg):eg:={s with values:=[],aQ:=[],pend:=[],done:=[],bF:=[],cr:=[],timers:=[],clock:=0,waits:=[]}
def om(s:eg)(keep:Int):eg:=
 let aE:=s.aE+min (max keep 0) ((s.log.length:Int)-s.aE)
 jD {s with up:=false,aE:=aE,log:=s.log.take aE.toNat}
def AW(s:eg)(i:Nat):aR->eg
 |.cK tx home O=>u7 s tx home O i
 |.dec tx yes _=>{s with bF:=bC s.bF tx ⟨i,yes⟩}
 |.kY tx yes=>qV s tx yes i
def lZ(log:List aR):Nat->eg->eg
 |0,s=>s
 |i+1,s=>match log[i]? with|none=>lZ log i s|some e=>AW (lZ log i s) i e
def km(l:List Int):List Int:=l.mergeSort λa b=>decide (a<=b)
def ko(s:eg):eg:=
 let s1:=lZ s.log s.log.length (jD {s with up:=true})
 (km (s1.pend.map (·.1))).foldl (λz tx=>kj z tx 3 false) s1
def Kf(k n:Int):eg:=jD ⟨k,n,true,[],0,[],[],[],[],[],[],[],0,[],[]⟩
section
open Go.Conc
structure GOk(B:lM)(σ:Gh)(H:Array Obj):Prop where
 still:∀ i s p,σ.aU i=some s->p∈s.mem->p.1.spot=none/\∃ c ty,H[p.1.block]? =some (.cells c ty (0,0))/\B.rd p.1.block ty p.1.off=true
 sF:∀ l,σ.sh l->∃ a:Addr,l=.cell a/\∃ c ty,H[a.block]? =some (.cells c ty (0,0))/\B.sh ty a.off=true/\B.bot<=a.block
theorem GOk.step{σ:Gh}{g:Array Obj}(h:GOk B σ H)(s:gK B H g):GOk B σ g:=
 ⟨λi s' p e hp=>by
  obtain⟨h1,c,ty,b,d⟩:=h.still i s' p e hp;obtain⟨c',f,_⟩:=s.cells _ _ _ _ b;exact⟨h1,c',ty,f,d⟩,λl hl=>by
  obtain⟨a,rfl,c,ty,b,d⟩:=h.sF l hl;obtain⟨c',f,_⟩:=s.cells _ _ _ _ b;exact⟨a,rfl,c',ty,f,d⟩⟩
theorem Sn{σ:Gh}{w w':World}{es:Array Event}(g:GOk B σ w.heap)(s:gK B w.heap w'.heap)(J:∀ e∈es,CU B w'.heap e):rG σ w w' es:=by
 have g':=g.step s;refine⟨s.size,s.chans,λi s' p e hp v=>?_,λe K=>?_⟩
 .obtain⟨h1,c,ty,f,d⟩:=g.still i s' p e hp;obtain⟨c',n,x⟩:=s.cells _ _ _ _ f;unfold World.cell? at v⊢;rw[f]at v;rw[n];simp only[h1]at v⊢;rw[x _ d];exact v
 .have y:=J e K;have F:∀ i a c ty fr,σ.rd i (.cell a)->w'.heap[a.block]? =some (.cells c ty fr)->B.rd a.block ty a.off=true:=λi a c ty fr k C=>by obtain⟨s',H,p,hp,D⟩:=k;obtain rfl:=Loc.cell.inj D;obtain⟨_,c',L,f,d⟩:=g'.still i s' p H hp;rw[C]at f;cases f;exact d
  have I:∀ a c ty fr,σ.sh (.cell a)->w'.heap[a.block]? =some (.cells c ty fr)->B.sh ty a.off=true/\B.bot<=a.block:=λa c ty fr k C=>by obtain⟨M,l,c',L,f,d⟩:=g'.sF _ k;obtain rfl:=Loc.cell.inj l;rw[C]at f;cases f;exact d
  have t:∀ b o,w'.heap[b]? =some o->b<w'.heap.size:=λb o h=>(iF.1 h).1;obtain⟨E,wr,z⟩:=e;cases E with
  |cell a=>
   obtain⟨h1,c,ty,⟨fr,f⟩,d,n⟩:=y;refine⟨λb j=>?_,λad l=>(by simp[MemAct.ofEvent]at l),?_⟩
   .simp only[MemAct.ofEvent,MemAct.touch?,zJ]at j;subst j;refine⟨λA i k=>?_,λhs u=>?_⟩
    .have:=F i a c ty fr k f;rw[d A]at this;cases this
    .have:=I a c ty fr hs f;cases z with
     |true=>simp at u
     |false=>
      rcases n rfl with x|x
      .have:=this.2;omega
      .rw[x]at this;cases this.1
   .exact t _ _ f
  |obj r=>
   obtain⟨h1,f⟩:=y;have f:z=false:=f;subst f;have q:MemAct.ofEvent ⟨.obj r,wr,false⟩=.access ⟨.obj r,wr,false⟩:=by cases wr<;>rfl
   rw[q];refine⟨λb j=>?_,λad l=>(by cases l),h1⟩;simp only[MemAct.touch?,zJ]at j;subst j;refine⟨λA i k=>?_,λhs _=>?_⟩
   .obtain⟨s',H,p,hp,D⟩:=k;cases D
   .obtain⟨a,l,_⟩:=g'.sF _ hs;cases l
  |mark m=>
   obtain⟨h1,f⟩:=y;have q:MemAct.ofEvent ⟨.mark m,wr,z⟩=.mark m:=by cases wr<;>cases z<;>rfl
   rw[q];refine⟨λb j=>?_,λad l=>?_,?_⟩
   .cases m with
    |read a=>
     simp only[MemAct.touch?,zJ]at j;subst j;exact⟨λA=>by simp at A,λ_ u=>by simp at u⟩
    |write a=>
     obtain⟨c,ty,d,n⟩:=h1;simp only[MemAct.touch?,zJ]at j;subst j;refine⟨λ_ i k=>?_,λ_ u=>by simp at u⟩;have:=F i a c ty _ k d;rw[n]at this;cases this
    |_=>simp[MemAct.touch?]at j
   .cases l;obtain⟨c,ty,d,n⟩:=h1;intro hs;have:=(I _ c ty _ hs d).1;rw[n]at this;cases this
   .cases m with
    |acquire a=>obtain⟨c,ty,d⟩:=h1;exact t _ _ d
    |release a=>obtain⟨c,ty,d,_⟩:=h1;exact t _ _ d
    |releaseMerge a=>obtain⟨c,ty,d⟩:=h1;exact t _ _ d
    |read a=>obtain⟨c,ty,d⟩:=h1;exact t _ _ d
    |write a=>obtain⟨c,ty,d,_⟩:=h1;exact t _ _ d
    |_=>trivial
  |_=>exact y.elim
structure BLe(B B':lM):Prop where
 rd:∀ b ty o,B.rd b ty o=true->B'.rd b ty o=true
 sh:∀ ty o,B.sh ty o=true->B'.sh ty o=true
 bot:B'.bot<=B.bot
structure vC where
 B0:lM
 h0:B0.bot=0
 mkd:aP->Nat->Bool
 sh:aP->Nat->Bool
 h1:∀ b ty o,mkd ty o=true->B0.rd b ty o=true
 h2:∀ ty o,sh ty o=true->B0.sh ty o=true
def Gh.blk(σ:Gh)(b:Nat):Bool:=(List.range σ.n).any λi=>match σ.aU i with|none=>false|some s=>s.mem.any λp=>p.1.block==b
def vC.bw(X:vC)(σ:Gh):lM:=⟨λb ty o=>X.mkd ty o&&σ.blk b,X.sh,σ.bot⟩
theorem Gh.Wc{σ:Gh}(c:∀ i s,σ.aU i=some s->i<σ.n){b:Nat}:σ.blk b=true↔∃ i s p,σ.aU i=some s/\p∈s.mem/\p.1.block=b:=by
 unfold Gh.blk;rw[uV];constructor
 .rintro⟨i,_,h⟩;cases e:σ.aU i with
  |none=>rw[e]at h;cases h
  |some s=>
   rw[e]at h;obtain⟨p,hp,a⟩:=uV.1 h;exact⟨i,s,p,e,hp,by simpa using a⟩
 .rintro⟨i,s,p,e,hp,a⟩;refine⟨i,iA.2<|c i s e,?_⟩;rw[e];exact uV.2 ⟨p,hp,by simpa using a⟩
def vC.rd(X:vC)(i:Nat):Nat->aP->Nat->Bool:=if i=0 then X.B0.rd else λ_ ty o=>X.mkd ty o
theorem vC.le(X:vC)(σ:Gh):BLe (X.bw σ) X.B0:=⟨λb ty o h=>X.h1 b ty o (by unfold vC.bw at h;simp only[jK]at h;exact h.1),X.h2,by rw[X.h0];exact fp _⟩
structure GO(X:vC)(σ:Gh)(H:Array Obj):Prop where
 lt:∀ i s,σ.aU i=some s->i<σ.n
 cl:∀ i s c,σ.aU i=some s->s.has c->c<H.size
 still:∀ i s p,σ.aU i=some s->p∈s.mem->p.1.spot=none/\∃ c ty,H[p.1.block]? =some (.cells c ty (0,0))/\X.rd i p.1.block ty p.1.off=true
 sF:∀ l,σ.sh l->∃ a:Addr,l=.cell a/\∃ c ty,H[a.block]? =some (.cells c ty (0,0))/\X.sh ty a.off=true/\σ.bot<=a.block
 bot:σ.bot<=H.size
theorem GO.zero{X:vC}{σ:Gh}(h:GO X σ H)(b:σ.aU 0=none):GOk (X.bw σ) σ H:=⟨λi s p e hp=>by
 have hi:i≠0:=λz=>by rw[z,b]at e;cases e
 obtain⟨h1,c,ty,d,a⟩:=h.still i s p e hp;refine⟨h1,c,ty,d,?_⟩;unfold vC.rd at a;rw[ax hi]at a;unfold vC.bw;simp only[jK];exact⟨a,(Gh.Wc h.lt).2 ⟨i,s,p,e,hp,rfl⟩⟩,h.sF⟩
theorem GO.all{X:vC}{σ:Gh}(h:GO X σ H):GOk X.B0 σ H:=⟨λi s p e hp=>by
 obtain⟨h1,c,ty,d,b⟩:=h.still i s p e hp;refine⟨h1,c,ty,d,?_⟩;unfold vC.rd at b;split at b
 .exact b
 .exact X.h1 _ _ _ b,λl hl=>by
 obtain⟨a,e,c,ty,h1,d,_⟩:=h.sF l hl;exact⟨a,e,c,ty,h1,X.h2 _ _ d,by rw[X.h0];exact fp _⟩⟩
theorem GO.Wd{X:vC}{σ:Gh}{g:Array Obj}(h:GO X σ H)(s:gK B H g):GO X σ g:=
 ⟨h.lt,λi s' c e j=>QS (h.cl i s' c e j) s.size,λi s' p e hp=>by
  obtain⟨h1,c,ty,b,d⟩:=h.still i s' p e hp;obtain⟨c',f,_⟩:=s.cells _ _ _ _ b;exact⟨h1,c',ty,f,d⟩,λl hl=>by
  obtain⟨a,rfl,c,ty,b,d⟩:=h.sF l hl;obtain⟨c',f,_⟩:=s.cells _ _ _ _ b;exact⟨a,rfl,c',ty,f,d⟩,GJ h.bot s.size⟩
def aG(P:bT)(Post:Value->World->Prop)(X:vC)(σ:Gh)(h:Nat)(os:Os)(out:Array (Nat×ByteArray)):Nat->aO->Array Obj->Prop:=
 λd g H=>σ.aU h=none->GO X σ H->∀ w:World,w.heap=H->w.os=os->w.output=out->yJ P Post σ h d g w
section
variable{P:bT}{Post:Value->World->Prop}{X:vC}{σ:Gh}{h:Nat}{os:Os}{out:Array (Nat×ByteArray)}
open Classical in
theorem aG.MA(j:σ.aU h=none->∀ H,GO X σ H->GOk B σ H):ab P (h==0) B (aG P Post X σ h os out):=⟨λd g H hs step b go w k l m=>by
 have c:=j b H go;have key:∀ a,Sm w a->∃ r:aO×World×Array Event,stepG P (h==0) g a=.go r.1 r.2.1 r.2.2/\rG σ a r.2.1 r.2.2/\yJ P Post σ h (deafBehind d r.2.2) r.1 r.2.1:=λa e=>by have f:a.heap=H:=e.hp.trans k;obtain⟨g',w',es,h1,n,o,i,p,s⟩:=step a f;subst f;exact⟨(g',w',es),h1,Sn c i p,s b (go.Wd i) w' rfl (n.trans<|e.os.trans l)<|o.trans<|e.out.trans m⟩
 refine yJ.own (λa=>if q:Sm w a then(Classical.choose<|key a q).1 else g) (λa=>if q:Sm w a then(Classical.choose<|key a q).2.1 else a) (λa=>if q:Sm w a then(Classical.choose<|key a q).2.2 else#[]) hs (λa q=>?_) (λa q=>?_) λa q=>?_
 .simp only[An q];exact(LR<|key a q).1
 .simp only[An q];exact(LR<|key a q).2.1
 .simp only[An q];exact(LR<|key a q).2.2⟩
theorem aG.eL:ab P true (X.bw σ) (aG P Post X σ 0 os out):=aG.MA (h:=0) λa H g=>g.zero a
theorem aG.We(hh:h≠0):ab P false X.B0 (aG P Post X σ h os out):=by
 have:(h==0)=false:=by simpa using hh
 rw[<- this];exact aG.MA λ_ H g=>g.all
end
theorem ab.less{P:bT}{ao:Bool}{B':lM}{R:Nat->aO->Array Obj->Prop}(f:BLe B B')(C:ab P ao B R):ab P ao B' R:=⟨λd g H hs step=>C.step d g H hs λw n=>by
 obtain⟨g',w',es,h1,p,s,h,t,u⟩:=step w n;refine⟨g',w',es,h1,p,s,⟨h.size,h.chans,λb c ty fr v=>?_⟩,λe x=>?_,u⟩
 .obtain⟨c',k1,k2⟩:=h.cells b c ty fr v;exact⟨c',k1,λj y=>k2 j<|f.rd _ _ _ y⟩
 .have k:∀ b ty o,B'.rd b ty o=false->B.rd b ty o=false:=λb ty o z=>by
   cases q:B.rd b ty o with
   |false=>rfl
   |true=>rw[f.rd _ _ _ q]at z;cases z
  have l:∀ ty o,B'.sh ty o=false->B.sh ty o=false:=λty o z=>by
   cases q:B.sh ty o with
   |false=>rfl
   |true=>rw[f.sh _ _ q]at z;cases z
  have A:∀ m,lV B' w'.heap m->lV B w'.heap m:=λm z=>by
   cases m with
   |release a=>obtain⟨c,ty,k1,k2⟩:=z;exact⟨c,ty,k1,l _ _ k2⟩
   |write a=>obtain⟨c,ty,k1,k2⟩:=z;exact⟨c,ty,k1,k _ _ _ k2⟩
   |_=>exact z
  have:=t e x;obtain⟨i,wr,F⟩:=e;cases i with
  |cell a=>obtain⟨k1,c,ty,k2,D,E⟩:=this;exact⟨k1,c,ty,k2,λz=>k _ _ _<|D z,λz=>(E z).imp (λz=>QS z f.bot)<|l _ _⟩
  |obj r=>exact this
  |mark m=>exact⟨A m this.1,this.2⟩
  |_=>exact this.elim⟩
end
section
open Go.Conc
class fi(P:bT)(f:bN)(fu:outParam Func)(ex:outParam (Array Value->Sem Value)):Prop where
 func:P.funcs[f]? =some fu
 name:(fu.name== "runtime.NumGoroutine")=false
 body:fu.body.isNone=true
 nx:Extern.findNext fu=none
 fd:Extern.find fu=some ex
variable{P:bT}{ao:Bool}{B:lM}{R:Nat->aO->Array Obj->Prop}{d:Nat}{As aT Bs L F:List HP}
variable{fn:bN}{kd:Kd}{n:Nat}{e:Nat->Value}{ds:List eK}{k:List Item}{cs:List Frame}
variable{O:Array Oper}{i:Nat}{aa:List Nat}{dst:Option Nat}{t:Nat}{ty:aP}{pos:String}{af:Array Edge}{gd:Option (Nat×Bool)}
theorem ab.xt(C:ab P ao B R){f:bN}{ex:Array Value->Sem Value}[b:fi P f fu ex]{fo:dp}
  (h:∀ H,Sat As (hp H)->dQ P B (ex vl.toArray) H d λv a c=>∃ aT,Sat aT (hp a)/\At R c aT (gr fn kd n (dD e dst v) ds (.inRegion O aa::k) cs))
  (g:bk O i=some ⟨dst,.call ⟨.value fo,args,gY⟩,ty,pos,af,gd⟩) (j:aN O n e gd=true) (hf:ev n e fo=.func (.func f) #[] #[]) (hv:args.toList.map (ev n e)=vl):Nw R d As fn kd n e ds O i aa k cs:=by
 refine C.gen g j λH s=>?_;unfold execOp;simp only;refine ae ?_;have l:args.map (ev n e)=vl.toArray:=by rw[<- hv,<- sx,vo]
 simp only[resolve,hf,Deferred.ofValue,l];refine ae ?_;show dQ P B _ _ _ _;simp only[CL];show dQ P B (invoke (.fn (.func f) #[]) vl.toArray) H d _;unfold invoke;simp only[zj];unfold callFunc;refine ae ?_;show dQ P B _ H d _;simp only[program,dQ];rw[b.func];simp only[b.name,b.body,fq,fW,eQ];refine ae ?_;simp only[mark,dQ,lV,pD,pU];simp only[b.nx,b.fd];refine ae<|qb (λv a c q=>?_)<|h H s;obtain⟨aT,s',q⟩:=q;exact aA ⟨aT,s',q⟩
variable{f:bN}{fu:Func}{fo:dp}{args:Array dp}{gY:Array aP}{a:Addr}{b off:Nat}{c:Array Value}{el:aP}
theorem ab.Wg(C:ab P ao B R)[x:fi P f fu (λ_=>do mark .disable;pure Extern.Race.none_)](a:bk O i=some ⟨dst,.call ⟨.value fo,args,gY⟩,ty,pos,af,gd⟩)(h:At R (d+1) As (gr fn kd n (dD e dst<|.tuple #[]) ds (.inRegion O aa::k) cs))
  (b:aN O n e gd=true:=by rfl) (hf:ev n e fo=.func (.func f) #[] #[]:=by rfl) (hv:args.toList.map (ev n e)=vl:=by rfl):Nw R d As fn kd n e ds O i aa k cs:=
 C.xt (f:=f) (vl:=vl) (λH s=>by refine ae ?_;simp only[mark,dQ,lV,pD,pU];exact aA ⟨As,s,h⟩) a b hf hv
theorem ab.aaq(C:ab P ao B R)[x:fi P f fu (λ_=>do mark .enable;pure Extern.Race.none_)](a:bk O i=some ⟨dst,.call ⟨.value fo,args,gY⟩,ty,pos,af,gd⟩)(h:At R (d-1) As (gr fn kd n (dD e dst<|.tuple #[]) ds (.inRegion O aa::k) cs))
  (b:aN O n e gd=true:=by rfl) (hf:ev n e fo=.func (.func f) #[] #[]:=by rfl) (hv:args.toList.map (ev n e)=vl:=by rfl):Nw R d As fn kd n e ds O i aa k cs:=
 C.xt (f:=f) (vl:=vl) (λH s=>by refine ae ?_;simp only[mark,dQ,lV,pD,pU];exact aA ⟨As,s,h⟩) a b hf hv
theorem ab.xMk(C:ab P ao B R){mk:Addr->Mark}[x:fi P f fu (Extern.Race.marked mk)]{b:List Value}(c:bk O i=some ⟨dst,.call ⟨.value fo,args,gY⟩,ty,pos,af,gd⟩)(h:At R d As (gr fn kd n (dD e dst<|.tuple #[]) ds (.inRegion O aa::k) cs))
  (hm:∀ H,Sat As (hp H)->lV B H (mk a)) (g:pD (mk a) d=d:=by rfl) (j:aN O n e gd=true:=by rfl) (hf:ev n e fo=.func (.func f) #[] #[]:=by rfl) (hv:args.toList.map (ev n e)=.pointer (some a)::b:=by rfl):Nw R d As fn kd n e ds O i aa k cs:=
 C.xt (f:=f) (vl:=.pointer (some a)::b) (λH s=>by unfold Extern.Race.marked;refine ae<|aA ?_;refine ae ?_;refine⟨hm H s,?_⟩;rw[g];exact aA ⟨As,s,h⟩) c j hf hv
variable{kk:IntKind}{z y z':Int}
theorem AX(h1:hp H b=some (.cells c el (0,0)))(a:c[off]? =some (.int kk z))(q:Q (.int kk z) H d):dQ P B (Extern.Atomic.read (.int kk) ⟨b,off,none⟩) H d Q:=by unfold Extern.Atomic.read;refine ae (wL h1 rfl a (λh=>by cases h) ?_);simp only[fq];exact aA q
theorem ab.xLd(C:ab P ao B R)[x:fi P f fu (Extern.Atomic.loadT<|.int kk)](a:bk O i=some ⟨dst,.call ⟨.value fo,args,gY⟩,ty,pos,af,gd⟩)(h:At R d As (gr fn kd n (dD e dst<|.int kk z) ds (.inRegion O aa::k) cs))
  (hh:Kn As b (.cells c el (0,0)):=by apply Has.kn;(repeat(first|with_reducible exact Has.head|with_reducible apply Has.tail));done) (hc:c[off]? =some (.int kk z):=by rfl) (g:aN O n e gd=true:=by rfl) (hf:ev n e fo=.func (.func f) #[] #[]:=by rfl) (hv:args.toList.map (ev n e)=[.pointer (some ⟨b,off,none⟩)]:=by rfl):Nw R d As fn kd n e ds O i aa k cs:=
 C.xt (f:=f) (vl:=[.pointer (some ⟨b,off,none⟩)]) (λH s=>by show dQ P B (Extern.Atomic.loadT (.int kk) #[.pointer (some ⟨b,off,none⟩)]) H d _;unfold Extern.Atomic.loadT;refine ae<|aA ?_;exact AX (hh _ s) hc ⟨As,s,h⟩) a g hf hv
theorem qW{Q:Option (Addr×aP)->Array Obj->Nat->Prop}(h1:hp H b=some (.cells c el (0,0)))(q:Q none H d):dQ P B (viewAt b) H d Q:=by unfold viewAt;refine ae ?_;have a:H[b]? =some (.cells c el (0,0)):=h1;simp only[shape,dQ,vx,a];exact q
theorem Hf{Q:Bool->Array Obj->Nat->Prop}(h1:hp H b=some (.cells c el (0,0)))(q:Q false H d):dQ P B (Extern.Atomic.touchesFrozen ⟨b,off,none⟩) H d Q:=by unfold Extern.Atomic.touchesFrozen;refine ae<|qW h1 ?_;have a:H[b]? =some (.cells c el (0,0)):=h1;simp only[frozen,dQ,zQ,a];simpa using q
theorem ab.aez(C:ab P ao B R)[x:fi P f fu (Extern.Atomic.casT<|.int kk)](g:bk O i=some ⟨dst,.call ⟨.value fo,args,gY⟩,ty,pos,af,gd⟩)(h:At R d aT (gr fn kd n (dD e dst<|.bool true) ds (.inRegion O aa::k) cs))
  (hv:args.toList.map (ev n e)=[.pointer (some ⟨b,off,none⟩),.int kk z,.int kk y]:=by rfl)  (hu:sT b (.cells c el (0,0)) (.cells c' el (0,0)) As aT:=by repeat(first|with_reducible exact sT.head|with_reducible apply sT.tail)) (hc:c[off]? =some (.int kk z):=by rfl) (j:c.setIfInBounds off (.int kk y)=c':=by first|(simp only[lR,Nat.reduceAdd,Aj,Ak,uK];done)|(simp only[lR,Nat.reduceAdd,Aj,Ak,uK];rfl)|rfl)
  (hr:B.rd b el off=false:=by rfl) (l:aN O n e gd=true:=by rfl) (hf:ev n e fo=.func (.func f) #[] #[]:=by rfl):Nw R d As fn kd n e ds O i aa k cs:=
 C.xt (f:=f) (vl:=[.pointer (some ⟨b,off,none⟩),.int kk z,.int kk y]) (λH s=>by subst j;have a:=hu.has.get s;show dQ P B (Extern.Atomic.casT (.int kk) #[.pointer (some ⟨b,off,none⟩),.int kk z,.int kk y]) H d _;unfold Extern.Atomic.casT;refine ae<|aA ?_;refine ae<|Hf a ?_;simp only[fW,eQ];refine ae<|AX a hc ?_;refine ae<|aA ?_;simp only[beq_self_eq_true,fq];refine ae ?_;show dQ P B (store _ _ _) H d _;refine⟨rfl,c,el,a,rfl,(iF.1 hc).1,hr,λz=>(by cases z),?_⟩;exact aA ⟨aT,hu.set s,h⟩) g l hf hv
theorem ab.aeA(C:ab P ao B R)[x:fi P f fu (Extern.Atomic.update (Op.intArith .add) kk true)](g:bk O i=some ⟨dst,.call ⟨.value fo,args,gY⟩,ty,pos,af,gd⟩)(h:At R d aT (gr fn kd n (dD e dst<|.int kk z') ds (.inRegion O aa::k) cs))
  (hv:args.toList.map (ev n e)=[.pointer (some ⟨b,off,none⟩),.int kk y]:=by rfl)  (hu:sT b (.cells c el (0,0)) (.cells c' el (0,0)) As aT:=by repeat(first|with_reducible exact sT.head|with_reducible apply sT.tail)) (hc:c[off]? =some (.int kk z):=by rfl) (hz:kk.wrap (z+y)=z':=by rfl) (j:c.setIfInBounds off (.int kk z')=c':=by first|(simp only[lR,Nat.reduceAdd,Aj,Ak,uK];done)|(simp only[lR,Nat.reduceAdd,Aj,Ak,uK];rfl)|rfl)
  (hr:B.rd b el off=false:=by rfl) (l:aN O n e gd=true:=by rfl) (hf:ev n e fo=.func (.func f) #[] #[]:=by rfl):Nw R d As fn kd n e ds O i aa k cs:=
 C.xt (f:=f) (vl:=[.pointer (some ⟨b,off,none⟩),.int kk y]) (λH s=>by subst j hz;have a:=hu.has.get s;show dQ P B (Extern.Atomic.update (Op.intArith .add) kk true #[.pointer (some ⟨b,off,none⟩),.int kk y]) H d _;unfold Extern.Atomic.update;refine ae<|aA ?_;refine ae<|AX a hc ?_;refine ae<|aA ?_;refine ae<|aA ?_;refine ae<|aA ?_;refine ae ?_;show dQ P B (store _ _ _) H d _;refine⟨rfl,c,el,a,rfl,(iF.1 hc).1,hr,λz=>(by cases z),?_⟩;exact aA ⟨aT,hu.set s,h⟩) g l hf hv
class Up(P:bT)(t:aP):Prop where
 h:P.underlying t=some .unsafePointer
theorem ab.Wh(C:ab P ao B R){a f t1:aP}{z:Nat}{x:dp}{g:Nat}[j:Pt P a t1][l:Up P f][q:Cz P t1 z](m:bk O i=some ⟨some g,.convert a f x,ty,pos,af,gd⟩)(h:At R d As (gr fn kd n (put e g<|.pointer<|some ⟨b,off,none⟩) ds (.inRegion O aa::k) cs))
  (hz:z≠0:=by decide) (hx:ev n e x=.pointer (some ⟨b,off,none⟩):=by rfl) (hh:Kn As b (.cells c el (0,0)):=by apply Has.kn;(repeat(first|with_reducible exact Has.head|with_reducible apply Has.tail));done) (hl:off<c.size:=by first|decide|(simp;done)) (o:aN O n e gd=true:=by rfl):Nw R d As fn kd n e ds O i aa k cs:=
 C.gen m o λH s=>by
  have hh:=hh _ s;have p:H[b]? =some (.cells c el (0,0)):=hh;unfold execOp;simp only[hx];refine ae ?_;unfold convert;refine ae<|dN j.h B H d _<|ae<|dN l.h B H d _ ?_;show dQ P B (Conv.unsafePointer a f<|.pointer<|some ⟨b,off,none⟩) H d _;unfold Conv.unsafePointer;refine ae<|dN j.h B H d _<|ae<|dN l.h B H d _ ?_;simp only;refine ae ?_;unfold Conv.seenAt;refine ae<|qW hh ?_;refine aA ?_;refine ae ?_;unfold cellsIn;refine ae ?_;simp only[shape,dQ,vx,p];refine aA ?_;refine ae<|ja B H d _ ?_;have e1:¬ (decide (off>=c.size)&&(none:Option Nat).isNone)=true:=by simp;omega
  simp only[e1,Bool.or_false,fW,eQ];rw[ax (by simp[hz,hl])];exact aA<|aA ⟨As,s,h⟩
end
end Go.Sl
