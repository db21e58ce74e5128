/-
  Texts that the proof needs, joined: part 4.
-/
import Derived.Test.YtjomdboiibakiaaGreatDoorCmC
set_option linter.unusedSimpArgs false
set_option linter.unusedVariables false
set_option maxHeartbeats 4000000
namespace Go.Sl
open Go.Proofs.Tryz
section
abbrev aI(n:Int):Value:=.int .i64 n
theorem aW{p:Oper->Prop}{x:Option Oper}{o:Oper}(h:p o)(hx:x=some o:=by rfl):∃ o,x=some o/\p o:=⟨o,hx,h⟩
structure k5(q:Prop):Prop where d:q
theorem bM{p q:Prop}(h:q)(f:k5 q->p:=by intro h;simp only[iX,fi];exact h.d):p:=f ⟨h⟩
theorem zB{p q:Prop}(h:q)(f:k5 q->p:=by intro h;simp only[fi];exact h.d):p:=f ⟨h⟩
variable{P:bL}{ak:Bool}{B:jW}{R:Nat->aP->Array Obj->Prop}{d:Nat}{As:List HP}{fn:bI}{kd:Kd}{n:Nat}{e:Nat->Value}{ds:List dQ}{k:List Item}{cs:List Frame}
theorem ab.arn(C:ab P ak B R){ops:Array Oper}{i:Nat}{aa:List Nat}{t:Nat}{ty:aQ}{pos:String}{af:Array Edge}{gd:Option (Nat×Bool)}{x y:cA}{tt t2:aQ}{p q:Int}{op:BinOp}(m:Nat)(ho:aZ ops i=some ⟨some t,.binOp op tt x y t2,ty,pos,af,gd⟩)(h:Nx R d As fn kd n e ds ops aa k cs t (.int .i64 (m:Int)))
 (hx:ev n e x=.int .i64 p:=by rfl) (hy:ev n e y=.int .i64 q:=by rfl) (ha:arith op p q=some (m:Int):=by exact congrArg some (by omega)) (hr:IntKind.i64.wrap (m:Int)=(m:Int):=by exact xp (by omega) (by omega)) (hw:aM ops n e gd=true:=by rfl):Nw R d As fn kd n e ds ops i aa k cs:=C.ar ho h hx hy ha hr hw
theorem ab.cE(C:ab P ak B R){ops:Array Oper}{i:Nat}{aa:List Nat}{dst:Option Nat}{ty:aQ}{pos:String}{af:Array Edge}{gd:Option (Nat×Bool)}{F:List HP}{f:bI}{fu:Func}{c:Code}{nf:Nat}[b:Body P f fu c nf]{fo:cA}{args:Array cA}{fU:Array aQ}{vl:List Value}{A A1:List HP}{v0:Value}(hs:aD P ak B f vl.toArray A (λv As=>v=v0/\As=A1))(h:At R d (A1++F) (gr fn kd n (cS e dst v0) ds (.inRegion ops aa::k) cs))
 (ho:aZ ops i=some ⟨dst,.call ⟨.value fo,args,fU⟩,ty,pos,af,gd⟩:=by rfl) (hv:args.toList.map (ev n e)=vl:=by rfl) (hf:ev n e fo=.func (.func f) #[] #[]:=by rfl) (hr:dB A As F:=by exact dB.au) (hw:aM ops n e gd=true:=by rfl):At R d As (gr fn kd n e ds (.inRegion ops (i::aa)::k) cs):=C.dv hs (λ_ _ q=>by obtain⟨rfl,rfl⟩:=q;exact h) ho hv hf hr hw
theorem ab.rgA(C:ab P ak B R){c:Code}{l:List Nat}(h:At R d As (gr fn kd n e ds (.inRegion (cO c) l::k) cs))(hc:ck c=.region:=by rfl)
 (hl:List.range (cO c).size=l:=by first|exact(rfl:[0]=_)|exact(rfl:[0,1]=_)|exact(rfl:[0,1,2]=_)|exact(rfl:[0,1,2,3]=_)|exact(rfl:[0,1,2,3,4]=_)|exact(rfl:[0,1,2,3,4,5]=_)|exact(rfl:[0,1,2,3,4,5,6]=_)|exact(rfl:[0,1,2,3,4,5,6,7]=_)|exact(rfl:[0,1,2,3,4,5,6,7,8]=_)|exact(rfl:[0,1,2,3,4,5,6,7,8,9]=_)|exact(rfl:[0,1,2,3,4,5,6,7,8,9,10]=_)|exact(rfl:[0,1,2,3,4,5,6,7,8,9,10,11]=_)|exact(rfl:[0,1,2,3,4,5,6,7,8,9,10,11,12]=_)|exact(rfl:[0,1,2,3,4,5,6,7,8,9,10,11,12,13]=_)|exact(rfl:[0,1,2,3,4,5,6,7,8,9,10,11,12,13,14]=_)|exact(rfl:[0,1,2,3,4,5,6,7,8,9,10,11,12,13,14,15]=_)|exact(rfl:[0,1,2,3,4,5,6,7,8,9,10,11,12,13,14,15,16]=_)|exact(rfl:[0,1,2,3,4,5,6,7,8,9,10,11,12,13,14,15,16,17]=_)|exact(rfl:[0,1,2,3,4,5,6,7,8,9,10,11,12,13,14,15,16,17,18]=_)|exact(rfl:[0,1,2,3,4,5,6,7,8,9,10,11,12,13,14,15,16,17,18,19]=_)|exact(rfl:[0,1,2,3,4,5,6,7,8,9,10,11,12,13,14,15,16,17,18,19,20]=_)|exact(rfl:[0,1,2,3,4,5,6,7,8,9,10,11,12,13,14,15,16,17,18,19,20,21]=_)|exact(rfl:[0,1,2,3,4,5,6,7,8,9,10,11,12,13,14,15,16,17,18,19,20,21,22]=_)|exact(rfl:[0,1,2,3,4,5,6,7,8,9,10,11,12,13,14,15,16,17,18,19,20,21,22,23]=_)):At R d As (gr fn kd n e ds (.code c::k) cs):=C.rg l h hc hl
variable{ops:Array Oper}{e0:Nat->Value}{D:List (Nat×Nat)}{W kN:List HP}{T:List Nat}{a:Nat}{S:List SE}{i:Nat}{is:List Nat}{t:Nat}{v:Value}
theorem Ch.m{f:Nat}{T':List Nat}(t:Nat){K:List SE}{As:List HP}(h:Nd R d fn kd n ds ops k cs e0 D W S (λK As=>Ch R d fn kd n ds ops k cs e0 D W f S (T'.erase t) (a-1) K As) t a K As)(hc:Bv ops T'=[t]:=by rfl):Ch R d fn kd n ds ops k cs e0 D W (f+1) S T' a K As:=Ch.n1 hc h
theorem Ch.q{f:Nat}{T':List Nat}(i:Nat){K:List SE}{As:List HP}(h:∀ {As:List HP} {e:Nat->Value} {aa:List Nat},At R d As (gr fn kd n (put (lX e0 D ops i (K++S) e) t v) ds (.inRegion ops aa::k) cs)->At R d As (gr fn kd n (lX e0 D ops i (K++S) e) ds (.inRegion ops (i::aa)::k) cs))
 (k':Ch R d fn kd n ds ops k cs e0 D W f (⟨i,t,v,false⟩::S) (T'.erase i) a K As) (ho:∃ o,aZ ops i=some o/\o.dst=some t:=by exact⟨_,rfl,rfl⟩) (hi:i∈T':=by decide):Ch R d fn kd n ds ops k cs e0 D W (f+1) S T' a K As:=Ch.pu ho (λ_ _ _=>h) k' hi
theorem lu{A B:List HP}(h:bZ A B:=by exact bZ.au):F6 B A kN:=.of (λ_ s=>bZ.sat h s)
def D4(T:List Nat):Nat->Nat->List Nat
 |_,0=>[]
 |i,n+1=>match T.contains i with
  |true=>D4 T (i+1) n
  |false=>i::D4 T (i+1) n
def cG:Nat->Nat->Nat->List (Nat×Nat)
 |_,_,0=>[]
 |a,i,n+1=>(a,i)::cG (a+1) (i+1) n
theorem ab.vL{P:bL}{ak:Bool}{B:jW}(C:ab P ak B R){c:Code}(D:List (Nat×Nat))(m:Nat)(T:List Nat)(a:Nat)(h:Dr R d fn kd n ds (cO c) k cs e0 D W kN T a [] (D4 T 0 m))(hc:ck c=.draw:=by rfl)(hr:rN (cO c) D T (D4 T 0 m)=true:=by decide+kernel)(hn:lG (D4 T 0 m)=true:=by rfl):At R d kN (gr fn kd n e0 ds (.code c::k) cs):=C.MR D _ T a h hc hr hn
theorem ab.dx{P:bL}{ak:Bool}{B:jW}(C:ab P ak B R){c:Code}(D:List (Nat×Nat))(m:Nat)(T:List Nat)(a:Nat)(h:Dr R d fn kd n ds (cO c) k cs e0 D kN kN T a [] (D4 T 0 m))(hc:ck c=.draw:=by rfl)(hr:rN (cO c) D T (D4 T 0 m)=true:=by decide+kernel)(hn:lG (D4 T 0 m)=true:=by rfl):At R d kN (gr fn kd n e0 ds (.code c::k) cs):=C.vL D m T a h hc hr hn
theorem Dr.p(h:∀ {As:List HP} {e:Nat->Value} {aa:List Nat},At R d As (gr fn kd n (put (lX e0 D ops i S e) t v) ds (.inRegion ops aa::k) cs)->At R d As (gr fn kd n (lX e0 D ops i S e) ds (.inRegion ops (i::aa)::k) cs))
 (k':Dr R d fn kd n ds ops k cs e0 D W kN T a (⟨i,t,v,false⟩::S) is) (ho:∃ o,aZ ops i=some o/\o.dst=some t:=by exact⟨_,rfl,rfl⟩):Dr R d fn kd n ds ops k cs e0 D W kN T a S (i::is):=Dr.pu ho (λ_ _ _=>h) k'
theorem Dr.l(h:∀ {As:List HP} {e:Nat->Value} {aa:List Nat},Ext As W->At R d As (gr fn kd n (put (lX e0 D ops i S e) t v) ds (.inRegion ops aa::k) cs)->At R d As (gr fn kd n (lX e0 D ops i S e) ds (.inRegion ops (i::aa)::k) cs))
 (k':Dr R d fn kd n ds ops k cs e0 D W kN T a (⟨i,t,v,true⟩::S) is) (ho:∃ o,aZ ops i=some o/\o.dst=some t:=by exact⟨_,rfl,rfl⟩):Dr R d fn kd n ds ops k cs e0 D W kN T a S (i::is):=Dr.ld ho (λ_ x _ _=>h x) k'
def SO(ops:Array Oper)(i:Nat):Nat:=match aZ ops i with
 |some ⟨_,op,_,_,_,g⟩=>(match g with
  |some _=>20
  |none=>match op with
   |.move _=>0
   |.assign _=>1
   |.fieldAddr _ _ _=>2
   |.load _ _=>3
   |.nilCheck _=>4
   |.pick _ _ _=>5
   |.binOp _ _ _ _ _=>6
   |.extract _ _=>7
   |.unOp _ _ _=>8
   |.call _=>9
   |.indexAddr _ _ _=>10
   |.build _ _=>11
   |.store _ _ _=>12
   |.convert _ _ _=>13
   |.makeInterface _ _=>14
   |_=>21)
 |none=>22
structure qTg(k:Nat)(p:Prop):Prop where d:p
theorem tr(k:Nat){p:Prop}(h:p):qTg k p:=⟨h⟩
variable{aa:List Nat}
theorem aaV(h:qTg t (At R d As (gr fn kd n e ds (.inRegion ops (i::aa)::k) cs)))(hk:SO ops i=t:=by conv=>{lhs;whnf}):At R d As (gr fn kd n e ds (.inRegion ops (i::aa)::k) cs):=h.d
theorem XV(h:qTg t (Dr R d fn kd n ds ops k cs e0 D W kN T a S (i::aa)))(hk:SO ops i=t:=by conv=>{lhs;whnf}):Dr R d fn kd n ds ops k cs e0 D W kN T a S (i::aa):=h.d
theorem fI{p q:Prop}(h:q)(f:k5 q->p:=by
 intro h
 first
 |(refine aaV ?_;first|(refine tr 0 ?_;refine C.mv rfl ?_)|(refine tr 1 ?_;refine C.kH rfl ?_)|(refine tr 2 ?_;refine C.fa rfl ?_)|(refine tr 3 ?_;first|refine C.ld rfl ?_|refine C.vI rfl ?_|refine C.V9 rfl ?_|refine C.nL rfl ?_)|(refine tr 4 ?_;refine C.nc rfl ?_)|(refine tr 5 ?_;refine C.pk rfl ?_)|(refine tr 6 ?_;first|refine C.ar rfl ?_|refine C.JC rfl ?_)|(refine tr 7 ?_;refine C.ext rfl ?_)|(refine tr 8 ?_;refine C.nt rfl ?_)|(refine tr 9 ?_;first|refine C.m3 rfl ?_|refine C.Wc rfl ?_)|(refine tr 10 ?_;refine C.kJ rfl ?_)|(refine tr 11 ?_;refine C.bd rfl ?_)|(refine tr 12 ?_;first|refine C.st rfl ?_|refine C.pd rfl ?_|refine C.Gl rfl ?_)|(refine tr 13 ?_;refine C.cv rfl ?_)|(refine tr 14 ?_;refine C.mi rfl ?_)|(refine tr 20 ?_;first|refine C.no rfl ?_|refine C.mv rfl ?_|refine C.pk rfl ?_|refine C.ld rfl ?_|refine C.fa rfl ?_|refine C.nc rfl ?_|refine C.kJ rfl ?_|refine C.nt rfl ?_|refine C.m3 rfl ?_|refine C.vI rfl ?_|refine C.kH rfl ?_|refine C.ext rfl ?_|refine C.bd rfl ?_|refine C.nL rfl ?_|refine C.ar rfl ?_|refine C.st rfl ?_|refine C.V9 rfl ?_|refine C.Wc rfl ?_|refine C.pd rfl ?_|refine C.Gl rfl ?_|refine C.JC rfl ?_|refine C.cv rfl ?_|refine C.mi rfl ?_))
 |refine C.rgA ?_
 |refine C.Jm ?_
 |refine C.Br ?_
 |refine C.go ?_
 exact h.d):p:=f ⟨h⟩
theorem lS{p q:Prop}(h:q)(f:k5 q->p:=by
 intro h;refine XV ?_
 first|(refine tr 0 ?_;refine Dr.p (λh=>C.mv rfl h) ?_)|(refine tr 1 ?_;refine Dr.p (λh=>C.kH rfl h) ?_)|(refine tr 2 ?_;refine Dr.p (λh=>C.fa rfl h) ?_)|(refine tr 3 ?_;first|refine Dr.l (λhE h=>C.ld rfl h) ?_|refine Dr.l (λhE h=>C.vI rfl h) ?_|refine Dr.l (λhE h=>C.V9 rfl h) ?_|refine Dr.l (λhE h=>C.nL rfl h) ?_)|(refine tr 4 ?_;refine Dr.p (λh=>C.nc rfl h) ?_)|(refine tr 5 ?_;refine Dr.p (λh=>C.pk rfl h) ?_)|(refine tr 6 ?_;refine Dr.p (λh=>C.ar rfl h) ?_)|(refine tr 7 ?_;refine Dr.p (λh=>C.ext rfl h) ?_)|(refine tr 8 ?_;refine Dr.p (λh=>C.nt rfl h) ?_)|(refine tr 9 ?_;first|refine Dr.l (λhE h=>C.m3 rfl h) ?_|refine Dr.l (λhE h=>C.Wc rfl h) ?_)|(refine tr 10 ?_;refine Dr.l (λhE h=>C.kJ rfl h) ?_)|(refine tr 11 ?_;refine Dr.p (λh=>C.bd rfl h) ?_)|(refine tr 13 ?_;refine Dr.p (λh=>C.cv rfl h) ?_)|(refine tr 20 ?_;first|refine Dr.p (λh=>C.no rfl h) ?_|refine Dr.p (λh=>C.mv rfl h) ?_|refine Dr.p (λh=>C.pk rfl h) ?_|refine Dr.l (λhE h=>C.ld rfl h) ?_|refine Dr.p (λh=>C.fa rfl h) ?_|refine Dr.p (λh=>C.nc rfl h) ?_|refine Dr.l (λhE h=>C.kJ rfl h) ?_|refine Dr.p (λh=>C.nt rfl h) ?_|refine Dr.l (λhE h=>C.m3 rfl h) ?_|refine Dr.l (λhE h=>C.vI rfl h) ?_|refine Dr.p (λh=>C.kH rfl h) ?_|refine Dr.p (λh=>C.ext rfl h) ?_|refine Dr.p (λh=>C.bd rfl h) ?_|refine Dr.l (λhE h=>C.nL rfl h) ?_|refine Dr.p (λh=>C.ar rfl h) ?_|refine Dr.l (λhE h=>C.V9 rfl h) ?_|refine Dr.l (λhE h=>C.Wc rfl h) ?_|refine Dr.p (λh=>C.cv rfl h) ?_)
 exact h.d):p:=f ⟨h⟩
theorem bJ{p q:Prop}(h:q)(f:k5 q->p:=by intro h;(iterate 2 refine fI ?_);exact h.d):p:=f ⟨h⟩
theorem dN{p q:Prop}(h:q)(f:k5 q->p:=by intro h;(iterate 3 refine fI ?_);exact h.d):p:=f ⟨h⟩
theorem cW{p q:Prop}(h:q)(f:k5 q->p:=by intro h;(iterate 4 refine fI ?_);exact h.d):p:=f ⟨h⟩
theorem dD{p q:Prop}(h:q)(f:k5 q->p:=by intro h;(iterate 5 refine fI ?_);exact h.d):p:=f ⟨h⟩
theorem dH{p q:Prop}(h:q)(f:k5 q->p:=by intro h;(iterate 6 refine fI ?_);exact h.d):p:=f ⟨h⟩
theorem dV{p q:Prop}(h:q)(f:k5 q->p:=by intro h;(iterate 7 refine fI ?_);exact h.d):p:=f ⟨h⟩
theorem kE{p q:Prop}(h:q)(f:k5 q->p:=by intro h;(iterate 8 refine fI ?_);exact h.d):p:=f ⟨h⟩
theorem kL{p q:Prop}(h:q)(f:k5 q->p:=by intro h;(iterate 9 refine fI ?_);exact h.d):p:=f ⟨h⟩
theorem i6{p q:Prop}(h:q)(f:k5 q->p:=by intro h;(iterate 10 refine fI ?_);exact h.d):p:=f ⟨h⟩
theorem m4{p q:Prop}(h:q)(f:k5 q->p:=by intro h;(iterate 11 refine fI ?_);exact h.d):p:=f ⟨h⟩
theorem ow{p q:Prop}(h:q)(f:k5 q->p:=by intro h;(iterate 12 refine fI ?_);exact h.d):p:=f ⟨h⟩
theorem zC{p q:Prop}(h:q)(f:k5 q->p:=by intro h;(iterate 13 refine fI ?_);exact h.d):p:=f ⟨h⟩
theorem nO{p q:Prop}(h:q)(f:k5 q->p:=by intro h;(iterate 14 refine fI ?_);exact h.d):p:=f ⟨h⟩
theorem jr{p q:Prop}(h:q)(f:k5 q->p:=by intro h;(iterate 15 refine fI ?_);exact h.d):p:=f ⟨h⟩
theorem Ar{p q:Prop}(h:q)(f:k5 q->p:=by intro h;(iterate 2 refine lS ?_);exact h.d):p:=f ⟨h⟩
theorem CH{p q:Prop}(h:q)(f:k5 q->p:=by intro h;(iterate 3 refine lS ?_);exact h.d):p:=f ⟨h⟩
theorem JF{p q:Prop}(h:q)(f:k5 q->p:=by intro h;(iterate 4 refine lS ?_);exact h.d):p:=f ⟨h⟩
theorem Nr{p q:Prop}(h:q)(f:k5 q->p:=by intro h;(iterate 5 refine lS ?_);exact h.d):p:=f ⟨h⟩
theorem rR{p q:Prop}(h:q)(f:k5 q->p:=by intro h;(iterate 6 refine lS ?_);exact h.d):p:=f ⟨h⟩
theorem lZ{p q:Prop}(h:q)(f:k5 q->p:=by intro h;(iterate 7 refine lS ?_);exact h.d):p:=f ⟨h⟩
theorem CJ{p q:Prop}(h:q)(f:k5 q->p:=by intro h;(iterate 8 refine lS ?_);exact h.d):p:=f ⟨h⟩
theorem Qq{p q:Prop}(h:q)(f:k5 q->p:=by intro h;(iterate 9 refine lS ?_);exact h.d):p:=f ⟨h⟩
theorem gg{p q:Prop}(h:q)(f:k5 q->p:=by intro h;(iterate 10 refine lS ?_);exact h.d):p:=f ⟨h⟩
theorem k6{p q:Prop}(h:q)(f:k5 q->p:=by intro h;refine bM ?_;refine fI ?_;exact h.d):p:=f ⟨h⟩
theorem jK{p q:Prop}(h:q)(f:k5 q->p:=by intro h;refine bM ?_;(iterate 2 refine fI ?_);exact h.d):p:=f ⟨h⟩
theorem rS{p q:Prop}(h:q)(f:k5 q->p:=by intro h;refine bM ?_;(iterate 4 refine fI ?_);exact h.d):p:=f ⟨h⟩
theorem ve{p q:Prop}(h:q)(f:k5 q->p:=by intro h;refine bM ?_;(iterate 5 refine fI ?_);exact h.d):p:=f ⟨h⟩
theorem JG{p q:Prop}(h:q)(f:k5 q->p:=by intro h;refine bM ?_;(iterate 6 refine fI ?_);exact h.d):p:=f ⟨h⟩
theorem Lp{p q:Prop}(h:q)(f:k5 q->p:=by intro h;refine bM ?_;(iterate 7 refine fI ?_);exact h.d):p:=f ⟨h⟩
theorem JH{p q:Prop}(h:q)(f:k5 q->p:=by intro h;refine bM ?_;(iterate 8 refine fI ?_);exact h.d):p:=f ⟨h⟩
theorem Ul{p q:Prop}(h:q)(f:k5 q->p:=by intro h;refine bM ?_;(iterate 9 refine fI ?_);exact h.d):p:=f ⟨h⟩
theorem eQ{p q:Prop}(h:q)(f:k5 q->p:=by intro h;refine Ch.fin ?_;refine fI ?_;exact h.d):p:=f ⟨h⟩
theorem ru{p q:Prop}(h:q)(f:k5 q->p:=by intro h;refine Ch.fin ?_;(iterate 2 refine fI ?_);exact h.d):p:=f ⟨h⟩
theorem Qr{p q:Prop}(h:q)(f:k5 q->p:=by intro h;refine Ch.fin ?_;(iterate 3 refine fI ?_);exact h.d):p:=f ⟨h⟩
theorem Qs{p q:Prop}(h:q)(f:k5 q->p:=by intro h;refine Ch.fin ?_;(iterate 4 refine fI ?_);exact h.d):p:=f ⟨h⟩
theorem zD{p q:Prop}(h:q)(f:k5 q->p:=by intro h;refine Ch.fin ?_;(iterate 5 refine fI ?_);exact h.d):p:=f ⟨h⟩
theorem Qt{p q:Prop}(h:q)(f:k5 q->p:=by intro h;refine Ch.fin ?_;(iterate 6 refine fI ?_);exact h.d):p:=f ⟨h⟩
theorem Ns{p q:Prop}(h:q)(f:k5 q->p:=by intro h;refine Ch.fin ?_;(iterate 7 refine fI ?_);exact h.d):p:=f ⟨h⟩
theorem Um{p q:Prop}(h:q)(f:k5 q->p:=by intro h;refine Ch.fin ?_;(iterate 8 refine fI ?_);exact h.d):p:=f ⟨h⟩
theorem xY{p q:Prop}(h:q)(f:k5 q->p:=by intro h;refine lS ?_;refine Dr.chain rfl ?_;exact h.d):p:=f ⟨h⟩
theorem wm{p q:Prop}(h:q)(f:k5 q->p:=by intro h;(iterate 2 refine lS ?_);refine Dr.chain rfl ?_;exact h.d):p:=f ⟨h⟩
theorem FO{p q:Prop}(h:q)(f:k5 q->p:=by intro h;(iterate 4 refine lS ?_);refine Dr.chain rfl ?_;exact h.d):p:=f ⟨h⟩
theorem Nt{p q:Prop}(h:q)(f:k5 q->p:=by intro h;(iterate 5 refine lS ?_);refine Dr.chain rfl ?_;exact h.d):p:=f ⟨h⟩
theorem Qu{p q:Prop}(h:q)(f:k5 q->p:=by intro h;(iterate 7 refine lS ?_);refine Dr.chain rfl ?_;exact h.d):p:=f ⟨h⟩
theorem Lq{p q:Prop}(h:q)(f:k5 q->p:=by intro h;(iterate 8 refine lS ?_);refine Dr.chain rfl ?_;exact h.d):p:=f ⟨h⟩
theorem XW{p q:Prop}(h:q)(f:k5 q->p:=by intro h;(iterate 9 refine lS ?_);refine Dr.chain rfl ?_;exact h.d):p:=f ⟨h⟩
theorem JI{p q:Prop}(h:q)(f:k5 q->p:=by intro h;(iterate 10 refine lS ?_);refine Dr.chain rfl ?_;exact h.d):p:=f ⟨h⟩
theorem JJ{p q:Prop}(h:q)(f:k5 q->p:=by intro h;(iterate 11 refine lS ?_);refine Dr.chain rfl ?_;exact h.d):p:=f ⟨h⟩
theorem Qv{p q:Prop}(h:q)(f:k5 q->p:=by intro h;(iterate 12 refine lS ?_);refine Dr.chain rfl ?_;exact h.d):p:=f ⟨h⟩
theorem JK{p q:Prop}(h:q)(f:k5 q->p:=by intro h;(iterate 13 refine lS ?_);refine Dr.chain rfl ?_;exact h.d):p:=f ⟨h⟩
variable{T:List (List cr)}{n:Int}{P:dT}{R:ShR}{m:MsgR}
theorem dL.send(H:dL T n P R)(hm:i5 T n {m with aU:=R.me}):dL T n (eJ P m) (cu R m):=by
 refine{H with out:=?_,oo:=?_,kl:=λh=>(H.kl h).aS}
 ·show P.out++_=R.out++_;rw[H.out,H.me]
 ·intro x hx;rcases bU.1 hx with h|h
  ·exact H.oo x h
  ·obtain rfl:=dF.1 h;exact hm
theorem dL.wait(H:dL T n P R)(ed:R.up=true)(hm:i5 T n {m with aU:=R.me}):dL T n (iw P m) (eP R m):=by
 refine{H with waits:=?_,wo:=?_,dn:=?_,kl:=λh=>(H.kl h).aS}
 ·show P.waits++_=R.waits++_;rw[H.waits,H.me]
 ·intro x hx;rcases bU.1 hx with h|h
  ·exact H.wo x h
  ·obtain rfl:=dF.1 h;exact hm
 ·intro h;have h:R.up=false:=h;rw[ed]at h;cases h
theorem dL.rT(H:dL T n P R){tx ticks:Int}{ag:Bool}(ht:(opsOf T tx).isSome=true):dL T n (jq P tx ticks ag) {R with timers:=R.timers++[⟨R.clock+ticks,ag,tx⟩]}:=by
 refine{H with timers:=?_,tt:=?_,kl:=λh=>(H.kl h).aS}
 ·show P.timers++_=R.timers++_;rw[H.timers,H.clock]
 ·intro x hx;rcases bU.1 hx with h|h
  ·exact H.tt x h
  ·obtain rfl:=dF.1 h;exact ht
theorem xZ{J:dT->ShR->Prop}{ops:List cr}{f:dT->Int->List cr->dT}{g:ShR->Int->List cr->ShR}(hnP:P.n=n)(hnR:R.n=n)
  (step:∀ p r k,J p r->bX ops k n=true->0<=k->k<n->J (f p k (aV ops k n)) (g r k (aV ops k n))) (h:J P R):J (qg P ops f) (fV R ops g):=by
 rw[Qn];unfold fV;rw[hnP,hnR];have key:∀ (l:List Int),(∀ k∈l,0<=k/\k<n)->∀ p r,J p r->J (l.foldl (λz k=>if(aV ops k n).isEmpty then z else f z k (aV ops k n)) p) (l.foldl (λz k=>if(aV ops k n).isEmpty then z else g z k (aV ops k n)) r):=by
  intro l
  induction l with
  |nil=>intro _ p r h;exact h
  |cons k l ih=>
   intro hl p r h;rw[kM,kM];refine ih (λk hk=>hl k (gb _ hk)) _ _ ?_;have hk:=hl k (iz ..);cases he:(aV ops k n).isEmpty with
   |true=>exact h
   |false=>exact step p r k h (by unfold bX;rw[he];rfl) hk.1 hk.2
 exact key _ (λk hk=>kp.1 hk) P R h
theorem dL.cf(H:dL T n P R)(ed:R.up=true)(tx:Int):(aB P.cf tx=none/\bB R.log 2 tx=none)\/∃ (d:Nat) (r:RecR),aB P.cf tx=some ⟨d,r.yes⟩/\bB R.log 2 tx=some d/\R.log[d]? =some r:=by
 have:=(H.kl ed).cf tx;rw[H.log]at this;cases h:bB R.log 2 tx with
 |none=>rw[h]at this;exact .inl ⟨this,rfl⟩
 |some d=>
  obtain⟨_,r,hr,_⟩:=dG h;rw[h]at this;simp only[nE,hr,k7]at this;exact .inr ⟨d,r,this,rfl,hr⟩
theorem dL.done(H:dL T n P R)(ed:R.up=true)(tx:Int):(aB P.done tx=none/\bB R.log 3 tx=none)\/∃ (d:Nat) (r:RecR),aB P.done tx=some ⟨d,r.yes⟩/\bB R.log 3 tx=some d/\R.log[d]? =some r:=by
 have:=(H.kl ed).done tx;rw[H.log]at this;cases h:bB R.log 3 tx with
 |none=>rw[h]at this;exact .inl ⟨this,rfl⟩
 |some d=>
  obtain⟨_,r,hr,_⟩:=dG h;rw[h]at this;simp only[nE,hr,k7]at this;exact .inr ⟨d,r,this,rfl,hr⟩
theorem dL.pend(H:dL T n P R)(ed:R.up=true)(tx:Int):(aB P.pend tx=none/\bF R.log tx=none)\/∃ (d:Nat) (r:RecR) (ops:List cr),aB P.pend tx=some ⟨d,r.home,r.ops⟩/\bF R.log tx=some d/\R.log[d]? =some r/\
  opsOf T tx=some ops/\bX ops R.me n=true/\r.ops=aV ops R.me n/\r.home=fW ops n:=by
 have:=(H.kl ed).pend tx;rw[H.log]at this;cases h:bF R.log tx with
 |none=>rw[h]at this;exact .inl ⟨this,rfl⟩
 |some d=>
  obtain⟨_,r,hr,_⟩:=dG (ez h).2;rw[h]at this;simp only[nE,hr,k7]at this;obtain⟨ops,h1,h2,h3,h4,_⟩:=H.BG.ready (by rw[H.log];exact h) (by rw[H.log];exact hr);exact .inr ⟨d,r,ops,this,rfl,hr,h1,h2,h3,h4⟩
theorem dL.len(H:dL T n P R):P.log.length=R.log.length:=by rw[<- H.log];simp
theorem dL.qq(H:dL T n P R)(ed:R.up=true){e:aY}{P':dT}{R':ShR}(Un:gC T n R.me (P.log++[e]))(hP:P'={P with log:=P.log++[e],aH:=P'.aH,pend:=P'.pend,done:=P'.done,cf:=P'.cf,values:=P'.values})
  (hR:R'={R with log:=R.log++[e.a8],aH:=R'.aH,bD:=R'.bD}) (xW:KL (P.log++[e]) P' R'.aH R'.bD):dL T n P' R':=by
 have e1:P'.log=P.log++[e]:=by rw[hP]
 have e2:R'.log=R.log++[e.a8]:=by rw[hR]
 have XX:∀ tx,(bB R.log 2 tx).isSome=true->(bB R'.log 2 tx).isSome=true:=λtx h=>by
  rw[e2,eW];split
  ·rfl
  ·exact h
 have aaW:R'.up=R.up:=by rw[hR]
 have Uo:R'.me=R.me:=by rw[hR]
 refine⟨by rw[hP,hR];exact H.me,by rw[Uo];exact H.mb,by rw[hP];exact H.n1,by rw[hR];exact H.n2,by rw[hP,hR];exact H.up,by rw[e1,e2,<- H.log];simp,by rw[Uo,e1];exact Un,by rw[hP,hR];exact H.aX,?_,by rw[hP,hR];exact H.timers,by rw[hP,hR];exact H.clock,by rw[hP,hR];exact H.waits,by rw[hP,hR];exact H.out,by rw[hR];exact H.wo,by rw[hR];exact H.oo,by rw[hR];exact H.tt,λ_=>by rw[e1];exact xW,λh=>?_,λh=>?_,λh u hu hd=>XX _ (H.ud ed u (by rw[hR]at hu;exact hu) hd),λh=>?_⟩
 ·have hg:=H.gl;rw[e2];have:R'.aX=R.aX:=by rw[hR]
  rw[this];simp;omega
 ·rw[hP];exact H.un ed
 ·rw[Uo,hP,hR];exact H.cg ed
 ·rw[aaW,ed]at h;cases h
theorem JL(H:dL T n P R)(hT:y8 T)(hn:0<n)(ed:R.up=true)(hm:i5 T n m)(hk:m.kind=1)(rU:m.to=R.me):dL T n (lI P m) (lH R m):=by
 obtain⟨ops,ho,hc⟩:=hm;have hc:m.aU= -1/\m.to=fW ops n/\m.ops=ops:=by rcases hc with h|h|h|h|h|h|h<;>first|exact h.2|exact⟨h.2.1,h.2.2.1⟩|(have:=h.1;omega)
 obtain⟨h1,h2,h3⟩:=hc;unfold lI lH;rcases H.cf ed m.tx with⟨d1,d2⟩|⟨d,r,d1,d2,d3⟩
 ·rw[d1,d2];simp only;rcases ov (H.cg ed) m.tx with⟨u1,u2⟩|⟨i,a,u,u1,u2,_⟩
  ·rw[u1,u2];simp only[I7,ij,fB];have hu:ko T n R.me (m.tx,⟨m.ops,[],[],false,false⟩) ⟨m.tx,m.ops,[],false,false,[]⟩:=⟨rfl,⟨rfl,rfl,rfl,λk=>rfl,by simp,by simp,λk=>rfl,by simp,by simp,by simp⟩,by rw[h3];exact ho,by rw[h3,<- h2];exact rU⟩;have hud:∀ u∈R.under++[(⟨m.tx,m.ops,[],false,false,[]⟩:gM)],u.dec=true->(bB R.log 2 u.tx).isSome=true:=λu hu hd=>by
    rcases bU.1 hu with h|h
    ·exact H.ud ed u h hd
    ·obtain rfl:=dF.1 h;cases hd
   have H1:dL T n {P with cg:=bA P.cg m.tx ⟨m.ops,[],[],false,false⟩} {R with under:=R.under++[⟨m.tx,m.ops,[],false,false,[]⟩]}:=
    {H with kl:=λh=>(H.kl h).aS,dn:=λh=>absurd (ed.symm.trans h:true=false) (by decide),un:=λ_=>eU (H.un ed),cg:=λ_=>Qo (H.cg ed) u2 hu,ud:=λ_=>hud}
   have key:=xZ (J:=λp r=>dL T n p r/\r.me=R.me) (ops:=m.ops) (f:=λz k p=>eJ z {bj with kind:=2,to:=k,tx:=m.tx,ops:=p}) (g:=λz k p=>cu z {bj with kind:=2,to:=k,tx:=m.tx,ops:=p}) H1.n1 H1.n2
    (λp r k hj ht _ _=>⟨hj.1.send ⟨ops,ho,.inr (.inl ⟨rfl,by show r.me=_;rw[hj.2,<- rU,h2],by rw[<- h3];exact ht,by show aV m.ops k n=aV ops k n;rw[h3]⟩)⟩,hj.2⟩) ⟨H1,rfl⟩
   exact key.1.rT (by rw[ho];rfl)
  ·rw[u1,u2];simpa using H
 ·rw[d1,d2];simp only;rw[H.aX];split
  ·have hl:(P.log[(d:Int).toNat]?.map aY.a8).getD eh=r:=by
    have:(P.log.map aY.a8)[d]? =some r:=by rw[H.log];exact d3
    rw[kG]at this;simp[this]
   rw[hl,d3,jU];exact H.send ⟨ops,ho,.inr (.inr (.inr (.inr (.inr (.inr ⟨rfl,rfl,rfl⟩)))))⟩
  ·exact H
theorem Qw(H:dL T n P R)(ed:R.up=true)(hm:i5 T n m)(hk:m.kind=6)(rU:m.to=R.me):dL T n (zw P m) (wj R m):=by
 obtain⟨ops,ho,hc⟩:=hm;have hc:m.to=fW ops n/\bX ops m.aU n=true:=by rcases hc with h|h|h|h|h|h|h<;>first|exact h.2|exact⟨h.2.1,h.2.2.1⟩|(have:=h.1;omega)
 have hdm:∀ (y:Bool),i5 T n {({bj with kind:=4,to:=m.aU,tx:=m.tx,yes:=y}:MsgR)with aU:=R.me}:=λy=>⟨ops,ho,.inr (.inr (.inr (.inl ⟨rfl,by show R.me=_;rw[<- rU,hc.1],hc.2,rfl⟩)))⟩;unfold zw wj;rcases H.cf ed m.tx with⟨d1,d2⟩|⟨d,r,d1,d2,d3⟩
 ·rw[d1,d2];simp only;rcases ov (H.cg ed) m.tx with⟨u1,u2⟩|⟨i,a,u,u1,u2,_⟩
  ·rw[u1,u2];simp only[I7,ij,fB];have H1:=H.qq ed (e:=.dec m.tx false []) (P':={P with log:=P.log++[.dec m.tx false []],cf:=bA P.cf m.tx ⟨P.log.length,false⟩}) (R':={R with log:=R.log++[{eh with kind:=2,tx:=m.tx}]})
    (.dec H.BG (by rw[ho];rfl)) rfl rfl (KL.dec (tx:=m.tx) (yes:=false) (reads:=[]) (H.kl ed)).aS
   exact H1.wait ed (hdm false)
  ·rw[u1,u2];simpa using H
 ·rw[d1,d2];simp only;rw[H.aX];split
  ·rw[d3,jU];exact H.send (hdm _)
  ·exact H
theorem seen_eq{V:List Int}{vs:List (Int×Int)}(hv:∀ k,97<=k->k<=122->(aB vs k).getD 0=V[(k-97).toNat]?.getD 0){ops:List cr}(ho:∀ o∈ops,97<=o.k/\o.k<=122):g9 vs ops=gS V ops:=by unfold g9 gS;refine List.map_congr_left λo h=>?_;have:=ho o (gP.1 h).1;exact hv _ this.1 this.2
theorem Au(V:List Int)(ops:List cr):(gS V ops).length=Ir ops:=by simp[gS,Ir]
theorem D5(H:dL T n P R)(hT:y8 T)(ed:R.up=true)(hm:i5 T n m)(hk:m.kind=2)(rU:m.to=R.me):dL T n (fH P m) (gB R m):=by
 obtain⟨ops,ho,hc⟩:=hm;have hc:m.aU=fW ops n/\bX ops m.to n=true/\m.ops=aV ops m.to n:=by rcases hc with h|h|h|h|h|h|h<;>first|exact h.2|exact⟨h.2.1,h.2.2.1⟩|(have:=h.1;omega)
 obtain⟨h1,h2,h3⟩:=hc;rw[rU]at h2 h3;have hr:=hT.of ho;have wq:∀ o∈m.ops,97<=o.k/\o.k<=122:=by rw[h3];exact hr.key
 have pa:i5 T n {({bj with kind:=3,to:=m.aU,tx:=m.tx}:MsgR)with aU:=R.me}:=⟨ops,ho,.inr (.inr (.inl ⟨rfl,h1,h2,(λh=>by cases h),rfl⟩))⟩;have XY:∀ l:List Int,l.length=Ir (aV ops R.me n)->i5 T n {({bj with kind:=3,to:=m.aU,tx:=m.tx,yes:=true,reads:=l}:MsgR)with aU:=R.me}:=λl hl=>⟨ops,ho,.inr (.inr (.inl ⟨rfl,h1,h2,(λ_=>hl),rfl⟩))⟩;have K:=H.kl ed;unfold fH gB;rcases H.pend ed m.tx with⟨p1,p2⟩|⟨d,r,Uq,p1,p2,p3,p4,p5,p6,p7⟩
 ·rw[p1,p2];simp only;rcases H.done ed m.tx with⟨d1,d2⟩|⟨d,r,d1,d2,d3⟩
  ·rw[d1,d2];simp only;have zq:(m.ops.any λo=>(aB P.aH o.k).isSome)=m.ops.any λo=>decide (iT R.aH o.k>=0):=by
    have uY:∀ o:cr,(aB P.aH o.k).isSome=decide (iT R.aH o.k>=0):=λo=>by
     unfold iT;rw[K.lock];cases hf:R.aH.find? λh=>h.key==o.k with
     |none=>rfl
     |some h=>
      obtain⟨i,r,e1,e2,_⟩:=K.lk h (zU hf);obtain⟨Uq,e3,_⟩:=H.BG.ready e1 e2;have:=(oq e3).1;simp only[k7,Option.isSome_some,jU]
      symm;simpa using this
    simp only[uY]
   rw[<- zq];split
   ·exact H.send pa
   ·rename_i y3;have Iw:∀ o∈m.ops,aB P.aH o.k=none:=λo hm=>by have:¬ (aB P.aH o.k).isSome=true:=λz=>y3 (m6.2 ⟨o,hm,z⟩);simpa using this
    have e1:bB (P.log.map aY.a8) 3 m.tx=none:=by rw[H.log];exact d2
    have e0:bB (P.log.map aY.a8) 1 m.tx=none:=by unfold bF at p2;rw[d2]at p2;rw[H.log];simpa using p2
    have Un:gC T n R.me (P.log++[.eZ m.tx m.aU m.ops]):=by
     have:=gC.eZ H.BG ho h2 e0 e1 (λt i r wC hi o po o' aaX e=>by have:=K.lo t i r wC hi o po;have h4:=(oj K.ln).2 this;rw[<- K.lock,e,Iw o' (by rw[h3];exact aaX)]at h4;cases h4)
     rw[h1,h3];exact this
    have H1:=H.qq ed (e:=.eZ m.tx m.aU m.ops) (P':=rO {P with log:=P.log++[.eZ m.tx m.aU m.ops]} m.tx m.aU m.ops P.log.length) (R':={R with aH:=i3 R.aH m.tx m.ops,log:=R.log++[{eh with kind:=1,tx:=m.tx,home:=m.aU,ops:=m.ops}]})
     Un rfl rfl (KL.eZ (P:=P) (home:=m.aU) K e0 e1 Iw (by rw[h3];exact hr.nod)).aS
    have tZ:g9 (rO {P with log:=P.log++[.eZ m.tx m.aU m.ops]} m.tx m.aU m.ops P.log.length).values m.ops=gS R.bD m.ops:=seen_eq K.bD wq;rw[tZ];have H2:=H1.wait ed (m:={bj with kind:=3,to:=m.aU,tx:=m.tx,yes:=true,reads:=gS R.bD m.ops}) (XY _ (by rw[Au,h3]));exact H2.rT (tx:=m.tx) (ticks:=3) (ag:=false) (by rw[ho];rfl)
  ·rw[d1,d2];simp only;rw[d3,jU];split
   ·exact H
   ·exact H.send pa
 ·rw[p1,p2];simp only;rw[p3,jU];rw[H.aX];rw[ho]at p4;obtain rfl:=bS p4;split
  ·have:g9 P.values r.ops=gS R.bD r.ops:=seen_eq K.bD (by rw[p6];exact hr.key);rw[this];exact H.send (XY _ (by rw[Au,p6]))
  ·exact H
theorem Gw(H:dL T n P R)(hT:y8 T)(ed:R.up=true)(hm:i5 T n m)(hk:m.kind=4)(rU:m.to=R.me):dL T n (iU P m) (iD R m):=by
 obtain⟨ops,ho,hc⟩:=hm;have hc:m.aU=fW ops n/\bX ops m.to n=true:=by rcases hc with h|h|h|h|h|h|h<;>first|exact h.2|exact⟨h.2.1,h.2.2.1⟩|(have:=h.1;omega)
 have hr:=hT.of ho;have Ur:i5 T n {({bj with kind:=5,to:=m.aU,tx:=m.tx}:MsgR)with aU:=R.me}:=⟨ops,ho,.inr (.inr (.inr (.inr (.inl ⟨rfl,hc.1,by rw[<- rU];exact hc.2,rfl⟩))))⟩;have K:=H.kl ed;have ks:=H.log;have fin:bB R.log 3 m.tx=none->∀ V',V'=(match bF R.log m.tx with|some i=>if m.yes then eC R.bD ((R.log[i]?).getD eh).ops else R.bD|none=>R.bD)->
   dL T n (oN {P with log:=P.log++[.kD m.tx m.yes]} m.tx m.yes P.log.length) {R with bD:=V',aH:=iL R.aH m.tx,log:=R.log++[{eh with kind:=3,tx:=m.tx,yes:=m.yes}]}:=λh3 V' hV=>by
  have ZE:bB (P.log.map aY.a8) 3 m.tx=none:=by rw[H.log];exact h3
  refine H.qq ed (e:=.kD m.tx m.yes) (.kD H.BG (by rw[ho];rfl) ZE) rfl rfl (KL.kD (P:=P) (yes:=m.yes) K ZE (λi r wC hi=>?_) (by rw[H.log];exact hV)).aS;obtain⟨Uq,e1,_,e2,_⟩:=H.BG.ready wC hi;rw[e2];exact(hT.of e1).key
 unfold iU iD;rcases H.pend ed m.tx with⟨p1,p2⟩|⟨d,r,Uq,p1,p2,p3,p4,p5,p6,p7⟩
 ·rw[p1,p2];simp only;rcases H.done ed m.tx with⟨d1,d2⟩|⟨d,r,d1,d2,d3⟩
  ·rw[d1,d2];simp only;split
   ·exact H
   ·have Iw:iL R.aH m.tx=R.aH:=by
     unfold iL;rw[List.filter_eq_self];intro h hh;obtain⟨i,r,e1,_⟩:=K.lk h hh;have:h.tx≠m.tx:=λe=>by rw[e,H.log,p2]at e1;cases e1
     simpa using this
    have:=fin d2 R.bD (by rw[p2]);rw[Iw]at this;exact this.wait ed Ur
  ·rw[d1,d2];simp only;rw[H.aX];split
   ·exact H.send Ur
   ·exact H
 ·rw[p1,p2];simp only;rw[p3,jU];have:=fin (ez p2).1 (if m.yes then eC R.bD r.ops else R.bD) (by rw[p2];simp only[p3,jU]);have key:=this.wait ed Ur;cases hy:m.yes with
  |true=>rw[hy]at key;exact key
  |false=>rw[hy]at key;exact key
theorem rV{u v:gM}(h:u.aR=v.aR)(n:Int):∀ (l:List cr) (used:Int->Nat),eB u n l used=eB v n l used
 |[],_=>rfl
 |o::l,used=>by
  have hv:∀ k,bK u k=bK v k:=λk=>by unfold bK;rw[h]
  unfold eB;simp only[hv,rV h n l]
theorem x6{a:ll}{b:gM}(ua:UA n a b)(iK:∀ k,bX b.ops k n=true->(aB a.aR k).isSome=true):∀ (l:List cr) (next:List (Int×Int)) (used:Int->Nat),(∀ k,(aB next k).getD 0=(used k:Int))->
  (∀ k,used k+Ir (aV l k n)<=Ir (aV b.ops k n))->(∀ o∈l,o∈b.ops)->g8 a n l next=some (eB b n l used)
 |[],_,_,_,_,_=>rfl
 |o::l,next,used,h1,h2,h3=>by
  unfold g8 eB;have hp:aV (o::l) (gU o.k n) n=o::aV l (gU o.k n) n:=by simp[aV]
  have Ph:∀ k,k≠gU o.k n->aV (o::l) k n=aV l k n:=λk hk=>by simp[aV,iP hk]
  cases hw:o.w with
  |true=>
   simp only[eM];refine x6 ua iK l next used h1 (λk=>?_) λo ho=>h3 o (gb _ ho);have:=h2 k;by_cases e:k=gU o.k n
   ·subst e;rw[hp]at this;simpa[Ir,hw]using this
   ·rw[Ph k e]at this;exact this
  |false=>
   simp only[ij,fB];have ho:o∈b.ops:=h3 o (iz ..);have ht:bX b.ops (gU o.k n) n=true:=by
    unfold bX;have:o∈aV b.ops (gU o.k n) n:=by simp[aV,ho]
    have eI:aV b.ops (gU o.k n) n≠[]:=λe=>by rw[e]at this;cases this
    cases hh:aV b.ops (gU o.k n) n with
    |nil=>exact absurd hh eI
    |cons _ _=>rfl
   obtain⟨rs,pB⟩:=tv.1 (iK _ ht);have hlen:=(ua.vt _ (bT pB)).2;simp only at hlen;have hv:(bK b (gU o.k n)).map (·.reads)=some rs:=by rw[<- ua.aR];exact pB
   rw[pB,hv];simp only[jU,h1];have dA:used (gU o.k n)<rs.length:=by have:=h2 (gU o.k n);rw[hp]at this;simp only[Ir,tD,hw,Bg,eM,jc]at this hlen;omega
   have hi:((used (gU o.k n):Nat):Int).toNat=used (gU o.k n):=az;rw[hi,e9 dA];simp only[jU];rw[x6 ua iK l (bA next (gU o.k n) ((used (gU o.k n):Nat)+1)) (λj=>if j=gU o.k n then used (gU o.k n)+1 else used j) (λk=>by
     rw[fx];by_cases e:k=gU o.k n
     ·simp[e]
     ·simp[e,h1]) (λk=>by
     have:=h2 k;by_cases e:k=gU o.k n
     ·subst e;rw[hp]at this;simp only[Ir,tD,hw,Bg,eM,jc]at this⊢;omega
     ·rw[Ph k e]at this;simp only[ao e];exact this) λo ho=>h3 o (gb _ ho)]
   rfl
theorem D6{a:ll}{b:gM}(ua:UA n a b)(iK:∀ k,bX b.ops k n=true->(aB a.aR k).isSome=true):lJ a n=some (jo b n):=by unfold lJ jo;rw[ua.ops];exact x6 ua iK b.ops [] (λ_=>0) (λk=>rfl) (λk=>by simp) λo h=>h
theorem Nu(H:dL T n P R)(hT:y8 T)(hn:0<n)(ed:R.up=true)(hm:i5 T n m)(hk:m.kind=3)(rU:m.to=R.me):dL T n (pg P m) (pf R m):=by
 obtain⟨ops,ho,hc⟩:=hm;have hc:m.to=fW ops n/\bX ops m.aU n=true/\(m.yes=true->m.reads.length=Ir (aV ops m.aU n)):=by rcases hc with h|h|h|h|h|h|h<;>first|exact⟨h.2.1,h.2.2.1,h.2.2.2.1⟩|(have:=h.1;omega)
 obtain⟨c1,c2,c3⟩:=hc;have hr:=hT.of ho;unfold pg pf;rcases ov (H.cg ed) m.tx with⟨u1,u2⟩|⟨i,a,u,u1,u2,u3,u4,hu⟩
 ·rw[u1,u2];exact H
 ·rw[u1,u2];simp only;rw[u3];simp only;have cJ:u.ops=ops:=by have:=hu.ops;rw[u4,ho]at this;exact(bS this).symm
  by_cases hd:u.dec=true
  ·rw[aK (hu.ua.dec.trans hd),aK hd];exact H
  ·rw[ao (λz=>hd (hu.ua.dec.symm.trans z)),ao hd];have hd:u.dec=false:=by simpa using hd
   have zE:(aB a.aR m.aU).isSome=(bK u m.aU).isSome:=by rw[hu.ua.aR];simp
   rw[zE];obtain⟨a1,Lg⟩:∃ a1,a1=(if(m.yes&& !(bK u m.aU).isSome)=true then{a with aR:=bA a.aR m.aU m.reads}else a):=⟨_,rfl⟩;obtain⟨v1,tM⟩:∃ v1,v1=(if(m.yes&& !(bK u m.aU).isSome)=true then{u with aR:=u.aR++[⟨m.aU,m.reads⟩]}else u):=⟨_,rfl⟩;rw[<- Lg,<- tM];have l3:ko T n R.me (m.tx,a1) v1:=by
    by_cases hb:(m.yes&& !(bK u m.aU).isSome)=true
    ·rw[aK hb]at Lg tM;subst Lg tM;have nI:m.yes=true/\(bK u m.aU).isSome=false:=by simpa using hb
     refine⟨hu.tx,⟨hu.ua.ops,hu.ua.dec,hu.ua.yes,λk=>?_,eU hu.ua.vn,hu.ua.an,hu.ua.bG,hu.ua.ap,λp hp=>?_,hu.ua.XO⟩,hu.ops,hu.home⟩
     ·show aB (bA a.aR m.aU m.reads) k=_;rw[fx,hu.ua.aR];unfold bK;simp only;rw[LR];by_cases e:k=m.aU
      ·subst e;have:List.find? (λv=>v.aU==m.aU) u.aR=none:=by have:=nI.2;unfold bK at this;simpa using this
       simp[this]
      ·have:(m.aU==k)=false:=by simpa using λz=>e z.symm
       simp[e,this]
     ·rcases dY hp with rfl|hp
      ·show bX u.ops m.aU n=true/\m.reads.length=Ir (aV u.ops m.aU n);rw[cJ];exact⟨c2,c3 nI.1⟩
      ·exact hu.ua.vt p hp
    ·rw[ao hb]at Lg tM;subst Lg tM;exact hu
   have Nv:v1.ops=ops:=by rw[tM];split<;>exact cJ
   have hvt:v1.tx=m.tx:=by rw[tM];split<;>exact u4
   have Dh:a1.ops=ops:=l3.ua.ops.trans Nv;have Ix:(m.yes&&decide (a1.aR.length<(dg a1.ops P.n).length))=(m.yes&& !mG R.n v1.ops λk=>(bK v1 k).isSome):=by
    rw[H.n1,H.n2,Dh,Nv]
    congr 1
    have e1:=sE (n:=n) (ops:=ops) l3.ua.vn (λp hp=>by have:=(l3.ua.vt p hp).1;rw[Nv]at this;exact this);have e2:=vd (n:=n) (ops:=ops) (p:=λk=>(bK v1 k).isSome) hr hn;have e3:∀ k,(aB a1.aR k).isSome=(bK v1 k).isSome:=λk=>by rw[l3.ua.aR];simp
    simp only[e3]at e1;rw[<- e1]at e2;cases hA:mG n ops λk=>(bK v1 k).isSome with
    |true=>rw[hA]at e2;have:=e2.1 rfl;simp;omega
    |false=>
      rw[hA]at e2;have:¬ (dg ops n).length<=a1.aR.length:=λz=>by have:=e2.2 z;cases this
      simp;omega
   rw[Ix];split
   ·
    exact{H with kl:=λh=>(H.kl h).aS,dn:=λh=>absurd (ed.symm.trans h:true=false) (by decide),un:=λ_=>eU (H.un ed),cg:=λ_=>BH (H.cg ed) u2 l3,ud:=λ_ w hw Qx=>by{
     rcases fN hw with h|rfl
     ·exact H.ud ed w h Qx
     ·have:w.dec=false:=by rw[tM];split<;>exact hd
      rw[this]at Qx;cases Qx}}
   ·rename_i sF;have iS:(if m.yes=true then(lJ a1 P.n).getD []else[])=if m.yes=true then jo {v1 with dec:=true,yes:=m.yes} R.n else[]:=by
     split
     ·rename_i hy;have iK:∀ k,bX v1.ops k n=true->(aB a1.aR k).isSome=true:=by
       have:(mG R.n v1.ops λk=>(bK v1 k).isSome)=true:=by rw[hy]at sF;simpa using sF
       rw[H.n2,Nv]at this;have:=(vd hr hn).1 this;intro k hk;rw[Nv]at hk;rw[l3.ua.aR];simpa using this k hk
      rw[H.n1,H.n2,D6 l3.ua iK,jU];unfold jo;exact rV (u:=v1) (v:={v1 with dec:=true,yes:=m.yes}) rfl n _ _
     ·rfl
    rw[iS];generalize afc:(if m.yes=true then jo {v1 with dec:=true,yes:=m.yes} R.n else[])=rd;have H1:=H.qq ed (e:=.dec m.tx m.yes rd) (P':={P with log:=P.log++[.dec m.tx m.yes rd],cf:=bA P.cf m.tx ⟨P.log.length,m.yes⟩}) (R':={R with log:=R.log++[{eh with kind:=2,tx:=m.tx,yes:=m.yes,reads:=rd}]})
     (.dec H.BG (by rw[ho];rfl)) rfl rfl (KL.dec (tx:=m.tx) (yes:=m.yes) (reads:=rd) (H.kl ed)).aS
    have aaY:ko T n R.me (m.tx,{a1 with dec:=true,yes:=m.yes}) {v1 with dec:=true,yes:=m.yes}:=⟨l3.tx,⟨l3.ua.ops,rfl,rfl,l3.ua.aR,l3.ua.vn,l3.ua.an,l3.ua.bG,l3.ua.ap,l3.ua.vt,l3.ua.XO⟩,l3.ops,l3.home⟩;have H2:dL T n {P with cg:=bA P.cg m.tx {a1 with dec:=true,yes:=m.yes},log:=P.log++[.dec m.tx m.yes rd],cf:=bA P.cf m.tx ⟨P.log.length,m.yes⟩} {R with under:=R.under.set i {v1 with dec:=true,yes:=m.yes},log:=R.log++[{eh with kind:=2,tx:=m.tx,yes:=m.yes,reads:=rd}]}:=
     {H1 with kl:=λh=>(H1.kl h).aS,dn:=λh=>absurd (ed.symm.trans h:true=false) (by decide),un:=λ_=>eU (H.un ed),cg:=λ_=>BH (H.cg ed) u2 aaY,ud:=λ_ w hw Qx=>by{
      rcases fN hw with h|rfl
      ·exact H1.ud ed w h Qx
      ·show(bB (R.log++[_]) 2 v1.tx).isSome=true;rw[eW,hvt];simp[isRec]}}
    have Uo:∀ {r:ShR},r.me=R.me->r.me=fW ops n:=λe=>by rw[e,<- rU,c1]
    have H3:=xZ (J:=λp r=>dL T n p r/\r.me=R.me/\r.up=true) (ops:=a1.ops) (f:=λz k _=>iw z {bj with kind:=4,to:=k,tx:=m.tx,yes:=m.yes}) (g:=λz k _=>eP z {bj with kind:=4,to:=k,tx:=m.tx,yes:=m.yes}) H2.n1 H2.n2
     (λp r k hj ht _ _=>⟨hj.1.wait hj.2.2 ⟨ops,ho,.inr (.inr (.inr (.inl ⟨rfl,Uo hj.2.1,by rw[<- Dh];exact ht,rfl⟩)))⟩,hj.2.1,hj.2.2⟩) ⟨H2,rfl,ed⟩
    have e4:(a1.ops:List cr)=v1.ops:=l3.ua.ops;rw[e4]at H3⊢;exact H3.1.wait H3.2.2 ⟨ops,ho,.inr (.inr (.inr (.inr (.inr (.inr ⟨rfl,rfl,rfl⟩)))))⟩
theorem Qy(H:dL T n P R)(hT:y8 T)(hn:0<n)(ed:R.up=true)(hm:i5 T n m)(hk:m.kind=5)(rU:m.to=R.me):dL T n (xF P m) (wi R m):=by
 obtain⟨ops,ho,hc⟩:=hm;have hc:m.to=fW ops n/\bX ops m.aU n=true:=by rcases hc with h|h|h|h|h|h|h<;>first|exact h.2|exact⟨h.2.1,h.2.2.1⟩|(have:=h.1;omega)
 have hr:=hT.of ho;unfold xF wi;rcases ov (H.cg ed) m.tx with⟨u1,u2⟩|⟨i,a,u,u1,u2,u3,u4,hu⟩
 ·rw[u1,u2];exact H
 ·rw[u1,u2];simp only;rw[u3];simp only;have cJ:u.ops=ops:=by have:=hu.ops;rw[u4,ho]at this;exact(bS this).symm
  by_cases hd:u.dec=true
  case neg=>rw[aK (by rw[hu.ua.dec];simpa using hd),aK (by simpa using hd)];exact H
  case pos=>
   have n1:¬ (!a.dec)=true:=by rw[hu.ua.dec,hd];simp
   have n2:¬ (!u.dec)=true:=by rw[hd];simp
   rw[ao n1,ao n2];have V0:0<=(aB a.bG m.aU).getD 0:=by
    cases hg:aB a.bG m.aU with
    |none=>simp
    |some c=>have:=hu.ua.ap _ (bT hg);simp at this⊢;omega
   have l3:ko T n R.me (m.tx,{a with bG:=bA a.bG m.aU ((aB a.bG m.aU).getD 0+1)}) {u with bG:=u.bG++[m.aU]}:=by
    refine⟨hu.tx,⟨hu.ua.ops,hu.ua.dec,hu.ua.yes,hu.ua.aR,hu.ua.vn,eU hu.ua.an,λk=>?_,λp hp=>?_,hu.ua.vt,λp hp=>?_⟩,hu.ops,hu.home⟩
    ·show(aB (bA a.bG m.aU _) k).isSome=(u.bG++[m.aU]).contains k;rw[fx];by_cases e:k=m.aU
     ·subst e;simp
     ·rw[ao e,hu.ua.bG];simp[e]
    ·rcases dY hp with rfl|hp
     ·show 0<(aB a.bG m.aU).getD 0+1;omega
     ·exact hu.ua.ap p hp
    ·rcases dY hp with rfl|hp
     ·show bX u.ops m.aU n=true;rw[cJ];exact hc.2
     ·exact hu.ua.XO p hp
   have Ix:((bA a.bG m.aU ((aB a.bG m.aU).getD 0+1)).length=(dg a.ops P.n).length)↔(mG R.n u.ops λk=>(u.bG++[m.aU]).contains k)=true:=by have e0:a.ops=ops:=hu.ua.ops.trans cJ;rw[H.n1,H.n2,e0,cJ,vd hr hn,JD l3.ua.an (λp hp=>by have:=l3.ua.XO p hp;simp only[cJ]at this;exact this)];have:=l3.ua.bG;simp only at this;simp only[this]
   by_cases hA:(mG R.n u.ops λk=>(u.bG++[m.aU]).contains k)=true
   ·rw[aK (Ix.2 hA),aK hA];have aaZ:ee (bA P.cg m.tx {a with bG:=bA a.bG m.aU ((aB a.bG m.aU).getD 0+1)}) m.tx=ee P.cg m.tx:=Is _ _ _ (by rw[u1];rfl);rw[aaZ];exact{H with kl:=λh=>(H.kl h).aS,dn:=λh=>absurd (ed.symm.trans h:true=false) (by decide),un:=λ_=>mB (H.un ed),cg:=λ_=>Qp (H.cg ed) u2,ud:=λ_ w hw Qx=>H.ud ed w ((ju ..).mem hw) Qx}
   ·rw[ao (λz=>hA (Ix.1 z)),ao hA];exact{H with kl:=λh=>(H.kl h).aS,dn:=λh=>absurd (ed.symm.trans h:true=false) (by decide),un:=λ_=>eU (H.un ed),cg:=λ_=>BH (H.cg ed) u2 l3,ud:=λ_ w hw Qx=>by{
     rcases fN hw with h|rfl
     ·exact H.ud ed w h Qx
     ·exact H.ud ed u (eY u3) hd}}
theorem D7(H:dL T n P R)(hT:y8 T)(hn:0<n)(ed:R.up=true)(hm:i5 T n m)(rU:m.to=R.me):dL T n (qi P m) (jl R m):=by
 unfold qi jl;split
 ·rename_i h;exact JL H hT hn ed hm h rU
 split
 ·rename_i h;exact D5 H hT ed hm h rU
 split
 ·rename_i h;exact Nu H hT hn ed hm h rU
 split
 ·rename_i h;exact Gw H hT ed hm h rU
 split
 ·rename_i h;exact Qy H hT hn ed hm h rU
 split
 ·rename_i h;exact Qw H ed hm h rU
 ·exact H
theorem D8(H:dL T n P R)(ed:R.up=true):dL T n (rP P) (xD R):=by
 unfold rP xD;refine{H with kl:=λh=>(H.kl h).aS,aX:=?_,gl:=?_,waits:=rfl,out:=?_,wo:=?_,oo:=?_,dn:=?_}
 ·show((P.log.length:Nat):Int)=(R.log.length:Nat);rw[H.len]
 ·show(0:Int)<=((R.log.length:Nat):Int)/\_;exact⟨az,rG _⟩
 ·show P.out++P.waits=R.out++R.waits;rw[H.out,H.waits]
 ·intro x hx;cases hx
 ·intro x hx;rcases bU.1 hx with h|h
  ·exact H.oo x h
  ·exact H.wo x h
 ·intro h;have h:R.up=false:=h;rw[ed]at h;cases h
theorem Av(H:dL T n P R)(keep:Int):dL T n (mI P keep) (oM R keep):=by
 have hg:=H.gl;have hlen:=H.len;have e:P.aX+min (max keep 0) ((P.log.length:Int)-P.aX)=R.aX+(if(if keep<0 then 0 else keep)<(R.log.length:Int)-R.aX then(if keep<0 then 0 else keep)else(R.log.length:Int)-R.aX):=by rw[H.aX,hlen];split<;>split<;>omega
 unfold mI oM;simp only;rw[e];generalize Wl:R.aX+(if(if keep<0 then 0 else keep)<(R.log.length:Int)-R.aX then(if keep<0 then 0 else keep)else(R.log.length:Int)-R.aX)=g;have hb:0<=g/\g<=R.log.length:=by rw[<- Wl];split<;>split<;>omega
 refine⟨H.me,H.mb,H.n1,H.n2,rfl,?_,H.BG.init _,rfl,⟨hb.1,?_⟩,rfl,rfl,rfl,H.out,(λx hx=>by cases hx),H.oo,(λx hx=>by cases hx),(λh=>by cases h),(λh=>by cases h),(λh=>by cases h),(λh=>by cases h),λ_=>⟨rfl,rfl,rfl,rfl,rfl,rfl⟩⟩
 ·show(P.log.take g.toNat).map aY.a8=R.log.take g.toNat;rw[C3,H.log]
 ·show g<=((R.log.take g.toNat).length:Nat);rw[ik];omega
variable{me:Int}
def Us(T:List (List cr))(n me:Int)(E:List aY):aY->Prop
 |.eZ tx home ops=>∃ full,opsOf T tx=some full/\bX full me n=true/\home=fW full n/\ops=aV full me n/\bB (E.map aY.a8) 1 tx=none/\bB (E.map aY.a8) 3 tx=none/\
    (∀ t i r,bF (E.map aY.a8) t=some i->(E.map aY.a8)[i]? =some r->∀ o∈r.ops,∀ o'∈ops,o.k≠o'.k)
 |.dec tx _ _=>(opsOf T tx).isSome=true
 |.kD tx _=>(opsOf T tx).isSome=true/\bB (E.map aY.a8) 3 tx=none
theorem gC.inv{E:List aY}{e:aY}(h:gC T n me (E++[e])):gC T n me E/\Us T n me E e:=by
 generalize hF:E++[e]=F at h;cases h with
 |nil=>simp at hF
 |eZ h1 h2 h3 h4 h5 h6=>
  obtain⟨rfl,e2⟩:=LW hF rfl;obtain rfl:=LX.1 e2;exact⟨h1,_,h2,h3,rfl,rfl,h4,h5,h6⟩
 |dec h1 h2=>
  obtain⟨rfl,e2⟩:=LW hF rfl;obtain rfl:=LX.1 e2;exact⟨h1,h2⟩
 |kD h1 h2 h3=>
  obtain⟨rfl,e2⟩:=LW hF rfl;obtain rfl:=LX.1 e2;exact⟨h1,h2,h3⟩
theorem JM{A:Type}{l:List A}{i:Nat}{x:A}(h:l[i]? =some x):l.take (i+1)=l.take i++[x]:=by rw[List.take_add_one,h];rfl
theorem Gx(log:List RecR)(kind tx:Int)(i:Nat):findD log kind tx i=bB (log.take i) kind tx:=by
 have key:∀ i,i<=log.length->findD log kind tx i=bB (log.take i) kind tx:=λi hi=>by
  unfold bB;rw[ik,CP hi]
  conv=>lhs;rw[<- vA i log]
  exact vc _ _ _ _ _ (by rw[ik];omega)
 have over:∀ j,findD log kind tx (log.length+j)=findD log kind tx log.length:=λj=>by
  induction j with
  |zero=>rfl
  |succ j ih=>
   rw[<- Nat.add_assoc]
   conv=>lhs;unfold findD
   rw[vB az,ih];simp
 by_cases h:i<=log.length
 ·exact key i h
 ·have e:=over (i-log.length);rw[show log.length+(i-log.length)=i by omega]at e;rw[e,key _ (gZ _),iq (gZ _),iq az]
theorem x7(E:List aY)(P:dT):∀ k,∃ a b c d e,lY E k P={P with values:=a,aH:=b,pend:=c,done:=d,cf:=e}
 |0=>⟨_,_,_,_,_,rfl⟩
 |k+1=>by
  obtain⟨a,b,c,d,e,h⟩:=x7 E P k;unfold lY;cases hg:E[k]? with
  |none=>exact⟨_,_,_,_,_,h⟩
  |some x=>
   simp only;rw[h];cases x<;>exact⟨_,_,_,_,_,rfl⟩
theorem mK(E:List RecR)(R:ShR):∀ k,∃ a b,dC E k R={R with aH:=a,bD:=b}
 |0=>⟨_,_,rfl⟩
 |k+1=>by
  obtain⟨a,b,h⟩:=mK E R k;unfold dC;simp only;cases hg:E[k]? with
  |none=>exact⟨_,_,h⟩
  |some x=>
   simp only;rw[h];split
   ·exact⟨_,_,rfl⟩
   split
   ·split
    ·split<;>exact⟨_,_,rfl⟩
    ·exact⟨_,_,rfl⟩
   ·exact⟨_,_,rfl⟩
theorem Aw(hT:y8 T){E:List aY}(hE:gC T n me E)(P:dT)(R:ShR):∀ k,k<=E.length->KL (E.take k) (lY E k (i4 P)) (dC (E.map aY.a8) k (eL R)).aH (dC (E.map aY.a8) k (eL R)).bD
 |0,_=>by have:=KL.start P;simpa[lY,dC,eL]using this
 |k+1,hk=>by
  have ih:=Aw hT hE P R k az;obtain⟨x,hx⟩:∃ x,E[k]? =some x:=⟨E[k],e9 az⟩;have hl:=hE.init (k+1);rw[JM hx]at hl⊢;obtain⟨ZF,XZ⟩:=hl.inv;have hlen:(E.take k).length=k:=by rw[ik];omega
  have rq:(E.map aY.a8)[k]? =some x.a8:=by rw[kG,hx];rfl
  unfold lY dC;rw[hx,rq];simp only;cases x with
  |eZ tx home ops=>
   obtain⟨full,f1,f2,f3,f4,f5,f6,f7⟩:=XZ;have CD:(aY.eZ tx home ops).a8.kind=1:=rfl;rw[aK CD];have:=ih.eZ (tx:=tx) (home:=home) (ops:=ops) f5 f6 (λo ho=>by
    cases h:aB (lY E k (i4 P)).aH o.k with
    |none=>rfl
    |some t=>
     rw[ih.lock]at h;have hm:=(oj ih.ln).1 h;obtain⟨i,r,h1,h2,o',h3,h4⟩:=ih.lk _ hm;exact absurd h4 (f7 t i r h1 h2 o' h3 o ho)) (by rw[f4];exact(hT.of f1).nod)
   rw[hlen]at this;exact this
  |dec tx yes reads=>
   have CD:¬ (aY.dec tx yes reads).a8.kind=1:=by simp[aY.a8]
   have CL:¬ (aY.dec tx yes reads).a8.kind=3:=by simp[aY.a8]
   rw[ao CD,ao CL];have:=ih.dec (tx:=tx) (yes:=yes) (reads:=reads);rw[hlen]at this;exact this
  |kD tx yes=>
   obtain⟨_,f2⟩:=XZ;have CD:¬ (aY.kD tx yes).a8.kind=1:=by simp[aY.a8]
   have CL:(aY.kD tx yes).a8.kind=3:=rfl;rw[ao CD,aK CL];have km:bF ((E.take k).map aY.a8) tx=findD (E.map aY.a8) 1 tx k:=by unfold bF;rw[f2,Gx,C3];rfl
   have X0:∀ i,bF ((E.take k).map aY.a8) tx=some i->((E.take k).map aY.a8)[i]? =(E.map aY.a8)[i]? :=λi hi=>by have:=(dG (ez hi).2).1;rw[C3,RV (by rw[cV,hlen]at this;exact this)]
   have:=ih.kD (tx:=tx) (yes:=yes) f2 (λi r h1 h2 o ho=>by obtain⟨ops,g1,g2,g3,_⟩:=ZF.ready h1 h2;rw[g3]at ho;exact(hT.of g1).key o ho) (V':=match bF ((E.take k).map aY.a8) tx with|some i=>if yes then eC (dC (E.map aY.a8) k (eL R)).bD ((((E.take k).map aY.a8)[i]?).getD eh).ops else(dC (E.map aY.a8) k (eL R)).bD|none=>(dC (E.map aY.a8) k (eL R)).bD) rfl
   rw[hlen]at this;have e1:Ig (E.map aY.a8) (aY.kD tx yes).a8.tx k=bF ((E.take k).map aY.a8) tx:=km.symm;have e2:(aY.kD tx yes).a8.yes=yes:=rfl;rw[e1,e2];cases hq:bF ((E.take k).map aY.a8) tx with
   |none=>rw[hq]at this;exact this
   |some i=>
    rw[hq]at this;simp only at this⊢;rw[X0 i hq]at this;cases yes with
    |false=>exact this
    |true=>exact this
theorem D9(l:List Int):∀ (P:dT),l.foldl (λz tx=>jq z tx 3 false) P={P with timers:=P.timers++l.map λtx=>⟨P.clock+3,false,tx⟩}:=by
 induction l with
 |nil=>intro P;simp
 |cons x l ih=>intro P;rw[kM,ih];simp[jq]
theorem Ax(n:Int):(upto n).Pairwise (· < ·):=by unfold upto;rw[HH];exact List.pairwise_lt_range.imp λh=>Int.ofNat_lt.2 h
theorem BJ(hT:y8 T){E:List aY}(hE:gC T n me E){pend:List (Int×xE)}(hn:(pend.map (·.1)).Nodup)(hp:∀ tx,aB pend tx=(bF (E.map aY.a8) tx).bind λi=>((E.map aY.a8)[i]?).map λr=>⟨i,r.home,r.ops⟩):
  xH (pend.map (·.1))=(upto 60).filter λtx=>(bF (E.map aY.a8) tx).isSome:=by
 have s1:(xH (pend.map (·.1))).Pairwise (· <= ·):=by have:=List.pairwise_mergeSort (le:=λ(a b:Int)=>decide (a<=b)) (λa b c=>by simp;omega) (λa b=>by simp;omega) (pend.map (·.1));exact this.imp λh=>by simpa using h
 have s2:((upto 60).filter λtx=>(bF (E.map aY.a8) tx).isSome).Pairwise (· < ·):=(Ax 60).sublist HF;have X1:=List.mergeSort_perm (pend.map (·.1)) (λ(a b:Int)=>decide (a<=b));refine List.Perm.eq_of_pairwise (le:=(· <= ·)) (λa b _ _ h1 h2=>by omega) s1 (s2.imp λh=>by omega) ?_;refine(List.perm_ext_iff_of_nodup (X1.nodup_iff.2 hn) (s2.imp λh=>by omega)).2 λtx=>?_;rw[List.mem_mergeSort,gP,kp];constructor
 ·intro h;have h1:¬ aB pend tx=none:=λz=>(getM_none.1 z) h;rw[hp]at h1;cases hr:bF (E.map aY.a8) tx with
  |none=>rw[hr]at h1;exact absurd rfl h1
  |some i=>
   obtain⟨_,r,hi,_⟩:=dG (ez hr).2;obtain⟨ops,g1,_⟩:=hE.ready hr hi;have:=oq g1;have hT2:=hT.2;exact⟨⟨this.1,az⟩,rfl⟩
 ·rintro⟨_,h⟩;refine CZ.1 λz=>?_;have h1:=getM_none.2 z;rw[hp]at h1;obtain⟨i,hr⟩:=tv.1 h;obtain⟨_,r,hi,_⟩:=dG (ez hr).2;rw[hr,nE,hi]at h1;cases h1
theorem vM(H:dL T n P R)(hT:y8 T):dL T n (j9 P) (dO R):=by
 have hk:=Aw hT H.BG {P with up:=true} {R with up:=true} P.log.length (gZ _);rw[iq (gZ _)]at hk;have X2:=BJ hT H.BG hk.pn hk.pend;unfold j9 dO;simp only;rw[D9,X2];rw[H.log]at hk⊢;rw[<- H.len];obtain⟨a,b,c,d,e,hP⟩:=x7 P.log (i4 {P with up:=true}) P.log.length;obtain⟨la,lb,hR⟩:=mK R.log (eL {R with up:=true}) P.log.length;rw[hP,hR]at hk⊢;refine⟨H.me,H.mb,H.n1,H.n2,rfl,H.log,H.BG,H.aX,H.gl,?_,rfl,rfl,H.out,(λx hx=>by cases hx),H.oo,?_,λ_=>?_,λ_=>.nil,λ_=>.nil,(λ_ u hu=>by cases hu),λh=>by cases h⟩
 ·show[]++_=[]++je _;unfold je;rfl
 ·intro t ht;have ht:t∈[]++je R.log:=ht;rw[fi,<- H.log]at ht;unfold je at ht;obtain⟨tx,h1,rfl⟩:=bH.1 ht;obtain⟨_,h2⟩:=gP.1 h1;obtain⟨i,hr⟩:=tv.1 h2;obtain⟨_,r,hi,_⟩:=dG (ez hr).2;obtain⟨ops,g1,_⟩:=H.BG.ready hr hi;show(opsOf T tx).isSome=true;rw[g1];rfl
 ·exact hk.aS
theorem x8(H:dL T n P R)(k:Nat):dL T n {P with timers:=P.timers.eraseIdx k} {R with timers:=R.timers.eraseIdx k}:=
 {H with timers:=by{show P.timers.eraseIdx k=R.timers.eraseIdx k;rw[H.timers]},tt:=λt ht=>H.tt t ((ju ..).mem ht),kl:=λh=>(H.kl h).aS}
theorem Qz(H:dL T n P R)(hT:y8 T)(ed:R.up=true){t:dM}(ht:(opsOf T t.tx).isSome=true):dL T n (xG P t) (kS R t):=by
 unfold xG kS;cases hag:t.again with
 |false=>
  simp only[ij,fB,Bg,eM];rcases H.pend ed t.tx with⟨p1,p2⟩|⟨d,r,ops,p1,p2,p3,p4,p5,p6,p7⟩
  ·rw[p1,p2];exact H
  ·rw[p1,p2];simp only;rw[p3,jU];have H1:=H.send (m:={bj with kind:=6,to:=r.home,tx:=t.tx}) ⟨ops,p4,.inr (.inr (.inr (.inr (.inr (.inl ⟨rfl,p7,p5,rfl⟩)))))⟩;exact H1.rT ht
 |true=>
  simp only[eM,zR,ij,fB];unfold qj;rcases ov (H.cg ed) t.tx with⟨u1,u2⟩|⟨i,a,u,u1,u2,u3,u4,hu⟩
  ·rw[u1,u2];exact H
  ·rw[u1,u2];simp only;rw[u3];simp only;have vN:u.dec=true->decide (((aB P.cf t.tx).map (·.pl)).getD 0<P.aX)=(match bB R.log 2 t.tx with|some d=>decide ((d:Int)<R.aX)|none=>decide (-1<R.aX)):=λhd=>by
    have:=H.ud ed u (eY u3) hd;rw[u4]at this;rcases H.cf ed t.tx with⟨d1,d2⟩|⟨d,r,d1,d2,d3⟩
    ·rw[d2]at this;cases this
    ·rw[d1,d2,H.aX];rfl
   suffices ak:∀ aX:Bool,(u.dec=true->decide (((aB P.cf t.tx).map (·.pl)).getD 0<P.aX)=aX)->dL T n (jq (qg P a.ops λz k p=>
     if(!a.dec&& !(aB a.aR k).isSome)=true then eJ z {bj with kind:=2,to:=k,tx:=t.tx,ops:=p}
     else if(a.dec&&decide (((aB P.cf t.tx).map (·.pl)).getD 0<P.aX)&&decide ((aB a.bG k).getD 0=0))=true then eJ z {bj with kind:=4,to:=k,tx:=t.tx,yes:=a.yes}else z) t.tx 4 true)
     (let s1:=fV R u.ops λz k p=>
      if(!u.dec&& !(bK u k).isSome)=true then cu z {bj with kind:=2,to:=k,tx:=t.tx,ops:=p}
      else if(u.dec&&aX&& !u.bG.contains k)=true then cu z {bj with kind:=4,to:=k,tx:=t.tx,yes:=u.yes}else z
     {s1 with timers:=s1.timers++[⟨s1.clock+4,true,t.tx⟩]}) by
    cases hq:bB R.log 2 t.tx with
    |none=>rw[hq]at vN;exact ak _ vN
    |some d=>rw[hq]at vN;exact ak _ vN
   clear vN;intro aX vN;have SP:opsOf T t.tx=some u.ops:=by rw[<- u4];exact hu.ops
   have key:=xZ (J:=λp r=>dL T n p r/\r.me=R.me/\r.up=true) (ops:=a.ops)
    (f:=λz k p=>if(!a.dec&& !(aB a.aR k).isSome)=true then eJ z {bj with kind:=2,to:=k,tx:=t.tx,ops:=p}
     else if(a.dec&&decide (((aB P.cf t.tx).map (·.pl)).getD 0<P.aX)&&decide ((aB a.bG k).getD 0=0))=true then eJ z {bj with kind:=4,to:=k,tx:=t.tx,yes:=a.yes}else z)
    (g:=λz k p=>if(!u.dec&& !(bK u k).isSome)=true then cu z {bj with kind:=2,to:=k,tx:=t.tx,ops:=p}
     else if(u.dec&&aX&& !u.bG.contains k)=true then cu z {bj with kind:=4,to:=k,tx:=t.tx,yes:=u.yes}else z) H.n1 H.n2
    (λp r k hj hk _ _=>by
     have zE:(aB a.aR k).isSome=(bK u k).isSome:=by rw[hu.ua.aR];simp
     have SQ:decide ((aB a.bG k).getD 0=0)= !u.bG.contains k:=by
      have h1:=hu.ua.bG k;cases hg:aB a.bG k with
      |none=>rw[hg]at h1;simp at h1⊢;exact h1
      |some c=>
       rw[hg]at h1;have h2:=hu.ua.ap _ (bT hg);simp only at h2 h1;simp only[<- h1,jU,Option.isSome_some,zR];simp;omega
     have Ut:(a.dec&&decide (((aB P.cf t.tx).map (·.pl)).getD 0<P.aX)&&decide ((aB a.bG k).getD 0=0))=(u.dec&&aX&& !u.bG.contains k):=by
      rw[hu.ua.dec,SQ];cases hd:u.dec with
      |false=>rfl
      |true=>rw[vN hd]
     have Ny:a.ops=u.ops:=hu.ua.ops;rw[Ut,hu.ua.dec,zE,hu.ua.yes];have X3:r.me=fW u.ops n:=by rw[hj.2.1,hu.home]
     split
     ·exact⟨hj.1.send ⟨u.ops,SP,.inr (.inl ⟨rfl,X3,by rw[<- Ny];exact hk,by show aV a.ops k n=aV u.ops k n;rw[Ny]⟩)⟩,hj.2.1,hj.2.2⟩
     split
     ·exact⟨hj.1.send ⟨u.ops,SP,.inr (.inr (.inr (.inl ⟨rfl,X3,by rw[<- Ny];exact hk,rfl⟩)))⟩,hj.2.1,hj.2.2⟩
     ·exact hj) ⟨H,rfl,ed⟩
   rw[hu.ua.ops]at key⊢;exact key.1.rT ht
theorem QA(s:ShR)(t:dM):(kS s t).up=s.up:=by
 have he:∀ (ops:List cr) (f:ShR->Int->List cr->ShR),(∀ z k p,(f z k p).up=z.up)->∀ z,(fV z ops f).up=z.up:=λops f hf z=>by
  unfold fV;have:∀ (l:List Int) (n:Int) (z:ShR),(l.foldl (λz k=>if(aV ops k n).isEmpty then z else f z k (aV ops k n)) z).up=z.up:=λl n=>by
   induction l with
   |nil=>intro z;rfl
   |cons k l ih=>
    intro z;rw[kM,ih];split
    ·rfl
    ·exact hf ..
  exact this _ _ z
 unfold kS;split
 ·split<;>rfl
 ·split
  ·rfl
  ·split
   ·rfl
   ·simp only;refine he _ _ (λz k p=>?_) s;split
    ·rfl
    ·split<;>(split<;>rfl)
theorem Ea{c:Int}:∀ (l:List dM) (i:Nat) (acc:Option (Nat×dM)) (L:List dM),(∀ p,acc=some p->p.2∈L)->(∀ t∈l,t∈L)->∀ p,jD c l i acc=some p->p.2∈L
 |[],_,_,_,ha,_,p,h=>ha p h
 |t::l,i,acc,L,ha,hl,p,h=>by
  unfold jD at h;refine Ea l (i+1) _ L (λq hq=>?_) (λx hx=>hl x (gb _ hx)) p h;generalize(decide (t.tm<=c)&&_)=z at hq;cases z with
  |true=>obtain rfl:=bS hq;exact hl _ (iz ..)
  |false=>exact ha q hq
theorem x9(hT:y8 T):∀ (f:Nat) (P:dT) (R:ShR),dL T n P R->R.up=true->dL T n (j8 f P) (iE f R)
 |0,_,_,H,_=>H
 |f+1,P,R,H,ed=>by
  unfold j8 iE;have e1:jD P.clock P.timers 0 none=jD R.clock R.timers 0 none:=by rw[H.clock,H.timers]
  rw[e1];cases h:jD R.clock R.timers 0 none with
  |none=>exact H
  |some p=>
   obtain⟨k,t⟩:=p;simp only;have ht:=H.tt t (Ea R.timers 0 none R.timers (by simp) (λ_ h=>h) _ h);have H1:=x8 H k;refine x9 hT f _ _ (Qz H1 hT ed ht) ?_;rw[QA];exact ed
theorem Eb(H:dL T n P R)(hT:y8 T)(ed:R.up=true):dL T n (oi P) (qe R):=by
 unfold oi qe;simp only;have e:MX {P with clock:=P.clock+1}=rm {R with clock:=R.clock+1}:=by unfold MX rm;simp only;rw[H.timers,H.clock]
 rw[e];refine x9 hT _ _ _ {H with clock:=?_,kl:=λh=>(H.kl h).aS} ed;show P.clock+1=R.clock+1;rw[H.clock]
end
section
structure WP where
 sh:List dT
 aE:List MsgR
 aL:List TxR
 ai:Bool
def Ec(n:Int):WP:=⟨(upto n).map λk=>Gn k n,[],[],false⟩
def np(w:WP)(tx:Nat):WP:=
 match w.aL[tx]? with
 |none=>w
 |some t=>{w with aE:=w.aE++[{bj with kind:=1,aU:= -1,to:=fW t.ops w.sh.length,tx:=tx,ops:=t.ops}]}
def qs(w:WP)(ops:List cr):WP×Int×Int:=
 if w.ai then(w,0,9)else if¬ eV ops then(w,0,2)else if w.aL.length=60\/400<=w.aE.length then(w,0,3)
 else(np {w with aL:=w.aL++[⟨ops,1,[]⟩]} w.aL.length,w.aL.length,0)
def gO(w:WP)(a:Nat)(s:dT):WP:={w with sh:=w.sh.set a {s with out:=[]},aE:=w.aE++s.out}
def mL(aL:List TxR)(m:MsgR):List TxR:=
 match aL[m.tx.toNat]? with
 |none=>aL
 |some t=>if t.state=1 then aL.set m.tx.toNat (if m.yes then{t with state:=2,reads:=m.reads}else{t with state:=3})else aL
def ie(w:WP)(k i:Int):WP×Int:=
 if i<0\/(w.aE.length:Int)<=i then(w,5)else
 match w.aE[i.toNat]? with
 |none=>(w,5)
 |some m=>
  if k=4 then(if 400<=w.aE.length then(w,3)else({w with aE:=w.aE++[m]},0))else
  let w1:={w with aE:=w.aE.eraseIdx i.toNat}
  if k=3 then(w1,0)else
  if m.to= -1 then({w1 with aL:=mL w1.aL m},0)else
  match w1.sh[m.to.toNat]? with
  |none=>(w1,0)
  |some s=>if s.up then(gO w1 m.to.toNat (qi s m),0)else(w1,0)
def fJ(w:WP)(k a b:Int):WP×Int:=
 if k<1\/8<k then(w,0)else if w.ai then(w,9)
 else if k=1 then(if a<0\/(w.aL.length:Int)<=a then(w,4)else if 400<=w.aE.length then(w,3)else(np w a.toNat,0))
 else if k<=4 then ie w k a
 else if a<0\/(w.sh.length:Int)<=a then(w,6)
 else match w.sh[a.toNat]? with
  |none=>(w,6)
  |some s=>
   if k=8 then(if s.up then(w,8)else(gO w a.toNat (j9 s),0))
   else if !s.up then(w,7)
   else if k=5 then(gO w a.toNat (rP s),0)
   else if k=6 then(if 150<w.aE.length then(w,3)else(gO w a.toNat (oi s),0))
   else(gO w a.toNat (mI s b),0)
def lv(aL:List TxR):List (List cr):=aL.map (·.ops)
structure gk(W:WP)(w:WR):Prop where
 n:1<=w.sh.length/\w.sh.length<=4
 len:W.sh.length=w.sh.length
 sh:∀ (i:Nat) P R,W.sh[i]? =some P->w.sh[i]? =some R->dL (lv w.aL) w.sh.length P R/\R.me=i/\R.out=[]
 aE:W.aE=w.aE
 aL:W.aL=w.aL
 st:W.ai=w.ai
 tok:y8 (lv w.aL)
 msg:∀ m∈w.aE,i5 (lv w.aL) w.sh.length m
theorem Uu(k n:Int):KL [] (Gn k n) [] gX:=KL.start _
theorem dL.app{T:List (List cr)}{n:Int}{P:dT}{R:ShR}(H:dL T n P R)(more:List (List cr)):dL (T++more) n P R:=by
 have ho:∀ tx,(opsOf T tx).isSome=true->(opsOf (T++more) tx).isSome=true:=λtx h=>by obtain⟨ops,h⟩:=tv.1 h;rw[l9 more h];rfl
 exact{H with BG:=H.BG.app more,wo:=λm hm=>(H.wo m hm).app more,oo:=λm hm=>(H.oo m hm).app more,tt:=λt ht=>ho _ (H.tt t ht),cg:=λh=>(H.cg h).mono λa b hu=>{hu with ops:=l9 more hu.ops}}
theorem QB{n:Int}(hn:1<=n/\n<=4):gk (Ec n) (pE n):=by
 have hl:(upto n).length=n.toNat:=by simp[upto]
 have e1:(pE n).sh.length=n.toNat:=by simp[pE,hl]
 have e2:(((pE n).sh.length:Nat):Int)=n:=by rw[e1];omega
 refine⟨by rw[e1];omega,by simp[Ec,pE],λi P R hP hR=>?_,rfl,rfl,rfl,⟨by simp[pE,lv],by simp[pE,lv]⟩,by simp[pE]⟩;rw[e2];simp only[Ec,pE,kG]at hP hR;cases hk:(upto n)[i]? with
 |none=>rw[hk]at hP;cases hP
 |some k=>
  rw[hk]at hP hR;obtain rfl:=bS hP;obtain rfl:=bS hR;have hm:=kp.1 (eY hk);have Gr:k=i:=by
   unfold upto at hk;rw[kG]at hk;cases hr:(List.range n.toNat)[i]? with
   |none=>rw[hr]at hk;cases hk
   |some j=>
    rw[hr]at hk;obtain rfl:=bS hk;obtain⟨_,h2⟩:=jk.1 hr;rw[List.getElem_range]at h2;rw[h2];rfl
  refine⟨⟨rfl,hm,rfl,rfl,rfl,rfl,.nil,rfl,⟨rG _,rG _⟩,rfl,rfl,rfl,rfl,(λm h=>by cases h),(λm h=>by cases h),(λm h=>by cases h),λ_=>Uu k n,λ_=>.nil,λ_=>.nil,(λ_ m h=>by cases h),λh=>by cases h⟩,Gr,rfl⟩
theorem gk.uk{W:WP}{w:WR}(H:gk W w):(lv w.aL).length=w.aL.length:=by simp[lv]
theorem JN{aL:List TxR}{i:Nat}{t:TxR}(h:aL[i]? =some t):opsOf (lv aL) i=some t.ops:=by unfold opsOf lv;rw[ao az,kG,g5,h];rfl
variable{W:WP}{w:WR}
theorem gk.Iy(H:gk W w)(i:Nat)(hi:i<w.sh.length):∃ P R,W.sh[i]? =some P/\w.sh[i]? =some R/\dL (lv w.aL) w.sh.length P R/\R.me=i/\R.out=[]:=by have h1:W.sh[i]? =some (W.sh[i]'(by rw[H.len];exact hi)):=e9 _;have h2:w.sh[i]? =some w.sh[i]:=e9 _;exact⟨_,_,h1,h2,H.sh i _ _ h1 h2⟩
theorem gk.shape(H:gk W w):∃ sh,W=⟨sh,w.aE,w.aL,w.ai⟩:=by refine⟨W.sh,?_⟩;rw[<- H.aE,<- H.aL,<- H.st]
theorem ya(H:gk W w)(tx:Nat):gk (np W tx) (mH w tx):=by
 obtain⟨sh,rfl⟩:=H.shape;unfold np mH;simp only;cases ht:w.aL[tx]? with
 |none=>simp only;exact H
 |some t=>
  simp only;have hl:sh.length=w.sh.length:=H.len;refine{H with aE:=by{show w.aE++_=w.aE++_;rw[hl]},msg:=λm hm=>?_};rcases bU.1 hm with hm|hm
  ·exact H.msg m hm
  ·obtain rfl:=dF.1 hm;exact⟨t.ops,JN ht,.inl ⟨rfl,rfl,rfl,rfl⟩⟩
theorem gk.tx1(H:gk W w){ops:List cr}(hr:eV ops)(hl:w.aL.length≠60):gk {W with aL:=W.aL++[⟨ops,1,[]⟩]} {w with aL:=w.aL++[⟨ops,1,[]⟩]}:=by
 have e:lv (w.aL++[⟨ops,1,[]⟩])=lv w.aL++[ops]:=by simp[lv]
 refine⟨H.n,H.len,λi P R h1 h2=>?_,H.aE,by show W.aL++_=w.aL++_;rw[H.aL],H.st,?_,λm hm=>?_⟩
 ·obtain⟨a,b,c⟩:=H.sh i P R h1 h2;show dL (lv (w.aL++_)) _ _ _/\_;rw[e];exact⟨a.app _,b,c⟩
 ·show y8 (lv (w.aL++_));rw[e];refine⟨λo ho=>?_,?_⟩
  ·rcases bU.1 ho with h|h
   ·exact H.tok.1 o h
   ·obtain rfl:=dF.1 h;exact hr
  ·have:=H.tok.2;rw[H.uk]at this;rw[jd,H.uk,lP];omega
 ·show i5 (lv (w.aL++_)) _ _;rw[e];exact(H.msg m hm).app _
theorem Ed(H:gk W w)(ops:List cr):gk (qs W ops).1 (eG w ops).1/\(qs W ops).2=(eG w ops).2:=by
 obtain⟨sh,rfl⟩:=H.shape;unfold qs eG;simp only;split
 ·exact⟨H,rfl⟩
 split
 ·exact⟨H,rfl⟩
 split
 ·exact⟨H,rfl⟩
 ·rename_i h1 h2 h3;have:=H.tx1 (CZ.1 h2) (λz=>h3 (.inl z));exact⟨ya this w.aL.length,rfl⟩
theorem ox(H:gk W w){a:Nat}{P:dT}{R:ShR}(ha:a<w.sh.length)(hr:dL (lv w.aL) w.sh.length P R)(Uo:R.me=a):gk (gO W a P) (lj w a R):=by
 unfold gO lj;have hl:(w.sh.set a {R with out:=[]}).length=w.sh.length:=fM ..;refine⟨by show 1<=(w.sh.set a _).length/\(w.sh.set a _).length<=4;rw[hl];exact H.n,by show(W.sh.set a _).length=(w.sh.set a _).length;rw[hl,fM];exact H.len,λi P' R' h1 h2=>?_,by show W.aE++P.out=w.aE++R.out;rw[H.aE,hr.out],H.aL,H.st,H.tok,λm hm=>?_⟩
 ·show dL _ ((w.sh.set a _).length:Nat) _ _/\_;rw[hl];have h1:(W.sh.set a {P with out:=[]})[i]? =some P':=h1;have h2:(w.sh.set a {R with out:=[]})[i]? =some R':=h2;by_cases e:a=i
  ·subst e;rw[List.getElem?_set_self (by rw[H.len];exact ha)]at h1;rw[List.getElem?_set_self ha]at h2;obtain rfl:=bS h1;obtain rfl:=bS h2;exact⟨{hr with out:=rfl,oo:=(λm h=>by cases h),kl:=λh=>(hr.kl h).aS},Uo,rfl⟩
  ·rw[List.getElem?_set_ne e]at h1 h2;exact H.sh i P' R' h1 h2
 ·show i5 _ ((w.sh.set a _).length:Nat) _;rw[hl];rcases bU.1 hm with hm|hm
  ·exact H.msg m hm
  ·exact hr.oo m hm
theorem Nz(s:ShR)(m:MsgR):(jl s m).me=s.me/\(jl s m).n=s.n:=by
 have he:∀ (ops:List cr) (f:ShR->Int->List cr->ShR),(∀ z k p,(f z k p).me=z.me/\(f z k p).n=z.n)->∀ z,(fV z ops f).me=z.me/\(fV z ops f).n=z.n:=λops f hf z=>by
  unfold fV;have:∀ (l:List Int) (n:Int) (z:ShR),(l.foldl (λz k=>if(aV ops k n).isEmpty then z else f z k (aV ops k n)) z).me=z.me/\(l.foldl (λz k=>if(aV ops k n).isEmpty then z else f z k (aV ops k n)) z).n=z.n:=λl n=>by
   induction l with
   |nil=>intro z;exact⟨rfl,rfl⟩
   |cons k l ih=>
    intro z;rw[kM];split
    ·exact ih z
    ·exact⟨(ih _).1.trans (hf z k _).1,(ih _).2.trans (hf z k _).2⟩
  exact this _ _ z
 unfold jl;split
 ·unfold lH;split
  ·split<;>exact⟨rfl,rfl⟩
  ·split
   ·exact⟨rfl,rfl⟩
   ·simp only;refine he _ _ (λz k p=>?_) _;exact⟨rfl,rfl⟩
 split
 ·unfold gB;split
  ·split<;>exact⟨rfl,rfl⟩
  ·split
   ·split<;>exact⟨rfl,rfl⟩
   ·split<;>exact⟨rfl,rfl⟩
 split
 ·unfold pf;split
  ·exact⟨rfl,rfl⟩
  ·split
   ·exact⟨rfl,rfl⟩
   ·rename_i u _;split
    ·exact⟨rfl,rfl⟩
    ·simp only;generalize(if(m.yes&& !(bK u m.aU).isSome)=true then({u with aR:=u.aR++[⟨m.aU,m.reads⟩]}:gM)else u)=u1;split
     ·exact⟨rfl,rfl⟩
     ·refine he _ _ (λz k p=>?_) _;exact⟨rfl,rfl⟩
 split
 ·unfold iD;split
  ·simp only[eP];split<;>exact⟨rfl,rfl⟩
  ·split
   ·split<;>exact⟨rfl,rfl⟩
   ·split<;>exact⟨rfl,rfl⟩
 split
 ·unfold wi;split
  ·exact⟨rfl,rfl⟩
  ·split
   ·exact⟨rfl,rfl⟩
   ·split
    ·exact⟨rfl,rfl⟩
    ·simp only;split<;>exact⟨rfl,rfl⟩
 split
 ·unfold wj;split
  ·split<;>exact⟨rfl,rfl⟩
  ·split<;>exact⟨rfl,rfl⟩
 ·exact⟨rfl,rfl⟩
theorem sG(aL:List TxR)(m:MsgR):lv (mL aL m)=lv aL:=by
 unfold mL;cases h:aL[m.tx.toNat]? with
 |none=>rfl
 |some t=>
  simp only;split
  ·unfold lv;rw[j1];have:(if m.yes=true then({t with state:=2,reads:=m.reads}:TxR)else{t with state:=3}).ops=t.ops:=by split<;>rfl
   rw[this];obtain⟨h1,h2⟩:=jk.1 h;apply LH;intro i;rw[w6];split
   ·rename_i e;subst e;rw[aK (by simpa using h1),kG,h];rfl
   ·rfl
  ·rfl
theorem Ee(w:WR)(m:MsgR):qf w m={w with aL:=mL w.aL m}:=by
 unfold qf mL;cases h:w.aL[m.tx.toNat]? with
 |none=>rfl
 |some t=>simp only;split<;>rfl
theorem QC(s:ShR)(t:dM):(kS s t).me=s.me:=by
 have he:∀ (ops:List cr) (f:ShR->Int->List cr->ShR),(∀ z k p,(f z k p).me=z.me)->∀ z,(fV z ops f).me=z.me:=λops f hf z=>by
  unfold fV;have:∀ (l:List Int) (n:Int) (z:ShR),(l.foldl (λz k=>if(aV ops k n).isEmpty then z else f z k (aV ops k n)) z).me=z.me:=λl n=>by
   induction l with
   |nil=>intro z;rfl
   |cons k l ih=>
    intro z;rw[kM,ih];split
    ·rfl
    ·exact hf ..
  exact this _ _ z
 unfold kS;split
 ·split<;>rfl
 ·split
  ·rfl
  ·split
   ·rfl
   ·simp only;refine he _ _ (λz k p=>?_) s;split
    ·rfl
    ·split<;>(split<;>rfl)
theorem Ay:∀ (f:Nat) (s:ShR),(iE f s).me=s.me
 |0,_=>rfl
 |f+1,s=>by
  unfold iE;split
  ·rfl
  ·rw[Ay f,QC]
theorem vO(s:ShR):(dO s).me=s.me/\(dO s).out=s.out:=by unfold dO;obtain⟨a,b,e⟩:=mK s.log (eL {s with up:=true}) s.log.length;simp only[e];exact⟨rfl,rfl⟩
theorem BK(H:gk W w)(k i:Int):gk (ie W k i).1 (cD w k i).1/\(ie W k i).2=(cD w k i).2:=by
 obtain⟨sh,rfl⟩:=H.shape;unfold ie cD;simp only;split
 ·exact⟨H,rfl⟩
 cases hm:w.aE[i.toNat]? with
 |none=>exact⟨H,rfl⟩
 |some m=>
  have JO:=H.msg m (eY hm);simp only;split
  ·split
   ·exact⟨H,rfl⟩
   ·refine⟨{H with aE:=rfl,msg:=λx hx=>?_},rfl⟩;rcases bU.1 hx with hx|hx
    ·exact H.msg x hx
    ·obtain rfl:=dF.1 hx;exact JO
  have H1:gk ⟨sh,w.aE.eraseIdx i.toNat,w.aL,w.ai⟩ {w with aE:=w.aE.eraseIdx i.toNat}:={H with aE:=rfl,msg:=λx hx=>H.msg x ((ju ..).mem hx)};split
  ·exact⟨H1,rfl⟩
  split
  ·refine⟨?_,rfl⟩;rw[Ee];refine⟨H.n,H.len,λi P R h1 h2=>?_,rfl,rfl,H.st,?_,λx hx=>?_⟩
   ·show dL (lv (mL w.aL m)) _ _ _/\_;rw[sG];exact H.sh i P R h1 h2
   ·show y8 (lv (mL w.aL m));rw[sG];exact H.tok
   ·show i5 (lv (mL w.aL m)) _ _;rw[sG];exact H1.msg x hx
  ·cases hs:w.sh[m.to.toNat]? with
   |none=>
    have:sh[m.to.toNat]? =none:=by rw[C4]at hs⊢;have:=H.len;simp only at this;omega
    rw[this];exact⟨H1,rfl⟩
   |some R=>
    have dA:=(jk.1 hs).1;obtain⟨P,R',h1,h2,h3,h4,h5⟩:=H.Iy m.to.toNat dA;rw[hs]at h2;obtain rfl:=bS h2;rw[h1];simp only;rw[h3.up];split
    ·rename_i hk rU ed;have aa2:m.to=R.me:=by
      have:0<=m.to:=by
       have hn:(0:Int)<w.sh.length:=by have:=H.n;omega
       obtain⟨ops,ho,hc⟩:=JO;have hr:=H.tok.of ho;have eI:ops≠[]:=by have:=hr.2.2.1;intro z;rw[z]at this;simp at this
       have hh:=(lr hr hn (vK eI)).1;rcases hc with h|h|h|h|h|h|h
       ·rw[h.2.2.1];exact hh
       ·exact(lr hr hn h.2.2.1).1
       ·rw[h.2.1];exact hh
       ·exact(lr hr hn h.2.2.1).1
       ·rw[h.2.1];exact hh
       ·rw[h.2.1];exact hh
       ·exact absurd h.2.1 rU
      rw[h4];omega
     have hn:(0:Int)<w.sh.length:=by have:=H.n;omega
     exact⟨ox H1 dA (D7 h3 H.tok hn ed JO aa2) ((Nz ..).1.trans h4),rfl⟩
    ·exact⟨H1,rfl⟩
theorem QD(H:gk W w)(k a b:Int):gk (fJ W k a b).1 (mY w k a b).1/\(fJ W k a b).2=(mY w k a b).2:=by
 obtain⟨sh,rfl⟩:=H.shape;have hl:sh.length=w.sh.length:=H.len;unfold fJ mY;dsimp only;rw[hl];by_cases c1:k<1\/8<k
 ·rw[aK c1,aK c1];exact⟨H,rfl⟩
 rw[ao c1,ao c1];by_cases c2:w.ai=true
 ·rw[aK c2,aK c2];exact⟨H,rfl⟩
 rw[ao c2,ao c2];by_cases c3:k=1
 ·rw[aK c3,aK c3];by_cases d1:a<0\/(w.aL.length:Int)<=a
  ·rw[aK d1,aK d1];exact⟨H,rfl⟩
  rw[ao d1,ao d1];by_cases d2:400<=w.aE.length
  ·rw[aK d2,aK d2];exact⟨H,rfl⟩
  rw[ao d2,ao d2];exact⟨ya H _,rfl⟩
 rw[ao c3,ao c3];by_cases c4:k<=4
 ·rw[aK c4,aK c4];exact BK H k a
 rw[ao c4,ao c4];by_cases c5:a<0\/(w.sh.length:Int)<=a
 ·rw[aK c5,aK c5];exact⟨H,rfl⟩
 rw[ao c5,ao c5];have dA:a.toNat<w.sh.length:=az;obtain⟨P,R,h1,h2,h3,h4,h5⟩:=H.Iy a.toNat dA;have h1:sh[a.toNat]? =some P:=h1;rw[h1,h2];dsimp only;rw[h3.up];by_cases c6:k=8
 ·rw[aK c6,aK c6];by_cases d1:R.up=true
  ·rw[aK d1,aK d1];exact⟨H,rfl⟩
  rw[ao d1,ao d1];refine⟨?_,rfl⟩;have hr:=vO R;have:=ox H dA (vM h3 H.tok) (hr.1.trans h4);have e:lj w a.toNat (dO R)={w with sh:=w.sh.set a.toNat (dO R)}:=by
   unfold lj;rw[hr.2,h5,k8];have:({dO R with out:=[]}:ShR)=dO R:=by
    have h6:(dO R).out=[]:=hr.2.trans h5
    conv=>rhs;rw[show dO R={dO R with out:=(dO R).out}from rfl,h6]
   rw[this]
  rw[<- e];exact this
 rw[ao c6,ao c6];by_cases c7:(!R.up)=true
 ·rw[aK c7,aK c7];exact⟨H,rfl⟩
 rw[ao c7,ao c7];have ed:R.up=true:=by simpa using c7
 by_cases c8:k=5
 ·rw[aK c8,aK c8];exact⟨ox H dA (D8 h3 ed) h4,rfl⟩
 rw[ao c8,ao c8];by_cases c9:k=6
 ·rw[aK c9,aK c9];by_cases d1:150<w.aE.length
  ·rw[aK d1,aK d1];exact⟨H,rfl⟩
  rw[ao d1,ao d1];exact⟨ox H dA (Eb h3 H.tok ed) ((Ay ..).trans h4),rfl⟩
 rw[ao c9,ao c9];exact⟨ox H dA (Av h3 b) h4,rfl⟩
theorem JP(H:gk W w):gk {W with ai:=true} {w with ai:=true}:={H with st:=rfl}
def wt(m:MsgR):Nat:=if m.kind=1 then 45 else if m.kind=2 then 11 else if m.kind=3 then 10 else if m.kind=4 then 2 else if m.kind=6 then 3 else 1
def ws(l:List MsgR):Nat:=(l.map wt).sum
theorem NA(m:MsgR):1<=wt m/\wt m<=45:=by
 unfold wt;repeat' split
 all_goals omega
theorem BL(a b:List MsgR):ws (a++b)=ws a+ws b:=by simp[ws]
theorem NB(m:MsgR):ws [m]=wt m:=by simp[ws]
theorem BM:ws []=0:=rfl
theorem Az:∀ l:List MsgR,l.length<=ws l/\ws l<=45*l.length
 |[]=>⟨gZ _,gZ _⟩
 |m::l=>by
  have h:=Az l;have h1:=NA m;have:ws (m::l)=wt m+ws l:=by simp[ws]
  rw[this,jc];omega
structure iQ(t:Nat)(U:List gM)(L:List RecR)(Ti:List dM)(W:List MsgR)(aX clock:Int):Prop where
 ub:∀ u∈U,u.dec=(bB L 2 u.tx).isSome
 un:(U.map (·.tx)).Nodup
 nd:((L.filter λr=>r.kind==2).map (·.tx)).Nodup
 tn:(Ti.map λt=>(t.again,t.tx)).Nodup
 ta:∀ t∈Ti,t.again=true->t.tx∈U.map (·.tx)\/(bB L 2 t.tx).isSome=true
 tb:∀ t∈Ti,t.again=false->(bB L 1 t.tx).isSome=true\/(bB L 3 t.tx).isSome=true
 wl:(W.length:Int)<=5*(L.length-aX)
 vn:∀ u∈U,(u.aR.map (·.aU)).Nodup
 an:∀ u∈U,u.bG.length<=t
 ck:0<=clock/\clock<=t
def kT(t:Nat)(s:ShR):Prop:=iQ t s.under s.log s.timers s.waits s.aX s.clock
theorem AA{l:List gM}{tx:Int}:cH l tx=none↔tx∉l.map (·.tx):=by unfold cH;rw[List.findIdx?_eq_none_iff];simp
theorem sJ{L:List RecR}{r:RecR}{k tx:Int}(h:(bB L k tx).isSome=true):(bB (L++[r]) k tx).isSome=true:=by
 rw[eW];split
 ·rfl
 ·exact h
theorem yb{L:List RecR}{tx:Int}:bB L 2 tx=none↔tx∉(L.filter λr=>r.kind==2).map (·.tx):=by
 rw[xV];constructor
 ·intro h hm;obtain⟨r,hr,e⟩:=bH.1 hm;obtain⟨h1,h2⟩:=gP.1 hr;exact h r h1 ⟨by simpa using h2,e⟩
 ·intro h r hr e;exact h (bH.2 ⟨r,gP.2 ⟨hr,by simpa using e.1⟩,e.2⟩)
variable{t:Nat}{U U':List gM}{L:List RecR}{Ti:List dM}{W:List MsgR}{aX clock:Int}
theorem iQ.wrote(h:iQ t U L Ti W aX clock){r:RecR}{w:List MsgR}(hr:r.kind=2->bB L 2 r.tx=none)(hm:U'.map (·.tx)=U.map (·.tx))(hu:∀ u∈U',u.dec=(bB (L++[r]) 2 u.tx).isSome)
  (hv:∀ u∈U',(u.aR.map (·.aU)).Nodup) (ha:∀ u∈U',u.bG.length<=t) (hw:w.length<=5):iQ t U' (L++[r]) Ti (W++w) aX clock:=by
 refine⟨hu,by rw[hm];exact h.un,?_,h.tn,λx hx iH=>?_,λx hx iH=>(h.tb x hx iH).imp sJ sJ,?_,hv,ha,h.ck⟩
 ·rw[ml,eF];by_cases hk:r.kind=2
  ·have e:[r].filter (λr=>r.kind==2)=[r]:=by simp[hk]
   rw[e];refine im.2 ⟨h.nd,by simp,λa ha b hb=>?_⟩;obtain rfl:=dF.1 hb;rintro rfl;exact yb.1 (hr hk) ha
  ·have e:[r].filter (λr=>r.kind==2)=[]:=by simp[hk]
   rw[e];simpa using h.nd
 ·rw[hm];exact(h.ta x hx iH).imp id sJ
 ·have:=h.wl;rw[jd,jd,lP];omega
theorem iQ.mono(h:iQ t U L Ti W aX clock){t':Nat}(ht:t<=t'):iQ t' U L Ti W aX clock:=
 {h with an:=λu hu=>Be (h.an u hu) ht,ck:=⟨h.ck.1,by have:=h.ck.2;omega⟩}
theorem iQ.rT(h:iQ t U L Ti W aX clock){x:dM}(hn:(x.again,x.tx)∉Ti.map λt=>(t.again,t.tx))(ha:x.again=true->x.tx∈U.map (·.tx)\/(bB L 2 x.tx).isSome=true)(hb:x.again=false->(bB L 1 x.tx).isSome=true\/(bB L 3 x.tx).isSome=true):iQ t U L (Ti++[x]) W aX clock:=by
 refine{h with tn:=?_,ta:=λy hy=>?_,tb:=λy hy=>?_}
 ·rw[eF];refine im.2 ⟨h.tn,by simp,λa ha b hb=>?_⟩;obtain rfl:=dF.1 hb;rintro rfl;exact hn ha
 ·rcases bU.1 hy with hy|hy
  ·exact h.ta y hy
  ·obtain rfl:=dF.1 hy;exact ha
 ·rcases bU.1 hy with hy|hy
  ·exact h.tb y hy
  ·obtain rfl:=dF.1 hy;exact hb
theorem Gy{ops:List cr}{f:ShR->Int->List cr->ShR}{g:Int->List cr->MsgR}(c:Nat)(hc:∀ k p x,wt {g k p with aU:=x}=c):
  (∀ z k p,f z k p=cu z (g k p))->∀ z,∃ o,fV z ops f={z with out:=z.out++o}/\o.length<=z.n.toNat/\ws o=c*o.length:=by
 intro hf z;unfold fV;have key:∀ (l:List Int) (n:Int) (z:ShR),∃ o,l.foldl (λz k=>if(aV ops k n).isEmpty then z else f z k (aV ops k n)) z={z with out:=z.out++o}/\o.length<=l.length/\ws o=c*o.length:=by
  intro l n
  induction l with
  |nil=>intro z;exact⟨[],by simp,gZ _,rfl⟩
  |cons k l ih=>
   intro z;rw[kM];split
   ·obtain⟨o,h1,h2,h3⟩:=ih z;exact⟨o,h1,by rw[jc];omega,h3⟩
   ·rw[hf];obtain⟨o,h1,h2,h3⟩:=ih (cu z (g k (aV ops k n)));refine⟨{g k (aV ops k n)with aU:=z.me}::o,by rw[h1];simp[cu],by rw[jc,jc];omega,?_⟩;have e:ws ({g k (aV ops k n)with aU:=z.me}::o)=wt {g k (aV ops k n)with aU:=z.me}+ws o:=by simp[ws]
    rw[e,hc,h3,jc,Nat.mul_add];omega
 obtain⟨o,h1,h2,h3⟩:=key (upto z.n) z.n z;exact⟨o,h1,by simpa[upto]using h2,h3⟩
theorem Ef{ops:List cr}{f:ShR->Int->List cr->ShR}{g:Int->List cr->MsgR}(c:Nat)(hc:∀ k p x,wt {g k p with aU:=x}=c):
  (∀ z k p,f z k p=eP z (g k p))->∀ z,∃ o,fV z ops f={z with waits:=z.waits++o}/\o.length<=z.n.toNat/\ws o=c*o.length:=by
 intro hf z;unfold fV;have key:∀ (l:List Int) (n:Int) (z:ShR),∃ o,l.foldl (λz k=>if(aV ops k n).isEmpty then z else f z k (aV ops k n)) z={z with waits:=z.waits++o}/\o.length<=l.length/\ws o=c*o.length:=by
  intro l n
  induction l with
  |nil=>intro z;exact⟨[],by simp,gZ _,rfl⟩
  |cons k l ih=>
   intro z;rw[kM];split
   ·obtain⟨o,h1,h2,h3⟩:=ih z;exact⟨o,h1,by rw[jc];omega,h3⟩
   ·rw[hf];obtain⟨o,h1,h2,h3⟩:=ih (eP z (g k (aV ops k n)));refine⟨{g k (aV ops k n)with aU:=z.me}::o,by rw[h1];simp[eP],by rw[jc,jc];omega,?_⟩;have e:ws ({g k (aV ops k n)with aU:=z.me}::o)=wt {g k (aV ops k n)with aU:=z.me}+ws o:=by simp[ws]
    rw[e,hc,h3,jc,Nat.mul_add];omega
 obtain⟨o,h1,h2,h3⟩:=key (upto z.n) z.n z;exact⟨o,h1,by simpa[upto]using h2,h3⟩
structure kt(t:Nat)(s s':ShR)(c:Nat):Prop where
 inv:kT (t+1) s'
 o:∃ o w,s'.out=s.out++o/\s'.waits=s.waits++w/\o.length<=5/\ws o+ws w<=c
variable{s:ShR}{m:MsgR}
theorem kt.same(h:kT t s)(c:Nat):kt t s s c:=⟨iQ.mono h (nW t),[],[],by simp,by simp,by simp,by simp[ws]⟩
theorem kt.send(h:kT t s){x:MsgR}{c:Nat}(hc:wt {x with aU:=s.me}<=c):kt t s (cu s x) c:=
 ⟨iQ.mono h (nW t),[_],[],rfl,by simp[cu],by simp,by simpa[ws]using hc⟩
theorem sK{U:List gM}{i:Nat}{u v:gM}(h:U[i]? =some u)(e:v.tx=u.tx):(U.set i v).map (·.tx)=U.map (·.tx):=by
 rw[j1,e];obtain⟨h1,rfl⟩:=jk.1 h;have:U[i].tx=(U.map (·.tx))[i]'(by rw[cV];exact h1):=by simp
 rw[this,lO]
theorem sN{U:List gM}{tx:Int}{i:Nat}(h:cH U tx=some i):∃ u,U[i]? =some u/\u.tx=tx:=by obtain⟨h1,h2,_⟩:=RY.1 h;exact⟨U[i],e9 h1,by simpa using h2⟩
theorem JQ(h:kT t s)(hn:s.n<=4):kt t s (lH s m) 45:=by
 unfold lH;cases hd:bB s.log 2 m.tx with
 |some d=>
  simp only;split
  ·exact .send h (by simp[wt])
  ·exact .same h _
 |none=>
  simp only;cases hu:cH s.under m.tx with
  |some i=>simpa using kt.same h _
  |none=>
   simp only[I7,ij,fB];obtain⟨o,e1,e2,e3⟩:=Gy (ops:=m.ops) (f:=λz k p=>cu z {bj with kind:=2,to:=k,tx:=m.tx,ops:=p}) (g:=λk p=>{bj with kind:=2,to:=k,tx:=m.tx,ops:=p}) 11 (λk p x=>by simp[wt]) (λz k p=>rfl) {s with under:=s.under++[⟨m.tx,m.ops,[],false,false,[]⟩]};rw[e1];have Gz:=AA.1 hu;have h1:iQ t (s.under++[⟨m.tx,m.ops,[],false,false,[]⟩]) s.log s.timers s.waits s.aX s.clock:=by
    refine⟨λu hu=>?_,?_,h.nd,h.tn,λx hx iH=>?_,h.tb,h.wl,λu hu=>?_,λu hu=>?_,h.ck⟩
    ·rcases bU.1 hu with hu|hu
     ·exact h.ub u hu
     ·obtain rfl:=dF.1 hu;simp only;rw[hd];rfl
    ·rw[eF];refine im.2 ⟨h.un,by simp,λa ha b hb=>?_⟩;obtain rfl:=dF.1 hb;rintro rfl;exact Gz ha
    ·rw[eF];exact(h.ta x hx iH).imp (λz=>j0 _ z) id
    ·rcases bU.1 hu with hu|hu
     ·exact h.vn u hu
     ·obtain rfl:=dF.1 hu;exact .nil
    ·rcases bU.1 hu with hu|hu
     ·exact h.an u hu
     ·obtain rfl:=dF.1 hu;exact eK _
   have h2:iQ t (s.under++[⟨m.tx,m.ops,[],false,false,[]⟩]) s.log (s.timers++[⟨s.clock+4,true,m.tx⟩]) s.waits s.aX s.clock:=by
    refine h1.rT (λhx=>?_) (λ_=>.inl (by simp)) (λz=>by cases z);obtain⟨x,hx,e⟩:=bH.1 hx;simp only[CS]at e;rcases h.ta x hx e.1 with z|z
    ·rw[e.2]at z;exact Gz z
    ·rw[e.2,hd]at z;cases z
   refine⟨iQ.mono h2 (nW t),o,[],rfl,by simp,?_,?_⟩
   ·simp only at e2;omega
   ·simp only at e2;rw[e3];simp[ws];omega
theorem QE(h:kT t s):kt t s (wj s m) 3:=by
 unfold wj;cases hd:bB s.log 2 m.tx with
 |some d=>
  simp only;split
  ·exact .send h (by simp[wt])
  ·exact .same h _
 |none=>
  simp only;cases hu:cH s.under m.tx with
  |some i=>simpa using kt.same h _
  |none=>
   simp only[I7,ij,fB];have Gz:=AA.1 hu;have h1:=iQ.wrote h (U':=s.under) (r:={eh with kind:=2,tx:=m.tx}) (w:=[{bj with kind:=4,to:=m.aU,tx:=m.tx,aU:=s.me}]) (λ_=>hd) rfl (λu hu=>by rw[eW,ao (by simp[isRec];intro e;exact Gz (bH.2 ⟨u,hu,e.symm⟩))];exact h.ub u hu) h.vn h.an (by simp)
   exact⟨iQ.mono h1 (nW t),[],_,by simp[eP],rfl,by simp,by simp[ws,wt]⟩
theorem Eg(h:kT t s):kt t s (gB s m) 11:=by
 unfold gB;simp only;cases hr:bF s.log m.tx with
 |some r=>
  simp only;split
  ·exact .send h (by simp[wt])
  ·exact .same h _
 |none=>
  simp only;cases hd:bB s.log 3 m.tx with
  |some d=>
   simp only;split
   ·exact .same h _
   ·exact .send h (by simp[wt])
  |none=>
   simp only;split
   ·exact .send h (by simp[wt])
   ·have h1n:bB s.log 1 m.tx=none:=by unfold bF at hr;rw[hd]at hr;simpa using hr
    have h1:=iQ.wrote h (U':=s.under) (r:={eh with kind:=1,tx:=m.tx,home:=m.aU,ops:=m.ops}) (w:=[{bj with kind:=3,to:=m.aU,tx:=m.tx,yes:=true,reads:=gS s.bD m.ops,aU:=s.me}]) (λz=>by simp at z) rfl (λu hu=>by rw[eW,ao (by simp[isRec])];exact h.ub u hu) h.vn h.an (by simp)
    have h2:=h1.rT (x:=⟨s.clock+3,false,m.tx⟩) (λhx=>by
     obtain⟨x,hx,e⟩:=bH.1 hx;simp only[CS]at e;rcases h.tb x hx e.1 with z|z
     ·rw[e.2,h1n]at z;cases z
     ·rw[e.2,hd]at z;cases z) (λz=>by cases z) (λ_=>.inl (by rw[eW,aK (by simp[isRec])];rfl))
    exact⟨iQ.mono h2 (nW t),[],_,by simp[eP],rfl,by simp,by simp[ws,wt]⟩
theorem GA(h:kT t s):kt t s (iD s m) 2:=by
 have key:∀ (b:Bool),iQ t s.under (s.log++[{eh with kind:=3,tx:=m.tx,yes:=b}]) s.timers (s.waits++[{bj with kind:=5,to:=m.aU,tx:=m.tx,aU:=s.me}]) s.aX s.clock:=λb=>
  iQ.wrote h (U':=s.under) (r:={eh with kind:=3,tx:=m.tx,yes:=b}) (λz=>by simp at z) rfl (λu hu=>by rw[eW,ao (by simp[isRec])];exact h.ub u hu) h.vn h.an (by simp)
 have fin:∀ (s':ShR) (b:Bool),s'.under=s.under->s'.log=s.log++[{eh with kind:=3,tx:=m.tx,yes:=b}]->s'.timers=s.timers->s'.waits=s.waits++[{bj with kind:=5,to:=m.aU,tx:=m.tx,aU:=s.me}]->s'.aX=s.aX->s'.clock=s.clock->s'.out=s.out->kt t s s' 2:=λs' b e1 e2 e3 e4 e5 e6 e7=>by refine⟨?_,[],_,by simpa using e7,e4,by simp,by simp[ws,wt]⟩;unfold kT;rw[e1,e2,e3,e4,e5,e6];exact iQ.mono (key b) (nW t)
 unfold iD;cases hr:bF s.log m.tx with
 |some r=>
  simp only;cases hy:m.yes with
  |true=>exact fin _ m.yes rfl (by rw[hy];rfl) rfl rfl rfl rfl rfl
  |false=>exact fin _ m.yes rfl (by rw[hy];rfl) rfl rfl rfl rfl rfl
 |none=>
  simp only;cases hd:bB s.log 3 m.tx with
  |some d=>
   simp only;split
   ·exact .send h (by simp[wt])
   ·exact .same h _
  |none=>
   simp only;split
   ·exact .same h _
   ·exact fin _ m.yes rfl rfl rfl rfl rfl rfl rfl
theorem QF(h:kT t s):kt t s (wi s m) 1:=by
 unfold wi;cases hu:cH s.under m.tx with
 |none=>exact .same h _
 |some i=>
  simp only;obtain⟨u,hg,um⟩:=sN hu;rw[hg];simp only;have eN:=eY hg;by_cases hd:u.dec=true
  case neg=>rw[aK (by simpa using hd)];exact .same h _
  case pos=>
   rw[ao (by simp[hd])];have X4:(bB s.log 2 u.tx).isSome=true:=by rw[<- h.ub u eN,hd]
   have SR:=iQ.mono h (nW t);split
   ·refine⟨⟨λv hv=>h.ub v ((ju ..).mem hv),?_,h.nd,h.tn,λx hx iH=>?_,h.tb,h.wl,λv hv=>h.vn v ((ju ..).mem hv),λv hv=>SR.an v ((ju ..).mem hv),SR.ck⟩,[],[],by simp,by simp,by simp,by simp[ws]⟩
    ·exact h.un.sublist ((ju ..).map _)
    ·rcases h.ta x hx iH with z|z
     ·by_cases ex:x.tx=u.tx
      ·rw[ex];exact .inr X4
      ·refine .inl ?_;obtain⟨v,hv,ev⟩:=bH.1 z;obtain⟨j,hj⟩:=nV hv;refine bH.2 ⟨v,?_,ev⟩;refine RZ.2 ⟨j,?_,hj⟩;rintro rfl;rw[hg]at hj;obtain rfl:=bS hj;exact ex ev.symm
     ·exact .inr z
   ·have e:=sK (v:={u with bG:=u.bG++[m.aU]}) hg rfl;refine⟨⟨λv hv=>?_,by show(List.map _ (s.under.set i _)).Nodup;rw[e];exact h.un,h.nd,h.tn,λx hx iH=>by show x.tx∈(s.under.set i _).map _\/_;rw[e];exact h.ta x hx iH,h.tb,h.wl,λv hv=>?_,λv hv=>?_,SR.ck⟩,[],[],by simp,by simp,by simp,by simp[ws]⟩
    ·rcases fN hv with z|rfl
     ·exact h.ub v z
     ·exact h.ub u eN
    ·rcases fN hv with z|rfl
     ·exact h.vn v z
     ·exact h.vn u eN
    ·rcases fN hv with z|rfl
     ·exact SR.an v z
     ·have:=h.an u eN;show(u.bG++[m.aU]).length<=t+1;rw[jd,lP];omega
theorem NC(h:kT t s)(hn:s.n<=4):kt t s (pf s m) 10:=by
 unfold pf;cases hu:cH s.under m.tx with
 |none=>exact .same h _
 |some i=>
  simp only;obtain⟨u,hg,um⟩:=sN hu;rw[hg];simp only;have eN:=eY hg;by_cases hd:u.dec=true
  case pos=>rw[aK hd];exact .same h _
  case neg=>
   rw[ao hd];have hd:u.dec=false:=by simpa using hd
   have ND:bB s.log 2 m.tx=none:=by
    have:=h.ub u eN;rw[hd,um]at this;cases hf:bB s.log 2 m.tx with
    |none=>rfl
    |some d=>rw[hf]at this;cases this
   obtain⟨v1,tM⟩:∃ v1,v1=(if(m.yes&& !(bK u m.aU).isSome)=true then{u with aR:=u.aR++[⟨m.aU,m.reads⟩]}else u):=⟨_,rfl⟩;rw[<- tM];have e1:v1.tx=u.tx:=by rw[tM];split<;>rfl
   have e2:v1.dec=u.dec:=by rw[tM];split<;>rfl
   have e3:v1.bG=u.bG:=by rw[tM];split<;>rfl
   have e4:(v1.aR.map (·.aU)).Nodup:=by
    rw[tM];split
    ·rename_i hb;have nI:m.yes=true/\(bK u m.aU).isSome=false:=by simpa using hb
     show((u.aR++[_]).map _).Nodup;rw[eF];refine im.2 ⟨h.vn u eN,by simp,λa ha b hb=>?_⟩;obtain rfl:=dF.1 hb;rintro rfl;obtain⟨v,hv,ev⟩:=bH.1 ha;have:=nI.2;unfold bK at this;simp only[Option.isSome_eq_false_iff,Option.isNone_iff_eq_none,HE]at this;exact this v hv (by simpa using ev)
    ·exact h.vn u eN
   have SR:=iQ.mono h (nW t);split
   ·have e:=sK (v:=v1) hg e1;refine⟨⟨λv hv=>?_,by show(List.map _ (s.under.set i _)).Nodup;rw[e];exact h.un,h.nd,h.tn,λx hx iH=>by show x.tx∈(s.under.set i _).map _\/_;rw[e];exact h.ta x hx iH,h.tb,h.wl,λv hv=>?_,λv hv=>?_,SR.ck⟩,[],[],by simp,by simp,by simp,by simp[ws]⟩
    ·rcases fN hv with z|rfl
     ·exact h.ub v z
     ·rw[e1,e2];exact h.ub u eN
    ·rcases fN hv with z|rfl
     ·exact h.vn v z
     ·exact e4
    ·rcases fN hv with z|rfl
     ·exact SR.an v z
     ·rw[e3];exact SR.an u eN
   ·generalize iS:(if m.yes=true then jo {v1 with dec:=true,yes:=m.yes} s.n else[])=rd;obtain⟨o,w1,w2,w3⟩:=Ef (ops:=v1.ops) (f:=λz k _=>eP z {bj with kind:=4,to:=k,tx:=m.tx,yes:=m.yes}) (g:=λk _=>{bj with kind:=4,to:=k,tx:=m.tx,yes:=m.yes}) 2 (λk p x=>by simp[wt]) (λz k p=>rfl) {s with under:=s.under.set i {v1 with dec:=true,yes:=m.yes},log:=s.log++[{eh with kind:=2,tx:=m.tx,yes:=m.yes,reads:=rd}]};rw[w1];simp only at w2;have hi:=iQ.wrote h (U':=s.under.set i {v1 with dec:=true,yes:=m.yes}) (r:={eh with kind:=2,tx:=m.tx,yes:=m.yes,reads:=rd}) (w:=o++[{bj with kind:=7,to:= -1,tx:=m.tx,yes:=m.yes,reads:=rd,aU:=s.me}]) (λ_=>ND) (sK hg e1) (λv hv=>by
      rw[eW];rcases fN hv with z|rfl
      ·by_cases ev:v.tx=m.tx
       ·
        obtain⟨j,hj1,JR⟩:=jx hv;rw[fM]at hj1;by_cases Eh:i=j
        ·subst Eh;rw[vD]at JR;rw[<- JR];simp[isRec,e1,um]
        ·rw[C5 Eh]at JR;obtain⟨g1,g2⟩:=jk.1 hg;refine absurd ((List.getElem?_inj (by simpa using g1) h.un).1 ?_) Eh;rw[kG,kG,hg,e9 hj1,JR];simp only[k7];rw[um,ev]
       ·have eI:¬ isRec 2 v.tx ({eh with kind:=2,tx:=m.tx,yes:=m.yes,reads:=rd}:RecR)=true:=by simp[isRec];intro e;exact ev e.symm
        rw[ao eI];exact h.ub v z
      ·rw[aK (by simp[isRec,e1,um])];rfl) (λv hv=>by
      rcases fN hv with z|rfl
      ·exact h.vn v z
      ·exact e4) (λv hv=>by
      rcases fN hv with z|rfl
      ·exact h.an v z
      ·show v1.bG.length<=t;rw[e3];exact h.an u eN) (by rw[jd,lP];omega)
    refine⟨?_,[],o++[{bj with kind:=7,to:= -1,tx:=m.tx,yes:=m.yes,reads:=rd,aU:=s.me}],by simp[eP],by simp[eP],by simp,?_⟩
    ·have:iQ t (s.under.set i {v1 with dec:=true,yes:=m.yes}) (s.log++[{eh with kind:=2,tx:=m.tx,yes:=m.yes,reads:=rd}]) s.timers ((s.waits++o)++[{bj with kind:=7,to:= -1,tx:=m.tx,yes:=m.yes,reads:=rd,aU:=s.me}]) s.aX s.clock:=by rw[pQ];exact hi
     exact iQ.mono this (nW t)
    ·have e5:wt ({bj with kind:=7,to:= -1,tx:=m.tx,yes:=m.yes,reads:=rd,aU:=s.me}:MsgR)=1:=by simp[wt]
     rw[BM,BL,NB,e5,w3];omega
theorem Ei(h:kT t s)(hn:s.n<=4):kt t s (jl s m) (wt m):=by
 unfold jl;split
 ·rename_i hk;have:wt m=45:=by simp[wt,hk]
  rw[this];exact JQ h hn
 split
 ·rename_i hk;have:wt m=11:=by simp[wt,hk]
  rw[this];exact Eg h
 split
 ·rename_i hk;have:wt m=10:=by simp[wt,hk]
  rw[this];exact NC h hn
 split
 ·rename_i hk;have:wt m=2:=by simp[wt,hk]
  rw[this];exact GA h
 split
 ·rename_i hk;have:wt m=1:=by simp[wt,hk]
  rw[this];exact QF h
 split
 ·rename_i hk;have:wt m=3:=by simp[wt,hk]
  rw[this];exact QE h
 ·exact .same h _
end
section
theorem mM{l:List Int}{c:Nat}(hn:l.Nodup)(h:∀ x∈l,0<=x/\x<c):l.length<=c:=by have:=kZ hn (b:=upto c) λx hx=>kp.2 (h x hx);simpa[upto]using this
variable{T:List (List cr)}{n me:Int}
theorem gC.keys{E:List aY}(h:gC T n me E)(hT:y8 T)(lR:(((E.map aY.a8).filter λr=>r.kind==2).map (·.tx)).Nodup):((E.map aY.a8).map λr=>r.kind*60+r.tx).Nodup/\∀ r∈E.map aY.a8,(1<=r.kind/\r.kind<=3)/\0<=r.tx/\r.tx<60:=by
 have dA:∀ tx,(opsOf T tx).isSome=true->0<=tx/\tx<60:=λtx h=>by obtain⟨ops,h⟩:=tv.1 h;have h1:=oq h;have h2:=hT.2;omega
 have add:∀ (E:List aY) (e:aY),(((E.map aY.a8).map λr=>r.kind*60+r.tx).Nodup/\∀ r∈E.map aY.a8,(1<=r.kind/\r.kind<=3)/\0<=r.tx/\r.tx<60)->(1<=e.a8.kind/\e.a8.kind<=3)->(0<=e.a8.tx/\e.a8.tx<60)->bB (E.map aY.a8) e.a8.kind e.a8.tx=none->
   (((E++[e]).map aY.a8).map λr=>r.kind*60+r.tx).Nodup/\∀ r∈(E++[e]).map aY.a8,(1<=r.kind/\r.kind<=3)/\0<=r.tx/\r.tx<60:=λE e ih hk ht hf=>by
  rw[eF,eF];refine⟨im.2 ⟨ih.1,by simp,λa ha b hb=>?_⟩,λr hr=>?_⟩
  ·obtain rfl:=dF.1 hb;rintro rfl;obtain⟨r,hr,er⟩:=bH.1 ha;have h1:=ih.2 r hr;have er:r.kind*60+r.tx=e.a8.kind*60+e.a8.tx:=er;exact xV.1 hf r hr ⟨az,az⟩
  ·rcases bU.1 hr with hr|hr
   ·exact ih.2 r hr
   ·obtain rfl:=dF.1 hr;exact⟨hk,ht⟩
 induction h with
 |nil=>exact⟨.nil,by simp⟩
 |@eZ E tx ops h1 h2 h3 h4 h5 h6 ih=>
  rw[eF,ml,eF]at lR;exact add _ _ (ih (im.1 lR).1) ⟨by simp[aY.a8],by simp[aY.a8]⟩ (dA _ (by simp only[aY.a8];rw[h2];rfl)) h4
 |@dec E tx yes reads h1 h2 ih=>
  rw[eF,ml,eF]at lR;refine add _ _ (ih (im.1 lR).1) ⟨by simp[aY.a8],by simp[aY.a8]⟩ (dA _ h2) (yb.2 λhm=>?_);exact(im.1 lR).2.2 _ hm _ (by simp[aY.a8]) rfl
 |@kD E tx yes h1 h2 h3 ih=>
  rw[eF,ml,eF]at lR;exact add _ _ (ih (im.1 lR).1) ⟨by simp[aY.a8],by simp[aY.a8]⟩ (dA _ h2) h3
variable{P:dT}{R:ShR}{t:Nat}
structure yc(t:Nat)(s:ShR):Prop where
 log:s.log.length<=240
 waits:s.waits.length<=1200
 timers:s.timers.length<=120
 under:s.under.length<=60
 cg:∀ u∈s.under,u.aR.length<=4/\u.bG.length<=t/\eV u.ops
 aH:s.aH.length<=26
 sO:∀ r∈s.log,(∀ o∈r.ops,97<=o.k/\o.k<=122)/\r.ops.length<=6
 bD:s.bD.length=26
 clock:0<=s.clock/\s.clock<=t
theorem X5(H:dL T n P R)(hT:y8 T)(hn:n<=4)(h:kT t R):yc t R:=by
 have hk:=H.BG.keys hT (by rw[H.log];exact h.nd);rw[H.log]at hk;have ks:R.log.length<=240:=by
  have:=mM (c:=240) hk.1 (λx hx=>by obtain⟨r,hr,rfl⟩:=bH.1 hx;have:=hk.2 r hr;omega)
  simpa using this
 have dA:∀ tx,(opsOf T tx).isSome=true->0<=tx/\tx<60:=λtx h=>by obtain⟨ops,h⟩:=tv.1 h;have h1:=oq h;have h2:=hT.2;omega
 have Gz:∀ u∈R.under,R.up=true/\∃ a,ko T n R.me (u.tx,a) u:=λu hu=>by
  by_cases ed:R.up=true
  ·refine⟨ed,?_⟩;have key:∀ {l:List (Int×ll)} {m:List gM},F2 (ko T n R.me) l m->∀ u∈m,∃ a,ko T n R.me (u.tx,a) u:=by
    intro l m hf
    induction hf with
    |nil=>intro u hu;cases hu
    |cons h1 h2 ih=>
     intro u hu;rcases ga.1 hu with rfl|hu
     ·rename_i a _ _;refine⟨a.2,?_⟩;rw[<- h1.tx];exact h1
     ·exact ih u hu
   exact key (H.cg ed) u hu
  ·have ed:R.up=false:=by simpa using ed
   exact absurd hu (by rw[show R.under=[]from(H.dn ed).2.2.2.2.2];simp)
 refine⟨ks,?_,?_,?_,λu hu=>?_,?_,λr hr=>?_,?_,h.ck⟩
 ·have:=h.wl;have:=H.gl;omega
 ·have:=mM (c:=120) (l:=R.timers.map λt=>(if t.again then 60 else 0)+t.tx) (by
   have h1:=h.tn;have h2:∀ x∈R.timers,0<=x.tx/\x.tx<60:=λx hx=>dA _ (H.tt x hx);unfold List.Nodup at h1⊢;rw[HH]at h1⊢;refine List.Pairwise.imp_of_mem (λ{a b} ha hb SS e=>?_) h1;have ba:=h2 a ha;have bb:=h2 b hb;refine SS ?_;cases ea:a.again<;>cases eb:b.again<;>simp only[ea,eb,eM,fB,ij]at e<;>first|(exfalso;omega)|(rw[CS];exact⟨rfl,az⟩)) (λx hx=>by
   obtain⟨y,hy,rfl⟩:=bH.1 hx;have:=dA _ (H.tt y hy);split<;>omega)
  simpa using this
 ·have:=mM (c:=60) h.un (λx hx=>by obtain⟨u,hu,rfl⟩:=bH.1 hx;obtain⟨_,a,ha⟩:=Gz u hu;exact dA _ (by rw[ha.ops];rfl))
  simpa using this
 ·obtain⟨_,a,ha⟩:=Gz u hu;refine⟨?_,h.an u hu,hT.of ha.ops⟩;have:=mM (c:=4) (h.vn u hu) (λx hx=>by
   obtain⟨v,hv,rfl⟩:=bH.1 hx;have h1:(bK u v.aU).isSome=true:=by unfold bK;rw[List.find?_isSome];exact⟨v,hv,by simp⟩
   have h2:=ha.ua.aR v.aU;cases hg:aB a.aR v.aU with
   |none=>rw[hg]at h2;cases SU:bK u v.aU with
    |none=>rw[SU]at h1;cases h1
    |some z=>rw[SU]at h2;cases h2
   |some rd=>
    have h3:=(ha.ua.vt _ (bT hg)).1;have hnp:0<n:=by have:=H.mb;omega
    have:=lr (hT.of ha.ops) hnp h3;simp only at this;omega)
  simpa using this
 ·by_cases ed:R.up=true
  ·have xW:=H.kl ed;have:=mM (c:=26) (l:=R.aH.map λh=>h.key-97) (by
    have:=xW.ln;unfold List.Nodup at this⊢;rw[HH]at this⊢;exact this.imp λh e=>h az) (λx hx=>by
    obtain⟨y,hy,rfl⟩:=bH.1 hx;obtain⟨i,r,h1,h2,o,h3,h4⟩:=xW.lk y hy;obtain⟨ops,g1,_,g3,_⟩:=H.BG.ready h1 h2;rw[g3]at h3;have:=(hT.of g1).key o h3;omega)
   simpa using this
  ·have ed:R.up=false:=by simpa using ed
   rw[(H.dn ed).2.2.2.1];simp
 ·obtain⟨i,hi⟩:=nV hr;rw[<- H.log]at hi;obtain⟨ops,g1,g2⟩:=H.BG.SK i r hi;have hk:r.kind≠1->r.ops=[]:=by
   rw[kG]at hi;cases he:P.log[i]? with
   |none=>rw[he]at hi;cases hi
   |some e=>
    rw[he]at hi;obtain rfl:=bS hi;cases e with
    |eZ=>intro z;exact absurd rfl z
    |dec=>intro _;rfl
    |kD=>intro _;rfl
  by_cases k1:r.kind=1
  ·obtain⟨_,g3,_⟩:=g2 k1;rw[g3];exact⟨(hT.of g1).key,Be (m8 ..) (hT.of g1).2.2.2⟩
  ·rw[hk k1];simp
 ·by_cases ed:R.up=true
  ·exact(H.kl ed).zy
  ·have ed:R.up=false:=by simpa using ed
   rw[(H.dn ed).2.2.1];rfl
theorem iQ.fresh{L:List RecR}{aX:Int}{t:Nat}{W:List MsgR}(lR:((L.filter λr=>r.kind==2).map (·.tx)).Nodup)(hg:(W.length:Int)<=5*(L.length-aX)):iQ t [] L [] W aX 0:=
 ⟨by simp,.nil,lR,.nil,by simp,by simp,hg,by simp,by simp,⟨rG _,az⟩⟩
variable{s:ShR}
theorem NF(h:kT t s):kT (t+1) (xD s):=
 iQ.mono (t:=t) {h with wl:=by{show(([]:List MsgR).length:Int)<=5*((s.log.length:Int)-(s.log.length:Nat));simp}} (nW t)
theorem JS(h:kT t s)(hg:0<=s.aX/\s.aX<=s.log.length)(keep:Int):kT (t+1) (oM s keep):=by
 unfold oM;simp only;generalize Wl:s.aX+(if(if keep<0 then 0 else keep)<(s.log.length:Int)-s.aX then(if keep<0 then 0 else keep)else(s.log.length:Int)-s.aX)=g;have hb:0<=g/\g<=s.log.length:=by rw[<- Wl];split<;>split<;>omega
 refine iQ.fresh ?_ ?_
 ·exact h.nd.sublist (((List.take_sublist ..).filter _).map _)
 ·show(0:Int)<=5*(((s.log.take g.toNat).length:Nat)-g);rw[ik];omega
theorem Ej(h:kT t s)(hg:s.aX<=s.log.length):kT (t+1) (dO s):=by
 unfold dO;obtain⟨a,b,e⟩:=mK s.log (eL {s with up:=true}) s.log.length;simp only[e];have h0:iQ (t+1) [] s.log [] [] s.aX 0:=iQ.fresh h.nd (by show(0:Int)<=_;omega);have lR:((je s.log).map λt=>(t.again,t.tx)).Nodup:=by unfold je;rw[tC];have s2:((upto 60).filter λtx=>(bF s.log tx).isSome).Pairwise (· < ·):=(Ax 60).sublist HF;unfold List.Nodup;rw[HH];exact s2.imp λh e=>by simp at e;omega
 have eN:∀ x∈je s.log,x.again=false/\(bF s.log x.tx).isSome=true:=λx hx=>by obtain⟨tx,h1,rfl⟩:=bH.1 hx;exact⟨rfl,(gP.1 h1).2⟩
 refine{h0 with tn:=lR,ta:=λx hx iH=>?_,tb:=λx hx _=>?_}
 ·rw[(eN x hx).1]at iH;cases iH
 ·obtain⟨i,hi⟩:=tv.1 (eN x hx).2;refine .inl ?_;show(bB s.log 1 x.tx).isSome=true;rw[(ez hi).2];rfl
theorem NG{ops:List cr}{f:ShR->Int->List cr->ShR}(hf:∀ z k p,∃ o,f z k p={z with out:=z.out++o}/\o.length<=1)(z:ShR):∃ o,fV z ops f={z with out:=z.out++o}/\o.length<=z.n.toNat:=by
 unfold fV;have key:∀ (l:List Int) (n:Int) (z:ShR),∃ o,l.foldl (λz k=>if(aV ops k n).isEmpty then z else f z k (aV ops k n)) z={z with out:=z.out++o}/\o.length<=l.length:=by
  intro l n
  induction l with
  |nil=>intro z;exact⟨[],by simp,gZ _⟩
  |cons k l ih=>
   intro z;rw[kM];split
   ·obtain⟨o,h1,h2⟩:=ih z;exact⟨o,h1,by rw[jc];omega⟩
   ·obtain⟨o1,f1,f2⟩:=hf z k (aV ops k n);rw[f1];obtain⟨o,h1,h2⟩:=ih {z with out:=z.out++o1};exact⟨o1++o,by rw[h1];simp,by rw[jc,jd];omega⟩
 obtain⟨o,h1,h2⟩:=key (upto z.n) z.n z;exact⟨o,h1,by simpa[upto]using h2⟩
theorem QG(h:kT t s){k:Nat}{x:dM}(hk:s.timers[k]? =some x)(hn:s.n<=4):kT t (kS {s with timers:=s.timers.eraseIdx k} x)/\∃ o,(kS {s with timers:=s.timers.eraseIdx k} x).out=s.out++o/\o.length<=5/\(kS {s with timers:=s.timers.eraseIdx k} x).waits=s.waits/\(kS {s with timers:=s.timers.eraseIdx k} x).n=s.n:=by
 have h0:iQ t s.under s.log (s.timers.eraseIdx k) s.waits s.aX s.clock:=
  {h with tn:=h.tn.sublist ((ju ..).map _),ta:=λy hy=>h.ta y ((ju ..).mem hy),tb:=λy hy=>h.tb y ((ju ..).mem hy)}
 have hx:=eY hk;have sF:(x.again,x.tx)∉(s.timers.eraseIdx k).map λt=>(t.again,t.tx):=λhm=>by obtain⟨y,hy,ey⟩:=bH.1 hm;obtain⟨j,hj,JR⟩:=RZ.1 hy;obtain⟨g1,g2⟩:=jk.1 JR;refine hj ((List.getElem?_inj (by rw[cV];exact g1) h.tn).1 ?_);rw[kG,kG,hk,JR];simp only[k7,ey]
 unfold kS;cases ha:x.again with
 |false=>
  simp only[Bg,eM];cases hr:bF s.log x.tx with
  |none=>exact⟨h0,[],by simp,by simp,rfl,rfl⟩
  |some r=>
   simp only;rw[ha]at sF;exact⟨h0.rT (x:=⟨s.clock+3,false,x.tx⟩) sF (λz=>by cases z) (λ_=>h.tb x hx ha),[_],rfl,by simp,rfl,rfl⟩
 |true=>
  simp only[zR,ij,fB];cases hu:cH s.under x.tx with
  |none=>exact⟨h0,[],by simp,by simp,rfl,rfl⟩
  |some i=>
   simp only;obtain⟨u,hg,um⟩:=sN hu;rw[hg];simp only;rw[ha]at sF
   suffices ak:∀ aX:Bool,∃ o,(fV {s with timers:=s.timers.eraseIdx k} u.ops λz k p=>
     if(!u.dec&& !(bK u k).isSome)=true then cu z {bj with kind:=2,to:=k,tx:=x.tx,ops:=p}
     else if(u.dec&&aX&& !u.bG.contains k)=true then cu z {bj with kind:=4,to:=k,tx:=x.tx,yes:=u.yes}
     else z)={s with timers:=s.timers.eraseIdx k,out:=s.out++o}/\o.length<=5 by
    cases hf:bB s.log 2 x.tx with
    |none=>
     obtain⟨o,e1,e2⟩:=ak (decide (-1<s.aX));simp only;rw[e1];exact⟨h0.rT (x:=⟨s.clock+4,true,x.tx⟩) sF (λ_=>h.ta x hx ha) (λz=>by cases z),o,rfl,e2,rfl,rfl⟩
    |some d=>
     obtain⟨o,e1,e2⟩:=ak (decide ((d:Int)<s.aX));simp only;rw[e1];exact⟨h0.rT (x:=⟨s.clock+4,true,x.tx⟩) sF (λ_=>h.ta x hx ha) (λz=>by cases z),o,rfl,e2,rfl,rfl⟩
   intro aX;obtain⟨o,e1,e2⟩:=NG (ops:=u.ops) (f:=λz k p=>
     if(!u.dec&& !(bK u k).isSome)=true then cu z {bj with kind:=2,to:=k,tx:=x.tx,ops:=p}
     else if(u.dec&&aX&& !u.bG.contains k)=true then cu z {bj with kind:=4,to:=k,tx:=x.tx,yes:=u.yes}
     else z) (λz k p=>by
      split
      ·exact⟨[_],rfl,gZ _⟩
      split
      ·exact⟨[_],rfl,gZ _⟩
      ·exact⟨[],by simp,by simp⟩) {s with timers:=s.timers.eraseIdx k}
   exact⟨o,e1,by simp only at e2;omega⟩
theorem Iz{c:Int}{L:List dM}:∀ (l:List dM) (i:Nat) (acc:Option (Nat×dM)),(∀ p,acc=some p->L[p.1]? =some p.2)->L.drop i=l->∀ p,jD c l i acc=some p->L[p.1]? =some p.2
 |[],_,_,ha,_,p,h=>ha p h
 |x::l,i,acc,ha,hd,p,h=>by
  unfold jD at h;refine Iz l (i+1) _ (λq hq=>?_) (by rw[<- LM,hd];rfl) p h;generalize(decide (x.tm<=c)&&_)=z at hq;cases z with
  |true=>
   obtain rfl:=bS hq;have:(L.drop i)[0]? =some x:=by rw[hd];rfl
   simpa using this
  |false=>exact ha q hq
theorem yd:∀ (f:Nat) (s:ShR),kT t s->s.n<=4->kT t (iE f s)/\∃ o,(iE f s).out=s.out++o/\o.length<=5*f/\(iE f s).waits=s.waits
 |0,s,h,_=>⟨h,[],by simp[iE],by simp,rfl⟩
 |f+1,s,h,hn=>by
  unfold iE;cases hd:jD s.clock s.timers 0 none with
  |none=>exact⟨h,[],by simp,by simp,rfl⟩
  |some p=>
   obtain⟨k,x⟩:=p;simp only;have hk:=Iz s.timers 0 none (L:=s.timers) (by simp) rfl _ hd;obtain⟨h1,o1,e1,e2,e3,e4⟩:=QG h hk hn;obtain⟨h2,o2,f1,f2,f3⟩:=yd f _ h1 (by rw[e4];exact hn);exact⟨h2,o1++o2,by rw[f1,e1];simp,by rw[jd];omega,by rw[f3,e3]⟩
theorem Ek(h:kT t s)(hn:s.n<=4)(ht:s.timers.length<=120):kT (t+1) (qe s)/\∃ o,(qe s).out=s.out++o/\o.length<=605/\(qe s).waits=s.waits:=by unfold qe;simp only;have h1:kT (t+1) {s with clock:=s.clock+1}:={iQ.mono h (nW t)with ck:=by{have:=h.ck;show 0<=s.clock+1/\s.clock+1<=((t+1:Nat):Int);omega}};obtain⟨h2,o,e1,e2,e3⟩:=yd (rm {s with clock:=s.clock+1}+1) {s with clock:=s.clock+1} h1 hn;refine⟨h2,o,e1,?_,e3⟩;have:rm {s with clock:=s.clock+1}<=s.timers.length:=m8 ..;omega
def ry(l:List ShR):Nat:=(l.map λs=>ws s.waits).sum
structure iV(t:Nat)(w:WR):Prop where
 sh:∀ s∈w.sh,kT t s
 phi:ws w.aE+ry w.sh<=300000
theorem ye:∀ {l:List ShR} {a:Nat} {s:ShR} (x:ShR),l[a]? =some s->ry (l.set a x)+ws s.waits=ry l+ws x.waits
 |y::l,0,s,x,h=>by
  obtain rfl:y=s:=by simpa using h
  simp[ry];omega
 |y::l,a+1,s,x,h=>by have:=ye (l:=l) x (by simpa using h);simp only[vX];simp only[ry,iJ,List.sum_cons]at this⊢;omega
theorem BN{c:Nat}:∀ {l:List ShR},(∀ s∈l,ws s.waits<=c)->ry l<=l.length*c
 |[],_=>by simp[ry]
 |s::l,h=>by have h1:=BN (l:=l) λx hx=>h x (gb _ hx);have h2:=h s (iz ..);simp only[ry,iJ,List.sum_cons,jc,pA]at h1⊢;omega
variable{W:WP}{w:WR}
theorem iV.size(I:iV t w)(H:gk W w){s:ShR}(hs:s∈w.sh):yc t s/\0<=s.aX/\s.aX<=s.log.length/\s.n=w.sh.length/\s.out=[]:=by obtain⟨i,hi⟩:=nV hs;obtain⟨dA,_⟩:=jk.1 hi;obtain⟨P,R,h1,h2,h3,h4,h5⟩:=H.Iy i dA;rw[hi]at h2;obtain rfl:=bS h2;exact⟨X5 h3 H.tok (by have:=H.n;omega) (I.sh _ hs),h3.gl.1,h3.gl.2,h3.n2,h5⟩
theorem iV.waits(I:iV t w)(H:gk W w):ry w.sh<=216000:=by
 have h1:∀ s∈w.sh,ws s.waits<=54000:=λs hs=>by have:=(I.size H hs).1.waits;have:=(Az s.waits).2;omega
 have:=BN h1;have:=H.n;have:w.sh.length*54000<=4*54000:=se _ az;omega
theorem iV.mono(I:iV t w):iV (t+1) w:=⟨λs hs=>iQ.mono (I.sh s hs) (nW t),I.phi⟩
theorem iV.push(I:iV t w)(H:gk W w)(hb:w.aE.length<400)(m:MsgR){aL:List TxR}:iV (t+1) {w with aE:=w.aE++[m],aL:=aL}:=by refine⟨I.mono.sh,?_⟩;have h1:=I.waits H;have h2:=(Az w.aE).2;have h3:=NA m;show ws (w.aE++[m])+ry w.sh<=_;rw[BL,NB];omega
theorem iV.vf(I:iV t w){a:Nat}{s x:ShR}(ha:w.sh[a]? =some s)(hi:kT (t+1) x)(aa4:ws w.aE+ws x.out+ry w.sh+ws x.waits<=300000+ws s.waits):iV (t+1) (lj w a x):=by
 refine⟨λy hy=>?_,?_⟩
 ·rcases fN hy with z|rfl
  ·exact I.mono.sh y z
  ·exact hi
 ·have:=ye (l:=w.sh) {x with out:=[]} ha;show ws (w.aE++x.out)+ry (w.sh.set a {x with out:=[]})<=_;rw[BL];simp only at this;omega
theorem GB(I:iV t w)(H:gk W w)(hb:w.aE.length<400)(tx:Nat):iV (t+1) (mH w tx):=by
 unfold mH;split
 ·exact I.mono
 ·exact I.push H hb _
theorem Em(I:iV t w)(H:gk W w)(ops:List cr):iV (t+1) (eG w ops).1:=by
 unfold eG;split
 ·exact I.mono
 split
 ·exact I.mono
 split
 ·exact I.mono
 ·rename_i h;dsimp only;unfold mH;simp only[Tu (gZ _),zV,PK];exact I.push H az _
theorem En:∀ {l:List MsgR} {i:Nat} {m:MsgR},l[i]? =some m->ws (l.eraseIdx i)+wt m=ws l
 |x::l,0,m,h=>by
  obtain rfl:x=m:=by simpa using h
  simp[ws];omega
 |x::l,i+1,m,h=>by have:=En (l:=l) (i:=i) (by simpa using h);simp only[LI];simp only[ws,iJ,List.sum_cons]at this⊢;omega
theorem BO(I:iV t w)(H:gk W w)(k i:Int):iV (t+1) (cD w k i).1:=by
 unfold cD;by_cases c1:i<0\/(w.aE.length:Int)<=i
 ·rw[aK c1];exact I.mono
 rw[ao c1];cases hm:w.aE[i.toNat]? with
 |none=>exact I.mono
 |some m=>
  dsimp only;by_cases c2:k=4
  ·rw[aK c2];by_cases c3:400<=w.aE.length
   ·rw[aK c3];exact I.mono
   rw[ao c3];exact I.push H az m
  rw[ao c2];have he:=En hm;have I1:iV t {w with aE:=w.aE.eraseIdx i.toNat}:=⟨I.sh,by have:=I.phi;show ws (w.aE.eraseIdx _)+ry w.sh<=_;omega⟩;by_cases c3:k=3
  ·rw[aK c3];exact I1.mono
  rw[ao c3];by_cases c4:m.to= -1
  ·rw[aK c4,Ee];exact⟨I1.mono.sh,I1.phi⟩
  rw[ao c4];cases hs:w.sh[m.to.toNat]? with
  |none=>exact I1.mono
  |some s=>
   dsimp only;by_cases c5:s.up=true
   ·rw[aK c5];have eN:=eY hs;have hz:=I.size H eN;have hT:=Ei (m:=m) (I.sh s eN) (by rw[hz.2.2.2.1];have:=H.n;omega);obtain⟨o,x,e1,e2,e3,e4⟩:=hT.o;refine I1.vf hs hT.inv ?_;rw[e1,e2,hz.2.2.2.2,fi,BL];have:=I.phi;show ws (w.aE.eraseIdx _)+ws o+ry w.sh+(ws s.waits+ws x)<=_;omega
   ·rw[ao c5];exact I1.mono
theorem QH(I:iV t w)(H:gk W w)(k a b:Int):iV (t+1) (mY w k a b).1:=by
 unfold mY;by_cases c1:k<1\/8<k
 ·rw[aK c1];exact I.mono
 rw[ao c1];by_cases c2:w.ai=true
 ·rw[aK c2];exact I.mono
 rw[ao c2];by_cases c3:k=1
 ·rw[aK c3];by_cases d1:a<0\/(w.aL.length:Int)<=a
  ·rw[aK d1];exact I.mono
  rw[ao d1];by_cases d2:400<=w.aE.length
  ·rw[aK d2];exact I.mono
  rw[ao d2];exact GB I H az _
 rw[ao c3];by_cases c4:k<=4
 ·rw[aK c4];exact BO I H k a
 rw[ao c4];by_cases c5:a<0\/(w.sh.length:Int)<=a
 ·rw[aK c5];exact I.mono
 rw[ao c5];have dA:a.toNat<w.sh.length:=az;obtain⟨P,R,h1,h2,h3,h4,h5⟩:=H.Iy a.toNat dA;have eN:=eY h2;have hz:=I.size H eN;have aa4:=I.phi;rw[h2];dsimp only;by_cases c6:k=8
 ·rw[aK c6];by_cases d1:R.up=true
  ·rw[aK d1];exact I.mono
  rw[ao d1];have hr:=Ej (I.sh R eN) hz.2.2.1;refine⟨λy hy=>?_,?_⟩
  ·rcases fN hy with z|rfl
   ·exact I.mono.sh y z
   ·exact hr
  ·have hw:(dO R).waits=[]:=by unfold dO;obtain⟨a,b,e⟩:=mK R.log (eL {R with up:=true}) R.log.length;simp only[e];rfl
   have:=ye (l:=w.sh) (dO R) h2;rw[hw,BM]at this;show ws w.aE+ry (w.sh.set _ _)<=_;omega
 rw[ao c6];by_cases c7:(!R.up)=true
 ·rw[aK c7];exact I.mono
 rw[ao c7];by_cases c8:k=5
 ·rw[aK c8];refine I.vf h2 (NF (I.sh R eN)) ?_;show ws w.aE+ws (R.out++R.waits)+_+ws []<=_;rw[h5,fi,BM];omega
 rw[ao c8];by_cases c9:k=6
 ·rw[aK c9];by_cases d1:150<w.aE.length
  ·rw[aK d1];exact I.mono
  rw[ao d1];obtain⟨g1,o,g2,g3,g4⟩:=Ek (I.sh R eN) (by rw[hz.2.2.2.1];have:=H.n;omega) hz.1.timers;refine I.vf h2 g1 ?_;rw[g2,g4,h5,fi];have e1:=I.waits H;have e2:=(Az w.aE).2;have e3:=(Az o).2;omega
 rw[ao c9];refine I.vf h2 (JS (I.sh R eN) ⟨hz.2.1,hz.2.2.1⟩ b) ?_;show ws w.aE+ws R.out+_+ws []<=_;rw[h5,BM];omega
theorem QI{n:Int}:iV 0 (pE n):=by
 refine⟨λs hs=>?_,?_⟩
 ·obtain⟨k,_,rfl⟩:=bH.1 hs;exact iQ.fresh .nil (rG _)
 ·have:ry (pE n).sh<=(pE n).sh.length*0:=BN λs hs=>by obtain⟨k,_,rfl⟩:=bH.1 hs;exact gZ _
  show 0+_<=_;omega
theorem gk.NH(H:gk W w){m:MsgR}(hm:m∈w.aE):(∀ o∈m.ops,97<=o.k/\o.k<=122)/\m.ops.length<=6:=by
 obtain⟨ops,ho,hc⟩:=H.msg m hm;have hr:=H.tok.of ho;have h0:(∀ o∈ops,97<=o.k/\o.k<=122)/\ops.length<=6:=⟨λo h=>⟨(hr.1 o h).1,(hr.1 o h).2.1⟩,hr.2.2.2⟩;have hn:∀ l:List cr,l=[]->(∀ o∈l,97<=o.k/\o.k<=122)/\l.length<=6:=λl h=>by subst h;simp
 rcases hc with h|h|h|h|h|h|h
 ·rw[h.2.2.2];exact h0
 ·rw[h.2.2.2];refine⟨λo ho=>h0.1 o (gP.1 ho).1,Be (m8 _ _) h0.2⟩
 ·exact hn _ h.2.2.2.2
 ·exact hn _ h.2.2.2
 ·exact hn _ h.2.2.2
 ·exact hn _ h.2.2.2
 ·exact hn _ h.2.2
theorem gk.mto(H:gk W w){m:MsgR}(hm:m∈w.aE):(m.to= -1/\0<=m.tx/\m.tx<w.aL.length)\/(0<=m.to/\m.to<w.sh.length):=by
 obtain⟨ops,ho,hc⟩:=H.msg m hm;have hr:=H.tok.of ho;have hn:(0:Int)<w.sh.length:=by have:=H.n;omega
 have eI:ops≠[]:=by have:=hr.2.2.1;intro z;rw[z]at this;simp at this
 have hh:=lr hr hn (vK eI);rcases hc with h|h|h|h|h|h|h
 ·rw[h.2.2.1];exact .inr hh
 ·exact .inr (lr hr hn h.2.2.1)
 ·rw[h.2.1];exact .inr hh
 ·exact .inr (lr hr hn h.2.2.1)
 ·rw[h.2.1];exact .inr hh
 ·rw[h.2.1];exact .inr hh
 ·have:=oq ho;have e:=H.uk;refine .inl ⟨h.2.1,?_,?_⟩<;>omega
theorem iV.aE(I:iV t w):w.aE.length<=300000:=by have h1:=(Az w.aE).1;have h2:=I.phi;omega
theorem iV.take(I:iV t w)(H:gk W w){s:ShR}(hs:s∈w.sh){m:MsgR}(hm:m∈w.aE):(jl s m).out.length<=5:=by obtain⟨h1,_,_,h4,h5⟩:=I.size H hs;obtain⟨_,o,w',e1,_,e3,_⟩:=Ei (m:=m) (I.sh s hs) (by have:=H.n;omega);rw[e1,h5];simpa using e3
theorem gk.GC(H:gk W w){x:TxR}(hx:x∈w.aL):(∀ o∈x.ops,97<=o.k/\o.k<=122)/\x.ops.length<=6/\1<=x.ops.length:=by have hr:=H.tok.1 x.ops (by unfold lv;exact bH.2 ⟨x,hx,rfl⟩);exact⟨λo h=>⟨(hr.1 o h).1,(hr.1 o h).2.1⟩,hr.2.2.2,hr.2.2.1⟩
theorem gk.Uv(H:gk W w):w.aL.length<=60:=by have:=H.tok.2;have e:=H.uk;omega
variable{φ:Int->Prop}
def uo(φ:Int->Prop)(l:List cr):Prop:=∀ o∈l,φ o.v
def lL(φ:Int->Prop)(l:List Int):Prop:=∀ x∈l,φ x
def JU(φ:Int->Prop)(m:MsgR):Prop:=uo φ m.ops/\lL φ m.reads
def QJ(φ:Int->Prop)(r:RecR):Prop:=uo φ r.ops/\lL φ r.reads
def Uw(φ:Int->Prop)(u:gM):Prop:=uo φ u.ops/\∀ v∈u.aR,lL φ v.reads
structure eR(φ:Int->Prop)(s:ShR):Prop where
 log:∀ r∈s.log,QJ φ r
 bD:lL φ s.bD
 cg:∀ u∈s.under,Uw φ u
 waits:∀ m∈s.waits,JU φ m
 out:∀ m∈s.out,JU φ m
structure sP(φ:Int->Prop)(w:WR):Prop where
 sh:∀ s∈w.sh,eR φ s
 aE:∀ m∈w.aE,JU φ m
 aL:∀ t∈w.aL,uo φ t.ops/\lL φ t.reads
theorem uo.nil:uo φ []:=λ_ h=>by cases h
theorem lL.nil:lL φ []:=λ_ h=>by cases h
theorem iM{A:Type}{p:A->Prop}{l:List A}{x:A}(h:∀ y∈l,p y)(hx:p x):∀ y∈l++[x],p y:=λy hy=>by
 rcases bU.1 hy with hy|hy
 ·exact h y hy
 ·obtain rfl:=dF.1 hy;exact hx
theorem mN{A:Type}{p:A->Prop}{l:List A}{i:Nat}{x:A}(h:∀ y∈l,p y)(hx:p x):∀ y∈l.set i x,p y:=λy hy=>by
 rcases fN hy with hy|rfl
 ·exact h y hy
 ·exact hx
theorem yf{A:Type}{p:A->Prop}{l:List A}{i:Nat}(h:∀ y∈l,p y):∀ y∈l.eraseIdx i,p y:=λy hy=>h y ((ju ..).mem hy)
theorem uo.part{l:List cr}(h:uo φ l)(k n:Int):uo φ (aV l k n):=λo ho=>h o (gP.1 ho).1
theorem eR.cu{s:ShR}(h:eR φ s){m:MsgR}(hm:JU φ m):eR φ (cu s m):={h with out:=iM h.out hm}
theorem eR.eP{s:ShR}(h:eR φ s){m:MsgR}(hm:JU φ m):eR φ (eP s m):={h with waits:=iM h.waits hm}
theorem eR.pL{s:ShR}(h:eR φ s)(t:List dM):eR φ {s with timers:=t}:={h with}
theorem eR.wrote{s:ShR}(h:eR φ s){r:RecR}(hr:QJ φ r):eR φ {s with log:=s.log++[r]}:={h with log:=iM h.log hr}
theorem eR.QK{s:ShR}(h:eR φ s)(i:Nat):QJ φ (s.log[i]?.getD eh):=by
 cases e:s.log[i]? with
 |none=>exact⟨.nil,.nil⟩
 |some r=>exact h.log r (eY e)
theorem eR.each{s:ShR}(h:eR φ s){ops:List cr}(ho:uo φ ops){f:ShR->Int->List cr->ShR}(hf:∀ z k p,eR φ z->uo φ p->eR φ (f z k p)):eR φ (fV s ops f):=by
 unfold fV;have key:∀ (l:List Int) (z:ShR) (n:Int),eR φ z->eR φ (l.foldl (λz k=>if(aV ops k n).isEmpty then z else f z k (aV ops k n)) z):=by
  intro l
  induction l with
  |nil=>intro z n hz;exact hz
  |cons k l ih=>
   intro z n hz;rw[kM];refine ih _ n ?_;split
   ·exact hz
   ·exact hf _ _ _ hz (ho.part k n)
 exact key _ _ _ h
theorem lL.seen{bD:List Int}(h0:φ 0)(h:lL φ bD)(ops:List cr):lL φ (gS bD ops):=λx hx=>by
 obtain⟨o,_,rfl⟩:=bH.1 hx;cases e:bD[(o.k-97).toNat]? with
 |none=>exact h0
 |some v=>exact h v (eY e)
theorem lL.write:∀ {ops:List cr} {bD:List Int},lL φ bD->uo φ ops->lL φ (eC bD ops)
 |[],_,h,_=>h
 |o::l,bD,h,ho=>by
  show lL φ (eC (if o.w then bD.set (o.k-97).toNat o.v else bD) l);refine lL.write ?_ λx hx=>ho x (gb _ hx);split
  ·exact mN h (ho o (iz ..))
  ·exact h
theorem lL.eB{u:gM}(h0:φ 0)(h:∀ v∈u.aR,lL φ v.reads)(n:Int):∀ (l:List cr) (used:Int->Nat),lL φ (eB u n l used)
 |[],_=>.nil
 |o::l,used=>by
  unfold Go.Sl.eB;split
  ·exact lL.eB h0 h n l used
  ·intro x hx;rcases ga.1 hx with rfl|hx
   ·cases e:bK u (gU o.k n)with
    |none=>simpa using h0
    |some v=>
     simp only[k7,jU];cases e2:v.reads[used (gU o.k n)]? with
     |none=>exact h0
     |some y=>exact h v (zU e) y (eY e2)
   ·exact lL.eB h0 h n l _ x hx
theorem eR.at{s:ShR}(h:eR φ s){i:Nat}{u:gM}(e:s.under[i]? =some u):Uw φ u:=h.cg u (eY e)
theorem NJ{s:ShR}{m:MsgR}(h0:φ 0)(h:eR φ s)(hm:JU φ m):eR φ (jl s m):=by
 unfold jl;split
 ·unfold lH;split
  ·split
   ·exact h.cu ⟨.nil,(h.QK _).2⟩
   ·exact h
  ·split
   ·exact h
   ·refine eR.pL (eR.each (s:={s with under:=s.under++[⟨m.tx,m.ops,[],false,false,[]⟩]}) {h with cg:=iM h.cg ⟨hm.1,by simp⟩} hm.1 λz k p hz hp=>hz.cu ⟨hp,.nil⟩) _
 split
 ·unfold gB;split
  ·split
   ·exact h.cu ⟨.nil,h.bD.seen h0 _⟩
   ·exact h
  ·split
   ·split
    ·exact h
    ·exact h.cu ⟨.nil,.nil⟩
   ·split
    ·exact h.cu ⟨.nil,.nil⟩
    ·exact eR.pL (eR.eP (s:={s with aH:=i3 s.aH m.tx m.ops,log:=s.log++[{eh with kind:=1,tx:=m.tx,home:=m.aU,ops:=m.ops}]}) {h with log:=iM h.log ⟨hm.1,.nil⟩} ⟨.nil,h.bD.seen h0 _⟩) _
 split
 ·unfold pf;split
  ·exact h
  ·rename_i i _;split
   ·exact h
   ·rename_i u e;have hu:=h.at e;split
    ·exact h
    ·simp only;obtain⟨u1,ZG⟩:∃ u1,u1=(if(m.yes&& !(bK u m.aU).isSome)=true then({u with aR:=u.aR++[⟨m.aU,m.reads⟩]}:gM)else u):=⟨_,rfl⟩;rw[<- ZG];have h1:Uw φ u1:=by
      rw[ZG];split
      ·exact⟨hu.1,iM hu.2 hm.2⟩
      ·exact hu
     split
     ·exact{h with cg:=mN h.cg h1}
     ·have iS:lL φ (if m.yes=true then jo {u1 with dec:=true,yes:=m.yes} s.n else[]):=by
       split
       ·exact lL.eB (u:={u1 with dec:=true,yes:=m.yes}) h0 h1.2 _ _ _
       ·exact .nil
      refine eR.eP (eR.each (s:={s with under:=s.under.set i {u1 with dec:=true,yes:=m.yes},log:=s.log++[_]}) {h with cg:=mN h.cg h1,log:=iM h.log ⟨.nil,iS⟩} h1.1 λz k p hz _=>hz.eP ⟨.nil,.nil⟩) ⟨.nil,iS⟩
 split
 ·unfold iD;split
  ·simp only;refine eR.eP ?_ ⟨.nil,.nil⟩;split
   ·exact{h with log:=iM h.log ⟨.nil,.nil⟩,bD:=h.bD.write (h.QK _).1}
   ·exact{h with log:=iM h.log ⟨.nil,.nil⟩}
  ·split
   ·split
    ·exact h.cu ⟨.nil,.nil⟩
    ·exact h
   ·split
    ·exact h
    ·exact eR.eP (h.wrote ⟨.nil,.nil⟩) ⟨.nil,.nil⟩
 split
 ·unfold wi;split
  ·exact h
  ·split
   ·exact h
   ·rename_i u e;have hu:=h.at e;split
    ·exact h
    ·simp only;split
     ·exact{h with cg:=yf h.cg}
     ·exact{h with cg:=mN h.cg hu}
 split
 ·unfold wj;split
  ·split
   ·exact h.cu ⟨.nil,.nil⟩
   ·exact h
  ·split
   ·exact h
   ·exact eR.eP (h.wrote ⟨.nil,.nil⟩) ⟨.nil,.nil⟩
 ·exact h
theorem NK{s:ShR}(h:eR φ s):eR φ (xD s):=⟨h.log,h.bD,h.cg,λm hm=>(by cases hm),λm hm=>by
 rcases bU.1 hm with hm|hm
 ·exact h.out m hm
 ·exact h.waits m hm⟩
theorem QL{s:ShR}(h:eR φ s)(t:dM):eR φ (kS s t):=by
 unfold kS;split
 ·split
  ·exact eR.pL (h.cu ⟨.nil,.nil⟩) _
  ·exact h
 ·split
  ·exact h
  ·split
   ·exact h
   ·rename_i u e;have hu:=h.at e;refine eR.pL (eR.each h hu.1 λz k p hz hp=>?_) _
    repeat' split
    all_goals first|exact hz|exact hz.cu ⟨hp,lL.nil⟩|exact hz.cu ⟨uo.nil,lL.nil⟩
theorem yg:∀ (f:Nat) {s:ShR},eR φ s->eR φ (iE f s)
 |0,_,h=>h
 |f+1,s,h=>by
  unfold iE;split
  ·exact h
  ·exact yg f (QL (h.pL _) _)
theorem NL{s:ShR}(h:eR φ s):eR φ (qe s):=yg _ {h with}
theorem AB(h0:φ 0):lL φ gX:=λx hx=>by rw[R0 hx];exact h0
theorem yh{s:ShR}(h0:φ 0)(h:eR φ s):eR φ (eL s):=⟨h.log,AB h0,by simp[eL],by simp[eL],h.out⟩
theorem JV{s:ShR}(h0:φ 0)(h:eR φ s)(k:Int):eR φ (oM s k):=yh h0 {h with log:=λr hr=>h.log r (LY hr)}
theorem yi{log:List RecR}(hl:∀ r∈log,QJ φ r):∀ (i:Nat) {s:ShR},eR φ s->eR φ (dC log i s)
 |0,_,h=>h
 |i+1,s,h=>by
  have ih:=yi hl i h;unfold dC;simp only;split
  ·exact ih
  ·split
   ·exact{ih with}
   ·split
    ·split
     ·rename_i p _;split
      ·refine{ih with bD:=ih.bD.write ?_};cases e:log[p]? with
       |none=>exact .nil
       |some r=>exact(hl r (eY e)).1
      ·exact{ih with}
     ·exact{ih with}
    ·exact ih
theorem Eo{s:ShR}(h0:φ 0)(h:eR φ s):eR φ (dO s):=eR.pL (yi h.log _ (yh h0 (s:={s with up:=true}) {h with})) _
theorem QM(h0:φ 0)(n:Int):sP φ (pE n):=⟨λs hs=>by obtain⟨k,_,rfl⟩:=bH.1 hs;exact⟨by simp[Dx,eL],AB h0,by simp[Dx,eL],by simp[Dx,eL],by simp[Dx,eL]⟩,by simp[pE],by simp[pE]⟩
theorem AD{w:WR}(h:sP φ w)(tx:Nat):sP φ (mH w tx):=by
 unfold mH;split
 ·exact h
 ·rename_i t e;exact{h with aE:=iM h.aE ⟨(h.aL t (eY e)).1,.nil⟩}
theorem GD{w:WR}(h:sP φ w){ops:List cr}(ho:uo φ ops):sP φ (eG w ops).1:=by
 unfold eG;split
 ·exact h
 split
 ·exact h
 split
 ·exact h
 ·exact AD (w:={w with aL:=w.aL++[⟨ops,1,[]⟩]}) {h with aL:=iM h.aL ⟨ho,.nil⟩} _
theorem uu{w:WR}(h:sP φ w){s:ShR}(hs:eR φ s)(a:Nat):sP φ (lj w a s):=
 ⟨mN h.sh {hs with out:=λm hm=>by cases hm},λm hm=>by
  rcases bU.1 hm with hm|hm
  ·exact h.aE m hm
  ·exact hs.out m hm,h.aL⟩
theorem Ep{w:WR}(h0:φ 0)(h:sP φ w)(k i:Int):sP φ (cD w k i).1:=by
 unfold cD;split
 ·exact h
 split
 ·exact h
 ·rename_i m e;have hm:=h.aE m (eY e);have h1:sP φ {w with aE:=w.aE.eraseIdx i.toNat}:={h with aE:=yf h.aE};split
  ·split
   ·exact h
   ·exact{h with aE:=iM h.aE hm}
  ·simp only;split
   ·exact h1
   ·split
    ·unfold qf;split
     ·exact h1
     ·rename_i t et;have ht:=h.aL t (eY et);split
      ·refine{h1 with aL:=mN h1.aL ?_};split
       ·exact⟨ht.1,hm.2⟩
       ·exact ht
      ·exact h1
    ·split
     ·exact h1
     ·rename_i s es;split
      ·exact uu h1 (NJ h0 (h.sh s (eY es)) hm) _
      ·exact h1
theorem Ux{w:WR}(h0:φ 0)(h:sP φ w)(k a b:Int):sP φ (mY w k a b).1:=by
 unfold mY;split
 ·exact h
 split
 ·exact h
 split
 ·split
  ·exact h
  split
  ·exact h
  ·exact AD h _
 split
 ·exact Ep h0 h k a
 split
 ·exact h
 split
 ·exact h
 ·rename_i s es;have hs:=h.sh s (eY es);split
  ·split
   ·exact h
   ·exact{h with sh:=mN h.sh (Eo h0 hs)}
  split
  ·exact h
  split
  ·exact uu h (NK hs) _
  split
  ·split
   ·exact h
   ·exact uu h (NL hs) _
  ·exact uu h (JV h0 hs b) _
open Go.Proofs
abbrev aO(i:Nat)(f:Func)(n:Nat):=Body prog i f ((f.body).getD .skip) n
abbrev dU:=Fl prog
abbrev lD:=Cz prog
abbrev jQ:=Ag prog
abbrev zF:=El prog
abbrev AE:=Bz prog
abbrev QN:=Pt prog
abbrev SV:=Mp prog
theorem dk{i n:Nat}{f:Func}(h:prog.funcs[i]? =some f)(h1:(f.name== "runtime.NumGoroutine")=false:=by rfl)(h2:f.body=some ((f.body).getD .skip):=by rfl)(h3:f.ntmps=n:=by rfl):aO i f n:=⟨h,h1,h2,h3⟩
theorem dW{s f o z t:Nat}{fs:Array Field}{fl:Field}{i:TypeInfo}(h1:prog.underlying s=some (.struct fs))(h2:prog.types[t]? =some i)(h3:fs[f]? =some fl:=by rfl)(h4:fl.offset=o:=by rfl)(h5:fl.type=t:=by rfl)(h6:i.size=z:=by rfl)(h7:z≠0:=by decide):dU s f o:=⟨fs,fl,z,h1,h3,h4,⟨i,h5▸ax h2,h6⟩,h7⟩
theorem eD{f:Field}{l:List Field}{m:List (Nat×Nat)}{o z t:Nat}{i:TypeInfo}(h2:prog.types[t]? =some i)(r:Sp prog l m)(h4:f.offset=o:=by rfl)(h5:f.type=t:=by rfl)(h6:i.size=z:=by rfl):Sp prog (f::l) ((o,z)::m):=.cons h4 ⟨i,h5▸ax h2,h6⟩ r
instance:lD 3 1:=⟨_,ax type3,rfl⟩
instance:AE 3 8:=⟨_,ax type3,rfl⟩
instance:Zv prog 3 (.int .i64 0):=⟨_,ax type3,rfl⟩
instance:jQ 3 false:=⟨_,underlying3,rfl⟩
instance:Ik prog 3 IntKind.i64:=⟨underlying3⟩
instance:lD 4 1:=⟨_,ax type4,rfl⟩
instance:jQ 4 false:=⟨_,underlying4,rfl⟩
instance:jQ 5 false:=⟨_,underlying5,rfl⟩
instance:Ik prog 5 IntKind.u8:=⟨underlying5⟩
instance:jQ 9 false:=⟨_,underlying9,rfl⟩
instance:lD 21 1:=⟨_,ax type21,rfl⟩
instance:AE 21 4:=⟨_,ax type21,rfl⟩
instance:Zv prog 21 (.int .i32 0):=⟨_,ax type21,rfl⟩
instance:jQ 21 false:=⟨_,underlying21,rfl⟩
instance:Ik prog 21 IntKind.i32:=⟨underlying21⟩
instance:zF 22 29:=⟨underlying22⟩
instance:lD 23 1:=⟨_,ax type23,rfl⟩
instance:Zv prog 23 (.pointer none):=⟨_,ax type23,rfl⟩
instance:jQ 23 false:=⟨_,underlying23,rfl⟩
instance:QN 23 92:=⟨underlying23⟩
instance:jQ 27 false:=⟨_,underlying27,rfl⟩
instance:zF 27 63:=⟨underlying27⟩
instance:lD 29 6:=⟨_,ax type29,rfl⟩
instance:AE 29 64:=⟨_,ax type29,rfl⟩
instance:Zv prog 29 (.agg #[.int .i64 0,.int .i64 0,.int .i64 0,.int .i64 0,.int .i64 0,.slice none 0 0]):=⟨_,ax type29,rfl⟩
instance:jQ 29 true:=⟨_,underlying29,rfl⟩
instance:dU 29 0 0:=dW underlying29 type3
instance:dU 29 1 1:=dW underlying29 type3
instance:dU 29 2 2:=dW underlying29 type3
instance:dU 29 3 3:=dW underlying29 type3
instance:dU 29 4 4:=dW underlying29 type3
instance:dU 29 5 5:=dW underlying29 type27
instance:jQ 30 false:=⟨_,underlying30,rfl⟩
instance:QN 30 53:=⟨underlying30⟩
instance:lD 36 1:=⟨_,ax type36,rfl⟩
instance:Zv prog 36 (.slice none 0 0):=⟨_,ax type36,rfl⟩
instance:jQ 36 false:=⟨_,underlying36,rfl⟩
instance:zF 36 67:=⟨underlying36⟩
instance:lD 46 1:=⟨_,ax type46,rfl⟩
instance:Zv prog 46 (.nilIface):=⟨_,ax type46,rfl⟩
instance:jQ 46 false:=⟨_,underlying46,rfl⟩
instance:lD 49 1:=⟨_,ax type49,rfl⟩
instance:jQ 49 false:=⟨_,underlying49,rfl⟩
instance:zF 49 54:=⟨underlying49⟩
instance:lD 50 1:=⟨_,ax type50,rfl⟩
instance:jQ 50 false:=⟨_,underlying50,rfl⟩
instance:zF 50 137:=⟨underlying50⟩
instance:lD 51 1:=⟨_,ax type51,rfl⟩
instance:jQ 51 false:=⟨_,underlying51,rfl⟩
instance:zF 51 71:=⟨underlying51⟩
instance:Zv prog 53 (.agg #[.slice none 0 0,.slice none 0 0,.slice none 0 0,.bool false]):=⟨_,ax type53,rfl⟩
instance:Bd prog 53 [(0,1),(1,1),(2,1),(3,1)]:=⟨_,underlying53,eD type49 (eD type50 (eD type51 (eD type4 .nil)))⟩
instance:dU 53 0 0:=dW underlying53 type49
instance:dU 53 1 1:=dW underlying53 type50
instance:dU 53 2 2:=dW underlying53 type51
instance:dU 53 3 3:=dW underlying53 type4
instance:lD 54 1:=⟨_,ax type54,rfl⟩
instance:AE 54 8:=⟨_,ax type54,rfl⟩
instance:Zv prog 54 (.pointer none):=⟨_,ax type54,rfl⟩
instance:jQ 54 false:=⟨_,underlying54,rfl⟩
instance:QN 54 61:=⟨underlying54⟩
instance:lD 55 1:=⟨_,ax type55,rfl⟩
instance:jQ 55 false:=⟨_,underlying55,rfl⟩
instance:zF 55 247:=⟨underlying55⟩
instance:lD 56 1:=⟨_,ax type56,rfl⟩
instance:jQ 56 false:=⟨_,underlying56,rfl⟩
instance:zF 56 3:=⟨underlying56⟩
instance:lD 57 1:=⟨_,ax type57,rfl⟩
instance:jQ 57 false:=⟨_,underlying57,rfl⟩
instance:zF 57 258:=⟨underlying57⟩
instance:lD 58 1:=⟨_,ax type58,rfl⟩
instance:jQ 58 false:=⟨_,underlying58,rfl⟩
instance:zF 58 287:=⟨underlying58⟩
instance:lD 59 1:=⟨_,ax type59,rfl⟩
instance:jQ 59 false:=⟨_,underlying59,rfl⟩
instance:zF 59 251:=⟨underlying59⟩
instance:Zv prog 61 (.agg #[.int .i64 0,.int .i64 0,.bool false,.slice none 0 0,.int .i64 0,.slice none 0 0,.slice none 0 0,.slice none 0 0,.slice none 0 0,.slice none 0 0,.int .i64 0,.slice none 0 0]):=⟨_,ax type61,rfl⟩
instance:Bd prog 61 [(0,1),(1,1),(2,1),(3,1),(4,1),(5,1),(6,1),(7,1),(8,1),(9,1),(10,1),(11,1)]:=⟨_,underlying61,eD type3 (eD type3 (eD type4 (eD type55 (eD type3 (eD type56 (eD type57 (eD type58 (eD type59 (eD type50 (eD type3 (eD type50 .nil)))))))))))⟩
instance:dU 61 0 0:=dW underlying61 type3
instance:dU 61 1 1:=dW underlying61 type3
instance:dU 61 2 2:=dW underlying61 type4
instance:dU 61 3 3:=dW underlying61 type55
instance:dU 61 4 4:=dW underlying61 type3
instance:dU 61 5 5:=dW underlying61 type56
instance:dU 61 6 6:=dW underlying61 type57
instance:dU 61 7 7:=dW underlying61 type58
instance:dU 61 8 8:=dW underlying61 type59
instance:dU 61 9 9:=dW underlying61 type50
instance:dU 61 10 10:=dW underlying61 type3
instance:dU 61 11 11:=dW underlying61 type50
instance:lD 63 3:=⟨_,ax type63,rfl⟩
instance:AE 63 24:=⟨_,ax type63,rfl⟩
instance:Zv prog 63 (.agg #[.bool false,.int .i64 0,.int .i64 0]):=⟨_,ax type63,rfl⟩
instance:jQ 63 true:=⟨_,underlying63,rfl⟩
instance:Bd prog 63 [(0,1),(1,1),(2,1)]:=⟨_,underlying63,eD type4 (eD type3 (eD type3 .nil))⟩
instance:dU 63 0 0:=dW underlying63 type4
instance:dU 63 1 1:=dW underlying63 type3
instance:dU 63 2 2:=dW underlying63 type3
instance:lD 67 3:=⟨_,ax type67,rfl⟩
instance:AE 67 8:=⟨_,ax type67,rfl⟩
instance:Zv prog 67 (.agg #[.bool false,.int .u8 0,.int .i32 0]):=⟨_,ax type67,rfl⟩
instance:jQ 67 true:=⟨_,underlying67,rfl⟩
instance:Bd prog 67 [(0,1),(1,1),(2,1)]:=⟨_,underlying67,eD type4 (eD type5 (eD type21 .nil))⟩
instance:dU 67 0 0:=dW underlying67 type4
instance:dU 67 1 1:=dW underlying67 type5
instance:dU 67 2 2:=dW underlying67 type21
instance:lD 71 3:=⟨_,ax type71,rfl⟩
instance:AE 71 56:=⟨_,ax type71,rfl⟩
instance:Zv prog 71 (.agg #[.slice none 0 0,.int .i64 0,.slice none 0 0]):=⟨_,ax type71,rfl⟩
instance:Bd prog 71 [(0,1),(1,1),(2,1)]:=⟨_,underlying71,eD type27 (eD type3 (eD type56 .nil))⟩
instance:dU 71 0 0:=dW underlying71 type27
instance:dU 71 1 1:=dW underlying71 type3
instance:dU 71 2 2:=dW underlying71 type56
instance:lD 75 1:=⟨_,ax type75,rfl⟩
instance:Ik prog 75 IntKind.u32:=⟨underlying75⟩
instance:lD 77 2:=⟨_,ax type77,rfl⟩
instance:dU 77 0 0:=dW underlying77 type21
instance:dU 79 1 0:=dW underlying79 type77
instance:lD 80 1:=⟨_,ax type80,rfl⟩
instance:jQ 80 false:=⟨_,underlying80,rfl⟩
instance:zF 80 114:=⟨underlying80⟩
instance:lD 81 1:=⟨_,ax type81,rfl⟩
instance:Zv prog 81 (.slice none 0 0):=⟨_,ax type81,rfl⟩
instance:jQ 81 false:=⟨_,underlying81,rfl⟩
instance:zF 81 190:=⟨underlying81⟩
instance:lD 82 1:=⟨_,ax type82,rfl⟩
instance:jQ 82 false:=⟨_,underlying82,rfl⟩
instance:zF 82 126:=⟨underlying82⟩
instance:jQ 83 false:=⟨_,underlying83,rfl⟩
instance:Ik prog 86 IntKind.u64:=⟨underlying86⟩
instance:dU 88 2 0:=dW underlying88 type86
instance:lD 90 2:=⟨_,ax type90,rfl⟩
instance:dU 90 1 0:=dW underlying90 type88
instance:dU 90 2 1:=dW underlying90 type75
instance:Zv prog 92 (.agg #[.int .i32 0,.int .u32 0,.slice none 0 0,.slice none 0 0,.slice none 0 0,.chan none,.bool false,.int .u64 0,.int .u32 0]):=⟨_,ax type92,rfl⟩
instance:Bd prog 92 [(0,2),(2,1),(3,1),(4,1),(5,1),(6,1),(7,2)]:=⟨_,underlying92,eD type79 (eD type80 (eD type81 (eD type82 (eD type83 (eD type4 (eD type90 .nil))))))⟩
instance:dU 92 0 0:=dW underlying92 type79
instance:dU 92 1 2:=dW underlying92 type80
instance:dU 92 2 3:=dW underlying92 type81
instance:dU 92 3 4:=dW underlying92 type82
instance:dU 92 4 5:=dW underlying92 type83
instance:dU 92 5 6:=dW underlying92 type4
instance:dU 92 6 7:=dW underlying92 type90
instance:lD 94 1:=⟨_,ax type94,rfl⟩
instance:jQ 94 false:=⟨_,underlying94,rfl⟩
instance:zF 94 150:=⟨underlying94⟩
instance:Zv prog 96 (.agg #[.slice none 0 0]):=⟨_,ax type96,rfl⟩
instance:Bd prog 96 [(0,1)]:=⟨_,underlying96,eD type94 .nil⟩
instance:dU 96 0 0:=dW underlying96 type94
instance:lD 104 1:=⟨_,ax type104,rfl⟩
instance:Zv prog 104 (.slice none 0 0):=⟨_,ax type104,rfl⟩
instance:jQ 104 false:=⟨_,underlying104,rfl⟩
instance:zF 104 21:=⟨underlying104⟩
instance:lD 114 1:=⟨_,ax type114,rfl⟩
instance:AE 114 8:=⟨_,ax type114,rfl⟩
instance:Zv prog 114 (.pointer none):=⟨_,ax type114,rfl⟩
instance:jQ 114 false:=⟨_,underlying114,rfl⟩
instance:jQ 115 false:=⟨_,underlying115,rfl⟩
instance:QN 115 180:=⟨underlying115⟩
instance:jQ 117 false:=⟨_,underlying117,rfl⟩
instance:jQ 118 false:=⟨_,underlying118,rfl⟩
instance:Zv prog 120 (.agg #[.pointer none,.chan none,.chan none]):=⟨_,ax type120,rfl⟩
instance:Bd prog 120 [(0,1),(1,1),(2,1)]:=⟨_,underlying120,eD type115 (eD type117 (eD type118 .nil))⟩
instance:dU 120 0 0:=dW underlying120 type115
instance:dU 120 1 1:=dW underlying120 type117
instance:dU 120 2 2:=dW underlying120 type118
instance:lD 126 3:=⟨_,ax type126,rfl⟩
instance:AE 126 56:=⟨_,ax type126,rfl⟩
instance:Zv prog 126 (.agg #[.slice none 0 0,.int .i64 0,.slice none 0 0]):=⟨_,ax type126,rfl⟩
instance:Bd prog 126 [(0,1),(1,1),(2,1)]:=⟨_,underlying126,eD type36 (eD type3 (eD type104 .nil))⟩
instance:dU 126 0 0:=dW underlying126 type36
instance:dU 126 1 1:=dW underlying126 type3
instance:dU 126 2 2:=dW underlying126 type104
instance:lD 128 1:=⟨_,ax type128,rfl⟩
instance:Zv prog 128 (.pointer none):=⟨_,ax type128,rfl⟩
instance:jQ 128 false:=⟨_,underlying128,rfl⟩
instance:NI prog 128:=⟨_,underlying128,rfl⟩
instance:QN 128 132:=⟨underlying128⟩
instance:jQ 130 false:=⟨_,underlying130,rfl⟩
instance:NI prog 130:=⟨_,underlying130,rfl⟩
instance:lD 132 3:=⟨_,ax type132,rfl⟩
instance:Zv prog 132 (.agg #[.string (ByteArray.mk #[]),.int .i64 0,.nilIface]):=⟨_,ax type132,rfl⟩
instance:Bd prog 132 [(0,1),(1,1),(2,1)]:=⟨_,underlying132,eD type9 (eD type3 (eD type46 .nil))⟩
instance:dU 132 0 0:=dW underlying132 type9
instance:dU 132 1 1:=dW underlying132 type3
instance:dU 132 2 2:=dW underlying132 type46
instance:zF 133 46:=⟨underlying133⟩
instance:lD 137 7:=⟨_,ax type137,rfl⟩
instance:AE 137 88:=⟨_,ax type137,rfl⟩
instance:Zv prog 137 (.agg #[.int .i64 0,.int .i64 0,.int .i64 0,.int .i64 0,.bool false,.slice none 0 0,.slice none 0 0]):=⟨_,ax type137,rfl⟩
instance:jQ 137 true:=⟨_,underlying137,rfl⟩
instance:Bd prog 137 [(0,1),(1,1),(2,1),(3,1),(4,1),(5,1),(6,1)]:=⟨_,underlying137,eD type3 (eD type3 (eD type3 (eD type3 (eD type4 (eD type27 (eD type56 .nil))))))⟩
instance:dU 137 0 0:=dW underlying137 type3
instance:dU 137 1 1:=dW underlying137 type3
instance:dU 137 2 2:=dW underlying137 type3
instance:dU 137 3 3:=dW underlying137 type3
instance:dU 137 4 4:=dW underlying137 type4
instance:dU 137 5 5:=dW underlying137 type27
instance:dU 137 6 6:=dW underlying137 type56
instance:QN 139 90:=⟨underlying139⟩
instance:QN 147 75:=⟨underlying147⟩
instance:lD 150 2:=⟨_,ax type150,rfl⟩
instance:AE 150 16:=⟨_,ax type150,rfl⟩
instance:Zv prog 150 (.agg #[.pointer none,.pointer none]):=⟨_,ax type150,rfl⟩
instance:jQ 150 true:=⟨_,underlying150,rfl⟩
instance:Bd prog 150 [(0,1),(1,1)]:=⟨_,underlying150,eD type23 (eD type30 .nil)⟩
instance:dU 150 0 0:=dW underlying150 type23
instance:dU 150 1 1:=dW underlying150 type30
instance:jQ 158 false:=⟨_,underlying158,rfl⟩
instance:SV 158 5 21:=⟨underlying158⟩
instance:zF 163 167:=⟨underlying163⟩
instance:lD 167 6:=⟨_,ax type167,rfl⟩
instance:AE 167 80:=⟨_,ax type167,rfl⟩
instance:Zv prog 167 (.agg #[.int .i64 0,.int .i64 0,.bool false,.int .i64 0,.slice none 0 0,.slice none 0 0]):=⟨_,ax type167,rfl⟩
instance:jQ 167 true:=⟨_,underlying167,rfl⟩
instance:Bd prog 167 [(0,1),(1,1),(2,1),(3,1),(4,1),(5,1)]:=⟨_,underlying167,eD type3 (eD type3 (eD type4 (eD type3 (eD type36 (eD type104 .nil)))))⟩
instance:dU 167 0 0:=dW underlying167 type3
instance:dU 167 1 1:=dW underlying167 type3
instance:dU 167 2 2:=dW underlying167 type4
instance:dU 167 3 3:=dW underlying167 type3
instance:dU 167 4 4:=dW underlying167 type36
instance:dU 167 5 5:=dW underlying167 type104
instance:jQ 169 false:=⟨_,underlying169,rfl⟩
instance:SV 169 5 3:=⟨underlying169⟩
instance:jQ 170 false:=⟨_,underlying170,rfl⟩
instance:SV 170 3 267:=⟨underlying170⟩
instance:jQ 171 false:=⟨_,underlying171,rfl⟩
instance:SV 171 3 279:=⟨underlying171⟩
instance:jQ 172 false:=⟨_,underlying172,rfl⟩
instance:SV 172 3 295:=⟨underlying172⟩
instance:lD 174 1:=⟨_,ax type174,rfl⟩
instance:jQ 174 false:=⟨_,underlying174,rfl⟩
instance:zF 174 263:=⟨underlying174⟩
instance:lD 176 10:=⟨_,ax type176,rfl⟩
instance:Zv prog 176 (.agg #[.map none,.map none,.map none,.map none,.map none,.map none,.slice none 0 0,.int .i64 0,.int .i64 0,.slice none 0 0]):=⟨_,ax type176,rfl⟩
instance:jQ 176 true:=⟨_,underlying176,rfl⟩
instance:Bd prog 176 [(0,1),(1,1),(2,1),(3,1),(4,1),(5,1),(6,1),(7,1),(8,1),(9,1)]:=⟨_,underlying176,eD type158 (eD type169 (eD type170 (eD type171 (eD type171 (eD type172 (eD type174 (eD type3 (eD type3 (eD type81 .nil)))))))))⟩
instance:dU 176 0 0:=dW underlying176 type158
instance:dU 176 1 1:=dW underlying176 type169
instance:dU 176 2 2:=dW underlying176 type170
instance:dU 176 3 3:=dW underlying176 type171
instance:dU 176 4 4:=dW underlying176 type171
instance:dU 176 5 5:=dW underlying176 type172
instance:dU 176 6 6:=dW underlying176 type174
instance:dU 176 7 7:=dW underlying176 type3
instance:dU 176 8 8:=dW underlying176 type3
instance:dU 176 9 9:=dW underlying176 type81
instance:lD 178 1:=⟨_,ax type178,rfl⟩
instance:jQ 178 false:=⟨_,underlying178,rfl⟩
instance:zF 178 272:=⟨underlying178⟩
instance:Zv prog 180 (.agg #[.int .i64 0,.int .i64 0,.bool false,.slice none 0 0,.int .i64 0,.map none,.map none,.map none,.map none,.map none,.map none,.slice none 0 0,.int .i64 0,.int .i64 0,.slice none 0 0,.slice none 0 0]):=⟨_,ax type180,rfl⟩
instance:Bd prog 180 [(0,1),(1,1),(2,1),(3,1),(4,1),(5,10),(15,1)]:=⟨_,underlying180,eD type3 (eD type3 (eD type4 (eD type178 (eD type3 (eD type176 (eD type81 .nil))))))⟩
instance:dU 180 0 0:=dW underlying180 type3
instance:dU 180 1 1:=dW underlying180 type3
instance:dU 180 2 2:=dW underlying180 type4
instance:dU 180 3 3:=dW underlying180 type178
instance:dU 180 4 4:=dW underlying180 type3
instance:dU 180 5 5:=dW underlying180 type176
instance:dU 180 6 15:=dW underlying180 type81
instance:Zv prog 187 (.nilFunc):=⟨_,ax type187,rfl⟩
instance:jQ 187 false:=⟨_,underlying187,rfl⟩
instance:lD 190 7:=⟨_,ax type190,rfl⟩
instance:AE 190 88:=⟨_,ax type190,rfl⟩
instance:Zv prog 190 (.agg #[.int .i64 0,.int .i64 0,.int .i64 0,.int .i64 0,.bool false,.slice none 0 0,.slice none 0 0]):=⟨_,ax type190,rfl⟩
instance:jQ 190 true:=⟨_,underlying190,rfl⟩
instance:Bd prog 190 [(0,1),(1,1),(2,1),(3,1),(4,1),(5,1),(6,1)]:=⟨_,underlying190,eD type3 (eD type3 (eD type3 (eD type3 (eD type4 (eD type36 (eD type104 .nil))))))⟩
instance:dU 190 0 0:=dW underlying190 type3
instance:dU 190 1 1:=dW underlying190 type3
instance:dU 190 2 2:=dW underlying190 type3
instance:dU 190 3 3:=dW underlying190 type3
instance:dU 190 4 4:=dW underlying190 type4
instance:dU 190 5 5:=dW underlying190 type36
instance:dU 190 6 6:=dW underlying190 type104
instance:lD 193 3:=⟨_,ax type193,rfl⟩
instance:Zv prog 193 (.agg #[.pointer none,.pointer none,.int .u64 0]):=⟨_,ax type193,rfl⟩
instance:jQ 193 true:=⟨_,underlying193,rfl⟩
instance:jQ 196 false:=⟨_,underlying196,rfl⟩
instance:QN 204 77:=⟨underlying204⟩
instance:lD 223 1:=⟨_,ax type223,rfl⟩
instance:jQ 223 false:=⟨_,underlying223,rfl⟩
instance:jQ 225 false:=⟨_,underlying225,rfl⟩
instance:lD 247 6:=⟨_,ax type247,rfl⟩
instance:AE 247 80:=⟨_,ax type247,rfl⟩
instance:Zv prog 247 (.agg #[.int .i64 0,.int .i64 0,.bool false,.int .i64 0,.slice none 0 0,.slice none 0 0]):=⟨_,ax type247,rfl⟩
instance:jQ 247 true:=⟨_,underlying247,rfl⟩
instance:Bd prog 247 [(0,1),(1,1),(2,1),(3,1),(4,1),(5,1)]:=⟨_,underlying247,eD type3 (eD type3 (eD type4 (eD type3 (eD type27 (eD type56 .nil)))))⟩
instance:dU 247 0 0:=dW underlying247 type3
instance:dU 247 1 1:=dW underlying247 type3
instance:dU 247 2 2:=dW underlying247 type4
instance:dU 247 3 3:=dW underlying247 type3
instance:dU 247 4 4:=dW underlying247 type27
instance:dU 247 5 5:=dW underlying247 type56
instance:lD 251 3:=⟨_,ax type251,rfl⟩
instance:AE 251 24:=⟨_,ax type251,rfl⟩
instance:Zv prog 251 (.agg #[.int .i64 0,.bool false,.int .i64 0]):=⟨_,ax type251,rfl⟩
instance:jQ 251 true:=⟨_,underlying251,rfl⟩
instance:Bd prog 251 [(0,1),(1,1),(2,1)]:=⟨_,underlying251,eD type3 (eD type4 (eD type3 .nil))⟩
instance:dU 251 0 0:=dW underlying251 type3
instance:dU 251 1 1:=dW underlying251 type4
instance:dU 251 2 2:=dW underlying251 type3
instance:lD 258 2:=⟨_,ax type258,rfl⟩
instance:AE 258 16:=⟨_,ax type258,rfl⟩
instance:Zv prog 258 (.agg #[.int .i64 0,.int .i64 0]):=⟨_,ax type258,rfl⟩
instance:jQ 258 true:=⟨_,underlying258,rfl⟩
instance:Bd prog 258 [(0,1),(1,1)]:=⟨_,underlying258,eD type3 (eD type3 .nil)⟩
instance:dU 258 0 0:=dW underlying258 type3
instance:dU 258 1 1:=dW underlying258 type3
instance:lD 261 7:=⟨_,ax type261,rfl⟩
instance:Zv prog 261 (.agg #[.nilFunc,.nilFunc,.nilFunc,.nilFunc,.nilFunc,.nilFunc,.nilFunc]):=⟨_,ax type261,rfl⟩
instance:lD 263 4:=⟨_,ax type263,rfl⟩
instance:AE 263 32:=⟨_,ax type263,rfl⟩
instance:Zv prog 263 (.agg #[.int .i64 0,.int .i64 0,.int .i64 0,.bool false]):=⟨_,ax type263,rfl⟩
instance:jQ 263 true:=⟨_,underlying263,rfl⟩
instance:NI prog 263:=⟨_,underlying263,rfl⟩
instance:Bd prog 263 [(0,1),(1,1),(2,1),(3,1)]:=⟨_,underlying263,eD type3 (eD type3 (eD type3 (eD type4 .nil)))⟩
instance:dU 263 0 0:=dW underlying263 type3
instance:dU 263 1 1:=dW underlying263 type3
instance:dU 263 2 2:=dW underlying263 type3
instance:dU 263 3 3:=dW underlying263 type4
instance:NI prog 265:=⟨_,underlying265,rfl⟩
instance:lD 267 3:=⟨_,ax type267,rfl⟩
instance:Zv prog 267 (.agg #[.int .i64 0,.int .i64 0,.slice none 0 0]):=⟨_,ax type267,rfl⟩
instance:Bd prog 267 [(0,1),(1,1),(2,1)]:=⟨_,underlying267,eD type3 (eD type3 (eD type36 .nil))⟩
instance:dU 267 0 0:=dW underlying267 type3
instance:dU 267 1 1:=dW underlying267 type3
instance:dU 267 2 2:=dW underlying267 type36
instance:lD 272 1:=⟨_,ax type272,rfl⟩
instance:AE 272 16:=⟨_,ax type272,rfl⟩
instance:Zv prog 272 (.nilIface):=⟨_,ax type272,rfl⟩
instance:jQ 272 false:=⟨_,underlying272,rfl⟩
instance:Zv prog 274 (.agg #[.int .i64 0,.int .i64 0,.slice none 0 0]):=⟨_,ax type274,rfl⟩
instance:NI prog 274:=⟨_,underlying274,rfl⟩
instance:Bd prog 274 [(0,1),(1,1),(2,1)]:=⟨_,underlying274,eD type3 (eD type3 (eD type36 .nil))⟩
instance:dU 274 0 0:=dW underlying274 type3
instance:dU 274 1 1:=dW underlying274 type3
instance:dU 274 2 2:=dW underlying274 type36
instance:Zv prog 277 (.agg #[.int .i64 0,.bool false,.slice none 0 0]):=⟨_,ax type277,rfl⟩
instance:NI prog 277:=⟨_,underlying277,rfl⟩
instance:Bd prog 277 [(0,1),(1,1),(2,1)]:=⟨_,underlying277,eD type3 (eD type4 (eD type104 .nil))⟩
instance:dU 277 0 0:=dW underlying277 type3
instance:dU 277 1 1:=dW underlying277 type4
instance:dU 277 2 2:=dW underlying277 type104
instance:lD 279 2:=⟨_,ax type279,rfl⟩
instance:Zv prog 279 (.agg #[.int .i64 0,.bool false]):=⟨_,ax type279,rfl⟩
instance:Bd prog 279 [(0,1),(1,1)]:=⟨_,underlying279,eD type3 (eD type4 .nil)⟩
instance:dU 279 0 0:=dW underlying279 type3
instance:dU 279 1 1:=dW underlying279 type4
instance:Zv prog 281 (.agg #[.int .i64 0,.bool false]):=⟨_,ax type281,rfl⟩
instance:NI prog 281:=⟨_,underlying281,rfl⟩
instance:Bd prog 281 [(0,1),(1,1)]:=⟨_,underlying281,eD type3 (eD type4 .nil)⟩
instance:dU 281 0 0:=dW underlying281 type3
instance:dU 281 1 1:=dW underlying281 type4
instance:lD 285 1:=⟨_,ax type285,rfl⟩
instance:jQ 285 false:=⟨_,underlying285,rfl⟩
instance:zF 285 290:=⟨underlying285⟩
instance:lD 287 6:=⟨_,ax type287,rfl⟩
instance:AE 287 88:=⟨_,ax type287,rfl⟩
instance:Zv prog 287 (.agg #[.int .i64 0,.slice none 0 0,.slice none 0 0,.bool false,.bool false,.slice none 0 0]):=⟨_,ax type287,rfl⟩
instance:jQ 287 true:=⟨_,underlying287,rfl⟩
instance:Bd prog 287 [(0,1),(1,1),(2,1),(3,1),(4,1),(5,1)]:=⟨_,underlying287,eD type3 (eD type27 (eD type285 (eD type4 (eD type4 (eD type56 .nil)))))⟩
instance:dU 287 0 0:=dW underlying287 type3
instance:dU 287 1 1:=dW underlying287 type27
instance:dU 287 2 2:=dW underlying287 type285
instance:dU 287 3 3:=dW underlying287 type4
instance:dU 287 4 4:=dW underlying287 type4
instance:dU 287 5 5:=dW underlying287 type56
instance:lD 290 2:=⟨_,ax type290,rfl⟩
instance:AE 290 32:=⟨_,ax type290,rfl⟩
instance:Zv prog 290 (.agg #[.int .i64 0,.slice none 0 0]):=⟨_,ax type290,rfl⟩
instance:jQ 290 true:=⟨_,underlying290,rfl⟩
instance:Bd prog 290 [(0,1),(1,1)]:=⟨_,underlying290,eD type3 (eD type56 .nil)⟩
instance:dU 290 0 0:=dW underlying290 type3
instance:dU 290 1 1:=dW underlying290 type56
instance:lD 295 1:=⟨_,ax type295,rfl⟩
instance:Zv prog 295 (.pointer none):=⟨_,ax type295,rfl⟩
instance:jQ 295 false:=⟨_,underlying295,rfl⟩
instance:QN 295 299:=⟨underlying295⟩
instance:jQ 296 false:=⟨_,underlying296,rfl⟩
instance:SV 296 3 104:=⟨underlying296⟩
instance:jQ 297 false:=⟨_,underlying297,rfl⟩
instance:SV 297 3 3:=⟨underlying297⟩
instance:Zv prog 299 (.agg #[.slice none 0 0,.map none,.map none,.bool false,.bool false]):=⟨_,ax type299,rfl⟩
instance:Bd prog 299 [(0,1),(1,1),(2,1),(3,1),(4,1)]:=⟨_,underlying299,eD type36 (eD type296 (eD type297 (eD type4 (eD type4 .nil))))⟩
instance:dU 299 0 0:=dW underlying299 type36
instance:dU 299 1 1:=dW underlying299 type296
instance:dU 299 2 2:=dW underlying299 type297
instance:dU 299 3 3:=dW underlying299 type4
instance:dU 299 4 4:=dW underlying299 type4
instance:SV 304 3 36:=⟨underlying304⟩
instance:aO 7 f7 7:=dk func7
instance:aO 14 f14 21:=dk func14
instance:aO 15 f15 13:=dk func15
instance:aO 16 f16 37:=dk func16
instance:aO 17 f17 35:=dk func17
instance:aO 18 f18 31:=dk func18
instance:aO 19 f19 33:=dk func19
instance:aO 20 f20 58:=dk func20
instance:aO 21 f21 25:=dk func21
instance:aO 22 f22 44:=dk func22
instance:aO 23 f23 31:=dk func23
instance:aO 27 f27 45:=dk func27
instance:aO 28 f28 21:=dk func28
instance:aO 29 f29 13:=dk func29
instance:aO 30 f30 60:=dk func30
instance:aO 31 f31 65:=dk func31
instance:aO 32 f32 35:=dk func32
instance:aO 33 f33 6:=dk func33
instance:aO 34 f34 6:=dk func34
instance:aO 35 f35 84:=dk func35
instance:aO 36 f36 148:=dk func36
instance:aO 37 f37 21:=dk func37
instance:aO 39 f39 41:=dk func39
instance:aO 40 f40 52:=dk func40
instance:aO 42 f42 67:=dk func42
instance:aO 47 f47 10:=dk func47
instance:aO 48 f48 117:=dk func48
instance:aO 49 f49 11:=dk func49
instance:aO 50 f50 4:=dk func50
instance:aO 51 f51 30:=dk func51
instance:aO 52 f52 33:=dk func52
instance:aO 53 f53 43:=dk func53
instance:aO 54 f54 52:=dk func54
instance:aO 55 f55 8:=dk func55
instance:aO 56 f56 35:=dk func56
instance:aO 57 f57 42:=dk func57
instance:aO 58 f58 7:=dk func58
instance:aO 59 f59 11:=dk func59
instance:aO 60 f60 22:=dk func60
instance:aO 61 f61 9:=dk func61
instance:aO 62 f62 13:=dk func62
instance:aO 63 f63 21:=dk func63
instance:aO 65 f65 7:=dk func65
instance:aO 69 f69 13:=dk func69
instance:aO 74 f74 102:=dk func74
instance:aO 75 f75 57:=dk func75
instance:aO 76 f76 24:=dk func76
instance:aO 77 f77 41:=dk func77
instance:aO 78 f78 49:=dk func78
instance:aO 79 f79 8:=dk func79
instance:aO 80 f80 21:=dk func80
instance:aO 81 f81 9:=dk func81
instance:aO 82 f82 9:=dk func82
instance:aO 83 f83 9:=dk func83
instance:aO 84 f84 9:=dk func84
instance:aO 85 f85 8:=dk func85
instance:aO 86 f86 8:=dk func86
instance:aO 87 f87 11:=dk func87
instance:aO 88 f88 8:=dk func88
instance:aO 89 f89 23:=dk func89
instance:aO 91 f91 8:=dk func91
instance:aO 96 f96 10:=dk func96
instance:aO 98 f98 9:=dk func98
instance:aO 100 f100 12:=dk func100
instance:aO 101 f101 10:=dk func101
instance:aO 105 f105 62:=dk func105
instance:aO 107 f107 54:=dk func107
instance:aO 114 f114 115:=dk func114
instance:aO 115 f115 109:=dk func115
instance:aO 116 f116 25:=dk func116
instance:aO 117 f117 91:=dk func117
instance:aO 118 f118 47:=dk func118
instance:aO 119 f119 19:=dk func119
instance:aO 120 f120 124:=dk func120
instance:aO 121 f121 49:=dk func121
instance:aO 122 f122 23:=dk func122
instance:aO 123 f123 52:=dk func123
instance:aO 124 f124 64:=dk func124
instance:aO 125 f125 144:=dk func125
instance:aO 126 f126 26:=dk func126
instance:aO 127 f127 8:=dk func127
instance:aO 128 f128 21:=dk func128
instance:aO 129 f129 24:=dk func129
instance:aO 130 f130 27:=dk func130
instance:aO 131 f131 14:=dk func131
instance:aO 132 f132 35:=dk func132
instance:aO 133 f133 34:=dk func133
instance:aO 134 f134 32:=dk func134
instance:aO 135 f135 32:=dk func135
instance:aO 136 f136 6:=dk func136
instance:aO 137 f137 24:=dk func137
instance:aO 138 f138 8:=dk func138
instance:aO 139 f139 21:=dk func139
instance:aO 140 f140 16:=dk func140
instance:aO 141 f141 27:=dk func141
instance:aO 142 f142 73:=dk func142
instance:aO 143 f143 6:=dk func143
instance:aO 144 f144 44:=dk func144
instance:aO 145 f145 92:=dk func145
instance:aO 146 f146 27:=dk func146
instance:aO 159 f159 36:=dk func159
instance:aO 160 f160 29:=dk func160
instance:aO 161 f161 32:=dk func161
instance:aO 162 f162 39:=dk func162
instance:aO 163 f163 14:=dk func163
instance:aO 164 f164 151:=dk func164
instance:aO 165 f165 56:=dk func165
instance:aO 166 f166 27:=dk func166
instance:aO 167 f167 33:=dk func167
instance:aO 168 f168 22:=dk func168
instance:aO 169 f169 25:=dk func169
instance:aO 170 f170 73:=dk func170
instance:aO 171 f171 118:=dk func171
instance:aO 172 f172 110:=dk func172
instance:aO 173 f173 78:=dk func173
instance:aO 174 f174 53:=dk func174
instance:aO 175 f175 71:=dk func175
instance:aO 176 f176 73:=dk func176
instance:aO 177 f177 15:=dk func177
instance:aO 178 f178 24:=dk func178
instance:aO 179 f179 19:=dk func179
instance:aO 180 f180 39:=dk func180
instance:aO 181 f181 8:=dk func181
instance:aO 182 f182 37:=dk func182
instance:aO 183 f183 62:=dk func183
instance:aO 185 f185 104:=dk func185
instance:aO 186 f186 132:=dk func186
instance:aO 187 f187 162:=dk func187
instance:aO 188 f188 78:=dk func188
instance:aO 189 f189 93:=dk func189
instance:aO 190 f190 58:=dk func190
instance:aO 191 f191 41:=dk func191
instance:aO 192 f192 19:=dk func192
instance:aO 193 f193 26:=dk func193
instance:aO 194 f194 32:=dk func194
instance:aO 195 f195 28:=dk func195
instance:aO 196 f196 18:=dk func196
instance:aO 197 f197 33:=dk func197
instance:aO 198 f198 13:=dk func198
instance:aO 199 f199 30:=dk func199
instance:aO 200 f200 21:=dk func200
instance:aO 201 f201 21:=dk func201
instance:aO 202 f202 30:=dk func202
instance:aO 203 f203 47:=dk func203
instance:aO 204 f204 14:=dk func204
instance:aO 205 f205 48:=dk func205
instance:aO 206 f206 72:=dk func206
instance:aO 207 f207 12:=dk func207
instance:aO 210 f210 35:=dk func210
instance:aO 211 f211 33:=dk func211
instance:aO 212 f212 19:=dk func212
instance:aO 213 f213 13:=dk func213
instance:aO 214 f214 74:=dk func214
instance:aO 215 f215 23:=dk func215
instance:aO 253 f253 5:=dk func253
instance:aO 254 f254 40:=dk func254
instance:aO 255 f255 20:=dk func255
instance:aO 274 f274 23:=dk func274
instance:aO 275 f275 13:=dk func275
instance:aO 276 f276 11:=dk func276
instance:aO 277 f277 11:=dk func277
instance:aO 278 f278 8:=dk func278
end
section
open Go.Proofs
def bQ:jW:=⟨λ_ t _=>t==92||t==114||t==23||t==120,λt _=>t==92||t==114||t==23||t==120,0⟩
def eE(n:Int):List Value:=[aI n]
instance:fC eE 1:=⟨λ_=>rfl,λa v h=>by simp[eE]at h;subst h;rfl⟩
def fX(o:cr):List Value:=[.bool o.w,aI o.k,aI o.v]
instance:fC fX 3:=⟨λ_=>rfl,λa v h=>by simp[fX]at h;rcases h with h|h|h<;>subst h<;>rfl⟩
def jf(l:List cr):Prop:=(∀ o∈l,97<=o.k/\o.k<=122)/\l.length<2^20
structure cm extends MsgR where
 so:ay
 sr:ay
def bN(m:cm):List Value:=[aI m.kind,aI m.aU,aI m.to,aI m.tx,.bool m.yes,m.so.v,m.sr.v]
instance:fC bN 7:=⟨λ_=>rfl,λa v h=>by simp[bN]at h;rcases h with h|h|h|h|h|h|h<;>subst h<;>rfl⟩
structure i7 extends RecR where
 so:ay
 sr:ay
def recC(m:i7):List Value:=[aI m.kind,aI m.tx,.bool m.yes,aI m.home,m.so.v,m.sr.v]
instance:fC recC 6:=⟨λ_=>rfl,λa v h=>by simp[recC]at h;rcases h with h|h|h|h|h|h<;>subst h<;>rfl⟩
structure vg extends VoteR where
 sr:ay
def pF(m:vg):List Value:=[aI m.aU,m.sr.v]
instance:fC pF 2:=⟨λ_=>rfl,λa v h=>by simp[pF]at h;rcases h with h|h<;>subst h<;>rfl⟩
structure fP where
 tx:Int
 ops:List cr
 so:ay
 aR:List vg
 sv:ay
 dec:Bool
 yes:Bool
 bG:List Int
 sa:ay
def fP.abs(u:fP):gM:=⟨u.tx,u.ops,u.aR.map (·.toVoteR),u.dec,u.yes,u.bG⟩
def pG(u:fP):List Value:=[aI u.tx,u.so.v,u.sv.v,.bool u.dec,.bool u.yes,u.sa.v]
instance:fC pG 6:=⟨λ_=>rfl,λa v h=>by simp[pG]at h;rcases h with h|h|h|h|h|h<;>subst h<;>rfl⟩
def rz(t:dM):List Value:=[aI t.tm,.bool t.again,aI t.tx]
instance:fC rz 3:=⟨λ_=>rfl,λa v h=>by simp[rz]at h;rcases h with h|h|h<;>subst h<;>rfl⟩
def lT(t:gn):List Value:=[aI t.key,aI t.tx]
instance:fC lT 2:=⟨λ_=>rfl,λa v h=>by simp[lT]at h;rcases h with h|h<;>subst h<;>rfl⟩
structure eS where
 me:Int
 n:Int
 up:Bool
 log:List i7
 aX:Int
 bD:List Int
 aH:List gn
 under:List fP
 timers:List dM
 waits:List cm
 clock:Int
 out:List cm
def eS.abs(s:eS):ShR:=⟨s.me,s.n,s.up,s.log.map (·.toRecR),s.aX,s.bD,s.aH,s.under.map (·.abs),s.timers,s.waits.map (·.toMsgR),s.clock,s.out.map (·.toMsgR)⟩
structure ShS where
 log:ay
 bD:ay
 aH:ay
 under:ay
 timers:ay
 waits:ay
 out:ay
def shC(s:eS)(a:ShS):Array Value:=#[aI s.me,aI s.n,.bool s.up,a.log.v,aI s.aX,a.bD.v,a.aH.v,a.under.v,a.timers.v,a.waits.v,aI s.clock,a.out.v]
def qu(u:fP):HP:=all [a9 pF 2 290 u.sv u.aR,a9 eE 1 3 u.sa u.bG]
def shL(s:eS)(a:ShS):List HP:=[a9 recC 6 247 a.log s.log,a9 eE 1 3 a.bD s.bD,a9 lT 2 258 a.aH s.aH,a9 pG 6 287 a.under s.under,all (s.under.map qu),
 a9 rz 3 251 a.timers s.timers,a9 bN 7 137 a.waits s.waits,a9 bN 7 137 a.out s.out]
def cY(b:Nat)(s:eS):HP:=λh=>∃ a,all (bR b (.cells (shC s a) 61 (0,0))::shL s a) h
structure sQ(I:HL)(m:cm):Prop where
 o:dS I fX 63 m.so m.ops
 r:dS I eE 3 m.sr m.reads
structure NM(I:HL)(m:i7):Prop where
 o:dS I fX 63 m.so m.ops
 r:dS I eE 3 m.sr m.reads
structure wu(I:HL)(u:fP):Prop where
 o:dS I fX 63 u.so u.ops
 r:∀ v∈u.aR,dS I eE 3 v.sr v.reads
structure uv(I:HL)(s:eS):Prop where
 log:∀ r∈s.log,NM I r
 cg:∀ u∈s.under,wu I u
 waits:∀ m∈s.waits,sQ I m
 out:∀ m∈s.out,sQ I m
theorem sQ.mono{I I':HL}{m:cm}(hs:Sub I I')(h:sQ I m):sQ I' m:=⟨h.o.mono hs,h.r.mono hs⟩
theorem NM.mono{I I':HL}{m:i7}(hs:Sub I I')(h:NM I m):NM I' m:=⟨h.o.mono hs,h.r.mono hs⟩
theorem wu.mono{I I':HL}{m:fP}(hs:Sub I I')(h:wu I m):wu I' m:=⟨h.o.mono hs,λv hv=>(h.r v hv).mono hs⟩
theorem uv.mono{I I':HL}{s:eS}(hs:Sub I I')(h:uv I s):uv I' s:=⟨λr hr=>(h.log r hr).mono hs,λu hu=>(h.cg u hu).mono hs,λr hr=>(h.waits r hr).mono hs,λr hr=>(h.out r hr).mono hs⟩
abbrev y9(b:Nat)(s:eS)(lg vl lk un tm wt ot:ay)(F:List HP):List HP:=bR b (.cells #[aI s.me,aI s.n,.bool s.up,lg.v,aI s.aX,vl.v,lk.v,un.v,tm.v,wt.v,aI s.clock,ot.v] 61 (0,0))::
  a9 recC 6 247 lg s.log::a9 eE 1 3 vl s.bD::a9 lT 2 258 lk s.aH::a9 pG 6 287 un s.under::all (s.under.map qu)::
  a9 rz 3 251 tm s.timers::a9 bN 7 137 wt s.waits::a9 bN 7 137 ot s.out::F
variable{R:Nat->aP->Array Obj->Prop}{d:Nat}{As F L:List HP}{g:aP}{b:Nat}{s:eS}
theorem X6(h:At R d (all (([]:List fP).map qu)::F) g):At R d F g:=At.zr h
theorem cY.opn(hf:Fo (cY b s) As L:=by exact Fo.au)(h:∀ lg vl lk un tm wt ot:ay,At R d (y9 b s lg vl lk un tm wt ot L) g):At R d As g:=by refine At.fo hf λH st=>?_;obtain⟨a,st⟩:=st.ex;exact h a.log a.bD a.aH a.under a.timers a.waits a.out H (st.flat)
theorem cY.cls{c:Array Value}(s:eS)(h:At R d (cY b s::F) g)(hf:Fo (bR b (.cells c 61 (0,0))) As L:=by exact Fo.au){lg vl lk un tm wt ot:ay}(hc:c=shC s ⟨lg,vl,lk,un,tm,wt,ot⟩:=by rfl)
  (hr:dB [a9 recC 6 247 lg s.log,a9 eE 1 3 vl s.bD,a9 lT 2 258 lk s.aH,a9 pG 6 287 un s.under,all (s.under.map qu),
   a9 rz 3 251 tm s.timers,a9 bN 7 137 wt s.waits,a9 bN 7 137 ot s.out] L F:=by exact dB.au):At R d As g:=by
 subst hc;refine At.perm (hf.perm.trans (hr.perm.cons _)) λH st=>h H ?_;exact Sat.imp (λhh x=>⟨⟨lg,vl,lk,un,tm,wt,ot⟩,x⟩) (Sat.fS (l:=bR b (.cells (shC s ⟨lg,vl,lk,un,tm,wt,ot⟩) 61 (0,0))::shL s ⟨lg,vl,lk,un,tm,wt,ot⟩) st)
variable{ak:Bool}
structure l4 extends TxR where
 so:ay
 sr:ay
def qZ(t:l4):List Value:=[t.so.v,aI t.state,t.sr.v]
instance:fC qZ 3:=⟨λ_=>rfl,λa v h=>by simp[qZ]at h;rcases h with h|h|h<;>subst h<;>rfl⟩
def ek(b:Nat):List Value:=[.pointer (some ⟨b,0,none⟩)]
instance:fC ek 1:=⟨λ_=>rfl,λa v h=>by simp[ek]at h;subst h;rfl⟩
structure WV where
 sh:List (Nat×eS)
 aE:List cm
 aL:List l4
 ai:Bool
def WV.abs(w:WV):WR:=⟨w.sh.map (·.2.abs),w.aE.map (·.toMsgR),w.aL.map (·.toTxR),w.ai⟩
abbrev nP(p:Nat×eS):HP:=cY p.1 p.2
abbrev wO(b:Nat)(w:WV)(sh bg tx:ay)(F:List HP):List HP:=bR b (.cells #[sh.v,bg.v,tx.v,.bool w.ai] 53 (0,0))::a9 ek 1 54 sh (w.sh.map (·.1))::a9 bN 7 137 bg w.aE::a9 qZ 3 71 tx w.aL::all (w.sh.map nP)::F
def wP(b:Nat)(w:WV):HP:=λh=>∃ sh bg tx:ay,all (wO b w sh bg tx []) h
structure ZH(I:HL)(t:l4):Prop where
 o:dS I fX 63 t.so t.ops
 r:dS I eE 3 t.sr t.reads
structure WI(I:HL)(w:WV):Prop where
 sh:∀ p∈w.sh,uv I p.2
 aE:∀ m∈w.aE,sQ I m
 aL:∀ t∈w.aL,ZH I t
theorem ZH.mono{I I':HL}{t:l4}(hs:Sub I I')(h:ZH I t):ZH I' t:=⟨h.o.mono hs,h.r.mono hs⟩
theorem WI.mono{I I':HL}{w:WV}(hs:Sub I I')(h:WI I w):WI I' w:=⟨λp hp=>(h.sh p hp).mono hs,λm hm=>(h.aE m hm).mono hs,λt ht=>(h.aL t ht).mono hs⟩
variable{w:WV}
theorem wP.opn(hf:Fo (wP b w) As L:=by exact Fo.au)(h:∀ sh bg tx:ay,At R d (wO b w sh bg tx L) g):At R d As g:=by refine At.fo hf λH st=>?_;obtain⟨sh,st⟩:=st.ex;obtain⟨bg,st⟩:=st.ex;obtain⟨tx,st⟩:=st.ex;exact h sh bg tx H st.flat
theorem wP.cls{c:Array Value}(w:WV)(h:At R d (wP b w::F) g)(hf:Fo (bR b (.cells c 53 (0,0))) As L:=by exact Fo.au){sh bg tx:ay}(hc:c=#[sh.v,bg.v,tx.v,.bool w.ai]:=by rfl)
  (hr:dB [a9 ek 1 54 sh (w.sh.map (·.1)),a9 bN 7 137 bg w.aE,a9 qZ 3 71 tx w.aL,all (w.sh.map nP)] L F:=by exact dB.au):At R d As g:=by
 subst hc;refine At.perm (hf.perm.trans (hr.perm.cons _)) λH st=>h H ?_;exact Sat.imp (λhh x=>⟨sh,bg,tx,x⟩) (Sat.fS (l:=wO b w sh bg tx []) st)
theorem GF{I:HL}{so:ay}{ops:List cr}(ho:dS I fX 63 so ops)(hl:ops.length<2^60):
  aD prog ak bQ 31 #[so.v] [a7 I] (λv As=>v=.bool (decide (eV ops))/\As=[a7 I]):=by
 refine aD.of λR C kd d F c cs aJ aj=>?_;refine Lp ?_;refine C.cx (X:=Nat) (λi=>[(0,so.v),(3,aI i)]) (λ_=>a7 I::F) (λi=>i<=ops.length/\(∀ j (hj:j<ops.length),j<i->zu ops[j])/\((ops.take i).map (·.k)).Nodup) (λi=>ops.length-i) 0 ⟨rfl,rfl,trivial⟩ ⟨eK _,by intro j _ hj;omega,by simp⟩ ?_;intro i e ⟨hi,kV,eI⟩ ih;refine dD ?_;refine C.cmp rfl (λh8=>?_) (λh8=>?_)
 ·refine bJ ?_;have cN:i<ops.length:=by simpa using h8
  apply MT (zu ops[i]) [(0,so.v),(3,aI i)] (a7 I::F) (R:=R) (d:=d) (fn:=31) (kd:=kd) (n:=65) (ds:=[]) (cs:=c::cs)
  ·intro qv;refine C.rg [0,1,2,3,4,5,6,7,8,9,10,11,12,13,14,15,16,17,18,19,20,21,22,23,24,25,26,27,28,29] ?_;refine dD ?_;refine C.cmp rfl (λFP=>?_) (λFP=>?_)
   ·refine jr ?_;refine nO ?_;refine C.bk aJ aj ⟨?_,rfl⟩;rw[jy (λh=>by have:=(h.1 _ (br cN)).1;omega)]
   ·refine dH ?_;refine C.cmp rfl (λSW=>?_) (λSW=>?_)
    ·refine jr ?_;refine dV ?_;refine C.bk aJ aj ⟨?_,rfl⟩;rw[jy (λh=>by have:=(h.1 _ (br cN)).2.1;omega)]
    ·refine dV ?_;generalize hw:ops[i].w=z;rcases g6 z with rfl|rfl
     ·refine ow ?_;exact join qv ⟨az,az,.inl hw⟩
     ·refine dV ?_;refine C.cmp rfl (λNN=>?_) (λNN=>?_)
      ·refine dV ?_;refine C.bk aJ aj ⟨?_,rfl⟩;rw[jy (λh=>by
        rcases(h.1 _ (br cN)).2.2 with h|h
        ·rw[hw]at h;cases h
        ·omega)]
      ·refine cW ?_;exact join qv ⟨az,az,.inr az⟩
  ·rintro aa6 e;refine dN ?_;refine C.cx (X:=Nat) (λj=>[(0,so.v),(3,aI i),(4,aI j)]) (λ_=>a7 I::F) (λj=>j<=i/\∀ j' (hj:j'<ops.length),j'<j->ops[j'].k≠ops[i].k) (λj=>i-j) 0 ⟨rfl,rfl,rfl,trivial⟩ ⟨eK _,by intro j' _ hj;omega⟩ ?_;intro j e ⟨hj,hnj⟩ Lm;refine cW ?_;refine C.cmp rfl (λEr=>?_) (λEr=>?_)
   ·refine bJ ?_;have QO:j<i:=by simpa using Er
    have JR:j<ops.length:=az;by_cases ZI:ops[j].k=ops[i].k
    ·refine C.dx (cG 46 0 11) 11 [] 0 ?_;refine gg ?_;refine Dr.p (λh=>C.fe rfl h (hf:=ZI)) ?_;refine Dr.chain rfl ?_;refine zD ?_;refine C.bk aJ aj ⟨?_,rfl⟩;rw[jy (λh=>by have h1:=w5.1 h.2.1 j i (by simpa using JR) (by simpa using cN) QO;rw[pR,pR]at h1;exact h1 ZI)]
    ·refine C.dx (cG 46 0 11) 11 [] 0 ?_;refine gg ?_;refine Dr.p (λh=>C.dP rfl h (hf:=ZI)) ?_;refine Dr.chain rfl ?_;refine Ns ?_;refine again Lm (j+1) ⟨QO,λj' hj3 dA=>?_⟩ az;rcases mq.1 dA with h|rfl
     ·exact hnj j' hj3 h
     ·exact ZI
   ·refine dV ?_;have Eh:j=i:=by have:¬ j<i:=(by simpa using Er);omega
    subst Eh;refine again ih (j+1) ⟨cN,λj' hj3 dA=>?_,?_⟩ az
    ·rcases mq.1 dA with h|rfl
     ·exact kV j' hj3 h
     ·exact aa6
    ·rw[gQ cN,eF,im];refine⟨eI,by simp,λa ha c hc=>?_⟩;simp only[iJ,m1,dF]at hc;subst hc;obtain⟨o,ho,rfl⟩:=bH.1 ha;obtain⟨q,hq,rfl⟩:=jx ho;rw[ik]at hq;rw[LZ];exact hnj q az az
 ·refine bJ ?_;have JW:i=ops.length:=by have:¬ i<ops.length:=(by simpa using h8);omega
  subst JW;rw[HI]at eI;have iK:∀ o∈ops,zu o:=λo ho=>by obtain⟨q,hq,rfl⟩:=jx ho;exact kV q hq hq
  refine dN ?_;refine C.cmp rfl (λh59=>?_) (λh59=>?_)
  ·refine dN ?_;refine C.cmp rfl (λh63=>?_) (λh63=>?_)
   ·refine dN ?_;refine C.bk aJ aj ⟨?_,rfl⟩;rw[tF (show eV ops from⟨iK,eI,az,az⟩)]
   ·refine dN ?_;refine C.bk aJ aj ⟨?_,rfl⟩;rw[jy (λh=>by have:=h.2.2.2;omega)]
  ·refine dV ?_;refine C.bk aJ aj ⟨?_,rfl⟩;rw[jy (λh=>by have:=h.2.2.1;omega)]
instance:ef prog 64 f64 (λ_=>do mark .disable;pure Extern.Race.none_):=⟨func64,rfl,rfl,by kernel_rfl,by kernel_rfl⟩
instance:ef prog 66 f66 (λ_=>do mark .enable;pure Extern.Race.none_):=⟨func66,rfl,rfl,by kernel_rfl,by kernel_rfl⟩
instance:ef prog 67 f67 (Extern.Race.marked .acquire):=⟨func67,rfl,rfl,by kernel_rfl,by kernel_rfl⟩
instance:ef prog 92 f92 (Extern.Race.marked .releaseMerge):=⟨func92,rfl,rfl,by kernel_rfl,by kernel_rfl⟩
instance:ef prog 71 f71 (Extern.Race.marked .write):=⟨func71,rfl,rfl,by kernel_rfl,by kernel_rfl⟩
instance:ef prog 97 f97 (Extern.Race.marked .read):=⟨func97,rfl,rfl,by kernel_rfl,by kernel_rfl⟩
instance:ef prog 108 f108 (Extern.Atomic.casT (.int .i32)):=⟨func108,rfl,rfl,by kernel_rfl,by kernel_rfl⟩
instance:ef prog 110 f110 (Extern.Atomic.update (Op.intArith .add) .i32 true):=⟨func110,rfl,rfl,by kernel_rfl,by kernel_rfl⟩
instance:ef prog 112 f112 (Extern.Atomic.loadT (.int .u64)):=⟨func112,rfl,rfl,by kernel_rfl,by kernel_rfl⟩
instance:ef prog 113 f113 (Extern.Atomic.casT (.int .u64)):=⟨func113,rfl,rfl,by kernel_rfl,by kernel_rfl⟩
instance:ef prog 148 f148 (Extern.Atomic.update (Op.intArith .add) .u64 true):=⟨func148,rfl,rfl,by kernel_rfl,by kernel_rfl⟩
instance:ef prog 149 f149 Extern.Atomic.storeT:=⟨func149,rfl,rfl,by kernel_rfl,by kernel_rfl⟩
instance:ef prog 73 f73 Extern.Sync.semacquire:=⟨func73,rfl,rfl,by kernel_rfl,by kernel_rfl⟩
instance:ef prog 99 f99 Extern.Sync.semrelease:=⟨func99,rfl,rfl,by kernel_rfl,by kernel_rfl⟩
instance:ef prog 72 f72 (λ_=>pure (.bool false)):=⟨func72,rfl,rfl,by kernel_rfl,by kernel_rfl⟩
instance:Up prog 143:=⟨underlying143⟩
end
section
open Go.Proofs
def da(n:Int):List Value:=[.int .i32 n]
instance:fC da 1:=⟨λ_=>rfl,λa v h=>by simp[da]at h;subst h;rfl⟩
def cF(o:cr):List Value:=[.bool o.w,.int .u8 o.k,.int .i32 o.v]
instance:fC cF 3:=⟨λ_=>rfl,λa v h=>by simp[cF]at h;rcases h with h|h|h<;>subst h<;>rfl⟩
structure jX(I:HL)(m:cm):Prop where
 o:dS I cF 67 m.so m.ops
 r:dS I da 21 m.sr m.reads
 z:m.reads.length<2^20
inductive jg where
 |eZ (tx home:Int) (ops:List cr) (so:ay)
 |dec (tx:Int) (yes:Bool) (reads:List Int) (sr:ay)
 |kD (tx:Int) (yes:Bool)
def jg.abs:jg->aY
 |.eZ tx home ops _=>.eZ tx home ops
 |.dec tx yes reads _=>.dec tx yes reads
 |.kD tx yes=>.kD tx yes
def jg.tid:jg->aQ
 |.eZ .. =>274
 |.dec .. =>277
 |.kD .. =>281
def jg.pay:jg->Value
 |.eZ tx home _ so=>.agg #[aI tx,aI home,so.v]
 |.dec tx yes _ sr=>.agg #[aI tx,.bool yes,sr.v]
 |.kD tx yes=>.agg #[aI tx,.bool yes]
def jg.val(e:jg):Value:=.iface e.tid e.pay
def rA(e:jg):List Value:=[e.val]
instance:fC rA 1:=⟨λ_=>rfl,λa v h=>by simp[rA]at h;subst h;cases a<;>rfl⟩
def jg.J(I:HL):jg->Prop
 |.eZ _ _ ops so=>dS I cF 67 so ops/\ops.length<2^20
 |.dec _ _ reads sr=>dS I da 21 sr reads/\reads.length<2^20
 |.kD _ _=>True
structure sR where
 pl:Int
 home:Int
 ops:List cr
 so:ay
def sR.abs(p:sR):xE:=⟨p.pl,p.home,p.ops⟩
def BP(p:sR):Value:=.agg #[aI p.pl,aI p.home,p.so.v]
def rB(p:iF):Value:=.agg #[aI p.pl,.bool p.yes]
def fE(n:Int):Value:=.int .i32 n
def dR(n:Int):Value:=aI n
def GG(v:List Int×ay):Value:=v.2.v
abbrev aF(b:Nat):Value:=.pointer (some ⟨b,0,none⟩)
structure e8 where
 b:Nat
 ops:List cr
 so:ay
 aR:List (Int×(List Int×ay))
 mv:Nat
 bG:List (Int×Int)
 ma:Nat
 dec:Bool
 yes:Bool
def e8.abs(u:e8):ll:=⟨u.ops,u.aR.map λp=>(p.1,p.2.1),u.bG,u.dec,u.yes⟩
abbrev Es(u:e8)(F:List HP):List HP:=bR u.b (.cells #[u.so.v,.map (some u.mv),.map (some u.ma),.bool u.dec,.bool u.yes] 299 (0,0))::dp .i64 GG u.mv u.aR::dp .i64 dR u.ma u.bG::F
def aa9(u:e8):HP:=all (Es u [])
structure BQ(I:HL)(u:e8):Prop where
 o:dS I cF 67 u.so u.ops
 r:∀ v∈u.aR,dS I da 21 v.2.2 v.2.1
 z:∀ v∈u.aR,v.2.1.length<2^20
def sT(a:kh):List Value:=[aI a.tm,aI a.ord,aI a.tx,.bool a.again]
instance:fC sT 4:=⟨λ_=>rfl,λa v h=>by simp[sT]at h;rcases h with h|h|h|h<;>subst h<;>rfl⟩
structure dE where
 me:Int
 n:Int
 up:Bool
 log:List jg
 aX:Int
 values:List (Int×Int)
 aH:List (Int×Int)
 pend:List (Int×sR)
 done:List (Int×iF)
 cf:List (Int×iF)
 cg:List (Int×e8)
 timers:List kh
 order:Int
 clock:Int
 waits:List cm
 out:List cm
def dE.abs(s:dE):dT:=⟨s.me,s.n,s.up,s.log.map (·.abs),s.aX,s.values,s.aH,s.pend.map λp=>(p.1,p.2.abs),s.done,s.cf,s.cg.map λp=>(p.1,p.2.abs),s.timers.map (·.pL),s.clock,s.waits.map (·.toMsgR),s.out.map (·.toMsgR)⟩
def yj(u:e8):Value:=aF u.b
abbrev sV(p:Int×e8):HP:=aa9 p.2
abbrev SX(b:Nat)(s:dE)(lg wt ot tm:ay)(bv bl bp bd be bu:Nat)(tl:List kh)(F:List HP):List HP:=
 bR b (.cells #[aI s.me,aI s.n,.bool s.up,lg.v,aI s.aX,.map (some bv),.map (some bl),.map (some bp),.map (some bd),.map (some be),.map (some bu),tm.v,aI s.order,aI s.clock,wt.v,ot.v] 180 (0,0))::
  a9 rA 1 272 lg s.log::dp .u8 fE bv s.values::dp .u8 dR bl s.aH::dp .i64 BP bp s.pend::dp .i64 rB bd s.done::dp .i64 rB be s.cf::dp .i64 yj bu s.cg::all (s.cg.map sV)::
  a9 sT 4 263 tm tl::a9 bN 7 190 wt s.waits::a9 bN 7 190 ot s.out::F
def cU(b:Nat)(s:dE):HP:=λh=>∃ lg wt ot tm:ay,∃ bv bl bp bd be bu:Nat,∃ tl:List kh,rp s.timers s.order tl/\all (SX b s lg wt ot tm bv bl bp bd be bu tl []) h
structure ShJ(I:HL)(s:dE):Prop where
 log:∀ r∈s.log,r.J I
 pend:∀ p∈s.pend,dS I cF 67 p.2.so p.2.ops
 cg:∀ u∈s.cg,BQ I u.2
 waits:∀ m∈s.waits,jX I m
 out:∀ m∈s.out,jX I m
theorem jX.mono{I I':HL}{m:cm}(hs:Sub I I')(h:jX I m):jX I' m:=⟨h.o.mono hs,h.r.mono hs,h.z⟩
theorem jg.J.mono{I I':HL}{m:jg}(hs:Sub I I')(h:m.J I):m.J I':=by
 cases m with
 |eZ tx home ops so=>exact⟨dS.mono h.1 hs,h.2⟩
 |dec tx yes reads sr=>exact⟨dS.mono h.1 hs,h.2⟩
 |kD tx yes=>trivial
theorem BQ.mono{I I':HL}{u:e8}(hs:Sub I I')(h:BQ I u):BQ I' u:=⟨h.o.mono hs,λv hv=>(h.r v hv).mono hs,h.z⟩
theorem ShJ.mono{I I':HL}{s:dE}(hs:Sub I I')(h:ShJ I s):ShJ I' s:=⟨λr hr=>(h.log r hr).mono hs,λr hr=>(h.pend r hr).mono hs,λu hu=>(h.cg u hu).mono hs,λr hr=>(h.waits r hr).mono hs,λr hr=>(h.out r hr).mono hs⟩
section
variable{R:Nat->aP->Array Obj->Prop}{d:Nat}{As F L:List HP}{g:aP}{b:Nat}{s:dE}
theorem cU.opn(hf:Fo (cU b s) As L:=by exact Fo.au)(h:∀ (lg wt ot tm:ay) (bv bl bp bd be bu:Nat) (tl:List kh),rp s.timers s.order tl->At R d (SX b s lg wt ot tm bv bl bp bd be bu tl L) g):At R d As g:=by refine At.fo hf λH st=>?_;obtain⟨lg,st⟩:=st.ex;obtain⟨wt,st⟩:=st.ex;obtain⟨ot,st⟩:=st.ex;obtain⟨tm,st⟩:=st.ex;obtain⟨bv,st⟩:=st.ex;obtain⟨bl,st⟩:=st.ex;obtain⟨bp,st⟩:=st.ex;obtain⟨bd,st⟩:=st.ex;obtain⟨be,st⟩:=st.ex;obtain⟨bu,st⟩:=st.ex;obtain⟨tl,st⟩:=st.ex;obtain⟨ht,st⟩:=st.pure;exact h lg wt ot tm bv bl bp bd be bu tl ht H st.flat
theorem cU.cls{c:Array Value}(s:dE)(h:At R d (cU b s::F) g){lg wt ot tm:ay}{bv bl bp bd be bu:Nat}{tl:List kh}(ht:rp s.timers s.order tl:=by assumption)(hf:Fo (bR b (.cells c 180 (0,0))) As L:=by exact Fo.au)
  (hc:c=#[aI s.me,aI s.n,.bool s.up,lg.v,aI s.aX,.map (some bv),.map (some bl),.map (some bp),.map (some bd),.map (some be),.map (some bu),tm.v,aI s.order,aI s.clock,wt.v,ot.v]:=by rfl)
  (hr:dB [a9 rA 1 272 lg s.log,dp .u8 fE bv s.values,dp .u8 dR bl s.aH,dp .i64 BP bp s.pend,dp .i64 rB bd s.done,dp .i64 rB be s.cf,dp .i64 yj bu s.cg,all (s.cg.map sV),
   a9 sT 4 263 tm tl,a9 bN 7 190 wt s.waits,a9 bN 7 190 ot s.out] L F:=by exact dB.au):At R d As g:=by
 subst hc;refine At.perm (hf.perm.trans (hr.perm.cons _)) λH st=>h H ?_;exact Sat.imp (λhh x=>⟨lg,wt,ot,tm,bv,bl,bp,bd,be,bu,tl,ht,x⟩) (Sat.fS (l:=SX b s lg wt ot tm bv bl bp bd be bu tl []) st)
end
end
section
open Go.Proofs
variable{P:bL}{ak:Bool}{B:jW}{R:Nat->aP->Array Obj->Prop}{d:Nat}{As:List HP}
variable{fn:bI}{kd:Kd}{n:Nat}{e:Nat->Value}{ds:List dQ}{k:List Item}{cs:List Frame}
variable{ops:Array Oper}{i:Nat}{aa:List Nat}{t:Nat}{ty:aQ}{pos:String}{af:Array Edge}{gd:Option (Nat×Bool)}{x y:cA}
theorem ab.aba(C:ab P ak B R){op:BinOp}{r:Bool}{tt t2:aQ}{b1 b2:Bool}(hu:P.underlying tt=some .bool)(ho:aZ ops i=some ⟨some t,.binOp op tt x y t2,ty,pos,af,gd⟩)(h:At R d As (gr fn kd n (put e t (.bool ((b1==b2)==r))) ds (.inRegion ops aa::k) cs))
  (cq:isEq op=some r:=by rfl) (hx:ev n e x=.bool b1:=by rfl) (hy:ev n e y=.bool b2:=by rfl) (hw:aM ops n e gd=true:=by rfl):At R d As (gr fn kd n e ds (.inRegion ops (i::aa)::k) cs):=
 C.v0 ho h (by
  unfold execOp;simp only[hx,hy];refine bq (a:=.bool ((b1==b2)==r)) ?_ rfl;have h0:fD P (Op.equal tt (.bool b1) (.bool b2))=some (b1==b2):=by unfold Op.equal;show fD P (Op.equalIn (9998+1+1) _ _ _)=_;unfold Op.equalIn;refine bq (fy hu) ?_;rfl
  cases op<;>first|(cases cq;done)|skip
  ·obtain rfl:=bS cq;refine bq (a:=()) (by unfold eqGuard;rfl) ?_;refine bq h0 ?_;cases b1<;>cases b2<;>rfl
  ·obtain rfl:=bS cq;refine bq (a:=()) (by unfold eqGuard;rfl) ?_;refine bq h0 ?_;cases b1<;>cases b2<;>rfl) hw
theorem ab.GH(C:ab P ak B R){op:BinOp}{r:Bool}{tt t2:aQ}{b:Bool}(hu:P.underlying tt=some .bool)(ho:aZ ops i=some ⟨some t,.binOp op tt x y t2,ty,pos,af,gd⟩)(h:At R d As (gr fn kd n (put e t (.bool r)) ds (.inRegion ops aa::k) cs))
  (cq:isEq op=some r:=by rfl) (hx:ev n e x=.bool b:=by rfl) (hy:ev n e y=.bool b:=by rfl) (hw:aM ops n e gd=true:=by rfl):At R d As (gr fn kd n e ds (.inRegion ops (i::aa)::k) cs):=
 C.aba hu ho (by rw[show((b==b)==r)=r by cases b<;>cases r<;>rfl];exact h) cq hx hy hw
theorem uw{I:HL}{A:HP}{so ro:ay}{ops:List cr}(hA:A=a9 cF 3 67 so ops)(hr:dS I fX 63 ro ops)(hz:∀ o∈ops,(-9223372036854775808<=o.k/\o.k<=9223372036854775807)/\(-9223372036854775808<=o.v/\o.v<=9223372036854775807))(hl:ops.length<2^40):
  aD prog ak bQ 165 #[so.v,ro.v] [A,a7 I] (λv As=>v=.bool true/\As=[A,a7 I]):=by
 subst hA;refine aD.of λR C kd d F c cs aJ aj=>?_;refine JG ?_;refine C.m3 rfl ?_ (s:=so) (l:=ops) (f:=cF);refine fI ?_;refine C.m3 rfl ?_ (s:=ro) (l:=ops) (f:=fX);refine C.dP rfl ?_;refine dD ?_;refine C.cx (X:=Nat) (λi=>[(0,so.v),(1,ro.v),(5,aI i)]) (λ_=>a9 cF 3 67 so ops::a7 I::F) (λi=>i<=ops.length) (λi=>ops.length-i) 0 ⟨rfl,rfl,rfl,trivial⟩ (eK _) ?_;intro i e hi ih;refine cW ?_;refine C.m3 rfl ?_ (s:=so) (l:=ops) (f:=cF);refine C.cmp rfl (λpM=>?_) (λpM=>?_)
 ·refine bJ ?_;have cN:i<ops.length:=az;have Uy:=hz _ (br cN);refine C.dx (cG 17 0 39) 39 [] 0 ?_;refine Ar ?_;refine Dr.l (λhE h=>C.kJ rfl h (s:=so) (l:=ops) (f:=cF) (j:=i)) ?_;refine lS ?_;refine Dr.l (v:=.bool (ops[i]'cN).w) (λhE h=>C.vI rfl h (s:=so) (l:=ops) (f:=cF) (j:=i) (o:=0)) ?_;refine Ar ?_;refine Dr.l (λhE h=>C.kJ rfl h (s:=ro) (l:=ops) (f:=fX) (j:=i)) ?_;refine lS ?_;refine Dr.l (v:=.bool (ops[i]'cN).w) (λhE h=>C.vI rfl h (s:=ro) (l:=ops) (f:=fX) (j:=i) (o:=0)) ?_;refine Dr.p (λh=>C.GH (b:=(ops[i]'cN).w) underlying4 rfl h) ?_;refine CH ?_;refine Dr.l (λhE h=>C.kJ rfl h (s:=so) (l:=ops) (f:=cF) (j:=i)) ?_;refine lS ?_;refine Dr.l (v:=.int .u8 (ops[i]'cN).k) (λhE h=>C.vI rfl h (s:=so) (l:=ops) (f:=cF) (j:=i) (o:=1)) ?_;refine Dr.p (v:=aI (ops[i]'cN).k) (λh=>C.cv rfl h (p:=(ops[i]'cN).k) (r:=(ops[i]'cN).k) (k1:=.u8) (k2:=.i64) (hr:=xp Uy.1.1 Uy.1.2)) ?_;refine Ar ?_;refine Dr.l (λhE h=>C.kJ rfl h (s:=ro) (l:=ops) (f:=fX) (j:=i)) ?_;refine lS ?_;refine Dr.l (v:=aI (ops[i]'cN).k) (λhE h=>C.vI rfl h (s:=ro) (l:=ops) (f:=fX) (j:=i) (o:=1)) ?_;refine Dr.p (λh=>C.dP rfl h (hf:=by intro h;exact h rfl)) ?_;refine JF ?_;refine Dr.l (λhE h=>C.kJ rfl h (s:=so) (l:=ops) (f:=cF) (j:=i)) ?_;refine lS ?_;refine Dr.l (v:=.int .i32 (ops[i]'cN).v) (λhE h=>C.vI rfl h (s:=so) (l:=ops) (f:=cF) (j:=i) (o:=2)) ?_;refine Dr.p (v:=aI (ops[i]'cN).v) (λh=>C.cv rfl h (p:=(ops[i]'cN).v) (r:=(ops[i]'cN).v) (k1:=.i32) (k2:=.i64) (hr:=xp Uy.2.1 Uy.2.2)) ?_;refine Ar ?_;refine Dr.l (λhE h=>C.kJ rfl h (s:=ro) (l:=ops) (f:=fX) (j:=i)) ?_;refine lS ?_;refine Dr.l (v:=aI (ops[i]'cN).v) (λhE h=>C.vI rfl h (s:=ro) (l:=ops) (f:=fX) (j:=i) (o:=2)) ?_;refine Dr.p (λh=>C.dP rfl h (hf:=by intro h;exact h rfl)) ?_;refine xY ?_;refine Ns ?_;exact again ih (i+1) cN az
 ·refine dD ?_;exact C.bk aJ aj ⟨rfl,rfl⟩
theorem mO{I:HL}{A:HP}{so ro:ay}{l:List Int}(hA:A=a9 da 1 21 so l)(hr:dS I eE 3 ro l)(hz:∀ x∈l, -9223372036854775808<=x/\x<=9223372036854775807)(hl:l.length<2^40):
  aD prog ak bQ 166 #[so.v,ro.v] [A,a7 I] (λv As=>v=.bool true/\As=[A,a7 I]):=by
 subst hA;refine aD.of λR C kd d F c cs aJ aj=>?_;refine JG ?_;refine C.m3 rfl ?_ (s:=so) (l:=l) (f:=da);refine fI ?_;refine C.m3 rfl ?_ (s:=ro) (l:=l) (f:=eE);refine C.dP rfl ?_;refine dD ?_;refine C.cx (X:=Nat) (λi=>[(0,so.v),(1,ro.v),(5,aI i)]) (λ_=>a9 da 1 21 so l::a7 I::F) (λi=>i<=l.length) (λi=>l.length-i) 0 ⟨rfl,rfl,rfl,trivial⟩ (eK _) ?_;intro i e hi ih;refine cW ?_;refine C.m3 rfl ?_ (s:=so) (l:=l) (f:=da);refine C.cmp rfl (λpM=>?_) (λpM=>?_)
 ·refine bJ ?_;have cN:i<l.length:=az;have Uy:=hz _ (br cN);refine C.dx (cG 17 0 10) 10 [] 0 ?_;refine Ar ?_;refine Dr.l (λhE h=>C.kJ rfl h (s:=so) (l:=l) (f:=da) (j:=i)) ?_;refine Dr.l (v:=.int .i32 (l[i]'cN)) (λhE h=>C.nL rfl h (s:=so) (l:=l) (f:=da) (j:=i)) ?_;refine Dr.p (v:=aI (l[i]'cN)) (λh=>C.cv rfl h (p:=l[i]'cN) (r:=l[i]'cN) (k1:=.i32) (k2:=.i64) (hr:=xp Uy.1 Uy.2)) ?_;refine Ar ?_;refine Dr.l (λhE h=>C.kJ rfl h (s:=ro) (l:=l) (f:=eE) (j:=i)) ?_;refine Dr.l (v:=aI (l[i]'cN)) (λhE h=>C.nL rfl h (s:=ro) (l:=l) (f:=eE) (j:=i)) ?_;refine Dr.p (λh=>C.dP rfl h (hf:=by intro h;exact h rfl)) ?_;refine Dr.chain rfl ?_;refine Ns ?_;exact again ih (i+1) cN az
 ·refine dD ?_;exact C.bk aJ aj ⟨rfl,rfl⟩
theorem yk:aD prog ak bQ 91 #[] [] (λv As=>∃ bv bl bp bd be bu:Nat,v=.agg #[.map (some bv),.map (some bl),.map (some bp),.map (some bd),.map (some be),.map (some bu),.slice none 0 0,aI 0,aI 0,.slice none 0 0]/\
  As=[dp .u8 fE bv [],dp .u8 dR bl [],dp .i64 BP bp [],dp .i64 rB bd [],dp .i64 rB be [],dp .i64 yj bu []]):=by
 refine aD.of λR C kd d F c cs aJ aj=>?_;refine jK ?_;refine C.al rfl (λb0=>?_);refine bJ ?_;refine C.mm .u8 fE rfl (λb1=>?_);refine C.mm .u8 dR rfl (λb2=>?_);refine C.mm .i64 BP rfl (λb3=>?_);refine C.mm .i64 rB rfl (λb4=>?_);refine C.mm .i64 rB rfl (λb5=>?_);refine C.mm .i64 yj rfl (λb6=>?_);refine dN ?_;exact C.Qm rfl aJ aj ⟨b1,b2,b3,b4,b5,b6,rfl,rfl⟩
def jm(k n:Int):dE:=⟨k,n,true,[],0,[],[],[],[],[],[],[],0,0,[],[]⟩
theorem JX(k n:Int):(jm k n).abs=Gn k n:=rfl
theorem QP(I:HL)(k n:Int):ShJ I (jm k n):=⟨by simp[jm],by simp[jm],by simp[jm],by simp[jm],by simp[jm]⟩
theorem eH{k n:Int}:aD prog ak bQ 47 #[aI k,aI n] [] (λv As=>∃ b,v=aF b/\As=[cU b (jm k n)]):=by refine aD.of λR C kd d F c cs aJ aj=>?_;refine Lp ?_;refine C.dv yk ?_;rintro v aN ⟨bv,bl,bp,bd,be,bu,rfl,rfl⟩;refine k6 ?_;refine C.bx rfl (λb9=>?_);refine bJ ?_;refine At.aG rA 1 272 (At.aG sT 4 263 (At.aG bN 7 190 (At.aG bN 7 190 ?_)));refine At.zr (show At R d (all (([]:List (Int×e8)).map sV)::_) _ from ?_);refine cU.cls ⟨k,n,true,[],0,[],[],[],[],[],[],[],0,0,[],[]⟩ ?_ (tl:=[]) (lg:=aG) (wt:=aG) (ot:=aG) (tm:=aG) (rp.zero 0);exact C.bk (aN:=[cU b9 ⟨k,n,true,[],0,[],[],[],[],[],[],[],0,0,[],[]⟩]) aJ aj ⟨_,rfl,rfl⟩
theorem vh{key n:Int}(h1:97<=key/\key<=122)(hn:1<=n):aD prog ak bQ 101 #[.int .u8 key,aI n] [] (λv As=>v=aI (gU key n)/\As=[]):=by refine aD.of λR C kd d F c cs aJ aj=>?_;refine zB ?_;refine kL ?_;refine C.rem rfl ?_;refine bJ ?_;exact C.bk aJ aj ⟨rfl,rfl⟩
theorem sW{I:HL}{so:ay}{ops:List cr}(ho:dS I cF 67 so ops)(hl:ops.length<2^43):aD prog ak bQ 55 #[so.v] [a7 I] (λv As=>∃ s',v=s'.v/\As=[a9 cF 3 67 s' ops,a7 I]):=by
 refine aD.of λR C kd d F c cs aJ aj=>?_;refine bM ?_;rcases ho with⟨rfl,rfl⟩|⟨pad,h1,h2⟩
 ·refine dH ?_;refine C.SG rfl ?_ (a:=none) (len:=0) (cap:=0);refine dD ?_;refine At.aG cF 3 67 ?_;exact C.bk aJ aj ⟨aG,rfl,rfl⟩
 ·have ho:dS I cF 67 so ops:=.inr ⟨pad,h1,h2⟩;have hv:so.v=.slice (some ⟨so.b,0,none⟩) so.len so.cap:=by unfold ay.v;rw[show so.a=some ⟨so.b,0,none⟩from congrArg ay.a h1]
  refine dH ?_;refine C.SG rfl ?_ (a:=some ⟨so.b,0,none⟩) (len:=so.len) (cap:=so.cap) (hx:=hv);refine dN ?_;refine C.ZA cF rfl (λb5=>?_);refine fI ?_;refine C.Dw (l:=[]) ops rfl (λs'=>?_) (hsrc:=λH st=>?_) (s:=⟨some ⟨b5,0,none⟩,0,0⟩)
  ·refine bJ ?_;exact C.bk aJ aj ⟨s',rfl,rfl⟩
  ·exact dt.src (dt.a7 Fo.au ho) st (λj=>rfl)
theorem BR{key n:Int}(h1: -1000<key)(h2:key<1000)(hn:0<n):aD prog ak bQ 61 #[aI key,aI n] [] (λv As=>v=aI (gU key n)/\As=[]):=by refine aD.of λR C kd d F c cs aJ aj=>?_;refine zB ?_;refine kE ?_;refine C.rem rfl ?_;refine bJ ?_;exact C.bk aJ aj ⟨rfl,rfl⟩
theorem oP{s:ay}{l:List Int}{x:Int}(hl:l.length<2^60):
  aD prog ak bQ 196 #[s.v,aI x] [a9 eE 1 3 s l] (λv As=>v=.bool (l.contains x)/\As=[a9 eE 1 3 s l]):=by
 refine aD.of λR C kd d F c cs aJ aj=>?_;refine Lp ?_;refine C.cx (X:=Nat) (λi=>[(0,s.v),(1,aI x),(5,aI i)]) (λ_=>a9 eE 1 3 s l::F) (λi=>i<=l.length/\∀ j,j<i->l[j]? ≠some x) (λi=>l.length-i) 0 ⟨rfl,rfl,rfl,trivial⟩ ⟨az,by intro j hj;omega⟩ ?_;intro i e ⟨hi,sF⟩ ih;refine dD ?_;refine C.cmp rfl (λh9=>?_) (λh9=>?_)
 ·refine kE ?_;refine C.cmp rfl (λwv=>?_) (λwv=>?_)
  ·refine dD ?_;refine C.bk aJ aj ⟨?_,rfl⟩;have:x∈l:=by rw[<- wv];exact br _
   simp[this]
  ·refine dV ?_;refine again ih (i+1) ⟨az,λj hj=>?_⟩ az;rcases mq.1 hj with h|rfl
   ·exact sF j h
   ·intro z;rw[e9 az]at z;exact wv (bS z)
 ·refine dD ?_;refine C.bk aJ aj ⟨?_,rfl⟩;have:¬ x∈l:=λhm=>by obtain⟨j,hj,e⟩:=jx hm;exact sF j az (by rw[e9 hj,e])
  simp[this]
def sX:Option Nat->Int|some i=>i|none=> -1
theorem find_spec{b:Nat}{s:eS}{kind tx:Int}(hl:s.log.length<2^60):
  aD prog ak bQ 191 #[.pointer (some ⟨b,0,none⟩),aI kind,aI tx] [cY b s] (λv As=>v=aI (sX (bB s.abs.log kind tx))/\As=[cY b s]):=by
 refine aD.of λR C kd d F c cs aJ aj=>?_;refine bM ?_;refine cY.opn (h:=λlg vl lk un tm wt ot=>?_);have il:∀ i (hi:i<s.log.length),s.abs.log[i]? =some (s.log[i]).toRecR:=λi hi=>by simp[eS.abs,hi]
 have wQ:s.abs.log.length=s.log.length:=by simp[eS.abs]
 refine zC ?_;refine C.cx (X:=Int) (λx=>[(0,.pointer (some ⟨b,0,none⟩)),(1,aI kind),(2,aI tx),(7,aI x)]) (λ_=>y9 b s lg vl lk un tm wt ot F) (λx=> -1<=x/\x<s.log.length/\bB s.abs.log kind tx=findD s.abs.log kind tx (x+1).toNat) (λx=>(x+1).toNat) _ ⟨rfl,rfl,rfl,rfl,trivial⟩ ⟨az,az,by unfold bB;rw[wQ];congr 1;omega⟩ ?_;intro x e ⟨hx1,hx2,hf⟩ ih;refine dN ?_;refine C.cmp rfl (λpN=>?_) (λpN=>?_)
 ·refine bJ ?_;obtain⟨j,rfl⟩:=gR pN;have e1:((j:Int)+1).toNat=j+1:=az;rw[e1,findD,il j az]at hf;refine i6 ?_;refine C.cmp rfl (λts=>?_) (λts=>?_)
  ·refine i6 ?_;refine C.cmp rfl (λNN=>?_) (λNN=>?_)
   ·refine dV ?_;rw[aK (by simp[isRec,ts,NN])]at hf;refine cY.cls s ?_;refine C.bk aJ aj ⟨?_,rfl⟩;rw[hf];rfl
   ·refine kE ?_;rw[ao (by simp[isRec,NN])]at hf;refine again ih ((j:Int)-1) ⟨az,az,by rw[hf];congr 1;omega⟩ az
  ·refine jr ?_;refine cW ?_;rw[ao (by simp[isRec,ts])]at hf;refine again ih ((j:Int)-1) ⟨az,az,by rw[hf];congr 1;omega⟩ az
 ·refine dD ?_;refine cY.cls s ?_;refine C.bk aJ aj ⟨?_,rfl⟩;have:(x+1).toNat=0:=az;rw[hf,this];rfl
theorem jR{b:Nat}{s:eS}{m:cm}(hl:s.out.length<2^34):aD prog ak bQ 192 #[.pointer (some ⟨b,0,none⟩),.agg #[aI m.kind,aI m.aU,aI m.to,aI m.tx,.bool m.yes,m.so.v,m.sr.v]] [cY b s]
  (λv As=>As=[cY b {s with out:=s.out++[{m with aU:=s.me}]}]):=by
 refine aD.of λR C kd d F c cs aJ aj=>?_;refine bM ?_;refine cY.opn (h:=λlg vl lk un tm wt ot=>?_);refine bJ ?_;refine C.bx rfl (λb3=>?_);refine kL ?_;refine C.dx (cG 9 0 10) 11 [6,7,10] 1 ?_;refine Lq ?_;refine Ch.m 6 (aW λe aa hk=>?_);refine C.nj rfl (λZJ=>hk _ _ .cons ?_);refine Ch.m 7 (aW λe aa hk=>?_);refine C.nM {m with aU:=s.me} rfl (λs'=>?_);refine hk _ _ ?_;refine Ch.m 10 (aW λe aa hk=>?_);refine C.st rfl (hk _ undef ?_);refine eQ ?_;refine cY.cls {s with out:=s.out++[{m with aU:=s.me}]} ?_;exact C.cX aJ aj rfl
theorem q5{b:Nat}{s:eS}{m:cm}(hl:s.waits.length<2^34):aD prog ak bQ 212 #[.pointer (some ⟨b,0,none⟩),.agg #[aI m.kind,aI m.aU,aI m.to,aI m.tx,.bool m.yes,m.so.v,m.sr.v]] [cY b s]
  (λv As=>As=[cY b {s with waits:=s.waits++[{m with aU:=s.me}]}]):=by
 refine aD.of λR C kd d F c cs aJ aj=>?_;refine bM ?_;refine cY.opn (h:=λlg vl lk un tm wt ot=>?_);refine bJ ?_;refine C.bx rfl (λb3=>?_);refine kL ?_;refine C.dx (cG 9 0 10) 11 [6,7,10] 1 ?_;refine Lq ?_;refine Ch.m 6 (aW λe aa hk=>?_);refine C.nj rfl (λZJ=>hk _ _ .cons ?_);refine Ch.m 7 (aW λe aa hk=>?_);refine C.nM {m with aU:=s.me} rfl (λs'=>?_);refine hk _ _ ?_;refine Ch.m 10 (aW λe aa hk=>?_);refine C.st rfl (hk _ undef ?_);refine eQ ?_;refine cY.cls {s with waits:=s.waits++[{m with aU:=s.me}]} ?_;exact C.cX aJ aj rfl
theorem oQ{b:Nat}{s:eS}{tx:Int}(hl:s.log.length<2^60):
  aD prog ak bQ 163 #[.pointer (some ⟨b,0,none⟩),aI tx] [cY b s] (λv As=>v=aI (sX (bF s.abs.log tx))/\As=[cY b s]):=by
 refine aD.of λR C kd d F c cs aJ aj=>?_;refine Lp ?_;refine C.cE (find_spec (by first|assumption|omega)) ?_;refine rS ?_;refine C.cmp rfl (λzG=>?_) (λzG=>?_)
 ·refine dD ?_;refine C.bk aJ aj ⟨?_,rfl⟩;cases hf:bB s.abs.log 3 tx with
  |none=>rw[hf]at zG;exact absurd zG (by decide)
  |some i=>simp[bF,hf,sX]
 ·refine dD ?_;refine C.cE (find_spec (by first|assumption|omega)) ?_;refine jK ?_;refine C.bk aJ aj ⟨?_,rfl⟩;cases hf:bB s.abs.log 3 tx with
  |none=>simp[bF,hf]
  |some i=>rw[hf]at zG;exact absurd (show sX (some i)>=0 from C6 i) zG
theorem Et(l:List gM)(tx:Int):∀ i,i<=l.length->(∀ j (hj:j<l.length),j<i->l[j].tx≠tx)->cH l tx=(cH (l.drop i) tx).map (· +i):=by
 intro i
 induction i generalizing l with
 |zero=>intro _ _;simp[cH]
 |succ i ih=>
  intro hi hn;cases l with
  |nil=>simp at hi
  |cons u l=>
   have h0:=hn 0 (by simp) az;have:=ih l (by simpa using hi) (λj hj Eh=>hn (j+1) (by simpa using hj) az);unfold cH at this⊢;rw[zT];have hb:(u.tx==tx)=false:=by simpa using h0
   rw[hb,Tt];simp only[ij,fB];rw[this];simp[vC,Nat.add_assoc]
theorem mP{b:Nat}{s:eS}{tx:Int}(hl:s.under.length<2^60):
  aD prog ak bQ 193 #[.pointer (some ⟨b,0,none⟩),aI tx] [cY b s] (λv As=>v=aI (sX (cH s.abs.under tx))/\As=[cY b s]):=by
 refine aD.of λR C kd d F c cs aJ aj=>?_;refine bM ?_;refine cY.opn (h:=λlg vl lk un tm wt ot=>?_);have wQ:s.abs.under.length=s.under.length:=by simp[eS.abs]
 have il:∀ i (hi:i<s.abs.under.length),s.abs.under[i].tx=(s.under[i]'(by omega)).tx:=λi hi=>by simp[eS.abs,fP.abs]
 refine dV ?_;refine C.cx (X:=Nat) (λi=>[(0,.pointer (some ⟨b,0,none⟩)),(1,aI tx),(5,aI i)]) (λ_=>y9 b s lg vl lk un tm wt ot F) (λi=>i<=s.under.length/\∀ j (hj:j<s.abs.under.length),j<i->s.abs.under[j].tx≠tx) (λi=>s.under.length-i) 0 ⟨rfl,rfl,rfl,trivial⟩ ⟨az,by intro j _ hj;omega⟩ ?_;intro i e ⟨hi,sF⟩ ih;refine kE ?_;refine C.cmp rfl (λoy=>?_) (λoy=>?_)
 ·refine ow ?_;refine C.cmp rfl (λjs=>?_) (λjs=>?_)
  ·refine dH ?_;refine cY.cls s ?_;refine C.bk aJ aj ⟨?_,rfl⟩;rw[Et s.abs.under tx i az sF];have cN:i<s.abs.under.length:=az;rw[iR cN];unfold cH;rw[zT];have hb:(s.abs.under[i].tx==tx)=true:=by rw[il];simpa using js
   simp[hb,sX]
  ·refine dV ?_;refine again ih (i+1) ⟨az,λj hj Eh=>?_⟩ az;rcases mq.1 Eh with h|rfl
   ·exact sF j hj h
   ·rw[il];exact js
 ·refine dD ?_;refine cY.cls s ?_;refine C.bk aJ aj ⟨?_,rfl⟩;rw[Et s.abs.under tx i az sF,pS az];simp[cH,sX]
theorem Eu{b:Nat}{s:eS}{key:Int}(hl:s.aH.length<2^60):
  aD prog ak bQ 211 #[.pointer (some ⟨b,0,none⟩),aI key] [cY b s] (λv As=>v=aI (iT s.aH key)/\As=[cY b s]):=by
 refine aD.of λR C kd d F c cs aJ aj=>?_;refine bM ?_;refine cY.opn (h:=λlg vl lk un tm wt ot=>?_);refine dV ?_;refine C.cx (X:=Nat) (λi=>[(0,.pointer (some ⟨b,0,none⟩)),(1,aI key),(5,aI i)]) (λ_=>y9 b s lg vl lk un tm wt ot F) (λi=>i<=s.aH.length/\iT s.aH key=iT (s.aH.drop i) key) (λi=>s.aH.length-i) 0 ⟨rfl,rfl,rfl,trivial⟩ ⟨az,rfl⟩ ?_;intro i e ⟨hi,hd⟩ ih;refine kE ?_;refine C.cmp rfl (λoy=>?_) (λoy=>?_)
 ·refine ow ?_;refine C.cmp rfl (λjs=>?_) (λjs=>?_)
  ·refine zC ?_;refine cY.cls s ?_;refine C.bk aJ aj ⟨?_,rfl⟩;rw[hd,iR az];have hb:(s.aH[i].key==key)=true:=by simpa using js
   unfold iT;rw[zS,hb];rfl
  ·refine dV ?_;refine again ih (i+1) ⟨az,?_⟩ az;rw[hd,iR az];have hb:(s.aH[i].key==key)=false:=by simpa using js
   unfold iT;rw[zS,hb]
 ·refine dD ?_;refine cY.cls s ?_;refine C.bk aJ aj ⟨?_,rfl⟩;rw[hd,pS az];rfl
theorem vi{I:HL}{so:ay}{ops:List cr}{k n:Int}(ho:dS I fX 63 so ops)(hk:∀ o∈ops,97<=o.k/\o.k<=122)(hn:0<n)(hl:ops.length<2^30):
  aD prog ak bQ 194 #[so.v,aI k,aI n] [a7 I] (λv As=>∃ s':ay,v=s'.v/\As=[a9 fX 3 63 s' (aV ops k n),a7 I]):=by
 refine aD.of λR C kd d F c cs aJ aj=>?_;refine bM ?_;refine At.aG fX 3 63 ?_;refine i6 ?_;refine C.cx (X:=Nat×ay) (λx=>[(0,so.v),(1,aI k),(2,aI n),(7,x.2.v),(8,aI x.1)]) (λx=>a9 fX 3 63 x.2 (aV (ops.take x.1) k n)::a7 I::F) (λx=>x.1<=ops.length) (λx=>ops.length-x.1) (0,aG) ⟨rfl,rfl,rfl,rfl,rfl,trivial⟩ (by simp) ?_ (hI:=.refl);rintro⟨i,s1⟩ e hi ih;dsimp only at hi⊢;refine dD ?_;refine C.cmp rfl (λoy=>?_) (λoy=>?_)
 ·refine kL ?_;have cN:i<ops.length:=by simpa using oy
  have wq:=hk _ (br cN);refine C.cE (BR (key:=ops[i].k) az az hn) ?_;refine zB ?_;refine fI ?_;refine C.cmp rfl (λSW=>?_) (λSW=>?_)
  ·refine dV ?_;refine C.mE rfl (λhj=>?_);refine C.nj rfl (λb29=>?_);refine C.nM ops[i] rfl (λs2=>?_) (hsz:=by have:=(uj (ops:=ops.take i) (k:=k) (n:=n)).length_le;simp only[ik]at this;omega);refine dV ?_;refine again ih (i+1,s2) (by simp;omega) (by simp;omega) (hr:=?_);have e1:aV (ops.take (i+1)) k n=aV (ops.take i) k n++[ops[i]]:=by rw[gQ cN,Ap];simp[aV,SW]
   rw[e1];exact bZ.au
  ·refine dV ?_;refine again ih (i+1,s1) (by simp;omega) (by simp;omega) (hr:=?_);have e1:aV (ops.take (i+1)) k n=aV (ops.take i) k n:=by rw[gQ cN,Ap];simp[aV,SW]
   rw[e1];exact bZ.au
 ·refine dH ?_;have:ops.take i=ops:=iq (by simp at oy;omega);show At R d (a9 fX 3 63 s1 (aV (ops.take i) k n)::a7 I::F) _;rw[this];exact C.bk aJ aj ⟨s1,rfl,rfl⟩
theorem oR{I:HL}{so:ay}{ops:List cr}{k n:Int}(ho:dS I fX 63 so ops)(hk:∀ o∈ops,97<=o.k/\o.k<=122)(hn:0<n)(hl:ops.length<2^30):
  aD prog ak bQ 213 #[so.v,aI k,aI n] [a7 I] (λv As=>v=.bool (bX ops k n)/\As=[a7 I]):=by
 refine aD.of λR C kd d F c cs aJ aj=>?_;refine JH ?_;refine C.dv (vi ho hk hn hl) ?_;rintro v aN ⟨s',rfl,rfl⟩;refine k6 ?_;refine C.cmp rfl (λoy=>?_) (λoy=>?_)
 ·refine bJ ?_;refine C.bk aJ aj ⟨?_,rfl⟩;unfold bX;cases hp:aV ops k n with
  |nil=>rw[hp]at oy;simp at oy
  |cons _ _=>rfl
 ·refine bJ ?_;refine C.bk aJ aj ⟨?_,rfl⟩;unfold bX;cases hp:aV ops k n with
  |nil=>rfl
  |cons _ _=>rw[hp]at oy;simp at oy
def oS(l:List vg)(k:Int):Option vg:=l.find? λv=>v.aU==k
theorem GI(u:fP)(k:Int):bK u.abs k=(oS u.aR k).map (·.toVoteR):=by unfold bK oS fP.abs;simp only;rw[List.find?_map];rfl
def NO:Option vg->Value
 |some w=>.tuple #[.agg #[aI w.aU,w.sr.v],.bool true]
 |none=>.tuple #[.agg #[aI 0,aG.v],.bool false]
theorem mQ{l:List vg}{sv:ay}{k x0:Int}{x1 x5:ay}{x3 x4:Bool}(hl:l.length<2^60):aD prog ak bQ 195 #[.agg #[aI x0,x1.v,sv.v,.bool x3,.bool x4,x5.v],aI k] [a9 pF 2 290 sv l]
  (λv As=>v=NO (oS l k)/\As=[a9 pF 2 290 sv l]):=by
 refine aD.of λR C kd d F c cs aJ aj=>?_;refine jK ?_;refine C.bx rfl (λb2=>?_);refine C.al rfl (λb4=>?_);refine dD ?_;refine C.cx (X:=Nat) (λi=>[(1,aI k),(2,.pointer (some ⟨b2,0,none⟩)),(4,.pointer (some ⟨b4,0,none⟩)),(6,aI i)]) (λ_=>bR b4 _::bR b2 _::a9 pF 2 290 sv l::F) (λi=>i<=l.length/\oS l k=oS (l.drop i) k) (λi=>l.length-i) 0 ⟨rfl,rfl,rfl,rfl,trivial⟩ ⟨az,rfl⟩ ?_;intro i e ⟨hi,hd⟩ ih;refine dH ?_;refine C.cmp rfl (λqw=>?_) (λqw=>?_)
 ·refine i6 ?_;refine C.cmp rfl (λrW=>?_) (λrW=>?_)
  ·refine dV ?_;refine C.mE rfl (λhj=>?_);refine C.pd rfl ?_ (hv:=λv hv=>fC.one l[i] v (by simpa using hv));refine bJ ?_;refine C.Xz aJ aj (rs:=[.cell 4 290,.tmp 5]) (.cell (.tmp rfl .nil)) ⟨?_,rfl⟩;rw[hd,iR az];have hb:(l[i].aU==k)=true:=by simpa using rW
   unfold oS;rw[zS,hb];rfl
  ·refine dV ?_;refine again ih (i+1) ⟨az,?_⟩ az;rw[hd,iR az];have hb:(l[i].aU==k)=false:=by simpa using rW
   unfold oS;rw[zS,hb]
 ·refine dV ?_;refine C.Xz aJ aj (rs:=[.cell 4 290,.tmp 5]) (.cell (.tmp rfl .nil)) ⟨?_,rfl⟩;rw[hd,pS az];rfl
theorem yl(V:List Int)(l:List cr)(o:cr):gS V (l++[o])=if o.w then gS V l else gS V l++[V[(o.k-97).toNat]?.getD 0]:=by unfold gS;cases h:o.w<;>simp[ml,h]
theorem vj{I:HL}{b:Nat}{s:eS}{so:ay}{ops:List cr}(ho:dS I fX 63 so ops)(hk:∀ o∈ops,97<=o.k/\o.k<=122)(hv:s.bD.length=26)(hl:ops.length<2^30):
  aD prog ak bQ 210 #[.pointer (some ⟨b,0,none⟩),so.v] [cY b s,a7 I] (λv As=>∃ s':ay,v=s'.v/\As=[a9 eE 1 3 s' (gS s.bD ops),cY b s,a7 I]):=by
 refine aD.of λR C kd d F c cs aJ aj=>?_;refine bM ?_;refine cY.opn (h:=λlg vl lk un tm wt ot=>?_);refine At.aG eE 1 3 ?_;refine i6 ?_;refine C.cx (X:=Nat×ay) (λx=>[(0,.pointer (some ⟨b,0,none⟩)),(1,so.v),(5,x.2.v),(6,aI x.1)]) (λx=>a9 eE 1 3 x.2 (gS s.bD (ops.take x.1))::y9 b s lg vl lk un tm wt ot (a7 I::F)) (λx=>x.1<=ops.length) (λx=>ops.length-x.1) (0,aG) ⟨rfl,rfl,rfl,rfl,trivial⟩ (by simp) ?_ (hI:=.refl);rintro⟨i,s1⟩ e hi ih;dsimp only at hi⊢;refine dD ?_;refine C.cmp rfl (λzG=>?_) (λzG=>?_)
 ·refine bJ ?_;have cN:i<ops.length:=by simpa using zG
  have wq:=hk _ (br cN);obtain⟨q,hq⟩:∃ q:Nat,ops[i].k-97=q:=⟨(ops[i].k-97).toNat,az⟩;have qR:q<s.bD.length:=az;have hq3:(ops[i].k-97).toNat=q:=az;refine kE ?_;refine C.xA (λUz=>?_) (λUz=>?_)
  ·refine C.go ?_;refine C.dx (cG 19 0 15++[(5,15)]) 16 [13,14,15] 1 ?_;refine gg ?_;refine Dr.p (λh=>C.ar rfl h (r:=(q:Int)) (ha:=congrArg some hq)) ?_;refine wm ?_;refine Ch.m 13 (aW λe aa hk=>?_);refine C.nj rfl (λb32=>hk _ _ .cons ?_);refine Ch.m 14 (aW λe aa hk=>?_);refine C.nM s.bD[q] rfl (λs2=>?_) (hsz:=by have:=m8 (λo:cr=> !o.w) (ops.take i);simp only[gS,cV,ik,jc,tA]at this⊢;omega);refine hk _ _ ?_;refine Ch.q 15 (λh=>C.kH rfl h) ?_;refine Qt ?_;refine again ih (i+1,s2) (by simp;omega) (by simp;omega) (hr:=?_);have e1:gS s.bD (ops.take (i+1))=gS s.bD (ops.take i)++[s.bD[q]]:=by
    have:ops[i].w=false:=by simpa using Uz
    rw[gQ cN,yl,this,hq3,e9 qR];rfl
   rw[e1];exact bZ.au
  ·refine dH ?_;refine again ih (i+1,s1) (by simp;omega) (by simp;omega) (hr:=?_);have e1:gS s.bD (ops.take (i+1))=gS s.bD (ops.take i):=by
    have:ops[i].w=true:=by simpa using Uz
    rw[gQ cN,yl,this];rfl
   rw[e1];exact bZ.au
 ·refine dH ?_;have e1:ops.take i=ops:=iq (by simp at zG;omega);simp only[e1];refine cY.cls s ?_;exact C.bk aJ aj ⟨s1,rfl,rfl⟩
theorem GJ(L:List gn)(tx:Int)(l:List cr)(o:cr):i3 L tx (l++[o])=i3 L tx l++[⟨o.k,tx⟩]:=by simp[i3]
theorem AF{I:HL}{b:Nat}{s:eS}{so:ay}{ops:List cr}{tx:Int}(ho:dS I fX 63 so ops)(hl:ops.length<2^30)(hs:s.aH.length<2^34):
  aD prog ak bQ 160 #[.pointer (some ⟨b,0,none⟩),aI tx,so.v] [cY b s,a7 I] (λv As=>As=[cY b {s with aH:=i3 s.aH tx ops},a7 I]):=by
 refine aD.of λR C kd d F c cs aJ aj=>?_;refine bM ?_;refine cY.opn (h:=λlg vl lk un tm wt ot=>?_);refine cW ?_;refine C.cx (X:=Nat×ay×List gn) (λx=>[(0,.pointer (some ⟨b,0,none⟩)),(1,aI tx),(2,so.v),(6,aI x.1)]) (λx=>y9 b {s with aH:=x.2.2} lg vl x.2.1 un tm wt ot (a7 I::F)) (λx=>x.1<=ops.length/\x.2.2=i3 s.aH tx (ops.take x.1)) (λx=>ops.length-x.1) (0,lk,s.aH) ⟨rfl,rfl,rfl,rfl,trivial⟩ ⟨by simp,by simp[i3]⟩ ?_ (hI:=.refl);rintro⟨i,s1,L1⟩ e ⟨hi,hL⟩ ih;dsimp only at hi hL⊢;refine dD ?_;refine C.cmp rfl (λzG=>?_) (λzG=>?_)
 ·refine bJ ?_;have cN:i<ops.length:=by simpa using zG
  refine C.dx (cG 13 0 16) 17 [12,13,16] 1 ?_;refine gg ?_;refine JF ?_;refine Dr.chain rfl ?_;refine Ch.m 12 (aW λe aa hk=>?_);refine C.nj rfl (λjY=>hk _ _ .cons ?_);refine Ch.m 13 (aW λe aa hk=>?_);refine C.nM (gn.mk ops[i].k tx) rfl (λs2=>?_) (hsz:=by subst hL;simp only[i3,jd,cV,ik];omega);refine hk _ _ ?_;refine Ch.m 16 (aW λe aa hk=>?_);refine C.st rfl (hk _ undef ?_);refine Qt ?_;refine again ih (i+1,s2,L1++[⟨ops[i].k,tx⟩]) ⟨by simp;omega,?_⟩ (by simp;omega);rw[gQ cN,GJ,<- hL]
 ·refine bJ ?_;have e1:ops.take i=ops:=iq (by simp at zG;omega);rw[e1]at hL;subst hL;refine cY.cls {s with aH:=i3 s.aH tx ops} ?_;exact C.cX aJ aj rfl
theorem Ev(V:List Int)(l:List cr)(o:cr):eC V (l++[o])=if o.w then(eC V l).set (o.k-97).toNat o.v else eC V l:=by simp only[eC,gm,kM,rH]
theorem ym{I:HL}{b:Nat}{s:eS}{so:ay}{ops:List cr}(ho:dS I fX 63 so ops)(hk:∀ o∈ops,97<=o.k/\o.k<=122)(hv:s.bD.length=26)(hl:ops.length<2^30):
  aD prog ak bQ 161 #[.pointer (some ⟨b,0,none⟩),so.v] [cY b s,a7 I] (λv As=>As=[cY b {s with bD:=eC s.bD ops},a7 I]):=by
 refine aD.of λR C kd d F c cs aJ aj=>?_;refine bM ?_;refine cY.opn (h:=λlg vl lk un tm wt ot=>?_);refine cW ?_;refine C.cx (X:=Nat×List Int) (λx=>[(0,.pointer (some ⟨b,0,none⟩)),(1,so.v),(4,aI x.1)]) (λx=>y9 b {s with bD:=x.2} lg vl lk un tm wt ot (a7 I::F)) (λx=>x.1<=ops.length/\x.2=eC s.bD (ops.take x.1)/\x.2.length=26) (λx=>ops.length-x.1) (0,s.bD) ⟨rfl,rfl,rfl,trivial⟩ ⟨by simp,by simp[eC],hv⟩ ?_ (hI:=.refl);rintro⟨i,V⟩ e ⟨hi,hV,hV6⟩ ih;dsimp only at hi hV hV6⊢;refine dD ?_;refine C.cmp rfl (λh8=>?_) (λh8=>?_)
 ·refine bJ ?_;have cN:i<ops.length:=by simpa using h8
  have wq:=hk _ (br cN);obtain⟨q,hq⟩:∃ q:Nat,ops[i].k-97=q:=⟨(ops[i].k-97).toNat,az⟩;have qR:q<V.length:=az;have hq3:(ops[i].k-97).toNat=q:=az;have SY:∀ V',V'=eC s.bD (ops.take i)->eC s.bD (ops.take (i+1))=if ops[i].w then V'.set q ops[i].v else V':=λV' h=>by subst h;rw[gQ cN,Ev,hq3]
  refine dV ?_;refine C.xA (λuy=>?_) (λuy=>?_)
  ·refine C.go ?_;refine C.dx (cG 16 0 16) 17 [16] 0 ?_;refine Qq ?_;refine Dr.p (λh=>C.ar rfl h (r:=(q:Int)) (ha:=congrArg some hq)) ?_;refine rR ?_;refine Dr.chain rfl ?_;refine Ch.m 16 (aW λe aa hk=>?_);refine C.zt ops[i].v rfl ?_;refine hk _ undef ?_;refine Qt ?_;refine again ih (i+1,V.set q ops[i].v) ⟨by simp;omega,by rw[SY V hV,aK uy],by simpa using hV6⟩ (by simp;omega)
  ·refine dH ?_;refine again ih (i+1,V) ⟨by simp;omega,by rw[SY V hV,uy];rfl,hV6⟩ (by simp;omega)
 ·refine bJ ?_;have e1:ops.take i=ops:=iq (by simp at h8;omega);rw[e1]at hV;subst hV;refine cY.cls {s with bD:=eC s.bD ops} ?_;exact C.cX aJ aj rfl
theorem yn(L:List gn)(tx:Int)(h:gn):iL (L++[h]) tx=if h.tx=tx then iL L tx else iL L tx++[h]:=by unfold iL;by_cases e:h.tx=tx<;>simp[ml,e]
theorem free_spec{b:Nat}{s:eS}{tx:Int}(hs:s.aH.length<2^34):
  aD prog ak bQ 162 #[.pointer (some ⟨b,0,none⟩),aI tx] [cY b s] (λv As=>As=[cY b {s with aH:=iL s.aH tx}]):=by
 refine aD.of λR C kd d F c cs aJ aj=>?_;refine bM ?_;refine cY.opn (h:=λlg vl lk un tm wt ot=>?_);refine At.aG lT 2 258 ?_;refine dV ?_;refine C.cx (X:=Nat×ay) (λx=>[(0,.pointer (some ⟨b,0,none⟩)),(1,aI tx),(4,x.2.v),(5,aI x.1)]) (λx=>a9 lT 2 258 x.2 (iL (s.aH.take x.1) tx)::y9 b s lg vl lk un tm wt ot F) (λx=>x.1<=s.aH.length) (λx=>s.aH.length-x.1) (0,aG) ⟨rfl,rfl,rfl,rfl,trivial⟩ (by simp) ?_ (hI:=.refl);rintro⟨i,s1⟩ e hi ih;dsimp only at hi⊢;refine dH ?_;refine C.ld rfl ?_ (nK:=rfl);refine fI ?_;refine C.cmp rfl (λoy=>?_) (λoy=>?_)
 ·refine bJ ?_;have cN:i<s.aH.length:=by simpa using oy
  have Sr:(iL (s.aH.take i) tx).length<=i:=by have:=m8 (λh:gn=>h.tx != tx) (s.aH.take i);simp only[iL,ik]at this⊢;omega
  refine i6 ?_;refine C.cmp rfl (λjs=>?_) (λjs=>?_)
  ·refine i6 ?_;refine C.mE rfl (λhj=>?_);refine C.nj rfl (λb33=>?_);refine C.nM (s:=s1) (l:=iL (s.aH.take i) tx) s.aH[i] rfl (λs2=>?_);refine dV ?_;refine again ih (i+1,s2) (by simp;omega) (by simp;omega) (hr:=?_);rw[gQ cN,yn,ao js];exact bZ.au
  ·refine dV ?_;refine again ih (i+1,s1) (by simp;omega) (by simp;omega) (hr:=?_);rw[gQ cN,yn,aK (CZ.1 js)];exact bZ.au
 ·refine bJ ?_;have e1:s.aH.take i=s.aH:=iq (by simp at oy;omega);rw[e1];refine dV ?_;refine cY.cls {s with aH:=iL s.aH tx} ?_ (lk:=s1);exact C.cX aJ aj rfl
theorem qx{b:Nat}{s:eS}:aD prog ak bQ 28 #[.pointer (some ⟨b,0,none⟩)] [cY b s]
  (λv As=>As=[cY b {s with bD:=gX,aH:=[],under:=[],timers:=[],waits:=[],clock:=0}]):=by
 refine aD.of λR C kd d F c cs aJ aj=>?_;refine bM ?_;refine cY.opn (h:=λlg vl lk un tm wt ot=>?_);refine dN ?_;refine C.ms (f:=eE) (a0:=(0:Int)) rfl rfl (λb3=>?_);refine At.own (l:=gX) (f:=eE) (z:=1) ⟨some ⟨b3,0,none⟩,26,26⟩ [] rfl rfl (gZ 26) .head ?_;refine jr ?_;refine jr ?_;refine cW ?_;refine At.aG lT 2 258 (At.aG pG 6 287 (X6 (At.aG rz 3 251 (At.aG bN 7 137 ?_))));refine cY.cls {s with bD:=gX,aH:=[],under:=[],timers:=[],waits:=[],clock:=0} ?_ (vl:=⟨some ⟨b3,0,none⟩,26,26⟩) (lk:=aG) (un:=aG) (tm:=aG) (wt:=aG);exact C.cX aJ aj rfl
theorem cQ{n:Int}{i:Nat}(hi:(i:Int)<n):(upto n).take (i+1)=(upto n).take i++[(i:Int)]:=by
 have hl:i<(upto n).length:=by simp[upto];omega
 rw[gQ hl]
 congr 2
 simp[upto]
theorem oA{n:Int}{i:Nat}(hi:¬ (i:Int)<n):(upto n).take i=upto n:=iq (by simp[upto];omega)
end
end Go.Sl
