/-
  Texts that the proof needs, joined: part 7.
-/
import Derived.Test.YtjomdboiibakiaaGreatDoorEnF
set_option linter.unusedSimpArgs false
set_option linter.unusedVariables false
set_option maxHeartbeats 4000000
namespace Go.Sl
open Go.Proofs.Tryz
variable{s at_ k i a o:Int}{bE j b p n z nf b3 b2 bh rd q b4 b5:Nat}{nm:ByteArray}{w:WP}{I:HL}{eb:Nat->Nat×Nat}{v u:Value}{P:bT}{t t2 tt ty:aP}{σ:Gh}{so:ay}{x:dp}{e:Nat->Value}{pos:String}{af:Array Edge}{f:bN}{kd:Kd}{g:eg->eg}{er:Option Nat}{fu:Func}{code:Code}{caps a1:Array Value}{A:List HP}{rs:eg}{cs:List Frame}{tk:Bool}
section
open Go.Proofs
variable{ao:Bool}
theorem Nr{s:String}{sig:aP}{got:Array Method}(h:(got.toList.any λm=>m.name==s&&m.sig==sig)=false):∃ b,Instr.missingMethod #[(s,sig)] got=some b:=by
 have h':(got.any λm=>m.name==s&&m.sig==sig)=false:=by rw[<- h];simp
 unfold Instr.missingMethod;simp only[sC,GW,h',NR,fq,jq,ny];cases a:s.contains (Char.ofNat 46)
 .exact⟨s,by simp only[List.partition,List.partition.loop,a];rfl⟩
 .exact⟨(s.splitOn ".").getLastD s,by simp only[List.partition,List.partition.loop,a];rfl⟩
theorem afJ{s:String}{sig:aP}{got:Array Method}(h:(got.toList.any λm=>m.name==s&&m.sig==sig)=true):Instr.missingMethod #[(s,sig)] got=none:=by
 have h':(got.any λm=>m.name==s&&m.sig==sig)=true:=by rw[<- h];simp
 unfold Instr.missingMethod;simp[h',Instr.least]
theorem kB{nm w:Value}:aI prog ao cX 58 #[az bE] [dq bE (.cells #[nm,aF at_,w] 132 (0,0))] (λv As=>v=w/\As=[dq bE (.cells #[nm,aF at_,w] 132 (0,0))]):=by refine aI.of λR C kd d F c cs a b=>?_;refine cH ?_;refine mE ?_;exact C.cG a b ⟨rfl,rfl⟩
theorem afK:gG prog (method (prog.types.size+Made.depth) 128 (az bE) "Unwrap")=some (58,az bE):=by kernel_rfl
instance:Pt prog 339 359:=⟨underlying339⟩
instance:Cz prog 359 1:=⟨_,aD type359,rfl⟩
theorem Uc(b:iX I eb){k:Nat}(hj:j<9)(h:k<9){nm:Value}:aI prog ao cX 107 #[.iface 128 (az bE),jQ<|eb j,.bool true] [dq bE (.cells #[nm,aF at_,jQ<|eb k] 132 (0,0)),bI I]
  (λv As=>v=.bool (decide (k=j))/\As=[dq bE (.cells #[nm,aF at_,jQ<|eb k] 132 (0,0)),bI I]):=by
 refine aI.of λR C kd d F c cs i l=>?_;refine cH ?_;obtain⟨q,r,e⟩:=b.e j hj;obtain⟨ck,tk,m⟩:=b.e k h;refine dY ?_;refine C.lp ?_;refine gV ?_;refine C.eqN underlying46 rfl ?_;obtain⟨n,f⟩:=Nr (s:= "Is") (sig:=242) (got:=t128.methods) (by kernel_rfl);obtain⟨o,g⟩:=Nr (s:= "Is") (sig:=242) (got:=t339.methods) (by kernel_rfl);refine fB ?_;refine C.taI underlying240 (aD type128) f ⟨_,aD type240,rfl⟩ rfl ?_;refine lu ?_;refine gV ?_;refine C.taY underlying238 (aD type128) (afJ<|by kernel_rfl) rfl ?_;refine pP ?_;refine C.mi0 afK kB ?_;rintro v aT ⟨rfl,rfl⟩;refine Ei ?_;refine C.YX underlying46 rfl ?_;refine bL ?_;refine C.ilp ?_;refine gV ?_;refine C.YW underlying46 (aD type339) rfl rfl ?_ (λH s=>(s.perm<|Fo.perm (show Fo (bI I) _ _ from Fo.au)).sR m) λH s=>(s.perm<|Fo.perm (show Fo (bI I) _ _ from Fo.au)).sR e;by_cases a:k=j
 .subst a;rw[show(decide ((eb k).1=(eb k).1/\(eb k).2=(eb k).2)==true)=true by simp];refine gV ?_;refine C.cG i l ⟨?_,rfl⟩;simp
 .rw[show(decide ((eb k).1=(eb j).1/\(eb k).2=(eb j).2)==true)=false by rw[beq_true,Rl];rintro⟨h1,p⟩;exact a<|b.inj k j h hj<|Prod.ext h1 p]
  refine fB ?_;refine C.taI underlying240 (aD type339) g ⟨_,aD type240,rfl⟩ rfl ?_;refine lu ?_;refine gV ?_;refine C.taI underlying238 (aD type339) (Nr<|by kernel_rfl).choose_spec ⟨_,aD type238,rfl⟩ rfl ?_;refine fB ?_;refine C.taI underlying239 (aD type339) (Nr<|by kernel_rfl).choose_spec ⟨_,aD type239,rfl⟩ rfl ?_;refine vH ?_;refine C.cG i l ⟨?_,rfl⟩;simp[a]
theorem Ud(a:iX I eb){k:Nat}(hj:j<9)(b:k<9){nm:Value}:aI prog ao cX 60 #[.iface 128 (az bE),jQ<|eb j] [dq bE (.cells #[nm,aF at_,jQ<|eb k] 132 (0,0)),bI I]
  (λv As=>v=.bool (decide (k=j))/\As=[dq bE (.cells #[nm,aF at_,jQ<|eb k] 132 (0,0)),bI I]):=by
 refine aI.of λR C kd d F c cs e g=>?_;refine zx6 ?_;refine C.YX underlying46 rfl ?_;refine bL ?_;refine C.YX underlying46 rfl ?_;refine fB ?_;refine C.x0 (f:=106) (v:=Ub 339) Ld rfl ?_;refine C.xi0 afH afI ?_;refine gV ?_;refine C.cE (Uc a hj b) ?_;refine pQ ?_;exact C.cG e g ⟨rfl,rfl⟩
instance:fi prog 102 f102 (λargs=>Extern.ReflectliteValue.unpack<|args.getD 0<|.tuple #[]):=⟨func102,rfl,rfl,by kernel_rfl,by kernel_rfl⟩
instance:fi prog 103 f103 ((Extern.find f103).getD λ_=>pure undef):=⟨func103,rfl,rfl,by kernel_rfl,by kernel_rfl⟩
instance:fi prog 104 f104 (Extern.ReflectliteValue.method (Extern.ReflectliteValue.valueError "reflectlite.Value.IsNil" 0) Extern.ReflectliteValue.isNil):=⟨func104,rfl,rfl,by kernel_rfl,by kernel_rfl⟩
instance:fi prog 150 f150 (Extern.ReflectliteValue.method (Extern.ReflectliteValue.valueError "reflectlite.Value.Elem" 0) Extern.ReflectliteValue.elem):=⟨func150,rfl,rfl,by kernel_rfl,by kernel_rfl⟩
instance:fi prog 151 f151 Extern.ReflectliteValue.set:=⟨func151,rfl,rfl,by kernel_rfl,by kernel_rfl⟩
instance:fi prog 265 f265 ((Extern.find f265).getD λ_=>pure undef):=⟨func265,rfl,rfl,by kernel_rfl,by kernel_rfl⟩
instance:fi prog 266 f266 ((Extern.find f266).getD λ_=>pure undef):=⟨func266,rfl,rfl,by kernel_rfl,by kernel_rfl⟩
instance:fi prog 263 f263 ((Extern.find f263).getD λ_=>pure undef):=⟨func263,rfl,rfl,by kernel_rfl,by kernel_rfl⟩
instance:fi prog 248 f248 ((Extern.find f248).getD λ_=>pure undef):=⟨func248,rfl,rfl,by kernel_rfl,by kernel_rfl⟩
abbrev Zq(t:aP)(b:Nat)(f:Int):Value:=.agg #[F7 t,.pointer<|some ⟨b,0,none⟩,.int .u64 f]
theorem abH:gG prog (Extern.ReflectliteValue.mk 130 ⟨b,0,none⟩ 0)=some (Zq 130 b 150):=by kernel_rfl
theorem abI:gG prog (Extern.ReflectliteValue.mk 128 ⟨b,0,none⟩ 0)=some (Zq 128 b 150):=by kernel_rfl
theorem Xx:gG prog (Extern.ReflectliteValue.mk 128 ⟨b,0,none⟩ 256)=some (Zq 128 b 406):=by kernel_rfl
theorem abJ:gG prog (((Extern.find f103).getD λ_=>pure undef) ([Zq 130 b 150]:List Value).toArray)=some (Ub 130):=by kernel_rfl
theorem Ue(t:aP):gG prog (method (prog.types.size+Made.depth) 231 (.agg #[F7 t]) "Kind")=some (248,F7 t):=by kernel_rfl
theorem Xy:gG prog (((Extern.find f248).getD λ_=>pure undef)<|#[F7 130]++([]:List Value).toArray)=some (.int .u8 22):=by kernel_rfl
theorem Xz:gG prog (((Extern.find f248).getD λ_=>pure undef)<|#[F7 128]++([]:List Value).toArray)=some (.int .u8 22):=by kernel_rfl
theorem abK:gG prog (method (prog.types.size+Made.depth) 231 (.agg #[F7 130]) "Elem")=some (265,.agg #[F7 130]):=by kernel_rfl
theorem abL:gG prog (((Extern.find f265).getD λ_=>pure undef)<|#[.agg #[F7 130]]++([]:List Value).toArray)=some (Ub 128):=by kernel_rfl
theorem abM:gG prog (method (prog.types.size+Made.depth) 231 (.agg #[F7 128]) "Implements")=some (266,.agg #[F7 128]):=by kernel_rfl
theorem abN:gG prog (((Extern.find f266).getD λ_=>pure undef)<|#[.agg #[F7 128]]++([Ub 46]:List Value).toArray)=some (.bool true):=by kernel_rfl
theorem afL:gG prog (method (prog.types.size+Made.depth) 231 (.agg #[F7 128]) "AssignableTo")=some (263,.agg #[F7 128]):=by kernel_rfl
theorem afM:gG prog (((Extern.find f263).getD λ_=>pure undef)<|#[.agg #[F7 128]]++([Ub 128]:List Value).toArray)=some (.bool true):=by kernel_rfl
theorem PI:gG prog (((Extern.find f106).getD λ_=>pure undef) ([.iface 128 v]:List Value).toArray)=some (Ub 128):=by kernel_rfl
open Go.Extern.ReflectliteValue
variable{B:lM}{H:Array Obj}{d:Nat}{Q:Value->Array Obj->Nat->Prop}
theorem XA{w:Value}(b:gG P (Extern.ReflectliteValue.mk t ⟨H.size,0,none⟩ 0)=some w)(q:Q w (H.push<|.cells v.cells t (0,0)) d):dQ P B (unpack<|.iface t v) H d Q:=by show dQ P B (newVar t v >>= λa=>mk t a 0) H d Q;refine ae ?_;unfold newVar newRow;refine ae ?_;show dQ P B (.new _ _) H d _;simp only[dQ];show dQ P B (pure _) _ d _;exact aA<|dK b q
theorem Lg[Ag P t false](a:gG P (parts u)=some (some (t,⟨b,0,none⟩,150)))(c:hp H b=some (.cells #[az p] t (0,0)))(hs:B.sh t 0=false)(q:Q (.bool false) H d):dQ P B (Extern.ReflectliteValue.method (valueError "reflectlite.Value.IsNil" 0) isNil #[u]) H d Q:=by unfold Extern.ReflectliteValue.method;refine ae<|dK a ?_;show dQ P B (isNil t ⟨b,0,none⟩ 150 22) H d Q;unfold isNil;simp only[List.contains_cons,List.contains_nil,Nat.reduceBEq,Bool.or_false,Bool.false_or,Bool.or_true,Bool.true_or,uX,fW,eQ];refine ae<|jB c rfl hs ?_;exact aA q
theorem PJ{w:Value}[Ag P t false](a:gG P (parts u)=some (some (t,⟨b,0,none⟩,150)))(c:gG P (Extern.Rtype.elem? t)=some (some t2))(e:gG P (Extern.ReflectliteValue.mk t2 ⟨p,0,none⟩ 256)=some w)(f:hp H b=some (.cells #[az p] t (0,0)))(hs:B.sh t 0=false)(q:Q w H d):dQ P B (Extern.ReflectliteValue.method (valueError "reflectlite.Value.Elem" 0) Extern.ReflectliteValue.elem #[u]) H d Q:=by unfold Extern.ReflectliteValue.method;refine ae<|dK a ?_;show dQ P B (Extern.ReflectliteValue.elem t ⟨b,0,none⟩ 150 22) H d Q;unfold Extern.ReflectliteValue.elem;simp only[Nat.reduceBNe,LS,yA,fW,eQ];refine ae<|jB f rfl hs ?_;refine ae<|dK c ?_;exact dK e q
theorem Uf{w x0:Value}[Ag P t false][Cz P t 1](hu:gG P (parts u)=some (some (t,⟨p,0,none⟩,406)))(e:gG P (parts w)=some (some (t,⟨b,0,none⟩,150)))(f:gG P (Extern.Rtype.directlyAssignable t t)=some true)(h1:hp H b=some (.cells #[v] t (0,0)))(g:hp H p=some (.cells #[x0] t (0,0)))
  (hv:v.cells=#[v]) (a:gJ v=true) (hs:B.sh t 0=false) (hr:B.rd p t 0=false) (q:Q (.tuple #[]) (H.setIfInBounds p<|.cells #[v] t (0,0)) d):dQ P B (Extern.ReflectliteValue.set #[u,w]) H d Q:=by
 unfold Extern.ReflectliteValue.set;refine ae<|dK hu ?_;refine ae<|dK e ?_;show dQ P B _ H d Q;simp only[show((406/flagAddr%2==0):Bool)=false from rfl,fW,eQ];refine ae<|jB (v:=v) h1 rfl hs ?_;refine ae<|dK f ?_;simp only[fq];refine ae<|qT (z:=1) g (by rw[hv];rfl) (by simp) (by rw[hv];intro x c;simp at c;subst c;exact a) (λj h i=>?_) ?_
 .obtain rfl:j=0:=ai;exact⟨hr,hs⟩
 .rw[hv];exact aA q
theorem Zr:gG prog (parts<|Zq 130 b 150)=some (some (130,⟨b,0,none⟩,150)):=by kernel_rfl
theorem afN:gG prog (parts<|Zq 128 b 150)=some (some (128,⟨b,0,none⟩,150)):=by kernel_rfl
theorem abO:gG prog (parts<|Zq 128 b 406)=some (some (128,⟨b,0,none⟩,406)):=by kernel_rfl
theorem abP:gG prog (Extern.Rtype.elem? 130)=some (some 128):=by kernel_rfl
theorem abQ:gG prog (Extern.Rtype.directlyAssignable 128 128)=some true:=by kernel_rfl
variable{P:bT}{R:Nat->aO->Array Obj->Prop}{As aT:List HP}
variable{fn:bN}{kd:Kd}{n:Nat}{e:Nat->Value}{ds:List eK}{k:List Item}{cs:List Frame}
variable{O:Array Oper}{i:Nat}{aa:List Nat}{dst:Option Nat}{ty:aP}{pos:String}{af:Array Edge}{gd:Option (Nat×Bool)}
variable{f:bN}{fu:Func}{fo:dp}{args:Array dp}{gY:Array aP}{t t2:aP}{b p:Nat}{u w v x0:Value}
theorem ab.afO(C:ab P ao B R)[x:fi P f fu (λargs=>unpack<|args.getD 0<|.tuple #[])]{w:Nat->Value}{c:Array Value}(hc:v.cells=c)(a:∀ b,gG P (Extern.ReflectliteValue.mk t ⟨b,0,none⟩ 0)=some (w b))(g:bk O i=some ⟨dst,.call ⟨.value fo,args,gY⟩,ty,pos,af,gd⟩)(h:∀ b,At R d (dq b (.cells c t (0,0))::As)<|gr fn kd n (dD e dst<|w b) ds (.inRegion O aa::k) cs)
  (hf:ev n e fo=.func (.func f) #[] #[]:=by rfl) (hv:args.toList.map (ev n e)=[.iface t v]:=by rfl) (j:aN O n e gd=true:=by rfl):At R d As (gr fn kd n e ds (.inRegion O (i::aa)::k) cs):=
 C.xt (f:=f) (vl:=[.iface t v]) (λH s=>XA (a H.size) ⟨_,s.push _,hc▸h _⟩) g j hf hv
theorem ab.ajr(C:ab P ao B R)[x:fi P f fu (Extern.ReflectliteValue.method (valueError "reflectlite.Value.IsNil" 0) isNil)][Ag P t false](a:gG P (parts u)=some (some (t,⟨b,0,none⟩,150)))(c:bk O i=some ⟨dst,.call ⟨.value fo,args,gY⟩,ty,pos,af,gd⟩)(h:At R d As (gr fn kd n (dD e dst<|.bool false) ds (.inRegion O aa::k) cs))
  (hh:Kn As b (.cells #[az p] t (0,0)):=by apply Has.kn;(repeat(first|with_reducible exact Has.head|with_reducible apply Has.tail));done) (hs:B.sh t 0=false:=by rfl) (hf:ev n e fo=.func (.func f) #[] #[]:=by rfl) (hv:args.toList.map (ev n e)=[u]:=by rfl) (g:aN O n e gd=true:=by rfl):At R d As (gr fn kd n e ds (.inRegion O (i::aa)::k) cs):=
 C.xt (f:=f) (vl:=[u]) (λH s=>Lg a (hh _ s) hs ⟨_,s,h⟩) c g hf hv
theorem ab.ajs(C:ab P ao B R)[x:fi P f fu (Extern.ReflectliteValue.method (valueError "reflectlite.Value.Elem" 0) Extern.ReflectliteValue.elem)][Ag P t false](a:gG P (parts u)=some (some (t,⟨b,0,none⟩,150)))(c:gG P (Extern.Rtype.elem? t)=some (some t2))(g:gG P (Extern.ReflectliteValue.mk t2 ⟨p,0,none⟩ 256)=some w)(j:bk O i=some ⟨dst,.call ⟨.value fo,args,gY⟩,ty,pos,af,gd⟩)(h:At R d As (gr fn kd n (dD e dst w) ds (.inRegion O aa::k) cs))
  (hh:Kn As b (.cells #[az p] t (0,0)):=by apply Has.kn;(repeat(first|with_reducible exact Has.head|with_reducible apply Has.tail));done) (hs:B.sh t 0=false:=by rfl) (hf:ev n e fo=.func (.func f) #[] #[]:=by rfl) (hv:args.toList.map (ev n e)=[u]:=by rfl) (l:aN O n e gd=true:=by rfl):At R d As (gr fn kd n e ds (.inRegion O (i::aa)::k) cs):=
 C.xt (f:=f) (vl:=[u]) (λH s=>PJ a c g (hh _ s) hs ⟨_,s,h⟩) j l hf hv
theorem ab.ajt(C:ab P ao B R)[x:fi P f fu Extern.ReflectliteValue.set][Ag P t false][Cz P t 1](hu:gG P (parts u)=some (some (t,⟨p,0,none⟩,406)))(j:gG P (parts w)=some (some (t,⟨b,0,none⟩,150)))(l:gG P (Extern.Rtype.directlyAssignable t t)=some true)(m:bk O i=some ⟨dst,.call ⟨.value fo,args,gY⟩,ty,pos,af,gd⟩)(h:At R d aT (gr fn kd n (dD e dst<|.tuple #[]) ds (.inRegion O aa::k) cs))
  (hh:Kn As b (.cells #[v] t (0,0)):=by apply Has.kn;(repeat(first|with_reducible exact Has.head|with_reducible apply Has.tail));done) (g:sT p (.cells #[x0] t (0,0)) (.cells #[v] t (0,0)) As aT:=by repeat(first|with_reducible exact sT.head|with_reducible apply sT.tail)) (a:v.cells=#[v]:=by rfl) (c:gJ v=true:=by rfl)
  (hs:B.sh t 0=false:=by rfl) (hr:B.rd p t 0=false:=by rfl) (hf:ev n e fo=.func (.func f) #[] #[]:=by rfl) (hv:args.toList.map (ev n e)=[u,w]:=by rfl) (o:aN O n e gd=true:=by rfl):At R d As (gr fn kd n e ds (.inRegion O (i::aa)::k) cs):=
 C.xt (f:=f) (vl:=[u,w]) (λH s=>Uf hu j l (hh _ s) (g.has.get s) a c hs hr ⟨_,g.set s,h⟩) m o hf hv
theorem Ug{b7 bV:Nat}{a:Value}:aI prog ao cX 105 #[.iface 128 (az bE),a,Zq 130 bV 150,Ub 128] [dq bV (.cells #[az b7] 130 (0,0)),dq b7<|.cells #[.pointer none] 128 (0,0)]
  (λv As=>v=.bool true/\As=[dq b7 (.cells #[az bE] 128 (0,0))]):=by
 refine aI.of λR C kd d F c cs e g=>?_;refine pQ ?_;refine C.bx rfl λi=>?_;refine bL ?_;refine C.lp ?_;refine dT ?_;refine C.x0 (f:=106) (v:=Ub 128) PI rfl ?_;refine ga ?_;refine C.xi0 afL afM ?_;refine dY ?_;refine C.ajs (f:=150) Zr abP (Xx (b:=b7)) rfl ?_;refine ga ?_;refine C.afO (f:=102) (t:=128) (c:=#[az bE]) rfl (λb=>abI (b:=b)) rfl (λh=>?_) (v:=az bE);refine C.ajt (f:=151) (abO (b:=b7)) (afN (b:=h)) abQ rfl ?_ (v:=az bE);refine dY ?_;exact C.cG e g ⟨rfl,rfl⟩
open Go.Conc
def Uh:ByteArray:=⟨#[83,117,98,109,105,116]⟩
theorem F8{c:CV}{O:List bO}{J:HL}(p:iX I eb)(s:1<=c.ah.length/\c.ah.length<=4)(w:c.aH.length<2^20)(x:c.aC.length<=60)(y:gg J db 67 so O)(z:O.length<2^43):
  bB prog bM 29 #[az c.G.b,so.v] σ [dm c,bI I,bI J] (λv σ' As=>∃ er t a d I' L u,σ'=σ/\v=.tuple #[aF t,u]/\T9 eb (.string Uh) 0 er u L/\As=dm {c with aH:=a,aC:=d}::bI I'::bI J::L/\
   ((c.aj=true/\er=some 8/\t=0/\a=c.aH/\d=c.aC/\I'=I)\/(c.aj=false/\K9 eb I c.ah.length O c.aH c.aC er t I' a d))):=by
 refine bB.of ?_;intro Post os out kd F c' cs C g i;refine pQ ?_;refine C.bx rfl λbc=>?_;refine C.bx rfl λbo=>?_;refine dY ?_;refine C.al rfl λbt=>?_;refine dY ?_;refine C.mf rfl ?_;have A:c.aj=false->bB prog bM 53 (#[]++([]:List Value).toArray++#[az bo,az bc,az bt]) σ (tQ 1 c::bI I::[bI J,dq bo<|.cells #[so.v] 36 (0,0),dq bc<|.cells #[az c.G.b] 23 (0,0),dq bt<|.cells #[aF 0] 3 (0,0)])
   (λv σ' As=>∃ er c' I' q,v=Xu eb er/\(∀ k,er=some k->k<9)/\As=tQ 1 c'::bI I'::q/\c'.G.b=c.G.b/\(∃ t a d,σ'=σ/\c'={c with aH:=a,aC:=d}/\q=[bI J,dq bt<|.cells #[aF t] 3 (0,0)]/\K9 eb I c.ah.length O c.aH c.aC er t I' a d)):=by
  intro e Post os out kd F fr cs g i;obtain⟨G,ah,aH,aC,aj⟩:=c;obtain rfl:aj=false:=e;refine cH ?_;refine dm.opn (m:=1) (h:=λhs bg tx=>?_);have B:=PC (σ:=σ) (b:=G.b) (bo:=bo) (bc:=bc) (bt:=bt) (so:=so) (hs:=hs) (bg:=bg) (zE:=tx) (dn:=.chan<|some G.dn) (st:=CV.st ⟨G,ah,aH,aC,false⟩) (hl:=ah.map (·.h.bh)) (aH:=aH) (aC:=aC) p (by simpa using s) w x y z;refine At.perm (fK.perm fK.au)<|aI.g B Post os out kd _ fr cs g ?_;rintro v σ' aT ⟨rfl,E,D,er,t,I',a,d,rfl,j,rfl⟩;refine cH ?_;refine dm.cls (m:=1) ⟨G,ah,a,d,false⟩ ?_;refine At.mN ?_<|i _ _ _ ⟨er,⟨G,ah,a,d,false⟩,I',_,rfl,?_,rfl,rfl,t,a,d,rfl,rfl,rfl,by simpa using j⟩
  .exact dg.au
  .intro k f;obtain⟨_,h|h|h⟩:=j
   .have:=h.2.1;rw[this]at f;cases f;decide
   .have:=h.2.2.1;rw[this]at f;cases f;decide
   .have:=h.2.2.1;rw[this]at f;cases f
 refine aG.lj (EK (nm:=Uh) (at_:=0) p A) ?_;rintro v σ' aT ⟨er,r,l,H,L,n,rfl,o⟩;have C:ab prog true (bM.bw σ') (aG prog Post bM σ' 0 os out):=aG.eL;refine cH ?_;refine dT ?_;rcases o with⟨e,rfl,rfl,rfl,rfl,rfl⟩|⟨e,t,a,d,rfl,rfl,rfl,j⟩
 .obtain⟨bE,rfl,rfl⟩:=n;simp only[rT,fJ,ek];refine fB ?_;exact aG.fe g i ⟨some 8,0,r.aH,r.aC,l,[dq bE (.cells #[.string Uh,aF 0,jQ<|eb 8] 132 (0,0))],.iface 128<|az bE,rfl,rfl,⟨bE,rfl,rfl⟩,rfl,.inl ⟨e,rfl,rfl,rfl,rfl,rfl⟩⟩
 .cases er with
  |none=>
   obtain⟨rfl,rfl⟩:=n;simp only[rT,fJ,ek];refine fB ?_;exact aG.fe g i ⟨none,t,a,d,l,[],.nilIface,rfl,rfl,⟨rfl,rfl⟩,rfl,.inr ⟨e,j⟩⟩
  |some k=>
   obtain⟨bE,rfl,rfl⟩:=n;simp only[rT,fJ,ek];refine fB ?_;exact aG.fe g i ⟨some k,t,a,d,l,[dq bE (.cells #[.string Uh,aF 0,jQ<|eb k] 132 (0,0))],.iface 128<|az bE,rfl,rfl,⟨bE,rfl,rfl⟩,rfl,.inr ⟨e,j⟩⟩
theorem Ui(g:iX I eb){b7:Nat}:aI prog true (bM.bw σ) 57 #[.iface 128 (az bE),.iface 130<|az b7] [dq b7 (.cells #[.pointer none] 128 (0,0)),bI I]
  (λv As=>v=.bool true/\As=[dq b7 (.cells #[az bE] 128 (0,0)),bI I]):=by
 refine aI.of λR C kd d F c cs h i=>?_;refine cH ?_;obtain⟨j,a⟩:=g.ty;rw[abF]at a;refine gV ?_;refine C.YX underlying46 rfl ?_;refine dY ?_;refine C.YX underlying20 rfl ?_;refine dY ?_;refine C.afO (f:=102) (t:=130) (c:=#[az b7]) rfl (λb=>abH (b:=b)) rfl (λe=>?_) (v:=az b7);refine C.al rfl λb5=>?_;refine dY ?_;refine C.x0 (f:=103) (v:=Ub 130) abJ rfl ?_;refine dY ?_;refine C.xi0 (Ue _) Xy ?_;refine C.v0 rfl ?_ rfl;refine bL ?_;refine C.ajr (f:=104) (Zr (b:=e)) rfl ?_;refine fB ?_;refine C.xi0 abK abL ?_;refine dY ?_;refine C.xi0 (Ue _) Xz ?_;refine C.v0 rfl ?_ rfl;refine bL ?_;refine C.xX (v:=Ub 46) Fo.au a (jm _ _) rfl ?_;refine C.xi0 abM abN ?_;refine pP ?_;refine C.cE (aI.less (dW σ)<|Ug (bE:=bE) (b7:=b7) (bV:=e)) ?_;refine pQ ?_;exact C.cG h i ⟨rfl,rfl⟩
def IV(eb:Nat->Nat×Nat)(k:Nat):List Value:=[jQ (eb k)]
instance(eb:Nat->Nat×Nat):jf (IV eb) 1:=⟨λ_=>rfl,λa v h=>by simp[IV]at h;subst h;rfl⟩
theorem Uj(a:iX I eb):aI prog true (bM.bw σ) 59 #[] [bI I] (λv As=>∃ s:ay,v=s.v/\As=[bK (IV eb) 1 46 s [0,1,2,3,4,5,6,7,8],bI I]):=by refine aI.of λR C kd d F c cs e f=>?_;refine cH ?_;obtain⟨t0,g⟩:=a.g 0 (by decide);obtain⟨t1,h1⟩:=a.g 1 (by decide);obtain⟨t2,i⟩:=a.g 2 (by decide);obtain⟨t3,j⟩:=a.g 3 (by decide);obtain⟨p,k⟩:=a.g 4 (by decide);obtain⟨q,l⟩:=a.g 5 (by decide);obtain⟨r,m⟩:=a.g 6 (by decide);obtain⟨t,n⟩:=a.g 7 (by decide);obtain⟨u,o⟩:=a.g 8 (by decide);refine fB ?_;refine C.xX (v:=jQ<|eb 0) Fo.au g (jm _ _) rfl ?_;refine C.xX (v:=jQ<|eb 1) Fo.au h1 (jm _ _) rfl ?_;refine C.xX (v:=jQ<|eb 2) Fo.au i (jm _ _) rfl ?_;refine C.xX (v:=jQ<|eb 3) Fo.au j (jm _ _) rfl ?_;refine C.xX (v:=jQ<|eb 4) Fo.au k (jm _ _) rfl ?_;refine C.xX (v:=jQ<|eb 5) Fo.au l (jm _ _) rfl ?_;refine C.xX (v:=jQ<|eb 6) Fo.au m (jm _ _) rfl ?_;refine C.xX (v:=jQ<|eb 7) Fo.au n (jm _ _) rfl ?_;refine C.xX (v:=jQ<|eb 8) Fo.au o (jm _ _) rfl ?_;refine C.bs (vs:=[jQ (eb 0),jQ<|eb 1,jQ<|eb 2,jQ<|eb 3,jQ<|eb 4,jQ<|eb 5,jQ<|eb 6,jQ<|eb 7,jQ<|eb 8]) rfl λb=>?_;refine bL ?_;refine At.turn (A':=bK (IV eb) 1 46 ⟨some ⟨b,0,none⟩,9,9⟩ [0,1,2,3,4,5,6,7,8]) .head (λh x=>.inr ⟨b,[],rfl,rfl,fC 9,x⟩) ?_;exact C.cG e f ⟨⟨some ⟨b,0,none⟩,9,9⟩,rfl,rfl⟩
theorem XB{P:bT}{n:Nat}{e:Nat->Value}{t:Nat}{ty t2:aP}{pos:String}{af:Array Edge}{gd:Option (Nat×Bool)}{y:dp}(hx:ev n e x=.string nm)(b:ev n e y=.string nm):gG P (execOp (ev n e) ⟨some t,.binOp .neq tt x y t2,ty,pos,af,gd⟩)=some (.value<|.bool false):=by unfold execOp;simp only[hx,b];refine bH (a:=.bool false) ?_ rfl;refine bH (a:=()) (by unfold eqGuard;rfl) ?_;show gG P (Op.stringOp .neq nm nm)=_;unfold Op.stringOp;simp;rfl
theorem iD(n:iX I eb){k:Nat}(a:k<9):aI prog true (bM.bw σ) 30 #[.iface 128 (az bE),.string nm,aF at_] [dq bE (.cells #[.string nm,aF at_,jQ<|eb k] 132 (0,0)),bI I] (λv As=>v=aF (k+1)/\As=[bI I]):=by
 refine aI.of λR C kd d F c cs p q=>?_;refine cH ?_;obtain⟨ck,tk,b⟩:=n.e k a;refine gV ?_;refine C.YX underlying46 rfl ?_;refine dT ?_;refine C.al rfl λt=>?_;refine C.go ?_;apply aiu True [(0,.iface 128<|az bE),(46,.bool false)]<|dq bE (.cells #[.string nm,aF at_,jQ<|eb k] 132 (0,0))::bI I::F
 .intro m;refine C.dx (di 12 0 35) 35 [2,3,4,5,6,7,8,9,10,11,12,13,14,15,16,17,18,19,20,21,22,23,24,25,26,27,28,29,30,31,32,33,34] 0 ?_;refine lN ?_;refine Dr.p (λh=>C.mi rfl h) ?_;refine Dr.chain rfl ?_;refine Ch.nk [2]<|gC ?_;refine bj λe aa a=>?_;refine C.cE (Ui n (bE:=bE) (b7:=t)) ?_;refine a _ _ ?_
  (try simp only[fJ,ek])
  refine Ch.q 3 (λh=>C.nt rfl h) ?_;refine Ch.q 4 (λh=>C.mv rfl h) ?_;refine Ch.q 5 (λh=>C.mv rfl h) ?_;refine Ch.nk [6]<|gC ?_;refine bj λe aa a=>?_;refine C.ld rfl<|a _ _ ?_;refine Ch.q 7 (λh=>C.mi rfl h) ?_;refine Ch.nk [8]<|gC ?_;refine bj λe aa a=>?_;refine C.YW (r:=false) (b1:=bE) (o1:=0) (b2:=bE) (o2:=0) underlying46 (aD type128) rfl rfl ?_ (λH s=>Has.get Has.au s) λH s=>Has.get Has.au s;rw[show(decide (bE=bE/\0=0)==false)=false by simp];refine a _ _ ?_;refine Ch.q 9 (λh=>C.pk rfl h) ?_;refine Ch.q 10 (λh=>C.mv rfl h) ?_;refine Ch.q 15 (λh=>C.mv rfl h) ?_;refine Ch.nk [11]<|gC ?_;refine bj λe aa a=>?_;refine C.ld rfl<|a _ _ ?_;refine Ch.q 12 (λh=>C.nc rfl h) ?_;refine Ch.q 13 (λh=>C.fa rfl h) ?_;refine Ch.nk [14]<|gC ?_;refine bj λe aa a=>?_;refine C.ld rfl<|a _ _ ?_;refine Ch.q 16 (λh=>C.v0 (v:=.bool false) rfl h<|XB rfl rfl) ?_;refine Ch.q 17 (λh=>C.pk rfl h) ?_;refine Ch.q 18 (λh=>C.mv rfl h) ?_;refine Ch.q 23 (λh=>C.mv rfl h) ?_;refine Ch.nk [19]<|gC ?_;refine bj λe aa a=>?_;refine C.ld rfl<|a _ _ ?_;refine Ch.q 20 (λh=>C.nc rfl h) ?_;refine Ch.q 21 (λh=>C.fa rfl h) ?_;refine Ch.nk [22]<|gC ?_;refine bj λe aa a=>?_;refine C.ld rfl<|a _ _ ?_;refine Ch.q 24 (λh=>C.ed rfl h) ?_;refine Ch.q 25 (λh=>C.pk rfl h) ?_;refine Ch.q 26 (λh=>C.mv rfl h) ?_;refine Ch.nk [27,29]<|A9 ?_ ?_
  .refine bj λe aa a=>?_;refine C.ld rfl<|a _ _ ?_;refine Ch.nk [28,29]<|A9 ?_ ?_
   .refine bj λe aa a=>?_;refine C.cE (aI.less (dW σ) kB) ?_;refine a _ _ ?_
    (try simp only[fJ,ek])
    refine Ch.nk [29]<|gC ?_;refine bj λe aa a=>?_;refine C.ld rfl<|a _ _ ?_;refine Ch.q 30 (λh=>C.nc rfl h) ?_;refine Ch.q 31 (λh=>C.fa rfl h) ?_;refine Ch.nk [32]<|gC ?_;refine bj λe aa a=>?_;refine C.ld rfl<|a _ _ ?_;refine Ch.nk [33]<|gC ?_;refine bj λe aa a=>?_;refine C.YW (r:=false) (b1:=(eb k).1) (o1:=(eb k).2) (b2:=(eb k).1) (o2:=(eb k).2) underlying46 (aD type339) rfl rfl ?_ (λH s=>(s.perm<|Fo.perm (show Fo (bI I) _ _ from Fo.au)).sR b) λH s=>(s.perm<|Fo.perm (show Fo (bI I) _ _ from Fo.au)).sR b;rw[show(decide ((eb k).1=(eb k).1/\(eb k).2=(eb k).2)==false)=false by simp];refine a _ _ ?_;refine Ch.q 34 (λh=>C.pk rfl h) ?_;refine gy ?_;exact join m trivial
   .refine bj λe aa a=>?_;refine C.ld rfl<|a _ _ ?_;refine Ch.q 30 (λh=>C.nc rfl h) ?_;refine Ch.q 31 (λh=>C.fa rfl h) ?_;refine Ch.nk [28,32]<|A9 ?_ ?_
    .refine bj λe aa a=>?_;refine C.cE (aI.less (dW σ) kB) ?_;refine a _ _ ?_
     (try simp only[fJ,ek])
     refine Ch.nk [32]<|gC ?_;refine bj λe aa a=>?_;refine C.ld rfl<|a _ _ ?_;refine Ch.nk [33]<|gC ?_;refine bj λe aa a=>?_;refine C.YW (r:=false) (b1:=(eb k).1) (o1:=(eb k).2) (b2:=(eb k).1) (o2:=(eb k).2) underlying46 (aD type339) rfl rfl ?_ (λH s=>(s.perm<|Fo.perm (show Fo (bI I) _ _ from Fo.au)).sR b) λH s=>(s.perm<|Fo.perm (show Fo (bI I) _ _ from Fo.au)).sR b;rw[show(decide ((eb k).1=(eb k).1/\(eb k).2=(eb k).2)==false)=false by simp];refine a _ _ ?_;refine Ch.q 34 (λh=>C.pk rfl h) ?_;refine gy ?_;exact join m trivial
    .refine bj λe aa a=>?_;refine C.ld rfl<|a _ _ ?_;refine Ch.nk [28]<|gC ?_;refine bj λe aa a=>?_;refine C.cE (aI.less (dW σ) kB) ?_;refine a _ _ ?_
     (try simp only[fJ,ek])
     refine Ch.nk [33]<|gC ?_;refine bj λe aa a=>?_;refine C.YW (r:=false) (b1:=(eb k).1) (o1:=(eb k).2) (b2:=(eb k).1) (o2:=(eb k).2) underlying46 (aD type339) rfl rfl ?_ (λH s=>(s.perm<|Fo.perm (show Fo (bI I) _ _ from Fo.au)).sR b) λH s=>(s.perm<|Fo.perm (show Fo (bI I) _ _ from Fo.au)).sR b;rw[show(decide ((eb k).1=(eb k).1/\(eb k).2=(eb k).2)==false)=false by simp];refine a _ _ ?_;refine Ch.q 34 (λh=>C.pk rfl h) ?_;refine gy ?_;exact join m trivial
  .refine bj λe aa a=>?_;refine C.ld rfl<|a _ _ ?_;refine Ch.q 30 (λh=>C.nc rfl h) ?_;refine Ch.q 31 (λh=>C.fa rfl h) ?_;refine Ch.nk [27,32]<|A9 ?_ ?_
   .refine bj λe aa a=>?_;refine C.ld rfl<|a _ _ ?_;refine Ch.nk [28,32]<|A9 ?_ ?_
    .refine bj λe aa a=>?_;refine C.cE (aI.less (dW σ) kB) ?_;refine a _ _ ?_
     (try simp only[fJ,ek])
     refine Ch.nk [32]<|gC ?_;refine bj λe aa a=>?_;refine C.ld rfl<|a _ _ ?_;refine Ch.nk [33]<|gC ?_;refine bj λe aa a=>?_;refine C.YW (r:=false) (b1:=(eb k).1) (o1:=(eb k).2) (b2:=(eb k).1) (o2:=(eb k).2) underlying46 (aD type339) rfl rfl ?_ (λH s=>(s.perm<|Fo.perm (show Fo (bI I) _ _ from Fo.au)).sR b) λH s=>(s.perm<|Fo.perm (show Fo (bI I) _ _ from Fo.au)).sR b;rw[show(decide ((eb k).1=(eb k).1/\(eb k).2=(eb k).2)==false)=false by simp];refine a _ _ ?_;refine Ch.q 34 (λh=>C.pk rfl h) ?_;refine gy ?_;exact join m trivial
    .refine bj λe aa a=>?_;refine C.ld rfl<|a _ _ ?_;refine Ch.nk [28]<|gC ?_;refine bj λe aa a=>?_;refine C.cE (aI.less (dW σ) kB) ?_;refine a _ _ ?_
     (try simp only[fJ,ek])
     refine Ch.nk [33]<|gC ?_;refine bj λe aa a=>?_;refine C.YW (r:=false) (b1:=(eb k).1) (o1:=(eb k).2) (b2:=(eb k).1) (o2:=(eb k).2) underlying46 (aD type339) rfl rfl ?_ (λH s=>(s.perm<|Fo.perm (show Fo (bI I) _ _ from Fo.au)).sR b) λH s=>(s.perm<|Fo.perm (show Fo (bI I) _ _ from Fo.au)).sR b;rw[show(decide ((eb k).1=(eb k).1/\(eb k).2=(eb k).2)==false)=false by simp];refine a _ _ ?_;refine Ch.q 34 (λh=>C.pk rfl h) ?_;refine gy ?_;exact join m trivial
   .refine bj λe aa a=>?_;refine C.ld rfl<|a _ _ ?_;refine Ch.nk [27]<|gC ?_;refine bj λe aa a=>?_;refine C.ld rfl<|a _ _ ?_;refine Ch.nk [28]<|gC ?_;refine bj λe aa a=>?_;refine C.cE (aI.less (dW σ) kB) ?_;refine a _ _ ?_
    (try simp only[fJ,ek])
    refine Ch.nk [33]<|gC ?_;refine bj λe aa a=>?_;refine C.YW (r:=false) (b1:=(eb k).1) (o1:=(eb k).2) (b2:=(eb k).1) (o2:=(eb k).2) underlying46 (aD type339) rfl rfl ?_ (λH s=>(s.perm<|Fo.perm (show Fo (bI I) _ _ from Fo.au)).sR b) λH s=>(s.perm<|Fo.perm (show Fo (bI I) _ _ from Fo.au)).sR b;rw[show(decide ((eb k).1=(eb k).1/\(eb k).2=(eb k).2)==false)=false by simp];refine a _ _ ?_;refine Ch.q 34 (λh=>C.pk rfl h) ?_;refine gy ?_;exact join m trivial
 .intro _ e;refine bL ?_;refine C.fZ (Uj n) ?_;rintro v aT ⟨s,rfl,rfl⟩;refine cH ?_;refine C.qK (f:=IV eb) (s:=s) (l:=[0,1,2,3,4,5,6,7,8]) rfl ?_;refine bL ?_;refine C.cN (X:=Nat) (λi=>[(0,.iface 128<|az bE),(47,s.v),(48,aF 9),(49,aF i)]) (λ_=>bK (IV eb) 1 46 s [0,1,2,3,4,5,6,7,8]::dq bE (.cells #[.string nm,aF at_,jQ<|eb k] 132 (0,0))::bI I::F) (λi=>i<=k) (λi=>9-i) 0 ⟨rfl,rfl,rfl,rfl,trivial⟩ (fp _) ?_;intro i e hi u;have g:i<9:=ai;have hl:∀ (h:i<([0,1,2,3,4,5,6,7,8]:List Nat).length),([0,1,2,3,4,5,6,7,8]:List Nat)[i]=i:=by have w:i=0\/i=1\/i=2\/i=3\/i=4\/i=5\/i=6\/i=7\/i=8:=ai;intro h;rcases w with rfl|rfl|rfl|rfl|rfl|rfl|rfl|rfl|rfl<;>rfl
  refine bL ?_;refine C.fQ rfl ?_;refine dY ?_;refine C.dZ (f:=IV eb) (s:=s) (l:=[0,1,2,3,4,5,6,7,8]) (j:=i) rfl ?_ (hj:=g);refine C.du (f:=IV eb) (s:=s) (l:=[0,1,2,3,4,5,6,7,8]) (j:=i) (v:=jQ<|eb i) rfl ?_ (hj:=g) (hv:=by rw[hl];rfl);refine gV ?_;refine C.cE (aI.less (dW σ)<|Ud n (bE:=bE) (j:=i) (k:=k) g a) ?_;refine cH ?_;by_cases o:k=i
  .subst o;rw[show decide (k=k)=true by simp];refine iE ?_;exact C.cG p q ⟨rfl,rfl⟩
  .rw[show decide (k=i)=false by simp[o]];refine gV ?_;exact again u (i+1) ai ai
end
section
open Go.Proofs Go.Conc
theorem XC{dst:Option Nat}{gY:Array aP}{gd:Option (Nat×Bool)}{fo:dp}{a2:Array Value}(hf:ev n e fo=.func (.func f) #[] a2):gG P (execOp (ev n e) ⟨dst,.go ⟨.value fo,#[],gY⟩,ty,pos,af,gd⟩)=some (.spawn ⟨.fn (.func f) a2,#[]⟩):=by unfold execOp;simp only;refine bH (a:=⟨.fn (.func f) a2,#[]⟩) ?_ rfl;unfold resolve;simp only[hf,Deferred.ofValue];simp;rfl
theorem n6{h:HG}{C:CG}{c:Nat}:(ff h C).has c↔c=h.wk\/c=C.dn:=by
 unfold dP.has ff;constructor
 .rintro⟨k,z,e⟩;rcases k with _|_|k
  .left;simp[rcase]at e;exact e.1.symm
  .right;simp[rcase]at e;exact e.1.symm
  .simp at e
 .rintro(rfl|rfl)
  .exact⟨0,_,rfl⟩
  .exact⟨1,_,rfl⟩
theorem IW{h:HG}{C:CG}(d:h.wk≠C.dn):(ff h C).Wf:=by
 refine⟨λcc a=>?_,λk m c z z' h1 b=>?_⟩
 .simp[ff]at a;rcases a with rfl|rfl<;>exact⟨_,_,rfl⟩
 .simp only[ff]at h1 b;rcases k with _|_|k<;>rcases m with _|_|m<;>simp[rcase]at h1 b<;>first|rfl|(exfalso;omega)
theorem tS{h:HG}{C:CG}{H:Array Obj}{kw kd i:Nat}{g j:Array Value}(hi:i≠0)(h1:hp H C.cb=some (.cells #[az C.b] 23 (0,0)))(k:hp H h.hb=some (.cells #[az h.bh] 114 (0,0)))
  (l:hp H C.b=some (.cells g 92 (0,0))) (e:g[5]? =some (.chan<|some C.dn)) (m:hp H h.bh=some (.cells j 120 (0,0))) (f:j[1]? =some (.chan<|some h.wk)) (n:hp H h.wk=some (.chan 0 #[] false kw kw false)) (q:hp H C.dn=some (.chan 0 #[] false kd kd false)):
  A4 (bM.rd i) (ff h C) H/\∀ p∈(ff h C).mem,∀ c ty,H[p.1.block]? =some (.cells c ty (0,0))->bM.sh ty p.1.off=false:=by
 have d:∀ b t o,bM.rd i b t o=abz t o:=λb t o=>by unfold vC.rd;rw[ax hi];rfl
 have key:∀ p∈(ff h C).mem,p.1.spot=none/\∃ c ty,H[p.1.block]? =some (.cells c ty (0,0))/\c[p.1.off]? =some p.2/\bM.rd i p.1.block ty p.1.off=true/\shG ty p.1.off=false:=by
  intro p hp;simp only[ff,gU,nY,gR]at hp;rcases hp with rfl|rfl|rfl|rfl
  .exact⟨rfl,_,_,h1,rfl,by rw[d];rfl,rfl⟩
  .exact⟨rfl,_,_,k,rfl,by rw[d];rfl,rfl⟩
  .exact⟨rfl,_,_,l,e,by rw[d];rfl,rfl⟩
  .exact⟨rfl,_,_,m,f,by rw[d];rfl,rfl⟩
 refine⟨⟨λc r=>?_,λp hp=>?_⟩,λp hp c ty s=>?_⟩
 .rcases n6.1 r with rfl|rfl
  .exact⟨_,n⟩
  .exact⟨_,q⟩
 .obtain⟨a,c,ty,b1,b2,b3,_⟩:=key p hp;exact⟨a,c,ty,b1,b2,b3⟩
 .obtain⟨a,c',u,b1,b2,b3,b4⟩:=key p hp;rw[s]at b1;cases b1;exact b4
structure tT(σ σ':Gh)(G:CG)(l:List HV):Prop where
 n:σ'.n=σ.n+l.length
 old:∀ i,i<σ.n->σ'.aU i=σ.aU i
 new:∀ i s,σ.n<=i->σ'.aU i=some s->∃ v∈l,v.h.g=i/\s=ff v.h G
 has:∀ v∈l,σ'.aU v.h.g=some (ff v.h G)/\σ.n<=v.h.g/\v.h.g<σ'.n
 gnd:(l.map (·.h.g)).Nodup
 fw:∀ v∈l,∀ i s,σ.aU i=some s->¬ s.has v.h.wk
 fd:∀ i s,σ.aU i=some s->¬ s.has G.dn
 wnd:(l.map (·.h.wk)).Nodup
 wd:∀ v∈l,v.h.wk≠G.dn
 sh:∀ x,σ'.sh x↔σ.sh x\/x=.cell ⟨G.b,7,none⟩\/x=.cell ⟨G.b,8,none⟩
 bot:σ'.bot=σ.bot
structure Uk(σ:Gh):Prop where
 n:σ.n≠0
 lt:∀ i s,σ.aU i=some s->i<σ.n
theorem tT.start(h:Uk σ){G:CG}(fd:∀ i s,σ.aU i=some s->¬ s.has G.dn):tT σ (σ.C4 G.b [7,8]) G []:=by
 refine⟨rfl,λ_ _=>rfl,λi s hi hs=>?_,by simp,by simp,by simp,fd,by simp,by simp,λx=>?_,rfl⟩
 .have:=h.lt i s hs;omega
 .simp[Gh.C4]
theorem tT.hire{σ σ':Gh}{G:CG}{l:List HV}(N:tT σ σ' G l){v:HV}(g:v.h.g=σ'.n)(j:∀ i s,σ.aU i=some s->i<σ.n)(h:∀ i s,σ'.aU i=some s->¬ s.has v.h.wk)(k:v.h.wk≠G.dn):tT σ (σ'.p8<|ff v.h G) G (l++[v]):=by
 have hs:∀ i,(σ'.p8<|ff v.h G).aU i=if i=σ'.n then some (ff v.h G)else σ'.aU i:=λi=>by
  show Go.ConcN.upd σ'.aU σ'.n (some<|ff v.h G) i=_;by_cases e:i=σ'.n
  .subst e;rw[Go.ConcN.upd_same,aJ rfl]
  .rw[Go.ConcN.upd_ne _ _ e,ax e]
 have m:=N.n;refine⟨?_,λi hi=>?_,λi s hi e=>?_,λu hu=>?_,?_,λu hu i s e=>?_,N.fd,?_,λu hu=>?_,N.sh,N.bot⟩
 .show σ'.n+1=_;rw[iV,iR];omega
 .rw[hs,ax ai];exact N.old i hi
 .rw[hs]at e;by_cases z:i=σ'.n
  .rw[aJ z]at e;exact⟨v,by simp,by rw[g,z],(cA e).symm⟩
  .rw[ax z]at e;obtain⟨u,hu,h1,d⟩:=N.new i s hi e;exact⟨u,by simp[hu],h1,d⟩
 .rcases bS.1 hu with hu|hu
  .obtain⟨h1,d,n⟩:=N.has u hu;refine⟨by rw[hs,ax ai];exact h1,d,?_⟩;show _<σ'.n+1;omega
  .obtain rfl:=dR.1 hu;refine⟨by rw[hs,aJ g],ai,?_⟩;show _<σ'.n+1;omega
 .rw[eW,jc];refine⟨N.gnd,by simp,λa f b c=>?_⟩;obtain⟨u,hu,rfl⟩:=cq.1 f;simp at c;subst c;have:=(N.has u hu).2.2;omega
 .rcases bS.1 hu with hu|hu
  .exact N.fw u hu i s e
  .obtain rfl:=dR.1 hu;exact h i s (by rw[N.old i (j i s e)];exact e)
 .rw[eW,jc];refine⟨N.wnd,by simp,λa f b c z=>?_⟩;obtain⟨u,hu,rfl⟩:=cq.1 f;simp at c;subst c;exact h _ _ (N.has u hu).1<|n6.2<|.inl z.symm
 .rcases bS.1 hu with hu|hu
  .exact N.wd u hu
  .obtain rfl:=dR.1 hu;exact k
theorem Ul{n:Int}(hn:1<=n/\n<=4)(E:Uk σ):bB prog bM 27 #[aF n] σ [] (λv σ' As=>∃ c:CV,tT σ σ' c.G c.ah/\v=.tuple #[az c.G.b,.nilIface]/\As=[dm c]/\c.ah.map (·.s)=((upto n).map λk=>kU k n)/\c.aH=[]/\c.aC=[]/\c.aj=false):=by
 refine bB.of ?_;intro Post os out kd F c' cs C T U;refine Vz ?_;refine C.ed rfl ?_;refine bL ?_;refine C.ed rfl ?_;refine dY ?_;refine aG.mc underlying83 (aD type73) rfl λdn L=>?_;refine ga ?_;refine aG.bx (c:=Xs 0 aV.v aV.v aV.v (.chan<|some dn) false<|((0:Nat):Int)*KQ) [7,8] rfl rfl rfl (by decide) rfl λb=>?_;have I:ab prog true (bM.bw<|σ.C4 b [7,8]) (aG prog Post bM (σ.C4 b [7,8]) 0 os out):=aG.eL;refine aG.al rfl λB M=>?_;refine I.st rfl ?_ (hr:=M.rd _ _);refine I.go ?_;refine I.rg [0,1] ?_;refine I.mv rfl ?_;refine I.mv rfl ?_;refine I.go ?_;refine At.aV jP 1 114 (show At (aG prog Post bM (σ.C4 b [7,8]) 0 os out) 0 (bK jP 1 114 aV (([]:List HV).map (·.h.bh))::_) _ from ?_);refine At.He (show At (aG prog Post bM (σ.C4 b [7,8]) 0 os out) 0 (all (([]:List HV).map jy)::_) _ from ?_);refine aeG (Y:=Gh×ay×List HV×Nat) (λy=>y.1) (λy=>[(0,aF n),(4,az B),(17,aF n),(18,aF y.2.2.2)]) (λy=>pS b 0 y.2.1.v aV.v aV.v (.chan<|some dn) false ((y.2.2.2:Int)*KQ)::bK jP 1 114 y.2.1 (y.2.2.1.map (·.h.bh))::all (y.2.2.1.map jy)::dq dn (.chan 0 #[] false 0 0 false)::dq B (.cells #[az b] 23 (0,0))::F)
  (λy=>tT σ y.1 ⟨b,B,dn⟩ y.2.2.1/\y.2.2.1.length=y.2.2.2/\(y.2.2.2:Int)<=n/\y.2.2.1.map (·.s)=((upto n).take y.2.2.2).map (λk=>kU k n)/\∀ b',y.2.1.a=some ⟨b',0,none⟩->Fu y.1 b') (λy=>(n-y.2.2.2).toNat) (σ.C4 b [7,8],aV,[],0) rfl ⟨rfl,rfl,rfl,rfl,trivial⟩ ⟨tT.start (G:=⟨b,B,dn⟩) E L,rfl,by show(0:Int)<=n;omega,rfl,λb' h=>by cases h⟩ ?_
 rintro⟨w,hs,l,kk⟩ e ⟨N,O,P,Q,R⟩ Z;dsimp only at N O P Q R⊢;have C:ab prog true (bM.bw w) (aG prog Post bM w 0 os out):=aG.eL;refine bL ?_;by_cases dH:(kk:Int)<n
 .refine C.fQ rfl ?_;refine gV ?_;apply m8 (X:=Nat×Nat×Nat×Nat×Nat) (λx=>(∀ i s,w.aU i=some s->¬ s.has x.2.1)) (λx=>[(0,aF n),(4,az B),(6,az x.2.2.2.2),(17,aF n),(18,aF kk)]) (λx=>pS b 0 hs.v aV.v aV.v (.chan<|some dn) false ((kk:Int)*KQ)::bK jP 1 114 hs (l.map (·.h.bh))::all (l.map jy)::dq dn (.chan 0 #[] false 0 0 false)::dq B (.cells #[az b] 23 (0,0))::
   dq x.2.2.2.1 (.cells #[az x.1,.chan<|some x.2.1,.chan<|some x.2.2.1] 120 (0,0))::dq x.2.1 (.chan 0 #[] false 0 0 false)::dq x.2.2.1 (.chan 0 #[] false 0 0 false)::dq x.2.2.2.2 (.cells #[az x.2.2.2.1] 114 (0,0))::dB x.1 (kU kk n)::F)
  .intro A;refine C.dx (di 21 0 7++[(6,7)]) 9 [2,3,4,5,6,7,8] 0 ?_;refine Da ?_;refine Ch.nk [2,3,4,7]<|fa4 ?_ ?_ ?_ ?_
   .refine bj λe aa a=>?_;refine C.fZ (aI.less (dW _) fF) ?_;rintro v aT ⟨q,rfl,rfl⟩;refine a _ _ ?_
    (try simp only[fJ,ek])
    refine Ch.nk [3,4,7]<|fa3 ?_ ?_ ?_
    .refine bj λe aa a=>?_;refine aG.mc underlying117 (aD type187) rfl λo u=>a _ _ ?_;refine Ch.nk [4,7]<|A9 ?_ ?_
     .refine bj λe aa a=>?_;refine aG.mc underlying118 (aD type81) rfl λr D=>a _ _ ?_;refine Ch.q 5 (λh=>C.bd rfl h) ?_;refine Ch.nk [6,7]<|A9 ?_ ?_
      .refine bj λe aa a=>?_;refine C.bx rfl λd=>a _ _ ?_;refine Ch.nk [7]<|gC ?_;refine bj λe aa a=>?_;refine aG.al rfl λg t=>a _ _ ?_;refine Ch.nk [8]<|gC ?_;refine bj λe aa a=>?_;refine C.st rfl (a _ undef ?_) (hr:=t.rd _ _);refine gy ?_;exact bU A (q,o,r,d,g) u
      .refine bj λe aa a=>?_;refine aG.al rfl λg t=>a _ _ ?_;refine Ch.nk [6]<|gC ?_;refine bj λe aa a=>?_;refine C.bx rfl λd=>a _ _ ?_;refine Ch.nk [8]<|gC ?_;refine bj λe aa a=>?_;refine C.st rfl (a _ undef ?_) (hr:=t.rd _ _);refine gy ?_;exact bU A (q,o,r,d,g) u
     .refine bj λe aa a=>?_;refine aG.al rfl λg t=>a _ _ ?_;refine Ch.nk [4]<|gC ?_;refine bj λe aa a=>?_;refine aG.mc underlying118 (aD type81) rfl λr D=>a _ _ ?_;refine Ch.q 5 (λh=>C.bd rfl h) ?_;refine Ch.nk [6]<|gC ?_;refine bj λe aa a=>?_;refine C.bx rfl λd=>a _ _ ?_;refine Ch.nk [8]<|gC ?_;refine bj λe aa a=>?_;refine C.st rfl (a _ undef ?_) (hr:=t.rd _ _);refine gy ?_;exact bU A (q,o,r,d,g) u
    .refine bj λe aa a=>?_;refine aG.mc underlying118 (aD type81) rfl λr D=>a _ _ ?_;refine Ch.nk [3,7]<|A9 ?_ ?_
     .refine bj λe aa a=>?_;refine aG.mc underlying117 (aD type187) rfl λo u=>a _ _ ?_;refine Ch.q 5 (λh=>C.bd rfl h) ?_;refine Ch.nk [6,7]<|A9 ?_ ?_
      .refine bj λe aa a=>?_;refine C.bx rfl λd=>a _ _ ?_;refine Ch.nk [7]<|gC ?_;refine bj λe aa a=>?_;refine aG.al rfl λg t=>a _ _ ?_;refine Ch.nk [8]<|gC ?_;refine bj λe aa a=>?_;refine C.st rfl (a _ undef ?_) (hr:=t.rd _ _);refine gy ?_;exact bU A (q,o,r,d,g) u
      .refine bj λe aa a=>?_;refine aG.al rfl λg t=>a _ _ ?_;refine Ch.nk [6]<|gC ?_;refine bj λe aa a=>?_;refine C.bx rfl λd=>a _ _ ?_;refine Ch.nk [8]<|gC ?_;refine bj λe aa a=>?_;refine C.st rfl (a _ undef ?_) (hr:=t.rd _ _);refine gy ?_;exact bU A (q,o,r,d,g) u
     .refine bj λe aa a=>?_;refine aG.al rfl λg t=>a _ _ ?_;refine Ch.nk [3]<|gC ?_;refine bj λe aa a=>?_;refine aG.mc underlying117 (aD type187) rfl λo u=>a _ _ ?_;refine Ch.q 5 (λh=>C.bd rfl h) ?_;refine Ch.nk [6]<|gC ?_;refine bj λe aa a=>?_;refine C.bx rfl λd=>a _ _ ?_;refine Ch.nk [8]<|gC ?_;refine bj λe aa a=>?_;refine C.st rfl (a _ undef ?_) (hr:=t.rd _ _);refine gy ?_;exact bU A (q,o,r,d,g) u
    .refine bj λe aa a=>?_;refine aG.al rfl λg t=>a _ _ ?_;refine Ch.nk [3,4]<|A9 ?_ ?_
     .refine bj λe aa a=>?_;refine aG.mc underlying117 (aD type187) rfl λo u=>a _ _ ?_;refine Ch.nk [4]<|gC ?_;refine bj λe aa a=>?_;refine aG.mc underlying118 (aD type81) rfl λr D=>a _ _ ?_;refine Ch.q 5 (λh=>C.bd rfl h) ?_;refine Ch.nk [6]<|gC ?_;refine bj λe aa a=>?_;refine C.bx rfl λd=>a _ _ ?_;refine Ch.nk [8]<|gC ?_;refine bj λe aa a=>?_;refine C.st rfl (a _ undef ?_) (hr:=t.rd _ _);refine gy ?_;exact bU A (q,o,r,d,g) u
     .refine bj λe aa a=>?_;refine aG.mc underlying118 (aD type81) rfl λr D=>a _ _ ?_;refine Ch.nk [3]<|gC ?_;refine bj λe aa a=>?_;refine aG.mc underlying117 (aD type187) rfl λo u=>a _ _ ?_;refine Ch.q 5 (λh=>C.bd rfl h) ?_;refine Ch.nk [6]<|gC ?_;refine bj λe aa a=>?_;refine C.bx rfl λd=>a _ _ ?_;refine Ch.nk [8]<|gC ?_;refine bj λe aa a=>?_;refine C.st rfl (a _ undef ?_) (hr:=t.rd _ _);refine gy ?_;exact bU A (q,o,r,d,g) u
   .refine bj λe aa a=>?_;refine aG.mc underlying117 (aD type187) rfl λo u=>a _ _ ?_;refine Ch.nk [2,4,7]<|fa3 ?_ ?_ ?_
    .refine bj λe aa a=>?_;refine C.fZ (aI.less (dW _) fF) ?_;rintro v aT ⟨q,rfl,rfl⟩;refine a _ _ ?_
     (try simp only[fJ,ek])
     refine Ch.nk [4,7]<|A9 ?_ ?_
     .refine bj λe aa a=>?_;refine aG.mc underlying118 (aD type81) rfl λr D=>a _ _ ?_;refine Ch.q 5 (λh=>C.bd rfl h) ?_;refine Ch.nk [6,7]<|A9 ?_ ?_
      .refine bj λe aa a=>?_;refine C.bx rfl λd=>a _ _ ?_;refine Ch.nk [7]<|gC ?_;refine bj λe aa a=>?_;refine aG.al rfl λg t=>a _ _ ?_;refine Ch.nk [8]<|gC ?_;refine bj λe aa a=>?_;refine C.st rfl (a _ undef ?_) (hr:=t.rd _ _);refine gy ?_;exact bU A (q,o,r,d,g) u
      .refine bj λe aa a=>?_;refine aG.al rfl λg t=>a _ _ ?_;refine Ch.nk [6]<|gC ?_;refine bj λe aa a=>?_;refine C.bx rfl λd=>a _ _ ?_;refine Ch.nk [8]<|gC ?_;refine bj λe aa a=>?_;refine C.st rfl (a _ undef ?_) (hr:=t.rd _ _);refine gy ?_;exact bU A (q,o,r,d,g) u
     .refine bj λe aa a=>?_;refine aG.al rfl λg t=>a _ _ ?_;refine Ch.nk [4]<|gC ?_;refine bj λe aa a=>?_;refine aG.mc underlying118 (aD type81) rfl λr D=>a _ _ ?_;refine Ch.q 5 (λh=>C.bd rfl h) ?_;refine Ch.nk [6]<|gC ?_;refine bj λe aa a=>?_;refine C.bx rfl λd=>a _ _ ?_;refine Ch.nk [8]<|gC ?_;refine bj λe aa a=>?_;refine C.st rfl (a _ undef ?_) (hr:=t.rd _ _);refine gy ?_;exact bU A (q,o,r,d,g) u
    .refine bj λe aa a=>?_;refine aG.mc underlying118 (aD type81) rfl λr D=>a _ _ ?_;refine Ch.nk [2,7]<|A9 ?_ ?_
     .refine bj λe aa a=>?_;refine C.fZ (aI.less (dW _) fF) ?_;rintro v aT ⟨q,rfl,rfl⟩;refine a _ _ ?_
      (try simp only[fJ,ek])
      refine Ch.q 5 (λh=>C.bd rfl h) ?_;refine Ch.nk [6,7]<|A9 ?_ ?_
      .refine bj λe aa a=>?_;refine C.bx rfl λd=>a _ _ ?_;refine Ch.nk [7]<|gC ?_;refine bj λe aa a=>?_;refine aG.al rfl λg t=>a _ _ ?_;refine Ch.nk [8]<|gC ?_;refine bj λe aa a=>?_;refine C.st rfl (a _ undef ?_) (hr:=t.rd _ _);refine gy ?_;exact bU A (q,o,r,d,g) u
      .refine bj λe aa a=>?_;refine aG.al rfl λg t=>a _ _ ?_;refine Ch.nk [6]<|gC ?_;refine bj λe aa a=>?_;refine C.bx rfl λd=>a _ _ ?_;refine Ch.nk [8]<|gC ?_;refine bj λe aa a=>?_;refine C.st rfl (a _ undef ?_) (hr:=t.rd _ _);refine gy ?_;exact bU A (q,o,r,d,g) u
     .refine bj λe aa a=>?_;refine aG.al rfl λg t=>a _ _ ?_;refine Ch.nk [2]<|gC ?_;refine bj λe aa a=>?_;refine C.fZ (aI.less (dW _) fF) ?_;rintro v aT ⟨q,rfl,rfl⟩;refine a _ _ ?_
      (try simp only[fJ,ek])
      refine Ch.q 5 (λh=>C.bd rfl h) ?_;refine Ch.nk [6]<|gC ?_;refine bj λe aa a=>?_;refine C.bx rfl λd=>a _ _ ?_;refine Ch.nk [8]<|gC ?_;refine bj λe aa a=>?_;refine C.st rfl (a _ undef ?_) (hr:=t.rd _ _);refine gy ?_;exact bU A (q,o,r,d,g) u
    .refine bj λe aa a=>?_;refine aG.al rfl λg t=>a _ _ ?_;refine Ch.nk [2,4]<|A9 ?_ ?_
     .refine bj λe aa a=>?_;refine C.fZ (aI.less (dW _) fF) ?_;rintro v aT ⟨q,rfl,rfl⟩;refine a _ _ ?_
      (try simp only[fJ,ek])
      refine Ch.nk [4]<|gC ?_;refine bj λe aa a=>?_;refine aG.mc underlying118 (aD type81) rfl λr D=>a _ _ ?_;refine Ch.q 5 (λh=>C.bd rfl h) ?_;refine Ch.nk [6]<|gC ?_;refine bj λe aa a=>?_;refine C.bx rfl λd=>a _ _ ?_;refine Ch.nk [8]<|gC ?_;refine bj λe aa a=>?_;refine C.st rfl (a _ undef ?_) (hr:=t.rd _ _);refine gy ?_;exact bU A (q,o,r,d,g) u
     .refine bj λe aa a=>?_;refine aG.mc underlying118 (aD type81) rfl λr D=>a _ _ ?_;refine Ch.nk [2]<|gC ?_;refine bj λe aa a=>?_;refine C.fZ (aI.less (dW _) fF) ?_;rintro v aT ⟨q,rfl,rfl⟩;refine a _ _ ?_
      (try simp only[fJ,ek])
      refine Ch.q 5 (λh=>C.bd rfl h) ?_;refine Ch.nk [6]<|gC ?_;refine bj λe aa a=>?_;refine C.bx rfl λd=>a _ _ ?_;refine Ch.nk [8]<|gC ?_;refine bj λe aa a=>?_;refine C.st rfl (a _ undef ?_) (hr:=t.rd _ _);refine gy ?_;exact bU A (q,o,r,d,g) u
   .refine bj λe aa a=>?_;refine aG.mc underlying118 (aD type81) rfl λr D=>a _ _ ?_;refine Ch.nk [2,3,7]<|fa3 ?_ ?_ ?_
    .refine bj λe aa a=>?_;refine C.fZ (aI.less (dW _) fF) ?_;rintro v aT ⟨q,rfl,rfl⟩;refine a _ _ ?_
     (try simp only[fJ,ek])
     refine Ch.nk [3,7]<|A9 ?_ ?_
     .refine bj λe aa a=>?_;refine aG.mc underlying117 (aD type187) rfl λo u=>a _ _ ?_;refine Ch.q 5 (λh=>C.bd rfl h) ?_;refine Ch.nk [6,7]<|A9 ?_ ?_
      .refine bj λe aa a=>?_;refine C.bx rfl λd=>a _ _ ?_;refine Ch.nk [7]<|gC ?_;refine bj λe aa a=>?_;refine aG.al rfl λg t=>a _ _ ?_;refine Ch.nk [8]<|gC ?_;refine bj λe aa a=>?_;refine C.st rfl (a _ undef ?_) (hr:=t.rd _ _);refine gy ?_;exact bU A (q,o,r,d,g) u
      .refine bj λe aa a=>?_;refine aG.al rfl λg t=>a _ _ ?_;refine Ch.nk [6]<|gC ?_;refine bj λe aa a=>?_;refine C.bx rfl λd=>a _ _ ?_;refine Ch.nk [8]<|gC ?_;refine bj λe aa a=>?_;refine C.st rfl (a _ undef ?_) (hr:=t.rd _ _);refine gy ?_;exact bU A (q,o,r,d,g) u
     .refine bj λe aa a=>?_;refine aG.al rfl λg t=>a _ _ ?_;refine Ch.nk [3]<|gC ?_;refine bj λe aa a=>?_;refine aG.mc underlying117 (aD type187) rfl λo u=>a _ _ ?_;refine Ch.q 5 (λh=>C.bd rfl h) ?_;refine Ch.nk [6]<|gC ?_;refine bj λe aa a=>?_;refine C.bx rfl λd=>a _ _ ?_;refine Ch.nk [8]<|gC ?_;refine bj λe aa a=>?_;refine C.st rfl (a _ undef ?_) (hr:=t.rd _ _);refine gy ?_;exact bU A (q,o,r,d,g) u
    .refine bj λe aa a=>?_;refine aG.mc underlying117 (aD type187) rfl λo u=>a _ _ ?_;refine Ch.nk [2,7]<|A9 ?_ ?_
     .refine bj λe aa a=>?_;refine C.fZ (aI.less (dW _) fF) ?_;rintro v aT ⟨q,rfl,rfl⟩;refine a _ _ ?_
      (try simp only[fJ,ek])
      refine Ch.q 5 (λh=>C.bd rfl h) ?_;refine Ch.nk [6,7]<|A9 ?_ ?_
      .refine bj λe aa a=>?_;refine C.bx rfl λd=>a _ _ ?_;refine Ch.nk [7]<|gC ?_;refine bj λe aa a=>?_;refine aG.al rfl λg t=>a _ _ ?_;refine Ch.nk [8]<|gC ?_;refine bj λe aa a=>?_;refine C.st rfl (a _ undef ?_) (hr:=t.rd _ _);refine gy ?_;exact bU A (q,o,r,d,g) u
      .refine bj λe aa a=>?_;refine aG.al rfl λg t=>a _ _ ?_;refine Ch.nk [6]<|gC ?_;refine bj λe aa a=>?_;refine C.bx rfl λd=>a _ _ ?_;refine Ch.nk [8]<|gC ?_;refine bj λe aa a=>?_;refine C.st rfl (a _ undef ?_) (hr:=t.rd _ _);refine gy ?_;exact bU A (q,o,r,d,g) u
     .refine bj λe aa a=>?_;refine aG.al rfl λg t=>a _ _ ?_;refine Ch.nk [2]<|gC ?_;refine bj λe aa a=>?_;refine C.fZ (aI.less (dW _) fF) ?_;rintro v aT ⟨q,rfl,rfl⟩;refine a _ _ ?_
      (try simp only[fJ,ek])
      refine Ch.q 5 (λh=>C.bd rfl h) ?_;refine Ch.nk [6]<|gC ?_;refine bj λe aa a=>?_;refine C.bx rfl λd=>a _ _ ?_;refine Ch.nk [8]<|gC ?_;refine bj λe aa a=>?_;refine C.st rfl (a _ undef ?_) (hr:=t.rd _ _);refine gy ?_;exact bU A (q,o,r,d,g) u
    .refine bj λe aa a=>?_;refine aG.al rfl λg t=>a _ _ ?_;refine Ch.nk [2,3]<|A9 ?_ ?_
     .refine bj λe aa a=>?_;refine C.fZ (aI.less (dW _) fF) ?_;rintro v aT ⟨q,rfl,rfl⟩;refine a _ _ ?_
      (try simp only[fJ,ek])
      refine Ch.nk [3]<|gC ?_;refine bj λe aa a=>?_;refine aG.mc underlying117 (aD type187) rfl λo u=>a _ _ ?_;refine Ch.q 5 (λh=>C.bd rfl h) ?_;refine Ch.nk [6]<|gC ?_;refine bj λe aa a=>?_;refine C.bx rfl λd=>a _ _ ?_;refine Ch.nk [8]<|gC ?_;refine bj λe aa a=>?_;refine C.st rfl (a _ undef ?_) (hr:=t.rd _ _);refine gy ?_;exact bU A (q,o,r,d,g) u
     .refine bj λe aa a=>?_;refine aG.mc underlying117 (aD type187) rfl λo u=>a _ _ ?_;refine Ch.nk [2]<|gC ?_;refine bj λe aa a=>?_;refine C.fZ (aI.less (dW _) fF) ?_;rintro v aT ⟨q,rfl,rfl⟩;refine a _ _ ?_
      (try simp only[fJ,ek])
      refine Ch.q 5 (λh=>C.bd rfl h) ?_;refine Ch.nk [6]<|gC ?_;refine bj λe aa a=>?_;refine C.bx rfl λd=>a _ _ ?_;refine Ch.nk [8]<|gC ?_;refine bj λe aa a=>?_;refine C.st rfl (a _ undef ?_) (hr:=t.rd _ _);refine gy ?_;exact bU A (q,o,r,d,g) u
   .refine bj λe aa a=>?_;refine aG.al rfl λg t=>a _ _ ?_;refine Ch.nk [2,3,4]<|fa3 ?_ ?_ ?_
    .refine bj λe aa a=>?_;refine C.fZ (aI.less (dW _) fF) ?_;rintro v aT ⟨q,rfl,rfl⟩;refine a _ _ ?_
     (try simp only[fJ,ek])
     refine Ch.nk [3,4]<|A9 ?_ ?_
     .refine bj λe aa a=>?_;refine aG.mc underlying117 (aD type187) rfl λo u=>a _ _ ?_;refine Ch.nk [4]<|gC ?_;refine bj λe aa a=>?_;refine aG.mc underlying118 (aD type81) rfl λr D=>a _ _ ?_;refine Ch.q 5 (λh=>C.bd rfl h) ?_;refine Ch.nk [6]<|gC ?_;refine bj λe aa a=>?_;refine C.bx rfl λd=>a _ _ ?_;refine Ch.nk [8]<|gC ?_;refine bj λe aa a=>?_;refine C.st rfl (a _ undef ?_) (hr:=t.rd _ _);refine gy ?_;exact bU A (q,o,r,d,g) u
     .refine bj λe aa a=>?_;refine aG.mc underlying118 (aD type81) rfl λr D=>a _ _ ?_;refine Ch.nk [3]<|gC ?_;refine bj λe aa a=>?_;refine aG.mc underlying117 (aD type187) rfl λo u=>a _ _ ?_;refine Ch.q 5 (λh=>C.bd rfl h) ?_;refine Ch.nk [6]<|gC ?_;refine bj λe aa a=>?_;refine C.bx rfl λd=>a _ _ ?_;refine Ch.nk [8]<|gC ?_;refine bj λe aa a=>?_;refine C.st rfl (a _ undef ?_) (hr:=t.rd _ _);refine gy ?_;exact bU A (q,o,r,d,g) u
    .refine bj λe aa a=>?_;refine aG.mc underlying117 (aD type187) rfl λo u=>a _ _ ?_;refine Ch.nk [2,4]<|A9 ?_ ?_
     .refine bj λe aa a=>?_;refine C.fZ (aI.less (dW _) fF) ?_;rintro v aT ⟨q,rfl,rfl⟩;refine a _ _ ?_
      (try simp only[fJ,ek])
      refine Ch.nk [4]<|gC ?_;refine bj λe aa a=>?_;refine aG.mc underlying118 (aD type81) rfl λr D=>a _ _ ?_;refine Ch.q 5 (λh=>C.bd rfl h) ?_;refine Ch.nk [6]<|gC ?_;refine bj λe aa a=>?_;refine C.bx rfl λd=>a _ _ ?_;refine Ch.nk [8]<|gC ?_;refine bj λe aa a=>?_;refine C.st rfl (a _ undef ?_) (hr:=t.rd _ _);refine gy ?_;exact bU A (q,o,r,d,g) u
     .refine bj λe aa a=>?_;refine aG.mc underlying118 (aD type81) rfl λr D=>a _ _ ?_;refine Ch.nk [2]<|gC ?_;refine bj λe aa a=>?_;refine C.fZ (aI.less (dW _) fF) ?_;rintro v aT ⟨q,rfl,rfl⟩;refine a _ _ ?_
      (try simp only[fJ,ek])
      refine Ch.q 5 (λh=>C.bd rfl h) ?_;refine Ch.nk [6]<|gC ?_;refine bj λe aa a=>?_;refine C.bx rfl λd=>a _ _ ?_;refine Ch.nk [8]<|gC ?_;refine bj λe aa a=>?_;refine C.st rfl (a _ undef ?_) (hr:=t.rd _ _);refine gy ?_;exact bU A (q,o,r,d,g) u
    .refine bj λe aa a=>?_;refine aG.mc underlying118 (aD type81) rfl λr D=>a _ _ ?_;refine Ch.nk [2,3]<|A9 ?_ ?_
     .refine bj λe aa a=>?_;refine C.fZ (aI.less (dW _) fF) ?_;rintro v aT ⟨q,rfl,rfl⟩;refine a _ _ ?_
      (try simp only[fJ,ek])
      refine Ch.nk [3]<|gC ?_;refine bj λe aa a=>?_;refine aG.mc underlying117 (aD type187) rfl λo u=>a _ _ ?_;refine Ch.q 5 (λh=>C.bd rfl h) ?_;refine Ch.nk [6]<|gC ?_;refine bj λe aa a=>?_;refine C.bx rfl λd=>a _ _ ?_;refine Ch.nk [8]<|gC ?_;refine bj λe aa a=>?_;refine C.st rfl (a _ undef ?_) (hr:=t.rd _ _);refine gy ?_;exact bU A (q,o,r,d,g) u
     .refine bj λe aa a=>?_;refine aG.mc underlying117 (aD type187) rfl λo u=>a _ _ ?_;refine Ch.nk [2]<|gC ?_;refine bj λe aa a=>?_;refine C.fZ (aI.less (dW _) fF) ?_;rintro v aT ⟨q,rfl,rfl⟩;refine a _ _ ?_
      (try simp only[fJ,ek])
      refine Ch.q 5 (λh=>C.bd rfl h) ?_;refine Ch.nk [6]<|gC ?_;refine bj λe aa a=>?_;refine C.bx rfl λd=>a _ _ ?_;refine Ch.nk [8]<|gC ?_;refine bj λe aa a=>?_;refine C.st rfl (a _ undef ?_) (hr:=t.rd _ _);refine gy ?_;exact bU A (q,o,r,d,g) u
  .rintro⟨q,o,r,d,g⟩ u e;dsimp only at u⊢;refine At.apart (b:=o) (x:=dn) fK.au λS=>?_;have hl4:l.length<=3:=ai;refine C.C9 (di 28 0 10) 11 [6,7,8,9,10] 2 ?_ (W:=[pS b 0 hs.v aV.v aV.v (.chan<|some dn) false ((kk:Int)*KQ),dq B<|.cells #[az b] 23 (0,0),dq g<|.cells #[az d] 114 (0,0)]);refine qv ?_;refine Dr.chain rfl ?_ λ_ s=>dg.sat dg.au s;refine Ch.nk [6]<|gC ?_;refine bj λe aa a=>?_;refine C.CZ rfl λXD=>a _ _ .cons ?_;refine Ch.nk [7]<|gC ?_;refine bj λe aa a=>?_;refine aG.ap (f:=jP) (z:=1) (el:=114) (m:=[d]) (l:=l.map (·.h.bh)) (s:=hs) rfl Fo.au R (λj=>rfl) (λH s=>.inr ⟨XD,0,1,#[az d],114,rfl,Has.get Has.au s,fC 1,rfl,λj=>rfl⟩) (λs' hl ha=>a _ _ qM ?_) (by simp;omega) rfl (by decide) rfl rfl;refine Ch.q 8 (λh=>C.nc rfl h) ?_;refine Ch.q 9 (λh=>C.fa rfl h) ?_;refine Ch.nk [10]<|gC ?_;refine bj λe aa a=>?_;refine C.st rfl<|a _ undef ?_;refine Bw ?_;refine C.cE (T8 (k:=kk) ai) ?_;refine pQ ?_;refine C.mf rfl ?_;refine At.Fx (s:=s') (x:=B) fK.au λa1=>?_;refine At.Fx (s:=s') (x:=g) fK.au λa2=>?_;refine At.Fx (s:=s') (x:=b) fK.au λa3=>?_;refine At.Fx (s:=s') (x:=d) fK.au λa4=>?_;have J:w.n≠0:=by have:=N.n;have:=E.n;omega
   refine aG.go (x:=⟨.fn (.func 49) #[az B,az g],#[]⟩) (ff ⟨w.n,g,d,q,o,r⟩ ⟨b,B,dn⟩) rfl rfl (XC rfl) ⟨_,_,rfl⟩ (IW S) (λH s=>(tS (h:=⟨w.n,g,d,q,o,r⟩) (C:=⟨b,B,dn⟩) (kw:=0) (kd:=0) (by decide) (Has.get Has.au s) (Has.get Has.au s) (Has.get Has.au s) rfl (Has.get Has.au s) rfl (Has.get Has.au s)<|Has.get Has.au s).1)
    (λH s=>(tS (h:=⟨w.n,g,d,q,o,r⟩) (C:=⟨b,B,dn⟩) (i:=1) (kw:=0) (kd:=0) (by decide) (Has.get Has.au s) (Has.get Has.au s) (Has.get Has.au s) rfl (Has.get Has.au s) rfl (Has.get Has.au s)<|Has.get Has.au s).2) ⟨600,Ps (h:=⟨w.n,g,d,q,o,r⟩) (C:=⟨b,B,dn⟩)⟩ J J ?_
   have C:ab prog true (bM.bw<|w.p8<|ff ⟨w.n,g,d,q,o,r⟩ ⟨b,B,dn⟩) (aG prog Post bM (w.p8<|ff ⟨w.n,g,d,q,o,r⟩ ⟨b,B,dn⟩) 0 os out):=aG.eL;refine fB ?_;refine jy.cls ⟨⟨w.n,g,d,q,o,r⟩,kU kk n,0,0⟩ ?_;refine zU (f:=jy) (l:=l) ⟨⟨w.n,g,d,q,o,r⟩,kU kk n,0,0⟩ fK.au ?_;rw[show l.map (·.h.bh)++[d]=(l++[(⟨⟨w.n,g,d,q,o,r⟩,kU kk n,0,0⟩:HV)]).map (·.h.bh) by simp];refine aau (c:=.skip) Z (w.p8<|ff ⟨w.n,g,d,q,o,r⟩ ⟨b,B,dn⟩,s',l++[⟨⟨w.n,g,d,q,o,r⟩,kU kk n,0,0⟩],kk+1) rfl ⟨N.hire (v:=⟨⟨w.n,g,d,q,o,r⟩,kU kk n,0,0⟩) rfl E.lt u S,by simp[O],by show((kk+1:Nat):Int)<=n;omega,?_,?_⟩ (by show(n-((kk+1:Nat):Int)).toNat<(n-(kk:Int)).toNat;omega)
   .show(l++[_]).map _=_;have JV:kk<(upto n).length:=by simp[upto];omega
    rw[eW,Q,GV,cQ JV];simp[upto]
   .intro b' K i s p hi hp z;have hi:Go.ConcN.upd w.aU w.n (some<|ff ⟨w.n,g,d,q,o,r⟩ ⟨b,B,dn⟩) i=some s:=hi;by_cases e1:i=w.n
    .subst e1;rw[Go.ConcN.upd_same]at hi;obtain rfl:=cA hi;simp only[ff,gU,nY,gR]at hp;rcases hp with rfl|rfl|rfl|rfl
     .exact a1 b' K z.symm
     .exact a2 b' K z.symm
     .exact a3 b' K z.symm
     .exact a4 b' K z.symm
    .rw[Go.ConcN.upd_ne _ _ e1]at hi;exact ha b' K i s p hi hp z
 .refine C.ed rfl ?_;refine iE ?_;subst O;refine At.aV dF 7 190<|At.aV EB 3 126 ?_;refine dm.cls ⟨⟨b,B,dn⟩,l,[],[],false⟩ ?_ (hs:=hs) (bg:=aV) (tx:=aV);have hl:(l.length:Int)=n:=ai;refine aG.cG T U ⟨⟨⟨b,B,dn⟩,l,[],[],false⟩,N,rfl,rfl,?_,rfl,rfl,rfl⟩;rw[Q,lA];simp[upto];omega
theorem At.ajv{R:Nat->aO->Array Obj->Prop}{d:Nat}{As L:List HP}{g:aO}{α:Type}{f:α->List Value}{el:aP}{s:ay}{l:List α}(hf:Fo (bK f z el s l) As L)(h:∀ J,gg J f el s l->(∀ h,bI J h->bK f z el s l h)->At R d (bI J::L) g):At R d As g:=
 At.fo hf λH st=>by
  obtain⟨a,x,i,j⟩:=st;refine h a ?_ (λh e=>by have e:h=a:=e;rw[e];exact x) H ⟨a,rfl,i,j⟩;rcases x with⟨e1,e2⟩|⟨b,pad,e,_,_,hp⟩
  .exact .inl ⟨e1,e2⟩
  .have c:s.b=b:=by rw[e];rfl
   have hp:a=one b _:=hp;exact .inr ⟨pad,by rw[c];exact e,by rw[c,hp];simp[one]⟩
theorem EM{n:Int}(b:1<=n/\n<=4)(a:Uk σ):bB prog bM 14 #[aF n] σ [] (λv σ' As=>∃ c:CV,tT σ σ' c.G c.ah/\v=.tuple #[az c.G.b,aF 0]/\As=[dm c]/\c.ah.map (·.s)=((upto n).map λk=>kU k n)/\c.aH=[]/\c.aC=[]/\c.aj=false):=by refine bB.of ?_;intro Post os out kd F c' cs C d e;refine Vz ?_;refine aG.lj (A:=[]) (Ul b a) ?_;rintro v σ' aT ⟨c,N,rfl,rfl,h1,f,g,h⟩;have C:ab prog true (bM.bw σ') (aG prog Post bM σ' 0 os out):=aG.eL;refine MY ?_;refine C.aay underlying46 rfl ?_;refine oN ?_;exact aG.fe d e ⟨c,N,rfl,rfl,h1,f,g,h⟩
theorem gM{ao:Bool}{nm:Value}:aI prog ao cX 30 #[.nilIface,nm,aF at_] [] (λv As=>v=aF 0/\As=[]):=by refine aI.of λR C kd d F c cs a b=>?_;refine su ?_;refine gV ?_;refine C.aay underlying46 rfl ?_;refine fB ?_;exact C.cG a b ⟨rfl,rfl⟩
def Cj:Option Nat->Int
 |none=>0
 |some k=>k+1
end
section
open Go.Proofs Go.Conc
section
variable{P:bT}{ao:Bool}{B:lM}{R:Nat->aO->Array Obj->Prop}{d:Nat}{As:List HP}
variable{fn:bN}{kd:Kd}{n:Nat}{e:Nat->Value}{ds:List eK}{k:List Item}{cs:List Frame}
variable{O:Array Oper}{i:Nat}{aa:List Nat}{t:Nat}{ty:aP}{pos:String}{af:Array Edge}{gd:Option (Nat×Bool)}{x y:dp}
theorem ab.eqQ(C:ab P ao B R){op:BinOp}{r:Bool}{f:aP}[g:Pt P tt f]{a:Option Addr}(j:bk O i=some ⟨some t,.binOp op tt x y t2,ty,pos,af,gd⟩)(h:At R d As (gr fn kd n (put e t<|.bool<|a.isNone==r) ds (.inRegion O aa::k) cs))
  (b:isEq op=some r:=by rfl) (hx:ev n e x=.pointer a:=by rfl) (l:ev n e y=.pointer none:=by rfl) (m:aN O n e gd=true:=by rfl):At R d As (gr fn kd n e ds (.inRegion O (i::aa)::k) cs):=
 C.v0 j h (by
  unfold execOp;simp only[hx,l];refine bH (a:=.bool<|a.isNone==r) ?_ rfl;have c:gG P (Op.equal tt (.pointer a)<|.pointer none)=some a.isNone:=by unfold Op.equal;show gG P (Op.equalIn (9998+1+1) _ _ _)=_;unfold Op.equalIn;refine bH (gq g.h) ?_;cases a<;>rfl
  cases op<;>first|(cases b;done)|skip
  .obtain rfl:=cA b;refine bH (a:=()) (by unfold eqGuard;rfl) ?_;refine bH c ?_;cases a<;>rfl
  .obtain rfl:=cA b;refine bH (a:=()) (by unfold eqGuard;rfl) ?_;refine bH c ?_;cases a<;>rfl) m
end
structure zf where
 kind:Int
 cl:Int
 a:Int
 b:Int
 c:Int
 so:Value
 ops:List bO
def vi(s:zf):List Value:=[aF s.kind,aF s.cl,aF s.a,aF s.b,aF s.c,s.so]
def Z64(x:Int):Prop:= -9223372036854775808<=x/\x<=9223372036854775807
structure vj(I:HL)(bot:Nat)(s:zf):Prop where
 kind:Z64 s.kind
 cl:Z64 s.cl
 a:Z64 s.a
 b:Z64 s.b
 c:Z64 s.c
 o:Ci I bot uR 3 s.so s.ops
 z:∀ o∈s.ops,OpZ o
 len:s.ops.length*24<=140737488355328
theorem vj.mono{I I':HL}{bot:Nat}{s:zf}(h:vj I bot s)(hs:Sub I I'):vj I' bot s:={h with o:=h.o.mono hs}
structure qF(σ:Gh):Prop where
 n:σ.n≠0
 no:∀ i,σ.aU i=none
theorem qF.ok(h:qF σ):Uk σ:=⟨h.n,λi s e=>by rw[h.no]at e;cases e⟩
end
section
open Go.Proofs Go.Conc
variable{R:Nat->aO->Array Obj->Prop}{d:Nat}{As F L:List HP}{g:aO}{rs:List vR}{q:Nat}
theorem XE(hi:q<rs.length)(hf:Fo (all<|rs.map uT) As L)(h:At R d (bK db 3 67 rs[q].so rs[q].ops::bK dk 1 21 rs[q].sr rs[q].reads::all ((rs.eraseIdx q).map uT)::L) g):At R d As g:=
 Ft (f:=uT) hi hf λH s=>h H<|Sat.flat (l:=[bK db 3 67 rs[q].so rs[q].ops,bK dk 1 21 rs[q].sr rs[q].reads]) s
def xB(d:Int)(m:List (Int×Int)):List Int:=(List.range 26).map λ(k:Nat)=>(aB m<|97+(k:Int)).getD d
theorem ns(d:Int)(m:List (Int×Int)):(xB d m).length=26:=by simp[xB]
theorem Ck(d:Int)(m:List (Int×Int)){k:Nat}(h:k<26):(xB d m)[k]'(by rw[ns];exact h)=(aB m<|97+(k:Int)).getD d:=by simp[xB]
def Di(d:Int)(m:List (Int×Int))(k:Nat):List Int:=(xB d m).take k++List.replicate (26-k) 0
theorem po(d:Int)(m:List (Int×Int)){k:Nat}(h:k<=26):(Di d m k).length=26:=by simp[Di,ns];omega
theorem Ad(d:Int)(m:List (Int×Int)){k:Nat}(h:k<26):(Di d m k).set k ((aB m<|97+(k:Int)).getD d)=Di d m (k+1):=by
 unfold Di;have hl:((xB d m).take k).length=k:=by rw[nO,ns];omega
 rw[ZP _ _ ai,hl,Ar,show 26-k=(26-(k+1))+1 by omega,List.replicate_succ,uK,js (by rw[ns];exact h),Ck d m h,rT];rfl
theorem Ns(d:Int)(m:List (Int×Int)):Di d m 26=xB d m:=by unfold Di;rw[lA (by rw[ns];exact fC _)];simp
structure Over(l' lx:List (Int×Int))(qL:List Int):Prop where
 keys:lx.map (·.1)=l'.map (·.1)
 nd:(l'.map (·.1)).Nodup
 vn:qL.Nodup
 vs:∀ k∈qL,k∈l'.map (·.1)
theorem n7{X:Type}[DecidableEq X]:∀ {a b:List X},a.Nodup->(∀ x∈a,x∈b)->a.length<=b.length
 |[],_,_,_=>fp _
 |x::a,b,h,hs=>by
  have f:=hs x<|fX ..;have e:=qP.1 h;have hp:=QY f;have:=n7 (b:=b.erase x) e.2 λy c=>by
   have h1:=hp.mem_iff.1<|hs y<|fg _ c;rcases gU.1 h1 with d|d
   .rw[d]at c;exact absurd c e.1
   .exact d
  rw[hp.length_eq];simp only[nN];omega
theorem Over.step{a b:List (Int×Int)}{qL:List Int}(h:Over a b qL){w:Int}(hm:(k,w)∈b)(d:k∉qL)(w':Int):Over a (bC b k w') (k::qL)/\qL.length<a.length/\(aB b k).isSome=true:=by
 have g:(b.map (·.1)).Nodup:=by rw[h.keys];exact h.nd
 have e:=eR g hm;have i:k∈a.map (·.1):=by rw[<- h.keys];exact cq.2 ⟨_,hm,rfl⟩
 have f:∀ x∈k::qL,x∈a.map (·.1):=λx c=>by
  rcases gU.1 c with rfl|c
  .exact i
  .exact h.vs x c
 refine⟨⟨by rw[xQ,e];exact h.keys,h.nd,qP.2 ⟨d,h.vn⟩,f⟩,?_,by rw[e];rfl⟩;have:=n7 (qP.2 ⟨d,h.vn⟩) f;simp only[nN,eM]at this;omega
theorem Lh{c:CV}(N:c.ah.length<=4):bB prog bM 40 #[az c.G.b,aF k] σ [dm c]
  (λv σ' As=>σ'=σ/\∃ (sl:ay) (a:List (Int×Int)),v=.tuple #[sl.v,aF a.length]/\(a.map (·.1)).Nodup/\(match jZ c.ah k with|none=>a=[]|some v=>a.Perm (v.s.values.filter λp=>p.2 != 0))/\As=[bK dk 1 21 sl (xB 0 a),dm c]):=by
 refine bB.of ?_;intro Post os out kd F c' cs C O P;refine MY ?_;refine aG.lj (F5 N) ?_;rintro v σ' aT ⟨rfl,b',a,rfl,i,rfl⟩;refine cH ?_;refine At.G9 (A:=dt .u8 fT b' a) Fo.au xz λK=>?_;have E:∀ q w,aB a q=some w->w≠0:=λq w Q=>by
  have H:=cg Q;cases L:jZ c.ah k with
  |none=>rw[L]at i;rw[i]at H;cases H
  |some u=>rw[L]at i;have:=gW.1<|i.mem_iff.1 H;simpa using this.2
 refine dT ?_;refine C.ms (f:=dk) (a0:=0) rfl rfl λb=>?_;refine bL ?_;refine At.own (l:=Di 0 a 0) (f:=dk) (z:=1) ⟨some ⟨b,0,none⟩,26,26⟩ [] rfl rfl (fC _) .head ?_;refine bL ?_;refine C.lnM rfl ?_ (g:=fT) (l:=a);refine dY ?_;refine C.qK rfl ?_ (s:=⟨some ⟨b,0,none⟩,26,26⟩) (l:=Di 0 a 0) (f:=dk);refine bL ?_;refine C.cN (X:=Nat) (λx=>[(6,.map<|some b'),(7,.slice (some ⟨b,0,none⟩) 26 26),(8,aF a.length),(20,aF 26),(21,aF x)]) (λx=>bK dk 1 21 ⟨some ⟨b,0,none⟩,26,26⟩ (Di 0 a x)::dt .u8 fT b' a::dm c::F) (λx=>x<=26) (λx=>26-x) 0 ⟨rfl,rfl,rfl,rfl,rfl,trivial⟩ (fp _) ?_;intro x e o r;refine bL ?_;refine C.cmp rfl (λR=>?_) λR=>?_
 .refine bL ?_;have d:x<26:=ai;refine pP ?_;refine C.lkC (g:=fT) (l:=a) (q:=97+(x:Int)) rfl (λS t=>?_) λt=>?_
  .refine vH ?_;refine C.ed rfl ?_ (hf:=E _ _ t);refine iE ?_;refine C.dZ rfl ?_ (s:=⟨some ⟨b,0,none⟩,26,26⟩) (l:=Di 0 a x) (f:=dk) (j:=x) (hj:=by rw[po 0 a o];exact d);refine C.j5 (s:=⟨some ⟨b,0,none⟩,26,26⟩) (l:=Di 0 a x) (j:=x) ((aB a<|97+(x:Int)).getD 0) rfl ?_ (hj:=by rw[po 0 a o];exact d) (ha:=by rw[t];rfl);refine fB ?_;rw[Ad 0 a d];exact again r (x+1) d ai
  .refine lu ?_;refine fB ?_;refine C.dZ rfl ?_ (s:=⟨some ⟨b,0,none⟩,26,26⟩) (l:=Di 0 a x) (f:=dk) (j:=x) (hj:=by rw[po 0 a o];exact d);refine C.j5 (s:=⟨some ⟨b,0,none⟩,26,26⟩) (l:=Di 0 a x) (j:=x) ((aB a<|97+(x:Int)).getD 0) rfl ?_ (hj:=by rw[po 0 a o];exact d) (ha:=by rw[t];rfl);refine fB ?_;rw[Ad 0 a d];exact again r (x+1) d ai
 .refine dY ?_;have T:x=26:=ai;subst T;rw[Ns];refine C.rn (g:=fT) (l:=a) rfl (λM=>?_)
  skip
  refine C.go ?_;refine C.cN (X:=List (Int×Int)×List Int) (λ_=>[(6,.map<|some b'),(7,.slice (some ⟨b,0,none⟩) 26 26),(8,aF a.length),(43,.pointer<|some ⟨M,0,none⟩)]) (λy=>Kk .u8 fT b' M y.1 y.2::bK dk 1 21 ⟨some ⟨b,0,none⟩,26,26⟩ (xB 0 a)::dm c::F) (λy=>Over a y.1 y.2) (λy=>a.length-y.2.length) (a,[]) ⟨rfl,rfl,rfl,rfl,trivial⟩ ⟨rfl,K,.nil,by simp⟩ ?_;rintro⟨B,qL⟩ e D r;dsimp only at D⊢;refine bL ?_;refine C.nx (g:=fT) (l:=B) rfl (λh U m n=>?_) λn=>?_
  .refine dT ?_;have W:(B.map (·.1)).Nodup:=by rw[D.keys];exact D.nd
   have I:=eR W m;obtain⟨J,Z,Y⟩:=D.step m n 7;refine ga ?_;refine C.ent I rfl ?_ Fo.au;refine gV ?_;refine C.muI (w:=7) (l:=B) (q:=h) (g:=fT) Y rfl ?_;refine C.go ?_;exact again r (bC B h 7,h::qL) J (by simp only[nN];omega)
  .refine pP ?_;exact aG.fe O P ⟨rfl,⟨some ⟨b,0,none⟩,26,26⟩,a,rfl,K,i,rfl⟩
theorem PL{c:CV}(H:c.ah.length<=4):bB prog bM 78 #[az c.G.b,aF k] σ [dm c]
  (λv σ' As=>σ'=σ/\∃ (sl:ay) (a:List (Int×Int)),v=.tuple #[sl.v,aF a.length]/\(a.map (·.1)).Nodup/\(match jZ c.ah k with|none=>a=[]|some v=>a.Perm v.s.aQ)/\As=[bK aK 1 3 sl (xB (-1) a),dm c]):=by
 refine bB.of ?_;intro Post os out kd F c' cs C I J;refine MY ?_;refine aG.lj (IM H) ?_;rintro v σ' aT ⟨rfl,b',a,rfl,K,rfl⟩;refine cH ?_;refine At.G9 (A:=dt .u8 eh b' a) Fo.au xz λE=>?_;refine dT ?_;refine C.ms (f:=aK) (a0:=0) rfl rfl λb=>?_;refine bL ?_;refine At.own (l:=Di (-1) a 0) (f:=aK) (z:=1) ⟨some ⟨b,0,none⟩,26,26⟩ [] rfl rfl (fC _) .head ?_;refine bL ?_;refine C.qK rfl ?_ (s:=⟨some ⟨b,0,none⟩,26,26⟩) (l:=Di (-1) a 0) (f:=aK);refine bL ?_;refine C.cN (X:=Nat) (λx=>[(6,.map<|some b'),(7,.slice (some ⟨b,0,none⟩) 26 26),(18,aF 26),(19,aF x)]) (λx=>bK aK 1 3 ⟨some ⟨b,0,none⟩,26,26⟩ (Di (-1) a x)::dt .u8 eh b' a::dm c::F) (λx=>x<=26) (λx=>26-x) 0 ⟨rfl,rfl,rfl,rfl,trivial⟩ (fp _) ?_;intro x e o p;refine bL ?_;refine C.cmp rfl (λL=>?_) λL=>?_
 .refine bL ?_;have d:x<26:=ai;refine pP ?_;refine C.lkC (g:=eh) (l:=a) (q:=97+(x:Int)) rfl (λM u=>?_) λu=>?_
  .refine lu ?_;refine bL ?_;refine C.dZ rfl ?_ (s:=⟨some ⟨b,0,none⟩,26,26⟩) (l:=Di (-1) a x) (f:=aK) (j:=x) (hj:=by rw[po (-1) a o];exact d);refine C.j5 (s:=⟨some ⟨b,0,none⟩,26,26⟩) (l:=Di (-1) a x) (j:=x) ((aB a<|97+(x:Int)).getD<|-1) rfl ?_ (hj:=by rw[po (-1) a o];exact d) (ha:=by rw[u];rfl);refine fB ?_;rw[Ad (-1) a d];exact again p (x+1) d ai
  .refine lu ?_;refine fB ?_;refine C.dZ rfl ?_ (s:=⟨some ⟨b,0,none⟩,26,26⟩) (l:=Di (-1) a x) (f:=aK) (j:=x) (hj:=by rw[po (-1) a o];exact d);refine C.j5 (s:=⟨some ⟨b,0,none⟩,26,26⟩) (l:=Di (-1) a x) (j:=x) ((aB a<|97+(x:Int)).getD<|-1) rfl ?_ (hj:=by rw[po (-1) a o];exact d) (ha:=by rw[u];rfl);refine fB ?_;rw[Ad (-1) a d];exact again p (x+1) d ai
 .refine dY ?_;refine C.lnM rfl ?_ (g:=eh) (l:=a);refine dY ?_;have N:x=26:=ai;subst N;rw[Ns];refine C.rn (g:=eh) (l:=a) rfl (λi=>?_)
  skip
  refine C.go ?_;refine C.cN (X:=List (Int×Int)×List Int) (λ_=>[(6,.map<|some b'),(7,.slice (some ⟨b,0,none⟩) 26 26),(11,aF a.length),(40,.pointer<|some ⟨i,0,none⟩)]) (λy=>Kk .u8 eh b' i y.1 y.2::bK aK 1 3 ⟨some ⟨b,0,none⟩,26,26⟩ (xB (-1) a)::dm c::F) (λy=>Over a y.1 y.2) (λy=>a.length-y.2.length) (a,[]) ⟨rfl,rfl,rfl,rfl,trivial⟩ ⟨rfl,E,.nil,by simp⟩ ?_;rintro⟨r,qL⟩ e t p;dsimp only at t⊢;refine bL ?_;refine C.nx (g:=eh) (l:=r) rfl (λh O m n=>?_) λn=>?_
  .refine dT ?_;have P:(r.map (·.1)).Nodup:=by rw[t.keys];exact t.nd
   have B:=eR P m;obtain⟨D,R,Q⟩:=t.step m n 77;refine ga ?_;refine C.ent B rfl ?_ Fo.au;refine gV ?_;refine C.muI (w:=77) (l:=r) (q:=h) (g:=eh) Q rfl ?_;refine C.go ?_;exact again p (bC r h 77,h::qL) D (by simp only[nN];omega)
  .refine pP ?_;exact aG.fe I J ⟨rfl,⟨some ⟨b,0,none⟩,26,26⟩,a,rfl,E,K,rfl⟩
def Un(l:List Int):Nat:=(l.filter (· != 0)).length
theorem Uo(d:Int):xB d []=List.replicate 26 d:=by
 apply Rm
 .simp[xB]
 .intro i h1 a;rw[List.getElem_replicate];exact Ck d [] (by rw[ns]at h1;exact h1)
structure afR(P:List (Int×Int))(V:List Int):Prop where
 len:V.length=26
 z:∀ x∈V, -9223372036854775808<=x/\x<=9223372036854775807
 eq:∀ l':List (Int×Int),(l'.map (·.1)).Nodup->l'.Perm (P.filter λp=>p.2 != 0)->xB 0 l'=V/\l'.length=Un V
structure afS(P:List (Int×Int))(L:List kh):Prop where
 rng:∀ h∈L,97<=h.key/\h.key<=122
 eq:∀ l':List (Int×Int),(l'.map (·.1)).Nodup->l'.Perm P->l'.length=L.length/\∀ h∈L,(aB l' h.key).getD (-1)=h.tx
def QQ(x:Int):Prop:= -9223372036854775808<=x/\x<=9223372036854775807
theorem abS(a X Y:List Value)(h:a.length=X.length+Y.length):wr (wr a.toArray 0 X) X.length Y=(X++Y).toArray:=by obtain⟨P,Q,rfl,c⟩:∃ P Q,a=P++Q/\P.length=X.length:=⟨a.take X.length,a.drop X.length,(wj _ _).symm,by rw[nO];omega⟩;have h1:=mM X [] P Q c;simp only[ek,CM]at h1;rw[h1];have b:=mM Y X Q [] (by rw[iV]at h;omega);simp only[lS]at b;exact b
theorem IX{α:Type}{f:α->List Value}[b:jf f z]{l:List α}:∀ v∈flat f l,gJ v=true:=λv c=>by obtain⟨a,_,h⟩:=E5.1 c;exact b.one a v h
variable{σ:Gh}{b:Nat}{m:Int}{bg:ay}{ah aC dn:Value}{aj:Bool}{st:Int}{aH:List dV}
theorem EN(n:q<aH.length)(hl:aH.length<2^30):aI prog true (bM.bw σ) 133 #[az b,aF q] [pS b m ah bg.v aC dn aj st,bK dF 7 190 bg aH]
  (λv As=>∃ t:ay,As=[pS b m ah t.v aC dn aj st,bK dF 7 190 t<|aH.eraseIdx q]):=by
 refine aI.of λR C kd d F c cs y B=>?_;refine cH ?_;refine At.G9 (A:=bK dF 7 190 bg aH) Fo.au (λh x=>Hd ai h x) λi=>?_;obtain⟨u,o,p⟩:=i;have g:(aH.take q).length=q:=by rw[nO];omega
 have j:(aH.drop<|q+1).length=aH.length-1-q:=by rw[E6];omega
 refine gV ?_;refine C.qK rfl ?_ (s:=bg) (l:=aH) (f:=dF);refine C.ar rfl ?_ (r:=((aH.length-1:Nat):Int)) (ha:=congrArg some ai);refine C.ms (f:=dF) (a0:=⟨bA,aV,aV⟩) rfl rfl λk=>?_;refine bL ?_;refine C.C9 (di 12 0 18) 18 [8,9,17] 3 ?_ (W:=[pS b m ah bg.v aC dn aj st,bK dF 7 190 bg aH]);refine oB ?_;refine Dr.p (λh=>C.shi rfl h (hi:=(q:Int)) (hh:=by constructor<;>omega)) ?_;refine qv ?_;refine Dr.p (λh=>C.slo rfl h (hx:=by show Value.slice bg.a bg.len bg.cap=_;rw[u,o]) (lo:=((q+1:Nat):Int)) (hh:=by constructor<;>omega)) ?_;refine Dr.chain rfl ?_ λ_ s=>dg.sat dg.au s;refine Ch.m 8 (bj λe aa i=>?_);refine C.cp (b:=k) (len:=(((aH.length-1:Nat):Int)).toNat) (cap:=(((aH.length-1:Nat):Int)).toNat) (z:=7) (off:=0) (xs:=flat dF<|aH.take q) (m:=(aH.take q).length) rfl (λH st=>SM (f:=dF) Fo.au st (λ_=>rfl) q n u) (hm:=by rw[g,gN];omega) (Rv:=fL (z:=7) (f:=dF) (λ_=>rfl) _) (h1:=IX (f:=dF)) (hu:=.head) (hz:=by rw[g,jR (z:=7) λ_=>rfl,Rn];simp only[CM,gN];omega) ?_;refine i _ _ qM ?_;refine Ch.q 9 (λh=>C.slo rfl h (lo:=(((aH.take q).length:Nat):Int)) (a':=⟨k,if aH.length-1=q then 0 else q*7,none⟩) (ha:=by rw[g];simp only[gN];split<;>simp) (hh:=by rw[g];constructor<;>omega)) ?_;refine Ch.m 17 (bj λe aa i=>?_);refine C.cp (b:=k) (len:=(((aH.length-1:Nat):Int)).toNat-(((aH.take q).length:Nat):Int).toNat) (cap:=(((aH.length-1:Nat):Int)).toNat-(((aH.take q).length:Nat):Int).toNat) (z:=7) (off:=if aH.length-1=q then 0 else q*7) (xs:=flat dF<|aH.drop<|q+1) (m:=(aH.drop<|q+1).length) rfl (λH st=>SN (f:=dF) (s:=bg) Fo.au st (λ_=>rfl) q n p) (hm:=by rw[j,g];simp only[gN];omega) (Rv:=fL (z:=7) (f:=dF) (λ_=>rfl) _) (h1:=IX (f:=dF)) (hu:=.head) (hz:=by rw[zR,jR (z:=7) λ_=>rfl,Rn];simp only[CM,gN];split<;>omega) ?_;refine i _ _ qM ?_;refine S5 ?_;have D:wr (wr (iv dF (List.replicate (((aH.length-1:Nat):Int)).toNat (⟨bA,aV,aV⟩:dV)) []) 0<|flat dF<|aH.take q) (if aH.length-1=q then 0 else q*7) (flat dF<|aH.drop<|q+1)=iv dF (aH.eraseIdx q) []:=by
  rw[Q3];have w:(flat dF<|aH.take q).length=q*7:=by rw[fL (z:=7) (λ_=>rfl),g]
  have E:(flat dF<|aH.drop<|q+1).length=(aH.length-1-q)*7:=by rw[fL (z:=7) (λ_=>rfl),j]
  have I:(flat dF<|List.replicate (((aH.length-1:Nat):Int)).toNat (⟨bA,aV,aV⟩:dV)).length=(aH.length-1)*7:=by rw[fL (z:=7) (λ_=>rfl),Rn,gN]
  have J:=abS (flat dF (List.replicate (((aH.length-1:Nat):Int)).toNat (⟨bA,aV,aV⟩:dV))++[]) (flat dF<|aH.take q) (flat dF<|aH.drop<|q+1) (by rw[lS,w,E,I];omega);unfold iv;rw[kN,lS<|flat dF _++flat dF _,<- J,w];split
  .rename_i K;have:aH.drop (q+1)=[]:=pX ai;rw[this];rfl
  .rfl
 rw[D];have a:(aH.eraseIdx q).length=aH.length-1:=by rw[Rh,aJ n]
 refine At.own (l:=aH.eraseIdx q) (f:=dF) (z:=7) ⟨some ⟨k,0,none⟩,(((aH.length-1:Nat):Int)).toNat,(((aH.length-1:Nat):Int)).toNat⟩ [] (by rw[a,gN]) (by rw[a,gN,CM,Nat.add_zero]) (by rw[a,gN];exact fC _) .head ?_;exact C.eY y B ⟨⟨some ⟨k,0,none⟩,(((aH.length-1:Nat):Int)).toNat,(((aH.length-1:Nat):Int)).toNat⟩,rfl⟩
end
section
open Go.Proofs Go.Conc
def CV.abs(c:CV):WP:=⟨c.ah.map (·.s.abs),c.aH.map (·.toMsgR),c.aC.map (·.toTxR),c.aj⟩
def oP(o a:Int)(c:CV):Prop:=∀ v∈c.ah,y7 o a v.s
theorem y7.mono{o' a':Int}{s:dw}(h:y7 o a s)(c:o<=o')(ha:a<=a'):y7 o' a' s:=⟨by have:=h.z;omega,by have:=h.o;omega,λu b p hp=>by have:=h.a u b p hp;omega⟩
structure fy(c:CV)(I:HL)(o a:Int)(r:WP×Int)(er:Option Nat)(c':CV)(I':HL):Prop where
 sub:Sub I I'
 j:wh I' c'
 g:c'.G=c.G
 h:c'.ah.map (·.h)=c.ah.map (·.h)
 r:(c'.abs,Cj er)=r
 cn:oP o a c'
theorem fy.same{c:CV}{z:Int}(b:wh I c)(d:oP o a c)(hz:Cj er=z):fy c I (o+2^15) (a+1) (c.abs,z) er c I:=
 ⟨Sub.refl _,b,rfl,rfl,by rw[hz],λv e=>(d v e).mono ai ai⟩
def MQ(σ:Gh)(c:CV)(eb:Nat->Nat×Nat)(Q:Option Nat->CV->HL->Prop):Value->Gh->List HP->Prop:=λv σ' As=>
 ∃ er c' I',v=Xu eb er/\(∀ k,er=some k->k<9)/\σ'=σ/\c'.G.b=c.G.b/\Q er c' I'/\As=[tQ 1 c',bI I']
def CQ(σ:Gh)(c:CV)(I:HL)(eb:Nat->Nat×Nat)(nm:ByteArray)(at_:Int)(Q:Option Nat->CV->HL->Prop):Value->Gh->List HP->Prop:=λv σ' As=>
 ∃ er c' I' L,T9 eb (.string nm) at_ er v L/\(∀ k,er=some k->k<9)/\σ'=σ/\As=dm c'::bI I'::L/\((c.aj=true/\er=some 8/\c'=c/\I'=I)\/(c.aj=false/\Q er c' I'))
theorem dg.rP{F:List HP}:∀ A:List HP,dg (A++F) F
 |[]=>.refl
 |_::A=>.drop<|dg.rP A
theorem dg.IY{A F:List HP}:∀ L:List HP,dg (L++(A++F))<|L++F
 |[]=>dg.rP A
 |_::L=>.cons .head<|dg.IY L
theorem vX{c:CV}[bd:Body prog f fu code nf]{Q:Option Nat->CV->HL->Prop}(i:iX I eb)
  (hf:c.aj=false->bB prog bM f (#[]++([]:List Value).toArray++caps) σ (tQ 1 c::bI I::A) (MQ σ c eb Q)):
  bB prog bM 52 #[az c.G.b,.string nm,aF at_,.func (.func f) #[] caps] σ (dm c::bI I::A) (CQ σ c I eb nm at_ Q):=by
 have h:=EK (nm:=nm) (at_:=at_) (A:=A) (Q:=λer σ' c' I' g=>σ'=σ/\Q er c' I'/\g=[]/\∀ k,er=some k->k<9) i λj Post os out kd F fr cs d b=>hf j Post os out kd F fr cs d (by rintro v σ' aT ⟨er,c',I',h1,a,rfl,e,l,rfl⟩;exact b _ _ _ ⟨er,c',I',[],h1,a,rfl,e,rfl,l,rfl,a⟩)
 intro Post os out kd F fr cs d b;refine h Post os out kd F fr cs d ?_;rintro v σ' aT ⟨er,c',I',g,L,h1,rfl,h|⟨a,rfl,m,rfl,e⟩⟩
 .obtain⟨a,rfl,rfl,rfl,rfl,rfl⟩:=h;refine At.mN ?_ (b _ _ _ ⟨some 8,c',I',L,h1,(λk n=>by cases n;decide),rfl,rfl,.inl ⟨a,rfl,rfl,rfl⟩⟩);simp only[fJ,rT];exact .cons .head<|.cons .head<|dg.IY L
 .rw[lS];exact b _ _ _ ⟨er,c',I',L,h1,e,rfl,rfl,.inr ⟨a,m⟩⟩
def agN:ByteArray:=⟨#[65,103,97,105,110]⟩
structure PM(c:CV):Prop where
 n:1<=c.ah.length/\c.ah.length<=4
 aH:c.aH.length<2^20
 aC:c.aC.length<=60
 ae4:∀ t∈c.aC,np t.ops/\1<=t.ops.length
theorem Uq{t:Int}(hs:w.aj=false)(h:t<0\/(w.aC.length:Int)<=t):gS w 1 t 0=(w,4):=by unfold gS;rw[ax (by decide),hs,ax (by decide),aJ rfl,aJ h]
theorem Ur{t:Int}(hs:w.aj=false)(h:¬ (t<0\/(w.aC.length:Int)<=t))(a:400<=w.aH.length):gS w 1 t 0=(w,3):=by unfold gS;rw[ax (by decide),hs,ax (by decide),aJ rfl,ax h,aJ a]
theorem abT{t:Int}(hs:w.aj=false)(h:¬ (t<0\/(w.aC.length:Int)<=t))(a:¬ 400<=w.aH.length):gS w 1 t 0=(oX w t.toNat,0):=by unfold gS;rw[ax (by decide),hs,ax (by decide),aJ rfl,ax h,ax a]
theorem CV.F9(c:CV):c.abs.aC.length=c.aC.length:=by simp[CV.abs]
theorem CV.Ae(c:CV):c.abs.aH.length=c.aH.length:=by simp[CV.abs]
theorem CV.Us(c:CV):c.abs.sh.length=c.ah.length:=by simp[CV.abs]
theorem Ut{c:CV}{t:Int}(r:iX I eb)(d:wh I c)(z:PM c)(f:oP o a c)(A:c.aj=false):
  bB prog bM 130 (#[]++([]:List Value).toArray++#[az b3,az b2]) σ (tQ 1 c::bI I::[dq b3 (.cells #[aF t] 3 (0,0)),dq b2<|.cells #[az c.G.b] 23 (0,0)])
   (MQ σ c eb<|fy c I (o+2^15) (a+1)<|gS c.abs 1 t 0):=by
 refine bB.of ?_;intro Post os out kd F c' cs C g i;refine cH ?_;obtain⟨G,ah,aH,aC,aj⟩:=c;obtain rfl:aj=false:=A;obtain⟨s,B,D,u⟩:=z;dsimp only at s B D u;obtain⟨t2,E⟩:=r.g 2 (by decide);obtain⟨t3,x⟩:=r.g 3 (by decide);refine dm.opn (m:=1) (h:=λhs bg tx=>?_);have y:(ah.map (·.h.bh)).length=ah.length:=eM ..;refine dY ?_;by_cases j:t<0
 .refine C.dx (di 4 0 11++[(3,11)]) 12 [] 0 ?_;refine lN ?_;refine Dr.p (λh=>C.fQ rfl h (hf:=j)) ?_;refine Kw ?_;refine QF ?_;refine C.xX Fo.au x (jm _ _) rfl ?_;refine bL ?_;refine dm.cls (m:=1) ⟨G,ah,aH,aC,false⟩ ?_;exact aG.fe g i ⟨some 3,⟨G,ah,aH,aC,false⟩,I,rfl,(λk e=>by cases e;decide),rfl,rfl,(Uq (w:=CV.abs ⟨G,ah,aH,aC,false⟩) (t:=t) rfl<|.inl j).symm▸fy.same d f rfl,rfl⟩
 .by_cases l:t>=(aC.length:Int)
  .refine C.dx (di 4 0 11++[(3,11)]) 12 [] 0 ?_;refine lN ?_;refine Dr.p (λh=>C.ed rfl h (hf:=j)) ?_;refine oB ?_;refine Dr.p (λh=>C.fQ rfl h (hf:=l)) ?_;refine Da ?_;refine QF ?_;refine C.xX Fo.au x (jm _ _) rfl ?_;refine bL ?_;refine dm.cls (m:=1) ⟨G,ah,aH,aC,false⟩ ?_;exact aG.fe g i ⟨some 3,⟨G,ah,aH,aC,false⟩,I,rfl,(λk e=>by cases e;decide),rfl,rfl,(Uq (w:=CV.abs ⟨G,ah,aH,aC,false⟩) (t:=t) rfl<|.inr (by rw[CV.F9];exact l)).symm▸fy.same d f rfl,rfl⟩
  .refine C.dx (di 4 0 11++[(3,11)]) 12 [] 0 ?_;refine lN ?_;refine Dr.p (λh=>C.ed rfl h (hf:=j)) ?_;refine oB ?_;refine Dr.p (λh=>C.ed rfl h (hf:=l)) ?_;refine Da ?_;refine S5 ?_;refine C.cmp rfl (λH=>?_) λH=>?_
   .refine dY ?_;refine C.xX Fo.au E (jm _ _) rfl ?_;refine bL ?_;refine dm.cls (m:=1) ⟨G,ah,aH,aC,false⟩ ?_;exact aG.fe g i ⟨some 2,⟨G,ah,aH,aC,false⟩,I,rfl,(λk e=>by cases e;decide),rfl,rfl,(Ur (w:=CV.abs ⟨G,ah,aH,aC,false⟩) (t:=t) rfl (by rw[CV.F9];dsimp only;omega) (by rw[CV.Ae];omega)).symm▸fy.same d f rfl,rfl⟩
   .refine dT ?_;obtain⟨q,rfl⟩:=mJ (show 0<=t by omega);have n:q<aC.length:=ai;have p:=dG n;refine dT ?_;refine C.fZ (ze (σ:=σ) (b:=G.b) (m:=1) (hs:=hs) (bg:=bg) (zE:=tx) (I:=I) (hl:=ah.map (·.h.bh)) (aH:=aH) (aC:=aC) (tx:=q) (by rw[y];exact s) ai n (d.aC _ p).o<|u _ p) ?_;rintro v aT ⟨K,rfl,rfl⟩;refine cH ?_;rw[y];refine dY ?_;refine dm.cls (m:=1) ⟨G,ah,aH++[Cf ah.length aC[q] q],aC,false⟩ ?_;refine aG.fe g i ⟨none,⟨G,ah,aH++[Cf ah.length aC[q] q],aC,false⟩,I,rfl,(λk e=>by cases e),rfl,rfl,⟨Sub.refl _,⟨λm hm=>?_,d.aC,d.sh⟩,rfl,rfl,?_,λv J=>(f v J).mono ai ai⟩,rfl⟩
    .rcases bS.1 hm with hm|hm
     .exact d.aH m hm
     .obtain rfl:=dR.1 hm;exact⟨(d.aC _ p).o,.nil ..,n9 20⟩
    .rw[abT (w:=CV.abs ⟨G,ah,aH,aC,false⟩) (t:=(q:Int)) rfl (by rw[CV.F9];dsimp only;omega) (by rw[CV.Ae];omega)];unfold oX;have e1:(CV.abs ⟨G,ah,aH,aC,false⟩).aC[((q:Int)).toNat]? =some aC[q].toTxR:=by simp[CV.abs,n]
     rw[e1];simp[CV.abs,Cf,Cj]
structure nX(σ:Gh)(c:CV):Prop extends RegC σ c where
 rdn:∀ v∈c.ah,∀ i s,σ.aU i=some s->¬ s.has v.h.rd
variable{P:bT}{Post:Value->World->Prop}{X:vC}{σ:Gh}{h:Nat}{os:Os}{out:Array (Nat×ByteArray)}{d:Nat}{As:List HP}{g:aO}
theorem At.gh(k:σ.aU h=none->(∀ i s,σ.aU i=some s->i<σ.n)->At (aG P Post X σ h os out) d As g):At (aG P Post X σ h os out) d As g:=λH st a b=>k a b.lt H st a b
theorem Uu(σ:Gh)(h j:Nat)(s:dP):(σ.given h j s).aU h=some s:=Go.ConcN.upd_same ..
theorem Li{s sM:dP}(a:σ.aU 0=none)(hj:σ.aU j=some s):(σ.given 0 j sM).given j 0 s=σ:=by
 have c:j≠0:=λz=>by rw[z,a]at hj;cases hj
 obtain⟨n,d,sh,b⟩:=σ;unfold Gh.given;simp only[Gh.mk.injEq,pU,Av]
 funext i
 by_cases e1:i=j
 .subst e1;rw[Go.ConcN.upd_same];exact hj.symm
 .rw[Go.ConcN.upd_ne _ _ e1];by_cases e2:i=0
  .subst e2;rw[Go.ConcN.upd_same];exact a.symm
  .rw[Go.ConcN.upd_ne _ _ e2,Go.ConcN.upd_ne _ _ e2,Go.ConcN.upd_ne _ _ e1]
abbrev wkE(v:HV)(G:CG)(m:Int)(hs aH aC:Value)(aj:Bool)(st:Int)(kd:Nat)(F:List HP):List HP:=
 pS G.b m hs aH aC (.chan<|some G.dn) aj st::dq G.cb (.cells #[az G.b] 23 (0,0))::dq G.dn (.chan 0 #[] false kd kd false)::vh v F
theorem Fo.over{x:HP}{L a:List HP}:∀ A:List HP,Fo x L a->Fo x (A++L) (A++a)
 |[],h=>h
 |_::A,h=>.tail<|Fo.over A h
theorem serve{Post:Value->World->Prop}{σ:Gh}{os:Os}{out:Array (Nat×ByteArray)}{v:HV}{G:CG}{m st:Int}{hs aH aC:Value}{aj:Bool}{kd:Nat}{F:List HP}{sM:dP}{z:Value}
      [bd:Body prog f fu code nf]    {t:aO}
  (hf:aI prog false cX f (a1++[az v.h.bs].toArray++caps) (dB v.h.bs v.s::bI I::A) (ij v.h.bs I o a rs))
  (b:v.h.g≠0) (u:v.h.g<σ.n) (x:σ.aU 0=some sM) (d:sM.cases[0]? =some (rcase v.h.rd z)) (y:∀ i s',σ.aU i=some s'->s'.has v.h.rd->i=0) (B:v.h.wk≠G.dn) (g:F3 v.h G t)
  (k':∀ (I':HL) (s':dw) (so:ay),Sub I I'->ShJ I' s'->s'.abs=rs->y7 o a s'->∀ r,sM.wv r->
   At (aG prog Post bM (σ.given v.h.g 0<|ff v.h G) 0 os out) 0 (wkE {v with s:={s' with out:=[]},kr:=v.kr+1} G m hs aH aC aj st kd<|bK dF 7 190 so s'.out::bI I'::F) (Conc.served r<|commResult sM.cases sM.shape 0 so.v true)):
  At (aG prog Post bM σ v.h.g os out) 0 (wkE v G m hs aH aC aj st kd<|bI I::(A++F)) (Conc.served t<|commResult (ff v.h G).cases (ff v.h G).shape 0 (.func (.func f) a1 caps) true):=by
 have C:ab prog false bM.B0 (aG prog Post bM σ v.h.g os out):=aG.We b;obtain⟨e,cs,⟨e1,rfl⟩,j,k,rfl⟩:=g;have p:commResult (ff v.h G).cases (ff v.h G).shape 0 (.func (.func f) a1 caps) true=.tuple #[aF 0,.bool true,.func (.func f) a1 caps,.agg #[]]:=abC;rw[uo rfl,p,<- kX (e:=e) (l:=[(0,az v.h.bh),(1,.chan<|some G.dn)]) ⟨j,k,trivial⟩];refine ga ?_;refine C.v0 rfl ?_ rfl;refine C.v0 rfl ?_ rfl;refine mE ?_;refine ga ?_;refine At.perm (Ym [_,_,_,_,_,_,_,_,_] A F) ?_;refine cH ?_;refine C.YQ (f:=f) (a1:=a1) (a2:=caps) (vl:=[az v.h.bs]) (aI.less T6 hf) ?_ (hr:=.cons (Fo.over A Fo.au)<|.cons (Fo.over A Fo.au)<|fK.app A);rintro w aT ⟨I',s',D,E,J,K,rfl⟩;refine uz ?_;refine C.C9 (di 21 0 9) 10 [8,9] 1 ?_ (W:=[dq v.h.bh (.cells #[az v.h.bs,.chan<|some v.h.wk,.chan<|some v.h.rd] 120 (0,0))]);refine GA ?_;refine Dr.chain rfl ?_ λ_ s=>dg.sat dg.au s;refine Ch.m 8 (bj λe aa L=>?_);refine C.fZ (aI.less T6 KP) ?_;rintro w aT ⟨so,rfl,rfl⟩;refine cH ?_;refine L _ _ qM ?_;refine Ch.last 9 ⟨_,rfl,rfl⟩ ?_;refine At.mN (show dg _ (wkE {v with s:={s' with out:=[]}} G m hs aH aC aj st kd<|bK dF 7 190 so s'.out::bI I'::F) by exact dg.au) ?_;have q:(v.h.g==0)=false:=by simpa using b
 refine aG.give (c:=v.h.rd) (kk:=0) (kc:=v.kr) (s:=sM) (sH:=ff v.h G) (v:=so.v) (z:=z) (z':=.tuple #[]) u 0 rfl rfl rfl x d y (aT:=wkE {v with s:={s' with out:=[]},kr:=v.kr+1} G m hs aH aC aj st kd<|bK dF 7 190 so s'.out::bI I'::F) ?_ (IW B) ?_ ?_ ?_ ?_ ?_
 .repeat(first|with_reducible exact sT.head|with_reducible apply sT.tail)
 .intro H st;exact(tS (h:=v.h) (C:=G) b (Has.get Has.au st) (Has.get Has.au st) (Has.get Has.au st) rfl (Has.get Has.au st) rfl (Has.get Has.au st)<|Has.get Has.au st).1
 .intro H st;exact(tS (h:=v.h) (C:=G) b (Has.get Has.au st) (Has.get Has.au st) (Has.get Has.au st) rfl (Has.get Has.au st) rfl (Has.get Has.au st)<|Has.get Has.au st).1
 .intro H st;exact(tS (h:=v.h) (C:=G) b (Has.get Has.au st) (Has.get Has.au st) (Has.get Has.au st) rfl (Has.get Has.au st) rfl (Has.get Has.au st)<|Has.get Has.au st).2
 .rw[q];have M:=Mt.way (P:=prog) (ao:=false) (s:=ff v.h G);refine⟨400,?_⟩;refine Way.mono (n:=200+1+60) ?_ ai;refine M.go ?_;refine M.ilp ?_;exact IJ ⟨_,rfl⟩ rfl rfl
 .intro r N;exact k' I' s' so D E J K r N
abbrev onD:List (Nat×Nat):=[(19,0),(20,1),(21,2),(22,3),(23,4),(24,5),(25,6),(26,7),(27,8),(28,9),(29,10),(30,11),(31,12)]
abbrev XH(b bh:Nat)(bg:Value)(rd:Nat):List SE:=[⟨0,19,az b,false⟩,⟨1,20,az b,false⟩,⟨2,21,az b,false⟩,⟨3,22,.pointer<|some ⟨b,3,none⟩,false⟩,⟨4,23,bg,true⟩,⟨5,24,az bh,false⟩,⟨6,25,az bh,false⟩,⟨7,26,.pointer<|some ⟨bh,2,none⟩,false⟩,⟨8,27,.chan<|some rd,true⟩,⟨11,30,az b,false⟩,⟨12,31,.pointer<|some ⟨b,3,none⟩,false⟩]
def onE(E:Nat->Value)(b bh:Nat):Nat->Value:=sV E [(0,az b),(6,az bh)]
def afT(E:Nat->Value)(b bh:Nat)(bg:Value)(rd:Nat)(kd:Kd)(cs:List Frame)(r:aO):Prop:=∃ e aa,Stood (cO<|cR<|cR<|(f135.body).getD .skip) (onE E b bh) onD (XH b bh bg rd) 9 e aa/\r=gr 135 kd 32 e [] (.inRegion (cO<|cR<|cR<|(f135.body).getD .skip) (9::aa)::[]) cs
def pq(E:Nat->Value)(b bh:Nat)(bg:Value)(rd:Nat)(kd:Kd)(cs:List Frame):dP:=⟨#[rcase rd (.slice none 0 0)],.recv false,afT E b bh bg rd kd cs,[(⟨b,3,none⟩,bg),(⟨bh,2,none⟩,.chan<|some rd)]⟩
theorem Nt{b bh rd:Nat}{bg:Value}:∀ i∈[0,1,2,3,4,5,6,7,8,11,12],∃ x∈XH b bh bg rd,x.i=i:=by intro i hi;simp only[gU,nY,gR]at hi;rcases hi with rfl|rfl|rfl|rfl|rfl|rfl|rfl|rfl|rfl|rfl|rfl<;>simp
theorem Nu{b bh rd:Nat}{bg:Value}:∀ x∈XH b bh bg rd,x.i∈[0,1,2,3,4,5,6,7,8,11,12]:=by simp
theorem Uv{b bh rd:Nat}{bg:Value}:∀ x∈XH b bh bg rd,∀ y∈XH b bh bg rd,x.i=y.i->x=y:=by simp
theorem Uw{b bh rd:Nat}{bg:Value}:∀ x∈XH b bh bg rd,jw (cO<|cR<|cR<|(f135.body).getD .skip) x.i=some x.t:=by intro x a;simp only[gU,nY,gR]at a;rcases a with rfl|rfl|rfl|rfl|rfl|rfl|rfl|rfl|rfl|rfl|rfl<;>rfl
theorem Ux{P:bT}{dst:Option Nat}{el:aP}{a:ChanDir}{gd:Option (Nat×Bool)}{z:Value}(hu:P.underlying tt=some (.chan a el))[c:Zv P el z](hx:ev n e x=.chan (some b)):
  gG P (execOp (ev n e) ⟨dst,.recv tt x false,ty,pos,af,gd⟩)=some (.comm #[rcase b z] true<|.recv false):=by
 unfold execOp;simp only[hx];refine bH (gq hu) ?_;exact bH (te c.h) rfl
theorem abU{ao:Bool}{E:Nat->Value}{bg:Value}:Way prog ao (pq E b bh bg rd kd cs) 40 (gr 135 kd 32 (onE E b bh) [] (.code (cR<|cR<|(f135.body).getD .skip)::[]) cs):=by
 refine Oh (c:=(cR<|cR<|(f135.body).getD .skip)) onD [0,1,2,3,4,5,6,7,8,11,12] [9,10,13] 9 (XH b bh bg rd) ⟨Nt,Nu,Uv,Uw,?_⟩ ?_
 .intro x f;simp only[gU,nY,gR]at f;rcases f with rfl|rfl|rfl|rfl|rfl|rfl|rfl|rfl|rfl|rfl|rfl
  .exact⟨[],by simp,λm e aa q=>SD rfl q⟩
  .exact⟨[],by simp,λm e aa q=>SD rfl q⟩
  .exact⟨[⟨1,20,az b,false⟩],by simp,λm e aa q=>MD (a:=⟨b,0,none⟩) rfl q⟩
  .exact⟨[⟨2,21,az b,false⟩],by simp,λm e aa q=>ME (b:=b) (off:=0) (o:=3) rfl q⟩
  .exact⟨[⟨3,22,.pointer<|some ⟨b,3,none⟩,false⟩],by simp,λm e aa q=>Hn (ad:=⟨b,3,none⟩) (by simp[pq]) rfl q⟩
  .exact⟨[],by simp,λm e aa q=>SD rfl q⟩
  .exact⟨[⟨5,24,az bh,false⟩],by simp,λm e aa q=>MD (a:=⟨bh,0,none⟩) rfl q⟩
  .exact⟨[⟨6,25,az bh,false⟩],by simp,λm e aa q=>ME (b:=bh) (off:=0) (o:=2) rfl q⟩
  .exact⟨[⟨7,26,.pointer<|some ⟨bh,2,none⟩,false⟩],by simp,λm e aa q=>Hn (ad:=⟨bh,2,none⟩) (by simp[pq]) rfl q⟩
  .exact⟨[⟨0,19,az b,false⟩],by simp,λm e aa q=>MD (a:=⟨b,0,none⟩) rfl q⟩
  .exact⟨[⟨11,30,az b,false⟩],by simp,λm e aa q=>ME (b:=b) (off:=0) (o:=3) rfl q⟩
 .intro e aa g;have d:ev 32 e (.tmp 27)=.chan (some rd):=by obtain⟨j,h,t,listed,i,k,st,l,d,rfl⟩:=g;exact st.v1 ⟨8,27,.chan<|some rd,true⟩ (by simp)<|d 8<|by decide+kernel
  exact⟨_,⟨e,aa,g,rfl⟩,rfl,rfl,rfl,rfl,#[],by simp,λw _=>stepG_comm rfl rfl (Ux underlying118 d) w⟩
theorem IZ{E:Nat->Value}{k:Nat}{bg:Value}{H:Array Obj}{a d:Array Value}(h1:hp H b=some (.cells a 92 (0,0)))(f:a[3]? =some bg)(g:hp H bh=some (.cells d 120 (0,0)))(h:d[2]? =some (.chan<|some rd))(i:hp H rd=some (.chan 0 #[] false k k false)):
  A4 (bM.rd 0) (pq E b bh bg rd kd cs) H:=by
 refine⟨λc l=>?_,λp hp=>?_⟩
 .obtain⟨j,z,e⟩:=l;rcases j with _|j
  .simp[pq,rcase]at e;rw[<- e.1];exact⟨k,i⟩
  .simp[pq]at e
 .simp only[pq,gU,nY,gR]at hp;rcases hp with rfl|rfl
  .exact⟨rfl,_,_,h1,f,rfl⟩
  .exact⟨rfl,_,_,g,h,rfl⟩
theorem abV{b bh rd:Nat}{bg:Value}:∀ x∈XH b bh bg rd,x.ld=true->(([9,10,13]:List Nat).filter λt=> !reach (cO<|cR<|cR<|(f135.body).getD .skip) 8 t x.i).length<=1:=by intro x a;simp only[gU,nY,gR]at a;rcases a with rfl|rfl|rfl|rfl|rfl|rfl|rfl|rfl|rfl|rfl|rfl<;>intro h<;>dsimp only at h⊢ <;>first|(cases h;done)|(decide+kernel)
theorem XI{σ:Gh}{R:Nat->aO->Array Obj->Prop}(C:ab prog true (bM.bw σ) R){E:Nat->Value}{aa:List Nat}{g:Nat}{bs dn:Value}{m st:Int}{hs tx:Value}{bg:ay}{aH ms:List dV}{F:List HP}(n:Stood (cO<|cR<|cR<|(f135.body).getD .skip) (onE E b bh) onD (XH b bh bg.v rd) 9 e aa)
  (hl:aH.length<2^30) (hm:ms.length<2^30)
  (h:∀ d p,At R 0 (pS b m hs d.v tx dn false st::dq bh (.cells #[bs,.chan<|some g,.chan<|some rd] 120 (0,0))::bK dF 7 190 d (aH++ms)::F)<|gr 135 kd 32 p [] [] cs):
  At R 0 (pS b m hs bg.v tx dn false st::dq bh (.cells #[bs,.chan<|some g,.chan<|some rd] 120 (0,0))::bK dF 7 190 bg aH::bK dF 7 190 so ms::F) (gr 135 kd 32 (put e 28 so.v) [] (.inRegion (cO<|cR<|cR<|(f135.body).getD .skip) aa::[]) cs):=by
 refine resume (T2:=[10,13]) (r:=9) (t0:=28) (v:=so.v) (D:=onD) (is:=[0,1,2,3,4,5,6,7,8,11,12]) (a:=1) (W:=[pS b m hs bg.v tx dn false st,dq bh<|.cells #[bs,.chan<|some g,.chan<|some rd] 120 (0,0)])
  (by decide+kernel) Nt Nu Uv Uw ?_ abV (fC _) (λ_ s=>dg.sat dg.au s) (by decide+kernel) rfl ?_ n
 .intro x k;simp only[gU,nY,gR]at k;rcases k with rfl|rfl|rfl|rfl|rfl|rfl|rfl|rfl|rfl|rfl|rfl
  .exact⟨[],by simp,⟨_,rfl,rfl⟩,λAs e aa c h=>C.mv rfl h⟩
  .exact⟨[],by simp,⟨_,rfl,rfl⟩,λAs e aa c h=>C.mv rfl h⟩
  .exact⟨[⟨1,20,az b,false⟩],by simp,⟨_,rfl,rfl⟩,λAs e aa c h=>C.nc rfl h⟩
  .exact⟨[⟨2,21,az b,false⟩],by simp,⟨_,rfl,rfl⟩,λAs e aa c h=>C.fa (b:=b) (off:=0) (o:=3) rfl h⟩
  .refine⟨[⟨3,22,.pointer<|some ⟨b,3,none⟩,false⟩],by simp,⟨_,rfl,rfl⟩,λAs e aa c h=>?_⟩;have q:=c rfl;exact C.ld rfl h
  .exact⟨[],by simp,⟨_,rfl,rfl⟩,λAs e aa c h=>C.mv rfl h⟩
  .exact⟨[⟨5,24,az bh,false⟩],by simp,⟨_,rfl,rfl⟩,λAs e aa c h=>C.nc rfl h⟩
  .exact⟨[⟨6,25,az bh,false⟩],by simp,⟨_,rfl,rfl⟩,λAs e aa c h=>C.fa (b:=bh) (off:=0) (o:=2) rfl h⟩
  .refine⟨[⟨7,26,.pointer<|some ⟨bh,2,none⟩,false⟩],by simp,⟨_,rfl,rfl⟩,λAs e aa c h=>?_⟩;have q:=c rfl;exact C.ld rfl h
  .exact⟨[⟨0,19,az b,false⟩],by simp,⟨_,rfl,rfl⟩,λAs e aa c h=>C.nc rfl h⟩
  .exact⟨[⟨11,30,az b,false⟩],by simp,⟨_,rfl,rfl⟩,λAs e aa c h=>C.fa (b:=b) (off:=0) (o:=3) rfl h⟩
 .refine Ch.m 10 (bj λe aa i=>?_);refine C.YR (f:=dF) (s:=bg) (l:=aH) ms rfl (λd=>i _ _ ?_) (hsrc:=λH st=>ez.src (ez.own (s:=so) Fo.au) st λj=>rfl);refine Ch.m 13 (bj λe aa i=>?_);refine C.st rfl<|i _ undef ?_;refine gy ?_;exact At.mN dg.au<|h d _
theorem At.env{R:Nat->aO->Array Obj->Prop}{d:Nat}{As:List HP}{fn:bN}{ds:List eK}{k:List Item}{L:List (Nat×Value)}(a:kM e L)(h:∀ E,At R d As<|gr fn kd n (sV E L) ds k cs):At R d As (gr fn kd n e ds k cs):=by rw[<- kX a];exact h e
theorem xC{σ:Gh}{c:CV}[bd:Body prog f fu code nf]
  (x:q<c.ah.length) (hr:nX σ c) (D:c.aj=false) (R:c.aH.length<2^30) (S:rs.out.length<2^30)
  (hf:aI prog false cX f (a1++[az (c.ah[q]).h.bs].toArray++caps) (dB (c.ah[q]).h.bs (c.ah[q]).s::bI I::A) (ij (c.ah[q]).h.bs I o a rs)):
  bB prog bM 135 #[az c.G.b,aF q,.func (.func f) a1 caps] σ (tQ 1 c::bI I::A)
   (λv σ' As=>σ'=σ/\∃ I' s',Sub I I'/\ShJ I' s'/\s'.abs=rs/\y7 o a s'/\As=[tQ 1 {c with ah:=c.ah.set q {c.ah[q]with s:={s' with out:=[]},kw:=(c.ah[q]).kw+1,kr:=(c.ah[q]).kr+1},aH:=c.aH++s'.out},bI I']):=by
 refine bB.of ?_;intro Post os out kd F c' cs C aW T;refine cH ?_;obtain⟨G,ah,aH,aC,aj⟩:=c;obtain rfl:aj=false:=D;dsimp only at x R hf T⊢;obtain⟨v,n⟩:∃ v,v=ah[q]:=⟨_,rfl⟩;have y:v∈ah:=n▸dG x;have d:=hr.aU v y;have t:=hr.wk v y;have U:=hr.wd v y;have u:=hr.rdn v y;dsimp only at d t U u;rw[<- n]at hf;refine At.gh λW dH=>?_;have Qx:v.h.g≠0:=λz=>by rw[z,W]at d;cases d
 have w:=dH _ _ d;refine dm.opn (m:=1) (h:=λhs bg tx=>?_);have QO:(ah.map (·.h.bh)).length=ah.length:=eM ..;have Y:(ah.map (·.h.bh))[q]'(by omega)=v.h.bh:=by simp[n]
 refine iE ?_;refine C.dZ rfl ?_ (s:=hs) (l:=ah.map (·.h.bh)) (f:=jP) (j:=q);refine C.du rfl ?_ (s:=hs) (l:=ah.map (·.h.bh)) (f:=jP) (j:=q) (v:=az v.h.bh) (hj:=by omega) (hv:=by rw[Y];rfl);refine mq x Fo.au ?_;rw[<- n];refine oN ?_;refine At.env (L:=[(0,az G.b),(6,az v.h.bh),(17,.chan<|some v.h.wk),(18,.func (.func f) a1 caps)]) ⟨rfl,rfl,rfl,rfl,trivial⟩ λE=>?_;refine At.mN (show dg _ (wkE v G 1 hs.v bg.v tx.v false (CV.st ⟨G,ah,aH,aC,false⟩) 0 (bI I::bK jP 1 114 hs (ah.map (·.h.bh))::bK dF 7 190 bg aH::bK EB 3 126 tx aC::all ((ah.eraseIdx q).map jy)::(A++F))) by exact dg.au) ?_;refine At.perm ((Ym [_,_,_,_] A F).append_left [_,_,_,_,_,_,_,_,_]) ?_;refine cH ?_;have J:onE (sV E [(0,az G.b),(6,az v.h.bh),(17,.chan<|some v.h.wk),(18,.func (.func f) a1 caps)]) G.b v.h.bh=sV E [(0,az G.b),(6,az v.h.bh),(17,.chan<|some v.h.wk),(18,.func (.func f) a1 caps)]:=kX ⟨rfl,rfl,trivial⟩;have hj:bM.rd 0=cX.rd:=rfl;refine aG.give (X:=bM) (Aw (fp _) w) v.h.g v.h.wk 0 v.kw (ff v.h G) (pq (sV E [(0,az G.b),(6,az v.h.bh),(17,.chan<|some v.h.wk),(18,.func (.func f) a1 caps)]) G.b v.h.bh bg.v v.h.rd kd<|c'::cs) (.func (.func f) a1 caps) .nilFunc (.tuple #[]) rfl rfl rfl d rfl (λi s' e K=>t i s' e K) (aT:=wkE {v with kw:=v.kw+1} G 1 hs.v bg.v tx.v false (CV.st ⟨G,ah,aH,aC,false⟩) 0 (bI I::(A++(bK jP 1 114 hs (ah.map (·.h.bh))::bK dF 7 190 bg aH::bK EB 3 126 tx aC::all ((ah.eraseIdx q).map jy)::F)))) ?_ ?_ ?_ ?_ ?_ ?_ ?_
 .repeat(first|with_reducible exact sT.head|with_reducible apply sT.tail)
 .exact⟨λcc Z=>by simp[pq]at Z;exact⟨_,_,Z⟩,λk m c z z' h1 g=>by rcases k with _|k<;>rcases m with _|m<;>simp[pq]at h1 g⊢⟩
 .intro H st;exact IZ (Has.get Has.au st) rfl (Has.get Has.au st) rfl<|Has.get Has.au st
 .intro H st;exact IZ (Has.get Has.au st) rfl (Has.get Has.au st) rfl<|Has.get Has.au st
 .intro H st p hp c ty hh;have h1:=Has.get (b:=G.b) (o:=.cells (Xs 1 hs.v bg.v tx.v (.chan<|some G.dn) false<|CV.st ⟨G,ah,aH,aC,false⟩) 92 (0,0)) Has.au st;have g:=Has.get (b:=v.h.bh) (o:=.cells #[az v.h.bs,.chan<|some v.h.wk,.chan<|some v.h.rd] 120 (0,0)) Has.au st;simp only[pq,gU,nY,gR]at hp;rcases hp with rfl|rfl
  .have h1:H[G.b]? =_:=h1;rw[hh]at h1;cases h1;rfl
  .have g:H[v.h.bh]? =_:=g;rw[hh]at g;cases g;rfl
 .have M:=Mt.way (P:=prog) (ao:=true) (s:=pq (sV E [(0,az G.b),(6,az v.h.bh),(17,.chan<|some v.h.wk),(18,.func (.func f) a1 caps)]) G.b v.h.bh bg.v v.h.rd kd<|c'::cs);refine⟨100,?_⟩;show Way _ true _ _ _;refine M.go ?_;have h1:=abU (ao:=true) (E:=(sV E [(0,az G.b),(6,az v.h.bh),(17,.chan<|some v.h.wk),(18,.func (.func f) a1 caps)])) (b:=G.b) (bh:=v.h.bh) (rd:=v.h.rd) (bg:=bg.v) (kd:=kd) (cs:=c'::cs);rw[J]at h1;exact h1
 .intro r N;refine serve (v:={v with kw:=v.kw+1}) (bd:=bd) (sM:=pq (sV E [(0,az G.b),(6,az v.h.bh),(17,.chan<|some v.h.wk),(18,.func (.func f) a1 caps)]) G.b v.h.bh bg.v v.h.rd kd<|c'::cs) (σ:=σ.given 0 v.h.g<|pq (sV E [(0,az G.b),(6,az v.h.bh),(17,.chan<|some v.h.wk),(18,.func (.func f) a1 caps)]) G.b v.h.bh bg.v v.h.rd kd<|c'::cs) hf Qx w ?_ rfl ?_ U N ?_
  .exact Uu σ 0 v.h.g _
  .intro i s' hi K;have hi:Go.ConcN.upd (Go.ConcN.upd σ.aU v.h.g none) 0 _ i=some s':=hi;by_cases e0:i=0
   .exact e0
   .rw[Go.ConcN.upd_ne _ _ e0]at hi;by_cases e1:i=v.h.g
    .rw[e1,Go.ConcN.upd_same]at hi;cases hi
    .rw[Go.ConcN.upd_ne _ _ e1]at hi;exact absurd K<|u i s' hi
  .intro I' s' so VC sO ml Pm r Ho;rw[Li W d];obtain⟨e,aa,D,rfl⟩:=Ho;rw[uo rfl];have uL:s'.out.length<2^30:=by rw[<- ml]at S;simpa[dw.abs]using S
   refine At.mN (show dg _ (pS G.b 1 hs.v bg.v tx.v (.chan<|some G.dn) false (CV.st ⟨G,ah,aH,aC,false⟩)::dq v.h.bh (.cells #[az v.h.bs,.chan<|some v.h.wk,.chan<|some v.h.rd] 120 (0,0))::bK dF 7 190 bg aH::bK dF 7 190 so s'.out::dq G.cb (.cells #[az G.b] 23 (0,0))::dq G.dn (.chan 0 #[] false 0 0 false)::
    dq v.h.wk (.chan 0 #[] false (v.kw+1) (v.kw+1) false)::dq v.h.rd (.chan 0 #[] false (v.kr+1) (v.kr+1) false)::dq v.h.hb (.cells #[az v.h.bh] 114 (0,0))::dB v.h.bs {s' with out:=[]}::bI I'::bK jP 1 114 hs (ah.map (·.h.bh))::bK EB 3 126 tx aC::all ((ah.eraseIdx q).map jy)::F) by exact dg.au) ?_
   refine XI C D R uL λs2 e'=>?_;refine Np (l:=ah) x ({v with s:={s' with out:=[]},kw:=v.kw+1,kr:=v.kr+1}:HV) fK.au ?_;have O:=T (.tuple #[]) σ _ ⟨rfl,I',s',VC,sO,ml,Pm,rfl⟩;rw[<- n]at O;generalize uO:({v with s:={s' with out:=[]},kw:=v.kw+1,kr:=v.kr+1}:HV)=B at O⊢;have Q:B.h=v.h:=by rw[<- uO]
   have e1:(ah.set q B).map (·.h.bh)=ah.map (·.h.bh):=by rw[Aq,Q,<- Y,LV]
   have e2:CV.st ⟨G,ah,aH,aC,false⟩=CV.st ⟨G,ah.set q B,aH++s'.out,aC,false⟩:=by simp[CV.st]
   rw[<- e1,e2];refine dm.cls (m:=1) ⟨G,ah.set q B,aH++s'.out,aC,false⟩ ?_;exact At.mN dg.au<|C.aef aW O rfl
theorem nX.same{σ:Gh}{c c':CV}(h:nX σ c)(d:c'.G=c.G)(hh:c'.ah.map (·.h)=c.ah.map (·.h)):nX σ c':=by
 have hl:c'.ah.length=c.ah.length:=by have:=congrArg List.length hh;simpa using this
 have key:∀ v∈c'.ah,∃ u∈c.ah,u.h=v.h:=λv a=>by have:v.h∈c'.ah.map (·.h):=yz a;rw[hh]at this;obtain⟨u,b,e⟩:=cq.1 this;exact⟨u,b,e⟩
 have j:∀ (f:HG->Nat),c'.ah.map (λv=>f v.h)=c.ah.map (λv=>f v.h):=λf=>by have:=congrArg (List.map f) hh;simpa[Ap,Ao]using this
 refine⟨⟨λv a=>?_,?_,λi s e g=>?_,λv a=>?_,λv a=>?_,by rw[d];exact h.sh7,by rw[d];exact h.sh8,by rw[hl];exact h.n⟩,λv a=>?_⟩
 .obtain⟨u,b,e⟩:=key v a;rw[<- e,d];exact h.aU u b
 .rw[j (·.g)];exact h.nd
 .rw[d]at g;obtain⟨u,b,e2⟩:=h.only i s e g;have:u.h∈c.ah.map (·.h):=yz b;rw[<- hh]at this;obtain⟨v,a,k⟩:=cq.1 this;exact⟨v,a,by rw[k];exact e2⟩
 .obtain⟨u,b,e⟩:=key v a;rw[<- e];exact h.wk u b
 .obtain⟨u,b,e⟩:=key v a;rw[<- e,d];exact h.wd u b
 .obtain⟨u,b,e⟩:=key v a;rw[<- e];exact h.rdn u b
theorem rm{σ:Gh}{c:CV}[bd:Body prog f fu code nf]{Q:Option Nat->CV->HL->Prop}(n:iX I eb)(H:c.aH.length<2^20)
  (hf:∀ (x:0<=i) (hl:i.toNat<c.aH.length),c.aj=false->bB prog bM f (#[]++[tM (c.aH[i.toNat])].toArray++caps) σ (tQ 1 c::bI I::A) (MQ σ c eb Q)) (o:c.aj=false->i<0\/(c.aH.length:Int)<=i->Q (some 4) c I):
  bB prog bM 131 #[az c.G.b,.string nm,aF i,.func (.func f) #[] caps] σ (dm c::bI I::A) (CQ σ c I eb nm i Q):=by
 refine bB.of ?_;intro Post os out kd F c' cs C a y;refine pQ ?_;refine C.bx rfl λbc=>?_;refine C.bx rfl λz=>?_;refine C.bx rfl λB=>?_;refine gV ?_;refine C.mf rfl ?_;have h1:c.aj=false->bB prog bM 169 (#[]++([]:List Value).toArray++#[az z,az bc,az B]) σ (tQ 1 c::bI I::(dq z (.cells #[aF i] 3 (0,0))::dq bc (.cells #[az c.G.b] 23 (0,0))::dq B (.cells #[.func (.func f) #[] caps] 225 (0,0))::A)) (MQ σ c eb Q):=by
  intro D;have hf:=λx hl=>hf x hl D;refine bB.of ?_;clear y;intro Post os out kd F c' cs C a p;refine cH ?_;obtain⟨G,ah,aH,aC,aj⟩:=c;obtain rfl:aj=false:=D;dsimp only at H hf o;obtain⟨P,b⟩:=n.g 4 (by decide);refine dm.opn (m:=1) (h:=λhs bg tx=>?_);refine dY ?_;by_cases g:i<0
  .refine C.dx (di 4 0 11) 11 [] 0 ?_;refine lN ?_;refine Dr.p (λh=>C.fQ rfl h (hf:=g)) ?_;refine VA ?_;refine QF ?_;refine C.xX Fo.au b (jm _ _) rfl ?_;refine bL ?_;refine dm.cls (m:=1) ⟨G,ah,aH,aC,false⟩ ?_;refine At.mN (show dg _ (tQ 1 ⟨G,ah,aH,aC,false⟩::bI I::(A++F)) by exact dg.au) ?_;refine At.mN (.cons .head<|.cons .head<|dg.rP A) ?_;exact aG.fe a p ⟨some 4,⟨G,ah,aH,aC,false⟩,I,rfl,(λk d=>by cases d;decide),rfl,rfl,o rfl<|.inl g,rfl⟩
  .by_cases r:i>=(aH.length:Int)
   .refine C.dx (di 4 0 11) 11 [] 0 ?_;refine lN ?_;refine Dr.p (λh=>C.ed rfl h (hf:=g)) ?_;refine oB ?_;refine Dr.p (λh=>C.fQ rfl h (hf:=r)) ?_;refine zy ?_;refine QF ?_;refine C.xX Fo.au b (jm _ _) rfl ?_;refine bL ?_;refine dm.cls (m:=1) ⟨G,ah,aH,aC,false⟩ ?_;refine At.mN (show dg _ (tQ 1 ⟨G,ah,aH,aC,false⟩::bI I::(A++F)) by exact dg.au) ?_;refine At.mN (.cons .head<|.cons .head<|dg.rP A) ?_;exact aG.fe a p ⟨some 4,⟨G,ah,aH,aC,false⟩,I,rfl,(λk d=>by cases d;decide),rfl,rfl,o rfl<|.inr r,rfl⟩
   .refine C.dx (di 4 0 11) 11 [] 0 ?_;refine lN ?_;refine Dr.p (λh=>C.ed rfl h (hf:=g)) ?_;refine oB ?_;refine Dr.p (λh=>C.ed rfl h (hf:=r)) ?_;refine zy ?_;refine pR ?_;obtain⟨q,rfl⟩:=mJ (show 0<=i by omega);have E:q<aH.length:=ai;refine C.dx (di 16 0 9++[(3,9)]) 10 [8,9] 0 ?_;refine oB ?_;refine Dr.l (v:=tM<|aH[q]'E) (λn h=>C.zx rfl (λR=>h) (s:=bg) (l:=aH) (f:=dF) (j:=q)) ?_;refine Dr.chain rfl ?_;refine Ch.m 8 (bj λe aa d=>?_);refine dm.cls (m:=1) ⟨G,ah,aH,aC,false⟩ ?_;refine At.mN (show dg _ (tQ 1 ⟨G,ah,aH,aC,false⟩::bI I::(A++F)) by exact dg.au) ?_;refine aG.cl (f:=f) (a1:=#[]) (a2:=caps) (vl:=[tM aH[q]]) (hf (Int.natCast_nonneg q)<|by simpa using E) ?_ (hr:=.cons .head<|.cons .head<|fK.app A);rintro v σ' aT ⟨er,t,u,rfl,J,rfl,K,w,rfl⟩;refine cH ?_;refine d _ _ ?_;refine Ch.q 9 (λh=>C.pN rfl h) ?_;refine gy ?_;exact aG.fe a p ⟨er,t,u,rfl,J,rfl,K,w,rfl⟩
 refine aG.lj (vX (nm:=nm) (at_:=i) n h1) ?_ (hr:=.cons Fo.au<|.cons Fo.au<|.cons Fo.au<|.cons Fo.au<|.cons Fo.au<|fK.app A);rintro v σ' aT ⟨er,t,u,L,M,N,rfl,rfl,O⟩;refine pQ ?_;exact aG.fe a y ⟨er,t,u,L,M,N,rfl,rfl,O⟩
theorem Ga{b:Int}(hs:w.aj=false)(a:2<=k/\k<=4):gS w k i b=jk w k i:=by unfold gS;rw[ax ai,hs,ax (by decide),ax ai,aJ ai]
theorem XJ(h:i<0\/(w.aH.length:Int)<=i):jk w k i=(w,5):=by unfold jk;rw[aJ h]
theorem Lj{m:MsgR}(h:w.aH[q]? =some m):jk w k q=(if k=4 then(if 400<=w.aH.length then(w,(3:Int))else({w with aH:=w.aH++[m]},(0:Int)))else
  if k=3 then({w with aH:=w.aH.eraseIdx q},(0:Int))else
  if m.to= -1 then({w with aH:=w.aH.eraseIdx q,aC:=jE w.aC m},(0:Int))else
  match w.sh[m.to.toNat]? with
  |none=>({w with aH:=w.aH.eraseIdx q},(0:Int))
  |some s=>if s.up then(iN {w with aH:=w.aH.eraseIdx q} m.to.toNat<|s6 s m,(0:Int))else({w with aH:=w.aH.eraseIdx q},(0:Int))):=by
 have hl:=(dd.1 h).1;unfold jk;rw[ax ai,gN,h];rfl
theorem CV.Gb{c:CV}(h:q<c.aH.length):c.abs.aH[q]? =some (c.aH[q]).toMsgR:=by simp[CV.abs,h]
def abW:ByteArray:=⟨#[68,114,111,112]⟩
def abX:ByteArray:=⟨#[68,101,108,105,118,101,114]⟩
def abY:ByteArray:=⟨#[67,111,112,121]⟩
theorem PN{σ:Gh}{c:CV}{mv:dV}(b:wh I c)(e:PM c)(f:oP o a c)(g:c.aj=false)(d:q<c.aH.length):
  bB prog bM 138 (#[]++[tM mv].toArray++#[az b2,az b3]) σ (tQ 1 c::bI I::[dq b2 (.cells #[az c.G.b] 23 (0,0)),dq b3<|.cells #[aF q] 3 (0,0)])
   (MQ σ c eb<|fy c I (o+2^15) (a+1)<|gS c.abs 3 q 0):=by
 refine bB.of ?_;intro Post os out kd F c' cs C i j;refine cH ?_;obtain⟨G,ah,aH,aC,aj⟩:=c;obtain rfl:aj=false:=g;obtain⟨l,n,p,r⟩:=e;dsimp only at l n p r d;refine dm.opn (m:=1) (h:=λhs bg tx=>?_);refine bL ?_;refine C.bx rfl λb3=>?_;refine fB ?_;refine C.fZ (EN (ah:=hs.v) (bg:=bg) (aH:=aH) d ai) ?_;rintro v aT ⟨w,rfl⟩;refine Ei ?_;refine dm.cls (m:=1) ⟨G,ah,aH.eraseIdx q,aC,false⟩ ?_;refine aG.fe i j ⟨none,⟨G,ah,aH.eraseIdx q,aC,false⟩,I,rfl,(λk s=>by cases s),rfl,rfl,⟨Sub.refl _,⟨λm t=>b.aH m<|(kL ..).mem t,b.aC,b.sh⟩,rfl,rfl,?_,λv u=>(f v u).mono ai ai⟩,rfl⟩;rw[Ga (k:=3) (by rfl) ai,Lj<|CV.Gb (c:=⟨G,ah,aH,aC,false⟩) d,ax ai,aJ rfl];simp[CV.abs,Cj,map_eraseIdx]
theorem PO{σ:Gh}{c:CV}(r:iX I eb)(d:wh I c)(t:PM c)(l:oP o a c)(u:c.aj=false)(f:q<c.aH.length):
  bB prog bM 139 (#[]++[tM (c.aH[q])].toArray++#[az b2]) σ (tQ 1 c::bI I::[dq b2 (.cells #[az c.G.b] 23 (0,0))])
   (MQ σ c eb<|fy c I (o+2^15) (a+1)<|gS c.abs 4 q 0):=by
 refine bB.of ?_;intro Post os out kd F c' cs C n p;refine cH ?_;obtain⟨G,ah,aH,aC,aj⟩:=c;obtain rfl:aj=false:=u;obtain⟨w,x,y,z⟩:=t;dsimp only at w x y z f;obtain⟨t2,A⟩:=r.g 2 (by decide);have g:gS (CV.abs ⟨G,ah,aH,aC,false⟩) 4 q 0=if 400<=aH.length then(CV.abs ⟨G,ah,aH,aC,false⟩,3)else(CV.abs ⟨G,ah,aH++[aH[q]],aC,false⟩,0):=by rw[Ga (k:=4) (by rfl) ai,Lj<|CV.Gb (c:=⟨G,ah,aH,aC,false⟩) f,aJ rfl];simp[CV.abs]
 refine dm.opn (m:=1) (h:=λhs bg tx=>?_);refine bL ?_;refine C.bx rfl λb3=>?_;refine oN ?_;refine C.cmp rfl (λi=>?_) λi=>?_
 .refine dT ?_;refine C.xX Fo.au A (jm _ _) rfl ?_;refine bL ?_;refine dm.cls (m:=1) ⟨G,ah,aH,aC,false⟩ ?_;refine aG.fe n p ⟨some 2,⟨G,ah,aH,aC,false⟩,I,rfl,(λk b=>by cases b;decide),rfl,rfl,?_,rfl⟩;have j:400<=(aH.length:Int):=i;rw[g,aJ ai];exact fy.same d l rfl
 .refine bL ?_;refine C.C9 (di 11 0 10) 11 [6,7,10] 2 ?_ (W:=[pS G.b 1 hs.v bg.v tx.v (.chan<|some G.dn) false (CV.st ⟨G,ah,aH,aC,false⟩),dq b2<|.cells #[az G.b] 23 (0,0),oH b3<|aH[q]'f]);refine GA ?_;refine Dr.chain rfl ?_ λ_ s=>dg.sat dg.au s;refine Ch.m 6 (bj λe aa b=>?_);refine C.CZ rfl λB=>b _ _ .cons ?_;refine Ch.m 7 (bj λe aa b=>?_);refine C.DR (aH[q]'f) rfl λs'=>?_;refine b _ _ qM ?_;refine Ch.m 10 (bj λe aa b=>?_);refine C.st rfl<|b _ undef ?_;refine Ch.fin ?_;refine dY ?_;refine dm.cls (m:=1) ⟨G,ah,aH++[aH[q]],aC,false⟩ ?_;refine aG.fe n p ⟨none,⟨G,ah,aH++[aH[q]],aC,false⟩,I,rfl,(λk b=>by cases b),rfl,rfl,⟨Sub.refl _,⟨λm hm=>?_,d.aC,d.sh⟩,rfl,rfl,?_,λv D=>(l v D).mono ai ai⟩,rfl⟩
  .rcases bS.1 hm with hm|hm
   .exact d.aH m hm
   .obtain rfl:=dR.1 hm;exact d.aH _<|dG f
  .have j:¬ 400<=(aH.length:Int):=i;rw[g,ax ai];rfl
def pL(aC:List we)(m:dV):List we:=
 match aC[m.tx.toNat]? with
 |none=>aC
 |some t=>if t.state=1 then aC.set m.tx.toNat (if m.yes then{t with state:=2,reads:=m.reads,sr:=m.sr}else{t with state:=3})else aC
theorem PQ{aC:List we}{m:dV}(a:q<aC.length)(hm:m.tx=q):pL aC m=if(aC[q]).state=1 then aC.set q (if m.yes then{aC[q]with state:=2,reads:=m.reads,sr:=m.sr}else{aC[q]with state:=3})else aC:=by unfold pL;rw[hm,gN,cQ a]
theorem Ll{aC:List we}{m:dV}:(pL aC m).map (·.toTxR)=jE (aC.map (·.toTxR)) m.toMsgR:=by
 unfold pL jE;have e:(aC.map (·.toTxR))[m.toMsgR.tx.toNat]? =(aC[m.tx.toNat]?).map (·.toTxR):=jJ ..;rw[e];cases aC[m.tx.toNat]? with
 |none=>rfl
 |some t=>
  simp only[lQ];split
  .rw[Aq];congr 1;split<;>rfl
  .rfl
theorem UB{aC:List we}{m:dV}(h:∀ t∈aC,TxJ I t)(hm:lJ I m):∀ t∈pL aC m,TxJ I t:=by
 intro t a;unfold pL at a;cases e:aC[m.tx.toNat]? with
 |none=>rw[e]at a;exact h t a
 |some u=>
  rw[e]at a;simp only at a;have b:=h u<|bD e;split at a
  .rcases gk a with a|rfl
   .exact h t a
   .split
    .exact⟨b.o,hm.r,hm.z⟩
    .exact⟨b.o,b.r,b.z⟩
  .exact h t a
variable{b q:Nat}{m st:Int}{hs bg dn:Value}{zE:ay}{aj:Bool}{aC:List we}{mv:dV}
theorem I6(i:q<aC.length)(hm:mv.tx=q):aI prog true (bM.bw σ) 134 #[az b,tM mv] [pS b m hs bg zE.v dn aj st,bK EB 3 126 zE aC]
  (λv As=>As=[pS b m hs bg zE.v dn aj st,bK EB 3 126 zE<|pL aC mv]):=by
 rw[PQ i hm];refine aI.of λR C kd d F c cs n g=>?_;refine pQ ?_;refine C.bx rfl λb3=>?_;refine C.go ?_;rw[hm];refine C.dx (di 5 0 7++[(4,7)]) 8 [] 0 ?_;refine qv ?_;refine Dr.l (λr h=>C.dZ rfl h (s:=zE) (l:=aC) (f:=EB) (j:=q)) ?_;refine zy ?_;refine Bw ?_;refine C.yM rfl ?_ (s:=zE) (l:=aC) (f:=EB) (j:=q) (o:=1);refine C.cmp rfl (λk=>?_) λk=>?_
 .refine dT ?_;rw[ax k]at g;exact C.eY n g rfl
 .refine oN ?_;refine C.zw (λa=>?_) λa=>?_
  .refine C.go ?_;refine C.C9 (di 24 0 6++[(30,7),(31,8)]) 10 [6,9] 1 ?_ (W:=[dq b3 (.cells #[aF mv.kind,aF mv.aX,aF mv.to,aF q,.bool mv.yes,mv.so.v,mv.sr.v] 190 (0,0))]);refine GA ?_;refine Dr.chain rfl ?_ λ_ s=>dg.sat dg.au s;refine Ch.m 6 (bj λe aa p=>?_);refine C.YS (s:=zE) (l:=aC) (j:=q) (o:=1) ({aC[q]with state:=2}:we) rfl ?_ (hj:=i) (ha:=rfl);refine p _ undef qM ?_;refine Ch.m 9 (bj λe aa p=>?_);refine C.YS (s:=zE) (l:=aC.set q {aC[q]with state:=2}) (j:=q) (o:=2) ({aC[q]with state:=2,reads:=mv.reads,sr:=mv.sr}:we) rfl (p _ undef ?_) (hj:=by rw[eF];exact i) (ha:=by rw[Rk];rfl);refine gy ?_;rw[aJ (by simpa using k),aJ a,<- List.set_set]at g;exact C.eY n g rfl
  .refine fB ?_;refine C.YS (s:=zE) (l:=aC) (j:=q) (o:=1) ({aC[q]with state:=3}:we) rfl ?_ (hj:=i) (ha:=rfl);refine C.go ?_;rw[aJ (by simpa using k),ax<|by simpa using a]at g;exact C.eY n g rfl
theorem PR{bs:Nat}{s:dw}{mv:dV}(b:1<=mv.kind/\mv.kind<=6)(e:ShJ I s)(f:sb s)(g:y7 o a s)(h:lJ I mv)(i:mv.kind=1\/mv.kind=2->np mv.ops)(j:mv.kind=3->B8 s.abs mv.toMsgR):
  aI prog false cX 136 (#[]++[az bs].toArray++#[az b4]) (dB bs s::bI I::[oH b4 mv]) (ij bs I (o+1) (a+1)<|s6 s.abs mv.toMsgR):=by
 refine aI.of λR C kd d F c cs k l=>?_;refine Ei ?_;refine C.fZ (K2 b e f g h i j) ?_;rintro v aT ⟨m,s',n,p,q,r,rfl⟩;refine uz ?_;exact C.eY k l ⟨m,s',n,p,q,r,rfl⟩
theorem XK{c:CV}{q:Nat}{I':HL}{o' a':Int}{s':dw}{Lm:List dV}{kw kr:Nat}(i:q<c.ah.length)(e:wh I c)(j:oP o a c)(k:∀ m∈Lm,m∈c.aH)(hI:Sub I I')(d:ShJ I' s')(l:s'.abs=rs)(g:y7 o' a' s')(n:o<=o')(ha:a<=a'):
  fy c I o' a' (iN {c.abs with aH:=Lm.map (·.toMsgR)} q rs,0) none {c with ah:=c.ah.set q {c.ah[q]with s:={s' with out:=[]},kw:=kw,kr:=kr},aH:=Lm++s'.out} I':=by
 subst l;refine⟨hI,⟨λm hm=>?_,λt p=>(e.aC t p).mono hI,λv b=>?_⟩,rfl,?_,?_,λv b=>?_⟩
 .rcases bS.1 hm with hm|hm
  .exact(e.aH m<|k m hm).mono hI
  .exact d.out m hm
 .rcases gk b with b|rfl
  .exact(e.sh v b).mono hI
  .exact⟨d.log,d.pend,d.cr,d.waits,by simp⟩
 .rw[Aq];dsimp only;rw[<- List.getElem_map (f:=λv:HV=>v.h) (h:=by simpa using i),LV]
 .simp only[CV.abs,iN,Cj,eW,Aq];rfl
 .rcases gk b with b|rfl
  .exact(j v b).mono n ha
  .exact⟨g.z,g.o,g.a⟩
structure Nv(c:CV)(m:dV):Prop where
 rep:m.to= -1->0<=m.tx/\m.tx<c.aC.length
 tak:m.to≠ -1->0<=m.to/\m.to<c.ah.length/\1<=m.kind/\m.kind<=6/\(m.kind=1\/m.kind=2->np m.ops)
 vot:m.to≠ -1->∀ v,c.ah[m.to.toNat]? =some v->v.s.up=true->(m.kind=3->B8 v.s.abs m.toMsgR)/\(s6 v.s.abs m.toMsgR).out.length<2^30
theorem PS{σ:Gh}{c:CV}{q:Nat}(e:wh I c)(T:PM c)(z:oP o a c)(U:c.aj=false)(A:q<c.aH.length)(hr:nX σ c)(t:Nv c c.aH[q])(P:∀ v∈c.ah,v.s.up=true->sb v.s):
  bB prog bM 132 (#[]++[tM (c.aH[q])].toArray++#[az b2,az b3]) σ (tQ 1 c::bI I::[dq b2 (.cells #[az c.G.b] 23 (0,0)),dq b3<|.cells #[aF q] 3 (0,0)])
   (MQ σ c eb<|fy c I (o+2^15) (a+1)<|gS c.abs 2 q 0):=by
 refine bB.of ?_;intro Post os out kd F c' cs C B D;refine cH ?_;obtain⟨G,ah,aH,aC,aj⟩:=c;obtain rfl:aj=false:=U;obtain⟨W,X,Y,Z⟩:=T;dsimp only at W X Y Z A t P;have r:=e.aH _<|dG A;have g:gS (CV.abs ⟨G,ah,aH,aC,false⟩) 2 q 0=if(aH[q]).to= -1 then(CV.abs ⟨G,ah,aH.eraseIdx q,pL aC aH[q],false⟩,(0:Int))else
   match ah[(aH[q]).to.toNat]? with
   |none=>(CV.abs ⟨G,ah,aH.eraseIdx q,aC,false⟩,(0:Int))
   |some v=>if v.s.up then(iN (CV.abs ⟨G,ah,aH.eraseIdx q,aC,false⟩) (aH[q]).to.toNat<|s6 v.s.abs (aH[q]).toMsgR,(0:Int))else(CV.abs ⟨G,ah,aH.eraseIdx q,aC,false⟩,(0:Int)):=by
  rw[Ga (k:=2) (by rfl) ai,Lj<|CV.Gb (c:=⟨G,ah,aH,aC,false⟩) A,ax ai,ax ai];dsimp only;by_cases h:(aH[q]).to= -1
  .rw[aJ h,aJ h];simp[CV.abs,map_eraseIdx,Ll]
  .rw[ax h,ax h];have e1:(CV.abs ⟨G,ah,aH,aC,false⟩).sh[(aH[q]).to.toNat]? =(ah[(aH[q]).to.toNat]?).map (·.s.abs):=by simp[CV.abs]
   rw[e1];cases ah[(aH[q]).to.toNat]? with
   |none=>simp[CV.abs,map_eraseIdx]
   |some v=>simp[CV.abs,map_eraseIdx,dw.abs]
 obtain⟨mv,E⟩:∃ mv,mv=aH[q]:=⟨_,rfl⟩;rw[<- E]at t g r⊢;refine dm.opn (m:=1) (h:=λhs bg tx=>?_);have QO:(ah.map (·.h.bh)).length=ah.length:=eM ..;refine bL ?_;refine C.bx rfl λb4=>?_;refine fB ?_;refine C.fZ (EN (ah:=hs.v) (bg:=bg) (aH:=aH) A ai) ?_;rintro v aT ⟨Nq,rfl⟩;refine Ei ?_;refine C.cmp rfl (λn=>?_) λn=>?_
 .refine gV ?_;obtain⟨qt,H⟩:=mJ (t.rep n).1;have J:qt<aC.length:=by have:=(t.rep n).2;dsimp only at this;omega
  refine C.fZ (I6 (q:=qt) J H) ?_;rintro v aT rfl;refine Ei ?_;refine dm.cls (m:=1) ⟨G,ah,aH.eraseIdx q,pL aC mv,false⟩ ?_;refine aG.fe B D ⟨none,⟨G,ah,aH.eraseIdx q,pL aC mv,false⟩,I,rfl,(λk u=>by cases u),rfl,rfl,⟨Sub.refl _,⟨λm w=>e.aH m<|(kL ..).mem w,UB e.aC r,e.sh⟩,rfl,rfl,?_,λv K=>(z v K).mono ai ai⟩,rfl⟩;rw[g,aJ n];rfl
 .refine dT ?_;obtain⟨L,VD,yH,D8,hO⟩:=t.tak n;obtain⟨b,d⟩:=mJ L;have p:b<ah.length:=by dsimp only at VD;omega
  have QP:(ah.map (·.h.bh))[b]'(by omega)=ah[b].h.bh:=by simp
  have Q:b<(ah.map (·.h.bh)).length:=ai;have M:(jP ((ah.map (·.h.bh))[b]'Q))[0]? =some (az ah[b].h.bh):=by rw[QP];rfl
  rw[d];refine mq p Fo.au ?_;refine dB.opn (s:=ah[b].s) (h:=λlg wt ot tm bv bl bp bd be bu tl ht=>?_);refine C.dx (di 16 0 14++[(15,14)]) 15 [] 0 ?_;refine qv ?_;refine Dr.l (λhE h=>C.dZ rfl h (s:=hs) (l:=ah.map (·.h.bh)) (f:=jP) (j:=b)) ?_;refine Dr.l (v:=az ah[b].h.bh) (λhE h=>C.du rfl h (s:=hs) (l:=ah.map (·.h.bh)) (f:=jP) (j:=b) (v:=az ah[b].h.bh) (hj:=Q) (hv:=M)) ?_;refine WO ?_;refine gy ?_;refine C.zw (λx=>?_) λx=>?_
  .refine C.go ?_;refine dB.cls ah[b].s ?_;refine gT p fK.au ?_;refine dm.cls (m:=1) ⟨G,ah,aH.eraseIdx q,aC,false⟩ ?_;have i:ah[mv.to.toNat]? =some ah[b]:=by rw[d,gN];exact cQ p
   obtain⟨hV,y⟩:=t.vot n ah[b] i x;have N:=dG p;have v8:=PR (bs:=ah[b].h.bs) (b4:=b4) ⟨yH,D8⟩ (e.sh _ N) (P _ N x) (z _ N) r hO hV;have R:=xC (c:=⟨G,ah,aH.eraseIdx q,aC,false⟩) (q:=b) p (hr.same rfl rfl) rfl (Aw (List.length_eraseIdx_le ..) ai) y v8;rw[<- d]at R⊢;refine dY ?_;refine C.mf rfl ?_;refine aG.lj R ?_;rintro v σ' aT ⟨rfl,I2,S,xl,Pq,Cm,O,rfl⟩;refine Ei ?_;have DN:=XK (c:=⟨G,ah,aH,aC,false⟩) (Lm:=aH.eraseIdx q) (kw:=ah[b].kw+1) (kr:=ah[b].kr+1) p e z (λm w=>(kL ..).mem w) xl Pq Cm (O.mono (o':=o+2^15) (a':=a+1) ai ai) ai ai;refine aG.fe B D ⟨none,⟨G,ah.set b {ah[b]with s:={S with out:=[]},kw:=ah[b].kw+1,kr:=ah[b].kr+1},aH.eraseIdx q++S.out,aC,false⟩,I2,rfl,(λk u=>by cases u),rfl,rfl,?_,rfl⟩;have OL:gS (CV.abs ⟨G,ah,aH,aC,false⟩) 2 q 0=(iN {CV.abs ⟨G,ah,aH,aC,false⟩with aH:=(aH.eraseIdx q).map (·.toMsgR)} b<|s6 ah[b].s.abs mv.toMsgR,0):=by rw[g,ax n,i];dsimp only;rw[aJ x,d];rfl
   rw[OL];exact DN
  .refine dY ?_;refine dB.cls ah[b].s ?_;refine gT p fK.au ?_;refine dm.cls (m:=1) ⟨G,ah,aH.eraseIdx q,aC,false⟩ ?_;have i:ah[mv.to.toNat]? =some ah[b]:=by rw[d,gN];exact cQ p
   refine aG.fe B D ⟨none,⟨G,ah,aH.eraseIdx q,aC,false⟩,I,rfl,(λk u=>by cases u),rfl,rfl,⟨Sub.refl _,⟨λm w=>e.aH m<|(kL ..).mem w,e.aC,e.sh⟩,rfl,rfl,?_,λv K=>(z v K).mono ai ai⟩,rfl⟩;rw[g,ax n,i];dsimp only;rw[ax (by simpa using x)];rfl
end
section
open Go.Proofs Go.Conc
theorem Ny{t:Nat}{gd:Option (Nat×Bool)}{y:dp}{a b:ByteArray}(hx:ev n e x=.string a)(c:ev n e y=.string b):gG P (execOp (ev n e) ⟨some t,.binOp .eql tt x y t2,ty,pos,af,gd⟩)=some (.value<|.bool<|a.toList==b.toList):=by unfold execOp;simp only[hx,c];refine bH (a:=.bool<|a.toList==b.toList) ?_ rfl;refine bH (a:=()) (by unfold eqGuard;rfl) ?_;show gG P (Op.stringOp .eql a b)=_;unfold Op.stringOp;rfl
def PT:ByteArray:=⟨#[84,105,99,107]⟩
structure XL(c:CV)(s:Int)(up tk:Bool)(g:eg->eg)(r:WP×Int):Prop where
 d6:s<0\/(c.ah.length:Int)<=s->r=(c.abs,6)
 dn:∀ (q:Nat) (hq:q<c.ah.length),s=q->(c.ah[q]).s.up≠up->r=(c.abs,if up then 7 else 8)
 d3:∀ (q:Nat) (hq:q<c.ah.length),s=q->(c.ah[q]).s.up=up->tk=true->150<c.aH.length->r=(c.abs,3)
 go:∀ (q:Nat) (hq:q<c.ah.length),s=q->(c.ah[q]).s.up=up->(tk=true->c.aH.length<=150)->r=(iN c.abs q (g (c.ah[q]).s.abs),0)
abbrev shA(b1 b2 b3 b4 b5 b:Nat)(s:Int)(up:Bool)(nm:ByteArray)(fv:Value)(A:List HP):List HP:=
 dq b1 (.cells #[aF s] 3 (0,0))::dq b2 (.cells #[az b] 23 (0,0))::dq b3 (.cells #[.bool up] 4 (0,0))::dq b4 (.cells #[.string nm] 9 (0,0))::dq b5 (.cells #[fv] 187 (0,0))::A
theorem PU{c:CV}{b1:Nat}[bd:Body prog f fu code nf]{r:WP×Int}
  (n:iX I eb) (x:wh I c) (hb:PM c) (y:oP o a c) (dI:c.aj=false) (hr:nX σ c) (L:(nm.toList==PT.toList)=tk) (hg:XL c s true tk g r) (M:∀ v∈c.ah,v.s.up=true->(g v.s.abs).out.length<2^30)
  (hf:∀ v∈c.ah,v.s.up=true->aI prog false cX f (a1++[az v.h.bs].toArray++caps) (dB v.h.bs v.s::bI I::A) (ij v.h.bs I (o+2^15) (a+1)<|g v.s.abs)):
  bB prog bM 176 (#[]++([]:List Value).toArray++#[az b1,az b2,az b3,az b4,az b5]) σ (tQ 1 c::bI I::shA b1 b2 b3 b4 b5 c.G.b s true nm (.func (.func f) a1 caps) A)
   (MQ σ c eb<|fy c I (o+2^15) (a+1) r):=by
 refine bB.of ?_;intro Post os out kd F c' cs C z B;refine cH ?_;obtain⟨G,ah,aH,aC,aj⟩:=c;obtain rfl:aj=false:=dI;obtain⟨hn,oO,lG,rQ⟩:=hb;dsimp only at hn oO lG rQ M hf;obtain⟨N,dn,Z,p⟩:=hg;dsimp only at N dn Z p;obtain⟨t2,Mo⟩:=n.g 2 (by decide);obtain⟨t5,D⟩:=n.g 5 (by decide);obtain⟨t6,O⟩:=n.g 6 (by decide);refine dm.opn (m:=1) (h:=λhs bg tx=>?_);obtain⟨d,i⟩:∃ d,d=ah.map (·.h.bh):=⟨_,rfl⟩;unfold cvO;dsimp only;rw[<- i];have QO:d.length=ah.length:=by rw[i];exact eM ..
 refine dY ?_;by_cases J:s<0
 .refine C.dx (di 7 0 11++[(6,11)]) 12 [] 0 ?_;refine lN ?_;refine Dr.p (λh=>C.fQ rfl h (hf:=J)) ?_;refine Kw ?_;refine QF ?_;refine C.xX Fo.au D (jm _ _) rfl ?_;refine bL ?_;subst i;refine dm.cls (m:=1) ⟨G,ah,aH,aC,false⟩ ?_;refine At.mN (show dg _ (tQ 1 ⟨G,ah,aH,aC,false⟩::bI I::(A++F)) by exact dg.au) ?_;refine At.mN (.cons .head<|.cons .head<|dg.rP A) ?_;refine aG.fe z B ⟨some 5,⟨G,ah,aH,aC,false⟩,I,rfl,(λk e=>by cases e;decide),rfl,rfl,?_,rfl⟩;rw[N (.inl J)];exact fy.same x y rfl
 .by_cases GC:s>=(d.length:Int)
  .refine C.dx (di 7 0 11++[(6,11)]) 12 [] 0 ?_;refine lN ?_;refine Dr.p (λh=>C.ed rfl h (hf:=J)) ?_;refine qv ?_;refine Dr.l (λn h=>C.qK rfl h (s:=hs) (l:=d) (f:=jP)) ?_;refine Dr.p (λh=>C.fQ rfl h (hf:=GC)) ?_;refine Da ?_;refine QF ?_;refine C.xX Fo.au D (jm _ _) rfl ?_;refine bL ?_;subst i;refine dm.cls (m:=1) ⟨G,ah,aH,aC,false⟩ ?_;refine At.mN (show dg _ (tQ 1 ⟨G,ah,aH,aC,false⟩::bI I::(A++F)) by exact dg.au) ?_;refine At.mN (.cons .head<|.cons .head<|dg.rP A) ?_;refine aG.fe z B ⟨some 5,⟨G,ah,aH,aC,false⟩,I,rfl,(λk e=>by cases e;decide),rfl,rfl,?_,rfl⟩;rw[N (.inr ai)];exact fy.same x y rfl
  .refine C.dx (di 7 0 11++[(6,11)]) 12 [] 0 ?_;refine lN ?_;refine Dr.p (λh=>C.ed rfl h (hf:=J)) ?_;refine qv ?_;refine Dr.l (λn h=>C.qK rfl h (s:=hs) (l:=d) (f:=jP)) ?_;refine Dr.p (λh=>C.ed rfl h (hf:=GC)) ?_;refine Da ?_;refine pR ?_;obtain⟨q,rfl⟩:=mJ (show 0<=s by omega);have b:q<ah.length:=ai;have Zu:q<d.length:=ai;have QP:d[q]=ah[q].h.bh:=by subst i;simp
   have P:(jP<|d[q]'Zu)[0]? =some (az ah[q].h.bh):=by rw[QP];rfl
   have K:=dG b;refine mq b Fo.au ?_;refine dB.opn (s:=ah[q].s) (h:=λlg wt ot tm bv bl bp bd be bu tl ht=>?_);refine C.dx (di 20 0 17++[(19,17)]) 18 [] 0 ?_;refine oB ?_;refine Dr.l (λn h=>C.dZ rfl h (s:=hs) (l:=d) (f:=jP) (j:=q)) ?_;refine Dr.l (v:=az ah[q].h.bh) (λn h=>C.du rfl h (s:=hs) (l:=d) (f:=jP) (j:=q) (v:=az ah[q].h.bh) (hj:=Zu) (hv:=P)) ?_;refine VA ?_;refine gy ?_;refine C.zw (λt=>?_) λt=>?_
   .refine bL ?_;refine C.xX Fo.au O (jm _ _) rfl ?_;refine bL ?_;subst i;refine dB.cls ah[q].s ?_;refine gT b fK.au ?_;refine dm.cls (m:=1) ⟨G,ah,aH,aC,false⟩ ?_;refine At.mN (show dg _ (tQ 1 ⟨G,ah,aH,aC,false⟩::bI I::(A++F)) by exact dg.au) ?_;refine At.mN (.cons .head<|.cons .head<|dg.rP A) ?_;refine aG.fe z B ⟨some 6,⟨G,ah,aH,aC,false⟩,I,rfl,(λk e=>by cases e;decide),rfl,rfl,?_,rfl⟩;rw[dn q b rfl (by simpa using t)];exact fy.same x y rfl
   .refine C.go ?_;refine C.dx (di 39 0 17++[(38,17)]) 18 [] 0 ?_;refine nT ?_;refine GA ?_;refine Dr.chain rfl ?_;refine Ch.fin ?_;refine dY ?_;refine C.v0 (v:=.bool tk) rfl ?_ (by rw[<- L];exact Ny rfl rfl);rcases n8 tk with rfl|rfl
    .refine gV ?_;refine C.cmp rfl (λu=>?_) λu=>?_
     .refine fB ?_;refine C.xX Fo.au Mo (jm _ _) rfl ?_;refine bL ?_;subst i;refine dB.cls ah[q].s ?_;refine gT b fK.au ?_;refine dm.cls (m:=1) ⟨G,ah,aH,aC,false⟩ ?_;refine At.mN (show dg _ (tQ 1 ⟨G,ah,aH,aC,false⟩::bI I::(A++F)) by exact dg.au) ?_;refine At.mN (.cons .head<|.cons .head<|dg.rP A) ?_;refine aG.fe z B ⟨some 2,⟨G,ah,aH,aC,false⟩,I,rfl,(λk e=>by cases e;decide),rfl,rfl,?_,rfl⟩;have Q:(aH.length:Int)>150:=u;rw[Z q b rfl (by simpa using t) rfl ai];exact fy.same x y rfl
     .refine dY ?_;subst i;have E:ah[q].s.up=true:=by simpa using t
      refine dB.cls ah[q].s ?_;refine gT b fK.au ?_;refine dm.cls (m:=1) ⟨G,ah,aH,aC,false⟩ ?_;have R:=xC (c:=⟨G,ah,aH,aC,false⟩) (q:=q) b hr rfl (dE) (M _ K E)<|hf _ K E;refine dY ?_;refine At.mN (show dg _ (tQ 1 ⟨G,ah,aH,aC,false⟩::bI I::(A++F)) by exact dg.au) ?_;refine aG.lj R ?_ (hr:=.cons .head<|.cons .head<|fK.app A);rintro v σ' aT ⟨rfl,S,H,T,U,W,w,rfl⟩;refine Ei ?_;have X:=XK (c:=⟨G,ah,aH,aC,false⟩) (Lm:=aH) (kw:=ah[q].kw+1) (kr:=ah[q].kr+1) b x y (λm Y=>Y) T U W w ai ai;refine aG.fe z B ⟨none,⟨G,ah.set q {ah[q]with s:={H with out:=[]},kw:=ah[q].kw+1,kr:=ah[q].kr+1},aH++H.out,aC,false⟩,S,rfl,(λk e=>by cases e),rfl,rfl,?_,rfl⟩;have Q:¬ (aH.length:Int)>150:=u;rw[p q b rfl (by simpa using t) (λ_=>by omega)];exact X
    .refine mE ?_;subst i;have E:ah[q].s.up=true:=by simpa using t
     refine dB.cls ah[q].s ?_;refine gT b fK.au ?_;refine dm.cls (m:=1) ⟨G,ah,aH,aC,false⟩ ?_;have R:=xC (c:=⟨G,ah,aH,aC,false⟩) (q:=q) b hr rfl (dE) (M _ K E)<|hf _ K E;refine dY ?_;refine At.mN (show dg _ (tQ 1 ⟨G,ah,aH,aC,false⟩::bI I::(A++F)) by exact dg.au) ?_;refine aG.lj R ?_ (hr:=.cons .head<|.cons .head<|fK.app A);rintro v σ' aT ⟨rfl,S,H,T,U,W,w,rfl⟩;refine Ei ?_;have X:=XK (c:=⟨G,ah,aH,aC,false⟩) (Lm:=aH) (kw:=ah[q].kw+1) (kr:=ah[q].kr+1) b x y (λm Y=>Y) T U W w ai ai;refine aG.fe z B ⟨none,⟨G,ah.set q {ah[q]with s:={H with out:=[]},kw:=ah[q].kw+1,kr:=ah[q].kr+1},aH++H.out,aC,false⟩,S,rfl,(λk e=>by cases e),rfl,rfl,?_,rfl⟩;rw[p q b rfl (by simpa using t) (λh=>by cases h)];exact X
theorem PW{c:CV}{b1:Nat}[bd:Body prog f fu code nf]{r:WP×Int}
  (n:iX I eb) (u:wh I c) (R:PM c) (w:oP o a c) (S:c.aj=false) (hr:nX σ c) (D:(nm.toList==PT.toList)=false) (T:XL c s false false g r) (L:∀ v∈c.ah,v.s.up=false->(g v.s.abs).out.length<2^30)
  (hf:∀ v∈c.ah,v.s.up=false->aI prog false cX f (a1++[az v.h.bs].toArray++caps) (dB v.h.bs v.s::bI I::A) (ij v.h.bs I (o+2^15) (a+1)<|g v.s.abs)):
  bB prog bM 176 (#[]++([]:List Value).toArray++#[az b1,az b2,az b3,az b4,az b5]) σ (tQ 1 c::bI I::shA b1 b2 b3 b4 b5 c.G.b s false nm (.func (.func f) a1 caps) A)
   (MQ σ c eb<|fy c I (o+2^15) (a+1) r):=by
 refine bB.of ?_;intro Post os out kd F c' cs C x y;refine cH ?_;obtain⟨G,ah,aH,aC,aj⟩:=c;obtain rfl:aj=false:=S;obtain⟨U,W,X,Y⟩:=R;dsimp only at U W X Y L hf;obtain⟨E,dn,Z,p⟩:=T;dsimp only at E dn Z p;obtain⟨t5,t⟩:=n.g 5 (by decide);obtain⟨t7,H⟩:=n.g 7 (by decide);refine dm.opn (m:=1) (h:=λhs bg tx=>?_);obtain⟨b,e⟩:∃ b,b=ah.map (·.h.bh):=⟨_,rfl⟩;unfold cvO;dsimp only;rw[<- e];have QO:b.length=ah.length:=by rw[e];exact eM ..
 refine dY ?_;by_cases z:s<0
 .refine C.dx (di 7 0 11++[(6,11)]) 12 [] 0 ?_;refine lN ?_;refine Dr.p (λh=>C.fQ rfl h (hf:=z)) ?_;refine Kw ?_;refine QF ?_;refine C.xX Fo.au t (jm _ _) rfl ?_;refine bL ?_;subst e;refine dm.cls (m:=1) ⟨G,ah,aH,aC,false⟩ ?_;refine At.mN (show dg _ (tQ 1 ⟨G,ah,aH,aC,false⟩::bI I::(A++F)) by exact dg.au) ?_;refine At.mN (.cons .head<|.cons .head<|dg.rP A) ?_;refine aG.fe x y ⟨some 5,⟨G,ah,aH,aC,false⟩,I,rfl,(λk i=>by cases i;decide),rfl,rfl,?_,rfl⟩;rw[E (.inl z)];exact fy.same u w rfl
 .by_cases M:s>=(b.length:Int)
  .refine C.dx (di 7 0 11++[(6,11)]) 12 [] 0 ?_;refine lN ?_;refine Dr.p (λh=>C.ed rfl h (hf:=z)) ?_;refine qv ?_;refine Dr.l (λn h=>C.qK rfl h (s:=hs) (l:=b) (f:=jP)) ?_;refine Dr.p (λh=>C.fQ rfl h (hf:=M)) ?_;refine Da ?_;refine QF ?_;refine C.xX Fo.au t (jm _ _) rfl ?_;refine bL ?_;subst e;refine dm.cls (m:=1) ⟨G,ah,aH,aC,false⟩ ?_;refine At.mN (show dg _ (tQ 1 ⟨G,ah,aH,aC,false⟩::bI I::(A++F)) by exact dg.au) ?_;refine At.mN (.cons .head<|.cons .head<|dg.rP A) ?_;refine aG.fe x y ⟨some 5,⟨G,ah,aH,aC,false⟩,I,rfl,(λk i=>by cases i;decide),rfl,rfl,?_,rfl⟩;rw[E (.inr ai)];exact fy.same u w rfl
  .refine C.dx (di 7 0 11++[(6,11)]) 12 [] 0 ?_;refine lN ?_;refine Dr.p (λh=>C.ed rfl h (hf:=z)) ?_;refine qv ?_;refine Dr.l (λn h=>C.qK rfl h (s:=hs) (l:=b) (f:=jP)) ?_;refine Dr.p (λh=>C.ed rfl h (hf:=M)) ?_;refine Da ?_;refine pR ?_;refine C.dx (di 20 0 17++[(19,17)]) 18 [] 0 ?_;refine nT ?_;refine GA ?_;refine Dr.chain rfl ?_;refine pR ?_;obtain⟨q,rfl⟩:=mJ (show 0<=s by omega);have d:q<ah.length:=ai;have N:q<b.length:=ai;have QP:b[q]=ah[q].h.bh:=by subst e;simp
   have J:(jP<|b[q]'N)[0]? =some (az ah[q].h.bh):=by rw[QP];rfl
   have O:=dG d;refine mq d Fo.au ?_;refine dB.opn (s:=ah[q].s) (h:=λlg wt ot tm bv bl bp bd be bu tl ht=>?_);refine C.dx (di 39 0 17++[(38,17)]) 18 [] 0 ?_;refine GA ?_;refine Dr.l (λn h=>C.dZ rfl h (s:=hs) (l:=b) (f:=jP) (j:=q)) ?_;refine Dr.l (v:=az ah[q].h.bh) (λn h=>C.du rfl h (s:=hs) (l:=b) (f:=jP) (j:=q) (v:=az ah[q].h.bh) (hj:=N) (hv:=J)) ?_;refine zw8 ?_;refine gy ?_;refine C.zw (λB=>?_) λB=>?_
   .refine bL ?_;refine C.xX Fo.au H (jm _ _) rfl ?_;refine bL ?_;subst e;refine dB.cls ah[q].s ?_;refine gT d fK.au ?_;refine dm.cls (m:=1) ⟨G,ah,aH,aC,false⟩ ?_;refine At.mN (show dg _ (tQ 1 ⟨G,ah,aH,aC,false⟩::bI I::(A++F)) by exact dg.au) ?_;refine At.mN (.cons .head<|.cons .head<|dg.rP A) ?_;refine aG.fe x y ⟨some 7,⟨G,ah,aH,aC,false⟩,I,rfl,(λk i=>by cases i;decide),rfl,rfl,?_,rfl⟩;rw[dn q d rfl (by simpa using B)];exact fy.same u w rfl
   .refine dT ?_;refine C.v0 (v:=.bool false) rfl ?_ (by rw[<- D];exact Ny rfl rfl);refine mE ?_;subst e;have P:ah[q].s.up=false:=by simpa using B
    refine dB.cls ah[q].s ?_;refine gT d fK.au ?_;refine dm.cls (m:=1) ⟨G,ah,aH,aC,false⟩ ?_;have uN:=xC (c:=⟨G,ah,aH,aC,false⟩) (q:=q) d hr rfl (dE) (L _ O P)<|hf _ O P;refine dY ?_;refine At.mN (show dg _ (tQ 1 ⟨G,ah,aH,aC,false⟩::bI I::(A++F)) by exact dg.au) ?_;refine aG.lj uN ?_ (hr:=.cons .head<|.cons .head<|fK.app A);rintro v σ' aT ⟨rfl,I2,Q,xl,Pq,Cm,K,rfl⟩;refine Ei ?_;have DN:=XK (c:=⟨G,ah,aH,aC,false⟩) (Lm:=aH) (kw:=ah[q].kw+1) (kr:=ah[q].kr+1) d u w (λm hm=>hm) xl Pq Cm K ai ai;refine aG.fe x y ⟨none,⟨G,ah.set q {ah[q]with s:={Q with out:=[]},kw:=ah[q].kw+1,kr:=ah[q].kr+1},aH++Q.out,aC,false⟩,I2,rfl,(λk i=>by cases i),rfl,rfl,?_,rfl⟩;rw[p q d rfl (by simpa using B) (λh=>by cases h)];exact DN
theorem pw{c:CV}{up:Bool}[bd:Body prog f fu code nf]{r:WP×Int}
  (e:iX I eb) (i:wh I c) (j:PM c) (k:oP o a c) (hr:c.aj=false->nX σ c) (d:(nm.toList==PT.toList)=tk) (h:up=false->tk=false) (l:c.aj=false->XL c s up tk g r) (m:∀ v∈c.ah,v.s.up=up->(g v.s.abs).out.length<2^30)
  (hf:∀ v∈c.ah,v.s.up=up->aI prog false cX f (a1++[az v.h.bs].toArray++caps) (dB v.h.bs v.s::bI I::A) (ij v.h.bs I (o+2^15) (a+1)<|g v.s.abs)):
  bB prog bM 140 #[az c.G.b,.string nm,aF s,.bool up,.func (.func f) a1 caps] σ (dm c::bI I::A) (CQ σ c I eb nm s<|fy c I (o+2^15) (a+1) r):=by
 refine bB.of ?_;intro Post os out kd F c' cs C n p;refine pQ ?_;refine C.bx rfl λb1=>?_;refine C.bx rfl λb2=>?_;refine C.bx rfl λb3=>?_;refine C.bx rfl λb4=>?_;refine C.bx rfl λb5=>?_;refine gV ?_;refine C.mf rfl ?_;have h1:c.aj=false->bB prog bM 176 (#[]++([]:List Value).toArray++#[az b3,az b1,az b4,az b2,az b5]) σ (tQ 1 c::bI I::shA b3 b1 b4 b2 b5 c.G.b s up nm (.func (.func f) a1 caps) A) (MQ σ c eb<|fy c I (o+2^15) (a+1) r):=by
  intro b;cases up with
  |true=>exact PU e i j k b (hr b) d (l b) m hf
  |false=>obtain rfl:=h rfl;exact PW e i j k b (hr b) d (l b) m hf
 refine aG.lj (vX (nm:=nm) (at_:=s) e h1) ?_ (hr:=.cons Fo.au<|.cons Fo.au<|.cons Fo.au<|.cons Fo.au<|.cons Fo.au<|.cons Fo.au<|.cons Fo.au<|fK.app A);rintro v σ' aT ⟨er,q,t,L,u,w,rfl,rfl,x⟩;refine pQ ?_;exact aG.fe n p ⟨er,q,t,L,u,w,rfl,rfl,x⟩
variable{σ:Gh}{c:CV}{i:Int}{I:HL}{eb:Nat->Nat×Nat}{o a:Int}
theorem I9(b:iX I eb)(d:wh I c)(e:PM c)(f:oP o a c):
  bB prog bM 81 #[az c.G.b,aF i] σ [dm c,bI I] (CQ σ c I eb agN i<|fy c I (o+2^15) (a+1)<|gS c.abs 1 i 0):=by
 refine bB.of ?_;intro Post os out kd F c' cs C g h;refine pQ ?_;refine C.bx rfl λb2=>?_;refine C.bx rfl λb3=>?_;refine fB ?_;refine C.mf rfl ?_;refine aG.lj (vX (nm:=agN) (at_:=i) b λj=>Ut (σ:=σ) (b3:=b3) (b2:=b2) (t:=i) b d e f j) ?_;rintro v σ' aT ⟨er,k,l,L,m,n,rfl,rfl,p⟩;refine pQ ?_;exact aG.fe g h ⟨er,k,l,L,m,n,rfl,rfl,p⟩
theorem UE(b:2<=k/\k<=4)(d:wh I c)(e:oP o a c)(f:c.aj=false)(h:i<0\/(c.aH.length:Int)<=i):fy c I (o+2^15) (a+1) (gS c.abs k i 0) (some 4) c I:=by rw[Ga (by exact f) b,XJ (by rw[CV.Ae];exact h)];exact fy.same d e rfl
theorem Lo(g:iX I eb)(d:wh I c)(e:PM c)(f:oP o a c):
  bB prog bM 83 #[az c.G.b,aF i] σ [dm c,bI I] (CQ σ c I eb abW i<|fy c I (o+2^15) (a+1)<|gS c.abs 3 i 0):=by
 refine bB.of ?_;intro Post os out kd F c' cs C j k;refine pQ ?_;refine C.bx rfl λb2=>?_;refine C.bx rfl λb3=>?_;refine fB ?_;refine C.mf rfl ?_;refine aG.lj (rm (nm:=abW) (i:=i) (Q:=fy c I (o+2^15) (a+1)<|gS c.abs 3 i 0) (A:=[dq b2 (.cells #[az c.G.b] 23 (0,0)),dq b3<|.cells #[aF i] 3 (0,0)]) g e.aH (λl hl b=>?_) λb h=>UE ai d f b h) ?_
 .obtain⟨q,rfl⟩:=mJ l;exact PN d e f b<|by simpa using hl
 rintro v σ' aT ⟨er,m,n,L,p,r,rfl,rfl,s⟩;refine pQ ?_;exact aG.fe j k ⟨er,m,n,L,p,r,rfl,rfl,s⟩
theorem Dj(g:iX I eb)(d:wh I c)(e:PM c)(f:oP o a c)(hr:c.aj=false->nX σ c)(j:∀ (q:Nat) (w:q<c.aH.length),i=q->Nv c c.aH[q])(k:∀ v∈c.ah,v.s.up=true->sb v.s):
  bB prog bM 82 #[az c.G.b,aF i] σ [dm c,bI I] (CQ σ c I eb abX i<|fy c I (o+2^15) (a+1)<|gS c.abs 2 i 0):=by
 refine bB.of ?_;intro Post os out kd F c' cs C l m;refine pQ ?_;refine C.bx rfl λb2=>?_;refine C.bx rfl λb3=>?_;refine fB ?_;refine C.mf rfl ?_;refine aG.lj (rm (nm:=abX) (i:=i) (Q:=fy c I (o+2^15) (a+1)<|gS c.abs 2 i 0) (A:=[dq b2 (.cells #[az c.G.b] 23 (0,0)),dq b3<|.cells #[aF i] 3 (0,0)]) g e.aH (λn hl b=>?_) λb h=>UE ai d f b h) ?_
 .obtain⟨q,rfl⟩:=mJ n;exact PS d e f b (by simpa using hl) (hr b) (j q (by simpa using hl) rfl) k
 rintro v σ' aT ⟨er,p,r,L,s,t,rfl,rfl,u⟩;refine pQ ?_;exact aG.fe l m ⟨er,p,r,L,s,t,rfl,rfl,u⟩
theorem Lp(d:iX I eb)(e:wh I c)(f:PM c)(g:oP o a c):
  bB prog bM 84 #[az c.G.b,aF i] σ [dm c,bI I] (CQ σ c I eb abY i<|fy c I (o+2^15) (a+1)<|gS c.abs 4 i 0):=by
 refine bB.of ?_;intro Post os out kd F c' cs C j k;refine pQ ?_;refine C.bx rfl λb2=>?_;refine fB ?_;refine C.mf rfl ?_;refine aG.lj (rm (nm:=abY) (i:=i) (Q:=fy c I (o+2^15) (a+1)<|gS c.abs 4 i 0) (A:=[dq b2 (.cells #[az c.G.b] 23 (0,0))]) d f.aH (λl hl b=>?_) λb h=>UE ai e g b h) ?_
 .obtain⟨q,rfl⟩:=mJ l;exact PO d e f g b<|by simpa using hl
 rintro v σ' aT ⟨er,m,n,L,p,r,rfl,rfl,s⟩;refine pQ ?_;exact aG.fe j k ⟨er,m,n,L,p,r,rfl,rfl,s⟩
def ab2:ByteArray:=⟨#[83,121,110,99]⟩
def ab3:ByteArray:=⟨#[67,114,97,115,104]⟩
def ab4:ByteArray:=⟨#[82,101,115,116,97,114,116]⟩
theorem XN{c:CV}{b:Int}{up:Bool}(p:c.aj=false)(u:5<=k/\k<=8)(hu:up=decide (k≠8))(ht:tk=decide (k=6))(r:∀ z,g z=if k=8 then ko z else if k=5 then u9 z else if k=6 then qk z else om z b):XL c s up tk g (gS c.abs k s b):=by
 have o:gS c.abs k s b=if s<0\/(c.abs.sh.length:Int)<=s then(c.abs,(6:Int))else match c.abs.sh[s.toNat]? with
  |none=>(c.abs,(6:Int))
  |some z=>if k=8 then(if z.up then(c.abs,(8:Int))else(iN c.abs s.toNat<|ko z,(0:Int)))else if !z.up then(c.abs,(7:Int))else if k=5 then(iN c.abs s.toNat<|u9 z,(0:Int))else if k=6 then(if 150<c.abs.aH.length then(c.abs,(3:Int))else(iN c.abs s.toNat<|qk z,(0:Int)))else(iN c.abs s.toNat<|om z b,(0:Int)):=by
  unfold gS;rw[ax ai,ax (by show¬ c.aj=true;rw[p];decide),ax ai,ax ai];rfl
 have d:∀ (q:Nat) (d:q<c.ah.length),s=q->gS c.abs k s b=if k=8 then(if(c.ah[q]).s.up then(c.abs,(8:Int))else(iN c.abs q<|ko (c.ah[q]).s.abs,(0:Int)))else if !(c.ah[q]).s.up then(c.abs,(7:Int))else if k=5 then(iN c.abs q<|u9 (c.ah[q]).s.abs,(0:Int))else if k=6 then(if 150<c.aH.length then(c.abs,(3:Int))else(iN c.abs q<|qk (c.ah[q]).s.abs,(0:Int)))else(iN c.abs q<|om (c.ah[q]).s.abs b,(0:Int)):=by
  rintro q d rfl;rw[o,ax (by rw[CV.Us];omega),gN];have:c.abs.sh[q]? =some (c.ah[q]).s.abs:=by simp[CV.abs,d]
  rw[this,CV.Ae];rfl
 refine⟨λh=>?_,λq f e j=>?_,λq f e m t n=>?_,λq f e m n=>?_⟩
 .rw[o,aJ (by rw[CV.Us];exact h)]
 .rw[d q f e];by_cases a:k=8
  .subst a;rw[aJ rfl];have hu:up=false:=by simpa using hu
   rw[hu]at j⊢;rw[aJ (by simpa using j)];rfl
  .have hu:up=true:=by simpa[a]using hu
   rw[hu]at j⊢;rw[ax a,aJ<|by simpa using j];rfl
 .have i:k=6:=by rw[t]at ht;simpa using ht.symm
  subst i;have hu:up=true:=by simpa using hu
  rw[d q f e,ax ai,m,hu,ax (by decide),ax ai,aJ rfl,aJ n]
 .rw[d q f e,r,m];by_cases a:k=8
  .subst a;have hu:up=false:=by simpa using hu
   rw[hu,aJ rfl,ax (by decide),aJ rfl]
  .have hu:up=true:=by simpa[a]using hu
   rw[hu,ax a,ax (by decide),ax a];by_cases l:k=5
   .rw[aJ l,aJ l]
   .rw[ax l,ax l];by_cases i:k=6
    .subst i;rw[aJ rfl,aJ rfl,ax (by have:=n (by simpa using ht);omega)]
    .rw[ax i,ax i]
end
section
open Go.Proofs Go.Conc
theorem ij.mono{b:Nat}{I:HL}{o a o' a':Int}{r:eg}{v:Value}{As:List HP}(h:ij b I o a r v As)(c:o<=o')(ha:a<=a'):ij b I o' a' r v As:=by obtain⟨d,e,h1,f,g,i,j⟩:=h;exact⟨d,e,h1,f,g,i.mono c ha,j⟩
def Cn:Prop:=∀ {I:HL} {b:Nat} {s:dw} {o a:Int},ShJ I s->s.log.length<2^15->(∀ tx home O so,iQ.cK tx home O so∈s.log->np O)->y7 o a s->
 aI prog false cX 145 #[az b] [dB b s,bI I] (ij b I (o+2^15) (a+1)<|ko s.abs)
structure PX(c:CV)(k i b:Int):Prop where
 cb:PM c
 s:k=2\/5<=k->∀ v∈c.ah,v.s.up=true->sb v.s
 d:k=2->∀ (q:Nat) (hq:q<c.aH.length),i=q->Nv c c.aH[q]
 o:∀ v∈c.ah,(k=5->v.s.up=true->(u9 v.s.abs).out.length<2^30)/\(k=6->v.s.up=true->(qk v.s.abs).out.length<2^30)/\(k=7->v.s.up=true->(om v.s.abs b).out.length<2^30)/\(k=8->v.s.up=false->(ko v.s.abs).out.length<2^30)
 r:k=8->Cn/\∀ v∈c.ah,v.s.log.length<2^15/\∀ tx home ops so,iQ.cK tx home ops so∈v.s.log->np ops
section
variable{σ:Gh}{c:CV}{i b:Int}{I:HL}{eb:Nat->Nat×Nat}{o a:Int}
theorem Lq(m:iX I eb)(j:wh I c)(l:oP o a c)(hr:c.aj=false->nX σ c)(e:PX c 5 i b):
  bB prog bM 85 #[az c.G.b,aF i] σ [dm c,bI I] (CQ σ c I eb ab2 i<|fy c I (o+2^15) (a+1)<|gS c.abs 5 i b):=by
 refine bB.of ?_;intro Post os out kd F c' cs C n p;refine Vz ?_;refine aG.lj (pw (f:=141) (nm:=ab2) (s:=i) (up:=true) (tk:=false) (a1:=#[]) (caps:=#[]) (A:=[]) (g:=u9) m j e.cb l hr (by decide+kernel) (λ_=>rfl) (λr=>XN (k:=5) (b:=b) r ai (by decide) (by decide) λz=>by rw[ax ai,aJ rfl]) (λv d h=>(e.o v d).1 rfl h)
  (λv d h=>(K6 (j.sh v d) (e.s ai v d h)<|l v d).post λ_ _ q=>q.mono ai ai)) ?_
 rintro v σ' aT ⟨er,t,u,L,w,x,rfl,rfl,y⟩;refine pQ ?_;exact aG.fe n p ⟨er,t,u,L,w,x,rfl,rfl,y⟩
theorem Lr(n:iX I eb)(l:wh I c)(m:oP o a c)(hr:c.aj=false->nX σ c)(e:PX c 6 i b):
  bB prog bM 86 #[az c.G.b,aF i] σ [dm c,bI I] (CQ σ c I eb PT i<|fy c I (o+2^15) (a+1)<|gS c.abs 6 i b):=by
 refine bB.of ?_;intro Post os out kd F c' cs C p q;refine Vz ?_;refine aG.lj (pw (f:=142) (nm:=PT) (s:=i) (up:=true) (tk:=true) (a1:=#[]) (caps:=#[]) (A:=[]) (g:=qk) n l e.cb m hr (by decide+kernel) (λh=>by cases h) (λr=>XN (k:=6) (b:=b) r ai (by decide) (by decide) λz=>by rw[ax ai,ax ai,aJ rfl]) (λv d j=>(e.o v d).2.1 rfl j)
  (λv d j=>K5 (l.sh v d) (e.s ai v d j)<|m v d)) ?_
 rintro v σ' aT ⟨er,t,u,L,w,x,rfl,rfl,y⟩;refine pQ ?_;exact aG.fe p q ⟨er,t,u,L,w,x,rfl,rfl,y⟩
theorem Ja{bs:Nat}{s:dw}{b:Int}(e:ShJ I s)(f:sb s)(g:y7 o a s):aI prog false cX 143 (#[]++[az bs].toArray++#[az b5]) (dB bs s::bI I::[dq b5 (.cells #[aF b] 3 (0,0))]) (ij bs I (o+2^15) (a+1)<|om s.abs b):=by refine aI.of λR C kd d F c cs h i=>?_;refine Ei ?_;refine C.fZ (IF e f g) ?_;rintro v aT ⟨j,s',k,l,m,n,rfl⟩;refine uz ?_;exact C.eY h i ⟨j,s',k,l,m,n.mono ai ai,rfl⟩
theorem Jb(m:iX I eb)(j:wh I c)(l:oP o a c)(hr:c.aj=false->nX σ c)(e:PX c 7 i b):
  bB prog bM 87 #[az c.G.b,aF i,aF b] σ [dm c,bI I] (CQ σ c I eb ab3 i<|fy c I (o+2^15) (a+1)<|gS c.abs 7 i b):=by
 refine bB.of ?_;intro Post os out kd F c' cs C n p;refine pQ ?_;refine C.bx rfl λb5=>?_;refine fB ?_;refine C.mf rfl ?_;refine aG.lj (pw (f:=143) (nm:=ab3) (s:=i) (up:=true) (tk:=false) (a1:=#[]) (caps:=#[az b5]) (A:=[dq b5 (.cells #[aF b] 3 (0,0))]) (g:=λz=>om z b) m j e.cb l hr (by decide+kernel) (λ_=>rfl) (λq=>XN (k:=7) (b:=b) q ai (by decide) (by decide) λz=>by rw[ax ai,ax ai,ax ai]) (λv d h=>(e.o v d).2.2.1 rfl h)
  (λv d h=>Ja (j.sh v d) (e.s ai v d h)<|l v d)) ?_
 rintro v σ' aT ⟨er,r,t,L,u,w,rfl,rfl,x⟩;refine pQ ?_;exact aG.fe n p ⟨er,r,t,L,u,w,rfl,rfl,x⟩
theorem Dk(l:iX I eb)(h:wh I c)(j:oP o a c)(hr:c.aj=false->nX σ c)(e:PX c 8 i b):
  bB prog bM 88 #[az c.G.b,aF i] σ [dm c,bI I] (CQ σ c I eb ab4 i<|fy c I (o+2^15) (a+1)<|gS c.abs 8 i b):=by
 refine bB.of ?_;intro Post os out kd F c' cs C m n;refine Vz ?_;refine aG.lj (pw (f:=145) (nm:=ab4) (s:=i) (up:=false) (tk:=false) (a1:=#[]) (caps:=#[]) (A:=[]) (g:=ko) l h e.cb j hr (by decide+kernel) (λ_=>rfl) (λp=>XN (k:=8) (b:=b) p ai (by decide) (by decide) λz=>by rw[aJ rfl]) (λv d q=>(e.o v d).2.2.2 rfl q)
  (λv d _=>(e.r rfl).1 (h.sh v d) ((e.r rfl).2 v d).1 ((e.r rfl).2 v d).2<|j v d)) ?_
 rintro v σ' aT ⟨er,r,t,L,u,w,rfl,rfl,x⟩;refine pQ ?_;exact aG.fe m n ⟨er,r,t,L,u,w,rfl,rfl,x⟩
end
end
section
open Go.Proofs Go.Conc
theorem XO{b:Int}(a:k<=4):gS w k i b=gS w k i 0:=by unfold gS;rw[aJ a,aJ a]
theorem XP{b:Int}(a:1<=k/\k<=8)(hs:w.aj=true):gS w k i b=(w,9):=by unfold gS;rw[ax ai,aJ hs]
theorem XQ{b:Int}(a:k<1\/8<k):gS w k i b=(w,0):=by unfold gS;rw[aJ a]
theorem py{c c':CV}{I':HL}{b:Int}(d:1<=k/\k<=8)(e:wh I c)(f:oP o a c)(h:(c.aj=true/\er=some 8/\c'=c/\I'=I)\/(c.aj=false/\fy c I (o+2^15) (a+1) (gS c.abs k i b) er c' I')):fy c I (o+2^15) (a+1) (gS c.abs k i b) er c' I':=by
 rcases h with⟨hs,rfl,rfl,rfl⟩|⟨_,h⟩
 .rw[XP d (by exact hs)];exact fy.same e f rfl
 .exact h
theorem UF{c:CV}{b:Int}(n:iX I eb)(j:wh I c)(l:oP o a c)(hr:c.aj=false->nX σ c)(s:PX c k i b):
  bB prog bM 42 #[az c.G.b,aF k,aF i,aF b] σ [dm c,bI I] (λv σ' As=>∃ er c' I',σ'=σ/\v=aF (Cj er)/\fy c I (o+2^15) (a+1) (gS c.abs k i b) er c' I'/\As=[dm c',bI I']):=by
 refine bB.of ?_;intro Post os out kd F c' cs C m h;refine MY ?_;refine C.cmp rfl (λz=>?_) λz=>?_
 .refine dT ?_;obtain rfl:k=1:=z;refine dT ?_;refine aG.lj (I9 n j s.cb l) ?_;rintro v σ' aT ⟨er,e,f,L,g,p,rfl,rfl,q⟩;rw[XO (b:=b) ai]at h;have d:=py ai j l q;have r:=n.mono d.sub;cases er
  .refine ga ?_;obtain⟨rfl,rfl⟩:=g;refine cH ?_;refine C.cE (aI.less (dW _) gM) (A:=[]) ?_;refine su ?_;refine bL ?_;exact aG.fe m h ⟨none,e,f,rfl,rfl,d,rfl⟩
  .refine ga ?_;rename_i kk;obtain⟨bE,rfl,rfl⟩:=g;refine cH ?_;refine C.cE (iD r (bE:=bE) (k:=kk) (nm:=agN) (at_:=i)<|p kk rfl) ?_;refine pQ ?_;exact aG.fe m h ⟨some kk,e,f,rfl,rfl,d,rfl⟩
 .refine dY ?_;refine C.cmp rfl (λt=>?_) λt=>?_
  .refine dT ?_;obtain rfl:k=2:=t;refine dT ?_;refine aG.lj (Dj n j s.cb l hr (s.d rfl)<|s.s ai) ?_;rintro v σ' aT ⟨er,e,f,L,g,p,rfl,rfl,q⟩;rw[XO (b:=b) ai]at h;have d:=py ai j l q;have r:=n.mono d.sub;cases er
   .refine ga ?_;obtain⟨rfl,rfl⟩:=g;refine cH ?_;refine C.cE (aI.less (dW _) gM) (A:=[]) ?_;refine su ?_;refine bL ?_;exact aG.fe m h ⟨none,e,f,rfl,rfl,d,rfl⟩
   .refine ga ?_;rename_i kk;obtain⟨bE,rfl,rfl⟩:=g;refine cH ?_;refine C.cE (iD r (bE:=bE) (k:=kk) (nm:=abX) (at_:=i)<|p kk rfl) ?_;refine pQ ?_;exact aG.fe m h ⟨some kk,e,f,rfl,rfl,d,rfl⟩
  .refine dY ?_;refine C.cmp rfl (λB=>?_) λB=>?_
   .refine dT ?_;obtain rfl:k=3:=B;refine dT ?_;refine aG.lj (Lo n j s.cb l) ?_;rintro v σ' aT ⟨er,e,f,L,g,p,rfl,rfl,q⟩;rw[XO (b:=b) ai]at h;have d:=py ai j l q;have r:=n.mono d.sub;cases er
    .refine ga ?_;obtain⟨rfl,rfl⟩:=g;refine cH ?_;refine C.cE (aI.less (dW _) gM) (A:=[]) ?_;refine su ?_;refine bL ?_;exact aG.fe m h ⟨none,e,f,rfl,rfl,d,rfl⟩
    .refine ga ?_;rename_i kk;obtain⟨bE,rfl,rfl⟩:=g;refine cH ?_;refine C.cE (iD r (bE:=bE) (k:=kk) (nm:=abW) (at_:=i)<|p kk rfl) ?_;refine pQ ?_;exact aG.fe m h ⟨some kk,e,f,rfl,rfl,d,rfl⟩
   .refine dY ?_;refine C.cmp rfl (λu=>?_) λu=>?_
    .refine dT ?_;obtain rfl:k=4:=u;refine dT ?_;refine aG.lj (Lp n j s.cb l) ?_;rintro v σ' aT ⟨er,e,f,L,g,p,rfl,rfl,q⟩;rw[XO (b:=b) ai]at h;have d:=py ai j l q;have r:=n.mono d.sub;cases er
     .refine ga ?_;obtain⟨rfl,rfl⟩:=g;refine cH ?_;refine C.cE (aI.less (dW _) gM) (A:=[]) ?_;refine su ?_;refine bL ?_;exact aG.fe m h ⟨none,e,f,rfl,rfl,d,rfl⟩
     .refine ga ?_;rename_i kk;obtain⟨bE,rfl,rfl⟩:=g;refine cH ?_;refine C.cE (iD r (bE:=bE) (k:=kk) (nm:=abY) (at_:=i)<|p kk rfl) ?_;refine pQ ?_;exact aG.fe m h ⟨some kk,e,f,rfl,rfl,d,rfl⟩
    .refine dY ?_;refine C.cmp rfl (λD=>?_) λD=>?_
     .refine dT ?_;obtain rfl:k=5:=D;refine dT ?_;refine aG.lj (Lq n j l hr s) ?_;rintro v σ' aT ⟨er,e,f,L,g,p,rfl,rfl,q⟩;have d:=py ai j l q;have r:=n.mono d.sub;cases er
      .refine ga ?_;obtain⟨rfl,rfl⟩:=g;refine cH ?_;refine C.cE (aI.less (dW _) gM) (A:=[]) ?_;refine su ?_;refine bL ?_;exact aG.fe m h ⟨none,e,f,rfl,rfl,d,rfl⟩
      .refine ga ?_;rename_i kk;obtain⟨bE,rfl,rfl⟩:=g;refine cH ?_;refine C.cE (iD r (bE:=bE) (k:=kk) (nm:=ab2) (at_:=i)<|p kk rfl) ?_;refine pQ ?_;exact aG.fe m h ⟨some kk,e,f,rfl,rfl,d,rfl⟩
     .refine dY ?_;refine C.cmp rfl (λx=>?_) λx=>?_
      .refine dT ?_;obtain rfl:k=6:=x;refine dT ?_;refine aG.lj (Lr n j l hr s) ?_;rintro v σ' aT ⟨er,e,f,L,g,p,rfl,rfl,q⟩;have d:=py ai j l q;have r:=n.mono d.sub;cases er
       .refine ga ?_;obtain⟨rfl,rfl⟩:=g;refine cH ?_;refine C.cE (aI.less (dW _) gM) (A:=[]) ?_;refine su ?_;refine bL ?_;exact aG.fe m h ⟨none,e,f,rfl,rfl,d,rfl⟩
       .refine ga ?_;rename_i kk;obtain⟨bE,rfl,rfl⟩:=g;refine cH ?_;refine C.cE (iD r (bE:=bE) (k:=kk) (nm:=PT) (at_:=i)<|p kk rfl) ?_;refine pQ ?_;exact aG.fe m h ⟨some kk,e,f,rfl,rfl,d,rfl⟩
      .refine dY ?_;refine C.cmp rfl (λy=>?_) λy=>?_
       .refine dT ?_;obtain rfl:k=7:=y;refine dY ?_;refine aG.lj (Jb n j l hr s) ?_;rintro v σ' aT ⟨er,e,f,L,g,p,rfl,rfl,q⟩;have d:=py ai j l q;have r:=n.mono d.sub;cases er
        .refine ga ?_;obtain⟨rfl,rfl⟩:=g;refine cH ?_;refine C.cE (aI.less (dW _) gM) (A:=[]) ?_;refine su ?_;refine bL ?_;exact aG.fe m h ⟨none,e,f,rfl,rfl,d,rfl⟩
        .refine ga ?_;rename_i kk;obtain⟨bE,rfl,rfl⟩:=g;refine cH ?_;refine C.cE (iD r (bE:=bE) (k:=kk) (nm:=ab3) (at_:=i)<|p kk rfl) ?_;refine pQ ?_;exact aG.fe m h ⟨some kk,e,f,rfl,rfl,d,rfl⟩
       .refine dY ?_;refine C.cmp rfl (λE=>?_) λE=>?_
        .refine dT ?_;obtain rfl:k=8:=E;refine dT ?_;refine aG.lj (Dk n j l hr s) ?_;rintro v σ' aT ⟨er,e,f,L,g,p,rfl,rfl,q⟩;have d:=py ai j l q;have r:=n.mono d.sub;cases er
         .refine ga ?_;obtain⟨rfl,rfl⟩:=g;refine cH ?_;refine C.cE (aI.less (dW _) gM) (A:=[]) ?_;refine su ?_;refine bL ?_;exact aG.fe m h ⟨none,e,f,rfl,rfl,d,rfl⟩
         .refine ga ?_;rename_i kk;obtain⟨bE,rfl,rfl⟩:=g;refine cH ?_;refine C.cE (iD r (bE:=bE) (k:=kk) (nm:=ab4) (at_:=i)<|p kk rfl) ?_;refine pQ ?_;exact aG.fe m h ⟨some kk,e,f,rfl,rfl,d,rfl⟩
        .refine gV ?_;have H:=XQ (w:=c.abs) (k:=k) (i:=i) (b:=b) ai;exact aG.fe m h ⟨none,c,I,rfl,rfl,by rw[H];exact fy.same j l rfl,rfl⟩
theorem EP{A B:Type}{f:A->B}:∀ {l:List A},(l.map f).Nodup->∀ {a b:A},a∈l->b∈l->f a=f b->a=b
 |[],_,_,_,h,_,_=>by cases h
 |x::l,h,a,b,i,j,e=>by
  have c:=qP.1 (show(f x::l.map f).Nodup from h);rcases gU.1 i with rfl|d<;>rcases gU.1 j with rfl|g
  .rfl
  .exact(c.1<|cq.2 ⟨b,g,e.symm⟩).elim
  .exact(c.1<|cq.2 ⟨a,d,e⟩).elim
  .exact EP c.2 d g e
theorem PY{V:Type}{l m:List (Int×V)}(hl:(l.map (·.1)).Nodup)(hm:(m.map (·.1)).Nodup)(h:∀ p,p∈l↔p∈m)(k:Int):aB l k=aB m k:=by
 cases e:aB m k with
 |some v=>exact eR hl<|(h _).2<|cg e
 |none=>
  cases e2:aB l k with
  |none=>rfl
  |some v=>
   have:=eR hm<|(h _).1<|cg e2;rw[e]at this;cases this
theorem KL.ab5{E:List aR}{P:eg}{L:List kh}{V:List Int}(H:KL E P L V)(hz:∀ x∈V,QQ x):afR P.values V:=by
 refine⟨H.C5,hz,λd m hp=>?_⟩;have f:∀ p,p∈d↔p∈P.values/\p.2≠0:=λp=>by rw[hp.mem_iff,gW];simp
 have o:∀ x,(aB d x).getD 0=(aB P.values x).getD 0:=λx=>by
  cases e:aB d x with
  |some w=>
   have:=(f _).1<|cg e;rw[eR H.vn this.1]
  |none=>
   cases e2:aB P.values x with
   |none=>rfl
   |some w=>
    by_cases n:w=0
    .subst n;rfl
    .have:=eR m<|(f (x,w)).2 ⟨cg e2,n⟩;rw[e]at this;cases this
 have g:∀ k:Nat,k<26->(aB P.values<|97+(k:Int)).getD 0=V[k]?.getD 0:=λk j=>by rw[H.bX (97+(k:Int)) ai ai,show(97+(k:Int)-97).toNat=k by omega]
 constructor
 .refine Rm (by rw[ns,H.C5]) λi h1 c=>?_;have hi:i<26:=by rw[ns]at h1;exact h1
  rw[Ck 0 d hi,o,g i hi,cQ c];rfl
 .have q:V=(List.range 26).map λk=>V[k]?.getD 0:=by refine Rm (by rw[eM,wq,H.C5]) λi h1 c=>?_;rw[List.getElem_map,List.getElem_range,cQ h1];rfl
  have r:Un V=((List.range 26).filter λk=>V[k]?.getD 0 != 0).length:=by
   conv=>lhs;rw[q]
   unfold Un;rw[List.filter_map,eM];rfl
  rw[r];refine Ro ?_ ?_
  .have:=n7 (b:=((List.range 26).filter λk=>V[k]?.getD 0 != 0).map λ(k:Nat)=>97+(k:Int)) m λx l=>by obtain⟨p,s,rfl⟩:=cq.1 l;obtain⟨h1,c⟩:=(f p).1 s;have j:=H.vk p h1;refine cq.2 ⟨(p.1-97).toNat,gW.2 ⟨iA.2 ai,?_⟩,ai⟩;have:=g (p.1-97).toNat ai;rw[show(97:Int)+((p.1-97).toNat:Int)=p.1 by omega,eR H.vn (show(p.1,p.2)∈P.values from h1)]at this;rw[<- this];simpa using c
   simpa using this
  .have:=n7 (a:=((List.range 26).filter λk=>V[k]?.getD 0 != 0).map λ(k:Nat)=>97+(k:Int)) (b:=d.map (·.1)) ?_ λx l=>by
    obtain⟨k,j,rfl⟩:=cq.1 l;obtain⟨h1,c⟩:=gW.1 j;have h1:=iA.1 h1;have t:=g k h1;have c:V[k]?.getD 0≠0:=by simpa using c
    rw[<- t]at c;cases e:aB P.values (97+(k:Int))with
    |none=>rw[e]at c;exact absurd rfl c
    |some w=>
     rw[e]at c;exact cq.2 ⟨(97+(k:Int),w),(f _).2 ⟨cg e,c⟩,rfl⟩
   .simpa using this
   .exact List.Pairwise.map _ (λa b h=>by omega)<|List.nodup_range.filter _
theorem KL.ab6{E:List aR}{P:eg}{L:List kh}{V:List Int}(H:KL E P L V)(hr:∀ h∈L,97<=h.key/\h.key<=122):afS P.aQ L:=by
 have f:∀ h∈L,L.find? (λx=>x.key==h.key)=some h:=λh c=>by
  cases e:L.find? (λx=>x.key==h.key)with
  |none=>have:=Q4.1 e h c;simp at this
  |some g=>
   have h1:=Q6 e;have i:=GU e;rw[EP H.ln i c (by simpa using h1)]
 refine⟨hr,λl j hp=>⟨?_,λh c=>?_⟩⟩
 .rw[hp.length_eq];refine Ro ?_ ?_
  .have:=n7 (b:=L.map (·.key)) H.pl λx d=>by
    obtain⟨p,k,rfl⟩:=cq.1 d;have h1:=eR H.pl (show(p.1,p.2)∈P.aQ from k);rw[H.lock]at h1;cases e:L.find? (λx=>x.key==p.1)with
    |none=>rw[e]at h1;cases h1
    |some g=>exact cq.2 ⟨g,GU e,by have:=Q6 e;simpa using this⟩
   simpa using this
  .have:=n7 (a:=L.map (·.key)) (b:=P.aQ.map (·.1)) H.ln λx d=>by obtain⟨h,c,rfl⟩:=cq.1 d;have h1:=H.lock h.key;rw[f h c]at h1;exact cq.2 ⟨_,cg h1,rfl⟩
   simpa using this
 .rw[PY j H.pl (λp=>hp.mem_iff),H.lock,f h c];rfl
variable{T:List (List bO)}{n:Int}{P:eg}{R:ShR}{t:Nat}
theorem dA.ab5(H:dA T n P R)(hz:∀ x∈R.bX,QQ x):afR P.values R.bX:=by
 cases a:R.up with
 |true=>exact(H.kl a).ab5 hz
 |false=>
  obtain⟨h1,_,b,_⟩:=H.dn a;rw[h1,b];refine⟨rfl,λx c=>by rw[Yj c];exact⟨by decide,by decide⟩,λd e hp=>?_⟩;obtain rfl:d=[]:=by simpa using hp
  exact⟨Uo 0,rfl⟩
theorem dA.ab6(H:dA T n P R)(e:vd T):afS P.aQ R.aQ:=by
 cases a:R.up with
 |true=>
  refine(H.kl a).ab6 λh f=>?_;obtain⟨i,r,h1,b,o,d,c⟩:=(H.kl a).lk h f;obtain⟨O,g,_,j,_⟩:=H.tA.ready h1 b;rw[j]at d;rw[<- c];exact(e.of g).key o d
 |false=>
  obtain⟨_,b,_,c,_⟩:=H.dn a;rw[b,c];refine⟨by simp,λk l hp=>?_⟩;obtain rfl:k=[]:=by simpa using hp
  exact⟨rfl,by simp⟩
theorem ab7{A B:Type}{r:A->B->Prop}{l:List A}{m:List B}(h:F2 r l m):∀ a∈l,∃ b∈m,r a b:=by
 induction h with
 |nil=>intro a c;cases c
 |@cons x y l m h _ d=>
  intro a c;rcases gU.1 c with rfl|c
  .exact⟨y,fX ..,h⟩
  .obtain⟨b,e,f⟩:=d a c;exact⟨b,fg _ e,f⟩
theorem gw.afZ{l:List bO}(h:gw l):np l:=⟨λo a=>⟨(h.1 o a).1,(h.1 o a).2.1⟩,by have:=h.2.2.2;omega⟩
theorem np.part{l:List bO}(h:np l)(k n:Int):np (br l k n):=⟨λo a=>h.1 o (gW.1 a).1,Aw (Dx _ _) h.2⟩
variable{s:dw}
theorem dA.ab8(H:dA T n s.abs R)(f:vd T)(z:Bp t R)(B:1<=n/\n<=4)(ht:t<=2^42)(g:y7 (t*2^15) t s)(hu:R.up=true)(l:R.out=[]):sb s:=by
 have C:s.log.length=R.log.length:=by have:=congrArg List.length H.log;simpa[dw.abs]using this
 have m:s.timers.length=R.timers.length:=by have:=congrArg List.length H.timers;simpa[dw.abs]using this
 have D:s.waits.length=R.waits.length:=by have:=congrArg List.length H.waits;simpa[dw.abs]using this
 have c:s.out.length=R.out.length:=by have:=congrArg List.length H.out;simpa[dw.abs]using this
 have o:s.aE=R.aE:=H.aE;have E:s.clock=R.clock:=H.clock;have q:=H.gl;have F:s.n=n:=H.n1;have h:=H.kl hu;have x:=H.log;refine⟨ai,by have:=z.log;omega,ai,by have:=z.timers;omega,by have:=z.waits;omega,by rw[c,l];decide,by have:=z.clock;omega,by have:=g.o;omega,λu d=>?_,λu d p hp=>by have:=g.a u d p hp;omega,λtx p hp=>?_,λtx p hp=>?_⟩
 .obtain⟨b,I,j⟩:=ab7 (H.cr hu) (u.1,u.2.abs)<|cq.2 ⟨u,d,rfl⟩;have h1:=f.of j.ops;have a:u.2.ops=b.ops:=j.ua.ops;rw[a];exact h1.afZ
 .have h1:=h.pend tx;have a:aB s.abs.pend tx=some p.abs:=by show aB (s.pend.map λp=>(p.1,p.2.abs)) tx=_;rw[wV (w:=λv:rY=>v.abs),hp];rfl
  rw[a]at h1;cases e:aL (s.abs.log.map aR.aZ) tx with
  |none=>rw[e]at h1;cases h1
  |some i=>
   rw[e]at h1;simp only[Ai]at h1;cases e2:(s.abs.log.map aR.aZ)[i]? with
   |none=>rw[e2]at h1;cases h1
   |some r=>
    rw[e2]at h1;have k:p.ops=r.ops:=congrArg AT.ops<|cA h1;obtain⟨O,y,_,A,_⟩:=H.tA.ready e e2;rw[k,A];exact(f.of y).afZ.part _ _
 .have h1:=h.bF tx;have a:aB s.abs.bF tx=some p:=hp;rw[a]at h1;cases e:aM (s.abs.log.map aR.aZ) 2 tx with
  |none=>rw[e]at h1;cases h1
  |some i=>
   rw[e]at h1;simp only[Ai]at h1;have hi:=(bG e).1;cases e2:(s.abs.log.map aR.aZ)[i]? with
   |none=>rw[e2]at h1;cases h1
   |some r=>
    rw[e2]at h1;have k:p.pl=i:=congrArg iK.pl<|cA h1;have J:(s.abs.log.map aR.aZ).length=s.log.length:=by simp[dw.abs]
    omega
theorem tV(u:dS)(n:Int):∀ (l:List bO) (a:Int->Nat),(il u n l a).length<=l.length
 |[],_=>fp _
 |o::l,a=>by
  unfold il;split
  .exact Nat.le_succ_of_le<|tV u n l a
  .exact Nat.succ_le_succ<|tV u n l _
theorem XR{P:eg}{m:MsgR}(H:dA T n P R)(C:vd T)(Q:0<n)(D:R.up=true)(hm:jM T n m)(S:m.kind=3):B8 P m:=by
 obtain⟨O,y,r⟩:=hm;have r:m.to=gp O n/\cu O m.aX n=true/\(m.yes=true->m.reads.length=Oj (br O m.aX n)):=by rcases r with h|h|h|h|h|h|h<;>first|exact⟨h.2.1,h.2.2.1,h.2.2.2.1⟩|(have:=h.1;omega)
 obtain⟨U,E,F⟩:=r;have I:=C.of y;intro a l W J s;rcases qo (H.cr D) m.tx with⟨t,_⟩|⟨i,d,u,t,X,Y,K,b⟩
 .rw[t]at l;cases l
 .rw[t]at l;obtain rfl:=cA l;have A:u.ops=O:=by have:=b.ops;rw[K,y]at this;exact(cA this).symm
  have L:(aB d.bq m.aX).isSome=(bJ u m.aX).isSome:=by rw[b.ua.bq];simp
  obtain⟨c,f⟩:∃ c,c=(if(m.yes&& !(bJ u m.aX).isSome)=true then{u with bq:=u.bq++[⟨m.aX,m.reads⟩]}else u):=⟨_,rfl⟩;obtain⟨a1,w⟩:∃ a1,a1=GD d m:=⟨_,rfl⟩;have o:a1=(if(m.yes&& !(bJ u m.aX).isSome)=true then{d with bq:=bC d.bq m.aX m.reads}else d):=by rw[w];unfold GD;rw[L]
  have q:l5 T n R.me (m.tx,a1) c:=by
   by_cases x:(m.yes&& !(bJ u m.aX).isSome)=true
   .rw[aJ x]at o f;rw[o,f];have B:m.yes=true/\(bJ u m.aX).isSome=false:=by simpa using x
    refine⟨b.tx,⟨b.ua.ops,b.ua.dec,b.ua.yes,λk=>?_,fR b.ua.vn,b.ua.an,b.ua.cf,b.ua.ap,λp hp=>?_,b.ua.at'⟩,b.ops,b.home⟩
    .show aB (bC d.bq m.aX m.reads) k=_;rw[gn,b.ua.bq];unfold bJ;simp only;rw[List.find?_append];by_cases e:k=m.aX
     .subst e;have:List.find? (λv=>v.aX==m.aX) u.bq=none:=by have:=B.2;unfold bJ at this;simpa using this
      simp[this]
     .have:(m.aX==k)=false:=by simpa using λz=>e z.symm
      simp[e,this]
    .rcases eO hp with rfl|hp
     .show cu u.ops m.aX n=true/\m.reads.length=Oj (br u.ops m.aX n);rw[A];exact⟨E,F B.1⟩
     .exact b.ua.vt p hp
   .rw[ax x]at o f;rw[o,f];exact b
  have g:c.ops=O:=by rw[f];split<;>exact A
  have M:a1.ops=O:=q.ua.ops.trans g;unfold mo at s;rw[<- w,J,H.n1,M]at s;have j:(dL O n).length<=a1.bq.length:=by simpa using s
  have N:=(vE (n:=n) (O:=O) q.ua.vn (λp hp=>by have:=(q.ua.vt p hp).1;rw[g]at this;exact this)).1 j;refine⟨jU c n,?_,?_⟩
  .rw[<- w,H.n1];exact HA q.ua (by rw[g];exact N)
  .have h1:=tV c n c.ops λ_=>0;have Z:=I.2.2.2;rw[g]at h1;unfold jU;rw[g];omega
def qG(A:HP)(l:List Nat):Prop:=∀ h,A h->l.Nodup/\∀ b∈l,∃ o,h b=some o
theorem qG.nil{A:HP}:qG A []:=λh _=>⟨GP,by simp⟩
theorem qG.dq{o:Obj}:qG (dq b o) [b]:=λh e=>⟨by simp,λx a=>by obtain rfl:=dR.1 a;have e:h=one x o:=e;exact⟨o,by rw[e];simp[one]⟩⟩
theorem qG.all{As:List HP}{ls:List (List Nat)}(h:F2 qG As ls):qG (all As) ls.flatten:=by
 have key:∀ {As:List HP} {ls:List (List Nat)},F2 qG As ls->∀ h,Sat As h->ls.flatten.Nodup/\∀ b∈ls.flatten,∃ o,h b=some o:=by
  intro As ls f
  induction f with
  |nil=>intro h _;exact⟨GP,by simp⟩
  |@cons A l As ls g _ i=>
   rintro h ⟨h1,a,j,r⟩;obtain⟨k,o1⟩:=g h1 a;obtain⟨m,o2⟩:=i _ r;simp only[List.flatten_cons];refine⟨jc.2 ⟨k,m,λx n y p e=>?_⟩,λb hb=>?_⟩
   .subst e;obtain⟨o,c⟩:=o1 x n;obtain⟨q,d⟩:=o2 x p;unfold less at d;rw[c]at d;cases d
   .rcases bS.1 hb with hb|hb
    .obtain⟨o,c⟩:=o1 b hb;exact⟨o,j _ _ c⟩
    .obtain⟨o,c⟩:=o2 b hb;exact⟨o,oe _ _ c⟩
 exact key h
theorem qG.ex{X:Type}{A:X->HP}{l:List Nat}(h:∀ x,qG (A x) l):qG (λH=>∃ x,A x H) l:=λH ⟨x,a⟩=>h x H a
def HV.chans(v:HV):List Nat:=[v.h.wk,v.h.rd]
def CV.chans(c:CV):List Nat:=c.ah.flatMap HV.chans++[c.G.dn]
theorem Ls(v:HV):qG (jy v) v.chans:=by have:=qG.all (As:=vh v []) (ls:=[[],[v.h.wk],[v.h.rd],[],[]])<|.cons .nil<|.cons .dq<|.cons .dq<|.cons .nil<|.cons .nil .nil;exact this
theorem PZ(l:List HV):qG (all<|l.map jy) (l.flatMap HV.chans):=by
 refine qG.all (ls:=l.map HV.chans) ?_
 induction l with
 |nil=>exact .nil
 |cons v l a=>exact .cons (Ls v) a
theorem UG(m:Int)(c:CV):qG (tQ m c) c.chans:=by refine qG.ex λhs=>qG.ex λbg=>qG.ex λtx=>?_;have:=qG.all (As:=cvO c m c.st hs bg tx []) (ls:=[[],[],[],[],c.ah.flatMap HV.chans,[c.G.dn],[]])<|.cons .nil<|.cons .nil<|.cons .nil<|.cons .nil<|.cons (PZ _)<|.cons .dq<|.cons .nil .nil;simpa[CV.chans]using this
structure Nz(σ:Gh)(L:List CV):Prop where
 ok:Uk σ
 reg:∀ c∈L,c.aj=false->nX σ c
 only:∀ i s,σ.aU i=some s->∃ c∈L,c.aj=false/\∃ v∈c.ah,v.h.g=i/\s=ff v.h c.G
theorem Nz.nil(h:qF σ):Nz σ []:=⟨h.ok,by simp,λi s e=>by rw[h.no]at e;cases e⟩
theorem CV.Lt{c c':CV}(a:c'.G=c.G)(hh:c'.ah.map (·.h)=c.ah.map (·.h)):c'.chans=c.chans:=by
 unfold CV.chans;rw[a]
 congr 1
 have:∀ l:List HV,l.flatMap HV.chans=(l.map (·.h)).flatMap λh=>[h.wk,h.rd]:=λl=>by simp[List.flatMap_map];rfl
 rw[this,this,hh]
theorem Nz.set{L:List CV}(h:Nz σ L){i:Nat}(hi:i<L.length){c':CV}(b:c'.G=L[i].G)(hh:c'.ah.map (·.h)=L[i].ah.map (·.h))(d:c'.aj=L[i].aj):Nz σ (L.set i c'):=by
 refine⟨h.ok,λc a hs=>?_,λj s e=>?_⟩
 .rcases gk a with a|rfl
  .exact h.reg c a hs
  .exact(h.reg _ (dG hi)<|d▸hs).same b hh
 .obtain⟨c,a,h1,v,f,g,k⟩:=h.only j s e;obtain⟨q,l,rfl⟩:=nJ a;by_cases z:q=i
  .subst z;have:v.h∈L[q].ah.map (·.h):=yz f;rw[<- hh]at this;obtain⟨u,m,e2⟩:=cq.1 this;refine⟨c',Dw.2 ⟨q,by simpa using l,by simp⟩,d.trans h1,u,m,by rw[e2];exact g,by rw[e2,b];exact k⟩
  .exact⟨L[q],Dw.2 ⟨q,by simpa using l,by rw[LY ai]⟩,h1,v,f,g,k⟩
theorem CV.mV{c:CV}{v:HV}(hv:v∈c.ah):v.h.wk∈c.chans/\v.h.rd∈c.chans/\c.G.dn∈c.chans:=by refine⟨iq _ (E5.2 ⟨v,hv,by simp[HV.chans]⟩),iq _ (E5.2 ⟨v,hv,by simp[HV.chans]⟩),fD _<|by simp⟩
theorem CV.af0{c:CV}(f:c.chans.Nodup){v u:HV}(hv:v∈c.ah)(hu:u∈c.ah):v.h.rd≠u.h.wk/\v.h.rd≠c.G.dn:=by
 have h1:=jc.1 f;refine⟨λe=>?_,λe=>h1.2.2 _ (E5.2 ⟨v,hv,by simp[HV.chans]⟩) _ (dR.2 rfl) e⟩;have g:=h1.1;obtain⟨p,hp,rfl⟩:=nJ hv;obtain⟨q,b,rfl⟩:=nJ hu;have d:=List.pairwise_flatMap.1 g;by_cases z:p=q
 .subst z;have:=d.1 _<|dG hp;simp[HV.chans]at this;exact this e.symm
 .have a:=Ds.1 d.2;rcases Nat.lt_or_gt_of_ne z with z|z
  .exact a p q hp b z c.ah[p].h.rd (by simp[HV.chans]) _ (by simp[HV.chans]) e
  .exact a q p b hp z _ (by simp[HV.chans]) c.ah[p].h.rd (by simp[HV.chans]) e.symm
theorem oI{c:CV}{v:HV}(hv:v∈c.ah){x:Nat}(h:(ff v.h c.G).has x):x∈c.chans:=by
 rcases n6.1 h with rfl|rfl
 .exact(CV.mV hv).1
 .exact(CV.mV hv).2.2
theorem Nz.new{σ σ':Gh}{L:List CV}(h:Nz σ L){c:CV}(N:tT σ σ' c.G c.ah)(y:1<=c.ah.length/\c.ah.length<=4)(hs:c.aj=false)(o:((L++[c]).flatMap CV.chans).Nodup):Nz σ' (L++[c]):=by
 have m:(L.flatMap CV.chans).Nodup/\c.chans.Nodup/\∀ a∈L.flatMap CV.chans,∀ b∈c.chans,a≠b:=by rw[List.flatMap_append]at o;have:=jc.1 o;simpa using this
 have l:∀ c'∈L,∀ x∈c'.chans,x∉c.chans:=λc' k x z A=>m.2.2 x (E5.2 ⟨c',k,z⟩) x A rfl;have n:∀ i s,σ.aU i=some s->i<σ.n/\σ'.aU i=some s:=λi s e=>by have:=h.ok.lt i s e;exact⟨this,by rw[N.old i this];exact e⟩
 have key:∀ i s,σ'.aU i=some s->(i<σ.n/\σ.aU i=some s)\/(σ.n<=i/\∃ v∈c.ah,v.h.g=i/\s=ff v.h c.G):=λi s e=>by
  rcases lP i σ.n with h1|h1
  .rw[N.old i h1]at e;exact .inl ⟨h1,e⟩
  .exact .inr ⟨h1,N.new i s h1 e⟩
 refine⟨⟨by have:=N.n;have:=h.ok.n;omega,λi s e=>?_⟩,λc' k hs=>?_,λi s e=>?_⟩
 .rcases key i s e with⟨h1,_⟩|⟨_,v,d,rfl,_⟩
  .have:=N.n;omega
  .exact(N.has v d).2.2
 .rcases bS.1 k with k|k
  .have r:=h.reg c' k hs;refine⟨⟨λv d=>(n _ _<|r.aU v d).2,r.nd,λi s e f=>?_,λv d i s e f=>?_,r.wd,(N.sh _).2<|.inl r.sh7,(N.sh _).2<|.inl r.sh8,r.n⟩,λv d i s e f=>?_⟩
   .rcases key i s e with⟨_,e⟩|⟨_,u,g,_,rfl⟩
    .exact r.only i s e f
    .obtain⟨v,d⟩:=Yg _ (List.ne_nil_of_length_pos (show 0<c'.ah.length by have:=r.n;omega));exact absurd (oI g f)<|l c' k _ (CV.mV d).2.2
   .rcases key i s e with⟨_,e⟩|⟨_,u,g,_,rfl⟩
    .exact r.wk v d i s e f
    .exact absurd (oI g f)<|l c' k _ (CV.mV d).1
   .rcases key i s e with⟨_,e⟩|⟨_,u,g,_,rfl⟩
    .exact r.rdn v d i s e f
    .exact absurd (oI g f)<|l c' k _ (CV.mV d).2.1
  .obtain rfl:=dR.1 k;refine⟨⟨λv d=>(N.has v d).1,N.gnd,λi s e f=>?_,λv d i s e f=>?_,N.wd,(N.sh _).2<|.inr<|.inl rfl,(N.sh _).2<|.inr<|.inr rfl,y⟩,λv d i s e f=>?_⟩
   .rcases key i s e with⟨_,e⟩|⟨_,u,g,j,_⟩
    .exact absurd f<|N.fd i s e
    .exact⟨u,g,j⟩
   .rcases key i s e with⟨_,e⟩|⟨_,u,g,rfl,rfl⟩
    .exact absurd f<|N.fw v d i s e
    .rcases n6.1 f with j|j
     .have o:=N.wnd;obtain⟨p,hp,rfl⟩:=nJ d;obtain⟨q,B,rfl⟩:=nJ g;have:p=q:=(List.getElem_inj (h₀:=by simpa using hp) (h₁:=by simpa using B) o).1 (by simpa using j);subst this;rfl
     .exact absurd j<|N.wd v d
   .rcases key i s e with⟨_,e⟩|⟨_,u,g,_,rfl⟩
    .obtain⟨t,w,_,u,g,_,rfl⟩:=h.only i s e;exact l t w _ (oI g f) (CV.mV d).2.1
    .have:=CV.af0 m.2.1 d g;rcases n6.1 f with j|j
     .exact this.1 j
     .exact this.2 j
 .rcases key i s e with⟨_,e⟩|⟨_,u,g,j,C⟩
  .obtain⟨t,w,h1,j⟩:=h.only i s e;exact⟨t,iq _ w,h1,j⟩
  .exact⟨c,by simp,hs,u,g,j,C⟩
theorem Nz.stop{L:List CV}(h:Nz σ L){i:Nat}(hi:i<L.length)(A:(L.flatMap CV.chans).Nodup):Nz (if L[i].aj then σ else σ.iH L[i].ids) (L.set i {L[i]with aj:=true}):=by
 have l:∀ (p q:Nat) (hp:p<L.length) (b:q<L.length),p≠q->∀ x∈L[p].chans,x∉L[q].chans:=λp q hp b z x o t=>by
  have d:=Ds.1 (List.pairwise_flatMap.1 A).2;rcases Nat.lt_or_gt_of_ne z with z|z
  .exact d p q hp b z x o x t rfl
  .exact d q p b hp z x t x o rfl
 by_cases hs:L[i].aj=true
 .rw[aJ hs];exact h.set hi rfl rfl hs.symm
 .rw[ax hs];have hs:L[i].aj=false:=by simpa using hs
  have B:=h.reg _ (dG hi) hs;have key:∀ j s,(σ.iH L[i].ids).aU j=some s->σ.aU j=some s/\j∉L[i].ids:=λj s e=>by
   have e:(if j∈L[i].ids then none else σ.aU j)=some s:=e;split at e
   .cases e
   .exact⟨e,by assumption⟩
  refine⟨⟨h.ok.n,λj s e=>h.ok.lt j s (key j s e).1⟩,λc m g=>?_,λj s e=>?_⟩
  .obtain⟨q,b,rfl⟩:=nJ m;have w:q<L.length:=by simpa using b
   by_cases z:q=i
   .subst z;rw[Rk]at g;cases g
   .rw[LY ai]at g⊢;have r:=h.reg _ (dG w) g;refine⟨⟨λv a=>?_,r.nd,λj s e f=>r.only j s (key j s e).1 f,λv a j s e f=>r.wk v a j s (key j s e).1 f,r.wd,r.sh7,r.sh8,r.n⟩,λv a j s e f=>r.rdn v a j s (key j s e).1 f⟩;have h1:=r.aU v a;have n:v.h.g∉L[i].ids:=λC=>by
     obtain⟨u,y,e2⟩:=cq.1 C;have d:=B.aU u y;rw[e2,h1]at d;have k:(ff u.h L[i].G).has v.h.wk:=by rw[<- cA d];exact n6.2<|.inl rfl
     exact l q i w hi z _ (CV.mV a).1<|oI y k
    show(if v.h.g∈L[i].ids then none else σ.aU v.h.g)=_;rw[ax n];exact h1
  .obtain⟨h1,n⟩:=key j s e;obtain⟨c,m,d,v,a,k,D⟩:=h.only j s h1;obtain⟨q,b,rfl⟩:=nJ m;have z:q≠i:=λz=>by subst z;exact n<|cq.2 ⟨v,a,k⟩
   exact⟨L[q],Dw.2 ⟨q,by simpa using b,by rw[LY ai]⟩,d,v,a,k,D⟩
theorem Nz.idle{L:List CV}(h:Nz σ L)(hs:∀ c∈L,c.aj=true):qF σ:=⟨h.ok.n,λi=>by
 cases e:σ.aU i with
 |none=>rfl
 |some s=>
  obtain⟨c,a,h1,_⟩:=h.only i s e;rw[hs c a]at h1;cases h1⟩
variable{P:bT}{ao:Bool}{B:lM}{R:Nat->aO->Array Obj->Prop}{d:Nat}{As W L:List HP}
variable{fn:bN}{kd:Kd}{n:Nat}{e:Nat->Value}{ds:List eK}{k:List Item}{cs:List Frame}
variable{O:Array Oper}{i:Nat}{aa:List Nat}{ty:aP}{pos:String}{af:Array Edge}{gd:Option (Nat×Bool)}{x:dp}{v:Value}{b off:Nat}{c:Array Value}{el tt:aP}
variable{I I' I'':HL}{c c':CV}{w w':WV}
theorem XT{O:List bO}{tt:Int}{b:List dV}{d:List we}(f:(c.aj=true/\er=some 8/\tt=0/\b=c.aH/\d=c.aC/\I'=I)\/(c.aj=false/\K9 eb I c.ah.length O c.aH c.aC er tt I' b d)):
  ((CV.abs {c with aH:=b,aC:=d},tt,Cj er):WP×Int×Int)=qp c.abs O:=by
 unfold qp;rcases f with⟨h1,rfl,rfl,rfl,rfl,_⟩|⟨h1,_,⟨a,rfl,rfl,rfl,rfl⟩|⟨a,e,rfl,rfl,rfl,rfl⟩|⟨a,e,rfl,rfl,g,_,rfl,rfl⟩⟩
 .rw[aJ (show c.abs.aj=true from h1)];rfl
 .rw[ax (show¬ c.abs.aj=true by rw[show c.abs.aj=c.aj from rfl,h1];decide),aJ a];rfl
 .rw[ax (show¬ c.abs.aj=true by rw[show c.abs.aj=c.aj from rfl,h1];decide),ax (by simpa using a),aJ<|by simpa[CV.abs]using e];rfl
 .rw[ax (show¬ c.abs.aj=true by rw[show c.abs.aj=c.aj from rfl,h1];decide),ax (by simpa using a),ax<|by simpa[CV.abs]using e];unfold oX;simp[CV.abs,Cj,Cf]
theorem af1{O:List bO}{tt:Int}{d:List dV}{e:List we}(a:wh I c)(h:(c.aj=true/\er=some 8/\tt=0/\d=c.aH/\e=c.aC/\I'=I)\/(c.aj=false/\K9 eb I c.ah.length O c.aH c.aC er tt I' d e)):
  Sub I I'/\wh I' {c with aH:=d,aC:=e}:=by
 rcases h with⟨h1,rfl,rfl,rfl,rfl,rfl⟩|⟨h1,hs,⟨f,rfl,rfl,rfl,rfl⟩|⟨f,i,rfl,rfl,rfl,rfl⟩|⟨f,i,rfl,rfl,j,g,rfl,rfl⟩⟩
 .exact⟨Sub.refl _,a⟩
 .exact⟨hs,a.mono hs⟩
 .exact⟨hs,a.mono hs⟩
 .refine⟨hs,λm hm=>?_,λx b=>?_,(a.mono hs).sh⟩
  .rcases bS.1 hm with hm|hm
   .exact(a.mono hs).aH m hm
   .obtain rfl:=dR.1 hm;exact⟨g,.inl ⟨rfl,rfl⟩,n9 20⟩
  .rcases bS.1 b with b|b
   .exact(a.mono hs).aC x b
   .obtain rfl:=dR.1 b;exact⟨g,.inl ⟨rfl,rfl⟩,n9 20⟩
end
section
open Go.Proofs Go.Conc
structure PaV where
 c:CV
 w:WV
 bw:Nat
theorem Gc(w:WP)(k i:Int):(jk w k i).1.aj=w.aj:=by
 unfold jk;split
 .rfl
 split
 .rfl
 split
 .split<;>rfl
 dsimp only;split
 .rfl
 split
 .rfl
 split
 .rfl
 .split<;>rfl
theorem XU(w:WP)(k a b:Int):(gS w k a b).1.aj=w.aj:=by
 unfold gS;split
 .rfl
 split
 .rfl
 split
 .split
  .rfl
  split
  .rfl
  .unfold oX;split<;>rfl
 split
 .exact Gc ..
 split
 .rfl
 split
 .rfl
 split
 .split<;>rfl
 split
 .rfl
 split
 .rfl
 split
 .split<;>rfl
 .rfl
section
variable{R:Nat->aO->Array Obj->Prop}{d:Nat}{As W:List HP}{g:aO}{L:List PaV}{q:Nat}
end
section
variable{σ σ':Gh}{I I':HL}{T q:Nat}{L:List PaV}{c c':CV}{w w':WV}{bw:Nat}
end
end
section
open Go.Proofs Go.Conc
variable{P:bT}{B:lM}{H:Array Obj}{d:Nat}
theorem tW{b off:Nat}{c:Array Value}{ty:aP}{fr:Nat×Nat}(h1:hp H b=some (.cells c ty fr))(hs:b<B.bot\/∀ j,B.sh ty j=false):∀ (z i:Nat) (a:Array Value) {Q:Array Value->Array Obj->Nat->Prop},off+i+z<=c.size->Q (a++c.extract (off+i) (off+i+z)) H d->dQ P B (loadCellsFrom ⟨b,off,none⟩ i z a) H d Q
 |0,i,a,Q,_,q=>by
  unfold loadCellsFrom;refine aA ?_;have:c.extract (off+i) (off+i+0)=#[]:=by simp;omega
  rw[this,zj]at q;exact q
 |z+1,i,a,Q,g,q=>by
  unfold loadCellsFrom;refine ae ?_;have f:off+i<c.size:=ai;have e:∀ {Q:Value->Array Obj->Nat->Prop},Q c[off+i] H d->dQ P B (load ((⟨b,off,none⟩:Addr).add i) .plain) H d Q:=λ{Q} q=>by
   rcases hs with hs|hs
   .exact DI (c:=c) (ty:=ty) (v:=c[off+i]) (by rw[iI];exact h1) (by rw[iI]) (by rw[iI];exact Gu f) (by rw[iI];exact hs) q
   .exact wL (c:=c) (ty:=ty) (v:=c[off+i]) (by rw[iI];exact h1) (by rw[iI]) (by rw[iI];exact Gu f) (λ_=>hs _) q
  refine e ?_;refine tW h1 hs z (i+1) _ ai ?_;have:a.push c[off+i]++c.extract (off+(i+1)) (off+(i+1)+z)=a++c.extract (off+i) (off+i+(z+1)):=by
   apply uJ;intro j;simp only[ZJ,NP,QR,ZK];by_cases h1:j<a.size
   .simp[h1,Nat.lt_succ_of_lt h1,QT h1]
   .by_cases e:j=a.size
    .subst e;simp;omega
    .have:¬ j<a.size+1:=ai;simp only[this,h1,eQ,e];have e1:off+(i+1)+(j-(a.size+1))=off+i+(j-a.size):=ai;rw[e1]
     congr 1
     simp only[eq_iff_iff];omega
  rw[this];exact q
theorem Lu{c:Array Value}{l:List Value}(hl:l.length=z)(hz:0<z)(h:∀ o,o<z->c[p+o]? =l[o]?):p+z<=c.size/\c.extract p (p+z)=l.toArray:=by
 have h1:p+z<=c.size:=by have:=h (z-1) ai;rw[cQ ai]at this;have:=(iF.1 this).1;omega
 refine⟨h1,uJ λj=>?_⟩;rw[ZK,show l.toArray[j]? =l[j]? by simp];by_cases a:j<z
 .rw[aJ ai,h j a]
 .rw[ax ai,L9 (l:=l) ai]
variable{ao:Bool}{R:Nat->aO->Array Obj->Prop}{As W L:List HP}
variable{fn:bN}{kd:Kd}{n:Nat}{e:Nat->Value}{ds:List eK}{k:List Item}{cs:List Frame}
variable{O:Array Oper}{i:Nat}{aa:List Nat}{t:Nat}{ty:aP}{pos:String}{af:Array Edge}{gd:Option (Nat×Bool)}{x:dp}{v:Value}{b off:Nat}{c:Array Value}{el tt:aP}
theorem ab.ajJ(C:ab P ao B R){fr:Nat×Nat}{l:List Value}[Ag P tt true][Cz P tt z](a:Kn As b (.cells c el fr))(hs:b<B.bot\/∀ j,B.sh el j=false)(hc:off+z<=c.size/\c.extract off (off+z)=l.toArray)(f:bk O i=some ⟨some t,.load tt x,ty,pos,af,gd⟩)(h:At R d As (gr fn kd n (put e t<|.agg l.toArray) ds (.inRegion O aa::k) cs))
  (hx:ev n e x=.pointer (some ⟨b,off,none⟩):=by rfl) (g:aN O n e gd=true:=by rfl):At R d As (gr fn kd n e ds (.inRegion O (i::aa)::k) cs):=
 C.gen f g λH st=>by unfold execOp;simp only[hx,Instr.loadAt,Instr.sureAddr];refine ae<|ae<|aA ?_;unfold loadVar;refine ae<|AL B H d _ ?_;simp only[fq];refine ae<|ja B H d _<|ae ?_;unfold loadCells;refine tW (off:=off) (a _ st) hs z 0 #[] ai ?_;simp only[Nat.add_zero,CL];rw[hc.2];exact⟨As,st,h⟩
end
section
open Go.Proofs
variable{ao:Bool}
def Co(lg:ay)(b:Nat)(s:dw):HP:=λh=>∃ wt ot tm:ay,∃ bv bl bp bd be bu:Nat,∃ tl:List lB,ql s.timers s.order tl/\all (O1 b s lg wt ot tm bv bl bp bd be bu tl []) h
variable{R:Nat->aO->Array Obj->Prop}{d:Nat}{As F L:List HP}{g:aO}{b:Nat}{s:dw}{lg:ay}
theorem Co.opn(hf:Fo (Co lg b s) As L:=by exact Fo.au)(h:∀ (wt ot tm:ay) (a c e bd f i:Nat) (tl:List lB),ql s.timers s.order tl->At R d (O1 b s lg wt ot tm a c e bd f i tl L) g):At R d As g:=by refine At.fo hf λH st=>?_;obtain⟨wt,st⟩:=st.ex;obtain⟨ot,st⟩:=st.ex;obtain⟨tm,st⟩:=st.ex;obtain⟨a,st⟩:=st.ex;obtain⟨c,st⟩:=st.ex;obtain⟨e,st⟩:=st.ex;obtain⟨bd,st⟩:=st.ex;obtain⟨f,st⟩:=st.ex;obtain⟨i,st⟩:=st.ex;obtain⟨tl,st⟩:=st.ex;obtain⟨j,st⟩:=st.pure;exact h wt ot tm a c e bd f i tl j H st.flat
theorem Co.cls{c:Array Value}(s:dw)(h:At R d (Co lg b s::F) g){wt ot tm:ay}{a e f bd i j:Nat}{tl:List lB}(ht:ql s.timers s.order tl:=by assumption)(hf:Fo (dq b<|.cells c 180 (0,0)) As L:=by exact Fo.au)
  (hc:c=#[aF s.me,aF s.n,.bool s.up,lg.v,aF s.aE,.map<|some a,.map<|some e,.map<|some f,.map<|some bd,.map<|some i,.map<|some j,tm.v,aF s.order,aF s.clock,wt.v,ot.v]:=by rfl)
  (hr:fK [bK pK 1 272 lg s.log,dt .u8 fT a s.values,dt .u8 eh e s.aQ,dt .i64 vS f s.pend,dt .i64 qB bd s.done,dt .i64 qB i s.bF,dt .i64 yo j s.cr,all<|s.cr.map rZ,
   bK uG 4 263 tm tl,bK dF 7 190 wt s.waits,bK dF 7 190 ot s.out] L F:=by exact fK.au):At R d As g:=by
 subst hc;refine At.perm (hf.perm.trans<|hr.perm.cons _) λH st=>h H ?_;exact Sat.imp (λk x=>⟨wt,ot,tm,a,e,f,bd,i,j,tl,ht,x⟩)<|Sat.je (l:=O1 b s lg wt ot tm a e f bd i j tl []) st
theorem ab9{b:Nat}{s:dw}{lg:ay}{O:List bO}{tx home pl:Int}(J:gg I db 67 so O)(m:np O):
  aI prog ao cX 182 #[az b,aF tx,aF home,so.v,aF pl] [Co lg b s,bI I] (λv As=>As=[Co lg b (xm s tx home O so pl),bI I]):=by
 have hl:=m.2;refine aI.of λR C kd d F c cs n p=>?_;refine cH ?_;refine Co.opn (h:=λwt r tm t u y z A B D K=>?_);refine gV ?_;refine C.cN (X:=Nat×List (Int×Int)) (λx=>[(0,az b),(1,aF tx),(2,aF home),(3,so.v),(4,aF pl),(12,so.v),(13,aF O.length),(14,aF x.1)]) (λx=>O1 b {s with aQ:=x.2} lg wt r tm t u y z A B D<|bI I::F) (λx=>x.1<=O.length/\x.2=(O.take x.1).foldl (λl o=>bC l o.k tx) s.aQ) (λx=>O.length-x.1) (0,s.aQ) ⟨rfl,rfl,rfl,rfl,rfl,rfl,rfl,rfl,trivial⟩ ⟨fp _,rfl⟩ ?_ (hI:=.refl);rintro⟨i,j⟩ e ⟨hi,a⟩ E;dsimp only at hi a⊢;refine bL ?_;refine C.cmp rfl (λg=>?_) λg=>?_
 .refine bL ?_;have k:i<O.length:=by simpa using g
  refine bL ?_;refine C.zx rfl λL=>?_;refine C.al rfl λM=>?_;refine C.vz rfl ?_ (hv:=λv h=>jf.one (f:=db) O[i] v<|by simpa using h);refine C.go ?_;refine C.dx (di 18 0 8) 9 [8] 0 ?_;refine zw8 ?_;refine Ch.m 8 (bj λe aa H=>?_);refine C.mu (w:=tx) (l:=j) (q:=O[i].k) rfl<|H _ undef ?_;refine Bw ?_;refine again E (i+1,bC j O[i].k tx) ⟨k,?_⟩<|dE;rw[js k,lT,<- a];rfl
 .refine bL ?_;have e1:O.take i=O:=lA (by simp at g;omega);rw[e1]at a;subst a;refine mE ?_;refine C.mu (w:=rY.mk pl home O so) (l:=s.pend) (q:=tx) rfl ?_;refine C.go ?_;refine Co.cls (xm s tx home O so pl) ?_;exact C.eY n p rfl
theorem UH{b:Nat}{s:dw}{lg:ay}{tx pl:Int}{yes:Bool}(H:ShJ I s)(B:(j4 s tx).ops.length<2^30):
  aI prog ao cX 183 #[az b,aF tx,.bool yes,aF pl] [Co lg b s,bI I] (λv As=>As=[Co lg b (nV s tx yes pl),bI I]):=by
 refine aI.of λR C kd d F c cs J t=>?_;refine cH ?_;refine Co.opn (h:=λwt K tm L M N P Q S T Y=>?_);have n:=Ng s tx;have D:=H.j4 tx;have r:nV s tx yes pl={s with values:=(j4 s tx).ops.foldl (λv o=>if yes&&o.w then bC v o.k o.v else v) s.values,aQ:=(j4 s tx).ops.foldl (λl o=>eo l o.k) s.aQ,pend:=eo s.pend tx,done:=bC s.done tx ⟨pl,yes⟩}:=rfl;rw[r]at t;clear r;generalize j4 s tx=p at n D B t;obtain⟨U,ph,O,so⟩:=p;dsimp only at D B t;refine oN ?_;refine C.Hu n rfl ?_;refine C.al rfl λZ=>?_;refine oN ?_;refine C.cN (X:=Nat×List (Int×Int)×List (Int×Int)) (λx=>[(0,az b),(1,aF tx),(2,.bool yes),(3,aF pl),(19,so.v),(20,aF O.length),(21,aF x.1)]) (λx=>O1 b {s with values:=x.2.1,aQ:=x.2.2} lg wt K tm L M N P Q S T<|bI I::F) (λx=>x.1<=O.length/\x.2.1=(O.take x.1).foldl (λv o=>if yes&&o.w then bC v o.k o.v else v) s.values/\x.2.2=(O.take x.1).foldl (λl o=>eo l o.k) s.aQ) (λx=>O.length-x.1) (0,s.values,s.aQ) ⟨rfl,rfl,rfl,rfl,rfl,rfl,rfl,trivial⟩ ⟨fp _,rfl,rfl⟩ ?_;rintro⟨i,u,j⟩ e ⟨hi,k,m⟩ y;dsimp only at hi k m⊢;refine bL ?_;refine C.cmp rfl (λA=>?_) λA=>?_
 .refine bL ?_;have a:i<O.length:=by simpa using A
  refine bL ?_;refine C.zx rfl λhj=>?_;refine C.al rfl λW=>?_;refine C.vz rfl ?_ (hv:=λv h=>jf.one (f:=db) O[i] v<|by simpa using h);refine dY ?_;rcases n8 yes with rfl|rfl
  .refine bL ?_;generalize E:O[i].w=z;rcases n8 z with rfl|rfl
   .refine dT ?_;refine C.dx (di 30 0 9) 10 [9] 0 ?_;refine VA ?_;refine Ch.m 9 (bj λe aa g=>?_);refine C.mu (w:=O[i].v) (l:=u) (q:=O[i].k) rfl<|g _ undef ?_;refine gy ?_;refine C.dx (di 39 0 7) 8 [7] 0 ?_;refine WO ?_;refine Ch.m 7 (bj λe aa g=>?_);refine C.dl (l:=j) (q:=O[i].k) rfl<|g _ undef ?_;refine Bw ?_;refine again y (i+1,bC u O[i].k O[i].v,eo j O[i].k) ⟨a,?_,?_⟩<|dE
    .rw[js a,lT,<- k,qQ,yF,aJ (by rw[E];rfl)]
    .rw[js a,lT,<- m];rfl
   .refine dT ?_;refine C.dx (di 39 0 7) 8 [7] 0 ?_;refine WO ?_;refine Ch.m 7 (bj λe aa g=>?_);refine C.dl (l:=j) (q:=O[i].k) rfl<|g _ undef ?_;refine Bw ?_;refine again y (i+1,u,eo j O[i].k) ⟨a,?_,?_⟩<|dE
    .rw[js a,lT,<- k,qQ,yF,ax (by rw[E];decide)]
    .rw[js a,lT,<- m];rfl
  .refine fB ?_;refine C.dx (di 39 0 7) 8 [7] 0 ?_;refine WO ?_;refine Ch.m 7 (bj λe aa g=>?_);refine C.dl (l:=j) (q:=O[i].k) rfl<|g _ undef ?_;refine Bw ?_;refine again y (i+1,u,eo j O[i].k) ⟨a,?_,?_⟩<|dE
   .rw[js a,lT,<- k,qQ,yF,ax<|by simp]
   .rw[js a,lT,<- m];rfl
 .refine bL ?_;have e1:O.take i=O:=lA (by simp at A;omega);rw[e1]at k m;subst k m;refine iE ?_;refine C.dl rfl ?_;refine mE ?_;refine C.mu (w:=iK.mk pl yes) (l:=s.done) (q:=tx) rfl ?_;refine C.go ?_;refine Co.cls {s with values:=O.foldl (λv o=>if yes&&o.w then bC v o.k o.v else v) s.values,aQ:=O.foldl (λl o=>eo l o.k) s.aQ,pend:=eo s.pend tx,done:=bC s.done tx ⟨pl,yes⟩} ?_;exact C.eY J t rfl
def XV(s:dw)(i:Nat):iQ->dw
 |.cK tx home O so=>xm s tx home O so i
 |.dec tx yes _ _=>{s with bF:=bC s.bF tx ⟨i,yes⟩}
 |.kY tx yes=>nV s tx yes i
def zF(log:List iQ):Nat->dw->dw
 |0,s=>s
 |i+1,s=>match log[i]? with|none=>zF log i s|some e=>XV (zF log i s) i e
theorem UI(s:dw)(i:Nat)(e:iQ):(XV s i e).abs=AW s.abs i e.abs:=by
 cases e with
 |cK tx home O so=>exact EE s tx home O so i
 |dec tx yes r a=>rfl
 |kY tx yes=>exact y9 s tx yes i
theorem Gd(log:List iQ)(s:dw):∀ i,(zF log i s).abs=lZ (log.map (·.abs)) i s.abs
 |0=>rfl
 |i+1=>by
  unfold zF lZ;rw[jJ];cases h:log[i]? with
  |none=>exact Gd log s i
  |some e=>
   show(XV (zF log i s) i e).abs=AW _ i e.abs;rw[UI,Gd log s i]
structure RpS(s z:dw):Prop where
 me:z.me=s.me
 n:z.n=s.n
 up:z.up=s.up
 log:z.log=s.log
 aE:z.aE=s.aE
 cr:z.cr=s.cr
 timers:z.timers=s.timers
 order:z.order=s.order
 clock:z.clock=s.clock
 waits:z.waits=s.waits
 out:z.out=s.out
theorem Jd(log:List iQ)(s:dw):∀ i,RpS s<|zF log i s
 |0=>⟨rfl,rfl,rfl,rfl,rfl,rfl,rfl,rfl,rfl,rfl,rfl⟩
 |i+1=>by
  have a:=Jd log s i;unfold zF;cases h:log[i]? with
  |none=>exact a
  |some e=>cases e<;>exact⟨a.1,a.2,a.3,a.4,a.5,a.6,a.7,a.8,a.9,a.10,a.11⟩
structure UJ(I:HL)(s:dw):Prop where
 o:∀ p∈s.pend,gg I db 67 p.2.so p.2.ops/\np p.2.ops
theorem ER{W:Type}{m:List (Int×W)}{k:Int}{v:W}{q:Int×W->Prop}(h:∀ p∈m,q p)(hv:q (k,v)):∀ p∈bC m k v,q p:=λp hp=>by
 rcases eO hp with rfl|h1
 .exact hv
 .exact h p h1
theorem Zw{I:HL}{log:List iQ}(b:∀ e∈log,e.J I)(c:∀ tx home O so,iQ.cK tx home O so∈log->np O){s:dw}(d:ShJ I s)(f:UJ I s):∀ i,ShJ I (zF log i s)/\UJ I (zF log i s)
 |0=>⟨d,f⟩
 |i+1=>by
  have a:=Zw b c d f i;unfold zF;cases h:log[i]? with
  |none=>exact a
  |some e=>
   have g:=bD h;have j:=b e g;cases e with
   |cK tx home O so=>
    have k:=c tx home O so g;exact⟨⟨a.1.log,ER a.1.pend j.1,a.1.cr,a.1.waits,a.1.out⟩,⟨ER a.2.o ⟨j.1,k⟩⟩⟩
   |dec tx yes r l=>exact⟨⟨a.1.log,a.1.pend,a.1.cr,a.1.waits,a.1.out⟩,⟨a.2.o⟩⟩
   |kY tx yes=>exact⟨a.1.fin tx yes i,⟨λp hp=>a.2.o p<|wU hp⟩⟩
theorem UJ.at{s:dw}(h:UJ I s)(tx:Int):(j4 s tx).ops.length<2^30:=by
 unfold j4;cases a:aB s.pend tx with
 |none=>exact n9 30
 |some p=>
  have:p.ops.length<2^20:=(h.o _<|cg a).2.2;show p.ops.length<2^30;omega
theorem ES{W:Type}{k:Int}{v:W}:∀ (m:List (Int×W)),(bC m k v).length<=m.length+1
 |[]=>by simp[bC]
 |p::m=>by have:=ES (k:=k) (v:=v) m;unfold bC;split<;>simp<;>omega
theorem NA(log:List iQ)(s:dw):∀ i,(zF log i s).pend.length<=s.pend.length+i
 |0=>fC _
 |i+1=>by
  have a:=NA log s i;unfold zF;cases h:log[i]? with
  |none=>show(zF log i s).pend.length<=_;omega
  |some e=>
   cases e with
   |cK tx home O so=>have:=ES (k:=tx) (v:=rY.mk i home O so) (zF log i s).pend;show(bC (zF log i s).pend tx _).length<=_;omega
   |dec tx yes r b=>show(zF log i s).pend.length<=_;omega
   |kY tx yes=>have:=List.Sublist.length_le<|wN (k:=tx) (l:=(zF log i s).pend);show(eo (zF log i s).pend tx).length<=_;omega
end
end Go.Sl
