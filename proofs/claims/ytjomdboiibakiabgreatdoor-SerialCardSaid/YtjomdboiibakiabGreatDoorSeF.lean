/-
  Texts that the proof needs, joined: part 6.
-/
import Derived.Test.YtjomdboiibakiabGreatDoorSeE
set_option linter.unusedSimpArgs false
set_option linter.unusedVariables false
set_option maxHeartbeats 4000000
namespace Go.Sl
open Go.Proofs.Tryz
section
open Go.Proofs
variable{ao:Bool}
def Qq(s:ek)(u:mo)(tx:Int)(z:ek)(k:Int)(p:List bP):ek:=
 if !u.dec&& !(aB u.bk k).isSome then ff z {bK with kind:=2,to:=k,tx:=tx,ops:=p}
 else if u.dec&&decide (((aB s.bF tx).map (·.pl)).getD 0<s.aH)&&decide ((aB u.cy k).getD 0=0)then ff z {bK with kind:=4,to:=k,tx:=tx,yes:=u.yes}
 else z
theorem F4{s:ek}{tx:Int}(h:aB s.bY tx=none):rz s tx=s:=by unfold rz;rw[h]
theorem F5{s:ek}{tx:Int}{u:mo}(h:aB s.bY tx=some u):rz s tx=jH (ru s u.ops (Qq s u tx)) tx 4 true:=by unfold rz;rw[h];rfl
def Mm(s:di)(tx:Int):ic:=(aB s.bF tx).getD ⟨0,false⟩
theorem XI(s:di)(tx:Int):((aB s.bF tx).map pJ).getD (.agg #[aD 0,.bool false])=pJ (Mm s tx):=by unfold Mm;cases aB s.bF tx<;>rfl
theorem yr(s:di)(tx:Int):((aB s.bF tx).map (·.pl)).getD 0=(Mm s tx).pl:=by unfold Mm;cases aB s.bF tx<;>rfl
theorem vG(u:fD)(k:Int):(aB u.abs.bk k).isSome=(aB u.bk k).isSome:=by show(aB (u.bk.map λp=>(p.1,p.2.1)) k).isSome=_;rw[jk (λv:List Int×az=>v.1)];cases aB u.bk k<;>rfl
theorem F6{b b2 b3 b4:Nat}{s:di}{o:List dM}{u:fD}{tx k:Int}{I:HL}{sp:az}{part:List bP}(hu:aB s.bY tx=some u)(hl:o.length<2^31)(hJ:ShJ I {s with out:=o})(uw:fI I cS 37 sp part):
  aI prog ao cH 185 #[aD k,sp.v,ay b4,ay b2,ay b3] [dk b {s with out:=o},bD I,da b4 (.cells #[ay u.b] 285 (0,0)),KI b2 b,da b3 (.cells #[aD tx] 3 (0,0))]
   (λv As=>∃ o',o'.length<=o.length+1/\ShJ I {s with out:=o'}/\({s with out:=o'}:di).abs=Qq s.abs u.abs tx ({s with out:=o}:di).abs k part/\As=[dk b {s with out:=o'},bD I,da b4 (.cells #[ay u.b] 285 (0,0)),KI b2 b,da b3 (.cells #[aD tx] 3 (0,0))]):=by
 refine aI.of λR C kd d F c cs aT ak=>?_;refine cr ?_;refine dk.opn (h:=λlg wt ot tm bv bl bp bd be bu tl ht=>?_);refine vC (l:=s.bY) hu Fo.au ?_;have yi:=XI s tx;have NM:=uj u.cy k;refine gU ?_;refine C.lkC rfl (λoq sF=>?_) (λsF=>?_)
 ·refine tU ?_;refine C.Vl rfl (λhd=>?_) (λhd=>?_)
  ·refine nT ?_;by_cases Iu:(Mm s tx).pl<s.aH
   ·by_cases DI:(aB u.cy k).getD 0=0
    ·refine C.dx (cW 35 0 28++[(34,28)]) 29 [] 0 ?_;refine sV ?_;refine Dr.l (λhE h=>C.ld rfl h (v:=.bool true) (oS:=congrArg Value.bool hd)) ?_;refine nH ?_;refine Dr.l (λhE h=>C.Fh yi rfl h) ?_;refine Dr.p (λh=>C.fd (ft:=3) ⟨_,_,underlying245,rfl,rfl,rfl⟩ rfl h) ?_;refine H4 ?_;refine Dr.p (λh=>C.fA rfl h (hf:=Iu)) ?_;refine nH ?_;refine Dr.l (λhE h=>C.Fh NM rfl h) ?_;refine Dr.p (λh=>C.fA rfl h (hf:=DI)) ?_;refine A5 ?_;refine oV ?_;refine C.dx (cW 63 0 9) 9 [8] 0 ?_;refine Xg ?_;refine Ch.m 8 (aY λe aa hk=>?_);refine iz u fg.au ?_;rw[gM hu];refine dk.cls {s with out:=o} ?_;refine C.fF (gC (s:={s with out:=o}) (m:=⟨{bK with kind:=4,to:=k,tx:=tx,yes:=u.yes},aR,aR⟩) (dq)) ?_;rintro v aP rfl;refine cr ?_;refine hk _ _ ?_;refine fP ?_;refine C.eJ aT ak ⟨o++[⟨{bK with kind:=4,bq:=s.me,to:=k,tx:=tx,yes:=u.yes},aR,aR⟩],by simp,hJ.outs (kG.nil I _ rfl rfl),?_,rfl⟩;unfold Qq;rw[ax (by show¬ (!u.dec&&_)=true;rw[hd];simp),aG (by show(u.dec&&decide (((aB s.bF tx).map (·.pl)).getD 0<s.aH)&&decide ((aB u.cy k).getD 0=0))=true;rw[hd,yr,uJ Iu,uJ DI];rfl)];simp[ff,di.abs,fD.abs]
    ·refine C.dx (cW 35 0 28++[(34,28)]) 29 [] 0 ?_;refine sV ?_;refine Dr.l (λhE h=>C.ld rfl h (v:=.bool true) (oS:=congrArg Value.bool hd)) ?_;refine nH ?_;refine Dr.l (λhE h=>C.Fh yi rfl h) ?_;refine Dr.p (λh=>C.fd (ft:=3) ⟨_,_,underlying245,rfl,rfl,rfl⟩ rfl h) ?_;refine H4 ?_;refine Dr.p (λh=>C.fA rfl h (hf:=Iu)) ?_;refine nH ?_;refine Dr.l (λhE h=>C.Fh NM rfl h) ?_;refine Dr.p (λh=>C.dS rfl h (hf:=DI)) ?_;refine A5 ?_;refine oV ?_;refine iz u fg.au ?_;rw[gM hu];refine dk.cls {s with out:=o} ?_;refine C.eJ aT ak ⟨o,ai,hJ,?_,rfl⟩;unfold Qq;rw[ax (by show¬ (!u.dec&&_)=true;rw[hd];simp),ax (by show¬ (u.dec&&decide (((aB s.bF tx).map (·.pl)).getD 0<s.aH)&&decide ((aB u.cy k).getD 0=0))=true;rw[qx DI];simp)]
   ·refine C.dx (cW 35 0 28++[(34,28)]) 29 [] 0 ?_;refine sV ?_;refine Dr.l (λhE h=>C.ld rfl h (v:=.bool true) (oS:=congrArg Value.bool hd)) ?_;refine nH ?_;refine Dr.l (λhE h=>C.Fh yi rfl h) ?_;refine Dr.p (λh=>C.fd (ft:=3) ⟨_,_,underlying245,rfl,rfl,rfl⟩ rfl h) ?_;refine H4 ?_;refine Dr.p (λh=>C.dS rfl h (hf:=Iu)) ?_;refine PY ?_;refine oV ?_;refine iz u fg.au ?_;rw[gM hu];refine dk.cls {s with out:=o} ?_;refine C.eJ aT ak ⟨o,ai,hJ,?_,rfl⟩;unfold Qq;rw[ax (by show¬ (!u.dec&&_)=true;rw[hd];simp),ax (by show¬ (u.dec&&decide (((aB s.bF tx).map (·.pl)).getD 0<s.aH)&&decide ((aB u.cy k).getD 0=0))=true;rw[yr,qx Iu];simp)]
  ·refine nT ?_;refine C.dx (cW 35 0 28++[(34,28)]) 29 [] 0 ?_;refine sV ?_;refine Dr.l (λhE h=>C.ld rfl h (v:=.bool false) (oS:=congrArg Value.bool hd)) ?_;refine mX ?_;refine mX ?_;refine NC ?_;refine Dr.chain rfl ?_;refine oV ?_;refine iz u fg.au ?_;rw[gM hu];refine dk.cls {s with out:=o} ?_;refine C.eJ aT ak ⟨o,ai,hJ,?_,rfl⟩;unfold Qq;rw[ax (by rw[vG,sF];simp),ax (by show¬ (u.dec&&decide (((aB s.bF tx).map (·.pl)).getD 0<s.aH)&&decide ((aB u.cy k).getD 0=0))=true;rw[hd];simp)]
 ·refine tU ?_;refine C.Vl rfl (λhd=>?_) (λhd=>?_)
  ·refine nT ?_;by_cases Iu:(Mm s tx).pl<s.aH
   ·by_cases DI:(aB u.cy k).getD 0=0
    ·refine C.dx (cW 35 0 28++[(34,28)]) 29 [] 0 ?_;refine sV ?_;refine Dr.l (λhE h=>C.ld rfl h (v:=.bool true) (oS:=congrArg Value.bool hd)) ?_;refine nH ?_;refine Dr.l (λhE h=>C.Fh yi rfl h) ?_;refine Dr.p (λh=>C.fd (ft:=3) ⟨_,_,underlying245,rfl,rfl,rfl⟩ rfl h) ?_;refine H4 ?_;refine Dr.p (λh=>C.fA rfl h (hf:=Iu)) ?_;refine nH ?_;refine Dr.l (λhE h=>C.Fh NM rfl h) ?_;refine Dr.p (λh=>C.fA rfl h (hf:=DI)) ?_;refine A5 ?_;refine oV ?_;refine C.dx (cW 63 0 9) 9 [8] 0 ?_;refine Xg ?_;refine Ch.m 8 (aY λe aa hk=>?_);refine iz u fg.au ?_;rw[gM hu];refine dk.cls {s with out:=o} ?_;refine C.fF (gC (s:={s with out:=o}) (m:=⟨{bK with kind:=4,to:=k,tx:=tx,yes:=u.yes},aR,aR⟩) (dq)) ?_;rintro v aP rfl;refine cr ?_;refine hk _ _ ?_;refine fP ?_;refine C.eJ aT ak ⟨o++[⟨{bK with kind:=4,bq:=s.me,to:=k,tx:=tx,yes:=u.yes},aR,aR⟩],by simp,hJ.outs (kG.nil I _ rfl rfl),?_,rfl⟩;unfold Qq;rw[ax (by show¬ (!u.dec&&_)=true;rw[hd];simp),aG (by show(u.dec&&decide (((aB s.bF tx).map (·.pl)).getD 0<s.aH)&&decide ((aB u.cy k).getD 0=0))=true;rw[hd,yr,uJ Iu,uJ DI];rfl)];simp[ff,di.abs,fD.abs]
    ·refine C.dx (cW 35 0 28++[(34,28)]) 29 [] 0 ?_;refine sV ?_;refine Dr.l (λhE h=>C.ld rfl h (v:=.bool true) (oS:=congrArg Value.bool hd)) ?_;refine nH ?_;refine Dr.l (λhE h=>C.Fh yi rfl h) ?_;refine Dr.p (λh=>C.fd (ft:=3) ⟨_,_,underlying245,rfl,rfl,rfl⟩ rfl h) ?_;refine H4 ?_;refine Dr.p (λh=>C.fA rfl h (hf:=Iu)) ?_;refine nH ?_;refine Dr.l (λhE h=>C.Fh NM rfl h) ?_;refine Dr.p (λh=>C.dS rfl h (hf:=DI)) ?_;refine A5 ?_;refine oV ?_;refine iz u fg.au ?_;rw[gM hu];refine dk.cls {s with out:=o} ?_;refine C.eJ aT ak ⟨o,ai,hJ,?_,rfl⟩;unfold Qq;rw[ax (by show¬ (!u.dec&&_)=true;rw[hd];simp),ax (by show¬ (u.dec&&decide (((aB s.bF tx).map (·.pl)).getD 0<s.aH)&&decide ((aB u.cy k).getD 0=0))=true;rw[qx DI];simp)]
   ·refine C.dx (cW 35 0 28++[(34,28)]) 29 [] 0 ?_;refine sV ?_;refine Dr.l (λhE h=>C.ld rfl h (v:=.bool true) (oS:=congrArg Value.bool hd)) ?_;refine nH ?_;refine Dr.l (λhE h=>C.Fh yi rfl h) ?_;refine Dr.p (λh=>C.fd (ft:=3) ⟨_,_,underlying245,rfl,rfl,rfl⟩ rfl h) ?_;refine H4 ?_;refine Dr.p (λh=>C.dS rfl h (hf:=Iu)) ?_;refine PY ?_;refine oV ?_;refine iz u fg.au ?_;rw[gM hu];refine dk.cls {s with out:=o} ?_;refine C.eJ aT ak ⟨o,ai,hJ,?_,rfl⟩;unfold Qq;rw[ax (by show¬ (!u.dec&&_)=true;rw[hd];simp),ax (by show¬ (u.dec&&decide (((aB s.bF tx).map (·.pl)).getD 0<s.aH)&&decide ((aB u.cy k).getD 0=0))=true;rw[yr,qx Iu];simp)]
  ·refine nT ?_;refine iz u fg.au ?_;rw[gM hu];refine dk.cls {s with out:=o} ?_;refine gu ?_;refine C.fF (gC (s:={s with out:=o}) (m:=⟨{bK with kind:=2,to:=k,tx:=tx,ops:=part},sp,aR⟩) (dq)) ?_;rintro v aP rfl;refine sB ?_;refine C.eJ aT ak ⟨o++[⟨{bK with kind:=2,bq:=s.me,to:=k,tx:=tx,ops:=part},sp,aR⟩],by simp,hJ.outs ⟨uw,.nil ..,by exact nl 20⟩,?_,rfl⟩;unfold Qq;rw[aG (by rw[vG,sF];show(!u.dec&&_)=true;rw[hd];rfl)];simp[ff,di.abs]
theorem F7{I:HL}{b:Nat}{s:di}{tx:Int}(hJ:ShJ I s)(hn:1<=s.n/\s.n<=4)(hU:∀ u∈s.bY,mA u.2.ops)(mB:s.out.length<2^30+2^20)(htm:s.timers.length<2^16)(Ql:0<=s.order/\s.order<2^61+2^20)(Xz:0<=s.clock/\s.clock<2^61):
  aI prog ao cH 147 #[ay b,aD tx] [dk b s,bD I] (λv As=>∃ (I':HL) (o':List dM) (q:Bool),Sub I I'/\o'.length<=s.out.length+4/\ShJ I' {s with out:=o'}/\(if q then jT {s with out:=o'} tx 4 true else s).abs=rz s.abs tx/\As=[dk b (if q then jT {s with out:=o'} tx 4 true else s),bD I']):=by
 refine aI.of λR C kd d F c cs aT ak=>?_;refine cr ?_;refine dk.opn (h:=λlg wt ot tm bv bl bp bd be bu tl ht=>?_);refine bH ?_;refine C.bx rfl (λb2=>?_);refine C.bx rfl (λb3=>?_);refine C.go ?_;cases xo:(aB s.bY tx)
 ·refine C.dx (cW 5 0 7++[(4,7)]) 9 [7,8] 1 ?_;refine pF ?_;refine Dr.l (λhE h=>C.Hy xo rfl h) ?_;refine Dr.chain rfl ?_;refine Ch.m 7 (aY λe aa hk=>?_);refine C.al rfl (λb4=>hk _ _ .cons ?_);refine Ch.m 8 (aY λe aa hk=>?_);refine C.st rfl (hk _ undef ?_);refine PW ?_;refine dk.cls s ?_;exact C.cm (aP:=[dk b s,bD I]) aT ak ⟨I,s.out,false,Sub.refl _,ai,hJ,(F4 (rP xo)).symm,rfl⟩
 ·rename_i w11;refine C.dx (cW 5 0 7++[(4,7)]) 9 [7,8] 1 ?_;refine pF ?_;refine Dr.l (λhE h=>C.Hx xo rfl h) ?_;refine Dr.chain rfl ?_;refine Ch.m 7 (aY λe aa hk=>?_);refine C.al rfl (λb4=>hk _ _ .cons ?_);refine Ch.m 8 (aY λe aa hk=>?_);refine C.st rfl (hk _ undef ?_);refine PW ?_;have dR:=bQ xo;have cN:=hU _ dR;have qX:=(hJ.bY _ dR).o;refine vC xo Fo.au ?_;refine C.dx (cW 14 0 7) 7 [6] 0 ?_;refine NC ?_;refine Dr.p (λh=>C.mf (v1:=[]) (v2:=[ay b4,ay b2,ay b3]) rfl h) ?_;refine Dr.chain rfl ?_;refine Ch.m 6 (aY λe aa hk=>?_);refine iz w11 fg.au ?_;rw[gM xo];refine dk.cls s ?_;refine C.fF (pK (f:=185) (a1:=#[]) (a2:=#[ay b4,ay b2,ay b3]) (s:=s) (I:=I) (E:=[da b4 (.cells #[ay w11.b] 285 (0,0)),KI b2 b,da b3 (.cells #[aD tx] 3 (0,0))]) (inv:=λk x I'=>∃ o,x={s with out:=o}/\o.length<=s.out.length+k/\ShJ I' x) (Vy:=Qq s.abs w11.abs tx) qX cN hn (λI' h=>⟨s.out,rfl,e8 _,hJ.mono h⟩) (λk x I' h=>by
   obtain⟨o,h1,h2,h3⟩:=h;exact⟨o,h1,ai,h3⟩) (λk x I' sp part R2 hk hinv uw eV KJ=>by
   obtain⟨o,rfl,h2,h3⟩:=hinv;refine aI.post (F6 xo ai h3 uw) λv As h=>?_;obtain⟨o',h4,h5,h6,h7⟩:=h;exact⟨_,I',Sub.refl _,⟨o',rfl,ai,h5⟩,h6,h7⟩)) ?_
  rintro v aP ⟨x',I1,iK,⟨o',rfl,mq,ra⟩,lv,rfl⟩;refine cr ?_;refine hk _ _ ?_;refine Ch.fin ?_;refine dX ?_;refine C.fF (kB (ticks:=4) (s:={s with out:=o'}) (by show s.timers.length<_;omega) (by show 0<=s.order/\s.order<_;omega) (by show 0<=s.clock/\s.clock<_;omega) (by decide)) ?_;rintro v aP rfl;refine sB ?_;refine C.eJ (aP:=[dk b (jT {s with out:=o'} tx 4 true),bD I1]) aT ak ⟨I1,o',true,iK,ai,ra,?_,rfl⟩;rw[aG rfl,nL,lv,F5 (j3 xo)];rfl
def qR(c:Int)(L:List fU):Nat:=(L.filter λt=>t.tm<=c).length
theorem Iv{c:Int}{L:List fU}{k:Nat}{t:fU}(hk:L[k]? =some t)(ht:t.tm<=c):qR c (L.eraseIdx k)+1=qR c L:=by obtain⟨RU,rfl⟩:=dG.1 hk;have hp:=(uZ RU).filter (λt=>decide (t.tm<=c));unfold qR;rw[hp.length_eq,o6,aG (by simpa using ht)];rfl
theorem F8{c:Int}{L:List fU}{t:fU}(ht:c<t.tm):qR c (L++[t])=qR c L:=by unfold qR;rw[qw,o6,ax (by simp;omega),EG,l7]
theorem KP(c:Int)(L:List fU):qR c L<=L.length:=yE _ _
theorem F9{f:Nat}{s:ek}{k:Nat}{t:fU}(h:nR s.clock s.timers 0 none=some (k,t)):kV (f+1) s=kV f (y8 {s with timers:=s.timers.eraseIdx k} t):=by conv=>lhs;unfold kV;rw[h]
theorem Ab{f:Nat}{s:ek}(h:nR s.clock s.timers 0 none=none):kV (f+1) s=s:=by conv=>lhs;unfold kV;rw[h]
theorem map_eraseIdx{X Y:Type}(f:X->Y):∀ (l:List X) (n:Nat),(l.eraseIdx n).map f=(l.map f).eraseIdx n
 |[],n=>by simp
 |a::l,0=>rfl
 |a::l,n+1=>by simp[map_eraseIdx f l n]
theorem Ac{s:ek}{t:fU}(h:t.again=true):y8 s t=rz s t.tx:=by unfold y8;rw[aG h]
theorem Mn{s:ek}{t:fU}{p:y6}(h:t.again=false)(hp:aB s.pend t.tx=some p):y8 s t=jH (ff s {bK with kind:=6,to:=p.home,tx:=t.tx}) t.tx 3 false:=by unfold y8;rw[ax (by rw[h];decide),hp]
theorem Mo{s:ek}{t:fU}(h:t.again=false)(hp:aB s.pend t.tx=none):y8 s t=s:=by unfold y8;rw[ax (by rw[h];decide),hp]
abbrev xW(s:di)(o:List dM)(T:List kz)(q:Int):di:={s with clock:=s.clock+1,out:=o,timers:=T,order:=q}
structure afh(I:HL)(s:di)(x:di)(J:HL):Prop where
 sub:Sub I J
 j:ShJ J x
 sh:∃ o T q,x=xW s o T q/\T.length<=s.timers.length/\s.order<=q/\q+qR (s.clock+1) (T.map (·.qW))<=s.order+qR (s.clock+1) (s.timers.map (·.qW))/\o.length+5*qR (s.clock+1) (T.map (·.qW))<=s.out.length+5*qR (s.clock+1) (s.timers.map (·.qW))
 go:kV (qR (s.clock+1) (x.timers.map (·.qW))+1) x.abs=pw s.abs
theorem Iw{I:HL}{b:Nat}{s:di}{o a:Int}(hJ:ShJ I s)(hb:qQ s)(hC:xn o a s):
  aI prog ao cH 94 #[ay b] [dk b s,bD I] (gD b I (o+2^15) (a+1) (pw s.abs)):=by
 have mB:=hb.out;have Xz:=hb.clock;have Ql:=hb.order;have htm:=hb.timers;have hD:=KP (s.clock+1) (s.timers.map (·.qW));rw[dW]at hD;refine aI.of λR C kd d F c cs aT ak=>?_;refine cr ?_;refine dk.opn (h:=λlg wt ot tm bv bl bp bd be bu tl ht=>?_);refine kj ?_;refine dk.cls (xW s s.out s.timers s.order) ?_;refine C.cu (X:=di×HL) (λx=>[(0,ay b)]) (λx=>dk b x.1::bD x.2::F) (λx=>afh I s x.1 x.2) (λx=>qR (s.clock+1) (x.1.timers.map (·.qW))) (xW s s.out s.timers s.order,I) ⟨rfl,trivial⟩ ⟨Sub.refl _,⟨hJ.log,hJ.pend,hJ.bY,hJ.waits,hJ.out⟩,⟨_,_,_,rfl,e8 _,nW _,nW _,e8 _⟩,rfl⟩ ?_;rintro⟨x,I1⟩ e ⟨iK,AJ,⟨o1,T,q,rfl,hT,hq1,Ej,KE⟩,hgo⟩ ih;dsimp only at iK AJ hgo⊢;have hdT:=KP (s.clock+1) (T.map (·.qW));rw[dW]at hdT;refine dk.opn (h:=λlg wt ot tm bv bl bp bd be bu tl ht=>?_);have R3:tl.length=T.length:=ht.perm.length_eq;refine C.go ?_;by_cases Cm:(tl.length:Int)>0
 ·by_cases h35:(tl[0]'(by omega)).tm<=s.clock+1
  ·refine C.dx (cW 14 0 23) 23 [] 0 ?_;refine pF ?_;refine Dr.p (λh=>C.fA rfl h (hf:=Cm)) ?_;refine pF ?_;refine Dr.l (λhE h=>C.dQ rfl h (j:=0)) ?_;refine nH ?_;refine Dr.p (λh=>C.fA rfl h (hf:=h35)) ?_;refine xT ?_;refine PX ?_;refine C.fF (L7 (tm:=tm) (l:=tl) rfl ai ai ht.heap) ?_;rintro v aP ⟨AD,l',rfl,hp,hh,rfl⟩;refine cr ?_;have h0:tl[0]? =some (gA tl 0):=by rw[j8 ai];exact cK ai
   have TF:(gA tl 0).tm<=s.clock+1:=by rw[j8 ai];exact h35
   obtain⟨kq,hkq,abH,htj⟩:=ht.pop h0 TF hp hh;generalize gA tl 0=t0 at hkq abH TF hp;have RU:kq<T.length:=(dG.1 hkq).1;have hde:=Iv (c:=s.clock+1) (L:=T.map (·.qW)) (k:=kq) (t:=t0.qW) (by rw[fH,hkq];rfl) TF;rw[<- map_eraseIdx]at hde;have XJ:(T.eraseIdx kq).length+1=T.length:=by rw[Od,aG RU];omega
   refine dk.cls (xW s o1 (T.eraseIdx kq) q) ?_ (ht:=htj);have AB:ShJ I1 (xW s o1 (T.eraseIdx kq) q):=⟨AJ.log,AJ.pend,AJ.bY,AJ.waits,AJ.out⟩;have qy:kV (qR (s.clock+1) ((T.eraseIdx kq).map (·.qW))+1) (y8 (xW s o1 (T.eraseIdx kq) q).abs t0.qW)=pw s.abs:=by
    rw[<- hgo,<- hde,F9 (s:=(xW s o1 T q).abs) (k:=kq) (t:=t0.qW) abH]
    congr 2
    simp only[di.abs,map_eraseIdx]
   refine C.ta (ok:=false) underlying229 rfl rfl ?_;refine C.al rfl (λb2=>?_);refine C.tL rfl ?_ (hv:=λv h=>iD.one (f:=sE) t0 v (by simpa using h));refine dK ?_;refine C.Vl rfl (λhg=>?_) (λhg=>?_)
   ·refine gu ?_;refine C.fF (F7 (tx:=t0.tx) AB hb.n hb.Xw (dq) (dq) (dq) (dq)) ?_;rintro v aP ⟨I2,o2,z,vx,U9,Mq,lv,rfl⟩;refine sB ?_;cases z with
    |false=>
     rw[ax (by decide)]at lv⊢;refine again ih (xW s o1 (T.eraseIdx kq) q,I2) ⟨iK.trans vx,AB.mono vx,⟨o1,T.eraseIdx kq,q,rfl,ai,hq1,ai,ai⟩,?_⟩ (dq);rw[<- qy,Ac (t:=t0.qW) hg];exact congrArg _ lv
    |true=>
     rw[aG rfl]at lv⊢;have TG:qR (s.clock+1) ((T.eraseIdx kq++[(⟨s.clock+1+4,q+1,t0.tx,true⟩:kz)]).map (·.qW))=qR (s.clock+1) ((T.eraseIdx kq).map (·.qW)):=by rw[eI];exact F8 (by show s.clock+1<s.clock+1+4;omega)
     refine again ih (xW s o2 (T.eraseIdx kq++[⟨s.clock+1+4,q+1,t0.tx,true⟩]) (q+1),I2) ⟨iK.trans vx,⟨Mq.log,Mq.pend,Mq.bY,Mq.waits,Mq.out⟩,⟨o2,_,_,rfl,by simp;omega,ai,by rw[TG];omega,by rw[TG];dsimp only at U9;omega⟩,?_⟩ (by dsimp only;rw[TG];omega);dsimp only;rw[TG,<- qy,Ac (t:=t0.qW) hg];exact congrArg _ lv
   ·refine bH ?_;refine dk.opn (h:=λlg wt ot tm bv bl bp bd be bu tl ht=>?_);cases VD:(aB s.pend t0.tx)
    ·refine C.dx (cW 51 0 8++[(50,8)]++[(59,9),(60,10)]++[(3,11)]++[(4,13)]) 14 [11,12] 1 ?_;refine nH ?_;refine Dr.l (λhE h=>C.Hy VD rfl h) ?_;refine Hb ?_;refine Ch.m 11 (aY λe aa hk=>?_);refine C.al rfl (λb3=>hk _ _ .cons ?_);refine Ch.m 12 (aY λe aa hk=>?_);refine C.tL rfl (hk _ undef ?_);refine zI ?_;refine dk.cls (xW s o1 (T.eraseIdx kq) q) ?_;refine again ih (xW s o1 (T.eraseIdx kq) q,I1) ⟨iK,AB,⟨o1,T.eraseIdx kq,q,rfl,ai,hq1,ai,ai⟩,?_⟩ (dq);rw[<- qy,Mo (t:=t0.qW) hg (jP (s:=xW s o1 (T.eraseIdx kq) q) VD)]
    ·rename_i w58;refine C.dx (cW 51 0 8++[(50,8)]++[(59,9),(60,10)]++[(3,11)]++[(4,13)]) 14 [11,12] 1 ?_;refine nH ?_;refine Dr.l (λhE h=>C.Hx VD rfl h) ?_;refine Hb ?_;refine Ch.m 11 (aY λe aa hk=>?_);refine C.al rfl (λb3=>hk _ _ .cons ?_);refine Ch.m 12 (aY λe aa hk=>?_);refine C.tL rfl (hk _ undef ?_);refine zI ?_;refine dk.cls (xW s o1 (T.eraseIdx kq) q) ?_;refine gU ?_;refine C.fF (gC (s:=xW s o1 (T.eraseIdx kq) q) (m:=⟨{bK with kind:=6,to:=w58.home,tx:=t0.tx},aR,aR⟩) (dq)) ?_;rintro v aP rfl;refine tV ?_;refine C.fF (kB (ticks:=3) (s:=xW s (o1++[⟨{bK with kind:=6,bq:=s.me,to:=w58.home,tx:=t0.tx},aR,aR⟩]) (T.eraseIdx kq) q) (dq) (dq) (dq) (by decide)) ?_;rintro v aP rfl;refine sB ?_;have TG:qR (s.clock+1) ((T.eraseIdx kq++[(⟨s.clock+1+3,q+1,t0.tx,false⟩:kz)]).map (·.qW))=qR (s.clock+1) ((T.eraseIdx kq).map (·.qW)):=by rw[eI];exact F8 (by show s.clock+1<s.clock+1+3;omega)
     have hJm:=AB.outs (kG.nil I1 {bK with kind:=6,bq:=s.me,to:=w58.home,tx:=t0.tx} rfl rfl);refine again ih (xW s (o1++[⟨{bK with kind:=6,bq:=s.me,to:=w58.home,tx:=t0.tx},aR,aR⟩]) (T.eraseIdx kq++[⟨s.clock+1+3,q+1,t0.tx,false⟩]) (q+1),I1) ⟨iK,⟨hJm.log,hJm.pend,hJm.bY,hJm.waits,hJm.out⟩,⟨_,_,_,rfl,by simp;omega,ai,by rw[TG];omega,by rw[TG];simp;omega⟩,?_⟩ (by dsimp only;rw[TG];omega);dsimp only;rw[TG,<- qy,Mn (t:=t0.qW) hg (pL (s:=xW s o1 (T.eraseIdx kq) q) VD)];simp[di.abs,jH,ff,kz.qW,qO.abs]
  ·refine C.dx (cW 14 0 23) 23 [] 0 ?_;refine pF ?_;refine Dr.p (λh=>C.fA rfl h (hf:=Cm)) ?_;refine pF ?_;refine Dr.l (λhE h=>C.dQ rfl h (j:=0)) ?_;refine nH ?_;refine Dr.p (λh=>C.dS rfl h (hf:=h35)) ?_;refine xT ?_;refine oV ?_;refine dk.cls (xW s o1 T q) ?_;have XK:pw s.abs=(xW s o1 T q).abs:=by rw[<- hgo];exact Ab (s:=(xW s o1 T q).abs) (ht.aaO (.inr (by rw[j8 ai];show s.clock+1<_;omega)))
   exact C.eJ (aP:=[dk b (xW s o1 T q),bD I1]) aT ak ⟨I1,_,iK,AJ,XK.symm,⟨by have:=hC.z;omega,by have:=hC.o;show 0<=q/\q<=_;omega,λu hu p hp=>by have:=hC.a u hu p hp;omega⟩,rfl⟩
 ·refine C.dx (cW 14 0 23) 23 [] 0 ?_;refine pF ?_;refine Dr.p (λh=>C.dS rfl h (hf:=Cm)) ?_;refine mX ?_;refine pF ?_;refine Dr.chain rfl ?_;refine oV ?_;refine dk.cls (xW s o1 T q) ?_;have XK:pw s.abs=(xW s o1 T q).abs:=by rw[<- hgo];exact Ab (s:=(xW s o1 T q).abs) (ht.aaO (.inl (JJ ai)))
  exact C.eJ (aP:=[dk b (xW s o1 T q),bD I1]) aT ak ⟨I1,_,iK,AJ,XK.symm,⟨by have:=hC.z;omega,by have:=hC.o;show 0<=q/\q<=_;omega,λu hu p hp=>by have:=hC.a u hu p hp;omega⟩,rfl⟩
theorem Ga{lg:az}{l:List ik}(hl:l.length<2^40):aI prog ao cH 150 #[lg.v] [bG oO 1 238 lg l] (λv As=>∃ s':az,v=s'.v/\As=[bG oO 1 238 s' l]):=by
 refine aI.of λR C kd d F c cs aT ak=>?_;refine cr ?_;refine At.aaX (s:=lg) (l:=l) (f:=oO) Fo.au ?_ ?_
 ·rintro rfl rfl;refine gu ?_;refine C.Vk rfl ?_ (a:=none) (len:=0) (cap:=0);refine eP ?_;exact C.cm aT ak ⟨aR,rfl,rfl⟩
 ·intro h1 h2;have hv:lg.v=.slice (some ⟨lg.b,0,none⟩) lg.len lg.cap:=by unfold az.v;rw[h1]
  refine gu ?_;refine C.Vk rfl ?_ (a:=some ⟨lg.b,0,none⟩) (len:=lg.len) (cap:=lg.cap) (hx:=hv);refine dK ?_;refine C.bs0 oO rfl (λb5=>?_);refine fG ?_;refine C.Vd (l:=[]) l rfl (λs'=>?_) (hsrc:=λH st=>?_) (s:=⟨some ⟨b5,0,none⟩,0,0⟩)
  ·refine bH ?_;exact C.cm aT ak ⟨s',rfl,rfl⟩
  ·exact dZ.src (dZ.own (s:=lg) Fo.au) st (λj=>rfl)
theorem Iy{I:HL}{b:Nat}{s:di}{o a:Int}(hJ:ShJ I s)(hb:qQ s)(hC:xn o a s):
  aI prog ao cH 93 #[ay b] [dk b s,bD I] (gD b I (o+1) (a+1) (ti s.abs)):=by
 have mB:=hb.out;have R4:=hb.waits;refine aI.of λR C kd d F c cs aT ak=>?_;refine cr ?_;refine dk.opn (h:=λlg wt ot tm bv bl bp bd be bu tl ht=>?_);refine lI ?_;refine fG ?_;refine C.dx (cW 10 0 13) 14 [10,13] 0 ?_;refine mX ?_;refine kD ?_;refine Dr.chain rfl ?_;refine Ch.m 10 (aY λe aa hk=>?_);refine C.Vd (s:=ot) (l:=s.out) s.waits rfl (λs'=>?_) (hsrc:=λH st=>dZ.src (dZ.own (s:=wt) Fo.au) st (λj=>rfl));refine hk _ _ ?_;refine Ch.m 13 (aY λe aa hk=>?_);refine C.st rfl (hk _ undef ?_);refine PX ?_;refine At.aR dt 7 159 ?_;refine dk.cls {s with aH:=s.log.length,out:=s.out++s.waits,waits:=[]} ?_ (wt:=aR);refine C.eJ aT ak ⟨I,{s with aH:=s.log.length,out:=s.out++s.waits,waits:=[]},Sub.refl _,⟨hJ.log,hJ.pend,hJ.bY,λx hx=>(nomatch hx),λx hx=>?_⟩,?_,hC.same rfl rfl,rfl⟩
 ·rcases bS.1 hx with hx|hx
  ·exact hJ.out x hx
  ·exact hJ.waits x hx
 ·simp[di.abs,ti]
theorem TH{α:Type}{f:α->List Value}{z:Nat}{el:aO}{s:az}{l:List α}(h:HL)(x:bG f z el s l h):s.len=l.length/\l.length<=s.cap:=by
 rcases x with⟨rfl,rfl⟩|⟨b,pad,e,h1,h2,h3⟩
 ·exact⟨rfl,e8 _⟩
 ·exact⟨by rw[e],h2⟩
def Qr(s:di)(keep:Int):Int:=s.aH+min (max keep 0) ((s.log.length:Int)-s.aH)
abbrev crX(s:di)(keep:Int):di:={s with up:=false,aH:=Qr s keep,log:=s.log.take (Qr s keep).toNat,values:=[],aX:=[],pend:=[],done:=[],bF:=[],bY:=[],timers:=[],order:=0,clock:=0,waits:=[]}
theorem Gb{I:HL}{b:Nat}{s:di}{keep o a:Int}(hJ:ShJ I s)(hb:qQ s)(hC:xn o a s):
  aI prog ao cH 96 #[ay b,aD keep] [dk b s,bD I] (gD b I (o+1) (a+1) (nC s.abs keep)):=by
 have jL:=hb.log;have xc:=hb.aH;have hg:0<=Qr s keep/\Qr s keep<=s.log.length:=by unfold Qr;omega
 refine aI.of λR C kd d F c cs aT ak=>?_;refine cr ?_;refine dk.opn (h:=λlg wt ot tm bv bl bp bd be bu tl ht=>?_);refine At.EU (A:=bG oO 1 238 lg s.log) Fo.au TH λhk=>?_;refine gU ?_;refine C.dx (cW 7 0 20) 21 [20] 0 ?_;refine NC ?_;refine Dr.p (λh=>C.mx rfl h) ?_;refine mX ?_;refine Dr.p (λh=>C.mn rfl h) ?_;refine Dr.p (λh=>C.ar rfl h (r:=Qr s keep) (hr:=uy ai ai)) ?_;refine A5 ?_;refine Ch.m 20 (aY λe aa hk=>?_);refine C.st rfl (hk _ undef ?_);refine fP ?_;refine C.dx (cW 27 0 13) 14 [10,13] 0 ?_;refine Em ?_;refine kK ?_;refine Dr.p (λh=>C.shi rfl h (hi:=Qr s keep) (hh:=by constructor<;>omega)) ?_;refine A5 ?_;refine Ch.m 10 (aY λe aa hk=>?_);refine At.turn (A:=bG oO 1 238 lg s.log) Fo.au (Kk (n:=(Qr s keep).toNat) ai) ?_;refine C.fF (Ga (lg:=⟨lg.a,(Qr s keep).toNat,lg.cap⟩) (l:=s.log.take (Qr s keep).toNat) (by rw[jS];omega)) ?_;rintro v aP ⟨s',rfl,rfl⟩;refine cr ?_;refine hk _ _ ?_;refine Ch.m 13 (aY λe aa hk=>?_);refine C.st rfl (hk _ undef ?_);refine ND ?_;refine C.fF ug ?_;rintro v aP ⟨bv',bl',bp',bd',be',bu',rfl,rfl⟩;refine Ca ?_;refine At.aR sE 4 229 (At.aR dt 7 159 ?_);refine At.E0 (show At R d (all (([]:List (Int×fD)).map qP)::_) _ from ?_);refine dk.cls (crX s keep) ?_ (tl:=[]) (lg:=s') (wt:=aR) (tm:=aR) (ht:=py.zero 0);refine C.eJ (aP:=[dk b (crX s keep),bD I]) aT ak ⟨I,crX s keep,Sub.refl _,⟨λx hx=>hJ.log x (EF hx),by simp,by simp,by simp,hJ.out⟩,?_,⟨by have:=hC.z;omega,⟨nW 0,by have:=hC.o;show 0<=o+1;omega⟩,by simp⟩,rfl⟩;simp[di.abs,nC,iX,Qr,EC]
theorem vH{V:Type}{kk:IntKind}{g:V->Value}{b:Nat}{l:List (Int×V)}(h:HL)(x:db kk g b l h):(l.map (·.1)).Nodup:=by obtain⟨es,clock,m,_⟩:=x;have:=m.nd;simpa[kQ,Bq]using this
structure xX{V:Type}(l vl:List (Int×V)):Prop where
 nd:(vl.map (·.1)).Nodup
 sub:∀ p∈vl,p∈l
theorem xX.add{V:Type}{l vl:List (Int×V)}(h:xX l vl){k:Int}{v:V}(hm:(k,v)∈l)(hn:k∉vl.map (·.1)):xX l ((k,v)::vl):=
 ⟨oX.2 ⟨hn,h.nd⟩,λp hp=>by
  rcases fR.1 hp with rfl|hp
  ·exact hm
  ·exact h.sub p hp⟩
theorem xX.len{V:Type}:∀ {vl l:List (Int×V)},xX l vl->vl.length<=l.length
 |[],l,_=>eW _
 |p::vl,l,h=>by
  obtain⟨i,hi,e⟩:=mN (h.sub p (fY ..));have nd:=oX.1 h.nd;have hc:xX (l.eraseIdx i) vl:=⟨nd.2,λq hq=>by
   have h1:=h.sub q (fp _ hq);have h2:=(uZ hi).mem_iff.1 h1;rcases fR.1 h2 with h3|h3
   ·exact absurd (bM.2 ⟨q,hq,by rw[h3,e]⟩) nd.1
   ·exact h3⟩
  have:=hc.len;rw[Od,aG hi]at this;simp only[jC];omega
theorem xX.all{V:Type}:∀ {vl l:List (Int×V)},xX l vl->(l.map (·.1)).Nodup->(∀ p∈l,p.1∈vl.map (·.1))->vl.Perm l
 |[],l,_,_,ha=>by
  cases l with
  |nil=>exact .refl _
  |cons p l=>have:=ha p (fY ..);cases this
 |p::vl,l,h,hl,ha=>by
  obtain⟨i,hi,e⟩:=mN (h.sub p (fY ..));have nd:=oX.1 h.nd;have hp:=uZ hi;rw[e]at hp;have Kq:((p::l.eraseIdx i).map (·.1)).Nodup:=(hp.map (·.1)).nodup_iff.1 hl;have hl3:=oX.1 Kq;have hc:xX (l.eraseIdx i) vl:=⟨nd.2,λq hq=>by
   have h2:=hp.mem_iff.1 (h.sub q (fp _ hq));rcases fR.1 h2 with h3|h3
   ·exact absurd (bM.2 ⟨q,hq,by rw[h3]⟩) nd.1
   ·exact h3⟩
  refine((hc.all hl3.2 λq hq=>?_).cons p).trans hp.symm;have h3:=ha q (hp.mem_iff.2 (fp _ hq));rcases fR.1 h3 with h4|h4
  ·exact absurd (bM.2 ⟨q,hq,h4⟩) hl3.1
  ·exact h4
theorem Gc{V:Type}{l:List (Int×V)}{k:Int}{v:V}(h:k∉l.map (·.1)):bB l k v=l++[(k,v)]:=by
 cases hi:qN k l 0 with
 |none=>exact(jF hi).2.1 v
 |some nv=>
  obtain⟨j,w⟩:=nv;obtain⟨n, -,h1,h2, -, -⟩:=jE hi;exact absurd (bM.2 ⟨(k,w),dg h1,rfl⟩) h
theorem Gd{b:Nat}{s:di}:aI prog ao cH 131 #[ay b] [dk b s] (λv As=>∃ b' l',v=.map (some b')/\l'.Perm s.aX/\As=[db .u8 dV b' l',dk b s]):=by
 refine aI.of λR C kd d F c cs aT ak=>?_;refine cr ?_;refine dk.opn (h:=λlg wt ot tm bv bl bp bd be bu tl ht=>?_);refine At.EU (A:=db .u8 dV bl s.aX) Fo.au vH λmP=>?_;refine eP ?_;refine C.mm .u8 dV rfl (λb6=>?_);refine nT ?_;refine C.rn (g:=dV) (l:=s.aX) rfl (λb12=>?_);refine C.go ?_;refine C.cu (X:=List (Int×Int)) (λvl=>[(3,.map (some b6)),(12,.pointer (some ⟨b12,0,none⟩))]) (λvl=>db .u8 dV b6 vl.reverse::HN .u8 dV bl b12 s.aX (vl.map (·.1))::sxC b s lg wt ot tm bv bl bp bd be bu::bG oO 1 238 lg s.log::db .u8 fC bv s.values::db .i64 uf bp s.pend::db .i64 pJ bd s.done::db .i64 pJ be s.bF::db .i64 wF bu s.bY::all (s.bY.map qP)::
 bG sE 4 229 tm tl::bG dt 7 159 wt s.waits::bG dt 7 159 ot s.out::F) (λvl=>xX s.aX vl) (λvl=>s.aX.length-vl.length) [] ⟨rfl,rfl,trivial⟩ ⟨.nil,λp hp=>(nomatch hp)⟩ ?_ (hI:=by rw[Ez,l6];exact cV.au)
 intro vl e hc ih;refine bH ?_;refine C.nx (g:=dV) (l:=s.aX) rfl (λQs TI m13 ui=>?_) (λui=>?_)
 ·refine dK ?_;have XL:=eG mP m13;have kI:=hc.add m13 ui;have wV:=kI.len;have tD:Qs∉vl.reverse.map (·.1):=by rw[List.map_reverse,List.mem_reverse];exact ui
  refine fG ?_;refine C.ent XL rfl ?_ Fo.au;refine oT ?_;refine C.mu (w:=TI) (l:=vl.reverse) (q:=Qs) rfl ?_;refine C.go ?_;refine again ih ((Qs,TI)::vl) kI (by simp only[jC]at wV⊢;omega) (hr:=?_);rw[JL,<- Gc tD,gW];exact cV.au
 ·refine gU ?_;refine At.Dj (l:=s.aX) (g:=dV) Fo.au ?_;refine dk.cls s ?_;exact C.cm aT ak ⟨b6,vl.reverse,rfl,(Oe vl).trans (hc.all mP ui),rfl⟩
theorem DJ{b:Nat}{s:di}:aI prog ao cH 71 #[ay b] [dk b s] (λv As=>∃ b' l',v=.map (some b')/\l'.Perm (s.values.filter λp=>p.2 != 0)/\As=[db .u8 fC b' l',dk b s]):=by
 refine aI.of λR C kd d F c cs aT ak=>?_;refine cr ?_;refine dk.opn (h:=λlg wt ot tm bv bl bp bd be bu tl ht=>?_);refine At.EU (A:=db .u8 fC bv s.values) Fo.au vH λmP=>?_;refine eP ?_;refine C.mm .u8 fC rfl (λb6=>?_);refine nT ?_;refine C.rn (g:=fC) (l:=s.values) rfl (λb12=>?_);refine C.go ?_;refine C.cu (X:=List (Int×Int)) (λvl=>[(3,.map (some b6)),(12,.pointer (some ⟨b12,0,none⟩))]) (λvl=>db .u8 fC b6 (vl.reverse.filter λp=>p.2 != 0)::HN .u8 fC bv b12 s.values (vl.map (·.1))::sxC b s lg wt ot tm bv bl bp bd be bu::bG oO 1 238 lg s.log::db .u8 dV bl s.aX::db .i64 uf bp s.pend::db .i64 pJ bd s.done::db .i64 pJ be s.bF::db .i64 wF bu s.bY::all (s.bY.map qP)::
 bG sE 4 229 tm tl::bG dt 7 159 wt s.waits::bG dt 7 159 ot s.out::F) (λvl=>xX s.values vl) (λvl=>s.values.length-vl.length) [] ⟨rfl,rfl,trivial⟩ ⟨.nil,λp hp=>(nomatch hp)⟩ ?_ (hI:=by rw[Ez,EG,l6];exact cV.au)
 intro vl e hc ih;refine bH ?_;refine C.nx (g:=fC) (l:=s.values) rfl (λQs TI m13 ui=>?_) (λui=>?_)
 ·refine dK ?_;have XL:=eG mP m13;have kI:=hc.add m13 ui;have wV:=kI.len;have tD:Qs∉(vl.reverse.filter λp=>p.2 != 0).map (·.1):=λh=>ui (by obtain⟨p,hp,e⟩:=bM.1 h;exact bM.2 ⟨p,List.mem_reverse.1 (gI.1 hp).1,e⟩)
  refine fG ?_;refine C.ent XL rfl ?_ Fo.au;refine gU ?_;refine C.cmp rfl (λXM=>?_) (λXM=>?_)
  ·refine gu ?_;refine C.mu (w:=TI) (l:=vl.reverse.filter λp=>p.2 != 0) (q:=Qs) rfl ?_;refine C.go ?_;refine again ih ((Qs,TI)::vl) kI (by simp only[jC]at wV⊢;omega) (hr:=?_);have e1:((Qs,TI)::vl).reverse.filter (λp=>p.2 != 0)=bB (vl.reverse.filter λp=>p.2 != 0) Qs TI:=by rw[Gc tD,JL,qw,o6,aG (by simpa using XM),EG]
   rw[e1,gW];exact cV.au
  ·refine bH ?_;refine again ih ((Qs,TI)::vl) kI (by simp only[jC]at wV⊢;omega) (hr:=?_);have e1:((Qs,TI)::vl).reverse.filter (λp=>p.2 != 0)=vl.reverse.filter λp=>p.2 != 0:=by rw[JL,qw,o6,ax (by simpa using XM),EG,l7]
   rw[e1,gW];exact cV.au
 ·refine gU ?_;refine At.Dj (l:=s.values) (g:=fC) Fo.au ?_;refine dk.cls s ?_;exact C.cm aT ak ⟨b6,vl.reverse.filter (λp=>p.2 != 0),rfl,((Oe vl).trans (hc.all mP ui)).filter _,rfl⟩
abbrev sX(r:tZ):HP:=all [bG cS 3 37 r.so r.ops,bG cX 1 21 r.sr r.reads]
variable{R:Nat->aM->Array Obj->Prop}{d:Nat}{As F L:List HP}{g:aM}{rs:List tZ}
theorem TJ(r:tZ)(hr:fg [bG cS 3 37 r.so r.ops,bG cX 1 21 r.sr r.reads,all (rs.map sX)] As L)(h:At R d (all ((rs++[r]).map sX)::L) g):At R d As g:=
 At.perm hr.perm λH s=>(yj (f:=sX) r (.cons .head (.cons .head .nil)) h) H (Sat.iC (l:=[bG cS 3 37 r.so r.ops,bG cX 1 21 r.sr r.reads]) s)
theorem Ba{I:HL}{b:Nat}{s:di}(hJ:ShJ I s)(hl:s.log.length<2^30):aI prog ao cH 98 #[ay b] [dk b s,bD I]
  (λv As=>∃ (sl:az) (rs:List tZ),v=.tuple #[sl.v,aD s.aH]/\rs.map (·.toRecR)=s.log.map (·.abs.aV)/\As=[bG recC 6 109 sl rs,all (rs.map sX),dk b s,bD I]):=by
 refine aI.of λR C kd d F c cs aT ak=>?_;refine cr ?_;refine dk.opn (h:=λlg wt ot tm bv bl bp bd be bu tl ht=>?_);refine kj ?_;refine dK ?_;refine At.aR recC 6 109 ?_;refine At.E0 (show At R d (all (([]:List tZ).map sX)::_) _ from ?_);refine C.cu (X:=Nat×az×List tZ) (λx=>[(0,ay b),(4,x.2.1.v),(10,lg.v),(11,aD s.log.length),(12,aD x.1)]) (λx=>bG recC 6 109 x.2.1 x.2.2::all (x.2.2.map sX)::L1 b s lg wt ot tm bv bl bp bd be bu tl (bD I::F)) (λx=>x.1<=s.log.length/\x.2.2.map (·.toRecR)=(s.log.take x.1).map (·.abs.aV)) (λx=>s.log.length-x.1) (0,aR,[]) ⟨rfl,rfl,rfl,rfl,rfl,trivial⟩ ⟨eW _,rfl⟩ ?_;rintro⟨i,s1,rs⟩ e ⟨hi,vQ⟩ ih;dsimp only at hi vQ⊢;have hrl:rs.length=i:=by have:=congrArg List.length vQ;rw[dW,dW,jS]at this;omega
 refine bH ?_;refine C.cmp rfl (λui=>?_) (λui=>?_)
 ·refine bH ?_;have ee:i<s.log.length:=by simpa using ui
  have ZB:=hJ.log _ (dp ee);refine nT ?_;refine C.enr ZB ?_;rintro v aP ⟨so,sr,rfl,rfl⟩;refine cr ?_;refine C.AV rfl (λb19=>?_);refine C.BI (s:=s1) (l:=rs) (tZ.mk (s.log[i]'ee).abs.aV so sr) rfl (λs2=>?_);refine gu ?_;refine TJ (rs:=rs) (tZ.mk (s.log[i]'ee).abs.aV so sr) fg.au ?_;refine again ih (i+1,s2,rs++[tZ.mk (s.log[i]'ee).abs.aV so sr]) ⟨ee,?_⟩ (dq);rw[iM ee,eI,eI,vQ];rfl
 ·refine bH ?_;refine C.dx (cW 22 0 5++[(2,5),(3,6)]) 7 [] 0 ?_;refine To ?_;refine fP ?_;have e1:s.log.take i=s.log:=jD (by simp at ui;omega);rw[e1]at vQ;refine dk.cls s ?_;exact C.cm aT ak ⟨s1,rs,rfl,vQ,rfl⟩
def XN:aO->Nat->Bool:=λt o=>t==31||t==124||(t==93&&o==5)||(t==130&&o==1)
def XO:aO->Nat->Bool:=λt o=>t==93&&(o==7||o==8)
def bI:tO:=⟨⟨cH.rd,XO,0⟩,rfl,XN,XO,λb t o h=>by
 simp only[XN,cH,yB,jc]at h⊢;rcases h with((h|h)|h)|h
 ·exact .inl (.inr h)
 ·exact .inl (.inl (.inr h))
 ·exact .inl (.inl (.inl h.1))
 ·exact .inr h.1,λt o h=>h⟩
theorem dN(σ:Gh):BLe (bI.bw σ) cH:=⟨λb t o h=>(tO.le bI σ).rd b t o h,λt o h=>by have h:XO t o=true:=h;simp only[XO,cH,yB,jc]at h⊢;exact .inl (.inl (.inl h.1)),eW _⟩
theorem Qt:BLe bI.B0 cH:=⟨λb t o h=>h,(dN ⟨0,λ_=>none,λ_=>False,0⟩).sh,e8 _⟩
abbrev TK(m:Int)(ah aK aF dn:Value)(aj:Bool)(st:Int):Array Value:=#[.int .i32 m,.int .u32 0,ah,aK,aF,dn,.bool aj,.int .u64 st,.int .u32 0]
abbrev oW(b:Nat)(m:Int)(ah aK aF dn:Value)(aj:Bool)(st:Int):HP:=da b (.cells (TK m ah aK aF dn aj st) 93 (0,0))
variable{σ:Gh}{b:Nat}{ah aK aF dn:Value}{aj:Bool}{st:Int}
theorem IA:aI prog true (bI.bw σ) 69 #[.pointer (some ⟨b,0,none⟩)] [oW b 0 ah aK aF dn aj st] (λv As=>v=.tuple #[]/\As=[oW b 1 ah aK aF dn aj st]):=by refine aI.of λR C kd d F c cs aT ak=>?_;refine oU ?_;refine C.SO rfl ?_;refine eP ?_;refine C.aaF rfl ?_;refine dX ?_;refine C.WL rfl ?_;refine dK ?_;refine C.SP rfl ?_;refine C.xMk (mk:=.acquire) (a:=⟨b,0,none⟩) rfl ?_ (hm:=λH s=>⟨_,_,Has.get Has.au s⟩);refine C.go ?_;exact C.cm aT ak ⟨rfl,rfl⟩
theorem DK:aI prog true (bI.bw σ) 70 #[.pointer (some ⟨b,0,none⟩)] [oW b 1 ah aK aF dn aj st] (λv As=>v=.tuple #[]/\As=[oW b 0 ah aK aF dn aj st]):=by refine aI.of λR C kd d F c cs aT ak=>?_;refine cr ?_;refine tU ?_;refine C.SP rfl ?_;refine C.xMk (mk:=.releaseMerge) (a:=⟨b,0,none⟩) rfl ?_ (hm:=λH s=>⟨_,_,Has.get Has.au s⟩);refine bH ?_;refine C.SO rfl ?_;refine eP ?_;refine C.aaG (z':=0) rfl ?_;refine dX ?_;refine C.dS rfl ?_;refine dK ?_;refine C.WL rfl ?_;refine C.go ?_;exact C.eJ aT ak ⟨rfl,rfl⟩
theorem fE:aI prog true (bI.bw σ) 32 #[.pointer (some ⟨b,0,none⟩)] [oW b 0 ah aK aF dn aj st] (λv As=>v=.tuple #[]/\As=[oW b 1 ah aK aF dn aj st]):=by refine aI.of λR C kd d F c cs aT ak=>?_;refine tV ?_;refine C.cE IA ?_;refine sB ?_;exact C.eJ aT ak ⟨rfl,rfl⟩
theorem dE:aI prog true (bI.bw σ) 33 #[.pointer (some ⟨b,0,none⟩)] [oW b 1 ah aK aF dn aj st] (λv As=>v=.tuple #[]/\As=[oW b 0 ah aK aF dn aj st]):=by refine aI.of λR C kd d F c cs aT ak=>?_;refine tV ?_;refine C.cE DK ?_;refine sB ?_;exact C.eJ aT ak ⟨rfl,rfl⟩
end
section
open Go.Proofs Go.Conc
instance:Zv prog 75 (.agg #[]):=⟨_,aC type75,rfl⟩
variable{P:bL}{n:Nat}{e:Nat->Value}{dst:Option Nat}{ty t1 t2:aO}{pos:String}{af:Array Edge}{gd:Option (Nat×Bool)}{x y:cZ}
theorem Qu{a b:Nat}{z1 z2:Value}[c1:Zv P t1 z1][c2:Zv P t2 z2](hx:ev n e x=.chan (some a))(hy:ev n e y=.chan (some b)):fW P (execOp (ev n e) ⟨dst,.select #[⟨x,none,t1⟩,⟨y,none,t2⟩] true,ty,pos,af,gd⟩)=some (.comm #[rcase a z1,rcase b z2] true .select):=by unfold execOp;simp only;refine bC (a:=#[rcase a z1,rcase b z2]) ?_ rfl;have h1:fW P (zeroValue t1)=some z1:=rA c1.h;have h2:fW P (zeroValue t2)=some z2:=rA c2.h;rw[NZ];simp only[V4,List.mapM_nil,hx,hy,Jp,N3,bind_assoc,pure_bind];refine bC h1 (bC h2 rfl)
structure HG where
 g:Nat
 hb:Nat
 bh:Nat
 bs:Nat
 wk:Nat
 rd:Nat
structure CG where
 b:Nat
 cb:Nat
 dn:Nat
def VE(C:CG)(cs:List Frame):Prop:=∃ e1,cs=[bq 54 .pR 11 e1 [⟨.fn (.func 55) #[],#[.pointer (some ⟨C.b,7,none⟩)]⟩] [.inRegion (cO (cR ((f54.body).getD .skip))) [5]],base prog []]
def DL(h:HG)(C:CG)(r:aM):Prop:=∃ e cs,VE C cs/\e 0=ay h.bh/\e 1=.chan (some C.dn)/\r=gr 56 .qL 30 e [] (.inRegion (cO (cL (cR (cB (cB (cB ((f56.body).getD .skip))))))) [0,1,2,3]:: .code (cR (cR (cB (cB (cB ((f56.body).getD .skip)))))):: .inBlock 1:: .inLoop (cB (cB ((f56.body).getD .skip)))::[.inBlock 0]) cs
def eL(h:HG)(C:CG):dH:=⟨#[rcase h.wk .nilFunc,rcase C.dn (.agg #[])],.select,DL h C,[(⟨C.cb,0,none⟩,ay C.b),(⟨h.hb,0,none⟩,ay h.bh),(⟨C.b,5,none⟩,.chan (some C.dn)),(⟨h.bh,1,none⟩,.chan (some h.wk))]⟩
theorem Ge{h:HG}{C:CG}{e:Nat->Value}{cs:List Frame}(sQ:VE C cs)(h0:e 0=ay h.bh)(h1:e 1=.chan (some C.dn)):
  Way prog false (eL h C) 200 (gr 56 .qL 30 e [] (.code (cB (cB ((f56.body).getD .skip))):: .inLoop (cB (cB ((f56.body).getD .skip)))::[.inBlock 0]) cs):=by
 have M:=Mt.way (P:=prog) (ao:=false) (s:=eL h C);rw[<- j5 (e:=e) (l:=[(0,ay h.bh),(1,.chan (some C.dn))]) ⟨h0,h1,trivial⟩];refine M.go ?_;refine M.rg [0,1,2,3] ?_;refine M.mv rfl ?_;refine M.nc (a:=⟨h.bh,0,none⟩) rfl ?_;refine M.fa rfl ?_;refine Pp (ad:=⟨h.bh,1,none⟩) (v:=.chan (some h.wk)) rfl ?_ (by simp[eL]);refine M.go ?_;refine M.rg [0] ?_;refine M.mv rfl ?_;refine M.go ?_;refine M.rg [0,1,2,3] ?_;exact Way.mono (n:=0) (WN rfl ⟨_,cs,sQ,rfl,rfl,rfl⟩ (Qu rfl rfl) rfl) ai
theorem Mr{h:HG}{C:CG}:Way prog false (eL h C) 600 (child prog ⟨.fn (.func 54) #[ay C.cb,ay h.hb],#[]⟩):=by
 have M:=Mt.way (P:=prog) (ao:=false) (s:=eL h C);refine M.child ?_;refine M.go ?_;refine M.rg [0,1,2,3] ?_;refine Pp (ad:=⟨C.cb,0,none⟩) (v:=ay C.b) rfl ?_ (by simp[eL]);refine M.nc (a:=⟨C.b,0,none⟩) rfl ?_;refine M.fa rfl ?_;refine M.pR rfl ?_;refine M.go ?_;refine HK [(5,0),(6,1),(7,2),(8,3),(9,4),(10,5)] [0,1,2,3,4] 5 [⟨0,5,ay h.bh,false⟩,⟨1,6,ay C.b,false⟩,⟨2,7,ay C.b,false⟩,⟨3,8,.pointer (some ⟨C.b,5,none⟩),false⟩,⟨4,9,.chan (some C.dn),false⟩] ⟨?_,?_,?_,?_,?_⟩ ?_
 ·intro i hi;simp only[fR,m6,gm]at hi;rcases hi with rfl|rfl|rfl|rfl|rfl<;>simp
 ·simp
 ·simp
 ·intro x hx;simp only[fR,m6,gm]at hx;rcases hx with rfl|rfl|rfl|rfl|rfl<;>rfl
 ·intro x hx;simp only[fR,m6,gm]at hx;rcases hx with rfl|rfl|rfl|rfl|rfl
  ·exact⟨[],by simp,λm e aa q=>E9 (ad:=⟨h.hb,0,none⟩) (by simp[eL]) rfl q⟩
  ·exact⟨[],by simp,λm e aa q=>E9 (ad:=⟨C.cb,0,none⟩) (by simp[eL]) rfl q⟩
  ·exact⟨[⟨1,6,ay C.b,false⟩],by simp,λm e aa q=>Kf (a:=⟨C.b,0,none⟩) rfl q⟩
  ·exact⟨[⟨2,7,ay C.b,false⟩],by simp,λm e aa q=>Kg (b:=C.b) (off:=0) (o:=5) rfl q⟩
  ·exact⟨[⟨3,8,.pointer (some ⟨C.b,5,none⟩),false⟩],by simp,λm e aa q=>E9 (ad:=⟨C.b,5,none⟩) (by simp[eL]) rfl q⟩
 ·refine M.SQ (f:=56) rfl ?_;refine M.go ?_;refine M.lp ?_;exact Way.mono (Ge ⟨_,rfl⟩ rfl rfl) ai
end
section
open Go.Proofs Go.Conc
structure abL(G:qT)(b:Nat):Prop where
 blk:G.blk=b
 o1:G.o1=7
 o2:G.o2=8
 ty:G.ty=93
 sz:G.cs.size=9
theorem XP{a b:Nat}{z1 z2 v:Value}{ok:Bool}:commResult #[rcase a z1,rcase b z2] .select 1 v ok=.tuple #[aD 1,.bool ok,z1,v]:=by simp[commResult,rcase,goInt]
theorem XQ{a b:Nat}{z1 z2 v:Value}{ok:Bool}:commResult #[rcase a z1,rcase b z2] .select 0 v ok=.tuple #[aD 0,.bool ok,v,z2]:=by simp[commResult,rcase,goInt]
theorem leave{h:HG}{C:CG}{G:qT}(hG:abL G C.b){r:aM}(hr:DL h C r):Cl prog G 9000 .rel (Conc.served r (commResult #[rcase h.wk .nilFunc,rcase C.dn (.agg #[])] .select 1 (.agg #[]) false)):=by
 obtain⟨e,cs,⟨e1,rfl⟩,h0,h1,rfl⟩:=hr;obtain⟨blk,o1,o2,Gf,gty⟩:=G;obtain⟨e1',e2',e3',e4',hsz⟩:=hG;simp only at e1' e2' e3' e4' hsz;subst e1' e2' e3' e4';have M:=Mt.cl (P:=prog) (G:=⟨C.b,7,8,Gf,93⟩) (x:=.rel);rw[sj rfl,XP];refine M.ext (v:=aD 1) rfl ?_;refine M.bo (v:=.bool false) rfl ?_;refine M.bo (v:=.bool true) rfl ?_;refine M.go ?_;refine M.C7 ?_;refine M.Lv ?_;refine M.ret ?_;refine M.home ?_;unfold fy;rw[cf rfl];show Cl prog _ _ .rel (gr 54 .pR 11 _ _ _ _);refine M.go ?_;refine M.fin ?_;refine M.dcall ?_;refine M.go ?_;refine M.rg [0,1] ?_;refine M.mv rfl ?_;refine M.SQ (f:=53) rfl ?_;refine M.go ?_;refine M.Lv ?_;refine M.rg [0,1] ?_;refine M.mv rfl ?_;refine M.bo (v:=.bool true) rfl ?_;refine M.go ?_;refine M.Lv ?_;refine M.rg [0,1,2] ?_;refine M.mv rfl ?_;refine M.SP (ad:=⟨C.b,7,none⟩) (λw ⟨c,h1,h2⟩=>⟨c[7]'(by simp only at h2;omega),by simp only[World.cell?,h1];simp⟩) rfl ?_;refine WX rfl (λw=>zd .releaseMerge rfl rfl (by intro ad g;simp) rfl w) ?_;have M:=Mt.cl (P:=prog) (G:=⟨C.b,7,8,Gf,93⟩) (x:=.yb);refine M.go ?_;refine M.rg [0] ?_;refine WY rfl (λw=>zb .disable rfl rfl (by intro g;simp) w) ?_;have M:=Mt.cl (P:=prog) (G:=⟨C.b,7,8,Gf,93⟩) (x:=.add);refine M.go ?_;refine M.rg [0] ?_;refine M.pR rfl ?_;refine M.go ?_;refine M.rg [0] ?_;refine M.oR rfl ?_;refine M.go ?_;refine M.rg [0] ?_;refine M.xk rfl ?_;refine M.go ?_;refine M.C7 ?_;refine M.rg [0,1,2,3,4,5,6,7] ?_;refine M.mv rfl ?_;refine M.nc (a:=⟨C.b,7,none⟩) rfl ?_;refine M.fa (b:=C.b) (off:=7) (o:=0) rfl ?_;refine M.mv rfl ?_;refine M.cv (r:=18446744073709551615) rfl ?_;refine M.bo (v:=.int .u64 18446744069414584320) rfl ?_;refine M.SQ (f:=119) rfl ?_;refine M.go ?_;refine M.rg [0] ?_;refine M.oR rfl ?_;refine M.go ?_;refine M.rg [0,1,2,3,4,5] ?_;refine M.mv rfl ?_;refine M.nc (a:=⟨C.b,7,none⟩) rfl ?_;refine M.fa (b:=C.b) (off:=7) (o:=0) rfl ?_;refine M.mv rfl ?_;refine SY rfl ?_ ?_
 ·have M:=Mt.cl (P:=prog) (G:=⟨C.b,7,8,Gf,93⟩) (x:=.ld);refine M.oR rfl ?_;refine M.go ?_;refine M.ret ?_;refine M.home ?_;unfold fy;rw[cf rfl];show Cl prog _ _ .ld (gr 53 .qL 117 _ _ _ _);refine M.oR rfl ?_;refine M.go ?_;refine M.rg [0,1,2,3,4,5,6] ?_;refine M.mv rfl ?_;refine M.bo rfl ?_;refine M.bo rfl ?_;refine M.mv rfl ?_;refine M.no rfl ?_;refine M.no rfl ?_;refine M.pk rfl ?_;refine M.go ?_;refine M.C7 ?_;refine M.rg [0,1,2,3] ?_;refine M.mv rfl ?_;refine M.bo rfl ?_;refine M.cv rfl ?_;refine M.oR rfl ?_;refine M.go ?_;refine M.rg [0,1,2,3] ?_;refine M.mv rfl ?_;refine M.bo rfl ?_;refine M.cv rfl ?_;refine M.oR rfl ?_;refine M.go ?_;refine M.rg [0,1,2,3,4,5,6,7,8,9] ?_;refine M.mv rfl ?_;refine M.mv rfl ?_;refine M.bo rfl ?_;refine M.pk rfl ?_;refine M.mv rfl ?_;refine M.no rfl ?_;refine M.no rfl ?_;refine M.no rfl ?_;refine M.no rfl ?_;refine M.pk rfl ?_;refine M.go ?_;refine M.C7 ?_;refine M.rg [0,1] ?_;refine M.mv rfl ?_;refine M.bo rfl ?_;refine M.go ?_;refine M.C7 ?_;refine M.rg [0,1,2,3,4,5,6,7,8,9,10,11] ?_;refine M.mv rfl ?_;refine M.bo rfl ?_;refine M.mv rfl ?_
  first|refine M.no rfl ?_|refine M.mv rfl ?_
  first|refine M.no rfl ?_|refine M.bo rfl ?_
  refine M.pk rfl ?_;refine M.mv rfl ?_;refine M.no rfl ?_;refine M.no rfl ?_;refine M.no rfl ?_;refine M.no rfl ?_;refine M.pk rfl ?_;refine M.go ?_;refine M.C7 ?_;refine M.rg [0,1,2,3,4,5] ?_;refine M.mv rfl ?_;refine M.bo rfl ?_;refine M.mv rfl ?_
  first|refine M.no rfl ?_|refine M.mv rfl ?_
  first|refine M.no rfl ?_|refine M.bo rfl ?_
  refine M.pk rfl ?_;refine M.go ?_;refine M.C7 ?_;refine M.rg [0,1,2,3,4,5] ?_;refine M.mv rfl ?_;refine M.nc rfl ?_;refine M.fa rfl ?_;refine M.SQ (f:=73) rfl ?_;refine M.go ?_;refine M.rg [0] ?_;refine M.oR rfl ?_;refine M.go ?_;refine M.rg [0,1,2,3,4] ?_;refine M.mv rfl ?_;refine M.nc rfl ?_;refine M.fa rfl ?_;refine aaT rfl (λw hc=>ze rfl rfl rfl hc) ?_;have M:=Mt.cl (P:=prog) (G:=⟨C.b,7,8,Gf,93⟩) (x:=.Nt);refine M.oR rfl ?_;refine M.go ?_;refine M.ret ?_;refine M.home ?_;unfold fy;rw[cf rfl];show Cl prog _ _ .Nt (gr 53 .qL 117 _ _ _ _);refine M.mv rfl ?_;refine M.bo rfl ?_;refine M.go ?_;refine M.C7 ?_;refine M.rg [0,1,2,3] ?_;refine M.mv rfl ?_;refine M.nc rfl ?_;refine M.fa rfl ?_;refine M.SQ (f:=121) rfl ?_;refine M.go ?_;refine M.rg [0,1,2,3,4] ?_;refine M.mv rfl ?_;refine M.nc rfl ?_;refine M.fa rfl ?_;refine M.mv rfl ?_;refine W0 rfl (λw hc hz=>Ph rfl rfl rfl rfl hc hz) ?_;have M:=Mt.cl (P:=prog) (G:=⟨C.b,7,8,Gf,93⟩) (x:=.Hk);refine M.go ?_;refine M.fin ?_;refine M.home ?_;unfold fy;rw[cf rfl];show Cl prog _ _ .Hk (gr 53 .qL 117 _ _ _ _);refine M.go ?_;refine M.rg [0] ?_;refine M.mv rfl ?_;refine M.go ?_;refine M.C7 ?_;refine M.lp ?_;refine M.go ?_;refine M.rg [0,1] ?_;refine M.mv rfl ?_;refine M.bo rfl ?_;refine M.go ?_;refine M.Lv ?_;refine M.rg [0,1,2,3] ?_;refine M.mv rfl ?_;refine M.nc rfl ?_;refine M.fa rfl ?_;refine W1 rfl (PA rfl) (λw hc hz=>Po rfl rfl rfl hc hz) ?_;have M:=Mt.quits (P:=prog) (d:=1);refine M.go ?_;refine M.rg [0,1,2] ?_;refine M.mv rfl ?_;refine M.bo rfl ?_;refine M.oR rfl ?_;refine M.go ?_;refine M.Wu ?_;refine M.go ?_;refine M.rg [0,1] ?_;refine M.mv rfl ?_;refine M.bo rfl ?_;refine M.go ?_;refine M.C7 ?_;refine M.fin ?_;refine BQ rfl (λw=>BP .enable (by intro g;simp) w) ?_;have M:=Mt.quits (P:=prog) (d:=0);refine M.home ?_;unfold fy;rw[cf rfl];show QuitsD prog _ 0 (gr 55 .pR 4 _ _ _ _);refine M.go ?_;refine M.fin ?_;refine M.Kc ?_;refine M.Kc ?_;exact BR
 ·intro v wt hv hw eV;have M:=Mt.quits (P:=prog) (d:=1);have o9:(v=0/\wt=0)\/(v=1/\wt=0)\/(v=1/\wt=1)\/(v=2/\wt=0)\/(v=2/\wt=1)\/(v=3/\wt=0)\/(v=3/\wt=1):=ai;rcases o9 with⟨rfl,rfl⟩|⟨rfl,rfl⟩|⟨rfl,rfl⟩|⟨rfl,rfl⟩|⟨rfl,rfl⟩|⟨rfl,rfl⟩|⟨rfl,rfl⟩
  all_goals
   refine M.oR rfl ?_;refine M.go ?_;refine M.ret ?_;refine M.home ?_;unfold fy;rw[cf rfl];show QuitsD prog _ 1 (gr 53 .qL 117 _ _ _ _);refine M.oR rfl ?_;refine M.go ?_;refine M.rg [0,1,2,3,4,5,6] ?_;refine M.mv rfl ?_;refine M.bo rfl ?_;refine M.bo rfl ?_;refine M.mv rfl ?_;refine M.no rfl ?_;refine M.no rfl ?_;refine M.pk rfl ?_;refine M.go ?_;refine M.C7 ?_;refine M.rg [0,1,2,3] ?_;refine M.mv rfl ?_;refine M.bo rfl ?_;refine M.cv rfl ?_;refine M.oR rfl ?_;refine M.go ?_;refine M.rg [0,1,2,3] ?_;refine M.mv rfl ?_;refine M.bo rfl ?_;refine M.cv rfl ?_;refine M.oR rfl ?_;refine M.go ?_;refine M.rg [0,1,2,3,4,5,6,7,8,9] ?_;refine M.mv rfl ?_;refine M.mv rfl ?_;refine M.bo rfl ?_;refine M.pk rfl ?_;refine M.mv rfl ?_;refine M.no rfl ?_;refine M.no rfl ?_;refine M.no rfl ?_;refine M.no rfl ?_;refine M.pk rfl ?_;refine M.go ?_;refine M.C7 ?_;refine M.rg [0,1] ?_;refine M.mv rfl ?_;refine M.bo rfl ?_;refine M.go ?_;refine M.C7 ?_;refine M.rg [0,1,2,3,4,5,6,7,8,9,10,11] ?_;refine M.mv rfl ?_;refine M.bo rfl ?_;refine M.mv rfl ?_
   first|refine M.no rfl ?_|refine M.mv rfl ?_
   first|refine M.no rfl ?_|refine M.bo rfl ?_
   refine M.pk rfl ?_;refine M.mv rfl ?_;refine M.no rfl ?_;refine M.no rfl ?_;refine M.no rfl ?_;refine M.no rfl ?_;refine M.pk rfl ?_;refine M.go ?_;refine M.C7 ?_;refine M.rg [0,1,2,3,4,5] ?_;refine M.mv rfl ?_;refine M.bo rfl ?_;refine M.mv rfl ?_
   first|refine M.no rfl ?_|refine M.mv rfl ?_
   first|refine M.no rfl ?_|refine M.bo rfl ?_
   refine M.pk rfl ?_;refine M.go ?_;refine M.Lv ?_;refine M.ret ?_;refine BQ rfl (λw=>BP .enable (by intro g;simp) w) ?_;have M:=Mt.quits (P:=prog) (d:=0);refine M.home ?_;unfold fy;rw[cf rfl];show QuitsD prog _ 0 (gr 55 .pR 4 _ _ _ _);refine M.go ?_;refine M.fin ?_;refine M.Kc ?_;refine M.Kc ?_;exact BR
def AK(P:bL)(G:qT)(Fin:aM->Prop)(x:MS)(_:Nat)(g:aM):Prop:=MW P G Fin x g
variable{R:Nat->aM->Array Obj->Prop}{B:kJ}{As:List HP}{b:Nat}{Gf:Array Value}{fr:Frame}{cs:List Frame}
theorem DN{w:World}{o:Nat}(hsz:Gf.size=9)(ho:o<9)(h:Gs ⟨b,7,8,Gf,93⟩ w):∃ v,w.cell? ⟨b,o,none⟩=some v:=by obtain⟨c,h1,h2⟩:=h;exact⟨c[o]'(by simp only at h2;omega),by simp only[World.cell?,h1];simp⟩
theorem Ms(C:ab prog true B R)(hsz:Gf.size=9)(ak:At R 0 As (fy fr cs (.tuple #[]))):∀ (c:Nat),c<=4->∀ e:Nat->Value,e 0=.pointer (some ⟨b,7,none⟩)->
  MW prog ⟨b,7,8,Gf,93⟩ (λa=>At R 0 As a) (.head c) (gr 36 .qL 84 e [] (.code (cB (cB (cR ((f36.body).getD .skip)))):: .inLoop (cB (cB (cR ((f36.body).getD .skip))))::[.inBlock 0]) (fr::cs)):=by
 intro c
 induction c using Nat.strongRecOn with
 |ind c ih=>
  intro hc e h0;have M:∀ {x:MS},Mt prog true (Gs ⟨b,7,8,Gf,93⟩) (AK prog ⟨b,7,8,Gf,93⟩ (λa=>At R 0 As a) x):=Mt.mw;rw[<- j5 (e:=e) (l:=[(0,.pointer (some ⟨b,7,none⟩))]) ⟨h0,trivial⟩];show AK _ _ _ _ 900 _;refine M.go ?_;refine M.rg [0,1,2,3,4] ?_;refine M.mv rfl ?_;refine M.nc rfl ?_;refine M.fa rfl ?_;refine M.SQ (f:=73) rfl ?_;refine M.go ?_;refine M.rg [0] ?_;refine M.oR rfl ?_;refine M.go ?_;refine M.rg [0,1,2,3,4] ?_;refine M.mv rfl ?_;refine M.nc rfl ?_;refine M.fa rfl ?_;refine SZ rfl ?_ ?_
  ·show AK _ _ _ _ 900 _;refine M.oR rfl ?_;refine M.go ?_;refine M.ret ?_;refine M.home ?_;unfold fy;rw[cf rfl];show AK _ _ _ _ 900 (gr 36 .qL 84 _ _ _ _);refine M.oR rfl ?_;refine M.go ?_;refine M.rg [0,1,2,3] ?_;refine M.mv rfl ?_;refine M.bo rfl ?_;refine M.cv rfl ?_;refine M.oR rfl ?_;refine M.go ?_;refine M.rg [0,1,2,3] ?_;refine M.mv rfl ?_;refine M.bo rfl ?_;refine M.cv rfl ?_;refine M.oR rfl ?_;refine M.go ?_;refine M.rg [0,1] ?_;refine M.mv rfl ?_;refine M.bo rfl ?_;refine M.go ?_;refine M.Lv ?_;refine M.Lv ?_;refine M.rg [0] ?_;refine PB rfl ?_;show AK _ _ _ _ 900 _;refine M.go ?_;refine M.rg [0,1,2] ?_;refine M.mv rfl ?_;refine M.SP (ad:=⟨b,7,none⟩) (λw h=>DN hsz (by decide) h) rfl ?_;refine PC rfl ?_;refine dK ?_;refine C.v0 (v:=.bool true) rfl ?_ rfl;refine bH ?_;refine C.v0 (v:=.int .u64 0) rfl ?_ rfl;refine C.v0 (v:=.bool false) rfl ?_ rfl;refine gU ?_;exact C.OW trivial ak rfl rfl
  ·intro v h1 h2;have o9:v=1\/v=2\/v=3\/v=4:=ai;have ih':=ih (v-1) ai ai;rcases o9 with rfl|rfl|rfl|rfl
   all_goals
    show AK _ _ _ _ 900 _;refine M.oR rfl ?_;refine M.go ?_;refine M.ret ?_;refine M.home ?_;unfold fy;rw[cf rfl];show AK _ _ _ _ 900 (gr 36 .qL 84 _ _ _ _);refine M.oR rfl ?_;refine M.go ?_;refine M.rg [0,1,2,3] ?_;refine M.mv rfl ?_;refine M.bo rfl ?_;refine M.cv rfl ?_;refine M.oR rfl ?_;refine M.go ?_;refine M.rg [0,1,2,3] ?_;refine M.mv rfl ?_;refine M.bo rfl ?_;refine M.cv rfl ?_;refine M.oR rfl ?_;refine M.go ?_;refine M.rg [0,1] ?_;refine M.mv rfl ?_;refine M.bo rfl ?_;refine M.go ?_;refine M.C7 ?_;refine M.rg [0,1,2,3,4,5,6] ?_;refine M.mv rfl ?_;refine M.nc rfl ?_;refine M.fa rfl ?_;refine M.mv rfl ?_;refine M.mv rfl ?_;refine M.bo rfl ?_;refine M.SQ (f:=77) rfl ?_;show AK _ _ _ _ 900 _;refine M.go ?_;refine M.rg [0] ?_;refine M.oR rfl ?_;refine M.go ?_;refine M.rg [0,1,2,3,4,5,6] ?_;refine M.mv rfl ?_;refine M.nc rfl ?_;refine M.fa rfl ?_;refine M.mv rfl ?_;refine M.mv rfl ?_;refine W4 rfl ?_ ?_
    ·show AK _ _ _ _ 900 _;refine M.oR rfl ?_;refine M.go ?_;refine M.ret ?_;refine M.home ?_;unfold fy;rw[cf rfl];show AK _ _ _ _ 900 (gr 36 .qL 84 _ _ _ _);refine M.go ?_;refine M.Lv ?_;refine M.rg [0,1,2,3] ?_;refine M.mv rfl ?_;refine M.mv rfl ?_;refine M.bo rfl ?_;refine M.pk rfl ?_;refine M.go ?_;refine M.Lv ?_;refine M.rg [0,1,2,3,4] ?_;refine M.mv rfl ?_;refine M.nc rfl ?_;refine M.fa rfl ?_;refine M.SP (ad:=⟨b,8,none⟩) (λw h=>DN hsz (by decide) h) rfl ?_;refine S0 rfl ?_;show AK _ _ _ _ 900 _;refine M.go ?_;refine M.rg [0] ?_;refine M.oR rfl ?_;refine M.go ?_;refine M.rg [0,1,2,3,4,5] ?_;refine M.mv rfl ?_;refine M.bo rfl ?_;refine M.bo rfl ?_;refine M.mv rfl ?_;refine M.no rfl ?_;refine M.pk rfl ?_;refine M.go ?_;refine M.C7 ?_;refine M.rg [0,1,2,3,4] ?_;refine M.mv rfl ?_;refine M.nc rfl ?_;refine M.fa rfl ?_;refine M.mv rfl ?_;refine W5 rfl ?_;show AK _ _ _ _ 900 _;refine M.go ?_;refine M.rg [0,1,2,3,4,5] ?_;refine M.mv rfl ?_;refine M.nc rfl ?_;refine M.fa rfl ?_;refine M.SQ (f:=73) rfl ?_;refine M.go ?_;refine M.rg [0] ?_;refine M.oR rfl ?_;refine M.go ?_;refine M.rg [0,1,2,3,4] ?_;refine M.mv rfl ?_;refine M.nc rfl ?_;refine M.fa rfl ?_;refine S3 rfl ?_;show AK _ _ _ _ 900 _;refine M.oR rfl ?_;refine M.go ?_;refine M.ret ?_;refine M.home ?_;unfold fy;rw[cf rfl];show AK _ _ _ _ 900 (gr 36 .qL 84 _ _ _ _);refine M.bo rfl ?_;refine M.oR rfl ?_;refine M.go ?_;refine M.Lv ?_;refine M.rg [0] ?_;refine PB rfl ?_;show AK _ _ _ _ 900 _;refine M.go ?_;refine M.rg [0,1,2] ?_;refine M.mv rfl ?_;refine M.SP (ad:=⟨b,7,none⟩) (λw h=>DN hsz (by decide) h) rfl ?_;refine PC rfl ?_;refine eP ?_;exact C.OW trivial ak rfl rfl
    ·show AK _ _ _ _ 900 _;refine M.oR rfl ?_;refine M.go ?_;refine M.ret ?_;refine M.home ?_;unfold fy;rw[cf rfl];show AK _ _ _ _ 900 (gr 36 .qL 84 _ _ _ _);refine M.go ?_;refine M.C7 ?_;refine M.Wu ?_;exact ih' _ rfl
theorem TL(C:ab prog true B R)(hsz:Gf.size=9)(ak:At R 0 As (fy fr cs (.tuple #[]))){c:Nat}(hc:c<=4):
  MW prog ⟨b,7,8,Gf,93⟩ (λa=>At R 0 As a) (.yb c) (gr 36 .qL 84 (yT #[.pointer (some ⟨b,7,none⟩)]) [] [.code ((f36.body).getD .skip)] (fr::cs)):=by
 have M:∀ {x:MS},Mt prog true (Gs ⟨b,7,8,Gf,93⟩) (AK prog ⟨b,7,8,Gf,93⟩ (λa=>At R 0 As a) x):=Mt.mw;show AK _ _ _ _ 900 _;refine M.go ?_;refine M.Lv ?_;refine M.rg [0] ?_;refine W3 rfl ?_;show AK _ _ _ _ 900 _;refine M.go ?_;refine M.lp ?_;exact Ms C hsz ak c hc _ rfl
variable{σ:Gh}{m:Int}{ah aK aF dn:Value}{aj:Bool}{k:Nat}
theorem Mu(hk:k<=3):aI prog true (bI.bw σ) 119 #[.pointer (some ⟨b,7,none⟩),.int .u64 4294967296] [oW b m ah aK aF dn aj ((k:Int)*KQ)] (λv As=>v=.int .u64 (((k+1:Nat):Int)*KQ)/\As=[oW b m ah aK aF dn aj (((k+1:Nat):Int)*KQ)]):=by
 have hw:IntKind.u64.wrap ((k:Int)*KQ+4294967296)=((k+1:Nat):Int)*KQ:=by
  have:(2^IntKind.u64.bits:Int)=18446744073709551616:=by decide
  simp only[IntKind.wrap,KQ,this];rw[ax (by simp[IntKind.signed])];omega
 refine aI.of λR C kd d F c cs aT ak=>?_;refine Vu ?_;refine C.aaG (z':=((k+1:Nat):Int)*KQ) rfl ?_ (hz:=hw);refine bH ?_;exact C.cm aT ak ⟨rfl,rfl⟩
theorem Qv(hk:k<=3):aI prog true (bI.bw σ) 53 #[.pointer (some ⟨b,7,none⟩),aD 1] [oW b m ah aK aF dn aj ((k:Int)*KQ)] (λv As=>v=.tuple #[]/\As=[oW b m ah aK aF dn aj (((k+1:Nat):Int)*KQ)]):=by
 refine aI.of λR C kd d F c cs aT ak=>?_;refine Ca ?_;refine C.v0 rfl ?_ rfl;refine dK ?_;refine C.SO rfl ?_;refine bH ?_;refine C.df rfl ?_;refine eP ?_;refine C.x0 (f:=80) (v:=.bool false) rfl rfl ?_;refine gU ?_;refine C.cv rfl ?_ (hr:=rfl);refine C.v0 rfl ?_ rfl;refine C.cE (Mu hk) ?_;refine cr ?_;have o9:k=0\/k=1\/k=2\/k=3:=ai;rcases o9 with rfl|rfl|rfl|rfl
 ·refine dX ?_;refine C.v0 rfl ?_ rfl;refine C.v0 rfl ?_ rfl;refine nT ?_;refine C.v0 rfl ?_ rfl;refine C.cv rfl ?_ (hr:=rfl);refine dX ?_;refine C.v0 rfl ?_ rfl;refine C.cv rfl ?_ (hr:=rfl);refine eP ?_;refine C.v0 rfl ?_ rfl;refine dX ?_;refine C.cv rfl ?_ (hr:=rfl);refine C.v0 rfl ?_ rfl;refine gU ?_;refine C.SP (b:=b) (off:=8) rfl ?_;refine C.xMk (mk:=.read) (a:=⟨b,8,none⟩) rfl ?_ (hm:=λH s=>⟨_,_,Has.get Has.au s⟩);refine dK ?_;refine C.v0 rfl ?_ rfl;refine dX ?_;refine C.v0 rfl ?_ rfl;refine kj ?_;refine fG ?_;refine C.v0 rfl ?_ rfl;refine gu ?_;refine C.Fc ?_;refine C.aaU ?_;exact C.home (fu:=f53) func53 aT rfl (ak _ _ ⟨rfl,rfl⟩)
 all_goals
  refine dX ?_;refine C.v0 rfl ?_ rfl;refine C.v0 rfl ?_ rfl;refine nT ?_;refine C.v0 rfl ?_ rfl;refine C.cv rfl ?_ (hr:=rfl);refine dX ?_;refine C.v0 rfl ?_ rfl;refine C.cv rfl ?_ (hr:=rfl);refine eP ?_;refine C.v0 rfl ?_ rfl;refine dX ?_;refine C.cv rfl ?_ (hr:=rfl);refine C.v0 rfl ?_ rfl;refine eP ?_;refine C.v0 rfl ?_ rfl;refine dX ?_;refine C.v0 rfl ?_ rfl;refine kj ?_;refine fG ?_;refine C.v0 rfl ?_ rfl;refine gu ?_;refine C.Fc ?_;refine C.aaU ?_;exact C.home (fu:=f53) func53 aT rfl (ak _ _ ⟨rfl,rfl⟩)
end
section
open Go.Proofs Go.Conc
structure HV where
 h:HG
 s:di
 kw:Nat
 kr:Nat
structure CV where
 G:CG
 ah:List HV
 aK:List dM
 aF:List uC
 aj:Bool
abbrev tv(v:HV)(F:List HP):List HP:=da v.h.bh (.cells #[ay v.h.bs,.chan (some v.h.wk),.chan (some v.h.rd)] 130 (0,0))::da v.h.wk (.chan 0 #[] false v.kw v.kw false)::da v.h.rd (.chan 0 #[] false v.kr v.kr false)::da v.h.hb (.cells #[ay v.h.bh] 124 (0,0))::dk v.h.bs v.s::F
def iQ(v:HV):HP:=all (tv v [])
def CV.st(c:CV):Int:=if c.aj then 0 else(c.ah.length:Int)*KQ
abbrev ZD(c:CV)(m st:Int)(hs bg tx:az)(F:List HP):List HP:=oW c.G.b m hs.v bg.v tx.v (.chan (some c.G.dn)) c.aj st::bG jg 1 124 hs (c.ah.map (·.h.bh))::bG dt 7 159 bg c.aK::bG Cj 3 95 tx c.aF::
 all (c.ah.map iQ)::da c.G.dn (.chan 0 #[] c.aj 0 0 false)::da c.G.cb (.cells #[ay c.G.b] 31 (0,0))::F
def rQ(m:Int)(c:CV):HP:=λh=>∃ hs bg tx:az,all (ZD c m c.st hs bg tx []) h
abbrev cY(c:CV):HP:=rQ 0 c
section
variable{R:Nat->aM->Array Obj->Prop}{d:Nat}{As F L:List HP}{g:aM}{c:CV}
theorem cY.opn{m z:Int}(hf:Fo (rQ m c) As L:=by exact Fo.au)(h:∀ hs bg tx:az,At R d (ZD c m z hs bg tx L) g)(hz:c.st=z:=by rfl):At R d As g:=by subst hz;refine At.fo hf λH st=>?_;obtain⟨hs,st⟩:=st.ex;obtain⟨bg,st⟩:=st.ex;obtain⟨tx,st⟩:=st.ex;exact h hs bg tx H st.flat
theorem cY.cls{m:Int}{cc:Array Value}(c:CV)(h:At R d (rQ m c::F) g)(hf:Fo (da c.G.b (.cells cc 93 (0,0))) As L:=by exact Fo.au){hs bg tx:az}(hc:cc=TK m hs.v bg.v tx.v (.chan (some c.G.dn)) c.aj c.st:=by rfl)
  (hr:fg [bG jg 1 124 hs (c.ah.map (·.h.bh)),bG dt 7 159 bg c.aK,bG Cj 3 95 tx c.aF,all (c.ah.map iQ),da c.G.dn (.chan 0 #[] c.aj 0 0 false),da c.G.cb (.cells #[ay c.G.b] 31 (0,0))] L F:=by exact fg.au):At R d As g:=by
 subst hc;refine At.perm (hf.perm.trans (hr.perm.cons _)) λH st=>h H ?_;exact Sat.imp (λhh x=>⟨hs,bg,tx,x⟩) (Sat.iC (l:=ZD c m c.st hs bg tx []) st)
end
theorem iQ.cls{R:Nat->aM->Array Obj->Prop}{d:Nat}{As F:List HP}{g:aM}(v:HV)(h:At R d (iQ v::F) g)
  (hr:fg (tv v []) As F:=by exact fg.au):At R d As g:=
 At.perm hr.perm λH st=>h H (Sat.iC (l:=tv v []) st)
structure RegC(σ:Gh)(c:CV):Prop where
 aQ:∀ v∈c.ah,σ.aQ v.h.g=some (eL v.h c.G)
 nd:(c.ah.map (·.h.g)).Nodup
 only:∀ i s,σ.aQ i=some s->s.has c.G.dn->∃ v∈c.ah,v.h.g=i
 wk:∀ v∈c.ah,∀ i s,σ.aQ i=some s->s.has v.h.wk->i=v.h.g
 wd:∀ v∈c.ah,v.h.wk≠c.G.dn
 sh7:σ.sh (.cell ⟨c.G.b,7,none⟩)
 sh8:σ.sh (.cell ⟨c.G.b,8,none⟩)
 n:1<=c.ah.length/\c.ah.length<=4
section
variable{σ:Gh}{b:Nat}{m:Int}{ah aK aF dn:Value}{aj:Bool}
theorem IB:aI prog true (bI.bw σ) 36 #[.pointer (some ⟨b,7,none⟩)] [oW b m ah aK aF dn aj 0] (λv As=>v=.tuple #[]/\As=[oW b m ah aK aF dn aj 0]):=by
 refine aI.of λR C kd d F c cs aT ak=>?_;refine cr ?_;have hl:aI prog true (bI.bw σ) 73 #[.pointer (some ⟨b,7,none⟩)] [oW b m ah aK aF dn aj 0] (λv As=>v=.int .u64 0/\As=[oW b m ah aK aF dn aj 0]):=by refine aI.of λR C kd d F c cs aT ak=>?_;refine Ky ?_;refine C.xLd (b:=b) (off:=7) (z:=0) rfl ?_;refine bH ?_;exact C.cm aT ak ⟨rfl,rfl⟩
 refine dK ?_;refine C.SO rfl ?_;refine C.go ?_;refine C.lp ?_;refine eP ?_;refine C.cE hl ?_;refine Ca ?_;refine C.v0 rfl ?_ rfl;refine C.cv rfl ?_ (hr:=rfl);refine dX ?_;refine C.v0 rfl ?_ rfl;refine C.cv rfl ?_ (hr:=rfl);refine dX ?_;refine C.v0 rfl ?_ rfl;refine dX ?_;refine C.WL rfl ?_;refine dK ?_;refine C.SP (b:=b) (off:=7) rfl ?_;refine C.xMk (mk:=.acquire) (a:=⟨b,7,none⟩) rfl ?_ (hm:=λH s=>⟨_,_,Has.get Has.au s⟩);refine dK ?_;refine C.v0 rfl ?_ rfl;refine bH ?_;refine C.v0 rfl ?_ rfl;refine C.v0 rfl ?_ rfl;refine gU ?_;exact C.cm aT ak ⟨rfl,rfl⟩
end
end
section
open Go.Proofs Go.Conc
def CV.ids(c:CV):List Nat:=c.ah.map (·.h.g)
theorem Mv{σ:Gh}{c:CV}(hr:c.aj=false->RegC σ c):bA prog bI 15 #[ay c.G.b] σ [cY c] (λv σ' As=>v=.tuple #[]/\σ'=(if c.aj then σ else σ.gX c.ids)/\As=[cY {c with aj:=true}]):=by
 refine bA.of ?_;intro Post os out kd F c' cs C aT ak;refine cr ?_;obtain⟨G,ah,aK,aF,aj⟩:=c;cases aj with
 |true=>
  refine cY.opn (z:=0) (h:=λhs bg tx=>?_);refine eP ?_;refine C.cE fE ?_;refine tV ?_;refine C.df rfl ?_;refine kj ?_;refine C.cE IB ?_;refine sB ?_;refine C.fnA ?_;refine aE.pR (aI.g dE) ?_;rintro v σ' aP ⟨rfl,rfl,rfl⟩;refine cr ?_;refine C.home (fu:=f15) func15 aT rfl ?_;refine cY.cls ⟨G,ah,aK,aF,true⟩ ?_;exact ak _ _ _ ⟨rfl,rfl,rfl⟩
 |false=>
  obtain⟨r1,r2,r3,r4,r5,r6,r7,r8⟩:=hr rfl;refine cY.opn (z:=(ah.length:Int)*KQ) (h:=λhs bg tx=>?_);refine eP ?_;refine C.cE fE ?_;refine tV ?_;refine C.df rfl ?_;refine kj ?_;refine gU ?_;have sR:(⟨G.b,7,8,TK 1 hs.v bg.v tx.v (.chan (some G.dn)) true ((ah.length:Int)*KQ),93⟩:qT).row (mH 0 0) (s6 0)=TK 1 hs.v bg.v tx.v (.chan (some G.dn)) true 0:=rfl;have C2:ab prog true (bI.bw (σ.gX (ah.map (·.h.g)))) (aE prog Post bI (σ.gX (ah.map (·.h.g))) 0 os out):=aE.ew;refine aE.shut (ah.map (·.h.g)) ⟨G.b,7,8,TK 1 hs.v bg.v tx.v (.chan (some G.dn)) true ((ah.length:Int)*KQ),93⟩ G.dn 0 (λa=>At (aE prog Post bI (σ.gX (ah.map (·.h.g))) 0 os out) 0 (oW G.b 1 hs.v bg.v tx.v (.chan (some G.dn)) true 0::bG jg 1 124 hs (ah.map (·.h.bh))::bG dt 7 159 bg aK::bG Cj 3 95 tx aF::
 all (ah.map iQ)::da G.dn (.chan 0 #[] true 0 0 false)::da G.cb (.cells #[ay G.b] 31 (0,0))::F) a) rfl rfl rfl (by rw[func15];rfl) r2 (by simpa using r8.2) ?_ ?_ ⟨(show(7:Nat)≠8 by decide),by simp,by simp⟩ (by simp[mH]) rfl r6 r7 (aP:=oW G.b 1 hs.v bg.v tx.v (.chan (some G.dn)) true ((ah.length:Int)*KQ)::bG jg 1 124 hs (ah.map (·.h.bh))::bG dt 7 159 bg aK::bG Cj 3 95 tx aF::
 all (ah.map iQ)::da G.dn (.chan 0 #[] true 0 0 false)::da G.cb (.cells #[ay G.b] 31 (0,0))::F) ?_ ?_ ?_ (λa h=>h)
  ·intro i hi;obtain⟨v,hv,rfl⟩:=bM.1 hi;exact⟨_,v.h.wk,.nilFunc,.agg #[],r1 v hv,rfl,r5 v hv,9000,λr hr=>leave ⟨rfl,rfl,rfl,rfl,rfl⟩ hr⟩
  ·intro i s hi nO;obtain⟨v,hv,rfl⟩:=r3 i s hi nO;exact bM.2 ⟨v,hv,rfl⟩
  ·repeat(first|with_reducible exact rj.head|with_reducible apply rj.tail)
  ·rw[sR];exact rj.head
  ·have M:∀ {Fin:aM->Prop} {x:MS},Mt prog true (Gs ⟨G.b,7,8,TK 1 hs.v bg.v tx.v (.chan (some G.dn)) true ((ah.length:Int)*KQ),93⟩) (AK prog ⟨G.b,7,8,TK 1 hs.v bg.v tx.v (.chan (some G.dn)) true ((ah.length:Int)*KQ),93⟩ Fin x):=Mt.mw;show AK _ _ _ _ 900 _;refine M.go ?_;refine M.rg [0,1,2,3] ?_;refine M.mv rfl ?_;refine M.nc rfl ?_;refine M.fa rfl ?_;refine M.SQ (f:=36) rfl ?_;refine TL C2 rfl ?_ (by simpa using r8.2);unfold fy;rw[cf rfl];show At _ _ _ (gr 15 kd 25 _ _ _ _);refine C2.go ?_;refine C2.fnA ?_;refine aE.pR (aI.g dE) ?_;rintro v σ' aP ⟨rfl,rfl,rfl⟩;refine cr ?_;refine C2.home (fu:=f15) func15 aT rfl ?_;refine cY.cls ⟨G,ah,aK,aF,true⟩ ?_;exact ak _ _ _ ⟨rfl,rfl,rfl⟩
def js(l:List HV)(k:Int):Option HV:=if k<0 then none else l[k.toNat]?
def Cs(l:List HV)(k:Int):Option Addr:=(js l k).map λv=>⟨v.h.bs,0,none⟩
theorem ov{l:List HV}{k:Int}{v:HV}(h:js l k=some v):∃ q:Nat,k=q/\∃ hq:q<l.length,l[q]=v:=by
 unfold js at h;split at h
 ·cases h
 ·obtain⟨hq,e⟩:=dG.1 h;exact⟨k.toNat,ai,hq,e⟩
theorem pM{l:List HV}{q:Nat}(hq:q<l.length):js l (q:Int)=some l[q]:=by unfold js;rw[ax ai,gv,cK hq]
variable{R:Nat->aM->Array Obj->Prop}{d:Nat}{As F L:List HP}{g:aM}{l:List HV}{q:Nat}
theorem lA(hi:q<l.length)(hf:Fo (all (l.map iQ)) As L)(h:At R d (tv l[q] (all ((l.eraseIdx q).map iQ)::L)) g):At R d As g:=
 Dc (f:=iQ) hi hf λH s=>h H (Sat.flat (l:=tv l[q] []) s)
theorem KR(hi:q<l.length)(v:HV)(hr:fg (tv v [all ((l.eraseIdx q).map iQ)]) As L)(h:At R d (all ((l.set q v).map iQ)::L) g):At R d As g:=
 At.perm hr.perm λH s=>(Pa (f:=iQ) hi v (.cons .head (.cons .head .nil)) h) H (Sat.iC (l:=tv v []) s)
theorem gq(hi:q<l.length)(hr:fg (tv l[q] [all ((l.eraseIdx q).map iQ)]) As L)(h:At R d (all (l.map iQ)::L) g):At R d As g:=KR hi l[q] hr (by rw[Bp];exact h)
variable{σ:Gh}{b:Nat}{m k:Int}{hs:az}{aK aF dn:Value}{aj:Bool}{st:Int}
theorem mC(hl:l.length<=4):aI prog true (bI.bw σ) 66 #[ay b,aD k] [oW b m hs.v aK aF dn aj st,bG jg 1 124 hs (l.map (·.h.bh)),all (l.map iQ)]
  (λv As=>v=.pointer (Cs l k)/\As=[oW b m hs.v aK aF dn aj st,bG jg 1 124 hs (l.map (·.h.bh)),all (l.map iQ)]):=by
 refine aI.of λR C kd d F c cs aT ak=>?_;refine cr ?_;have NN:(l.map (·.h.bh)).length=l.length:=dW ..;refine gu ?_;refine C.cmp rfl (λh6=>?_) (λh6=>?_)
 ·refine kj ?_;refine fG ?_;exact C.cm aT ak ⟨by unfold Cs js;rw[aG ai],rfl⟩
 ·refine gu ?_;refine C.pS rfl ?_ (s:=hs) (l:=l.map (·.h.bh)) (f:=jg);refine C.cmp rfl (λvz=>?_) (λvz=>?_)
  ·refine gu ?_;exact C.cm aT ak ⟨by unfold Cs js;rw[ax ai,wR ai],rfl⟩
  ·refine dK ?_;obtain⟨q,rfl⟩:=lK (show 0<=k by omega);have hq:q<l.length:=ai;have NO:(l.map (·.h.bh))[q]'(by omega)=l[q].h.bh:=by simp
   refine lA hq Fo.au ?_;refine gU ?_;refine C.dd rfl ?_ (s:=hs) (l:=l.map (·.h.bh)) (f:=jg) (j:=q) (v:=ay l[q].h.bh) (hj:=by omega) (hv:=by rw[NO];rfl);refine eP ?_;refine gq hq fg.au ?_;exact C.cm aT ak ⟨by unfold Cs;rw[pM hq],rfl⟩
variable{ao:Bool}
theorem Ad{V:Type}{k:Int}{v:V}:∀ {l:List (Int×V)},(bB l k v).length=if(aB l k).isSome then l.length else l.length+1
 |[]=>rfl
 |p::l=>by
  unfold bB aB;by_cases h:p.1=k
  ·simp[h]
  ·simp only[ax h,jC,Ad (l:=l)];split<;>rfl
structure MK(m:List (Int×Int))(l:List bP):Prop where
 len:m.length<=l.length
 iff:m.length=l.length↔(l.map (·.k)).Nodup
 key:∀ q,(aB m q).isSome=true↔q∈l.map (·.k)
 vb:∀ q v,aB m q=some v->0<=v/\v<=l.length
theorem MK.zero:MK [] []:=⟨e8 _,by simp,by simp[aB],by simp[aB]⟩
theorem MK.add{m:List (Int×Int)}{l:List bP}(h:MK m l)(o:bP):MK (bB m o.k ((aB m o.k).getD 0+1)) (l++[o]):=by
 have h1:=h.len;have h3:=h.key o.k;refine⟨?_,?_,λq=>?_,λq v hv=>?_⟩
 ·rw[Ad,gO,gJ];split<;>omega
 ·rw[Ad,gO,gJ,eI,il];by_cases e:(aB m o.k).isSome=true
  ·rw[aG e];constructor
   ·intro h;omega
   ·rintro⟨_,_,h⟩;exact absurd rfl (h o.k (h3.1 e) o.k (by simp))
  ·rw[ax e];have h4:o.k∉l.map (·.k):=λz=>e (h3.2 z);constructor
   ·intro hl;refine⟨h.iff.1 ai,by simp,λa ha b hb z=>?_⟩;simp at hb;subst hb;subst z;exact h4 ha
   ·rintro⟨hn,_⟩;have:=h.iff.2 hn;omega
 ·rw[fK,eI,bS,gW,l6,dL];by_cases e:q=o.k
  ·simp[e]
  ·rw[ax e];constructor
   ·intro z;exact .inl ((h.key q).1 z)
   ·rintro(z|z)
    ·exact(h.key q).2 z
    ·exact absurd z e
 ·rw[fK]at hv;rw[gO,gJ];by_cases e:q=o.k
  ·rw[aG e]at hv;obtain rfl:=bR hv;cases hg:aB m o.k with
   |none=>simp only[N4];omega
   |some w=>
    have:=h.vb _ _ hg;simp only[iA];omega
  ·rw[ax e]at hv;have:=h.vb q v hv;omega
theorem Gg{I:HL}{so:az}{ops:List bP}(ho:fI I cS 37 so ops)(hl:ops.length<2^43):
  aI prog ao cH 59 #[so.v] [bD I] (λv As=>v=.bool (decide (gf ops))/\As=[bD I]):=by
 refine aI.of λR C kd d F c cs aT ak=>?_;refine tV ?_;refine C.mm .u8 dV rfl (λb6=>?_);refine gU ?_;refine C.cu (X:=Nat×List (Int×Int)) (λx=>[(0,so.v),(3,.map (some b6)),(7,so.v),(8,aD ops.length),(9,aD x.1)]) (λx=>db .u8 dV b6 x.2::bD I::F) (λx=>x.1<=ops.length/\(∀ j (hj:j<ops.length),j<x.1->HF ops[j])/\MK x.2 (ops.take x.1)) (λx=>ops.length-x.1) (0,[]) ⟨rfl,rfl,rfl,rfl,rfl,trivial⟩ ⟨eW _,by intro j _ hj;omega,MK.zero⟩ ?_;rintro⟨i,m⟩ e ⟨hi,mG,hm⟩ ih;dsimp only at hi mG hm⊢;refine bH ?_;refine C.cmp rfl (λXv=>?_) (λXv=>?_)
 ·refine bH ?_;have ee:i<ops.length:=by simpa using Xv
  have hv:0<=(aB m ops[i].k).getD 0/\(aB m ops[i].k).getD 0<=(2:Int)^43:=by
   cases hg:aB m ops[i].k with
   |none=>simp
   |some w=>
    have:=hm.vb _ _ hg;rw[jS]at this;simp only[iA];have:((min i ops.length:Nat):Int)<=2^43:=ai;omega
  refine bH ?_;refine C.xR rfl (λhj=>?_);refine C.al rfl (λb5=>?_);refine C.tL rfl ?_ (hv:=λv h=>iD.one (f:=cS) ops[i] v (by simpa using h));refine eP ?_;have e16:((aB m ops[i].k).map dV).getD (aD 0)=aD ((aB m ops[i].k).getD 0):=by cases aB m ops[i].k<;>rfl
  refine C.Zo (co:=false) (g:=dV) (l:=m) (q:=ops[i].k) rfl ?_;simp only[gn,eR];rw[e16];refine fG ?_;refine C.mu rfl ?_;refine dX ?_;refine C.cmp rfl (λCm=>?_) (λCm=>?_)
  ·refine kj ?_;refine gU ?_;refine C.cm aT ak ⟨?_,rfl⟩;rw[qx (λh=>by have:=(h.1 _ (dp ee)).1;omega)]
  ·refine dK ?_;refine C.cmp rfl (λlJ=>?_) (λlJ=>?_)
   ·refine kj ?_;refine dK ?_;refine C.cm aT ak ⟨?_,rfl⟩;rw[qx (λh=>by have:=(h.1 _ (dp ee)).2.1;omega)]
   ·refine dX ?_;generalize hw:ops[i].w=z;rcases nj z with rfl|rfl
    ·refine kj ?_;have XR:HF ops[i]:=⟨ai,ai,.inl hw⟩;refine again ih (i+1,bB m ops[i].k ((aB m ops[i].k).getD 0+1)) ⟨ee,λj hj du=>?_,by dsimp only;rw[iM ee];exact hm.add _⟩ (dq);rcases Jv.1 du with h|rfl
     ·exact mG j hj h
     ·exact XR
    ·refine dX ?_;refine C.cmp rfl (λVC=>?_) (λVC=>?_)
     ·refine gU ?_;refine C.cm aT ak ⟨?_,rfl⟩;rw[qx (λh=>by
       rcases(h.1 _ (dp ee)).2.2 with h|h
       ·rw[hw]at h;cases h
       ·omega)]
     ·refine nT ?_;have XR:HF ops[i]:=⟨ai,ai,.inr ai⟩;refine again ih (i+1,bB m ops[i].k ((aB m ops[i].k).getD 0+1)) ⟨ee,λj hj du=>?_,by dsimp only;rw[iM ee];exact hm.add _⟩ (dq);rcases Jv.1 du with h|rfl
      ·exact mG j hj h
      ·exact XR
 ·refine bH ?_;have Qo:i=ops.length:=by have:¬ i<ops.length:=(by simpa using Xv);omega
  have hm':MK m ops:=by have:=hm;rw[Qo,JI]at this;exact this
  have kC:∀ o∈ops,HF o:=λo ho=>by obtain⟨j,hj,rfl⟩:=mN ho;exact mG j hj ai
  have abM:=hm'.iff;refine dK ?_;refine C.cmp rfl (λQd=>?_) (λQd=>?_)
  ·refine dK ?_;refine C.cmp rfl (λh43=>?_) (λh43=>?_)
   ·refine gu ?_;refine C.cmp rfl (λh50=>?_) (λh50=>?_)
    ·refine dK ?_;refine C.cm aT ak ⟨?_,rfl⟩;rw[uJ (show gf ops from⟨kC,abM.1 ai,ai,ai⟩)]
    ·refine dK ?_;refine C.cm aT ak ⟨?_,rfl⟩;rw[qx (λh=>by have:=abM.2 h.2.1;omega)]
   ·refine tU ?_;refine C.cm aT ak ⟨?_,rfl⟩;rw[qx (λh=>by have:=h.2.2.2;omega)]
  ·refine kj ?_;refine fG ?_;refine C.cm aT ak ⟨?_,rfl⟩;rw[qx (λh=>by have:=h.2.2.1;omega)]
def Ae(n:Nat)(t:uC)(tx:Int):dM:=⟨{bK with kind:=1,bq:= -1,to:=gk t.ops n,tx:=tx,ops:=t.ops},t.so,aR⟩
theorem Mw(ops:List bP)(n:Int)(h:0<ops.length):atR ops[0].k n=gk ops n:=by
 cases ops with
 |nil=>cases h
 |cons o l=>rfl
variable{bg xY:az}{I:HL}{hl:List Nat}{aK:List dM}{aF:List uC}{tx:Nat}
theorem xw(hn:1<=hl.length/\hl.length<=4)(nU:aK.length<2^30)(m9:tx<aF.length)(uA:fI I cS 37 aF[tx].so aF[tx].ops)(cN:mA aF[tx].ops/\1<=aF[tx].ops.length):
  aI prog true (bI.bw σ) 61 #[.pointer (some ⟨b,0,none⟩),aD tx] [oW b m hs.v bg.v xY.v dn aj st,bG jg 1 124 hs hl,bG dt 7 159 bg aK,bG Cj 3 95 xY aF,bD I]
   (λv As=>∃ KS:az,v=.tuple #[]/\As=[oW b m hs.v KS.v xY.v dn aj st,bG jg 1 124 hs hl,bG dt 7 159 KS (aK++[Ae hl.length aF[tx] tx]),bG Cj 3 95 xY aF,bD I]):=by
 refine aI.of λR C kd d F c cs aT ak=>?_;refine cr ?_;have Xp:0<aF[tx].ops.length:=cN.2;have Fu:=cN.1.1 _ (dp Xp);have abN:atR aF[tx].ops[0].k (hl.length:Int)=gk aF[tx].ops hl.length:=Mw _ _ Xp;refine lI ?_;refine fG ?_;refine C.A4 (cW 13 0 22) 23 [14,17,18,19,22] 3 ?_ (W:=[oW b m hs.v bg.v xY.v dn aj st,bG jg 1 124 hs hl,bD I]);refine mX ?_;refine Em ?_;refine Dr.chain rfl ?_ (λ_ s=>cV.sat cV.au s);refine Ch.m 14 (aY λe aa hk=>?_);refine C.cE (aI.less (dN σ) (wG (key:=aF[tx].ops[0].k) (n:=(hl.length:Int)) ai ai)) ?_;refine qY ?_;rw[abN];refine hk _ _ pU ?_;refine Ch.q 17 (λh=>C.bd rfl h) ?_;refine Ch.m 18 (aY λe aa hk=>?_);refine C.AV rfl (λb31=>hk _ _ .cons ?_);refine Ch.m 19 (aY λe aa hk=>?_);refine C.BI (Ae hl.length aF[tx] tx) rfl (λs2=>?_);refine hk _ _ pU ?_;refine Ch.m 22 (aY λe aa hk=>?_);refine C.st rfl (hk _ undef ?_);refine fP ?_;exact C.eJ aT ak ⟨s2,rfl,rfl⟩
end
section
open Go.Proofs
def Mx(k:Nat):Nat:=[0,1,2,3,6,7,8,9,4].getD k 0
abbrev ji(a:Nat×Nat):Value:=.iface 338 (.pointer (some ⟨a.1,a.2,none⟩))
structure ir(I:HL)(eb:Nat->Nat×Nat):Prop where
 g:∀ k,k<9->∃ t,I (Mx k)=some (.cells #[ji (eb k)] t (0,0))
 e:∀ k,k<9->∃ c t,I (eb k).1=some (.cells c t (0,0))
 inj:∀ j k,j<9->k<9->eb j=eb k->j=k
 ty:∃ t,I 5=some (.cells #[.iface 271 (.agg #[typeHandle prog 64])] t (0,0))
theorem ir.mono{I I':HL}{eb:Nat->Nat×Nat}(h:ir I eb)(hs:Sub I I'):ir I' eb:=
 ⟨λk hk=>by obtain⟨t,ht⟩:=h.g k hk;exact⟨t,hs _ _ ht⟩,λk hk=>by obtain⟨c,t,ht⟩:=h.e k hk;exact⟨c,t,hs _ _ ht⟩,h.inj,by obtain⟨t,ht⟩:=h.ty;exact⟨t,hs _ _ ht⟩⟩
theorem afp(t:aO):XO t 0=false:=by simp[XO]
def TM(eb:Nat->Nat×Nat):Option Nat->Value
 |none=>.nilIface
 |some k=>ji (eb k)
open Go.Conc
def IC(eb:Nat->Nat×Nat)(I:HL)(n:Nat)(ops:List bP)(aK:List dM)(aF:List uC)(er:Option Nat)(t:Int)(I':HL)(iu:List dM)(iv:List uC):Prop:=
 Sub I I'/\((¬ gf ops/\er=some 1/\t=0/\iu=aK/\iv=aF)\/(gf ops/\(aF.length=60\/400<=aK.length)/\er=some 2/\t=0/\iu=aK/\iv=aF)\/
  (gf ops/\¬ (aF.length=60\/400<=aK.length)/\er=none/\t=aF.length/\∃ s7,fI I' cS 37 s7 ops/\iv=aF++[⟨⟨ops,1,[]⟩,s7,aR⟩]/\iu=aK++[Ae n ⟨⟨ops,1,[]⟩,s7,aR⟩ aF.length]))
theorem iJ(σ:Gh)(t:aO):(bI.bw σ).sh t 0=false:=afp t
variable{σ:Gh}{b bo bc bt:Nat}{so hs bg xY:az}{dn:Value}{st:Int}{I J:HL}{hl:List Nat}{aK:List dM}{aF:List uC}{eb:Nat->Nat×Nat}{ops:List bP}
theorem My(hE:ir I eb)(hn:1<=hl.length/\hl.length<=4)(nU:aK.length<2^20)(m9:aF.length<=60)(ho:fI J cS 37 so ops)(sO:ops.length<2^43):
  aI prog true (bI.bw σ) 58 #[ay bo,ay bc,ay bt] [da bo (.cells #[so.v] 38 (0,0)),da bc (.cells #[ay b] 31 (0,0)),da bt (.cells #[aD 0] 3 (0,0)),oW b 1 hs.v bg.v xY.v dn false st,bG jg 1 124 hs hl,bG dt 7 159 bg aK,bG Cj 3 95 xY aF,bD I,bD J]
   (λv As=>∃ (KS XS:az) (er:Option Nat) (t:Int) (I':HL) (iu:List dM) (iv:List uC),v=TM eb er/\IC eb I hl.length ops aK aF er t I' iu iv/\As=[da bt (.cells #[aD t] 3 (0,0)),oW b 1 hs.v KS.v XS.v dn false st,bG jg 1 124 hs hl,bG dt 7 159 KS iu,bG Cj 3 95 XS iv,bD I',bD J]):=by
 refine aI.of λR C kd d F c cs aT ak=>?_;refine cr ?_;obtain⟨t1,hg1⟩:=hE.g 1 (by decide);obtain⟨t2,JZ⟩:=hE.g 2 (by decide);refine gu ?_;refine C.cE (aI.less (dN σ) (Gg ho sO)) ?_;refine cr ?_;generalize hz:decide (gf ops)=z;rcases nj z with rfl|rfl
 ·refine dK ?_;have hr:gf ops:=by simpa using hz
  refine gu ?_;refine C.cmp rfl (λui=>?_) (λui=>?_)
  ·refine lI ?_;refine C.v9 Fo.au JZ (iJ _ _) rfl ?_;refine bH ?_;exact C.cm aT ak ⟨bg,xY,some 2,0,I,aK,aF,rfl,⟨Sub.refl _,.inr (.inl ⟨hr,.inl ai,rfl,rfl,rfl,rfl⟩)⟩,rfl⟩
  ·refine gu ?_;refine C.cmp rfl (λCm=>?_) (λCm=>?_)
   ·refine dX ?_;refine C.v9 Fo.au JZ (iJ _ _) rfl ?_;refine bH ?_;exact C.cm aT ak ⟨bg,xY,some 2,0,I,aK,aF,rfl,⟨Sub.refl _,.inr (.inl ⟨hr,.inr ai,rfl,rfl,rfl,rfl⟩)⟩,rfl⟩
   ·refine lI ?_;refine C.A4 (cW 28 0 12) 13 [6,7,8,9,12] 4 ?_ (W:=[oW b 1 hs.v bg.v xY.v dn false st,da bc (.cells #[ay b] 31 (0,0)),da bo (.cells #[so.v] 38 (0,0)),bD I,bD J]);refine Em ?_;refine Dr.chain rfl ?_ (λ_ s=>cV.sat cV.au s);refine Ch.m 6 (aY λe aa hk=>?_);refine C.fF (aI.less (dN σ) (uh ho sO)) ?_;rintro v aP ⟨s7,rfl,rfl⟩;refine cr ?_;refine hk _ _ pU ?_;refine Ch.m 7 (aY λe aa hk=>?_);refine fG ?_
    skip
    refine hk _ _ .refl ?_;refine Ch.m 8 (aY λe aa hk=>?_);refine C.AV rfl (λb36=>hk _ _ .cons ?_);refine Ch.m 9 (aY λe aa hk=>?_);refine C.BI (uC.mk ⟨ops,1,[]⟩ s7 aR) rfl (λs8=>?_);refine hk _ _ pU ?_;refine Ch.m 12 (aY λe aa hk=>?_);refine C.st rfl (hk _ undef ?_);refine fP ?_;refine At.O9 (I:=I) (s:=s7) (f:=cS) Fo.au Fo.au λI1 iK hs7=>?_;have abO:mA ops:=⟨λo ho=>⟨(hr.1 o ho).1,(hr.1 o ho).2.1⟩,by have:=hr.2.2.2;omega⟩;have uw:=xw (σ:=σ) (b:=b) (m:=1) (hs:=hs) (bg:=bg) (xY:=s8) (dn:=dn) (aj:=false) (st:=st) (I:=I1) (hl:=hl) (aK:=aK) (aF:=aF++[uC.mk ⟨ops,1,[]⟩ s7 aR]) (tx:=aF.length) hn ai (by simp) (by simp only[Of (e8 _),yF];exact hs7) (by simp only[Of (e8 _),yF];exact⟨abO,hr.2.2.1⟩);have afq:(aF++[uC.mk ⟨ops,1,[]⟩ s7 aR])[aF.length]'(by simp)=uC.mk ⟨ops,1,[]⟩ s7 aR:=by simp
    simp only[afq]at uw;refine dK ?_;refine C.fF uw ?_;rintro v aP ⟨KS,rfl,rfl⟩;refine Ca ?_;exact C.cm aT ak ⟨KS,s8,none,aF.length,I1,_,_,rfl,⟨iK,.inr (.inr ⟨hr,ai,rfl,rfl,s7,hs7,rfl,rfl⟩)⟩,rfl⟩
 ·refine dX ?_;refine C.v9 Fo.au hg1 (iJ _ _) rfl ?_;refine bH ?_;exact C.cm aT ak ⟨bg,xY,some 1,0,I,aK,aF,rfl,⟨Sub.refl _,.inl ⟨by simpa using hz,rfl,rfl,rfl,rfl⟩⟩,rfl⟩
def Qw(eb:Nat->Nat×Nat)(name:Value)(at_:Int):Option Nat->Value->List HP->Prop
 |none,v,L=>v=.nilIface/\L=[]
 |some k,v,L=>∃ bE,v=.iface 137 (ay bE)/\L=[da bE (.cells #[name,aD at_,ji (eb k)] 141 (0,0))]
theorem fg.app{F:List HP}:∀ A:List HP,fg A (A++F) F
 |[]=>.nil
 |a::A=>.cons .head (fg.app A)
theorem Ct{σ:Gh}{c:CV}{f:bJ}{fu:Func}{code:Code}{nf:Nat}[bd:Body prog f fu code nf]{caps:Array Value}{I:HL}{eb:Nat->Nat×Nat}{nm:ByteArray}{at_:Int}{A:List HP}{Q:Option Nat->Gh->CV->HL->List HP->Prop}(hE:ir I eb)
  (hf:c.aj=false->bA prog bI f (#[]++([]:List Value).toArray++caps) σ (rQ 1 c::bD I::A) (λv σ' As=>∃ er c' I' A',v=TM eb er/\(∀ k,er=some k->k<9)/\As=rQ 1 c'::bD I'::A'/\c'.G.b=c.G.b/\Q er σ' c' I' A')):
  bA prog bI 57 #[ay c.G.b,.string nm,aD at_,.func (.func f) #[] caps] σ (cY c::bD I::A)
   (λv σ' As=>∃ er c' I' A' L,Qw eb (.string nm) at_ er v L/\As=cY c'::bD I'::(L++A')/\((c.aj=true/\er=some 8/\σ'=σ/\c'=c/\I'=I/\A'=A)\/(c.aj=false/\Q er σ' c' I' A'))):=by
 refine bA.of ?_;intro Post os out kd F c' cs C aT ak;refine cr ?_;obtain⟨t8,hg8⟩:=hE.g 8 (by decide);obtain⟨G,ah,aK,aF,aj⟩:=c;refine cY.opn (h:=λhs bg tx=>?_);refine nT ?_;refine C.cE fE ?_;refine tV ?_;refine C.df rfl ?_;refine bH ?_;refine C.v9 (v:=ji (eb 8)) Fo.au hg8 (iJ _ _) rfl ?_;refine oT ?_;cases aj with
 |true=>
  refine dK ?_;refine C.Vj underlying64 rfl ?_;refine gU ?_;refine C.bx rfl (λbE=>?_);refine dK ?_;refine C.Fc ?_;refine aE.pR (aI.g dE) ?_;rintro v σ' aP ⟨rfl,rfl,rfl⟩;refine cr ?_;refine C.home (fu:=f57) func57 aT rfl ?_;refine cY.cls (m:=0) ⟨G,ah,aK,aF,true⟩ ?_;refine At.lP ?_ (ak _ _ _ ⟨some 8,⟨G,ah,aK,aF,true⟩,I,A,[da bE (.cells #[.string nm,aD at_,ji (eb 8)] 141 (0,0))],⟨bE,rfl,rfl⟩,rfl,.inl ⟨rfl,rfl,rfl,rfl,rfl,rfl⟩⟩);exact cV.au
 |false=>
  refine dK ?_;refine cY.cls (m:=1) ⟨G,ah,aK,aF,false⟩ ?_;refine aE.cl (hf rfl) ?_ (hr:=.cons .head (.cons .head (fg.app A)));rintro v σ' aP ⟨er,c2,I2,A2,rfl,hk,rfl,hb,hQ⟩;have C:ab prog true (bI.bw σ') (aE prog Post bI σ' 0 os out):=aE.ew;refine Ca ?_;refine cY.opn (m:=1) (c:=c2) (h:=λqU bg2 tx2=>?_);rw[<- hb];cases er with
  |none=>
   refine C.WW underlying64 rfl ?_;refine eP ?_;refine C.Fc ?_;refine aE.pR (aI.g dE) ?_;rintro v σ2 aP ⟨rfl,rfl,rfl⟩;refine cr ?_;refine C.home (fu:=f57) func57 aT rfl ?_;refine cY.cls (m:=0) c2 ?_;refine At.lP ?_ (ak _ _ _ ⟨none,c2,I2,A2,[],⟨rfl,rfl⟩,rfl,.inr ⟨rfl,hQ⟩⟩);exact cV.au
  |some k=>
   refine C.Vj underlying64 rfl ?_;refine gU ?_;refine C.bx rfl (λbE=>?_);refine dK ?_;refine C.Fc ?_;refine aE.pR (aI.g dE) ?_;rintro v σ2 aP ⟨rfl,rfl,rfl⟩;refine cr ?_;refine C.home (fu:=f57) func57 aT rfl ?_;refine cY.cls (m:=0) c2 ?_;refine At.lP ?_ (ak _ _ _ ⟨some k,c2,I2,A2,[da bE (.cells #[.string nm,aD at_,ji (eb k)] 141 (0,0))],⟨bE,rfl,rfl⟩,rfl,.inr ⟨rfl,hQ⟩⟩);exact cV.au
end
section
open Go.Proofs Go.Conc
structure ZE(I:HL)(t:uC):Prop where
 o:fI I cS 37 t.so t.ops
 r:fI I cX 21 t.sr t.reads
 z:t.reads.length<2^20
structure uD(I:HL)(c:CV):Prop where
 aK:∀ m∈c.aK,kG I m
 aF:∀ t∈c.aF,ZE I t
 sh:∀ v∈c.ah,ShJ I v.s
theorem ZE.mono{I I':HL}{t:uC}(hs:Sub I I')(h:ZE I t):ZE I' t:=⟨h.o.mono hs,h.r.mono hs,h.z⟩
theorem uD.mono{I I':HL}{c:CV}(hs:Sub I I')(h:uD I c):uD I' c:=⟨λm hm=>(h.aK m hm).mono hs,λt ht=>(h.aF t ht).mono hs,λv hv=>(h.sh v hv).mono hs⟩
theorem Qx{σ:Gh}{c:CV}{k:Int}(hn:c.ah.length<=4):bA prog bI 29 #[ay c.G.b,aD k] σ [cY c] (λv σ' As=>σ'=σ/\v=.bool (((js c.ah k).map (·.s.up)).getD false)/\As=[cY c]):=by
 refine bA.of ?_;intro Post os out kd F c' cs C aT ak;refine cr ?_;obtain⟨G,ah,aK,aF,aj⟩:=c;refine cY.opn (h:=λhs bg tx=>?_);cases Af:js ah k with
 |none=>
  have ID:Cs ah k=none:=by unfold Cs;rw[Af];rfl
  refine nT ?_;refine C.cE fE ?_;refine tV ?_;refine C.df rfl ?_;refine dX ?_;refine C.cE (mC (l:=ah) hn) ?_;refine cr ?_;rw[ID];refine kj ?_;refine C.Fc ?_;refine aE.pR (aI.g dE) ?_;rintro v σ' aP ⟨rfl,rfl,rfl⟩;refine cr ?_;refine C.home (fu:=f29) func29 aT rfl ?_;refine cY.cls (m:=0) ⟨G,ah,aK,aF,aj⟩ ?_;exact ak _ _ _ ⟨rfl,by rw[Af];rfl,rfl⟩
 |some v0=>
  obtain⟨q,rfl,hq,rfl⟩:=ov Af;have ID:Cs ah (q:Int)=some ⟨ah[q].h.bs,0,none⟩:=by unfold Cs;rw[Af];rfl
  refine nT ?_;refine C.cE fE ?_;refine tV ?_;refine C.df rfl ?_;refine dX ?_;refine C.cE (mC (l:=ah) hn) ?_;refine cr ?_;rw[ID];refine oT ?_;refine lA hq Fo.au ?_;refine dk.opn (s:=ah[q].s) (h:=λlg wt ot tm bv bl bp bd be bu tl ht=>?_);refine fG ?_;refine dk.cls ah[q].s ?_;refine gq hq fg.au ?_;refine dK ?_;refine C.Fc ?_;refine aE.pR (aI.g dE) ?_;rintro v σ' aP ⟨rfl,rfl,rfl⟩;refine cr ?_;refine C.home (fu:=f29) func29 aT rfl ?_;refine cY.cls (m:=0) ⟨G,ah,aK,aF,aj⟩ ?_;exact ak _ _ _ ⟨rfl,by rw[Af];rfl,rfl⟩
theorem DO{σ:Gh}{c:CV}{k:Int}(hn:c.ah.length<=4):bA prog bI 35 #[ay c.G.b,aD k] σ [cY c] (λv σ' As=>σ'=σ/\∃ b' l',v=.map (some b')/\(match js c.ah k with|none=>l'=[]|some v=>l'.Perm (v.s.values.filter λp=>p.2 != 0))/\As=[db .u8 fC b' l',cY c]):=by
 refine bA.of ?_;intro Post os out kd F c' cs C aT ak;refine cr ?_;obtain⟨G,ah,aK,aF,aj⟩:=c;refine cY.opn (h:=λhs bg tx=>?_);cases Af:js ah k with
 |none=>
  have ID:Cs ah k=none:=by unfold Cs;rw[Af];rfl
  refine nT ?_;refine C.cE fE ?_;refine tV ?_;refine C.df rfl ?_;refine dX ?_;refine C.cE (mC (l:=ah) hn) ?_;refine cr ?_;rw[ID];refine nT ?_;refine C.mm .u8 fC rfl (λb20=>?_);refine bH ?_;refine C.Fc ?_;refine aE.pR (aI.g dE) ?_;rintro v σ' aP ⟨rfl,rfl,rfl⟩;refine cr ?_;refine C.home (fu:=f35) func35 aT rfl ?_;refine cY.cls (m:=0) ⟨G,ah,aK,aF,aj⟩ ?_;refine At.lP ?_ (ak _ _ _ ⟨rfl,b20,[],rfl,by rw[Af],rfl⟩);exact cV.au
 |some v0=>
  obtain⟨q,rfl,hq,rfl⟩:=ov Af;have ID:Cs ah (q:Int)=some ⟨ah[q].h.bs,0,none⟩:=by unfold Cs;rw[Af];rfl
  refine nT ?_;refine C.cE fE ?_;refine tV ?_;refine C.df rfl ?_;refine dX ?_;refine C.cE (mC (l:=ah) hn) ?_;refine cr ?_;rw[ID];refine oT ?_;refine lA hq Fo.au ?_;refine C.fF (aI.less (dN _) (DJ (s:=ah[q].s))) ?_;rintro v aP ⟨b',l',rfl,wV,rfl⟩;refine cr ?_;refine gq hq fg.au ?_;refine bH ?_;refine C.Fc ?_;refine aE.pR (aI.g dE) ?_;rintro v σ' aP ⟨rfl,rfl,rfl⟩;refine cr ?_;refine C.home (fu:=f35) func35 aT rfl ?_;refine cY.cls (m:=0) ⟨G,ah,aK,aF,aj⟩ ?_;refine At.lP ?_ (ak _ _ _ ⟨rfl,b',l',rfl,by rw[Af];exact wV,rfl⟩);exact cV.au
theorem Gi{σ:Gh}{c:CV}{k:Int}(hn:c.ah.length<=4):bA prog bI 68 #[ay c.G.b,aD k] σ [cY c] (λv σ' As=>σ'=σ/\∃ b' l',v=.map (some b')/\(match js c.ah k with|none=>l'=[]|some v=>l'.Perm v.s.aX)/\As=[db .u8 dV b' l',cY c]):=by
 refine bA.of ?_;intro Post os out kd F c' cs C aT ak;refine cr ?_;obtain⟨G,ah,aK,aF,aj⟩:=c;refine cY.opn (h:=λhs bg tx=>?_);cases Af:js ah k with
 |none=>
  have ID:Cs ah k=none:=by unfold Cs;rw[Af];rfl
  refine nT ?_;refine C.cE fE ?_;refine tV ?_;refine C.df rfl ?_;refine dX ?_;refine C.cE (mC (l:=ah) hn) ?_;refine cr ?_;rw[ID];refine nT ?_;refine C.mm .u8 dV rfl (λb20=>?_);refine bH ?_;refine C.Fc ?_;refine aE.pR (aI.g dE) ?_;rintro v σ' aP ⟨rfl,rfl,rfl⟩;refine cr ?_;refine C.home (fu:=f68) func68 aT rfl ?_;refine cY.cls (m:=0) ⟨G,ah,aK,aF,aj⟩ ?_;refine At.lP ?_ (ak _ _ _ ⟨rfl,b20,[],rfl,by rw[Af],rfl⟩);exact cV.au
 |some v0=>
  obtain⟨q,rfl,hq,rfl⟩:=ov Af;have ID:Cs ah (q:Int)=some ⟨ah[q].h.bs,0,none⟩:=by unfold Cs;rw[Af];rfl
  refine nT ?_;refine C.cE fE ?_;refine tV ?_;refine C.df rfl ?_;refine dX ?_;refine C.cE (mC (l:=ah) hn) ?_;refine cr ?_;rw[ID];refine oT ?_;refine lA hq Fo.au ?_;refine C.fF (aI.less (dN _) (Gd (s:=ah[q].s))) ?_;rintro v aP ⟨b',l',rfl,wV,rfl⟩;refine cr ?_;refine gq hq fg.au ?_;refine bH ?_;refine C.Fc ?_;refine aE.pR (aI.g dE) ?_;rintro v σ' aP ⟨rfl,rfl,rfl⟩;refine cr ?_;refine C.home (fu:=f68) func68 aT rfl ?_;refine cY.cls (m:=0) ⟨G,ah,aK,aF,aj⟩ ?_;refine At.lP ?_ (ak _ _ _ ⟨rfl,b',l',rfl,by rw[Af];exact wV,rfl⟩);exact cV.au
theorem Bb{σ:Gh}{c:CV}{k:Int}{I:HL}(hn:c.ah.length<=4)(hJ:uD I c)(jL:∀ v∈c.ah,v.s.log.length<2^30):bA prog bI 46 #[ay c.G.b,aD k] σ [cY c,bD I] (λv σ' As=>σ'=σ/\∃ (sl:az) (rs:List tZ) (aH:Int),v=.tuple #[sl.v,aD aH]/\(match js c.ah k with|none=>rs=[]/\aH=0|some v=>rs.map (·.toRecR)=v.s.log.map (·.abs.aV)/\aH=v.s.aH)/\As=[bG recC 6 109 sl rs,all (rs.map sX),cY c,bD I]):=by
 refine bA.of ?_;intro Post os out kd F c' cs C aT ak;refine cr ?_;obtain⟨G,ah,aK,aF,aj⟩:=c;refine cY.opn (h:=λhs bg tx=>?_);cases Af:js ah k with
 |none=>
  have ID:Cs ah k=none:=by unfold Cs;rw[Af];rfl
  refine oT ?_;refine C.cE fE ?_;refine tV ?_;refine C.df rfl ?_;refine dX ?_;refine C.cE (mC (l:=ah) hn) ?_;refine cr ?_;rw[ID];refine lI ?_;refine C.Fc ?_;refine aE.pR (aI.g dE) ?_;rintro v σ' aP ⟨rfl,rfl,rfl⟩;refine cr ?_;refine C.home (fu:=f46) func46 aT rfl ?_;refine At.aR recC 6 109 (At.E0 (show At (aE prog Post bI _ 0 os out) 0 (all (([]:List tZ).map sX)::_) _ from ?_));refine cY.cls (m:=0) ⟨G,ah,aK,aF,aj⟩ ?_;refine At.lP ?_ (ak _ _ _ ⟨rfl,aR,[],0,rfl,by rw[Af];exact⟨rfl,rfl⟩,rfl⟩);exact cV.au
 |some v0=>
  obtain⟨q,rfl,hq,rfl⟩:=ov Af;have ID:Cs ah (q:Int)=some ⟨ah[q].h.bs,0,none⟩:=by unfold Cs;rw[Af];rfl
  refine oT ?_;refine C.cE fE ?_;refine tV ?_;refine C.df rfl ?_;refine dX ?_;refine C.cE (mC (l:=ah) hn) ?_;refine cr ?_;rw[ID];refine oT ?_;refine lA hq Fo.au ?_;refine C.fF (aI.less (dN _) (Ba (hJ.sh _ (dp hq)) (jL _ (dp hq)))) ?_;rintro v aP ⟨sl,rs,rfl,vQ,rfl⟩;refine cr ?_;refine gq hq fg.au ?_;refine eP ?_;refine C.Fc ?_;refine aE.pR (aI.g dE) ?_;rintro v σ' aP ⟨rfl,rfl,rfl⟩;refine cr ?_;refine C.home (fu:=f46) func46 aT rfl ?_;refine cY.cls (m:=0) ⟨G,ah,aK,aF,aj⟩ ?_;refine At.lP ?_ (ak _ _ _ ⟨rfl,sl,rs,ah[q].s.aH,rfl,by rw[Af];exact⟨vQ,rfl⟩,rfl⟩);exact cV.au
def Gj(l:List uC)(k:Int):Option uC:=if k<0 then none else l[k.toNat]?
theorem vI{σ:Gh}{c:CV}{k:Int}{I:HL}(hJ:uD I c)(hl:c.aF.length<=60):bA prog bI 13 #[ay c.G.b,aD k] σ [cY c,bD I]
  (λv σ' As=>σ'=σ/\∃ (sl:az) (n:Int) (rd:List Int),v=.tuple #[aD n,sl.v]/\(match Gj c.aF k with|none=>n=0/\rd=[]|some t=>n=t.state/\rd=t.reads)/\As=[bG cX 1 21 sl rd,cY c,bD I]):=by
 refine bA.of ?_;intro Post os out kd F c' cs C aT ak;refine cr ?_;obtain⟨G,ah,aK,aF,aj⟩:=c;refine cY.opn (h:=λhs bg tx=>?_);dsimp only at hl;refine oT ?_;refine C.cE fE ?_;refine tV ?_;refine C.df rfl ?_;refine dK ?_;refine C.cmp rfl (λvz=>?_) (λvz=>?_)
 ·refine kj ?_;refine bH ?_;refine C.Fc ?_;refine aE.pR (aI.g dE) ?_;rintro v σ' aP ⟨rfl,rfl,rfl⟩;refine cr ?_;refine C.home (fu:=f13) func13 aT rfl ?_;refine At.aR cX 1 21 ?_;refine cY.cls (m:=0) ⟨G,ah,aK,aF,aj⟩ ?_;refine At.lP ?_ (ak _ _ _ ⟨rfl,aR,0,[],rfl,by unfold Gj;rw[aG vz];exact⟨rfl,rfl⟩,rfl⟩);exact cV.au
 ·refine gu ?_;refine C.pS rfl ?_ (s:=tx) (l:=aF) (f:=Cj);refine C.cmp rfl (λMa=>?_) (λMa=>?_)
  ·refine gU ?_;refine C.Fc ?_;refine aE.pR (aI.g dE) ?_;rintro v σ' aP ⟨rfl,rfl,rfl⟩;refine cr ?_;refine C.home (fu:=f13) func13 aT rfl ?_;refine At.aR cX 1 21 ?_;refine cY.cls (m:=0) ⟨G,ah,aK,aF,aj⟩ ?_;refine At.lP ?_ (ak _ _ _ ⟨rfl,aR,0,[],rfl,by unfold Gj;rw[ax vz,wR (show aF.length<=k.toNat by omega)];exact⟨rfl,rfl⟩,rfl⟩);exact cV.au
  ·refine dK ?_;obtain⟨q,rfl⟩:=lK (show 0<=k by omega);have hq:q<aF.length:=ai;have uA:fI I cX 21 aF[q].sr aF[q].reads:=(hJ.aF _ (dp hq)).r;have htz:aF[q].reads.length<2^20:=(hJ.aF _ (dp hq)).z;refine C.A4 (cW 24 0 17++[(4,17),(5,18)]) 19 [16,18] 2 ?_ (W:=[oW G.b 1 hs.v bg.v tx.v (.chan (some G.dn)) aj (CV.st ⟨G,ah,aK,aF,aj⟩),bG Cj 3 95 tx aF]);refine mX ?_;refine nH ?_;refine Dr.chain rfl ?_ (λ_ s=>cV.sat cV.au s);refine Ch.m 16 (aY λe aa hk=>?_);refine C.fF (aI.less (dN _) (qm uA (Nat.lt_trans htz (by decide)))) ?_;rintro v aP ⟨s',rfl,rfl⟩;refine cr ?_;refine hk _ _ pU ?_;refine Ch.q 18 (λh=>C.oR rfl h) ?_;refine fP ?_;refine C.Fc ?_;refine aE.pR (aI.g dE) ?_;rintro v σ' aP ⟨rfl,rfl,rfl⟩;refine cr ?_;refine C.home (fu:=f13) func13 aT rfl ?_;refine cY.cls (m:=0) ⟨G,ah,aK,aF,aj⟩ ?_;refine At.lP ?_ (ak _ _ _ ⟨rfl,s',aF[q].state,aF[q].reads,rfl,by unfold Gj;rw[ax vz,gv,cK hq];exact⟨rfl,rfl⟩,rfl⟩);exact cV.au
theorem Gk{ao:Bool}{lg:az}{l:List dM}(hl:l.length<2^40):aI prog ao cH 67 #[lg.v] [bG dt 7 159 lg l] (λv As=>∃ s':az,v=s'.v/\As=[bG dt 7 159 s' l,bG dt 7 159 lg l]):=by
 refine aI.of λR C kd d F c cs aT ak=>?_;refine cr ?_;refine At.aaX (s:=lg) (l:=l) (f:=dt) Fo.au ?_ ?_
 ·rintro rfl rfl;refine gu ?_;refine C.Vk rfl ?_ (a:=none) (len:=0) (cap:=0);refine eP ?_;refine At.aR dt 7 159 ?_;exact C.cm aT ak ⟨aR,rfl,rfl⟩
 ·intro h1 h2;have hv:lg.v=.slice (some ⟨lg.b,0,none⟩) lg.len lg.cap:=by unfold az.v;rw[h1]
  refine gu ?_;refine C.Vk rfl ?_ (a:=some ⟨lg.b,0,none⟩) (len:=lg.len) (cap:=lg.cap) (hx:=hv);refine dK ?_;refine C.bs0 dt rfl (λb5=>?_);refine fG ?_;refine C.Vd (l:=[]) l rfl (λs'=>?_) (hsrc:=λH st=>?_) (s:=⟨some ⟨b5,0,none⟩,0,0⟩)
  ·refine bH ?_;exact C.cm aT ak ⟨s',rfl,rfl⟩
  ·exact dZ.src (dZ.own (s:=lg) Fo.au) st (λj=>rfl)
abbrev Gm(m:dM):HP:=all [bG cS 3 37 m.so m.ops,bG cX 1 21 m.sr m.reads]
variable{R:Nat->aM->Array Obj->Prop}{d:Nat}{As F L:List HP}{g:aM}{ms:List dM}
theorem TN(m:dM)(hr:fg [bG cS 3 37 m.so m.ops,bG cX 1 21 m.sr m.reads,all (ms.map Gm)] As L)(h:At R d (all ((ms++[m]).map Gm)::L) g):At R d As g:=
 At.perm hr.perm λH s=>(yj (f:=Gm) m (.cons .head (.cons .head .nil)) h) H (Sat.iC (l:=[bG cS 3 37 m.so m.ops,bG cX 1 21 m.sr m.reads]) s)
theorem Mz{σ:Gh}{c:CV}{I:HL}(hJ:uD I c)(hO:∀ m∈c.aK,m.ops.length<2^20)(hl:c.aK.length<2^30):bA prog bI 30 #[ay c.G.b] σ [cY c,bD I]
  (λv σ' As=>σ'=σ/\∃ (sl:az) (ms:List dM),v=sl.v/\ms.map (·.toMsgR)=c.aK.map (·.toMsgR)/\As=[bG dt 7 159 sl ms,all (ms.map Gm),cY c,bD I]):=by
 refine bA.of ?_;intro Post os out kd F c' cs C aT ak;refine cr ?_;obtain⟨G,ah,aK,aF,aj⟩:=c;have hJb:∀ m∈aK,kG I m:=hJ.aK;refine cY.opn (h:=λhs bg tx=>?_);dsimp only at hl hO;refine nT ?_;refine C.cE fE ?_;refine tV ?_;refine C.df rfl ?_;refine gu ?_;refine C.fF (aI.less (dN _) (Gk (lg:=bg) (l:=aK) ai)) ?_;rintro v aP ⟨s3,rfl,rfl⟩;refine cr ?_;refine cY.cls (m:=1) ⟨G,ah,aK,aF,aj⟩ ?_;refine dX ?_;refine C.pS rfl ?_ (s:=s3) (l:=aK) (f:=dt);refine bH ?_;refine At.E0 (show At (aE prog Post bI σ 0 os out) 0 (all (([]:List dM).map Gm)::_) _ from ?_);refine C.cu (X:=Nat×List dM) (λx=>[(0,ay G.b),(3,s3.v),(18,s3.v),(19,aD aK.length),(20,aD x.1)]) (λx=>bG dt 7 159 s3 (x.2++aK.drop x.1)::all (x.2.map Gm)::rQ 1 ⟨G,ah,aK,aF,aj⟩::bD I::F) (λx=>x.1<=aK.length/\x.2.map (·.toMsgR)=(aK.take x.1).map (·.toMsgR)) (λx=>aK.length-x.1) (0,[]) ⟨rfl,rfl,rfl,rfl,rfl,trivial⟩ ⟨eW _,rfl⟩ ?_ (hI:=by rw[ez,NS];exact cV.au);rintro⟨i,ms⟩ e ⟨hi,VF⟩ ih;dsimp only at hi VF⊢;have Wy:ms.length=i:=by have:=congrArg List.length VF;rw[dW,dW,jS]at this;omega
 refine bH ?_;refine C.cmp rfl (λh21=>?_) (λh21=>?_)
 ·refine bH ?_;have ee:i<aK.length:=by simpa using h21
  have hlen:i<(ms++aK.drop i).length:=by simp;omega
  have jm:(ms++aK.drop i)[i]'hlen=aK[i]:=by rw[Of ai];simp[Wy]
  have Vr:=(hJb _ (dp ee)).o;have hmr:=(hJb _ (dp ee)).r;have hmz:=(hJb _ (dp ee)).z;have hoz:=hO _ (dp ee);refine dK ?_;refine C.xR rfl (λhj=>?_) (s:=s3) (l:=ms++aK.drop i) (j:=i) (hj:=hlen);rw[jm];simp only[dt];refine C.al rfl (λb5=>?_);refine dK ?_;refine C.A4 (cW 25 0 12++[(37,13),(38,14)]) 16 [6,9,10,11,12,13,14,15] 4 ?_ (W:=[nM b5 (aK[i]'ee),bD I]);refine Em ?_;refine Dr.chain rfl ?_ (λ_ s=>cV.sat cV.au s);refine Ch.m 6 (aY λe aa hk=>?_);refine C.fF (aI.less (dN _) (uh Vr (Nat.lt_trans hoz (by decide)))) ?_;rintro v aP ⟨VG,rfl,rfl⟩;refine cr ?_;refine hk _ _ pU ?_;refine Ch.m 9 (aY λe aa hk=>?_);refine C.fF (aI.less (dN _) (qm hmr (Nat.lt_trans hmz (by decide)))) ?_;rintro v aP ⟨s34,rfl,rfl⟩;refine cr ?_;refine hk _ _ pU ?_;refine Ch.m 10 (aY λe aa hk=>?_);refine C.dQ rfl (hk _ _ .refl ?_);refine Ch.q 11 (λh=>C.fa rfl h) ?_;refine Ch.m 12 (aY λe aa hk=>?_);refine C.Ve (s:=s3) (l:=ms++aK.drop i) (j:=i) (o:=5) ({(aK[i]'ee)with so:=VG}:dM) rfl ?_ (hj:=hlen) (ha:=by rw[jm];rfl);refine hk _ undef pU ?_;refine Ch.m 13 (aY λe aa hk=>?_);refine C.dQ rfl (hk _ _ ?_) (hj:=by rw[eg];exact hlen);refine Ch.q 14 (λh=>C.fa rfl h) ?_;refine Ch.m 15 (aY λe aa hk=>?_);refine C.Ve (s:=s3) (l:=(ms++aK.drop i).set i {(aK[i]'ee)with so:=VG}) (j:=i) (o:=6) ({(aK[i]'ee)with so:=VG,sr:=s34}:dM) rfl (hk _ undef ?_) (hj:=by rw[eg];exact hlen) (ha:=by rw[JE];rfl);refine zI ?_;refine TN (ms:=ms) ({(aK[i]'ee)with so:=VG,sr:=s34}:dM) fg.au ?_;refine again ih (i+1,ms++[({(aK[i]'ee)with so:=VG,sr:=s34}:dM)]) ⟨ee,?_⟩ (dq) (hr:=?_)
  ·rw[iM ee,eI,eI,VF];rfl
  ·have e1:((ms++aK.drop i).set i ({(aK[i]'ee)with so:=VG}:dM)).set i ({(aK[i]'ee)with so:=VG,sr:=s34}:dM)=(ms++[({(aK[i]'ee)with so:=VG,sr:=s34}:dM)])++aK.drop (i+1):=by rw[List.set_set,V7 _ _ ai,Wy,yF,o3 ee,sK,sN];rfl
   rw[e1];exact cV.au
 ·refine gu ?_;have Qi:aK.drop i=[]:=ni (by simp at h21;omega);have Gn:aK.take i=aK:=jD (by simp at h21;omega);rw[Qi,l7];rw[Gn]at VF;refine C.Fc ?_;refine cY.opn (m:=1) (c:=⟨G,ah,aK,aF,aj⟩) (h:=λhs bg tx=>?_);refine aE.pR (aI.g dE) ?_;rintro v σ' aP ⟨rfl,rfl,rfl⟩;refine cr ?_;refine C.home (fu:=f30) func30 aT rfl ?_;refine cY.cls (m:=0) ⟨G,ah,aK,aF,aj⟩ ?_;refine At.lP ?_ (ak _ _ _ ⟨rfl,s3,ms,rfl,VF,rfl⟩);exact cV.au
variable{ao:Bool}
variable{P:bL}{B:kJ}{W:List HP}
variable{fn:bJ}{kd:Kd}{n:Nat}{e:Nat->Value}{ds:List eo}{k:List Item}{cs:List Frame}
variable{ops:Array Oper}{i:Nat}{aa:List Nat}{t:Nat}{ty:aO}{pos:String}{af:Array Edge}{gd:Option (Nat×Bool)}{x:cZ}{v:Value}{b off:Nat}{c:Array Value}{el tt:aO}
theorem Ext.MA{I:HL}{o:Obj}(h:Ext As W)(hf:Fo (bD I) W L)(hI:I b=some o):Kn As b o:=λ_ st=>((h _ st).perm hf.perm).rh hI
theorem ab.ldK(C:ab P ao B R){fr:Nat×Nat}[Ag P tt false](hk:Kn As b (.cells c el fr))(hs:b<B.bot)(hc:c[off]? =some v)(ho:aZ ops i=some ⟨some t,.load tt x,ty,pos,af,gd⟩)(h:At R d As (gr fn kd n (put e t v) ds (.inRegion ops aa::k) cs))
  (hx:ev n e x=.pointer (some ⟨b,off,none⟩):=by rfl) (hw:aL ops n e gd=true:=by rfl):At R d As (gr fn kd n e ds (.inRegion ops (i::aa)::k) cs):=
 C.gen ho hw λH st=>by unfold execOp;simp only[hx,Instr.loadAt,Instr.sureAddr];exact ae (ae (aA (C8 (hk _ st) hc hs ⟨As,st,h⟩)))
def Ah{α:Type}(I:HL)(bot:Nat)(f:α->List Value)(z:Nat)(v:Value)(l:List α):Prop:=
 ∃ (a:Option Addr) (cap:Nat),v=.slice a l.length cap/\(l=[]\/∃ b off c ty fr,a=some ⟨b,off,none⟩/\I b=some (.cells c ty fr)/\b<bot/\∀ j (hj:j<l.length) o,o<z->c[off+j*z+o]? =(f l[j])[o]?)
theorem Ah.mono{α:Type}{I I':HL}{bot:Nat}{f:α->List Value}{z:Nat}{v:Value}{l:List α}(h:Ah I bot f z v l)(hs:Sub I I'):Ah I' bot f z v l:=by
 obtain⟨a,cap,h1,h2⟩:=h;refine⟨a,cap,h1,?_⟩;rcases h2 with h2|⟨b,off,c,ty,fr,h3,h4,h5⟩
 ·exact .inl h2
 ·exact .inr ⟨b,off,c,ty,fr,h3,hs _ _ h4,h5⟩
def OpZ(o:bP):Prop:=(-9223372036854775808<=o.k/\o.k<=9223372036854775807)/\(-9223372036854775808<=o.v/\o.v<=9223372036854775807)
def rR(o:bP):bP:=⟨o.w,IntKind.u8.wrap o.k,IntKind.i32.wrap o.v⟩
theorem IE(p:Int):0<=IntKind.u8.wrap p/\IntKind.u8.wrap p<=255:=by rw[IntKind.wrap_u8];omega
theorem DQ(p:Int): -2147483648<=IntKind.i32.wrap p/\IntKind.i32.wrap p<=2147483647:=by rw[IntKind.wrap_i32];omega
def Cu(a b:Int):Int:=(if a<0 then 0-(a+1)else a).tmod b
theorem MB{a b:Int}(hb:0<b):0<=Cu a b/\Cu a b<b:=by unfold Cu;refine⟨Int.tmod_nonneg _ ?_,Int.tmod_lt_of_pos _ hb⟩;split<;>omega
theorem MC{a b:Int}(ha: -9223372036854775808<=a/\a<=9223372036854775807)(hb:0<b):aI prog ao cH 37 #[aD a,aD b] [] (λv As=>v=aD (Cu a b)/\As=[]):=by
 refine aI.of λR C kd d F c cs aT ak=>?_;refine qY ?_;refine gu ?_;refine C.cmp rfl (λh6=>?_) (λh6=>?_)
 ·refine dX ?_;refine C.ar (p:=a) (q:=1) (r:=a+1) rfl ?_;refine C.ngI rfl ?_ (p:=a+1) (r:=0-(a+1)) (hr:=uy ai ai);refine eP ?_;refine C.rem rfl ?_;refine bH ?_;exact C.cm aT ak ⟨by unfold Cu;rw[aG h6],rfl⟩
 ·refine eP ?_;refine C.rem rfl ?_;refine bH ?_;exact C.cm aT ak ⟨by unfold Cu;rw[ax h6],rfl⟩
theorem MD{σ:Gh}{I:HL}{v:Value}{ops:List bP}(hi:Ah I σ.bot sW 3 v ops)(hz:∀ o∈ops,OpZ o)(hl:ops.length*24<=140737488355328):
  aI prog true (bI.bw σ) 18 #[v] [bD I] (λu As=>∃ s':az,u=s'.v/\As=[bG sW 3 102 s' (ops.map rR),bD I]):=by
 refine aI.of λR C kd d F c cs aT ak=>?_;refine cr ?_;obtain⟨a,cap,hv,jB⟩:=hi;subst hv;refine C.go ?_;refine At.aR sW 3 102 (show At R d (bG sW 3 102 aR ((ops.take 0).map rR)::_) _ from ?_);refine oT ?_;refine C.cu (X:=Nat×az) (λx=>[(0,.slice a ops.length cap),(2,aR.v),(3,x.2.v),(4,aD x.1)]) (λx=>bG sW 3 102 x.2 ((ops.take x.1).map rR)::bD I::F) (λx=>x.1<=ops.length) (λx=>ops.length-x.1) (0,aR) ⟨rfl,rfl,rfl,rfl,trivial⟩ (eW _) ?_;rintro⟨i,s⟩ e hi ih;dsimp only at hi⊢;refine dX ?_;refine C.ln rfl ?_;refine C.cmp rfl (λh8=>?_) (λh8=>?_)
 ·refine bH ?_;have hj:i<ops.length:=ai;rcases jB with rfl|⟨b,off,cc,ty,fr,rfl,hI,qJ,sR⟩
  ·exact absurd hj (by simp)
  have h0:=sR i hj 0 (by decide);have h1:=sR i hj 1 (by decide);have h2:=sR i hj 2 (by decide);have SD:=hz _ (dp hj);obtain⟨o,ho⟩:∃ o,o=ops[i]:=⟨_,rfl⟩;rw[<- ho]at h0 h1 h2 SD;have hlen:((ops.take i).map rR).length=i:=by simp;omega
  have Gn:(ops.take i).map rR++[rR o]=(ops.take (i+1)).map rR:=by rw[ho,iM hj,eI];rfl
  refine C.dx (cW 11 0 23++[(3,23)]) 24 [21,22,23] 1 ?_;refine sV ?_;refine Dr.l (λhE h=>C.ia (j:=(i:Int)) (o:=off+i*3) rfl h (hoff:=by simp)) ?_;refine kK ?_;refine Dr.l (λhE h=>C.ldK (hE.MA Fo.au hI) qJ h0 rfl h) ?_;refine kD ?_;refine Dr.l (λhE h=>C.ia (j:=(i:Int)) (o:=off+i*3) rfl h (hoff:=by simp)) ?_;refine kK ?_;refine Dr.l (λhE h=>C.ldK (hE.MA Fo.au hI) qJ h1 rfl h) ?_;refine Dr.p (λh=>C.cv (k1:=.i64) (k2:=.u8) (p:=o.k) (r:=IntKind.u8.wrap o.k) rfl h (hr:=rfl)) ?_;refine Dr.p (λh=>C.cv (k1:=.u8) (k2:=.i64) (p:=IntKind.u8.wrap o.k) (r:=IntKind.u8.wrap o.k) rfl h (hr:=uy (by have:=IE o.k;omega) (by have:=IE o.k;omega))) ?_;refine kD ?_;refine Dr.l (λhE h=>C.ia (j:=(i:Int)) (o:=off+i*3) rfl h (hoff:=by simp)) ?_;refine kK ?_;refine Dr.l (λhE h=>C.ldK (hE.MA Fo.au hI) qJ h2 rfl h) ?_;refine Dr.p (λh=>C.cv (k1:=.i64) (k2:=.i32) (p:=o.v) (r:=IntKind.i32.wrap o.v) rfl h (hr:=rfl)) ?_;refine Dr.p (λh=>C.cv (k1:=.i32) (k2:=.i64) (p:=IntKind.i32.wrap o.v) (r:=IntKind.i32.wrap o.v) rfl h (hr:=uy (by have:=DQ o.v;omega) (by have:=DQ o.v;omega))) ?_;refine xT ?_;refine Ch.m 21 (aY λe aa hk=>?_);refine C.AV rfl (λb32=>hk _ _ .cons ?_);refine Ch.m 22 (aY λe aa hk=>?_);refine C.BI (f:=sW) (rR o) rfl (λs2=>?_) (hsz:=by rw[hlen];omega);refine hk _ _ ?_;refine Ch.q 23 (λh=>C.oR rfl h) ?_;refine PW ?_;rw[Gn];refine again ih (i+1,s2) (dq) (dq)
 ·refine gu ?_;have Qo:i=ops.length:=ai;subst Qo;rw[JI];exact C.cm aT ak ⟨s,rfl,rfl⟩
theorem IF{I:HL}{so:az}{ops:List bP}(hi:fI I sW 102 so ops)(hz:∀ o∈ops,(0<=o.k/\o.k<=255)/\(-2147483648<=o.v/\o.v<=2147483647))(hl:ops.length*8<=140737488355328):
  aI prog ao cH 17 #[so.v] [bD I] (λu As=>∃ s':az,u=s'.v/\As=[bG cS 3 37 s' ops,bD I]):=by
 refine aI.of λR C kd d F c cs aT ak=>?_;refine sB ?_;refine At.aR cS 3 37 (show At R d (bG cS 3 37 aR (ops.take 0)::_) _ from ?_);refine oT ?_;refine C.cu (X:=Nat×az) (λx=>[(0,so.v),(2,aR.v),(3,x.2.v),(4,aD x.1)]) (λx=>bG cS 3 37 x.2 (ops.take x.1)::bD I::F) (λx=>x.1<=ops.length) (λx=>ops.length-x.1) (0,aR) ⟨rfl,rfl,rfl,rfl,trivial⟩ (eW _) ?_;rintro⟨i,s⟩ e TO ih;dsimp only at TO⊢;refine eP ?_;refine C.cmp rfl (λh8=>?_) (λh8=>?_)
 ·refine bH ?_;have hj:i<ops.length:=ai;have SD:=hz _ (dp hj);have hlen:(ops.take i).length=i:=by simp;omega
  have Gn:ops.take i++[ops[i]]=ops.take (i+1):=by rw[iM hj]
  refine C.dx (cW 11 0 21++[(3,21)]) 22 [19,20,21] 1 ?_;refine NC ?_;refine Dr.l (λhE h=>C.w7 (f:=sW) (s:=so) (l:=ops) (j:=i) (o:=0) rfl h (hr:=dZ.ext hE (.bD Fo.au hi))) ?_;refine H4 ?_;refine Dr.l (λhE h=>C.w7 (f:=sW) (s:=so) (l:=ops) (j:=i) (o:=1) rfl h (hr:=dZ.ext hE (.bD Fo.au hi))) ?_;refine NC ?_;refine Dr.l (λhE h=>C.w7 (f:=sW) (s:=so) (l:=ops) (j:=i) (o:=2) rfl h (hr:=dZ.ext hE (.bD Fo.au hi))) ?_;refine A5 ?_;refine Ch.m 19 (aY λe aa hk=>?_);refine C.AV rfl (λb30=>hk _ _ .cons ?_);refine Ch.m 20 (aY λe aa hk=>?_);refine C.BI (f:=cS) ops[i] rfl (λs2=>?_) (hsz:=by rw[hlen];omega);refine hk _ _ ?_;refine Ch.q 21 (λh=>C.oR rfl h) ?_;refine PW ?_;rw[Gn];refine again ih (i+1,s2) (dq) (dq)
 ·refine gu ?_;have Qo:i=ops.length:=ai;subst Qo;rw[JI];exact C.cm aT ak ⟨s,rfl,rfl⟩
instance:eM prog 129 f129 ((Extern.find f129).getD λ_=>pure undef):=⟨func129,rfl,rfl,by kernel_rfl,by kernel_rfl⟩
instance:eM prog 260 f260 ((Extern.find f260).getD λ_=>pure undef):=⟨func260,rfl,rfl,by kernel_rfl,by kernel_rfl⟩
abbrev DR(t:aO):Value:=.pointer (some ⟨10,t,none⟩)
abbrev Qy(t:aO):Value:=.iface 271 (.agg #[DR t])
theorem XT(t:aO):typeHandle prog t=DR t:=by
 have:prog.globals.size=10:=by kernel_rfl
 unfold typeHandle;rw[this]
theorem IG{v:Value}:fW prog (((Extern.find f129).getD λ_=>pure undef) ([.iface 338 v]:List Value).toArray)=some (Qy 338):=by kernel_rfl
theorem abR:fW prog (method (prog.types.size+Made.depth) 271 (.agg #[DR 338]) "Comparable")=some (260,.agg #[DR 338]):=by kernel_rfl
theorem abS:fW prog (((Extern.find f260).getD λ_=>pure undef) (#[.agg #[DR 338]]++([]:List Value).toArray))=some (.bool true):=by kernel_rfl
theorem KT{s:String}{sig:aO}{got:Array Method}(h:(got.toList.any λm=>m.name==s&&m.sig==sig)=false):∃ mm,Instr.missingMethod #[(s,sig)] got=some mm:=by
 have h':(got.any λm=>m.name==s&&m.sig==sig)=false:=by rw[<- h];simp
 unfold Instr.missingMethod;simp only[o6,EG,h',Eu,eN,gW,l6];cases hc:s.contains (Char.ofNat 46)
 ·exact⟨s,by simp only[List.partition,List.partition.loop,hc];rfl⟩
 ·exact⟨(s.splitOn ".").getLastD s,by simp only[List.partition,List.partition.loop,hc];rfl⟩
theorem abT{s:String}{sig:aO}{got:Array Method}(h:(got.toList.any λm=>m.name==s&&m.sig==sig)=true):Instr.missingMethod #[(s,sig)] got=none:=by
 have h':(got.any λm=>m.name==s&&m.sig==sig)=true:=by rw[<- h];simp
 unfold Instr.missingMethod;simp[h',Instr.least]
theorem jN{bE:Nat}{nm w:Value}{at_:Int}:aI prog ao cH 63 #[ay bE] [da bE (.cells #[nm,aD at_,w] 141 (0,0))] (λv As=>v=w/\As=[da bE (.cells #[nm,aD at_,w] 141 (0,0))]):=by refine aI.of λR C kd d F c cs aT ak=>?_;refine cr ?_;refine lI ?_;exact C.cm aT ak ⟨rfl,rfl⟩
theorem abU{bE:Nat}:fW prog (method (prog.types.size+Made.depth) 137 (ay bE) "Unwrap")=some (63,ay bE):=by kernel_rfl
instance:Pt prog 338 358:=⟨underlying338⟩
instance:Cz prog 358 1:=⟨_,aC type358,rfl⟩
theorem Qz{I:HL}{eb:Nat->Nat×Nat}(hE:ir I eb){bE j k:Nat}(hj:j<9)(hk:k<9){nm:Value}{at_:Int}:aI prog ao cH 130 #[.iface 137 (ay bE),ji (eb j),.bool true] [da bE (.cells #[nm,aD at_,ji (eb k)] 141 (0,0)),bD I]
  (λv As=>v=.bool (decide (k=j))/\As=[da bE (.cells #[nm,aD at_,ji (eb k)] 141 (0,0)),bD I]):=by
 refine aI.of λR C kd d F c cs aT ak=>?_;refine cr ?_;obtain⟨cj,tj,hcj⟩:=hE.e j hj;obtain⟨ck,tk,II⟩:=hE.e k hk;refine dX ?_;refine C.lp ?_;refine gu ?_;refine C.eqN underlying64 rfl ?_;obtain⟨mm1,ZF⟩:=KT (s:= "Is") (sig:=282) (got:=t137.methods) (by kernel_rfl);obtain⟨mm2,XU⟩:=KT (s:= "Is") (sig:=282) (got:=t338.methods) (by kernel_rfl);refine eP ?_;refine C.taI underlying280 (aC type137) ZF ⟨_,aC type280,rfl⟩ rfl ?_;refine kj ?_;refine gu ?_;refine C.taY underlying278 (aC type137) (abT (by kernel_rfl)) rfl ?_;refine oT ?_;refine C.Zt abU jN ?_;rintro v aP ⟨rfl,rfl⟩;refine Ca ?_;refine C.Vj underlying64 rfl ?_;refine bH ?_;refine C.Wu ?_;refine gu ?_;refine C.Vi underlying64 (aC type338) rfl rfl ?_ (λH s=>(s.perm (Fo.perm (show Fo (bD I) _ _ from Fo.au))).rh II) (λH s=>(s.perm (Fo.perm (show Fo (bD I) _ _ from Fo.au))).rh hcj);by_cases hkj:k=j
 ·subst hkj;rw[show(decide ((eb k).1=(eb k).1/\(eb k).2=(eb k).2)==true)=true by simp];refine gu ?_;refine C.cm aT ak ⟨?_,rfl⟩;simp
 ·rw[show(decide ((eb k).1=(eb j).1/\(eb k).2=(eb j).2)==true)=false by rw[beq_true,Og];rintro⟨h1,h2⟩;exact hkj (hE.inj k j hk hj (Prod.ext h1 h2))]
  refine eP ?_;refine C.taI underlying280 (aC type338) XU ⟨_,aC type280,rfl⟩ rfl ?_;refine kj ?_;refine gu ?_;refine C.taI underlying278 (aC type338) (KT (by kernel_rfl)).choose_spec ⟨_,aC type278,rfl⟩ rfl ?_;refine eP ?_;refine C.taI underlying279 (aC type338) (KT (by kernel_rfl)).choose_spec ⟨_,aC type279,rfl⟩ rfl ?_;refine tU ?_;refine C.cm aT ak ⟨?_,rfl⟩;simp[hkj]
theorem QA{I:HL}{eb:Nat->Nat×Nat}(hE:ir I eb){bE j k:Nat}(hj:j<9)(hk:k<9){nm:Value}{at_:Int}:aI prog ao cH 65 #[.iface 137 (ay bE),ji (eb j)] [da bE (.cells #[nm,aD at_,ji (eb k)] 141 (0,0)),bD I]
  (λv As=>v=.bool (decide (k=j))/\As=[da bE (.cells #[nm,aD at_,ji (eb k)] 141 (0,0)),bD I]):=by
 refine aI.of λR C kd d F c cs aT ak=>?_;refine Xe ?_;refine C.Vj underlying64 rfl ?_;refine bH ?_;refine C.Vj underlying64 rfl ?_;refine eP ?_;refine C.x0 (f:=129) (v:=Qy 338) IG rfl ?_;refine C.Zs abR abS ?_;refine gu ?_;refine C.cE (Qz hE hj hk) ?_;refine oU ?_;exact C.cm aT ak ⟨rfl,rfl⟩
instance:eM prog 125 f125 (λargs=>Extern.ReflectliteValue.unpack (args.getD 0 (.tuple #[]))):=⟨func125,rfl,rfl,by kernel_rfl,by kernel_rfl⟩
instance:eM prog 126 f126 ((Extern.find f126).getD λ_=>pure undef):=⟨func126,rfl,rfl,by kernel_rfl,by kernel_rfl⟩
instance:eM prog 127 f127 (Extern.ReflectliteValue.method (Extern.ReflectliteValue.valueError "reflectlite.Value.IsNil" 0) Extern.ReflectliteValue.isNil):=⟨func127,rfl,rfl,by kernel_rfl,by kernel_rfl⟩
instance:eM prog 167 f167 (Extern.ReflectliteValue.method (Extern.ReflectliteValue.valueError "reflectlite.Value.Elem" 0) Extern.ReflectliteValue.elem):=⟨func167,rfl,rfl,by kernel_rfl,by kernel_rfl⟩
instance:eM prog 168 f168 Extern.ReflectliteValue.set:=⟨func168,rfl,rfl,by kernel_rfl,by kernel_rfl⟩
instance:eM prog 261 f261 ((Extern.find f261).getD λ_=>pure undef):=⟨func261,rfl,rfl,by kernel_rfl,by kernel_rfl⟩
instance:eM prog 262 f262 ((Extern.find f262).getD λ_=>pure undef):=⟨func262,rfl,rfl,by kernel_rfl,by kernel_rfl⟩
instance:eM prog 259 f259 ((Extern.find f259).getD λ_=>pure undef):=⟨func259,rfl,rfl,by kernel_rfl,by kernel_rfl⟩
instance:eM prog 239 f239 ((Extern.find f239).getD λ_=>pure undef):=⟨func239,rfl,rfl,by kernel_rfl,by kernel_rfl⟩
abbrev VH(t:aO)(b:Nat)(f:Int):Value:=.agg #[DR t,.pointer (some ⟨b,0,none⟩),.int .u64 f]
theorem XV{b:Nat}:fW prog (Extern.ReflectliteValue.mk 139 ⟨b,0,none⟩ 0)=some (VH 139 b 150):=by kernel_rfl
theorem XW{b:Nat}:fW prog (Extern.ReflectliteValue.mk 137 ⟨b,0,none⟩ 0)=some (VH 137 b 150):=by kernel_rfl
theorem TP{b:Nat}:fW prog (Extern.ReflectliteValue.mk 137 ⟨b,0,none⟩ 256)=some (VH 137 b 406):=by kernel_rfl
theorem XX{b:Nat}:fW prog (((Extern.find f126).getD λ_=>pure undef) ([VH 139 b 150]:List Value).toArray)=some (Qy 139):=by kernel_rfl
theorem QB(t:aO):fW prog (method (prog.types.size+Made.depth) 271 (.agg #[DR t]) "Kind")=some (239,DR t):=by kernel_rfl
theorem TQ:fW prog (((Extern.find f239).getD λ_=>pure undef) (#[DR 139]++([]:List Value).toArray))=some (.int .u8 22):=by kernel_rfl
theorem TR:fW prog (((Extern.find f239).getD λ_=>pure undef) (#[DR 137]++([]:List Value).toArray))=some (.int .u8 22):=by kernel_rfl
theorem XY:fW prog (method (prog.types.size+Made.depth) 271 (.agg #[DR 139]) "Elem")=some (261,.agg #[DR 139]):=by kernel_rfl
theorem XZ:fW prog (((Extern.find f261).getD λ_=>pure undef) (#[.agg #[DR 139]]++([]:List Value).toArray))=some (Qy 137):=by kernel_rfl
theorem X0:fW prog (method (prog.types.size+Made.depth) 271 (.agg #[DR 137]) "Implements")=some (262,.agg #[DR 137]):=by kernel_rfl
theorem X1:fW prog (((Extern.find f262).getD λ_=>pure undef) (#[.agg #[DR 137]]++([Qy 64]:List Value).toArray))=some (.bool true):=by kernel_rfl
theorem abV:fW prog (method (prog.types.size+Made.depth) 271 (.agg #[DR 137]) "AssignableTo")=some (259,.agg #[DR 137]):=by kernel_rfl
theorem abW:fW prog (((Extern.find f259).getD λ_=>pure undef) (#[.agg #[DR 137]]++([Qy 137]:List Value).toArray))=some (.bool true):=by kernel_rfl
theorem ME{v:Value}:fW prog (((Extern.find f129).getD λ_=>pure undef) ([.iface 137 v]:List Value).toArray)=some (Qy 137):=by kernel_rfl
open Go.Extern.ReflectliteValue
variable{H:Array Obj}{Q:Value->Array Obj->Nat->Prop}
theorem TS{P:bL}{t:aO}{v w:Value}(Lo:fW P (Extern.ReflectliteValue.mk t ⟨H.size,0,none⟩ 0)=some w)(q:Q w (H.push (.cells v.cells t (0,0))) d):dJ P B (unpack (.iface t v)) H d Q:=by show dJ P B (newVar t v >>= λa=>mk t a 0) H d Q;refine ae ?_;unfold newVar newRow;refine ae ?_;show dJ P B (.new _ _) H d _;simp only[dJ];show dJ P B (pure _) _ d _;exact aA (dw Lo q)
theorem IJ{P:bL}{t:aO}{b p:Nat}{u:Value}[Ag P t false](SF:fW P (parts u)=some (some (t,⟨b,0,none⟩,150)))(hg:hp H b=some (.cells #[ay p] t (0,0)))(hs:B.sh t 0=false)(q:Q (.bool false) H d):dJ P B (Extern.ReflectliteValue.method (valueError "reflectlite.Value.IsNil" 0) isNil #[u]) H d Q:=by unfold Extern.ReflectliteValue.method;refine ae (dw SF ?_);show dJ P B (isNil t ⟨b,0,none⟩ 150 22) H d Q;unfold isNil;simp only[List.contains_cons,List.contains_nil,Nat.reduceBEq,Bool.or_false,Jx,Bool.or_true,Bool.true_or,s5,gn,eR];refine ae (iT hg rfl hs ?_);exact aA q
theorem MF{P:bL}{t t2:aO}{b p:Nat}{u w:Value}[Ag P t false](SF:fW P (parts u)=some (some (t,⟨b,0,none⟩,150)))(he:fW P (Extern.Rtype.elem? t)=some (some t2))(Lo:fW P (Extern.ReflectliteValue.mk t2 ⟨p,0,none⟩ 256)=some w)(hg:hp H b=some (.cells #[ay p] t (0,0)))(hs:B.sh t 0=false)(q:Q w H d):dJ P B (Extern.ReflectliteValue.method (valueError "reflectlite.Value.Elem" 0) Extern.ReflectliteValue.elem #[u]) H d Q:=by unfold Extern.ReflectliteValue.method;refine ae (dw SF ?_);show dJ P B (Extern.ReflectliteValue.elem t ⟨b,0,none⟩ 150 22) H d Q;unfold Extern.ReflectliteValue.elem;simp only[Nat.reduceBNe,Ju,yD,gn,eR];refine ae (iT hg rfl hs ?_);refine ae (dw he ?_);exact dw Lo q
theorem QC{P:bL}{t:aO}{b p:Nat}{u w x0 v:Value}[Ag P t false][Cz P t 1](hu:fW P (parts u)=some (some (t,⟨p,0,none⟩,406)))(hw:fW P (parts w)=some (some (t,⟨b,0,none⟩,150)))(hd:fW P (Extern.Rtype.directlyAssignable t t)=some true)(h1:hp H b=some (.cells #[v] t (0,0)))(h2:hp H p=some (.cells #[x0] t (0,0)))
  (hv:v.cells=#[v]) (h1v:fZ v=true) (hs:B.sh t 0=false) (hr:B.rd p t 0=false) (q:Q (.tuple #[]) (H.setIfInBounds p (.cells #[v] t (0,0))) d):dJ P B (Extern.ReflectliteValue.set #[u,w]) H d Q:=by
 unfold Extern.ReflectliteValue.set;refine ae (dw hu ?_);refine ae (dw hw ?_);show dJ P B _ H d Q;simp only[show((406/flagAddr%2==0):Bool)=false from rfl,gn,eR];refine ae (iT (v:=v) h1 rfl hs ?_);refine ae (dw hd ?_);simp only[eN];refine ae (pZ (z:=1) h2 (by rw[hv];rfl) (by simp) (by rw[hv];intro x hx;simp at hx;subst hx;exact h1v) (λj h0 h3=>?_) ?_)
 ·obtain rfl:j=0:=ai;exact⟨hr,hs⟩
 ·rw[hv];exact aA q
theorem VI{b:Nat}:fW prog (parts (VH 139 b 150))=some (some (139,⟨b,0,none⟩,150)):=by kernel_rfl
theorem abX{b:Nat}:fW prog (parts (VH 137 b 150))=some (some (137,⟨b,0,none⟩,150)):=by kernel_rfl
theorem X2{b:Nat}:fW prog (parts (VH 137 b 406))=some (some (137,⟨b,0,none⟩,406)):=by kernel_rfl
theorem X3:fW prog (Extern.Rtype.elem? 139)=some (some 137):=by kernel_rfl
theorem X4:fW prog (Extern.Rtype.directlyAssignable 137 137)=some true:=by kernel_rfl
variable{aP:List HP}
variable{dst:Option Nat}
variable{f:bJ}{fu:Func}{fo:cZ}{args:Array cZ}{gy:Array aO}{t t2:aO}{p:Nat}{u w x0:Value}
theorem ab.abY(C:ab P ao B R)[x:eM P f fu (λargs=>unpack (args.getD 0 (.tuple #[])))]{w:Nat->Value}{c:Array Value}(hc:v.cells=c)(Lo:∀ b,fW P (Extern.ReflectliteValue.mk t ⟨b,0,none⟩ 0)=some (w b))(ho:aZ ops i=some ⟨dst,.call ⟨.value fo,args,gy⟩,ty,pos,af,gd⟩)(h:∀ b,At R d (da b (.cells c t (0,0))::As) (gr fn kd n (dm e dst (w b)) ds (.inRegion ops aa::k) cs))
  (hf:ev n e fo=.func (.func f) #[] #[]:=by rfl) (hv:args.toList.map (ev n e)=[.iface t v]:=by rfl) (hw:aL ops n e gd=true:=by rfl):At R d As (gr fn kd n e ds (.inRegion ops (i::aa)::k) cs):=
 C.xt (f:=f) (vl:=[.iface t v]) (λH s=>TS (Lo H.size) ⟨_,s.push _,hc▸h _⟩) ho hw hf hv
theorem ab.afw(C:ab P ao B R)[x:eM P f fu (Extern.ReflectliteValue.method (valueError "reflectlite.Value.IsNil" 0) isNil)][Ag P t false](SF:fW P (parts u)=some (some (t,⟨b,0,none⟩,150)))(ho:aZ ops i=some ⟨dst,.call ⟨.value fo,args,gy⟩,ty,pos,af,gd⟩)(h:At R d As (gr fn kd n (dm e dst (.bool false)) ds (.inRegion ops aa::k) cs))
  (hh:Kn As b (.cells #[ay p] t (0,0)):=by apply Has.kn;(repeat(first|with_reducible exact Has.head|with_reducible apply Has.tail));done) (hs:B.sh t 0=false:=by rfl) (hf:ev n e fo=.func (.func f) #[] #[]:=by rfl) (hv:args.toList.map (ev n e)=[u]:=by rfl) (hw:aL ops n e gd=true:=by rfl):At R d As (gr fn kd n e ds (.inRegion ops (i::aa)::k) cs):=
 C.xt (f:=f) (vl:=[u]) (λH s=>IJ SF (hh _ s) hs ⟨_,s,h⟩) ho hw hf hv
theorem ab.afx(C:ab P ao B R)[x:eM P f fu (Extern.ReflectliteValue.method (valueError "reflectlite.Value.Elem" 0) Extern.ReflectliteValue.elem)][Ag P t false](SF:fW P (parts u)=some (some (t,⟨b,0,none⟩,150)))(he:fW P (Extern.Rtype.elem? t)=some (some t2))(Lo:fW P (Extern.ReflectliteValue.mk t2 ⟨p,0,none⟩ 256)=some w)(ho:aZ ops i=some ⟨dst,.call ⟨.value fo,args,gy⟩,ty,pos,af,gd⟩)(h:At R d As (gr fn kd n (dm e dst w) ds (.inRegion ops aa::k) cs))
  (hh:Kn As b (.cells #[ay p] t (0,0)):=by apply Has.kn;(repeat(first|with_reducible exact Has.head|with_reducible apply Has.tail));done) (hs:B.sh t 0=false:=by rfl) (hf:ev n e fo=.func (.func f) #[] #[]:=by rfl) (hv:args.toList.map (ev n e)=[u]:=by rfl) (hw:aL ops n e gd=true:=by rfl):At R d As (gr fn kd n e ds (.inRegion ops (i::aa)::k) cs):=
 C.xt (f:=f) (vl:=[u]) (λH s=>MF SF he Lo (hh _ s) hs ⟨_,s,h⟩) ho hw hf hv
theorem ab.afy(C:ab P ao B R)[x:eM P f fu Extern.ReflectliteValue.set][Ag P t false][Cz P t 1](hu:fW P (parts u)=some (some (t,⟨p,0,none⟩,406)))(np:fW P (parts w)=some (some (t,⟨b,0,none⟩,150)))(hd:fW P (Extern.Rtype.directlyAssignable t t)=some true)(ho:aZ ops i=some ⟨dst,.call ⟨.value fo,args,gy⟩,ty,pos,af,gd⟩)(h:At R d aP (gr fn kd n (dm e dst (.tuple #[])) ds (.inRegion ops aa::k) cs))
  (hh:Kn As b (.cells #[v] t (0,0)):=by apply Has.kn;(repeat(first|with_reducible exact Has.head|with_reducible apply Has.tail));done) (hU:rj p (.cells #[x0] t (0,0)) (.cells #[v] t (0,0)) As aP:=by repeat(first|with_reducible exact rj.head|with_reducible apply rj.tail)) (hvc:v.cells=#[v]:=by rfl) (h1v:fZ v=true:=by rfl)
  (hs:B.sh t 0=false:=by rfl) (hr:B.rd p t 0=false:=by rfl) (hf:ev n e fo=.func (.func f) #[] #[]:=by rfl) (hv:args.toList.map (ev n e)=[u,w]:=by rfl) (hw:aL ops n e gd=true:=by rfl):At R d As (gr fn kd n e ds (.inRegion ops (i::aa)::k) cs):=
 C.xt (f:=f) (vl:=[u,w]) (λH s=>QC hu np hd (hh _ s) (hU.has.get s) hvc h1v hs hr ⟨_,hU.set s,h⟩) ho hw hf hv
theorem QD{bE b7 bV:Nat}{tg:Value}:aI prog ao cH 128 #[.iface 137 (ay bE),tg,VH 139 bV 150,Qy 137] [da bV (.cells #[ay b7] 139 (0,0)),da b7 (.cells #[.pointer none] 137 (0,0))]
  (λv As=>v=.bool true/\As=[da b7 (.cells #[ay bE] 137 (0,0))]):=by
 refine aI.of λR C kd d F c cs aT ak=>?_;refine oU ?_;refine C.bx rfl (λb6=>?_);refine bH ?_;refine C.lp ?_;refine dK ?_;refine C.x0 (f:=129) (v:=Qy 137) ME rfl ?_;refine fG ?_;refine C.Zs abV abW ?_;refine dX ?_;refine C.afx (f:=167) VI X3 (TP (b:=b7)) rfl ?_;refine fG ?_;refine C.abY (f:=125) (t:=137) (c:=#[ay bE]) rfl (λb=>XW (b:=b)) rfl (λbW=>?_) (v:=ay bE);refine C.afy (f:=168) (X2 (b:=b7)) (abX (b:=bW)) X4 rfl ?_ (v:=ay bE);refine dX ?_;exact C.cm aT ak ⟨rfl,rfl⟩
def QE:ByteArray:=⟨#[83,117,98,109,105,116]⟩
theorem DT{σ:Gh}{c:CV}{so:az}{ops:List bP}{I J:HL}{eb:Nat->Nat×Nat}(hE:ir I eb)(hn:1<=c.ah.length/\c.ah.length<=4)(nU:c.aK.length<2^20)(m9:c.aF.length<=60)(ho:fI J cS 37 so ops)(sO:ops.length<2^43):
  bA prog bI 27 #[ay c.G.b,so.v] σ [cY c,bD I,bD J] (λv σ' As=>∃ er t iu iv I' L u,σ'=σ/\v=.tuple #[aD t,u]/\Qw eb (.string QE) 0 er u L/\As=cY {c with aK:=iu,aF:=iv}::bD I'::bD J::L/\
   ((c.aj=true/\er=some 8/\t=0/\iu=c.aK/\iv=c.aF/\I'=I)\/(c.aj=false/\IC eb I c.ah.length ops c.aK c.aF er t I' iu iv))):=by
 refine bA.of ?_;intro Post os out kd F c' cs C aT ak;refine oU ?_;refine C.bx rfl (λbc=>?_);refine C.bx rfl (λbo=>?_);refine dX ?_;refine C.al rfl (λbt=>?_);refine dX ?_;refine C.mf rfl ?_;have hf:c.aj=false->bA prog bI 58 (#[]++([]:List Value).toArray++#[ay bo,ay bc,ay bt]) σ (rQ 1 c::bD I::[bD J,da bo (.cells #[so.v] 38 (0,0)),da bc (.cells #[ay c.G.b] 31 (0,0)),da bt (.cells #[aD 0] 3 (0,0))])
   (λv σ' As=>∃ er c' I' A',v=TM eb er/\(∀ k,er=some k->k<9)/\As=rQ 1 c'::bD I'::A'/\c'.G.b=c.G.b/\(∃ t iu iv,σ'=σ/\c'={c with aK:=iu,aF:=iv}/\A'=[bD J,da bt (.cells #[aD t] 3 (0,0))]/\IC eb I c.ah.length ops c.aK c.aF er t I' iu iv)):=by
  intro dI Post os out kd F fr cs aT ak;obtain⟨G,ah,aK,aF,aj⟩:=c;obtain rfl:aj=false:=dI;refine cr ?_;refine cY.opn (m:=1) (h:=λhs bg tx=>?_);have uw:=My (σ:=σ) (b:=G.b) (bo:=bo) (bc:=bc) (bt:=bt) (so:=so) (hs:=hs) (bg:=bg) (xY:=tx) (dn:=.chan (some G.dn)) (st:=CV.st ⟨G,ah,aK,aF,false⟩) (hl:=ah.map (·.h.bh)) (aK:=aK) (aF:=aF) hE (by simpa using hn) nU m9 ho sO;refine At.perm (fg.perm fg.au) (aI.g uw Post os out kd _ fr cs aT ?_);rintro v σ' aP ⟨rfl,KS,XS,er,t,I',iu,iv,rfl,hQ,rfl⟩;refine cr ?_;refine cY.cls (m:=1) ⟨G,ah,iu,iv,false⟩ ?_;refine At.lP ?_ (ak _ _ _ ⟨er,⟨G,ah,iu,iv,false⟩,I',_,rfl,?_,rfl,rfl,t,iu,iv,rfl,rfl,rfl,by simpa using hQ⟩)
  ·exact cV.au
  ·intro k hk;obtain⟨_,h|h|h⟩:=hQ
   ·have:=h.2.1;rw[this]at hk;cases hk;decide
   ·have:=h.2.2.1;rw[this]at hk;cases hk;decide
   ·have:=h.2.2.1;rw[this]at hk;cases hk
 refine aE.j9 (Ct (nm:=QE) (at_:=0) hE hf) ?_;rintro v σ' aP ⟨er,c2,I2,A2,L,oS,rfl,ZG⟩;have C:ab prog true (bI.bw σ') (aE prog Post bI σ' 0 os out):=aE.ew;refine cr ?_;refine dK ?_;rcases ZG with⟨dI,rfl,rfl,rfl,rfl,rfl⟩|⟨dI,t,iu,iv,rfl,rfl,rfl,hQ⟩
 ·obtain⟨bE,rfl,rfl⟩:=oS;simp only[sN,fi,ez];refine eP ?_;exact aE.eK aT ak ⟨some 8,0,c2.aK,c2.aF,I2,[da bE (.cells #[.string QE,aD 0,ji (eb 8)] 141 (0,0))],.iface 137 (ay bE),rfl,rfl,⟨bE,rfl,rfl⟩,rfl,.inl ⟨dI,rfl,rfl,rfl,rfl,rfl⟩⟩
 ·cases er with
  |none=>
   obtain⟨rfl,rfl⟩:=oS;simp only[sN,fi,ez];refine eP ?_;exact aE.eK aT ak ⟨none,t,iu,iv,I2,[],.nilIface,rfl,rfl,⟨rfl,rfl⟩,rfl,.inr ⟨dI,hQ⟩⟩
  |some k=>
   obtain⟨bE,rfl,rfl⟩:=oS;simp only[sN,fi,ez];refine eP ?_;exact aE.eK aT ak ⟨some k,t,iu,iv,I2,[da bE (.cells #[.string QE,aD 0,ji (eb k)] 141 (0,0))],.iface 137 (ay bE),rfl,rfl,⟨bE,rfl,rfl⟩,rfl,.inr ⟨dI,hQ⟩⟩
theorem QF{σ:Gh}{I:HL}{eb:Nat->Nat×Nat}(hE:ir I eb){bE b7:Nat}:aI prog true (bI.bw σ) 62 #[.iface 137 (ay bE),.iface 139 (ay b7)] [da b7 (.cells #[.pointer none] 137 (0,0)),bD I]
  (λv As=>v=.bool true/\As=[da b7 (.cells #[ay bE] 137 (0,0)),bD I]):=by
 refine aI.of λR C kd d F c cs aT ak=>?_;refine cr ?_;obtain⟨tE,VJ⟩:=hE.ty;rw[XT]at VJ;refine gu ?_;refine C.Vj underlying64 rfl ?_;refine dX ?_;refine C.Vj underlying20 rfl ?_;refine dX ?_;refine C.abY (f:=125) (t:=139) (c:=#[ay b7]) rfl (λb=>XV (b:=b)) rfl (λbV=>?_) (v:=ay b7);refine C.al rfl (λb5=>?_);refine dX ?_;refine C.x0 (f:=126) (v:=Qy 139) XX rfl ?_;refine dX ?_;refine C.Zs (QB _) TQ ?_;refine C.v0 rfl ?_ rfl;refine bH ?_;refine C.afw (f:=127) (VI (b:=bV)) rfl ?_;refine eP ?_;refine C.Zs XY XZ ?_;refine dX ?_;refine C.Zs (QB _) TR ?_;refine C.v0 rfl ?_ rfl;refine bH ?_;refine C.v9 (v:=Qy 64) Fo.au VJ (iJ _ _) rfl ?_;refine C.Zs X0 X1 ?_;refine oT ?_;refine C.cE (aI.less (dN σ) (QD (bE:=bE) (b7:=b7) (bV:=bV))) ?_;refine oU ?_;exact C.cm aT ak ⟨rfl,rfl⟩
def Gp(eb:Nat->Nat×Nat)(k:Nat):List Value:=[ji (eb k)]
instance(eb:Nat->Nat×Nat):iD (Gp eb) 1:=⟨λ_=>rfl,λa v h=>by simp[Gp]at h;subst h;rfl⟩
theorem QG{σ:Gh}{I:HL}{eb:Nat->Nat×Nat}(hE:ir I eb):aI prog true (bI.bw σ) 64 #[] [bD I] (λv As=>∃ s:az,v=s.v/\As=[bG (Gp eb) 1 64 s [0,1,2,3,4,5,6,7,8],bD I]):=by refine aI.of λR C kd d F c cs aT ak=>?_;refine cr ?_;obtain⟨t0,h0⟩:=hE.g 0 (by decide);obtain⟨t1,h1⟩:=hE.g 1 (by decide);obtain⟨t2,h2⟩:=hE.g 2 (by decide);obtain⟨t3,h3⟩:=hE.g 3 (by decide);obtain⟨t4,h4⟩:=hE.g 4 (by decide);obtain⟨t5,h5⟩:=hE.g 5 (by decide);obtain⟨t6,h6⟩:=hE.g 6 (by decide);obtain⟨t7,h7⟩:=hE.g 7 (by decide);obtain⟨t8,h8⟩:=hE.g 8 (by decide);refine eP ?_;refine C.v9 (v:=ji (eb 0)) Fo.au h0 (iJ _ _) rfl ?_;refine C.v9 (v:=ji (eb 1)) Fo.au h1 (iJ _ _) rfl ?_;refine C.v9 (v:=ji (eb 2)) Fo.au h2 (iJ _ _) rfl ?_;refine C.v9 (v:=ji (eb 3)) Fo.au h3 (iJ _ _) rfl ?_;refine C.v9 (v:=ji (eb 4)) Fo.au h4 (iJ _ _) rfl ?_;refine C.v9 (v:=ji (eb 5)) Fo.au h5 (iJ _ _) rfl ?_;refine C.v9 (v:=ji (eb 6)) Fo.au h6 (iJ _ _) rfl ?_;refine C.v9 (v:=ji (eb 7)) Fo.au h7 (iJ _ _) rfl ?_;refine C.v9 (v:=ji (eb 8)) Fo.au h8 (iJ _ _) rfl ?_;refine C.bs (vs:=[ji (eb 0),ji (eb 1),ji (eb 2),ji (eb 3),ji (eb 4),ji (eb 5),ji (eb 6),ji (eb 7),ji (eb 8)]) rfl (λb=>?_);refine bH ?_;refine At.turn (A':=bG (Gp eb) 1 64 ⟨some ⟨b,0,none⟩,9,9⟩ [0,1,2,3,4,5,6,7,8]) .head (λh x=>.inr ⟨b,[],rfl,rfl,e8 9,x⟩) ?_;exact C.cm aT ak ⟨⟨some ⟨b,0,none⟩,9,9⟩,rfl,rfl⟩
theorem TT{P:bL}{n:Nat}{e:Nat->Value}{t:Nat}{ty tt t2:aO}{pos:String}{af:Array Edge}{gd:Option (Nat×Bool)}{x y:cZ}{nm:ByteArray}(hx:ev n e x=.string nm)(hy:ev n e y=.string nm):fW P (execOp (ev n e) ⟨some t,.binOp .neq tt x y t2,ty,pos,af,gd⟩)=some (.value (.bool false)):=by unfold execOp;simp only[hx,hy];refine bC (a:=.bool false) ?_ rfl;refine bC (a:=()) (by unfold eqGuard;rfl) ?_;show fW P (Op.stringOp .neq nm nm)=_;unfold Op.stringOp;simp;rfl
theorem gS{σ:Gh}{I:HL}{eb:Nat->Nat×Nat}(hE:ir I eb){bE k:Nat}{nm:ByteArray}{at_:Int}(hk:k<9):aI prog true (bI.bw σ) 28 #[.iface 137 (ay bE),.string nm,aD at_] [da bE (.cells #[.string nm,aD at_,ji (eb k)] 141 (0,0)),bD I] (λv As=>v=aD (k+1)/\As=[bD I]):=by
 refine aI.of λR C kd d F c cs aT ak=>?_;refine cr ?_;obtain⟨ck,tk,II⟩:=hE.e k hk;refine gu ?_;refine C.Vj underlying64 rfl ?_;refine dK ?_;refine C.al rfl (λb7=>?_);refine C.go ?_;apply aeD True [(0,.iface 137 (ay bE)),(46,.bool false)] (da bE (.cells #[.string nm,aD at_,ji (eb k)] 141 (0,0))::bD I::F)
 ·intro jB;refine C.dx (cW 12 0 35) 35 [2,3,4,5,6,7,8,9,10,11,12,13,14,15,16,17,18,19,20,21,22,23,24,25,26,27,28,29,30,31,32,33,34] 0 ?_;refine kK ?_;refine Dr.p (λh=>C.mi rfl h) ?_;refine Dr.chain rfl ?_;refine Ch.nk [2] (fS ?_);refine aY λe aa hk=>?_;refine C.cE (QF hE (bE:=bE) (b7:=b7)) ?_;refine hk _ _ ?_
  (try simp only[fi,ez])
  refine Ch.q 3 (λh=>C.nt rfl h) ?_;refine Ch.q 4 (λh=>C.mv rfl h) ?_;refine Ch.q 5 (λh=>C.mv rfl h) ?_;refine Ch.nk [6] (fS ?_);refine aY λe aa hk=>?_;refine C.ld rfl (hk _ _ ?_);refine Ch.q 7 (λh=>C.mi rfl h) ?_;refine Ch.nk [8] (fS ?_);refine aY λe aa hk=>?_;refine C.Vi (r:=false) (b1:=bE) (o1:=0) (b2:=bE) (o2:=0) underlying64 (aC type137) rfl rfl ?_ (λH s=>Has.get Has.au s) (λH s=>Has.get Has.au s);rw[show(decide (bE=bE/\0=0)==false)=false by simp];refine hk _ _ ?_;refine Ch.q 9 (λh=>C.pk rfl h) ?_;refine Ch.q 10 (λh=>C.mv rfl h) ?_;refine Ch.q 15 (λh=>C.mv rfl h) ?_;refine Ch.nk [11] (fS ?_);refine aY λe aa hk=>?_;refine C.ld rfl (hk _ _ ?_);refine Ch.q 12 (λh=>C.nc rfl h) ?_;refine Ch.q 13 (λh=>C.fa rfl h) ?_;refine Ch.nk [14] (fS ?_);refine aY λe aa hk=>?_;refine C.ld rfl (hk _ _ ?_);refine Ch.q 16 (λh=>C.v0 (v:=.bool false) rfl h (TT rfl rfl)) ?_;refine Ch.q 17 (λh=>C.pk rfl h) ?_;refine Ch.q 18 (λh=>C.mv rfl h) ?_;refine Ch.q 23 (λh=>C.mv rfl h) ?_;refine Ch.nk [19] (fS ?_);refine aY λe aa hk=>?_;refine C.ld rfl (hk _ _ ?_);refine Ch.q 20 (λh=>C.nc rfl h) ?_;refine Ch.q 21 (λh=>C.fa rfl h) ?_;refine Ch.nk [22] (fS ?_);refine aY λe aa hk=>?_;refine C.ld rfl (hk _ _ ?_);refine Ch.q 24 (λh=>C.dS rfl h) ?_;refine Ch.q 25 (λh=>C.pk rfl h) ?_;refine Ch.q 26 (λh=>C.mv rfl h) ?_;refine Ch.nk [27,29] (zl ?_ ?_)
  ·refine aY λe aa hk=>?_;refine C.ld rfl (hk _ _ ?_);refine Ch.nk [28,29] (zl ?_ ?_)
   ·refine aY λe aa hk=>?_;refine C.cE (aI.less (dN σ) jN) ?_;refine hk _ _ ?_
    (try simp only[fi,ez])
    refine Ch.nk [29] (fS ?_);refine aY λe aa hk=>?_;refine C.ld rfl (hk _ _ ?_);refine Ch.q 30 (λh=>C.nc rfl h) ?_;refine Ch.q 31 (λh=>C.fa rfl h) ?_;refine Ch.nk [32] (fS ?_);refine aY λe aa hk=>?_;refine C.ld rfl (hk _ _ ?_);refine Ch.nk [33] (fS ?_);refine aY λe aa hk=>?_;refine C.Vi (r:=false) (b1:=(eb k).1) (o1:=(eb k).2) (b2:=(eb k).1) (o2:=(eb k).2) underlying64 (aC type338) rfl rfl ?_ (λH s=>(s.perm (Fo.perm (show Fo (bD I) _ _ from Fo.au))).rh II) (λH s=>(s.perm (Fo.perm (show Fo (bD I) _ _ from Fo.au))).rh II);rw[show(decide ((eb k).1=(eb k).1/\(eb k).2=(eb k).2)==false)=false by simp];refine hk _ _ ?_;refine Ch.q 34 (λh=>C.pk rfl h) ?_;refine fP ?_;exact join jB trivial
   ·refine aY λe aa hk=>?_;refine C.ld rfl (hk _ _ ?_);refine Ch.q 30 (λh=>C.nc rfl h) ?_;refine Ch.q 31 (λh=>C.fa rfl h) ?_;refine Ch.nk [28,32] (zl ?_ ?_)
    ·refine aY λe aa hk=>?_;refine C.cE (aI.less (dN σ) jN) ?_;refine hk _ _ ?_
     (try simp only[fi,ez])
     refine Ch.nk [32] (fS ?_);refine aY λe aa hk=>?_;refine C.ld rfl (hk _ _ ?_);refine Ch.nk [33] (fS ?_);refine aY λe aa hk=>?_;refine C.Vi (r:=false) (b1:=(eb k).1) (o1:=(eb k).2) (b2:=(eb k).1) (o2:=(eb k).2) underlying64 (aC type338) rfl rfl ?_ (λH s=>(s.perm (Fo.perm (show Fo (bD I) _ _ from Fo.au))).rh II) (λH s=>(s.perm (Fo.perm (show Fo (bD I) _ _ from Fo.au))).rh II);rw[show(decide ((eb k).1=(eb k).1/\(eb k).2=(eb k).2)==false)=false by simp];refine hk _ _ ?_;refine Ch.q 34 (λh=>C.pk rfl h) ?_;refine fP ?_;exact join jB trivial
    ·refine aY λe aa hk=>?_;refine C.ld rfl (hk _ _ ?_);refine Ch.nk [28] (fS ?_);refine aY λe aa hk=>?_;refine C.cE (aI.less (dN σ) jN) ?_;refine hk _ _ ?_
     (try simp only[fi,ez])
     refine Ch.nk [33] (fS ?_);refine aY λe aa hk=>?_;refine C.Vi (r:=false) (b1:=(eb k).1) (o1:=(eb k).2) (b2:=(eb k).1) (o2:=(eb k).2) underlying64 (aC type338) rfl rfl ?_ (λH s=>(s.perm (Fo.perm (show Fo (bD I) _ _ from Fo.au))).rh II) (λH s=>(s.perm (Fo.perm (show Fo (bD I) _ _ from Fo.au))).rh II);rw[show(decide ((eb k).1=(eb k).1/\(eb k).2=(eb k).2)==false)=false by simp];refine hk _ _ ?_;refine Ch.q 34 (λh=>C.pk rfl h) ?_;refine fP ?_;exact join jB trivial
  ·refine aY λe aa hk=>?_;refine C.ld rfl (hk _ _ ?_);refine Ch.q 30 (λh=>C.nc rfl h) ?_;refine Ch.q 31 (λh=>C.fa rfl h) ?_;refine Ch.nk [27,32] (zl ?_ ?_)
   ·refine aY λe aa hk=>?_;refine C.ld rfl (hk _ _ ?_);refine Ch.nk [28,32] (zl ?_ ?_)
    ·refine aY λe aa hk=>?_;refine C.cE (aI.less (dN σ) jN) ?_;refine hk _ _ ?_
     (try simp only[fi,ez])
     refine Ch.nk [32] (fS ?_);refine aY λe aa hk=>?_;refine C.ld rfl (hk _ _ ?_);refine Ch.nk [33] (fS ?_);refine aY λe aa hk=>?_;refine C.Vi (r:=false) (b1:=(eb k).1) (o1:=(eb k).2) (b2:=(eb k).1) (o2:=(eb k).2) underlying64 (aC type338) rfl rfl ?_ (λH s=>(s.perm (Fo.perm (show Fo (bD I) _ _ from Fo.au))).rh II) (λH s=>(s.perm (Fo.perm (show Fo (bD I) _ _ from Fo.au))).rh II);rw[show(decide ((eb k).1=(eb k).1/\(eb k).2=(eb k).2)==false)=false by simp];refine hk _ _ ?_;refine Ch.q 34 (λh=>C.pk rfl h) ?_;refine fP ?_;exact join jB trivial
    ·refine aY λe aa hk=>?_;refine C.ld rfl (hk _ _ ?_);refine Ch.nk [28] (fS ?_);refine aY λe aa hk=>?_;refine C.cE (aI.less (dN σ) jN) ?_;refine hk _ _ ?_
     (try simp only[fi,ez])
     refine Ch.nk [33] (fS ?_);refine aY λe aa hk=>?_;refine C.Vi (r:=false) (b1:=(eb k).1) (o1:=(eb k).2) (b2:=(eb k).1) (o2:=(eb k).2) underlying64 (aC type338) rfl rfl ?_ (λH s=>(s.perm (Fo.perm (show Fo (bD I) _ _ from Fo.au))).rh II) (λH s=>(s.perm (Fo.perm (show Fo (bD I) _ _ from Fo.au))).rh II);rw[show(decide ((eb k).1=(eb k).1/\(eb k).2=(eb k).2)==false)=false by simp];refine hk _ _ ?_;refine Ch.q 34 (λh=>C.pk rfl h) ?_;refine fP ?_;exact join jB trivial
   ·refine aY λe aa hk=>?_;refine C.ld rfl (hk _ _ ?_);refine Ch.nk [27] (fS ?_);refine aY λe aa hk=>?_;refine C.ld rfl (hk _ _ ?_);refine Ch.nk [28] (fS ?_);refine aY λe aa hk=>?_;refine C.cE (aI.less (dN σ) jN) ?_;refine hk _ _ ?_
    (try simp only[fi,ez])
    refine Ch.nk [33] (fS ?_);refine aY λe aa hk=>?_;refine C.Vi (r:=false) (b1:=(eb k).1) (o1:=(eb k).2) (b2:=(eb k).1) (o2:=(eb k).2) underlying64 (aC type338) rfl rfl ?_ (λH s=>(s.perm (Fo.perm (show Fo (bD I) _ _ from Fo.au))).rh II) (λH s=>(s.perm (Fo.perm (show Fo (bD I) _ _ from Fo.au))).rh II);rw[show(decide ((eb k).1=(eb k).1/\(eb k).2=(eb k).2)==false)=false by simp];refine hk _ _ ?_;refine Ch.q 34 (λh=>C.pk rfl h) ?_;refine fP ?_;exact join jB trivial
 ·intro _ e;refine bH ?_;refine C.fF (QG hE) ?_;rintro v aP ⟨s,rfl,rfl⟩;refine cr ?_;refine C.pS (f:=Gp eb) (s:=s) (l:=[0,1,2,3,4,5,6,7,8]) rfl ?_;refine bH ?_;refine C.cu (X:=Nat) (λi=>[(0,.iface 137 (ay bE)),(47,s.v),(48,aD 9),(49,aD i)]) (λ_=>bG (Gp eb) 1 64 s [0,1,2,3,4,5,6,7,8]::da bE (.cells #[.string nm,aD at_,ji (eb k)] 141 (0,0))::bD I::F) (λi=>i<=k) (λi=>9-i) 0 ⟨rfl,rfl,rfl,rfl,trivial⟩ (eW _) ?_;intro i e hi ih;have hi9:i<9:=ai;have hl:∀ (h:i<([0,1,2,3,4,5,6,7,8]:List Nat).length),([0,1,2,3,4,5,6,7,8]:List Nat)[i]=i:=by have hc:i=0\/i=1\/i=2\/i=3\/i=4\/i=5\/i=6\/i=7\/i=8:=ai;intro h;rcases hc with rfl|rfl|rfl|rfl|rfl|rfl|rfl|rfl|rfl<;>rfl
  refine bH ?_;refine C.fA rfl ?_;refine dX ?_;refine C.dQ (f:=Gp eb) (s:=s) (l:=[0,1,2,3,4,5,6,7,8]) (j:=i) rfl ?_ (hj:=hi9);refine C.dd (f:=Gp eb) (s:=s) (l:=[0,1,2,3,4,5,6,7,8]) (j:=i) (v:=ji (eb i)) rfl ?_ (hj:=hi9) (hv:=by rw[hl];rfl);refine gu ?_;refine C.cE (aI.less (dN σ) (QA hE (bE:=bE) (j:=i) (k:=k) hi9 hk)) ?_;refine cr ?_;by_cases HJ:k=i
  ·subst HJ;rw[show decide (k=k)=true by simp];refine gU ?_;exact C.cm aT ak ⟨rfl,rfl⟩
  ·rw[show decide (k=i)=false by simp[HJ]];refine gu ?_;exact again ih (i+1) ai ai
end
section
open Go.Proofs Go.Conc
theorem TU{P:bL}{n:Nat}{e:Nat->Value}{dst:Option Nat}{ty:aO}{gy:Array aO}{pos:String}{af:Array Edge}{gd:Option (Nat×Bool)}{fo:cZ}{f:bJ}{a2:Array Value}(hf:ev n e fo=.func (.func f) #[] a2):fW P (execOp (ev n e) ⟨dst,.go ⟨.value fo,#[],gy⟩,ty,pos,af,gd⟩)=some (.spawn ⟨.fn (.func f) a2,#[]⟩):=by unfold execOp;simp only;refine bC (a:=⟨.fn (.func f) a2,#[]⟩) ?_ rfl;unfold resolve;simp only[hf,Deferred.ofValue];simp;rfl
theorem nb{h:HG}{C:CG}{c:Nat}:(eL h C).has c↔c=h.wk\/c=C.dn:=by
 unfold dH.has eL;constructor
 ·rintro⟨k,z,e⟩;rcases k with _|_|k
  ·left;simp[rcase]at e;exact e.1.symm
  ·right;simp[rcase]at e;exact e.1.symm
  ·simp at e
 ·rintro(rfl|rfl)
  ·exact⟨0,_,rfl⟩
  ·exact⟨1,_,rfl⟩
theorem Gq{h:HG}{C:CG}(eV:h.wk≠C.dn):(eL h C).Wf:=by
 refine⟨λcc lF=>?_,λk m c z z' h1 h2=>?_⟩
 ·simp[eL]at lF;rcases lF with rfl|rfl<;>exact⟨_,_,rfl⟩
 ·simp only[eL]at h1 h2;rcases k with _|_|k<;>rcases m with _|_|m<;>simp[rcase]at h1 h2<;>first|rfl|(exfalso;omega)
theorem rS{h:HG}{C:CG}{H:Array Obj}{kw kd i:Nat}{c1 c2:Array Value}(hi:i≠0)(h1:hp H C.cb=some (.cells #[ay C.b] 31 (0,0)))(h2:hp H h.hb=some (.cells #[ay h.bh] 124 (0,0)))
  (h3:hp H C.b=some (.cells c1 93 (0,0))) (h3':c1[5]? =some (.chan (some C.dn))) (h4:hp H h.bh=some (.cells c2 130 (0,0))) (h4':c2[1]? =some (.chan (some h.wk))) (h5:hp H h.wk=some (.chan 0 #[] false kw kw false)) (h6:hp H C.dn=some (.chan 0 #[] false kd kd false)):
  zg (bI.rd i) (eL h C) H/\∀ p∈(eL h C).mem,∀ c ty,H[p.1.block]? =some (.cells c ty (0,0))->bI.sh ty p.1.off=false:=by
 have iw:∀ b t o,bI.rd i b t o=XN t o:=λb t o=>by unfold tO.rd;rw[ax hi];rfl
 have key:∀ p∈(eL h C).mem,p.1.spot=none/\∃ c ty,H[p.1.block]? =some (.cells c ty (0,0))/\c[p.1.off]? =some p.2/\bI.rd i p.1.block ty p.1.off=true/\XO ty p.1.off=false:=by
  intro p hp;simp only[eL,fR,m6,gm]at hp;rcases hp with rfl|rfl|rfl|rfl
  ·exact⟨rfl,_,_,h1,rfl,by rw[iw];rfl,rfl⟩
  ·exact⟨rfl,_,_,h2,rfl,by rw[iw];rfl,rfl⟩
  ·exact⟨rfl,_,_,h3,h3',by rw[iw];rfl,rfl⟩
  ·exact⟨rfl,_,_,h4,h4',by rw[iw];rfl,rfl⟩
 refine⟨⟨λc hc=>?_,λp hp=>?_⟩,λp hp c ty lF=>?_⟩
 ·rcases nb.1 hc with rfl|rfl
  ·exact⟨_,h5⟩
  ·exact⟨_,h6⟩
 ·obtain⟨a,c,ty,b1,b2,b3,_⟩:=key p hp;exact⟨a,c,ty,b1,b2,b3⟩
 ·obtain⟨a,c',U1,b1,b2,b3,b4⟩:=key p hp;rw[lF]at b1;cases b1;exact b4
structure rT(σ σ':Gh)(G:CG)(l:List HV):Prop where
 n:σ'.n=σ.n+l.length
 old:∀ i,i<σ.n->σ'.aQ i=σ.aQ i
 new:∀ i s,σ.n<=i->σ'.aQ i=some s->∃ v∈l,v.h.g=i/\s=eL v.h G
 has:∀ v∈l,σ'.aQ v.h.g=some (eL v.h G)/\σ.n<=v.h.g/\v.h.g<σ'.n
 gnd:(l.map (·.h.g)).Nodup
 fw:∀ v∈l,∀ i s,σ.aQ i=some s->¬ s.has v.h.wk
 fd:∀ i s,σ.aQ i=some s->¬ s.has G.dn
 wnd:(l.map (·.h.wk)).Nodup
 wd:∀ v∈l,v.h.wk≠G.dn
 sh:∀ x,σ'.sh x↔σ.sh x\/x=.cell ⟨G.b,7,none⟩\/x=.cell ⟨G.b,8,none⟩
 bot:σ'.bot=σ.bot
structure QH(σ:Gh):Prop where
 n:σ.n≠0
 lt:∀ i s,σ.aQ i=some s->i<σ.n
theorem rT.start{σ:Gh}(h:QH σ){G:CG}(fd:∀ i s,σ.aQ i=some s->¬ s.has G.dn):rT σ (σ.AX G.b [7,8]) G []:=by
 refine⟨rfl,λ_ _=>rfl,λi s hi hs=>?_,by simp,by simp,by simp,fd,by simp,by simp,λx=>?_,rfl⟩
 ·have:=h.lt i s hs;omega
 ·simp[Gh.AX]
theorem rT.hire{σ σ':Gh}{G:CG}{l:List HV}(N:rT σ σ' G l){v:HV}(hg:v.h.g=σ'.n)(du:∀ i s,σ.aQ i=some s->i<σ.n)(hw:∀ i s,σ'.aQ i=some s->¬ s.has v.h.wk)(RN:v.h.wk≠G.dn):rT σ (σ'.pa (eL v.h G)) G (l++[v]):=by
 have hs:∀ i,(σ'.pa (eL v.h G)).aQ i=if i=σ'.n then some (eL v.h G)else σ'.aQ i:=λi=>by
  show Go.ConcN.upd σ'.aQ σ'.n (some (eL v.h G)) i=_;by_cases e:i=σ'.n
  ·subst e;rw[Go.ConcN.upd_same,aG rfl]
  ·rw[Go.ConcN.upd_ne _ _ e,ax e]
 have hn:=N.n;refine⟨?_,λi hi=>?_,λi s hi e=>?_,λu hu=>?_,?_,λu hu i s e=>?_,N.fd,?_,λu hu=>?_,N.sh,N.bot⟩
 ·show σ'.n+1=_;rw[gO,gJ];omega
 ·rw[hs,ax ai];exact N.old i hi
 ·rw[hs]at e;by_cases z:i=σ'.n
  ·rw[aG z]at e;exact⟨v,by simp,by rw[hg,z],(bR e).symm⟩
  ·rw[ax z]at e;obtain⟨u,hu,h1,h2⟩:=N.new i s hi e;exact⟨u,by simp[hu],h1,h2⟩
 ·rcases bS.1 hu with hu|hu
  ·obtain⟨h1,h2,h3⟩:=N.has u hu;refine⟨by rw[hs,ax ai];exact h1,h2,?_⟩;show _<σ'.n+1;omega
  ·obtain rfl:=dL.1 hu;refine⟨by rw[hs,aG hg],ai,?_⟩;show _<σ'.n+1;omega
 ·rw[eI,il];refine⟨N.gnd,by simp,λa ha b hb=>?_⟩;obtain⟨u,hu,rfl⟩:=bM.1 ha;simp at hb;subst hb;have:=(N.has u hu).2.2;omega
 ·rcases bS.1 hu with hu|hu
  ·exact N.fw u hu i s e
  ·obtain rfl:=dL.1 hu;exact hw i s (by rw[N.old i (du i s e)];exact e)
 ·rw[eI,il];refine⟨N.wnd,by simp,λa ha b hb z=>?_⟩;obtain⟨u,hu,rfl⟩:=bM.1 ha;simp at hb;subst hb;exact hw _ _ (N.has u hu).1 (nb.2 (.inl z.symm))
 ·rcases bS.1 hu with hu|hu
  ·exact N.wd u hu
  ·obtain rfl:=dL.1 hu;exact RN
theorem QI{σ:Gh}{n:Int}(hn:1<=n/\n<=4)(hσ:QH σ):bA prog bI 26 #[aD n] σ [] (λv σ' As=>∃ c:CV,rT σ σ' c.G c.ah/\v=.tuple #[ay c.G.b,.nilIface]/\As=[cY c]/\c.ah.map (·.s)=((upto n).map λk=>j0 k n)/\c.aK=[]/\c.aF=[]/\c.aj=false):=by
 refine bA.of ?_;intro Post os out kd F c' cs C aT ak;refine RZ ?_;refine C.dS rfl ?_;refine bH ?_;refine C.dS rfl ?_;refine dX ?_;refine aE.mc underlying84 (aC type75) rfl (λdn hdn=>?_);refine fG ?_;refine aE.bx (c:=TK 0 aR.v aR.v aR.v (.chan (some dn)) false (((0:Nat):Int)*KQ)) [7,8] rfl rfl rfl (by decide) rfl (λb=>?_);have C1:ab prog true (bI.bw (σ.AX b [7,8])) (aE prog Post bI (σ.AX b [7,8]) 0 os out):=aE.ew;refine aE.al rfl (λcb hcb=>?_);refine C1.st rfl ?_ (hr:=hcb.rd _ _);refine C1.go ?_;refine C1.rg [0,1] ?_;refine C1.mv rfl ?_;refine C1.mv rfl ?_;refine C1.go ?_;refine At.aR jg 1 124 (show At (aE prog Post bI (σ.AX b [7,8]) 0 os out) 0 (bG jg 1 124 aR (([]:List HV).map (·.h.bh))::_) _ from ?_);refine At.E0 (show At (aE prog Post bI (σ.AX b [7,8]) 0 os out) 0 (all (([]:List HV).map iQ)::_) _ from ?_);refine aaM (Y:=Gh×az×List HV×Nat) (λy=>y.1) (λy=>[(0,aD n),(4,ay cb),(17,aD n),(18,aD y.2.2.2)]) (λy=>oW b 0 y.2.1.v aR.v aR.v (.chan (some dn)) false ((y.2.2.2:Int)*KQ)::bG jg 1 124 y.2.1 (y.2.2.1.map (·.h.bh))::all (y.2.2.1.map iQ)::da dn (.chan 0 #[] false 0 0 false)::da cb (.cells #[ay b] 31 (0,0))::F)
  (λy=>rT σ y.1 ⟨b,cb,dn⟩ y.2.2.1/\y.2.2.1.length=y.2.2.2/\(y.2.2.2:Int)<=n/\y.2.2.1.map (·.s)=((upto n).take y.2.2.2).map (λk=>j0 k n)/\∀ b',y.2.1.a=some ⟨b',0,none⟩->Dd y.1 b') (λy=>(n-y.2.2.2).toNat) (σ.AX b [7,8],aR,[],0) rfl ⟨rfl,rfl,rfl,rfl,trivial⟩ ⟨rT.start (G:=⟨b,cb,dn⟩) hσ hdn,rfl,by show(0:Int)<=n;omega,rfl,λb' h=>by cases h⟩ ?_
 rintro⟨σk,hs,l,kk⟩ e ⟨N,oI,Xs,hm,Wk⟩ ih;dsimp only at N oI Xs hm Wk⊢;have C:ab prog true (bI.bw σk) (aE prog Post bI σk 0 os out):=aE.ew;refine bH ?_;by_cases du:(kk:Int)<n
 ·refine C.fA rfl ?_;refine gu ?_;apply mj (X:=Nat×Nat×Nat×Nat×Nat) (λx=>(∀ i s,σk.aQ i=some s->¬ s.has x.2.1)) (λx=>[(0,aD n),(4,ay cb),(6,ay x.2.2.2.2),(17,aD n),(18,aD kk)]) (λx=>oW b 0 hs.v aR.v aR.v (.chan (some dn)) false ((kk:Int)*KQ)::bG jg 1 124 hs (l.map (·.h.bh))::all (l.map iQ)::da dn (.chan 0 #[] false 0 0 false)::da cb (.cells #[ay b] 31 (0,0))::
   da x.2.2.2.1 (.cells #[ay x.1,.chan (some x.2.1),.chan (some x.2.2.1)] 130 (0,0))::da x.2.1 (.chan 0 #[] false 0 0 false)::da x.2.2.1 (.chan 0 #[] false 0 0 false)::da x.2.2.2.2 (.cells #[ay x.2.2.2.1] 124 (0,0))::dk x.1 (j0 kk n)::F)
  ·intro jB;refine C.dx (cW 21 0 7++[(6,7)]) 9 [2,3,4,5,6,7,8] 0 ?_;refine A5 ?_;refine Ch.nk [2,3,4,7] (fa4 ?_ ?_ ?_ ?_)
   ·refine aY λe aa hk=>?_;refine C.fF (aI.less (dN _) e9) ?_;rintro v aP ⟨lB,rfl,rfl⟩;refine hk _ _ ?_
    (try simp only[fi,ez])
    refine Ch.nk [3,4,7] (fa3 ?_ ?_ ?_)
    ·refine aY λe aa hk=>?_;refine aE.mc underlying127 (aC type177) rfl (λkL lJ=>hk _ _ ?_);refine Ch.nk [4,7] (zl ?_ ?_)
     ·refine aY λe aa hk=>?_;refine aE.mc underlying128 (aC type71) rfl (λlE Er=>hk _ _ ?_);refine Ch.q 5 (λh=>C.bd rfl h) ?_;refine Ch.nk [6,7] (zl ?_ ?_)
      ·refine aY λe aa hk=>?_;refine C.bx rfl (λjb=>hk _ _ ?_);refine Ch.nk [7] (fS ?_);refine aY λe aa hk=>?_;refine aE.al rfl (λb6 h6=>hk _ _ ?_);refine Ch.nk [8] (fS ?_);refine aY λe aa hk=>?_;refine C.st rfl (hk _ undef ?_) (hr:=h6.rd _ _);refine fP ?_;exact bN jB (lB,kL,lE,jb,b6) lJ
      ·refine aY λe aa hk=>?_;refine aE.al rfl (λb6 h6=>hk _ _ ?_);refine Ch.nk [6] (fS ?_);refine aY λe aa hk=>?_;refine C.bx rfl (λjb=>hk _ _ ?_);refine Ch.nk [8] (fS ?_);refine aY λe aa hk=>?_;refine C.st rfl (hk _ undef ?_) (hr:=h6.rd _ _);refine fP ?_;exact bN jB (lB,kL,lE,jb,b6) lJ
     ·refine aY λe aa hk=>?_;refine aE.al rfl (λb6 h6=>hk _ _ ?_);refine Ch.nk [4] (fS ?_);refine aY λe aa hk=>?_;refine aE.mc underlying128 (aC type71) rfl (λlE Er=>hk _ _ ?_);refine Ch.q 5 (λh=>C.bd rfl h) ?_;refine Ch.nk [6] (fS ?_);refine aY λe aa hk=>?_;refine C.bx rfl (λjb=>hk _ _ ?_);refine Ch.nk [8] (fS ?_);refine aY λe aa hk=>?_;refine C.st rfl (hk _ undef ?_) (hr:=h6.rd _ _);refine fP ?_;exact bN jB (lB,kL,lE,jb,b6) lJ
    ·refine aY λe aa hk=>?_;refine aE.mc underlying128 (aC type71) rfl (λlE Er=>hk _ _ ?_);refine Ch.nk [3,7] (zl ?_ ?_)
     ·refine aY λe aa hk=>?_;refine aE.mc underlying127 (aC type177) rfl (λkL lJ=>hk _ _ ?_);refine Ch.q 5 (λh=>C.bd rfl h) ?_;refine Ch.nk [6,7] (zl ?_ ?_)
      ·refine aY λe aa hk=>?_;refine C.bx rfl (λjb=>hk _ _ ?_);refine Ch.nk [7] (fS ?_);refine aY λe aa hk=>?_;refine aE.al rfl (λb6 h6=>hk _ _ ?_);refine Ch.nk [8] (fS ?_);refine aY λe aa hk=>?_;refine C.st rfl (hk _ undef ?_) (hr:=h6.rd _ _);refine fP ?_;exact bN jB (lB,kL,lE,jb,b6) lJ
      ·refine aY λe aa hk=>?_;refine aE.al rfl (λb6 h6=>hk _ _ ?_);refine Ch.nk [6] (fS ?_);refine aY λe aa hk=>?_;refine C.bx rfl (λjb=>hk _ _ ?_);refine Ch.nk [8] (fS ?_);refine aY λe aa hk=>?_;refine C.st rfl (hk _ undef ?_) (hr:=h6.rd _ _);refine fP ?_;exact bN jB (lB,kL,lE,jb,b6) lJ
     ·refine aY λe aa hk=>?_;refine aE.al rfl (λb6 h6=>hk _ _ ?_);refine Ch.nk [3] (fS ?_);refine aY λe aa hk=>?_;refine aE.mc underlying127 (aC type177) rfl (λkL lJ=>hk _ _ ?_);refine Ch.q 5 (λh=>C.bd rfl h) ?_;refine Ch.nk [6] (fS ?_);refine aY λe aa hk=>?_;refine C.bx rfl (λjb=>hk _ _ ?_);refine Ch.nk [8] (fS ?_);refine aY λe aa hk=>?_;refine C.st rfl (hk _ undef ?_) (hr:=h6.rd _ _);refine fP ?_;exact bN jB (lB,kL,lE,jb,b6) lJ
    ·refine aY λe aa hk=>?_;refine aE.al rfl (λb6 h6=>hk _ _ ?_);refine Ch.nk [3,4] (zl ?_ ?_)
     ·refine aY λe aa hk=>?_;refine aE.mc underlying127 (aC type177) rfl (λkL lJ=>hk _ _ ?_);refine Ch.nk [4] (fS ?_);refine aY λe aa hk=>?_;refine aE.mc underlying128 (aC type71) rfl (λlE Er=>hk _ _ ?_);refine Ch.q 5 (λh=>C.bd rfl h) ?_;refine Ch.nk [6] (fS ?_);refine aY λe aa hk=>?_;refine C.bx rfl (λjb=>hk _ _ ?_);refine Ch.nk [8] (fS ?_);refine aY λe aa hk=>?_;refine C.st rfl (hk _ undef ?_) (hr:=h6.rd _ _);refine fP ?_;exact bN jB (lB,kL,lE,jb,b6) lJ
     ·refine aY λe aa hk=>?_;refine aE.mc underlying128 (aC type71) rfl (λlE Er=>hk _ _ ?_);refine Ch.nk [3] (fS ?_);refine aY λe aa hk=>?_;refine aE.mc underlying127 (aC type177) rfl (λkL lJ=>hk _ _ ?_);refine Ch.q 5 (λh=>C.bd rfl h) ?_;refine Ch.nk [6] (fS ?_);refine aY λe aa hk=>?_;refine C.bx rfl (λjb=>hk _ _ ?_);refine Ch.nk [8] (fS ?_);refine aY λe aa hk=>?_;refine C.st rfl (hk _ undef ?_) (hr:=h6.rd _ _);refine fP ?_;exact bN jB (lB,kL,lE,jb,b6) lJ
   ·refine aY λe aa hk=>?_;refine aE.mc underlying127 (aC type177) rfl (λkL lJ=>hk _ _ ?_);refine Ch.nk [2,4,7] (fa3 ?_ ?_ ?_)
    ·refine aY λe aa hk=>?_;refine C.fF (aI.less (dN _) e9) ?_;rintro v aP ⟨lB,rfl,rfl⟩;refine hk _ _ ?_
     (try simp only[fi,ez])
     refine Ch.nk [4,7] (zl ?_ ?_)
     ·refine aY λe aa hk=>?_;refine aE.mc underlying128 (aC type71) rfl (λlE Er=>hk _ _ ?_);refine Ch.q 5 (λh=>C.bd rfl h) ?_;refine Ch.nk [6,7] (zl ?_ ?_)
      ·refine aY λe aa hk=>?_;refine C.bx rfl (λjb=>hk _ _ ?_);refine Ch.nk [7] (fS ?_);refine aY λe aa hk=>?_;refine aE.al rfl (λb6 h6=>hk _ _ ?_);refine Ch.nk [8] (fS ?_);refine aY λe aa hk=>?_;refine C.st rfl (hk _ undef ?_) (hr:=h6.rd _ _);refine fP ?_;exact bN jB (lB,kL,lE,jb,b6) lJ
      ·refine aY λe aa hk=>?_;refine aE.al rfl (λb6 h6=>hk _ _ ?_);refine Ch.nk [6] (fS ?_);refine aY λe aa hk=>?_;refine C.bx rfl (λjb=>hk _ _ ?_);refine Ch.nk [8] (fS ?_);refine aY λe aa hk=>?_;refine C.st rfl (hk _ undef ?_) (hr:=h6.rd _ _);refine fP ?_;exact bN jB (lB,kL,lE,jb,b6) lJ
     ·refine aY λe aa hk=>?_;refine aE.al rfl (λb6 h6=>hk _ _ ?_);refine Ch.nk [4] (fS ?_);refine aY λe aa hk=>?_;refine aE.mc underlying128 (aC type71) rfl (λlE Er=>hk _ _ ?_);refine Ch.q 5 (λh=>C.bd rfl h) ?_;refine Ch.nk [6] (fS ?_);refine aY λe aa hk=>?_;refine C.bx rfl (λjb=>hk _ _ ?_);refine Ch.nk [8] (fS ?_);refine aY λe aa hk=>?_;refine C.st rfl (hk _ undef ?_) (hr:=h6.rd _ _);refine fP ?_;exact bN jB (lB,kL,lE,jb,b6) lJ
    ·refine aY λe aa hk=>?_;refine aE.mc underlying128 (aC type71) rfl (λlE Er=>hk _ _ ?_);refine Ch.nk [2,7] (zl ?_ ?_)
     ·refine aY λe aa hk=>?_;refine C.fF (aI.less (dN _) e9) ?_;rintro v aP ⟨lB,rfl,rfl⟩;refine hk _ _ ?_
      (try simp only[fi,ez])
      refine Ch.q 5 (λh=>C.bd rfl h) ?_;refine Ch.nk [6,7] (zl ?_ ?_)
      ·refine aY λe aa hk=>?_;refine C.bx rfl (λjb=>hk _ _ ?_);refine Ch.nk [7] (fS ?_);refine aY λe aa hk=>?_;refine aE.al rfl (λb6 h6=>hk _ _ ?_);refine Ch.nk [8] (fS ?_);refine aY λe aa hk=>?_;refine C.st rfl (hk _ undef ?_) (hr:=h6.rd _ _);refine fP ?_;exact bN jB (lB,kL,lE,jb,b6) lJ
      ·refine aY λe aa hk=>?_;refine aE.al rfl (λb6 h6=>hk _ _ ?_);refine Ch.nk [6] (fS ?_);refine aY λe aa hk=>?_;refine C.bx rfl (λjb=>hk _ _ ?_);refine Ch.nk [8] (fS ?_);refine aY λe aa hk=>?_;refine C.st rfl (hk _ undef ?_) (hr:=h6.rd _ _);refine fP ?_;exact bN jB (lB,kL,lE,jb,b6) lJ
     ·refine aY λe aa hk=>?_;refine aE.al rfl (λb6 h6=>hk _ _ ?_);refine Ch.nk [2] (fS ?_);refine aY λe aa hk=>?_;refine C.fF (aI.less (dN _) e9) ?_;rintro v aP ⟨lB,rfl,rfl⟩;refine hk _ _ ?_
      (try simp only[fi,ez])
      refine Ch.q 5 (λh=>C.bd rfl h) ?_;refine Ch.nk [6] (fS ?_);refine aY λe aa hk=>?_;refine C.bx rfl (λjb=>hk _ _ ?_);refine Ch.nk [8] (fS ?_);refine aY λe aa hk=>?_;refine C.st rfl (hk _ undef ?_) (hr:=h6.rd _ _);refine fP ?_;exact bN jB (lB,kL,lE,jb,b6) lJ
    ·refine aY λe aa hk=>?_;refine aE.al rfl (λb6 h6=>hk _ _ ?_);refine Ch.nk [2,4] (zl ?_ ?_)
     ·refine aY λe aa hk=>?_;refine C.fF (aI.less (dN _) e9) ?_;rintro v aP ⟨lB,rfl,rfl⟩;refine hk _ _ ?_
      (try simp only[fi,ez])
      refine Ch.nk [4] (fS ?_);refine aY λe aa hk=>?_;refine aE.mc underlying128 (aC type71) rfl (λlE Er=>hk _ _ ?_);refine Ch.q 5 (λh=>C.bd rfl h) ?_;refine Ch.nk [6] (fS ?_);refine aY λe aa hk=>?_;refine C.bx rfl (λjb=>hk _ _ ?_);refine Ch.nk [8] (fS ?_);refine aY λe aa hk=>?_;refine C.st rfl (hk _ undef ?_) (hr:=h6.rd _ _);refine fP ?_;exact bN jB (lB,kL,lE,jb,b6) lJ
     ·refine aY λe aa hk=>?_;refine aE.mc underlying128 (aC type71) rfl (λlE Er=>hk _ _ ?_);refine Ch.nk [2] (fS ?_);refine aY λe aa hk=>?_;refine C.fF (aI.less (dN _) e9) ?_;rintro v aP ⟨lB,rfl,rfl⟩;refine hk _ _ ?_
      (try simp only[fi,ez])
      refine Ch.q 5 (λh=>C.bd rfl h) ?_;refine Ch.nk [6] (fS ?_);refine aY λe aa hk=>?_;refine C.bx rfl (λjb=>hk _ _ ?_);refine Ch.nk [8] (fS ?_);refine aY λe aa hk=>?_;refine C.st rfl (hk _ undef ?_) (hr:=h6.rd _ _);refine fP ?_;exact bN jB (lB,kL,lE,jb,b6) lJ
   ·refine aY λe aa hk=>?_;refine aE.mc underlying128 (aC type71) rfl (λlE Er=>hk _ _ ?_);refine Ch.nk [2,3,7] (fa3 ?_ ?_ ?_)
    ·refine aY λe aa hk=>?_;refine C.fF (aI.less (dN _) e9) ?_;rintro v aP ⟨lB,rfl,rfl⟩;refine hk _ _ ?_
     (try simp only[fi,ez])
     refine Ch.nk [3,7] (zl ?_ ?_)
     ·refine aY λe aa hk=>?_;refine aE.mc underlying127 (aC type177) rfl (λkL lJ=>hk _ _ ?_);refine Ch.q 5 (λh=>C.bd rfl h) ?_;refine Ch.nk [6,7] (zl ?_ ?_)
      ·refine aY λe aa hk=>?_;refine C.bx rfl (λjb=>hk _ _ ?_);refine Ch.nk [7] (fS ?_);refine aY λe aa hk=>?_;refine aE.al rfl (λb6 h6=>hk _ _ ?_);refine Ch.nk [8] (fS ?_);refine aY λe aa hk=>?_;refine C.st rfl (hk _ undef ?_) (hr:=h6.rd _ _);refine fP ?_;exact bN jB (lB,kL,lE,jb,b6) lJ
      ·refine aY λe aa hk=>?_;refine aE.al rfl (λb6 h6=>hk _ _ ?_);refine Ch.nk [6] (fS ?_);refine aY λe aa hk=>?_;refine C.bx rfl (λjb=>hk _ _ ?_);refine Ch.nk [8] (fS ?_);refine aY λe aa hk=>?_;refine C.st rfl (hk _ undef ?_) (hr:=h6.rd _ _);refine fP ?_;exact bN jB (lB,kL,lE,jb,b6) lJ
     ·refine aY λe aa hk=>?_;refine aE.al rfl (λb6 h6=>hk _ _ ?_);refine Ch.nk [3] (fS ?_);refine aY λe aa hk=>?_;refine aE.mc underlying127 (aC type177) rfl (λkL lJ=>hk _ _ ?_);refine Ch.q 5 (λh=>C.bd rfl h) ?_;refine Ch.nk [6] (fS ?_);refine aY λe aa hk=>?_;refine C.bx rfl (λjb=>hk _ _ ?_);refine Ch.nk [8] (fS ?_);refine aY λe aa hk=>?_;refine C.st rfl (hk _ undef ?_) (hr:=h6.rd _ _);refine fP ?_;exact bN jB (lB,kL,lE,jb,b6) lJ
    ·refine aY λe aa hk=>?_;refine aE.mc underlying127 (aC type177) rfl (λkL lJ=>hk _ _ ?_);refine Ch.nk [2,7] (zl ?_ ?_)
     ·refine aY λe aa hk=>?_;refine C.fF (aI.less (dN _) e9) ?_;rintro v aP ⟨lB,rfl,rfl⟩;refine hk _ _ ?_
      (try simp only[fi,ez])
      refine Ch.q 5 (λh=>C.bd rfl h) ?_;refine Ch.nk [6,7] (zl ?_ ?_)
      ·refine aY λe aa hk=>?_;refine C.bx rfl (λjb=>hk _ _ ?_);refine Ch.nk [7] (fS ?_);refine aY λe aa hk=>?_;refine aE.al rfl (λb6 h6=>hk _ _ ?_);refine Ch.nk [8] (fS ?_);refine aY λe aa hk=>?_;refine C.st rfl (hk _ undef ?_) (hr:=h6.rd _ _);refine fP ?_;exact bN jB (lB,kL,lE,jb,b6) lJ
      ·refine aY λe aa hk=>?_;refine aE.al rfl (λb6 h6=>hk _ _ ?_);refine Ch.nk [6] (fS ?_);refine aY λe aa hk=>?_;refine C.bx rfl (λjb=>hk _ _ ?_);refine Ch.nk [8] (fS ?_);refine aY λe aa hk=>?_;refine C.st rfl (hk _ undef ?_) (hr:=h6.rd _ _);refine fP ?_;exact bN jB (lB,kL,lE,jb,b6) lJ
     ·refine aY λe aa hk=>?_;refine aE.al rfl (λb6 h6=>hk _ _ ?_);refine Ch.nk [2] (fS ?_);refine aY λe aa hk=>?_;refine C.fF (aI.less (dN _) e9) ?_;rintro v aP ⟨lB,rfl,rfl⟩;refine hk _ _ ?_
      (try simp only[fi,ez])
      refine Ch.q 5 (λh=>C.bd rfl h) ?_;refine Ch.nk [6] (fS ?_);refine aY λe aa hk=>?_;refine C.bx rfl (λjb=>hk _ _ ?_);refine Ch.nk [8] (fS ?_);refine aY λe aa hk=>?_;refine C.st rfl (hk _ undef ?_) (hr:=h6.rd _ _);refine fP ?_;exact bN jB (lB,kL,lE,jb,b6) lJ
    ·refine aY λe aa hk=>?_;refine aE.al rfl (λb6 h6=>hk _ _ ?_);refine Ch.nk [2,3] (zl ?_ ?_)
     ·refine aY λe aa hk=>?_;refine C.fF (aI.less (dN _) e9) ?_;rintro v aP ⟨lB,rfl,rfl⟩;refine hk _ _ ?_
      (try simp only[fi,ez])
      refine Ch.nk [3] (fS ?_);refine aY λe aa hk=>?_;refine aE.mc underlying127 (aC type177) rfl (λkL lJ=>hk _ _ ?_);refine Ch.q 5 (λh=>C.bd rfl h) ?_;refine Ch.nk [6] (fS ?_);refine aY λe aa hk=>?_;refine C.bx rfl (λjb=>hk _ _ ?_);refine Ch.nk [8] (fS ?_);refine aY λe aa hk=>?_;refine C.st rfl (hk _ undef ?_) (hr:=h6.rd _ _);refine fP ?_;exact bN jB (lB,kL,lE,jb,b6) lJ
     ·refine aY λe aa hk=>?_;refine aE.mc underlying127 (aC type177) rfl (λkL lJ=>hk _ _ ?_);refine Ch.nk [2] (fS ?_);refine aY λe aa hk=>?_;refine C.fF (aI.less (dN _) e9) ?_;rintro v aP ⟨lB,rfl,rfl⟩;refine hk _ _ ?_
      (try simp only[fi,ez])
      refine Ch.q 5 (λh=>C.bd rfl h) ?_;refine Ch.nk [6] (fS ?_);refine aY λe aa hk=>?_;refine C.bx rfl (λjb=>hk _ _ ?_);refine Ch.nk [8] (fS ?_);refine aY λe aa hk=>?_;refine C.st rfl (hk _ undef ?_) (hr:=h6.rd _ _);refine fP ?_;exact bN jB (lB,kL,lE,jb,b6) lJ
   ·refine aY λe aa hk=>?_;refine aE.al rfl (λb6 h6=>hk _ _ ?_);refine Ch.nk [2,3,4] (fa3 ?_ ?_ ?_)
    ·refine aY λe aa hk=>?_;refine C.fF (aI.less (dN _) e9) ?_;rintro v aP ⟨lB,rfl,rfl⟩;refine hk _ _ ?_
     (try simp only[fi,ez])
     refine Ch.nk [3,4] (zl ?_ ?_)
     ·refine aY λe aa hk=>?_;refine aE.mc underlying127 (aC type177) rfl (λkL lJ=>hk _ _ ?_);refine Ch.nk [4] (fS ?_);refine aY λe aa hk=>?_;refine aE.mc underlying128 (aC type71) rfl (λlE Er=>hk _ _ ?_);refine Ch.q 5 (λh=>C.bd rfl h) ?_;refine Ch.nk [6] (fS ?_);refine aY λe aa hk=>?_;refine C.bx rfl (λjb=>hk _ _ ?_);refine Ch.nk [8] (fS ?_);refine aY λe aa hk=>?_;refine C.st rfl (hk _ undef ?_) (hr:=h6.rd _ _);refine fP ?_;exact bN jB (lB,kL,lE,jb,b6) lJ
     ·refine aY λe aa hk=>?_;refine aE.mc underlying128 (aC type71) rfl (λlE Er=>hk _ _ ?_);refine Ch.nk [3] (fS ?_);refine aY λe aa hk=>?_;refine aE.mc underlying127 (aC type177) rfl (λkL lJ=>hk _ _ ?_);refine Ch.q 5 (λh=>C.bd rfl h) ?_;refine Ch.nk [6] (fS ?_);refine aY λe aa hk=>?_;refine C.bx rfl (λjb=>hk _ _ ?_);refine Ch.nk [8] (fS ?_);refine aY λe aa hk=>?_;refine C.st rfl (hk _ undef ?_) (hr:=h6.rd _ _);refine fP ?_;exact bN jB (lB,kL,lE,jb,b6) lJ
    ·refine aY λe aa hk=>?_;refine aE.mc underlying127 (aC type177) rfl (λkL lJ=>hk _ _ ?_);refine Ch.nk [2,4] (zl ?_ ?_)
     ·refine aY λe aa hk=>?_;refine C.fF (aI.less (dN _) e9) ?_;rintro v aP ⟨lB,rfl,rfl⟩;refine hk _ _ ?_
      (try simp only[fi,ez])
      refine Ch.nk [4] (fS ?_);refine aY λe aa hk=>?_;refine aE.mc underlying128 (aC type71) rfl (λlE Er=>hk _ _ ?_);refine Ch.q 5 (λh=>C.bd rfl h) ?_;refine Ch.nk [6] (fS ?_);refine aY λe aa hk=>?_;refine C.bx rfl (λjb=>hk _ _ ?_);refine Ch.nk [8] (fS ?_);refine aY λe aa hk=>?_;refine C.st rfl (hk _ undef ?_) (hr:=h6.rd _ _);refine fP ?_;exact bN jB (lB,kL,lE,jb,b6) lJ
     ·refine aY λe aa hk=>?_;refine aE.mc underlying128 (aC type71) rfl (λlE Er=>hk _ _ ?_);refine Ch.nk [2] (fS ?_);refine aY λe aa hk=>?_;refine C.fF (aI.less (dN _) e9) ?_;rintro v aP ⟨lB,rfl,rfl⟩;refine hk _ _ ?_
      (try simp only[fi,ez])
      refine Ch.q 5 (λh=>C.bd rfl h) ?_;refine Ch.nk [6] (fS ?_);refine aY λe aa hk=>?_;refine C.bx rfl (λjb=>hk _ _ ?_);refine Ch.nk [8] (fS ?_);refine aY λe aa hk=>?_;refine C.st rfl (hk _ undef ?_) (hr:=h6.rd _ _);refine fP ?_;exact bN jB (lB,kL,lE,jb,b6) lJ
    ·refine aY λe aa hk=>?_;refine aE.mc underlying128 (aC type71) rfl (λlE Er=>hk _ _ ?_);refine Ch.nk [2,3] (zl ?_ ?_)
     ·refine aY λe aa hk=>?_;refine C.fF (aI.less (dN _) e9) ?_;rintro v aP ⟨lB,rfl,rfl⟩;refine hk _ _ ?_
      (try simp only[fi,ez])
      refine Ch.nk [3] (fS ?_);refine aY λe aa hk=>?_;refine aE.mc underlying127 (aC type177) rfl (λkL lJ=>hk _ _ ?_);refine Ch.q 5 (λh=>C.bd rfl h) ?_;refine Ch.nk [6] (fS ?_);refine aY λe aa hk=>?_;refine C.bx rfl (λjb=>hk _ _ ?_);refine Ch.nk [8] (fS ?_);refine aY λe aa hk=>?_;refine C.st rfl (hk _ undef ?_) (hr:=h6.rd _ _);refine fP ?_;exact bN jB (lB,kL,lE,jb,b6) lJ
     ·refine aY λe aa hk=>?_;refine aE.mc underlying127 (aC type177) rfl (λkL lJ=>hk _ _ ?_);refine Ch.nk [2] (fS ?_);refine aY λe aa hk=>?_;refine C.fF (aI.less (dN _) e9) ?_;rintro v aP ⟨lB,rfl,rfl⟩;refine hk _ _ ?_
      (try simp only[fi,ez])
      refine Ch.q 5 (λh=>C.bd rfl h) ?_;refine Ch.nk [6] (fS ?_);refine aY λe aa hk=>?_;refine C.bx rfl (λjb=>hk _ _ ?_);refine Ch.nk [8] (fS ?_);refine aY λe aa hk=>?_;refine C.st rfl (hk _ undef ?_) (hr:=h6.rd _ _);refine fP ?_;exact bN jB (lB,kL,lE,jb,b6) lJ
  ·rintro⟨lB,kL,lE,jb,b6⟩ lJ e;dsimp only at lJ⊢;refine At.apart (b:=kL) (x:=dn) fg.au (λRN=>?_);have hl4:l.length<=3:=ai;refine C.A4 (cW 28 0 10) 11 [6,7,8,9,10] 2 ?_ (W:=[oW b 0 hs.v aR.v aR.v (.chan (some dn)) false ((kk:Int)*KQ),da cb (.cells #[ay b] 31 (0,0)),da b6 (.cells #[ay jb] 124 (0,0))]);refine pF ?_;refine Dr.chain rfl ?_ (λ_ s=>cV.sat cV.au s);refine Ch.nk [6] (fS ?_);refine aY λe aa hk=>?_;refine C.AV rfl (λTV=>hk _ _ .cons ?_);refine Ch.nk [7] (fS ?_);refine aY λe aa hk=>?_;refine aE.ap (f:=jg) (z:=1) (el:=124) (m:=[jb]) (l:=l.map (·.h.bh)) (s:=hs) rfl Fo.au Wk (λj=>rfl) (λH s=>.inr ⟨TV,0,1,#[ay jb],124,rfl,Has.get Has.au s,e8 1,rfl,λj=>rfl⟩) (λs' hl ha=>hk _ _ pU ?_) (by simp;omega) rfl (by decide) rfl rfl;refine Ch.q 8 (λh=>C.nc rfl h) ?_;refine Ch.q 9 (λh=>C.fa rfl h) ?_;refine Ch.nk [10] (fS ?_);refine aY λe aa hk=>?_;refine C.st rfl (hk _ undef ?_);refine zI ?_;refine C.cE (Qv (k:=kk) ai) ?_;refine oU ?_;refine C.mf rfl ?_;refine At.Dg (s:=s') (x:=cb) fg.au (λa1=>?_);refine At.Dg (s:=s') (x:=b6) fg.au (λa2=>?_);refine At.Dg (s:=s') (x:=b) fg.au (λa3=>?_);refine At.Dg (s:=s') (x:=jb) fg.au (λa4=>?_);have abZ:σk.n≠0:=by have:=N.n;have:=hσ.n;omega
   refine aE.go (x:=⟨.fn (.func 54) #[ay cb,ay b6],#[]⟩) (eL ⟨σk.n,b6,jb,lB,kL,lE⟩ ⟨b,cb,dn⟩) rfl rfl (TU rfl) ⟨_,_,rfl⟩ (Gq RN) (λH s=>(rS (h:=⟨σk.n,b6,jb,lB,kL,lE⟩) (C:=⟨b,cb,dn⟩) (kw:=0) (kd:=0) (by decide) (Has.get Has.au s) (Has.get Has.au s) (Has.get Has.au s) rfl (Has.get Has.au s) rfl (Has.get Has.au s) (Has.get Has.au s)).1)
    (λH s=>(rS (h:=⟨σk.n,b6,jb,lB,kL,lE⟩) (C:=⟨b,cb,dn⟩) (i:=1) (kw:=0) (kd:=0) (by decide) (Has.get Has.au s) (Has.get Has.au s) (Has.get Has.au s) rfl (Has.get Has.au s) rfl (Has.get Has.au s) (Has.get Has.au s)).2) ⟨600,Mr (h:=⟨σk.n,b6,jb,lB,kL,lE⟩) (C:=⟨b,cb,dn⟩)⟩ abZ abZ ?_
   have C:ab prog true (bI.bw (σk.pa (eL ⟨σk.n,b6,jb,lB,kL,lE⟩ ⟨b,cb,dn⟩))) (aE prog Post bI (σk.pa (eL ⟨σk.n,b6,jb,lB,kL,lE⟩ ⟨b,cb,dn⟩)) 0 os out):=aE.ew;refine eP ?_;refine iQ.cls ⟨⟨σk.n,b6,jb,lB,kL,lE⟩,j0 kk n,0,0⟩ ?_;refine yj (f:=iQ) (l:=l) ⟨⟨σk.n,b6,jb,lB,kL,lE⟩,j0 kk n,0,0⟩ fg.au ?_;rw[show l.map (·.h.bh)++[jb]=(l++[(⟨⟨σk.n,b6,jb,lB,kL,lE⟩,j0 kk n,0,0⟩:HV)]).map (·.h.bh) by simp];refine WQ (c:=.skip) ih (σk.pa (eL ⟨σk.n,b6,jb,lB,kL,lE⟩ ⟨b,cb,dn⟩),s',l++[⟨⟨σk.n,b6,jb,lB,kL,lE⟩,j0 kk n,0,0⟩],kk+1) rfl ⟨N.hire (v:=⟨⟨σk.n,b6,jb,lB,kL,lE⟩,j0 kk n,0,0⟩) rfl hσ.lt lJ RN,by simp[oI],by show((kk+1:Nat):Int)<=n;omega,?_,?_⟩ (by show(n-((kk+1:Nat):Int)).toNat<(n-(kk:Int)).toNat;omega)
   ·show(l++[_]).map _=_;have Hm:kk<(upto n).length:=by simp[upto];omega
    rw[eI,hm,ED,cK Hm];simp[upto]
   ·intro b' oG i s p hi hp z;have hi:Go.ConcN.upd σk.aQ σk.n (some (eL ⟨σk.n,b6,jb,lB,kL,lE⟩ ⟨b,cb,dn⟩)) i=some s:=hi;by_cases e1:i=σk.n
    ·subst e1;rw[Go.ConcN.upd_same]at hi;obtain rfl:=bR hi;simp only[eL,fR,m6,gm]at hp;rcases hp with rfl|rfl|rfl|rfl
     ·exact a1 b' oG z.symm
     ·exact a2 b' oG z.symm
     ·exact a3 b' oG z.symm
     ·exact a4 b' oG z.symm
    ·rw[Go.ConcN.upd_ne _ _ e1]at hi;exact ha b' oG i s p hi hp z
 ·refine C.dS rfl ?_;refine gU ?_;subst oI;refine At.aR dt 7 159 (At.aR Cj 3 95 ?_);refine cY.cls ⟨⟨b,cb,dn⟩,l,[],[],false⟩ ?_ (hs:=hs) (bg:=aR) (tx:=aR);have hl:(l.length:Int)=n:=ai;refine aE.cm aT ak ⟨⟨⟨b,cb,dn⟩,l,[],[],false⟩,N,rfl,rfl,?_,rfl,rfl,rfl⟩;rw[hm,jD];simp[upto];omega
theorem At.afA{R:Nat->aM->Array Obj->Prop}{d:Nat}{As L:List HP}{g:aM}{α:Type}{f:α->List Value}{z:Nat}{el:aO}{s:az}{l:List α}(hf:Fo (bG f z el s l) As L)(h:∀ J,fI J f el s l->(∀ h,bD J h->bG f z el s l h)->At R d (bD J::L) g):At R d As g:=
 At.fo hf λH st=>by
  obtain⟨hh,x,jd,hr⟩:=st;refine h hh ?_ (λh e=>by have e:h=hh:=e;rw[e];exact x) H ⟨hh,rfl,jd,hr⟩;rcases x with⟨e1,e2⟩|⟨b,pad,e,_,_,hp⟩
  ·exact .inl ⟨e1,e2⟩
  ·have hb:s.b=b:=by rw[e];rfl
   have hp:hh=one b _:=hp;exact .inr ⟨pad,by rw[hb];exact e,by rw[hb,hp];simp[one]⟩
theorem Cv{σ:Gh}{n:Int}(hn:1<=n/\n<=4)(hσ:QH σ):bA prog bI 10 #[aD n] σ [] (λv σ' As=>∃ c:CV,rT σ σ' c.G c.ah/\v=.tuple #[ay c.G.b,aD 0]/\As=[cY c]/\c.ah.map (·.s)=((upto n).map λk=>j0 k n)/\c.aK=[]/\c.aF=[]/\c.aj=false):=by refine bA.of ?_;intro Post os out kd F c' cs C aT ak;refine RZ ?_;refine aE.j9 (A:=[]) (QI hn hσ) ?_;rintro v σ' aP ⟨c,N,rfl,rfl,h1,h2,h3,h4⟩;have C:ab prog true (bI.bw σ') (aE prog Post bI σ' 0 os out):=aE.ew;refine Ky ?_;refine C.WW underlying64 rfl ?_;refine nT ?_;exact aE.eK aT ak ⟨c,N,rfl,rfl,h1,h2,h3,h4⟩
theorem gg{ao:Bool}{nm:Value}{at_:Int}:aI prog ao cH 28 #[.nilIface,nm,aD at_] [] (λv As=>v=aD 0/\As=[]):=by refine aI.of λR C kd d F c cs aT ak=>?_;refine qY ?_;refine gu ?_;refine C.WW underlying64 rfl ?_;refine eP ?_;exact C.cm aT ak ⟨rfl,rfl⟩
def Ai:Option Nat->Int
 |none=>0
 |some k=>k+1
end
section
open Go.Proofs Go.Conc
section
variable{P:bL}{ao:Bool}{B:kJ}{R:Nat->aM->Array Obj->Prop}{d:Nat}{As:List HP}
variable{fn:bJ}{kd:Kd}{n:Nat}{e:Nat->Value}{ds:List eo}{k:List Item}{cs:List Frame}
variable{ops:Array Oper}{i:Nat}{aa:List Nat}{t:Nat}{ty:aO}{pos:String}{af:Array Edge}{gd:Option (Nat×Bool)}{x y:cZ}
theorem ab.eqQ(C:ab P ao B R){op:BinOp}{r:Bool}{tt t2 tp:aO}[cP:Pt P tt tp]{a:Option Addr}(ho:aZ ops i=some ⟨some t,.binOp op tt x y t2,ty,pos,af,gd⟩)(h:At R d As (gr fn kd n (put e t (.bool (a.isNone==r))) ds (.inRegion ops aa::k) cs))
  (cG:isEq op=some r:=by rfl) (hx:ev n e x=.pointer a:=by rfl) (hy:ev n e y=.pointer none:=by rfl) (hw:aL ops n e gd=true:=by rfl):At R d As (gr fn kd n e ds (.inRegion ops (i::aa)::k) cs):=
 C.v0 ho h (by
  unfold execOp;simp only[hx,hy];refine bC (a:=.bool (a.isNone==r)) ?_ rfl;have h0:fW P (Op.equal tt (.pointer a) (.pointer none))=some a.isNone:=by unfold Op.equal;show fW P (Op.equalIn (9998+1+1) _ _ _)=_;unfold Op.equalIn;refine bC (fL cP.h) ?_;cases a<;>rfl
  cases op<;>first|(cases cG;done)|skip
  ·obtain rfl:=bR cG;refine bC (a:=()) (by unfold eqGuard;rfl) ?_;refine bC h0 ?_;cases a<;>rfl
  ·obtain rfl:=bR cG;refine bC (a:=()) (by unfold eqGuard;rfl) ?_;refine bC h0 ?_;cases a<;>rfl) hw
end
structure xy where
 kind:Int
 cl:Int
 a:Int
 b:Int
 c:Int
 so:Value
 ops:List bP
def tw(s:xy):List Value:=[aD s.kind,aD s.cl,aD s.a,aD s.b,aD s.c,s.so]
def ZH(x:Int):Prop:= -9223372036854775808<=x/\x<=9223372036854775807
structure tA(I:HL)(bot:Nat)(s:xy):Prop where
 kind:ZH s.kind
 cl:ZH s.cl
 a:ZH s.a
 b:ZH s.b
 c:ZH s.c
 o:Ah I bot sW 3 s.so s.ops
 z:∀ o∈s.ops,OpZ o
 len:s.ops.length*24<=140737488355328
theorem tA.mono{I I':HL}{bot:Nat}{s:xy}(h:tA I bot s)(hs:Sub I I'):tA I' bot s:={h with o:=h.o.mono hs}
structure pN(σ:Gh):Prop where
 n:σ.n≠0
 no:∀ i,σ.aQ i=none
theorem pN.ok{σ:Gh}(h:pN σ):QH σ:=⟨h.n,λi s e=>by rw[h.no]at e;cases e⟩
end
section
open Go.Proofs Go.Conc
variable{R:Nat->aM->Array Obj->Prop}{d:Nat}{As F L:List HP}{g:aM}{rs:List tZ}{q:Nat}
theorem TW(hi:q<rs.length)(hf:Fo (all (rs.map sX)) As L)(h:At R d (bG cS 3 37 rs[q].so rs[q].ops::bG cX 1 21 rs[q].sr rs[q].reads::all ((rs.eraseIdx q).map sX)::L) g):At R d As g:=
 Dc (f:=sX) hi hf λH s=>h H (Sat.flat (l:=[bG cS 3 37 rs[q].so rs[q].ops,bG cX 1 21 rs[q].sr rs[q].reads]) s)
def vJ(d:Int)(m:List (Int×Int)):List Int:=(List.range 26).map λ(k:Nat)=>(aB m (97+(k:Int))).getD d
theorem mD(d:Int)(m:List (Int×Int)):(vJ d m).length=26:=by simp[vJ]
theorem Aj(d:Int)(m:List (Int×Int)){k:Nat}(h:k<26):(vJ d m)[k]'(by rw[mD];exact h)=(aB m (97+(k:Int))).getD d:=by simp[vJ]
def Bc(d:Int)(m:List (Int×Int))(k:Nat):List Int:=(vJ d m).take k++List.replicate (26-k) 0
theorem ow(d:Int)(m:List (Int×Int)){k:Nat}(h:k<=26):(Bc d m k).length=26:=by simp[Bc,mD];omega
theorem ys(d:Int)(m:List (Int×Int)){k:Nat}(h:k<26):(Bc d m k).set k ((aB m (97+(k:Int))).getD d)=Bc d m (k+1):=by
 unfold Bc;have hl:((vJ d m).take k).length=k:=by rw[jS,mD];omega
 rw[V7 _ _ ai,hl,yF,show 26-k=(26-(k+1))+1 by omega,List.replicate_succ,sK,iM (by rw[mD];exact h),Aj d m h,sN];rfl
theorem KU(d:Int)(m:List (Int×Int)):Bc d m 26=vJ d m:=by unfold Bc;rw[jD (by rw[mD];exact e8 _)];simp
structure Over(l' lx:List (Int×Int))(pT:List Int):Prop where
 keys:lx.map (·.1)=l'.map (·.1)
 nd:(l'.map (·.1)).Nodup
 vn:pT.Nodup
 vs:∀ k∈pT,k∈l'.map (·.1)
theorem ng{X:Type}[DecidableEq X]:∀ {a b:List X},a.Nodup->(∀ x∈a,x∈b)->a.length<=b.length
 |[],_,_,_=>eW _
 |x::a,b,h,hs=>by
  have hx:=hs x (fY ..);have nd:=oX.1 h;have hp:=NX hx;have:=ng (b:=b.erase x) nd.2 λy hy=>by
   have h1:=hp.mem_iff.1 (hs y (fp _ hy));rcases fR.1 h1 with h2|h2
   ·rw[h2]at hy;exact absurd hy nd.1
   ·exact h2
  rw[hp.length_eq];simp only[jC];omega
theorem Over.step{l' lx:List (Int×Int)}{pT:List Int}(h:Over l' lx pT){k w:Int}(hm:(k,w)∈lx)(hn:k∉pT)(w':Int):Over l' (bB lx k w') (k::pT)/\pT.length<l'.length/\(aB lx k).isSome=true:=by
 have Qn:(lx.map (·.1)).Nodup:=by rw[h.keys];exact h.nd
 have hg:=eG Qn hm;have hk:k∈l'.map (·.1):=by rw[<- h.keys];exact bM.2 ⟨_,hm,rfl⟩
 have hv:∀ x∈k::pT,x∈l'.map (·.1):=λx hx=>by
  rcases fR.1 hx with rfl|hx
  ·exact hk
  ·exact h.vs x hx
 refine⟨⟨by rw[vX,hg];exact h.keys,h.nd,oX.2 ⟨hn,h.vn⟩,hv⟩,?_,by rw[hg];rfl⟩;have:=ng (oX.2 ⟨hn,h.vn⟩) hv;simp only[jC,dW]at this;omega
theorem IK{σ:Gh}{c:CV}{k:Int}(hn:c.ah.length<=4):bA prog bI 14 #[ay c.G.b,aD k] σ [cY c]
  (λv σ' As=>σ'=σ/\∃ (sl:az) (l':List (Int×Int)),v=.tuple #[sl.v,aD l'.length]/\(l'.map (·.1)).Nodup/\(match js c.ah k with|none=>l'=[]|some v=>l'.Perm (v.s.values.filter λp=>p.2 != 0))/\As=[bG cX 1 21 sl (vJ 0 l'),cY c]):=by
 refine bA.of ?_;intro Post os out kd F c' cs C aT ak;refine Ky ?_;refine aE.j9 (DO hn) ?_;rintro v σ' aP ⟨rfl,b',l',rfl,wV,rfl⟩;refine cr ?_;refine At.EU (A:=db .u8 fC b' l') Fo.au vH λmP=>?_;have hnz:∀ q w,aB l' q=some w->w≠0:=λq w hg=>by
  have hm:=bQ hg;cases hh:js c.ah k with
  |none=>rw[hh]at wV;rw[wV]at hm;cases hm
  |some u=>rw[hh]at wV;have:=gI.1 (wV.mem_iff.1 hm);simpa using this.2
 refine dK ?_;refine C.ms (f:=cX) (a0:=0) rfl rfl (λyq=>?_);refine bH ?_;refine At.own (l:=Bc 0 l' 0) (f:=cX) (z:=1) ⟨some ⟨yq,0,none⟩,26,26⟩ [] rfl rfl (e8 _) .head ?_;refine bH ?_;refine C.Zp rfl ?_ (g:=fC) (l:=l');refine dX ?_;refine C.pS rfl ?_ (s:=⟨some ⟨yq,0,none⟩,26,26⟩) (l:=Bc 0 l' 0) (f:=cX);refine bH ?_;refine C.cu (X:=Nat) (λx=>[(6,.map (some b')),(7,.slice (some ⟨yq,0,none⟩) 26 26),(8,aD l'.length),(20,aD 26),(21,aD x)]) (λx=>bG cX 1 21 ⟨some ⟨yq,0,none⟩,26,26⟩ (Bc 0 l' x)::db .u8 fC b' l'::cY c::F) (λx=>x<=26) (λx=>26-x) 0 ⟨rfl,rfl,rfl,rfl,rfl,trivial⟩ (eW _) ?_;intro x e hx ih;refine bH ?_;refine C.cmp rfl (λMa=>?_) (λMa=>?_)
 ·refine bH ?_;have rU:x<26:=ai;refine oT ?_;refine C.lkC (g:=fC) (l:=l') (q:=97+(x:Int)) rfl (λw29 VK=>?_) (λVK=>?_)
  ·refine tU ?_;refine C.dS rfl ?_ (hf:=hnz _ _ VK);refine gU ?_;refine C.dQ rfl ?_ (s:=⟨some ⟨yq,0,none⟩,26,26⟩) (l:=Bc 0 l' x) (f:=cX) (j:=x) (hj:=by rw[ow 0 l' hx];exact rU);refine C.jA (s:=⟨some ⟨yq,0,none⟩,26,26⟩) (l:=Bc 0 l' x) (j:=x) ((aB l' (97+(x:Int))).getD 0) rfl ?_ (hj:=by rw[ow 0 l' hx];exact rU) (ha:=by rw[VK];rfl);refine eP ?_;rw[ys 0 l' rU];exact again ih (x+1) rU ai
  ·refine kj ?_;refine eP ?_;refine C.dQ rfl ?_ (s:=⟨some ⟨yq,0,none⟩,26,26⟩) (l:=Bc 0 l' x) (f:=cX) (j:=x) (hj:=by rw[ow 0 l' hx];exact rU);refine C.jA (s:=⟨some ⟨yq,0,none⟩,26,26⟩) (l:=Bc 0 l' x) (j:=x) ((aB l' (97+(x:Int))).getD 0) rfl ?_ (hj:=by rw[ow 0 l' hx];exact rU) (ha:=by rw[VK];rfl);refine eP ?_;rw[ys 0 l' rU];exact again ih (x+1) rU ai
 ·refine dX ?_;have QJ:x=26:=ai;subst QJ;rw[KU];refine C.rn (g:=fC) (l:=l') rfl (λMG=>?_)
  skip
  refine C.go ?_;refine C.cu (X:=List (Int×Int)×List Int) (λ_=>[(6,.map (some b')),(7,.slice (some ⟨yq,0,none⟩) 26 26),(8,aD l'.length),(43,.pointer (some ⟨MG,0,none⟩))]) (λy=>HN .u8 fC b' MG y.1 y.2::bG cX 1 21 ⟨some ⟨yq,0,none⟩,26,26⟩ (vJ 0 l')::cY c::F) (λy=>Over l' y.1 y.2) (λy=>l'.length-y.2.length) (l',[]) ⟨rfl,rfl,rfl,rfl,trivial⟩ ⟨rfl,mP,.nil,by simp⟩ ?_;rintro⟨lx,pT⟩ e TX ih;dsimp only at TX⊢;refine bH ?_;refine C.nx (g:=fC) (l:=lx) rfl (λk44 w44 m44 h44=>?_) (λh44=>?_)
  ·refine dK ?_;have Qn:(lx.map (·.1)).Nodup:=by rw[TX.keys];exact TX.nd
   have afC:=eG Qn m44;obtain⟨X5,du,OP⟩:=TX.step m44 h44 7;refine fG ?_;refine C.ent afC rfl ?_ Fo.au;refine gu ?_;refine C.muI (w:=7) (l:=lx) (q:=k44) (g:=fC) OP rfl ?_;refine C.go ?_;exact again ih (bB lx k44 7,k44::pT) X5 (by simp only[jC];omega)
  ·refine oT ?_;exact aE.eK aT ak ⟨rfl,⟨some ⟨yq,0,none⟩,26,26⟩,l',rfl,mP,wV,rfl⟩
theorem MH{σ:Gh}{c:CV}{k:Int}(hn:c.ah.length<=4):bA prog bI 31 #[ay c.G.b,aD k] σ [cY c]
  (λv σ' As=>σ'=σ/\∃ (sl:az) (l':List (Int×Int)),v=.tuple #[sl.v,aD l'.length]/\(l'.map (·.1)).Nodup/\(match js c.ah k with|none=>l'=[]|some v=>l'.Perm v.s.aX)/\As=[bG aJ 1 3 sl (vJ (-1) l'),cY c]):=by
 refine bA.of ?_;intro Post os out kd F c' cs C aT ak;refine Ky ?_;refine aE.j9 (Gi hn) ?_;rintro v σ' aP ⟨rfl,b',l',rfl,wV,rfl⟩;refine cr ?_;refine At.EU (A:=db .u8 dV b' l') Fo.au vH λmP=>?_;refine dK ?_;refine C.ms (f:=aJ) (a0:=0) rfl rfl (λyq=>?_);refine bH ?_;refine At.own (l:=Bc (-1) l' 0) (f:=aJ) (z:=1) ⟨some ⟨yq,0,none⟩,26,26⟩ [] rfl rfl (e8 _) .head ?_;refine bH ?_;refine C.pS rfl ?_ (s:=⟨some ⟨yq,0,none⟩,26,26⟩) (l:=Bc (-1) l' 0) (f:=aJ);refine bH ?_;refine C.cu (X:=Nat) (λx=>[(6,.map (some b')),(7,.slice (some ⟨yq,0,none⟩) 26 26),(18,aD 26),(19,aD x)]) (λx=>bG aJ 1 3 ⟨some ⟨yq,0,none⟩,26,26⟩ (Bc (-1) l' x)::db .u8 dV b' l'::cY c::F) (λx=>x<=26) (λx=>26-x) 0 ⟨rfl,rfl,rfl,rfl,trivial⟩ (eW _) ?_;intro x e hx ih;refine bH ?_;refine C.cmp rfl (λCm=>?_) (λCm=>?_)
 ·refine bH ?_;have rU:x<26:=ai;refine oT ?_;refine C.lkC (g:=dV) (l:=l') (q:=97+(x:Int)) rfl (λw27 A8=>?_) (λA8=>?_)
  ·refine kj ?_;refine bH ?_;refine C.dQ rfl ?_ (s:=⟨some ⟨yq,0,none⟩,26,26⟩) (l:=Bc (-1) l' x) (f:=aJ) (j:=x) (hj:=by rw[ow (-1) l' hx];exact rU);refine C.jA (s:=⟨some ⟨yq,0,none⟩,26,26⟩) (l:=Bc (-1) l' x) (j:=x) ((aB l' (97+(x:Int))).getD (-1)) rfl ?_ (hj:=by rw[ow (-1) l' hx];exact rU) (ha:=by rw[A8];rfl);refine eP ?_;rw[ys (-1) l' rU];exact again ih (x+1) rU ai
  ·refine kj ?_;refine eP ?_;refine C.dQ rfl ?_ (s:=⟨some ⟨yq,0,none⟩,26,26⟩) (l:=Bc (-1) l' x) (f:=aJ) (j:=x) (hj:=by rw[ow (-1) l' hx];exact rU);refine C.jA (s:=⟨some ⟨yq,0,none⟩,26,26⟩) (l:=Bc (-1) l' x) (j:=x) ((aB l' (97+(x:Int))).getD (-1)) rfl ?_ (hj:=by rw[ow (-1) l' hx];exact rU) (ha:=by rw[A8];rfl);refine eP ?_;rw[ys (-1) l' rU];exact again ih (x+1) rU ai
 ·refine dX ?_;refine C.Zp rfl ?_ (g:=dV) (l:=l');refine dX ?_;have QJ:x=26:=ai;subst QJ;rw[KU];refine C.rn (g:=dV) (l:=l') rfl (λb40=>?_)
  skip
  refine C.go ?_;refine C.cu (X:=List (Int×Int)×List Int) (λ_=>[(6,.map (some b')),(7,.slice (some ⟨yq,0,none⟩) 26 26),(11,aD l'.length),(40,.pointer (some ⟨b40,0,none⟩))]) (λy=>HN .u8 dV b' b40 y.1 y.2::bG aJ 1 3 ⟨some ⟨yq,0,none⟩,26,26⟩ (vJ (-1) l')::cY c::F) (λy=>Over l' y.1 y.2) (λy=>l'.length-y.2.length) (l',[]) ⟨rfl,rfl,rfl,rfl,trivial⟩ ⟨rfl,mP,.nil,by simp⟩ ?_;rintro⟨lx,pT⟩ e TX ih;dsimp only at TX⊢;refine bH ?_;refine C.nx (g:=dV) (l:=lx) rfl (λk41 w41 m41 h41=>?_) (λh41=>?_)
  ·refine dK ?_;have Qn:(lx.map (·.1)).Nodup:=by rw[TX.keys];exact TX.nd
   have afE:=eG Qn m41;obtain⟨X5,du,OP⟩:=TX.step m41 h41 77;refine fG ?_;refine C.ent afE rfl ?_ Fo.au;refine gu ?_;refine C.muI (w:=77) (l:=lx) (q:=k41) (g:=dV) OP rfl ?_;refine C.go ?_;exact again ih (bB lx k41 77,k41::pT) X5 (by simp only[jC];omega)
  ·refine oT ?_;exact aE.eK aT ak ⟨rfl,⟨some ⟨yq,0,none⟩,26,26⟩,l',rfl,mP,wV,rfl⟩
def QK(l:List Int):Nat:=(l.filter (· != 0)).length
theorem QL(d:Int):vJ d []=List.replicate 26 d:=by
 apply Oh
 ·simp[vJ]
 ·intro i h1 h2;rw[List.getElem_replicate];exact Aj d [] (by rw[mD]at h1;exact h1)
structure ab1(P:List (Int×Int))(V:List Int):Prop where
 len:V.length=26
 z:∀ x∈V, -9223372036854775808<=x/\x<=9223372036854775807
 eq:∀ l':List (Int×Int),(l'.map (·.1)).Nodup->l'.Perm (P.filter λp=>p.2 != 0)->vJ 0 l'=V/\l'.length=QK V
structure ab2(P:List (Int×Int))(L:List kt):Prop where
 rng:∀ h∈L,97<=h.key/\h.key<=122
 eq:∀ l':List (Int×Int),(l'.map (·.1)).Nodup->l'.Perm P->l'.length=L.length/\∀ h∈L,(aB l' h.key).getD (-1)=h.tx
def NP(x:Int):Prop:= -9223372036854775808<=x/\x<=9223372036854775807
theorem X6(cells X Y:List Value)(h:cells.length=X.length+Y.length):wr (wr cells.toArray 0 X) X.length Y=(X++Y).toArray:=by obtain⟨P,Q,rfl,hP⟩:∃ P Q,cells=P++Q/\P.length=X.length:=⟨cells.take X.length,cells.drop X.length,(sZ _ _).symm,by rw[jS];omega⟩;have h1:=lO X [] P Q hP;simp only[ez,CR]at h1;rw[h1];have h2:=lO Y X Q [] (by rw[gO]at h;omega);simp only[l7]at h2;exact h2
theorem Gr{α:Type}{f:α->List Value}{z:Nat}[rf:iD f z]{l:List α}:∀ v∈flat f l,fZ v=true:=λv hv=>by obtain⟨a,_,h⟩:=Ll.1 hv;exact rf.one a v h
variable{σ:Gh}{b:Nat}{m:Int}{bg:az}{ah aF dn:Value}{aj:Bool}{st:Int}{aK:List dM}
theorem Cx(hq:q<aK.length)(hl:aK.length<2^30):aI prog true (bI.bw σ) 85 #[ay b,aD q] [oW b m ah bg.v aF dn aj st,bG dt 7 159 bg aK]
  (λv As=>∃ KS:az,As=[oW b m ah KS.v aF dn aj st,bG dt 7 159 KS (aK.eraseIdx q)]):=by
 refine aI.of λR C kd d F c cs aT ak=>?_;refine cr ?_;refine At.EU (A:=bG dt 7 159 bg aK) Fo.au (λh x=>EZ ai h x) λhk=>?_;obtain⟨LQ,hk4,hk5⟩:=hk;have R3:(aK.take q).length=q:=by rw[jS];omega
 have hdl:(aK.drop (q+1)).length=aK.length-1-q:=by rw[CU];omega
 refine gu ?_;refine C.pS rfl ?_ (s:=bg) (l:=aK) (f:=dt);refine C.ar rfl ?_ (r:=((aK.length-1:Nat):Int)) (ha:=congrArg some ai);refine C.ms (f:=dt) (a0:=⟨bK,aR,aR⟩) rfl rfl (λwH=>?_);refine bH ?_;refine C.A4 (cW 12 0 18) 18 [8,9,17] 3 ?_ (W:=[oW b m ah bg.v aF dn aj st,bG dt 7 159 bg aK]);refine nH ?_;refine Dr.p (λh=>C.shi rfl h (hi:=(q:Int)) (hh:=by constructor<;>omega)) ?_;refine pF ?_;refine Dr.p (λh=>C.slo rfl h (hx:=by show Value.slice bg.a bg.len bg.cap=_;rw[LQ,hk4]) (lo:=((q+1:Nat):Int)) (hh:=by constructor<;>omega)) ?_;refine Dr.chain rfl ?_ (λ_ s=>cV.sat cV.au s);refine Ch.m 8 (aY λe aa hk=>?_);refine C.cp (b:=wH) (len:=(((aK.length-1:Nat):Int)).toNat) (cap:=(((aK.length-1:Nat):Int)).toNat) (z:=7) (off:=0) (xs:=flat dt (aK.take q)) (m:=(aK.take q).length) rfl (λH st=>PF (f:=dt) Fo.au st (λ_=>rfl) q hq LQ) (hm:=by rw[R3,gv];omega) (Ou:=fq (z:=7) (f:=dt) (λ_=>rfl) _) (h1:=Gr (f:=dt)) (hu:=.head) (hz:=by rw[R3,jj (z:=7) (λ_=>rfl),Oi];simp only[CR,gv];omega) ?_;refine hk _ _ pU ?_;refine Ch.q 9 (λh=>C.slo rfl h (lo:=(((aK.take q).length:Nat):Int)) (a':=⟨wH,if aK.length-1=q then 0 else q*7,none⟩) (ha:=by rw[R3];simp only[gv];split<;>simp) (hh:=by rw[R3];constructor<;>omega)) ?_;refine Ch.m 17 (aY λe aa hk=>?_);refine C.cp (b:=wH) (len:=(((aK.length-1:Nat):Int)).toNat-(((aK.take q).length:Nat):Int).toNat) (cap:=(((aK.length-1:Nat):Int)).toNat-(((aK.take q).length:Nat):Int).toNat) (z:=7) (off:=if aK.length-1=q then 0 else q*7) (xs:=flat dt (aK.drop (q+1))) (m:=(aK.drop (q+1)).length) rfl (λH st=>PG (f:=dt) (s:=bg) Fo.au st (λ_=>rfl) q hq hk5) (hm:=by rw[hdl,R3];simp only[gv];omega) (Ou:=fq (z:=7) (f:=dt) (λ_=>rfl) _) (h1:=Gr (f:=dt)) (hu:=.head) (hz:=by rw[yf,jj (z:=7) (λ_=>rfl),Oi];simp only[CR,gv];split<;>omega) ?_;refine hk _ _ pU ?_;refine PX ?_;have sR:wr (wr (gL dt (List.replicate (((aK.length-1:Nat):Int)).toNat (⟨bK,aR,aR⟩:dM)) []) 0 (flat dt (aK.take q))) (if aK.length-1=q then 0 else q*7) (flat dt (aK.drop (q+1)))=gL dt (aK.eraseIdx q) []:=by
  rw[Js];have hX:(flat dt (aK.take q)).length=q*7:=by rw[fq (z:=7) (λ_=>rfl),R3]
  have hY:(flat dt (aK.drop (q+1))).length=(aK.length-1-q)*7:=by rw[fq (z:=7) (λ_=>rfl),hdl]
  have hC:(flat dt (List.replicate (((aK.length-1:Nat):Int)).toNat (⟨bK,aR,aR⟩:dM))).length=(aK.length-1)*7:=by rw[fq (z:=7) (λ_=>rfl),Oi,gv]
  have h2:=X6 (flat dt (List.replicate (((aK.length-1:Nat):Int)).toNat (⟨bK,aR,aR⟩:dM))++[]) (flat dt (aK.take q)) (flat dt (aK.drop (q+1))) (by rw[l7,hX,hY,hC];omega);unfold gL;rw[jW,l7 (flat dt _++flat dt _),<- h2,hX];split
  ·rename_i hz;have:aK.drop (q+1)=[]:=ni ai;rw[this];rfl
  ·rfl
 rw[sR];have XJ:(aK.eraseIdx q).length=aK.length-1:=by rw[Od,aG hq]
 refine At.own (l:=aK.eraseIdx q) (f:=dt) (z:=7) ⟨some ⟨wH,0,none⟩,(((aK.length-1:Nat):Int)).toNat,(((aK.length-1:Nat):Int)).toNat⟩ [] (by rw[XJ,gv]) (by rw[XJ,gv,CR,Nat.add_zero]) (by rw[XJ,gv];exact e8 _) .head ?_;exact C.eJ aT ak ⟨⟨some ⟨wH,0,none⟩,(((aK.length-1:Nat):Int)).toNat,(((aK.length-1:Nat):Int)).toNat⟩,rfl⟩
end
section
open Go.Proofs Go.Conc
def CV.abs(c:CV):WP:=⟨c.ah.map (·.s.abs),c.aK.map (·.toMsgR),c.aF.map (·.toTxR),c.aj⟩
def nV(o a:Int)(c:CV):Prop:=∀ v∈c.ah,xn o a v.s
theorem xn.mono{o a o' a':Int}{s:di}(h:xn o a s)(ho:o<=o')(ha:a<=a'):xn o' a' s:=⟨by have:=h.z;omega,by have:=h.o;omega,λu hu p hp=>by have:=h.a u hu p hp;omega⟩
structure eQ(c:CV)(I:HL)(o a:Int)(r:WP×Int)(er:Option Nat)(c':CV)(I':HL):Prop where
 sub:Sub I I'
 j:uD I' c'
 g:c'.G=c.G
 h:c'.ah.map (·.h)=c.ah.map (·.h)
 r:(c'.abs,Ai er)=r
 cn:nV o a c'
theorem eQ.same{c:CV}{I:HL}{o a:Int}{er:Option Nat}{z:Int}(hJ:uD I c)(hC:nV o a c)(hz:Ai er=z):eQ c I (o+2^15) (a+1) (c.abs,z) er c I:=
 ⟨Sub.refl _,hJ,rfl,rfl,by rw[hz],λv hv=>(hC v hv).mono ai ai⟩
def MQ(σ:Gh)(c:CV)(eb:Nat->Nat×Nat)(Q:Option Nat->CV->HL->Prop):Value->Gh->List HP->Prop:=λv σ' As=>
 ∃ er c' I',v=TM eb er/\(∀ k,er=some k->k<9)/\σ'=σ/\c'.G.b=c.G.b/\Q er c' I'/\As=[rQ 1 c',bD I']
def CQ(σ:Gh)(c:CV)(I:HL)(eb:Nat->Nat×Nat)(nm:ByteArray)(at_:Int)(Q:Option Nat->CV->HL->Prop):Value->Gh->List HP->Prop:=λv σ' As=>
 ∃ er c' I' L,Qw eb (.string nm) at_ er v L/\(∀ k,er=some k->k<9)/\σ'=σ/\As=cY c'::bD I'::L/\((c.aj=true/\er=some 8/\c'=c/\I'=I)\/(c.aj=false/\Q er c' I'))
theorem cV.qF{F:List HP}:∀ A:List HP,cV (A++F) F
 |[]=>.refl
 |_::A=>.drop (cV.qF A)
theorem cV.Gt{A F:List HP}:∀ L:List HP,cV (L++(A++F)) (L++F)
 |[]=>cV.qF A
 |_::L=>.cons .head (cV.Gt L)
theorem uk{σ:Gh}{c:CV}{f:bJ}{fu:Func}{code:Code}{nf:Nat}[bd:Body prog f fu code nf]{caps:Array Value}{I:HL}{eb:Nat->Nat×Nat}{nm:ByteArray}{at_:Int}{A:List HP}{Q:Option Nat->CV->HL->Prop}(hE:ir I eb)
  (hf:c.aj=false->bA prog bI f (#[]++([]:List Value).toArray++caps) σ (rQ 1 c::bD I::A) (MQ σ c eb Q)):
  bA prog bI 57 #[ay c.G.b,.string nm,aD at_,.func (.func f) #[] caps] σ (cY c::bD I::A) (CQ σ c I eb nm at_ Q):=by
 have h:=Ct (nm:=nm) (at_:=at_) (A:=A) (Q:=λer σ' c' I' A'=>σ'=σ/\Q er c' I'/\A'=[]/\∀ k,er=some k->k<9) hE (λdI Post os out kd F fr cs aT ak=>hf dI Post os out kd F fr cs aT (by rintro v σ' aP ⟨er,c',I',h1,h2,rfl,h4,h5,rfl⟩;exact ak _ _ _ ⟨er,c',I',[],h1,h2,rfl,h4,rfl,h5,rfl,h2⟩))
 intro Post os out kd F fr cs aT ak;refine h Post os out kd F fr cs aT ?_;rintro v σ' aP ⟨er,c',I',A',L,h1,rfl,h|⟨h2,rfl,h3,rfl,h4⟩⟩
 ·obtain⟨h2,rfl,rfl,rfl,rfl,rfl⟩:=h;refine At.lP ?_ (ak _ _ _ ⟨some 8,c',I',L,h1,(λk hk=>by cases hk;decide),rfl,rfl,.inl ⟨h2,rfl,rfl,rfl⟩⟩);simp only[fi,sN];exact .cons .head (.cons .head (cV.Gt L))
 ·rw[l7];exact ak _ _ _ ⟨er,c',I',L,h1,h4,rfl,rfl,.inr ⟨h2,h3⟩⟩
def agN:ByteArray:=⟨#[65,103,97,105,110]⟩
structure MI(c:CV):Prop where
 n:1<=c.ah.length/\c.ah.length<=4
 aK:c.aK.length<2^20
 aF:c.aF.length<=60
 abb:∀ t∈c.aF,mA t.ops/\1<=t.ops.length
theorem QM{w:WP}{t:Int}(hs:w.aj=false)(h:t<0\/(w.aF.length:Int)<=t):gp w 1 t 0=(w,4):=by unfold gp;rw[ax (by decide),hs,ax (by decide),aG rfl,aG h]
theorem QN{w:WP}{t:Int}(hs:w.aj=false)(h:¬ (t<0\/(w.aF.length:Int)<=t))(hb:400<=w.aK.length):gp w 1 t 0=(w,3):=by unfold gp;rw[ax (by decide),hs,ax (by decide),aG rfl,ax h,aG hb]
theorem X7{w:WP}{t:Int}(hs:w.aj=false)(h:¬ (t<0\/(w.aF.length:Int)<=t))(hb:¬ 400<=w.aK.length):gp w 1 t 0=(oa w t.toNat,0):=by unfold gp;rw[ax (by decide),hs,ax (by decide),aG rfl,ax h,ax hb]
theorem CV.DU(c:CV):c.abs.aF.length=c.aF.length:=by simp[CV.abs]
theorem CV.yt(c:CV):c.abs.aK.length=c.aK.length:=by simp[CV.abs]
theorem CV.QO(c:CV):c.abs.sh.length=c.ah.length:=by simp[CV.abs]
theorem QP{σ:Gh}{c:CV}{b3 b2:Nat}{t:Int}{I:HL}{eb:Nat->Nat×Nat}{o a:Int}(hE:ir I eb)(hJ:uD I c)(hb:MI c)(hC:nV o a c)(dI:c.aj=false):
  bA prog bI 82 (#[]++([]:List Value).toArray++#[ay b3,ay b2]) σ (rQ 1 c::bD I::[da b3 (.cells #[aD t] 3 (0,0)),da b2 (.cells #[ay c.G.b] 31 (0,0))])
   (MQ σ c eb (eQ c I (o+2^15) (a+1) (gp c.abs 1 t 0))):=by
 refine bA.of ?_;intro Post os out kd F c' cs C aT ak;refine cr ?_;obtain⟨G,ah,aK,aF,aj⟩:=c;obtain rfl:aj=false:=dI;obtain⟨hn,nU,m9,qG⟩:=hb;dsimp only at hn nU m9 qG;obtain⟨t2,JZ⟩:=hE.g 2 (by decide);obtain⟨t3,TY⟩:=hE.g 3 (by decide);refine cY.opn (m:=1) (h:=λhs bg tx=>?_);have NN:(ah.map (·.h.bh)).length=ah.length:=dW ..;refine dX ?_;by_cases h5:t<0
 ·refine C.dx (cW 4 0 11++[(3,11)]) 12 [] 0 ?_;refine kK ?_;refine Dr.p (λh=>C.fA rfl h (hf:=h5)) ?_;refine H5 ?_;refine ND ?_;refine C.v9 Fo.au TY (iJ _ _) rfl ?_;refine bH ?_;refine cY.cls (m:=1) ⟨G,ah,aK,aF,false⟩ ?_;exact aE.eK aT ak ⟨some 3,⟨G,ah,aK,aF,false⟩,I,rfl,(λk hk=>by cases hk;decide),rfl,rfl,(QM (w:=CV.abs ⟨G,ah,aK,aF,false⟩) (t:=t) rfl (.inl h5)).symm▸eQ.same hJ hC rfl,rfl⟩
 ·by_cases ui:t>=(aF.length:Int)
  ·refine C.dx (cW 4 0 11++[(3,11)]) 12 [] 0 ?_;refine kK ?_;refine Dr.p (λh=>C.dS rfl h (hf:=h5)) ?_;refine nH ?_;refine Dr.p (λh=>C.fA rfl h (hf:=ui)) ?_;refine A5 ?_;refine ND ?_;refine C.v9 Fo.au TY (iJ _ _) rfl ?_;refine bH ?_;refine cY.cls (m:=1) ⟨G,ah,aK,aF,false⟩ ?_;exact aE.eK aT ak ⟨some 3,⟨G,ah,aK,aF,false⟩,I,rfl,(λk hk=>by cases hk;decide),rfl,rfl,(QM (w:=CV.abs ⟨G,ah,aK,aF,false⟩) (t:=t) rfl (.inr (by rw[CV.DU];exact ui))).symm▸eQ.same hJ hC rfl,rfl⟩
  ·refine C.dx (cW 4 0 11++[(3,11)]) 12 [] 0 ?_;refine kK ?_;refine Dr.p (λh=>C.dS rfl h (hf:=h5)) ?_;refine nH ?_;refine Dr.p (λh=>C.dS rfl h (hf:=ui)) ?_;refine A5 ?_;refine PX ?_;refine C.cmp rfl (λMa=>?_) (λMa=>?_)
   ·refine dX ?_;refine C.v9 Fo.au JZ (iJ _ _) rfl ?_;refine bH ?_;refine cY.cls (m:=1) ⟨G,ah,aK,aF,false⟩ ?_;exact aE.eK aT ak ⟨some 2,⟨G,ah,aK,aF,false⟩,I,rfl,(λk hk=>by cases hk;decide),rfl,rfl,(QN (w:=CV.abs ⟨G,ah,aK,aF,false⟩) (t:=t) rfl (by rw[CV.DU];dsimp only;omega) (by rw[CV.yt];omega)).symm▸eQ.same hJ hC rfl,rfl⟩
   ·refine dK ?_;obtain⟨q,rfl⟩:=lK (show 0<=t by omega);have hq:q<aF.length:=ai;have dR:=dp hq;refine dK ?_;refine C.fF (xw (σ:=σ) (b:=G.b) (m:=1) (hs:=hs) (bg:=bg) (xY:=tx) (I:=I) (hl:=ah.map (·.h.bh)) (aK:=aK) (aF:=aF) (tx:=q) (by rw[NN];exact hn) ai hq (hJ.aF _ dR).o (qG _ dR)) ?_;rintro v aP ⟨KS,rfl,rfl⟩;refine cr ?_;rw[NN];refine dX ?_;refine cY.cls (m:=1) ⟨G,ah,aK++[Ae ah.length aF[q] q],aF,false⟩ ?_;refine aE.eK aT ak ⟨none,⟨G,ah,aK++[Ae ah.length aF[q] q],aF,false⟩,I,rfl,(λk hk=>by cases hk),rfl,rfl,⟨Sub.refl _,⟨λm hm=>?_,hJ.aF,hJ.sh⟩,rfl,rfl,?_,λv hv=>(hC v hv).mono ai ai⟩,rfl⟩
    ·rcases bS.1 hm with hm|hm
     ·exact hJ.aK m hm
     ·obtain rfl:=dL.1 hm;exact⟨(hJ.aF _ dR).o,.nil ..,nl 20⟩
    ·rw[X7 (w:=CV.abs ⟨G,ah,aK,aF,false⟩) (t:=(q:Int)) rfl (by rw[CV.DU];dsimp only;omega) (by rw[CV.yt];omega)];unfold oa;have e1:(CV.abs ⟨G,ah,aK,aF,false⟩).aF[((q:Int)).toNat]? =some aF[q].toTxR:=by simp[CV.abs,hq]
     rw[e1];simp[CV.abs,Ae,Ai]
end
end Go.Sl
