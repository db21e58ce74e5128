/-
  Texts that the proof needs, joined: part 7.
-/
import Derived.Test.YtjomdboiibakiaaGreatDoorCmF
set_option linter.unusedSimpArgs false
set_option linter.unusedVariables false
set_option maxHeartbeats 4000000
namespace Go.Sl
open Go.Proofs.Tryz
section
open Go.Proofs Go.Conc
theorem OI{σ:Gh}{n:Int}(hn:1<=n/\n<=4)(hσ:KJ σ):bC prog bP 27 #[aI n] σ [] (λv σ' As=>∃ c:CV,pw σ σ' c.G c.ae/\v=.tuple #[aF c.G.b,.nilIface]/\As=[dw c]/\c.ae.map (·.s)=((upto n).map λk=>jm k n)/\c.aE=[]/\c.aL=[]/\c.ai=false):=by
 refine bC.of ?_;intro Post os out kd F c' cs C aJ aj;refine Lp ?_;refine C.dP rfl ?_;refine bJ ?_;refine C.dP rfl ?_;refine cW ?_;refine aC.mc underlying83 (ax type73) rfl (λdn Wh=>?_);refine fI ?_;refine aC.bx (c:=Q5 0 aG.v aG.v aG.v (.chan (some dn)) false (((0:Nat):Int)*KQ)) [7,8] rfl rfl rfl (by decide) rfl (λb=>?_);have C1:ab prog true (bP.bw (σ.zx b [7,8])) (aC prog Post bP (σ.zx b [7,8]) 0 os out):=aC.dK;refine aC.al rfl (λcb hcb=>?_);refine C1.st rfl ?_ (hr:=hcb.rd _ _);refine C1.go ?_;refine C1.rg [0,1] ?_;refine C1.mv rfl ?_;refine C1.mv rfl ?_;refine C1.go ?_;refine At.aG ek 1 114 (show At (aC prog Post bP (σ.zx b [7,8]) 0 os out) 0 (a9 ek 1 114 aG (([]:List HV).map (·.h.bh))::_) _ from ?_);refine At.zr (show At (aC prog Post bP (σ.zx b [7,8]) 0 os out) 0 (all (([]:List HV).map iy)::_) _ from ?_);refine Nc (Y:=Gh×ay×List HV×Nat) (λy=>y.1) (λy=>[(0,aI n),(4,aF cb),(17,aI n),(18,aI y.2.2.2)]) (λy=>nU b 0 y.2.1.v aG.v aG.v (.chan (some dn)) false ((y.2.2.2:Int)*KQ)::a9 ek 1 114 y.2.1 (y.2.2.1.map (·.h.bh))::all (y.2.2.1.map iy)::bR dn (.chan 0 #[] false 0 0 false)::bR cb (.cells #[aF b] 23 (0,0))::F)
  (λy=>pw σ y.1 ⟨b,cb,dn⟩ y.2.2.1/\y.2.2.1.length=y.2.2.2/\(y.2.2.2:Int)<=n/\y.2.2.1.map (·.s)=((upto n).take y.2.2.2).map (λk=>jm k n)/\∀ b',y.2.1.a=some ⟨b',0,none⟩->BA y.1 b') (λy=>(n-y.2.2.2).toNat) (σ.zx b [7,8],aG,[],0) rfl ⟨rfl,rfl,rfl,rfl,trivial⟩ ⟨pw.start (G:=⟨b,cb,dn⟩) hσ Wh,rfl,by show(0:Int)<=n;omega,rfl,λb' h=>by cases h⟩ ?_
 rintro⟨σk,hs,l,kk⟩ e ⟨N,tX,NR,hm,TI⟩ ih;dsimp only at N tX NR hm TI⊢;have C:ab prog true (bP.bw σk) (aC prog Post bP σk 0 os out):=aC.dK;refine bJ ?_;by_cases dA:(kk:Int)<n
 ·refine C.fe rfl ?_;refine dH ?_;apply xB (X:=Nat×Nat×Nat×Nat×Nat) (λx=>(∀ i s,σk.aT i=some s->¬ s.has x.2.1)) (λx=>[(0,aI n),(4,aF cb),(6,aF x.2.2.2.2),(17,aI n),(18,aI kk)]) (λx=>nU b 0 hs.v aG.v aG.v (.chan (some dn)) false ((kk:Int)*KQ)::a9 ek 1 114 hs (l.map (·.h.bh))::all (l.map iy)::bR dn (.chan 0 #[] false 0 0 false)::bR cb (.cells #[aF b] 23 (0,0))::
   bR x.2.2.2.1 (.cells #[aF x.1,.chan (some x.2.1),.chan (some x.2.2.1)] 120 (0,0))::bR x.2.1 (.chan 0 #[] false 0 0 false)::bR x.2.2.1 (.chan 0 #[] false 0 0 false)::bR x.2.2.2.2 (.cells #[aF x.2.2.2.1] 114 (0,0))::cU x.1 (jm kk n)::F)
  ·intro jC;refine C.dx (cG 21 0 7++[(6,7)]) 9 [2,3,4,5,6,7,8] 0 ?_;refine wm ?_;refine Ch.nk [2,3,4,7] (fa4 ?_ ?_ ?_ ?_)
   ·refine aW λe aa hk=>?_;refine C.dv (aD.less (cy _) eH) ?_;rintro v aN ⟨ja,rfl,rfl⟩;refine hk _ _ ?_
    (try simp only[iX,fi])
    refine Ch.nk [3,4,7] (ZB ?_ ?_ ?_)
    ·refine aW λe aa hk=>?_;refine aC.mc underlying117 (ax type187) rfl (λjZ js=>hk _ _ ?_);refine Ch.nk [4,7] (xS ?_ ?_)
     ·refine aW λe aa hk=>?_;refine aC.mc underlying118 (ax type81) rfl (λjY zd=>hk _ _ ?_);refine Ch.q 5 (λh=>C.bd rfl h) ?_;refine Ch.nk [6,7] (xS ?_ ?_)
      ·refine aW λe aa hk=>?_;refine C.bx rfl (λiI=>hk _ _ ?_);refine Ch.nk [7] (fF ?_);refine aW λe aa hk=>?_;refine aC.al rfl (λb6 h6=>hk _ _ ?_);refine Ch.nk [8] (fF ?_);refine aW λe aa hk=>?_;refine C.st rfl (hk _ undef ?_) (hr:=h6.rd _ _);refine eQ ?_;exact cZ jC (ja,jZ,jY,iI,b6) js
      ·refine aW λe aa hk=>?_;refine aC.al rfl (λb6 h6=>hk _ _ ?_);refine Ch.nk [6] (fF ?_);refine aW λe aa hk=>?_;refine C.bx rfl (λiI=>hk _ _ ?_);refine Ch.nk [8] (fF ?_);refine aW λe aa hk=>?_;refine C.st rfl (hk _ undef ?_) (hr:=h6.rd _ _);refine eQ ?_;exact cZ jC (ja,jZ,jY,iI,b6) js
     ·refine aW λe aa hk=>?_;refine aC.al rfl (λb6 h6=>hk _ _ ?_);refine Ch.nk [4] (fF ?_);refine aW λe aa hk=>?_;refine aC.mc underlying118 (ax type81) rfl (λjY zd=>hk _ _ ?_);refine Ch.q 5 (λh=>C.bd rfl h) ?_;refine Ch.nk [6] (fF ?_);refine aW λe aa hk=>?_;refine C.bx rfl (λiI=>hk _ _ ?_);refine Ch.nk [8] (fF ?_);refine aW λe aa hk=>?_;refine C.st rfl (hk _ undef ?_) (hr:=h6.rd _ _);refine eQ ?_;exact cZ jC (ja,jZ,jY,iI,b6) js
    ·refine aW λe aa hk=>?_;refine aC.mc underlying118 (ax type81) rfl (λjY zd=>hk _ _ ?_);refine Ch.nk [3,7] (xS ?_ ?_)
     ·refine aW λe aa hk=>?_;refine aC.mc underlying117 (ax type187) rfl (λjZ js=>hk _ _ ?_);refine Ch.q 5 (λh=>C.bd rfl h) ?_;refine Ch.nk [6,7] (xS ?_ ?_)
      ·refine aW λe aa hk=>?_;refine C.bx rfl (λiI=>hk _ _ ?_);refine Ch.nk [7] (fF ?_);refine aW λe aa hk=>?_;refine aC.al rfl (λb6 h6=>hk _ _ ?_);refine Ch.nk [8] (fF ?_);refine aW λe aa hk=>?_;refine C.st rfl (hk _ undef ?_) (hr:=h6.rd _ _);refine eQ ?_;exact cZ jC (ja,jZ,jY,iI,b6) js
      ·refine aW λe aa hk=>?_;refine aC.al rfl (λb6 h6=>hk _ _ ?_);refine Ch.nk [6] (fF ?_);refine aW λe aa hk=>?_;refine C.bx rfl (λiI=>hk _ _ ?_);refine Ch.nk [8] (fF ?_);refine aW λe aa hk=>?_;refine C.st rfl (hk _ undef ?_) (hr:=h6.rd _ _);refine eQ ?_;exact cZ jC (ja,jZ,jY,iI,b6) js
     ·refine aW λe aa hk=>?_;refine aC.al rfl (λb6 h6=>hk _ _ ?_);refine Ch.nk [3] (fF ?_);refine aW λe aa hk=>?_;refine aC.mc underlying117 (ax type187) rfl (λjZ js=>hk _ _ ?_);refine Ch.q 5 (λh=>C.bd rfl h) ?_;refine Ch.nk [6] (fF ?_);refine aW λe aa hk=>?_;refine C.bx rfl (λiI=>hk _ _ ?_);refine Ch.nk [8] (fF ?_);refine aW λe aa hk=>?_;refine C.st rfl (hk _ undef ?_) (hr:=h6.rd _ _);refine eQ ?_;exact cZ jC (ja,jZ,jY,iI,b6) js
    ·refine aW λe aa hk=>?_;refine aC.al rfl (λb6 h6=>hk _ _ ?_);refine Ch.nk [3,4] (xS ?_ ?_)
     ·refine aW λe aa hk=>?_;refine aC.mc underlying117 (ax type187) rfl (λjZ js=>hk _ _ ?_);refine Ch.nk [4] (fF ?_);refine aW λe aa hk=>?_;refine aC.mc underlying118 (ax type81) rfl (λjY zd=>hk _ _ ?_);refine Ch.q 5 (λh=>C.bd rfl h) ?_;refine Ch.nk [6] (fF ?_);refine aW λe aa hk=>?_;refine C.bx rfl (λiI=>hk _ _ ?_);refine Ch.nk [8] (fF ?_);refine aW λe aa hk=>?_;refine C.st rfl (hk _ undef ?_) (hr:=h6.rd _ _);refine eQ ?_;exact cZ jC (ja,jZ,jY,iI,b6) js
     ·refine aW λe aa hk=>?_;refine aC.mc underlying118 (ax type81) rfl (λjY zd=>hk _ _ ?_);refine Ch.nk [3] (fF ?_);refine aW λe aa hk=>?_;refine aC.mc underlying117 (ax type187) rfl (λjZ js=>hk _ _ ?_);refine Ch.q 5 (λh=>C.bd rfl h) ?_;refine Ch.nk [6] (fF ?_);refine aW λe aa hk=>?_;refine C.bx rfl (λiI=>hk _ _ ?_);refine Ch.nk [8] (fF ?_);refine aW λe aa hk=>?_;refine C.st rfl (hk _ undef ?_) (hr:=h6.rd _ _);refine eQ ?_;exact cZ jC (ja,jZ,jY,iI,b6) js
   ·refine aW λe aa hk=>?_;refine aC.mc underlying117 (ax type187) rfl (λjZ js=>hk _ _ ?_);refine Ch.nk [2,4,7] (ZB ?_ ?_ ?_)
    ·refine aW λe aa hk=>?_;refine C.dv (aD.less (cy _) eH) ?_;rintro v aN ⟨ja,rfl,rfl⟩;refine hk _ _ ?_
     (try simp only[iX,fi])
     refine Ch.nk [4,7] (xS ?_ ?_)
     ·refine aW λe aa hk=>?_;refine aC.mc underlying118 (ax type81) rfl (λjY zd=>hk _ _ ?_);refine Ch.q 5 (λh=>C.bd rfl h) ?_;refine Ch.nk [6,7] (xS ?_ ?_)
      ·refine aW λe aa hk=>?_;refine C.bx rfl (λiI=>hk _ _ ?_);refine Ch.nk [7] (fF ?_);refine aW λe aa hk=>?_;refine aC.al rfl (λb6 h6=>hk _ _ ?_);refine Ch.nk [8] (fF ?_);refine aW λe aa hk=>?_;refine C.st rfl (hk _ undef ?_) (hr:=h6.rd _ _);refine eQ ?_;exact cZ jC (ja,jZ,jY,iI,b6) js
      ·refine aW λe aa hk=>?_;refine aC.al rfl (λb6 h6=>hk _ _ ?_);refine Ch.nk [6] (fF ?_);refine aW λe aa hk=>?_;refine C.bx rfl (λiI=>hk _ _ ?_);refine Ch.nk [8] (fF ?_);refine aW λe aa hk=>?_;refine C.st rfl (hk _ undef ?_) (hr:=h6.rd _ _);refine eQ ?_;exact cZ jC (ja,jZ,jY,iI,b6) js
     ·refine aW λe aa hk=>?_;refine aC.al rfl (λb6 h6=>hk _ _ ?_);refine Ch.nk [4] (fF ?_);refine aW λe aa hk=>?_;refine aC.mc underlying118 (ax type81) rfl (λjY zd=>hk _ _ ?_);refine Ch.q 5 (λh=>C.bd rfl h) ?_;refine Ch.nk [6] (fF ?_);refine aW λe aa hk=>?_;refine C.bx rfl (λiI=>hk _ _ ?_);refine Ch.nk [8] (fF ?_);refine aW λe aa hk=>?_;refine C.st rfl (hk _ undef ?_) (hr:=h6.rd _ _);refine eQ ?_;exact cZ jC (ja,jZ,jY,iI,b6) js
    ·refine aW λe aa hk=>?_;refine aC.mc underlying118 (ax type81) rfl (λjY zd=>hk _ _ ?_);refine Ch.nk [2,7] (xS ?_ ?_)
     ·refine aW λe aa hk=>?_;refine C.dv (aD.less (cy _) eH) ?_;rintro v aN ⟨ja,rfl,rfl⟩;refine hk _ _ ?_
      (try simp only[iX,fi])
      refine Ch.q 5 (λh=>C.bd rfl h) ?_;refine Ch.nk [6,7] (xS ?_ ?_)
      ·refine aW λe aa hk=>?_;refine C.bx rfl (λiI=>hk _ _ ?_);refine Ch.nk [7] (fF ?_);refine aW λe aa hk=>?_;refine aC.al rfl (λb6 h6=>hk _ _ ?_);refine Ch.nk [8] (fF ?_);refine aW λe aa hk=>?_;refine C.st rfl (hk _ undef ?_) (hr:=h6.rd _ _);refine eQ ?_;exact cZ jC (ja,jZ,jY,iI,b6) js
      ·refine aW λe aa hk=>?_;refine aC.al rfl (λb6 h6=>hk _ _ ?_);refine Ch.nk [6] (fF ?_);refine aW λe aa hk=>?_;refine C.bx rfl (λiI=>hk _ _ ?_);refine Ch.nk [8] (fF ?_);refine aW λe aa hk=>?_;refine C.st rfl (hk _ undef ?_) (hr:=h6.rd _ _);refine eQ ?_;exact cZ jC (ja,jZ,jY,iI,b6) js
     ·refine aW λe aa hk=>?_;refine aC.al rfl (λb6 h6=>hk _ _ ?_);refine Ch.nk [2] (fF ?_);refine aW λe aa hk=>?_;refine C.dv (aD.less (cy _) eH) ?_;rintro v aN ⟨ja,rfl,rfl⟩;refine hk _ _ ?_
      (try simp only[iX,fi])
      refine Ch.q 5 (λh=>C.bd rfl h) ?_;refine Ch.nk [6] (fF ?_);refine aW λe aa hk=>?_;refine C.bx rfl (λiI=>hk _ _ ?_);refine Ch.nk [8] (fF ?_);refine aW λe aa hk=>?_;refine C.st rfl (hk _ undef ?_) (hr:=h6.rd _ _);refine eQ ?_;exact cZ jC (ja,jZ,jY,iI,b6) js
    ·refine aW λe aa hk=>?_;refine aC.al rfl (λb6 h6=>hk _ _ ?_);refine Ch.nk [2,4] (xS ?_ ?_)
     ·refine aW λe aa hk=>?_;refine C.dv (aD.less (cy _) eH) ?_;rintro v aN ⟨ja,rfl,rfl⟩;refine hk _ _ ?_
      (try simp only[iX,fi])
      refine Ch.nk [4] (fF ?_);refine aW λe aa hk=>?_;refine aC.mc underlying118 (ax type81) rfl (λjY zd=>hk _ _ ?_);refine Ch.q 5 (λh=>C.bd rfl h) ?_;refine Ch.nk [6] (fF ?_);refine aW λe aa hk=>?_;refine C.bx rfl (λiI=>hk _ _ ?_);refine Ch.nk [8] (fF ?_);refine aW λe aa hk=>?_;refine C.st rfl (hk _ undef ?_) (hr:=h6.rd _ _);refine eQ ?_;exact cZ jC (ja,jZ,jY,iI,b6) js
     ·refine aW λe aa hk=>?_;refine aC.mc underlying118 (ax type81) rfl (λjY zd=>hk _ _ ?_);refine Ch.nk [2] (fF ?_);refine aW λe aa hk=>?_;refine C.dv (aD.less (cy _) eH) ?_;rintro v aN ⟨ja,rfl,rfl⟩;refine hk _ _ ?_
      (try simp only[iX,fi])
      refine Ch.q 5 (λh=>C.bd rfl h) ?_;refine Ch.nk [6] (fF ?_);refine aW λe aa hk=>?_;refine C.bx rfl (λiI=>hk _ _ ?_);refine Ch.nk [8] (fF ?_);refine aW λe aa hk=>?_;refine C.st rfl (hk _ undef ?_) (hr:=h6.rd _ _);refine eQ ?_;exact cZ jC (ja,jZ,jY,iI,b6) js
   ·refine aW λe aa hk=>?_;refine aC.mc underlying118 (ax type81) rfl (λjY zd=>hk _ _ ?_);refine Ch.nk [2,3,7] (ZB ?_ ?_ ?_)
    ·refine aW λe aa hk=>?_;refine C.dv (aD.less (cy _) eH) ?_;rintro v aN ⟨ja,rfl,rfl⟩;refine hk _ _ ?_
     (try simp only[iX,fi])
     refine Ch.nk [3,7] (xS ?_ ?_)
     ·refine aW λe aa hk=>?_;refine aC.mc underlying117 (ax type187) rfl (λjZ js=>hk _ _ ?_);refine Ch.q 5 (λh=>C.bd rfl h) ?_;refine Ch.nk [6,7] (xS ?_ ?_)
      ·refine aW λe aa hk=>?_;refine C.bx rfl (λiI=>hk _ _ ?_);refine Ch.nk [7] (fF ?_);refine aW λe aa hk=>?_;refine aC.al rfl (λb6 h6=>hk _ _ ?_);refine Ch.nk [8] (fF ?_);refine aW λe aa hk=>?_;refine C.st rfl (hk _ undef ?_) (hr:=h6.rd _ _);refine eQ ?_;exact cZ jC (ja,jZ,jY,iI,b6) js
      ·refine aW λe aa hk=>?_;refine aC.al rfl (λb6 h6=>hk _ _ ?_);refine Ch.nk [6] (fF ?_);refine aW λe aa hk=>?_;refine C.bx rfl (λiI=>hk _ _ ?_);refine Ch.nk [8] (fF ?_);refine aW λe aa hk=>?_;refine C.st rfl (hk _ undef ?_) (hr:=h6.rd _ _);refine eQ ?_;exact cZ jC (ja,jZ,jY,iI,b6) js
     ·refine aW λe aa hk=>?_;refine aC.al rfl (λb6 h6=>hk _ _ ?_);refine Ch.nk [3] (fF ?_);refine aW λe aa hk=>?_;refine aC.mc underlying117 (ax type187) rfl (λjZ js=>hk _ _ ?_);refine Ch.q 5 (λh=>C.bd rfl h) ?_;refine Ch.nk [6] (fF ?_);refine aW λe aa hk=>?_;refine C.bx rfl (λiI=>hk _ _ ?_);refine Ch.nk [8] (fF ?_);refine aW λe aa hk=>?_;refine C.st rfl (hk _ undef ?_) (hr:=h6.rd _ _);refine eQ ?_;exact cZ jC (ja,jZ,jY,iI,b6) js
    ·refine aW λe aa hk=>?_;refine aC.mc underlying117 (ax type187) rfl (λjZ js=>hk _ _ ?_);refine Ch.nk [2,7] (xS ?_ ?_)
     ·refine aW λe aa hk=>?_;refine C.dv (aD.less (cy _) eH) ?_;rintro v aN ⟨ja,rfl,rfl⟩;refine hk _ _ ?_
      (try simp only[iX,fi])
      refine Ch.q 5 (λh=>C.bd rfl h) ?_;refine Ch.nk [6,7] (xS ?_ ?_)
      ·refine aW λe aa hk=>?_;refine C.bx rfl (λiI=>hk _ _ ?_);refine Ch.nk [7] (fF ?_);refine aW λe aa hk=>?_;refine aC.al rfl (λb6 h6=>hk _ _ ?_);refine Ch.nk [8] (fF ?_);refine aW λe aa hk=>?_;refine C.st rfl (hk _ undef ?_) (hr:=h6.rd _ _);refine eQ ?_;exact cZ jC (ja,jZ,jY,iI,b6) js
      ·refine aW λe aa hk=>?_;refine aC.al rfl (λb6 h6=>hk _ _ ?_);refine Ch.nk [6] (fF ?_);refine aW λe aa hk=>?_;refine C.bx rfl (λiI=>hk _ _ ?_);refine Ch.nk [8] (fF ?_);refine aW λe aa hk=>?_;refine C.st rfl (hk _ undef ?_) (hr:=h6.rd _ _);refine eQ ?_;exact cZ jC (ja,jZ,jY,iI,b6) js
     ·refine aW λe aa hk=>?_;refine aC.al rfl (λb6 h6=>hk _ _ ?_);refine Ch.nk [2] (fF ?_);refine aW λe aa hk=>?_;refine C.dv (aD.less (cy _) eH) ?_;rintro v aN ⟨ja,rfl,rfl⟩;refine hk _ _ ?_
      (try simp only[iX,fi])
      refine Ch.q 5 (λh=>C.bd rfl h) ?_;refine Ch.nk [6] (fF ?_);refine aW λe aa hk=>?_;refine C.bx rfl (λiI=>hk _ _ ?_);refine Ch.nk [8] (fF ?_);refine aW λe aa hk=>?_;refine C.st rfl (hk _ undef ?_) (hr:=h6.rd _ _);refine eQ ?_;exact cZ jC (ja,jZ,jY,iI,b6) js
    ·refine aW λe aa hk=>?_;refine aC.al rfl (λb6 h6=>hk _ _ ?_);refine Ch.nk [2,3] (xS ?_ ?_)
     ·refine aW λe aa hk=>?_;refine C.dv (aD.less (cy _) eH) ?_;rintro v aN ⟨ja,rfl,rfl⟩;refine hk _ _ ?_
      (try simp only[iX,fi])
      refine Ch.nk [3] (fF ?_);refine aW λe aa hk=>?_;refine aC.mc underlying117 (ax type187) rfl (λjZ js=>hk _ _ ?_);refine Ch.q 5 (λh=>C.bd rfl h) ?_;refine Ch.nk [6] (fF ?_);refine aW λe aa hk=>?_;refine C.bx rfl (λiI=>hk _ _ ?_);refine Ch.nk [8] (fF ?_);refine aW λe aa hk=>?_;refine C.st rfl (hk _ undef ?_) (hr:=h6.rd _ _);refine eQ ?_;exact cZ jC (ja,jZ,jY,iI,b6) js
     ·refine aW λe aa hk=>?_;refine aC.mc underlying117 (ax type187) rfl (λjZ js=>hk _ _ ?_);refine Ch.nk [2] (fF ?_);refine aW λe aa hk=>?_;refine C.dv (aD.less (cy _) eH) ?_;rintro v aN ⟨ja,rfl,rfl⟩;refine hk _ _ ?_
      (try simp only[iX,fi])
      refine Ch.q 5 (λh=>C.bd rfl h) ?_;refine Ch.nk [6] (fF ?_);refine aW λe aa hk=>?_;refine C.bx rfl (λiI=>hk _ _ ?_);refine Ch.nk [8] (fF ?_);refine aW λe aa hk=>?_;refine C.st rfl (hk _ undef ?_) (hr:=h6.rd _ _);refine eQ ?_;exact cZ jC (ja,jZ,jY,iI,b6) js
   ·refine aW λe aa hk=>?_;refine aC.al rfl (λb6 h6=>hk _ _ ?_);refine Ch.nk [2,3,4] (ZB ?_ ?_ ?_)
    ·refine aW λe aa hk=>?_;refine C.dv (aD.less (cy _) eH) ?_;rintro v aN ⟨ja,rfl,rfl⟩;refine hk _ _ ?_
     (try simp only[iX,fi])
     refine Ch.nk [3,4] (xS ?_ ?_)
     ·refine aW λe aa hk=>?_;refine aC.mc underlying117 (ax type187) rfl (λjZ js=>hk _ _ ?_);refine Ch.nk [4] (fF ?_);refine aW λe aa hk=>?_;refine aC.mc underlying118 (ax type81) rfl (λjY zd=>hk _ _ ?_);refine Ch.q 5 (λh=>C.bd rfl h) ?_;refine Ch.nk [6] (fF ?_);refine aW λe aa hk=>?_;refine C.bx rfl (λiI=>hk _ _ ?_);refine Ch.nk [8] (fF ?_);refine aW λe aa hk=>?_;refine C.st rfl (hk _ undef ?_) (hr:=h6.rd _ _);refine eQ ?_;exact cZ jC (ja,jZ,jY,iI,b6) js
     ·refine aW λe aa hk=>?_;refine aC.mc underlying118 (ax type81) rfl (λjY zd=>hk _ _ ?_);refine Ch.nk [3] (fF ?_);refine aW λe aa hk=>?_;refine aC.mc underlying117 (ax type187) rfl (λjZ js=>hk _ _ ?_);refine Ch.q 5 (λh=>C.bd rfl h) ?_;refine Ch.nk [6] (fF ?_);refine aW λe aa hk=>?_;refine C.bx rfl (λiI=>hk _ _ ?_);refine Ch.nk [8] (fF ?_);refine aW λe aa hk=>?_;refine C.st rfl (hk _ undef ?_) (hr:=h6.rd _ _);refine eQ ?_;exact cZ jC (ja,jZ,jY,iI,b6) js
    ·refine aW λe aa hk=>?_;refine aC.mc underlying117 (ax type187) rfl (λjZ js=>hk _ _ ?_);refine Ch.nk [2,4] (xS ?_ ?_)
     ·refine aW λe aa hk=>?_;refine C.dv (aD.less (cy _) eH) ?_;rintro v aN ⟨ja,rfl,rfl⟩;refine hk _ _ ?_
      (try simp only[iX,fi])
      refine Ch.nk [4] (fF ?_);refine aW λe aa hk=>?_;refine aC.mc underlying118 (ax type81) rfl (λjY zd=>hk _ _ ?_);refine Ch.q 5 (λh=>C.bd rfl h) ?_;refine Ch.nk [6] (fF ?_);refine aW λe aa hk=>?_;refine C.bx rfl (λiI=>hk _ _ ?_);refine Ch.nk [8] (fF ?_);refine aW λe aa hk=>?_;refine C.st rfl (hk _ undef ?_) (hr:=h6.rd _ _);refine eQ ?_;exact cZ jC (ja,jZ,jY,iI,b6) js
     ·refine aW λe aa hk=>?_;refine aC.mc underlying118 (ax type81) rfl (λjY zd=>hk _ _ ?_);refine Ch.nk [2] (fF ?_);refine aW λe aa hk=>?_;refine C.dv (aD.less (cy _) eH) ?_;rintro v aN ⟨ja,rfl,rfl⟩;refine hk _ _ ?_
      (try simp only[iX,fi])
      refine Ch.q 5 (λh=>C.bd rfl h) ?_;refine Ch.nk [6] (fF ?_);refine aW λe aa hk=>?_;refine C.bx rfl (λiI=>hk _ _ ?_);refine Ch.nk [8] (fF ?_);refine aW λe aa hk=>?_;refine C.st rfl (hk _ undef ?_) (hr:=h6.rd _ _);refine eQ ?_;exact cZ jC (ja,jZ,jY,iI,b6) js
    ·refine aW λe aa hk=>?_;refine aC.mc underlying118 (ax type81) rfl (λjY zd=>hk _ _ ?_);refine Ch.nk [2,3] (xS ?_ ?_)
     ·refine aW λe aa hk=>?_;refine C.dv (aD.less (cy _) eH) ?_;rintro v aN ⟨ja,rfl,rfl⟩;refine hk _ _ ?_
      (try simp only[iX,fi])
      refine Ch.nk [3] (fF ?_);refine aW λe aa hk=>?_;refine aC.mc underlying117 (ax type187) rfl (λjZ js=>hk _ _ ?_);refine Ch.q 5 (λh=>C.bd rfl h) ?_;refine Ch.nk [6] (fF ?_);refine aW λe aa hk=>?_;refine C.bx rfl (λiI=>hk _ _ ?_);refine Ch.nk [8] (fF ?_);refine aW λe aa hk=>?_;refine C.st rfl (hk _ undef ?_) (hr:=h6.rd _ _);refine eQ ?_;exact cZ jC (ja,jZ,jY,iI,b6) js
     ·refine aW λe aa hk=>?_;refine aC.mc underlying117 (ax type187) rfl (λjZ js=>hk _ _ ?_);refine Ch.nk [2] (fF ?_);refine aW λe aa hk=>?_;refine C.dv (aD.less (cy _) eH) ?_;rintro v aN ⟨ja,rfl,rfl⟩;refine hk _ _ ?_
      (try simp only[iX,fi])
      refine Ch.q 5 (λh=>C.bd rfl h) ?_;refine Ch.nk [6] (fF ?_);refine aW λe aa hk=>?_;refine C.bx rfl (λiI=>hk _ _ ?_);refine Ch.nk [8] (fF ?_);refine aW λe aa hk=>?_;refine C.st rfl (hk _ undef ?_) (hr:=h6.rd _ _);refine eQ ?_;exact cZ jC (ja,jZ,jY,iI,b6) js
  ·rintro⟨ja,jZ,jY,iI,b6⟩ js e;dsimp only at js⊢;refine At.apart (b:=jZ) (x:=dn) dB.au (λPe=>?_);have hl4:l.length<=3:=az;refine C.vL (cG 28 0 10) 11 [6,7,8,9,10] 2 ?_ (W:=[nU b 0 hs.v aG.v aG.v (.chan (some dn)) false ((kk:Int)*KQ),bR cb (.cells #[aF b] 23 (0,0)),bR b6 (.cells #[aF iI] 114 (0,0))]);refine rR ?_;refine Dr.chain rfl ?_ (λ_ s=>bZ.sat bZ.au s);refine Ch.nk [6] (fF ?_);refine aW λe aa hk=>?_;refine C.nj rfl (λb34=>hk _ _ .cons ?_);refine Ch.nk [7] (fF ?_);refine aW λe aa hk=>?_;refine aC.ap (f:=ek) (z:=1) (el:=114) (m:=[iI]) (l:=l.map (·.h.bh)) (s:=hs) rfl Fo.au TI (λj=>rfl) (λH s=>.inr ⟨b34,0,1,#[aF iI],114,rfl,Has.get Has.au s,gZ 1,rfl,λj=>rfl⟩) (λs' hl ha=>hk _ _ lu ?_) (by simp;omega) rfl (by decide) rfl rfl;refine Ch.q 8 (λh=>C.nc rfl h) ?_;refine Ch.q 9 (λh=>C.fa rfl h) ?_;refine Ch.nk [10] (fF ?_);refine aW λe aa hk=>?_;refine C.st rfl (hk _ undef ?_);refine zD ?_;refine C.cE (Oc (k:=kk) az) ?_;refine jK ?_;refine C.mf rfl ?_;refine At.BD (s:=s') (x:=cb) dB.au (λa1=>?_);refine At.BD (s:=s') (x:=b6) dB.au (λa2=>?_);refine At.BD (s:=s') (x:=b) dB.au (λa3=>?_);refine At.BD (s:=s') (x:=iI) dB.au (λa4=>?_);have YT:σk.n≠0:=by have:=N.n;have:=hσ.n;omega
   refine aC.go (x:=⟨.fn (.func 49) #[aF cb,aF b6],#[]⟩) (dZ ⟨σk.n,b6,iI,ja,jZ,jY⟩ ⟨b,cb,dn⟩) rfl rfl (Rq rfl) ⟨_,_,rfl⟩ (E8 Pe) (λH s=>(qI (h:=⟨σk.n,b6,iI,ja,jZ,jY⟩) (C:=⟨b,cb,dn⟩) (kw:=0) (kd:=0) (by decide) (Has.get Has.au s) (Has.get Has.au s) (Has.get Has.au s) rfl (Has.get Has.au s) rfl (Has.get Has.au s) (Has.get Has.au s)).1)
    (λH s=>(qI (h:=⟨σk.n,b6,iI,ja,jZ,jY⟩) (C:=⟨b,cb,dn⟩) (i:=1) (kw:=0) (kd:=0) (by decide) (Has.get Has.au s) (Has.get Has.au s) (Has.get Has.au s) rfl (Has.get Has.au s) rfl (Has.get Has.au s) (Has.get Has.au s)).2) ⟨600,Kk (h:=⟨σk.n,b6,iI,ja,jZ,jY⟩) (C:=⟨b,cb,dn⟩)⟩ YT YT ?_
   have C:ab prog true (bP.bw (σk.n0 (dZ ⟨σk.n,b6,iI,ja,jZ,jY⟩ ⟨b,cb,dn⟩))) (aC prog Post bP (σk.n0 (dZ ⟨σk.n,b6,iI,ja,jZ,jY⟩ ⟨b,cb,dn⟩)) 0 os out):=aC.dK;refine dD ?_;refine iy.cls ⟨⟨σk.n,b6,iI,ja,jZ,jY⟩,jm kk n,0,0⟩ ?_;refine qU (f:=iy) (l:=l) ⟨⟨σk.n,b6,iI,ja,jZ,jY⟩,jm kk n,0,0⟩ dB.au ?_;rw[show l.map (·.h.bh)++[iI]=(l++[(⟨⟨σk.n,b6,iI,ja,jZ,jY⟩,jm kk n,0,0⟩:HV)]).map (·.h.bh) by simp];refine Gq (c:=.skip) ih (σk.n0 (dZ ⟨σk.n,b6,iI,ja,jZ,jY⟩ ⟨b,cb,dn⟩),s',l++[⟨⟨σk.n,b6,iI,ja,jZ,jY⟩,jm kk n,0,0⟩],kk+1) rfl ⟨N.hire (v:=⟨⟨σk.n,b6,iI,ja,jZ,jY⟩,jm kk n,0,0⟩) rfl hσ.lt js Pe,by simp[tX],by show((kk+1:Nat):Int)<=n;omega,?_,?_⟩ (by show(n-((kk+1:Nat):Int)).toNat<(n-(kk:Int)).toNat;omega)
   ·show(l++[_]).map _=_;have Di:kk<(upto n).length:=by simp[upto];omega
    rw[eF,hm,List.take_add_one,e9 Di];simp[upto]
   ·intro b' nI i s p hi hp z;have hi:Go.ConcN.upd σk.aT σk.n (some (dZ ⟨σk.n,b6,iI,ja,jZ,jY⟩ ⟨b,cb,dn⟩)) i=some s:=hi;by_cases e1:i=σk.n
    ·subst e1;rw[Go.ConcN.upd_same]at hi;obtain rfl:=bS hi;simp only[dZ,ga,l7,fO]at hp;rcases hp with rfl|rfl|rfl|rfl
     ·exact a1 b' nI z.symm
     ·exact a2 b' nI z.symm
     ·exact a3 b' nI z.symm
     ·exact a4 b' nI z.symm
    ·rw[Go.ConcN.upd_ne _ _ e1]at hi;exact ha b' nI i s p hi hp z
 ·refine C.dP rfl ?_;refine dV ?_;subst tX;refine At.aG bN 7 190 (At.aG qZ 3 126 ?_);refine dw.cls ⟨⟨b,cb,dn⟩,l,[],[],false⟩ ?_ (hs:=hs) (bg:=aG) (tx:=aG);have hl:(l.length:Int)=n:=az;refine aC.bk aJ aj ⟨⟨⟨b,cb,dn⟩,l,[],[],false⟩,N,rfl,rfl,?_,rfl,rfl,rfl⟩;rw[hm,iq];simp[upto];omega
theorem At.abV{R:Nat->aP->Array Obj->Prop}{d:Nat}{As L:List HP}{g:aP}{α:Type}{f:α->List Value}{z:Nat}{el:aQ}{s:ay}{l:List α}(hf:Fo (a9 f z el s l) As L)(h:∀ J,dS J f el s l->(∀ h,a7 J h->a9 f z el s l h)->At R d (a7 J::L) g):At R d As g:=
 At.fo hf λH st=>by
  obtain⟨hh,x,gu,hr⟩:=st;refine h hh ?_ (λh e=>by have e:h=hh:=e;rw[e];exact x) H ⟨hh,rfl,gu,hr⟩;rcases x with⟨e1,e2⟩|⟨b,pad,e,_,_,hp⟩
  ·exact .inl ⟨e1,e2⟩
  ·have hb:s.b=b:=by rw[e];rfl
   have hp:hh=one b _:=hp;exact .inr ⟨pad,by rw[hb];exact e,by rw[hb,hp];simp[one]⟩
theorem KM{σ:Gh}{n:Int}(hn:1<=n/\n<=4)(hσ:KJ σ):bC prog bP 14 #[aI n] σ [] (λv σ' As=>∃ c:CV,pw σ σ' c.G c.ae/\v=.tuple #[aF c.G.b,aI 0]/\As=[dw c]/\c.ae.map (·.s)=((upto n).map λk=>jm k n)/\c.aE=[]/\c.aL=[]/\c.ai=false):=by refine bC.of ?_;intro Post os out kd F c' cs C aJ aj;refine Lp ?_;refine aC.kK (A:=[]) (OI hn hσ) ?_;rintro v σ' aN ⟨c,N,rfl,rfl,h1,h2,h3,h4⟩;have C:ab prog true (bP.bw σ') (aC prog Post bP σ' 0 os out):=aC.dK;refine JH ?_;refine C.Ub underlying46 rfl ?_;refine kE ?_;exact aC.cK aJ aj ⟨c,N,rfl,rfl,h1,h2,h3,h4⟩
theorem fL{ak:Bool}{nm:Value}{at_:Int}:aD prog ak bQ 30 #[.nilIface,nm,aI at_] [] (λv As=>v=aI 0/\As=[]):=by refine aD.of λR C kd d F c cs aJ aj=>?_;refine zB ?_;refine dH ?_;refine C.Ub underlying46 rfl ?_;refine dD ?_;exact C.bk aJ aj ⟨rfl,rfl⟩
def wA:Option Nat->Int
 |none=>0
 |some k=>k+1
theorem Ck{σ:Gh}{c:CV}{so:ay}{ops:List cr}{I:HL}{eb:Nat->Nat×Nat}(hE:ig I eb)(hn:1<=c.ae.length/\c.ae.length<=4)(mS:c.aE.length<2^20)(um:c.aL.length<=60)(oE:ops.length<2^43):
  bC prog bP 18 #[aF c.G.b,so.v] σ [dw c,a7 I,a9 cF 3 67 so ops] (λv σ' As=>∃ er t gD gF I',σ'=σ/\v=.tuple #[aI t,aI (wA er)]/\As=[dw {c with aE:=gD,aL:=gF},a7 I']/\
   ((c.ai=true/\er=some 8/\t=0/\gD=c.aE/\gF=c.aL/\I'=I)\/(c.ai=false/\G4 eb I c.ae.length ops c.aE c.aL er t I' gD gF))):=by
 refine bC.of ?_;intro Post os out kd F c' cs C aJ aj;refine Lp ?_;refine At.aG cF 3 67 ?_;refine C.Dw (f:=cF) (s:=aG) (l:=[]) ops rfl (λs1=>?_) (hsrc:=λH st=>dt.src (f:=cF) (el:=67) (s:=so) (.own Fo.au) st (λ_=>rfl)) (hsz:=by simp only[tA];omega);rw[fi];refine At.jB (show bZ _ (a9 cF 3 67 s1 ops::dw c::a7 I::F) by exact bZ.au) ?_;refine dD ?_;refine At.abV (s:=s1) (f:=cF) (z:=3) (el:=67) (l:=ops) Fo.au (λJ hJ YU=>?_);refine aC.kK (Cj hE hn mS um hJ oE) ?_;rintro v σ' aN ⟨er,t,gD,gF,I',L,u,rfl,rfl,nK,rfl,Hl⟩;refine bM ?_;refine At.turn (A:=a7 J) (A':=a9 cF 3 67 s1 ops) Fo.au YU ?_;refine kE ?_;refine C.m3 (f:=cF) (s:=s1) (l:=ops) rfl ?_;refine bJ ?_;have hE':ig I' eb:=by
  rcases Hl with⟨_,_,_,_,_,rfl⟩|⟨_,hs,_⟩
  ·exact hE
  ·exact hE.mono hs
 refine C.cx (X:=Nat×List cr) (λx=>[(6,s1.v),(7,aI t),(8,u),(18,s1.v),(19,aI ops.length),(20,aI x.1)]) (λx=>a9 cF 3 67 s1 x.2::dw {c with aE:=gD,aL:=gF}::a7 I'::(L++F)) (λx=>x.1<=ops.length/\x.2.length=ops.length) (λx=>ops.length-x.1) (0,ops) ⟨rfl,rfl,rfl,rfl,rfl,rfl,trivial⟩ ⟨eK _,rfl⟩ ?_;rintro⟨i,l⟩ e ⟨hi,hl⟩ ih;dsimp only at hi hl⊢;refine bJ ?_;by_cases dA:(i:Int)<ops.length
 ·refine C.fe rfl ?_;refine i6 ?_;refine C.kJ (f:=cF) (s:=s1) (l:=l) (j:=i) rfl ?_ (hj:=by omega);refine C.Gm (f:=cF) (s:=s1) (l:=l) (j:=i) ⟨true,122, -1⟩ rfl ?_;refine dD ?_;exact again ih (i+1,l.set i ⟨true,122, -1⟩) ⟨dI,by dsimp only;rw[fM];exact hl⟩ (dI)
 ·refine C.dP rfl ?_;refine dD ?_;cases er with
  |none=>
   obtain⟨rfl,rfl⟩:=nK;refine zB ?_;refine C.cE (aD.less (cy _) fL) (A:=[]) ?_;refine zB ?_;refine dN ?_;exact aC.cK aJ aj ⟨none,t,gD,gF,I',rfl,rfl,rfl,Hl⟩
  |some k=>
   obtain⟨bE,rfl,rfl⟩:=nK;have hk:k<9:=by
    rcases Hl with⟨_,h,_⟩|⟨_,_,h|h|h⟩
    ·cases h;decide
    ·have:=h.2.1;cases this;decide
    ·have:=h.2.2.1;cases this;decide
    ·have:=h.2.2.1;cases this
   refine bM ?_;refine C.cE (gI hE' (bE:=bE) (k:=k) (nm:=OE) (at_:=0) hk) ?_;refine bM ?_;refine dN ?_;exact aC.cK aJ aj ⟨some k,t,gD,gF,I',rfl,rfl,rfl,Hl⟩
end
section
open Go.Proofs Go.Conc
section
variable{P:bL}{ak:Bool}{B:jW}{R:Nat->aP->Array Obj->Prop}{d:Nat}{As:List HP}
variable{fn:bI}{kd:Kd}{n:Nat}{e:Nat->Value}{ds:List dQ}{k:List Item}{cs:List Frame}
variable{ops:Array Oper}{i:Nat}{aa:List Nat}{t:Nat}{ty:aQ}{pos:String}{af:Array Edge}{gd:Option (Nat×Bool)}{x y:cA}
theorem ab.IQ(C:ab P ak B R){op:BinOp}{r:Bool}{tt t2 tp:aQ}[cP:Pt P tt tp]{a:Option Addr}(ho:aZ ops i=some ⟨some t,.binOp op tt x y t2,ty,pos,af,gd⟩)(h:At R d As (gr fn kd n (put e t (.bool (a.isNone==r))) ds (.inRegion ops aa::k) cs))
  (cq:isEq op=some r:=by rfl) (hx:ev n e x=.pointer a:=by rfl) (hy:ev n e y=.pointer none:=by rfl) (hw:aM ops n e gd=true:=by rfl):At R d As (gr fn kd n e ds (.inRegion ops (i::aa)::k) cs):=
 C.v0 ho h (by
  unfold execOp;simp only[hx,hy];refine bq (a:=.bool (a.isNone==r)) ?_ rfl;have h0:fD P (Op.equal tt (.pointer a) (.pointer none))=some a.isNone:=by unfold Op.equal;show fD P (Op.equalIn (9998+1+1) _ _ _)=_;unfold Op.equalIn;refine bq (fy cP.h) ?_;cases a<;>rfl
  cases op<;>first|(cases cq;done)|skip
  ·obtain rfl:=bS cq;refine bq (a:=()) (by unfold eqGuard;rfl) ?_;refine bq h0 ?_;cases a<;>rfl
  ·obtain rfl:=bS cq;refine bq (a:=()) (by unfold eqGuard;rfl) ?_;refine bq h0 ?_;cases a<;>rfl) hw
end
structure lC where
 kind:Int
 cl:Int
 a:Int
 b:Int
 c:Int
 so:Value
 ops:List cr
def ny(s:lC):List Value:=[aI s.kind,aI s.cl,aI s.a,aI s.b,aI s.c,s.so]
def WC(x:Int):Prop:= -9223372036854775808<=x/\x<=9223372036854775807
structure py(I:HL)(bot:Nat)(s:lC):Prop where
 kind:WC s.kind
 cl:WC s.cl
 a:WC s.a
 b:WC s.b
 c:WC s.c
 o:yT I bot fX 3 s.so s.ops
 z:∀ o∈s.ops,Z0 o
 len:s.ops.length*24<=140737488355328
theorem py.mono{I I':HL}{bot:Nat}{s:lC}(h:py I bot s)(hs:Sub I I'):py I' bot s:={h with o:=h.o.mono hs}
structure sb(σ:Gh):Prop where
 n:σ.n≠0
 no:∀ i,σ.aT i=none
theorem sb.ok{σ:Gh}(h:sb σ):KJ σ:=⟨h.n,λi s e=>by rw[h.no]at e;cases e⟩
end
section
open Go.Proofs Go.Conc
variable{R:Nat->aP->Array Obj->Prop}{d:Nat}{As F L:List HP}{g:aP}{rs:List i7}{q:Nat}
theorem Rr(hi:q<rs.length)(hf:Fo (all (rs.map uH)) As L)(h:At R d (a9 cF 3 67 rs[q].so rs[q].ops::a9 da 1 21 rs[q].sr rs[q].reads::all ((rs.eraseIdx q).map uH)::L) g):At R d As g:=
 j7 (f:=uH) hi hf λH s=>h H (Sat.flat (l:=[a9 cF 3 67 rs[q].so rs[q].ops,a9 da 1 21 rs[q].sr rs[q].reads]) s)
theorem uJ{w:WV}(hi:q<w.sh.length)(hr:dB [nP w.sh[q],all ((w.sh.eraseIdx q).map nP)] As L)(h:At R d (all (w.sh.map nP)::L) g):At R d As g:=mF (f:=nP) hi w.sh[q] hr (by rw[lO];exact h)
def YV(m:RecR):Prop:=(∀ o∈m.ops,(-9223372036854775808<=o.k/\o.k<=9223372036854775807)/\(-9223372036854775808<=o.v/\o.v<=9223372036854775807))/\(∀ x∈m.reads, -9223372036854775808<=x/\x<=9223372036854775807)/\m.ops.length<2^20/\m.reads.length<2^20
abbrev YW(b:Nat)(m:i7):HP:=bR b (.cells #[aI m.kind,aI m.tx,.bool m.yes,aI m.home,m.so.v,m.sr.v] 167 (0,0))
theorem zK{σ:Gh}{c:CV}{I:HL}{w:WV}{bw:Nat}{s:Int}(hn:c.ae.length<=4)(hJ:q6 I c)(hW:WI I w)(ks:∀ v∈c.ae,v.s.log.length<2^30)(Sd:c.ae.length=w.sh.length)
  (he:∀ (q:Nat) (h1:q<c.ae.length) (h2:q<w.sh.length),(c.ae[q]).s.log.map (·.abs.a8)=(w.sh[q]).2.log.map (·.toRecR)/\(c.ae[q]).s.aX=(w.sh[q]).2.aX) (hz:∀ p∈w.sh,∀ r∈p.2.log,YV r.toRecR):
  bC prog bP 125 #[.agg #[aF c.G.b,aF bw],aI s] σ [dw c,wP bw w,a7 I] (λv σ' As=>σ'=σ/\v=.bool true/\As=[dw c,wP bw w,a7 I]):=by
 refine bC.of ?_;intro Post os out kd F c' cs C aJ aj;refine bM ?_;cases mZ:ff c.ae s with
 |none=>
  have iW:s<0\/(c.ae.length:Int)<=s:=by
   unfold ff at mZ;split at mZ
   ·exact .inl (by assumption)
   ·right;rw[C4]at mZ;omega
  refine bJ ?_;refine C.bx rfl (λb1=>?_);refine dH ?_;refine C.dv (aD.less (cy _) (mV (w:=w) (b:=bw) (i:=s))) ?_;rintro v aN ⟨hv,rfl⟩;refine bM ?_;have hv:=hv.resolve_right (by rintro⟨q,hq,rfl,_⟩;omega);obtain⟨_,rfl⟩:=hv;refine dD ?_;refine C.cx (X:=Nat) (λx=>[(1,aI s),(2,aF b1),(5,.pointer none),(6,aI x)]) (λ_=>mT b1 c.G.b bw::dw c::wP bw w::a7 I::F) (λx=>x<=2) (λx=>2-x) 0 ⟨rfl,rfl,rfl,rfl,trivial⟩ (eK _) ?_;intro x e hx ih;refine dN ?_;refine C.cmp rfl (λrW=>?_) (λrW=>?_)
  ·refine dH ?_;refine aC.kK (rY (k:=s) hn hJ ks) ?_;rintro v σ' aN ⟨rfl,sl,rs,aX,rfl,hm,rfl⟩;rw[mZ]at hm;obtain⟨rfl,rfl⟩:=hm;refine JH ?_;refine C.IQ rfl ?_;refine cW ?_;refine C.m3 rfl ?_ (s:=sl) (l:=([]:List i7)) (f:=recC);refine C.fe rfl ?_;refine bJ ?_;refine C.fe rfl ?_;refine dN ?_;exact aC.cK aJ aj ⟨rfl,rfl,rfl⟩
  ·refine dD ?_;exact aC.cK aJ aj ⟨rfl,rfl,rfl⟩
 |some v0=>
  obtain⟨q,rfl,hq,rfl⟩:=i9 mZ;have qR:q<w.sh.length:=az;obtain⟨N7,heg⟩:=he q hq qR;have hSI:=hW.sh _ (br qR);have hsz:=hz _ (br qR);have Q7:=ks _ (br hq);refine bJ ?_;refine C.bx rfl (λb1=>?_);refine dH ?_;refine C.dv (aD.less (cy _) (mV (w:=w) (b:=bw) (i:=q))) ?_;rintro v aN ⟨hv,rfl⟩;refine bM ?_;have hv:=hv.resolve_left (by rintro⟨h|h,_⟩<;>omega);obtain⟨q',CB,e1,rfl⟩:=hv;obtain rfl:q'=q:=az;refine wP.opn (b:=bw) (w:=w) (h:=λsh bg tx=>?_);refine j7 (f:=nP) (l:=w.sh) qR Fo.au ?_;obtain⟨p,hp⟩:∃ p,p=w.sh[q']:=⟨_,rfl⟩;rw[<- hp]at N7 heg hSI hsz⊢;obtain⟨bs,zs⟩:=p;dsimp only[nP]at N7 heg hSI hsz⊢;refine cY.opn (b:=bs) (s:=zs) (h:=λlg vl lk un tm wt ot=>?_);refine dD ?_;refine C.cx (X:=Nat) (λx=>[(1,aI q'),(2,aF b1),(5,aF bs),(6,aI x)]) (λ_=>mT b1 c.G.b bw::dw c::y9 bs zs lg vl lk un tm wt ot (all ((w.sh.eraseIdx q').map nP)::bR bw (.cells #[sh.v,bg.v,tx.v,.bool w.ai] 53 (0,0))::a9 ek 1 54 sh (w.sh.map (·.1))::a9 bN 7 137 bg w.aE::a9 qZ 3 71 tx w.aL::a7 I::F)) (λx=>x<=2) (λx=>2-x) 0 ⟨rfl,rfl,rfl,rfl,trivial⟩ (eK _) ?_;intro x e hx ih;refine dN ?_;refine C.cmp rfl (λrW=>?_) (λrW=>?_)
  ·refine dH ?_;refine aC.kK (rY (k:=q') hn hJ ks) ?_;rintro v σ' aN ⟨rfl,sl,rs,aX,rfl,hm,rfl⟩;rw[mZ]at hm;obtain⟨pB,rfl⟩:=hm;refine bM ?_;have YX:rs.map (·.toRecR)=zs.log.map (·.toRecR):=pB.trans N7;have Bh:rs.length=zs.log.length:=by have:=congrArg List.length YX;simpa using this
   have afY:rs.length<2^30:=by have:=congrArg List.length pB;simp only[cV]at this;omega
   rw[heg];refine kE ?_;refine C.IQ rfl ?_;refine cW ?_;refine C.m3 rfl ?_ (s:=sl) (l:=rs) (f:=recC);refine cW ?_;refine C.m3 rfl ?_ (s:=lg) (l:=zs.log) (f:=recC);refine C.dP rfl ?_;refine dH ?_;refine C.dP rfl ?_ (hf:=by intro h;exact h rfl);refine dH ?_;refine C.cx (X:=Nat×List i7) (λy=>[(1,aI q'),(2,aF b1),(5,aF bs),(6,aI x),(7,sl.v),(9,aI y.1)]) (λy=>a9 recC 6 167 sl y.2::all ((rs.drop y.1).map uH)::mT b1 c.G.b bw::dw c::y9 bs zs lg vl lk un tm wt ot (all ((w.sh.eraseIdx q').map nP)::bR bw (.cells #[sh.v,bg.v,tx.v,.bool w.ai] 53 (0,0))::a9 ek 1 54 sh (w.sh.map (·.1))::a9 bN 7 137 bg w.aE::a9 qZ 3 71 tx w.aL::a7 I::F)) (λy=>y.1<=rs.length/\y.2.length=rs.length/\y.2.drop y.1=rs.drop y.1) (λy=>rs.length-y.1) (0,rs) ⟨rfl,rfl,rfl,rfl,rfl,rfl,trivial⟩ ⟨eK _,rfl,rfl⟩ ?_ (hI:=by rw[zg];exact bZ.au);rintro⟨i,mx⟩ e ⟨hi,Ys,BS⟩ Lm;dsimp only at hi Ys BS⊢;refine cW ?_;refine C.m3 rfl ?_ (s:=sl) (l:=mx) (f:=recC);refine C.cmp rfl (λh59=>?_) (λh59=>?_)
   ·refine bJ ?_;have cN:i<rs.length:=az;have Yt:i<mx.length:=az;have MN:i<zs.log.length:=az;have SN:mx[i]=rs[i]:=by have h1:=iR Yt;have h2:=iR cN;rw[BS,h2]at h1;exact(zW h1).1.symm
    obtain⟨ma,Ra⟩:∃ ma,ma=rs[i]:=⟨_,rfl⟩;obtain⟨mb,Kt⟩:∃ mb,mb=zs.log[i]:=⟨_,rfl⟩;have heq:ma.toRecR=mb.toRecR:=by
     have h1:(rs.map (·.toRecR))[i]'(by simpa using cN)=(zs.log.map (·.toRecR))[i]'(by simpa using MN):=by simp only[YX]
     rw[pR,pR]at h1;rw[Ra,Kt];exact h1
    have Rb:=hSI.log mb (Kt▸br MN);have Ww:=hsz mb (Kt▸br MN);rw[iR cN,<- Ra];obtain⟨ra,E0,B5⟩:=ma;obtain⟨rb,sob,srb⟩:=mb;obtain rfl:ra=rb:=heq;dsimp only at Ww;obtain⟨UF,hz2,hz3,hz4⟩:=Ww;refine dN ?_;refine C.kJ rfl ?_ (s:=sl) (l:=mx) (f:=recC) (j:=i);refine C.mE rfl (λhj=>?_) (s:=sl) (l:=mx) (f:=recC) (j:=i);rw[SN,<- Ra];simp only[recC];refine C.al rfl (λb6=>?_);refine kE ?_;refine C.kJ rfl ?_ (s:=lg) (l:=zs.log) (f:=recC) (j:=i);refine C.mE rfl (λhj=>?_) (s:=lg) (l:=zs.log) (f:=recC) (j:=i);rw[<- Kt];simp only[recC];refine C.al rfl (λb7=>?_);refine dV ?_;refine Rr (rs:=(⟨ra,E0,B5⟩:i7)::rs.drop (i+1)) (q:=0) (Nat.zero_lt_succ _) Fo.au ?_;simp only[PJ,List.eraseIdx_cons_zero];refine C.cE (aD.less (cy _) (uw (so:=E0) (ro:=sob) (ops:=ra.ops) rfl Rb.o UF az)) ?_;refine Lp ?_;refine C.cE (aD.less (cy _) (mO (so:=B5) (ro:=srb) (l:=ra.reads) rfl Rb.r hz2 az)) ?_;refine jK ?_;refine C.rg [0,1,2,3,4,5,6,7,8,9,10,11,12,13,14,15,16,17,18,19,20,21,22,23,24,25,26,27,28,29,30,31,32,33] ?_;refine cW ?_;refine C.dP rfl ?_ (hf:=by intro h;exact h rfl);refine dD ?_;refine C.dP rfl ?_ (hf:=by intro h;exact h rfl);refine dH ?_;refine C.GH underlying4 rfl ?_;refine dH ?_;refine C.dP rfl ?_ (hf:=by intro h;exact h rfl);refine nO ?_;refine C.cx (X:=Nat×List cr) (λy=>[(1,aI q'),(2,aF b1),(5,aF bs),(6,aI x),(7,sl.v),(9,aI i),(10,aF b6),(14,aI y.1)]) (λy=>a9 cF 3 67 E0 y.2::a9 da 1 21 B5 ra.reads::YW b6 ⟨ra,E0,B5⟩::a9 recC 6 167 sl mx::all ((rs.drop (i+1)).map uH)::mT b1 c.G.b bw::dw c::y9 bs zs lg vl lk un tm wt ot (all ((w.sh.eraseIdx q').map nP)::bR bw (.cells #[sh.v,bg.v,tx.v,.bool w.ai] 53 (0,0))::a9 ek 1 54 sh (w.sh.map (·.1))::a9 bN 7 137 bg w.aE::a9 qZ 3 71 tx w.aL::a7 I::F)) (λy=>y.1<=ra.ops.length/\y.2.length=ra.ops.length) (λy=>ra.ops.length-y.1) (0,ra.ops) ⟨rfl,rfl,rfl,rfl,rfl,rfl,rfl,rfl,trivial⟩ ⟨eK _,rfl⟩ ?_;rintro⟨k,lo⟩ e ⟨hk,oE⟩ IJ;dsimp only at hk oE⊢;refine dD ?_;refine C.m3 rfl ?_ (s:=E0) (l:=lo) (f:=cF);refine C.cmp rfl (λabY=>?_) (λabY=>?_)
    ·refine dV ?_;refine C.kJ rfl ?_ (s:=E0) (l:=lo) (f:=cF) (j:=k);refine C.Gm (s:=E0) (l:=lo) (f:=cF) (j:=k) ⟨false,113,0⟩ rfl ?_;refine dH ?_;exact again IJ (k+1,lo.set k ⟨false,113,0⟩) ⟨dI,by dsimp only;rw[fM];exact oE⟩ (dI)
    ·refine dD ?_;refine C.cx (X:=Nat×List Int) (λy=>[(1,aI q'),(2,aF b1),(5,aF bs),(6,aI x),(7,sl.v),(9,aI i),(10,aF b6),(15,aI y.1)]) (λy=>a9 da 1 21 B5 y.2::YW b6 ⟨ra,E0,B5⟩::a9 recC 6 167 sl mx::all ((rs.drop (i+1)).map uH)::mT b1 c.G.b bw::dw c::y9 bs zs lg vl lk un tm wt ot (all ((w.sh.eraseIdx q').map nP)::bR bw (.cells #[sh.v,bg.v,tx.v,.bool w.ai] 53 (0,0))::a9 ek 1 54 sh (w.sh.map (·.1))::a9 bN 7 137 bg w.aE::a9 qZ 3 71 tx w.aL::a7 I::F)) (λy=>y.1<=ra.reads.length/\y.2.length=ra.reads.length) (λy=>ra.reads.length-y.1) (0,ra.reads) ⟨rfl,rfl,rfl,rfl,rfl,rfl,rfl,rfl,trivial⟩ ⟨eK _,rfl⟩ ?_;rintro⟨k,lo⟩ e ⟨hk,oE⟩ IJ;dsimp only at hk oE⊢;refine dD ?_;refine C.m3 rfl ?_ (s:=B5) (l:=lo) (f:=da);refine C.cmp rfl (λabZ=>?_) (λabZ=>?_)
     ·refine dH ?_;refine C.kJ rfl ?_ (s:=B5) (l:=lo) (f:=da) (j:=k);refine C.zt (s:=B5) (l:=lo) (f:=da) (j:=k) 99 rfl ?_;refine dH ?_;exact again IJ (k+1,lo.set k 99) ⟨dI,by dsimp only;rw[fM];exact oE⟩ (dI)
     ·refine dH ?_;refine C.kJ rfl ?_ (s:=sl) (l:=mx) (f:=recC) (j:=i);refine C.Gm (s:=sl) (l:=mx) (f:=recC) (j:=i) ⟨eh,aG,aG⟩ rfl ?_;refine dH ?_;refine again Lm (i+1,mx.set i ⟨eh,aG,aG⟩) ⟨cN,by dsimp only;rw[fM];exact Ys,?_⟩ (dI);dsimp only;rw[HJ az];have h1:=iR Yt;have h2:=iR cN;rw[BS,h2]at h1;exact(zW h1).2.symm
   ·refine dV ?_;exact again ih (x+1) az az
  ·refine dD ?_;refine cY.cls (b:=bs) zs ?_ (lg:=lg) (vl:=vl) (lk:=lk) (un:=un) (tm:=tm) (wt:=wt) (ot:=ot);refine At.jB (show bZ _ (nP (bs,zs)::all ((w.sh.eraseIdx q').map nP)::mT b1 c.G.b bw::dw c::bR bw (.cells #[sh.v,bg.v,tx.v,.bool w.ai] 53 (0,0))::a9 ek 1 54 sh (w.sh.map (·.1))::a9 bN 7 137 bg w.aE::a9 qZ 3 71 tx w.aL::a7 I::F) by exact bZ.au) ?_;rw[hp];refine uJ (w:=w) qR dB.au ?_;refine wP.cls (b:=bw) w ?_;exact aC.cK aJ aj ⟨rfl,rfl,rfl⟩
def nR(d:Int)(m:List (Int×Int)):List Int:=(List.range 26).map λ(k:Nat)=>(aB m (97+(k:Int))).getD d
theorem jI(d:Int)(m:List (Int×Int)):(nR d m).length=26:=by simp[nR]
theorem uK(d:Int)(m:List (Int×Int)){k:Nat}(h:k<26):(nR d m)[k]'(by rw[jI];exact h)=(aB m (97+(k:Int))).getD d:=by simp[nR]
def zL(d:Int)(m:List (Int×Int))(k:Nat):List Int:=(nR d m).take k++List.replicate (26-k) 0
theorem nz(d:Int)(m:List (Int×Int)){k:Nat}(h:k<=26):(zL d m k).length=26:=by simp[zL,jI];omega
theorem wX(d:Int)(m:List (Int×Int)){k:Nat}(h:k<26):(zL d m k).set k ((aB m (97+(k:Int))).getD d)=zL d m (k+1):=by
 unfold zL;have hl:((nR d m).take k).length=k:=by rw[ik,jI];omega
 rw[Tw _ _ az,hl,zV,show 26-k=(26-(k+1))+1 by omega,List.replicate_succ,uT,gQ (by rw[jI];exact h),uK d m h,pQ];rfl
theorem IT(d:Int)(m:List (Int×Int)):zL d m 26=nR d m:=by unfold zL;rw[iq (by rw[jI];exact gZ _)];simp
structure Over(l' lx:List (Int×Int))(oF:List Int):Prop where
 keys:lx.map (·.1)=l'.map (·.1)
 nd:(l'.map (·.1)).Nodup
 vn:oF.Nodup
 vs:∀ k∈oF,k∈l'.map (·.1)
theorem mh{X:Type}[DecidableEq X]:∀ {a b:List X},a.Nodup->(∀ x∈a,x∈b)->a.length<=b.length
 |[],_,_,_=>eK _
 |x::a,b,h,hs=>by
  have hx:=hs x (iz ..);have nd:=rh.1 h;have hp:=LK hx;have:=mh (b:=b.erase x) nd.2 λy hy=>by
   have h1:=hp.mem_iff.1 (hs y (gb _ hy));rcases ga.1 h1 with h2|h2
   ·rw[h2]at hy;exact absurd hy nd.1
   ·exact h2
  rw[hp.length_eq];simp only[jc];omega
theorem Over.step{l' lx:List (Int×Int)}{oF:List Int}(h:Over l' lx oF){k w:Int}(hm:(k,w)∈lx)(hn:k∉oF)(w':Int):Over l' (bA lx k w') (k::oF)/\oF.length<l'.length/\(aB lx k).isSome=true:=by
 have N3:(lx.map (·.1)).Nodup:=by rw[h.keys];exact h.nd
 have hg:=ew N3 hm;have hk:k∈l'.map (·.1):=by rw[<- h.keys];exact bH.2 ⟨_,hm,rfl⟩
 have hv:∀ x∈k::oF,x∈l'.map (·.1):=λx hx=>by
  rcases ga.1 hx with rfl|hx
  ·exact hk
  ·exact h.vs x hx
 refine⟨⟨by rw[uZ,hg];exact h.keys,h.nd,rh.2 ⟨hn,h.vn⟩,hv⟩,?_,by rw[hg];rfl⟩;have:=mh (rh.2 ⟨hn,h.vn⟩) hv;simp only[jc,cV]at this;omega
theorem yU{σ:Gh}{c:CV}{k:Int}(hn:c.ae.length<=4):bC prog bP 40 #[aF c.G.b,aI k] σ [dw c]
  (λv σ' As=>σ'=σ/\∃ (sl:ay) (l':List (Int×Int)),v=.tuple #[sl.v,aI l'.length]/\(l'.map (·.1)).Nodup/\(match ff c.ae k with|none=>l'=[]|some v=>l'.Perm (v.s.values.filter λp=>p.2 != 0))/\As=[a9 da 1 21 sl (nR 0 l'),dw c]):=by
 refine bC.of ?_;intro Post os out kd F c' cs C aJ aj;refine JH ?_;refine aC.kK (B3 hn) ?_;rintro v σ' aN ⟨rfl,b',l',rfl,wE,rfl⟩;refine bM ?_;refine At.xr (A:=dp .u8 fE b' l') Fo.au wS λlR=>?_;have hnz:∀ q w,aB l' q=some w->w≠0:=λq w hg=>by
  have hm:=bT hg;cases hh:ff c.ae k with
  |none=>rw[hh]at wE;rw[wE]at hm;cases hm
  |some u=>rw[hh]at wE;have:=gP.1 (wE.mem_iff.1 hm);simpa using this.2
 refine dN ?_;refine C.ms (f:=da) (a0:=0) rfl rfl (λuR=>?_);refine bJ ?_;refine At.own (l:=zL 0 l' 0) (f:=da) (z:=1) ⟨some ⟨uR,0,none⟩,26,26⟩ [] rfl rfl (gZ _) .head ?_;refine bJ ?_;refine C.Wc rfl ?_ (g:=fE) (l:=l');refine cW ?_;refine C.m3 rfl ?_ (s:=⟨some ⟨uR,0,none⟩,26,26⟩) (l:=zL 0 l' 0) (f:=da);refine bJ ?_;refine C.cx (X:=Nat) (λx=>[(6,.map (some b')),(7,.slice (some ⟨uR,0,none⟩) 26 26),(8,aI l'.length),(20,aI 26),(21,aI x)]) (λx=>a9 da 1 21 ⟨some ⟨uR,0,none⟩,26,26⟩ (zL 0 l' x)::dp .u8 fE b' l'::dw c::F) (λx=>x<=26) (λx=>26-x) 0 ⟨rfl,rfl,rfl,rfl,rfl,trivial⟩ (eK _) ?_;intro x e hx ih;refine bJ ?_;refine C.cmp rfl (λys=>?_) (λys=>?_)
 ·refine bJ ?_;have qJ:x<26:=az;refine kL ?_;refine C.lkC (g:=fE) (l:=l') (q:=97+(x:Int)) rfl (λw29 Z1=>?_) (λZ1=>?_)
  ·refine i6 ?_;refine C.dP rfl ?_ (hf:=hnz _ _ Z1);refine dV ?_;refine C.kJ rfl ?_ (s:=⟨some ⟨uR,0,none⟩,26,26⟩) (l:=zL 0 l' x) (f:=da) (j:=x) (hj:=by rw[nz 0 l' hx];exact qJ);refine C.zt (s:=⟨some ⟨uR,0,none⟩,26,26⟩) (l:=zL 0 l' x) (j:=x) ((aB l' (97+(x:Int))).getD 0) rfl ?_ (hj:=by rw[nz 0 l' hx];exact qJ) (ha:=by rw[Z1];rfl);refine dD ?_;rw[wX 0 l' qJ];exact again ih (x+1) qJ az
  ·refine jr ?_;refine dN ?_;refine C.kJ rfl ?_ (s:=⟨some ⟨uR,0,none⟩,26,26⟩) (l:=zL 0 l' x) (f:=da) (j:=x) (hj:=by rw[nz 0 l' hx];exact qJ);refine C.zt (s:=⟨some ⟨uR,0,none⟩,26,26⟩) (l:=zL 0 l' x) (j:=x) ((aB l' (97+(x:Int))).getD 0) rfl ?_ (hj:=by rw[nz 0 l' hx];exact qJ) (ha:=by rw[Z1];rfl);refine dD ?_;rw[wX 0 l' qJ];exact again ih (x+1) qJ az
 ·refine cW ?_;have OJ:x=26:=az;subst OJ;rw[IT];refine C.rn (g:=fE) (l:=l') rfl (λb43=>?_)
  skip
  refine C.go ?_;refine C.cx (X:=List (Int×Int)×List Int) (λ_=>[(6,.map (some b')),(7,.slice (some ⟨uR,0,none⟩) 26 26),(8,aI l'.length),(43,.pointer (some ⟨b43,0,none⟩))]) (λy=>It .u8 fE b' b43 y.1 y.2::a9 da 1 21 ⟨some ⟨uR,0,none⟩,26,26⟩ (nR 0 l')::dw c::F) (λy=>Over l' y.1 y.2) (λy=>l'.length-y.2.length) (l',[]) ⟨rfl,rfl,rfl,rfl,trivial⟩ ⟨rfl,lR,.nil,by simp⟩ ?_;rintro⟨lx,oF⟩ e Rs ih;dsimp only at Rs⊢;refine bJ ?_;refine C.nx (g:=fE) (l:=lx) rfl (λk44 w44 m44 h44=>?_) (λh44=>?_)
  ·refine dN ?_;have N3:(lx.map (·.1)).Nodup:=by rw[Rs.keys];exact Rs.nd
   have ab1:=ew N3 m44;obtain⟨Vx,dA,Jg⟩:=Rs.step m44 h44 7;refine fI ?_;refine C.ZD ab1 rfl ?_ Fo.au;refine dH ?_;refine C.muI (w:=7) (l:=lx) (q:=k44) (g:=fE) Jg rfl ?_;refine C.go ?_;exact again ih (bA lx k44 7,k44::oF) Vx (by simp only[jc];omega)
  ·refine kL ?_;exact aC.cK aJ aj ⟨rfl,⟨some ⟨uR,0,none⟩,26,26⟩,l',rfl,lR,wE,rfl⟩
theorem A6{σ:Gh}{c:CV}{k:Int}(hn:c.ae.length<=4):bC prog bP 78 #[aF c.G.b,aI k] σ [dw c]
  (λv σ' As=>σ'=σ/\∃ (sl:ay) (l':List (Int×Int)),v=.tuple #[sl.v,aI l'.length]/\(l'.map (·.1)).Nodup/\(match ff c.ae k with|none=>l'=[]|some v=>l'.Perm v.s.aH)/\As=[a9 eE 1 3 sl (nR (-1) l'),dw c]):=by
 refine bC.of ?_;intro Post os out kd F c' cs C aJ aj;refine JH ?_;refine aC.kK (EX hn) ?_;rintro v σ' aN ⟨rfl,b',l',rfl,wE,rfl⟩;refine bM ?_;refine At.xr (A:=dp .u8 dR b' l') Fo.au wS λlR=>?_;refine dN ?_;refine C.ms (f:=eE) (a0:=0) rfl rfl (λuR=>?_);refine bJ ?_;refine At.own (l:=zL (-1) l' 0) (f:=eE) (z:=1) ⟨some ⟨uR,0,none⟩,26,26⟩ [] rfl rfl (gZ _) .head ?_;refine bJ ?_;refine C.m3 rfl ?_ (s:=⟨some ⟨uR,0,none⟩,26,26⟩) (l:=zL (-1) l' 0) (f:=eE);refine bJ ?_;refine C.cx (X:=Nat) (λx=>[(6,.map (some b')),(7,.slice (some ⟨uR,0,none⟩) 26 26),(18,aI 26),(19,aI x)]) (λx=>a9 eE 1 3 ⟨some ⟨uR,0,none⟩,26,26⟩ (zL (-1) l' x)::dp .u8 dR b' l'::dw c::F) (λx=>x<=26) (λx=>26-x) 0 ⟨rfl,rfl,rfl,rfl,trivial⟩ (eK _) ?_;intro x e hx ih;refine bJ ?_;refine C.cmp rfl (λtu=>?_) (λtu=>?_)
 ·refine bJ ?_;have qJ:x<26:=az;refine kL ?_;refine C.lkC (g:=dR) (l:=l') (q:=97+(x:Int)) rfl (λYf ts=>?_) (λts=>?_)
  ·refine jr ?_;refine C.kJ rfl ?_ (s:=⟨some ⟨uR,0,none⟩,26,26⟩) (l:=zL (-1) l' x) (f:=eE) (j:=x) (hj:=by rw[nz (-1) l' hx];exact qJ);refine C.zt (s:=⟨some ⟨uR,0,none⟩,26,26⟩) (l:=zL (-1) l' x) (j:=x) ((aB l' (97+(x:Int))).getD (-1)) rfl ?_ (hj:=by rw[nz (-1) l' hx];exact qJ) (ha:=by rw[ts];rfl);refine dD ?_;rw[wX (-1) l' qJ];exact again ih (x+1) qJ az
  ·refine jr ?_;refine dN ?_;refine C.kJ rfl ?_ (s:=⟨some ⟨uR,0,none⟩,26,26⟩) (l:=zL (-1) l' x) (f:=eE) (j:=x) (hj:=by rw[nz (-1) l' hx];exact qJ);refine C.zt (s:=⟨some ⟨uR,0,none⟩,26,26⟩) (l:=zL (-1) l' x) (j:=x) ((aB l' (97+(x:Int))).getD (-1)) rfl ?_ (hj:=by rw[nz (-1) l' hx];exact qJ) (ha:=by rw[ts];rfl);refine dD ?_;rw[wX (-1) l' qJ];exact again ih (x+1) qJ az
 ·refine cW ?_;refine C.Wc rfl ?_ (g:=dR) (l:=l');refine cW ?_;have OJ:x=26:=az;subst OJ;rw[IT];refine C.rn (g:=dR) (l:=l') rfl (λZU=>?_)
  skip
  refine C.go ?_;refine C.cx (X:=List (Int×Int)×List Int) (λ_=>[(6,.map (some b')),(7,.slice (some ⟨uR,0,none⟩) 26 26),(11,aI l'.length),(40,.pointer (some ⟨ZU,0,none⟩))]) (λy=>It .u8 dR b' ZU y.1 y.2::a9 eE 1 3 ⟨some ⟨uR,0,none⟩,26,26⟩ (nR (-1) l')::dw c::F) (λy=>Over l' y.1 y.2) (λy=>l'.length-y.2.length) (l',[]) ⟨rfl,rfl,rfl,rfl,trivial⟩ ⟨rfl,lR,.nil,by simp⟩ ?_;rintro⟨lx,oF⟩ e Rs ih;dsimp only at Rs⊢;refine bJ ?_;refine C.nx (g:=dR) (l:=lx) rfl (λk41 w41 m41 h41=>?_) (λh41=>?_)
  ·refine dN ?_;have N3:(lx.map (·.1)).Nodup:=by rw[Rs.keys];exact Rs.nd
   have ab3:=ew N3 m41;obtain⟨Vx,dA,Jg⟩:=Rs.step m41 h41 77;refine fI ?_;refine C.ZD ab3 rfl ?_ Fo.au;refine dH ?_;refine C.muI (w:=77) (l:=lx) (q:=k41) (g:=dR) Jg rfl ?_;refine C.go ?_;exact again ih (bA lx k41 77,k41::oF) Vx (by simp only[jc];omega)
  ·refine kL ?_;exact aC.cK aJ aj ⟨rfl,⟨some ⟨uR,0,none⟩,26,26⟩,l',rfl,lR,wE,rfl⟩
def yV(l:List Int):Nat:=(l.filter (· != 0)).length
theorem KN(l:List Int)(x:Int):yV (l++[x])=if x=0 then yV l else yV l+1:=by
 unfold yV;rw[ml,jd];split
 ·rename_i h;subst h;simp
 ·rename_i h;simp[h]
theorem Rt(l:List Int):yV l<=l.length:=m8 _ _
theorem E9(d:Int):nR d []=List.replicate 26 d:=by
 apply L4
 ·simp[nR]
 ·intro i h1 h2;rw[List.getElem_replicate];exact uK d [] (by rw[jI]at h1;exact h1)
structure Ru(P:List (Int×Int))(V:List Int):Prop where
 len:V.length=26
 z:∀ x∈V, -9223372036854775808<=x/\x<=9223372036854775807
 eq:∀ l':List (Int×Int),(l'.map (·.1)).Nodup->l'.Perm (P.filter λp=>p.2 != 0)->nR 0 l'=V/\l'.length=yV V
theorem Cm{σ:Gh}{c:CV}{I:HL}{w:WV}{bw:Nat}{s:Int}(hn:c.ae.length<=4)(Sd:c.ae.length=w.sh.length)(he:∀ (q:Nat) (h1:q<c.ae.length) (h2:q<w.sh.length),Ru (c.ae[q]).s.values (w.sh[q]).2.bD):
  bC prog bP 123 #[.agg #[aF c.G.b,aF bw],aI s] σ [dw c,wP bw w,a7 I] (λv σ' As=>σ'=σ/\v=.bool true/\As=[dw c,wP bw w,a7 I]):=by
 refine bC.of ?_;intro Post os out kd F c' cs C aJ aj;refine bM ?_;cases mZ:ff c.ae s with
 |none=>
  have iW:s<0\/(c.ae.length:Int)<=s:=by
   unfold ff at mZ;split at mZ
   ·exact .inl (by assumption)
   ·right;rw[C4]at mZ;omega
  refine bJ ?_;refine C.bx rfl (λb1=>?_);refine dH ?_;refine aC.kK (yU (k:=s) hn) ?_;rintro v σ' aN ⟨rfl,sl,l',rfl,lR,hm,rfl⟩;rw[mZ]at hm;obtain rfl:l'=[]:=hm;rw[E9];refine bM ?_;refine i6 ?_;refine C.dv (aD.less (cy _) (mV (w:=w) (b:=bw) (i:=s))) ?_;rintro v aN ⟨hv,rfl⟩;refine bM ?_;have hv:=hv.resolve_right (by rintro⟨q,hq,rfl,_⟩;omega);obtain⟨_,rfl⟩:=hv;refine cW ?_;refine C.m3 rfl ?_ (s:=sl) (l:=List.replicate 26 (0:Int)) (f:=da);refine C.dP rfl ?_;refine kE ?_;refine C.cx (X:=Nat) (λx=>[(2,aF b1),(5,sl.v),(6,aI 0),(7,.pointer none),(8,aI 0),(9,aI x)]) (λ_=>a9 da 1 21 sl (List.replicate 26 0)::mT b1 c.G.b bw::dw c::wP bw w::a7 I::F) (λx=>x<=26) (λx=>26-x) 0 ⟨rfl,rfl,rfl,rfl,rfl,rfl,trivial⟩ (eK _) ?_;intro x e hx ih;refine dN ?_;refine C.cmp rfl (λFQ=>?_) (λFQ=>?_)
  ·refine dV ?_;refine C.IQ rfl ?_;refine cW ?_;refine C.dP rfl ?_;refine dD ?_;refine C.kJ rfl ?_ (s:=sl) (l:=List.replicate 26 (0:Int)) (f:=da) (j:=x) (hj:=by rw[Da];omega);refine C.nL rfl ?_ (s:=sl) (l:=List.replicate 26 (0:Int)) (f:=da) (j:=x) (v:=.int .i32 0) (hj:=by rw[Da];omega) (hv:=by rw[List.getElem_replicate];rfl);refine bJ ?_;refine C.dP rfl ?_;refine dV ?_;exact again ih (x+1) az az
  ·refine dD ?_;refine C.fe rfl ?_;refine bJ ?_;exact aC.cK aJ aj ⟨rfl,rfl,rfl⟩
 |some v0=>
  obtain⟨q,rfl,hq,rfl⟩:=i9 mZ;have qR:q<w.sh.length:=az;obtain⟨Wz,Lv,hve⟩:=he q hq qR;refine bJ ?_;refine C.bx rfl (λb1=>?_);refine dH ?_;refine aC.kK (yU (k:=q) hn) ?_;rintro v σ' aN ⟨rfl,sl,l',rfl,lR,hm,rfl⟩;rw[mZ]at hm;obtain⟨tM,SU⟩:=hve l' lR hm;rw[tM,SU];refine bM ?_;refine i6 ?_;refine C.dv (aD.less (cy _) (mV (w:=w) (b:=bw) (i:=q))) ?_;rintro v aN ⟨hv,rfl⟩;refine bM ?_;have hv:=hv.resolve_left (by rintro⟨h|h,_⟩<;>omega);obtain⟨q',CB,e1,rfl⟩:=hv;obtain rfl:q'=q:=az;refine wP.opn (b:=bw) (w:=w) (h:=λsh bg tx=>?_);refine j7 (f:=nP) (l:=w.sh) qR Fo.au ?_;obtain⟨p,hp⟩:∃ p,p=w.sh[q']:=⟨_,rfl⟩;rw[<- hp]at Wz Lv⊢;obtain⟨bs,zs⟩:=p;dsimp only[nP]at Wz Lv⊢;refine cY.opn (b:=bs) (s:=zs) (h:=λlg vl lk un tm wt ot=>?_);refine cW ?_;refine C.m3 rfl ?_ (s:=sl) (l:=zs.bD) (f:=da);refine C.dP rfl ?_;refine kE ?_;refine C.cx (X:=Nat) (λx=>[(2,aF b1),(5,sl.v),(6,aI (yV zs.bD)),(7,aF bs),(8,aI (yV (zs.bD.take x))),(9,aI x)]) (λ_=>a9 da 1 21 sl zs.bD::mT b1 c.G.b bw::dw c::y9 bs zs lg vl lk un tm wt ot (all ((w.sh.eraseIdx q').map nP)::bR bw (.cells #[sh.v,bg.v,tx.v,.bool w.ai] 53 (0,0))::a9 ek 1 54 sh (w.sh.map (·.1))::a9 bN 7 137 bg w.aE::a9 qZ 3 71 tx w.aL::a7 I::F)) (λx=>x<=26) (λx=>26-x) 0 ⟨rfl,rfl,rfl,rfl,rfl,rfl,trivial⟩ (eK _) ?_;intro x e hx ih;have hct:=Rt (zs.bD.take x);rw[ik]at hct;refine dN ?_;refine C.cmp rfl (λFQ=>?_) (λFQ=>?_)
  ·refine bJ ?_;have jV:x<zs.bD.length:=az;have Z2:=Lv _ (br jV);have SY:=KN (zs.bD.take x) (zs.bD[x]'jV);rw[<- gQ jV]at SY;refine dD ?_;refine C.IQ rfl ?_;refine kE ?_;refine C.kJ rfl ?_ (s:=vl) (l:=zs.bD) (f:=eE) (j:=x);refine C.nL rfl ?_ (s:=vl) (l:=zs.bD) (f:=eE) (j:=x) (v:=aI (zs.bD[x]'jV));refine cW ?_;refine C.cmp rfl (λLs=>?_) (λLs=>?_)
   ·refine cW ?_;refine C.ar rfl ?_ (r:=((yV (zs.bD.take x)+1:Nat):Int));refine dD ?_;refine C.kJ rfl ?_ (s:=sl) (l:=zs.bD) (f:=da) (j:=x);refine C.nL rfl ?_ (s:=sl) (l:=zs.bD) (f:=da) (j:=x) (v:=.int .i32 (zs.bD[x]'jV));refine C.cv rfl ?_ (p:=zs.bD[x]'jV) (r:=zs.bD[x]'jV) (k1:=.i32) (k2:=.i64) (hr:=xp Z2.1 Z2.2);refine fI ?_;refine C.dP rfl ?_ (hf:=by intro h;exact h rfl);refine dV ?_;rw[ao Ls]at SY;rw[<- SY];exact again ih (x+1) az az
   ·refine dD ?_;refine C.kJ rfl ?_ (s:=sl) (l:=zs.bD) (f:=da) (j:=x);refine C.nL rfl ?_ (s:=sl) (l:=zs.bD) (f:=da) (j:=x) (v:=.int .i32 (zs.bD[x]'jV));refine C.cv rfl ?_ (p:=zs.bD[x]'jV) (r:=zs.bD[x]'jV) (k1:=.i32) (k2:=.i64) (hr:=xp Z2.1 Z2.2);refine fI ?_;refine C.dP rfl ?_ (hf:=by intro h;exact h rfl);refine dV ?_;rw[aK (CZ.1 Ls)]at SY;rw[<- SY];exact again ih (x+1) az az
  ·refine dD ?_;obtain rfl:x=26:=az;rw[iq az];refine C.fe rfl ?_ (hf:=rfl);refine bJ ?_;refine cY.cls (b:=bs) zs ?_ (lg:=lg) (vl:=vl) (lk:=lk) (un:=un) (tm:=tm) (wt:=wt) (ot:=ot);refine At.jB (show bZ _ (nP (bs,zs)::all ((w.sh.eraseIdx q').map nP)::dw c::bR bw (.cells #[sh.v,bg.v,tx.v,.bool w.ai] 53 (0,0))::a9 ek 1 54 sh (w.sh.map (·.1))::a9 bN 7 137 bg w.aE::a9 qZ 3 71 tx w.aL::a7 I::F) by exact bZ.au) ?_;rw[hp];refine uJ (w:=w) qR dB.au ?_;refine wP.cls (b:=bw) w ?_;exact aC.cK aJ aj ⟨rfl,rfl,rfl⟩
structure Rv(P:List (Int×Int))(L:List gn):Prop where
 Pz:∀ h∈L,97<=h.key/\h.key<=122
 eq:∀ l':List (Int×Int),(l'.map (·.1)).Nodup->l'.Perm P->l'.length=L.length/\∀ h∈L,(aB l' h.key).getD (-1)=h.tx
theorem Fa{σ:Gh}{c:CV}{I:HL}{w:WV}{bw:Nat}{s:Int}(hn:c.ae.length<=4)(Sd:c.ae.length=w.sh.length)(he:∀ (q:Nat) (h1:q<c.ae.length) (h2:q<w.sh.length),Rv (c.ae[q]).s.aH (w.sh[q]).2.aH)(tX:∀ p∈w.sh,p.2.aH.length<2^40):
  bC prog bP 124 #[.agg #[aF c.G.b,aF bw],aI s] σ [dw c,wP bw w,a7 I] (λv σ' As=>σ'=σ/\v=.bool true/\As=[dw c,wP bw w,a7 I]):=by
 refine bC.of ?_;intro Post os out kd F c' cs C aJ aj;refine bM ?_;cases mZ:ff c.ae s with
 |none=>
  have iW:s<0\/(c.ae.length:Int)<=s:=by
   unfold ff at mZ;split at mZ
   ·exact .inl (by assumption)
   ·right;rw[C4]at mZ;omega
  refine bJ ?_;refine C.bx rfl (λb1=>?_);refine dH ?_;refine aC.kK (A6 (k:=s) hn) ?_;rintro v σ' aN ⟨rfl,sl,l',rfl,lR,hm,rfl⟩;rw[mZ]at hm;obtain rfl:l'=[]:=hm;refine bM ?_;refine i6 ?_;refine C.dv (aD.less (cy _) (mV (w:=w) (b:=bw) (i:=s))) ?_;rintro v aN ⟨hv,rfl⟩;refine bM ?_;have hv:=hv.resolve_right (by rintro⟨q,hq,rfl,_⟩;omega);obtain⟨_,rfl⟩:=hv;refine cW ?_;refine C.m3 rfl ?_ (s:=sl) (l:=nR (-1) []) (f:=eE);refine C.dP rfl ?_ (hf:=by rw[jI];decide);refine cW ?_;refine C.IQ rfl ?_;refine cW ?_;refine C.fe rfl ?_;refine bJ ?_;exact aC.cK aJ aj ⟨rfl,rfl,rfl⟩
 |some v0=>
  obtain⟨q,rfl,hq,rfl⟩:=i9 mZ;have qR:q<w.sh.length:=az;obtain⟨WE,hle⟩:=he q hq qR;have YY:=tX _ (br qR);refine bJ ?_;refine C.bx rfl (λb1=>?_);refine dH ?_;refine aC.kK (A6 (k:=q) hn) ?_;rintro v σ' aN ⟨rfl,sl,l',rfl,lR,hm,rfl⟩;rw[mZ]at hm;obtain⟨tM,SU⟩:=hle l' lR hm;rw[tM];refine bM ?_;have Wz:=jI (-1) l';refine i6 ?_;refine C.dv (aD.less (cy _) (mV (w:=w) (b:=bw) (i:=q))) ?_;rintro v aN ⟨hv,rfl⟩;refine bM ?_;have hv:=hv.resolve_left (by rintro⟨h|h,_⟩<;>omega);obtain⟨q',CB,e1,rfl⟩:=hv;obtain rfl:q'=q:=az;refine wP.opn (b:=bw) (w:=w) (h:=λsh bg tx=>?_);refine j7 (f:=nP) (l:=w.sh) qR Fo.au ?_;obtain⟨p,hp⟩:∃ p,p=w.sh[q']:=⟨_,rfl⟩;rw[<- hp]at WE SU YY⊢;obtain⟨bs,zs⟩:=p;dsimp only[nP]at WE SU YY⊢;refine cY.opn (b:=bs) (s:=zs) (h:=λlg vl lk un tm wt ot=>?_);refine cW ?_;refine C.m3 rfl ?_ (s:=sl) (l:=nR (-1) l') (f:=eE);refine C.dP rfl ?_;refine cW ?_;refine C.IQ rfl ?_;refine dD ?_;refine C.cx (X:=Nat) (λx=>[(2,aF b1),(5,sl.v),(6,aI zs.aH.length),(7,aF bs),(8,aI x)]) (λ_=>a9 eE 1 3 sl (nR (-1) l')::mT b1 c.G.b bw::dw c::y9 bs zs lg vl lk un tm wt ot (all ((w.sh.eraseIdx q').map nP)::bR bw (.cells #[sh.v,bg.v,tx.v,.bool w.ai] 53 (0,0))::a9 ek 1 54 sh (w.sh.map (·.1))::a9 bN 7 137 bg w.aE::a9 qZ 3 71 tx w.aL::a7 I::F)) (λx=>x<=zs.aH.length) (λx=>zs.aH.length-x) 0 ⟨rfl,rfl,rfl,rfl,rfl,trivial⟩ (eK _) ?_;intro x e hx ih;refine dV ?_;refine C.m3 rfl ?_ (s:=lk) (l:=zs.aH) (f:=lT);refine C.cmp rfl (λS4=>?_) (λS4=>?_)
  ·refine bJ ?_;have jV:x<zs.aH.length:=az;obtain⟨hkx,hkh⟩:=WE _ (br jV);obtain⟨j,hj⟩:=gR (show 0<=(zs.aH[x]'jV).key-97 by omega);have Vy:j<(nR (-1) l').length:=az;have hvj:(eE ((nR (-1) l')[j]'Vy))[0]? =some (aI (zs.aH[x]'jV).tx):=by rw[uK (-1) l' az,show(97:Int)+(j:Int)=(zs.aH[x]'jV).key by omega,SU _ (br jV)];rfl
   refine C.dx (cG 36 0 21) 21 [] 0 ?_;refine rR ?_;refine Dr.l (λhE h=>C.kJ rfl h (s:=lk) (l:=zs.aH) (f:=lT) (j:=x)) ?_;refine lS ?_;refine Dr.l (v:=aI (zs.aH[x]'jV).key) (λhE h=>C.vI rfl h (s:=lk) (l:=zs.aH) (f:=lT) (j:=x) (o:=0)) ?_;refine Dr.p (v:=aI (j:Int)) (λh=>C.ar rfl h (p:=(zs.aH[x]'jV).key) (q:=97) (r:=(j:Int)) (ha:=congrArg some az)) ?_;refine Dr.l (λhE h=>C.kJ rfl h (s:=sl) (l:=nR (-1) l') (f:=eE) (j:=j) (hj:=Vy)) ?_;refine Dr.l (v:=aI (zs.aH[x]'jV).tx) (λhE h=>C.nL rfl h (s:=sl) (l:=nR (-1) l') (f:=eE) (j:=j) (hj:=Vy) (hv:=hvj)) ?_;refine Nr ?_;refine Dr.l (λhE h=>C.kJ rfl h (s:=lk) (l:=zs.aH) (f:=lT) (j:=x)) ?_;refine lS ?_;refine Dr.l (v:=aI (zs.aH[x]'jV).tx) (λhE h=>C.vI rfl h (s:=lk) (l:=zs.aH) (f:=lT) (j:=x) (o:=1)) ?_;refine Dr.p (λh=>C.dP rfl h (hf:=by intro h;exact h rfl)) ?_;refine Dr.chain rfl ?_;refine Ns ?_;exact again ih (x+1) az az
  ·refine kE ?_;refine C.m3 rfl ?_ (s:=lk) (l:=zs.aH) (f:=lT);refine C.fe rfl ?_ (hf:=rfl);refine bJ ?_;refine cY.cls (b:=bs) zs ?_ (lg:=lg) (vl:=vl) (lk:=lk) (un:=un) (tm:=tm) (wt:=wt) (ot:=ot);refine At.jB (show bZ _ (nP (bs,zs)::all ((w.sh.eraseIdx q').map nP)::dw c::bR bw (.cells #[sh.v,bg.v,tx.v,.bool w.ai] 53 (0,0))::a9 ek 1 54 sh (w.sh.map (·.1))::a9 bN 7 137 bg w.aE::a9 qZ 3 71 tx w.aL::a7 I::F) by exact bZ.au) ?_;rw[hp];refine uJ (w:=w) qR dB.au ?_;refine wP.cls (b:=bw) w ?_;exact aC.cK aJ aj ⟨rfl,rfl,rfl⟩
def Lx(x:Int):Prop:= -9223372036854775808<=x/\x<=9223372036854775807
theorem Vz{c:List l4}{w:List l4}{tx n st:Int}{rd Db:List Int}(he:c.map (·.toTxR)=w.map (·.toTxR))(h1:match EY c tx with|none=>n=0/\Db=[]|some t=>n=t.state/\Db=t.reads)
  (h2:(st,rd)=(if tx<0\/(w.length:Int)<=tx then(0,[])else match(w.map (·.toTxR))[tx.toNat]? with|some t=>(t.state,t.reads)|none=>(0,[]))):n=st/\Db=rd:=by
 have hl:c.length=w.length:=by have:=congrArg List.length he;simpa using this
 unfold EY at h1;by_cases h0:tx<0
 ·rw[aK h0]at h1;rw[aK (.inl h0)]at h2;obtain⟨rfl,rfl⟩:=h1;obtain⟨rfl,rfl⟩:=wY h2;exact⟨rfl,rfl⟩
 ·rw[ao h0]at h1;by_cases h3:(w.length:Int)<=tx
  ·rw[vB az]at h1;rw[aK (.inr h3)]at h2;obtain⟨rfl,rfl⟩:=h1;obtain⟨rfl,rfl⟩:=wY h2;exact⟨rfl,rfl⟩
  ·rw[ao az,<- he,kG,e9 az]at h2;rw[e9 az]at h1;obtain⟨rfl,rfl⟩:=h1;obtain⟨rfl,rfl⟩:=wY h2;exact⟨rfl,rfl⟩
theorem Cn{σ:Gh}{c:CV}{I:HL}{w:WV}{bw:Nat}{tx:Int}(hJ:q6 I c)(hW:WI I w)(hl:c.aL.length<=60)(he:c.aL.map (·.toTxR)=w.aL.map (·.toTxR))(hz:∀ t∈w.aL,∀ x∈t.reads,Lx x):
  bC prog bP 121 #[.agg #[aF c.G.b,aF bw],aI tx] σ [dw c,wP bw w,a7 I] (λv σ' As=>σ'=σ/\v=.bool true/\As=[dw c,wP bw w,a7 I]):=by
 have hlw:w.aL.length=c.aL.length:=by have:=congrArg List.length he;simpa using this.symm
 refine bC.of ?_;intro Post os out kd F c' cs C aJ aj;refine jK ?_;refine C.bx rfl (λb1=>?_);refine dH ?_;refine C.dv (aD.less (cy _) (Ce (i:=tx) hW az)) ?_;rintro v aN ⟨st,ro,rd,rfl,hro,dJ,rfl⟩;refine bM ?_;have iS:(∀ x∈rd,Lx x):=by
  by_cases h:tx<0\/(w.aL.length:Int)<=tx
  ·rw[aK h]at dJ;obtain⟨rfl,rfl⟩:=wY dJ;simp
  ·have hq:tx.toNat<w.aL.length:=az;have:w.abs.aL[tx.toNat]? =some (w.aL[tx.toNat]).toTxR:=by simp[WV.abs,hq]
   rw[ao h,this]at dJ;obtain⟨rfl,rfl⟩:=wY dJ;exact hz _ (br hq)
 refine kL ?_;refine C.cx (X:=Nat) (λx=>[(1,aI tx),(2,aF b1),(5,aI st),(6,ro.v),(7,aI x)]) (λ_=>mT b1 c.G.b bw::dw c::wP bw w::a7 I::F) (λx=>x<=2) (λx=>2-x) 0 ⟨rfl,rfl,rfl,rfl,rfl,trivial⟩ (eK _) ?_;intro x e hx ih;refine dN ?_;refine C.cmp rfl (λtu=>?_) (λtu=>?_)
 ·refine dH ?_;refine aC.kK (B4 (k:=tx) hJ hl) ?_;rintro v σ' aN ⟨rfl,sl,n,Db,rfl,hm,rfl⟩;have Bh:Db.length<2^20:=by
   cases h:EY c.aL tx with
   |none=>rw[h]at hm;rw[hm.2];decide
   |some t=>
    rw[h]at hm;rw[hm.2];unfold EY at h;split at h
    ·cases h
    ·exact(hJ.aL t (eY h)).z
  obtain⟨rfl,rfl⟩:=Vz he hm dJ;refine Ul ?_;refine C.cE (aD.less (cy _) (mO (so:=sl) (ro:=ro) (l:=Db) rfl hro iS az)) ?_;refine ve ?_;refine C.dP rfl ?_ (hf:=by intro h;exact h rfl);refine kL ?_;refine C.cx (X:=Nat×List Int) (λy=>[(1,aI tx),(2,aF b1),(5,aI n),(6,ro.v),(7,aI x),(9,sl.v),(11,aI y.1)]) (λy=>a9 da 1 21 sl y.2::mT b1 c.G.b bw::dw c::wP bw w::a7 I::F) (λy=>y.1<=Db.length/\y.2.length=Db.length) (λy=>Db.length-y.1) (0,Db) ⟨rfl,rfl,rfl,rfl,rfl,rfl,rfl,trivial⟩ ⟨eK _,rfl⟩ ?_;rintro⟨k,lo⟩ e ⟨hk,oE⟩ IJ;dsimp only at hk oE⊢;refine cW ?_;refine C.m3 rfl ?_ (s:=sl) (l:=lo) (f:=da);refine C.cmp rfl (λEr=>?_) (λEr=>?_)
  ·refine dD ?_;refine C.kJ rfl ?_ (s:=sl) (l:=lo) (f:=da) (j:=k);refine C.zt (s:=sl) (l:=lo) (f:=da) (j:=k) 99 rfl ?_;refine dH ?_;exact again IJ (k+1,lo.set k 99) ⟨dI,by dsimp only;rw[fM];exact oE⟩ (dI)
  ·refine dV ?_;exact again ih (x+1) az az
 ·refine dD ?_;exact aC.cK aJ aj ⟨rfl,rfl,rfl⟩
structure YZ(I:HL)(c:CV)(w:WV):Prop where
 n:c.ae.length<=4
 J:q6 I c
 W:WI I w
 len:c.ae.length=w.sh.length
 aE:c.aE.map (·.toMsgR)=w.aE.map (·.toMsgR)
 bO:∀ m∈c.aE,m.ops.length<2^20
 bl:c.aE.length<2^30
 bz:∀ m∈w.aE,Yr m.toMsgR
 aL:c.aL.map (·.toTxR)=w.aL.map (·.toTxR)
 tl:c.aL.length<=60
 tz:∀ t∈w.aL,∀ x∈t.reads,Lx x
 log:∀ v∈c.ae,v.s.log.length<2^30
 lq:∀ (q:Nat) (h1:q<c.ae.length) (h2:q<w.sh.length),(c.ae[q]).s.log.map (·.abs.a8)=(w.sh[q]).2.log.map (·.toRecR)/\(c.ae[q]).s.aX=(w.sh[q]).2.aX
 lz:∀ p∈w.sh,∀ r∈p.2.log,YV r.toRecR
 vq:∀ (q:Nat) (h1:q<c.ae.length) (h2:q<w.sh.length),Ru (c.ae[q]).s.values (w.sh[q]).2.bD
 kq:∀ (q:Nat) (h1:q<c.ae.length) (h2:q<w.sh.length),Rv (c.ae[q]).s.aH (w.sh[q]).2.aH
 kl:∀ p∈w.sh,p.2.aH.length<2^40
 up:∀ (q:Nat) (h1:q<c.ae.length) (h2:q<w.sh.length),(c.ae[q]).s.up=(w.sh[q]).2.up
abbrev opA(k cl a b c:Int)(so:Value):Value:=.agg #[aI k,aI cl,aI a,aI b,aI c,so]
theorem jT{σ:Gh}{c:CV}{I:HL}{w:WV}{bw:Nat}{k cl a b z:Int}{so:Value}(hA:YZ I c w)(hk:4<=k/\k<=9)(Jc:eA so=true):
  bC prog bP 75 #[.agg #[aF c.G.b,aF bw],opA k cl a b z so] σ [dw c,wP bw w,a7 I] (λv σ' As=>σ'=σ/\v=.bool true/\As=[dw c,wP bw w,a7 I]):=by
 refine bC.of ?_;intro Post os out kd F c' cs C aJ aj;refine jK ?_;refine C.bx rfl (λb1=>?_);refine C.bx rfl (λb2=>?_);refine dV ?_;refine C.cmp rfl (λzG=>?_) (λzG=>?_)
 ·refine dD ?_;refine aC.kK (Ks hA.J hA.W hA.bO hA.bl hA.aE hA.bz (λm hm=>(hA.J.aE m hm).z)) ?_;rintro v σ' aN ⟨rfl,rfl,rfl⟩;refine jK ?_;exact aC.cK aJ aj ⟨rfl,rfl,rfl⟩
 ·refine cW ?_;refine C.cmp rfl (λpM=>?_) (λpM=>?_)
  ·refine dV ?_;refine aC.kK (Cn hA.J hA.W hA.tl hA.aL hA.tz) ?_;rintro v σ' aN ⟨rfl,rfl,rfl⟩;refine jK ?_;exact aC.cK aJ aj ⟨rfl,rfl,rfl⟩
  ·refine cW ?_;refine C.cmp rfl (λtu=>?_) (λtu=>?_)
   ·refine kE ?_;refine C.dv (aD.less (cy _) (mV (w:=w) (b:=bw) (i:=b))) ?_;rintro v aN ⟨hv,rfl⟩;refine bM ?_;rcases hv with⟨iW,rfl⟩|⟨q,qR,rfl,rfl⟩
    ·refine dV ?_;have mZ:ff c.ae b=none:=by
      unfold ff;split
      ·rfl
      ·rw[C4];have:=hA.len;omega
     refine aC.kK (EW (k:=b) hA.n) ?_;rintro v σ' aN ⟨rfl,rfl,rfl⟩;rw[mZ];simp only[iX,fi,CR,LQ];refine dD ?_;refine C.IQ rfl ?_;refine dH ?_;refine C.GH underlying4 rfl ?_;refine bJ ?_;exact aC.cK aJ aj ⟨rfl,rfl,rfl⟩
    ·refine dV ?_;have hq:q<c.ae.length:=by have:=hA.len;omega
     have ed:=hA.up q hq qR;refine aC.kK (EW (k:=(q:Int)) hA.n) ?_;rintro v σ' aN ⟨rfl,rfl,rfl⟩;rw[AN hq];simp only[iX,fi,k7,jU];rw[ed];refine wP.opn (b:=bw) (w:=w) (h:=λsh bg tx=>?_);refine j7 (f:=nP) (l:=w.sh) qR Fo.au ?_;obtain⟨p,hp⟩:∃ p,p=w.sh[q]:=⟨_,rfl⟩;rw[<- hp];obtain⟨bs,zs⟩:=p;dsimp only[nP];refine cY.opn (b:=bs) (s:=zs) (h:=λlg vl lk un tm wt ot=>?_);refine dD ?_;refine C.IQ rfl ?_;refine dH ?_;refine C.GH underlying4 rfl ?_;refine bJ ?_;refine cY.cls (b:=bs) zs ?_ (lg:=lg) (vl:=vl) (lk:=lk) (un:=un) (tm:=tm) (wt:=wt) (ot:=ot);refine At.jB (show bZ _ (nP (bs,zs)::all ((w.sh.eraseIdx q).map nP)::dw c::bR bw (.cells #[sh.v,bg.v,tx.v,.bool w.ai] 53 (0,0))::a9 ek 1 54 sh (w.sh.map (·.1))::a9 bN 7 137 bg w.aE::a9 qZ 3 71 tx w.aL::a7 I::F) by exact bZ.au) ?_;rw[hp];refine uJ (w:=w) qR dB.au ?_;refine wP.cls (b:=bw) w ?_;exact aC.cK aJ aj ⟨rfl,rfl,rfl⟩
   ·refine cW ?_;refine C.cmp rfl (λWp=>?_) (λWp=>?_)
    ·refine dV ?_;refine aC.kK (Cm hA.n hA.len hA.vq) ?_;rintro v σ' aN ⟨rfl,rfl,rfl⟩;refine jK ?_;exact aC.cK aJ aj ⟨rfl,rfl,rfl⟩
    ·refine cW ?_;refine C.cmp rfl (λh48=>?_) (λh48=>?_)
     ·refine dV ?_;refine aC.kK (Fa hA.n hA.len hA.kq hA.kl) ?_;rintro v σ' aN ⟨rfl,rfl,rfl⟩;refine jK ?_;exact aC.cK aJ aj ⟨rfl,rfl,rfl⟩
     ·refine dV ?_;refine aC.kK (zK hA.n hA.J hA.W hA.log hA.len hA.lq hA.lz) ?_;rintro v σ' aN ⟨rfl,rfl,rfl⟩;refine jK ?_;exact aC.cK aJ aj ⟨rfl,rfl,rfl⟩
theorem VA(cells X Y:List Value)(h:cells.length=X.length+Y.length):wr (wr cells.toArray 0 X) X.length Y=(X++Y).toArray:=by obtain⟨P,Q,rfl,hP⟩:∃ P Q,cells=P++Q/\P.length=X.length:=⟨cells.take X.length,cells.drop X.length,(vA _ _).symm,by rw[ik];omega⟩;have h1:=kO X [] P Q hP;simp only[fi,tA]at h1;rw[h1];have h2:=kO Y X Q [] (by rw[jd]at h;omega);simp only[k8]at h2;exact h2
theorem Fb{α:Type}{f:α->List Value}{z:Nat}[rf:fC f z]{l:List α}:∀ v∈flat f l,eA v=true:=λv hv=>by obtain⟨a,_,h⟩:=I9.1 hv;exact rf.one a v h
variable{σ:Gh}{b:Nat}{m:Int}{bg:ay}{ae aL dn:Value}{ai:Bool}{st:Int}{aE:List cm}
theorem A7(hq:q<aE.length)(hl:aE.length<2^30):aD prog true (bP.bw σ) 133 #[aF b,aI q] [nU b m ae bg.v aL dn ai st,a9 bN 7 190 bg aE]
  (λv As=>∃ EV:ay,As=[nU b m ae EV.v aL dn ai st,a9 bN 7 190 EV (aE.eraseIdx q)]):=by
 refine aD.of λR C kd d F c cs aJ aj=>?_;refine bM ?_;refine At.xr (A:=a9 bN 7 190 bg aE) Fo.au (λh x=>qd az h x) λhk=>?_;obtain⟨CL,S7,YA⟩:=hk;have NW:(aE.take q).length=q:=by rw[ik];omega
 have hdl:(aE.drop (q+1)).length=aE.length-1-q:=by rw[tB];omega
 refine dH ?_;refine C.m3 rfl ?_ (s:=bg) (l:=aE) (f:=bN);refine C.ar rfl ?_ (r:=((aE.length-1:Nat):Int)) (ha:=congrArg some az);refine C.ms (f:=bN) (a0:=⟨bj,aG,aG⟩) rfl rfl (λSZ=>?_);refine bJ ?_;refine C.vL (cG 12 0 18) 18 [8,9,17] 3 ?_ (W:=[nU b m ae bg.v aL dn ai st,a9 bN 7 190 bg aE]);refine lZ ?_;refine Dr.p (λh=>C.TW rfl h (hi:=(q:Int)) (hh:=by constructor<;>omega)) ?_;refine rR ?_;refine Dr.p (λh=>C.Xo rfl h (hx:=by show Value.slice bg.a bg.len bg.cap=_;rw[CL,S7]) (lo:=((q+1:Nat):Int)) (hh:=by constructor<;>omega)) ?_;refine Dr.chain rfl ?_ (λ_ s=>bZ.sat bZ.au s);refine Ch.m 8 (aW λe aa hk=>?_);refine C.cp (b:=SZ) (len:=(((aE.length-1:Nat):Int)).toNat) (cap:=(((aE.length-1:Nat):Int)).toNat) (z:=7) (off:=0) (xs:=flat bN (aE.take q)) (m:=(aE.take q).length) rfl (λH st=>D2 (f:=bN) Fo.au st (λ_=>rfl) q hq CL) (hm:=by rw[NW,g5];omega) (Ma:=eO (z:=7) (f:=bN) (λ_=>rfl) _) (h1:=Fb (f:=bN)) (hu:=.head) (hz:=by rw[NW,iN (z:=7) (λ_=>rfl),Da];simp only[tA,g5];omega) ?_;refine hk _ _ lu ?_;refine Ch.q 9 (λh=>C.Xo rfl h (lo:=(((aE.take q).length:Nat):Int)) (a':=⟨SZ,if aE.length-1=q then 0 else q*7,none⟩) (ha:=by rw[NW];simp only[g5];split<;>simp) (hh:=by rw[NW];constructor<;>omega)) ?_;refine Ch.m 17 (aW λe aa hk=>?_);refine C.cp (b:=SZ) (len:=(((aE.length-1:Nat):Int)).toNat-(((aE.take q).length:Nat):Int).toNat) (cap:=(((aE.length-1:Nat):Int)).toNat-(((aE.take q).length:Nat):Int).toNat) (z:=7) (off:=if aE.length-1=q then 0 else q*7) (xs:=flat bN (aE.drop (q+1))) (m:=(aE.drop (q+1)).length) rfl (λH st=>D3 (f:=bN) (s:=bg) Fo.au st (λ_=>rfl) q hq YA) (hm:=by rw[hdl,NW];simp only[g5];omega) (Ma:=eO (z:=7) (f:=bN) (λ_=>rfl) _) (h1:=Fb (f:=bN)) (hu:=.head) (hz:=by rw[tR,iN (z:=7) (λ_=>rfl),Da];simp only[tA,g5];split<;>omega) ?_;refine hk _ _ lu ?_;refine Um ?_;have su:wr (wr (gf bN (List.replicate (((aE.length-1:Nat):Int)).toNat (⟨bj,aG,aG⟩:cm)) []) 0 (flat bN (aE.take q))) (if aE.length-1=q then 0 else q*7) (flat bN (aE.drop (q+1)))=gf bN (aE.eraseIdx q) []:=by
  rw[w7];have hX:(flat bN (aE.take q)).length=q*7:=by rw[eO (z:=7) (λ_=>rfl),NW]
  have hY:(flat bN (aE.drop (q+1))).length=(aE.length-1-q)*7:=by rw[eO (z:=7) (λ_=>rfl),hdl]
  have hC:(flat bN (List.replicate (((aE.length-1:Nat):Int)).toNat (⟨bj,aG,aG⟩:cm))).length=(aE.length-1)*7:=by rw[eO (z:=7) (λ_=>rfl),Da,g5]
  have h2:=VA (flat bN (List.replicate (((aE.length-1:Nat):Int)).toNat (⟨bj,aG,aG⟩:cm))++[]) (flat bN (aE.take q)) (flat bN (aE.drop (q+1))) (by rw[k8,hX,hY,hC];omega);unfold gf;rw[jA,k8 (flat bN _++flat bN _),<- h2,hX];split
  ·rename_i hz;have:aE.drop (q+1)=[]:=pS az;rw[this];rfl
  ·rfl
 rw[su];have N7:(aE.eraseIdx q).length=aE.length-1:=by rw[C9,aK hq]
 refine At.own (l:=aE.eraseIdx q) (f:=bN) (z:=7) ⟨some ⟨SZ,0,none⟩,(((aE.length-1:Nat):Int)).toNat,(((aE.length-1:Nat):Int)).toNat⟩ [] (by rw[N7,g5]) (by rw[N7,g5,tA,Nat.add_zero]) (by rw[N7,g5];exact gZ _) .head ?_;exact C.cX aJ aj ⟨⟨some ⟨SZ,0,none⟩,(((aE.length-1:Nat):Int)).toNat,(((aE.length-1:Nat):Int)).toNat⟩,rfl⟩
end
section
open Go.Proofs Go.Conc
def CV.abs(c:CV):WP:=⟨c.ae.map (·.s.abs),c.aE.map (·.toMsgR),c.aL.map (·.toTxR),c.ai⟩
def mW(o a:Int)(c:CV):Prop:=∀ v∈c.ae,wx o a v.s
theorem wx.mono{o a o' a':Int}{s:dE}(h:wx o a s)(ho:o<=o')(ha:a<=a'):wx o' a' s:=⟨by have:=h.z;omega,by have:=h.o;omega,λu hu p hp=>by have:=h.a u hu p hp;omega⟩
structure eg(c:CV)(I:HL)(o a:Int)(r:WP×Int)(er:Option Nat)(c':CV)(I':HL):Prop where
 sub:Sub I I'
 j:q6 I' c'
 g:c'.G=c.G
 h:c'.ae.map (·.h)=c.ae.map (·.h)
 r:(c'.abs,wA er)=r
 cn:mW o a c'
theorem eg.same{c:CV}{I:HL}{o a:Int}{er:Option Nat}{z:Int}(hJ:q6 I c)(hC:mW o a c)(hz:wA er=z):eg c I (o+2^15) (a+1) (c.abs,z) er c I:=
 ⟨Sub.refl _,hJ,rfl,rfl,by rw[hz],λv hv=>(hC v hv).mono az az⟩
def MQ(σ:Gh)(c:CV)(eb:Nat->Nat×Nat)(Q:Option Nat->CV->HL->Prop):Value->Gh->List HP->Prop:=λv σ' As=>
 ∃ er c' I',v=Q8 eb er/\(∀ k,er=some k->k<9)/\σ'=σ/\c'.G.b=c.G.b/\Q er c' I'/\As=[qD 1 c',a7 I']
def CQ(σ:Gh)(c:CV)(I:HL)(eb:Nat->Nat×Nat)(nm:ByteArray)(at_:Int)(Q:Option Nat->CV->HL->Prop):Value->Gh->List HP->Prop:=λv σ' As=>
 ∃ er c' I' L,Of eb (.string nm) at_ er v L/\(∀ k,er=some k->k<9)/\σ'=σ/\As=dw c'::a7 I'::L/\((c.ai=true/\er=some 8/\c'=c/\I'=I)\/(c.ai=false/\Q er c' I'))
theorem bZ.qK{F:List HP}:∀ A:List HP,bZ (A++F) F
 |[]=>.refl
 |_::A=>.drop (bZ.qK A)
theorem bZ.mid{A F:List HP}:∀ L:List HP,bZ (L++(A++F)) (L++F)
 |[]=>bZ.qK A
 |_::L=>.cons .head (bZ.mid L)
theorem te{σ:Gh}{c:CV}{f:bI}{fu:Func}{code:Code}{nf:Nat}[bd:Body prog f fu code nf]{caps:Array Value}{I:HL}{eb:Nat->Nat×Nat}{nm:ByteArray}{at_:Int}{A:List HP}{Q:Option Nat->CV->HL->Prop}(hE:ig I eb)
  (hf:c.ai=false->bC prog bP f (#[]++([]:List Value).toArray++caps) σ (qD 1 c::a7 I::A) (MQ σ c eb Q)):
  bC prog bP 52 #[aF c.G.b,.string nm,aI at_,.func (.func f) #[] caps] σ (dw c::a7 I::A) (CQ σ c I eb nm at_ Q):=by
 have h:=AO (nm:=nm) (at_:=at_) (A:=A) (Q:=λer σ' c' I' A'=>σ'=σ/\Q er c' I'/\A'=[]/\∀ k,er=some k->k<9) hE (λdJ Post os out kd F fr cs aJ aj=>hf dJ Post os out kd F fr cs aJ (by rintro v σ' aN ⟨er,c',I',h1,h2,rfl,h4,h5,rfl⟩;exact aj _ _ _ ⟨er,c',I',[],h1,h2,rfl,h4,rfl,h5,rfl,h2⟩))
 intro Post os out kd F fr cs aJ aj;refine h Post os out kd F fr cs aJ ?_;rintro v σ' aN ⟨er,c',I',A',L,h1,rfl,h|⟨h2,rfl,h3,rfl,h4⟩⟩
 ·obtain⟨h2,rfl,rfl,rfl,rfl,rfl⟩:=h;refine At.jB ?_ (aj _ _ _ ⟨some 8,c',I',L,h1,(λk hk=>by cases hk;decide),rfl,rfl,.inl ⟨h2,rfl,rfl,rfl⟩⟩);simp only[iX,pQ];exact .cons .head (.cons .head (bZ.mid L))
 ·rw[k8];exact aj _ _ _ ⟨er,c',I',L,h1,h4,rfl,rfl,.inr ⟨h2,h3⟩⟩
def agN:ByteArray:=⟨#[65,103,97,105,110]⟩
structure KO(c:CV):Prop where
 n:1<=c.ae.length/\c.ae.length<=4
 aE:c.aE.length<2^20
 aL:c.aL.length<=60
 GC:∀ t∈c.aL,jf t.ops/\1<=t.ops.length
theorem OK{w:WP}{t:Int}(hs:w.ai=false)(h:t<0\/(w.aL.length:Int)<=t):fJ w 1 t 0=(w,4):=by unfold fJ;rw[ao (by decide),hs,ao (by decide),aK rfl,aK h]
theorem OL{w:WP}{t:Int}(hs:w.ai=false)(h:¬ (t<0\/(w.aL.length:Int)<=t))(hb:400<=w.aE.length):fJ w 1 t 0=(w,3):=by unfold fJ;rw[ao (by decide),hs,ao (by decide),aK rfl,ao h,aK hb]
theorem VB{w:WP}{t:Int}(hs:w.ai=false)(h:¬ (t<0\/(w.aL.length:Int)<=t))(hb:¬ 400<=w.aE.length):fJ w 1 t 0=(np w t.toNat,0):=by unfold fJ;rw[ao (by decide),hs,ao (by decide),aK rfl,ao h,ao hb]
theorem CV.jL(c:CV):c.abs.aL.length=c.aL.length:=by simp[CV.abs]
theorem CV.fA(c:CV):c.abs.aE.length=c.aE.length:=by simp[CV.abs]
theorem CV.mU(c:CV):c.abs.sh.length=c.ae.length:=by simp[CV.abs]
theorem OM{σ:Gh}{c:CV}{b3 b2:Nat}{t:Int}{I:HL}{eb:Nat->Nat×Nat}{o a:Int}(hE:ig I eb)(hJ:q6 I c)(hb:KO c)(hC:mW o a c)(dJ:c.ai=false):
  bC prog bP 130 (#[]++([]:List Value).toArray++#[aF b3,aF b2]) σ (qD 1 c::a7 I::[bR b3 (.cells #[aI t] 3 (0,0)),bR b2 (.cells #[aF c.G.b] 23 (0,0))])
   (MQ σ c eb (eg c I (o+2^15) (a+1) (fJ c.abs 1 t 0))):=by
 refine bC.of ?_;intro Post os out kd F c' cs C aJ aj;refine bM ?_;obtain⟨G,ae,aE,aL,ai⟩:=c;obtain rfl:ai=false:=dJ;obtain⟨hn,mS,um,pz⟩:=hb;dsimp only at hn mS um pz;obtain⟨t2,Pk⟩:=hE.g 2 (by decide);obtain⟨t3,hg3⟩:=hE.g 3 (by decide);refine dw.opn (m:=1) (h:=λhs bg tx=>?_);have Q7:(ae.map (·.h.bh)).length=ae.length:=cV ..;refine cW ?_;by_cases h5:t<0
 ·refine C.dx (cG 4 0 11++[(3,11)]) 12 [] 0 ?_;refine lS ?_;refine Dr.p (λh=>C.fe rfl h (hf:=h5)) ?_;refine JI ?_;refine Qr ?_;refine C.uQ Fo.au hg3 (gp _ _) rfl ?_;refine bJ ?_;refine dw.cls (m:=1) ⟨G,ae,aE,aL,false⟩ ?_;exact aC.cK aJ aj ⟨some 3,⟨G,ae,aE,aL,false⟩,I,rfl,(λk hk=>by cases hk;decide),rfl,rfl,(OK (w:=CV.abs ⟨G,ae,aE,aL,false⟩) (t:=t) rfl (.inl h5)).symm▸eg.same hJ hC rfl,rfl⟩
 ·by_cases qz:t>=(aL.length:Int)
  ·refine C.dx (cG 4 0 11++[(3,11)]) 12 [] 0 ?_;refine lS ?_;refine Dr.p (λh=>C.dP rfl h (hf:=h5)) ?_;refine lZ ?_;refine Dr.p (λh=>C.fe rfl h (hf:=qz)) ?_;refine wm ?_;refine Qr ?_;refine C.uQ Fo.au hg3 (gp _ _) rfl ?_;refine bJ ?_;refine dw.cls (m:=1) ⟨G,ae,aE,aL,false⟩ ?_;exact aC.cK aJ aj ⟨some 3,⟨G,ae,aE,aL,false⟩,I,rfl,(λk hk=>by cases hk;decide),rfl,rfl,(OK (w:=CV.abs ⟨G,ae,aE,aL,false⟩) (t:=t) rfl (.inr (by rw[CV.jL];exact qz))).symm▸eg.same hJ hC rfl,rfl⟩
  ·refine C.dx (cG 4 0 11++[(3,11)]) 12 [] 0 ?_;refine lS ?_;refine Dr.p (λh=>C.dP rfl h (hf:=h5)) ?_;refine lZ ?_;refine Dr.p (λh=>C.dP rfl h (hf:=qz)) ?_;refine wm ?_;refine Um ?_;refine C.cmp rfl (λys=>?_) (λys=>?_)
   ·refine cW ?_;refine C.uQ Fo.au Pk (gp _ _) rfl ?_;refine bJ ?_;refine dw.cls (m:=1) ⟨G,ae,aE,aL,false⟩ ?_;exact aC.cK aJ aj ⟨some 2,⟨G,ae,aE,aL,false⟩,I,rfl,(λk hk=>by cases hk;decide),rfl,rfl,(OL (w:=CV.abs ⟨G,ae,aE,aL,false⟩) (t:=t) rfl (by rw[CV.jL];dsimp only;omega) (by rw[CV.fA];omega)).symm▸eg.same hJ hC rfl,rfl⟩
   ·refine dN ?_;obtain⟨q,rfl⟩:=gR (show 0<=t by omega);have hq:q<aL.length:=az;have eN:=br hq;refine dN ?_;refine C.dv (vS (σ:=σ) (b:=G.b) (m:=1) (hs:=hs) (bg:=bg) (pO:=tx) (I:=I) (hl:=ae.map (·.h.bh)) (aE:=aE) (aL:=aL) (tx:=q) (by rw[Q7];exact hn) az hq (hJ.aL _ eN).o (pz _ eN)) ?_;rintro v aN ⟨EV,rfl,rfl⟩;refine bM ?_;rw[Q7];refine cW ?_;refine dw.cls (m:=1) ⟨G,ae,aE++[yI ae.length aL[q] q],aL,false⟩ ?_;refine aC.cK aJ aj ⟨none,⟨G,ae,aE++[yI ae.length aL[q] q],aL,false⟩,I,rfl,(λk hk=>by cases hk),rfl,rfl,⟨Sub.refl _,⟨λm hm=>?_,hJ.aL,hJ.sh⟩,rfl,rfl,?_,λv hv=>(hC v hv).mono az az⟩,rfl⟩
    ·rcases bU.1 hm with hm|hm
     ·exact hJ.aE m hm
     ·obtain rfl:=dF.1 hm;exact⟨(hJ.aL _ eN).o,.nil ..,m9 20⟩
    ·rw[VB (w:=CV.abs ⟨G,ae,aE,aL,false⟩) (t:=(q:Int)) rfl (by rw[CV.jL];dsimp only;omega) (by rw[CV.fA];omega)];unfold np;have e1:(CV.abs ⟨G,ae,aE,aL,false⟩).aL[((q:Int)).toNat]? =some aL[q].toTxR:=by simp[CV.abs,hq]
     rw[e1];simp[CV.abs,yI,wA]
structure rE(σ:Gh)(c:CV):Prop extends RegC σ c where
 Z3:∀ v∈c.ae,∀ i s,σ.aT i=some s->¬ s.has v.h.rd
variable{P:bL}{Post:Value->World->Prop}{X:sB}{σ:Gh}{h:Nat}{os:Os}{out:Array (Nat×ByteArray)}{d:Nat}{As:List HP}{g:aP}
theorem At.gh(k:σ.aT h=none->(∀ i s,σ.aT i=some s->i<σ.n)->At (aC P Post X σ h os out) d As g):At (aC P Post X σ h os out) d As g:=λH st hole go=>k hole go.lt H st hole go
theorem ON(σ:Gh)(h j:Nat)(s:du):(σ.given h j s).aT h=some s:=Go.ConcN.upd_same ..
theorem Hm{j:Nat}{s sM:du}(h0:σ.aT 0=none)(hj:σ.aT j=some s):(σ.given 0 j sM).given j 0 s=σ:=by
 have eI:j≠0:=λz=>by rw[z,h0]at hj;cases hj
 obtain⟨n,aT,sh,bot⟩:=σ;unfold Gh.given;simp only[Gh.mk.injEq,mo,w9]
 funext i
 by_cases e1:i=j
 ·subst e1;rw[Go.ConcN.upd_same];exact hj.symm
 ·rw[Go.ConcN.upd_ne _ _ e1];by_cases e2:i=0
  ·subst e2;rw[Go.ConcN.upd_same];exact h0.symm
  ·rw[Go.ConcN.upd_ne _ _ e2,Go.ConcN.upd_ne _ _ e2,Go.ConcN.upd_ne _ _ e1]
abbrev WH(v:HV)(G:CG)(m:Int)(hs aE aL:Value)(ai:Bool)(st:Int)(kd:Nat)(F:List HP):List HP:=
 nU G.b m hs aE aL (.chan (some G.dn)) ai st::bR G.cb (.cells #[aF G.b] 23 (0,0))::bR G.dn (.chan 0 #[] false kd kd false)::rX v F
theorem Fo.over{x:HP}{L L':List HP}:∀ A:List HP,Fo x L L'->Fo x (A++L) (A++L')
 |[],h=>h
 |_::A,h=>.tail (Fo.over A h)
theorem serve{Post:Value->World->Prop}{σ:Gh}{os:Os}{out:Array (Nat×ByteArray)}{v:HV}{G:CG}{m st:Int}{hs aE aL:Value}{ai:Bool}{kd:Nat}{I:HL}{A F:List HP}{sM:du}{z:Value}
  {f:bI} {fu:Func} {code:Code} {nf:Nat} [bd:Body prog f fu code nf] {a1 caps:Array Value} {o a:Int} {rs:dT} {r0:aP}
  (hf:aD prog false bQ f (a1++[aF v.h.bs].toArray++caps) (cU v.h.bs v.s::a7 I::A) (gv v.h.bs I o a rs))
  (Ll:v.h.g≠0) (dA:v.h.g<σ.n) (h0:σ.aT 0=some sM) (Zp:sM.cases[0]? =some (rcase v.h.rd z)) (lf:∀ i s',σ.aT i=some s'->s'.has v.h.rd->i=0) (Pe:v.h.wk≠G.dn) (hr0:B1 v.h G r0)
  (k':∀ (I':HL) (s':dE) (so:ay),Sub I I'->ShJ I' s'->s'.abs=rs->wx o a s'->∀ r,sM.tH r->
   At (aC prog Post bP (σ.given v.h.g 0 (dZ v.h G)) 0 os out) 0 (WH {v with s:={s' with out:=[]},kr:=v.kr+1} G m hs aE aL ai st kd (a9 bN 7 190 so s'.out::a7 I'::F)) (Conc.served r (commResult sM.cases sM.shape 0 so.v true))):
  At (aC prog Post bP σ v.h.g os out) 0 (WH v G m hs aE aL ai st kd (a7 I::(A++F))) (Conc.served r0 (commResult (dZ v.h G).cases (dZ v.h G).shape 0 (.func (.func f) a1 caps) true)):=by
 have C:ab prog false bP.B0 (aC prog Post bP σ v.h.g os out):=aC.P7 Ll;obtain⟨e,cs,⟨e1,rfl⟩,XU,he1,rfl⟩:=hr0;have ab5:commResult (dZ v.h G).cases (dZ v.h G).shape 0 (.func (.func f) a1 caps) true=.tuple #[aI 0,.bool true,.func (.func f) a1 caps,.agg #[]]:=UZ;rw[qV rfl,ab5,<- jJ (e:=e) (l:=[(0,aF v.h.bh),(1,.chan (some G.dn))]) ⟨XU,he1,trivial⟩];refine fI ?_;refine C.v0 rfl ?_ rfl;refine C.v0 rfl ?_ rfl;refine ow ?_;refine At.perm (R1 [_,_,_,_,_,_,_,_,_] A F) ?_;refine bM ?_;refine C.SC (f:=f) (a1:=a1) (a2:=caps) (vl:=[aF v.h.bs]) (aD.less Oa hf) ?_ (hr:=.cons (Fo.over A Fo.au) (.cons (Fo.over A Fo.au) (dB.app A)));rintro w aN ⟨I',s',rC,pX,ku,Kf,rfl⟩;refine k6 ?_;refine C.vL (cG 21 0 9) 10 [8,9] 1 ?_ (W:=[bR v.h.bh (.cells #[aF v.h.bs,.chan (some v.h.wk),.chan (some v.h.rd)] 120 (0,0))]);refine CJ ?_;refine Dr.chain rfl ?_ (λ_ s=>bZ.sat bZ.au s);refine Ch.m 8 (aW λe aa hk=>?_);refine C.dv (aD.less Oa GK) ?_;rintro w aN ⟨so,rfl,rfl⟩;refine bM ?_;refine hk _ _ lu ?_;refine Ch.last 9 ⟨_,rfl,rfl⟩ ?_;refine At.jB (show bZ _ (WH {v with s:={s' with out:=[]}} G m hs aE aL ai st kd (a9 bN 7 190 so s'.out::a7 I'::F)) by exact bZ.au) ?_;have ab6:(v.h.g==0)=false:=by simpa using Ll
 refine aC.give (c:=v.h.rd) (kk:=0) (kc:=v.kr) (s:=sM) (sH:=dZ v.h G) (v:=so.v) (z:=z) (z':=.tuple #[]) dA 0 rfl rfl rfl h0 Zp lf (aN:=WH {v with s:={s' with out:=[]},kr:=v.kr+1} G m hs aE aL ai st kd (a9 bN 7 190 so s'.out::a7 I'::F)) ?_ (E8 Pe) ?_ ?_ ?_ ?_ ?_
 ·repeat(first|with_reducible exact p8.head|with_reducible apply p8.tail)
 ·intro H st;exact(qI (h:=v.h) (C:=G) Ll (Has.get Has.au st) (Has.get Has.au st) (Has.get Has.au st) rfl (Has.get Has.au st) rfl (Has.get Has.au st) (Has.get Has.au st)).1
 ·intro H st;exact(qI (h:=v.h) (C:=G) Ll (Has.get Has.au st) (Has.get Has.au st) (Has.get Has.au st) rfl (Has.get Has.au st) rfl (Has.get Has.au st) (Has.get Has.au st)).1
 ·intro H st;exact(qI (h:=v.h) (C:=G) Ll (Has.get Has.au st) (Has.get Has.au st) (Has.get Has.au st) rfl (Has.get Has.au st) rfl (Has.get Has.au st) (Has.get Has.au st)).2
 ·rw[ab6];have M:=Mt.Zy (P:=prog) (ak:=false) (s:=dZ v.h G);refine⟨400,?_⟩;refine Way.mono (n:=200+1+60) ?_ az;refine M.go ?_;refine M.TQ ?_;exact ES ⟨_,rfl⟩ rfl rfl
 ·intro r hr;exact k' I' s' so rC pX ku Kf r hr
abbrev Z4:List (Nat×Nat):=[(19,0),(20,1),(21,2),(22,3),(23,4),(24,5),(25,6),(26,7),(27,8),(28,9),(29,10),(30,11),(31,12)]
abbrev Rw(b bh:Nat)(bg:Value)(rd:Nat):List SE:=[⟨0,19,aF b,false⟩,⟨1,20,aF b,false⟩,⟨2,21,aF b,false⟩,⟨3,22,.pointer (some ⟨b,3,none⟩),false⟩,⟨4,23,bg,true⟩,⟨5,24,aF bh,false⟩,⟨6,25,aF bh,false⟩,⟨7,26,.pointer (some ⟨bh,2,none⟩),false⟩,⟨8,27,.chan (some rd),true⟩,⟨11,30,aF b,false⟩,⟨12,31,.pointer (some ⟨b,3,none⟩),false⟩]
def Z5(E:Nat->Value)(b bh:Nat):Nat->Value:=p9 E [(0,aF b),(6,aF bh)]
def Y0(E:Nat->Value)(b bh:Nat)(bg:Value)(rd:Nat)(kd:Kd)(cs:List Frame)(r:aP):Prop:=∃ e aa,pq (cO (cR (cR ((f135.body).getD .skip)))) (Z5 E b bh) Z4 (Rw b bh bg rd) 9 e aa/\r=gr 135 kd 32 e [] (.inRegion (cO (cR (cR ((f135.body).getD .skip)))) (9::aa)::[]) cs
def nA(E:Nat->Value)(b bh:Nat)(bg:Value)(rd:Nat)(kd:Kd)(cs:List Frame):du:=⟨#[rcase rd (.slice none 0 0)],.recv false,Y0 E b bh bg rd kd cs,[(⟨b,3,none⟩,bg),(⟨bh,2,none⟩,.chan (some rd))]⟩
theorem IU{b bh rd:Nat}{bg:Value}:∀ i∈[0,1,2,3,4,5,6,7,8,11,12],∃ x∈Rw b bh bg rd,x.i=i:=by intro i hi;simp only[ga,l7,fO]at hi;rcases hi with rfl|rfl|rfl|rfl|rfl|rfl|rfl|rfl|rfl|rfl|rfl<;>simp
theorem IV{b bh rd:Nat}{bg:Value}:∀ x∈Rw b bh bg rd,x.i∈[0,1,2,3,4,5,6,7,8,11,12]:=by simp
theorem OO{b bh rd:Nat}{bg:Value}:∀ x∈Rw b bh bg rd,∀ y∈Rw b bh bg rd,x.i=y.i->x=y:=by simp
theorem OP{b bh rd:Nat}{bg:Value}:∀ x∈Rw b bh bg rd,iu (cO (cR (cR ((f135.body).getD .skip)))) x.i=some x.t:=by intro x hx;simp only[ga,l7,fO]at hx;rcases hx with rfl|rfl|rfl|rfl|rfl|rfl|rfl|rfl|rfl|rfl|rfl<;>rfl
theorem OQ{P:bL}{n:Nat}{e:Nat->Value}{dst:Option Nat}{ty tt el:aQ}{dir:ChanDir}{pos:String}{af:Array Edge}{gd:Option (Nat×Bool)}{x:cA}{z:Value}{b:Nat}(hu:P.underlying tt=some (.chan dir el))[cz:Zv P el z](hx:ev n e x=.chan (some b)):
  fD P (execOp (ev n e) ⟨dst,.recv tt x false,ty,pos,af,gd⟩)=some (.comm #[rcase b z] true (.recv false)):=by
 unfold execOp;simp only[hx];refine bq (fy hu) ?_;exact bq (tY cz.h) rfl
theorem VC{ak:Bool}{E:Nat->Value}{b bh rd:Nat}{bg:Value}{kd:Kd}{cs:List Frame}:Way prog ak (nA E b bh bg rd kd cs) 40 (gr 135 kd 32 (Z5 E b bh) [] (.code (cR (cR ((f135.body).getD .skip)))::[]) cs):=by
 refine JB (c:=(cR (cR ((f135.body).getD .skip)))) Z4 [0,1,2,3,4,5,6,7,8,11,12] [9,10,13] 9 (Rw b bh bg rd) ⟨IU,IV,OO,OP,?_⟩ ?_
 ·intro x hx;simp only[ga,l7,fO]at hx;rcases hx with rfl|rfl|rfl|rfl|rfl|rfl|rfl|rfl|rfl|rfl|rfl
  ·exact⟨[],by simp,λm e aa q=>Ng rfl q⟩
  ·exact⟨[],by simp,λm e aa q=>Ng rfl q⟩
  ·exact⟨[⟨1,20,aF b,false⟩],by simp,λm e aa q=>Il (a:=⟨b,0,none⟩) rfl q⟩
  ·exact⟨[⟨2,21,aF b,false⟩],by simp,λm e aa q=>Im (b:=b) (off:=0) (o:=3) rfl q⟩
  ·exact⟨[⟨3,22,.pointer (some ⟨b,3,none⟩),false⟩],by simp,λm e aa q=>DK (ad:=⟨b,3,none⟩) (by simp[nA]) rfl q⟩
  ·exact⟨[],by simp,λm e aa q=>Ng rfl q⟩
  ·exact⟨[⟨5,24,aF bh,false⟩],by simp,λm e aa q=>Il (a:=⟨bh,0,none⟩) rfl q⟩
  ·exact⟨[⟨6,25,aF bh,false⟩],by simp,λm e aa q=>Im (b:=bh) (off:=0) (o:=2) rfl q⟩
  ·exact⟨[⟨7,26,.pointer (some ⟨bh,2,none⟩),false⟩],by simp,λm e aa q=>DK (ad:=⟨bh,2,none⟩) (by simp[nA]) rfl q⟩
  ·exact⟨[⟨0,19,aF b,false⟩],by simp,λm e aa q=>Il (a:=⟨b,0,none⟩) rfl q⟩
  ·exact⟨[⟨11,30,aF b,false⟩],by simp,λm e aa q=>Im (b:=b) (off:=0) (o:=3) rfl q⟩
 ·intro e aa dJ;have iS:ev 32 e (.tmp 27)=.chan (some rd):=by obtain⟨md,fuel,t,listed,hsz,hu,st,sf,iS,rfl⟩:=dJ;exact st.v1 ⟨8,27,.chan (some rd),true⟩ (by simp) (iS 8 (by decide+kernel))
  exact⟨_,⟨e,aa,dJ,rfl⟩,rfl,rfl,rfl,rfl,#[],by simp,λw _=>stepG_comm rfl rfl (OQ underlying118 iS) w⟩
theorem Fc{E:Nat->Value}{b bh rd k:Nat}{bg:Value}{kd:Kd}{cs:List Frame}{H:Array Obj}{c1 c2:Array Value}(h1:hp H b=some (.cells c1 92 (0,0)))(Jo:c1[3]? =some bg)(h2:hp H bh=some (.cells c2 120 (0,0)))(Ln:c2[2]? =some (.chan (some rd)))(h3:hp H rd=some (.chan 0 #[] false k k false)):
  xN (bP.rd 0) (nA E b bh bg rd kd cs) H:=by
 refine⟨λc hc=>?_,λp hp=>?_⟩
 ·obtain⟨j,z,e⟩:=hc;rcases j with _|j
  ·simp[nA,rcase]at e;rw[<- e.1];exact⟨k,h3⟩
  ·simp[nA]at e
 ·simp only[nA,ga,l7,fO]at hp;rcases hp with rfl|rfl
  ·exact⟨rfl,_,_,h1,Jo,rfl⟩
  ·exact⟨rfl,_,_,h2,Ln,rfl⟩
theorem VD{b bh rd:Nat}{bg:Value}:∀ x∈Rw b bh bg rd,x.ld=true->(([9,10,13]:List Nat).filter λt=> !reach (cO (cR (cR ((f135.body).getD .skip)))) 8 t x.i).length<=1:=by intro x hx;simp only[ga,l7,fO]at hx;rcases hx with rfl|rfl|rfl|rfl|rfl|rfl|rfl|rfl|rfl|rfl|rfl<;>intro h<;>dsimp only at h⊢ <;>first|(cases h;done)|(decide+kernel)
theorem Rx{σ:Gh}{R:Nat->aP->Array Obj->Prop}(C:ab prog true (bP.bw σ) R){E e:Nat->Value}{aa:List Nat}{b bh wk rd:Nat}{bs dn:Value}{m st:Int}{hs tx:Value}{bg so:ay}{aE ms:List cm}{kd:Kd}{cs:List Frame}{F:List HP}(dJ:pq (cO (cR (cR ((f135.body).getD .skip)))) (Z5 E b bh) Z4 (Rw b bh bg.v rd) 9 e aa)
  (hl:aE.length<2^30) (hm:ms.length<2^30)
  (h:∀ s2 e',At R 0 (nU b m hs s2.v tx dn false st::bR bh (.cells #[bs,.chan (some wk),.chan (some rd)] 120 (0,0))::a9 bN 7 190 s2 (aE++ms)::F) (gr 135 kd 32 e' [] [] cs)):
  At R 0 (nU b m hs bg.v tx dn false st::bR bh (.cells #[bs,.chan (some wk),.chan (some rd)] 120 (0,0))::a9 bN 7 190 bg aE::a9 bN 7 190 so ms::F) (gr 135 kd 32 (put e 28 so.v) [] (.inRegion (cO (cR (cR ((f135.body).getD .skip)))) aa::[]) cs):=by
 refine resume (T2:=[10,13]) (r:=9) (t0:=28) (v:=so.v) (D:=Z4) (is:=[0,1,2,3,4,5,6,7,8,11,12]) (a:=1) (W:=[nU b m hs bg.v tx dn false st,bR bh (.cells #[bs,.chan (some wk),.chan (some rd)] 120 (0,0))])
  (by decide+kernel) IU IV OO OP ?_ VD (gZ _) (λ_ s=>bZ.sat bZ.au s) (by decide+kernel) rfl ?_ dJ
 ·intro x hx;simp only[ga,l7,fO]at hx;rcases hx with rfl|rfl|rfl|rfl|rfl|rfl|rfl|rfl|rfl|rfl|rfl
  ·exact⟨[],by simp,⟨_,rfl,rfl⟩,λAs e aa hA h=>C.mv rfl h⟩
  ·exact⟨[],by simp,⟨_,rfl,rfl⟩,λAs e aa hA h=>C.mv rfl h⟩
  ·exact⟨[⟨1,20,aF b,false⟩],by simp,⟨_,rfl,rfl⟩,λAs e aa hA h=>C.nc rfl h⟩
  ·exact⟨[⟨2,21,aF b,false⟩],by simp,⟨_,rfl,rfl⟩,λAs e aa hA h=>C.fa (b:=b) (off:=0) (o:=3) rfl h⟩
  ·refine⟨[⟨3,22,.pointer (some ⟨b,3,none⟩),false⟩],by simp,⟨_,rfl,rfl⟩,λAs e aa hA h=>?_⟩;have hE:=hA rfl;exact C.ld rfl h
  ·exact⟨[],by simp,⟨_,rfl,rfl⟩,λAs e aa hA h=>C.mv rfl h⟩
  ·exact⟨[⟨5,24,aF bh,false⟩],by simp,⟨_,rfl,rfl⟩,λAs e aa hA h=>C.nc rfl h⟩
  ·exact⟨[⟨6,25,aF bh,false⟩],by simp,⟨_,rfl,rfl⟩,λAs e aa hA h=>C.fa (b:=bh) (off:=0) (o:=2) rfl h⟩
  ·refine⟨[⟨7,26,.pointer (some ⟨bh,2,none⟩),false⟩],by simp,⟨_,rfl,rfl⟩,λAs e aa hA h=>?_⟩;have hE:=hA rfl;exact C.ld rfl h
  ·exact⟨[⟨0,19,aF b,false⟩],by simp,⟨_,rfl,rfl⟩,λAs e aa hA h=>C.nc rfl h⟩
  ·exact⟨[⟨11,30,aF b,false⟩],by simp,⟨_,rfl,rfl⟩,λAs e aa hA h=>C.fa (b:=b) (off:=0) (o:=3) rfl h⟩
 ·refine Ch.m 10 (aW λe aa hk=>?_);refine C.Dw (f:=bN) (s:=bg) (l:=aE) ms rfl (λs2=>hk _ _ ?_) (hsrc:=λH st=>dt.src (dt.own (s:=so) Fo.au) st (λj=>rfl));refine Ch.m 13 (aW λe aa hk=>?_);refine C.st rfl (hk _ undef ?_);refine eQ ?_;exact At.jB bZ.au (h s2 _)
theorem At.env{R:Nat->aP->Array Obj->Prop}{d:Nat}{As:List HP}{fn:bI}{kd:Kd}{n:Nat}{e:Nat->Value}{ds:List dQ}{k:List Item}{cs:List Frame}{L:List (Nat×Value)}(he:jz e L)(h:∀ E,At R d As (gr fn kd n (p9 E L) ds k cs)):At R d As (gr fn kd n e ds k cs):=by rw[<- jJ he];exact h e
theorem uL{σ:Gh}{c:CV}{q:Nat}{f:bI}{fu:Func}{code:Code}{nf:Nat}[bd:Body prog f fu code nf]{a1 caps:Array Value}{I:HL}{A:List HP}{o a:Int}{rs:dT}
  (hq:q<c.ae.length) (hr:rE σ c) (dJ:c.ai=false) (mS:c.aE.length<2^30) (iW:rs.out.length<2^30)
  (hf:aD prog false bQ f (a1++[aF (c.ae[q]).h.bs].toArray++caps) (cU (c.ae[q]).h.bs (c.ae[q]).s::a7 I::A) (gv (c.ae[q]).h.bs I o a rs)):
  bC prog bP 135 #[aF c.G.b,aI q,.func (.func f) a1 caps] σ (qD 1 c::a7 I::A)
   (λv σ' As=>σ'=σ/\∃ I' s',Sub I I'/\ShJ I' s'/\s'.abs=rs/\wx o a s'/\As=[qD 1 {c with ae:=c.ae.set q {c.ae[q]with s:={s' with out:=[]},kw:=(c.ae[q]).kw+1,kr:=(c.ae[q]).kr+1},aE:=c.aE++s'.out},a7 I']):=by
 refine bC.of ?_;intro Post os out kd F c' cs C aJ aj;refine bM ?_;obtain⟨G,ae,aE,aL,ai⟩:=c;obtain rfl:ai=false:=dJ;dsimp only at hq mS hf aj⊢;obtain⟨v,hv⟩:∃ v,v=ae[q]:=⟨_,rfl⟩;have eN:v∈ae:=hv▸br hq;have A8:=hr.aT v eN;have Zr:=hr.wk v eN;have Pe:=hr.wd v eN;have Y1:=hr.Z3 v eN;dsimp only at A8 Zr Pe Y1;rw[<- hv]at hf;refine At.gh λh0 dA=>?_;have Ll:v.h.g≠0:=λz=>by rw[z,h0]at A8;cases A8
 have Yc:=dA _ _ A8;refine dw.opn (m:=1) (h:=λhs bg tx=>?_);have Q7:(ae.map (·.h.bh)).length=ae.length:=cV ..;have wT:(ae.map (·.h.bh))[q]'(by omega)=v.h.bh:=by simp[hv]
 refine dV ?_;refine C.kJ rfl ?_ (s:=hs) (l:=ae.map (·.h.bh)) (f:=ek) (j:=q);refine C.nL rfl ?_ (s:=hs) (l:=ae.map (·.h.bh)) (f:=ek) (j:=q) (v:=aF v.h.bh) (hj:=by omega) (hv:=by rw[wT];rfl);refine ky hq Fo.au ?_;rw[<- hv];refine kE ?_;refine At.env (L:=[(0,aF G.b),(6,aF v.h.bh),(17,.chan (some v.h.wk)),(18,.func (.func f) a1 caps)]) ⟨rfl,rfl,rfl,rfl,trivial⟩ λE=>?_;refine At.jB (show bZ _ (WH v G 1 hs.v bg.v tx.v false (CV.st ⟨G,ae,aE,aL,false⟩) 0 (a7 I::a9 ek 1 114 hs (ae.map (·.h.bh))::a9 bN 7 190 bg aE::a9 qZ 3 126 tx aL::all ((ae.eraseIdx q).map iy)::(A++F))) by exact bZ.au) ?_;refine At.perm ((R1 [_,_,_,_] A F).append_left [_,_,_,_,_,_,_,_,_]) ?_;refine bM ?_;have hEq:Z5 (p9 E [(0,aF G.b),(6,aF v.h.bh),(17,.chan (some v.h.wk)),(18,.func (.func f) a1 caps)]) G.b v.h.bh=p9 E [(0,aF G.b),(6,aF v.h.bh),(17,.chan (some v.h.wk)),(18,.func (.func f) a1 caps)]:=jJ ⟨rfl,rfl,trivial⟩;have hj:bP.rd 0=bQ.rd:=rfl;refine aC.give (X:=bP) (C7 (eK _) Yc) v.h.g v.h.wk 0 v.kw (dZ v.h G) (nA (p9 E [(0,aF G.b),(6,aF v.h.bh),(17,.chan (some v.h.wk)),(18,.func (.func f) a1 caps)]) G.b v.h.bh bg.v v.h.rd kd (c'::cs)) (.func (.func f) a1 caps) .nilFunc (.tuple #[]) rfl rfl rfl A8 rfl (λi s' e hc=>Zr i s' e hc) (aN:=WH {v with kw:=v.kw+1} G 1 hs.v bg.v tx.v false (CV.st ⟨G,ae,aE,aL,false⟩) 0 (a7 I::(A++(a9 ek 1 114 hs (ae.map (·.h.bh))::a9 bN 7 190 bg aE::a9 qZ 3 126 tx aL::all ((ae.eraseIdx q).map iy)::F)))) ?_ ?_ ?_ ?_ ?_ ?_ ?_
 ·repeat(first|with_reducible exact p8.head|with_reducible apply p8.tail)
 ·exact⟨λcc o5=>by simp[nA]at o5;exact⟨_,_,o5⟩,λk m c z z' h1 h2=>by rcases k with _|k<;>rcases m with _|m<;>simp[nA]at h1 h2⊢⟩
 ·intro H st;exact Fc (Has.get Has.au st) rfl (Has.get Has.au st) rfl (Has.get Has.au st)
 ·intro H st;exact Fc (Has.get Has.au st) rfl (Has.get Has.au st) rfl (Has.get Has.au st)
 ·intro H st p hp c ty hh;have h1:=Has.get (b:=G.b) (o:=.cells (Q5 1 hs.v bg.v tx.v (.chan (some G.dn)) false (CV.st ⟨G,ae,aE,aL,false⟩)) 92 (0,0)) Has.au st;have h2:=Has.get (b:=v.h.bh) (o:=.cells #[aF v.h.bs,.chan (some v.h.wk),.chan (some v.h.rd)] 120 (0,0)) Has.au st;simp only[nA,ga,l7,fO]at hp;rcases hp with rfl|rfl
  ·have h1:H[G.b]? =_:=h1;rw[hh]at h1;cases h1;rfl
  ·have h2:H[v.h.bh]? =_:=h2;rw[hh]at h2;cases h2;rfl
 ·have M:=Mt.Zy (P:=prog) (ak:=true) (s:=nA (p9 E [(0,aF G.b),(6,aF v.h.bh),(17,.chan (some v.h.wk)),(18,.func (.func f) a1 caps)]) G.b v.h.bh bg.v v.h.rd kd (c'::cs));refine⟨100,?_⟩;show Way _ true _ _ _;refine M.go ?_;have h1:=VC (ak:=true) (E:=(p9 E [(0,aF G.b),(6,aF v.h.bh),(17,.chan (some v.h.wk)),(18,.func (.func f) a1 caps)])) (b:=G.b) (bh:=v.h.bh) (rd:=v.h.rd) (bg:=bg.v) (kd:=kd) (cs:=c'::cs);rw[hEq]at h1;exact h1
 ·intro r hlr;refine serve (v:={v with kw:=v.kw+1}) (bd:=bd) (sM:=nA (p9 E [(0,aF G.b),(6,aF v.h.bh),(17,.chan (some v.h.wk)),(18,.func (.func f) a1 caps)]) G.b v.h.bh bg.v v.h.rd kd (c'::cs)) (σ:=σ.given 0 v.h.g (nA (p9 E [(0,aF G.b),(6,aF v.h.bh),(17,.chan (some v.h.wk)),(18,.func (.func f) a1 caps)]) G.b v.h.bh bg.v v.h.rd kd (c'::cs))) hf Ll Yc ?_ rfl ?_ Pe hlr ?_
  ·exact ON σ 0 v.h.g _
  ·intro i s' hi hc;have hi:Go.ConcN.upd (Go.ConcN.upd σ.aT v.h.g none) 0 _ i=some s':=hi;by_cases e0:i=0
   ·exact e0
   ·rw[Go.ConcN.upd_ne _ _ e0]at hi;by_cases e1:i=v.h.g
    ·rw[e1,Go.ConcN.upd_same]at hi;cases hi
    ·rw[Go.ConcN.upd_ne _ _ e1]at hi;exact absurd hc (Y1 i s' hi)
  ·intro I' s' so rC pX ku Kf r DL;rw[Hm h0 A8];obtain⟨e,aa,dJ,rfl⟩:=DL;rw[qV rfl];have oE:s'.out.length<2^30:=by rw[<- ku]at iW;simpa[dE.abs]using iW
   refine At.jB (show bZ _ (nU G.b 1 hs.v bg.v tx.v (.chan (some G.dn)) false (CV.st ⟨G,ae,aE,aL,false⟩)::bR v.h.bh (.cells #[aF v.h.bs,.chan (some v.h.wk),.chan (some v.h.rd)] 120 (0,0))::a9 bN 7 190 bg aE::a9 bN 7 190 so s'.out::bR G.cb (.cells #[aF G.b] 23 (0,0))::bR G.dn (.chan 0 #[] false 0 0 false)::
    bR v.h.wk (.chan 0 #[] false (v.kw+1) (v.kw+1) false)::bR v.h.rd (.chan 0 #[] false (v.kr+1) (v.kr+1) false)::bR v.h.hb (.cells #[aF v.h.bh] 114 (0,0))::cU v.h.bs {s' with out:=[]}::a7 I'::a9 ek 1 114 hs (ae.map (·.h.bh))::a9 qZ 3 126 tx aL::all ((ae.eraseIdx q).map iy)::F) by exact bZ.au) ?_
   refine Rx C dJ mS oE λs2 e'=>?_;refine II (l:=ae) hq ({v with s:={s' with out:=[]},kw:=v.kw+1,kr:=v.kr+1}:HV) dB.au ?_;have OR:=aj (.tuple #[]) σ _ ⟨rfl,I',s',rC,pX,ku,Kf,rfl⟩;rw[<- hv]at OR;generalize sk:({v with s:={s' with out:=[]},kw:=v.kw+1,kr:=v.kr+1}:HV)=v' at OR⊢;have hbh:v'.h=v.h:=by rw[<- sk]
   have e1:(ae.set q v').map (·.h.bh)=ae.map (·.h.bh):=by rw[j1,hbh,<- wT,lO]
   have e2:CV.st ⟨G,ae,aE,aL,false⟩=CV.st ⟨G,ae.set q v',aE++s'.out,aL,false⟩:=by simp[CV.st]
   rw[<- e1,e2];refine dw.cls (m:=1) ⟨G,ae.set q v',aE++s'.out,aL,false⟩ ?_;exact At.jB bZ.au (C.TR aJ OR rfl)
theorem rE.same{σ:Gh}{c c':CV}(h:rE σ c)(hG:c'.G=c.G)(hh:c'.ae.map (·.h)=c.ae.map (·.h)):rE σ c':=by
 have hl:c'.ae.length=c.ae.length:=by have:=congrArg List.length hh;simpa using this
 have key:∀ v∈c'.ae,∃ u∈c.ae,u.h=v.h:=λv hv=>by have:v.h∈c'.ae.map (·.h):=rF hv;rw[hh]at this;obtain⟨u,hu,e⟩:=bH.1 this;exact⟨u,hu,e⟩
 have hm:∀ (f:HG->Nat),c'.ae.map (λv=>f v.h)=c.ae.map (λv=>f v.h):=λf=>by have:=congrArg (List.map f) hh;simpa[tC,vC]using this
 refine⟨⟨λv hv=>?_,?_,λi s e hd=>?_,λv hv=>?_,λv hv=>?_,by rw[hG];exact h.sh7,by rw[hG];exact h.sh8,by rw[hl];exact h.n⟩,λv hv=>?_⟩
 ·obtain⟨u,hu,e⟩:=key v hv;rw[<- e,hG];exact h.aT u hu
 ·rw[hm (·.g)];exact h.nd
 ·rw[hG]at hd;obtain⟨u,hu,e2⟩:=h.only i s e hd;have:u.h∈c.ae.map (·.h):=rF hu;rw[<- hh]at this;obtain⟨v,hv,e3⟩:=bH.1 this;exact⟨v,hv,by rw[e3];exact e2⟩
 ·obtain⟨u,hu,e⟩:=key v hv;rw[<- e];exact h.wk u hu
 ·obtain⟨u,hu,e⟩:=key v hv;rw[<- e,hG];exact h.wd u hu
 ·obtain⟨u,hu,e⟩:=key v hv;rw[<- e];exact h.Z3 u hu
theorem oZ{σ:Gh}{c:CV}{f:bI}{fu:Func}{code:Code}{nf:Nat}[bd:Body prog f fu code nf]{caps:Array Value}{I:HL}{eb:Nat->Nat×Nat}{nm:ByteArray}{i:Int}{A:List HP}{Q:Option Nat->CV->HL->Prop}(hE:ig I eb)(mS:c.aE.length<2^20)
  (hf:∀ (h0:0<=i) (hl:i.toNat<c.aE.length),c.ai=false->bC prog bP f (#[]++[qy (c.aE[i.toNat])].toArray++caps) σ (qD 1 c::a7 I::A) (MQ σ c eb Q)) (hQ:c.ai=false->i<0\/(c.aE.length:Int)<=i->Q (some 4) c I):
  bC prog bP 131 #[aF c.G.b,.string nm,aI i,.func (.func f) #[] caps] σ (dw c::a7 I::A) (CQ σ c I eb nm i Q):=by
 refine bC.of ?_;intro Post os out kd F c' cs C aJ aj;refine jK ?_;refine C.bx rfl (λbc=>?_);refine C.bx rfl (λbi=>?_);refine C.bx rfl (λbf=>?_);refine dH ?_;refine C.mf rfl ?_;have h1:c.ai=false->bC prog bP 169 (#[]++([]:List Value).toArray++#[aF bi,aF bc,aF bf]) σ (qD 1 c::a7 I::(bR bi (.cells #[aI i] 3 (0,0))::bR bc (.cells #[aF c.G.b] 23 (0,0))::bR bf (.cells #[.func (.func f) #[] caps] 225 (0,0))::A)) (MQ σ c eb Q):=by
  intro dJ;have hf:=λh0 hl=>hf h0 hl dJ;refine bC.of ?_;clear aj;intro Post os out kd F c' cs C aJ OS;refine bM ?_;obtain⟨G,ae,aE,aL,ai⟩:=c;obtain rfl:ai=false:=dJ;dsimp only at mS hf hQ;obtain⟨t4,hg4⟩:=hE.g 4 (by decide);refine dw.opn (m:=1) (h:=λhs bg tx=>?_);refine cW ?_;by_cases h5:i<0
  ·refine C.dx (cG 4 0 11) 11 [] 0 ?_;refine lS ?_;refine Dr.p (λh=>C.fe rfl h (hf:=h5)) ?_;refine XW ?_;refine Qr ?_;refine C.uQ Fo.au hg4 (gp _ _) rfl ?_;refine bJ ?_;refine dw.cls (m:=1) ⟨G,ae,aE,aL,false⟩ ?_;refine At.jB (show bZ _ (qD 1 ⟨G,ae,aE,aL,false⟩::a7 I::(A++F)) by exact bZ.au) ?_;refine At.jB (.cons .head (.cons .head (bZ.qK A))) ?_;exact aC.cK aJ OS ⟨some 4,⟨G,ae,aE,aL,false⟩,I,rfl,(λk hk=>by cases hk;decide),rfl,rfl,hQ rfl (.inl h5),rfl⟩
  ·by_cases qz:i>=(aE.length:Int)
   ·refine C.dx (cG 4 0 11) 11 [] 0 ?_;refine lS ?_;refine Dr.p (λh=>C.dP rfl h (hf:=h5)) ?_;refine lZ ?_;refine Dr.p (λh=>C.fe rfl h (hf:=qz)) ?_;refine xY ?_;refine Qr ?_;refine C.uQ Fo.au hg4 (gp _ _) rfl ?_;refine bJ ?_;refine dw.cls (m:=1) ⟨G,ae,aE,aL,false⟩ ?_;refine At.jB (show bZ _ (qD 1 ⟨G,ae,aE,aL,false⟩::a7 I::(A++F)) by exact bZ.au) ?_;refine At.jB (.cons .head (.cons .head (bZ.qK A))) ?_;exact aC.cK aJ OS ⟨some 4,⟨G,ae,aE,aL,false⟩,I,rfl,(λk hk=>by cases hk;decide),rfl,rfl,hQ rfl (.inr qz),rfl⟩
   ·refine C.dx (cG 4 0 11) 11 [] 0 ?_;refine lS ?_;refine Dr.p (λh=>C.dP rfl h (hf:=h5)) ?_;refine lZ ?_;refine Dr.p (λh=>C.dP rfl h (hf:=qz)) ?_;refine xY ?_;refine ru ?_;obtain⟨q,rfl⟩:=gR (show 0<=i by omega);have hq:q<aE.length:=az;refine C.dx (cG 16 0 9++[(3,9)]) 10 [8,9] 0 ?_;refine lZ ?_;refine Dr.l (v:=qy (aE[q]'hq)) (λhE h=>C.mE rfl (λhj=>h) (s:=bg) (l:=aE) (f:=bN) (j:=q)) ?_;refine Dr.chain rfl ?_;refine Ch.m 8 (aW λe aa hk=>?_);refine dw.cls (m:=1) ⟨G,ae,aE,aL,false⟩ ?_;refine At.jB (show bZ _ (qD 1 ⟨G,ae,aE,aL,false⟩::a7 I::(A++F)) by exact bZ.au) ?_;refine aC.cl (f:=f) (a1:=#[]) (a2:=caps) (vl:=[qy aE[q]]) (hf (C6 q) (by simpa using hq)) ?_ (hr:=.cons .head (.cons .head (dB.app A)));rintro v σ' aN ⟨er,c2,I2,rfl,Fe,rfl,hb,hQ2,rfl⟩;refine bM ?_;refine hk _ _ ?_;refine Ch.q 9 (λh=>C.kH rfl h) ?_;refine eQ ?_;exact aC.cK aJ OS ⟨er,c2,I2,rfl,Fe,rfl,hb,hQ2,rfl⟩
 refine aC.kK (te (nm:=nm) (at_:=i) hE h1) ?_ (hr:=.cons Fo.au (.cons Fo.au (.cons Fo.au (.cons Fo.au (.cons Fo.au (dB.app A))))));rintro v σ' aN ⟨er,c2,I2,L,h2,h3,rfl,rfl,h4⟩;refine jK ?_;exact aC.cK aJ aj ⟨er,c2,I2,L,h2,h3,rfl,rfl,h4⟩
theorem Co{w:WP}{k i b:Int}(hs:w.ai=false)(hk:2<=k/\k<=4):fJ w k i b=ie w k i:=by unfold fJ;rw[ao az,hs,ao (by decide),ao az,aK az]
theorem Ry{w:WP}{k i:Int}(h:i<0\/(w.aE.length:Int)<=i):ie w k i=(w,5):=by unfold ie;rw[aK h]
theorem Hn{w:WP}{k:Int}{q:Nat}{m:MsgR}(h:w.aE[q]? =some m):ie w k q=(if k=4 then(if 400<=w.aE.length then(w,(3:Int))else({w with aE:=w.aE++[m]},(0:Int)))else
  if k=3 then({w with aE:=w.aE.eraseIdx q},(0:Int))else
  if m.to= -1 then({w with aE:=w.aE.eraseIdx q,aL:=mL w.aL m},(0:Int))else
  match w.sh[m.to.toNat]? with
  |none=>({w with aE:=w.aE.eraseIdx q},(0:Int))
  |some s=>if s.up then(gO {w with aE:=w.aE.eraseIdx q} m.to.toNat (qi s m),(0:Int))else({w with aE:=w.aE.eraseIdx q},(0:Int))):=by
 have hl:=(jk.1 h).1;unfold ie;rw[ao az,g5,h];rfl
theorem CV.Cp{c:CV}{q:Nat}(h:q<c.aE.length):c.abs.aE[q]? =some (c.aE[q]).toMsgR:=by simp[CV.abs,h]
def VE:ByteArray:=⟨#[68,114,111,112]⟩
def VF:ByteArray:=⟨#[68,101,108,105,118,101,114]⟩
def VG:ByteArray:=⟨#[67,111,112,121]⟩
theorem KP{σ:Gh}{c:CV}{b3 b2 q:Nat}{I:HL}{eb:Nat->Nat×Nat}{o a:Int}{mv:cm}(hJ:q6 I c)(hb:KO c)(hC:mW o a c)(dJ:c.ai=false)(hq:q<c.aE.length):
  bC prog bP 138 (#[]++[qy mv].toArray++#[aF b2,aF b3]) σ (qD 1 c::a7 I::[bR b2 (.cells #[aF c.G.b] 23 (0,0)),bR b3 (.cells #[aI q] 3 (0,0))])
   (MQ σ c eb (eg c I (o+2^15) (a+1) (fJ c.abs 3 q 0))):=by
 refine bC.of ?_;intro Post os out kd F c' cs C aJ aj;refine bM ?_;obtain⟨G,ae,aE,aL,ai⟩:=c;obtain rfl:ai=false:=dJ;obtain⟨hn,mS,um,pz⟩:=hb;dsimp only at hn mS um pz hq;refine dw.opn (m:=1) (h:=λhs bg tx=>?_);refine bJ ?_;refine C.bx rfl (λb3=>?_);refine dD ?_;refine C.dv (A7 (ae:=hs.v) (bg:=bg) (aE:=aE) hq az) ?_;rintro v aN ⟨EV,rfl⟩;refine rS ?_;refine dw.cls (m:=1) ⟨G,ae,aE.eraseIdx q,aL,false⟩ ?_;refine aC.cK aJ aj ⟨none,⟨G,ae,aE.eraseIdx q,aL,false⟩,I,rfl,(λk hk=>by cases hk),rfl,rfl,⟨Sub.refl _,⟨λm hm=>hJ.aE m ((ju ..).mem hm),hJ.aL,hJ.sh⟩,rfl,rfl,?_,λv hv=>(hC v hv).mono az az⟩,rfl⟩;rw[Co (k:=3) (by rfl) az,Hn (CV.Cp (c:=⟨G,ae,aE,aL,false⟩) hq),ao az,aK rfl];simp[CV.abs,wA,map_eraseIdx]
theorem KR{σ:Gh}{c:CV}{b2 q:Nat}{I:HL}{eb:Nat->Nat×Nat}{o a:Int}(hE:ig I eb)(hJ:q6 I c)(hb:KO c)(hC:mW o a c)(dJ:c.ai=false)(hq:q<c.aE.length):
  bC prog bP 139 (#[]++[qy (c.aE[q])].toArray++#[aF b2]) σ (qD 1 c::a7 I::[bR b2 (.cells #[aF c.G.b] 23 (0,0))])
   (MQ σ c eb (eg c I (o+2^15) (a+1) (fJ c.abs 4 q 0))):=by
 refine bC.of ?_;intro Post os out kd F c' cs C aJ aj;refine bM ?_;obtain⟨G,ae,aE,aL,ai⟩:=c;obtain rfl:ai=false:=dJ;obtain⟨hn,mS,um,pz⟩:=hb;dsimp only at hn mS um pz hq;obtain⟨t2,Pk⟩:=hE.g 2 (by decide);have FU:fJ (CV.abs ⟨G,ae,aE,aL,false⟩) 4 q 0=if 400<=aE.length then(CV.abs ⟨G,ae,aE,aL,false⟩,3)else(CV.abs ⟨G,ae,aE++[aE[q]],aL,false⟩,0):=by rw[Co (k:=4) (by rfl) az,Hn (CV.Cp (c:=⟨G,ae,aE,aL,false⟩) hq),aK rfl];simp[CV.abs]
 refine dw.opn (m:=1) (h:=λhs bg tx=>?_);refine bJ ?_;refine C.bx rfl (λb3=>?_);refine kE ?_;refine C.cmp rfl (λh9=>?_) (λh9=>?_)
 ·refine dN ?_;refine C.uQ Fo.au Pk (gp _ _) rfl ?_;refine bJ ?_;refine dw.cls (m:=1) ⟨G,ae,aE,aL,false⟩ ?_;refine aC.cK aJ aj ⟨some 2,⟨G,ae,aE,aL,false⟩,I,rfl,(λk hk=>by cases hk;decide),rfl,rfl,?_,rfl⟩;have h9':400<=(aE.length:Int):=h9;rw[FU,aK az];exact eg.same hJ hC rfl
 ·refine bJ ?_;refine C.vL (cG 11 0 10) 11 [6,7,10] 2 ?_ (W:=[nU G.b 1 hs.v bg.v tx.v (.chan (some G.dn)) false (CV.st ⟨G,ae,aE,aL,false⟩),bR b2 (.cells #[aF G.b] 23 (0,0)),lM b3 (aE[q]'hq)]);refine CJ ?_;refine Dr.chain rfl ?_ (λ_ s=>bZ.sat bZ.au s);refine Ch.m 6 (aW λe aa hk=>?_);refine C.nj rfl (λb17=>hk _ _ .cons ?_);refine Ch.m 7 (aW λe aa hk=>?_);refine C.nM (aE[q]'hq) rfl (λs'=>?_);refine hk _ _ lu ?_;refine Ch.m 10 (aW λe aa hk=>?_);refine C.st rfl (hk _ undef ?_);refine Qs ?_;refine dw.cls (m:=1) ⟨G,ae,aE++[aE[q]],aL,false⟩ ?_;refine aC.cK aJ aj ⟨none,⟨G,ae,aE++[aE[q]],aL,false⟩,I,rfl,(λk hk=>by cases hk),rfl,rfl,⟨Sub.refl _,⟨λm hm=>?_,hJ.aL,hJ.sh⟩,rfl,rfl,?_,λv hv=>(hC v hv).mono az az⟩,rfl⟩
  ·rcases bU.1 hm with hm|hm
   ·exact hJ.aE m hm
   ·obtain rfl:=dF.1 hm;exact hJ.aE _ (br hq)
  ·have h9':¬ 400<=(aE.length:Int):=h9;rw[FU,ao az];rfl
def nS(aL:List l4)(m:cm):List l4:=
 match aL[m.tx.toNat]? with
 |none=>aL
 |some t=>if t.state=1 then aL.set m.tx.toNat (if m.yes then{t with state:=2,reads:=m.reads,sr:=m.sr}else{t with state:=3})else aL
theorem KS{aL:List l4}{m:cm}{q:Nat}(hq:q<aL.length)(hm:m.tx=q):nS aL m=if(aL[q]).state=1 then aL.set q (if m.yes then{aL[q]with state:=2,reads:=m.reads,sr:=m.sr}else{aL[q]with state:=3})else aL:=by unfold nS;rw[hm,g5,e9 hq]
theorem Ho{aL:List l4}{m:cm}:(nS aL m).map (·.toTxR)=mL (aL.map (·.toTxR)) m.toMsgR:=by
 unfold nS mL;have e:(aL.map (·.toTxR))[m.toMsgR.tx.toNat]? =(aL[m.tx.toNat]?).map (·.toTxR):=kG ..;rw[e];cases aL[m.tx.toNat]? with
 |none=>rfl
 |some t=>
  simp only[k7];split
  ·rw[j1];congr 1;split<;>rfl
  ·rfl
theorem OT{I:HL}{aL:List l4}{m:cm}(h:∀ t∈aL,Wu I t)(hm:jX I m):∀ t∈nS aL m,Wu I t:=by
 intro t ht;unfold nS at ht;cases e:aL[m.tx.toNat]? with
 |none=>rw[e]at ht;exact h t ht
 |some u=>
  rw[e]at ht;simp only at ht;have hu:=h u (eY e);split at ht
  ·rcases fN ht with ht|rfl
   ·exact h t ht
   ·split
    ·exact⟨hu.o,hm.r,hm.z⟩
    ·exact⟨hu.o,hu.r,hu.z⟩
  ·exact h t ht
variable{b q:Nat}{m st:Int}{hs bg dn:Value}{pO:ay}{ai:Bool}{aL:List l4}{mv:cm}
theorem Ff(hq:q<aL.length)(hm:mv.tx=q):aD prog true (bP.bw σ) 134 #[aF b,qy mv] [nU b m hs bg pO.v dn ai st,a9 qZ 3 126 pO aL]
  (λv As=>As=[nU b m hs bg pO.v dn ai st,a9 qZ 3 126 pO (nS aL mv)]):=by
 rw[KS hq hm];refine aD.of λR C kd d F c cs aJ aj=>?_;refine jK ?_;refine C.bx rfl (λb3=>?_);refine C.go ?_;rw[hm];refine C.dx (cG 5 0 7++[(4,7)]) 8 [] 0 ?_;refine rR ?_;refine Dr.l (λhE h=>C.kJ rfl h (s:=pO) (l:=aL) (f:=qZ) (j:=q)) ?_;refine xY ?_;refine zD ?_;refine C.vI rfl ?_ (s:=pO) (l:=aL) (f:=qZ) (j:=q) (o:=1);refine C.cmp rfl (λtu=>?_) (λtu=>?_)
 ·refine dN ?_;rw[ao tu]at aj;exact C.cX aJ aj rfl
 ·refine kE ?_;refine C.xA (λVH=>?_) (λVH=>?_)
  ·refine C.go ?_;refine C.vL (cG 24 0 6++[(30,7),(31,8)]) 10 [6,9] 1 ?_ (W:=[bR b3 (.cells #[aI mv.kind,aI mv.aU,aI mv.to,aI q,.bool mv.yes,mv.so.v,mv.sr.v] 190 (0,0))]);refine CJ ?_;refine Dr.chain rfl ?_ (λ_ s=>bZ.sat bZ.au s);refine Ch.m 6 (aW λe aa hk=>?_);refine C.Gl (s:=pO) (l:=aL) (j:=q) (o:=1) ({aL[q]with state:=2}:l4) rfl ?_ (hj:=hq) (ha:=rfl);refine hk _ undef lu ?_;refine Ch.m 9 (aW λe aa hk=>?_);refine C.Gl (s:=pO) (l:=aL.set q {aL[q]with state:=2}) (j:=q) (o:=2) ({aL[q]with state:=2,reads:=mv.reads,sr:=mv.sr}:l4) rfl (hk _ undef ?_) (hj:=by rw[fM];exact hq) (ha:=by rw[vD];rfl);refine eQ ?_;rw[aK (by simpa using tu),aK VH,<- zX]at aj;exact C.cX aJ aj rfl
  ·refine dD ?_;refine C.Gl (s:=pO) (l:=aL) (j:=q) (o:=1) ({aL[q]with state:=3}:l4) rfl ?_ (hj:=hq) (ha:=rfl);refine C.go ?_;rw[aK (by simpa using tu),ao (by simpa using VH)]at aj;exact C.cX aJ aj rfl
theorem KT{I:HL}{bs b4:Nat}{s:dE}{mv:cm}{o a:Int}(Di:1<=mv.kind/\mv.kind<=6)(hJ:ShJ I s)(hb:pI s)(hC:wx o a s)(hM:jX I mv)(hO:mv.kind=1\/mv.kind=2->jf mv.ops)(hV:mv.kind=3->yA s.abs mv.toMsgR):
  aD prog false bQ 136 (#[]++[aF bs].toArray++#[aF b4]) (cU bs s::a7 I::[lM b4 mv]) (gv bs I (o+1) (a+1) (qi s.abs mv.toMsgR)):=by
 refine aD.of λR C kd d F c cs aJ aj=>?_;refine rS ?_;refine C.dv (GY Di hJ hb hC hM hO hV) ?_;rintro v aN ⟨I1,s',fp,pX,ku,Kf,rfl⟩;refine k6 ?_;exact C.cX aJ aj ⟨I1,s',fp,pX,ku,Kf,rfl⟩
theorem Rz{c:CV}{q:Nat}{I I':HL}{o a o' a':Int}{s':dE}{rs:dT}{Hp:List cm}{kw kr:Nat}(hq:q<c.ae.length)(hJ:q6 I c)(hC:mW o a c)(y2:∀ m∈Hp,m∈c.aE)(hI:Sub I I')(pX:ShJ I' s')(ku:s'.abs=rs)(Kf:wx o' a' s')(ho:o<=o')(ha:a<=a'):
  eg c I o' a' (gO {c.abs with aE:=Hp.map (·.toMsgR)} q rs,0) none {c with ae:=c.ae.set q {c.ae[q]with s:={s' with out:=[]},kw:=kw,kr:=kr},aE:=Hp++s'.out} I':=by
 subst ku;refine⟨hI,⟨λm hm=>?_,λt ht=>(hJ.aL t ht).mono hI,λv hv=>?_⟩,rfl,?_,?_,λv hv=>?_⟩
 ·rcases bU.1 hm with hm|hm
  ·exact(hJ.aE m (y2 m hm)).mono hI
  ·exact pX.out m hm
 ·rcases fN hv with hv|rfl
  ·exact(hJ.sh v hv).mono hI
  ·exact⟨pX.log,pX.pend,pX.cg,pX.waits,by simp⟩
 ·rw[j1];dsimp only;rw[<- pR (f:=λv:HV=>v.h) (h:=by simpa using hq),lO]
 ·simp only[CV.abs,gO,wA,eF,j1];rfl
 ·rcases fN hv with hv|rfl
  ·exact(hC v hv).mono ho ha
  ·exact⟨Kf.z,Kf.o,Kf.a⟩
structure IW(c:CV)(m:cm):Prop where
 rep:m.to= -1->0<=m.tx/\m.tx<c.aL.length
 tak:m.to≠ -1->0<=m.to/\m.to<c.ae.length/\1<=m.kind/\m.kind<=6/\(m.kind=1\/m.kind=2->jf m.ops)
 vot:m.to≠ -1->∀ v,c.ae[m.to.toNat]? =some v->v.s.up=true->(m.kind=3->yA v.s.abs m.toMsgR)/\(qi v.s.abs m.toMsgR).out.length<2^30
theorem KU{σ:Gh}{c:CV}{b3 b2 q:Nat}{I:HL}{eb:Nat->Nat×Nat}{o a:Int}(hJ:q6 I c)(hb:KO c)(hC:mW o a c)(dJ:c.ai=false)(hq:q<c.aE.length)(hr:rE σ c)(hD:IW c c.aE[q])(hS:∀ v∈c.ae,v.s.up=true->pI v.s):
  bC prog bP 132 (#[]++[qy (c.aE[q])].toArray++#[aF b2,aF b3]) σ (qD 1 c::a7 I::[bR b2 (.cells #[aF c.G.b] 23 (0,0)),bR b3 (.cells #[aI q] 3 (0,0))])
   (MQ σ c eb (eg c I (o+2^15) (a+1) (fJ c.abs 2 q 0))):=by
 refine bC.of ?_;intro Post os out kd F c' cs C aJ aj;refine bM ?_;obtain⟨G,ae,aE,aL,ai⟩:=c;obtain rfl:ai=false:=dJ;obtain⟨hn,mS,um,pz⟩:=hb;dsimp only at hn mS um pz hq hD hS;have Rb:=hJ.aE _ (br hq);have FU:fJ (CV.abs ⟨G,ae,aE,aL,false⟩) 2 q 0=if(aE[q]).to= -1 then(CV.abs ⟨G,ae,aE.eraseIdx q,nS aL aE[q],false⟩,(0:Int))else
   match ae[(aE[q]).to.toNat]? with
   |none=>(CV.abs ⟨G,ae,aE.eraseIdx q,aL,false⟩,(0:Int))
   |some v=>if v.s.up then(gO (CV.abs ⟨G,ae,aE.eraseIdx q,aL,false⟩) (aE[q]).to.toNat (qi v.s.abs (aE[q]).toMsgR),(0:Int))else(CV.abs ⟨G,ae,aE.eraseIdx q,aL,false⟩,(0:Int)):=by
  rw[Co (k:=2) (by rfl) az,Hn (CV.Cp (c:=⟨G,ae,aE,aL,false⟩) hq),ao az,ao az];dsimp only;by_cases h:(aE[q]).to= -1
  ·rw[aK h,aK h];simp[CV.abs,map_eraseIdx,Ho]
  ·rw[ao h,ao h];have e1:(CV.abs ⟨G,ae,aE,aL,false⟩).sh[(aE[q]).to.toNat]? =(ae[(aE[q]).to.toNat]?).map (·.s.abs):=by simp[CV.abs]
   rw[e1];cases ae[(aE[q]).to.toNat]? with
   |none=>simp[CV.abs,map_eraseIdx]
   |some v=>simp[CV.abs,map_eraseIdx,dE.abs]
 obtain⟨mv,hmv⟩:∃ mv,mv=aE[q]:=⟨_,rfl⟩;rw[<- hmv]at hD FU Rb⊢;refine dw.opn (m:=1) (h:=λhs bg tx=>?_);have Q7:(ae.map (·.h.bh)).length=ae.length:=cV ..;refine bJ ?_;refine C.bx rfl (λb4=>?_);refine dD ?_;refine C.dv (A7 (ae:=hs.v) (bg:=bg) (aE:=aE) hq az) ?_;rintro v aN ⟨EV,rfl⟩;refine rS ?_;refine C.cmp rfl (λqw=>?_) (λqw=>?_)
 ·refine dH ?_;obtain⟨qt,Zo⟩:=gR (hD.rep qw).1;have ab7:qt<aL.length:=by have:=(hD.rep qw).2;dsimp only at this;omega
  refine C.dv (Ff (q:=qt) ab7 Zo) ?_;rintro v aN rfl;refine rS ?_;refine dw.cls (m:=1) ⟨G,ae,aE.eraseIdx q,nS aL mv,false⟩ ?_;refine aC.cK aJ aj ⟨none,⟨G,ae,aE.eraseIdx q,nS aL mv,false⟩,I,rfl,(λk hk=>by cases hk),rfl,rfl,⟨Sub.refl _,⟨λm hm=>hJ.aE m ((ju ..).mem hm),OT hJ.aL Rb,hJ.sh⟩,rfl,rfl,?_,λv hv=>(hC v hv).mono az az⟩,rfl⟩;rw[FU,aK qw];rfl
 ·refine dN ?_;obtain⟨ht0,NW,CD,FN,hO⟩:=hD.tak qw;obtain⟨qh,Y2⟩:=gR ht0;have Fg:qh<ae.length:=by dsimp only at NW;omega
  have wT:(ae.map (·.h.bh))[qh]'(by omega)=ae[qh].h.bh:=by simp
  have Tf:qh<(ae.map (·.h.bh)).length:=az;have Y3:(ek ((ae.map (·.h.bh))[qh]'Tf))[0]? =some (aF ae[qh].h.bh):=by rw[wT];rfl
  rw[Y2];refine ky Fg Fo.au ?_;refine cU.opn (s:=ae[qh].s) (h:=λlg wt ot tm bv bl bp bd be bu tl ht=>?_);refine C.dx (cG 16 0 14++[(15,14)]) 15 [] 0 ?_;refine rR ?_;refine Dr.l (λhE h=>C.kJ rfl h (s:=hs) (l:=ae.map (·.h.bh)) (f:=ek) (j:=qh)) ?_;refine Dr.l (v:=aF ae[qh].h.bh) (λhE h=>C.nL rfl h (s:=hs) (l:=ae.map (·.h.bh)) (f:=ek) (j:=qh) (v:=aF ae[qh].h.bh) (hj:=Tf) (hv:=Y3)) ?_;refine Qu ?_;refine eQ ?_;refine C.xA (λuy=>?_) (λuy=>?_)
  ·refine C.go ?_;refine cU.cls ae[qh].s ?_;refine fQ Fg dB.au ?_;refine dw.cls (m:=1) ⟨G,ae,aE.eraseIdx q,aL,false⟩ ?_;have Z6:ae[mv.to.toNat]? =some ae[qh]:=by rw[Y2,g5];exact e9 Fg
   obtain⟨hV,hOut⟩:=hD.vot qw ae[qh] Z6 uy;have OU:=br Fg;have qO:=KT (bs:=ae[qh].h.bs) (b4:=b4) ⟨CD,FN⟩ (hJ.sh _ OU) (hS _ OU uy) (hC _ OU) Rb hO hV;have rk:=uL (c:=⟨G,ae,aE.eraseIdx q,aL,false⟩) (q:=qh) Fg (hr.same rfl rfl) rfl (C7 (List.length_eraseIdx_le ..) az) hOut qO;rw[<- Y2]at rk⊢;refine cW ?_;refine C.mf rfl ?_;refine aC.kK rk ?_;rintro v σ' aN ⟨rfl,I2,s2,jO,Kj,yW,VI,rfl⟩;refine rS ?_;have qR:=Rz (c:=⟨G,ae,aE,aL,false⟩) (Hp:=aE.eraseIdx q) (kw:=ae[qh].kw+1) (kr:=ae[qh].kr+1) Fg hJ hC (λm hm=>(ju ..).mem hm) jO Kj yW (VI.mono (o':=o+2^15) (a':=a+1) az az) az az;refine aC.cK aJ aj ⟨none,⟨G,ae.set qh {ae[qh]with s:={s2 with out:=[]},kw:=ae[qh].kw+1,kr:=ae[qh].kr+1},aE.eraseIdx q++s2.out,aL,false⟩,I2,rfl,(λk hk=>by cases hk),rfl,rfl,?_,rfl⟩;have hr2:fJ (CV.abs ⟨G,ae,aE,aL,false⟩) 2 q 0=(gO {CV.abs ⟨G,ae,aE,aL,false⟩with aE:=(aE.eraseIdx q).map (·.toMsgR)} qh (qi ae[qh].s.abs mv.toMsgR),0):=by rw[FU,ao qw,Z6];dsimp only;rw[aK uy,Y2];rfl
   rw[hr2];exact qR
  ·refine cW ?_;refine cU.cls ae[qh].s ?_;refine fQ Fg dB.au ?_;refine dw.cls (m:=1) ⟨G,ae,aE.eraseIdx q,aL,false⟩ ?_;have Z6:ae[mv.to.toNat]? =some ae[qh]:=by rw[Y2,g5];exact e9 Fg
   refine aC.cK aJ aj ⟨none,⟨G,ae,aE.eraseIdx q,aL,false⟩,I,rfl,(λk hk=>by cases hk),rfl,rfl,⟨Sub.refl _,⟨λm hm=>hJ.aE m ((ju ..).mem hm),hJ.aL,hJ.sh⟩,rfl,rfl,?_,λv hv=>(hC v hv).mono az az⟩,rfl⟩;rw[FU,ao qw,Z6];dsimp only;rw[ao (by simpa using uy)];rfl
end
section
open Go.Proofs Go.Conc
theorem IX{P:bL}{n:Nat}{e:Nat->Value}{t:Nat}{ty tt t2:aQ}{pos:String}{af:Array Edge}{gd:Option (Nat×Bool)}{x y:cA}{a b:ByteArray}(hx:ev n e x=.string a)(hy:ev n e y=.string b):fD P (execOp (ev n e) ⟨some t,.binOp .eql tt x y t2,ty,pos,af,gd⟩)=some (.value (.bool (a.toList==b.toList))):=by unfold execOp;simp only[hx,hy];refine bq (a:=.bool (a.toList==b.toList)) ?_ rfl;refine bq (a:=()) (by unfold eqGuard;rfl) ?_;show fD P (Op.stringOp .eql a b)=_;unfold Op.stringOp;rfl
def KV:ByteArray:=⟨#[84,105,99,107]⟩
structure RA(c:CV)(s:Int)(up tk:Bool)(g:dT->dT)(r:WP×Int):Prop where
 d6:s<0\/(c.ae.length:Int)<=s->r=(c.abs,6)
 dn:∀ (q:Nat) (hq:q<c.ae.length),s=q->(c.ae[q]).s.up≠up->r=(c.abs,if up then 7 else 8)
 d3:∀ (q:Nat) (hq:q<c.ae.length),s=q->(c.ae[q]).s.up=up->tk=true->150<c.aE.length->r=(c.abs,3)
 go:∀ (q:Nat) (hq:q<c.ae.length),s=q->(c.ae[q]).s.up=up->(tk=true->c.aE.length<=150)->r=(gO c.abs q (g (c.ae[q]).s.abs),0)
abbrev shA(b1 b2 b3 b4 b5 b:Nat)(s:Int)(up:Bool)(nm:ByteArray)(fv:Value)(A:List HP):List HP:=
 bR b1 (.cells #[aI s] 3 (0,0))::bR b2 (.cells #[aF b] 23 (0,0))::bR b3 (.cells #[.bool up] 4 (0,0))::bR b4 (.cells #[.string nm] 9 (0,0))::bR b5 (.cells #[fv] 187 (0,0))::A
theorem KW{σ:Gh}{c:CV}{b1 b2 b3 b4 b5:Nat}{s:Int}{tk:Bool}{nm:ByteArray}{I:HL}{eb:Nat->Nat×Nat}{o a:Int}{f:bI}{fu:Func}{code:Code}{nf:Nat}[bd:Body prog f fu code nf]{a1 caps:Array Value}{A:List HP}{g:dT->dT}{r:WP×Int}
  (hE:ig I eb) (hJ:q6 I c) (hb:KO c) (hC:mW o a c) (dJ:c.ai=false) (hr:rE σ c) (WJ:(nm.toList==KV.toList)=tk) (hg:RA c s true tk g r) (iW:∀ v∈c.ae,v.s.up=true->(g v.s.abs).out.length<2^30)
  (hf:∀ v∈c.ae,v.s.up=true->aD prog false bQ f (a1++[aF v.h.bs].toArray++caps) (cU v.h.bs v.s::a7 I::A) (gv v.h.bs I (o+2^15) (a+1) (g v.s.abs))):
  bC prog bP 176 (#[]++([]:List Value).toArray++#[aF b1,aF b2,aF b3,aF b4,aF b5]) σ (qD 1 c::a7 I::shA b1 b2 b3 b4 b5 c.G.b s true nm (.func (.func f) a1 caps) A)
   (MQ σ c eb (eg c I (o+2^15) (a+1) r)):=by
 refine bC.of ?_;intro Post os out kd F c' cs C aJ aj;refine bM ?_;obtain⟨G,ae,aE,aL,ai⟩:=c;obtain rfl:ai=false:=dJ;obtain⟨hn,mS,um,pz⟩:=hb;dsimp only at hn mS um pz iW hf;obtain⟨d6,dn,d3,WK⟩:=hg;dsimp only at d6 dn d3 WK;obtain⟨t2,Pk⟩:=hE.g 2 (by decide);obtain⟨t5,Y4⟩:=hE.g 5 (by decide);obtain⟨t6,hg6⟩:=hE.g 6 (by decide);refine dw.opn (m:=1) (h:=λhs bg tx=>?_);obtain⟨HB,Fh⟩:∃ HB,HB=ae.map (·.h.bh):=⟨_,rfl⟩;unfold Ws;dsimp only;rw[<- Fh];have Q7:HB.length=ae.length:=by rw[Fh];exact cV ..
 refine cW ?_;by_cases h8:s<0
 ·refine C.dx (cG 7 0 11++[(6,11)]) 12 [] 0 ?_;refine lS ?_;refine Dr.p (λh=>C.fe rfl h (hf:=h8)) ?_;refine JI ?_;refine Qr ?_;refine C.uQ Fo.au Y4 (gp _ _) rfl ?_;refine bJ ?_;subst Fh;refine dw.cls (m:=1) ⟨G,ae,aE,aL,false⟩ ?_;refine At.jB (show bZ _ (qD 1 ⟨G,ae,aE,aL,false⟩::a7 I::(A++F)) by exact bZ.au) ?_;refine At.jB (.cons .head (.cons .head (bZ.qK A))) ?_;refine aC.cK aJ aj ⟨some 5,⟨G,ae,aE,aL,false⟩,I,rfl,(λk hk=>by cases hk;decide),rfl,rfl,?_,rfl⟩;rw[d6 (.inl h8)];exact eg.same hJ hC rfl
 ·by_cases FP:s>=(HB.length:Int)
  ·refine C.dx (cG 7 0 11++[(6,11)]) 12 [] 0 ?_;refine lS ?_;refine Dr.p (λh=>C.dP rfl h (hf:=h8)) ?_;refine rR ?_;refine Dr.l (λhE h=>C.m3 rfl h (s:=hs) (l:=HB) (f:=ek)) ?_;refine Dr.p (λh=>C.fe rfl h (hf:=FP)) ?_;refine wm ?_;refine Qr ?_;refine C.uQ Fo.au Y4 (gp _ _) rfl ?_;refine bJ ?_;subst Fh;refine dw.cls (m:=1) ⟨G,ae,aE,aL,false⟩ ?_;refine At.jB (show bZ _ (qD 1 ⟨G,ae,aE,aL,false⟩::a7 I::(A++F)) by exact bZ.au) ?_;refine At.jB (.cons .head (.cons .head (bZ.qK A))) ?_;refine aC.cK aJ aj ⟨some 5,⟨G,ae,aE,aL,false⟩,I,rfl,(λk hk=>by cases hk;decide),rfl,rfl,?_,rfl⟩;rw[d6 (.inr az)];exact eg.same hJ hC rfl
  ·refine C.dx (cG 7 0 11++[(6,11)]) 12 [] 0 ?_;refine lS ?_;refine Dr.p (λh=>C.dP rfl h (hf:=h8)) ?_;refine rR ?_;refine Dr.l (λhE h=>C.m3 rfl h (s:=hs) (l:=HB) (f:=ek)) ?_;refine Dr.p (λh=>C.dP rfl h (hf:=FP)) ?_;refine wm ?_;refine ru ?_;obtain⟨q,rfl⟩:=gR (show 0<=s by omega);have hq:q<ae.length:=az;have Tf:q<HB.length:=az;have wT:HB[q]=ae[q].h.bh:=by subst Fh;simp
   have Y3:(ek (HB[q]'Tf))[0]? =some (aF ae[q].h.bh):=by rw[wT];rfl
   have OU:=br hq;refine ky hq Fo.au ?_;refine cU.opn (s:=ae[q].s) (h:=λlg wt ot tm bv bl bp bd be bu tl ht=>?_);refine C.dx (cG 20 0 17++[(19,17)]) 18 [] 0 ?_;refine lZ ?_;refine Dr.l (λhE h=>C.kJ rfl h (s:=hs) (l:=HB) (f:=ek) (j:=q)) ?_;refine Dr.l (v:=aF ae[q].h.bh) (λhE h=>C.nL rfl h (s:=hs) (l:=HB) (f:=ek) (j:=q) (v:=aF ae[q].h.bh) (hj:=Tf) (hv:=Y3)) ?_;refine XW ?_;refine eQ ?_;refine C.xA (λyS=>?_) (λyS=>?_)
   ·refine bJ ?_;refine C.uQ Fo.au hg6 (gp _ _) rfl ?_;refine bJ ?_;subst Fh;refine cU.cls ae[q].s ?_;refine fQ hq dB.au ?_;refine dw.cls (m:=1) ⟨G,ae,aE,aL,false⟩ ?_;refine At.jB (show bZ _ (qD 1 ⟨G,ae,aE,aL,false⟩::a7 I::(A++F)) by exact bZ.au) ?_;refine At.jB (.cons .head (.cons .head (bZ.qK A))) ?_;refine aC.cK aJ aj ⟨some 6,⟨G,ae,aE,aL,false⟩,I,rfl,(λk hk=>by cases hk;decide),rfl,rfl,?_,rfl⟩;rw[dn q hq rfl (by simpa using yS)];exact eg.same hJ hC rfl
   ·refine C.go ?_;refine C.dx (cG 39 0 17++[(38,17)]) 18 [] 0 ?_;refine gg ?_;refine CJ ?_;refine Dr.chain rfl ?_;refine Qs ?_;refine C.v0 (v:=.bool tk) rfl ?_ (by rw[<- WJ];exact IX rfl rfl);rcases g6 tk with rfl|rfl
    ·refine dH ?_;refine C.cmp rfl (λPw=>?_) (λPw=>?_)
     ·refine dD ?_;refine C.uQ Fo.au Pk (gp _ _) rfl ?_;refine bJ ?_;subst Fh;refine cU.cls ae[q].s ?_;refine fQ hq dB.au ?_;refine dw.cls (m:=1) ⟨G,ae,aE,aL,false⟩ ?_;refine At.jB (show bZ _ (qD 1 ⟨G,ae,aE,aL,false⟩::a7 I::(A++F)) by exact bZ.au) ?_;refine At.jB (.cons .head (.cons .head (bZ.qK A))) ?_;refine aC.cK aJ aj ⟨some 2,⟨G,ae,aE,aL,false⟩,I,rfl,(λk hk=>by cases hk;decide),rfl,rfl,?_,rfl⟩;have aca:(aE.length:Int)>150:=Pw;rw[d3 q hq rfl (by simpa using yS) rfl az];exact eg.same hJ hC rfl
     ·refine cW ?_;subst Fh;have Fi:ae[q].s.up=true:=by simpa using yS
      refine cU.cls ae[q].s ?_;refine fQ hq dB.au ?_;refine dw.cls (m:=1) ⟨G,ae,aE,aL,false⟩ ?_;have rk:=uL (c:=⟨G,ae,aE,aL,false⟩) (q:=q) hq hr rfl (dI) (iW _ OU Fi) (hf _ OU Fi);refine cW ?_;refine At.jB (show bZ _ (qD 1 ⟨G,ae,aE,aL,false⟩::a7 I::(A++F)) by exact bZ.au) ?_;refine aC.kK rk ?_ (hr:=.cons .head (.cons .head (dB.app A)));rintro v σ' aN ⟨rfl,I2,s2,jO,Kj,yW,VI,rfl⟩;refine rS ?_;have qR:=Rz (c:=⟨G,ae,aE,aL,false⟩) (Hp:=aE) (kw:=ae[q].kw+1) (kr:=ae[q].kr+1) hq hJ hC (λm hm=>hm) jO Kj yW VI az az;refine aC.cK aJ aj ⟨none,⟨G,ae.set q {ae[q]with s:={s2 with out:=[]},kw:=ae[q].kw+1,kr:=ae[q].kr+1},aE++s2.out,aL,false⟩,I2,rfl,(λk hk=>by cases hk),rfl,rfl,?_,rfl⟩;have aca:¬ (aE.length:Int)>150:=Pw;rw[WK q hq rfl (by simpa using yS) (λ_=>by omega)];exact qR
    ·refine m4 ?_;subst Fh;have Fi:ae[q].s.up=true:=by simpa using yS
     refine cU.cls ae[q].s ?_;refine fQ hq dB.au ?_;refine dw.cls (m:=1) ⟨G,ae,aE,aL,false⟩ ?_;have rk:=uL (c:=⟨G,ae,aE,aL,false⟩) (q:=q) hq hr rfl (dI) (iW _ OU Fi) (hf _ OU Fi);refine cW ?_;refine At.jB (show bZ _ (qD 1 ⟨G,ae,aE,aL,false⟩::a7 I::(A++F)) by exact bZ.au) ?_;refine aC.kK rk ?_ (hr:=.cons .head (.cons .head (dB.app A)));rintro v σ' aN ⟨rfl,I2,s2,jO,Kj,yW,VI,rfl⟩;refine rS ?_;have qR:=Rz (c:=⟨G,ae,aE,aL,false⟩) (Hp:=aE) (kw:=ae[q].kw+1) (kr:=ae[q].kr+1) hq hJ hC (λm hm=>hm) jO Kj yW VI az az;refine aC.cK aJ aj ⟨none,⟨G,ae.set q {ae[q]with s:={s2 with out:=[]},kw:=ae[q].kw+1,kr:=ae[q].kr+1},aE++s2.out,aL,false⟩,I2,rfl,(λk hk=>by cases hk),rfl,rfl,?_,rfl⟩;rw[WK q hq rfl (by simpa using yS) (λh=>by cases h)];exact qR
theorem KX{σ:Gh}{c:CV}{b1 b2 b3 b4 b5:Nat}{s:Int}{nm:ByteArray}{I:HL}{eb:Nat->Nat×Nat}{o a:Int}{f:bI}{fu:Func}{code:Code}{nf:Nat}[bd:Body prog f fu code nf]{a1 caps:Array Value}{A:List HP}{g:dT->dT}{r:WP×Int}
  (hE:ig I eb) (hJ:q6 I c) (hb:KO c) (hC:mW o a c) (dJ:c.ai=false) (hr:rE σ c) (WJ:(nm.toList==KV.toList)=false) (hg:RA c s false false g r) (iW:∀ v∈c.ae,v.s.up=false->(g v.s.abs).out.length<2^30)
  (hf:∀ v∈c.ae,v.s.up=false->aD prog false bQ f (a1++[aF v.h.bs].toArray++caps) (cU v.h.bs v.s::a7 I::A) (gv v.h.bs I (o+2^15) (a+1) (g v.s.abs))):
  bC prog bP 176 (#[]++([]:List Value).toArray++#[aF b1,aF b2,aF b3,aF b4,aF b5]) σ (qD 1 c::a7 I::shA b1 b2 b3 b4 b5 c.G.b s false nm (.func (.func f) a1 caps) A)
   (MQ σ c eb (eg c I (o+2^15) (a+1) r)):=by
 refine bC.of ?_;intro Post os out kd F c' cs C aJ aj;refine bM ?_;obtain⟨G,ae,aE,aL,ai⟩:=c;obtain rfl:ai=false:=dJ;obtain⟨hn,mS,um,pz⟩:=hb;dsimp only at hn mS um pz iW hf;obtain⟨d6,dn,d3,WK⟩:=hg;dsimp only at d6 dn d3 WK;obtain⟨t5,Y4⟩:=hE.g 5 (by decide);obtain⟨t7,hg7⟩:=hE.g 7 (by decide);refine dw.opn (m:=1) (h:=λhs bg tx=>?_);obtain⟨HB,Fh⟩:∃ HB,HB=ae.map (·.h.bh):=⟨_,rfl⟩;unfold Ws;dsimp only;rw[<- Fh];have Q7:HB.length=ae.length:=by rw[Fh];exact cV ..
 refine cW ?_;by_cases h8:s<0
 ·refine C.dx (cG 7 0 11++[(6,11)]) 12 [] 0 ?_;refine lS ?_;refine Dr.p (λh=>C.fe rfl h (hf:=h8)) ?_;refine JI ?_;refine Qr ?_;refine C.uQ Fo.au Y4 (gp _ _) rfl ?_;refine bJ ?_;subst Fh;refine dw.cls (m:=1) ⟨G,ae,aE,aL,false⟩ ?_;refine At.jB (show bZ _ (qD 1 ⟨G,ae,aE,aL,false⟩::a7 I::(A++F)) by exact bZ.au) ?_;refine At.jB (.cons .head (.cons .head (bZ.qK A))) ?_;refine aC.cK aJ aj ⟨some 5,⟨G,ae,aE,aL,false⟩,I,rfl,(λk hk=>by cases hk;decide),rfl,rfl,?_,rfl⟩;rw[d6 (.inl h8)];exact eg.same hJ hC rfl
 ·by_cases FP:s>=(HB.length:Int)
  ·refine C.dx (cG 7 0 11++[(6,11)]) 12 [] 0 ?_;refine lS ?_;refine Dr.p (λh=>C.dP rfl h (hf:=h8)) ?_;refine rR ?_;refine Dr.l (λhE h=>C.m3 rfl h (s:=hs) (l:=HB) (f:=ek)) ?_;refine Dr.p (λh=>C.fe rfl h (hf:=FP)) ?_;refine wm ?_;refine Qr ?_;refine C.uQ Fo.au Y4 (gp _ _) rfl ?_;refine bJ ?_;subst Fh;refine dw.cls (m:=1) ⟨G,ae,aE,aL,false⟩ ?_;refine At.jB (show bZ _ (qD 1 ⟨G,ae,aE,aL,false⟩::a7 I::(A++F)) by exact bZ.au) ?_;refine At.jB (.cons .head (.cons .head (bZ.qK A))) ?_;refine aC.cK aJ aj ⟨some 5,⟨G,ae,aE,aL,false⟩,I,rfl,(λk hk=>by cases hk;decide),rfl,rfl,?_,rfl⟩;rw[d6 (.inr az)];exact eg.same hJ hC rfl
  ·refine C.dx (cG 7 0 11++[(6,11)]) 12 [] 0 ?_;refine lS ?_;refine Dr.p (λh=>C.dP rfl h (hf:=h8)) ?_;refine rR ?_;refine Dr.l (λhE h=>C.m3 rfl h (s:=hs) (l:=HB) (f:=ek)) ?_;refine Dr.p (λh=>C.dP rfl h (hf:=FP)) ?_;refine wm ?_;refine ru ?_;refine C.dx (cG 20 0 17++[(19,17)]) 18 [] 0 ?_;refine gg ?_;refine CJ ?_;refine Dr.chain rfl ?_;refine ru ?_;obtain⟨q,rfl⟩:=gR (show 0<=s by omega);have hq:q<ae.length:=az;have Tf:q<HB.length:=az;have wT:HB[q]=ae[q].h.bh:=by subst Fh;simp
   have Y3:(ek (HB[q]'Tf))[0]? =some (aF ae[q].h.bh):=by rw[wT];rfl
   have OU:=br hq;refine ky hq Fo.au ?_;refine cU.opn (s:=ae[q].s) (h:=λlg wt ot tm bv bl bp bd be bu tl ht=>?_);refine C.dx (cG 39 0 17++[(38,17)]) 18 [] 0 ?_;refine CJ ?_;refine Dr.l (λhE h=>C.kJ rfl h (s:=hs) (l:=HB) (f:=ek) (j:=q)) ?_;refine Dr.l (v:=aF ae[q].h.bh) (λhE h=>C.nL rfl h (s:=hs) (l:=HB) (f:=ek) (j:=q) (v:=aF ae[q].h.bh) (hj:=Tf) (hv:=Y3)) ?_;refine Lq ?_;refine eQ ?_;refine C.xA (λtc=>?_) (λtc=>?_)
   ·refine bJ ?_;refine C.uQ Fo.au hg7 (gp _ _) rfl ?_;refine bJ ?_;subst Fh;refine cU.cls ae[q].s ?_;refine fQ hq dB.au ?_;refine dw.cls (m:=1) ⟨G,ae,aE,aL,false⟩ ?_;refine At.jB (show bZ _ (qD 1 ⟨G,ae,aE,aL,false⟩::a7 I::(A++F)) by exact bZ.au) ?_;refine At.jB (.cons .head (.cons .head (bZ.qK A))) ?_;refine aC.cK aJ aj ⟨some 7,⟨G,ae,aE,aL,false⟩,I,rfl,(λk hk=>by cases hk;decide),rfl,rfl,?_,rfl⟩;rw[dn q hq rfl (by simpa using tc)];exact eg.same hJ hC rfl
   ·refine dN ?_;refine C.v0 (v:=.bool false) rfl ?_ (by rw[<- WJ];exact IX rfl rfl);refine m4 ?_;subst Fh;have Fi:ae[q].s.up=false:=by simpa using tc
    refine cU.cls ae[q].s ?_;refine fQ hq dB.au ?_;refine dw.cls (m:=1) ⟨G,ae,aE,aL,false⟩ ?_;have rk:=uL (c:=⟨G,ae,aE,aL,false⟩) (q:=q) hq hr rfl (dI) (iW _ OU Fi) (hf _ OU Fi);refine cW ?_;refine At.jB (show bZ _ (qD 1 ⟨G,ae,aE,aL,false⟩::a7 I::(A++F)) by exact bZ.au) ?_;refine aC.kK rk ?_ (hr:=.cons .head (.cons .head (dB.app A)));rintro v σ' aN ⟨rfl,I2,s2,jO,Kj,yW,VI,rfl⟩;refine rS ?_;have qR:=Rz (c:=⟨G,ae,aE,aL,false⟩) (Hp:=aE) (kw:=ae[q].kw+1) (kr:=ae[q].kr+1) hq hJ hC (λm hm=>hm) jO Kj yW VI az az;refine aC.cK aJ aj ⟨none,⟨G,ae.set q {ae[q]with s:={s2 with out:=[]},kw:=ae[q].kw+1,kr:=ae[q].kr+1},aE++s2.out,aL,false⟩,I2,rfl,(λk hk=>by cases hk),rfl,rfl,?_,rfl⟩;rw[WK q hq rfl (by simpa using tc) (λh=>by cases h)];exact qR
theorem nB{σ:Gh}{c:CV}{s:Int}{up tk:Bool}{nm:ByteArray}{I:HL}{eb:Nat->Nat×Nat}{o a:Int}{f:bI}{fu:Func}{code:Code}{nf:Nat}[bd:Body prog f fu code nf]{a1 caps:Array Value}{A:List HP}{g:dT->dT}{r:WP×Int}
  (hE:ig I eb) (hJ:q6 I c) (hb:KO c) (hC:mW o a c) (hr:c.ai=false->rE σ c) (WJ:(nm.toList==KV.toList)=tk) (hut:up=false->tk=false) (hg:c.ai=false->RA c s up tk g r) (iW:∀ v∈c.ae,v.s.up=up->(g v.s.abs).out.length<2^30)
  (hf:∀ v∈c.ae,v.s.up=up->aD prog false bQ f (a1++[aF v.h.bs].toArray++caps) (cU v.h.bs v.s::a7 I::A) (gv v.h.bs I (o+2^15) (a+1) (g v.s.abs))):
  bC prog bP 140 #[aF c.G.b,.string nm,aI s,.bool up,.func (.func f) a1 caps] σ (dw c::a7 I::A) (CQ σ c I eb nm s (eg c I (o+2^15) (a+1) r)):=by
 refine bC.of ?_;intro Post os out kd F c' cs C aJ aj;refine jK ?_;refine C.bx rfl (λb1=>?_);refine C.bx rfl (λb2=>?_);refine C.bx rfl (λb3=>?_);refine C.bx rfl (λb4=>?_);refine C.bx rfl (λb5=>?_);refine dH ?_;refine C.mf rfl ?_;have h1:c.ai=false->bC prog bP 176 (#[]++([]:List Value).toArray++#[aF b3,aF b1,aF b4,aF b2,aF b5]) σ (qD 1 c::a7 I::shA b3 b1 b4 b2 b5 c.G.b s up nm (.func (.func f) a1 caps) A) (MQ σ c eb (eg c I (o+2^15) (a+1) r)):=by
  intro dJ;cases up with
  |true=>exact KW hE hJ hb hC dJ (hr dJ) WJ (hg dJ) iW hf
  |false=>obtain rfl:=hut rfl;exact KX hE hJ hb hC dJ (hr dJ) WJ (hg dJ) iW hf
 refine aC.kK (te (nm:=nm) (at_:=s) hE h1) ?_ (hr:=.cons Fo.au (.cons Fo.au (.cons Fo.au (.cons Fo.au (.cons Fo.au (.cons Fo.au (.cons Fo.au (dB.app A))))))));rintro v σ' aN ⟨er,c2,I2,L,h2,h3,rfl,rfl,h4⟩;refine jK ?_;exact aC.cK aJ aj ⟨er,c2,I2,L,h2,h3,rfl,rfl,h4⟩
variable{σ:Gh}{c:CV}{i:Int}{I:HL}{eb:Nat->Nat×Nat}{o a:Int}
theorem Fj(hE:ig I eb)(hJ:q6 I c)(hb:KO c)(hC:mW o a c):
  bC prog bP 81 #[aF c.G.b,aI i] σ [dw c,a7 I] (CQ σ c I eb agN i (eg c I (o+2^15) (a+1) (fJ c.abs 1 i 0))):=by
 refine bC.of ?_;intro Post os out kd F c' cs C aJ aj;refine jK ?_;refine C.bx rfl (λb2=>?_);refine C.bx rfl (λb3=>?_);refine dD ?_;refine C.mf rfl ?_;refine aC.kK (te (nm:=agN) (at_:=i) hE λdJ=>OM (σ:=σ) (b3:=b3) (b2:=b2) (t:=i) hE hJ hb hC dJ) ?_;rintro v σ' aN ⟨er,c2,I2,L,h2,h3,rfl,rfl,h4⟩;refine jK ?_;exact aC.cK aJ aj ⟨er,c2,I2,L,h2,h3,rfl,rfl,h4⟩
theorem OV{k:Int}(hk:2<=k/\k<=4)(hJ:q6 I c)(hC:mW o a c)(dJ:c.ai=false)(h:i<0\/(c.aE.length:Int)<=i):eg c I (o+2^15) (a+1) (fJ c.abs k i 0) (some 4) c I:=by rw[Co (by exact dJ) hk,Ry (by rw[CV.fA];exact h)];exact eg.same hJ hC rfl
theorem Hq(hE:ig I eb)(hJ:q6 I c)(hb:KO c)(hC:mW o a c):
  bC prog bP 83 #[aF c.G.b,aI i] σ [dw c,a7 I] (CQ σ c I eb VE i (eg c I (o+2^15) (a+1) (fJ c.abs 3 i 0))):=by
 refine bC.of ?_;intro Post os out kd F c' cs C aJ aj;refine jK ?_;refine C.bx rfl (λb2=>?_);refine C.bx rfl (λb3=>?_);refine dD ?_;refine C.mf rfl ?_;refine aC.kK (oZ (nm:=VE) (i:=i) (Q:=eg c I (o+2^15) (a+1) (fJ c.abs 3 i 0)) (A:=[bR b2 (.cells #[aF c.G.b] 23 (0,0)),bR b3 (.cells #[aI i] 3 (0,0))]) hE hb.aE (λh0 hl dJ=>?_) (λdJ h=>OV az hJ hC dJ h)) ?_
 ·obtain⟨q,rfl⟩:=gR h0;exact KP hJ hb hC dJ (by simpa using hl)
 rintro v σ' aN ⟨er,c2,I2,L,h2,h3,rfl,rfl,h4⟩;refine jK ?_;exact aC.cK aJ aj ⟨er,c2,I2,L,h2,h3,rfl,rfl,h4⟩
theorem zM(hE:ig I eb)(hJ:q6 I c)(hb:KO c)(hC:mW o a c)(hr:c.ai=false->rE σ c)(hD:∀ (q:Nat) (hq:q<c.aE.length),i=q->IW c c.aE[q])(hS:∀ v∈c.ae,v.s.up=true->pI v.s):
  bC prog bP 82 #[aF c.G.b,aI i] σ [dw c,a7 I] (CQ σ c I eb VF i (eg c I (o+2^15) (a+1) (fJ c.abs 2 i 0))):=by
 refine bC.of ?_;intro Post os out kd F c' cs C aJ aj;refine jK ?_;refine C.bx rfl (λb2=>?_);refine C.bx rfl (λb3=>?_);refine dD ?_;refine C.mf rfl ?_;refine aC.kK (oZ (nm:=VF) (i:=i) (Q:=eg c I (o+2^15) (a+1) (fJ c.abs 2 i 0)) (A:=[bR b2 (.cells #[aF c.G.b] 23 (0,0)),bR b3 (.cells #[aI i] 3 (0,0))]) hE hb.aE (λh0 hl dJ=>?_) (λdJ h=>OV az hJ hC dJ h)) ?_
 ·obtain⟨q,rfl⟩:=gR h0;exact KU hJ hb hC dJ (by simpa using hl) (hr dJ) (hD q (by simpa using hl) rfl) hS
 rintro v σ' aN ⟨er,c2,I2,L,h2,h3,rfl,rfl,h4⟩;refine jK ?_;exact aC.cK aJ aj ⟨er,c2,I2,L,h2,h3,rfl,rfl,h4⟩
theorem Hr(hE:ig I eb)(hJ:q6 I c)(hb:KO c)(hC:mW o a c):
  bC prog bP 84 #[aF c.G.b,aI i] σ [dw c,a7 I] (CQ σ c I eb VG i (eg c I (o+2^15) (a+1) (fJ c.abs 4 i 0))):=by
 refine bC.of ?_;intro Post os out kd F c' cs C aJ aj;refine jK ?_;refine C.bx rfl (λb2=>?_);refine dD ?_;refine C.mf rfl ?_;refine aC.kK (oZ (nm:=VG) (i:=i) (Q:=eg c I (o+2^15) (a+1) (fJ c.abs 4 i 0)) (A:=[bR b2 (.cells #[aF c.G.b] 23 (0,0))]) hE hb.aE (λh0 hl dJ=>?_) (λdJ h=>OV az hJ hC dJ h)) ?_
 ·obtain⟨q,rfl⟩:=gR h0;exact KR hE hJ hb hC dJ (by simpa using hl)
 rintro v σ' aN ⟨er,c2,I2,L,h2,h3,rfl,rfl,h4⟩;refine jK ?_;exact aC.cK aJ aj ⟨er,c2,I2,L,h2,h3,rfl,rfl,h4⟩
def VJ:ByteArray:=⟨#[83,121,110,99]⟩
def VK:ByteArray:=⟨#[67,114,97,115,104]⟩
def VL:ByteArray:=⟨#[82,101,115,116,97,114,116]⟩
theorem RB{c:CV}{k s b:Int}{up tk:Bool}{g:dT->dT}(dJ:c.ai=false)(hk:5<=k/\k<=8)(hu:up=decide (k≠8))(ht:tk=decide (k=6))(hg:∀ z,g z=if k=8 then j9 z else if k=5 then rP z else if k=6 then oi z else mI z b):RA c s up tk g (fJ c.abs k s b):=by
 have h0:fJ c.abs k s b=if s<0\/(c.abs.sh.length:Int)<=s then(c.abs,(6:Int))else match c.abs.sh[s.toNat]? with
  |none=>(c.abs,(6:Int))
  |some z=>if k=8 then(if z.up then(c.abs,(8:Int))else(gO c.abs s.toNat (j9 z),(0:Int)))else if !z.up then(c.abs,(7:Int))else if k=5 then(gO c.abs s.toNat (rP z),(0:Int))else if k=6 then(if 150<c.abs.aE.length then(c.abs,(3:Int))else(gO c.abs s.toNat (oi z),(0:Int)))else(gO c.abs s.toNat (mI z b),(0:Int)):=by
  unfold fJ;rw[ao az,ao (by show¬ c.ai=true;rw[dJ];decide),ao az,ao az];rfl
 have hq:∀ (q:Nat) (hq:q<c.ae.length),s=q->fJ c.abs k s b=if k=8 then(if(c.ae[q]).s.up then(c.abs,(8:Int))else(gO c.abs q (j9 (c.ae[q]).s.abs),(0:Int)))else if !(c.ae[q]).s.up then(c.abs,(7:Int))else if k=5 then(gO c.abs q (rP (c.ae[q]).s.abs),(0:Int))else if k=6 then(if 150<c.aE.length then(c.abs,(3:Int))else(gO c.abs q (oi (c.ae[q]).s.abs),(0:Int)))else(gO c.abs q (mI (c.ae[q]).s.abs b),(0:Int)):=by
  rintro q hq rfl;rw[h0,ao (by rw[CV.mU];omega),g5];have:c.abs.sh[q]? =some (c.ae[q]).s.abs:=by simp[CV.abs,hq]
  rw[this,CV.fA];rfl
 refine⟨λh=>?_,λq CB e eI=>?_,λq CB e ed CN hb=>?_,λq CB e ed hb=>?_⟩
 ·rw[h0,aK (by rw[CV.mU];exact h)]
 ·rw[hq q CB e];by_cases h8:k=8
  ·subst h8;rw[aK rfl];have hu:up=false:=by simpa using hu
   rw[hu]at eI⊢;rw[aK (by simpa using eI)];rfl
  ·have hu:up=true:=by simpa[h8]using hu
   rw[hu]at eI⊢;rw[ao h8,aK (by simpa using eI)];rfl
 ·have h6:k=6:=by rw[CN]at ht;simpa using ht.symm
  subst h6;have hu:up=true:=by simpa using hu
  rw[hq q CB e,ao az,ed,hu,ao (by decide),ao az,aK rfl,aK hb]
 ·rw[hq q CB e,hg,ed];by_cases h8:k=8
  ·subst h8;have hu:up=false:=by simpa using hu
   rw[hu,aK rfl,ao (by decide),aK rfl]
  ·have hu:up=true:=by simpa[h8]using hu
   rw[hu,ao h8,ao (by decide),ao h8];by_cases h5:k=5
   ·rw[aK h5,aK h5]
   ·rw[ao h5,ao h5];by_cases h6:k=6
    ·subst h6;rw[aK rfl,aK rfl,ao (by have:=hb (by simpa using ht);omega)]
    ·rw[ao h6,ao h6]
end
section
open Go.Proofs Go.Conc
theorem gv.mono{b:Nat}{I:HL}{o a o' a':Int}{r:dT}{v:Value}{As:List HP}(h:gv b I o a r v As)(ho:o<=o')(ha:a<=a'):gv b I o' a' r v As:=by obtain⟨I1,s1,h1,h2,h3,h4,h5⟩:=h;exact⟨I1,s1,h1,h2,h3,h4.mono ho ha,h5⟩
def yX:Prop:=∀ {I:HL} {b:Nat} {s:dE} {o a:Int},ShJ I s->s.log.length<2^15->(∀ tx home ops so,jg.eZ tx home ops so∈s.log->jf ops)->wx o a s->
 aD prog false bQ 145 #[aF b] [cU b s,a7 I] (gv b I (o+2^15) (a+1) (j9 s.abs))
structure KY(c:CV)(k i b:Int):Prop where
 cb:KO c
 s:k=2\/5<=k->∀ v∈c.ae,v.s.up=true->pI v.s
 d:k=2->∀ (q:Nat) (hq:q<c.aE.length),i=q->IW c c.aE[q]
 o:∀ v∈c.ae,(k=5->v.s.up=true->(rP v.s.abs).out.length<2^30)/\(k=6->v.s.up=true->(oi v.s.abs).out.length<2^30)/\(k=7->v.s.up=true->(mI v.s.abs b).out.length<2^30)/\(k=8->v.s.up=false->(j9 v.s.abs).out.length<2^30)
 r:k=8->yX/\∀ v∈c.ae,v.s.log.length<2^15/\∀ tx home ops so,jg.eZ tx home ops so∈v.s.log->jf ops
section
variable{σ:Gh}{c:CV}{i b:Int}{I:HL}{eb:Nat->Nat×Nat}{o a:Int}
theorem Hs(hE:ig I eb)(hJ:q6 I c)(hC:mW o a c)(hr:c.ai=false->rE σ c)(hO:KY c 5 i b):
  bC prog bP 85 #[aF c.G.b,aI i] σ [dw c,a7 I] (CQ σ c I eb VJ i (eg c I (o+2^15) (a+1) (fJ c.abs 5 i b))):=by
 refine bC.of ?_;intro Post os out kd F c' cs C aJ aj;refine Lp ?_;refine aC.kK (nB (f:=141) (nm:=VJ) (s:=i) (up:=true) (tk:=false) (a1:=#[]) (caps:=#[]) (A:=[]) (g:=rP) hE hJ hO.cb hC hr (by decide+kernel) (λ_=>rfl) (λdJ=>RB (k:=5) (b:=b) dJ az (by decide) (by decide) (λz=>by rw[ao az,aK rfl])) (λv hv hu=>(hO.o v hv).1 rfl hu)
  (λv hv hu=>(G1 (hJ.sh v hv) (hO.s az v hv hu) (hC v hv)).post λ_ _ q=>q.mono az az)) ?_
 rintro v σ' aN ⟨er,c2,I2,L,h2,h3,rfl,rfl,h4⟩;refine jK ?_;exact aC.cK aJ aj ⟨er,c2,I2,L,h2,h3,rfl,rfl,h4⟩
theorem Ht(hE:ig I eb)(hJ:q6 I c)(hC:mW o a c)(hr:c.ai=false->rE σ c)(hO:KY c 6 i b):
  bC prog bP 86 #[aF c.G.b,aI i] σ [dw c,a7 I] (CQ σ c I eb KV i (eg c I (o+2^15) (a+1) (fJ c.abs 6 i b))):=by
 refine bC.of ?_;intro Post os out kd F c' cs C aJ aj;refine Lp ?_;refine aC.kK (nB (f:=142) (nm:=KV) (s:=i) (up:=true) (tk:=true) (a1:=#[]) (caps:=#[]) (A:=[]) (g:=oi) hE hJ hO.cb hC hr (by decide+kernel) (λh=>by cases h) (λdJ=>RB (k:=6) (b:=b) dJ az (by decide) (by decide) (λz=>by rw[ao az,ao az,aK rfl])) (λv hv hu=>(hO.o v hv).2.1 rfl hu)
  (λv hv hu=>G0 (hJ.sh v hv) (hO.s az v hv hu) (hC v hv))) ?_
 rintro v σ' aN ⟨er,c2,I2,L,h2,h3,rfl,rfl,h4⟩;refine jK ?_;exact aC.cK aJ aj ⟨er,c2,I2,L,h2,h3,rfl,rfl,h4⟩
theorem Fp{bs b5:Nat}{s:dE}{keep:Int}(hJ:ShJ I s)(hb:pI s)(hC:wx o a s):aD prog false bQ 143 (#[]++[aF bs].toArray++#[aF b5]) (cU bs s::a7 I::[bR b5 (.cells #[aI keep] 3 (0,0))]) (gv bs I (o+2^15) (a+1) (mI s.abs keep)):=by refine aD.of λR C kd d F c cs aJ aj=>?_;refine rS ?_;refine C.dv (EO hJ hb hC) ?_;rintro v aN ⟨I1,s',fp,pX,ku,Kf,rfl⟩;refine k6 ?_;exact C.cX aJ aj ⟨I1,s',fp,pX,ku,Kf.mono az az,rfl⟩
theorem Fq(hE:ig I eb)(hJ:q6 I c)(hC:mW o a c)(hr:c.ai=false->rE σ c)(hO:KY c 7 i b):
  bC prog bP 87 #[aF c.G.b,aI i,aI b] σ [dw c,a7 I] (CQ σ c I eb VK i (eg c I (o+2^15) (a+1) (fJ c.abs 7 i b))):=by
 refine bC.of ?_;intro Post os out kd F c' cs C aJ aj;refine jK ?_;refine C.bx rfl (λb5=>?_);refine dD ?_;refine C.mf rfl ?_;refine aC.kK (nB (f:=143) (nm:=VK) (s:=i) (up:=true) (tk:=false) (a1:=#[]) (caps:=#[aF b5]) (A:=[bR b5 (.cells #[aI b] 3 (0,0))]) (g:=λz=>mI z b) hE hJ hO.cb hC hr (by decide+kernel) (λ_=>rfl) (λdJ=>RB (k:=7) (b:=b) dJ az (by decide) (by decide) (λz=>by rw[ao az,ao az,ao az])) (λv hv hu=>(hO.o v hv).2.2.1 rfl hu)
  (λv hv hu=>Fp (hJ.sh v hv) (hO.s az v hv hu) (hC v hv))) ?_
 rintro v σ' aN ⟨er,c2,I2,L,h2,h3,rfl,rfl,h4⟩;refine jK ?_;exact aC.cK aJ aj ⟨er,c2,I2,L,h2,h3,rfl,rfl,h4⟩
theorem zN(hE:ig I eb)(hJ:q6 I c)(hC:mW o a c)(hr:c.ai=false->rE σ c)(hO:KY c 8 i b):
  bC prog bP 88 #[aF c.G.b,aI i] σ [dw c,a7 I] (CQ σ c I eb VL i (eg c I (o+2^15) (a+1) (fJ c.abs 8 i b))):=by
 refine bC.of ?_;intro Post os out kd F c' cs C aJ aj;refine Lp ?_;refine aC.kK (nB (f:=145) (nm:=VL) (s:=i) (up:=false) (tk:=false) (a1:=#[]) (caps:=#[]) (A:=[]) (g:=j9) hE hJ hO.cb hC hr (by decide+kernel) (λ_=>rfl) (λdJ=>RB (k:=8) (b:=b) dJ az (by decide) (by decide) (λz=>by rw[aK rfl])) (λv hv hu=>(hO.o v hv).2.2.2 rfl hu)
  (λv hv _=>(hO.r rfl).1 (hJ.sh v hv) ((hO.r rfl).2 v hv).1 ((hO.r rfl).2 v hv).2 (hC v hv))) ?_
 rintro v σ' aN ⟨er,c2,I2,L,h2,h3,rfl,rfl,h4⟩;refine jK ?_;exact aC.cK aJ aj ⟨er,c2,I2,L,h2,h3,rfl,rfl,h4⟩
end
end
section
open Go.Proofs Go.Conc
theorem RD{w:WP}{k i b:Int}(hk:k<=4):fJ w k i b=fJ w k i 0:=by unfold fJ;rw[aK hk,aK hk]
theorem RE{w:WP}{k i b:Int}(hk:1<=k/\k<=8)(hs:w.ai=true):fJ w k i b=(w,9):=by unfold fJ;rw[ao az,aK hs]
theorem RF{w:WP}{k i b:Int}(hk:k<1\/8<k):fJ w k i b=(w,0):=by unfold fJ;rw[aK hk]
theorem nC{c c':CV}{I I':HL}{o a:Int}{er:Option Nat}{k i b:Int}(hk:1<=k/\k<=8)(hJ:q6 I c)(hC:mW o a c)(h:(c.ai=true/\er=some 8/\c'=c/\I'=I)\/(c.ai=false/\eg c I (o+2^15) (a+1) (fJ c.abs k i b) er c' I')):eg c I (o+2^15) (a+1) (fJ c.abs k i b) er c' I':=by
 rcases h with⟨hs,rfl,rfl,rfl⟩|⟨_,h⟩
 ·rw[RE hk (by exact hs)];exact eg.same hJ hC rfl
 ·exact h
theorem OW{σ:Gh}{c:CV}{k i b:Int}{I:HL}{eb:Nat->Nat×Nat}{o a:Int}(hE:ig I eb)(hJ:q6 I c)(hC:mW o a c)(hr:c.ai=false->rE σ c)(hO:KY c k i b):
  bC prog bP 42 #[aF c.G.b,aI k,aI i,aI b] σ [dw c,a7 I] (λv σ' As=>∃ er c' I',σ'=σ/\v=aI (wA er)/\eg c I (o+2^15) (a+1) (fJ c.abs k i b) er c' I'/\As=[dw c',a7 I']):=by
 refine bC.of ?_;intro Post os out kd F c' cs C aJ aj;refine JH ?_;refine C.cmp rfl (λqw=>?_) (λqw=>?_)
 ·refine dN ?_;obtain rfl:k=1:=qw;refine dN ?_;refine aC.kK (Fj hE hJ hO.cb hC) ?_;rintro v σ' aN ⟨er,c2,I2,L,nK,Fe,rfl,rfl,h4⟩;rw[RD (b:=b) az]at aj;have hS:=nC az hJ hC h4;have Hu:=hE.mono hS.sub;cases er
  ·refine fI ?_;obtain⟨rfl,rfl⟩:=nK;refine bM ?_;refine C.cE (aD.less (cy _) fL) (A:=[]) ?_;refine zB ?_;refine bJ ?_;exact aC.cK aJ aj ⟨none,c2,I2,rfl,rfl,hS,rfl⟩
  ·refine fI ?_;rename_i kk;obtain⟨bE,rfl,rfl⟩:=nK;refine bM ?_;refine C.cE (gI Hu (bE:=bE) (k:=kk) (nm:=agN) (at_:=i) (Fe kk rfl)) ?_;refine jK ?_;exact aC.cK aJ aj ⟨some kk,c2,I2,rfl,rfl,hS,rfl⟩
 ·refine cW ?_;refine C.cmp rfl (λWx=>?_) (λWx=>?_)
  ·refine dN ?_;obtain rfl:k=2:=Wx;refine dN ?_;refine aC.kK (zM hE hJ hO.cb hC hr (hO.d rfl) (hO.s az)) ?_;rintro v σ' aN ⟨er,c2,I2,L,nK,Fe,rfl,rfl,h4⟩;rw[RD (b:=b) az]at aj;have hS:=nC az hJ hC h4;have Hu:=hE.mono hS.sub;cases er
   ·refine fI ?_;obtain⟨rfl,rfl⟩:=nK;refine bM ?_;refine C.cE (aD.less (cy _) fL) (A:=[]) ?_;refine zB ?_;refine bJ ?_;exact aC.cK aJ aj ⟨none,c2,I2,rfl,rfl,hS,rfl⟩
   ·refine fI ?_;rename_i kk;obtain⟨bE,rfl,rfl⟩:=nK;refine bM ?_;refine C.cE (gI Hu (bE:=bE) (k:=kk) (nm:=VF) (at_:=i) (Fe kk rfl)) ?_;refine jK ?_;exact aC.cK aJ aj ⟨some kk,c2,I2,rfl,rfl,hS,rfl⟩
  ·refine cW ?_;refine C.cmp rfl (λzd=>?_) (λzd=>?_)
   ·refine dN ?_;obtain rfl:k=3:=zd;refine dN ?_;refine aC.kK (Hq hE hJ hO.cb hC) ?_;rintro v σ' aN ⟨er,c2,I2,L,nK,Fe,rfl,rfl,h4⟩;rw[RD (b:=b) az]at aj;have hS:=nC az hJ hC h4;have Hu:=hE.mono hS.sub;cases er
    ·refine fI ?_;obtain⟨rfl,rfl⟩:=nK;refine bM ?_;refine C.cE (aD.less (cy _) fL) (A:=[]) ?_;refine zB ?_;refine bJ ?_;exact aC.cK aJ aj ⟨none,c2,I2,rfl,rfl,hS,rfl⟩
    ·refine fI ?_;rename_i kk;obtain⟨bE,rfl,rfl⟩:=nK;refine bM ?_;refine C.cE (gI Hu (bE:=bE) (k:=kk) (nm:=VE) (at_:=i) (Fe kk rfl)) ?_;refine jK ?_;exact aC.cK aJ aj ⟨some kk,c2,I2,rfl,rfl,hS,rfl⟩
   ·refine cW ?_;refine C.cmp rfl (λPy=>?_) (λPy=>?_)
    ·refine dN ?_;obtain rfl:k=4:=Py;refine dN ?_;refine aC.kK (Hr hE hJ hO.cb hC) ?_;rintro v σ' aN ⟨er,c2,I2,L,nK,Fe,rfl,rfl,h4⟩;rw[RD (b:=b) az]at aj;have hS:=nC az hJ hC h4;have Hu:=hE.mono hS.sub;cases er
     ·refine fI ?_;obtain⟨rfl,rfl⟩:=nK;refine bM ?_;refine C.cE (aD.less (cy _) fL) (A:=[]) ?_;refine zB ?_;refine bJ ?_;exact aC.cK aJ aj ⟨none,c2,I2,rfl,rfl,hS,rfl⟩
     ·refine fI ?_;rename_i kk;obtain⟨bE,rfl,rfl⟩:=nK;refine bM ?_;refine C.cE (gI Hu (bE:=bE) (k:=kk) (nm:=VG) (at_:=i) (Fe kk rfl)) ?_;refine jK ?_;exact aC.cK aJ aj ⟨some kk,c2,I2,rfl,rfl,hS,rfl⟩
    ·refine cW ?_;refine C.cmp rfl (λLs=>?_) (λLs=>?_)
     ·refine dN ?_;obtain rfl:k=5:=Ls;refine dN ?_;refine aC.kK (Hs hE hJ hC hr hO) ?_;rintro v σ' aN ⟨er,c2,I2,L,nK,Fe,rfl,rfl,h4⟩;have hS:=nC az hJ hC h4;have Hu:=hE.mono hS.sub;cases er
      ·refine fI ?_;obtain⟨rfl,rfl⟩:=nK;refine bM ?_;refine C.cE (aD.less (cy _) fL) (A:=[]) ?_;refine zB ?_;refine bJ ?_;exact aC.cK aJ aj ⟨none,c2,I2,rfl,rfl,hS,rfl⟩
      ·refine fI ?_;rename_i kk;obtain⟨bE,rfl,rfl⟩:=nK;refine bM ?_;refine C.cE (gI Hu (bE:=bE) (k:=kk) (nm:=VJ) (at_:=i) (Fe kk rfl)) ?_;refine jK ?_;exact aC.cK aJ aj ⟨some kk,c2,I2,rfl,rfl,hS,rfl⟩
     ·refine cW ?_;refine C.cmp rfl (λWy=>?_) (λWy=>?_)
      ·refine dN ?_;obtain rfl:k=6:=Wy;refine dN ?_;refine aC.kK (Ht hE hJ hC hr hO) ?_;rintro v σ' aN ⟨er,c2,I2,L,nK,Fe,rfl,rfl,h4⟩;have hS:=nC az hJ hC h4;have Hu:=hE.mono hS.sub;cases er
       ·refine fI ?_;obtain⟨rfl,rfl⟩:=nK;refine bM ?_;refine C.cE (aD.less (cy _) fL) (A:=[]) ?_;refine zB ?_;refine bJ ?_;exact aC.cK aJ aj ⟨none,c2,I2,rfl,rfl,hS,rfl⟩
       ·refine fI ?_;rename_i kk;obtain⟨bE,rfl,rfl⟩:=nK;refine bM ?_;refine C.cE (gI Hu (bE:=bE) (k:=kk) (nm:=KV) (at_:=i) (Fe kk rfl)) ?_;refine jK ?_;exact aC.cK aJ aj ⟨some kk,c2,I2,rfl,rfl,hS,rfl⟩
      ·refine cW ?_;refine C.cmp rfl (λh53=>?_) (λh53=>?_)
       ·refine dN ?_;obtain rfl:k=7:=h53;refine cW ?_;refine aC.kK (Fq hE hJ hC hr hO) ?_;rintro v σ' aN ⟨er,c2,I2,L,nK,Fe,rfl,rfl,h4⟩;have hS:=nC az hJ hC h4;have Hu:=hE.mono hS.sub;cases er
        ·refine fI ?_;obtain⟨rfl,rfl⟩:=nK;refine bM ?_;refine C.cE (aD.less (cy _) fL) (A:=[]) ?_;refine zB ?_;refine bJ ?_;exact aC.cK aJ aj ⟨none,c2,I2,rfl,rfl,hS,rfl⟩
        ·refine fI ?_;rename_i kk;obtain⟨bE,rfl,rfl⟩:=nK;refine bM ?_;refine C.cE (gI Hu (bE:=bE) (k:=kk) (nm:=VK) (at_:=i) (Fe kk rfl)) ?_;refine jK ?_;exact aC.cK aJ aj ⟨some kk,c2,I2,rfl,rfl,hS,rfl⟩
       ·refine cW ?_;refine C.cmp rfl (λEG=>?_) (λEG=>?_)
        ·refine dN ?_;obtain rfl:k=8:=EG;refine dN ?_;refine aC.kK (zN hE hJ hC hr hO) ?_;rintro v σ' aN ⟨er,c2,I2,L,nK,Fe,rfl,rfl,h4⟩;have hS:=nC az hJ hC h4;have Hu:=hE.mono hS.sub;cases er
         ·refine fI ?_;obtain⟨rfl,rfl⟩:=nK;refine bM ?_;refine C.cE (aD.less (cy _) fL) (A:=[]) ?_;refine zB ?_;refine bJ ?_;exact aC.cK aJ aj ⟨none,c2,I2,rfl,rfl,hS,rfl⟩
         ·refine fI ?_;rename_i kk;obtain⟨bE,rfl,rfl⟩:=nK;refine bM ?_;refine C.cE (gI Hu (bE:=bE) (k:=kk) (nm:=VL) (at_:=i) (Fe kk rfl)) ?_;refine jK ?_;exact aC.cK aJ aj ⟨some kk,c2,I2,rfl,rfl,hS,rfl⟩
        ·refine dH ?_;have hd:=RF (w:=c.abs) (k:=k) (i:=i) (b:=b) az;exact aC.cK aJ aj ⟨none,c,I,rfl,rfl,by rw[hd];exact eg.same hJ hC rfl,rfl⟩
variable{t:Nat}{W:WP}{w:WR}
theorem iV.shb(I:iV t w)(H:gk W w)(ht:t<=2^41){s:ShR}(hs:s∈w.sh)(c:Int)(hc:s.clock<=c/\c<=s.clock+1):Ou {s with clock:=c}:=by
 obtain⟨z,g1,g2,h4,h5⟩:=I.size H hs;have hn:=H.n;have Ci:=z.clock;have ks:=z.log;have tX:=z.aH;have Gz:=z.under;have Po:=z.timers;have BU:=z.waits;exact⟨by show 0<s.n/\s.n<=4;omega,by show s.log.length<_;omega,λr hr=>⟨(z.sO r hr).1,by have:=(z.sO r hr).2;omega⟩,⟨g1,g2⟩,z.bD,by show s.aH.length<_;omega,by show s.under.length<_;omega,λu hu=>by obtain⟨a1,a2,a3⟩:=z.cg u hu;exact⟨⟨λo ho=>⟨(a3.1 o ho).1,(a3.1 o ho).2.1⟩,by have:=a3.2.2.2;omega⟩,az,az⟩,by show s.timers.length<_;omega,by show s.waits.length<_;omega,by show s.out.length<_;rw[h5];decide,by show 0<=c/\c<_;omega⟩
theorem iV.wbr(I:iV t w)(H:gk W w)(ht:t<=2^41):WBR w:=by
 refine⟨H.n,λs hs=>(I.size H hs).2.2.2.1,λs hs=>⟨?_,?_,?_,?_⟩,?_,λm hm=>⟨⟨(H.NH hm).1,?_⟩,H.mto hm⟩,H.Uv,λx hx=>⟨⟨(H.GC hx).1,?_⟩,(H.GC hx).2.2⟩⟩
 ·exact I.shb H ht hs s.clock ⟨rG _,az⟩
 ·have:=(I.size H hs).1.log;omega
 ·exact I.shb H ht hs (s.clock+1) ⟨az,rG _⟩
 ·have h5:=(I.size H hs).2.2.2.2;have h6:=(I.size H hs).1.timers;have h7:rm {s with clock:=s.clock+1}<=s.timers.length:=m8 _ _;show s.out.length+5*rm {s with clock:=s.clock+1}<_;rw[show s.out.length=0 by rw[h5];rfl];omega
 ·have:=I.aE;omega
 ·have:=(H.NH hm).2;omega
 ·have:=(H.GC hx).2.1;omega
theorem iV.rU(I:iV t w)(H:gk W w):∀ s∈w.sh,∀ m∈w.aE,(jl s m).out.length<2^30:=λs hs m hm=>by have:=I.take H hs hm;omega
theorem A9{A B:Type}{f:A->B}:∀ {l:List A},(l.map f).Nodup->∀ {a b:A},a∈l->b∈l->f a=f b->a=b
 |[],_,_,_,h,_,_=>by cases h
 |x::l,h,a,b,ha,hb,e=>by
  have nd:=rh.1 (show(f x::l.map f).Nodup from h);rcases ga.1 ha with rfl|HO<;>rcases ga.1 hb with rfl|nI
  ·rfl
  ·exact(nd.1 (bH.2 ⟨b,nI,e.symm⟩)).elim
  ·exact(nd.1 (bH.2 ⟨a,HO,e⟩)).elim
  ·exact A9 nd.2 HO nI e
theorem KZ{V:Type}{l m:List (Int×V)}(hl:(l.map (·.1)).Nodup)(hm:(m.map (·.1)).Nodup)(h:∀ p,p∈l↔p∈m)(k:Int):aB l k=aB m k:=by
 cases e:aB m k with
 |some v=>exact ew hl ((h _).2 (bT e))
 |none=>
  cases e2:aB l k with
  |none=>rfl
  |some v=>
   have:=ew hm ((h _).1 (bT e2));rw[e]at this;cases this
theorem KL.VM{E:List aY}{P:dT}{L:List gn}{V:List Int}(H:KL E P L V)(hz:∀ x∈V,Lx x):Ru P.values V:=by
 refine⟨H.zy,hz,λl' lR hp=>?_⟩;have hm:∀ p,p∈l'↔p∈P.values/\p.2≠0:=λp=>by rw[hp.mem_iff,gP];simp
 have hg:∀ x,(aB l' x).getD 0=(aB P.values x).getD 0:=λx=>by
  cases e:aB l' x with
  |some w=>
   have:=(hm _).1 (bT e);rw[ew H.vn this.1]
  |none=>
   cases e2:aB P.values x with
   |none=>rfl
   |some w=>
    by_cases hw:w=0
    ·subst hw;rfl
    ·have:=ew lR ((hm (x,w)).2 ⟨bT e2,hw⟩);rw[e]at this;cases this
 have hv:∀ k:Nat,k<26->(aB P.values (97+(k:Int))).getD 0=V[k]?.getD 0:=λk hk=>by rw[H.bD (97+(k:Int)) az az,show(97+(k:Int)-97).toNat=k by omega]
 constructor
 ·refine L4 (by rw[jI,H.zy]) λi h1 h2=>?_;have hi:i<26:=by rw[jI]at h1;exact h1
  rw[uK 0 l' hi,hg,hv i hi,e9 h2];rfl
 ·have hV:V=(List.range 26).map λk=>V[k]?.getD 0:=by refine L4 (by rw[cV,List.length_range,H.zy]) λi h1 h2=>?_;rw[pR,List.getElem_range,e9 h1];rfl
  have hc:yV V=((List.range 26).filter λk=>V[k]?.getD 0 != 0).length:=by
   conv=>lhs;rw[hV]
   unfold yV;rw[List.filter_map,cV];rfl
  rw[hc];refine Nat.le_antisymm ?_ ?_
  ·have:=mh (b:=((List.range 26).filter λk=>V[k]?.getD 0 != 0).map λ(k:Nat)=>97+(k:Int)) lR λx hx=>by obtain⟨p,HZ,rfl⟩:=bH.1 hx;obtain⟨h1,h2⟩:=(hm p).1 HZ;have hk:=H.vk p h1;refine bH.2 ⟨(p.1-97).toNat,gP.2 ⟨m7.2 az,?_⟩,az⟩;have:=hv (p.1-97).toNat az;rw[show(97:Int)+((p.1-97).toNat:Int)=p.1 by omega,ew H.vn (show(p.1,p.2)∈P.values from h1)]at this;rw[<- this];simpa using h2
   simpa using this
  ·have:=mh (a:=((List.range 26).filter λk=>V[k]?.getD 0 != 0).map λ(k:Nat)=>97+(k:Int)) (b:=l'.map (·.1)) ?_ λx hx=>by
    obtain⟨k,hk,rfl⟩:=bH.1 hx;obtain⟨h1,h2⟩:=gP.1 hk;have h1:=m7.1 h1;have h3:=hv k h1;have h2:V[k]?.getD 0≠0:=by simpa using h2
    rw[<- h3]at h2;cases e:aB P.values (97+(k:Int))with
    |none=>rw[e]at h2;exact absurd rfl h2
    |some w=>
     rw[e]at h2;exact bH.2 ⟨(97+(k:Int),w),(hm _).2 ⟨bT e,h2⟩,rfl⟩
   ·simpa using this
   ·exact List.Pairwise.map _ (λa b h=>by omega) (List.nodup_range.filter _)
theorem KL.VN{E:List aY}{P:dT}{L:List gn}{V:List Int}(H:KL E P L V)(hr:∀ h∈L,97<=h.key/\h.key<=122):Rv P.aH L:=by
 have hf:∀ h∈L,L.find? (λx=>x.key==h.key)=some h:=λh hh=>by
  cases e:L.find? (λx=>x.key==h.key)with
  |none=>have:=HE.1 e h hh;simp at this
  |some g=>
   have h1:=LV e;have h2:=zU e;rw[A9 H.ln h2 hh (by simpa using h1)]
 refine⟨hr,λl' lR hp=>⟨?_,λh hh=>?_⟩⟩
 ·rw[hp.length_eq];refine Nat.le_antisymm ?_ ?_
  ·have:=mh (b:=L.map (·.key)) H.pl λx hx=>by
    obtain⟨p,HZ,rfl⟩:=bH.1 hx;have h1:=ew H.pl (show(p.1,p.2)∈P.aH from HZ);rw[H.lock]at h1;cases e:L.find? (λx=>x.key==p.1)with
    |none=>rw[e]at h1;cases h1
    |some g=>exact bH.2 ⟨g,zU e,by have:=LV e;simpa using this⟩
   simpa using this
  ·have:=mh (a:=L.map (·.key)) (b:=P.aH.map (·.1)) H.ln λx hx=>by obtain⟨h,hh,rfl⟩:=bH.1 hx;have h1:=H.lock h.key;rw[hf h hh]at h1;exact bH.2 ⟨_,bT h1,rfl⟩
   simpa using this
 ·rw[KZ lR H.pl (λp=>hp.mem_iff),H.lock,hf h hh];rfl
variable{T:List (List cr)}{n:Int}{P:dT}{R:ShR}
theorem dL.VM(H:dL T n P R)(hz:∀ x∈R.bD,Lx x):Ru P.values R.bD:=by
 cases hu:R.up with
 |true=>exact(H.kl hu).VM hz
 |false=>
  obtain⟨h1,_,h3,_⟩:=H.dn hu;rw[h1,h3];refine⟨rfl,λx hx=>by rw[R0 hx];exact⟨by decide,by decide⟩,λl' lR hp=>?_⟩;obtain rfl:l'=[]:=by simpa using hp
  exact⟨E9 0,rfl⟩
theorem dL.VN(H:dL T n P R)(hT:y8 T):Rv P.aH R.aH:=by
 cases hu:R.up with
 |true=>
  refine(H.kl hu).VN λh hh=>?_;obtain⟨i,r,h1,h2,o,h3,h4⟩:=(H.kl hu).lk h hh;obtain⟨ops,h5,_,h6,_⟩:=H.BG.ready h1 h2;rw[h6]at h3;rw[<- h4];exact(hT.of h5).key o h3
 |false=>
  obtain⟨_,h2,_,h4,_⟩:=H.dn hu;rw[h2,h4];refine⟨by simp,λl' lR hp=>?_⟩;obtain rfl:l'=[]:=by simpa using hp
  exact⟨rfl,by simp⟩
theorem VO{A B:Type}{r:A->B->Prop}{l:List A}{m:List B}(h:F2 r l m):∀ a∈l,∃ b∈m,r a b:=by
 induction h with
 |nil=>intro a ha;cases ha
 |@cons x y l m h _ ih=>
  intro a ha;rcases ga.1 ha with rfl|ha
  ·exact⟨y,iz ..,h⟩
  ·obtain⟨b,hb,hr⟩:=ih a ha;exact⟨b,gb _ hb,hr⟩
theorem eV.Y5{l:List cr}(h:eV l):jf l:=⟨λo ho=>⟨(h.1 o ho).1,(h.1 o ho).2.1⟩,by have:=h.2.2.2;omega⟩
theorem jf.part{l:List cr}(h:jf l)(k n:Int):jf (aV l k n):=⟨λo ho=>h.1 o (gP.1 ho).1,C7 (m8 _ _) h.2⟩
variable{s:dE}
theorem dL.VP(H:dL T n s.abs R)(hT:y8 T)(z:yc t R)(hn:1<=n/\n<=4)(ht:t<=2^41)(hC:wx (t*2^15) t s)(hu:R.up=true)(ho:R.out=[]):pI s:=by
 have ks:s.log.length=R.log.length:=by have:=congrArg List.length H.log;simpa[dE.abs]using this
 have Po:s.timers.length=R.timers.length:=by have:=congrArg List.length H.timers;simpa[dE.abs]using this
 have BU:s.waits.length=R.waits.length:=by have:=congrArg List.length H.waits;simpa[dE.abs]using this
 have hou:s.out.length=R.out.length:=by have:=congrArg List.length H.out;simpa[dE.abs]using this
 have Wl:s.aX=R.aX:=H.aX;have Ci:s.clock=R.clock:=H.clock;have hgl:=H.gl;have xz:s.n=n:=H.n1;have hK:=H.kl hu;have hlg:=H.log;refine⟨az,by have:=z.log;omega,az,by have:=z.timers;omega,by have:=z.waits;omega,by rw[hou,ho];decide,by have:=z.clock;omega,by have:=hC.o;omega,λu Ia=>?_,λu Ia p hp=>by have:=hC.a u Ia p hp;omega,λtx p hp=>?_,λtx p hp=>?_⟩
 ·obtain⟨b,hb,hr⟩:=VO (H.cg hu) (u.1,u.2.abs) (bH.2 ⟨u,Ia,rfl⟩);have h1:=hT.of hr.ops;have h2:u.2.ops=b.ops:=hr.ua.ops;rw[h2];exact h1.Y5
 ·have h1:=hK.pend tx;have h2:aB s.abs.pend tx=some p.abs:=by show aB (s.pend.map λp=>(p.1,p.2.abs)) tx=_;rw[ug (w:=λv:sR=>v.abs),hp];rfl
  rw[h2]at h1;cases e:bF (s.abs.log.map aY.a8) tx with
  |none=>rw[e]at h1;cases h1
  |some i=>
   rw[e]at h1;simp only[nE]at h1;cases e2:(s.abs.log.map aY.a8)[i]? with
   |none=>rw[e2]at h1;cases h1
   |some r=>
    rw[e2]at h1;have h3:p.ops=r.ops:=congrArg xE.ops (bS h1);obtain⟨ops,h5,_,h6,_⟩:=H.BG.ready e e2;rw[h3,h6];exact(hT.of h5).Y5.part _ _
 ·have h1:=hK.cf tx;have h2:aB s.abs.cf tx=some p:=hp;rw[h2]at h1;cases e:bB (s.abs.log.map aY.a8) 2 tx with
  |none=>rw[e]at h1;cases h1
  |some i=>
   rw[e]at h1;simp only[nE]at h1;have hi:=(dG e).1;cases e2:(s.abs.log.map aY.a8)[i]? with
   |none=>rw[e2]at h1;cases h1
   |some r=>
    rw[e2]at h1;have h3:p.pl=i:=congrArg iF.pl (bS h1);have h4:(s.abs.log.map aY.a8).length=s.log.length:=by simp[dE.abs]
    omega
theorem qL(u:gM)(n:Int):∀ (l:List cr) (used:Int->Nat),(eB u n l used).length<=l.length
 |[],_=>eK _
 |o::l,used=>by
  unfold eB;split
  ·exact CY (qL u n l used)
  ·exact Nat.succ_le_succ (qL u n l _)
theorem RG{P:dT}{m:MsgR}(H:dL T n P R)(hT:y8 T)(hn:0<n)(ed:R.up=true)(hm:i5 T n m)(hk:m.kind=3):yA P m:=by
 obtain⟨ops,ho,hc⟩:=hm;have hc:m.to=fW ops n/\bX ops m.aU n=true/\(m.yes=true->m.reads.length=Ir (aV ops m.aU n)):=by rcases hc with h|h|h|h|h|h|h<;>first|exact⟨h.2.1,h.2.2.1,h.2.2.2.1⟩|(have:=h.1;omega)
 obtain⟨c1,c2,c3⟩:=hc;have hr:=hT.of ho;intro a ha X4 hy vp;rcases ov (H.cg ed) m.tx with⟨u1,_⟩|⟨i,a',u,u1,u2,u3,u4,hu⟩
 ·rw[u1]at ha;cases ha
 ·rw[u1]at ha;obtain rfl:=bS ha;have cJ:u.ops=ops:=by have:=hu.ops;rw[u4,ho]at this;exact(bS this).symm
  have zE:(aB a'.aR m.aU).isSome=(bK u m.aU).isSome:=by rw[hu.ua.aR];simp
  obtain⟨v1,tM⟩:∃ v1,v1=(if(m.yes&& !(bK u m.aU).isSome)=true then{u with aR:=u.aR++[⟨m.aU,m.reads⟩]}else u):=⟨_,rfl⟩;obtain⟨a1,Lg⟩:∃ a1,a1=CM a' m:=⟨_,rfl⟩;have RH:a1=(if(m.yes&& !(bK u m.aU).isSome)=true then{a' with aR:=bA a'.aR m.aU m.reads}else a'):=by rw[Lg];unfold CM;rw[zE]
  have l3:ko T n R.me (m.tx,a1) v1:=by
   by_cases hb:(m.yes&& !(bK u m.aU).isSome)=true
   ·rw[aK hb]at RH tM;rw[RH,tM];have nI:m.yes=true/\(bK u m.aU).isSome=false:=by simpa using hb
    refine⟨hu.tx,⟨hu.ua.ops,hu.ua.dec,hu.ua.yes,λk=>?_,eU hu.ua.vn,hu.ua.an,hu.ua.bG,hu.ua.ap,λp hp=>?_,hu.ua.XO⟩,hu.ops,hu.home⟩
    ·show aB (bA a'.aR m.aU m.reads) k=_;rw[fx,hu.ua.aR];unfold bK;simp only;rw[LR];by_cases e:k=m.aU
     ·subst e;have:List.find? (λv=>v.aU==m.aU) u.aR=none:=by have:=nI.2;unfold bK at this;simpa using this
      simp[this]
     ·have:(m.aU==k)=false:=by simpa using λz=>e z.symm
      simp[e,this]
    ·rcases dY hp with rfl|hp
     ·show bX u.ops m.aU n=true/\m.reads.length=Ir (aV u.ops m.aU n);rw[cJ];exact⟨c2,c3 nI.1⟩
     ·exact hu.ua.vt p hp
   ·rw[ao hb]at RH tM;rw[RH,tM];exact hu
  have Nv:v1.ops=ops:=by rw[tM];split<;>exact cJ
  have Dh:a1.ops=ops:=l3.ua.ops.trans Nv;unfold kx at vp;rw[<- Lg,hy,H.n1,Dh]at vp;have hlen:(dg ops n).length<=a1.aR.length:=by simpa using vp
  have iK:=(sE (n:=n) (ops:=ops) l3.ua.vn (λp hp=>by have:=(l3.ua.vt p hp).1;rw[Nv]at this;exact this)).1 hlen;refine⟨jo v1 n,?_,?_⟩
  ·rw[<- Lg,H.n1];exact D6 l3.ua (by rw[Nv];exact iK)
  ·have h1:=qL v1 n v1.ops (λ_=>0);have h2:=hr.2.2.2;rw[Nv]at h1;unfold jo;rw[Nv];omega
end
section
open Go.Proofs Go.Conc
structure de(I:HL)(t:Nat)(c:CV)(w:WV):Prop where
 rel:gk c.abs w.abs
 inv:iV t w.abs
 Pz:sP Lx w.abs
 J:q6 I c
 W:WI I w
 cn:mW (t*2^15) t c
 lt:t<=2^41
variable{I:HL}{t:Nat}{c:CV}{w:WV}
theorem de.len(h:de I t c w):c.ae.length=w.sh.length:=by have:=h.rel.len;simpa[CV.abs,WV.abs]using this
theorem de.n(h:de I t c w):1<=c.ae.length/\c.ae.length<=4:=by have:=h.rel.n;rw[WV.mU]at this;rw[h.len];exact this
theorem de.aE(h:de I t c w):c.aE.map (·.toMsgR)=w.aE.map (·.toMsgR):=h.rel.aE
theorem de.aL(h:de I t c w):c.aL.map (·.toTxR)=w.aL.map (·.toTxR):=h.rel.aL
theorem de.at(h:de I t c w){q:Nat}(h1:q<c.ae.length)(h2:q<w.sh.length):dL (lv w.abs.aL) w.sh.length (c.ae[q]).s.abs (w.sh[q]).2.abs/\yc t (w.sh[q]).2.abs/\(w.sh[q]).2.abs.out=[]/\(w.sh[q]).2.abs.me=q:=by
 have e1:c.abs.sh[q]? =some (c.ae[q]).s.abs:=by simp[CV.abs,h1]
 have e2:w.abs.sh[q]? =some (w.sh[q]).2.abs:=by simp[WV.abs,h2]
 obtain⟨a,b,d⟩:=h.rel.sh q _ _ e1 e2;rw[WV.mU]at a;have hs:=h.inv.size h.rel (eY e2);exact⟨a,hs.1,d,b⟩
theorem de.host(h:de I t c w){v:HV}(hv:v∈c.ae):∃ R,R∈w.abs.sh/\dL (lv w.abs.aL) w.sh.length v.s.abs R/\yc t R/\R.out=[]:=by
 obtain⟨q,hq,rfl⟩:=jx hv;have h2:q<w.sh.length:=by rw[<- h.len];exact hq
 obtain⟨a,b,d,_⟩:=h.at hq h2;exact⟨_,bH.2 ⟨_,br h2,rfl⟩,a,b,d⟩
theorem de.msg(h:de I t c w){m:cm}(hm:m∈c.aE):m.toMsgR∈w.abs.aE:=by have:m.toMsgR∈c.aE.map (·.toMsgR):=bH.2 ⟨m,hm,rfl⟩;rw[h.aE]at this;exact this
theorem de.VQ(h:de I t c w):c.aE.length<=300000:=by have h1:=h.inv.aE;have:=congrArg List.length h.aE;simp only[cV]at this;rw[WV.fA]at h1;omega
theorem de.tx(h:de I t c w){x:l4}(hx:x∈c.aL):x.toTxR∈w.abs.aL:=by have:x.toTxR∈c.aL.map (·.toTxR):=bH.2 ⟨x,hx,rfl⟩;rw[h.aL]at this;exact this
theorem de.cvb(h:de I t c w):KO c:=by
 refine⟨h.n,by have:=h.VQ;omega,?_,λx hx=>?_⟩
 ·have h1:=h.rel.Uv;have:=congrArg List.length h.aL;simp only[cV]at this;rw[WV.jL]at h1;omega
 ·have:=h.rel.GC (h.tx hx);exact⟨⟨this.1,by have:=this.2.1;omega⟩,this.2.2⟩
theorem de.nn(h:de I t c w):(1:Int)<=w.sh.length/\(w.sh.length:Int)<=4:=by have h1:=h.n;have h2:=h.len;omega
theorem de.VP(h:de I t c w){v:HV}(hv:v∈c.ae)(hu:v.s.up=true):pI v.s:=by obtain⟨R,_,a,b,d⟩:=h.host hv;exact a.VP h.rel.tok b h.nn h.lt (h.cn v hv) (a.up.symm.trans hu) d
theorem de.del(h:de I t c w){m:cm}(hm:m∈c.aE):IW c m:=by
 have Pj:=h.msg hm;have JO:=h.rel.NH Pj;have HY:=h.rel.msg _ Pj;have RI:=h.rel.mto Pj;have hl:=h.len;rw[WV.mU]at RI HY;refine⟨λe=>?_,λe=>?_,λe v hv hu=>?_⟩
 ·have RI:m.to= -1/\0<=m.tx/\m.tx<w.abs.aL.length:=by
   rcases RI with h1|h1
   ·exact h1
   ·have h2:0<=m.to:=h1.1;omega
  have:=congrArg List.length h.aL;simp only[cV]at this;rw[WV.jL]at RI;omega
 ·have RI:0<=m.to/\m.to<w.sh.length:=by
   rcases RI with h1|h1
   ·exact absurd h1.1 e
   ·exact h1
  have hk:1<=m.kind/\m.kind<=6:=by
   obtain⟨ops,_,hc⟩:=HY;have hc:(m.kind=1\/m.kind=2\/m.kind=3\/m.kind=4\/m.kind=5\/m.kind=6):=by
    rcases hc with h1|h1|h1|h1|h1|h1|h1
    ·exact .inl h1.1
    ·exact .inr (.inl h1.1)
    ·exact .inr (.inr (.inl h1.1))
    ·exact .inr (.inr (.inr (.inl h1.1)))
    ·exact .inr (.inr (.inr (.inr (.inl h1.1))))
    ·exact .inr (.inr (.inr (.inr (.inr h1.1))))
    ·exact absurd h1.2.1 e
   omega
  exact⟨RI.1,az,hk.1,hk.2,λ_=>⟨JO.1,by have:m.ops.length<=6:=JO.2;omega⟩⟩
 ·have RI:0<=m.to/\m.to<w.sh.length:=by
   rcases RI with h1|h1
   ·exact absurd h1.1 e
   ·exact h1
  obtain⟨h1,rfl⟩:=jk.1 hv;have h2:m.to.toNat<w.sh.length:=az;obtain⟨a,b,d,f⟩:=h.at h1 h2;have ed:(w.sh[m.to.toNat]).2.abs.up=true:=a.up.symm.trans hu;have rU:m.toMsgR.to=(w.sh[m.to.toNat]).2.abs.me:=by rw[f];show m.to=_;omega
  have hn0:(0:Int)<w.sh.length:=by have:=h.nn;omega
  refine⟨λhk=>RG a h.rel.tok hn0 ed HY hk,?_⟩;have hr:=D7 a h.rel.tok hn0 ed HY rU;rw[hr.out];have:=h.inv.take h.rel (s:=(w.sh[m.to.toNat]).2.abs) (bH.2 ⟨_,br h2,rfl⟩) Pj;omega
theorem de.acd(h:de I t c w){k i b:Int}(hR:k=8->yX):KY c k i b:=by
 refine⟨h.cvb,λ_ v hv hu=>h.VP hv hu,λ_ q hq _=>h.del (br hq),λv hv=>?_,λhk=>⟨hR hk,λv hv=>?_⟩⟩
 ·obtain⟨R,hRm,a,b',d⟩:=h.host hv;have hI:=h.inv.sh R hRm;refine⟨λ_ hu=>?_,λ_ hu=>?_,λ_ hu=>?_,λ_ hu=>?_⟩
  ·have:=(D8 a (a.up.symm.trans hu)).out;rw[this];show(R.out++R.waits).length<_;rw[d];have:=b'.waits;simp only[fi];omega
  ·have:=(Eb a h.rel.tok (a.up.symm.trans hu)).out;rw[this];obtain⟨_,o,e1,e2,_⟩:=Ek hI (by have:=h.nn;have:=a.n2;omega) b'.timers;rw[e1,d];simp only[fi];omega
  ·have:=(Av a b).out;rw[this];show R.out.length<_;rw[d];decide
  ·have:=(vM a h.rel.tok).out;rw[this,(vO R).2,d];decide
 ·obtain⟨R,hRm,a,b',d⟩:=h.host hv;have ks:v.s.log.length=R.log.length:=by have:=congrArg List.length a.log;simpa[dE.abs]using this
  refine⟨by have:=b'.log;omega,λtx home ops so hm=>?_⟩;have h1:aY.a8 (.eZ tx home ops)∈R.log:=by rw[<- a.log];exact bH.2 ⟨_,bH.2 ⟨_,hm,rfl⟩,rfl⟩
  have:=b'.sO _ h1;exact⟨this.1,by have:ops.length<=6:=this.2;omega⟩
theorem de.ask(h:de I t c w):YZ I c w:=by
 have hb:=h.cvb;have hlq:∀ (q:Nat) (h1:q<c.ae.length) (h2:q<w.sh.length),(c.ae[q]).s.log.map (·.abs.a8)=(w.sh[q]).2.log.map (·.toRecR):=λq h1 h2=>by have:=(h.at h1 h2).1.log;simpa[dE.abs,eS.abs,tC,vC]using this
 refine⟨hb.n.2,h.J,h.W,h.len,h.aE,λm hm=>?_,by have:=hb.aE;omega,λm hm=>?_,h.aL,hb.aL,λx hx=>?_,λv hv=>?_,λq h1 h2=>⟨hlq q h1 h2,(h.at h1 h2).1.aX⟩,λp hp r hr=>?_,λq h1 h2=>?_,λq h1 h2=>?_,λp hp=>?_,λq h1 h2=>(h.at h1 h2).1.up⟩
 ·have:=(h.rel.NH (h.msg hm)).2;have:m.ops.length<=6:=this;omega
 ·have h1:m.toMsgR∈w.abs.aE:=bH.2 ⟨m,hm,rfl⟩;have h2:=h.rel.NH h1;have h3:=h.Pz.aE _ h1;exact⟨λo ho=>⟨by have:=h2.1 o ho;omega,h3.1 o ho⟩,h3.2⟩
 ·exact(h.Pz.aL x.toTxR (bH.2 ⟨x,hx,rfl⟩)).2
 ·obtain⟨R,hRm,a,b',d⟩:=h.host hv;have ks:v.s.log.length=R.log.length:=by have:=congrArg List.length a.log;simpa[dE.abs]using this
  have:=b'.log;omega
 ·obtain⟨q,h2,rfl⟩:=jx hp;have h1:q<c.ae.length:=by rw[h.len];exact h2
  have Z7:r.toRecR∈(w.sh[q]).2.log.map (·.toRecR):=bH.2 ⟨r,hr,rfl⟩;have hz:=(h.at h1 h2).2.1.sO r.toRecR Z7;have hg:=(h.Pz.sh _ (bH.2 ⟨_,br h2,rfl⟩)).log r.toRecR Z7;rw[<- hlq q h1 h2]at Z7;obtain⟨e,he,hre⟩:=bH.1 Z7;have hJ:=(h.J.sh _ (br h1)).log e he;refine⟨λo ho=>⟨by have:=hz.1 o ho;omega,hg.1 o ho⟩,hg.2,by have:=hz.2;omega,?_⟩;rw[<- hre];cases e with
  |eZ tx home ops so=>exact m9 20
  |dec tx yes reads sr=>exact hJ.2
  |kD tx yes=>exact m9 20
 ·exact(h.at h1 h2).1.VM (h.Pz.sh _ (bH.2 ⟨_,br h2,rfl⟩)).bD
 ·exact(h.at h1 h2).1.VN h.rel.tok
 ·obtain⟨q,h2,rfl⟩:=jx hp;have h1:q<c.ae.length:=by rw[h.len];exact h2
  have:=(h.at h1 h2).2.1.aH;have:(w.sh[q]).2.aH.length<=26:=this;omega
def l6(A:HP)(l:List Nat):Prop:=∀ h,A h->l.Nodup/\∀ b∈l,∃ o,h b=some o
theorem l6.nil{A:HP}:l6 A []:=λh _=>⟨LJ,by simp⟩
theorem l6.bR{b:Nat}{o:Obj}:l6 (bR b o) [b]:=λh e=>⟨by simp,λx hx=>by obtain rfl:=dF.1 hx;have e:h=one x o:=e;exact⟨o,by rw[e];simp[one]⟩⟩
theorem l6.all{As:List HP}{ls:List (List Nat)}(h:F2 l6 As ls):l6 (all As) ls.flatten:=by
 have key:∀ {As:List HP} {ls:List (List Nat)},F2 l6 As ls->∀ h,Sat As h->ls.flatten.Nodup/\∀ b∈ls.flatten,∃ o,h b=some o:=by
  intro As ls hh
  induction hh with
  |nil=>intro h _;exact⟨LJ,by simp⟩
  |@cons A l As ls ha _ ih=>
   rintro h ⟨h1,a,s1,r⟩;obtain⟨n1,o1⟩:=ha h1 a;obtain⟨n2,o2⟩:=ih _ r;simp only[List.flatten_cons];refine⟨im.2 ⟨n1,n2,λx hx y hy e=>?_⟩,λb hb=>?_⟩
   ·subst e;obtain⟨o,ho⟩:=o1 x hx;obtain⟨o',po⟩:=o2 x hy;unfold less at po;rw[ho]at po;cases po
   ·rcases bU.1 hb with hb|hb
    ·obtain⟨o,ho⟩:=o1 b hb;exact⟨o,s1 _ _ ho⟩
    ·obtain⟨o,ho⟩:=o2 b hb;exact⟨o,mz _ _ ho⟩
 exact key h
theorem l6.ex{X:Type}{A:X->HP}{l:List Nat}(h:∀ x,l6 (A x) l):l6 (λH=>∃ x,A x H) l:=λH ⟨x,a⟩=>h x H a
def HV.chans(v:HV):List Nat:=[v.h.wk,v.h.rd]
def CV.chans(c:CV):List Nat:=c.ae.flatMap HV.chans++[c.G.dn]
theorem Hv(v:HV):l6 (iy v) v.chans:=by have:=l6.all (As:=rX v []) (ls:=[[],[v.h.wk],[v.h.rd],[],[]]) (.cons .nil (.cons .bR (.cons .bR (.cons .nil (.cons .nil .nil)))));exact this
theorem K0(l:List HV):l6 (all (l.map iy)) (l.flatMap HV.chans):=by
 refine l6.all (ls:=l.map HV.chans) ?_
 induction l with
 |nil=>exact .nil
 |cons v l ih=>exact .cons (Hv v) ih
theorem OX(m:Int)(c:CV):l6 (qD m c) c.chans:=by refine l6.ex λhs=>l6.ex λbg=>l6.ex λtx=>?_;have:=l6.all (As:=Ws c m c.st hs bg tx []) (ls:=[[],[],[],[],c.ae.flatMap HV.chans,[c.G.dn],[]]) (.cons .nil (.cons .nil (.cons .nil (.cons .nil (.cons (K0 _) (.cons .bR (.cons .nil .nil)))))));simpa[CV.chans]using this
structure Fs(σ:Gh)(L:List CV):Prop where
 ok:KJ σ
 reg:∀ c∈L,c.ai=false->rE σ c
 only:∀ i s,σ.aT i=some s->∃ c∈L,c.ai=false/\∃ v∈c.ae,v.h.g=i/\s=dZ v.h c.G
theorem Fs.nil{σ:Gh}(h:sb σ):Fs σ []:=⟨h.ok,by simp,λi s e=>by rw[h.no]at e;cases e⟩
theorem Fs.set{σ:Gh}{L:List CV}(h:Fs σ L){i:Nat}(hi:i<L.length){c':CV}(hG:c'.G=L[i].G)(hh:c'.ae.map (·.h)=L[i].ae.map (·.h))(dJ:c'.ai=L[i].ai):Fs σ (L.set i c'):=by
 refine⟨h.ok,λc hc hs=>?_,λj s e=>?_⟩
 ·rcases fN hc with hc|rfl
  ·exact h.reg c hc hs
  ·exact(h.reg _ (br hi) (dJ▸hs)).same hG hh
 ·obtain⟨c,hc,h1,v,hv,h2,h3⟩:=h.only j s e;obtain⟨q,hq,rfl⟩:=jx hc;by_cases z:q=i
  ·subst z;have:v.h∈L[q].ae.map (·.h):=rF hv;rw[<- hh]at this;obtain⟨u,hu,e2⟩:=bH.1 this;refine⟨c',w8.2 ⟨q,by simpa using hq,by simp⟩,dJ.trans h1,u,hu,by rw[e2];exact h2,by rw[e2,hG];exact h3⟩
  ·exact⟨L[q],w8.2 ⟨q,by simpa using hq,by rw[C5 az]⟩,h1,v,hv,h2,h3⟩
theorem CV.kU{c:CV}{v:HV}(hv:v∈c.ae):v.h.wk∈c.chans/\v.h.rd∈c.chans/\c.G.dn∈c.chans:=by refine⟨j0 _ (I9.2 ⟨v,hv,by simp[HV.chans]⟩),j0 _ (I9.2 ⟨v,hv,by simp[HV.chans]⟩),jw _ (by simp)⟩
theorem CV.Y6{c:CV}(nd:c.chans.Nodup){v u:HV}(hv:v∈c.ae)(hu:u∈c.ae):v.h.rd≠u.h.wk/\v.h.rd≠c.G.dn:=by
 have h1:=im.1 nd;refine⟨λe=>?_,λe=>h1.2.2 _ (I9.2 ⟨v,hv,by simp[HV.chans]⟩) _ (dF.2 rfl) e⟩;have h2:=h1.1;obtain⟨p,hp,rfl⟩:=jx hv;obtain⟨q,hq,rfl⟩:=jx hu;have h3:=List.pairwise_flatMap.1 h2;by_cases z:p=q
 ·subst z;have:=h3.1 _ (br hp);simp[HV.chans]at this;exact this e.symm
 ·have hpw:=w5.1 h3.2;rcases Nat.lt_or_gt_of_ne z with z|z
  ·exact hpw p q hp hq z c.ae[p].h.rd (by simp[HV.chans]) _ (by simp[HV.chans]) e
  ·exact hpw q p hq hp z _ (by simp[HV.chans]) c.ae[p].h.rd (by simp[HV.chans]) e.symm
theorem mX{c:CV}{v:HV}(hv:v∈c.ae){x:Nat}(h:(dZ v.h c.G).has x):x∈c.chans:=by
 rcases mg.1 h with rfl|rfl
 ·exact(CV.kU hv).1
 ·exact(CV.kU hv).2.2
theorem Fs.new{σ σ':Gh}{L:List CV}(h:Fs σ L){c:CV}(N:pw σ σ' c.G c.ae)(hn:1<=c.ae.length/\c.ae.length<=4)(hs:c.ai=false)(nd:((L++[c]).flatMap CV.chans).Nodup):Fs σ' (L++[c]):=by
 have nd1:(L.flatMap CV.chans).Nodup/\c.chans.Nodup/\∀ a∈L.flatMap CV.chans,∀ b∈c.chans,a≠b:=by rw[List.flatMap_append]at nd;have:=im.1 nd;simpa using this
 have WL:∀ c'∈L,∀ x∈c'.chans,x∉c.chans:=λc' kF x hx jV=>nd1.2.2 x (I9.2 ⟨c',kF,hx⟩) x jV rfl;have hold:∀ i s,σ.aT i=some s->i<σ.n/\σ'.aT i=some s:=λi s e=>by have:=h.ok.lt i s e;exact⟨this,by rw[N.old i this];exact e⟩
 have key:∀ i s,σ'.aT i=some s->(i<σ.n/\σ.aT i=some s)\/(σ.n<=i/\∃ v∈c.ae,v.h.g=i/\s=dZ v.h c.G):=λi s e=>by
  rcases Bc i σ.n with h1|h1
  ·rw[N.old i h1]at e;exact .inl ⟨h1,e⟩
  ·exact .inr ⟨h1,N.new i s h1 e⟩
 refine⟨⟨by have:=N.n;have:=h.ok.n;omega,λi s e=>?_⟩,λc' kF hs=>?_,λi s e=>?_⟩
 ·rcases key i s e with⟨h1,_⟩|⟨_,v,hv,rfl,_⟩
  ·have:=N.n;omega
  ·exact(N.has v hv).2.2
 ·rcases bU.1 kF with kF|kF
  ·have r:=h.reg c' kF hs;refine⟨⟨λv hv=>(hold _ _ (r.aT v hv)).2,r.nd,λi s e hd=>?_,λv hv i s e hd=>?_,r.wd,(N.sh _).2 (.inl r.sh7),(N.sh _).2 (.inl r.sh8),r.n⟩,λv hv i s e hd=>?_⟩
   ·rcases key i s e with⟨_,e⟩|⟨_,u,hu,_,rfl⟩
    ·exact r.only i s e hd
    ·obtain⟨v,hv⟩:=RX _ (List.ne_nil_of_length_pos (show 0<c'.ae.length by have:=r.n;omega));exact absurd (mX hu hd) (WL c' kF _ (CV.kU hv).2.2)
   ·rcases key i s e with⟨_,e⟩|⟨_,u,hu,_,rfl⟩
    ·exact r.wk v hv i s e hd
    ·exact absurd (mX hu hd) (WL c' kF _ (CV.kU hv).1)
   ·rcases key i s e with⟨_,e⟩|⟨_,u,hu,_,rfl⟩
    ·exact r.Z3 v hv i s e hd
    ·exact absurd (mX hu hd) (WL c' kF _ (CV.kU hv).2.1)
  ·obtain rfl:=dF.1 kF;refine⟨⟨λv hv=>(N.has v hv).1,N.gnd,λi s e hd=>?_,λv hv i s e hd=>?_,N.wd,(N.sh _).2 (.inr (.inl rfl)),(N.sh _).2 (.inr (.inr rfl)),hn⟩,λv hv i s e hd=>?_⟩
   ·rcases key i s e with⟨_,e⟩|⟨_,u,hu,h2,_⟩
    ·exact absurd hd (N.fd i s e)
    ·exact⟨u,hu,h2⟩
   ·rcases key i s e with⟨_,e⟩|⟨_,u,hu,rfl,rfl⟩
    ·exact absurd hd (N.fw v hv i s e)
    ·rcases mg.1 hd with h2|h2
     ·have nd:=N.wnd;obtain⟨p,hp,rfl⟩:=jx hv;obtain⟨q,hq,rfl⟩:=jx hu;have:p=q:=(List.getElem_inj (h₀:=by simpa using hp) (h₁:=by simpa using hq) nd).1 (by simpa using h2);subst this;rfl
     ·exact absurd h2 (N.wd v hv)
   ·rcases key i s e with⟨_,e⟩|⟨_,u,hu,_,rfl⟩
    ·obtain⟨c2,hc2,_,u,hu,_,rfl⟩:=h.only i s e;exact WL c2 hc2 _ (mX hu hd) (CV.kU hv).2.1
    ·have:=CV.Y6 nd1.2.1 hv hu;rcases mg.1 hd with h2|h2
     ·exact this.1 h2
     ·exact this.2 h2
 ·rcases key i s e with⟨_,e⟩|⟨_,u,hu,h2,h3⟩
  ·obtain⟨c2,hc2,h1,h2⟩:=h.only i s e;exact⟨c2,j0 _ hc2,h1,h2⟩
  ·exact⟨c,by simp,hs,u,hu,h2,h3⟩
theorem Fs.stop{σ:Gh}{L:List CV}(h:Fs σ L){i:Nat}(hi:i<L.length)(nd:(L.flatMap CV.chans).Nodup):Fs (if L[i].ai then σ else σ.fR L[i].ids) (L.set i {L[i]with ai:=true}):=by
 have WL:∀ (p q:Nat) (hp:p<L.length) (hq:q<L.length),p≠q->∀ x∈L[p].chans,x∉L[q].chans:=λp q hp hq z x hx jV=>by
  have h3:=w5.1 (List.pairwise_flatMap.1 nd).2;rcases Nat.lt_or_gt_of_ne z with z|z
  ·exact h3 p q hp hq z x hx x jV rfl
  ·exact h3 q p hq hp z x jV x hx rfl
 by_cases hs:L[i].ai=true
 ·rw[aK hs];exact h.set hi rfl rfl hs.symm
 ·rw[ao hs];have hs:L[i].ai=false:=by simpa using hs
  have ri:=h.reg _ (br hi) hs;have key:∀ j s,(σ.fR L[i].ids).aT j=some s->σ.aT j=some s/\j∉L[i].ids:=λj s e=>by
   have e:(if j∈L[i].ids then none else σ.aT j)=some s:=e;split at e
   ·cases e
   ·exact⟨e,by assumption⟩
  refine⟨⟨h.ok.n,λj s e=>h.ok.lt j s (key j s e).1⟩,λc hc rk=>?_,λj s e=>?_⟩
  ·obtain⟨q,hq,rfl⟩:=jx hc;have CB:q<L.length:=by simpa using hq
   by_cases z:q=i
   ·subst z;rw[vD]at rk;cases rk
   ·rw[C5 az]at rk⊢;have r:=h.reg _ (br CB) rk;refine⟨⟨λv hv=>?_,r.nd,λj s e hd=>r.only j s (key j s e).1 hd,λv hv j s e hd=>r.wk v hv j s (key j s e).1 hd,r.wd,r.sh7,r.sh8,r.n⟩,λv hv j s e hd=>r.Z3 v hv j s (key j s e).1 hd⟩;have h1:=r.aT v hv;have h2:v.h.g∉L[i].ids:=λhm=>by
     obtain⟨u,hu,e2⟩:=bH.1 hm;have h3:=ri.aT u hu;rw[e2,h1]at h3;have h4:(dZ u.h L[i].G).has v.h.wk:=by rw[<- bS h3];exact mg.2 (.inl rfl)
     exact WL q i CB hi z _ (CV.kU hv).1 (mX hu h4)
    show(if v.h.g∈L[i].ids then none else σ.aT v.h.g)=_;rw[ao h2];exact h1
  ·obtain⟨h1,h2⟩:=key j s e;obtain⟨c,hc,h3,v,hv,h4,h5⟩:=h.only j s h1;obtain⟨q,hq,rfl⟩:=jx hc;have z:q≠i:=λz=>by subst z;exact h2 (bH.2 ⟨v,hv,h4⟩)
   exact⟨L[q],w8.2 ⟨q,by simpa using hq,by rw[C5 az]⟩,h3,v,hv,h4,h5⟩
theorem Fs.idle{σ:Gh}{L:List CV}(h:Fs σ L)(hs:∀ c∈L,c.ai=true):sb σ:=⟨h.ok.n,λi=>by
 cases e:σ.aT i with
 |none=>rfl
 |some s=>
  obtain⟨c,hc,h1,_⟩:=h.only i s e;rw[hs c hc]at h1;cases h1⟩
end
section
open Go.Proofs Go.Conc
section
variable{P:bL}{ak:Bool}{B:jW}{R:Nat->aP->Array Obj->Prop}{d:Nat}{As W L:List HP}
variable{fn:bI}{kd:Kd}{n:Nat}{e:Nat->Value}{ds:List dQ}{k:List Item}{cs:List Frame}
variable{ops:Array Oper}{i:Nat}{aa:List Nat}{t:Nat}{ty:aQ}{pos:String}{af:Array Edge}{gd:Option (Nat×Bool)}{x:cA}{v:Value}{b off:Nat}{c:Array Value}{el tt:aQ}
theorem ab.Y7(C:ab P ak B R){fr:Nat×Nat}[Ag P tt false](hk:Kn As b (.cells c el fr))(hs:B.sh el off=false)(hc:c[off]? =some v)(ho:aZ ops i=some ⟨some t,.load tt x,ty,pos,af,gd⟩)(h:At R d As (gr fn kd n (put e t v) ds (.inRegion ops aa::k) cs))
  (hx:ev n e x=.pointer (some ⟨b,off,none⟩):=by rfl) (hw:aM ops n e gd=true:=by rfl):At R d As (gr fn kd n e ds (.inRegion ops (i::aa)::k) cs):=
 C.gen ho hw λH st=>by unfold execOp;simp only[hx,Instr.loadAt,Instr.sureAddr];exact ah (ah (aA (gy (hk _ st) hc hs ⟨As,st,h⟩)))
end
theorem K1{σ:Gh}{n:Int}{I:HL}{eb:Nat->Nat×Nat}(hE:ig I eb)(hn:n<1\/4<n):aD prog true (bP.bw σ) 27 #[aI n] [a7 I] (λv As=>v=.tuple #[.pointer none,gV (eb 0)]/\As=[a7 I]):=by
 refine aD.of ?_;intro R C kd d F c' cs aJ aj;refine bM ?_;obtain⟨t0,h0⟩:=hE.g 0 (by decide);refine dV ?_;by_cases h1:n<1
 ·refine C.fe rfl ?_;refine dH ?_;refine C.dx [(13,0),(2,1),(3,2)] 3 [] 0 ?_;refine Dr.l (v:=gV (eb 0)) (λhE h=>C.Y7 (hE.Hf Fo.au h0) (gp _ _) rfl rfl h) ?_;refine wm ?_;refine eQ ?_;exact C.bk aJ aj ⟨rfl,rfl⟩
 ·refine C.dP rfl ?_;refine bJ ?_;refine C.fe rfl ?_;refine dN ?_;refine C.dx [(13,0),(2,1),(3,2)] 3 [] 0 ?_;refine Dr.l (v:=gV (eb 0)) (λhE h=>C.Y7 (hE.Hf Fo.au h0) (gp _ _) rfl rfl h) ?_;refine wm ?_;refine eQ ?_;exact C.bk aJ aj ⟨rfl,rfl⟩
theorem OY{σ:Gh}{n:Int}{I:HL}{eb:Nat->Nat×Nat}(hE:ig I eb)(hn:n<1\/4<n):aD prog true (bP.bw σ) 14 #[aI n] [a7 I] (λv As=>v=.tuple #[.pointer none,aI 1]/\As=[a7 I]):=by refine aD.of ?_;intro R C kd d F c' cs aJ aj;refine bM ?_;obtain⟨t0,h0⟩:=hE.g 0 (by decide);obtain⟨ck,tk,Ci⟩:=hE.e 0 (by decide);refine dV ?_;refine C.cE (K1 hE hn) ?_;refine JH ?_;refine C.Qh underlying46 rfl ?_;refine dD ?_;refine C.uQ (v:=gV (eb 0)) Fo.au h0 (gp _ _) rfl ?_;refine C.Qg (r:=true) (b1:=(eb 0).1) (o1:=(eb 0).2) (b2:=(eb 0).1) (o2:=(eb 0).2) underlying46 (ax type339) rfl rfl ?_ (λH s=>(s.perm (Fo.perm (show Fo (a7 I) _ _ from Fo.au))).oJ Ci) (λH s=>(s.perm (Fo.perm (show Fo (a7 I) _ _ from Fo.au))).oJ Ci);rw[show(decide ((eb 0).1=(eb 0).1/\(eb 0).2=(eb 0).2)==true)=true by simp];refine kE ?_;exact C.bk aJ aj ⟨rfl,rfl⟩
section
variable{I I' Pm:HL}{t:Nat}{c c':CV}{w w':WV}
theorem de.cn1(h:de I t c w):mW ((t+1:Nat)*2^15) (t+1:Nat) c:=λv hv=>(h.cn v hv).mono az az
theorem de.stop(h:de I t c w):de I t {c with ai:=true} {w with ai:=true}:=
 ⟨JP h.rel,⟨h.inv.sh,h.inv.phi⟩,⟨h.Pz.sh,h.Pz.aE,h.Pz.aL⟩,⟨h.J.aE,h.J.aL,h.J.sh⟩,⟨h.W.sh,h.W.aE,h.W.aL⟩,h.cn,h.lt⟩
theorem de.mono(h:de I t c w)(hs:Sub I I'):de I' t c w:={h with J:=h.J.mono hs,W:=h.W.mono hs}
theorem de.new{n:Int}(hn:1<=n/\n<=4)(h1:c.ae.map (·.s)=((upto n).map λk=>jm k n))(h2:c.aE=[])(h3:c.aL=[])(h4:c.ai=false)(hw:w.abs=pE n)(hW:WI I w):de I 0 c w:=by
 have hc:c.abs=Ec n:=by
  unfold CV.abs Ec;rw[h2,h3,h4];have:c.ae.map (λv=>v.s.abs)=(c.ae.map (·.s)).map (·.abs):=by simp[tC,vC]
  rw[this,h1];simp[tC,vC,JX]
 have key:∀ v∈c.ae,∃ k,v.s=jm k n:=λv hv=>by have:v.s∈c.ae.map (·.s):=rF hv;rw[h1]at this;obtain⟨k,_,e⟩:=bH.1 this;exact⟨k,e.symm⟩
 refine⟨by rw[hc,hw];exact QB hn,by rw[hw];exact QI,by rw[hw];exact QM (by unfold Lx;omega) n,⟨by simp[h2],by simp[h3],λv hv=>?_⟩,hW,λv hv=>?_,eK _⟩
 ·obtain⟨k,e⟩:=key v hv;rw[e];exact QP I k n
 ·obtain⟨k,e⟩:=key v hv;rw[e];exact⟨by simp,by simp[jm],by simp[jm]⟩
theorem RJ{eb:Nat->Nat×Nat}{ops:List cr}{er:Option Nat}{tt:Int}{gD:List cm}{gF:List l4}(hQ:(c.ai=true/\er=some 8/\tt=0/\gD=c.aE/\gF=c.aL/\I'=I)\/(c.ai=false/\G4 eb I c.ae.length ops c.aE c.aL er tt I' gD gF)):
  ((CV.abs {c with aE:=gD,aL:=gF},tt,wA er):WP×Int×Int)=qs c.abs ops:=by
 unfold qs;rcases hQ with⟨h1,rfl,rfl,rfl,rfl,_⟩|⟨h1,_,⟨h2,rfl,rfl,rfl,rfl⟩|⟨h2,h3,rfl,rfl,rfl,rfl⟩|⟨h2,h3,rfl,rfl,s7,_,rfl,rfl⟩⟩
 ·rw[aK (show c.abs.ai=true from h1)];rfl
 ·rw[ao (show¬ c.abs.ai=true by rw[show c.abs.ai=c.ai from rfl,h1];decide),aK h2];rfl
 ·rw[ao (show¬ c.abs.ai=true by rw[show c.abs.ai=c.ai from rfl,h1];decide),ao (by simpa using h2),aK (by simpa[CV.abs]using h3)];rfl
 ·rw[ao (show¬ c.abs.ai=true by rw[show c.abs.ai=c.ai from rfl,h1];decide),ao (by simpa using h2),ao (by simpa[CV.abs]using h3)];unfold np;simp[CV.abs,wA,yI]
theorem Tg{eb:Nat->Nat×Nat}{ops:List cr}{er:Option Nat}{tt:Int}{gD:List cm}{gF:List l4}(hJ:q6 I c)(hQ:(c.ai=true/\er=some 8/\tt=0/\gD=c.aE/\gF=c.aL/\I'=I)\/(c.ai=false/\G4 eb I c.ae.length ops c.aE c.aL er tt I' gD gF)):
  Sub I I'/\q6 I' {c with aE:=gD,aL:=gF}:=by
 rcases hQ with⟨h1,rfl,rfl,rfl,rfl,rfl⟩|⟨h1,hs,⟨h2,rfl,rfl,rfl,rfl⟩|⟨h2,h3,rfl,rfl,rfl,rfl⟩|⟨h2,h3,rfl,rfl,s7,h7,rfl,rfl⟩⟩
 ·exact⟨Sub.refl _,hJ⟩
 ·exact⟨hs,hJ.mono hs⟩
 ·exact⟨hs,hJ.mono hs⟩
 ·refine⟨hs,λm hm=>?_,λx hx=>?_,(hJ.mono hs).sh⟩
  ·rcases bU.1 hm with hm|hm
   ·exact(hJ.mono hs).aE m hm
   ·obtain rfl:=dF.1 hm;exact⟨h7,.inl ⟨rfl,rfl⟩,m9 20⟩
  ·rcases bU.1 hx with hx|hx
   ·exact(hJ.mono hs).aL x hx
   ·obtain rfl:=dF.1 hx;exact⟨h7,.inl ⟨rfl,rfl⟩,m9 20⟩
theorem de.VR{eb:Nat->Nat×Nat}{ops:List cr}{er:Option Nat}{tt:Int}{gD:List cm}{gF:List l4}(h:de I t c w)(hQ:(c.ai=true/\er=some 8/\tt=0/\gD=c.aE/\gF=c.aL/\I'=I)\/(c.ai=false/\G4 eb I c.ae.length ops c.aE c.aL er tt I' gD gF))
  (ho:∀ o∈ops,Lx o.v) (dA:t+1<=2^41) (hI:Sub I' Pm) (hW:WI Pm w') (hw:w'.abs=(eG w.abs ops).1):de Pm (t+1) {c with aE:=gD,aL:=gF} w'/\tt=(eG w.abs ops).2.1/\wA er=(eG w.abs ops).2.2:=by
 have hk:=RJ hQ;obtain⟨hs,hJ⟩:=Tg h.J hQ;obtain⟨hr,hn⟩:=Ed h.rel ops;rw[<- hk]at hr hn;refine⟨⟨by rw[hw];exact hr,by rw[hw];exact Em h.inv h.rel ops,by rw[hw];exact GD h.Pz ho,hJ.mono hI,hW,h.cn1,dA⟩,?_,?_⟩
 ·exact congrArg Prod.fst hn
 ·exact congrArg Prod.snd hn
theorem de.b0(h:de I t c w):WB0 w.abs:=⟨h.rel.n,by have:=h.VQ;have h2:=congrArg List.length h.aE;simp only[cV]at h2;rw[WV.fA];omega,h.rel.Uv⟩
structure Z8(k i b:Int):Prop where
 p:∀ {σ:Gh} {c:CV} {I:HL} {eb:Nat->Nat×Nat} {t:Nat} {w:WV},ig I eb->de I t c w->(c.ai=false->rE σ c)->
  bC prog bP 42 #[aF c.G.b,aI k,aI i,aI b] σ [dw c,a7 I] (λv σ' As=>∃ er c' I',σ'=σ/\v=aI (wA er)/\eg c I (t*2^15+2^15) (t+1) (fJ c.abs k i b) er c' I'/\As=[dw c',a7 I'])
 w:∀ {ak:Bool} {I I':HL} {c:CV} {t bw:Nat} {w:WV},de I t c w->Sub I I'->
  aD prog ak bQ 74 #[aF bw,aI k,aI i,aI b] [wP bw w,a7 I'] (WQ bw I' (mY w.abs k i b).1 (aI (mY w.abs k i b).2))
 r:∀ {W:WP} {w:WR},gk W w->gk (fJ W k i b).1 (mY w k i b).1/\(fJ W k i b).2=(mY w k i b).2
 iv:∀ {W:WP} {w:WR} {t:Nat},iV t w->gk W w->iV (t+1) (mY w k i b).1
 g:∀ {w:WR},sP Lx w->sP Lx (mY w k i b).1
theorem de.do{k i b:Int}{er:Option Nat}(hD:Z8 k i b)(h:de I t c w)(hQ:eg c I (t*2^15+2^15) (t+1) (fJ c.abs k i b) er c' I')(dA:t+1<=2^41)(hI:Sub I' Pm)(hW:WI Pm w')(hw:w'.abs=(mY w.abs k i b).1):de Pm (t+1) c' w'/\wA er=(mY w.abs k i b).2:=by obtain⟨hr,hn⟩:=hD.r h.rel;rw[<- hQ.r]at hr hn;refine⟨⟨by rw[hw];exact hr,by rw[hw];exact hD.iv h.inv h.rel,by rw[hw];exact hD.g h.Pz,hQ.j.mono hI,hW,λv hv=>(hQ.cn v hv).mono az az,dA⟩,hn⟩
end
end
end Go.Sl
