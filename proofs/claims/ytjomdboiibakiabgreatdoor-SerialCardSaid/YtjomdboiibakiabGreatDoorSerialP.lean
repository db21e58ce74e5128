/-
  The law Serial: the call returns true, whatever the script; the script reads as it did. No condition of ours: the row's 'laid' (the variables start as the program's text lays them) is tied to the text by the card.
-/
import Derived.Test.YtjomdboiibakiabGreatDoorSeH
import Derived.RowKitTokens
import Derived.JoinedOf
import Derived.Test.YtjomdboiibakiabGreatDoorTie
import Derived.Test.YtjomdboiibakiabGreatDoorCards
set_option linter.unusedSimpArgs false
set_option linter.unusedVariables false
set_option linter.unusedVariables false
namespace Go.Sl
section
open Go.Proofs Go.Conc
variable{Post:Value->World->Prop}{os:Os}{out:Array (Nat×ByteArray)}{σ:Gh}{I:HL}{v:Value}{sc:List xy}{eb:Nat->Nat×Nat}
theorem G2(hE:ir I eb)(hi:Ah I σ.bot tw 6 v sc)(hs:∀ s∈sc,tA I σ.bot s)(hl:sc.length<=2^41)(h0:pN σ)
  (hp:∀ (I':HL) (w:World),Sub I I'->Sat [bD I'] (hp w.heap)->w.os=os->w.output=out->Post (.bool true) w):
  At (aE Tryz.prog Post bI σ 0 os out) 0 [bD I] (iS Tryz.prog 5 #[v] .qL []):=by
 refine At.enter ?_;have C:ab Tryz.prog true (bI.bw σ) (aE Tryz.prog Post bI σ 0 os out):=aE.ew;refine eP ?_;refine aE.j9 (F:=[]) (Jl hE h0) ?_;rintro v1 σ1 aP ⟨rfl,G4,qS,I1,gT,rfl⟩;refine cr ?_;have C:ab Tryz.prog true (bI.bw σ1) (aE Tryz.prog Post bI σ1 0 os out):=aE.ew;refine gu ?_;refine aE.j9 (F:=[]) (D8 (sc:=sc) (e:=false) (hE.mono gT) (by rw[G4];exact hi.mono gT) (λs h=>by rw[G4];exact(hs s h).mono gT) hl qS (λh=>by cases h)) ?_;rintro v2 σ2 aP ⟨rfl,UJ,agM,I2,qU,rfl⟩;refine cr ?_;have C:ab Tryz.prog true (bI.bw σ2) (aE Tryz.prog Post bI σ2 0 os out):=aE.ew;refine dK ?_;exact aE.quit [bD I2] (by kernel_rfl) agM.no (hp I2 · (gT.trans qU))
end
theorem Nl(Lk:Looks){p:Pinned}{s:OpenSpec}{c:OpenClaim}(kinds:List LaidKind)(RI:Bool)(Bx:Bool×String)(lk:Bool)
  (hc:c.holds p s) (hw:c.wfByText s=true)
  (agO:c.laidByTextAt Lk p kinds RI)
  (dI:c.start=.entering) (hnb:c.noBlocks=false/\c.again=false) (hm:p.checked.prog.mainIs=some (Bx.1,Bx.2.toList)) (hn:(!Bx.1&&Bx.2.isEmpty&& !lk)=false)
  (hl:∀ f fn,p.checked.prog.funcNamed c.func=some f->p.checked.prog.funcs[f]? =some fn->lk=p.checked.prog.looks []/\∀ (j:Nat) t,fn.params[j]? =some t->p.checked.prog.wantsStandIn t=false)
  (hg:true=c.goesBy p.checked.prog):
  Claim7.holds p (.plain s) {stood:={row:=c,standIns:=[],harness:=Bx,looks:=lk},kinds:=[],alts:=[],goes:=true,laidByText:=true,laidKinds:=kinds,laidTests:=RI,laidLooks:=Lk}:=by
 have h6:∀ r:OpenClaim,Claim7.isSixth {stood:={row:=r,standIns:=[],harness:=Bx,looks:=lk},kinds:=[]}=false:=λr=>by simpa[Claim7.isSixth]using hn
 exact⟨Claim7.tied_new_at Lk kinds RI (Claim7.new_of_sixth hc Bx lk dI hnb hm (h6 c) hl) hw,(λD hD=>by cases hD),agO,(λh=>by cases h),hg⟩
end Go.Sl
namespace Go.Proofs.YtjomdboiibakiabGreatDoor
open Go.Sl Go.ChangeShapes Go.WideShapes Go.RowKit
theorem Tryz.own:ownKnob Tryz.prog.godebug=none:=by kernel_rfl
abbrev UB(k:Nat):ByteArray:=⟨(oQ.getD k []).toArray⟩
noncomputable def agP:Nat:=(World.holding Tryz.prog default ⟨#[],#[],[]⟩).heap.size
noncomputable def CO (os:Os):World:=
 let w0:=World.holding Tryz.prog os ⟨#[.cells #[.string (UB 0)] 358,.cells #[.string (UB 1)] 358,.cells #[.string (UB 2)] 358,.cells #[.string (UB 3)] 358,.cells #[.string (UB 4)] 358,.cells #[.string (UB 5)] 358,.cells #[.string (UB 6)] 358,.cells #[.string (UB 7)] 358,.cells #[.string (UB 8)] 358],#[],[]⟩
 let put (h:Array Obj) (k:Nat):Array Obj:=h.modify (Mx k) λ
   |.cells _ t frozen=>.cells #[.iface 338 (.pointer (some ⟨agP+k,0,none⟩))] t frozen
   |o=>o
 let ty (h:Array Obj):Array Obj:=h.modify 5 λ
   |.cells _ t frozen=>.cells #[.iface 271 (.agg #[typeHandle Tryz.prog 64])] t frozen
   |o=>o
 {w0 with heap:=ty (put (put (put (put (put (put (put (put (put w0.heap 0) 1) 2) 3) 4) 5) 6) 7) 8)}
theorem Bj(os:Os)(args:Array Value):laidMetH Tryz.prog Rows.serialRow.laid ((CO os).forCall (λ_ _=>0) ⟨#[],args,[]⟩).memory:=
 laidMetH_of_parts (laidMet_of_run' 8 (by kernel_rfl) (by kernel_rfl)) (by kernel_rfl)
theorem Nm:(Rows.serialRow.laid.filter λx=>x.2.handleName?.isNone)=wO.map Zb:=by kernel_rfl
theorem Nn:(Rows.serialRow.laid.filter λx=>x.2.handleName?.isSome)=[("errors.errorType",Rows.laid_errors_errorType)]:=by kernel_rfl
theorem RJ{W:World}(h:laidMetH Tryz.prog Rows.serialRow.laid W)(hS:W.ShapedOpen Tryz.prog):∃ eb,ir (hp W.heap) eb:=
 GY Nm Nn (by kernel_rfl) (by kernel_rfl) h hS
set_option maxRecDepth 100000 in
theorem Bl(os:Os)(started:os.Started)(H:Type)(enc:TypeId×Value->H)(F:Stop.Interp):
  ReturnsInLeavingWide Rows.serialRow.assume Tryz.checked os 5 .any (λw args=>(Rows.serialSpec.pre enc Tryz.prog Tryz.f5 [] false w args/\laidMetH Tryz.prog Rows.serialRow.laid w)/\sizedMet enc Tryz.prog Tryz.f5 (OpenSpec.ofChange Rows.serialSpec) false w args)
   ((OpenSpec.ofChange Rows.serialSpec).postWith enc Tryz.prog Tryz.f5 F (outsideKept [.timePasses]) false true false):=by
 refine x8 (C:=Tryz.checked) (X:=λw _=>laidMetH Tryz.prog Rows.serialRow.laid w) (λ_ _ _ hh h=>h.of_heap hh) Tryz.own started Tryz.func5
  (Ea (enc:=enc) (C:=Tryz.checked) (os:=os) (X:=λw _=>laidMetH Tryz.prog Rows.serialRow.laid w) (CO os) #[.slice none 0 0] 8 rfl (by kernel_rfl) (by kernel_rfl) (by kernel_rfl) (by kernel_rfl) (by kernel_rfl) (Bj os _)) ?_
 intro W base args ds gs before hS HQ hW _ R4 hL;exact RH (s:=Rows.serialSpec) (by rw[Tryz.params5]) (by kernel_rfl) rfl (λd=>⟨rfl,rfl,rfl⟩) HQ hW R4 (RJ hL hS) G2
theorem agQ{a b:Bool}(ha:a=true)(hb:b=true):(a&&b)=true:=by rw[ha,hb];rfl
set_option maxHeartbeats 10000000 in
theorem Bm:joinedFacts Tryz.pinned.checked.prog 5 Tryz.f5 Rows.serialSpec Rows.serialRow=true:=by
 unfold joinedFacts
 repeat'(with_reducible refine agQ ?_ ?_)
 all_goals(as_aux_lemma=>kernel_rfl)
theorem Jo:Rows.SerialSaid:=
 OpenClaim.holds_of_wide_leaving_time 5 Tryz.f5 rfl rfl rfl rfl rfl rfl rfl ⟨rfl,rfl,rfl,rfl,rfl⟩ rfl rfl rfl rfl rfl (by kernel_rfl) Tryz.func5 Bm
  (of_decide_eq_true (by kernel_rfl)) (by unfold Func.isWrapper;rw[if_neg (of_decide_eq_false (by kernel_rfl))];exact⟨rfl,rfl⟩)
  (λos started H enc _ F=>Bl os started H enc F)
theorem serial_holds:Rows.SerialCardSaid:=
 Nl .later [.handle,.sentinel,.sentinel,.sentinel,.sentinel,.sentinel,.sentinel,.sentinel,.sentinel,.sentinel] true (true, "c25b69b8279477dd87ea33e111bf1d6a751b510cf9542e7f10bffb3e355354c8") true
  Jo (by kernel_rfl) serial_row_tie rfl ⟨rfl,rfl⟩ (by kernel_rfl) rfl
  (λf fn hf Vn=>by
   obtain rfl:f=5:=Option.some.inj ((show Tryz.prog.funcNamed "shardlog/shardloglaw.Serial"=some 5 by kernel_rfl).symm.trans hf) |>.symm;obtain rfl:fn=Tryz.f5:=(Option.some.inj (Tryz.func5.symm.trans Vn)).symm;exact⟨by kernel_rfl,λj t ht=>by
    rw[Tryz.params5]at ht
    match j,ht with
    |0,ht=>
     obtain rfl:22=t:=by simpa using ht
     show Tryz.prog.wantsStandIn 22=false
     kernel_rfl
    |j+1,ht=>simp at ht⟩)
  (by kernel_rfl)
#print axioms serial_holds
end Go.Proofs.YtjomdboiibakiabGreatDoor
