/-
  The law Client: the call returns true, whatever the script; the script reads as it did. No condition of ours: the row's 'laid' (the variables start as the program's text lays them) is tied to the text by the card.
-/
import Derived.Test.YtjomdboiibakiaaGreatDoorCtE
import Derived.Test.YtjomdboiibakiaaGreatDoorTie
import Derived.Test.YtjomdboiibakiaaGreatDoorCards
import Derived.RowKitTokens
import Derived.JoinedOf
set_option linter.unusedSimpArgs false
set_option linter.unusedVariables false
set_option linter.unusedVariables false
namespace Go.Sl
theorem card_goes (Lk : Looks) {p : Pinned} {s : OpenSpec} {c : OpenClaim} (kinds : List LaidKind) (tests : Bool) (har : Bool × String) (lk : Bool)
  (hc : c.holds p s) (hw : c.wfByText s = true)
  (htie : c.laidByTextAt Lk p kinds tests)
  (hst : c.start = .entering) (hnb : c.noBlocks = false ∧ c.again = false) (hm : p.checked.prog.mainIs = some (har.1, har.2.toList)) (hn : (!har.1 && har.2.isEmpty && !lk) = false)
  (hl : ∀ f fn, p.checked.prog.funcNamed c.func = some f → p.checked.prog.funcs[f]? = some fn → lk = p.checked.prog.looks [] ∧ ∀ (j : Nat) t, fn.params[j]? = some t → p.checked.prog.wantsStandIn t = false)
  (hg : true = c.goesBy p.checked.prog) :
  Claim7.holds p (.plain s) { stood := { row := c, standIns := [], harness := har, looks := lk }, kinds := [], alts := [], goes := true, laidByText := true, laidKinds := kinds, laidTests := tests, laidLooks := Lk } := by
 have h6 : ∀ r : OpenClaim, Claim7.isSixth { stood := { row := r, standIns := [], harness := har, looks := lk }, kinds := [] } = false := fun r => by simpa [Claim7.isSixth] using hn
 exact ⟨Claim7.tied_new_at Lk kinds tests (Claim7.new_of_sixth hc har lk hst hnb hm (h6 c) hl) hw, (fun D hD => by cases hD), htie, (fun h => by cases h), hg⟩
end Go.Sl
namespace Go.Proofs.YtjomdboiibakiaaGreatDoor
open Go.Sl Go.ChangeShapes Go.WideShapes Go.RowKit
theorem Tryz.own : ownKnob Tryz.prog.godebug = none := by kernel_rfl
abbrev bsE (k : Nat) : ByteArray := ⟨(textsE.getD k []).toArray⟩
noncomputable def lowW : Nat := (World.holding Tryz.prog default ⟨#[], #[], []⟩).heap.size
noncomputable def laidWorld (os : Os) : World :=
 let w0 := World.holding Tryz.prog os ⟨#[.cells #[.string (bsE 0)] 359, .cells #[.string (bsE 1)] 359, .cells #[.string (bsE 2)] 359, .cells #[.string (bsE 3)] 359, .cells #[.string (bsE 4)] 359, .cells #[.string (bsE 5)] 359, .cells #[.string (bsE 6)] 359, .cells #[.string (bsE 7)] 359, .cells #[.string (bsE 8)] 359], #[], []⟩
 let put (h : Array Obj) (k : Nat) : Array Obj := h.modify (errG k) fun
   | .cells _ t frozen => .cells #[.iface 339 (.pointer (some ⟨lowW + k, 0, none⟩))] t frozen
   | o => o
 let ty (h : Array Obj) : Array Obj := h.modify 4 fun
   | .cells _ t frozen => .cells #[.iface 231 (.agg #[typeHandle Tryz.prog 46])] t frozen
   | o => o
 { w0 with heap := ty (put (put (put (put (put (put (put (put (put w0.heap 0) 1) 2) 3) 4) 5) 6) 7) 8) }
theorem laidWorld_met (os : Os) (args : Array Value) : laidMetH Tryz.prog Rows.clientRow.laid ((laidWorld os).forCall (fun _ _ => 0) ⟨#[], args, []⟩).memory :=
 laidMetH_of_parts (laidMet_of_run' 8 (by kernel_rfl) (by kernel_rfl)) (by kernel_rfl)
theorem laid_none : (Rows.clientRow.laid.filter fun x => x.2.handleName?.isNone) = pairsE.map oneE := by kernel_rfl
theorem laid_some : (Rows.clientRow.laid.filter fun x => x.2.handleName?.isSome) = [("errors.errorType", Rows.laid_errors_errorType)] := by kernel_rfl
theorem laid_err {W : World} (h : laidMetH Tryz.prog Rows.clientRow.laid W) (hS : W.ShapedOpen Tryz.prog) : ∃ eb, ErrI (hp W.heap) eb :=
 err_of_laid laid_none laid_some (by kernel_rfl) (by kernel_rfl) h hS
set_option maxRecDepth 100000 in
theorem client_lifted (os : Os) (started : os.Started) (H : Type) (enc : TypeId × Value → H) (F : Stop.Interp) :
  ReturnsInLeavingWide Rows.clientRow.assume Tryz.checked os 4 .any (fun w args => (Rows.clientSpec.pre enc Tryz.prog Tryz.f4 [] false w args ∧ laidMetH Tryz.prog Rows.clientRow.laid w) ∧ sizedMet enc Tryz.prog Tryz.f4 (OpenSpec.ofChange Rows.clientSpec) false w args)
   ((OpenSpec.ofChange Rows.clientSpec).postWith enc Tryz.prog Tryz.f4 F (outsideKept [.timePasses]) false true false) := by
 refine leaving_of_ends (C := Tryz.checked) (X := fun w _ => laidMetH Tryz.prog Rows.clientRow.laid w) (fun _ _ _ hh h => h.of_heap hh) Tryz.own started Tryz.func4
  (witness_calm (enc := enc) (C := Tryz.checked) (os := os) (X := fun w _ => laidMetH Tryz.prog Rows.clientRow.laid w) (laidWorld os) #[.slice none 0 0] 8 rfl (by kernel_rfl) (by kernel_rfl) (by kernel_rfl) (by kernel_rfl) (by kernel_rfl) (laidWorld_met os _)) ?_
 intro W base args ds gs before hS hval hW _ hwt hL
 exact law_ends (s := Rows.clientSpec) (by rw [Tryz.params4]) (by kernel_rfl) rfl (fun d => ⟨rfl, rfl, rfl⟩) hval hW hwt (laid_err hL hS) client_run
theorem andI {a b : Bool} (ha : a = true) (hb : b = true) : (a && b) = true := by rw [ha, hb]; rfl
set_option maxHeartbeats 10000000 in
theorem client_closed : joinedFacts Tryz.pinned.checked.prog 4 Tryz.f4 Rows.clientSpec Rows.clientRow = true := by
 unfold joinedFacts
 repeat' (with_reducible refine andI ?_ ?_)
 all_goals (as_aux_lemma => kernel_rfl)
theorem client_row : Rows.ClientSaid :=
 OpenClaim.holds_of_wide_leaving_time 4 Tryz.f4 rfl rfl rfl rfl rfl rfl rfl ⟨rfl, rfl, rfl, rfl, rfl⟩ rfl rfl rfl rfl rfl (by kernel_rfl) Tryz.func4 client_closed
  (of_decide_eq_true (by kernel_rfl)) (by unfold Func.isWrapper; rw [if_neg (of_decide_eq_false (by kernel_rfl))]; exact ⟨rfl, rfl⟩)
  (fun os started H enc _ F => client_lifted os started H enc F)
theorem client_holds : Rows.ClientCardSaid :=
 card_goes .later [.handle, .sentinel, .sentinel, .sentinel, .sentinel, .sentinel, .sentinel, .sentinel, .sentinel, .sentinel] true (true, "4d5a9d765b5a1b76c7c4a7de9161f54f18bc8c5547664cc40dfa081422e05076") true
  client_row (by kernel_rfl) client_row_tie rfl ⟨rfl, rfl⟩ (by kernel_rfl) rfl
  (fun f fn hf hfn => by
   obtain rfl : f = 4 := Option.some.inj ((show Tryz.prog.funcNamed "shardlog/shardloglaw.Client" = some 4 by kernel_rfl).symm.trans hf) |>.symm
   obtain rfl : fn = Tryz.f4 := (Option.some.inj (Tryz.func4.symm.trans hfn)).symm
   exact ⟨by kernel_rfl, fun j t ht => by
    rw [Tryz.params4] at ht
    match j, ht with
    | 0, ht =>
     obtain rfl : 22 = t := by simpa using ht
     show Tryz.prog.wantsStandIn 22 = false
     kernel_rfl
    | j + 1, ht => simp at ht⟩)
  (by kernel_rfl)
#print axioms client_holds
end Go.Proofs.YtjomdboiibakiaaGreatDoor
