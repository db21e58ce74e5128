/-
  The law Names: the walk of plain.all and plain.Different: nine listed errors, nine different pointers: the answer is true.
-/
import Derived.Test.YtjomdboiibakiaaDoorRows
import Derived.Tactics
import Derived.Tactics2
import Derived.StillTactics
import Derived.WalkKit
import Derived.Laws.Pointers
import Derived.Laws.Alloc2
import Derived.Laws.Build
import Derived.Laws.ByValue
import Derived.Laws.Cells
import Derived.Laws.Entries
import Derived.Laws.NewBlocks
import Derived.Laws.NewDeep
import Derived.Laws.NewFold
import Derived.Laws.Small
import Derived.Laws.Sem
import Derived.Laws.StructEq
import Derived.Laws.World
import Derived.RegionTactic
import Derived.LoopTactic
import Derived.ChangeAlike
import Derived.RowKitTokens
import Derived.LaidEql
import Derived.LaidLaws
import Derived.Lib.Hide
import Derived.Outline
import Derived.WideLaws
namespace Go.Proofs.YtjomdboiibakiaaDoor
open Go.RowKit

/-- What the walk asks of the world: the nine variables' cells, nine different pointers, each to a plain block. -/
structure Nine (w : World) (a : Nat → Addr) : Prop where
  cell : ∀ k, k < 9 → w.cell? ⟨k, 0, none⟩ = some (.iface 27 (.pointer (some (a k))))
  apart : ∀ i k, i < k → k < 9 → a i ≠ a k
  row : ∀ k, k < 9 → ∃ c t, w.heap[(a k).block]? = some (.cells c t (0, 0))

def errAt (a : Nat → Addr) (k : Nat) : Value := .iface 27 (.pointer (some (a k)))
def errs (a : Nat → Addr) : Array Value := #[errAt a 0, errAt a 1, errAt a 2, errAt a 3, errAt a 4, errAt a 5, errAt a 6, errAt a 7, errAt a 8]

set_option maxHeartbeats 400000 in
theorem all_any (a : Nat → Addr) (w : World) (h : Nine w a) :
    Calls Tryd.prog 5 #[] w fun e w' => e = .returned (.slice (some ⟨w.heap.size, 0, none⟩) 9 9) ∧ w' = w.alloc (.cells (errs a) 26) := by
  have c0 := h.cell 0 (by omega)
  have c1 := h.cell 1 (by omega)
  have c2 := h.cell 2 (by omega)
  have c3 := h.cell 3 (by omega)
  have c4 := h.cell 4 (by omega)
  have c5 := h.cell 5 (by omega)
  have c6 := h.cell 6 (by omega)
  have c7 := h.cell 7 (by omega)
  have c8 := h.cell 8 (by omega)
  go_enter Tryd.func5, Tryd.ntmps5
  go_wp2
  go_ret
  exact ⟨rfl, rfl⟩

theorem lt_of_row {w : World} {b : Nat} {o : Obj} (h : w.heap[b]? = some o) : b < w.heap.size := (Array.getElem?_eq_some_iff.1 h).1

theorem alloc_cell (w : World) (cs : Array Value) (t : TypeId) (k : Nat) : (w.alloc (.cells cs t)).cell? ⟨w.heap.size, k, none⟩ = cs[k]? := by
  have e : (w.alloc (.cells cs t)).heap[w.heap.size]? = some (.cells cs t) := by
    show (w.heap.push _)[w.heap.size]? = _
    simp
  simp only [World.cell?]; rw [e]; rfl
theorem alloc_row (w : World) (x o : Obj) (b : Nat) (h : w.heap[b]? = some o) : (w.alloc x).heap[b]? = some o := by
  have := lt_of_row h
  show (w.heap.push x)[b]? = _
  rw [Array.getElem?_push, if_neg (by omega)]; exact h
theorem errs_at (a : Nat → Addr) (k : Nat) (h : k < 9) : (errs a)[k]? = some (errAt a k) := by
  match k, h with
  | 0, _ => rfl
  | 1, _ => rfl
  | 2, _ => rfl
  | 3, _ => rfl
  | 4, _ => rfl
  | 5, _ => rfl
  | 6, _ => rfl
  | 7, _ => rfl
  | 8, _ => rfl

theorem Tryd.comp27 : (Tryd.prog.info? 27).map (·.comparable) = some true := by kernel_rfl
theorem Tryd.size45 : (Tryd.prog.info? 45).map (·.size) = some 1 := by kernel_rfl

theorem eql_other (a : Nat → Addr) (w : World) (h : Nine w a) (i k : Nat) (hki : k < i) (hi : i < 9) :
    (binOp .eql 26 (.iface 27 (.pointer (some (a k)))) (.iface 27 (.pointer (some (a i))))).run Tryd.prog (w.alloc (.cells (errs a) 26)) = .ok (.bool false) (w.alloc (.cells (errs a) 26)) := by
  obtain ⟨x, hx, hcmp⟩ := Option.map_eq_some_iff.1 Tryd.comp27
  obtain ⟨j, hj, hjs⟩ := Option.map_eq_some_iff.1 Tryd.size45
  obtain ⟨c1, t1, h1⟩ := h.row k (by omega)
  obtain ⟨c2, t2, h2⟩ := h.row i (by omega)
  exact run_eql_iface_ptr_other _ Tryd.underlying26 Tryd.underlying27 hx hcmp hj (by rw [hjs]; decide) (h.apart k i hki hi) (alloc_row _ _ _ _ h1) (alloc_row _ _ _ _ h2)

set_option maxHeartbeats 1000000 in
theorem different_any (a : Nat → Addr) (w : World) (h : Nine w a) :
    Calls Tryd.prog 4 #[] w fun e w' => e = .returned (.bool true) ∧ w' = w.alloc (.cells (errs a) 26) := by
  obtain ⟨W, hW⟩ : ∃ W, W = w.alloc (.cells (errs a) 26) := ⟨_, rfl⟩
  have hall : Calls Tryd.prog 5 #[] w fun e w' => e = .returned (.slice (some ⟨w.heap.size, 0, none⟩) 9 9) ∧ w' = W := by rw [hW]; exact all_any a w h
  have heql : ∀ i k : Nat, k < i → i < 9 → (binOp .eql 26 (.iface 27 (.pointer (some (a k)))) (.iface 27 (.pointer (some (a i))))).run Tryd.prog W = .ok (.bool false) W := by rw [hW]; exact eql_other a w h
  have hcell : ∀ k : Nat, k < 9 → W.cell? ⟨w.heap.size, k, none⟩ = some (.iface 27 (.pointer (some (a k)))) := fun k hk => by rw [hW, alloc_cell, errs_at a k hk]; rfl
  rw [← hW]
  clear h
  generalize w.heap.size = B at *
  have H1 := Lib.hid heql
  have H2 := Lib.hid hcell
  clear heql hcell hW
  go_enter Tryd.func4, Tryd.ntmps4
  go_wp2_with (go_at_call 5; refine hall.mono ?_; rintro e w' ⟨rfl, rfl⟩)
  clear hall
  go_loop [8] (fun i => ∃ k : Nat, k ≤ 9 ∧ i = .int .i64 k) (fun i => 9 - (intOf i).toNat)
  case atStart => exact ⟨0, by omega, rfl⟩
  case round =>
    obtain ⟨i, hi, rfl⟩ := hrel
    by_cases hlt : i < 9
    · have hc := H2.out i hlt
      go_wp2
      go_loop [4] (fun i' => ∃ k : Nat, k ≤ i ∧ i' = .int .i64 k) (fun i' => i - (intOf i').toNat)
      case atStart => exact ⟨0, by omega, rfl⟩
      case round =>
        obtain ⟨k, hk, rfl⟩ := hrel
        by_cases hki : k < i
        · have hck := H2.out k (by omega)
          have he := H1.out i k hki hlt
          go_wp2
          go_round
          case rel => exact ⟨k + 1, by omega, by go_num⟩
          case measure => simp [intOf]; omega
        · go_wp2
          go_round
          case rel => exact ⟨i + 1, by omega, by go_num⟩
          case measure => simp [intOf]; omega
    · go_wp2
      go_ret
      exact ⟨rfl, rfl⟩

theorem names_any (a : Nat → Addr) (w : World) (h : Nine w a) :
    Calls Tryd.prog 3 #[] w fun e w' => e = .returned (.bool true) ∧ w' = w.alloc (.cells (errs a) 26) := by
  go_enter Tryd.func3, Tryd.ntmps3
  go_wp2_with (go_at_call 4; refine (different_any a w h).mono ?_; rintro e w' ⟨rfl, rfl⟩)
  go_ret
  exact ⟨rfl, rfl⟩
end Go.Proofs.YtjomdboiibakiaaDoor
