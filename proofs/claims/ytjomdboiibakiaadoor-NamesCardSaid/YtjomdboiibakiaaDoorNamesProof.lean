/-
  The law Names: the nine errors of package cluster are different ones: the call returns true. No condition of ours: the row's 'laid' (the variables start asl the program's text lays them) is tied to the text by the card.
-/
import Derived.Test.YtjomdboiibakiaaDoorNamesWalk
import Derived.Test.YtjomdboiibakiaaDoorTie
import Derived.Test.YtjomdboiibakiaaDoorCards
import Derived.ChangeSame
import Derived.ChangeVars
import Derived.JoinedOf
import Derived.RowKit
import Derived.RowKitTokens
import Derived.LaidLaws
import Derived.SevenTiedAt
namespace Go.Proofs.YtjomdboiibakiaaDoor
open Go.ChangeShapes Go.WideShapes Go.RowKit

theorem Tryd.own : ownKnob Tryd.prog.godebug = none := by kernel_rfl
theorem Tryd.cells45 : Tryd.prog.cellsOf 45 = 1 := by kernel_rfl
theorem Tryd.cells9 : Tryd.prog.cellsOf 9 = 1 := by kernel_rfl
theorem Tryd.star : "*" ++ "errors.errorString" = "*errors.errorString" := by decide
theorem Tryd.row27 (u : TypeId) (h : Tryd.prog.typeName? 3 u = some "*errors.errorString") : u = 27 :=
  typeName_ptr_named (nm := "errors.errorString") (by rw [Tryd.star]; kernel_rfl) (by kernel_rfl) (by decide) u (by rw [Tryd.star]; exact h)

/-- One listed error: its name, its text. -/
def one (x : String × List UInt8) : String × DataW Unit := (x.1, .iface "*errors.errorString" (.ptr (.agg [.lit (.string x.2)])))

/-- What the list gives: one pointer a name, each place of a list of its own. -/
theorem sentinels {W : World} : ∀ (l : List (String × List UInt8)) (ps : List MemPlace), DataW.LaidVars Tryd.prog W (l.map one) ps → ps.Nodup →
    (∀ b off, MemPlace.cell b off ∈ ps → (∃ c t, W.heap[b]? = some (.cells c t (0, 0))) ∧ ∀ u v, W.cell? ⟨b, off, none⟩ = some (.iface u v) → Value.okWide Tryd.prog W .any 0 u v) →
    (∀ n, n ∈ l.map (·.1) → ∃ g, Tryd.prog.globalNamed n = some g ∧ (Tryd.prog.globals[g]?).map (·.type) = some 26) →
    ∃ asl : List Addr, asl.length = l.length ∧ (∀ (k : Nat) (x : String × List UInt8), l[k]? = some x → ∃ a, asl[k]? = some a ∧ W.var? Tryd.prog x.1 = some #[.iface 27 (.pointer (some a))]) ∧
      asl.Pairwise (· ≠ ·) ∧ (∀ a ∈ asl, MemPlace.cell a.block a.off ∈ ps) := by
  intro l
  induction l with
  | nil => intro ps _ _ _ _; exact ⟨[], rfl, fun k x h => by simp at h, List.Pairwise.nil, fun a h => by simp at h⟩
  | cons x l ih =>
    intro ps hL hnd hrows hg
    obtain ⟨g0, t0, cs0, f0, p0, q0, hg0, ht0, hv0, hd0, hq, e0⟩ := hL
    obtain ⟨g, hg', ht'⟩ := hg x.1 (by simp)
    have hgx : Tryd.prog.globalNamed x.1 = some g0 := hg0
    obtain rfl := Option.some.inj (hgx.symm.trans hg')
    obtain rfl := Option.some.inj (ht'.symm.trans ht0)
    obtain ⟨l0⟩ := cs0
    subst e0
    have ok0 : ∀ u v, l0 = [.iface u v] → Value.okWide Tryd.prog W .any 0 u v := fun u v e => by
      subst e
      exact (hrows g0 0 (by simp [MemPlace.row])).2 u v (by simpa using World.var?_cell hg0 hv0 0)
    obtain ⟨a0, s0, rfl, hc0, hs0, hz0, rfl⟩ := errorString_of_trod Tryd.underlying26 Tryd.row27 Tryd.underlying27 Tryd.underlying45 rfl rfl Tryd.underlying9 Tryd.cells45 Tryd.cells9 hd0 ok0
    have hnq : q0.Nodup := List.Nodup.sublist (List.sublist_append_right _ _) hnd
    obtain ⟨asl, hl, hall, hp, hm⟩ := ih q0 hq hnq (fun b off h => hrows b off (List.mem_append_right _ h)) (fun n hn => hg n (by simp at hn ⊢; exact .inr hn))
    have hin : MemPlace.cell a0.block a0.off ∈ MemPlace.row a0 1 := by simp [MemPlace.row]
    refine ⟨a0 :: asl, by simp [hl], fun k y hk => ?_, List.Pairwise.cons (fun a ha e => ?_) hp, fun a ha => ?_⟩
    · cases k with
      | zero => simp at hk; subst hk; exact ⟨a0, rfl, hv0⟩
      | succ k => simp at hk; simpa using hall k y hk
    · subst e
      rw [List.nodup_append] at hnd
      exact hnd.2.2 _ (List.mem_append_right _ hin) _ (hm a0 ha) rfl
    · rcases List.mem_cons.1 ha with rfl | ha
      · exact List.mem_append_left _ (List.mem_append_right _ hin)
      · exact List.mem_append_right _ (hm a ha)

def nm (k : Nat) : String := ["shardlog/cluster.ErrShape", "shardlog/cluster.ErrOps", "shardlog/cluster.ErrMany", "shardlog/cluster.ErrTx", "shardlog/cluster.ErrMessage", "shardlog/cluster.ErrShard", "shardlog/cluster.ErrDown", "shardlog/cluster.ErrUp", "shardlog/cluster.ErrStopped"].getD k ""
theorem Tryd.g0 : Tryd.prog.globalNamed (nm 0) = some 0 ∧ (Tryd.prog.globals[0]?).map (·.type) = some 26 := ⟨by kernel_rfl, by kernel_rfl⟩
theorem Tryd.g1 : Tryd.prog.globalNamed (nm 1) = some 1 ∧ (Tryd.prog.globals[1]?).map (·.type) = some 26 := ⟨by kernel_rfl, by kernel_rfl⟩
theorem Tryd.g2 : Tryd.prog.globalNamed (nm 2) = some 2 ∧ (Tryd.prog.globals[2]?).map (·.type) = some 26 := ⟨by kernel_rfl, by kernel_rfl⟩
theorem Tryd.g3 : Tryd.prog.globalNamed (nm 3) = some 3 ∧ (Tryd.prog.globals[3]?).map (·.type) = some 26 := ⟨by kernel_rfl, by kernel_rfl⟩
theorem Tryd.g4 : Tryd.prog.globalNamed (nm 4) = some 4 ∧ (Tryd.prog.globals[4]?).map (·.type) = some 26 := ⟨by kernel_rfl, by kernel_rfl⟩
theorem Tryd.g5 : Tryd.prog.globalNamed (nm 5) = some 5 ∧ (Tryd.prog.globals[5]?).map (·.type) = some 26 := ⟨by kernel_rfl, by kernel_rfl⟩
theorem Tryd.g6 : Tryd.prog.globalNamed (nm 6) = some 6 ∧ (Tryd.prog.globals[6]?).map (·.type) = some 26 := ⟨by kernel_rfl, by kernel_rfl⟩
theorem Tryd.g7 : Tryd.prog.globalNamed (nm 7) = some 7 ∧ (Tryd.prog.globals[7]?).map (·.type) = some 26 := ⟨by kernel_rfl, by kernel_rfl⟩
theorem Tryd.g8 : Tryd.prog.globalNamed (nm 8) = some 8 ∧ (Tryd.prog.globals[8]?).map (·.type) = some 26 := ⟨by kernel_rfl, by kernel_rfl⟩
theorem Tryd.gk : ∀ k, k < 9 → Tryd.prog.globalNamed (nm k) = some k ∧ (Tryd.prog.globals[k]?).map (·.type) = some 26
  | 0, _ => Tryd.g0
  | 1, _ => Tryd.g1
  | 2, _ => Tryd.g2
  | 3, _ => Tryd.g3
  | 4, _ => Tryd.g4
  | 5, _ => Tryd.g5
  | 6, _ => Tryd.g6
  | 7, _ => Tryd.g7
  | 8, _ => Tryd.g8

def texts : List (List UInt8) := [[110, 111, 32, 115, 117, 99, 104, 32, 99, 108, 117, 115, 116, 101, 114], [110, 111, 32, 116, 114, 97, 110, 115, 97, 99, 116, 105, 111, 110], [116, 111, 111, 32, 109, 97, 110, 121],
  [110, 111, 32, 115, 117, 99, 104, 32, 116, 114, 97, 110, 115, 97, 99, 116, 105, 111, 110], [110, 111, 32, 115, 117, 99, 104, 32, 109, 101, 115, 115, 97, 103, 101], [110, 111, 32, 115, 117, 99, 104, 32, 115, 104, 97, 114, 100],
  [97, 32, 115, 104, 97, 114, 100, 32, 116, 104, 97, 116, 32, 105, 115, 32, 100, 111, 119, 110], [97, 32, 115, 104, 97, 114, 100, 32, 116, 104, 97, 116, 32, 105, 115, 32, 117, 112], [116, 104, 101, 32, 99, 108, 117, 115, 116, 101, 114, 32, 104, 97, 115, 32, 98, 101, 101, 110, 32, 115, 116, 111, 112, 112, 101, 100]]
def pairs : List (String × List UInt8) := [(nm 0, texts.getD 0 []), (nm 1, texts.getD 1 []), (nm 2, texts.getD 2 []), (nm 3, texts.getD 3 []), (nm 4, texts.getD 4 []), (nm 5, texts.getD 5 []), (nm 6, texts.getD 6 []), (nm 7, texts.getD 7 []), (nm 8, texts.getD 8 [])]
theorem laid_eq : (Rows.namesRow.laid : List (String × DataW Unit)) = pairs.map one := rfl
theorem pairs_nm : ∀ k, k < 9 → (pairs[k]?).map (·.1) = some (nm k)
  | 0, _ => rfl
  | 1, _ => rfl
  | 2, _ => rfl
  | 3, _ => rfl
  | 4, _ => rfl
  | 5, _ => rfl
  | 6, _ => rfl
  | 7, _ => rfl
  | 8, _ => rfl

theorem nine_of_laid {W : World} (h : laidMet Tryd.prog Rows.namesRow.laid W) : ∃ a, Nine W a := by
  obtain ⟨ps, hL, hnd, hrows⟩ := h
  rw [laid_eq] at hL
  have hgs : ∀ n, n ∈ pairs.map (·.1) → ∃ g, Tryd.prog.globalNamed n = some g ∧ (Tryd.prog.globals[g]?).map (·.type) = some 26 := fun n hn => by
    rw [show pairs.map (·.1) = [nm 0, nm 1, nm 2, nm 3, nm 4, nm 5, nm 6, nm 7, nm 8] from rfl] at hn
    simp only [List.mem_cons, List.not_mem_nil, or_false] at hn
    rcases hn with h | h | h | h | h | h | h | h | h
    all_goals rw [h]; exact ⟨_, Tryd.gk _ (by omega)⟩
  obtain ⟨asl, hl, hall, hp, hm⟩ := sentinels pairs ps hL hnd hrows hgs
  have hl9 : asl.length = 9 := hl
  refine ⟨fun k => asl.getD k ⟨0, 0, none⟩, fun k hk => ?_, fun i k hik hk => ?_, fun k hk => ?_⟩
  · obtain ⟨x, hx, hx'⟩ := Option.map_eq_some_iff.1 (pairs_nm k hk)
    obtain ⟨a, ha, hv⟩ := hall k x hx
    rw [hx'] at hv
    have := World.var?_cell (Tryd.gk k hk).1 hv 0
    simpa [List.getD, ha] using this
  · have h1 : i < asl.length := by omega
    have h2 : k < asl.length := by omega
    have := List.pairwise_iff_getElem.1 hp i k h1 h2 hik
    simpa [List.getD, h1, h2] using this
  · have h2 : k < asl.length := by omega
    have := hm asl[k] (List.getElem_mem h2)
    simpa [List.getD, h2] using (hrows _ _ this).1

abbrev bs (k : Nat) : ByteArray := ⟨(texts.getD k []).toArray⟩
noncomputable def low : Nat := (World.holding Tryd.prog default ⟨#[], #[], []⟩).heap.size
noncomputable def laidWorld (os : Os) : World :=
  let w0 := World.holding Tryd.prog os ⟨#[.cells #[.string (bs 0)] 45, .cells #[.string (bs 1)] 45, .cells #[.string (bs 2)] 45, .cells #[.string (bs 3)] 45, .cells #[.string (bs 4)] 45, .cells #[.string (bs 5)] 45, .cells #[.string (bs 6)] 45, .cells #[.string (bs 7)] 45, .cells #[.string (bs 8)] 45], #[], []⟩
  let put (h : Array Obj) (k : Nat) : Array Obj := h.modify k fun
      | .cells _ t frozen => .cells #[.iface 27 (.pointer (some ⟨low + k, 0, none⟩))] t frozen
      | o => o
  { w0 with heap := put (put (put (put (put (put (put (put (put w0.heap 0) 1) 2) 3) 4) 5) 6) 7) 8 }

theorem laidWorld_met (os : Os) (args : Array Value) : laidMet Tryd.prog Rows.namesRow.laid ((laidWorld os).forCall (fun _ _ => 0) ⟨#[], args, []⟩).memory :=
  laidMet_of_run (ps := [.cell 0 0, .cell low 0, .cell 1 0, .cell (low + 1) 0, .cell 2 0, .cell (low + 2) 0, .cell 3 0, .cell (low + 3) 0, .cell 4 0, .cell (low + 4) 0, .cell 5 0, .cell (low + 5) 0, .cell 6 0, .cell (low + 6) 0, .cell 7 0, .cell (low + 7) 0, .cell 8 0, .cell (low + 8) 0]) 8 (by kernel_rfl) (by kernel_rfl) (by kernel_rfl)

set_option maxRecDepth 100000 in
theorem names_lifted (os : Os) (started : os.Started) (H : Type) (enc : TypeId × Value → H) :
    ReturnsInHanded {} Tryd.checked os 3 .any (fun w args => (Rows.namesSpec.pre enc Tryd.prog Tryd.f3 [] false w args ∧ laidMet Tryd.prog Rows.namesRow.laid w) ∧ sizedMet enc Tryd.prog Tryd.f3 (OpenSpec.ofChange Rows.namesSpec) false w args)
      (Rows.namesSpec.post enc Tryd.prog Tryd.f3 false true false false) := by
  refine returnsInHanded_of_change_and (C := Tryd.checked) (X := fun w _ => laidMet Tryd.prog Rows.namesRow.laid w) (fun _ _ _ hh h => h.of_heap hh) Tryd.own started (by kernel_rfl) Tryd.func3
    (ChangeSpec.witness_at (enc := enc) (C := Tryd.checked) (os := os) (X := fun w _ => laidMet Tryd.prog Rows.namesRow.laid w) false (laidWorld os) #[] 8 rfl (by kernel_rfl) (by kernel_rfl) (by kernel_rfl) (by kernel_rfl) (by kernel_rfl) (laidWorld_met os _)) ?_
  intro W base args ds gs before hval0 hW _ _ hL _
  have hW' := hW
  obtain ⟨p, q, hA0, hV0, rfl, hfz, hnd⟩ := hW
  have hA : DataW.TrodAll enc Tryd.prog W 0 (fun _ => true) true Tryd.f3.params.toList args.toList ds p := hA0
  have hV : DataW.TrodVars enc Tryd.prog W (fun _ => true) [] gs q := hV0
  rw [Tryd.params3] at hA
  obtain ⟨al⟩ := args
  have hal : al = [] ∧ ds = [] := by
    cases al with
    | nil => cases ds with
      | nil => exact ⟨rfl, rfl⟩
      | cons d r => exact absurd hA (by intro h; cases h)
    | cons v r => exact absurd hA (by intro h; cases h)
  obtain ⟨rfl, rfl⟩ := hal
  obtain ⟨a, hN⟩ := nine_of_laid hL
  obtain ⟨rfl, rfl⟩ : gs = [] ∧ q = [] := by
    cases gs with
    | nil => exact ⟨rfl, hV⟩
    | cons g r => exact absurd hV (by intro h; cases h)
  have e1 : Rows.namesSpec.fn H ([] ++ []) = { results := [.lit (.bool true)], args := [] } := by simp [Rows.namesSpec]
  refine (names_any a W hN).mono fun e W' ⟨he, hw⟩ => ?_
  subst he; subst hw
  refine ⟨_, rfl, _, _, _, [], [], [], hW', ?_, ?_, ?_, World.keptBut_alloc _ _ _, fun h => by cases h⟩
  · rw [e1]; exact trodAll_mk1 (shut_bool Tryd.underlying4 true)
  · rw [e1]; rfl
  · rw [e1]; rfl

theorem names_row : Rows.NamesSaid :=
  OpenClaim.holds_of_wide 3 Tryd.f3 rfl rfl rfl rfl rfl rfl rfl ⟨rfl, rfl, rfl, rfl, rfl⟩ rfl rfl rfl rfl rfl (by kernel_rfl) Tryd.func3 (by kernel_rfl)
    (of_decide_eq_true (by kernel_rfl)) (by unfold Func.isWrapper; rw [if_neg (of_decide_eq_false (by kernel_rfl))]; exact ⟨rfl, rfl⟩)
    (fun os started H enc _ => names_lifted os started H enc)

theorem names_holds : Rows.NamesCardSaid :=
  Claim7.holds_tied_plain_at .later [] [.sentinel, .sentinel, .sentinel, .sentinel, .sentinel, .sentinel, .sentinel, .sentinel, .sentinel] true (true, "1c8c7b27c9957367010e7d60b073be09ffd85427c402aefafe2e77a009c7513f") true
    names_row (fun _ h => by cases h) (by kernel_rfl) (fun _ h => by cases h) names_row_tie rfl ⟨rfl, rfl⟩ (by kernel_rfl) rfl
    (fun f fn hf hfn => by
      obtain rfl : f = 3 := Option.some.inj ((show Tryd.prog.funcNamed "shardlog/shardloglaw.Names" = some 3 by kernel_rfl).symm.trans hf) |>.symm
      obtain rfl : fn = Tryd.f3 := (Option.some.inj (Tryd.func3.symm.trans hfn)).symm
      exact ⟨by kernel_rfl, fun j t ht => by
        rw [Tryd.params3] at ht
        simp at ht⟩)
    (by kernel_rfl)
#print axioms names_holds
end Go.Proofs.YtjomdboiibakiaaDoor
