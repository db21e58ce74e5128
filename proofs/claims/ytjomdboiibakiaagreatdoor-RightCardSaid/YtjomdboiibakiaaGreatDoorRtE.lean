/-
  Texts that the proof needs, joined: part 5.
-/
import Derived.Test.YtjomdboiibakiaaGreatDoorRtD
import Derived.Test.YtjomdboiibakiaaGreatDoorRtC
import Derived.KernelRfl
import Derived.Test.YtjomdboiibakiaaGreatDoorRtA
import Derived.Conc.HoldsTime
import Derived.LaidHandle
import Derived.Carry
import Derived.LaidLaws
import Derived.FnData
import Derived.ChangeArms
import GoSem.ClaimJoined
import Derived.RowKit
section
set_option linter.unusedVariables false
namespace Go.Sl
open Go.Proofs
variable {main : Bool}
theorem lockR_snoc (L : List HeldR) (tx : Int) (l : List OpR) (o : OpR) : lockR L tx (l ++ [o]) = lockR L tx l ++ [⟨o.k, tx⟩] := by simp [lockR]
theorem lock_spec {I : HL} {b : Nat} {s : ShV} {so : SliceV} {ops : List OpR} {tx : Int} (ho : imSl I opRC 63 so ops) (hl : ops.length < 2 ^ 30) (hs : s.locks.length < 2 ^ 34) :
    Spec Tryz.prog main badT 160 #[.pointer (some ⟨b, 0, none⟩), .int .i64 tx, so.v] [shP b s, imm I] (fun v As => As = [shP b { s with locks := lockR s.locks tx ops }, imm I]) := by
  refine Spec.of ?_
  intro R C kd d F c cs hkd hret
  simp only [List.cons_append, List.nil_append]
  refine shP.opn (h := fun lg vl lk un tm wt ot => ?_)
  refine C.go ?_
  refine C.rg [0] ?_
  refine C.asg rfl ?_
  refine C.go ?_
  refine C.loopR (X := Nat × SliceV × List HeldR) (fun x => [(0, .pointer (some ⟨b, 0, none⟩)), (1, .int .i64 tx), (2, so.v), (6, .int .i64 x.1)]) (fun x => shO b { s with locks := x.2.2 } lg vl x.2.1 un tm wt ot (imm I :: F)) (fun x => x.1 ≤ ops.length ∧ x.2.2 = lockR s.locks tx (ops.take x.1)) (fun x => ops.length - x.1) (0, lk, s.locks) ⟨rfl, rfl, rfl, rfl, trivial⟩ ⟨by simp, by simp [lockR]⟩ ?_ (hI := .refl)
  rintro ⟨i, s1, L1⟩ e ⟨hi, hL⟩ ih
  dsimp only at hi hL ⊢
  refine C.go ?_
  refine C.rg [0, 1, 2, 3] ?_
  refine C.mv rfl ?_
  refine C.mv rfl ?_
  refine C.lnR rfl ?_
  refine C.cmp rfl (fun h10 => ?_) (fun h10 => ?_)
  · skip
    refine C.go ?_
    refine C.tru ?_
    have hi' : i < ops.length := by simpa using h10
    refine C.drawn [(13, 0), (14, 1), (15, 2), (16, 3), (17, 4), (18, 5), (19, 6), (20, 7), (21, 8), (22, 9), (23, 10), (24, 11), (25, 12), (26, 13), (27, 14), (28, 15)] [0, 1, 2, 3, 4, 5, 6, 7, 8, 9, 10, 11, 14, 15] [12, 13, 16] 1 ?_
    refine Dr.pu ⟨_, rfl, rfl⟩ (fun _ _ _ h => C.mv rfl h) ?_
    refine Dr.pu ⟨_, rfl, rfl⟩ (fun _ _ _ h => C.mv rfl h) ?_
    refine Dr.pu ⟨_, rfl, rfl⟩ (fun _ _ _ h => C.nc rfl h) ?_
    refine Dr.pu ⟨_, rfl, rfl⟩ (fun _ _ _ h => C.fa rfl h) ?_
    refine Dr.ld ⟨_, rfl, rfl⟩ (fun _ hE _ _ h => C.ld rfl h) ?_
    refine Dr.pu ⟨_, rfl, rfl⟩ (fun _ _ _ h => C.mv rfl h) ?_
    refine Dr.pu ⟨_, rfl, rfl⟩ (fun _ _ _ h => C.mv rfl h) ?_
    refine Dr.ld ⟨_, rfl, rfl⟩ (fun _ hE _ _ h => C.iaR rfl h) ?_
    refine Dr.pu ⟨_, rfl, rfl⟩ (fun _ _ _ h => C.fa rfl h) ?_
    refine Dr.ld ⟨_, rfl, rfl⟩ (fun _ hE _ _ h => C.ldR rfl h) ?_
    refine Dr.pu ⟨_, rfl, rfl⟩ (fun _ _ _ h => C.mv rfl h) ?_
    refine Dr.pu ⟨_, rfl, rfl⟩ (fun _ _ _ h => C.bd rfl h) ?_
    refine Dr.pu ⟨_, rfl, rfl⟩ (fun _ _ _ h => C.nc rfl h) ?_
    refine Dr.pu ⟨_, rfl, rfl⟩ (fun _ _ _ h => C.fa rfl h) ?_
    refine Dr.chain rfl ?_
    refine Ch.n1 (t := 12) rfl ⟨_, rfl, fun e rest hk => ?_⟩
    refine C.bs1 rfl (fun b25 => hk _ _ .cons ?_)
    refine Ch.n1 (t := 13) rfl ⟨_, rfl, fun e rest hk => ?_⟩
    refine C.ap1 (HeldR.mk ops[i].k tx) rfl (fun s2 => ?_) (hsz := by subst hL; simp only [lockR, List.length_append, List.length_map, List.length_take]; omega)
    refine hk _ _ ?_
    refine Ch.n1 (t := 16) rfl ⟨_, rfl, fun e rest hk => ?_⟩
    refine C.st rfl (hk _ undef ?_)
    refine Ch.fin ?_
    refine C.go ?_
    refine C.rg [0, 1, 2] ?_
    refine C.mv rfl ?_
    refine C.ar rfl ?_
    refine C.asg rfl ?_
    refine C.go ?_
    refine again ih (i + 1, s2, L1 ++ [⟨ops[i].k, tx⟩]) ⟨by simp; omega, ?_⟩ (by simp; omega)
    rw [List.take_succ_eq_append_getElem hi', lockR_snoc, ← hL]
  · skip
    refine C.go ?_
    refine C.fls ?_
    have e1 : ops.take i = ops := List.take_of_length_le (by simp at h10; omega)
    rw [e1] at hL
    subst hL
    refine shP.cls { s with locks := lockR s.locks tx ops } ?_
    exact C.finR hkd hret rfl
theorem writeR_snoc (V : List Int) (l : List OpR) (o : OpR) : writeR V (l ++ [o]) = if o.w then (writeR V l).set (o.k - 97).toNat o.v else writeR V l := by simp only [writeR, List.foldl_append, List.foldl_cons, List.foldl_nil]
theorem write_spec {I : HL} {b : Nat} {s : ShV} {so : SliceV} {ops : List OpR} (ho : imSl I opRC 63 so ops) (hk : ∀ o ∈ ops, 97 ≤ o.k ∧ o.k ≤ 122) (hv : s.vals.length = 26) (hl : ops.length < 2 ^ 30) :
    Spec Tryz.prog main badT 161 #[.pointer (some ⟨b, 0, none⟩), so.v] [shP b s, imm I] (fun v As => As = [shP b { s with vals := writeR s.vals ops }, imm I]) := by
  refine Spec.of ?_
  intro R C kd d F c cs hkd hret
  simp only [List.cons_append, List.nil_append]
  refine shP.opn (h := fun lg vl lk un tm wt ot => ?_)
  refine C.go ?_
  refine C.rg [0] ?_
  refine C.asg rfl ?_
  refine C.go ?_
  refine C.loopR (X := Nat × List Int) (fun x => [(0, .pointer (some ⟨b, 0, none⟩)), (1, so.v), (4, .int .i64 x.1)]) (fun x => shO b { s with vals := x.2 } lg vl lk un tm wt ot (imm I :: F)) (fun x => x.1 ≤ ops.length ∧ x.2 = writeR s.vals (ops.take x.1) ∧ x.2.length = 26) (fun x => ops.length - x.1) (0, s.vals) ⟨rfl, rfl, rfl, trivial⟩ ⟨by simp, by simp [writeR], hv⟩ ?_ (hI := .refl)
  rintro ⟨i, V⟩ e ⟨hi, hV, hV6⟩ ih
  dsimp only at hi hV hV6 ⊢
  refine C.go ?_
  refine C.rg [0, 1, 2, 3] ?_
  refine C.mv rfl ?_
  refine C.mv rfl ?_
  refine C.lnR rfl ?_
  refine C.cmp rfl (fun h8 => ?_) (fun h8 => ?_)
  · skip
    refine C.go ?_
    refine C.tru ?_
    have hi' : i < ops.length := by simpa using h8
    have hkey := hk _ (List.getElem_mem hi')
    obtain ⟨q, hq⟩ : ∃ q : Nat, ops[i].k - 97 = q := ⟨(ops[i].k - 97).toNat, by omega⟩
    have hq2 : q < V.length := by omega
    have hq3 : (ops[i].k - 97).toNat = q := by omega
    have hsn : ∀ V', V' = writeR s.vals (ops.take i) → writeR s.vals (ops.take (i + 1)) = if ops[i].w then V'.set q ops[i].v else V' := fun V' h => by
      subst h; rw [List.take_succ_eq_append_getElem hi', writeR_snoc, hq3]
    refine C.rg [0, 1, 2, 3, 4] ?_
    refine C.mv rfl ?_
    refine C.mv rfl ?_
    refine C.iaR rfl ?_
    refine C.fa rfl ?_
    refine C.ldR rfl ?_
    refine C.go ?_
    refine C.cnd (fun hb15 => ?_) (fun hb15 => ?_)
    · skip
      refine C.go ?_
      refine C.drawn [(16, 0), (17, 1), (18, 2), (19, 3), (20, 4), (21, 5), (22, 6), (23, 7), (24, 8), (25, 9), (26, 10), (27, 11), (28, 12), (29, 13), (30, 14), (31, 15)] [0, 1, 2, 3, 4, 5, 6, 7, 8, 9, 10, 11, 12, 13, 14, 15] [16] 0 ?_
      refine Dr.pu ⟨_, rfl, rfl⟩ (fun _ _ _ h => C.mv rfl h) ?_
      refine Dr.pu ⟨_, rfl, rfl⟩ (fun _ _ _ h => C.nc rfl h) ?_
      refine Dr.pu ⟨_, rfl, rfl⟩ (fun _ _ _ h => C.fa rfl h) ?_
      refine Dr.ld ⟨_, rfl, rfl⟩ (fun _ hE _ _ h => C.ld rfl h) ?_
      refine Dr.pu ⟨_, rfl, rfl⟩ (fun _ _ _ h => C.mv rfl h) ?_
      refine Dr.pu ⟨_, rfl, rfl⟩ (fun _ _ _ h => C.mv rfl h) ?_
      refine Dr.ld ⟨_, rfl, rfl⟩ (fun _ hE _ _ h => C.iaR rfl h) ?_
      refine Dr.pu ⟨_, rfl, rfl⟩ (fun _ _ _ h => C.fa rfl h) ?_
      refine Dr.ld ⟨_, rfl, rfl⟩ (fun _ hE _ _ h => C.ldR rfl h) ?_
      refine Dr.pu ⟨_, rfl, rfl⟩ (fun _ _ _ h => C.ar rfl h (r := (q : Int)) (ha := congrArg some hq)) ?_
      refine Dr.pu ⟨_, rfl, rfl⟩ (fun _ _ _ h => C.mv rfl h) ?_
      refine Dr.pu ⟨_, rfl, rfl⟩ (fun _ _ _ h => C.mv rfl h) ?_
      refine Dr.ld ⟨_, rfl, rfl⟩ (fun _ hE _ _ h => C.iaR rfl h) ?_
      refine Dr.pu ⟨_, rfl, rfl⟩ (fun _ _ _ h => C.fa rfl h) ?_
      refine Dr.ld ⟨_, rfl, rfl⟩ (fun _ hE _ _ h => C.ldR rfl h) ?_
      refine Dr.ld ⟨_, rfl, rfl⟩ (fun _ hE _ _ h => C.iaR rfl h) ?_
      refine Dr.chain rfl ?_
      refine Ch.n1 (t := 16) rfl ⟨_, rfl, fun e rest hk => ?_⟩
      refine C.stR0 ops[i].v rfl ?_
      refine hk _ undef ?_
      refine Ch.fin ?_
      refine C.go ?_
      refine C.rg [0, 1, 2] ?_
      refine C.mv rfl ?_
      refine C.ar rfl ?_
      refine C.asg rfl ?_
      refine C.go ?_
      refine again ih (i + 1, V.set q ops[i].v) ⟨by simp; omega, by rw [hsn V hV, if_pos hb15], by simpa using hV6⟩ (by simp; omega)
    · skip
      refine C.go ?_
      refine C.rg [0, 1, 2] ?_
      refine C.mv rfl ?_
      refine C.ar rfl ?_
      refine C.asg rfl ?_
      refine C.go ?_
      refine again ih (i + 1, V) ⟨by simp; omega, by rw [hsn V hV, hb15]; rfl, hV6⟩ (by simp; omega)
  · skip
    refine C.go ?_
    refine C.fls ?_
    have e1 : ops.take i = ops := List.take_of_length_le (by simp at h8; omega)
    rw [e1] at hV
    subst hV
    refine shP.cls { s with vals := writeR s.vals ops } ?_
    exact C.finR hkd hret rfl
theorem freeR_snoc (L : List HeldR) (tx : Int) (h : HeldR) : freeR (L ++ [h]) tx = if h.tx = tx then freeR L tx else freeR L tx ++ [h] := by
  unfold freeR
  by_cases e : h.tx = tx <;> simp [List.filter_append, e]
theorem free_spec {b : Nat} {s : ShV} {tx : Int} (hs : s.locks.length < 2 ^ 34) :
    Spec Tryz.prog main badT 162 #[.pointer (some ⟨b, 0, none⟩), .int .i64 tx] [shP b s] (fun v As => As = [shP b { s with locks := freeR s.locks tx }]) := by
  refine Spec.of ?_
  intro R C kd d F c cs hkd hret
  simp only [List.cons_append, List.nil_append]
  refine shP.opn (h := fun lg vl lk un tm wt ot => ?_)
  refine At.nilS heldC 2 258 ?_
  refine C.go ?_
  refine C.rg [0] ?_
  refine C.asg rfl ?_
  refine C.go ?_
  refine C.rg [0] ?_
  refine C.asg rfl ?_
  refine C.go ?_
  refine C.loopR (X := Nat × SliceV) (fun x => [(0, .pointer (some ⟨b, 0, none⟩)), (1, .int .i64 tx), (4, x.2.v), (5, .int .i64 x.1)]) (fun x => slP heldC 2 258 x.2 (freeR (s.locks.take x.1) tx) :: shO b s lg vl lk un tm wt ot F) (fun x => x.1 ≤ s.locks.length) (fun x => s.locks.length - x.1) (0, nilS) ⟨rfl, rfl, rfl, rfl, trivial⟩ (by simp) ?_ (hI := .refl)
  rintro ⟨i, s1⟩ e hi ih
  dsimp only at hi ⊢
  refine C.go ?_
  refine C.rg [0, 1, 2, 3, 4, 5, 6] ?_
  refine C.mv rfl ?_
  refine C.mv rfl ?_
  refine C.nc rfl ?_
  refine C.fa rfl ?_
  refine C.ld rfl ?_ (hcv := rfl)
  refine C.lnR rfl ?_
  refine C.cmp rfl (fun h12 => ?_) (fun h12 => ?_)
  · skip
    refine C.go ?_
    refine C.tru ?_
    have hi' : i < s.locks.length := by simpa using h12
    have hfl : (freeR (s.locks.take i) tx).length ≤ i := by have := List.length_filter_le (fun h : HeldR => h.tx != tx) (s.locks.take i); simp only [freeR, List.length_take] at this ⊢; omega
    refine C.rg [0, 1, 2, 3, 4, 5, 6, 7, 8, 9] ?_
    refine C.mv rfl ?_
    refine C.nc rfl ?_
    refine C.fa rfl ?_
    refine C.ld rfl ?_
    refine C.mv rfl ?_
    refine C.iaR rfl ?_
    refine C.fa rfl ?_
    refine C.ldR rfl ?_
    refine C.mv rfl ?_
    refine C.cmp rfl (fun h24 => ?_) (fun h24 => ?_)
    · skip
      refine C.go ?_
      refine C.tru ?_
      refine C.rg [0, 1, 2, 3, 4, 5, 6, 7, 8, 9, 10] ?_
      refine C.mv rfl ?_
      refine C.mv rfl ?_
      refine C.nc rfl ?_
      refine C.fa rfl ?_
      refine C.ld rfl ?_
      refine C.mv rfl ?_
      refine C.iaR rfl ?_
      refine C.ldRS rfl (fun hj => ?_)
      refine C.bs1 rfl (fun b33 => ?_)
      refine C.ap1 (s := s1) (l := freeR (s.locks.take i) tx) s.locks[i] rfl (fun s2 => ?_)
      refine C.asg rfl ?_
      refine C.go ?_
      refine C.rg [0, 1, 2] ?_
      refine C.mv rfl ?_
      refine C.ar rfl ?_
      refine C.asg rfl ?_
      refine C.go ?_
      refine again ih (i + 1, s2) (by simp; omega) (by simp; omega) (hr := ?_)
      rw [List.take_succ_eq_append_getElem hi', freeR_snoc, if_neg h24]; ((try simp only [List.cons_append, List.nil_append]); (repeat (first | with_reducible exact Reo.refl | with_reducible exact Reo.nil | with_reducible exact Fo.head | with_reducible apply Fo.tail | with_reducible apply Reo.cons | with_reducible apply Reo.drop)); done)
    · skip
      refine C.go ?_
      refine C.fls ?_
      refine C.rg [0, 1, 2] ?_
      refine C.mv rfl ?_
      refine C.ar rfl ?_
      refine C.asg rfl ?_
      refine C.go ?_
      refine again ih (i + 1, s1) (by simp; omega) (by simp; omega) (hr := ?_)
      rw [List.take_succ_eq_append_getElem hi', freeR_snoc, if_pos (Classical.not_not.1 h24)]; ((try simp only [List.cons_append, List.nil_append]); (repeat (first | with_reducible exact Reo.refl | with_reducible exact Reo.nil | with_reducible exact Fo.head | with_reducible apply Fo.tail | with_reducible apply Reo.cons | with_reducible apply Reo.drop)); done)
  · skip
    refine C.go ?_
    refine C.fls ?_
    have e1 : s.locks.take i = s.locks := List.take_of_length_le (by simp at h12; omega)
    rw [e1]
    refine C.rg [0, 1, 2, 3, 4] ?_
    refine C.mv rfl ?_
    refine C.mv rfl ?_
    refine C.nc rfl ?_
    refine C.fa rfl ?_
    refine C.st rfl ?_
    refine C.go ?_
    refine shP.cls { s with locks := freeR s.locks tx } ?_ (lk := s1)
    exact C.finR hkd hret rfl
theorem forget_spec {b : Nat} {s : ShV} : Spec Tryz.prog main badT 28 #[.pointer (some ⟨b, 0, none⟩)] [shP b s]
    (fun v As => As = [shP b { s with vals := zeros26, locks := [], under := [], timers := [], waits := [], clock := 0 }]) := by
  refine Spec.of ?_
  intro R C kd d F c cs hkd hret
  simp only [List.cons_append, List.nil_append]
  refine shP.opn (h := fun lg vl lk un tm wt ot => ?_)
  refine C.go ?_
  refine C.rg [0, 1, 2, 3, 4] ?_
  refine C.mv rfl ?_
  refine C.ms (f := i64L) (a0 := (0 : Int)) rfl rfl (fun b3 => ?_)
  refine At.own (l := zeros26) (f := i64L) (z := 1) ⟨some ⟨b3, 0, none⟩, 26, 26⟩ [] rfl rfl (Nat.le_refl 26) .head ?_
  refine C.nc rfl ?_
  refine C.fa rfl ?_
  refine C.st rfl ?_
  refine C.go ?_
  refine C.rg [0, 1, 2, 3] ?_
  refine C.mv rfl ?_
  refine C.nc rfl ?_
  refine C.fa rfl ?_
  refine C.st rfl ?_
  refine C.go ?_
  refine C.rg [0, 1, 2, 3] ?_
  refine C.mv rfl ?_
  refine C.nc rfl ?_
  refine C.fa rfl ?_
  refine C.st rfl ?_
  refine C.go ?_
  refine C.rg [0, 1, 2, 3] ?_
  refine C.mv rfl ?_
  refine C.nc rfl ?_
  refine C.fa rfl ?_
  refine C.st rfl ?_
  refine C.go ?_
  refine C.rg [0, 1, 2, 3] ?_
  refine C.mv rfl ?_
  refine C.nc rfl ?_
  refine C.fa rfl ?_
  refine C.st rfl ?_
  refine C.go ?_
  refine C.rg [0, 1, 2, 3] ?_
  refine C.mv rfl ?_
  refine C.nc rfl ?_
  refine C.fa rfl ?_
  refine C.st rfl ?_
  refine C.go ?_
  refine At.nilS heldC 2 258 (At.nilS undC 6 287 (nilU (At.nilS timC 3 251 (At.nilS msgC 7 137 ?_))))
  refine shP.cls { s with vals := zeros26, locks := [], under := [], timers := [], waits := [], clock := 0 } ?_ (vl := ⟨some ⟨b3, 0, none⟩, 26, 26⟩) (lk := nilS) (un := nilS) (tm := nilS) (wt := nilS)
  exact C.finR hkd hret rfl
theorem upto_take {n : Int} {i : Nat} (hi : (i : Int) < n) : (upto n).take (i + 1) = (upto n).take i ++ [(i : Int)] := by
  have hl : i < (upto n).length := by simp [upto]; omega
  rw [List.take_succ_eq_append_getElem hl]
  congr 2
  simp [upto]
theorem upto_all {n : Int} {i : Nat} (hi : ¬ (i : Int) < n) : (upto n).take i = upto n := List.take_of_length_le (by simp [upto]; omega)
end Go.Sl
end
section
set_option linter.unusedVariables false
namespace Go.Sl
open Go.Proofs
variable {main : Bool}
def newV (k n : Int) : ShV := ⟨k, n, true, [], 0, zeros26, [], [], [], [], 0, []⟩
theorem wnew_spec {n : Int} : Spec Tryz.prog main badT 16 #[.int .i64 n] [] (fun v As => ((1 ≤ n ∧ n ≤ 4) ∧ ∃ b w, v = .tuple #[.pointer (some ⟨b, 0, none⟩), .int .i64 0] ∧ w.abs = newW n ∧ (∀ I, WI I w) ∧ As = [wP b w]) ∨ ((n < 1 ∨ 4 < n) ∧ v = .tuple #[.pointer none, .int .i64 1] ∧ As = [])) := by
  refine Spec.of ?_
  intro R C kd d F c cs hkd hret
  simp only [List.nil_append]
  refine C.go ?_
  refine C.rg [0, 1] ?_
  refine C.asg rfl ?_
  refine C.asg rfl ?_
  refine C.go ?_
  refine C.rg [0, 1, 2, 3, 4, 5] ?_
  refine C.mv rfl ?_
  refine C.cmp rfl (fun h8 => ?_) (fun h8 => ?_)
  · skip
    refine C.mv rfl ?_
    refine C.no rfl ?_
    refine C.no rfl ?_
    refine C.pk rfl ?_
    refine C.go ?_
    refine C.tru ?_
    refine C.rg [0, 1] ?_
    refine C.asg rfl ?_
    refine C.asg rfl ?_
    refine C.go ?_
    exact C.retR hkd hret (.inr ⟨.inl h8, rfl, rfl⟩)
  · skip
    refine C.mv rfl ?_
    refine C.mv rfl ?_
    refine C.cmp rfl (fun h11 => ?_) (fun h11 => ?_)
    · skip
      refine C.pk rfl ?_
      refine C.go ?_
      refine C.tru ?_
      refine C.rg [0, 1] ?_
      refine C.asg rfl ?_
      refine C.asg rfl ?_
      refine C.go ?_
      exact C.retR hkd hret (.inr ⟨.inr (by omega), rfl, rfl⟩)
    · skip
      refine C.pk rfl ?_
      refine C.go ?_
      refine C.fls ?_
      refine C.rg [0, 1, 2] ?_
      refine C.bd rfl ?_
      refine C.bx rfl (fun b14 => ?_)
      refine C.asg rfl ?_
      refine C.go ?_
      have hn : 1 ≤ n ∧ n ≤ 4 := ⟨by omega, by omega⟩
      refine At.turn (A := pts b14 (.cells #[.slice none 0 0, .slice none 0 0, .slice none 0 0, .bool false] 53 (0, 0))) (by (repeat (first | with_reducible exact Fo.head | with_reducible apply Fo.tail))) (A' := pts b14 (.cells #[nilS.v, nilS.v, nilS.v, .bool false] 53 (0, 0))) (fun _ h => h) ?_
      refine At.nilS ptrC 1 54 (show At R d (slP ptrC 1 54 nilS (([] : List (Nat × ShV)).map (·.1)) :: _) _ from (At.nilS msgC 7 137 (At.nilS txC 3 71 ?_)))
      refine At.nilA (show At R d (all (([] : List (Nat × ShV)).map shE) :: _) _ from ?_)
      refine C.rg [0] ?_
      refine C.asg rfl ?_
      refine C.go ?_
      refine C.loopR (X := Nat × SliceV × List (Nat × ShV)) (fun x => [(0, .int .i64 n), (4, .pointer (some ⟨b14, 0, none⟩)), (5, .int .i64 x.1)]) (fun x => wO b14 ⟨x.2.2, [], [], false⟩ x.2.1 nilS nilS F) (fun x => (x.1 : Int) ≤ n ∧ x.2.2.length = x.1 ∧ x.2.2.map (·.2) = ((upto n).take x.1).map fun k => newV k n) (fun x => (n - x.1).toNat) (0, nilS, []) ⟨rfl, rfl, rfl, trivial⟩ (And.intro (by show (0 : Int) ≤ n; omega) (And.intro rfl rfl)) ?_
      rintro ⟨k, s1, l⟩ e ⟨hk, hl, hm⟩ ih
      dsimp only at hk hl hm ⊢
      refine C.go ?_
      refine C.rg [0, 1, 2] ?_
      refine C.mv rfl ?_
      refine C.mv rfl ?_
      refine C.cmp rfl (fun h17 => ?_) (fun h17 => ?_)
      · skip
        refine C.go ?_
        refine C.tru ?_
        refine C.rg [0, 1, 2, 3, 4] ?_
        refine C.mv rfl ?_
        refine C.mv rfl ?_
        refine C.bd rfl ?_
        refine C.bx rfl (fun b23 => ?_)
        refine C.asg rfl ?_
        refine C.go ?_
        refine At.nilS recC 6 247 (At.nilS i64L 1 3 (At.nilS heldC 2 258 (At.nilS undC 6 287 (nilU (At.nilS timC 3 251 (At.nilS msgC 7 137 (At.nilS msgC 7 137 ?_)))))))
        refine shP.cls (b := b23) ⟨k, n, true, [], 0, [], [], [], [], [], 0, []⟩ ?_ (lg := nilS) (vl := nilS) (lk := nilS) (un := nilS) (tm := nilS) (wt := nilS) (ot := nilS)
        refine C.rg [0, 1] ?_
        refine C.mv rfl ?_
        refine C.clR (forget_spec (b := b23) (s := ⟨k, n, true, [], 0, [], [], [], [], [], 0, []⟩)) ?_
        rintro v As' rfl
        simp only [List.cons_append, List.nil_append]
        refine At.turn (A := shP b23 _) (A' := shE (b23, newV k n)) (.head) (fun _ h => h) ?_
        refine C.go ?_
        refine C.rg [0, 1, 2, 3, 4, 5, 6, 7, 8, 9, 10] ?_
        refine C.mv rfl ?_
        refine C.mv rfl ?_
        refine C.nc rfl ?_
        refine C.fa rfl ?_
        refine C.ld rfl ?_
        refine C.mv rfl ?_
        refine C.bs1 rfl (fun b32 => ?_)
        refine C.ap1 (f := ptrC) b23 rfl (fun s2 => ?_) (hsz := by simp only [List.length_map, hl]; omega)
        refine C.nc rfl ?_
        refine C.fa rfl ?_
        refine C.st rfl ?_
        refine C.go ?_
        refine C.rg [0, 1, 2] ?_
        refine C.mv rfl ?_
        refine C.ar rfl ?_
        refine C.asg rfl ?_
        refine C.go ?_
        have hmap : l.map (·.1) ++ [b23] = (l ++ [(b23, newV k n)]).map (·.1) := by simp
        refine At.turn (A := slP ptrC 1 54 s2 (l.map (·.1) ++ [b23])) (A' := slP ptrC 1 54 s2 ((l ++ [(b23, newV k n)]).map (·.1))) (by (repeat (first | with_reducible exact Fo.head | with_reducible apply Fo.tail))) (fun _ h => by rw [← hmap]; exact h) ?_
        refine all_add (f := shE) (l := l) (b23, newV k n) (by (repeat (first | with_reducible exact ReF.nil | with_reducible exact Fo.head | with_reducible apply Fo.tail | with_reducible apply ReF.cons))) ?_
        refine again ih (k + 1, s2, l ++ [(b23, newV k n)]) ⟨by dsimp only; omega, by simp [hl], ?_⟩ (by dsimp only; omega)
        rw [upto_take (by omega), List.map_append, hm, List.map_append]; rfl
      · skip
        refine C.go ?_
        refine C.fls ?_
        refine C.rg [0, 1, 2] ?_
        refine C.mv rfl ?_
        refine C.asg rfl ?_
        refine C.asg rfl ?_
        refine C.go ?_
        rw [upto_all (by omega)] at hm
        refine wP.cls ⟨l, [], [], false⟩ ?_
        refine C.retR hkd hret (.inl ⟨hn, b14, ⟨l, [], [], false⟩, rfl, ?_, fun I => ⟨fun p hp => ?_, fun m hm => (by cases hm), fun t ht => (by cases ht)⟩, rfl⟩)
        · have e1 : l.map (·.2.abs) = (l.map (·.2)).map (·.abs) := by rw [List.map_map]; rfl
          unfold newW WV.abs
          dsimp only
          rw [e1, hm, List.map_map]
          rfl
        · have hp2 : p.2 ∈ l.map (·.2) := List.mem_map.2 ⟨p, hp, rfl⟩
          rw [hm] at hp2
          obtain ⟨j, _, e⟩ := List.mem_map.1 hp2
          rw [← e]
          exact ⟨fun r hr => (by cases hr), fun r hr => (by cases hr), fun r hr => (by cases hr), fun r hr => (by cases hr)⟩
end Go.Sl
end
section
set_option linter.unusedVariables false
namespace Go.Sl
open Go.Proofs Go.Conc
section
variable {P : Program} {main : Bool} {B : Bad} {R : Nat → Goroutine → Array Obj → Prop} {d : Nat} {As : List HP}
variable {fn : FuncId} {kd : Kd} {n : Nat} {e : Nat → Value} {ds : List Deferred} {k : List Item} {cs : List Frame}
variable {ops : Array Oper} {i : Nat} {rest : List Nat} {t : Nat} {ty : TypeId} {pos : String} {af : Array Edge} {gd : Option (Nat × Bool)} {x y : Operand}
theorem Closed.eqQ (C : Closed P main B R) {op : BinOp} {r : Bool} {tt t2 tp : TypeId} [cP : Pt P tt tp] {a : Option Addr} (ho : nthO ops i = some ⟨some t, .binOp op tt x y t2, ty, pos, af, gd⟩) (h : At R d As (gr fn kd n (put e t (.bool (a.isNone == r))) ds (.inRegion ops rest :: k) cs))
    (hop : isEq op = some r := by rfl) (hx : ev n e x = .pointer a := by rfl) (hy : ev n e y = .pointer none := by rfl) (hw : wantB ops n e gd = true := by rfl) : At R d As (gr fn kd n e ds (.inRegion ops (i :: rest) :: k) cs) :=
  C.v0 ho h (by
    unfold execOp; simp only [hx, hy]
    refine ev0_do (a := .bool (a.isNone == r)) ?_ rfl
    have h0 : ev0 P (Op.equal tt (.pointer a) (.pointer none)) = some a.isNone := by
      unfold Op.equal
      show ev0 P (Op.equalIn (9998 + 1 + 1) _ _ _) = _
      unfold Op.equalIn
      refine ev0_do (ev0_und cP.h) ?_
      cases a <;> rfl
    cases op <;> first | (cases hop; done) | skip
    · obtain rfl := Option.some.inj hop
      refine ev0_do (a := ()) (by unfold eqGuard; rfl) ?_
      refine ev0_do h0 ?_
      cases a <;> rfl
    · obtain rfl := Option.some.inj hop
      refine ev0_do (a := ()) (by unfold eqGuard; rfl) ?_
      refine ev0_do h0 ?_
      cases a <;> rfl) hw
end
structure StepV where
  kind : Int
  cl : Int
  a : Int
  b : Int
  c : Int
  so : Value
  ops : List OpR
def stepC (s : StepV) : List Value := [.int .i64 s.kind, .int .i64 s.cl, .int .i64 s.a, .int .i64 s.b, .int .i64 s.c, s.so]
def Z64 (x : Int) : Prop := -9223372036854775808 ≤ x ∧ x ≤ 9223372036854775807
structure StepI (I : HL) (bot : Nat) (s : StepV) : Prop where
  kind : Z64 s.kind
  cl : Z64 s.cl
  a : Z64 s.a
  b : Z64 s.b
  c : Z64 s.c
  o : inSl I bot opRC 3 s.so s.ops
  z : ∀ o ∈ s.ops, OpZ o
  len : s.ops.length * 24 ≤ 140737488355328
theorem StepI.mono {I I' : HL} {bot : Nat} {s : StepV} (h : StepI I bot s) (hs : Sub I I') : StepI I' bot s := { h with o := h.o.mono hs }
structure Idle0 (σ : Gh) : Prop where
  n : σ.n ≠ 0
  no : ∀ i, σ.seats i = none
theorem Idle0.ok {σ : Gh} (h : Idle0 σ) : GhOk σ := ⟨h.n, fun i s e => by rw [h.no] at e; cases e⟩
theorem NewGh.idle {σ σ' : Gh} {G : CG} {l : List HV} (N : NewGh σ σ' G l) (h : Idle0 σ) : Idle0 (σ'.joined (l.map (·.h.g))) := by
  refine ⟨?_, fun i => ?_⟩
  · show σ'.n ≠ 0
    have := N.n
    have := h.n
    omega
  · show (if i ∈ l.map (·.h.g) then none else σ'.seats i) = none
    split
    · rfl
    · rename_i hi
      cases e : σ'.seats i with
      | none => rfl
      | some s =>
        exfalso
        rcases Nat.lt_or_ge i σ.n with h1 | h1
        · rw [N.old i h1, h.no] at e; cases e
        · obtain ⟨v, hv, h2, _⟩ := N.new i s h1 e
          exact hi (List.mem_map.2 ⟨v, hv, h2⟩)
theorem NewGh.reg {σ σ' : Gh} {c : CV} (N : NewGh σ σ' c.G c.hosts) (h : Idle0 σ) (hn : 1 ≤ c.hosts.length ∧ c.hosts.length ≤ 4) : RegC σ' c := by
  have key : ∀ i s, σ'.seats i = some s → ∃ v ∈ c.hosts, v.h.g = i ∧ s = seatW v.h c.G := fun i s e => by
    rcases Nat.lt_or_ge i σ.n with h1 | h1
    · rw [N.old i h1, h.no] at e; cases e
    · exact N.new i s h1 e
  refine ⟨fun v hv => (N.has v hv).1, N.gnd, fun i s e _ => ?_, fun v hv i s e hw => ?_, N.wd, (N.sh _).2 (.inr (.inl rfl)), (N.sh _).2 (.inr (.inr rfl)), hn⟩
  · obtain ⟨v, hv, h1, _⟩ := key i s e
    exact ⟨v, hv, h1⟩
  · obtain ⟨u, hu, rfl, rfl⟩ := key i s e
    rcases seatW_has.1 hw with h2 | h2
    · have nd := N.wnd
      obtain ⟨p, hp, rfl⟩ := List.getElem_of_mem hv
      obtain ⟨q, hq, rfl⟩ := List.getElem_of_mem hu
      have : p = q := (List.getElem_inj (h₀ := by simpa using hp) (h₁ := by simpa using hq) nd).1 (by simpa using h2)
      subst this; rfl
    · exact absurd h2 (N.wd v hv)
theorem subQ_num {eb : Nat → Nat × Nat} {I I' : HL} {n : Nat} {ops : List OpR} {er : Option Nat} {t : Int} {bag' : List MsgV} {txs' : List TxV} (m : Int) (h : subQ eb I n ops [] [] er t I' bag' txs') : numO er = (submitW (newW m) ops).2.2 := by
  have hs : (newW m).stopped = false := rfl
  have hb : (newW m).bag = [] := rfl
  have ht : (newW m).txs = [] := rfl
  unfold submitW
  rw [if_neg (by rw [hs]; decide), hb, ht]
  obtain ⟨_, ⟨h1, rfl, _⟩ | ⟨h1, h2, _⟩ | ⟨h1, h2, rfl, _⟩⟩ := h
  · rw [if_pos h1]; rfl
  · simp at h2
  · rw [if_neg (by simpa using h1), if_neg (by simp)]; rfl
end Go.Sl
end
section
set_option linter.unusedVariables false
namespace Go.Sl
open Go.Proofs Go.Conc
section
variable {P : Program} {Post : Value → World → Prop} {X : Bar} {σ : Gh} {os : Os} {out : Array (Nat × ByteArray)} {d : Nat} {As F : List HP} {R : Nat → Goroutine → Array Obj → Prop}
variable {fn : FuncId} {kd : Kd} {n : Nat} {e : Nat → Value} {k : List Item}
theorem At.enter {f : FuncId} {fu : Func} {c : Code} {nf : Nat} [b : Body P f fu c nf] {args : Array Value} (h : At R d As (gr f .nor nf (argE args) [] [.code c] [])) (hn : Nat.ble args.size nf = true := by rfl) : At R d As (enterG P f args .nor []) := by
  rw [enterG_eq b.func b.body (by rw [b.tmps]; exact Nat.le_of_ble_eq_true hn), b.tmps]
  exact h
theorem RunR.quit {fu : Func} {cc : Code} {n' : Nat} [b : Body P fn fu cc n'] {v : Value} {x : Code} (As' : List HP) (hi : P.inits.idxOf? fn = none) (hn : ∀ i, σ.seats i = none) (hp : ∀ w : World, Sat As' (hp w.heap) → w.os = os → w.output = out → Post v w) (hv : resV fu n e = some v := by rfl) (hx : ck x = .ret := by rfl)
    (hr : Reo As As' := by (try simp only [List.cons_append, List.nil_append]); repeat (first | with_reducible exact Reo.refl | with_reducible exact Reo.nil | with_reducible exact Fo.head | with_reducible apply Fo.tail | with_reducible apply Reo.cons | with_reducible apply Reo.drop)) : At (RunR P Post X σ 0 os out) 0 As (gr fn .nor n e [] (.code x :: k) []) := by
  have C : Closed P true (X.bw σ) (RunR P Post X σ 0 os out) := RunR.closed0
  refine At.reo hr fun H st => ?_
  have z := ck_inv hx; simp only at z; subst z
  exact C.ret (RunR.done hv hi hn hp H st)
end
theorem upto_length (n : Int) : (upto n).length = n.toNat := by simp [upto]
theorem WB0.fresh {w : WR} {n : Int} (h : w = newW n) (hn : 1 ≤ n ∧ n ≤ 4) : WB0 w := by
  subst h
  constructor
  all_goals simp [newW, upto_length]
  all_goals omega
set_option maxRecDepth 4000 in
theorem right_run {Post : Value → World → Prop} {os : Os} {out : Array (Nat × ByteArray)} {σ : Gh} {I : HL} {v : Value} {sc : List StepV} {eb : Nat → Nat × Nat} (hE : ErrI I eb) (hi : inSl I σ.bot stepC 6 v sc) (hs : ∀ s ∈ sc, StepI I σ.bot s) (hl : sc.length < 2 ^ 60) (h0 : Idle0 σ)
    (hp : ∀ (I' : HL) (w : World), Sub I I' → Sat [imm I'] (hp w.heap) → w.os = os → w.output = out → Post (.bool true) w) :
    At (RunR Tryz.prog Post barX σ 0 os out) 0 [imm I] (enterG Tryz.prog 3 #[v] .nor []) := by
  refine At.enter ?_
  have C : Closed Tryz.prog true (barX.bw σ) (RunR Tryz.prog Post barX σ 0 os out) := RunR.closed0
  obtain ⟨a, cap, hv, hin⟩ := hi
  subst hv
  refine C.go ?_
  refine C.rg [0] ?_
  refine C.asg rfl ?_
  refine C.go ?_
  refine C.rg [0] ?_
  refine C.asg rfl ?_
  refine C.go ?_
  refine loopG (Y := Nat × Gh × HL) (fun y => y.2.1) (fun y => [(0, .slice a sc.length cap), (2, .bool false), (3, .int .i64 y.1)]) (fun y => [imm y.2.2]) (fun y => y.1 ≤ sc.length ∧ Idle0 y.2.1 ∧ Sub I y.2.2 ∧ y.2.1.bot = σ.bot) (fun y => sc.length - y.1) (0, σ, I) rfl ⟨rfl, rfl, rfl, trivial⟩ ⟨Nat.zero_le _, h0, Sub.refl _, rfl⟩ ?_
  rintro ⟨i, σ1, I1⟩ e ⟨hile, h1, hsub, hbot⟩ ih
  dsimp only at hile h1 hsub hbot ⊢
  have C : Closed Tryz.prog true (barX.bw σ1) (RunR Tryz.prog Post barX σ1 0 os out) := RunR.closed0
  have hE1 : ErrI I1 eb := hE.mono hsub
  refine C.go ?_
  refine C.rg [0, 1, 2, 3, 4, 5, 6, 7] ?_
  refine C.mv rfl ?_
  refine C.mv rfl ?_
  refine C.ln rfl ?_
  by_cases hlt : (i : Int) < sc.length
  · refine C.cmpT rfl ?_
    refine C.mv rfl ?_
    refine C.mv rfl ?_
    refine C.cmpT rfl ?_
    refine C.pk rfl ?_
    refine C.go ?_
    refine C.tru ?_
    have hj : i < sc.length := by omega
    rcases hin with rfl | ⟨b, off, cc, ty, fr, rfl, hI, hsh, hrow⟩
    · exact absurd hj (by simp)
    have hz1 := hrow i hj 1 (by decide)
    have hz5 := hrow i hj 5 (by decide)
    have hst := hs _ (List.getElem_mem hj)
    obtain ⟨s, hs0⟩ : ∃ s, s = sc[i] := ⟨_, rfl⟩
    rw [← hs0] at hz1 hz5 hst
    have hI1 := hsub _ _ hI
    have hst1 : StepI I1 σ1.bot s := hbot ▸ hst.mono hsub
    have hsh1 : b < (barX.bw σ1).bot := by show b < σ1.bot; omega
    have hn : 1 ≤ 1 + pickR s.cl 4 ∧ 1 + pickR s.cl 4 ≤ 4 := by have := pickR_rng (a := s.cl) (b := 4) (by decide); omega
    refine C.rg [0, 1, 2, 3, 4, 5, 6, 7, 8, 9, 10, 11, 12] ?_
    refine C.mv rfl ?_
    refine C.mv rfl ?_
    refine C.ia (j := (i : Int)) (o := off + i * 6) rfl ?_ (hoff := by simp)
    refine C.fa rfl ?_
    refine C.ldK (Ext.immK (fun _ st => st) (by (repeat (first | with_reducible exact Fo.head | with_reducible apply Fo.tail))) hI1) hsh1 hz1 rfl ?_
    refine C.clR (Spec.less (barLe _) (pick_spec (b := 4) hst1.cl (by decide))) (A := []) ?_
    rintro v As' ⟨rfl, rfl⟩
    simp only [List.nil_append]
    refine C.ar (p := 1) (q := pickR s.cl 4) (r := 1 + pickR s.cl 4) rfl ?_
    refine RunR.clN (A := []) (pnew_spec hn h1.ok) ?_
    rintro v σ2 As' ⟨⟨G, hosts, bag, txs, stopped⟩, N, rfl, rfl, hho, rfl, rfl, rfl⟩
    have hb2 : σ2.bot = σ1.bot := N.bot
    have hsh2 : b < (barX.bw σ2).bot := by show b < σ2.bot; omega
    have C : Closed Tryz.prog true (barX.bw σ2) (RunR Tryz.prog Post barX σ2 0 os out) := RunR.closed0
    simp only [List.cons_append, List.nil_append]
    have hnh : 1 ≤ hosts.length ∧ hosts.length ≤ 4 := by
      have := congrArg List.length hho
      simp only [List.length_map, upto_length] at this
      omega
    refine C.mv rfl ?_
    refine C.ext rfl ?_
    refine C.ext rfl ?_
    refine C.asg rfl ?_
    refine C.asg rfl ?_
    refine C.go ?_
    refine C.rg [0, 1, 2, 3, 4, 5, 6, 7, 8, 9, 10, 11, 12] ?_
    refine C.mv rfl ?_
    refine C.mv rfl ?_
    refine C.ia (j := (i : Int)) (o := off + i * 6) rfl ?_ (hoff := by simp)
    refine C.fa rfl ?_
    refine C.ldK (Ext.immK (fun _ st => st) (by (repeat (first | with_reducible exact Fo.head | with_reducible apply Fo.tail))) hI1) hsh2 hz1 rfl ?_
    refine C.clR (Spec.less (barLe _) (pick_spec (b := 4) hst1.cl (by decide))) (A := []) ?_
    rintro v As' ⟨rfl, rfl⟩
    simp only [List.nil_append]
    refine C.ar (p := 1) (q := pickR s.cl 4) (r := 1 + pickR s.cl 4) rfl ?_
    refine C.clR (Spec.less (barLe _) (wnew_spec)) (A := []) ?_
    intro v As' hor
    obtain ⟨_, bw, w, rfl, hw, hwI, rfl⟩ := hor.resolve_right (fun h => absurd h.1 (by omega))
    clear hor
    simp only [List.cons_append, List.nil_append]
    refine C.mv rfl ?_
    refine C.ext rfl ?_
    refine C.ext rfl ?_
    refine C.asg rfl ?_
    refine C.asg rfl ?_
    refine C.go ?_
    refine C.rg [0, 1, 2, 3, 4, 5, 6, 7, 8, 9] ?_
    refine C.mv rfl ?_
    refine C.eqQ rfl ?_
    refine C.mv rfl ?_
    refine C.mv rfl ?_
    refine C.cmpF rfl ?_
    refine C.pk rfl ?_
    refine C.mv rfl ?_
    refine C.mv rfl ?_
    refine C.cmpF rfl ?_
    refine C.pk rfl ?_
    refine C.go ?_
    refine C.fls ?_
    refine C.go ?_
    refine C.rg [0, 1, 2, 3, 4, 5, 6] ?_
    refine C.mv rfl ?_
    refine C.mv rfl ?_
    refine C.ia (j := (i : Int)) (o := off + i * 6) rfl ?_ (hoff := by simp)
    refine C.fa rfl ?_
    refine C.ldK (Ext.immK (fun _ st => st) (by (repeat (first | with_reducible exact Fo.head | with_reducible apply Fo.tail))) hI1) hsh2 hz5 rfl ?_
    refine C.clR (kept_spec (hb2.symm ▸ hst1.o) hst1.z hst1.len) ?_
    rintro v As' ⟨s1, rfl, rfl⟩
    simp only [List.cons_append, List.nil_append]
    have hlk : (s.ops.map keptO).length = s.ops.length := List.length_map ..
    have hlen := hst1.len
    have hrg : ∀ o ∈ s.ops.map keptO, (0 ≤ o.k ∧ o.k ≤ 255) ∧ (-2147483648 ≤ o.v ∧ o.v ≤ 2147483647) := by
      intro o ho
      obtain ⟨q, _, rfl⟩ := List.mem_map.1 ho
      exact ⟨u8_rng _, i32_rng _⟩
    generalize hops : s.ops.map keptO = ops at *
    refine At.frz (I := I1) (s := s1) (f := opRC) (by (repeat (first | with_reducible exact Fo.head | with_reducible apply Fo.tail))) (by (repeat (first | with_reducible exact Fo.head | with_reducible apply Fo.tail))) fun I2 hI2 hs2 => ?_
    refine C.asg rfl ?_
    refine C.go ?_
    refine C.rg [0, 1, 2, 3, 4, 5, 6, 7, 8] ?_
    refine C.mv rfl ?_
    refine C.mv rfl ?_
    refine C.clR (Spec.less (barLe _) (given_spec hs2 hrg (by omega))) ?_
    rintro v As' ⟨s2, rfl, rfl⟩
    simp only [List.cons_append, List.nil_append]
    refine RunR.clN (psubmit_spec (c := ⟨G, hosts, [], [], false⟩) (so := s2) (ops := ops) (hE1.mono hI2) hnh (by show 0 < 2 ^ 20; decide) (Nat.zero_le _) (by omega)) ?_
    rintro v σ3 As' ⟨er, t, bag', txs', I3, rfl, rfl, rfl, hor⟩
    simp only [List.cons_append, List.nil_append]
    rcases hor with ⟨hbad, _⟩ | ⟨_, hQ⟩
    · cases hbad
    have hnum := subQ_num (1 + pickR s.cl 4) hQ
    have hI3 : Sub I2 I3 := hQ.1
    refine C.mv rfl ?_
    refine C.ext rfl ?_
    refine C.ext rfl ?_
    refine C.asg rfl ?_
    refine C.asg rfl ?_
    refine C.go ?_
    refine C.rg [0, 1, 2, 3, 4, 5, 6, 7] ?_
    refine C.mv rfl ?_
    refine C.mv rfl ?_
    refine C.clR (Spec.less (barLe _) (wsubmit_spec (hwI I3) (WB0.fresh hw hn) (hs2.mono hI3) (by omega))) ?_
    rintro v As' ⟨I4, w4, hI4, hwI4, hw4, rfl, rfl⟩
    simp only [List.cons_append, List.nil_append]
    rw [hw] at *
    refine C.mv rfl ?_
    refine C.ext rfl ?_
    refine C.ext rfl ?_
    refine C.asg rfl ?_
    refine C.asg rfl ?_
    refine C.go ?_
    refine C.rg [0, 1] ?_
    refine C.mv rfl ?_
    refine RunR.clN (stop_spec (c := ⟨G, hosts, bag', txs', false⟩) (fun _ => NewGh.reg (c := ⟨G, hosts, bag', txs', false⟩) N h1 hnh)) ?_
    rintro v σ4 As' ⟨rfl, rfl, rfl⟩
    simp only [List.cons_append, List.nil_append]
    rw [if_neg (by decide)]
    have h4 := N.idle h1
    have C : Closed Tryz.prog true (barX.bw (σ3.joined (hosts.map (·.h.g)))) (RunR Tryz.prog Post barX (σ3.joined (hosts.map (·.h.g))) 0 os out) := RunR.closed0
    refine C.go ?_
    refine C.rg [0, 1, 2] ?_
    refine C.mv rfl ?_
    refine C.mv rfl ?_
    refine C.cmpF rfl ?_
    refine C.go ?_
    refine C.fls ?_
    refine C.go ?_
    refine C.rg [0, 1, 2] ?_
    refine C.mv rfl ?_
    refine C.ar rfl ?_
    refine C.asg rfl ?_
    refine C.go ?_
    exact againG (c := .skip) ih (i + 1, _, I4) rfl ⟨by dsimp only; omega, h4, hsub.trans (hI2.trans (hI3.trans hI4)), (show σ3.bot = σ.bot by rw [N.bot]; exact hbot)⟩ (by dsimp only; omega)
  · refine C.cmpF rfl ?_
    refine C.mv rfl ?_
    refine C.no rfl ?_
    refine C.no rfl ?_
    refine C.pk rfl ?_
    refine C.go ?_
    refine C.fls ?_
    refine C.go ?_
    refine C.rg [0] ?_
    refine C.asg rfl ?_
    refine C.go ?_
    exact RunR.quit [imm I1] (by kernel_rfl) h1.no (hp I1 · hsub)
end Go.Sl
end
section
set_option linter.unusedVariables false
namespace Go.Sl
open Go.Conc Go.ConcM Go.RowKit
section
variable {H : Type} {enc : TypeId × Value → H}
theorem leaving_of_ends {a : Assume} {C : Checked} {os : Os} {f : FuncId} {fn : Func} {s : ChangeSpec} {F : Stop.Interp} {conds : List PathCond} {apart fresh handsOn : Bool} {X : World → Array Value → Prop}
    (hX : ∀ (w w' : World) (args : Array Value), w.heap = w'.heap → X w args → X w' args)
    (own : ownKnob C.prog.godebug = none) (started : os.Started) (hfn : C.prog.funcs[f]? = some fn)
    (witness : ∃ (w : World) (tape : Tape) (i : Input), w.os = os ∧ (w.forCall tape i).Shaped C.prog ∧ i.vars = [] ∧ Input.okWide C.prog (w.forCall tape i) .any w.heap.size f i ∧
      ((s.pre enc C.prog fn conds apart (w.forCall tape i).memory i.args ∧ X (w.forCall tape i).memory i.args) ∧ sizedMet enc C.prog fn (OpenSpec.ofChange s) apart (w.forCall tape i).memory i.args) ∧ a.holds C.prog (lone (Frame.enter C.prog f i.args .normal) [] (w.forCall tape i)))
    (runs : ∀ (W : World) (base : Nat) (args : Array Value) (ds gs : List (DataW H)) (before : List MemPlace), W.ShapedOpen C.prog →
      (∀ (j : Nat) t v, fn.params[j]? = some t → args[j]? = some v → Value.okWide C.prog W .any base t v) →
      DataW.Whole enc C.prog fn.params.toList s.vars apart W args.toList ds gs before →
      conds.all (PathCond.test C.prog ⟨fn.params.toList, ds, s.plain.varTypes C.prog, gs⟩) = true →
      (DataW.weightsEach C.prog (fn.params.toList ++ s.plain.varTypes C.prog) (ds ++ gs)).all (· ≤ reachBytes) = true → X W args →
      Ends C.prog (fun v W' => s.post enc C.prog fn apart fresh handsOn false W args v { W' with os := W.os } ∧ OsLater W.os W'.os) (solo (Conc.G (Frame.enter C.prog f args .normal) []) W) #[]) :
    ReturnsInLeavingWide a C os f .any (fun w args => (s.pre enc C.prog fn conds apart w args ∧ X w args) ∧ sizedMet enc C.prog fn (OpenSpec.ofChange s) apart w args) ((OpenSpec.ofChange s).postWith enc C.prog fn F (outsideKept [.timePasses]) apart fresh handsOn) := by
  refine returnsInLeavingWide_of_good own started witness ?_
  intro w tape i _ hsh _ hok hpre hholds
  obtain ⟨_, _, _, fn', hfn', _, _, _, _, hval⟩ := hok
  have e : fn' = fn := Option.some.inj (hfn'.symm.trans hfn)
  subst e
  obtain ⟨⟨⟨ds, gs, before, hw, hc⟩, hx⟩, hz⟩ := hpre
  have hw' := DataW.Whole.of_heap (w' := w.forCall tape i) (by rfl) hw
  obtain ⟨M, last, o, w', t', h1, h2, h3, h4⟩ := runs (w.forCall tape i) w.heap.size i.args ds gs before hsh hval hw' hc (hz.weights hw) (hX _ _ _ (by rfl) hx)
  obtain ⟨v, e, hp, r1, r2, r3, r4⟩ := h4
  exact ⟨M, last, o, w', t', h1, h2, h3, v, e, postWith_blind (postWith_of_post hp.1 hp.2), r1, r2, r3, r4⟩
theorem witness_calm {C : Checked} {os : Os} {f : FuncId} {fn : Func} {s : ChangeSpec} {conds : List PathCond} {apart : Bool} {X : World → Array Value → Prop} (w0 : World) (args : Array Value) (fuel : Nat) (hos : w0.os = os)
    (hv : (w0.forCall (fun _ _ => 0) ⟨#[], args, []⟩).variablesB C.prog = true)
    (hr : ((w0.forCall (fun _ _ => 0) ⟨#[], args, []⟩).heap.toList.drop C.prog.globals.size).take ((begin C.prog (fun _ _ => 0) default).world.heap.size - C.prog.globals.size) =
      (begin C.prog (fun _ _ => 0) default).world.heap.toList.drop C.prog.globals.size)
    (hok : Input.okWideB C.prog (w0.forCall (fun _ _ => 0) ⟨#[], args, []⟩) f ⟨#[], args, []⟩ = true)
    (hpre : s.preB enc C.prog fn conds apart (w0.forCall (fun _ _ => 0) ⟨#[], args, []⟩).memory args fuel = true)
    (hsz : s.sizedB enc C.prog fn apart (w0.forCall (fun _ _ => 0) ⟨#[], args, []⟩).memory args fuel = true)
    (hx : X (w0.forCall (fun _ _ => 0) ⟨#[], args, []⟩).memory args) :
    ∃ (w : World) (tape : Tape) (i : Input), w.os = os ∧ (w.forCall tape i).Shaped C.prog ∧ i.vars = [] ∧ Input.okWide C.prog (w.forCall tape i) .any w.heap.size f i ∧
      ((s.pre enc C.prog fn conds apart (w.forCall tape i).memory i.args ∧ X (w.forCall tape i).memory i.args) ∧ sizedMet enc C.prog fn (OpenSpec.ofChange s) apart (w.forCall tape i).memory i.args) ∧ ({ calm := true } : Assume).holds C.prog (lone (Frame.enter C.prog f i.args .normal) [] (w.forCall tape i)) :=
  ⟨w0, fun _ _ => 0, ⟨#[], args, []⟩, hos, World.shaped_of_B hv hr, (Input.okWide_of_okWideB (base := 0) hok).1, (Input.okWide_of_okWideB hok).2, ⟨⟨ChangeSpec.pre_of_preB hpre, hx⟩, sizedMet_of_sizedB hsz⟩, by
    simp only [Assume.holds]
    exact ⟨by simp, fun _ _ _ _ => rfl, by simp, by simp, by simp⟩⟩
theorem below_of {W w' : World} (hout : w'.output = W.output) (h : ∀ k, k < W.heap.size → w'.heap[k]? = W.heap[k]?) (hs : W.heap.size ≤ w'.heap.size) : Below W.heap.size W { w' with os := W.os, tape := W.tape } :=
  ⟨rfl, rfl, hout, hs, h⟩
theorem kept_of {W w' : World} (hout : w'.output = W.output) (h : ∀ k, k < W.heap.size → w'.heap[k]? = W.heap[k]?) (hs : W.heap.size ≤ w'.heap.size) (may : MemPlace → Prop) : W.keptBut { w' with os := W.os } may :=
  (below_of hout h hs).frame may
theorem laidMetH.of_heap {P : Program} {l : List (String × DataW Unit)} {w w' : World} (h : w.heap = w'.heap) (hl : laidMetH P l w) : laidMetH P l w' := by
  have hv : ∀ n, w.var? P n = w'.var? P n := fun n => by unfold World.var?; rw [h]
  have hh : ∀ hs, handlesMet P hs w → handlesMet P hs w' := fun hs hm x hx => by
    have := hm x hx
    split at this
    · obtain ⟨g, t, cs, fuel, p, h1, h2, h3, h4⟩ := this
      exact ⟨g, t, cs, fuel, p, h1, h2, (hv _) ▸ h3, by rw [← DataW.trod_heap h]; exact h4⟩
    · obtain ⟨name, u, ty, h1, h2, h3, h4, h5⟩ := this
      exact ⟨name, u, ty, h1, h2, h3, h4, (hv _) ▸ h5⟩
  unfold laidMetH at hl ⊢
  split at hl
  · exact hl.of_heap h
  · exact ⟨hl.1.of_heap h, hh _ hl.2⟩
end
end Go.Sl
end
section
set_option linter.unusedVariables false
namespace Go.Sl
open Go.Proofs Go.Conc Go.ConcM Go.RowKit
theorem cellsOf_estr : Tryz.prog.cellsOf 359 = 1 := by kernel_rfl
theorem cellsOf_str : Tryz.prog.cellsOf 9 = 1 := by kernel_rfl
theorem starEs : "*" ++ "errors.errorString" = "*errors.errorString" := by decide
theorem row_es (u : TypeId) (h : Tryz.prog.typeName? 3 u = some "*errors.errorString") : u = 339 :=
  typeName_ptr_named (nm := "errors.errorString") (by rw [starEs]; kernel_rfl) (by kernel_rfl) (by decide) u (by rw [starEs]; exact h)
theorem row_error (ty : Nat) (hl : ty < Tryz.prog.types.size) (h : Tryz.prog.rowNamed ty [101, 114, 114, 111, 114] = true) : ty = 46 := by
  have k : ((List.range Tryz.prog.types.size).all fun u => !Tryz.prog.rowNamed u [101, 114, 114, 111, 114] || u == 46) = true := by kernel_rfl
  have := List.all_eq_true.1 k ty (List.mem_range.2 hl)
  rw [h] at this
  simpa using this
def oneE (x : String × List UInt8) : String × DataW Unit := (x.1, .iface "*errors.errorString" (.ptr (.agg [.lit (.string x.2)])))
set_option maxRecDepth 100000 in
theorem sentinels {W : World} : ∀ (l : List (String × List UInt8)) (ps : List MemPlace), DataW.LaidVars Tryz.prog W (l.map oneE) ps → ps.Nodup →
    (∀ b off, MemPlace.cell b off ∈ ps → (∃ c t, W.heap[b]? = some (.cells c t (0, 0))) ∧ ∀ u v, W.cell? ⟨b, off, none⟩ = some (.iface u v) → Value.okWide Tryz.prog W .any 0 u v) →
    (∀ n, n ∈ l.map (·.1) → ∃ g, Tryz.prog.globalNamed n = some g ∧ (Tryz.prog.globals[g]?).map (·.type) = some 46) →
    ∃ asl : List (Nat × Nat), asl.length = l.length ∧ (∀ (k : Nat) (x : String × List UInt8), l[k]? = some x → ∃ a, asl[k]? = some a ∧ W.var? Tryz.prog x.1 = some #[errV a]) ∧
      asl.Pairwise (· ≠ ·) ∧ (∀ a ∈ asl, MemPlace.cell a.1 a.2 ∈ ps) := by
  intro l
  induction l with
  | nil => intro ps _ _ _ _; exact ⟨[], rfl, fun k x h => by simp at h, List.Pairwise.nil, fun a h => by simp at h⟩
  | cons x l ih =>
    intro ps hL hnd hrows hg
    obtain ⟨g0, t0, cs0, f0, p0, q0, hg0, ht0, hv0, hd0, hq, e0⟩ := hL
    obtain ⟨g, hg', ht'⟩ := hg x.1 (by simp)
    have hgx : Tryz.prog.globalNamed x.1 = some g0 := hg0
    obtain rfl := Option.some.inj (hgx.symm.trans hg')
    obtain rfl := Option.some.inj (ht'.symm.trans ht0)
    obtain ⟨l0⟩ := cs0
    subst e0
    have ok0 : ∀ u v, l0 = [.iface u v] → Value.okWide Tryz.prog W .any 0 u v := fun u v e => by
      subst e
      exact (hrows g0 0 (by simp [MemPlace.row])).2 u v (by simpa using World.var?_cell hg0 hv0 0)
    obtain ⟨a0, s0, rfl, hc0, hs0, hz0, rfl⟩ := errorString_of_trod Tryz.underlying46 row_es Tryz.underlying339 Tryz.underlying359 rfl rfl Tryz.underlying9 cellsOf_estr cellsOf_str hd0 ok0
    have hin : MemPlace.cell a0.block a0.off ∈ MemPlace.row a0 1 := by simp [MemPlace.row]
    have hsp : a0.spot = none := by
      unfold World.cell? at hc0
      split at hc0
      · split at hc0
        · cases hc0
        · rename_i hs
          simpa using hs
      · cases hc0
    have hnq : q0.Nodup := List.Nodup.sublist (List.sublist_append_right _ _) hnd
    obtain ⟨asl, hl, hall, hp, hm⟩ := ih q0 hq hnq (fun b off h => hrows b off (List.mem_append_right _ h)) (fun n hn => hg n (by simp at hn ⊢; exact .inr hn))
    obtain ⟨b0, o0, sp0⟩ := a0
    dsimp only at hsp
    subst hsp
    refine ⟨(b0, o0) :: asl, by simp [hl], fun k y hk => ?_, List.Pairwise.cons (fun a ha e => ?_) hp, fun a ha => ?_⟩
    · cases k with
      | zero => simp at hk; subst hk; exact ⟨(b0, o0), rfl, hv0⟩
      | succ k => simp at hk; simpa using hall k y hk
    · subst e
      rw [List.nodup_append] at hnd
      exact hnd.2.2 _ (List.mem_append_right _ hin) _ (hm _ ha) rfl
    · rcases List.mem_cons.1 ha with rfl | ha
      · exact List.mem_append_left _ (List.mem_append_right _ hin)
      · exact List.mem_append_right _ (hm a ha)
def nmE (k : Nat) : String := ["shardlog/cluster.ErrShape", "shardlog/cluster.ErrOps", "shardlog/cluster.ErrMany", "shardlog/cluster.ErrTx", "shardlog/cluster.ErrMessage", "shardlog/cluster.ErrShard", "shardlog/cluster.ErrDown", "shardlog/cluster.ErrUp", "shardlog/cluster.ErrStopped"].getD k ""
theorem gE : ∀ k, k < 9 → Tryz.prog.globalNamed (nmE k) = some (errG k) ∧ (Tryz.prog.globals[errG k]?).map (·.type) = some 46
  | 0, _ => ⟨by kernel_rfl, by kernel_rfl⟩
  | 1, _ => ⟨by kernel_rfl, by kernel_rfl⟩
  | 2, _ => ⟨by kernel_rfl, by kernel_rfl⟩
  | 3, _ => ⟨by kernel_rfl, by kernel_rfl⟩
  | 4, _ => ⟨by kernel_rfl, by kernel_rfl⟩
  | 5, _ => ⟨by kernel_rfl, by kernel_rfl⟩
  | 6, _ => ⟨by kernel_rfl, by kernel_rfl⟩
  | 7, _ => ⟨by kernel_rfl, by kernel_rfl⟩
  | 8, _ => ⟨by kernel_rfl, by kernel_rfl⟩
theorem gTy : Tryz.prog.globalNamed "errors.errorType" = some 4 := by kernel_rfl
def textsE : List (List UInt8) := [[110, 111, 32, 115, 117, 99, 104, 32, 99, 108, 117, 115, 116, 101, 114], [110, 111, 32, 116, 114, 97, 110, 115, 97, 99, 116, 105, 111, 110], [116, 111, 111, 32, 109, 97, 110, 121],
  [110, 111, 32, 115, 117, 99, 104, 32, 116, 114, 97, 110, 115, 97, 99, 116, 105, 111, 110], [110, 111, 32, 115, 117, 99, 104, 32, 109, 101, 115, 115, 97, 103, 101], [110, 111, 32, 115, 117, 99, 104, 32, 115, 104, 97, 114, 100],
  [97, 32, 115, 104, 97, 114, 100, 32, 116, 104, 97, 116, 32, 105, 115, 32, 100, 111, 119, 110], [97, 32, 115, 104, 97, 114, 100, 32, 116, 104, 97, 116, 32, 105, 115, 32, 117, 112], [116, 104, 101, 32, 99, 108, 117, 115, 116, 101, 114, 32, 104, 97, 115, 32, 98, 101, 101, 110, 32, 115, 116, 111, 112, 112, 101, 100]]
def pairsE : List (String × List UInt8) := [(nmE 0, textsE.getD 0 []), (nmE 1, textsE.getD 1 []), (nmE 2, textsE.getD 2 []), (nmE 3, textsE.getD 3 []), (nmE 4, textsE.getD 4 []), (nmE 5, textsE.getD 5 []), (nmE 6, textsE.getD 6 []), (nmE 7, textsE.getD 7 []), (nmE 8, textsE.getD 8 [])]
theorem pairsE_nm : ∀ k, k < 9 → (pairsE[k]?).map (·.1) = some (nmE k)
  | 0, _ => rfl
  | 1, _ => rfl
  | 2, _ => rfl
  | 3, _ => rfl
  | 4, _ => rfl
  | 5, _ => rfl
  | 6, _ => rfl
  | 7, _ => rfl
  | 8, _ => rfl
theorem handleTy : (Tryz.prog.cutTypes.find? (·.1 == "internal/reflectlite.rtype")).map (·.2) = some 231 := by kernel_rfl
theorem err_of_laid {W : World} {l : List (String × DataW Unit)} {d : DataW Unit} (hnone : (l.filter fun x => x.2.handleName?.isNone) = pairsE.map oneE) (hsome : (l.filter fun x => x.2.handleName?.isSome) = [("errors.errorType", d)]) (hfd : d.funcsIn? = none) (hnd : d.handleName? = some [101, 114, 114, 111, 114])
    (h : laidMetH Tryz.prog l W) (hS : W.ShapedOpen Tryz.prog) : ∃ eb, ErrI (hp W.heap) eb := by
  unfold laidMetH at h
  rw [hsome] at h
  dsimp only at h
  rw [hnone] at h
  obtain ⟨⟨ps, hL, hpnd, hrows⟩, hH⟩ := h
  have hgs : ∀ n, n ∈ pairsE.map (·.1) → ∃ g, Tryz.prog.globalNamed n = some g ∧ (Tryz.prog.globals[g]?).map (·.type) = some 46 := fun n hn => by
    rw [show pairsE.map (·.1) = [nmE 0, nmE 1, nmE 2, nmE 3, nmE 4, nmE 5, nmE 6, nmE 7, nmE 8] from rfl] at hn
    simp only [List.mem_cons, List.not_mem_nil, or_false] at hn
    rcases hn with h | h | h | h | h | h | h | h | h
    all_goals rw [h]; exact ⟨_, gE _ (by omega)⟩
  obtain ⟨asl, hl, hall, hp, hm⟩ := sentinels pairsE ps hL hpnd hrows hgs
  have hl9 : asl.length = 9 := hl
  have var_heap : ∀ {n : String} {g : Nat} {cs : Array Value}, Tryz.prog.globalNamed n = some g → W.var? Tryz.prog n = some cs → g < Tryz.prog.globals.size → ∃ t, W.heap[g]? = some (.cells cs t (0, 0)) := by
    intro n g cs hg hv hlt
    have hz : ∃ zero t, ((begin Tryz.prog (fun _ _ => 0) default).world.heap[g]?).bind Obj.row? = some (zero, t) := by
      have k : ((List.range Tryz.prog.globals.size).all fun g => (((begin Tryz.prog (fun _ _ => 0) default).world.heap[g]?).bind Obj.row?).isSome) = true := by kernel_rfl
      have := List.all_eq_true.1 k g (List.mem_range.2 hlt)
      obtain ⟨⟨a, b⟩, hab⟩ := Option.isSome_iff_exists.1 this
      exact ⟨a, b, hab⟩
    obtain ⟨zero, t, hz⟩ := hz
    obtain ⟨cs', h1, _⟩ := hS.1 g zero t hlt hz
    unfold World.var? at hv
    rw [hg, Option.bind_some, h1] at hv
    cases hv
    exact ⟨t, h1⟩
  have gsz : ∀ k, k < 9 → errG k < Tryz.prog.globals.size := fun k hk => by
    have := (gE k hk).2
    cases hx : Tryz.prog.globals[errG k]? with
    | none => rw [hx] at this; cases this
    | some _ => exact (Array.getElem?_eq_some_iff.1 hx).1
  refine ⟨fun k => asl.getD k (0, 0), fun k hk => ?_, fun k hk => ?_, fun j k hj hk e => ?_, ?_⟩
  · obtain ⟨x, hx, hx'⟩ := Option.map_eq_some_iff.1 (pairsE_nm k hk)
    obtain ⟨a, ha, hv⟩ := hall k x hx
    rw [hx'] at hv
    obtain ⟨t, ht⟩ := var_heap (gE k hk).1 hv (gsz k hk)
    refine ⟨t, ?_⟩
    simp only [List.getD, ha, Option.getD_some]
    exact ht
  · have h2 : k < asl.length := by omega
    have := hm asl[k] (List.getElem_mem h2)
    obtain ⟨c, t, h3⟩ := (hrows _ _ this).1
    refine ⟨c, t, ?_⟩
    simp only [List.getD, List.getElem?_eq_getElem h2, Option.getD_some]
    exact h3
  · have h1 : j < asl.length := by omega
    have h2 : k < asl.length := by omega
    simp only [List.getD, List.getElem?_eq_getElem h1, List.getElem?_eq_getElem h2, Option.getD_some] at e
    rcases Nat.lt_trichotomy j k with h | h | h
    · exact absurd e (List.pairwise_iff_getElem.1 hp j k h1 h2 h)
    · exact h
    · exact absurd e.symm (List.pairwise_iff_getElem.1 hp k j h2 h1 h)
  · have := hH ("errors.errorType", d) (by simp)
    dsimp only at this
    rw [hfd] at this
    dsimp only at this
    obtain ⟨name, u, ty, h1, h2, h3, h4, h5⟩ := this
    rw [hnd] at h1
    cases h1
    rw [handleTy] at h2
    cases h2
    obtain rfl := row_error ty h3 h4
    exact var_heap gTy h5 (Nat.le_of_ble_eq_true (by kernel_rfl))
end Go.Sl
end
section
set_option linter.unusedVariables false
namespace Go.Sl
open Go.Proofs
theorem list3 {α : Type} {l : List α} (h : l.length = 3) : ∃ a b c, l = [a, b, c] := by
  match l, h with
  | [a, b, c], _ => exact ⟨a, b, c, rfl⟩
theorem list6 {α : Type} {l : List α} (h : l.length = 6) : ∃ a b c d e f, l = [a, b, c, d, e, f] := by
  match l, h with
  | [a, b, c, d, e, f], _ => exact ⟨a, b, c, d, e, f, rfl⟩
theorem row_of {w : World} {base : Nat} {a : Addr} {z : Nat} {cs : List Value} (hz : 0 < z) (h : w.cells? base a z = some cs) : a.spot = none ∧ cs.length = z ∧ ∃ c ty fr, w.heap[a.block]? = some (.cells c ty fr) ∧ ∀ o, o < z → c[a.off + o]? = cs[o]? := by
  obtain ⟨_, hl, hc⟩ := World.cells?_some h
  have h0 := hc 0 hz
  have hcs : cs[0]? = some (cs[0]'(by omega)) := List.getElem?_eq_getElem _
  rw [hcs, add_zero] at h0
  unfold World.cell? at h0
  split at h0
  · rename_i c ty fr hb
    split at h0
    · cases h0
    · rename_i hs
      have hsp : a.spot = none := by simpa using hs
      refine ⟨hsp, hl, c, ty, fr, hb, fun o ho => ?_⟩
      have := hc o ho
      obtain ⟨b, off, sp⟩ := a
      dsimp only at hsp hb ⊢
      subst hsp
      rw [add_of] at this
      unfold World.cell? at this
      dsimp only at this
      rw [hb] at this
      simpa using this
  · cases h0
section
variable {H : Type} {enc : TypeId × Value → H} {P : Program} {w : World} {spare : Nat → Bool} {held : Bool}
theorem inSl_of {α : Type} {f : α → List Value} {z : Nat} {t e : TypeId} {Q : α → DataW H → Prop} (hz : 0 < z) (ht : P.underlying t = some (.slice e)) (hc : P.cellsOf e = z)
    (he : ∀ n cs y, DataW.trod enc P w 0 spare held n e cs = some y → ∃ a, f a = cs ∧ Q a y.1) {n : Nat} {cs : List Value} {x : DataW H × List MemPlace} (h : DataW.trod enc P w 0 spare held n t cs = some x) :
    ∃ v l es, cs = [v] ∧ inSl (hp w.heap) w.heap.size f z v l ∧ (x.1 = .nil ∧ es = [] ∨ ∃ sp, x.1 = .slice es sp) ∧ es.length = l.length ∧ ∀ a ∈ l, ∃ d ∈ es, Q a d := by
  rcases DataW.trod_slice ht h with ⟨rfl, rfl⟩ | ⟨a, len, cap, elems, rest, m, rfl, rfl, rfl, _, _, _, hlen, hel, _, _⟩
  · exact ⟨_, [], [], rfl, ⟨none, 0, rfl, .inl rfl⟩, .inl ⟨rfl, rfl⟩, rfl, by simp⟩
  subst hlen
  rw [hc] at hel
  have key : ∀ i : Fin elems.length, ∃ b, w.cells? 0 (a.add (i.1 * z)) z = some (f b) ∧ Q b elems[i.1].1 := fun i => by
    have h1 := hel i.1 i.2
    rw [List.getElem?_eq_getElem i.2, Option.bind_eq_some_iff] at h1
    obtain ⟨cs', h2, h3⟩ := h1
    obtain ⟨b, rfl, hb⟩ := he _ _ _ h3
    exact ⟨b, h2, hb⟩
  let l : List α := List.ofFn fun i => Classical.choose (key i)
  have hl : l.length = elems.length := List.length_ofFn
  have hg : ∀ (i : Nat) (hi : i < elems.length), w.cells? 0 (a.add (i * z)) z = some (f (l[i]'(by omega))) ∧ Q (l[i]'(by omega)) elems[i].1 := fun i hi => by
    have e : l[i]'(by omega) = Classical.choose (key ⟨i, hi⟩) := List.getElem_ofFn _
    rw [e]; exact Classical.choose_spec (key ⟨i, hi⟩)
  refine ⟨_, l, elems.map (·.1), rfl, ?_, .inr ⟨_, rfl⟩, by rw [List.length_map, hl], fun b hb => ?_⟩
  · refine ⟨some a, cap, by rw [hl], ?_⟩
    by_cases hn : elems.length = 0
    · exact .inl (List.eq_nil_of_length_eq_zero (by omega))
    · have h0 := (hg 0 (by omega)).1
      rw [Nat.zero_mul, add_zero] at h0
      obtain ⟨hsp, _, c, ty, fr, hb, _⟩ := row_of hz h0
      obtain ⟨b, off, sp⟩ := a
      dsimp only at hsp hb
      subst hsp
      refine .inr ⟨b, off, c, ty, fr, rfl, hb, (Array.getElem?_eq_some_iff.1 hb).1, fun j hj o ho => ?_⟩
      have hj' := (hg j (by omega)).1
      rw [add_of] at hj'
      obtain ⟨_, _, c', ty', fr', hb', hr⟩ := row_of hz hj'
      dsimp only at hb' hr
      rw [hb] at hb'
      cases hb'
      exact hr o ho
  · obtain ⟨i, hi, rfl⟩ := List.getElem_of_mem hb
    have hi' : i < elems.length := by omega
    exact ⟨elems[i].1, List.mem_map.2 ⟨_, List.getElem_mem hi', rfl⟩, (hg i hi').2⟩
end
section
variable {H : Type} {enc : TypeId × Value → H} {w : World} {spare : Nat → Bool} {held : Bool}
theorem cellsOf_bool : Tryz.prog.cellsOf 4 = 1 := by kernel_rfl
theorem cellsOf_int : Tryz.prog.cellsOf 3 = 1 := by kernel_rfl
theorem cellsOf_ops : Tryz.prog.cellsOf 27 = 1 := by kernel_rfl
theorem cellsOf_op : Tryz.prog.cellsOf 63 = 3 := by kernel_rfl
theorem cellsOf_step : Tryz.prog.cellsOf 29 = 6 := by kernel_rfl
theorem bytesOf_op : Tryz.prog.bytesOf 63 = 24 := by kernel_rfl
theorem bytesOf_step : Tryz.prog.bytesOf 29 = 64 := by kernel_rfl
theorem i64_of {n : Nat} {v : Value} {y : DataW H × List MemPlace} (h : DataW.trod enc Tryz.prog w 0 spare held n 3 [v] = some y) : ∃ k, v = .int .i64 k ∧ Z64 k := by
  obtain ⟨k, h1, _, h3⟩ := DataW.trod_int Tryz.underlying3 h
  refine ⟨k, by simpa using h1, ?_⟩
  simp only [Lit.wf, Bool.and_eq_true, decide_eq_true_eq] at h3
  exact h3
theorem op_of {n : Nat} {cs : List Value} {y : DataW H × List MemPlace} (h : DataW.trod enc Tryz.prog w 0 spare held n 63 cs = some y) : ∃ o, opRC o = cs ∧ OpZ o := by
  obtain ⟨xs, m, _, _, hl, hxl, hf⟩ := DataW.trod_struct Tryz.underlying63 h
  rw [cellsOf_op] at hl
  have hxl : xs.length = 3 := hxl
  obtain ⟨a, b, c, rfl⟩ := list3 hl
  have f0 : DataW.trod enc Tryz.prog w 0 spare held m 4 (([a, b, c].drop 0).take (Tryz.prog.cellsOf 4)) = xs[0]? := hf 0 _ rfl
  have f1 : DataW.trod enc Tryz.prog w 0 spare held m 3 (([a, b, c].drop 1).take (Tryz.prog.cellsOf 3)) = xs[1]? := hf 1 _ rfl
  have f2 : DataW.trod enc Tryz.prog w 0 spare held m 3 (([a, b, c].drop 2).take (Tryz.prog.cellsOf 3)) = xs[2]? := hf 2 _ rfl
  rw [List.getElem?_eq_getElem (by omega)] at f0 f1 f2
  rw [cellsOf_bool] at f0
  rw [cellsOf_int] at f1 f2
  obtain ⟨p, hp, _⟩ := DataW.trod_bool Tryz.underlying4 f0
  obtain ⟨q, rfl, hq⟩ := i64_of f1
  obtain ⟨r, rfl, hr⟩ := i64_of f2
  have hp : [a] = [.bool p] := hp
  cases hp
  exact ⟨⟨p, q, r⟩, rfl, hq, hr⟩
def StepQ (w : World) (s : StepV) (d : DataW H) : Prop := (∀ x ∈ d.weights Tryz.prog 29, x ≤ reachBytes) → StepI (hp w.heap) w.heap.size s
theorem step_of {n : Nat} {cs : List Value} {y : DataW H × List MemPlace} (h : DataW.trod enc Tryz.prog w 0 spare held n 29 cs = some y) : ∃ s, stepC s = cs ∧ StepQ w s y.1 := by
  obtain ⟨xs, m, _, hy, hl, hxl, hf⟩ := DataW.trod_struct Tryz.underlying29 h
  rw [cellsOf_step] at hl
  have hxl : xs.length = 6 := hxl
  obtain ⟨a, b, c, d, e, u, rfl⟩ := list6 hl
  have f0 : DataW.trod enc Tryz.prog w 0 spare held m 3 (([a, b, c, d, e, u].drop 0).take (Tryz.prog.cellsOf 3)) = xs[0]? := hf 0 _ rfl
  have f1 : DataW.trod enc Tryz.prog w 0 spare held m 3 (([a, b, c, d, e, u].drop 1).take (Tryz.prog.cellsOf 3)) = xs[1]? := hf 1 _ rfl
  have f2 : DataW.trod enc Tryz.prog w 0 spare held m 3 (([a, b, c, d, e, u].drop 2).take (Tryz.prog.cellsOf 3)) = xs[2]? := hf 2 _ rfl
  have f3 : DataW.trod enc Tryz.prog w 0 spare held m 3 (([a, b, c, d, e, u].drop 3).take (Tryz.prog.cellsOf 3)) = xs[3]? := hf 3 _ rfl
  have f4 : DataW.trod enc Tryz.prog w 0 spare held m 3 (([a, b, c, d, e, u].drop 4).take (Tryz.prog.cellsOf 3)) = xs[4]? := hf 4 _ rfl
  have f5 : DataW.trod enc Tryz.prog w 0 spare held m 27 (([a, b, c, d, e, u].drop 5).take (Tryz.prog.cellsOf 27)) = xs[5]? := hf 5 _ rfl
  rw [List.getElem?_eq_getElem (by omega)] at f0 f1 f2 f3 f4 f5
  rw [cellsOf_int] at f0 f1 f2 f3 f4
  rw [cellsOf_ops] at f5
  obtain ⟨p0, rfl, h0⟩ := i64_of f0
  obtain ⟨p1, rfl, h1⟩ := i64_of f1
  obtain ⟨p2, rfl, h2⟩ := i64_of f2
  obtain ⟨p3, rfl, h3⟩ := i64_of f3
  obtain ⟨p4, rfl, h4⟩ := i64_of f4
  obtain ⟨v, l, es, hv, hin, hd, hlen, hq⟩ := inSl_of (f := opRC) (z := 3) (Q := fun o _ => OpZ o) (by decide) Tryz.underlying27 cellsOf_op (fun n cs y h => op_of h) f5
  have hv : [u] = [v] := hv
  cases hv
  refine ⟨⟨p0, p1, p2, p3, p4, u, l⟩, rfl, fun hw => ⟨h0, h1, h2, h3, h4, hin, fun o ho => ?_, ?_⟩⟩
  · obtain ⟨_, _, h⟩ := hq o ho
    exact h
  · show l.length * 24 ≤ _
    rcases hd with ⟨_, rfl⟩ | ⟨sp, hd⟩
    · have : l.length = 0 := hlen.symm
      omega
    · rw [hy] at hw
      obtain ⟨x0, x1, x2, x3, x4, x5, rfl⟩ := list6 hxl
      have hd : x5.1 = .slice es sp := hd
      have := hw ((es.length + sp.length) * 24) (by
        unfold DataW.weights
        rw [Tryz.underlying29]
        simp only [List.map_cons, List.map_nil, DataW.weightsEach, List.mem_append]
        rw [hd]
        refine .inr (.inr (.inr (.inr (.inr (.inl ?_)))))
        unfold DataW.weights
        rw [Tryz.underlying27]
        simp only [bytesOf_op]
        exact List.mem_cons_self ..)
      unfold reachBytes at this
      rw [← hlen]
      have h9 : es.length * 24 ≤ (es.length + sp.length) * 24 := Nat.mul_le_mul_right _ (Nat.le_add_right ..)
      omega
theorem weightsAll_mem {P : Program} {e : TypeId} : ∀ {es : List (DataW H)} {d : DataW H}, d ∈ es → ∀ x ∈ d.weights P e, x ∈ DataW.weightsAll P e es
  | [], _, h, _, _ => by cases h
  | a :: es, d, h, x, hx => by
    unfold DataW.weightsAll
    rcases List.mem_cons.1 h with rfl | h
    · exact List.mem_append_left _ hx
    · exact List.mem_append_right _ (weightsAll_mem h x hx)
theorem script_of {n : Nat} {cs : List Value} {y : DataW H × List MemPlace} (h : DataW.trod enc Tryz.prog w 0 spare held n 22 cs = some y) (hw : ∀ x ∈ y.1.weights Tryz.prog 22, x ≤ reachBytes) :
    ∃ v sc, cs = [v] ∧ inSl (hp w.heap) w.heap.size stepC 6 v sc ∧ (∀ s ∈ sc, StepI (hp w.heap) w.heap.size s) ∧ sc.length * 64 ≤ 140737488355328 := by
  obtain ⟨v, l, es, hv, hin, hd, hlen, hq⟩ := inSl_of (f := stepC) (z := 6) (Q := fun s d => StepQ w s d) (by decide) Tryz.underlying22 cellsOf_step (fun n cs y h => step_of h) h
  refine ⟨v, l, hv, hin, fun s hs => ?_, ?_⟩
  · obtain ⟨d, hd1, hd2⟩ := hq s hs
    refine hd2 fun x hx => ?_
    rcases hd with ⟨_, rfl⟩ | ⟨sp, hd⟩
    · cases hd1
    · refine hw x ?_
      rw [hd]
      unfold DataW.weights
      rw [Tryz.underlying22]
      simp only [List.mem_cons, List.mem_append]
      exact .inr (.inl (weightsAll_mem hd1 x hx))
  · rcases hd with ⟨_, rfl⟩ | ⟨sp, hd⟩
    · have : l.length = 0 := hlen.symm
      omega
    · have := hw ((es.length + sp.length) * 64) (by
        rw [hd]
        unfold DataW.weights
        rw [Tryz.underlying22]
        simp only [bytesOf_step]
        exact List.mem_cons_self ..)
      unfold reachBytes at this
      rw [← hlen]
      have h9 : es.length * 64 ≤ (es.length + sp.length) * 64 := Nat.mul_le_mul_right _ (Nat.le_add_right ..)
      omega
end
end Go.Sl
end
section
set_option linter.unusedVariables false
namespace Go.Sl
open Go.Proofs Go.Conc Go.ConcM Go.RowKit Go.ChangeShapes Go.WideShapes
theorem laidOut : laidOutB Tryz.prog = true := by kernel_rfl
theorem script_read : Tryz.prog.readableRec 22 = true := by kernel_rfl
theorem script_row : 22 < Tryz.prog.types.size := Nat.le_of_ble_eq_true (by kernel_rfl)
section
variable {H : Type} {enc : TypeId × Value → H}
set_option maxRecDepth 100000 in
theorem law_ends {f : FuncId} {fu : Func} {s : ChangeSpec} {apart fresh handsOn : Bool} {W : World} {base : Nat} {args : Array Value} {ds gs : List (DataW H)} {before : List MemPlace}
    (hpar : fu.params.toList = [22]) (hres : fu.resultTypes = #[4]) (hvars : s.vars = []) (hfn : ∀ d : DataW H, (s.fn H [d]).results = [.lit (.bool true)] ∧ (s.fn H [d]).args = [d] ∧ (s.fn H [d]).vars = [])
    (hval : ∀ (j : Nat) t v, fu.params[j]? = some t → args[j]? = some v → Value.okWide Tryz.prog W .any base t v)
    (hW : DataW.Whole enc Tryz.prog fu.params.toList s.vars apart W args.toList ds gs before) (hwt : (DataW.weightsEach Tryz.prog (fu.params.toList ++ s.plain.varTypes Tryz.prog) (ds ++ gs)).all (· ≤ reachBytes) = true)
    (hE : ∃ eb, ErrI (hp W.heap) eb)
    (run : ∀ {Post : Value → World → Prop} {os : Os} {out : Array (Nat × ByteArray)} {σ : Gh} {I : HL} {v : Value} {sc : List StepV} {eb : Nat → Nat × Nat}, ErrI I eb → inSl I σ.bot stepC 6 v sc → (∀ s ∈ sc, StepI I σ.bot s) → sc.length < 2 ^ 60 → Idle0 σ →
      (∀ (I' : HL) (w : World), Sub I I' → Sat [imm I'] (hp w.heap) → w.os = os → w.output = out → Post (.bool true) w) → At (RunR Tryz.prog Post barX σ 0 os out) 0 [imm I] (enterG Tryz.prog f #[v] .nor [])) :
    Ends Tryz.prog (fun v W' => s.post enc Tryz.prog fu apart fresh handsOn false W args v { W' with os := W.os } ∧ OsLater W.os W'.os) (solo (G (Frame.enter Tryz.prog f args .normal) []) W) #[] := by
  have hW' := hW
  obtain ⟨p, q, hA, hV, rfl, hfz, hnd⟩ := hW
  rw [hvars] at hV
  obtain ⟨rfl, rfl⟩ := trodVars_none hV
  rw [hpar] at hA
  obtain ⟨v, d, rfl, rfl, hd⟩ := trodAll_one hA
  obtain ⟨n, ht⟩ := hd
  rw [hpar] at hwt
  obtain ⟨v', sc, hcs, hin, hst, hlen⟩ := script_of ht (fun x hx => by
    have := List.all_eq_true.1 hwt x (by
      simp only [List.cons_append, List.nil_append, DataW.weightsEach, List.mem_append]
      exact .inl hx)
    simpa using this)
  have hp0 : fu.params[0]? = some 22 := by rw [← Array.getElem?_toList, hpar]; rfl
  have hv0 := hval 0 22 v hp0 (by simp)
  obtain ⟨a0, len0, cap0, rfl⟩ := okWide_slice Tryz.underlying22 hv0
  obtain rfl : Value.slice a0 len0 cap0 = v' := (List.cons.inj hcs).1
  obtain ⟨eb, hE⟩ := hE
  have h0 : Idle0 { n := 1, seats := fun _ => none, sh := fun _ => False, bot := W.heap.size } := ⟨Nat.one_ne_zero, fun _ => rfl⟩
  refine Run.whole (bot := W.heap.size) ?_
  have hr := run (Post := fun v W' => s.post enc Tryz.prog fu apart fresh handsOn false W #[.slice a0 len0 cap0] v { W' with os := W.os } ∧ OsLater W.os W'.os) (os := W.os) (out := W.output) (σ := { n := 1, seats := fun _ => none, sh := fun _ => False, bot := W.heap.size }) (I := hp W.heap) hE hin hst (by omega) h0 ?_
  · exact hr W.heap ⟨_, rfl, fun _ _ h => h, trivial⟩ rfl (GO.mk (fun i s h => by cases h) (fun i s c h => by cases h) (fun i s p h => by cases h) (fun l h => False.elim h) (Nat.le_refl _)) W rfl rfl rfl
  · intro I' w hsub hsat hos hout
    obtain ⟨h1, rfl, hs1, _⟩ := hsat
    have hlow : ∀ k, k < W.heap.size → w.heap[k]? = W.heap[k]? := fun k hk => by
      have e : W.heap[k]? = some (W.heap[k]'hk) := Array.getElem?_eq_getElem hk
      rw [e]
      exact hs1 _ _ (hsub _ _ e)
    have hsz : W.heap.size ≤ w.heap.size := by
      by_cases h : W.heap.size = 0
      · omega
      · have e : W.heap[W.heap.size - 1]? = some (W.heap[W.heap.size - 1]'(by omega)) := Array.getElem?_eq_getElem (by omega)
        have := (Array.getElem?_eq_some_iff.1 (hlow (W.heap.size - 1) (by omega) |>.trans e)).1
        omega
    have hb := below_of (w' := w) hout hlow hsz
    obtain ⟨e1, e2, e3⟩ := hfn d
    simp only [List.append_nil] at hW'
    have hargs := Below.trod laidOut script_read script_row ⟨n, ht⟩ hb (fun x hx => hW'.lt x hx)
    refine ⟨⟨[d], [], p, [], p, [], hW', ?_, ?_, ?_, kept_of hout hlow hsz _, fun h => by cases h⟩, by rw [hos]; exact OsLater.refl _⟩
    · rw [List.append_nil, e1, hres]; exact trodAll_mk1 (shut_bool Tryz.underlying4 true)
    · rw [List.append_nil, e2, hpar]; exact trodAll_mk1 (DataW.Trod.of_heap (w' := { w with os := W.os }) (by rfl) hargs)
    · rw [List.append_nil, e3, hvars]; rfl
end
end Go.Sl
end
