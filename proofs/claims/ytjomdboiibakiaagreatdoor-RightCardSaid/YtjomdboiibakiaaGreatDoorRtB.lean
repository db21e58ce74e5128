/-
  Texts that the proof needs, joined: part 2.
-/
import Derived.Test.YtjomdboiibakiaaGreatDoorRtA
import Derived.Laws.BitsLemmas
import Derived.Laws.Append
import Derived.Orders
import Derived.Conc.DeferLaws
import Derived.Conc.AtomicLaws2
import Derived.Conc.SmallLaws
import Derived.Laws.LoneSync
import Derived.Conc.EventLaws
section
set_option linter.unusedVariables false
namespace Go.Sl
open Go.Conc
theorem w64 {r : Int} (h1 : -9223372036854775808 ≤ r) (h2 : r ≤ 9223372036854775807) : IntKind.i64.wrap r = r := by rw [IntKind.wrap_i64]; omega
theorem w32 {r : Int} (h1 : -2147483648 ≤ r) (h2 : r ≤ 2147483647) : IntKind.i32.wrap r = r := by rw [IntKind.wrap_i32]; omega
theorem wu8 {r : Int} (h1 : 0 ≤ r) (h2 : r ≤ 255) : IntKind.u8.wrap r = r := by rw [IntKind.wrap_u8]; omega
section
variable {P : Program} {main : Bool} {B : Bad} {R : Nat → Goroutine → Array Obj → Prop} {d : Nat} {As As' : List HP}
variable {fn : FuncId} {kd : Kd} {n : Nat} {e : Nat → Value} {ds : List Deferred} {k : List Item} {cs : List Frame}
variable {ops : Array Oper} {i : Nat} {rest : List Nat} {dst : Option Nat} {t : Nat} {ty : TypeId} {pos : String} {af : Array Edge} {gd : Option (Nat × Bool)} {x y z : Operand} {v u : Value} {b off : Nat} {c : Array Value} {el tt t2 : TypeId}
variable {kk : IntKind} {p q r : Int}
theorem pu_guard_int {op : BinOp} {k1 k2 : IntKind} : Pu P (eqGuard op tt x y (.int k1 p) (.int k2 q)) () := by cases op <;> exact fun _ _ _ _ h => h
abbrev Nx (R : Nat → Goroutine → Array Obj → Prop) (d : Nat) (As : List HP) (fn : FuncId) (kd : Kd) (n : Nat) (e : Nat → Value) (ds : List Deferred) (ops : Array Oper) (rest : List Nat) (k : List Item) (cs : List Frame) (t : Nat) (v : Value) : Prop :=
  At R d As (gr fn kd n (put e t v) ds (.inRegion ops rest :: k) cs)
abbrev Nw (R : Nat → Goroutine → Array Obj → Prop) (d : Nat) (As : List HP) (fn : FuncId) (kd : Kd) (n : Nat) (e : Nat → Value) (ds : List Deferred) (ops : Array Oper) (i : Nat) (rest : List Nat) (k : List Item) (cs : List Frame) : Prop :=
  At R d As (gr fn kd n e ds (.inRegion ops (i :: rest) :: k) cs)
def arith (op : BinOp) (p q : Int) : Option Int := match op with | .add => some (p + q) | .sub => some (p - q) | .mul => some (p * q) | _ => none
theorem pu_arith {op : BinOp} (h : arith op p q = some r) (hr : kk.wrap r = r) : Pu P (binOp op tt (.int kk p) (.int kk q)) (.int kk r) := by
  intro B H d Q q'
  cases op <;> simp only [arith, Option.some.injEq] at h <;> first | (cases h; done) | skip
  all_goals (subst h; unfold binOp; simp only [ne_eq, not_true_eq_false, if_false, Op.intArith, hr]; exact q')
theorem Closed.ar (C : Closed P main B R) {op : BinOp} (ho : nthO ops i = some ⟨some t, .binOp op tt x y t2, ty, pos, af, gd⟩) (h : Nx R d As fn kd n e ds ops rest k cs t (.int kk r))
    (hx : ev n e x = .int kk p := by rfl) (hy : ev n e y = .int kk q := by rfl) (ha : arith op p q = some r := by rfl) (hr : kk.wrap r = r := by first | exact w64 (by omega) (by omega) | exact w32 (by omega) (by omega) | exact wu8 (by omega) (by omega)) (hw : wantB ops n e gd = true := by rfl) : Nw R d As fn kd n e ds ops i rest k cs :=
  C.val ho hw (fun B H d Q q' => by
    unfold execOp; simp only [hx, hy]
    exact okS_do (okS_do (pu_guard_int B H d _ (pu_arith ha hr B H d _ q')))) h
theorem Closed.arw (C : Closed P main B R) {op : BinOp} (ho : nthO ops i = some ⟨some t, .binOp op tt x y t2, ty, pos, af, gd⟩) (h : Nx R d As fn kd n e ds ops rest k cs t (.int kk (kk.wrap r)))
    (hx : ev n e x = .int kk p := by rfl) (hy : ev n e y = .int kk q := by rfl) (ha : arith op p q = some r := by rfl) (hw : wantB ops n e gd = true := by rfl) : Nw R d As fn kd n e ds ops i rest k cs :=
  C.val ho hw (fun B H d Q q' => by
    unfold execOp; simp only [hx, hy]
    refine okS_do (okS_do (pu_guard_int B H d _ ?_))
    cases op <;> simp only [arith, Option.some.injEq] at ha <;> first | (cases ha; done) | skip
    all_goals (subst ha; unfold binOp; simp only [ne_eq, not_true_eq_false, if_false, Op.intArith]; exact q')) h
theorem Closed.quo (C : Closed P main B R) (ho : nthO ops i = some ⟨some t, .binOp .quo tt x y t2, ty, pos, af, gd⟩) (h : Nx R d As fn kd n e ds ops rest k cs t (.int kk (p.tdiv q)))
    (hx : ev n e x = .int kk p := by rfl) (hy : ev n e y = .int kk q := by rfl) (h0 : q ≠ 0 := by first | decide | omega) (hr : kk.wrap (p.tdiv q) = p.tdiv q := by first | exact w64 (by omega) (by omega)) (hw : wantB ops n e gd = true := by rfl) : Nw R d As fn kd n e ds ops i rest k cs :=
  C.val ho hw (fun B H d Q q' => by
    unfold execOp; simp only [hx, hy]
    refine okS_do (okS_do (pu_guard_int B H d _ ?_))
    unfold binOp; simp only [ne_eq, not_true_eq_false, if_false, Op.intDiv, if_neg h0, hr]; exact q') h
theorem Closed.rem (C : Closed P main B R) (ho : nthO ops i = some ⟨some t, .binOp .rem tt x y t2, ty, pos, af, gd⟩) (h : Nx R d As fn kd n e ds ops rest k cs t (.int kk (p.tmod q)))
    (hx : ev n e x = .int kk p := by rfl) (hy : ev n e y = .int kk q := by rfl) (h0 : q ≠ 0 := by first | decide | omega) (hw : wantB ops n e gd = true := by rfl) : Nw R d As fn kd n e ds ops i rest k cs :=
  C.val ho hw (fun B H d Q q' => by
    unfold execOp; simp only [hx, hy]
    refine okS_do (okS_do (pu_guard_int B H d _ ?_))
    unfold binOp; simp only [ne_eq, not_true_eq_false, if_false, Op.intDiv, if_neg h0]; exact q') h
def cmpP (op : BinOp) (p q : Int) : Option Prop := match op with | .eql => some (p = q) | .neq => some (p ≠ q) | .lss => some (p < q) | .leq => some (p ≤ q) | .gtr => some (p > q) | .geq => some (p ≥ q) | _ => none
def cmpB (op : BinOp) (p q : Int) : Bool := match op with | .eql => p == q | .neq => p != q | .lss => p < q | .leq => p ≤ q | .gtr => p > q | .geq => p ≥ q | _ => false
theorem cmp_iff {op : BinOp} {φ : Prop} (h : cmpP op p q = some φ) : cmpB op p q = true ↔ φ := by
  cases op <;> simp only [cmpP, Option.some.injEq] at h <;> first | (cases h; done) | (subst h; simp [cmpB])
theorem pu_cmp {op : BinOp} {φ : Prop} (h : cmpP op p q = some φ) : Pu P (binOp op tt (.int kk p) (.int kk q)) (.bool (cmpB op p q)) := by
  intro B H d Q q'
  cases op <;> simp only [cmpP, Option.some.injEq] at h <;> first | (cases h; done) | skip
  all_goals (unfold binOp; simp only [ne_eq, not_true_eq_false, if_false, Op.intCmp]; exact q')
theorem Closed.cmp (C : Closed P main B R) {op : BinOp} {φ : Prop} (ho : nthO ops i = some ⟨some t, .binOp op tt x y t2, ty, pos, af, gd⟩) (h1 : φ → Nx R d As fn kd n e ds ops rest k cs t (.bool true)) (h2 : ¬ φ → Nx R d As fn kd n e ds ops rest k cs t (.bool false))
    (hx : ev n e x = .int kk p := by rfl) (hy : ev n e y = .int kk q := by rfl) (hc : cmpP op p q = some φ := by rfl) (hw : wantB ops n e gd = true := by rfl) : Nw R d As fn kd n e ds ops i rest k cs := by
  have key : Nx R d As fn kd n e ds ops rest k cs t (.bool (cmpB op p q)) := by
    cases hb : cmpB op p q with
    | true => exact h1 ((cmp_iff hc).1 hb)
    | false => exact h2 fun f => by rw [(cmp_iff hc).2 f] at hb; cases hb
  exact C.val ho hw (fun B H d Q q' => by
    unfold execOp; simp only [hx, hy]
    exact okS_do (okS_do (pu_guard_int B H d _ (pu_cmp hc B H d _ q')))) key
theorem Closed.cmpT (C : Closed P main B R) {op : BinOp} {φ : Prop} (ho : nthO ops i = some ⟨some t, .binOp op tt x y t2, ty, pos, af, gd⟩) (h : Nx R d As fn kd n e ds ops rest k cs t (.bool true))
    (hx : ev n e x = .int kk p := by rfl) (hy : ev n e y = .int kk q := by rfl) (hc : cmpP op p q = some φ := by rfl) (hf : φ := by first | decide | omega) (hw : wantB ops n e gd = true := by rfl) : Nw R d As fn kd n e ds ops i rest k cs :=
  C.cmp ho (fun _ => h) (fun f => absurd hf f) hx hy hc hw
theorem Closed.cmpF (C : Closed P main B R) {op : BinOp} {φ : Prop} (ho : nthO ops i = some ⟨some t, .binOp op tt x y t2, ty, pos, af, gd⟩) (h : Nx R d As fn kd n e ds ops rest k cs t (.bool false))
    (hx : ev n e x = .int kk p := by rfl) (hy : ev n e y = .int kk q := by rfl) (hc : cmpP op p q = some φ := by rfl) (hf : ¬ φ := by first | decide | omega) (hw : wantB ops n e gd = true := by rfl) : Nw R d As fn kd n e ds ops i rest k cs :=
  C.cmp ho (fun f => absurd f hf) (fun _ => h) hx hy hc hw
theorem Closed.cmpV (C : Closed P main B R) {op : BinOp} {φ : Prop} (ho : nthO ops i = some ⟨some t, .binOp op tt x y t2, ty, pos, af, gd⟩) (h : Nx R d As fn kd n e ds ops rest k cs t (.bool (cmpB op p q)))
    (hx : ev n e x = .int kk p := by rfl) (hy : ev n e y = .int kk q := by rfl) (hc : cmpP op p q = some φ := by rfl) (hw : wantB ops n e gd = true := by rfl) : Nw R d As fn kd n e ds ops i rest k cs :=
  C.val ho hw (fun B H d Q q' => by
    unfold execOp; simp only [hx, hy]
    exact okS_do (okS_do (pu_guard_int B H d _ (pu_cmp hc B H d _ q')))) h
theorem Closed.nt (C : Closed P main B R) {b : Bool} (ho : nthO ops i = some ⟨some t, .unOp .not tt x, ty, pos, af, gd⟩) (h : Nx R d As fn kd n e ds ops rest k cs t (.bool (!b)))
    (hx : ev n e x = .bool b := by rfl) (hw : wantB ops n e gd = true := by rfl) : Nw R d As fn kd n e ds ops i rest k cs :=
  C.val ho hw (fun B H d Q q' => by unfold execOp; simp only [hx]; exact q') h
theorem Closed.ngI (C : Closed P main B R) (ho : nthO ops i = some ⟨some t, .unOp .neg tt x, ty, pos, af, gd⟩) (h : Nx R d As fn kd n e ds ops rest k cs t (.int kk r))
    (hx : ev n e x = .int kk p := by rfl) (hr : kk.wrap (0 - p) = r := by exact w64 (by omega) (by omega)) (hw : wantB ops n e gd = true := by rfl) : Nw R d As fn kd n e ds ops i rest k cs :=
  C.val ho hw (fun B H d Q q' => by unfold execOp; simp only [hx, Op.unary, Op.intArith, hr]; exact q') h
theorem Closed.pk (C : Closed P main B R) {b : Bool} (ho : nthO ops i = some ⟨some t, .pick x y z, ty, pos, af, gd⟩) (h : Nx R d As fn kd n e ds ops rest k cs t v)
    (hx : ev n e x = .bool b := by rfl) (hv : (if b then ev n e y else ev n e z) = v := by conv => { lhs; whnf }) (hw : wantB ops n e gd = true := by rfl) : Nw R d As fn kd n e ds ops i rest k cs :=
  C.val ho hw (fun B H d Q q' => by
    unfold execOp; simp only [hx, asBool]
    refine okS_do (okS_pure ?_)
    cases b <;> (subst hv; exact q')) h
theorem Closed.cv (C : Closed P main B R) {k1 k2 : IntKind} {s1 s2 : TypeId} [c1 : Ik P s1 k1] [c2 : Ik P s2 k2] (ho : nthO ops i = some ⟨some t, .convert s1 s2 x, ty, pos, af, gd⟩) (h : Nx R d As fn kd n e ds ops rest k cs t (.int k2 r))
    (hx : ev n e x = .int k1 p := by rfl) (hr : k2.wrap p = r := by first | exact w64 (by omega) (by omega) | exact w32 (by omega) (by omega) | exact wu8 (by omega) (by omega)) (hw : wantB ops n e gd = true := by rfl) : Nw R d As fn kd n e ds ops i rest k cs :=
  C.val ho hw (fun B H d Q q' => by
    unfold execOp; simp only [hx]
    refine okS_do ?_
    unfold convert
    refine okS_do (pu_und c1.h B H d _ (okS_do (pu_und c2.h B H d _ ?_)))
    simp only [Conv.intToInt, hr]
    exact q') h
theorem Closed.ext (C : Closed P main B R) {vs : Array Value} {ix : Nat} (ho : nthO ops i = some ⟨some t, .extract x ix, ty, pos, af, gd⟩) (h : Nx R d As fn kd n e ds ops rest k cs t v)
    (hx : ev n e x = .tuple vs := by rfl) (hv : vs[ix]? = some v := by rfl) (hw : wantB ops n e gd = true := by rfl) : Nw R d As fn kd n e ds ops i rest k cs :=
  C.val ho hw (fun B H d Q q' => by unfold execOp; simp only [hx, Instr.extract, hv]; exact q') h
theorem Closed.mi (C : Closed P main B R) [c : NI P tt] (ho : nthO ops i = some ⟨some t, .makeInterface tt x, ty, pos, af, gd⟩) (h : Nx R d As fn kd n e ds ops rest k cs t (.iface tt v))
    (hx : ev n e x = v := by conv => { lhs; whnf }) (hw : wantB ops n e gd = true := by rfl) : Nw R d As fn kd n e ds ops i rest k cs :=
  C.val ho hw (fun B H d Q q' => by
    obtain ⟨u, h1, h2⟩ := c.h
    unfold execOp; simp only [hx, Instr.makeInterface]
    refine okS_do (okS_do (pu_und h1 B H d _ ?_))
    cases u <;> first | exact q' | cases h2) h
theorem Closed.mf (C : Closed P main B R) {f : Fn} {a1 a2 : Array Operand} {v1 v2 : List Value} (ho : nthO ops i = some ⟨some t, .makeFunc f a1 a2, ty, pos, af, gd⟩) (h : Nx R d As fn kd n e ds ops rest k cs t (.func f v1.toArray v2.toArray))
    (h1 : a1.toList.map (ev n e) = v1 := by rfl) (h2 : a2.toList.map (ev n e) = v2 := by rfl) (hw : wantB ops n e gd = true := by rfl) : Nw R d As fn kd n e ds ops i rest k cs :=
  C.val ho hw (fun B H d Q q' => by
    have h1' : a1.map (ev n e) = v1.toArray := by rw [← h1, ← Array.toList_map, Array.toArray_toList]
    have h2' : a2.map (ev n e) = v2.toArray := by rw [← h2, ← Array.toList_map, Array.toArray_toList]
    unfold execOp; simp only [Instr.makeFunc, h1', h2']; exact q') h
theorem Closed.fd (C : Closed P main B R) {xs : Array Value} {s f o ft : Nat} (hf : ∃ fs fl, P.underlying s = some (.struct fs) ∧ fs[f]? = some fl ∧ fl.offset = o ∧ fl.type = ft) [Ag P ft false] (ho : nthO ops i = some ⟨some t, .field s x f, ty, pos, af, gd⟩) (h : Nx R d As fn kd n e ds ops rest k cs t v)
    (hx : ev n e x = .agg xs := by rfl) (hv : xs[o]? = some v := by rfl) (hw : wantB ops n e gd = true := by rfl) : Nw R d As fn kd n e ds ops i rest k cs :=
  C.val ho hw (fun B H d Q q' => by
    obtain ⟨fs, fl, h1, h2, rfl, rfl⟩ := hf
    unfold execOp; simp only [hx, Instr.field]
    refine okS_do (okS_do (pu_und h1 B H d _ ?_))
    simp only [h2, asAgg]
    refine okS_do (okS_pure ?_)
    unfold part
    refine okS_do (pu_agg B H d _ ?_)
    simp only [hv]
    exact q') h
theorem Closed.al (C : Closed P main B R) {z : Value} [cz : Zv P tt z] (ho : nthO ops i = some ⟨some t, .alloc tt, ty, pos, af, gd⟩) (h : ∀ b, Nx R d (pts b (.cells c tt (0, 0)) :: As) fn kd n e ds ops rest k cs t (.pointer (some ⟨b, 0, none⟩)))
    (hc : z.cells = c := by first | (simp only [Value.cells]; done) | (simp only [Value.cells]; rfl) | rfl) (hw : wantB ops n e gd = true := by rfl) : Nw R d As fn kd n e ds ops i rest k cs :=
  C.gen ho hw fun H s => by
    unfold execOp; simp only [Instr.alloc]
    subst hc
    refine okS_do (okS_do (pu_zero B H d _ ?_))
    exact ⟨_, s.push _, h _⟩
theorem Closed.bx (C : Closed P main B R) (ho : nthO ops i = some ⟨some t, .box tt x, ty, pos, af, gd⟩) (h : ∀ b, Nx R d (pts b (.cells c tt (0, 0)) :: As) fn kd n e ds ops rest k cs t (.pointer (some ⟨b, 0, none⟩)))
    {v0 : Value} (hx0 : ev n e x = v0 := by conv => { lhs; whnf }) (hx : v0.cells = c := by first | (simp only [Value.cells]; done) | (simp only [Value.cells]; rfl) | rfl) (hw : wantB ops n e gd = true := by rfl) : Nw R d As fn kd n e ds ops i rest k cs :=
  C.gen ho hw fun H s => by
    unfold execOp; simp only [Instr.box]
    subst hx0; subst hx
    exact ⟨_, s.push _, h _⟩
inductive SzL (P : Program) : List Field → List (Nat × Nat) → Prop
  | nil : SzL P [] []
  | cons {f : Field} {l : List Field} {m : List (Nat × Nat)} {o z : Nat} (ho : f.offset = o) (h : ∃ i, P.info? f.type = some i ∧ i.size = z) : SzL P l m → SzL P (f :: l) ((o, z) :: m)
theorem SzL.pu {P : Program} {l : List Field} {m : List (Nat × Nat)} (s : SzL P l m) : Pu P (l.mapM fun f => (do pure (f.offset, ← sizeOf f.type) : Sem (Nat × Nat))) m := by
  induction s with
  | nil => rw [List.mapM_nil]; exact Pu.pure _
  | cons ho h _ ih =>
    obtain ⟨i, h, rfl⟩ := h
    subst ho
    rw [List.mapM_cons]
    refine Pu.bind (a := (_, _)) (fun B H d Q q => ?_) (Pu.bind ih (Pu.pure _))
    unfold sizeOf
    exact okS_do (okS_do (pu_typeInfo h B H d _ q))
class Bd (P : Program) (t : TypeId) (pl : outParam (List (Nat × Nat))) : Prop where
  h : ∃ fs, P.underlying t = some (.struct fs) ∧ SzL P fs.toList pl
end
end Go.Sl
end
section
set_option linter.unusedVariables false
namespace Go.Sl
open Go.Conc
def flat {α : Type} (f : α → List Value) (l : List α) : List Value := l.flatMap f
section
variable {α : Type} {f : α → List Value} {z : Nat}
theorem flat_len (hz : ∀ a, (f a).length = z) : ∀ (l : List α), (flat f l).length = l.length * z
  | [] => by simp [flat]
  | a :: l => by
    have := flat_len hz l
    simp only [flat, List.flatMap_cons, List.length_append, List.length_cons] at this ⊢
    rw [this, hz, Nat.add_mul]; omega
theorem flat_get (hz : ∀ a, (f a).length = z) : ∀ (l : List α) (pad : List Value) (i j : Nat) (hi : i < l.length), j < z → (flat f l ++ pad)[i * z + j]? = (f l[i])[j]?
  | a :: l, pad, 0, j, _, hj => by
    simp only [flat, List.flatMap_cons, Nat.zero_mul, Nat.zero_add, List.append_assoc, List.getElem_cons_zero]
    rw [List.getElem?_append_left (by rw [hz]; exact hj)]
  | a :: l, pad, i + 1, j, hi, hj => by
    have := flat_get hz l pad i j (by simpa using hi) hj
    simp only [flat, List.flatMap_cons, List.append_assoc, List.getElem_cons_succ] at this ⊢
    have e : (i + 1) * z + j = z + (i * z + j) := by rw [Nat.add_mul]; omega
    rw [List.getElem?_append_right (by rw [hz]; omega), hz, e]
    have : z + (i * z + j) - z = i * z + j := by omega
    rw [this]; assumption
theorem flat_take (hz : ∀ a, (f a).length = z) : ∀ (l : List α) (pad : List Value) (i : Nat) (hi : i < l.length), ((flat f l ++ pad).drop (i * z)).take z = f l[i]
  | a :: l, pad, 0, _ => by
    simp only [flat, List.flatMap_cons, Nat.zero_mul, List.drop_zero, List.append_assoc, List.getElem_cons_zero]
    rw [← hz a, List.take_left]
  | a :: l, pad, i + 1, hi => by
    have := flat_take hz l pad i (by simpa using hi)
    simp only [flat, List.flatMap_cons, List.append_assoc, List.getElem_cons_succ] at this ⊢
    have e : (i + 1) * z = (f a).length + i * z := by rw [hz, Nat.add_mul]; omega
    rw [e, List.drop_append]
    have h1 : (f a).drop ((f a).length + i * z) = [] := List.drop_eq_nil_of_le (by omega)
    have h2 : (f a).length + i * z - (f a).length = i * z := by omega
    rw [h1, h2, List.nil_append]; exact this
theorem flat_app (l m : List α) : flat f (l ++ m) = flat f l ++ flat f m := by simp [flat]
theorem flat_cons (a : α) (l : List α) : flat f (a :: l) = f a ++ flat f l := by simp [flat]
theorem flat_nil : flat f [] = [] := rfl
theorem flat_takeN (hz : ∀ a, (f a).length = z) (l : List α) (pad : List Value) (i : Nat) (hi : i ≤ l.length) : (flat f l ++ pad).take (i * z) = flat f (l.take i) := by
  conv => lhs; rw [← List.take_append_drop i l, flat_app, List.append_assoc]
  have : (flat f (l.take i)).length = i * z := by rw [flat_len hz, List.length_take, Nat.min_eq_left hi]
  rw [← this, List.take_left]
theorem flat_dropN (hz : ∀ a, (f a).length = z) (l : List α) (pad : List Value) (i : Nat) (hi : i ≤ l.length) : (flat f l ++ pad).drop (i * z) = flat f (l.drop i) ++ pad := by
  conv => lhs; rw [← List.take_append_drop i l, flat_app, List.append_assoc]
  have : (flat f (l.take i)).length = i * z := by rw [flat_len hz, List.length_take, Nat.min_eq_left hi]
  rw [← this, List.drop_left]
end
def rowA {α : Type} (f : α → List Value) (l : List α) (pad : List Value) : Array Value := (flat f l ++ pad).toArray
section
variable {α : Type} {f : α → List Value} {z : Nat} {l : List α} {pad : List Value}
theorem rowA_size (hz : ∀ a, (f a).length = z) : (rowA f l pad).size = l.length * z + pad.length := by simp [rowA, flat_len hz]
theorem rowA_get (hz : ∀ a, (f a).length = z) {off i j : Nat} (hi : i < l.length) (hj : j < z) (ho : off = i * z + j) : (rowA f l pad)[off]? = (f l[i])[j]? := by
  subst ho; unfold rowA; rw [List.getElem?_toArray]; exact flat_get hz l pad i j hi hj
theorem rowG (hz : ∀ a, (f a).length = z) (i j : Nat) (hi : i < l.length) (hj : j < z) : (rowA f l pad)[0 + (i : Int).toNat * z + j]? = (f l[i])[j]? := rowA_get hz hi hj (by simp)
theorem rowG0 (hz : ∀ a, (f a).length = z) (i : Nat) (hi : i < l.length) (hj : 0 < z) : (rowA f l pad)[0 + (i : Int).toNat * z]? = (f l[i])[0]? := rowA_get hz hi hj (by simp)
theorem rowA_piece (hz : ∀ a, (f a).length = z) {off i : Nat} (hi : i < l.length) (ho : off = i * z) : (rowA f l pad).extract off (off + z) = (f l[i]).toArray := by
  subst ho; unfold rowA
  rw [List.extract_toArray]
  congr 1
  rw [← flat_take hz l pad i hi, List.extract_eq_take_drop]
  congr 1; omega
theorem wr_toArray : ∀ (vs : List Value) (a b c : List Value), b.length = vs.length → wr (a ++ b ++ c).toArray a.length vs = (a ++ vs ++ c).toArray
  | [], a, b, c, h => by
    have : b = [] := List.length_eq_zero_iff.1 (by simpa using h)
    subst this; rfl
  | v :: vs, a, [], c, h => by simp at h
  | v :: vs, a, x :: b, c, h => by
    unfold wr
    have h1 : ((a ++ x :: b ++ c).toArray).setIfInBounds a.length v = ((a ++ [v]) ++ b ++ c).toArray := by
      simp [List.set_append]
    have h2 : a.length + 1 = (a ++ [v]).length := by simp
    rw [h1, h2, wr_toArray vs (a ++ [v]) b c (by simpa using h)]
    simp
theorem rowA_set (hz : ∀ a, (f a).length = z) {off i : Nat} (hi : i < l.length) (ho : off = i * z) (a : α) : wr (rowA f l pad) off (f a) = rowA f (l.set i a) pad := by
  subst ho
  unfold rowA
  have hl : l = l.take i ++ l[i] :: l.drop (i + 1) := by simp
  have h1 : flat f l ++ pad = flat f (l.take i) ++ f l[i] ++ (flat f (l.drop (i + 1)) ++ pad) := by
    conv => lhs; rw [hl, flat_app, flat_cons]
    simp
  have h2 : (flat f (l.take i)).length = i * z := by rw [flat_len hz, List.length_take, Nat.min_eq_left (by omega)]
  rw [h1, ← h2, wr_toArray _ _ _ _ (by rw [hz, hz])]
  congr 1
  rw [List.set_eq_take_append_cons_drop, if_pos hi, flat_app, flat_cons]
  simp
theorem rowA_set1 (hz : ∀ a, (f a).length = z) {off i j : Nat} (hi : i < l.length) (hj : j < z) (ho : off = i * z + j) {v : Value} (a : α) (ha : f a = (f l[i]).set j v) : (rowA f l pad).setIfInBounds off v = rowA f (l.set i a) pad := by
  subst ho
  unfold rowA
  have hl : l = l.take i ++ l[i] :: l.drop (i + 1) := by simp
  have h1 : flat f l ++ pad = flat f (l.take i) ++ (f l[i] ++ (flat f (l.drop (i + 1)) ++ pad)) := by
    conv => lhs; rw [hl, flat_app, flat_cons]
    simp
  have h2 : (flat f (l.take i)).length = i * z := by rw [flat_len hz, List.length_take, Nat.min_eq_left (by omega)]
  have h3 : j < (f l[i]).length := by rw [hz]; exact hj
  rw [h1, List.setIfInBounds_toArray]
  congr 1
  rw [List.set_append_right _ _ (by omega), h2, Nat.add_sub_cancel_left, List.set_append_left _ _ h3, ← ha, List.set_eq_take_append_cons_drop, if_pos hi, flat_app, flat_cons]
  simp
theorem rowA_room (hz : ∀ a, (f a).length = z) {off : Nat} (ho : off = l.length * z) (m : List α) (hp : m.length * z ≤ pad.length) : wr (rowA f l pad) off (flat f m) = rowA f (l ++ m) (pad.drop (m.length * z)) := by
  subst ho
  unfold rowA
  have h2 : (flat f l).length = l.length * z := flat_len hz l
  have h1 : flat f l ++ pad = flat f l ++ pad.take (m.length * z) ++ pad.drop (m.length * z) := by simp
  rw [h1, ← h2, wr_toArray _ _ _ _ (by rw [List.length_take, flat_len hz, Nat.min_eq_left hp]), flat_app]
end
section
variable {P : Program} {main : Bool} {B : Bad} {R : Nat → Goroutine → Array Obj → Prop} {d : Nat} {As As' : List HP}
variable {fn : FuncId} {kd : Kd} {n : Nat} {e : Nat → Value} {ds : List Deferred} {k : List Item} {cs : List Frame}
variable {ops : Array Oper} {i : Nat} {rest : List Nat} {dst : Option Nat} {t : Nat} {ty : TypeId} {pos : String} {af : Array Edge} {gd : Option (Nat × Bool)} {x y z : Operand} {v u : Value} {b off : Nat} {c : Array Value} {el tt t2 : TypeId}
theorem Closed.ln (C : Closed P main B R) {a : Option Addr} {len cap : Nat} [cE : El P tt el] (ho : nthO ops i = some ⟨some t, .call ⟨.builtin .len, #[x], #[tt]⟩, ty, pos, af, gd⟩) (h : Nx R d As fn kd n e ds ops rest k cs t (.int .i64 len))
    (hx : ev n e x = .slice a len cap := by rfl) (hw : wantB ops n e gd = true := by rfl) : Nw R d As fn kd n e ds ops i rest k cs :=
  C.val ho hw (fun B H d Q q' => by
    unfold execOp; simp only [resolve]
    refine okS_do (okS_pure ?_)
    simp only [List.map_toArray, List.map_cons, List.map_nil, hx]
    unfold invoke builtin
    refine okS_do ?_
    unfold Builtin.len_
    refine okS_do (pu_und cE.h B H d _ ?_)
    exact q') h
end
end Go.Sl
end
section
set_option linter.unusedVariables false
namespace Go.Sl
open Go.Conc
structure SliceV where
  a : Option Addr
  len : Nat
  cap : Nat
abbrev SliceV.v (s : SliceV) : Value := .slice s.a s.len s.cap
def nilS : SliceV := ⟨none, 0, 0⟩
def slP {α : Type} (f : α → List Value) (z : Nat) (el : TypeId) (s : SliceV) (l : List α) : HP := fun h =>
  (s = nilS ∧ l = []) ∨ ∃ b pad, s = ⟨some ⟨b, 0, none⟩, l.length, s.cap⟩ ∧ l.length * z + pad.length = s.cap * z ∧ l.length ≤ s.cap ∧ pts b (.cells (rowA f l pad) el (0, 0)) h
def SrcOk (B : Bad) (H : Array Obj) (z n : Nat) (x : Value) (xs : List Value) : Prop :=
  (x = .slice none 0 0 ∧ n = 0 ∧ xs = []) ∨ ∃ b off cap c ty, x = .slice (some ⟨b, off, none⟩) n cap ∧ hp H b = some (.cells c ty (0, 0)) ∧ off + n * z ≤ c.size ∧ c.extract off (off + n * z) = xs.toArray ∧ ∀ j, B.sh ty j = false
section
variable {P : Program} {B : Bad} {H : Array Obj} {d : Nat} {α : Type} {f : α → List Value} {z : Nat} {el tt t3 : TypeId}
theorem SrcOk.len {n : Nat} {x : Value} {xs : List Value} (s : SrcOk B H z n x xs) : Pu P (Builtin.lenOf x) n := by
  rcases s with ⟨rfl, rfl, _⟩ | ⟨b, off, cap, c, ty, rfl, _⟩ <;> exact fun _ _ _ _ q => q
theorem okS_first {n : Nat} {x : Value} {xs : List Value} {Q : Array Value → Array Obj → Nat → Prop} (s : SrcOk B H z n x xs) (q : Q xs.toArray H d) : okS P B (Builtin.firstCells z n x) H d Q := by
  rcases s with ⟨rfl, rfl, rfl⟩ | ⟨b, off, cap, c, ty, rfl, h1, h2, h3, h4⟩
  · exact q
  · unfold Builtin.firstCells
    exact okS_loadCells h1 h2 h4 (by rw [h3]; exact q)
theorem okS_askRoom {n : Nat} {Q : Unit → Array Obj → Nat → Prop} (q : Q () H d) : okS P B (askRoom n) H d Q := by
  unfold askRoom; split
  · exact ⟨trivial, q⟩
  · exact q
theorem pad_new (zc : Array Value) (n : Nat) : (Builtin.zeroCells zc n).size = n * zc.size := by simp [Builtin.zeroCells]
theorem okS_append {ty el3 bz : Nat} {zv : Value} {m : List α} {y : Value} {s : SliceV} {l : List α} {As : List HP} {Q : Value → Array Obj → Nat → Prop} [cE : El P tt el] [cE3 : El P t3 el3] [Cz P el z] [cB : Bz P el bz] [Zv P el zv]
    (hz : ∀ a, (f a).length = z) (h1 : ∀ a, ∀ v ∈ f a, oneCell v = true) (hzv : zv.cells.size = z) (hb : ∀ b j, s.a = some ⟨b, 0, none⟩ → B.rd b el j = false) (hsh : ∀ j, B.sh el j = false) (hb0 : bz ≠ 0) (hsz : (l.length + m.length) * bz ≤ 140737488355328)
    (hs : Sat (slP f z el s l :: As) (hp H)) (hsrc : SrcOk B H z m.length y (flat f m)) (q : ∀ s' H', s'.len = l.length + m.length → (s'.a = s.a ∨ s'.a = some ⟨H.size, 0, none⟩) → Sat (slP f z el s' (l ++ m) :: As) (hp H') → Q s'.v H' d) : okS P B (Builtin.append_ #[tt, t3] ty #[s.v, y]) H d Q := by
  have hslen : s.len = l.length := by
    obtain ⟨h', x, _⟩ := hs
    rcases x with ⟨rfl, rfl⟩ | ⟨b, pad, e, _⟩
    · rfl
    · rw [e]
  unfold Builtin.append_
  simp only [List.getElem?_toArray, List.getElem?_cons_zero, List.getElem?_cons_succ]
  refine okS_do (pu_und cE.h B H d _ ?_)
  simp only [SliceV.v]
  refine okS_do (pu_size B H d _ ?_)
  refine okS_do (pu_und cE3.h B H d _ (okS_do (okS_pure ?_)))
  simp only [Bool.false_eq_true, if_false, Bool.not_false, if_true]
  refine okS_do (hsrc.len B H d _ ?_)
  rw [hslen]
  split
  · rename_i hle
    refine okS_do (okS_first hsrc ?_)
    obtain ⟨hh, x, hsub, hrest⟩ := hs
    rcases x with ⟨rfl, rfl⟩ | ⟨b, pad, e, hp1, hp2, hpt⟩
    · have hm : m = [] := List.length_eq_zero_iff.1 (by simpa [nilS] using hle)
      subst hm
      refine okS_do (okS_pure (okS_pure ?_))
      exact q nilS H rfl (.inl rfl) ⟨hh, .inl ⟨rfl, rfl⟩, hsub, hrest⟩
    · have hbase : s.a = some ⟨b, 0, none⟩ := by rw [e]
      simp only [hbase]
      have hget : hp H b = some (.cells (rowA f l pad) el (0, 0)) := by
        subst hpt; exact hsub b _ (by simp [one])
      refine okS_do ?_
      rw [add_of]
      have hml : (flat f m).length = m.length * z := flat_len hz m
      have hroom : m.length * z ≤ pad.length := by
        have : (l.length + m.length) * z ≤ s.cap * z := Nat.mul_le_mul_right z hle
        rw [Nat.add_mul] at this
        omega
      refine okS_storeCells (off := 0 + l.length * z) (flat f m) 0 hget ?_ ?_ (fun j _ _ => ⟨hb _ j hbase, hsh j⟩) ?_
      · rw [rowA_size hz, hml]; omega
      · intro v hv
        obtain ⟨a, _, ha⟩ := List.mem_flatMap.1 hv
        exact h1 a v ha
      · refine okS_pure ?_
        rw [rowA_room hz (by omega) m hroom]
        refine q ⟨some ⟨b, 0, none⟩, l.length + m.length, s.cap⟩ _ rfl (.inl hbase.symm) ?_
        have hs' : Sat (pts b (.cells (rowA f l pad) el (0, 0)) :: As) (hp H) := ⟨hh, hpt, hsub, hrest⟩
        refine Sat.imp (fun h hh' => .inr ⟨b, pad.drop (m.length * z), by simp, ?_, ?_, hh'⟩) (hs'.set)
        · simp only [List.length_append, List.length_drop, Nat.add_mul]; omega
        · simpa using hle
  · rename_i hgt
    have hgt' : s.cap < l.length + m.length := by omega
    obtain ⟨inf, hi, hbz⟩ := cB.h
    refine okS_do (pu_typeInfo hi B H d _ ?_)
    have hne : ¬ (((l.length + m.length : Nat) : Int) > IntKind.i64.max ∧ (False ∨ inf.bytes = 0)) := by
      rintro ⟨_, h2⟩
      rcases h2 with h2 | h2
      · exact h2
      · exact hb0 (hbz ▸ h2)
    rw [if_neg hne]
    refine okS_do (pu_typeInfo hi B H d _ ?_)
    have hfit := growslice_fits (bytes := bz) hgt' hsz
    rw [hbz, if_neg (by omega)]
    refine okS_do ?_
    show okS P B (.choose _ _) H d _
    simp only [okS, Question.forced, Bool.false_eq_true, if_false]
    intro t
    generalize hN : Question.cut (.appendCap (l.length + m.length) s.cap el) t = N
    have hNle : l.length + m.length ≤ N := by
      rw [← hN]; show _ ≤ l.length + m.length + t % (2 ^ 63 - (l.length + m.length)); omega
    show okS P B (_ >>= _) H d _
    refine okS_do (pu_typeInfo hi B H d _ ?_)
    refine okS_do (okS_askRoom ?_)
    have hold : SrcOk B H z l.length (.slice s.a l.length s.cap) (flat f l) := by
      obtain ⟨hh, x, hsub, hrest⟩ := hs
      rcases x with ⟨rfl, rfl⟩ | ⟨b, pad, e, hp1, hp2, hpt⟩
      · exact .inl ⟨rfl, rfl, rfl⟩
      · have hbase : s.a = some ⟨b, 0, none⟩ := by rw [e]
        have hget : hp H b = some (.cells (rowA f l pad) el (0, 0)) := by
          subst hpt; exact hsub b _ (by simp [one])
        have hfl : (flat f l).length = l.length * z := flat_len hz l
        refine .inr ⟨b, 0, s.cap, _, _, by rw [hbase], hget, by rw [rowA_size hz]; omega, ?_, fun j => hsh j⟩
        rw [Nat.zero_add, ← hfl]
        simp [rowA]
    refine okS_do (okS_first hold ?_)
    refine okS_do (okS_first hsrc ?_)
    refine okS_do (pu_zero B H d _ ?_)
    refine okS_do ?_
    unfold newRow
    refine okS_do ?_
    show okS P B (.new _ _) H d _
    simp only [okS]
    show okS P B (pure _) _ d _
    have hrow : (flat f l).toArray ++ (flat f m).toArray ++ Builtin.zeroCells zv.cells (N - (l.length + m.length)) = rowA f (l ++ m) (Builtin.zeroCells zv.cells (N - (l.length + m.length))).toList := by
      apply Array.ext'
      simp [rowA, flat_app]
    rw [hrow]
    refine okS_pure (okS_pure ?_)
    refine q ⟨some ⟨H.size, 0, none⟩, l.length + m.length, N⟩ _ rfl (.inr rfl) ?_
    have hd : Sat As (hp H) := hs.drop
    refine Sat.imp (fun h hh' => .inr ⟨H.size, _, by simp, ?_, by simpa using hNle, hh'⟩) (hd.push _)
    have hl : (Builtin.zeroCells zv.cells (N - (l.length + m.length))).toList.length = (N - (l.length + m.length)) * z := by simp [Builtin.zeroCells, hzv]
    show (l ++ m).length * z + _ = N * z
    rw [hl, List.length_append, ← Nat.add_mul]
    congr 1
    omega
theorem zip_wr (off : Nat) : ∀ (l : List Value) (j : Nat) (c : Array Value), (l.zipIdx j).foldl (fun cs (p : Value × Nat) => cs.setIfInBounds (off + p.2) p.1) c = wr c (off + j) l
  | [], _, _ => rfl
  | v :: l, j, c => by
    rw [List.zipIdx_cons, List.foldl_cons, zip_wr off l (j + 1)]
    rfl
theorem fill_all : ∀ (vs : List Value) (i : Nat) (a b : List Value), (∀ v ∈ vs, v.cells.size = z) → a.length = i * z → b.length = vs.length * z →
    Instr.fill (fun i => some (i * z, z)) (a ++ b).toArray ((vs.zipIdx i).map fun p => (p.2, p.1)) = some (a ++ vs.flatMap (·.cells.toList)).toArray
  | [], i, a, b, _, _, hb => by
    have : b = [] := List.length_eq_zero_iff.1 (by simpa using hb)
    subst this; simp [Instr.fill]
  | v :: vs, i, a, b, hv, ha, hb => by
    have hz := hv v (List.mem_cons_self ..)
    rw [List.length_cons, Nat.add_mul] at hb
    rw [List.zipIdx_cons, List.map_cons]
    unfold Instr.fill
    have hsz : (a ++ b).toArray.size = i * z + (vs.length * z + 1 * z) := by rw [List.size_toArray, List.length_append, ha, hb]
    simp only [hz, hsz]
    rw [if_neg (by simp)]
    have hf : Array.foldl (fun cs (x : Value × Nat) => match x with | (c, j) => cs.setIfInBounds (i * z + j) c) (a ++ b).toArray v.cells.zipIdx = wr (a ++ b).toArray (i * z) v.cells.toList := by
      rw [← Array.foldl_toList, Array.toList_zipIdx]
      exact zip_wr (i * z) v.cells.toList 0 _
    rw [hf]
    have hcl : v.cells.toList.length = z := by simpa using hz
    have hbz : b = b.take z ++ b.drop z := by simp
    have hw : wr (a ++ b).toArray (i * z) v.cells.toList = ((a ++ v.cells.toList) ++ b.drop z).toArray := by
      conv => lhs; rw [hbz, ← List.append_assoc, ← ha]
      rw [wr_toArray _ _ _ _ (by rw [List.length_take, hcl]; omega)]
    rw [hw, fill_all vs (i + 1) (a ++ v.cells.toList) (b.drop z) (fun x hx => hv x (List.mem_cons_of_mem _ hx)) (by rw [List.length_append, ha, hcl, Nat.add_mul]; omega) (by rw [List.length_drop, hb]; omega)]
    simp
section
variable {main : Bool} {R : Nat → Goroutine → Array Obj → Prop} {As As' : List HP}
variable {fn : FuncId} {kd : Kd} {n : Nat} {e : Nat → Value} {ds : List Deferred} {k : List Item} {cs : List Frame}
variable {ops : Array Oper} {i : Nat} {rest : List Nat} {dst : Option Nat} {t : Nat} {ty : TypeId} {pos : String} {af : Array Edge} {gd : Option (Nat × Bool)} {x y w : Operand} {v u : Value} {b off n' : Nat} {c : Array Value}
theorem Closed.ap (C : Closed P main B R) {el3 bz : Nat} {zv : Value} {m l : List α} {s : SliceV} {yv : Value} [cE : El P tt el] [cE3 : El P t3 el3] [Cz P el z] [cB : Bz P el bz] [Zv P el zv]
    (ho : nthO ops i = some ⟨some t, .call ⟨.builtin .append, #[x, y], #[tt, t3]⟩, ty, pos, af, gd⟩) (hz : ∀ a, (f a).length = z) (h1 : ∀ a, ∀ v ∈ f a, oneCell v = true)
    (hsrc : ∀ H, Sat (slP f z el s l :: As) (hp H) → SrcOk B H z m.length yv (flat f m)) (h : ∀ s', s'.len = l.length + m.length → Nx R d (slP f z el s' (l ++ m) :: As) fn kd n e ds ops rest k cs t s'.v)
    (hsz : (l.length + m.length) * bz ≤ 140737488355328 := by omega) (hx : ev n e x = s.v := by rfl) (hy : ev n e y = yv := by rfl) (hzv : zv.cells.size = z := by rfl) (hb0 : bz ≠ 0 := by decide) (hb : ∀ b j, B.rd b el j = false ∧ B.sh el j = false := by intro _ j; exact ⟨rfl, rfl⟩) (hw : wantB ops n e gd = true := by rfl) : Nw R d (slP f z el s l :: As) fn kd n e ds ops i rest k cs :=
  C.gen ho hw fun H s' => by
    unfold execOp; simp only [resolve]
    refine okS_do (okS_pure ?_)
    simp only [List.map_toArray, List.map_cons, List.map_nil, hx, hy]
    unfold invoke builtin
    refine okS_do ?_
    exact okS_append hz h1 hzv (fun b j _ => (hb b j).1) (fun j => (hb 0 j).2) hb0 hsz s' (hsrc H s') fun s'' H' hl _ hs => okS_pure ⟨_, hs, h s'' hl⟩
theorem Closed.bs (C : Closed P main B R) {zv : Value} {vs : List Value} {parts : Array (Nat × Operand)} [cE : El P tt el] [Cz P el z] [Zv P el zv] (ho : nthO ops i = some ⟨some t, .buildSlice tt n' parts, ty, pos, af, gd⟩)
    (h : ∀ b, Nx R d (pts b (.cells (vs.flatMap (·.cells.toList)).toArray el (0, 0)) :: As) fn kd n e ds ops rest k cs t (.slice (some ⟨b, 0, none⟩) n' n'))
    (hp : (parts.toList.map fun (i, x) => (i, ev n e x)) = (vs.zipIdx 0).map fun p => (p.2, p.1) := by rfl) (hn : vs.length = n' := by rfl) (hv : ∀ v ∈ vs, v.cells.size = z := by simp [Value.cells]) (h0 : n' * z ≠ 0 := by decide) (hm : n' * z ≤ 16777216 := by decide) (hw : wantB ops n e gd = true := by rfl) : Nw R d As fn kd n e ds ops i rest k cs :=
  C.gen ho hw fun H s => by
    unfold execOp; simp only [Instr.buildSlice]
    refine okS_do (okS_do (pu_und cE.h B H d _ ?_))
    refine okS_do (pu_size B H d _ ?_)
    rw [if_neg (by omega), if_neg h0]
    refine okS_do (pu_zero B H d _ (okS_do (okS_pure ?_)))
    have hfill := fill_all (z := z) vs 0 [] ((Array.range (n' * z)).map (zv.cells[· % zv.cells.size]!)).toList hv (by simp) (by simp [hn])
    have hp' : (parts.map fun x => (x.fst, ev n e x.snd)).toList = (vs.zipIdx 0).map fun p => (p.2, p.1) := by rw [Array.toList_map]; exact hp
    simp only [List.nil_append, Array.toArray_toList] at hfill
    rw [hp', hfill]
    refine okS_do ?_
    unfold newRow
    refine okS_do ?_
    show okS P B (.new _ _) H d _
    simp only [okS]
    show okS P B (pure _) _ d _
    exact okS_pure (okS_pure ⟨_, s.push _, h _⟩)
end
end
end Go.Sl
end
section
set_option linter.unusedVariables false
namespace Go.Sl
open Go.Conc
theorem zeros_row {α : Type} {f : α → List Value} {z : Nat} {a0 : α} {zc : Array Value} (hf : f a0 = zc.toList) (hz : zc.size = z) (h0 : z ≠ 0) : ∀ (L : Nat), (Array.range (L * z)).map (fun i => zc[i % zc.size]!) = rowA f (List.replicate L a0) [] := by
  intro L
  apply Array.ext_getElem?
  intro i
  have hfl : (f a0).length = z := by rw [hf]; simpa using hz
  have hrow : (rowA f (List.replicate L a0) [])[i]? = if i < L * z then some zc[i % z]! else none := by
    unfold rowA
    rw [List.getElem?_toArray, List.append_nil]
    induction L generalizing i with
    | zero => simp [flat]
    | succ L ih =>
      rw [List.replicate_succ, flat_cons]
      by_cases h : i < z
      · rw [List.getElem?_append_left (by omega), hf, if_pos (by rw [Nat.add_mul]; omega), Nat.mod_eq_of_lt h]
        have hi : i < zc.size := by omega
        simp [hi]
      · rw [List.getElem?_append_right (by omega), hfl, ih (i - z)]
        have e : i % z = (i - z) % z := by rw [Nat.mod_eq_sub_mod (by omega)]
        rw [e]
        have : (i - z < L * z) ↔ (i < (L + 1) * z) := by rw [Nat.add_mul]; omega
        simp only [this]
  rw [hrow]
  by_cases h : i < L * z
  · simp [h, hz]
  · simp [h]
section
variable {P : Program} {main : Bool} {B : Bad} {R : Nat → Goroutine → Array Obj → Prop} {d : Nat} {As As' : List HP} {α : Type} {f : α → List Value} {z : Nat}
variable {fn : FuncId} {kd : Kd} {n : Nat} {e : Nat → Value} {ds : List Deferred} {k : List Item} {cs : List Frame}
variable {ops : Array Oper} {i : Nat} {rest : List Nat} {dst : Option Nat} {t : Nat} {ty : TypeId} {pos : String} {af : Array Edge} {gd : Option (Nat × Bool)} {x y w : Operand} {v u : Value} {b off : Nat} {c : Array Value} {el tt t3 : TypeId} {kk k2 : IntKind}
theorem Closed.ms (C : Closed P main B R) {zv : Value} {bz : Nat} {a0 : α} {L : Int} [cE : El P tt el] [Cz P el z] [cB : Bz P el bz] [Zv P el zv] (ho : nthO ops i = some ⟨some t, .makeSlice tt x y, ty, pos, af, gd⟩) (hf : f a0 = zv.cells.toList)
    (h : ∀ b, Nx R d (pts b (.cells (rowA f (List.replicate L.toNat a0) []) el (0, 0)) :: As) fn kd n e ds ops rest k cs t (.slice (some ⟨b, 0, none⟩) L.toNat L.toNat))
    (hx : ev n e x = .int kk L := by rfl) (hy : ev n e y = .int k2 L := by rfl) (h0 : 0 ≤ L := by omega) (h1 : L * bz ≤ 281474976710656 := by omega) (hb0 : 0 < bz := by decide) (hzv : zv.cells.size = z := by rfl) (hz : z ≠ 0 := by decide) (hw : wantB ops n e gd = true := by rfl) : Nw R d As fn kd n e ds ops i rest k cs :=
  C.gen ho hw fun H s => by
    obtain ⟨inf, hi, hbz⟩ := cB.h
    have hL : L ≤ 281474976710656 := by
      rcases Int.lt_or_le 281474976710656 L with h | h
      · have : L * 1 ≤ L * bz := Int.mul_le_mul_of_nonneg_left (by omega) h0
        omega
      · exact h
    have hwr : IntKind.i64.wrap L = L := w64 (by omega) (by omega)
    unfold execOp; simp only [Instr.makeSlice, hx, hy]
    refine okS_do (okS_do (pu_und cE.h B H d _ ?_))
    refine okS_do (okS_pure (okS_do (okS_pure ?_)))
    refine okS_do (pu_typeInfo hi B H d _ ?_)
    rw [hwr, hbz]
    have hc : (bz : Int) * L ≤ 2 ^ 48 := by rw [Int.mul_comm]; exact h1
    rw [if_neg (by simp; omega)]
    refine okS_do (okS_askRoom ?_)
    refine okS_do (pu_size B H d _ ?_)
    by_cases hn : L.toNat * z = 0
    · have hL0 : L.toNat = 0 := by
        rcases Nat.mul_eq_zero.1 hn with h | h
        · exact h
        · exact absurd h hz
      rw [if_pos hn, hL0]
      have e0 : ∀ g : Nat → Value, (Array.range (0 * z)).map g = rowA f (List.replicate 0 a0) [] := fun g => by simp [rowA, flat]
      refine okS_do (okS_pure (okS_do ?_))
      unfold newRow
      refine okS_do ?_
      rw [e0]
      show okS P B (.new _ _) H d _
      simp only [okS]
      show okS P B (pure _) _ d _
      have := h H.size
      rw [hL0] at this
      exact okS_pure (okS_pure ⟨_, s.push _, this⟩)
    · rw [if_neg hn]
      refine okS_do (pu_zero B H d _ (okS_do (okS_pure (okS_do ?_))))
      unfold newRow
      refine okS_do ?_
      show okS P B (.new _ _) H d _
      simp only [okS]
      show okS P B (pure _) _ d _
      rw [zeros_row hf hzv hz]
      exact okS_pure (okS_pure ⟨_, s.push _, h _⟩)
theorem Closed.shi (C : Closed P main B R) {a : Option Addr} {len cap : Nat} {hi : Int} [cE : El P tt el] [Cz P el z] (ho : nthO ops i = some ⟨some t, .slice tt x none (some y) none, ty, pos, af, gd⟩) (h : Nx R d As fn kd n e ds ops rest k cs t (.slice a hi.toNat cap))
    (hx : ev n e x = .slice a len cap := by rfl) (hy : ev n e y = .int kk hi := by rfl) (hh : 0 ≤ hi ∧ hi ≤ cap := by constructor <;> omega) (hw : wantB ops n e gd = true := by rfl) : Nw R d As fn kd n e ds ops i rest k cs :=
  C.val ho hw (fun B H d Q q => by
    unfold execOp; simp only [Instr.sliceAt, hx, Option.map_some, Option.map_none, hy]
    refine okS_do (okS_do (pu_und cE.h B H d _ ?_))
    simp only [Instr.slice]
    refine okS_do (pu_und cE.h B H d _ ?_)
    simp only [Instr.sliceBounds, Instr.sliceBound, asIntOf]
    refine okS_do (okS_do (okS_pure (okS_do (okS_do (okS_pure ?_)))))
    rw [if_pos hh]
    refine okS_pure (okS_do (okS_pure (okS_pure (okS_do (pu_size B H d _ (okS_pure ?_))))))
    have : (if cap = 0 then a else a.map (·.add (0 * z))) = a := by
      split
      · rfl
      · cases a <;> simp [add_zero]
    rw [this]
    exact q) h
theorem Closed.slo (C : Closed P main B R) {len cap : Nat} {lo : Int} {a' : Addr} [cE : El P tt el] [Cz P el z] (ho : nthO ops i = some ⟨some t, .slice tt x (some y) none none, ty, pos, af, gd⟩) (h : Nx R d As fn kd n e ds ops rest k cs t (.slice (some a') (len - lo.toNat) (cap - lo.toNat)))
    (hx : ev n e x = .slice (some ⟨b, off, none⟩) len cap := by rfl) (hy : ev n e y = .int kk lo := by rfl) (ha : (if cap = lo.toNat then ⟨b, off, none⟩ else ⟨b, off + lo.toNat * z, none⟩) = a' := by rfl) (hh : 0 ≤ lo ∧ lo ≤ len := by constructor <;> omega) (hw : wantB ops n e gd = true := by rfl) : Nw R d As fn kd n e ds ops i rest k cs :=
  C.val ho hw (fun B H d Q q => by
    unfold execOp; simp only [Instr.sliceAt, hx, Option.map_some, Option.map_none, hy]
    refine okS_do (okS_do (pu_und cE.h B H d _ ?_))
    simp only [Instr.slice]
    refine okS_do (pu_und cE.h B H d _ ?_)
    simp only [Instr.sliceBounds, Instr.sliceBound, asIntOf]
    refine okS_do (okS_do (okS_pure (okS_do (okS_pure (okS_do (okS_do (okS_pure ?_)))))))
    rw [if_pos hh]
    refine okS_pure (okS_pure (okS_do (pu_size B H d _ (okS_pure ?_))))
    have : (if cap = lo.toNat then (some (⟨b, off, none⟩ : Addr)) else (some (⟨b, off, none⟩ : Addr)).map (·.add (lo.toNat * z))) = some a' := by
      rw [← ha]
      split
      · rfl
      · simp [add_of]
    rw [this]
    exact q) h
theorem Closed.cp (C : Closed P main B R) {len cap m : Nat} {yv : Value} {xs : List Value} [cE : El P tt el] [Cz P el z] (ho : nthO ops i = some ⟨some t, .call ⟨.builtin .copy, #[x, y], #[tt, t3]⟩, ty, pos, af, gd⟩)
    (hsrc : ∀ H, Sat As (hp H) → SrcOk B H z m yv xs) (hm : m ≤ len) (hxl : xs.length = m * z) (h1 : ∀ v ∈ xs, oneCell v = true)
    (h : Nx R d As' fn kd n e ds ops rest k cs t (.int .i64 m)) (hu : Upd b (.cells c el (0, 0)) (.cells (wr c off xs) el (0, 0)) As As')
    (hz : off + m * z ≤ c.size) (hx : ev n e x = .slice (some ⟨b, off, none⟩) len cap := by rfl) (hy : ev n e y = yv := by rfl) (hb : ∀ b j, B.rd b el j = false ∧ B.sh el j = false := by intro _ j; exact ⟨rfl, rfl⟩) (hw : wantB ops n e gd = true := by rfl) : Nw R d As fn kd n e ds ops i rest k cs :=
  C.gen ho hw fun H s => by
    unfold execOp; simp only [resolve]
    refine okS_do (okS_pure ?_)
    simp only [List.map_toArray, List.map_cons, List.map_nil, hx, hy]
    unfold invoke builtin
    refine okS_do ?_
    unfold Builtin.copy_
    simp only [List.getElem?_toArray, List.getElem?_cons_zero, List.getElem?_cons_succ]
    refine okS_do (pu_und cE.h B H d _ ?_)
    simp only
    have hs := hsrc H s
    refine okS_do (hs.len B H d _ ?_)
    have hmin : Nat.min m len = m := Nat.min_eq_left hm
    rw [hmin]
    refine okS_do (pu_size B H d _ (okS_do (okS_first hs ?_)))
    simp only
    refine okS_do (okS_storeCells (off := off) xs 0 (hu.has.get s) (by rw [hxl]; omega) h1 (fun j _ _ => hb _ j) ?_)
    exact okS_pure (okS_pure ⟨_, hu.set s, h⟩)
end
end Go.Sl
end
section
set_option linter.unusedVariables false
namespace Go.Sl
open Go.Conc
inductive Fo (A : HP) : List HP → List HP → Prop
  | head {As : List HP} : Fo A (A :: As) As
  | tail {X : HP} {As L : List HP} : Fo A As L → Fo A (X :: As) (X :: L)
theorem Fo.perm {A : HP} {As L : List HP} (x : Fo A As L) : As.Perm (A :: L) := by
  induction x with
  | head => exact .refl _
  | tail _ ih => exact (ih.cons _).trans (.swap _ _ _)
inductive ReF : List HP → List HP → List HP → Prop
  | nil {F : List HP} : ReF [] F F
  | cons {A : HP} {Bs As L F : List HP} : Fo A As L → ReF Bs L F → ReF (A :: Bs) As F
theorem ReF.perm {Bs As F : List HP} (x : ReF Bs As F) : As.Perm (Bs ++ F) := by
  induction x with
  | nil => exact .refl _
  | cons f _ ih => exact f.perm.trans (ih.cons _)
inductive Reo : List HP → List HP → Prop
  | refl {As : List HP} : Reo As As
  | nil {As : List HP} : Reo As []
  | cons {A : HP} {Bs As L : List HP} : Fo A As L → Reo L Bs → Reo As (A :: Bs)
  | drop {X : HP} {As Bs : List HP} : Reo As Bs → Reo (X :: As) Bs
theorem Reo.sat {As Bs : List HP} (x : Reo As Bs) : ∀ {h : HL}, Sat As h → Sat Bs h := by
  induction x with
  | refl => exact id
  | nil => exact fun _ => trivial
  | cons f _ ih => exact fun s => Sat.under (fun _ s => ih s) (s.perm f.perm)
  | drop _ ih => exact fun s => ih s.drop
section
variable {R : Nat → Goroutine → Array Obj → Prop} {d : Nat} {As Bs L : List HP} {g : Goroutine} {A : HP}
theorem At.fo (f : Fo A As L) (h : At R d (A :: L) g) : At R d As g := h.perm f.perm
theorem At.reo (x : Reo As Bs) (h : At R d Bs g) : At R d As g := fun H s => h H (x.sat s)
theorem At.turn {A' : HP} (f : Fo A As L) (t : ∀ h, A h → A' h) (h : At R d (A' :: L) g) : At R d As g := fun H s => h H ((s.perm f.perm).imp t)
theorem At.know {p : Prop} (f : Fo A As L) (t : ∀ h, A h → p) (h : p → At R d As g) : At R d As g := fun H s => h (by obtain ⟨h1, a, _⟩ := s.perm f.perm; exact t _ a) H s
end
section
variable {V W : Type}
def getM : List (Int × V) → Int → Option V
  | [], _ => none
  | p :: l, k => if p.1 = k then some p.2 else getM l k
def setM : List (Int × V) → Int → V → List (Int × V)
  | [], k, v => [(k, v)]
  | p :: l, k, v => if p.1 = k then (k, v) :: l else p :: setM l k v
def delM : List (Int × V) → Int → List (Int × V)
  | [], _ => []
  | p :: l, k => if p.1 = k then l else p :: delM l k
def mapV (g : V → W) (l : List (Int × V)) : List (Int × W) := l.map fun p => (p.1, g p.2)
theorem mapV_get (g : V → W) (k : Int) : ∀ l : List (Int × V), getM (mapV g l) k = (getM l k).map g
  | [] => rfl
  | p :: l => by
    have := mapV_get g k l
    simp only [mapV, List.map_cons, getM] at this ⊢
    split
    · rfl
    · exact this
theorem mapV_set (g : V → W) (k : Int) (v : V) : ∀ l : List (Int × V), setM (mapV g l) k (g v) = mapV g (setM l k v)
  | [] => rfl
  | p :: l => by
    have := mapV_set g k v l
    simp only [mapV, List.map_cons, setM] at this ⊢
    split
    · simp
    · simp [this]
theorem mapV_del (g : V → W) (k : Int) : ∀ l : List (Int × V), delM (mapV g l) k = mapV g (delM l k)
  | [] => rfl
  | p :: l => by
    have := mapV_del g k l
    simp only [mapV, List.map_cons, delM] at this ⊢
    split
    · rfl
    · simp [this]
theorem nodup_at {X : Type} {l : List X} (h : l.Nodup) {i j : Nat} {x : X} (hi : l[i]? = some x) (hj : l[j]? = some x) : i = j := by
  have hp := List.pairwise_iff_getElem.1 h
  obtain ⟨h1, e1⟩ := List.getElem?_eq_some_iff.1 hi
  obtain ⟨h2, e2⟩ := List.getElem?_eq_some_iff.1 hj
  rcases Nat.lt_trichotomy i j with z | z | z
  · exact absurd (e1.trans e2.symm) (hp i j h1 h2 z)
  · exact z
  · exact absurd (e2.trans e1.symm) (hp j i h2 h1 z)
def idxM (k : Int) : List (Int × V) → Nat → Option (Nat × V)
  | [], _ => none
  | p :: l, i => if p.1 = k then some (i, p.2) else idxM k l (i + 1)
theorem idx_some {k : Int} : ∀ {l : List (Int × V)} {i j : Nat} {v : V}, idxM k l i = some (j, v) → ∃ n, j = i + n ∧ l[n]? = some (k, v) ∧ getM l k = some v ∧ (∀ w, setM l k w = l.set n (k, w)) ∧ delM l k = l.eraseIdx n
  | [], i, j, v, h => by cases h
  | p :: l, i, j, v, h => by
    unfold idxM at h
    split at h
    · rename_i hp
      obtain ⟨rfl, rfl⟩ := Prod.mk.inj (Option.some.inj h)
      refine ⟨0, rfl, by rw [← hp]; rfl, by simp [getM, hp], fun w => by simp [setM, hp], by simp [delM, hp]⟩
    · rename_i hp
      obtain ⟨n, rfl, h2, h3, h4, h5⟩ := idx_some h
      exact ⟨n + 1, by omega, by simpa using h2, by simp [getM, hp, h3], fun w => by simp [setM, hp, h4], by simp [delM, hp, h5]⟩
theorem idx_none {k : Int} : ∀ {l : List (Int × V)} {i : Nat}, idxM k l i = none → getM l k = none ∧ (∀ w, setM l k w = l ++ [(k, w)]) ∧ delM l k = l ∧ k ∉ l.map (·.1)
  | [], i, _ => ⟨rfl, fun _ => rfl, rfl, by simp⟩
  | p :: l, i, h => by
    unfold idxM at h
    split at h
    · cases h
    · rename_i hp
      obtain ⟨h1, h2, h3, h4⟩ := idx_none h
      exact ⟨by simp [getM, hp, h1], fun w => by simp [setM, hp, h2], by simp [delM, hp, h3], by simp [h4, Ne.symm hp]⟩
theorem getM_none {k : Int} {l : List (Int × V)} : getM l k = none ↔ k ∉ l.map (·.1) := by
  induction l with
  | nil => simp [getM]
  | cons p l ih =>
    unfold getM
    split
    · rename_i h; subst h; simp
    · rename_i h; rw [ih]; simp [Ne.symm h]
theorem getM_some_mem {k : Int} {v : V} {l : List (Int × V)} (h : getM l k = some v) : (k, v) ∈ l := by
  induction l with
  | nil => cases h
  | cons p l ih =>
    unfold getM at h
    split at h
    · rename_i e; obtain rfl := Option.some.inj h; subst e; exact List.mem_cons_self ..
    · exact List.mem_cons_of_mem _ (ih h)
theorem getM_of_mem {k : Int} {v : V} : ∀ {l : List (Int × V)}, (l.map (·.1)).Nodup → (k, v) ∈ l → getM l k = some v
  | p :: l, hn, hm => by
    rw [List.map_cons, List.nodup_cons] at hn
    unfold getM
    rcases List.mem_cons.1 hm with rfl | hm
    · simp
    · have : p.1 ≠ k := fun e => hn.1 (e ▸ List.mem_map_of_mem (f := (·.1)) hm)
      simp [this, getM_of_mem hn.2 hm]
theorem setM_keys {k : Int} {v : V} : ∀ {l : List (Int × V)}, (setM l k v).map (·.1) = if (getM l k).isSome then l.map (·.1) else l.map (·.1) ++ [k]
  | [] => rfl
  | p :: l => by
    have := setM_keys (k := k) (v := v) (l := l)
    unfold setM getM
    split
    · rename_i h; subst h; simp
    · simp only [List.map_cons, this]; split <;> simp
theorem setM_nodup {k : Int} {v : V} {l : List (Int × V)} (h : (l.map (·.1)).Nodup) : ((setM l k v).map (·.1)).Nodup := by
  rw [setM_keys]
  split
  · exact h
  · rename_i hs
    have : k ∉ l.map (·.1) := getM_none.1 (by simpa using hs)
    refine List.nodup_append.2 ⟨h, by simp, fun a ha b hb => ?_⟩
    simp at hb; subst hb; exact fun e => this (e ▸ ha)
theorem delM_sub {k : Int} : ∀ {l : List (Int × V)}, (delM l k).Sublist l
  | [] => .slnil
  | p :: l => by
    unfold delM; split
    · exact .cons _ (.refl _)
    · exact .cons_cons _ delM_sub
theorem delM_nodup {k : Int} {l : List (Int × V)} (h : (l.map (·.1)).Nodup) : ((delM l k).map (·.1)).Nodup := h.sublist (delM_sub.map _)
theorem getM_setM {k k' : Int} {v : V} : ∀ {l : List (Int × V)}, getM (setM l k v) k' = if k' = k then some v else getM l k'
  | [] => by simp only [setM, getM]; by_cases h : k = k' <;> simp [h, eq_comm]
  | p :: l => by
    have := getM_setM (k := k) (k' := k') (v := v) (l := l)
    unfold setM
    split
    · rename_i h; subst h; simp only [getM]
      by_cases h : p.1 = k'
      · simp [h]
      · have : ¬ k' = p.1 := fun e => h e.symm
        simp [h, this]
    · rename_i h
      simp only [getM, this]
      by_cases h1 : p.1 = k'
      · subst h1; simp [h]
      · simp [h1]
theorem getM_delM {k k' : Int} : ∀ {l : List (Int × V)}, (l.map (·.1)).Nodup → getM (delM l k) k' = if k' = k then none else getM l k'
  | [], _ => by simp [delM, getM]
  | p :: l, hn => by
    rw [List.map_cons, List.nodup_cons] at hn
    have := getM_delM (k := k) (k' := k') (l := l) hn.2
    unfold delM
    split
    · rename_i h; subst h
      by_cases h : k' = p.1
      · subst h; simp; exact getM_none.2 hn.1
      · simp [h, getM, Ne.symm h]
    · rename_i h
      simp only [getM, this]
      by_cases h1 : p.1 = k'
      · subst h1; simp [h]
      · simp [h1]
end
def kvL (kk : IntKind) (l : List (Int × Value)) : List (Value × Value) := l.map fun p => (.int kk p.1, p.2)
structure MapR (kk : IntKind) (es : Array MapEntry) (clock : Nat) (l : List (Int × Value)) : Prop where
  kv : es.toList.map (fun e => (e.key, e.val)) = kvL kk l
  nd : (l.map (·.1)).Nodup
  bn : (es.toList.map (·.born)).Nodup
  lt : ∀ e ∈ es.toList, e.born < clock
def mapP {V : Type} (kk : IntKind) (g : V → Value) (b : Nat) (l : List (Int × V)) : HP := fun h => ∃ es clock, MapR kk es clock (mapV g l) ∧ pts b (.map es clock) h
def mapE {V : Type} (kk : IntKind) (g : V → Value) (b : Nat) (l : List (Int × V)) (k : Int) (st : Nat) : HP := fun h => ∃ es clock, MapR kk es clock (mapV g l) ∧ (∃ (i : Nat) (e : MapEntry), es.toList[i]? = some e ∧ e.key = .int kk k ∧ e.born = st) ∧ pts b (.map es clock) h
section
variable {P : Program} {B : Bad} {H : Array Obj} {d : Nat} {kk : IntKind} {V : Type} {g : V → Value}
theorem findNow_eq (k : Int) : ∀ (es : List MapEntry) (l : List (Int × Value)) (i : Nat), es.map (fun e => (e.key, e.val)) = kvL kk l → Instr.findNow (.int kk) (.int kk k) es i = some (idxM k l i)
  | [], [], i, _ => rfl
  | [], p :: l, i, h => by cases h
  | e :: es, [], i, h => by cases h
  | e :: es, p :: l, i, h => by
    simp only [kvL, List.map_cons, List.cons.injEq, Prod.mk.injEq] at h
    obtain ⟨⟨h1, h2⟩, h3⟩ := h
    unfold Instr.findNow idxM
    simp only [h1, Instr.sameNow, if_true]
    by_cases hk : p.1 = k
    · subst hk; simp [h2]
    · have : (k == p.1) = false := by simpa using Ne.symm hk
      simp only [this, if_neg hk]
      exact findNow_eq k es l (i + 1) h3
theorem pu_checkKey {t : TypeId} [c : Ik P t kk] {em : Bool} {k : Int} : Pu P (Instr.checkKey em 10000 t (.int kk k)) () := by
  intro B H d Q q
  show okS P B (Instr.checkKey em (9999 + 1) t (.int kk k)) H d Q
  unfold Instr.checkKey
  exact okS_do (pu_und c.h B H d _ q)
theorem pu_findKey {t : TypeId} [c : Ik P t kk] {es : List MapEntry} {l : List (Int × Value)} {k : Int} (h : es.map (fun e => (e.key, e.val)) = kvL kk l) : Pu P (Instr.findKey t (.int kk k) es) (idxM k l 0) := fun B H d Q q => by
  unfold Instr.findKey
  refine okS_do (pu_und c.h B H d _ ?_)
  rw [findNow_eq k es l 0 h]; exact q
theorem okS_getObj {r : Nat} {o : Obj} {Q : Obj → Array Obj → Nat → Prop} (h : hp H r = some o) (hq : Obj.quiet o = true) (q : Q o H d) : okS P B (getObj r) H d Q := ⟨o, h, hq, q⟩
theorem okS_setObj {r : Nat} {o o₀ : Obj} {Q : Unit → Array Obj → Nat → Prop} (h : hp H r = some o₀) (hq : Obj.quiet o₀ = true) (hq' : Obj.quiet o = true) (q : Q () (H.setIfInBounds r o) d) : okS P B (setObj r o) H d Q := ⟨o₀, h, hq, hq', q⟩
theorem okS_lookup {tt key el : TypeId} {z : Value} [cM : Mp P tt key el] [Ik P key kk] [Zv P el z] {b : Nat} {l : List (Int × V)} {k : Int} {co : Bool} {As : List HP} {Q : Value → Array Obj → Nat → Prop} (s : Sat (mapP kk g b l :: As) (hp H))
    (q : Q (if co then .tuple #[((getM l k).map g).getD z, .bool (getM l k).isSome] else ((getM l k).map g).getD z) H d) : okS P B (Instr.lookup tt (.map (some b)) (.int kk k) co) H d Q := by
  obtain ⟨hh, ⟨es, clock, mr, hpt⟩, hsub, hr⟩ := s
  have hget : hp H b = some (.map es clock) := by subst hpt; exact hsub b _ (by simp [one])
  unfold Instr.lookup
  refine okS_do (pu_und cM.h B H d _ ?_)
  refine okS_do (okS_getObj hget rfl ?_)
  refine okS_do (okS_pure ?_)
  refine okS_do (pu_checkKey B H d _ ?_)
  refine okS_do (pu_findKey mr.kv B H d _ ?_)
  cases hi : idxM k (mapV g l) 0 with
  | none =>
    have := (idx_none hi).1
    rw [mapV_get, Option.map_eq_none_iff] at this
    rw [this] at q
    refine okS_do (pu_zero B H d _ (okS_pure ?_))
    cases co <;> exact q
  | some jv =>
    obtain ⟨j, v⟩ := jv
    obtain ⟨n, _, _, hg, _⟩ := idx_some hi
    rw [mapV_get, Option.map_eq_some_iff] at hg
    obtain ⟨v', hv', rfl⟩ := hg
    rw [hv'] at q
    refine okS_pure ?_
    cases co <;> exact q
theorem pu_keep {kk : IntKind} {k : Int} : Pu P (Instr.keyThatStays (.int kk k) (.int kk k)) (.int kk k) := fun B H d Q q => by
  unfold Instr.keyThatStays
  rw [if_pos (by simp [Instr.sameBits])]; exact q
theorem kv_get {es : List MapEntry} {l : List (Int × Value)} (h : es.map (fun e => (e.key, e.val)) = kvL kk l) {n : Nat} {k : Int} {v : Value} (hn : l[n]? = some (k, v)) : ∃ e, es[n]? = some e ∧ e.key = .int kk k ∧ e.val = v := by
  have : (es.map (fun e => (e.key, e.val)))[n]? = some (.int kk k, v) := by rw [h]; simp [kvL, hn]
  rw [List.getElem?_map, Option.map_eq_some_iff] at this
  obtain ⟨e, h1, h2⟩ := this
  obtain ⟨h3, h4⟩ := Prod.mk.inj h2
  exact ⟨e, h1, h3, h4⟩
theorem MapR.modify {es : Array MapEntry} {clock : Nat} {l : List (Int × Value)} (m : MapR kk es clock l) {n : Nat} {k : Int} {v0 v : Value} (hn : l[n]? = some (k, v0)) (hs : setM l k v = l.set n (k, v)) (f : MapEntry → MapEntry) (hf : ∀ e, es.toList[n]? = some e → (f e).key = .int kk k ∧ (f e).val = v ∧ (f e).born = e.born) :
    MapR kk (es.modify n f) clock (setM l k v) := by
  have hl : (es.modify n f).toList = es.toList.modify n f := by simp
  have hbn : (es.toList.modify n f).map (·.born) = es.toList.map (·.born) := by
    apply List.ext_getElem?
    intro i
    simp only [List.getElem?_map, List.getElem?_modify]
    by_cases h : n = i
    · subst h
      cases e : es.toList[n]? with
      | none => rfl
      | some e' => simp [(hf e' e).2.2]
    · simp [h]
  refine ⟨?_, ?_, ?_, ?_⟩
  · rw [hl, hs]
    apply List.ext_getElem?
    intro i
    have hkv : (es.toList.map fun e => (e.key, e.val))[i]? = (kvL kk l)[i]? := by rw [m.kv]
    simp only [kvL, List.getElem?_map, List.getElem?_modify, List.getElem?_set] at hkv ⊢
    by_cases h : n = i
    · subst h
      have hlt := (List.getElem?_eq_some_iff.1 hn).1
      obtain ⟨e, h1, h2, h3⟩ := kv_get m.kv hn
      obtain ⟨h4, h5, _⟩ := hf e h1
      simp [h1, h4, h5, hlt]
    · simpa [h] using hkv
  · exact setM_nodup m.nd
  · rw [hl, hbn]; exact m.bn
  · intro e he
    rw [hl] at he
    have : e.born ∈ (es.toList.modify n f).map (·.born) := List.mem_map_of_mem (f := (·.born)) he
    rw [hbn] at this
    obtain ⟨e', h1, h2⟩ := List.mem_map.1 this
    rw [← h2]; exact m.lt e' h1
theorem MapR.push {es : Array MapEntry} {clock : Nat} {l : List (Int × Value)} (m : MapR kk es clock l) {k : Int} {v : Value} (hk : k ∉ l.map (·.1)) (hs : setM l k v = l ++ [(k, v)]) : MapR kk (es.push { key := .int kk k, val := v, born := clock }) (clock + 1) (setM l k v) := by
  have hl : (es.push { key := Value.int kk k, val := v, born := clock }).toList = es.toList ++ [{ key := .int kk k, val := v, born := clock }] := by simp
  refine ⟨by rw [hl, hs]; simp [kvL, m.kv], setM_nodup m.nd, ?_, fun e he => ?_⟩
  · rw [hl, List.map_append]
    refine List.nodup_append.2 ⟨m.bn, by simp, fun a ha b hb => ?_⟩
    obtain ⟨e, he, rfl⟩ := List.mem_map.1 ha
    have := m.lt e he
    simp at hb; subst hb; omega
  · rw [hl] at he
    rcases List.mem_append.1 he with he | he
    · have := m.lt e he; omega
    · simp at he; subst he; simp
theorem map_erase {X Y : Type} (f : X → Y) : ∀ (l : List X) (n : Nat), (l.eraseIdx n).map f = (l.map f).eraseIdx n
  | [], _ => rfl
  | _ :: _, 0 => rfl
  | x :: l, n + 1 => by simp only [List.eraseIdx_cons_succ, List.map_cons, map_erase f l n]
theorem MapR.erase {es : Array MapEntry} {clock : Nat} {l : List (Int × Value)} (m : MapR kk es clock l) {n : Nat} {k : Int} (hs : delM l k = l.eraseIdx n) : MapR kk (es.eraseIdxIfInBounds n) clock (delM l k) := by
  have hl : (es.eraseIdxIfInBounds n).toList = es.toList.eraseIdx n := by simp
  refine ⟨?_, delM_nodup m.nd, ?_, fun e he => ?_⟩
  · rw [hl, hs, map_erase, m.kv]; simp [kvL, map_erase]
  · rw [hl]; exact m.bn.sublist ((List.eraseIdx_sublist ..).map _)
  · rw [hl] at he; exact m.lt e ((List.eraseIdx_sublist ..).mem he)
theorem arr_list {X : Type} (a : Array X) (i : Nat) : a[i]? = a.toList[i]? := by simp
theorem okS_mapUpdate {tt key el : TypeId} [cM : Mp P tt key el] [Ik P key kk] {b : Nat} {l : List (Int × V)} {k : Int} {v : V} {As : List HP} {Q : Unit → Array Obj → Nat → Prop} (s : Sat (mapP kk g b l :: As) (hp H))
    (q : ∀ H', Sat (mapP kk g b (setM l k v) :: As) (hp H') → Q () H' d) : okS P B (Instr.mapUpdate tt (.map (some b)) (.int kk k) (g v)) H d Q := by
  obtain ⟨hh, ⟨es, clock, mr, hpt⟩, hsub, hr⟩ := s
  have hget : hp H b = some (.map es clock) := by subst hpt; exact hsub b _ (by simp [one])
  have hs' : Sat (pts b (.map es clock) :: As) (hp H) := ⟨hh, hpt, hsub, hr⟩
  unfold Instr.mapUpdate
  refine okS_do (pu_und cM.h B H d _ ?_)
  refine okS_do (okS_getObj hget rfl ?_)
  refine okS_do (pu_checkKey B H d _ ?_)
  refine okS_do (pu_findKey mr.kv B H d _ ?_)
  cases hi : idxM k (mapV g l) 0 with
  | none =>
    obtain ⟨_, h2, _, h4⟩ := idx_none hi
    refine okS_setObj hget rfl rfl (q _ (Sat.imp (fun h hh => ⟨_, _, ?_, hh⟩) hs'.set))
    rw [← mapV_set]; exact mr.push h4 (h2 _)
  | some jv =>
    obtain ⟨j, v0⟩ := jv
    obtain ⟨n, rfl, hn, _, hs2, _⟩ := idx_some hi
    obtain ⟨e, he, hk, _⟩ := kv_get mr.kv hn
    simp only [Nat.zero_add, arr_list, he, Option.map_some, Option.getD_some, hk]
    refine okS_do (pu_keep B H d _ ?_)
    refine okS_setObj hget rfl rfl (q _ (Sat.imp (fun h hh => ⟨_, _, ?_, hh⟩) hs'.set))
    rw [← mapV_set]
    exact mr.modify hn (hs2 _) _ fun e' he' => ⟨rfl, rfl, rfl⟩
theorem okS_delete {tt t2 key el ty : TypeId} [cM : Mp P tt key el] [Ik P key kk] {b : Nat} {l : List (Int × V)} {k : Int} {As : List HP} {Q : Value → Array Obj → Nat → Prop} (s : Sat (mapP kk g b l :: As) (hp H))
    (q : ∀ H', Sat (mapP kk g b (delM l k) :: As) (hp H') → Q (.tuple #[]) H' d) : okS P B (Builtin.delete_ #[tt, t2] ty #[.map (some b), .int kk k]) H d Q := by
  obtain ⟨hh, ⟨es, clock, mr, hpt⟩, hsub, hr⟩ := s
  have hget : hp H b = some (.map es clock) := by subst hpt; exact hsub b _ (by simp [one])
  have hs' : Sat (pts b (.map es clock) :: As) (hp H) := ⟨hh, hpt, hsub, hr⟩
  unfold Builtin.delete_
  simp only [List.getElem?_toArray, List.getElem?_cons_zero, List.getElem?_cons_succ]
  refine okS_do (pu_und cM.h B H d _ ?_)
  refine okS_do (okS_getObj hget rfl ?_)
  refine okS_do (pu_checkKey B H d _ ?_)
  refine okS_do (pu_findKey mr.kv B H d _ ?_)
  cases hi : idxM k (mapV g l) 0 with
  | none =>
    obtain ⟨_, _, h3, _⟩ := idx_none hi
    refine okS_do (okS_setObj hget rfl rfl (okS_pure (q _ (Sat.imp (fun h hh => ⟨_, _, ?_, hh⟩) hs'.set))))
    rw [← mapV_del, h3]; exact mr
  | some jv =>
    obtain ⟨j, v0⟩ := jv
    obtain ⟨n, rfl, hn, _, _, hd⟩ := idx_some hi
    refine okS_do (okS_setObj hget rfl rfl (okS_pure (q _ (Sat.imp (fun h hh => ⟨_, _, ?_, hh⟩) hs'.set))))
    rw [← mapV_del, Nat.zero_add]; exact mr.erase hd
theorem okS_mapEntry {tt key el : TypeId} {z : V} [cM : Mp P tt key el] [Ik P key kk] [Zv P el (g z)] {b : Nat} {l : List (Int × V)} {k : Int} {As : List HP} {Q : Value → Array Obj → Nat → Prop} (s : Sat (mapP kk g b l :: As) (hp H))
    (q : ∀ st H', Sat (mapE kk g b (setM l k ((getM l k).getD z)) k st :: As) (hp H') → Q (.tuple #[g ((getM l k).getD z), goInt st]) H' d) : okS P B (Instr.mapEntry tt (.map (some b)) (.int kk k)) H d Q := by
  obtain ⟨hh, ⟨es, clock, mr, hpt⟩, hsub, hr⟩ := s
  have hget : hp H b = some (.map es clock) := by subst hpt; exact hsub b _ (by simp [one])
  have hs' : Sat (pts b (.map es clock) :: As) (hp H) := ⟨hh, hpt, hsub, hr⟩
  unfold Instr.mapEntry
  refine okS_do (pu_und cM.h B H d _ ?_)
  refine okS_do (okS_getObj hget rfl ?_)
  refine okS_do (pu_checkKey B H d _ ?_)
  refine okS_do (pu_findKey mr.kv B H d _ ?_)
  cases hi : idxM k (mapV g l) 0 with
  | none =>
    obtain ⟨h1, h2, _, h4⟩ := idx_none hi
    rw [mapV_get, Option.map_eq_none_iff] at h1
    rw [h1, Option.getD_none] at q
    refine okS_do (pu_zero B H d _ (okS_do (okS_setObj hget rfl rfl (okS_pure (q clock _ (Sat.imp (fun h hh => ⟨_, _, ?_, ?_, hh⟩) hs'.set))))))
    · rw [← mapV_set]; exact mr.push h4 (h2 _)
    · exact ⟨es.size, ⟨.int kk k, g z, clock⟩, by simp, rfl, rfl⟩
  | some jv =>
    obtain ⟨j, v0⟩ := jv
    obtain ⟨n, rfl, hn, hg, hs2, _⟩ := idx_some hi
    obtain ⟨e, he, hk, _⟩ := kv_get mr.kv hn
    have hg' := hg
    rw [mapV_get, Option.map_eq_some_iff] at hg'
    obtain ⟨v', hv', rfl⟩ := hg'
    rw [hv', Option.getD_some] at q
    simp only [Nat.zero_add, arr_list, he, Option.map_some, Option.getD_some, hk]
    refine okS_do (pu_keep B H d _ ?_)
    refine okS_do (okS_setObj hget rfl rfl (okS_pure (q e.born _ (Sat.imp (fun h hh => ⟨_, _, ?_, ?_, hh⟩) hs'.set))))
    · rw [← mapV_set]
      refine mr.modify hn (hs2 _) _ fun e' he' => ⟨rfl, ?_, rfl⟩
      rw [he] at he'; obtain rfl := Option.some.inj he'
      obtain ⟨e2, he2, _, hv2⟩ := kv_get mr.kv hn
      rw [he] at he2; obtain rfl := Option.some.inj he2
      exact hv2
    · refine ⟨n, { e with key := .int kk k }, ?_, rfl, rfl⟩
      simp [he]
theorem okS_entryStore {tt : TypeId} {b st : Nat} {l : List (Int × V)} {k : Int} {v : V} {As : List HP} {Q : Unit → Array Obj → Nat → Prop} (s : Sat (mapE kk g b l k st :: As) (hp H))
    (q : ∀ H', Sat (mapP kk g b (setM l k v) :: As) (hp H') → Q () H' d) : okS P B (Instr.entryStore tt (.map (some b)) (goInt st) (g v)) H d Q := by
  obtain ⟨hh, ⟨es, clock, mr, ⟨i, e, hi, hk, hb⟩, hpt⟩, hsub, hr⟩ := s
  have hget : hp H b = some (.map es clock) := by subst hpt; exact hsub b _ (by simp [one])
  have hs' : Sat (pts b (.map es clock) :: As) (hp H) := ⟨hh, hpt, hsub, hr⟩
  unfold Instr.entryStore
  simp only
  refine okS_do (okS_getObj hget rfl ?_)
  simp only [goInt, asInt]
  refine okS_do (okS_pure ?_)
  have hf : es.findIdx? (fun e => (e.born : Int) == (st : Int)) = some i := by
    rw [Array.findIdx?_eq_some_iff_getElem]
    have hlt : i < es.size := by have := (List.getElem?_eq_some_iff.1 hi).1; simpa using this
    refine ⟨hlt, ?_, fun j hj => ?_⟩
    · have : es[i] = e := by have := (List.getElem?_eq_some_iff.1 hi).2; simpa using this
      rw [this, hb]; simp
    · have hne : es[j].born ≠ st := fun z => by
        have h1 : (es.toList.map (·.born))[j]? = some st := by
          have : es.toList[j]? = some es[j] := by simp
          rw [List.getElem?_map, this]; simp [z]
        have h2 : (es.toList.map (·.born))[i]? = some st := by rw [List.getElem?_map, hi]; simp [hb]
        have := nodup_at mr.bn h1 h2
        omega
      simp; omega
  rw [hf]
  have hkv : (kvL kk (mapV g l))[i]? = some (.int kk k, e.val) := by rw [← mr.kv, List.getElem?_map, hi]; simp [hk]
  obtain ⟨p, hp1, hp2⟩ := Option.map_eq_some_iff.1 (by simpa only [kvL, List.getElem?_map] using hkv)
  obtain ⟨hp3, hp4⟩ := Prod.mk.inj hp2
  have hpk : p.1 = k := by injection hp3
  have hn : (mapV g l)[i]? = some (k, e.val) := by rw [hp1, ← hpk, ← hp4]
  have hs2 : ∀ w, setM (mapV g l) k w = (mapV g l).set i (k, w) := by
    intro w
    have hex : ∃ j v0, idxM k (mapV g l) 0 = some (j, v0) := by
      cases h : idxM k (mapV g l) 0 with
      | none => exact absurd (List.mem_map.2 ⟨_, List.mem_of_getElem? hn, rfl⟩) (idx_none h).2.2.2
      | some jv => exact ⟨jv.1, jv.2, rfl⟩
    obtain ⟨j, v0, hj⟩ := hex
    obtain ⟨n, rfl, hn2, _, hs2, _⟩ := idx_some hj
    have hnd := mr.nd
    have : n = i := by
      have h1 : ((mapV g l).map (·.1))[n]? = some k := by simp [hn2]
      have h2 : ((mapV g l).map (·.1))[i]? = some k := by simp [hn]
      exact nodup_at hnd h1 h2
    rw [hs2, this]
  refine okS_setObj hget rfl rfl (q _ (Sat.imp (fun h hh => ⟨_, _, ?_, hh⟩) hs'.set))
  rw [← mapV_set]
  refine mr.modify hn (hs2 _) _ fun e' he' => ⟨?_, rfl, rfl⟩
  rw [hi] at he'; obtain rfl := Option.some.inj he'; exact hk
end
end Go.Sl
end
section
set_option linter.unusedVariables false
namespace Go.Sl
open Go.Conc
def itM {V : Type} (kk : IntKind) (g : V → Value) (mb ib : Nat) (l : List (Int × V)) (vis : List Int) : HP := fun h =>
  ∃ es clock since seen last, MapR kk es clock (mapV g l) ∧ (∀ e ∈ es.toList, e.born < since) ∧ since ≤ last ∧ since ≤ clock ∧ (∀ e ∈ es.toList, (seen.contains e.born = true ↔ ∃ k ∈ vis, e.key = .int kk k)) ∧ all [pts mb (.map es clock), pts ib (.mapIter (some mb) since seen last)] h
section
variable {P : Program} {main : Bool} {B : Bad} {R : Nat → Goroutine → Array Obj → Prop} {d : Nat} {As As' L : List HP}
variable {fn : FuncId} {kd : Kd} {n : Nat} {e : Nat → Value} {ds : List Deferred} {k : List Item} {cs : List Frame}
variable {ops : Array Oper} {i : Nat} {rest : List Nat} {dst : Option Nat} {t : Nat} {ty : TypeId} {pos : String} {af : Array Edge} {gd : Option (Nat × Bool)} {x y z : Operand} {v u : Value} {b off : Nat} {c : Array Value} {el tt t2 key : TypeId}
variable {kk : IntKind} {V : Type} {g : V → Value} {l : List (Int × V)} {q : Int}
def KnP (A : HP) (As : List HP) : Prop := ∀ h, Sat As h → ∃ L, Sat (A :: L) h
theorem Fo.knp {A : HP} {As L : List HP} (f : Fo A As L) : KnP A As := fun _ s => ⟨L, s.perm f.perm⟩
theorem Ext.knp {A : HP} {As As0 L : List HP} (e : Ext As As0) (f : Fo A As0 L) : KnP A As := fun _ s => ⟨L, (e _ s).perm f.perm⟩
theorem Closed.lkC (C : Closed P main B R) {zv : Value} [cM : Mp P tt key el] [Ik P key kk] [Zv P el zv] (ho : nthO ops i = some ⟨some t, .lookup tt x y true, ty, pos, af, gd⟩)
    (h1 : ∀ w, getM l q = some w → Nx R d As fn kd n e ds ops rest k cs t (.tuple #[g w, .bool true])) (h2 : getM l q = none → Nx R d As fn kd n e ds ops rest k cs t (.tuple #[zv, .bool false]))
    (hx : ev n e x = .map (some b) := by rfl) (hy : ev n e y = .int kk q := by rfl) (hf : KnP (mapP kk g b l) As := by first | (apply Fo.knp; (repeat (first | with_reducible exact Fo.head | with_reducible apply Fo.tail)); done) | (apply Ext.knp; assumption; (repeat (first | with_reducible exact Fo.head | with_reducible apply Fo.tail)); done)) (hw : wantB ops n e gd = true := by rfl) : Nw R d As fn kd n e ds ops i rest k cs :=
  C.gen ho hw fun H s => by
    unfold execOp; simp only [hx, hy]
    refine okS_do ?_
    obtain ⟨L, sL⟩ := hf _ s
    refine okS_lookup sL ?_
    refine ⟨As, s, ?_⟩
    cases hg : getM l q with
    | none => exact h2 hg
    | some w => exact h1 w hg
theorem Closed.lkR (C : Closed P main B R) {zv : Value} {co : Bool} [cM : Mp P tt key el] [Ik P key kk] [Zv P el zv] (ho : nthO ops i = some ⟨some t, .lookup tt x y co, ty, pos, af, gd⟩)
    (h : Nx R d As fn kd n e ds ops rest k cs t (if co then .tuple #[((getM l q).map g).getD zv, .bool (getM l q).isSome] else ((getM l q).map g).getD zv))
    (hx : ev n e x = .map (some b) := by rfl) (hy : ev n e y = .int kk q := by rfl) (hf : KnP (mapP kk g b l) As := by first | (apply Fo.knp; (repeat (first | with_reducible exact Fo.head | with_reducible apply Fo.tail)); done) | (apply Ext.knp; assumption; (repeat (first | with_reducible exact Fo.head | with_reducible apply Fo.tail)); done)) (hw : wantB ops n e gd = true := by rfl) : Nw R d As fn kd n e ds ops i rest k cs :=
  C.gen ho hw fun H s => by
    unfold execOp; simp only [hx, hy]
    obtain ⟨L, sL⟩ := hf _ s
    exact okS_do (okS_lookup sL ⟨As, s, h⟩)
theorem Closed.lkB (C : Closed P main B R) {zv : Value} [cM : Mp P tt key el] [Ik P key kk] [Zv P el zv] (ho : nthO ops i = some ⟨some t, .lookup tt x y false, ty, pos, af, gd⟩)
    (h1 : ∀ w, getM l q = some w → Nx R d As fn kd n e ds ops rest k cs t (g w)) (h2 : getM l q = none → Nx R d As fn kd n e ds ops rest k cs t zv)
    (hx : ev n e x = .map (some b) := by rfl) (hy : ev n e y = .int kk q := by rfl) (hf : KnP (mapP kk g b l) As := by first | (apply Fo.knp; (repeat (first | with_reducible exact Fo.head | with_reducible apply Fo.tail)); done) | (apply Ext.knp; assumption; (repeat (first | with_reducible exact Fo.head | with_reducible apply Fo.tail)); done)) (hw : wantB ops n e gd = true := by rfl) : Nw R d As fn kd n e ds ops i rest k cs := by
  cases hg : getM l q with
  | none => exact C.lkR ho (by rw [hg]; exact h2 hg) hx hy hf hw
  | some w => exact C.lkR ho (by rw [hg]; exact h1 w hg) hx hy hf hw
theorem Closed.lkV (C : Closed P main B R) {zv : Value} {w : V} {co : Bool} [cM : Mp P tt key el] [Ik P key kk] [Zv P el zv] (hg : getM l q = some w) (ho : nthO ops i = some ⟨some t, .lookup tt x y co, ty, pos, af, gd⟩)
    (h : Nx R d As fn kd n e ds ops rest k cs t (if co then .tuple #[g w, .bool true] else g w))
    (hx : ev n e x = .map (some b) := by rfl) (hy : ev n e y = .int kk q := by rfl) (hf : KnP (mapP kk g b l) As := by first | (apply Fo.knp; (repeat (first | with_reducible exact Fo.head | with_reducible apply Fo.tail)); done) | (apply Ext.knp; assumption; (repeat (first | with_reducible exact Fo.head | with_reducible apply Fo.tail)); done)) (hw : wantB ops n e gd = true := by rfl) : Nw R d As fn kd n e ds ops i rest k cs :=
  C.lkR ho (by rw [hg]; exact h) hx hy hf hw
theorem Closed.lkN (C : Closed P main B R) {zv : Value} {co : Bool} [cM : Mp P tt key el] [Ik P key kk] [Zv P el zv] (hg : getM l q = none) (ho : nthO ops i = some ⟨some t, .lookup tt x y co, ty, pos, af, gd⟩)
    (h : Nx R d As fn kd n e ds ops rest k cs t (if co then .tuple #[zv, .bool false] else zv))
    (hx : ev n e x = .map (some b) := by rfl) (hy : ev n e y = .int kk q := by rfl) (hf : KnP (mapP kk g b l) As := by first | (apply Fo.knp; (repeat (first | with_reducible exact Fo.head | with_reducible apply Fo.tail)); done) | (apply Ext.knp; assumption; (repeat (first | with_reducible exact Fo.head | with_reducible apply Fo.tail)); done)) (hw : wantB ops n e gd = true := by rfl) : Nw R d As fn kd n e ds ops i rest k cs :=
  C.lkR ho (by rw [hg]; exact h) hx hy hf hw
theorem Closed.mu (C : Closed P main B R) {w : V} [cM : Mp P tt key el] [Ik P key kk] (ho : nthO ops i = some ⟨none, .mapUpdate tt x y z, ty, pos, af, gd⟩) (h : At R d (mapP kk g b (setM l q w) :: L) (gr fn kd n e ds (.inRegion ops rest :: k) cs))
    (hx : ev n e x = .map (some b) := by rfl) (hy : ev n e y = .int kk q := by rfl) (hf : Fo (mapP kk g b l) As L := by repeat (first | with_reducible exact Fo.head | with_reducible apply Fo.tail)) (hz : ev n e z = g w := by rfl) (hw : wantB ops n e gd = true := by rfl) : Nw R d As fn kd n e ds ops i rest k cs :=
  C.gen ho hw fun H s => by
    unfold execOp; simp only [hx, hy, hz]
    exact okS_do (okS_mapUpdate (s.perm hf.perm) fun H' s' => ⟨_, s', h⟩)
theorem Closed.dl (C : Closed P main B R) [cM : Mp P tt key el] [Ik P key kk] (ho : nthO ops i = some ⟨dst, .call ⟨.builtin .delete, #[x, y], #[tt, t2]⟩, ty, pos, af, gd⟩) (h : At R d (mapP kk g b (delM l q) :: L) (gr fn kd n (putO e dst (.tuple #[])) ds (.inRegion ops rest :: k) cs))
    (hx : ev n e x = .map (some b) := by rfl) (hy : ev n e y = .int kk q := by rfl) (hf : Fo (mapP kk g b l) As L := by repeat (first | with_reducible exact Fo.head | with_reducible apply Fo.tail)) (hw : wantB ops n e gd = true := by rfl) : Nw R d As fn kd n e ds ops i rest k cs :=
  C.gen ho hw fun H s => by
    unfold execOp; simp only [resolve]
    refine okS_do (okS_pure ?_)
    simp only [List.map_toArray, List.map_cons, List.map_nil, hx, hy]
    unfold invoke builtin
    exact okS_do (okS_delete (s.perm hf.perm) fun H' s' => okS_pure ⟨_, s', h⟩)
theorem Closed.lnM (C : Closed P main B R) [cM : Mp P tt key el] (ho : nthO ops i = some ⟨some t, .call ⟨.builtin .len, #[x], #[tt]⟩, ty, pos, af, gd⟩) (h : Nx R d As fn kd n e ds ops rest k cs t (.int .i64 l.length))
    (hx : ev n e x = .map (some b) := by rfl) (hf : KnP (mapP kk g b l) As := by first | (apply Fo.knp; (repeat (first | with_reducible exact Fo.head | with_reducible apply Fo.tail)); done) | (apply Ext.knp; assumption; (repeat (first | with_reducible exact Fo.head | with_reducible apply Fo.tail)); done)) (hw : wantB ops n e gd = true := by rfl) : Nw R d As fn kd n e ds ops i rest k cs :=
  C.gen ho hw fun H s => by
    obtain ⟨L', s'⟩ := hf _ s
    obtain ⟨hh, ⟨es, clock, mr, hpt⟩, hsub, hr⟩ := s'
    have hget : hp H b = some (.map es clock) := by subst hpt; exact hsub b _ (by simp [one])
    have hsz : es.size = l.length := by
      have := congrArg List.length mr.kv
      simpa [kvL, mapV] using this
    unfold execOp; simp only [resolve]
    refine okS_do (okS_pure ?_)
    simp only [List.map_toArray, List.map_cons, List.map_nil, hx]
    unfold invoke builtin
    refine okS_do ?_
    unfold Builtin.len_
    refine okS_do (pu_und cM.h B H d _ ?_)
    refine okS_do (okS_getObj hget rfl (okS_pure (okS_pure ⟨As, s, ?_⟩)))
    rw [hsz]; exact h
theorem Closed.me (C : Closed P main B R) {zw : V} [cM : Mp P tt key el] [Ik P key kk] [Zv P el (g zw)] (ho : nthO ops i = some ⟨some t, .mapEntry tt x y, ty, pos, af, gd⟩)
    (h : ∀ st, Nx R d (mapE kk g b (setM l q ((getM l q).getD zw)) q st :: L) fn kd n e ds ops rest k cs t (.tuple #[g ((getM l q).getD zw), goInt st]))
    (hx : ev n e x = .map (some b) := by rfl) (hy : ev n e y = .int kk q := by rfl) (hf : Fo (mapP kk g b l) As L := by repeat (first | with_reducible exact Fo.head | with_reducible apply Fo.tail)) (hw : wantB ops n e gd = true := by rfl) : Nw R d As fn kd n e ds ops i rest k cs :=
  C.gen ho hw fun H s => by
    unfold execOp; simp only [hx, hy]
    exact okS_do (okS_mapEntry (s.perm hf.perm) fun st H' s' => ⟨_, s', h st⟩)
theorem Closed.es (C : Closed P main B R) {w : V} {st : Nat} (ho : nthO ops i = some ⟨none, .entryStore tt x y z, ty, pos, af, gd⟩) (h : At R d (mapP kk g b (setM l q w) :: L) (gr fn kd n e ds (.inRegion ops rest :: k) cs))
    (hx : ev n e x = .map (some b) := by rfl) (hy : ev n e y = goInt st := by rfl) (hf : Fo (mapE kk g b l q st) As L := by repeat (first | with_reducible exact Fo.head | with_reducible apply Fo.tail)) (hz : ev n e z = g w := by rfl) (hw : wantB ops n e gd = true := by rfl) : Nw R d As fn kd n e ds ops i rest k cs :=
  C.gen ho hw fun H s => by
    unfold execOp; simp only [hx, hy, hz]
    exact okS_do (okS_entryStore (s.perm hf.perm) fun H' s' => ⟨_, s', h⟩)
theorem mapP_nil (kk : IntKind) (g : V → Value) (b : Nat) (h : HL) (hh : pts b (.map #[] 0) h) : mapP kk g b [] h := ⟨_, _, ⟨rfl, by simp [mapV], by simp, by simp⟩, hh⟩
theorem Closed.mm (C : Closed P main B R) (kk : IntKind) (g : V → Value) (ho : nthO ops i = some ⟨some t, .makeMap tt none, ty, pos, af, gd⟩) (h : ∀ b, Nx R d (mapP kk g b [] :: As) fn kd n e ds ops rest k cs t (.map (some b))) (hw : wantB ops n e gd = true := by rfl) : Nw R d As fn kd n e ds ops i rest k cs :=
  C.gen ho hw fun H s => by
    unfold execOp; simp only [Instr.makeMap, Option.map_none]
    refine okS_do (okS_do ?_)
    show okS P B (.new _ _) H d _
    simp only [okS]
    show okS P B (pure _) _ d _
    exact okS_pure ⟨_, (s.push _).imp (mapP_nil kk g _), h _⟩
theorem Closed.rn (C : Closed P main B R) [cM : Mp P tt key el] (ho : nthO ops i = some ⟨some t, .range tt x, ty, pos, af, gd⟩) (h : ∀ ib, Nx R d (itM kk g b ib l [] :: L) fn kd n e ds ops rest k cs t (.pointer (some ⟨ib, 0, none⟩)))
    (hx : ev n e x = .map (some b) := by rfl) (hf : Fo (mapP kk g b l) As L := by repeat (first | with_reducible exact Fo.head | with_reducible apply Fo.tail)) (hw : wantB ops n e gd = true := by rfl) : Nw R d As fn kd n e ds ops i rest k cs :=
  C.gen ho hw fun H s => by
    have s' := s.perm hf.perm
    obtain ⟨hh, ⟨es, clock, mr, hpt⟩, hsub, hr⟩ := s'
    have hget : hp H b = some (.map es clock) := by subst hpt; exact hsub b _ (by simp [one])
    have s2 : Sat (pts b (.map es clock) :: L) (hp H) := ⟨hh, hpt, hsub, hr⟩
    unfold execOp; simp only [hx]
    refine okS_do ?_
    unfold Instr.range
    refine okS_do (pu_und cM.h B H d _ ?_)
    refine okS_do (okS_getObj hget rfl ?_)
    refine okS_do (okS_pure (okS_do ?_))
    show okS P B (.new _ _) H d _
    simp only [okS]
    show okS P B (pure _) _ d _
    refine okS_pure ⟨_, ?_, h H.size⟩
    have s3 := s2.push (.mapIter (some b) clock #[] clock)
    refine Sat.imp (fun h hh => ⟨es, clock, clock, #[], clock, mr, fun e he => mr.lt e he, Nat.le_refl _, Nat.le_refl _, fun e he => by simp, hh⟩) (Sat.unflat (l := [pts b (.map es clock), pts H.size (.mapIter (some b) clock #[] clock)]) s3.swap)
theorem size1 {X : Type} {a : Array X} (h : a.isEmpty = false) : 0 < a.size := by
  rcases Nat.eq_zero_or_pos a.size with h0 | h0
  · simp [Array.isEmpty, h0] at h
  · exact h0
theorem okS_next {mb ib : Nat} {vis : List Int} {As : List HP} {H : Array Obj} {tt : TypeId} {Q : Value → Array Obj → Nat → Prop} (s : Sat (itM kk g mb ib l vis :: As) (hp H))
    (q1 : ∀ k v H', (k, v) ∈ l → k ∉ vis → Sat (itM kk g mb ib l (k :: vis) :: As) (hp H') → Q (.tuple #[.bool true, .int kk k, g v]) H' d) (q2 : (∀ p ∈ l, p.1 ∈ vis) → Q (.tuple #[.bool false]) H d) : okS P B (Instr.next (.pointer (some ⟨ib, 0, none⟩)) false tt) H d Q := by
  obtain ⟨es, clock, since, seen, last, mr, hb, hsl, hsc, hseen, s⟩ : ∃ es clock since seen last, MapR kk es clock (mapV g l) ∧ (∀ e ∈ es.toList, e.born < since) ∧ since ≤ last ∧ since ≤ clock ∧ (∀ e ∈ es.toList, (seen.contains e.born = true ↔ ∃ k ∈ vis, e.key = .int kk k)) ∧ Sat (all [pts mb (.map es clock), pts ib (.mapIter (some mb) since seen last)] :: As) (hp H) := by
    obtain ⟨h1, ⟨es, clock, since, seen, last, mr, a1, a2, a3, a4, a5⟩, h2, h3⟩ := s
    exact ⟨es, clock, since, seen, last, mr, a1, a2, a3, a4, h1, a5, h2, h3⟩
  have s := s.flat
  have hm : hp H mb = some (.map es clock) := s.get
  have hi : hp H ib = some (.mapIter (some mb) since seen last) := s.swap.get
  unfold Instr.next
  simp only
  refine okS_do (okS_getObj hi rfl ?_)
  simp only
  refine okS_do (okS_getObj hm rfl ?_)
  have hno : (!seen.isEmpty && !es.isEmpty && es.all fun x => decide (x.born ≥ last)) = false := by
    cases he : es.isEmpty with
    | true => simp
    | false =>
      have h0 := size1 he
      have : (es.all fun x => decide (x.born ≥ last)) = false := by
        rw [Array.all_eq_false]
        refine ⟨0, h0, ?_⟩
        have := hb es[0] (by simp)
        simp; omega
      rw [this]; simp
  simp only [hno, Bool.false_eq_true, if_false]
  generalize hL : es.filter (fun e => !seen.contains e.born) = left
  have hleft : ∀ e, e ∈ left ↔ e ∈ es ∧ ¬ (seen.contains e.born = true) := fun e => by rw [← hL]; simp
  have hold : left.filter (fun x => decide (x.born < since)) = left := by
    rw [Array.filter_eq_self]
    intro e he
    have := hb e (Array.mem_toList_iff.2 ((hleft e).1 he).1)
    simp; omega
  have hnew : left.filter (fun x => decide (x.born ≥ since)) = #[] := by
    rw [Array.filter_eq_empty_iff]
    intro e he
    have := hb e (Array.mem_toList_iff.2 ((hleft e).1 he).1)
    simp; omega
  rw [hold, hnew, Array.append_empty]
  refine okS_do ?_
  show okS P B (.choose _ _) H d _
  have hkv : ∀ e ∈ es.toList, ∃ k v, (k, v) ∈ l ∧ e.key = .int kk k ∧ e.val = g v := fun e he => by
    have : (e.key, e.val) ∈ kvL kk (mapV g l) := by rw [← mr.kv]; exact List.mem_map_of_mem (f := fun e : MapEntry => (e.key, e.val)) he
    obtain ⟨p, hp1, hp2⟩ := List.mem_map.1 this
    obtain ⟨p', hp3, hp4⟩ := List.mem_map.1 hp1
    subst hp4
    obtain ⟨h1, h2⟩ := Prod.mk.inj hp2
    exact ⟨p'.1, p'.2, hp3, h1.symm, h2.symm⟩
  have hvk : ∀ p ∈ l, ∃ e ∈ es.toList, e.key = .int kk p.1 := fun p hp => by
    have : (Value.int kk p.1, g p.2) ∈ es.toList.map (fun e => (e.key, e.val)) := by rw [mr.kv]; exact List.mem_map.2 ⟨(p.1, g p.2), List.mem_map.2 ⟨p, hp, rfl⟩, rfl⟩
    obtain ⟨e, h1, h2⟩ := List.mem_map.1 this
    exact ⟨e, h1, (Prod.mk.inj h2).1⟩
  cases hem : left.isEmpty with
  | true =>
    have hl0 : left = #[] := by simpa using hem
    have hall : ∀ p ∈ l, p.1 ∈ vis := fun p hp => by
      obtain ⟨e, he, hk⟩ := hvk p hp
      have : seen.contains e.born = true := by
        refine Classical.byContradiction fun hc => ?_
        have := (hleft e).2 ⟨Array.mem_toList_iff.1 he, hc⟩
        rw [hl0] at this; simp at this
      obtain ⟨k, hk1, hk2⟩ := (hseen e he).1 this
      rw [hk] at hk2
      injection hk2 with _ h2
      rw [h2]; exact hk1
    simp only [okS, Question.forced, hl0]
    simp only [if_true, Array.map_empty, Array.append_empty]
    exact q2 hall
  | false =>
    simp only [Bool.false_eq_true, if_false]
    have hnd : ∀ e1 ∈ es.toList, ∀ e2 ∈ es.toList, e1.key = e2.key → e1 = e2 := fun e1 h1 e2 h2 hk => by
      obtain ⟨i1, hi1⟩ := List.getElem?_of_mem h1
      obtain ⟨i2, hi2⟩ := List.getElem?_of_mem h2
      have g1 : ((kvL kk (mapV g l)).map (·.1))[i1]? = some e1.key := by rw [← mr.kv]; simp [hi1]
      have g2 : ((kvL kk (mapV g l)).map (·.1))[i2]? = some e1.key := by rw [← mr.kv, hk]; simp [hi2]
      have hn : ((kvL kk (mapV g l)).map (·.1)).Nodup := by
        have hmm : (kvL kk (mapV g l)).map (·.1) = ((mapV g l).map (·.1)).map (Value.int kk) := by simp [kvL]
        rw [hmm]
        exact List.Pairwise.map _ (fun a b h z => h (by injection z)) mr.nd
      have := nodup_at hn g1 g2
      subst this
      rw [hi1] at hi2; exact Option.some.inj hi2
    have hbn : ∀ e1 ∈ es.toList, ∀ e2 ∈ es.toList, e1.born = e2.born → e1 = e2 := fun e1 h1 e2 h2 hk => by
      obtain ⟨i1, hi1⟩ := List.getElem?_of_mem h1
      obtain ⟨i2, hi2⟩ := List.getElem?_of_mem h2
      have := nodup_at mr.bn (i := i1) (j := i2) (x := e1.born) (by simp [hi1]) (by simp [hi2, hk])
      subst this
      rw [hi1] at hi2; exact Option.some.inj hi2
    have main' : ∀ j, j < left.size → okS P B (match (#[] ++ left.map some)[j]? with
        | some (some e) => do
          setObj ib (.mapIter (some mb) since (seen.push e.born) clock)
          pure (.tuple #[.bool true, e.key, e.val])
        | some none => (pure (.tuple #[.bool false]) : Sem Value)
        | none => stuck "Next: no such candidate") H d Q := fun j hj => by
      have hg : (#[] ++ left.map some)[j]? = some (some left[j]) := by simp [hj]
      rw [hg]
      have hmem : left[j] ∈ left := Array.getElem_mem hj
      obtain ⟨he, hns⟩ := (hleft _).1 hmem
      have he' := Array.mem_toList_iff.2 he
      obtain ⟨k, v, hkl, hk, hv⟩ := hkv _ he'
      have s2 := (s.swap).set (o' := .mapIter (some mb) since (seen.push left[j].born) clock)
      refine okS_do (okS_setObj hi rfl rfl (okS_pure ?_))
      rw [hk, hv]
      refine q1 k v _ hkl (fun hvis => hns ((hseen _ he').2 ⟨k, hvis, hk⟩)) ?_
      refine Sat.imp (fun h hh => ⟨es, clock, since, seen.push left[j].born, clock, mr, hb, hsc, hsc, fun e hee => ?_, hh⟩) (Sat.unflat (l := [pts mb (.map es clock), pts ib (.mapIter (some mb) since (seen.push left[j].born) clock)]) s2.swap)
      have hpush : (seen.push left[j].born).contains e.born = true ↔ seen.contains e.born = true ∨ e.born = left[j].born := by simp [Array.mem_push]
      rw [hpush, hseen e hee]
      constructor
      · rintro (⟨k', h1, h2⟩ | h1)
        · exact ⟨k', List.mem_cons_of_mem _ h1, h2⟩
        · have := hbn e hee _ he' h1
          exact ⟨k, List.mem_cons_self .., by rw [this]; exact hk⟩
      · rintro ⟨k', h1, h2⟩
        rcases List.mem_cons.1 h1 with rfl | h1
        · exact .inr (by rw [hnd e hee _ he' (h2.trans hk.symm)])
        · exact .inl ⟨k', h1, h2⟩
    have hls := size1 hem
    simp only [okS]
    split
    · refine main' 0 hls
    · intro n
      have : Question.cut (.mapNext (#[] ++ left.map some).size) n = n % (#[] ++ left.map some).size := rfl
      rw [this]
      refine main' _ ?_
      have hsz : (#[] ++ left.map some).size = left.size := by simp
      rw [hsz]; exact Nat.mod_lt _ hls
theorem Closed.nx (C : Closed P main B R) {ib : Nat} {vis : List Int} (ho : nthO ops i = some ⟨some t, .next x false, ty, pos, af, gd⟩)
    (h1 : ∀ j w, (j, w) ∈ l → j ∉ vis → Nx R d (itM kk g b ib l (j :: vis) :: L) fn kd n e ds ops rest k cs t (.tuple #[.bool true, .int kk j, g w])) (h2 : (∀ p ∈ l, p.1 ∈ vis) → Nx R d (itM kk g b ib l vis :: L) fn kd n e ds ops rest k cs t (.tuple #[.bool false]))
    (hx : ev n e x = .pointer (some ⟨ib, 0, none⟩) := by rfl) (hf : Fo (itM kk g b ib l vis) As L := by repeat (first | with_reducible exact Fo.head | with_reducible apply Fo.tail)) (hw : wantB ops n e gd = true := by rfl) : Nw R d As fn kd n e ds ops i rest k cs :=
  C.gen ho hw fun H s => by
    unfold execOp; simp only [hx]
    exact okS_do (okS_next (s.perm hf.perm) (fun j w H' m nv s' => ⟨_, s', h1 j w m nv⟩) fun hall => ⟨_, s.perm hf.perm, h2 hall⟩)
theorem Closed.muI (C : Closed P main B R) {w : V} {ib : Nat} {vis : List Int} [cM : Mp P tt key el] [Ik P key kk] (hk : (getM l q).isSome = true) (ho : nthO ops i = some ⟨none, .mapUpdate tt x y z, ty, pos, af, gd⟩) (h : At R d (itM kk g b ib (setM l q w) vis :: L) (gr fn kd n e ds (.inRegion ops rest :: k) cs))
    (hx : ev n e x = .map (some b) := by rfl) (hy : ev n e y = .int kk q := by rfl) (hf : Fo (itM kk g b ib l vis) As L := by repeat (first | with_reducible exact Fo.head | with_reducible apply Fo.tail)) (hz : ev n e z = g w := by rfl) (hw : wantB ops n e gd = true := by rfl) : Nw R d As fn kd n e ds ops i rest k cs :=
  C.gen ho hw fun H s => by
    have s' := s.perm hf.perm
    obtain ⟨es, clock, since, seen, last, mr, hb, hsl, hsc, hseen, s2⟩ : ∃ es clock since seen last, MapR kk es clock (mapV g l) ∧ (∀ e ∈ es.toList, e.born < since) ∧ since ≤ last ∧ since ≤ clock ∧ (∀ e ∈ es.toList, (seen.contains e.born = true ↔ ∃ k ∈ vis, e.key = .int kk k)) ∧ Sat (all [pts b (.map es clock), pts ib (.mapIter (some b) since seen last)] :: L) (hp H) := by
      obtain ⟨h1, ⟨es, clock, since, seen, last, mr, a1, a2, a3, a4, a5⟩, h2, h3⟩ := s'
      exact ⟨es, clock, since, seen, last, mr, a1, a2, a3, a4, h1, a5, h2, h3⟩
    have s2 := s2.flat
    have hget : hp H b = some (.map es clock) := s2.get
    unfold execOp; simp only [hx, hy, hz]
    refine okS_do ?_
    unfold Instr.mapUpdate
    refine okS_do (pu_und cM.h B H d _ ?_)
    refine okS_do (okS_getObj hget rfl ?_)
    refine okS_do (pu_checkKey B H d _ ?_)
    refine okS_do (pu_findKey mr.kv B H d _ ?_)
    cases hi : idxM q (mapV g l) 0 with
    | none =>
      have := (idx_none hi).1
      rw [mapV_get, Option.map_eq_none_iff] at this
      rw [this] at hk; cases hk
    | some jv =>
      obtain ⟨j, v0⟩ := jv
      obtain ⟨m, rfl, hn, _, hs2, _⟩ := idx_some hi
      obtain ⟨e0, he, hke, _⟩ := kv_get mr.kv hn
      simp only [Nat.zero_add, arr_list, he, Option.map_some, Option.getD_some, hke]
      refine okS_do (pu_keep B H d _ ?_)
      refine okS_setObj hget rfl rfl ⟨_, ?_, h⟩
      refine Sat.imp (fun h hh => ⟨_, clock, since, seen, last, ?_, ?_, hsl, hsc, ?_, hh⟩) (Sat.unflat (l := [pts b _, pts ib (.mapIter (some b) since seen last)]) (s2.set))
      · rw [← mapV_set]
        exact mr.modify hn (hs2 _) _ fun e' he' => ⟨rfl, rfl, rfl⟩
      · intro e' he'
        have hl : (es.modify m fun e => { e with key := .int kk q, val := g w }).toList = es.toList.modify m fun e => { e with key := .int kk q, val := g w } := by simp
        rw [hl] at he'
        obtain ⟨i, hi'⟩ := List.getElem?_of_mem he'
        rw [List.getElem?_modify] at hi'
        obtain ⟨e2, h2, h3⟩ := Option.map_eq_some_iff.1 hi'
        have := hb e2 (List.mem_of_getElem? h2)
        split at h3 <;> (subst h3; exact this)
      · intro e' he'
        have hl : (es.modify m fun e => { e with key := .int kk q, val := g w }).toList = es.toList.modify m fun e => { e with key := .int kk q, val := g w } := by simp
        rw [hl] at he'
        obtain ⟨i, hi'⟩ := List.getElem?_of_mem he'
        rw [List.getElem?_modify] at hi'
        obtain ⟨e2, h2, h3⟩ := Option.map_eq_some_iff.1 hi'
        have := hseen e2 (List.mem_of_getElem? h2)
        split at h3
        · rename_i hmi
          subst h3
          subst hmi
          rw [he] at h2; obtain rfl := Option.some.inj h2
          rw [hke] at this
          exact this
        · subst h3; exact this
theorem At.itM_end {ib : Nat} {vis : List Int} {gx : Goroutine} (hf : Fo (itM kk g b ib l vis) As L) (h : At R d (mapP kk g b l :: L) gx) : At R d As gx := fun H s => by
  have s' := s.perm hf.perm
  obtain ⟨h1, ⟨es, clock, since, seen, last, mr, a1, a2, a3, a4, a5⟩, h2, h3⟩ := s'
  have s2 : Sat (all [pts b (.map es clock), pts ib (.mapIter (some b) since seen last)] :: L) (hp H) := ⟨h1, a5, h2, h3⟩
  exact h H ((s2.flat.swap.drop).imp fun h hh => ⟨es, clock, mr, hh⟩)
end
end Go.Sl
end
section
set_option linter.unusedVariables false
namespace Go.Sl
open Go.Conc
def aft (ops : Array Oper) (i : Nat) : List Nat :=
  match nthO ops i with
  | some o => (o.after.toList.filter (Region.binds .any)).map (·.on)
  | none => []
def dstL (l : List Oper) (i : Nat) : List (Nat × Nat) :=
  match l with
  | [] => []
  | o :: l => match o.dst with | some s => (s, i) :: dstL l (i + 1) | none => dstL l (i + 1)
structure SE where
  i : Nat
  t : Nat
  v : Value
  ld : Bool
def lkS : List SE → List Nat → Nat → Option Value
  | [], _, _ => none
  | x :: S, pre, s => if x.t = s then (if pre.contains x.i then some x.v else lkS S pre s) else lkS S pre s
def lkA : List SE → Nat → Option Value
  | [], _ => none
  | x :: S, s => if x.t = s then some x.v else lkA S s
def lkD : List (Nat × Nat) → Nat → Option Nat
  | [], _ => none
  | (s', w) :: D, s => if s' = s then some w else lkD D s
def envD (e0 : Nat → Value) (D : List (Nat × Nat)) (ops : Array Oper) (i : Nat) (S : List SE) (e : Nat → Value) : Nat → Value := fun s =>
  match lkS S (aft ops i) s with
  | some v => v
  | none => match lkD D s with
    | none => e0 s
    | some w => if (aft ops w).contains i then e0 s else e s
def putsS (e0 : Nat → Value) (S : List SE) : Nat → Value := fun s =>
  match lkA S s with
  | some v => v
  | none => e0 s
def reach (ops : Array Oper) : Nat → Nat → Nat → Bool
  | 0, i, j => i == j
  | f + 1, i, j => i == j || (aft ops i).any fun m => reach ops f m j
def cand (ops : Array Oper) (T' : List Nat) : List Nat := T'.filter fun t => T'.all fun u => u == t || !reach ops 8 t u
section
variable (P : Program) (R : Nat → Goroutine → Array Obj → Prop) (d : Nat) (fn : FuncId) (kd : Kd) (n : Nat) (ds : List Deferred) (ops : Array Oper) (k : List Item) (cs : List Frame) (e0 : Nat → Value) (D : List (Nat × Nat))
def Nd (W : List HP) (S : List SE) (C : List SE → List HP → Prop) (t : Nat) : Nat → List SE → List HP → Prop
  | 0, K, As => ∃ o, nthO ops t = some o ∧ ∀ e rest, (∀ As' v, C (match o.dst with | some s => ⟨t, s, v, false⟩ :: K | none => K) As' → At R d As' (gr fn kd n (putO (envD e0 D ops t (K ++ S) e) o.dst v) ds (.inRegion ops rest :: k) cs)) →
      At R d As (gr fn kd n (envD e0 D ops t (K ++ S) e) ds (.inRegion ops (t :: rest) :: k) cs)
  | _ + 1, K, As => ∃ o, nthO ops t = some o ∧ ∀ e rest, (∀ As' v, Ext1 W As' As → C (match o.dst with | some s => ⟨t, s, v, false⟩ :: K | none => K) As' → At R d As' (gr fn kd n (putO (envD e0 D ops t (K ++ S) e) o.dst v) ds (.inRegion ops rest :: k) cs)) →
      At R d As (gr fn kd n (envD e0 D ops t (K ++ S) e) ds (.inRegion ops (t :: rest) :: k) cs)
def Obl (W : List HP) (S : List SE) (x : SE) : Prop :=
  (∃ o, nthO ops x.i = some o ∧ o.dst = some x.t) ∧ ∀ As e rest, (x.ld = true → Ext As W) → At R d As (gr fn kd n (put (envD e0 D ops x.i S e) x.t x.v) ds (.inRegion ops rest :: k) cs) → At R d As (gr fn kd n (envD e0 D ops x.i S e) ds (.inRegion ops (x.i :: rest) :: k) cs)
def Ch (W : List HP) : Nat → List SE → List Nat → Nat → List SE → List HP → Prop
  | 0, S, _, _, K, As => At R d As (gr fn kd n (putsS e0 (K ++ S)) ds (.inRegion ops [] :: k) cs)
  | f + 1, S, T', a, K, As => (∀ t ∈ cand ops T', Nd R d fn kd n ds ops k cs e0 D W S (fun K As => Ch W f S (T'.erase t) (a - 1) K As) t a K As) ∨ (∃ i ∈ T', ∃ t v, Obl R d fn kd n ds ops k cs e0 D W (K ++ S) ⟨i, t, v, false⟩ ∧ Ch W f (⟨i, t, v, false⟩ :: S) (T'.erase i) a K As)
def Dr (W As0 : List HP) (T : List Nat) (a : Nat) : List SE → List Nat → Prop
  | S, [] => (S.all fun x => !x.ld || decide ((T.filter fun t => !reach ops 8 t x.i).length ≤ a)) = true ∧ Ext As0 W ∧ Ch R d fn kd n ds ops k cs e0 D W T.length S T a [] As0
  | S, i :: is => ∃ t v ld, Obl R d fn kd n ds ops k cs e0 D W S ⟨i, t, v, ld⟩ ∧ Dr W As0 T a (⟨i, t, v, ld⟩ :: S) is
end
section
variable {P : Program} {main : Bool} {B : Bad} {R : Nat → Goroutine → Array Obj → Prop} {d : Nat} {fn : FuncId} {kd : Kd} {n : Nat} {ds : List Deferred} {ops : Array Oper} {k : List Item} {cs : List Frame} {e0 : Nat → Value} {D : List (Nat × Nat)} {W As0 : List HP} {T : List Nat} {a : Nat} {S : List SE} {i : Nat} {is : List Nat}
theorem Dr.pu {t : Nat} {v : Value} (ho : ∃ o, nthO ops i = some o ∧ o.dst = some t) (h : ∀ As e rest, At R d As (gr fn kd n (put (envD e0 D ops i S e) t v) ds (.inRegion ops rest :: k) cs) → At R d As (gr fn kd n (envD e0 D ops i S e) ds (.inRegion ops (i :: rest) :: k) cs))
    (k' : Dr R d fn kd n ds ops k cs e0 D W As0 T a (⟨i, t, v, false⟩ :: S) is) : Dr R d fn kd n ds ops k cs e0 D W As0 T a S (i :: is) := ⟨t, v, false, ⟨ho, fun As e rest _ h' => h As e rest h'⟩, k'⟩
theorem Dr.ld {t : Nat} {v : Value} (ho : ∃ o, nthO ops i = some o ∧ o.dst = some t) (h : ∀ As, Ext As W → ∀ e rest, At R d As (gr fn kd n (put (envD e0 D ops i S e) t v) ds (.inRegion ops rest :: k) cs) → At R d As (gr fn kd n (envD e0 D ops i S e) ds (.inRegion ops (i :: rest) :: k) cs))
    (k' : Dr R d fn kd n ds ops k cs e0 D W As0 T a (⟨i, t, v, true⟩ :: S) is) : Dr R d fn kd n ds ops k cs e0 D W As0 T a S (i :: is) := ⟨t, v, true, ⟨ho, fun As e rest hA h' => h As (hA rfl) e rest h'⟩, k'⟩
theorem Ch.n1 {f : Nat} {T' : List Nat} {t a : Nat} {K : List SE} {As : List HP} (hc : cand ops T' = [t]) (h : Nd R d fn kd n ds ops k cs e0 D W S (fun K As => Ch R d fn kd n ds ops k cs e0 D W f S (T'.erase t) (a - 1) K As) t a K As) : Ch R d fn kd n ds ops k cs e0 D W (f + 1) S T' a K As := .inl fun t' ht => by
  rw [hc] at ht; obtain rfl := List.mem_singleton.1 ht; exact h
theorem Ch.n2 {f : Nat} {T' : List Nat} {t u a : Nat} {K : List SE} {As : List HP} (hc : cand ops T' = [t, u]) (h : Nd R d fn kd n ds ops k cs e0 D W S (fun K As => Ch R d fn kd n ds ops k cs e0 D W f S (T'.erase t) (a - 1) K As) t a K As)
    (h2 : Nd R d fn kd n ds ops k cs e0 D W S (fun K As => Ch R d fn kd n ds ops k cs e0 D W f S (T'.erase u) (a - 1) K As) u a K As) : Ch R d fn kd n ds ops k cs e0 D W (f + 1) S T' a K As := .inl fun t' ht => by
  rw [hc] at ht
  rcases List.mem_cons.1 ht with rfl | ht
  · exact h
  · obtain rfl := List.mem_singleton.1 ht; exact h2
theorem Ch.pu {f : Nat} {T' : List Nat} {i t a : Nat} {v : Value} {K : List SE} {As : List HP} (ho : ∃ o, nthO ops i = some o ∧ o.dst = some t) (h : ∀ As e rest, At R d As (gr fn kd n (put (envD e0 D ops i (K ++ S) e) t v) ds (.inRegion ops rest :: k) cs) → At R d As (gr fn kd n (envD e0 D ops i (K ++ S) e) ds (.inRegion ops (i :: rest) :: k) cs))
    (k' : Ch R d fn kd n ds ops k cs e0 D W f (⟨i, t, v, false⟩ :: S) (T'.erase i) a K As) (hi : i ∈ T' := by decide) : Ch R d fn kd n ds ops k cs e0 D W (f + 1) S T' a K As := .inr ⟨i, hi, t, v, ⟨ho, fun As e rest _ h' => h As e rest h'⟩, k'⟩
theorem Ch.fin {T' : List Nat} {a : Nat} {K : List SE} {As : List HP} (h : At R d As (gr fn kd n (putsS e0 (K ++ S)) ds (.inRegion ops [] :: k) cs)) : Ch R d fn kd n ds ops k cs e0 D W 0 S T' a K As := h
theorem Dr.chain (hl : (S.all fun x => !x.ld || decide ((T.filter fun t => !reach ops 8 t x.i).length ≤ a)) = true) (h : Ch R d fn kd n ds ops k cs e0 D W T.length S T a [] As0) (hw : Ext As0 W := by exact fun _ s => s) : Dr R d fn kd n ds ops k cs e0 D W As0 T a S [] := ⟨hl, hw, h⟩
end
def dstOf (ops : Array Oper) (i : Nat) : Option Nat := match nthO ops i with | some o => o.dst | none => none
def nodupB : List Nat → Bool
  | [] => true
  | a :: l => !l.contains a && nodupB l
def aftM (md : Region.Mode) (ops : Array Oper) (i : Nat) : List Nat :=
  match nthO ops i with
  | some o => (o.after.toList.filter (Region.binds md)).map (·.on)
  | none => []
def topo (md : Region.Mode) (ops : Array Oper) : List Nat → List Nat → Bool
  | _, [] => true
  | dn, i :: l => (aftM md ops i).all (fun j => dn.contains j) && topo md ops (i :: dn) l
def tsort (md : Region.Mode) (ops : Array Oper) : Nat → List Nat → List Nat
  | 0, _ => []
  | f + 1, dn => match (List.range ops.size).find? (fun i => !dn.contains i && (aftM md ops i).all (fun j => dn.contains j)) with
    | some i => i :: tsort md ops f (i :: dn)
    | none => []
def topOk (md : Region.Mode) (ops : Array Oper) (tp : List Nat) : Bool := (List.range ops.size).all (fun i => tp.contains i) && tp.all (fun i => decide (i < ops.size)) && topo md ops [] tp
theorem topo_next {md : Region.Mode} {ops : Array Oper} {L : Nat → Bool} : ∀ {tp dn : List Nat}, topo md ops dn tp = true → (∀ j ∈ dn, L j = true) → (∃ i ∈ tp, L i = false) → ∃ i ∈ tp, L i = false ∧ ∀ j ∈ aftM md ops i, L j = true
  | [], _, _, _, h => by obtain ⟨i, hi, _⟩ := h; cases hi
  | i :: l, dn, h, hd, he => by
    simp only [topo, Bool.and_eq_true, List.all_eq_true] at h
    cases hL : L i with
    | false => exact ⟨i, List.mem_cons_self .., hL, fun j hj => hd j (by have := h.1 j hj; simpa using this)⟩
    | true =>
      obtain ⟨q, hq, hq2⟩ := he
      obtain ⟨z, h1, h2⟩ := topo_next h.2 (fun j hj => (List.mem_cons.1 hj).elim (fun e => e ▸ hL) (hd j)) ⟨q, (List.mem_cons.1 hq).resolve_left (fun e => by rw [e, hL] at hq2; cases hq2), hq2⟩
      exact ⟨z, List.mem_cons_of_mem _ h1, h2⟩
theorem aft_sub {md : Region.Mode} {ops : Array Oper} {i j : Nat} (h : j ∈ aft ops i) : j ∈ aftM md ops i := by
  unfold aft at h; unfold aftM
  split at h
  · rename_i o ho
    simp only [List.mem_map, List.mem_filter] at h ⊢
    obtain ⟨e, ⟨he, hb⟩, rfl⟩ := h
    refine ⟨e, ⟨he, ?_⟩, rfl⟩
    unfold Region.binds at hb ⊢
    revert hb
    cases e.ground <;> simp
  · cases h
def regOk (ops : Array Oper) (D : List (Nat × Nat)) (T is : List Nat) : Bool :=
  (!Region.departs ops || topOk .gc ops (tsort .gc ops ops.size [])) && (List.range ops.size).all (fun i => (aftM .text ops i).all (· < i)) && D.all (fun p => dstOf ops p.2 == some p.1) &&
  (List.range ops.size).all (fun i => match dstOf ops i with | some s => lkD D s == some i | none => true) &&
  (List.range ops.size).all (fun i => is.contains i || T.contains i) && is.all (fun i => !T.contains i && decide (i < ops.size)) && T.all (fun i => decide (i < ops.size)) && nodupB T
theorem lkD_mem {D : List (Nat × Nat)} {s w : Nat} (h : lkD D s = some w) : (s, w) ∈ D := by
  induction D with
  | nil => cases h
  | cons p D ih =>
    obtain ⟨s', w'⟩ := p
    unfold lkD at h
    split at h
    · rename_i e; cases h; subst e; exact List.mem_cons_self ..
    · exact List.mem_cons_of_mem _ (ih h)
theorem lkS_mem {S : List SE} {pre : List Nat} {s : Nat} {v : Value} (h : lkS S pre s = some v) : ∃ x ∈ S, x.t = s ∧ x.v = v ∧ x.i ∈ pre := by
  induction S with
  | nil => cases h
  | cons x S ih =>
    unfold lkS at h
    split at h
    · split at h
      · rename_i e1 e2
        cases h
        exact ⟨x, List.mem_cons_self .., e1, rfl, by simpa using e2⟩
      · obtain ⟨y, hy, z⟩ := ih h; exact ⟨y, List.mem_cons_of_mem _ hy, z⟩
    · obtain ⟨y, hy, z⟩ := ih h; exact ⟨y, List.mem_cons_of_mem _ hy, z⟩
theorem lkA_mem {S : List SE} {s : Nat} {v : Value} (h : lkA S s = some v) : ∃ x ∈ S, x.t = s ∧ x.v = v := by
  induction S with
  | nil => cases h
  | cons x S ih =>
    unfold lkA at h
    split at h
    · rename_i e1; cases h; exact ⟨x, List.mem_cons_self .., e1, rfl⟩
    · obtain ⟨y, hy, z⟩ := ih h; exact ⟨y, List.mem_cons_of_mem _ hy, z⟩
theorem lkA_none {S : List SE} {s : Nat} (h : lkA S s = none) : ∀ x ∈ S, x.t ≠ s := by
  induction S with
  | nil => intro x hx; cases hx
  | cons y S ih =>
    unfold lkA at h
    split at h
    · cases h
    · rename_i e1
      intro x hx
      rcases List.mem_cons.1 hx with rfl | hx
      · exact e1
      · exact ih h x hx
theorem reach_succ {ops : Array Oper} {f i j : Nat} (h : reach ops (f + 1) i j = true) : i = j ∨ ∃ m ∈ aft ops i, reach ops f m j = true := by
  simpa only [reach, Bool.or_eq_true, beq_iff_eq, List.any_eq_true] using h
theorem reach_closed {ops : Array Oper} {L : Nat → Prop} (hc : ∀ w, L w → ∀ j ∈ aft ops w, L j) : ∀ (f i j : Nat), reach ops f i j = true → L i → L j
  | 0, i, j, h, hl => by simp [reach] at h; subst h; exact hl
  | f + 1, i, j, h, hl => by
    simp only [reach, Bool.or_eq_true, beq_iff_eq, List.any_eq_true] at h
    rcases h with rfl | ⟨m, hm, h⟩
    · exact hl
    · exact reach_closed hc f m j h (hc i hl m hm)
structure RegOk (ops : Array Oper) (D : List (Nat × Nat)) (T is : List Nat) : Prop where
  prog : ∀ md (L : Nat → Bool), (∃ i, i < ops.size ∧ L i = false) → ∃ i, i < ops.size ∧ L i = false ∧ ∀ j ∈ aftM md ops i, L j = true
  down : ∀ i, i < ops.size → ∀ j ∈ aft ops i, j < i
  d1 : ∀ s w, lkD D s = some w → dstOf ops w = some s
  d2 : ∀ i s, dstOf ops i = some s → lkD D s = some i
  cov : ∀ i, i < ops.size → i ∈ is ∨ i ∈ T
  isT : ∀ i ∈ is, i ∉ T ∧ i < ops.size
  Tlt : ∀ i ∈ T, i < ops.size
  nd : nodupB T = true
theorem nthL_lt : ∀ {l : List Oper} {i : Nat} {o : Oper}, nthL l i = some o → i < l.length
  | [], _, _, h => by cases h
  | _ :: _, 0, _, _ => by simp
  | _ :: l, i + 1, _, h => by have := nthL_lt (l := l) h; simp; omega
theorem dstOf_lt {ops : Array Oper} {i s : Nat} (h : dstOf ops i = some s) : i < ops.size := by
  unfold dstOf at h
  cases e : nthO ops i with
  | none => rw [e] at h; cases h
  | some o => have := nthL_lt e; simpa using this
section
variable {P : Program} {main : Bool} {B : Bad} {R : Nat → Goroutine → Array Obj → Prop} {d : Nat} {fn : FuncId} {kd : Kd} {n : Nat} {ds : List Deferred} {ops : Array Oper} {k : List Item} {cs : List Frame} {e0 : Nat → Value} {D : List (Nat × Nat)} {W As0 : List HP} {T is : List Nat} {a : Nat} {S : List SE}
structure DSt (R : Nat → Goroutine → Array Obj → Prop) (d : Nat) (fn : FuncId) (kd : Kd) (n : Nat) (ds : List Deferred) (ops : Array Oper) (k : List Item) (cs : List Frame) (e0 : Nat → Value) (D : List (Nat × Nat)) (W As0 : List HP) (T is : List Nat) (a : Nat) (S : List SE) (L : Nat → Prop) (e : Nat → Value) (K : List SE) (Td T' Ts : List Nat) (As : List HP) : Prop where
  v1 : ∀ x ∈ K ++ S, L x.i → e x.t = x.v
  v2 : ∀ s, lkD D s = none → e s = e0 s
  v3 : ∀ s w, lkD D s = some w → ¬ L w → e s = e0 s
  cl : ∀ w, L w → ∀ j ∈ aft ops w, L j
  tt : T.Perm (Td ++ (T' ++ Ts))
  td : ∀ t ∈ Td, L t
  tn : ∀ t ∈ T', ¬ L t
  lk : ∀ x ∈ K ++ S, dstOf ops x.i = some x.t
  ka : ∀ t ∈ Td, ∀ s, dstOf ops t = some s → ∃ x ∈ K, x.t = s
  ki : ∀ x ∈ K, x.i ∈ Td
  sS : ∀ x ∈ S, (x.i ∈ is ∨ x.i ∈ Ts) ∧ ∃ Sx, (∀ y ∈ Sx, y ∈ K ++ S) ∧ Obl R d fn kd n ds ops k cs e0 D W Sx x
  sI : ∀ i, i ∈ is ∨ i ∈ Ts → ∃ x ∈ S, x.i = i
  sL : ∀ x ∈ S, x.ld = true → (T.filter fun t => !reach ops 8 t x.i).length ≤ a
  sU : ∀ x ∈ S, ∀ y ∈ S, x.i = y.i → x = y
  ch : Ch R d fn kd n ds ops k cs e0 D W T'.length S T' (a - Td.length) K As
  as : Td.length ≤ a → Ext As W
theorem DSt.env {L : Nat → Prop} {e : Nat → Value} {K : List SE} {Td T' Ts : List Nat} {As : List HP} (h : DSt R d fn kd n ds ops k cs e0 D W As0 T is a S L e K Td T' Ts As) {i : Nat} (hi : ¬ L i) (hr : ∀ j ∈ aft ops i, L j) {S' : List SE} (hS : ∀ x ∈ S', x ∈ K ++ S) : envD e0 D ops i S' e = e := by
  funext s
  unfold envD
  cases h1 : lkS S' (aft ops i) s with
  | some v =>
    obtain ⟨x, hx, rfl, rfl, hp⟩ := lkS_mem h1
    exact (h.v1 x (hS x hx) (hr _ hp)).symm
  | none =>
    simp only
    cases h2 : lkD D s with
    | none => exact (h.v2 s h2).symm
    | some w =>
      simp only
      split
      · rename_i hc
        have hiw : i ∈ aft ops w := by simpa using hc
        exact (h.v3 s w h2 fun hl => hi (h.cl w hl i hiw)).symm
      · rfl
def unl (f : Nat → Bool) : Nat → Nat
  | 0 => 0
  | m + 1 => unl f m + (if f m then 0 else 1)
theorem unl_zero {f : Nat → Bool} : ∀ {m : Nat}, unl f m = 0 → ∀ i, i < m → f i = true
  | 0, _, i, hi => by omega
  | m + 1, h, i, hi => by
    unfold unl at h
    by_cases e : i = m
    · subst e; by_cases hf : f i = true
      · exact hf
      · simp [hf] at h
    · exact unl_zero (m := m) (by omega) i (by omega)
theorem unl_set {f f' : Nat → Bool} {i : Nat} (h1 : f i = false) (h2 : f' i = true) (h3 : ∀ j, j ≠ i → f' j = f j) : ∀ {m : Nat}, (i < m → unl f' m + 1 = unl f m) ∧ (m ≤ i → unl f' m = unl f m)
  | 0 => ⟨fun h => by omega, fun _ => rfl⟩
  | m + 1 => by
    have ih := unl_set h1 h2 h3 (m := m)
    refine ⟨fun h => ?_, fun h => ?_⟩
    · unfold unl
      by_cases e : i = m
      · subst e; rw [ih.2 (Nat.le_refl _), h1, h2]; simp
      · have := ih.1 (by omega); rw [h3 m (Ne.symm e)]; omega
    · unfold unl; rw [ih.2 (by omega), h3 m (by omega)]
theorem exists_least {f : Nat → Bool} : ∀ {m : Nat}, unl f m ≠ 0 → ∃ i, i < m ∧ f i = false ∧ ∀ j, j < i → f j = true
  | 0, h => absurd rfl h
  | m + 1, h => by
    by_cases e : unl f m = 0
    · refine ⟨m, by omega, ?_, fun j hj => unl_zero e j hj⟩
      by_cases hf : f m = true
      · unfold unl at h; simp [e, hf] at h
      · simpa using hf
    · obtain ⟨i, h1, h2⟩ := exists_least e; exact ⟨i, by omega, h2⟩
theorem least_next {ops : Array Oper} {md : Region.Mode} (hd : ∀ i, i < ops.size → ∀ j ∈ aftM md ops i, j < i) (L : Nat → Bool) (h : ∃ i, i < ops.size ∧ L i = false) : ∃ i, i < ops.size ∧ L i = false ∧ ∀ j ∈ aftM md ops i, L j = true := by
  obtain ⟨q, hq, hL⟩ := h
  obtain ⟨i, h1, h2, h3⟩ := exists_least (f := L) (m := ops.size) (fun z => by rw [unl_zero z q hq] at hL; cases hL)
  exact ⟨i, h1, h2, fun j hj => h3 j (hd i h1 j hj)⟩
theorem aftM_mem {ops : Array Oper} {md : Region.Mode} {i j : Nat} : j ∈ aftM md ops i ↔ ∃ o, nthO ops i = some o ∧ ∃ e ∈ o.after, Region.binds md e = true ∧ e.on = j := by
  unfold aftM
  constructor
  · intro h
    split at h
    · rename_i o ho
      simp only [List.mem_map, List.mem_filter, Array.mem_toList_iff] at h
      obtain ⟨e, ⟨he, hb⟩, rfl⟩ := h
      exact ⟨o, ho, e, he, hb, rfl⟩
    · cases h
  · rintro ⟨o, ho, e, he, hb, rfl⟩
    rw [ho]
    simp only [List.mem_map, List.mem_filter, Array.mem_toList_iff]
    exact ⟨e, ⟨he, hb⟩, rfl⟩
theorem regOk_of {ops : Array Oper} {D : List (Nat × Nat)} {T is : List Nat} (h : regOk ops D T is = true) : RegOk ops D T is := by
  simp only [regOk, Bool.and_eq_true, Bool.not_eq_true', List.all_eq_true, List.mem_range, Bool.or_eq_true, List.contains_iff_mem, decide_eq_true_eq, beq_iff_eq] at h
  obtain ⟨⟨⟨⟨⟨⟨⟨h1, h2⟩, h3⟩, h4⟩, h5⟩, h6⟩, h7⟩, h8⟩ := h
  have hany : ∀ i, i < ops.size → ∀ j ∈ aftM .any ops i, j < i := fun i hi j hj => h2 i hi j (aft_sub (by exact hj))
  refine ⟨fun md L hex => ?_, fun i hi j hj => h2 i hi j (aft_sub hj), fun s w e => h3 (s, w) (lkD_mem e), fun i s e => ?_, h5, fun i hi => ?_, h7, h8⟩
  · cases md with
    | text => exact least_next h2 L hex
    | any => exact least_next hany L hex
    | gc =>
      rcases h1 with h1 | h1
      · refine least_next (fun i hi j hj => ?_) L hex
        obtain ⟨o, ho, e, he, hb, rfl⟩ := aftM_mem.1 hj
        refine hany i hi _ (aftM_mem.2 ⟨o, ho, e, he, ?_, rfl⟩)
        unfold Region.departs at h1
        rw [Array.any_eq_false] at h1
        have hn : ops[i]? = some o := by rw [nthO_eq]; exact ho
        rw [Array.getElem?_eq_getElem hi] at hn
        have := h1 i hi
        rw [Option.some.inj hn] at this
        cases hz : Region.binds .any e with
        | true => rfl
        | false =>
          obtain ⟨q, hq, rfl⟩ := Array.mem_iff_getElem.1 he
          exact absurd (Array.any_eq_true.2 ⟨q, hq, by simp [hz]⟩) this
      · simp only [topOk, Bool.and_eq_true, List.all_eq_true, List.mem_range, decide_eq_true_eq] at h1
        obtain ⟨⟨c1, c2⟩, c3⟩ := h1
        obtain ⟨q, hq, hL⟩ := hex
        obtain ⟨i, hi, hi2⟩ := topo_next (L := L) c3 (fun j hj => by cases hj) ⟨q, by have := c1 q hq; simpa using this, hL⟩
        exact ⟨i, c2 i hi, hi2⟩
  · have := h4 i (dstOf_lt e)
    rw [e] at this
    simpa using this
  · have := h6 i hi
    exact ⟨by have := this.1; simpa using this, this.2⟩
def lsd (listed : Array Bool) (i : Nat) : Bool := listed[i]?.getD true
theorem aft_ready {md : Region.Mode} {listed : Array Bool} {i : Nat} (hlt : i < ops.size) : (((ops[i]?).map (·.after.all fun e => !Region.binds md e || listed.getD e.on false)).getD false) = true ↔ ∀ j ∈ aftM md ops i, listed[j]?.getD false = true := by
  have ho : ops[i]? = some ops[i] := Array.getElem?_eq_getElem hlt
  have hn : nthO ops i = some ops[i] := by rw [← nthO_eq]; exact ho
  rw [ho]
  simp only [Option.map_some, Option.getD_some, Array.all_eq_true]
  constructor
  · intro h j hj
    obtain ⟨o, ho2, e, he, hb, rfl⟩ := aftM_mem.1 hj
    rw [hn] at ho2
    obtain rfl := Option.some.inj ho2
    obtain ⟨q, hq, rfl⟩ := Array.mem_iff_getElem.1 he
    have := h q hq
    rw [hb] at this
    simpa [Array.getD_eq_getD_getElem?] using this
  · intro h q hq
    cases hb : Region.binds md (ops[i]).after[q] with
    | false => simp
    | true =>
      have := h _ (aftM_mem.2 ⟨_, hn, _, Array.getElem_mem hq, hb, rfl⟩)
      simp [Array.getD_eq_getD_getElem?, this]
theorem linearise_go_acc' (md : Region.Mode) (ops : Array Oper) (fuel t : Nat) (listed : Array Bool) (i : Nat) : Region.linearise.go md ops fuel t listed [i] = i :: Region.linearise.go md ops fuel t listed [] := by rw [linearise_go_acc md ops fuel t listed [i]]; rfl
theorem lsd_set {listed : Array Bool} {i : Nat} (hi : i < listed.size) (j : Nat) : (listed.setIfInBounds i true)[j]?.getD false = if j = i then true else listed[j]?.getD false := by
  by_cases e : j = i
  · subst e; rw [Array.getElem?_setIfInBounds_self_of_lt hi]; simp
  · rw [Array.getElem?_setIfInBounds_ne (Ne.symm e)]; simp [e]
theorem nodupB_cons {a : Nat} {l : List Nat} (h : nodupB (a :: l) = true) : a ∉ l ∧ nodupB l = true := by
  simp only [nodupB, Bool.and_eq_true, Bool.not_eq_true'] at h
  exact ⟨by have := h.1; simpa using this, h.2⟩
theorem nodupB_app {a : List Nat} {t : Nat} {l : List Nat} (h : nodupB (a ++ t :: l) = true) : t ∉ l := by
  induction a with
  | nil => exact (nodupB_cons h).1
  | cons x a ih => exact ih (nodupB_cons h).2
theorem nodupB_nd : ∀ {l : List Nat}, nodupB l = true → l.Nodup
  | [], _ => List.nodup_nil
  | a :: l, h => List.nodup_cons.2 ⟨(nodupB_cons h).1, nodupB_nd (nodupB_cons h).2⟩
theorem dst_inj (rg : RegOk ops D T is) {i j s : Nat} (h1 : dstOf ops i = some s) (h2 : dstOf ops j = some s) : i = j := by
  have := (rg.d2 i s h1).symm.trans (rg.d2 j s h2); exact Option.some.inj this
theorem DSt.norm (rg : RegOk ops D T is) {L : Nat → Prop} {e : Nat → Value} {K : List SE} {Td : List Nat} {As : List HP} : ∀ (m : Nat) {S : List SE} {T' Ts : List Nat}, T'.length = m → DSt R d fn kd n ds ops k cs e0 D W As0 T is a S L e K Td T' Ts As →
    ∃ S' T2 Ts', DSt R d fn kd n ds ops k cs e0 D W As0 T is a S' L e K Td T2 Ts' As ∧ (∀ f, T2.length = f + 1 → ∀ t ∈ cand ops T2, Nd R d fn kd n ds ops k cs e0 D W S' (fun K As => Ch R d fn kd n ds ops k cs e0 D W f S' (T2.erase t) (a - Td.length - 1) K As) t (a - Td.length) K As)
  | 0, S, T', Ts, hm, st => ⟨S, T', Ts, st, fun f hf => by omega⟩
  | m + 1, S, T', Ts, hm, st => by
    have hch := st.ch
    rw [hm] at hch
    rcases hch with hch | ⟨i, hi, t, v, ob, hch⟩
    · exact ⟨S, T', Ts, st, fun f hf => by
        obtain rfl : f = m := by omega
        exact hch⟩
    · have hpT : T'.Perm (i :: T'.erase i) := List.perm_cons_erase hi
      have hlen : (T'.erase i).length = m := by have := hpT.length_eq; simp only [List.length_cons] at this; omega
      have hnd : (Td ++ (T' ++ Ts)).Nodup := st.tt.nodup_iff.1 (nodupB_nd rg.nd)
      have hTi : i ∈ T := st.tt.mem_iff.2 (List.mem_append_right _ (List.mem_append_left _ hi))
      have hni : ∀ y ∈ S, y.i ≠ i := fun y hy e => by
        rcases (st.sS y hy).1 with h | h
        · exact (rg.isT _ h).1 (e ▸ hTi)
        · exact (List.nodup_append.1 (List.nodup_append.1 hnd).2.1).2.2 i hi y.i h e.symm
      have hlk : dstOf ops i = some t := by obtain ⟨⟨o, ho, hd⟩, _⟩ := ob; unfold dstOf; rw [ho]; exact hd
      refine DSt.norm rg m (Ts := i :: Ts) hlen ⟨fun x hx hL => ?_, st.v2, st.v3, st.cl, ?_, st.td, fun u hu => st.tn u (List.mem_of_mem_erase hu), fun x hx => ?_, st.ka, st.ki, fun x hx => ?_, fun j hj => ?_, fun x hx hld => ?_, fun x hx y hy e => ?_, by rw [hlen]; exact hch, st.as⟩
      · rcases List.mem_append.1 hx with hx | hx
        · exact st.v1 x (List.mem_append_left _ hx) hL
        · rcases List.mem_cons.1 hx with rfl | hx
          · exact absurd hL (st.tn _ hi)
          · exact st.v1 x (List.mem_append_right _ hx) hL
      · exact st.tt.trans (List.Perm.append_left _ ((hpT.append_right Ts).trans (by simp only [List.cons_append]; exact List.perm_middle.symm)))
      · rcases List.mem_append.1 hx with hx | hx
        · exact st.lk x (List.mem_append_left _ hx)
        · rcases List.mem_cons.1 hx with rfl | hx
          · exact hlk
          · exact st.lk x (List.mem_append_right _ hx)
      · rcases List.mem_cons.1 hx with rfl | hx
        · exact ⟨.inr (List.mem_cons_self ..), K ++ S, fun y hy => (List.mem_append.1 hy).elim (fun h => List.mem_append_left _ h) (fun h => List.mem_append_right _ (List.mem_cons_of_mem _ h)), ob⟩
        · obtain ⟨h1, Sx, h2, h3⟩ := st.sS x hx
          exact ⟨h1.imp_right (List.mem_cons_of_mem _), Sx, fun y hy => (List.mem_append.1 (h2 y hy)).elim (fun h => List.mem_append_left _ h) (fun h => List.mem_append_right _ (List.mem_cons_of_mem _ h)), h3⟩
      · have : j = i ∨ (j ∈ is ∨ j ∈ Ts) := by
          rcases hj with h | h
          · exact .inr (.inl h)
          · rcases List.mem_cons.1 h with h | h
            · exact .inl h
            · exact .inr (.inr h)
        rcases this with rfl | h
        · exact ⟨_, List.mem_cons_self .., rfl⟩
        · obtain ⟨x, hx, e⟩ := st.sI j h; exact ⟨x, List.mem_cons_of_mem _ hx, e⟩
      · rcases List.mem_cons.1 hx with rfl | hx
        · cases hld
        · exact st.sL x hx hld
      · rcases List.mem_cons.1 hx with rfl | hx <;> rcases List.mem_cons.1 hy with rfl | hy
        · rfl
        · exact absurd e.symm (hni y hy)
        · exact absurd e (hni x hx)
        · exact st.sU x hx y hy e
theorem drawn_run {md : Region.Mode} (rg : RegOk ops D T is) :
    ∀ (fuel t : Nat) (listed : Array Bool) (e : Nat → Value) (S : List SE) (K : List SE) (Td T' Ts : List Nat) (As : List HP), listed.size = ops.size → unl (fun i => listed[i]?.getD false) ops.size = fuel → DSt R d fn kd n ds ops k cs e0 D W As0 T is a S (fun i => listed[i]?.getD false = true) e K Td T' Ts As →
      At R d As (gr fn kd n e ds (.inRegion ops (Region.linearise.go md ops fuel t listed []) :: k) cs) := by
  intro fuel
  induction fuel with
  | zero =>
    intro t listed e S K Td T' Ts As hsz hu st
    have hall := unl_zero hu
    have hT' : T' = [] := by
      cases T' with
      | nil => rfl
      | cons x l => exact absurd (hall x (rg.Tlt x (st.tt.mem_iff.2 (List.mem_append_right _ (List.mem_append_left _ (List.mem_cons_self ..)))))) (st.tn x (List.mem_cons_self ..))
    subst hT'
    simp only [Region.linearise.go, List.reverse_nil]
    have he : e = putsS e0 (K ++ S) := by
      funext s
      unfold putsS
      cases h1 : lkA (K ++ S) s with
      | some v =>
        obtain ⟨x, hx, rfl, rfl⟩ := lkA_mem h1
        exact st.v1 x hx (hall _ (dstOf_lt (st.lk x hx)))
      | none =>
        simp only
        have hno := lkA_none h1
        cases h2 : lkD D s with
        | none => exact st.v2 s h2
        | some w =>
          have hd := rg.d1 s w h2
          have hwc : (w ∈ is ∨ w ∈ Ts) ∨ w ∈ Td := by
            rcases rg.cov w (dstOf_lt hd) with hw | hw
            · exact .inl (.inl hw)
            · rcases List.mem_append.1 (st.tt.mem_iff.1 hw) with hw | hw
              · exact .inr hw
              · exact .inl (.inr (by simpa using hw))
          rcases hwc with hw | hw
          · obtain ⟨x, hx, rfl⟩ := st.sI w hw
            have := st.lk x (List.mem_append_right _ hx)
            rw [hd] at this
            exact absurd (Option.some.inj this).symm (hno x (List.mem_append_right _ hx))
          · obtain ⟨x, hx, hxs⟩ := st.ka w hw s hd
            exact absurd hxs (hno x (List.mem_append_left _ hx))
    rw [he]
    exact st.ch
  | succ fuel ih =>
    intro t listed e S K Td T' Ts As hsz hu st0
    obtain ⟨S, T', Ts, st, hnd0⟩ := st0.norm rg _ rfl
    have hrs : ∀ i, i ∈ ((List.range ops.size).filter fun i => !listed.getD i true && ((ops[i]?).map (·.after.all fun e => !Region.binds md e || listed.getD e.on false)).getD false) ↔ i < ops.size ∧ listed[i]?.getD false = false ∧ ∀ j ∈ aftM md ops i, listed[j]?.getD false = true := by
      intro i
      simp only [List.mem_filter, List.mem_range, Bool.and_eq_true, Bool.not_eq_true']
      constructor
      · rintro ⟨h1, h2, h3⟩
        refine ⟨h1, ?_, (aft_ready h1).1 h3⟩
        have : i < listed.size := by omega
        simpa [Array.getD_eq_getD_getElem?, this] using h2
      · rintro ⟨h1, h2, h3⟩
        refine ⟨h1, ?_, (aft_ready h1).2 h3⟩
        have : i < listed.size := by omega
        simpa [Array.getD_eq_getD_getElem?, this] using h2
    simp only [Region.linearise.go]
    generalize hG : ((List.range ops.size).filter fun i => !listed.getD i true && ((ops[i]?).map (·.after.all fun e => !Region.binds md e || listed.getD e.on false)).getD false) = rs at hrs
    obtain ⟨i1, hi1, hf1, _⟩ := exists_least (f := fun i => listed[i]?.getD false) (m := ops.size) (by rw [hu]; omega)
    obtain ⟨i0, hi0, hf0, hlow⟩ := rg.prog md (fun i => listed[i]?.getD false) ⟨i1, hi1, hf1⟩
    have hne : rs.length ≠ 0 := by
      have : i0 ∈ rs := (hrs i0).2 ⟨hi0, hf0, hlow⟩
      intro z
      rw [List.length_eq_zero_iff] at z
      rw [z] at this; cases this
    have hmod : t % rs.length < rs.length := Nat.mod_lt _ (by omega)
    rw [List.getElem?_eq_getElem hmod]
    simp only
    generalize hi' : rs[t % rs.length] = i
    have hmem : i ∈ rs := by rw [← hi']; exact List.getElem_mem hmod
    obtain ⟨hlt, hnl, hrd0⟩ := (hrs i).1 hmem
    have hrd : ∀ j ∈ aft ops i, listed[j]?.getD false = true := fun j hj => hrd0 j (aft_sub hj)
    have hacc : Region.linearise.go md ops fuel (t / rs.length) (listed.setIfInBounds i true) [i] = i :: Region.linearise.go md ops fuel (t / rs.length) (listed.setIfInBounds i true) [] := linearise_go_acc' md ops fuel (t / rs.length) (listed.setIfInBounds i true) i
    rw [hacc]
    have hsz' : (listed.setIfInBounds i true).size = ops.size := by simpa using hsz
    have hlt' : i < listed.size := by omega
    have hset := lsd_set (listed := listed) hlt'
    have hu' : unl (fun j => (listed.setIfInBounds i true)[j]?.getD false) ops.size = fuel := by
      have := (unl_set (f := fun j => listed[j]?.getD false) (f' := fun j => (listed.setIfInBounds i true)[j]?.getD false) (i := i) hnl (by simp [hset]) (fun j hj => by simp [hset, hj]) (m := ops.size)).1 hlt
      rw [hu] at this
      omega
    have hnl' : ¬ (listed[i]?.getD false = true) := by rw [hnl]; simp
    have hL : ∀ j, ((listed.setIfInBounds i true)[j]?.getD false = true) ↔ (j = i ∨ listed[j]?.getD false = true) := fun j => by
      rw [hset]; by_cases e : j = i <;> simp [e]
    have hcl' : ∀ w, (listed.setIfInBounds i true)[w]?.getD false = true → ∀ j ∈ aft ops w, (listed.setIfInBounds i true)[j]?.getD false = true := fun w hw j hj => by
      rw [hL] at hw ⊢
      rcases hw with rfl | hw
      · exact .inr (hrd j hj)
      · exact .inr (st.cl w hw j hj)
    have hnd : (Td ++ (T' ++ Ts)).Nodup := st.tt.nodup_iff.1 (nodupB_nd rg.nd)
    have hcov : (i ∈ is ∨ i ∈ Ts) ∨ i ∈ T' := by
      rcases rg.cov i hlt with hin | hin
      · exact .inl (.inl hin)
      · rcases List.mem_append.1 (st.tt.mem_iff.1 hin) with h | h
        · exact absurd (st.td i h) hnl'
        · rcases List.mem_append.1 h with h | h
          · exact .inr h
          · exact .inl (.inr h)
    have hsep : ∀ j, (j ∈ is ∨ j ∈ Ts) → j ∉ Td ∧ j ∉ T' := fun j hj => by
      rcases hj with hj | hj
      · have := (rg.isT j hj).1
        exact ⟨fun h => this (st.tt.mem_iff.2 (List.mem_append_left _ h)), fun h => this (st.tt.mem_iff.2 (List.mem_append_right _ (List.mem_append_left _ h)))⟩
      · obtain ⟨_, n2, n3⟩ := List.nodup_append.1 hnd
        exact ⟨fun h => n3 j h j (List.mem_append_right _ hj) rfl, fun h => (List.nodup_append.1 n2).2.2 j h j hj rfl⟩
    rcases hcov with hin | hin
    ·
      obtain ⟨x, hx, rfl⟩ := st.sI i hin
      obtain ⟨_, Sx, hSx, ob⟩ := st.sS x hx
      have hdst : dstOf ops x.i = some x.t := st.lk x (List.mem_append_right _ hx)
      have henv := st.env hnl' hrd (S' := Sx) fun y hy => hSx y hy
      have hA : x.ld = true → Ext As W := fun hld => by
        rcases Nat.lt_or_ge a Td.length with hlt | hge
        · exfalso
          have hnr : ∀ t ∈ Td, (!reach ops 8 t x.i) = true := fun t ht => by
            cases hr : reach ops 8 t x.i with
            | false => rfl
            | true => exact absurd (reach_closed st.cl 8 t x.i hr (st.td t ht)) hnl'
          have h1 := st.sL x hx hld
          have h2 : (T.filter fun t => !reach ops 8 t x.i).length = ((Td ++ (T' ++ Ts)).filter fun t => !reach ops 8 t x.i).length := (st.tt.filter _).length_eq
          rw [List.filter_append, List.filter_eq_self.2 hnr, List.length_append] at h2
          omega
        · exact st.as hge
      have key := ob.2 As e (Region.linearise.go md ops fuel (t / rs.length) (listed.setIfInBounds x.i true) []) hA
      rw [henv] at key
      refine key (ih _ _ _ S K Td T' Ts As hsz' hu' ⟨fun y hy hLy => ?_, fun s h2 => ?_, fun s w h2 hw => ?_, hcl', st.tt, fun t ht => (hL t).2 (.inr (st.td t ht)), fun t ht hLt => ?_, st.lk, st.ka, st.ki, st.sS, st.sI, st.sL, st.sU, st.ch, st.as⟩)
      · by_cases hyi : y.i = x.i
        · have hyx : y = x := by
            rcases List.mem_append.1 hy with hy | hy
            · exact absurd (hyi ▸ st.ki y hy) (hsep _ hin).1
            · exact st.sU y hy x hx hyi
          subst hyx; simp [put]
        · have hLy' : listed[y.i]?.getD false = true := ((hL _).1 hLy).resolve_left hyi
          have hyt : y.t ≠ x.t := fun e => hyi (dst_inj rg (st.lk y hy) (e ▸ hdst))
          simp only [put, if_neg hyt]
          exact st.v1 y hy hLy'
      · have : s ≠ x.t := fun e => by subst e; rw [rg.d2 _ _ hdst] at h2; cases h2
        simp only [put, if_neg this]; exact st.v2 s h2
      · have : s ≠ x.t := fun e => by
          subst e; rw [rg.d2 _ _ hdst] at h2
          exact hw ((hL w).2 (.inl (Option.some.inj h2).symm))
        simp only [put, if_neg this]
        exact st.v3 s w h2 fun h => hw ((hL w).2 (.inr h))
      · rcases (hL t).1 hLt with rfl | h
        · exact (hsep _ hin).2 ht
        · exact st.tn t ht h
    ·
      have hinT' : i ∈ T' := hin
      have hnd' : T'.Nodup := (List.nodup_append.1 (List.nodup_append.1 hnd).2.1).1
      have hcand : i ∈ cand ops T' := by
        unfold cand
        refine List.mem_filter.2 ⟨hinT', List.all_eq_true.2 fun u hu => ?_⟩
        by_cases hui : u = i
        · simp [hui]
        · cases hr : reach ops 8 i u with
          | false => simp
          | true =>
            rcases reach_succ (f := 7) hr with hr | ⟨m, hm, hr⟩
            · exact absurd hr.symm hui
            · exact absurd (reach_closed st.cl 7 m u hr (hrd m hm)) (st.tn u hu)
      obtain ⟨b, hb⟩ : ∃ b, b = T'.erase i := ⟨_, rfl⟩
      have hpT : T'.Perm (i :: b) := by rw [hb]; exact List.perm_cons_erase hinT'
      have hlenT : T'.length = b.length + 1 := by rw [hpT.length_eq]; rfl
      have hib : i ∉ b := by rw [hb]; exact hnd'.not_mem_erase
      have hch := hnd0 _ hlenT i hcand
      rw [← hb] at hch
      have henv := st.env hnl' hrd (S' := K ++ S) fun y hy => hy
      have hniT : ∀ y ∈ K ++ S, y.i ≠ i := fun y hy e => by
        rcases List.mem_append.1 hy with hy | hy
        · exact hnl' (e ▸ st.td _ (st.ki y hy))
        · exact (hsep _ (st.sS y hy).1).2 (e ▸ hin)
      have htn : ∀ t ∈ b, ¬ (listed.setIfInBounds i true)[t]?.getD false = true := fun u hu hLu => by
        rcases (hL u).1 hLu with rfl | h
        · exact hib hu
        · exact st.tn u (hpT.mem_iff.2 (List.mem_cons_of_mem _ hu)) h
      have htt : T.Perm (Td ++ [i] ++ (b ++ Ts)) := by
        refine st.tt.trans ?_
        rw [List.append_assoc]
        exact (hpT.append_right Ts).append_left Td
      have main' : ∀ (o : Oper), nthO ops i = some o → ∀ As' v, ((Td ++ [i]).length ≤ a → Ext As' W) → Ch R d fn kd n ds ops k cs e0 D W b.length S b (a - (Td ++ [i]).length) (match o.dst with | some s => ⟨i, s, v, false⟩ :: K | none => K) As' →
          At R d As' (gr fn kd n (putO e o.dst v) ds (.inRegion ops (Region.linearise.go md ops fuel (t / rs.length) (listed.setIfInBounds i true) []) :: k) cs) := by
        intro o ho As' v hext hc'
        cases hd : o.dst with
        | none =>
          rw [hd] at hc'
          have hdn : dstOf ops i = none := by unfold dstOf; rw [ho]; exact hd
          refine ih _ _ _ S K (Td ++ [i]) b Ts As' hsz' hu' ⟨fun y hy hLy => ?_, st.v2, fun s w h2 hw => st.v3 s w h2 fun h => hw ((hL w).2 (.inr h)), hcl', htt, fun u hu => ?_, htn, st.lk, fun u hu s hs => ?_, fun y hy => List.mem_append_left _ (st.ki y hy), st.sS, st.sI, st.sL, st.sU, hc', hext⟩
          · exact st.v1 y hy (((hL _).1 hLy).resolve_left (hniT y hy))
          · rcases List.mem_append.1 hu with hu | hu
            · exact (hL u).2 (.inr (st.td u hu))
            · exact (hL u).2 (.inl (by simpa using hu))
          · rcases List.mem_append.1 hu with hu | hu
            · exact st.ka u hu s hs
            · have : u = i := by simpa using hu
              subst this; rw [hdn] at hs; cases hs
        | some s0 =>
          rw [hd] at hc'
          have hdi : dstOf ops i = some s0 := by unfold dstOf; rw [ho]; exact hd
          refine ih _ _ _ S (⟨i, s0, v, false⟩ :: K) (Td ++ [i]) b Ts As' hsz' hu' ⟨fun y hy hLy => ?_, fun s h2 => ?_, fun s w h2 hw => ?_, hcl', htt, fun u hu => ?_, htn, fun y hy => ?_, fun u hu s hs => ?_, fun y hy => ?_, fun x hx => (by obtain ⟨h1, Sx, h2, h3⟩ := st.sS x hx; exact ⟨h1, Sx, fun y hy => List.mem_cons_of_mem _ (h2 y hy), h3⟩), st.sI, st.sL, st.sU, hc', hext⟩
          · rcases List.mem_cons.1 hy with rfl | hy
            · simp [putO, put]
            · have hyi := hniT y hy
              have hyt : y.t ≠ s0 := fun e => hyi (dst_inj rg (st.lk y hy) (e ▸ hdi))
              simp only [putO, put, if_neg hyt]
              exact st.v1 y hy (((hL _).1 hLy).resolve_left hyi)
          · have : s ≠ s0 := fun e => by subst e; rw [rg.d2 _ _ hdi] at h2; cases h2
            simp only [putO, put, if_neg this]; exact st.v2 s h2
          · have : s ≠ s0 := fun e => by
              subst e; rw [rg.d2 _ _ hdi] at h2
              exact hw ((hL w).2 (.inl (Option.some.inj h2).symm))
            simp only [putO, put, if_neg this]
            exact st.v3 s w h2 fun h => hw ((hL w).2 (.inr h))
          · rcases List.mem_append.1 hu with hu | hu
            · exact (hL u).2 (.inr (st.td u hu))
            · exact (hL u).2 (.inl (by simpa using hu))
          · rcases List.mem_cons.1 hy with rfl | hy
            · exact hdi
            · exact st.lk y hy
          · rcases List.mem_append.1 hu with hu | hu
            · obtain ⟨x, hx, e⟩ := st.ka u hu s hs; exact ⟨x, List.mem_cons_of_mem _ hx, e⟩
            · have : u = i := by simpa using hu
              subst this; rw [hdi] at hs; exact ⟨_, List.mem_cons_self .., Option.some.inj hs⟩
          · rcases List.mem_cons.1 hy with rfl | hy
            · exact List.mem_append_right _ (List.mem_cons_self ..)
            · exact List.mem_append_left _ (st.ki y hy)
      have hlen : (Td ++ [i]).length = Td.length + 1 := by simp
      cases hm : a - Td.length with
      | zero =>
        rw [hm] at hch
        obtain ⟨o, ho, hch⟩ := hch
        have key := hch e (Region.linearise.go md ops fuel (t / rs.length) (listed.setIfInBounds i true) [])
        rw [henv] at key
        refine key fun As' v hc' => main' o ho As' v (fun h => by omega) ?_
        have : a - (Td ++ [i]).length = 0 - 1 := by omega
        rw [this]; exact hc'
      | succ m =>
        rw [hm] at hch
        obtain ⟨o, ho, hch⟩ := hch
        have key := hch e (Region.linearise.go md ops fuel (t / rs.length) (listed.setIfInBounds i true) [])
        rw [henv] at key
        refine key fun As' v hx hc' => main' o ho As' v (fun h => hx.ext (st.as (by omega))) ?_
        have : a - (Td ++ [i]).length = m + 1 - 1 := by omega
        rw [this]; exact hc'
theorem Dr.uniq : ∀ (is : List Nat) (S : List SE), nodupB is = true → (∀ x ∈ S, x.i ∉ is) → (∀ x ∈ S, ∀ y ∈ S, x.i = y.i → x = y) → Dr R d fn kd n ds ops k cs e0 D W As0 T a S is → ∃ S', (∀ x ∈ S, x ∈ S') ∧ (∀ x ∈ S', x ∈ S ∨ (x.i ∈ is ∧ ∃ Sx, (∀ y ∈ Sx, y ∈ S') ∧ Obl R d fn kd n ds ops k cs e0 D W Sx x)) ∧ (∀ i ∈ is, ∃ x ∈ S', x.i = i) ∧
    (∀ x ∈ S', x.ld = true → (T.filter fun t => !reach ops 8 t x.i).length ≤ a) ∧ (Ext As0 W ∧ Ch R d fn kd n ds ops k cs e0 D W T.length S' T a [] As0) ∧ (∀ x ∈ S', ∀ y ∈ S', x.i = y.i → x = y)
  | [], S, _, _, hU, h => by
    obtain ⟨h1, h2⟩ := h
    refine ⟨S, fun x hx => hx, fun x hx => .inl hx, fun i hi => (by cases hi), fun x hx hld => ?_, h2, hU⟩
    have := List.all_eq_true.1 h1 x hx
    rw [hld] at this
    simpa using this
  | i :: is, S, hn, hni, hU, h => by
    obtain ⟨t, v, ld, o, h⟩ := h
    obtain ⟨hn1, hn2⟩ := nodupB_cons hn
    obtain ⟨S', a1, a2, a3, a4, a5, a6⟩ := Dr.uniq is _ hn2 (fun x hx => by
      rcases List.mem_cons.1 hx with rfl | hx
      · exact hn1
      · exact fun z => hni x hx (List.mem_cons_of_mem _ z)) (fun x hx y hy e => by
      rcases List.mem_cons.1 hx with rfl | hx <;> rcases List.mem_cons.1 hy with rfl | hy
      · rfl
      · exact absurd (List.mem_cons.2 (.inl e.symm)) (hni y hy)
      · exact absurd (List.mem_cons.2 (.inl e)) (hni x hx)
      · exact hU x hx y hy e) h
    refine ⟨S', fun x hx => a1 x (List.mem_cons_of_mem _ hx), fun x hx => ?_, fun j hj => ?_, a4, a5, a6⟩
    · rcases a2 x hx with hx | ⟨hx, y⟩
      · rcases List.mem_cons.1 hx with rfl | hx
        · exact .inr ⟨List.mem_cons_self .., S, fun y hy => a1 y (List.mem_cons_of_mem _ hy), o⟩
        · exact .inl hx
      · exact .inr ⟨List.mem_cons_of_mem _ hx, y⟩
    · rcases List.mem_cons.1 hj with rfl | hj
      · exact ⟨_, a1 _ (List.mem_cons_self ..), rfl⟩
      · exact a3 j hj
theorem repl_get (m i : Nat) : (Array.replicate m false)[i]?.getD false = false := by rw [Array.getElem?_replicate]; split <;> rfl
theorem Closed.drawnW (C : Closed P main B R) {c : Code} (D : List (Nat × Nat)) (is T : List Nat) (a : Nat) (h : Dr R d fn kd n ds (cO c) k cs e0 D W As0 T a [] is) (hc : ck c = .draw := by rfl) (hr : regOk (cO c) D T is = true := by decide +kernel) (hn : nodupB is = true := by rfl) :
    At R d As0 (gr fn kd n e0 ds (.code c :: k) cs) := by
  refine C.dr (fun t => ?_) hc
  have rg := regOk_of hr
  obtain ⟨S, _, a2, a3, a4, a5, a6⟩ := Dr.uniq is [] hn (fun x hx => by cases hx) (fun x hx => by cases hx) h
  have a2' : ∀ x ∈ S, x.i ∈ is ∧ ∃ Sx, (∀ y ∈ Sx, y ∈ S) ∧ Obl R d fn kd n ds (cO c) k cs e0 D W Sx x := fun x hx => (a2 x hx).resolve_left (by simp)
  have hst : ∀ listed : Array Bool, listed = Array.replicate (cO c).size false → DSt R d fn kd n ds (cO c) k cs e0 D W As0 T is a S (fun i => listed[i]?.getD false = true) e0 [] [] T [] As0 := fun listed hl => by
    have hno : ∀ i, ¬ (listed[i]?.getD false = true) := fun i => by
      subst hl; rw [repl_get]; simp
    have hlk : ∀ x ∈ ([] : List SE) ++ S, dstOf (cO c) x.i = some x.t := fun x hx => by
      obtain ⟨_, Sx, _, ⟨o, ho, hd⟩, _⟩ := a2' x (by simpa using hx)
      unfold dstOf; rw [ho]; exact hd
    exact ⟨fun x _ hx => absurd hx (hno _), fun _ _ => rfl, fun _ _ _ _ => rfl, fun w hw => absurd hw (hno w), by rw [List.append_nil]; exact .refl _, fun t ht => (by cases ht), fun t _ => hno t, hlk, fun t ht => (by cases ht), fun x hx => (by cases hx), fun x hx => (by obtain ⟨h1, Sx, h2, h3⟩ := a2' x hx; exact ⟨.inl h1, Sx, fun y hy => by simpa using h2 y hy, h3⟩), fun i hi => a3 i (hi.resolve_right (by simp)), a4, a6, a5.2, fun _ => a5.1⟩
  have hunl : ∀ m, unl (fun i => (Array.replicate (cO c).size false)[i]?.getD false) m = m := fun m => by
    induction m with
    | zero => rfl
    | succ m ih =>
      unfold unl
      rw [ih, repl_get]; rfl
  unfold Region.schedule
  split
  · unfold Region.linearise
    exact drawn_run rg (cO c).size _ _ e0 S [] [] T [] As0 (by simp) (hunl _) (hst _ rfl)
  · unfold Region.linearise
    exact drawn_run rg (cO c).size _ _ e0 S [] [] T [] As0 (by simp) (hunl _) (hst _ rfl)
theorem Closed.drawn (C : Closed P main B R) {c : Code} (D : List (Nat × Nat)) (is T : List Nat) (a : Nat) (h : Dr R d fn kd n ds (cO c) k cs e0 D As0 As0 T a [] is) (hc : ck c = .draw := by rfl) (hr : regOk (cO c) D T is = true := by decide +kernel) (hn : nodupB is = true := by rfl) :
    At R d As0 (gr fn kd n e0 ds (.code c :: k) cs) := C.drawnW D is T a h hc hr hn
end
end Go.Sl
end
section
set_option linter.unusedVariables false
namespace Go.Sl
open Go.Conc
class RowF {α : Type} (f : α → List Value) (z : outParam Nat) : Prop where
  len : ∀ a, (f a).length = z
  one : ∀ a, ∀ v ∈ f a, oneCell v = true
def SliceV.b (s : SliceV) : Nat := match s.a with | some a => a.block | none => 0
def imSl {α : Type} (I : HL) (f : α → List Value) (el : TypeId) (s : SliceV) (l : List α) : Prop :=
  (s = nilS ∧ l = []) ∨ ∃ pad, s = ⟨some ⟨s.b, 0, none⟩, l.length, s.cap⟩ ∧ I s.b = some (.cells (rowA f l pad) el (0, 0))
theorem imSl.mono {α : Type} {I I' : HL} {f : α → List Value} {el : TypeId} {s : SliceV} {l : List α} (h : imSl I f el s l) (hs : Sub I I') : imSl I' f el s l :=
  h.imp id fun ⟨pad, h1, h2⟩ => ⟨pad, h1, hs _ _ h2⟩
theorem imSl.len {α : Type} {I : HL} {f : α → List Value} {el : TypeId} {s : SliceV} {l : List α} (h : imSl I f el s l) : s.len = l.length := by
  rcases h with ⟨rfl, rfl⟩ | ⟨pad, h1, _⟩
  · rfl
  · rw [h1]
theorem imSl.nil {α : Type} (I : HL) (f : α → List Value) (el : TypeId) : imSl I f el nilS [] := .inl ⟨rfl, rfl⟩
inductive RowS {α : Type} (f : α → List Value) (el : TypeId) (s : SliceV) (l : List α) : List HP → Prop
  | own {z : Nat} {As L : List HP} : Fo (slP f z el s l) As L → RowS f el s l As
  | imm {I : HL} {As L : List HP} : Fo (imm I) As L → imSl I f el s l → RowS f el s l As
  | ext {As As0 : List HP} : Ext As As0 → RowS f el s l As0 → RowS f el s l As
section
variable {α : Type} {f : α → List Value} {el : TypeId} {s : SliceV} {l : List α} {As : List HP} {h : HL}
theorem RowS.get (r : RowS f el s l As) (st : Sat As h) : (s = nilS ∧ l = []) ∨ ∃ pad, s = ⟨some ⟨s.b, 0, none⟩, l.length, s.cap⟩ ∧ h s.b = some (.cells (rowA f l pad) el (0, 0)) := by
  induction r with
  | @own z As L fo =>
    obtain ⟨hh, x, hsub, _⟩ := st.perm fo.perm
    rcases x with ⟨rfl, rfl⟩ | ⟨b, pad, e, _, _, hpt⟩
    · exact .inl ⟨rfl, rfl⟩
    · have hb : s.b = b := by rw [e]; rfl
      refine .inr ⟨pad, by rw [hb]; exact e, ?_⟩
      subst hpt; rw [hb]; exact hsub b _ (by simp [one])
  | imm fo hi =>
    rcases hi with ⟨rfl, rfl⟩ | ⟨pad, h1, h2⟩
    · exact .inl ⟨rfl, rfl⟩
    · exact .inr ⟨pad, h1, (st.perm fo.perm).getI h2⟩
  | ext e _ ih => exact ih (e _ st)
theorem RowS.at {i : Nat} (r : RowS f el s l As) (st : Sat As h) (hi : i < l.length) : ∃ pad, s = ⟨some ⟨s.b, 0, none⟩, l.length, s.cap⟩ ∧ h s.b = some (.cells (rowA f l pad) el (0, 0)) := by
  rcases r.get st with ⟨_, rfl⟩ | h
  · simp at hi
  · exact h
theorem RowS.src {B : Bad} {H : Array Obj} {z : Nat} [rf : RowF f z] (r : RowS f el s l As) (st : Sat As (hp H)) (hs : ∀ j, B.sh el j = false) : SrcOk B H z l.length s.v (flat f l) := by
  rcases r.get st with ⟨rfl, rfl⟩ | ⟨pad, h1, h2⟩
  · exact .inl ⟨rfl, rfl, rfl⟩
  · refine .inr ⟨s.b, 0, s.cap, _, _, by rw [h1]; rfl, h2, ?_, ?_, hs⟩
    · rw [rowA_size rf.len]; omega
    · have hfl : (flat f l).length = l.length * z := flat_len rf.len l
      rw [Nat.zero_add, ← hfl]; simp [rowA]
theorem RowS.srcP {B : Bad} {H : Array Obj} {z : Nat} [rf : RowF f z] (r : RowS f el s l As) (st : Sat As (hp H)) (hs : ∀ j, B.sh el j = false) (i m : Nat) (him : i + m ≤ l.length) (cap : Nat) (a : Option Addr) (ha : m ≠ 0 → a = some ⟨s.b, i * z, none⟩) (hn : m = 0 → a = none ∧ cap = 0 ∨ ∃ o, a = some ⟨s.b, o, none⟩ ∧ l ≠ [] ∧ o ≤ l.length * z) :
    SrcOk B H z m (.slice a m cap) (flat f ((l.drop i).take m)) := by
  rcases r.get st with ⟨rfl, rfl⟩ | ⟨pad, h1, h2⟩
  · have : m = 0 := by simp at him; omega
    subst this
    rcases hn rfl with ⟨rfl, rfl⟩ | ⟨o, _, hne, _⟩
    · exact .inl ⟨rfl, rfl, by simp [flat]⟩
    · exact absurd rfl hne
  · have hfl : (flat f l).length = l.length * z := flat_len rf.len l
    by_cases hm : m = 0
    · subst hm
      rcases hn rfl with ⟨rfl, rfl⟩ | ⟨o, rfl, hne, ho⟩
      · exact .inl ⟨rfl, rfl, by simp [flat]⟩
      · exact .inr ⟨s.b, o, cap, _, _, rfl, h2, by rw [rowA_size rf.len]; omega, by simp [flat]; omega, hs⟩
    · rw [ha hm]
      refine .inr ⟨s.b, i * z, cap, _, _, rfl, h2, ?_, ?_, hs⟩
      · rw [rowA_size rf.len, ← Nat.add_mul]
        have := Nat.mul_le_mul_right z him
        omega
      · rw [← Nat.add_mul]
        have hlen : (l.take (i + m)).length = i + m := by rw [List.length_take]; omega
        have e1 : flat f l ++ pad = flat f (l.take i) ++ (flat f ((l.drop i).take m) ++ (flat f (l.drop (i + m)) ++ pad)) := by
          have : l = l.take i ++ ((l.drop i).take m ++ l.drop (i + m)) := by
            rw [← List.drop_drop, List.take_append_drop, List.take_append_drop]
          conv => lhs; rw [this, flat_app, flat_app]
          simp
        have e2 : (flat f (l.take i)).length = i * z := by rw [flat_len rf.len, List.length_take, Nat.min_eq_left (by omega)]
        have e3 : (flat f ((l.drop i).take m)).length = m * z := by rw [flat_len rf.len, List.length_take, List.length_drop, Nat.min_eq_left (by omega)]
        unfold rowA
        rw [e1, List.extract_toArray]
        congr 1
        rw [List.extract_eq_take_drop, Nat.add_mul, ← e2, List.drop_left, Nat.add_sub_cancel_left, ← e3, List.take_left]
end
theorem slP_len {α : Type} {f : α → List Value} {z : Nat} {el : TypeId} {s : SliceV} {l : List α} {h : HL} (x : slP f z el s l h) : s.len = l.length := by
  rcases x with ⟨rfl, rfl⟩ | ⟨b, pad, e, _⟩
  · rfl
  · rw [e]
section
variable {P : Program} {main : Bool} {B : Bad} {R : Nat → Goroutine → Array Obj → Prop} {d : Nat} {As As' L F : List HP}
variable {fn : FuncId} {kd : Kd} {n : Nat} {e : Nat → Value} {ds : List Deferred} {k : List Item} {cs : List Frame}
variable {ops : Array Oper} {i : Nat} {rest : List Nat} {dst : Option Nat} {t : Nat} {ty : TypeId} {pos : String} {af : Array Edge} {gd : Option (Nat × Bool)} {x y w : Operand} {v u : Value} {b off : Nat} {c : Array Value} {el tt t2 t3 : TypeId} {kk : IntKind}
theorem Closed.cnd (C : Closed P main B R) {c : Code} {t : Bool} (h1 : t = true → At R d As (gr fn kd n e ds (.code (cT c) :: k) cs)) (h2 : t = false → At R d As (gr fn kd n e ds (.code (cE c) :: k) cs)) (hc : ck c = .cond := by rfl) (hb : ev n e (cC c) = .bool t := by rfl) : At R d As (gr fn kd n e ds (.code c :: k) cs) := by
  cases t with
  | true => exact C.cT' (h1 rfl) hc hb
  | false => exact C.cF' (h2 rfl) hc hb
theorem Closed.clR (C : Closed P main B R) {f : FuncId} {fu : Func} {c : Code} {nf : Nat} [b : Body P f fu c nf] {fo : Operand} {args : Array Operand} {ats : Array TypeId} {vl : List Value} {A : List HP} {Q : Value → List HP → Prop} (hs : Spec P main B f vl.toArray A Q)
    (h : ∀ v As', Q v As' → At R d (As' ++ F) (gr fn kd n (putO e dst v) ds (.inRegion ops rest :: k) cs))
    (ho : nthO ops i = some ⟨dst, .call ⟨.value fo, args, ats⟩, ty, pos, af, gd⟩ := by rfl) (hv : args.toList.map (ev n e) = vl := by rfl) (hf : ev n e fo = .func (.func f) #[] #[] := by rfl)
    (hr : ReF A As F := by repeat (first | with_reducible exact ReF.nil | with_reducible exact Fo.head | with_reducible apply Fo.tail | with_reducible apply ReF.cons)) (hw : wantB ops n e gd = true := by rfl) : At R d As (gr fn kd n e ds (.inRegion ops (i :: rest) :: k) cs) :=
  At.perm hr.perm (C.cl hs h ho hw hf hv)
theorem Closed.clF (C : Closed P main B R) {f : FuncId} {fu : Func} {c : Code} {nf : Nat} [b : Body P f fu c nf] {fo : Operand} {args : Array Operand} {ats : Array TypeId} {a1 a2 : Array Value} {vl : List Value} {A : List HP} {Q : Value → List HP → Prop} (hs : Spec P main B f (a1 ++ vl.toArray ++ a2) A Q)
    (h : ∀ v As', Q v As' → At R d (As' ++ F) (gr fn kd n (putO e dst v) ds (.inRegion ops rest :: k) cs))
    (ho : nthO ops i = some ⟨dst, .call ⟨.value fo, args, ats⟩, ty, pos, af, gd⟩ := by rfl) (hv : args.toList.map (ev n e) = vl := by rfl) (hf : ev n e fo = .func (.func f) a1 a2 := by rfl)
    (hr : ReF A As F := by repeat (first | with_reducible exact ReF.nil | with_reducible exact Fo.head | with_reducible apply Fo.tail | with_reducible apply ReF.cons)) (hw : wantB ops n e gd = true := by rfl) : At R d As (gr fn kd n e ds (.inRegion ops (i :: rest) :: k) cs) := by
  refine At.perm hr.perm (C.gen ho hw fun H s => ?_)
  unfold execOp
  simp only
  refine okS_do ?_
  have hv' : args.map (ev n e) = vl.toArray := by rw [← hv, ← Array.toList_map, Array.toArray_toList]
  simp only [resolve, hf, Deferred.ofValue, hv']
  refine okS_do ?_
  show okS P B _ _ _ _
  show okS P B (invoke (.fn (.func f) a2) (a1 ++ vl.toArray)) H d _
  unfold invoke
  refine callFunc_pu (P := P) _ B H d _ ⟨A ++ F, s, ?_⟩
  exact hs R C .nor d F _ cs trivial fun v As' q => by
    show At R d (As' ++ F) (backTo _ cs v)
    rw [finish_gr ho]
    exact h v As' q
section
variable {α : Type} {f : α → List Value} {z : Nat} {s : SliceV} {l : List α} {j o : Nat}
theorem Closed.lnR (C : Closed P main B R) [cE : El P tt el] (ho : nthO ops i = some ⟨some t, .call ⟨.builtin .len, #[x], #[tt]⟩, ty, pos, af, gd⟩) (h : Nx R d As fn kd n e ds ops rest k cs t (.int .i64 l.length))
    (hx : ev n e x = s.v := by rfl) (hr : RowS f el s l As := by first | (apply RowS.own; (repeat (first | with_reducible exact Fo.head | with_reducible apply Fo.tail)); done) | (apply RowS.imm; (repeat (first | with_reducible exact Fo.head | with_reducible apply Fo.tail)); assumption) | (apply RowS.ext; assumption; apply RowS.own; (repeat (first | with_reducible exact Fo.head | with_reducible apply Fo.tail)); done) | (apply RowS.ext; assumption; apply RowS.imm; (repeat (first | with_reducible exact Fo.head | with_reducible apply Fo.tail)); assumption)) (hw : wantB ops n e gd = true := by rfl) : Nw R d As fn kd n e ds ops i rest k cs :=
  C.gen ho hw fun H st => by
    have hl : s.len = l.length := by
      rcases hr.get st with ⟨rfl, rfl⟩ | ⟨pad, h1, _⟩
      · rfl
      · rw [h1]
    unfold execOp; simp only [resolve]
    refine okS_do (okS_pure ?_)
    simp only [List.map_toArray, List.map_cons, List.map_nil, hx]
    unfold invoke builtin
    refine okS_do ?_
    unfold Builtin.len_
    refine okS_do (pu_und cE.h B H d _ ?_)
    refine okS_pure (okS_pure ⟨As, st, ?_⟩)
    rw [hl]; exact h
theorem Closed.iaR (C : Closed P main B R) [rf : RowF f z] [c : El P tt el] [Cz P el z] (ho : nthO ops i = some ⟨some t, .indexAddr tt x y, ty, pos, af, gd⟩) (h : Nx R d As fn kd n e ds ops rest k cs t (.pointer (some ⟨s.b, j * z, none⟩)))
    (hx : ev n e x = s.v := by rfl) (hy : ev n e y = .int kk (j : Int) := by rfl) (hr : RowS f el s l As := by first | (apply RowS.own; (repeat (first | with_reducible exact Fo.head | with_reducible apply Fo.tail)); done) | (apply RowS.imm; (repeat (first | with_reducible exact Fo.head | with_reducible apply Fo.tail)); assumption) | (apply RowS.ext; assumption; apply RowS.own; (repeat (first | with_reducible exact Fo.head | with_reducible apply Fo.tail)); done) | (apply RowS.ext; assumption; apply RowS.imm; (repeat (first | with_reducible exact Fo.head | with_reducible apply Fo.tail)); assumption)) (hj : j < l.length := by omega) (hw : wantB ops n e gd = true := by rfl) : Nw R d As fn kd n e ds ops i rest k cs :=
  C.gen ho hw fun H st => by
    obtain ⟨pad, hs, _⟩ := hr.at st hj
    have hx' : ev n e x = .slice (some ⟨s.b, 0, none⟩) l.length s.cap := by
      rw [hx]; unfold SliceV.v
      have h1 : s.a = some ⟨s.b, 0, none⟩ := congrArg SliceV.a hs
      have h2 : s.len = l.length := congrArg SliceV.len hs
      rw [h1, h2]
    unfold execOp; simp only [hx', hy, Instr.indexAt, asIntOf]
    refine okS_do (okS_do (okS_pure ?_))
    refine okS_do (pu_und c.h B H d _ ?_)
    refine okS_do (okS_pure ?_)
    refine okS_do (pu_und c.h B H d _ ?_)
    simp only
    rw [if_pos (by omega)]
    refine okS_do (pu_size B H d _ (okS_pure ?_))
    rw [add_of]
    refine ⟨As, st, ?_⟩
    have : 0 + (j : Int).toNat * z = j * z := by simp
    rw [this]; exact h
theorem Closed.ldR (C : Closed P main B R) [rf : RowF f z] [Ag P tt false] (ho : nthO ops i = some ⟨some t, .load tt x, ty, pos, af, gd⟩) (h : Nx R d As fn kd n e ds ops rest k cs t v)
    (hx : ev n e x = .pointer (some ⟨s.b, j * z + o, none⟩) := by rfl) (hr : RowS f el s l As := by first | (apply RowS.own; (repeat (first | with_reducible exact Fo.head | with_reducible apply Fo.tail)); done) | (apply RowS.imm; (repeat (first | with_reducible exact Fo.head | with_reducible apply Fo.tail)); assumption) | (apply RowS.ext; assumption; apply RowS.own; (repeat (first | with_reducible exact Fo.head | with_reducible apply Fo.tail)); done) | (apply RowS.ext; assumption; apply RowS.imm; (repeat (first | with_reducible exact Fo.head | with_reducible apply Fo.tail)); assumption)) (hj : j < l.length := by omega) (hv : (f l[j])[o]? = some v := by rfl) (hz : o < z := by decide) (hs : B.sh el (j * z + o) = false := by rfl) (hw : wantB ops n e gd = true := by rfl) : Nw R d As fn kd n e ds ops i rest k cs :=
  C.gen ho hw fun H st => by
    obtain ⟨pad, _, hg⟩ := hr.at st hj
    unfold execOp; simp only [hx, Instr.loadAt, Instr.sureAddr]
    exact okS_do (okS_do (okS_pure (okS_loadVar1 hg ((rowA_get rf.len hj hz rfl).trans hv) hs ⟨As, st, h⟩)))
theorem Closed.ldR0 (C : Closed P main B R) [rf : RowF f z] [Ag P tt false] (ho : nthO ops i = some ⟨some t, .load tt x, ty, pos, af, gd⟩) (h : Nx R d As fn kd n e ds ops rest k cs t v)
    (hx : ev n e x = .pointer (some ⟨s.b, j * z, none⟩) := by rfl) (hr : RowS f el s l As := by first | (apply RowS.own; (repeat (first | with_reducible exact Fo.head | with_reducible apply Fo.tail)); done) | (apply RowS.imm; (repeat (first | with_reducible exact Fo.head | with_reducible apply Fo.tail)); assumption) | (apply RowS.ext; assumption; apply RowS.own; (repeat (first | with_reducible exact Fo.head | with_reducible apply Fo.tail)); done) | (apply RowS.ext; assumption; apply RowS.imm; (repeat (first | with_reducible exact Fo.head | with_reducible apply Fo.tail)); assumption)) (hj : j < l.length := by omega) (hv : (f l[j])[0]? = some v := by rfl) (hz : 0 < z := by decide) (hs : B.sh el (j * z + 0) = false := by rfl) (hw : wantB ops n e gd = true := by rfl) : Nw R d As fn kd n e ds ops i rest k cs :=
  C.ldR (o := 0) ho h hx hr hj hv hz hs hw
theorem Closed.ldRS (C : Closed P main B R) [rf : RowF f z] [Ag P tt true] [Cz P tt z] (ho : nthO ops i = some ⟨some t, .load tt x, ty, pos, af, gd⟩) (h : ∀ hj : j < l.length, Nx R d As fn kd n e ds ops rest k cs t (.agg (f l[j]).toArray))
    (hx : ev n e x = .pointer (some ⟨s.b, j * z, none⟩) := by rfl) (hr : RowS f el s l As := by first | (apply RowS.own; (repeat (first | with_reducible exact Fo.head | with_reducible apply Fo.tail)); done) | (apply RowS.imm; (repeat (first | with_reducible exact Fo.head | with_reducible apply Fo.tail)); assumption) | (apply RowS.ext; assumption; apply RowS.own; (repeat (first | with_reducible exact Fo.head | with_reducible apply Fo.tail)); done) | (apply RowS.ext; assumption; apply RowS.imm; (repeat (first | with_reducible exact Fo.head | with_reducible apply Fo.tail)); assumption)) (hj : j < l.length := by omega) (hs : ∀ q, B.sh el q = false := by intro q; rfl) (hw : wantB ops n e gd = true := by rfl) : Nw R d As fn kd n e ds ops i rest k cs :=
  C.gen ho hw fun H st => by
    obtain ⟨pad, _, hg⟩ := hr.at st hj
    unfold execOp; simp only [hx, Instr.loadAt, Instr.sureAddr]
    refine okS_do (okS_do (okS_pure (okS_loadVarS hg ?_ hs ?_)))
    · rw [rowA_size rf.len]
      have := Nat.mul_le_mul_right z (show j + 1 ≤ l.length by omega)
      rw [Nat.add_mul] at this; omega
    · rw [rowA_piece rf.len hj rfl]; exact ⟨As, st, h hj⟩
theorem Closed.ldRP (C : Closed P main B R) (hj : j < l.length) [rf : RowF f z] [Ag P tt true] [Cz P tt z] (ho : nthO ops i = some ⟨some t, .load tt x, ty, pos, af, gd⟩) (h : Nx R d As fn kd n e ds ops rest k cs t (.agg (f l[j]).toArray))
    (hx : ev n e x = .pointer (some ⟨s.b, j * z, none⟩) := by rfl) (hr : RowS f el s l As := by first | (apply RowS.own; (repeat (first | with_reducible exact Fo.head | with_reducible apply Fo.tail)); done) | (apply RowS.imm; (repeat (first | with_reducible exact Fo.head | with_reducible apply Fo.tail)); assumption) | (apply RowS.ext; assumption; apply RowS.own; (repeat (first | with_reducible exact Fo.head | with_reducible apply Fo.tail)); done) | (apply RowS.ext; assumption; apply RowS.imm; (repeat (first | with_reducible exact Fo.head | with_reducible apply Fo.tail)); assumption)) (hs : ∀ q, B.sh el q = false := by intro q; rfl) (hw : wantB ops n e gd = true := by rfl) : Nw R d As fn kd n e ds ops i rest k cs := C.ldRS ho (fun _ => h) hx hr hj hs hw
end
end
end Go.Sl
end
section
set_option linter.unusedVariables false
namespace Go.Sl
open Go.Conc
section
variable {P : Program} {main : Bool} {B : Bad} {R : Nat → Goroutine → Array Obj → Prop} {d : Nat} {As As' Bs L F : List HP}
variable {fn : FuncId} {kd : Kd} {n : Nat} {e : Nat → Value} {ds : List Deferred} {k : List Item} {cs : List Frame}
variable {ops : Array Oper} {i : Nat} {rest : List Nat} {dst : Option Nat} {t : Nat} {ty : TypeId} {pos : String} {af : Array Edge} {gd : Option (Nat × Bool)} {x y w : Operand} {v u : Value} {b off : Nat} {c : Array Value} {el tt t2 t3 : TypeId} {kk : IntKind}
theorem Reo.trans {A1 A2 A3 : List HP} (f : ∀ h, Sat A1 h → Sat A2 h) (g : ∀ h, Sat A2 h → Sat A3 h) : ∀ h, Sat A1 h → Sat A3 h := fun h s => g h (f h s)
theorem Closed.loopR (C : Closed P main B R) {c : Code} {X : Type} (L : X → List (Nat × Value)) (I : X → List HP) (Ok : X → Prop) (m : X → Nat) (x0 : X) (he : EnvIs e (L x0)) (hok : Ok x0)
    (step : ∀ x e, Ok x → (∀ y e' As', Ok y → m y < m x → EnvIs e' (L y) → Reo As' (I y) → At R d As' (gr fn kd n e' ds (.inLoop (cB c) :: k) cs)) → At R d (I x) (gr fn kd n (puts e (L x)) ds (.code (cB c) :: .inLoop (cB c) :: k) cs))
    (hI : Reo As (I x0) := by (try simp only [List.cons_append, List.nil_append]); repeat (first | with_reducible exact Reo.refl | with_reducible exact Reo.nil | with_reducible exact Fo.head | with_reducible apply Fo.tail | with_reducible apply Reo.cons | with_reducible apply Reo.drop)) (hc : ck c = .loop := by rfl) : At R d As (gr fn kd n e ds (.code c :: k) cs) :=
  At.reo hI (C.loopI L I Ok m x0 he rfl hok (fun x e hok ih => step x e hok fun y e' As' hy hlt he' hr => At.reo hr (ih y e' he' hy hlt)) hc)
theorem again {X : Type} {L : X → List (Nat × Value)} {I : X → List HP} {Ok : X → Prop} {m : X → Nat} {x0 : X} {body : Code} (ih : ∀ y e' As', Ok y → m y < m x0 → EnvIs e' (L y) → Reo As' (I y) → At R d As' (gr fn kd n e' ds (.inLoop body :: k) cs)) (y : X) (hy : Ok y) (hm : m y < m x0)
    (he : EnvIs e (L y) := by repeat (first | exact trivial | refine And.intro rfl ?_)) (hr : Reo As (I y) := by (try simp only [List.cons_append, List.nil_append]); repeat (first | with_reducible exact Reo.refl | with_reducible exact Reo.nil | with_reducible exact Fo.head | with_reducible apply Fo.tail | with_reducible apply Reo.cons | with_reducible apply Reo.drop)) : At R d As (gr fn kd n e ds (.inLoop body :: k) cs) := ih y e As hy hm he hr
theorem cutR {G : Prop} (φ : Prop) (L : List (Nat × Value)) (As1 : List HP) {k1 : List Item} (h1 : (∀ e' As', φ → EnvIs e' L → Reo As' As1 → At R d As' (gr fn kd n e' ds k1 cs)) → G) (h2 : φ → ∀ e, At R d As1 (gr fn kd n (puts e L) ds k1 cs)) : G :=
  h1 fun e' As' hφ he hr => At.reo hr (by rw [← puts_eq he]; exact h2 hφ e')
theorem join {φ : Prop} {L : List (Nat × Value)} {As1 : List HP} {k1 : List Item} (h : ∀ e' As', φ → EnvIs e' L → Reo As' As1 → At R d As' (gr fn kd n e' ds k1 cs)) (hφ : φ)
    (he : EnvIs e L := by repeat (first | exact trivial | refine And.intro rfl ?_)) (hr : Reo As As1 := by (try simp only [List.cons_append, List.nil_append]); repeat (first | with_reducible exact Reo.refl | with_reducible exact Reo.nil | with_reducible exact Fo.head | with_reducible apply Fo.tail | with_reducible apply Reo.cons | with_reducible apply Reo.drop)) : At R d As (gr fn kd n e ds k1 cs) := h e As hφ he hr
theorem cutX {G : Prop} {X : Type} (φ : X → Prop) (L : X → List (Nat × Value)) (As1 : X → List HP) {k1 : List Item} (h1 : (∀ x e' As', φ x → EnvIs e' (L x) → Reo As' (As1 x) → At R d As' (gr fn kd n e' ds k1 cs)) → G) (h2 : ∀ x, φ x → ∀ e, At R d (As1 x) (gr fn kd n (puts e (L x)) ds k1 cs)) : G :=
  h1 fun x e' As' hφ he hr => At.reo hr (by rw [← puts_eq he]; exact h2 x hφ e')
theorem joinX {X : Type} {φ : X → Prop} {L : X → List (Nat × Value)} {As1 : X → List HP} {k1 : List Item} (h : ∀ x e' As', φ x → EnvIs e' (L x) → Reo As' (As1 x) → At R d As' (gr fn kd n e' ds k1 cs)) (x : X) (hφ : φ x)
    (he : EnvIs e (L x) := by repeat (first | exact trivial | refine And.intro rfl ?_)) (hr : Reo As (As1 x) := by (try simp only [List.cons_append, List.nil_append]); repeat (first | with_reducible exact Reo.refl | with_reducible exact Reo.nil | with_reducible exact Fo.head | with_reducible apply Fo.tail | with_reducible apply Reo.cons | with_reducible apply Reo.drop)) : At R d As (gr fn kd n e ds k1 cs) := h x e As hφ he hr
theorem Closed.retR (C : Closed P main B R) {fu : Func} {cc : Code} {n' : Nat} [b : Body P fn fu cc n'] {c : Frame} {x : Code} {Q : Value → List HP → Prop} (hkd : KdOk kd c) (hret : ∀ v As', Q v As' → At R d (As' ++ F) (after kd c cs v)) {v0 : Value} (q : Q v As')
    (hv : resV fu n e = some v0 := by rfl) (hv1 : v0 = v := by first | ((conv => { lhs; whnf }); done) | rfl) (hr : Reo As (As' ++ F) := by (try simp only [List.cons_append, List.nil_append]); repeat (first | with_reducible exact Reo.refl | with_reducible exact Reo.nil | with_reducible exact Fo.head | with_reducible apply Fo.tail | with_reducible apply Reo.cons | with_reducible apply Reo.drop)) (hx : ck x = .ret := by rfl) : At R d As (gr fn kd n e [] (.code x :: k) (c :: cs)) :=
  C.ret0 hkd (At.reo hr (hret v As' q)) (hv1 ▸ hv) hx
theorem Closed.finR (C : Closed P main B R) {fu : Func} {cc : Code} {n' : Nat} [b : Body P fn fu cc n'] {c : Frame} {Q : Value → List HP → Prop} (hkd : KdOk kd c) (hret : ∀ v As', Q v As' → At R d (As' ++ F) (after kd c cs v)) {v0 : Value} (q : Q v As')
    (hv : resV fu n e = some v0 := by rfl) (hv1 : v0 = v := by first | ((conv => { lhs; whnf }); done) | rfl) (hr : Reo As (As' ++ F) := by (try simp only [List.cons_append, List.nil_append]); repeat (first | with_reducible exact Reo.refl | with_reducible exact Reo.nil | with_reducible exact Fo.head | with_reducible apply Fo.tail | with_reducible apply Reo.cons | with_reducible apply Reo.drop)) : At R d As (gr fn kd n e [] [] (c :: cs)) :=
  C.fin0 hkd (At.reo hr (hret v As' q)) (hv1 ▸ hv)
def fillL (pl : List (Nat × Nat)) : Array Value → List (Nat × Value) → Array Value
  | c, [] => c
  | c, (i, v) :: l => fillL pl (wr c (pl.getD i (0, 0)).1 v.cells.toList) l
def fillOk (pl : List (Nat × Nat)) (m : Nat) : List (Nat × Value) → Bool
  | [] => true
  | (i, v) :: l => (match pl[i]? with | some (o, z) => v.cells.size == z && decide (o + z ≤ m) | none => false) && fillOk pl m l
theorem fill_eq (pl : List (Nat × Nat)) : ∀ (l : List (Nat × Value)) (c : Array Value), fillOk pl c.size l = true → Instr.fill (pl.toArray[·]?) c l = some (fillL pl c l)
  | [], c, _ => rfl
  | (i, v) :: l, c, h => by
    unfold fillOk at h
    simp only [Bool.and_eq_true] at h
    obtain ⟨h1, h2⟩ := h
    unfold Instr.fill fillL
    simp only [List.getElem?_toArray]
    cases hp : pl[i]? with
    | none => rw [hp] at h1; cases h1
    | some oz =>
      obtain ⟨o, z⟩ := oz
      rw [hp] at h1
      simp only [Bool.and_eq_true, beq_iff_eq, decide_eq_true_eq] at h1
      have hg : pl.getD i (0, 0) = (o, z) := by simp [List.getD, hp]
      simp only [hg]
      have hn : ¬ ((decide (v.cells.size ≠ z) || decide (o + v.cells.size > c.size)) = true) := by
        rw [h1.1]
        have := h1.2
        simp; omega
      rw [if_neg hn]
      have hf : Array.foldl (fun cs (x : Value × Nat) => match x with | (c, j) => cs.setIfInBounds (o + j) c) c v.cells.zipIdx = wr c o v.cells.toList := by
        rw [← Array.foldl_toList, Array.toList_zipIdx]
        exact zip_wr o v.cells.toList 0 _
      rw [hf]
      have key := fill_eq pl l (wr c o v.cells.toList) (by rw [wr_size]; exact h2)
      simp only [List.getElem?_toArray] at key
      exact key
inductive PV (n : Nat) (e : Nat → Value) : List (Nat × Operand) → List (Nat × Value) → Prop
  | nil : PV n e [] []
  | cons {i : Nat} {x : Operand} {v : Value} {l : List (Nat × Operand)} {m : List (Nat × Value)} (h : ev n e x = v) : PV n e l m → PV n e ((i, x) :: l) ((i, v) :: m)
theorem PV.eq {l : List (Nat × Operand)} {m : List (Nat × Value)} (p : PV n e l m) : l.map (fun (i, x) => (i, ev n e x)) = m := by
  induction p with
  | nil => rfl
  | cons h _ ih => simp [h, ih]
theorem Closed.bd (C : Closed P main B R) {zs xs : Array Value} {parts : Array (Nat × Operand)} {pl : List (Nat × Nat)} {pv : List (Nat × Value)} [cz : Zv P tt (.agg zs)] [hpl : Bd P tt pl] (ho : nthO ops i = some ⟨some t, .build tt parts, ty, pos, af, gd⟩) (h : Nx R d As fn kd n e ds ops rest k cs t (.agg xs))
    (hp : PV n e parts.toList pv := by repeat (first | exact PV.nil | (apply PV.cons; focus (conv => { lhs; whnf })))) (hok : fillOk pl zs.size pv = true := by rfl)
    (hx : fillL pl zs pv = xs := by first | (simp only [fillL, wr, Value.cells, List.getD_cons_zero, List.getD_cons_succ, List.toList_toArray, Nat.zero_add, Nat.reduceAdd, List.setIfInBounds_toArray, List.set_cons_succ, List.set_cons_zero]; done) | (simp only [fillL, wr, Value.cells, List.getD_cons_zero, List.getD_cons_succ, List.toList_toArray, Nat.zero_add, Nat.reduceAdd, List.setIfInBounds_toArray, List.set_cons_succ, List.set_cons_zero]; rfl) | rfl) (hw : wantB ops n e gd = true := by rfl) : Nw R d As fn kd n e ds ops i rest k cs :=
  C.val ho hw (fun B H d Q q' => by
    obtain ⟨fs, h1, h2⟩ := hpl.h
    unfold execOp; simp only [Instr.build]
    refine okS_do (okS_do (pu_zero B H d _ (okS_do (pu_und h1 B H d _ ?_))))
    simp only [Value.cells]
    rw [Array.mapM_eq_mapM_toList]
    refine okS_do ?_
    rw [map_eq_pure_bind]
    refine okS_do (h2.pu B H d _ (okS_pure ?_))
    have := fill_eq pl pv zs hok
    rw [Array.toList_map, hp.eq, this, hx]
    exact q') h
theorem Closed.bs1 (C : Closed P main B R) {z : Nat} {zv : Value} [cE : El P tt el] [Cz P el z] [Zv P el zv] (ho : nthO ops i = some ⟨some t, .buildSlice tt 1 #[(0, x)], ty, pos, af, gd⟩)
    (h : ∀ b, Nx R d (pts b (.cells c el (0, 0)) :: As) fn kd n e ds ops rest k cs t (.slice (some ⟨b, 0, none⟩) 1 1))
    (hx : ev n e x = v := by conv => { lhs; whnf }) (hc : v.cells = c := by first | (simp only [Value.cells]; done) | (simp only [Value.cells]; rfl) | rfl) (hv : v.cells.size = z := by rfl) (h0 : 1 * z ≠ 0 := by decide) (hm : 1 * z ≤ 16777216 := by decide) (hw : wantB ops n e gd = true := by rfl) : Nw R d As fn kd n e ds ops i rest k cs := by
  subst hc
  refine C.bs (vs := [v]) ho (fun b => ?_) (by simp [hx]) rfl (by simpa using hv) h0 hm hw
  have e1 : ([v].flatMap (·.cells.toList)).toArray = v.cells := by simp
  rw [e1]; exact h b
inductive ResL (P : Program) (B : Bad) (As : List HP) (n : Nat) (e : Nat → Value) : List ResultVar → List Value → Prop
  | nil : ResL P B As n e [] []
  | tmp {t : Nat} {rs : List ResultVar} {v : Value} {vs : List Value} (h : (if t < n then e t else undef) = v) : ResL P B As n e rs vs → ResL P B As n e (.tmp t :: rs) (v :: vs)
  | cell {a tt z b off : Nat} {c u : Array Value} {el : TypeId} {rs : List ResultVar} {vs : List Value} [Ag P tt true] [Cz P tt z] (r : ResL P B As n e rs vs) (h : (if a < n then e a else undef) = .pointer (some ⟨b, off, none⟩) := by rfl) (hk : Kn As b (.cells c el (0, 0)) := by apply Has.kn; repeat (first | with_reducible exact Has.head | with_reducible apply Has.tail)) (hz : off + z ≤ c.size := by first | decide | (simp only [wr_size]; decide)) (hs : ∀ j, B.sh el j = false := by intro j; rfl) (hu : c.extract off (off + z) = u := by rfl) :
      ResL P B As n e (.cell a tt :: rs) (.agg u :: vs)
def resOf : List Value → Value
  | [v] => v
  | vs => .tuple vs.toArray
theorem ResL.ok {rs : List ResultVar} {vs : List Value} (r : ResL P B As n e rs vs) {H : Array Obj} (st : Sat As (hp H)) {Q : List Value → Array Obj → Nat → Prop} (q : Q vs H d) : okS P B (rs.mapM fun
    | .tmp t => (pure ((tm n e).getD t undef) : Sem Value)
    | .cell a t => do loadVar t (← asAddr ((tm n e).getD a undef))) H d Q := by
  induction r generalizing Q with
  | nil => rw [List.mapM_nil]; exact q
  | tmp h _ ih =>
    rw [List.mapM_cons]
    refine okS_do (okS_pure (okS_do (ih ?_)))
    rw [tm_getD, h]; exact q
  | cell _ h hk hz hs hu ih =>
    rw [List.mapM_cons]
    refine okS_do ?_
    show okS P B (asAddr _ >>= _) _ _ _
    rw [tm_getD, h]
    refine okS_do (okS_pure (okS_loadVarS (hk _ st) hz hs ?_))
    rw [hu]
    exact okS_do (ih (Q := fun a H d => okS P B (pure (Value.agg _ :: a)) H d Q) q)
theorem results_ok {fu : Func} {rs : List ResultVar} {vs : List Value} (hr : fu.results.toList = rs) (r : ResL P B As n e rs vs) {H : Array Obj} (st : Sat As (hp H)) {Q : Value → Array Obj → Nat → Prop} (q : Q (resOf vs) H d) : okS P B (results fu (tm n e)) H d Q := by
  subst hr
  unfold results
  rw [Array.mapM_eq_mapM_toList, map_eq_pure_bind, bind_assoc]
  refine okS_do (r.ok st ?_)
  refine okS_do (okS_pure (okS_pure ?_))
  have : (if h : vs.toArray.size = 1 then vs.toArray[0] else Value.tuple vs.toArray) = resOf vs := by
    match vs with
    | [] => rfl
    | [_] => rfl
    | _ :: _ :: _ => rfl
  rw [this]; exact q
theorem Closed.retL (C : Closed P main B R) {fu : Func} {cc : Code} {n' : Nat} [b : Body P fn fu cc n'] {c : Frame} {x : Code} {Q : Value → List HP → Prop} (hkd : KdOk kd c) (hret : ∀ v As', Q v As' → At R d (As' ++ F) (after kd c cs v)) {rs : List ResultVar} {vs : List Value} (r : ResL P B As n e rs vs) (q : Q (resOf vs) As')
    (hrs : fu.results.toList = rs := by rfl) (hr : Reo As (As' ++ F) := by (try simp only [List.cons_append, List.nil_append]); repeat (first | with_reducible exact Reo.refl | with_reducible exact Reo.nil | with_reducible exact Fo.head | with_reducible apply Fo.tail | with_reducible apply Reo.cons | with_reducible apply Reo.drop)) (hx : ck x = .ret := by rfl) : At R d As (gr fn kd n e [] (.code x :: k) (c :: cs)) := fun H s => by
  have z := ck_inv hx; simp only at z; subst z
  refine C.ret ?_
  have hh := At.reo hr (hret _ As' q) H s
  cases kd with
  | nor => exact C.back b.func (results_ok hrs r s hh)
  | dfr => exact C.backDef hkd b.func (results_ok hrs r s hh)
section
variable {α : Type} {f : α → List Value} {z : Nat} {s : SliceV} {l m : List α} {j o : Nat}
theorem Closed.apR (C : Closed P main B R) {el3 bz : Nat} {zv : Value} {yv : Value} [rf : RowF f z] [cE : El P tt el] [cE3 : El P t3 el3] [Cz P el z] [cB : Bz P el bz] [Zv P el zv] (m : List α)
    (ho : nthO ops i = some ⟨some t, .call ⟨.builtin .append, #[x, y], #[tt, t3]⟩, ty, pos, af, gd⟩) (h : ∀ s' : SliceV, Nx R d (slP f z el s' (l ++ m) :: L) fn kd n e ds ops rest k cs t s'.v)
    (hx : ev n e x = s.v := by rfl) (hy : ev n e y = yv := by rfl) (hf : Fo (slP f z el s l) As L := by repeat (first | with_reducible exact Fo.head | with_reducible apply Fo.tail)) (hsrc : ∀ H, Sat As (hp H) → SrcOk B H z m.length yv (flat f m))
    (hsz : (l.length + m.length) * bz ≤ 140737488355328 := by (try simp only [List.length_cons, List.length_nil]); omega) (hzv : zv.cells.size = z := by rfl) (hb0 : bz ≠ 0 := by decide) (hb : ∀ b j, B.rd b el j = false ∧ B.sh el j = false := by intro _ j; exact ⟨rfl, rfl⟩) (hw : wantB ops n e gd = true := by rfl) : Nw R d As fn kd n e ds ops i rest k cs :=
  At.fo hf (C.ap ho rf.len rf.one (fun H s' => hsrc H (s'.perm hf.perm.symm)) (fun s' _ => h s') hsz hx hy hzv hb0 hb hw)
theorem At.mem_src {B : Bad} {H : Array Obj} {b2 : Nat} {ty2 : TypeId} {c2 : Array Value} {nn : Nat} (hh : Has b2 (.cells c2 ty2 (0, 0)) As) (st : Sat As (hp H)) (hs : ∀ j, B.sh ty2 j = false) {xs : List Value} (hc : c2 = xs.toArray) (hn : nn * z = xs.length) : SrcOk B H z nn (.slice (some ⟨b2, 0, none⟩) nn nn) xs := by
  subst hc
  exact .inr ⟨b2, 0, nn, _, _, rfl, hh.get st, by simp [hn], by rw [hn, Nat.zero_add]; simp, hs⟩
theorem Closed.ap1 (C : Closed P main B R) {el3 bz b2 : Nat} {ty2 : TypeId} {c2 : Array Value} {zv : Value} [rf : RowF f z] [cE : El P tt el] [cE3 : El P t3 el3] [Cz P el z] [cB : Bz P el bz] [Zv P el zv] (a : α)
    (ho : nthO ops i = some ⟨some t, .call ⟨.builtin .append, #[x, y], #[tt, t3]⟩, ty, pos, af, gd⟩) (h : ∀ s' : SliceV, Nx R d (slP f z el s' (l ++ [a]) :: L) fn kd n e ds ops rest k cs t s'.v)
    (hx : ev n e x = s.v := by rfl) (hy : ev n e y = .slice (some ⟨b2, 0, none⟩) 1 1 := by rfl) (hf : Fo (slP f z el s l) As L := by repeat (first | with_reducible exact Fo.head | with_reducible apply Fo.tail)) (hh : Has b2 (.cells c2 ty2 (0, 0)) As := by repeat (first | with_reducible exact Has.head | with_reducible apply Has.tail)) (hc : c2 = (f a).toArray := by rfl)
    (hsz : (l.length + 1) * bz ≤ 140737488355328 := by omega) (hs : ∀ j, B.sh ty2 j = false := by intro j; rfl) (hzv : zv.cells.size = z := by rfl) (hb0 : bz ≠ 0 := by decide) (hb : ∀ b j, B.rd b el j = false ∧ B.sh el j = false := by intro _ j; exact ⟨rfl, rfl⟩) (hw : wantB ops n e gd = true := by rfl) : Nw R d As fn kd n e ds ops i rest k cs :=
  C.apR (el3 := el3) [a] ho h hx hy hf (fun H st => At.mem_src hh st hs (xs := flat f [a]) (by rw [hc]; simp [flat]) (by simp [flat, rf.len])) hsz hzv hb0 hb hw
theorem slP_know {α : Type} {f : α → List Value} {z : Nat} {el : TypeId} {s : SliceV} {l : List α} (hl : 0 < l.length) (h : HL) (x : slP f z el s l h) : s.a = some ⟨s.b, 0, none⟩ ∧ s.len = l.length ∧ l.length ≤ s.cap := by
  rcases x with ⟨_, rfl⟩ | ⟨b, pad, e, _, h2, _⟩
  · simp at hl
  · have hb : s.b = b := by rw [e]; rfl
    exact ⟨by rw [hb]; exact congrArg SliceV.a e, congrArg SliceV.len e, h2⟩
theorem At.nilS (f : α → List Value) (z : Nat) (el : TypeId) {g : Goroutine} (h : At R d (slP f z el Go.Sl.nilS [] :: As) g) : At R d As g := fun H s => by
  have e : less (hp H) (fun _ => none) = hp H := by funext b; simp [less]
  refine h H ⟨fun _ => none, .inl ⟨rfl, rfl⟩, fun _ _ x => (by cases x), ?_⟩
  rw [e]; exact s
theorem At.nilA {g : Goroutine} (h : At R d (all [] :: As) g) : At R d As g := fun H s => h H (Sat.unflat (l := []) s)
theorem At.frz {I : HL} {g : Goroutine} {L2 : List HP} (hf : Fo (slP f z el s l) As L) (hi : Fo (imm I) L L2) (h : ∀ I', Sub I I' → imSl I' f el s l → At R d (imm I' :: L2) g) : At R d As g := by
  refine At.fo hf fun H st => ?_
  obtain ⟨hh, x, hsub, hr⟩ := st
  rcases x with ⟨rfl, rfl⟩ | ⟨b, pad, e, _, _, hpt⟩
  · exact h I (Sub.refl I) (.inl ⟨rfl, rfl⟩) H ((hr.mono less_sub).perm hi.perm)
  · have st' : Sat (pts b (.cells (rowA f l pad) el (0, 0)) :: imm I :: L2) (hp H) := ⟨hh, hpt, hsub, hr.perm hi.perm⟩
    have hb : s.b = b := by rw [e]; rfl
    refine At.freeze (fun I' h1 h2 => h I' h1 (.inr ⟨pad, by rw [hb]; exact e, by rw [hb]; exact h2⟩)) H st'
theorem At.own {g : Goroutine} (s : SliceV) (pad : List Value) (hs : s = ⟨some ⟨b, 0, none⟩, l.length, s.cap⟩) (hl : l.length * z + pad.length = s.cap * z) (hle : l.length ≤ s.cap) (hf : Fo (pts b (.cells (rowA f l pad) el (0, 0))) As L) (h : At R d (slP f z el s l :: L) g) : At R d As g :=
  At.turn hf (fun _ hh => .inr ⟨b, pad, hs, hl, hle, hh⟩) h
theorem Closed.stR (C : Closed P main B R) [rf : RowF f z] [Cz P tt 1] (a : α) (ho : nthO ops i = some ⟨none, .store tt x y, ty, pos, af, gd⟩) (h : At R d (slP f z el s (l.set j a) :: L) (gr fn kd n e ds (.inRegion ops rest :: k) cs))
    (hx : ev n e x = .pointer (some ⟨s.b, j * z + o, none⟩) := by rfl) (hy : ev n e y = v := by conv => { lhs; whnf }) (hf : Fo (slP f z el s l) As L := by repeat (first | with_reducible exact Fo.head | with_reducible apply Fo.tail)) (hj : j < l.length := by omega) (ha : f a = (f l[j]).set o v := by rfl) (hz : o < z := by decide) (hb : ∀ b j, B.rd b el j = false ∧ B.sh el j = false := by intro _ j; exact ⟨rfl, rfl⟩) (hv : oneCell v = true := by rfl) (hw : wantB ops n e gd = true := by rfl) : At R d As (gr fn kd n e ds (.inRegion ops (i :: rest) :: k) cs) := by
  refine At.fo hf fun H st => ?_
  obtain ⟨hh, xx, hsub, hr⟩ := st
  rcases xx with ⟨rfl, rfl⟩ | ⟨b, pad, e1, h1, h2, hpt⟩
  · simp at hj
  · have hsb : s.b = b := by rw [e1]; rfl
    rw [hsb] at hx
    have st' : Sat (pts b (.cells (rowA f l pad) el (0, 0)) :: L) (hp H) := ⟨hh, hpt, hsub, hr⟩
    refine C.st ho ?_ hx hy hv .head rfl ?_ (hb _ _).1 (hb 0 _).2 hw H st'
    · rw [rowA_set1 rf.len hj hz rfl a ha]
      refine fun H st => h H (st.imp fun hl hhl => .inr ⟨b, pad, ?_, ?_, ?_, hhl⟩)
      · rw [List.length_set]; exact e1
      · rw [List.length_set]; exact h1
      · rw [List.length_set]; exact h2
    · rw [rowA_size rf.len]
      have := Nat.mul_le_mul_right z (show j + 1 ≤ l.length by omega)
      rw [Nat.add_mul] at this; omega
theorem Closed.stR0 (C : Closed P main B R) [rf : RowF f z] [Cz P tt 1] (a : α) (ho : nthO ops i = some ⟨none, .store tt x y, ty, pos, af, gd⟩) (h : At R d (slP f z el s (l.set j a) :: L) (gr fn kd n e ds (.inRegion ops rest :: k) cs))
    (hx : ev n e x = .pointer (some ⟨s.b, j * z, none⟩) := by rfl) (hy : ev n e y = v := by conv => { lhs; whnf }) (hf : Fo (slP f z el s l) As L := by repeat (first | with_reducible exact Fo.head | with_reducible apply Fo.tail)) (hj : j < l.length := by omega) (ha : f a = (f l[j]).set 0 v := by rfl) (hz : 0 < z := by decide) (hb : ∀ b j, B.rd b el j = false ∧ B.sh el j = false := by intro _ j; exact ⟨rfl, rfl⟩) (hv : oneCell v = true := by rfl) (hw : wantB ops n e gd = true := by rfl) : At R d As (gr fn kd n e ds (.inRegion ops (i :: rest) :: k) cs) :=
  C.stR (o := 0) a ho h hx hy hf hj ha hz hb hv hw
theorem Closed.stRS (C : Closed P main B R) [rf : RowF f z] [Cz P tt z] {xs : Array Value} (a : α) (ho : nthO ops i = some ⟨none, .store tt x y, ty, pos, af, gd⟩) (h : At R d (slP f z el s (l.set j a) :: L) (gr fn kd n e ds (.inRegion ops rest :: k) cs))
    (hx : ev n e x = .pointer (some ⟨s.b, j * z, none⟩) := by rfl) (hy : ev n e y = .agg xs := by rfl) (hf : Fo (slP f z el s l) As L := by repeat (first | with_reducible exact Fo.head | with_reducible apply Fo.tail)) (hj : j < l.length := by omega) (ha : (f a).toArray = xs := by rfl) (hb : ∀ b j, B.rd b el j = false ∧ B.sh el j = false := by intro _ j; exact ⟨rfl, rfl⟩) (hw : wantB ops n e gd = true := by rfl) : At R d As (gr fn kd n e ds (.inRegion ops (i :: rest) :: k) cs) := by
  refine At.fo hf fun H st => ?_
  obtain ⟨hh, xx, hsub, hr⟩ := st
  rcases xx with ⟨rfl, rfl⟩ | ⟨b, pad, e1, h1, h2, hpt⟩
  · simp at hj
  · have hsb : s.b = b := by rw [e1]; rfl
    rw [hsb] at hx
    subst ha
    have st' : Sat (pts b (.cells (rowA f l pad) el (0, 0)) :: L) (hp H) := ⟨hh, hpt, hsub, hr⟩
    refine C.stS ho ?_ hx hy (fun v hv => rf.one a v (by simpa using hv)) (by simp [rf.len]) .head rfl ?_ (fun j => (hb _ j).1) (fun j => (hb 0 j).2) hw H st'
    · rw [rowA_set rf.len hj rfl a]
      refine fun H st => h H (st.imp fun hl hhl => .inr ⟨b, pad, ?_, ?_, ?_, hhl⟩)
      · rw [List.length_set]; exact e1
      · rw [List.length_set]; exact h1
      · rw [List.length_set]; exact h2
    · rw [rowA_size rf.len]
      have := Nat.mul_le_mul_right z (show j + 1 ≤ l.length by omega)
      rw [Nat.add_mul] at this; omega
end
end
end Go.Sl
end
section
set_option linter.unusedVariables false
namespace Go.Sl
open Go.Conc
class Ext_ (P : Program) (f : FuncId) (fu : outParam Func) (ex : outParam (Array Value → Sem Value)) : Prop where
  func : P.funcs[f]? = some fu
  name : (fu.name == "runtime.NumGoroutine") = false
  body : fu.body.isNone = true
  nx : Extern.findNext fu = none
  fd : Extern.find fu = some ex
section
variable {P : Program} {main : Bool} {B : Bad} {R : Nat → Goroutine → Array Obj → Prop} {d : Nat} {As As' Bs L F : List HP}
variable {fn : FuncId} {kd : Kd} {n : Nat} {e : Nat → Value} {ds : List Deferred} {k : List Item} {cs : List Frame}
variable {ops : Array Oper} {i : Nat} {rest : List Nat} {dst : Option Nat} {t : Nat} {ty : TypeId} {pos : String} {af : Array Edge} {gd : Option (Nat × Bool)}
theorem Closed.xt (C : Closed P main B R) {f : FuncId} {fu : Func} {ex : Array Value → Sem Value} [b : Ext_ P f fu ex] {fo : Operand} {args : Array Operand} {ats : Array TypeId} {vl : List Value}
    (h : ∀ H, Sat As (hp H) → okS P B (ex vl.toArray) H d fun v H' d' => ∃ As', Sat As' (hp H') ∧ At R d' As' (gr fn kd n (putO e dst v) ds (.inRegion ops rest :: k) cs))
    (ho : nthO ops i = some ⟨dst, .call ⟨.value fo, args, ats⟩, ty, pos, af, gd⟩) (hw : wantB ops n e gd = true) (hf : ev n e fo = .func (.func f) #[] #[]) (hv : args.toList.map (ev n e) = vl) : At R d As (gr fn kd n e ds (.inRegion ops (i :: rest) :: k) cs) := by
  refine C.gen ho hw fun H s => ?_
  unfold execOp
  simp only
  refine okS_do ?_
  have hv' : args.map (ev n e) = vl.toArray := by rw [← hv, ← Array.toList_map, Array.toArray_toList]
  simp only [resolve, hf, Deferred.ofValue, hv']
  refine okS_do ?_
  show okS P B _ _ _ _
  simp only [Array.empty_append]
  show okS P B (invoke (.fn (.func f) #[]) vl.toArray) H d _
  unfold invoke
  simp only [Array.append_empty]
  unfold callFunc
  refine okS_do ?_
  show okS P B _ H d _
  simp only [program, okS]
  rw [b.func]
  simp only [b.name, b.body, if_true, Bool.false_eq_true, if_false]
  refine okS_do ?_
  simp only [mark, okS, markOk, deafBy, true_and]
  simp only [b.nx, b.fd]
  refine okS_do (okS_mono (fun v H' d' q => ?_) (h H s))
  obtain ⟨As', s', q⟩ := q
  exact okS_pure ⟨As', s', q⟩
variable {f : FuncId} {fu : Func} {fo : Operand} {args : Array Operand} {ats : Array TypeId} {a : Addr} {b off : Nat} {c : Array Value} {el : TypeId}
theorem Closed.xDis (C : Closed P main B R) [x : Ext_ P f fu (fun _ => do mark .disable; pure Extern.Race.none_)] {vl : List Value} (ho : nthO ops i = some ⟨dst, .call ⟨.value fo, args, ats⟩, ty, pos, af, gd⟩) (h : At R (d + 1) As (gr fn kd n (putO e dst (.tuple #[])) ds (.inRegion ops rest :: k) cs))
    (hw : wantB ops n e gd = true := by rfl) (hf : ev n e fo = .func (.func f) #[] #[] := by rfl) (hv : args.toList.map (ev n e) = vl := by rfl) : At R d As (gr fn kd n e ds (.inRegion ops (i :: rest) :: k) cs) :=
  C.xt (f := f) (vl := vl) (fun H s => by
    refine okS_do ?_
    simp only [mark, okS, markOk, deafBy, true_and]
    exact okS_pure ⟨As, s, h⟩) ho hw hf hv
theorem Closed.xEna (C : Closed P main B R) [x : Ext_ P f fu (fun _ => do mark .enable; pure Extern.Race.none_)] {vl : List Value} (ho : nthO ops i = some ⟨dst, .call ⟨.value fo, args, ats⟩, ty, pos, af, gd⟩) (h : At R (d - 1) As (gr fn kd n (putO e dst (.tuple #[])) ds (.inRegion ops rest :: k) cs))
    (hw : wantB ops n e gd = true := by rfl) (hf : ev n e fo = .func (.func f) #[] #[] := by rfl) (hv : args.toList.map (ev n e) = vl := by rfl) : At R d As (gr fn kd n e ds (.inRegion ops (i :: rest) :: k) cs) :=
  C.xt (f := f) (vl := vl) (fun H s => by
    refine okS_do ?_
    simp only [mark, okS, markOk, deafBy, true_and]
    exact okS_pure ⟨As, s, h⟩) ho hw hf hv
theorem Closed.xMk (C : Closed P main B R) {mk : Addr → Mark} [x : Ext_ P f fu (Extern.Race.marked mk)] {as : List Value} (ho : nthO ops i = some ⟨dst, .call ⟨.value fo, args, ats⟩, ty, pos, af, gd⟩) (h : At R d As (gr fn kd n (putO e dst (.tuple #[])) ds (.inRegion ops rest :: k) cs))
    (hm : ∀ H, Sat As (hp H) → markOk B H (mk a)) (hd : deafBy (mk a) d = d := by rfl) (hw : wantB ops n e gd = true := by rfl) (hf : ev n e fo = .func (.func f) #[] #[] := by rfl) (hv : args.toList.map (ev n e) = .pointer (some a) :: as := by rfl) : At R d As (gr fn kd n e ds (.inRegion ops (i :: rest) :: k) cs) :=
  C.xt (f := f) (vl := .pointer (some a) :: as) (fun H s => by
    unfold Extern.Race.marked
    refine okS_do (okS_pure ?_)
    refine okS_do ?_
    refine ⟨hm H s, ?_⟩
    rw [hd]
    exact okS_pure ⟨As, s, h⟩) ho hw hf hv
variable {kk : IntKind} {z y z' : Int}
theorem okS_read {H : Array Obj} {Q : Value → Array Obj → Nat → Prop} (h1 : hp H b = some (.cells c el (0, 0))) (h3 : c[off]? = some (.int kk z)) (q : Q (.int kk z) H d) : okS P B (Extern.Atomic.read (.int kk) ⟨b, off, none⟩) H d Q := by
  unfold Extern.Atomic.read
  refine okS_do (okS_load h1 rfl h3 (fun h => by cases h) ?_)
  simp only [if_true]
  exact okS_pure q
theorem Closed.xLd (C : Closed P main B R) [x : Ext_ P f fu (Extern.Atomic.loadT (.int kk))] (ho : nthO ops i = some ⟨dst, .call ⟨.value fo, args, ats⟩, ty, pos, af, gd⟩) (h : At R d As (gr fn kd n (putO e dst (.int kk z)) ds (.inRegion ops rest :: k) cs))
    (hh : Kn As b (.cells c el (0, 0)) := by apply Has.kn; (repeat (first | with_reducible exact Has.head | with_reducible apply Has.tail)); done) (hc : c[off]? = some (.int kk z) := by rfl) (hw : wantB ops n e gd = true := by rfl) (hf : ev n e fo = .func (.func f) #[] #[] := by rfl) (hv : args.toList.map (ev n e) = [.pointer (some ⟨b, off, none⟩)] := by rfl) : At R d As (gr fn kd n e ds (.inRegion ops (i :: rest) :: k) cs) :=
  C.xt (f := f) (vl := [.pointer (some ⟨b, off, none⟩)]) (fun H s => by
    show okS P B (Extern.Atomic.loadT (.int kk) #[.pointer (some ⟨b, off, none⟩)]) H d _
    unfold Extern.Atomic.loadT
    refine okS_do (okS_pure ?_)
    exact okS_read (hh _ s) hc ⟨As, s, h⟩) ho hw hf hv
theorem okS_viewAt {H : Array Obj} {Q : Option (Addr × TypeId) → Array Obj → Nat → Prop} (h1 : hp H b = some (.cells c el (0, 0))) (q : Q none H d) : okS P B (viewAt b) H d Q := by
  unfold viewAt
  refine okS_do ?_
  have h1' : H[b]? = some (.cells c el (0, 0)) := h1
  simp only [shape, okS, shapeH, h1']
  exact q
theorem okS_frozen0 {H : Array Obj} {Q : Bool → Array Obj → Nat → Prop} (h1 : hp H b = some (.cells c el (0, 0))) (q : Q false H d) : okS P B (Extern.Atomic.touchesFrozen ⟨b, off, none⟩) H d Q := by
  unfold Extern.Atomic.touchesFrozen
  refine okS_do (okS_viewAt h1 ?_)
  have h1' : H[b]? = some (.cells c el (0, 0)) := h1
  simp only [frozen, okS, frozenH, h1']
  simpa using q
theorem Closed.xCasT (C : Closed P main B R) [x : Ext_ P f fu (Extern.Atomic.casT (.int kk))] (ho : nthO ops i = some ⟨dst, .call ⟨.value fo, args, ats⟩, ty, pos, af, gd⟩) (h : At R d As' (gr fn kd n (putO e dst (.bool true)) ds (.inRegion ops rest :: k) cs))
    (hv : args.toList.map (ev n e) = [.pointer (some ⟨b, off, none⟩), .int kk z, .int kk y] := by rfl) {c' : Array Value} (hu : Upd b (.cells c el (0, 0)) (.cells c' el (0, 0)) As As' := by repeat (first | with_reducible exact Upd.head | with_reducible apply Upd.tail)) (hc : c[off]? = some (.int kk z) := by rfl) (hcc : c.setIfInBounds off (.int kk y) = c' := by first | (simp only [Nat.zero_add, Nat.reduceAdd, List.setIfInBounds_toArray, List.set_cons_succ, List.set_cons_zero]; done) | (simp only [Nat.zero_add, Nat.reduceAdd, List.setIfInBounds_toArray, List.set_cons_succ, List.set_cons_zero]; rfl) | rfl)
    (hr : B.rd b el off = false := by rfl) (hw : wantB ops n e gd = true := by rfl) (hf : ev n e fo = .func (.func f) #[] #[] := by rfl) : At R d As (gr fn kd n e ds (.inRegion ops (i :: rest) :: k) cs) :=
  C.xt (f := f) (vl := [.pointer (some ⟨b, off, none⟩), .int kk z, .int kk y]) (fun H s => by
    subst hcc
    have hh := hu.has.get s
    show okS P B (Extern.Atomic.casT (.int kk) #[.pointer (some ⟨b, off, none⟩), .int kk z, .int kk y]) H d _
    unfold Extern.Atomic.casT
    refine okS_do (okS_pure ?_)
    refine okS_do (okS_frozen0 hh ?_)
    simp only [Bool.false_eq_true, if_false]
    refine okS_do (okS_read hh hc ?_)
    refine okS_do (okS_pure ?_)
    simp only [beq_self_eq_true, if_true]
    refine okS_do ?_
    show okS P B (store _ _ _) H d _
    refine ⟨rfl, c, el, hh, rfl, (Array.getElem?_eq_some_iff.1 hc).1, hr, fun z => (by cases z), ?_⟩
    exact okS_pure ⟨As', hu.set s, h⟩) ho hw hf hv
theorem Closed.xCasF (C : Closed P main B R) [x : Ext_ P f fu (Extern.Atomic.casT (.int kk))] (ho : nthO ops i = some ⟨dst, .call ⟨.value fo, args, ats⟩, ty, pos, af, gd⟩) (h : At R d As (gr fn kd n (putO e dst (.bool false)) ds (.inRegion ops rest :: k) cs))
    (hv : args.toList.map (ev n e) = [.pointer (some ⟨b, off, none⟩), .int kk z', .int kk y] := by rfl) (hh : Kn As b (.cells c el (0, 0)) := by apply Has.kn; (repeat (first | with_reducible exact Has.head | with_reducible apply Has.tail)); done) (hc : c[off]? = some (.int kk z) := by rfl) (hne : (z == z') = false := by rfl)
    (hw : wantB ops n e gd = true := by rfl) (hf : ev n e fo = .func (.func f) #[] #[] := by rfl) : At R d As (gr fn kd n e ds (.inRegion ops (i :: rest) :: k) cs) :=
  C.xt (f := f) (vl := [.pointer (some ⟨b, off, none⟩), .int kk z', .int kk y]) (fun H s => by
    have hh := hh _ s
    show okS P B (Extern.Atomic.casT (.int kk) #[.pointer (some ⟨b, off, none⟩), .int kk z', .int kk y]) H d _
    unfold Extern.Atomic.casT
    refine okS_do (okS_pure ?_)
    refine okS_do (okS_frozen0 hh ?_)
    simp only [Bool.false_eq_true, if_false]
    refine okS_do (okS_read hh hc ?_)
    refine okS_do (okS_pure ?_)
    simp only [hne, Bool.false_eq_true, if_false]
    exact okS_pure ⟨As, s, h⟩) ho hw hf hv
theorem Closed.xAdd (C : Closed P main B R) [x : Ext_ P f fu (Extern.Atomic.update (Op.intArith .add) kk true)] (ho : nthO ops i = some ⟨dst, .call ⟨.value fo, args, ats⟩, ty, pos, af, gd⟩) (h : At R d As' (gr fn kd n (putO e dst (.int kk z')) ds (.inRegion ops rest :: k) cs))
    (hv : args.toList.map (ev n e) = [.pointer (some ⟨b, off, none⟩), .int kk y] := by rfl) {c' : Array Value} (hu : Upd b (.cells c el (0, 0)) (.cells c' el (0, 0)) As As' := by repeat (first | with_reducible exact Upd.head | with_reducible apply Upd.tail)) (hc : c[off]? = some (.int kk z) := by rfl) (hz : kk.wrap (z + y) = z' := by rfl) (hcc : c.setIfInBounds off (.int kk z') = c' := by first | (simp only [Nat.zero_add, Nat.reduceAdd, List.setIfInBounds_toArray, List.set_cons_succ, List.set_cons_zero]; done) | (simp only [Nat.zero_add, Nat.reduceAdd, List.setIfInBounds_toArray, List.set_cons_succ, List.set_cons_zero]; rfl) | rfl)
    (hr : B.rd b el off = false := by rfl) (hw : wantB ops n e gd = true := by rfl) (hf : ev n e fo = .func (.func f) #[] #[] := by rfl) : At R d As (gr fn kd n e ds (.inRegion ops (i :: rest) :: k) cs) :=
  C.xt (f := f) (vl := [.pointer (some ⟨b, off, none⟩), .int kk y]) (fun H s => by
    subst hcc hz
    have hh := hu.has.get s
    show okS P B (Extern.Atomic.update (Op.intArith .add) kk true #[.pointer (some ⟨b, off, none⟩), .int kk y]) H d _
    unfold Extern.Atomic.update
    refine okS_do (okS_pure ?_)
    refine okS_do (okS_read hh hc ?_)
    refine okS_do (okS_pure ?_)
    refine okS_do (okS_pure ?_)
    refine okS_do (okS_pure ?_)
    refine okS_do ?_
    show okS P B (store _ _ _) H d _
    refine ⟨rfl, c, el, hh, rfl, (Array.getElem?_eq_some_iff.1 hc).1, hr, fun z => (by cases z), ?_⟩
    exact okS_pure ⟨As', hu.set s, h⟩) ho hw hf hv
class Up (P : Program) (t : TypeId) : Prop where
  h : P.underlying t = some .unsafePointer
theorem Closed.cvp (C : Closed P main B R) {s1 s2 t1 : TypeId} {z : Nat} {x : Operand} {t' : Nat} [c1 : Pt P s1 t1] [c2 : Up P s2] [c3 : Cz P t1 z] (ho : nthO ops i = some ⟨some t', .convert s1 s2 x, ty, pos, af, gd⟩) (h : At R d As (gr fn kd n (put e t' (.pointer (some ⟨b, off, none⟩))) ds (.inRegion ops rest :: k) cs))
    (hz : z ≠ 0 := by decide) (hx : ev n e x = .pointer (some ⟨b, off, none⟩) := by rfl) (hh : Kn As b (.cells c el (0, 0)) := by apply Has.kn; (repeat (first | with_reducible exact Has.head | with_reducible apply Has.tail)); done) (hl : off < c.size := by first | decide | (simp; done)) (hw : wantB ops n e gd = true := by rfl) : At R d As (gr fn kd n e ds (.inRegion ops (i :: rest) :: k) cs) :=
  C.gen ho hw fun H s => by
    have hh := hh _ s
    have hH : H[b]? = some (.cells c el (0, 0)) := hh
    unfold execOp; simp only [hx]
    refine okS_do ?_
    unfold convert
    refine okS_do (pu_und c1.h B H d _ (okS_do (pu_und c2.h B H d _ ?_)))
    show okS P B (Conv.unsafePointer s1 s2 (.pointer (some ⟨b, off, none⟩))) H d _
    unfold Conv.unsafePointer
    refine okS_do (pu_und c1.h B H d _ (okS_do (pu_und c2.h B H d _ ?_)))
    simp only
    refine okS_do ?_
    unfold Conv.seenAt
    refine okS_do (okS_viewAt hh ?_)
    refine okS_pure ?_
    refine okS_do ?_
    unfold cellsIn
    refine okS_do ?_
    simp only [shape, okS, shapeH, hH]
    refine okS_pure ?_
    refine okS_do (pu_size B H d _ ?_)
    have e1 : ¬ (decide (off ≥ c.size) && (none : Option Nat).isNone) = true := by simp; omega
    simp only [e1, Bool.or_false, Bool.false_eq_true, if_false]
    rw [if_neg (by simp [hz, hl])]
    exact okS_pure (okS_pure ⟨As, s, h⟩)
theorem Closed.dfr (C : Closed P main B R) {f : FuncId} {cap args' : Array Value} {ds' : List Deferred} {todo : List Item} {kd : Kd} {A F : List HP} {Q : Value → List HP → Prop} {fu : Func} {cc : Code} {nf : Nat} [b : Body P f fu cc nf] (hs : Spec P main B f (args' ++ cap) A Q) (h : ∀ v As', Q v As' → At R d (As' ++ F) (grR fn kd n e ds' todo cs))
    (hp : As.Perm (A ++ F)) : At R d As (grR fn kd n e (⟨.fn (.func f) cap, args'⟩ :: ds') todo cs) := fun H s => by
  refine C.defCall (f := f) (args := args') (.inr ⟨cap, rfl⟩) ?_
  refine callFunc_pu (P := P) (f := f) (args' ++ cap) B H d _ ?_
  refine ⟨f, _, rfl, ?_⟩
  exact hs R C .dfr d F (frmR fn kd n e ds' todo) cs rfl (fun v As' q => h v As' q) H (s.perm hp)
end
end Go.Sl
end
section
set_option linter.unusedVariables false
namespace Go.Sl
open Go.Conc
def ev0 (P : Program) {α : Type} : Sem α → Option α
  | .pure a => some a
  | .program k => ev0 P (k P)
  | _ => none
theorem ev0_run {P : Program} {α : Type} {s : Sem α} {v : α} (h : ev0 P s = some v) (w : World) (es : Array Event) : s.runT P w es = (.ok v w, es) := by
  induction s generalizing es with
  | pure a => obtain rfl := Option.some.inj h; rfl
  | program k ih => exact ih P h es
  | _ => cases h
theorem ev0_bind {P : Program} {α β : Type} {s : Sem α} {f : α → Sem β} {a : α} (h : ev0 P s = some a) : ev0 P (s.bind f) = ev0 P (f a) := by
  induction s with
  | pure b => obtain rfl := Option.some.inj h; rfl
  | program k ih => exact ih P h
  | _ => cases h
theorem ev0_do {P : Program} {α β : Type} {s : Sem α} {f : α → Sem β} {a : α} {b : β} (h : ev0 P s = some a) (k : ev0 P (f a) = some b) : ev0 P (s >>= f) = some b := (ev0_bind h).trans k
structure Mt (P : Program) (main : Bool) (Z : World → Prop) (W : Nat → Goroutine → Prop) : Prop where
  s : ∀ (q : Nat) (g g' : Goroutine), g.status = .running → (∀ w, Z w → stepG P main g w = .go g' w #[]) → W q g' → W (q + 1) g
  mono : ∀ (q m : Nat) (g : Goroutine), W q g → q ≤ m → W m g
section
variable {P : Program} {main : Bool} {Z : World → Prop} {W : Nat → Goroutine → Prop} {q : Nat}
variable {fn : FuncId} {kd : Kd} {n : Nat} {e : Nat → Value} {ds : List Deferred} {k : List Item} {cs : List Frame}
theorem Mt.ctl_ok (M : Mt P main Z W) : ∀ (m : Nat) (k : List Item), W q (gr fn kd n e ds (ctl m k) cs) → W (q + m) (gr fn kd n e ds k cs)
  | 0, _, h => h
  | m + 1, k, h => by
    unfold ctl at h
    split at h
    · exact M.s _ _ _ rfl (fun w _ => by simp [gr, frm, stepG, stepG.exec]) (M.ctl_ok m _ h)
    · exact M.s _ _ _ rfl (fun w _ => by simp [gr, frm, stepG, stepG.exec]) (M.ctl_ok m _ h)
    · exact M.s _ _ _ rfl (fun w _ => by simp [gr, frm, stepG, stepG.exec]) (M.ctl_ok m _ h)
    · rename_i c k'
      split at h
      · rename_i hc; have := ck_inv hc; simp only at this; rw [this]; exact M.s _ _ _ rfl (fun w _ => by simp [gr, frm, stepG, stepG.exec]) (M.ctl_ok m _ h)
      · rename_i hc; obtain ⟨l, e⟩ := ck_inv hc; rw [e]; exact M.s _ _ _ rfl (fun w _ => by simp [gr, frm, stepG, stepG.exec]) (M.ctl_ok m _ h)
      · rename_i hc; have := ck_inv hc; simp only at this; rw [this]; exact M.s _ _ _ rfl (fun w _ => by simp [gr, frm, stepG, stepG.exec]) (M.ctl_ok m _ h)
      · rename_i hc; have := ck_inv hc; simp only at this; rw [this]; exact M.s _ _ _ rfl (fun w _ => by simp [gr, frm, stepG, stepG.exec]) (M.ctl_ok m _ h)
      · rename_i hc; have := ck_inv hc; simp only at this; rw [this]; exact M.s _ _ _ rfl (fun w _ => by simp [gr, frm, stepG, stepG.exec]) (M.ctl_ok m _ h)
      · rename_i hc
        split at h
        · rename_i k'' hx
          have := ck_inv hc; simp only at this; rw [this]; exact M.s _ _ _ rfl (fun w _ => by simp [gr, frm, stepG, stepG.exec, hx]) (M.ctl_ok m _ h)
        · exact M.mono _ _ _ h (by omega)
      · exact M.mono _ _ _ h (by omega)
    · exact M.mono _ _ _ h (by omega)
theorem Mt.go (M : Mt P main Z W) {k' : List Item} (h : W q (gr fn kd n e ds k' cs)) (hk : ctl 60 k = k' := by rfl) : W (q + 60) (gr fn kd n e ds k cs) := M.ctl_ok 60 k (hk ▸ h)
theorem Mt.cond (M : Mt P main Z W) {c : Operand} {x y : Code} {t : Bool} (hc : ev n e c = .bool t) (h : W q (gr fn kd n e ds (.code (if t then x else y) :: k) cs)) : W (q + 1) (gr fn kd n e ds (.code (.cond c x y) :: k) cs) :=
  M.s _ _ _ rfl (fun w _ => by
    have := eval_frm fn kd n e ds (.code (.cond c x y) :: k)
    simp only [frm] at this
    simp [gr, frm, stepG, stepG.exec, this, hc]) h
theorem Mt.tru (M : Mt P main Z W) {c : Code} {k' : List Item} (h : W q (gr fn kd n e ds k' cs)) (hc : ck c = .cond := by rfl) (hv : ev n e (cC c) = .bool true := by rfl) (hk : ctl 60 (.code (cT c) :: k) = k' := by rfl) : W (q + 60 + 1) (gr fn kd n e ds (.code c :: k) cs) := by
  have := ck_inv hc
  simp only at this
  rw [this]
  exact M.cond hv (M.ctl_ok 60 _ (hk ▸ h))
theorem Mt.fls (M : Mt P main Z W) {c : Code} {k' : List Item} (h : W q (gr fn kd n e ds k' cs)) (hc : ck c = .cond := by rfl) (hv : ev n e (cC c) = .bool false := by rfl) (hk : ctl 60 (.code (cE c) :: k) = k' := by rfl) : W (q + 60 + 1) (gr fn kd n e ds (.code c :: k) cs) := by
  have := ck_inv hc
  simp only at this
  rw [this]
  exact M.cond hv (M.ctl_ok 60 _ (hk ▸ h))
theorem Mt.rg (M : Mt P main Z W) {c : Code} (l : List Nat) (h : W q (gr fn kd n e ds (.inRegion (cO c) l :: k) cs)) (hc : ck c = .region := by rfl) (hl : List.range (cO c).size = l := by rfl) : W (q + 1) (gr fn kd n e ds (.code c :: k) cs) := by
  have := ck_inv hc
  simp only at this
  rw [this]
  exact M.s _ _ _ rfl (fun w _ => by simp [gr, frm, stepG, stepG.exec]) (hl ▸ h)
theorem Mt.lp (M : Mt P main Z W) {c : Code} (h : W q (gr fn kd n e ds (.code (cB c) :: .inLoop (cB c) :: k) cs)) (hc : ck c = .loop := by rfl) : W (q + 1) (gr fn kd n e ds (.code c :: k) cs) := by
  have := ck_inv hc
  simp only at this
  rw [this]
  exact M.s _ _ _ rfl (fun w _ => by simp [gr, frm, stepG, stepG.exec]) h
theorem Mt.ilp (M : Mt P main Z W) {c : Code} (h : W q (gr fn kd n e ds (.code c :: .inLoop c :: k) cs)) : W (q + 1) (gr fn kd n e ds (.inLoop c :: k) cs) :=
  M.s _ _ _ rfl (fun w _ => by simp [gr, frm, stepG, stepG.exec]) h
variable {ops : Array Oper} {i : Nat} {rest : List Nat} {dst : Option Nat} {t : Nat} {ty : TypeId} {pos : String} {af : Array Edge} {gd : Option (Nat × Bool)} {x y z : Operand} {v u : Value}
theorem stepG_op {o : Oper} (ho : nthO ops i = some o) (hw : wantB ops n e o.guard = true) (w : World) : stepG P main (gr fn kd n e ds (.inRegion ops (i :: rest) :: k) cs) w = stepG.apply P true (frm fn kd n e ds (.inRegion ops (i :: rest) :: k)) cs none (execOp (ev n e) o) w := by
  rw [← nthO_eq] at ho
  rw [← wanted_eq] at hw
  have he := eval_frm fn kd n e ds (.inRegion ops (i :: rest) :: k)
  simp only [frm] at he
  simp [gr, frm, stepG, stepG.exec, stepG.oper, Frame.oper?, ho, hw, he]
theorem stepG_val {o : Oper} (ho : nthO ops i = some o) (hw : wantB ops n e o.guard = true) (hy : ev0 P (execOp (ev n e) o) = some (.value v)) (w : World) : stepG P main (gr fn kd n e ds (.inRegion ops (i :: rest) :: k) cs) w = .go (gr fn kd n (putO e o.dst v) ds (.inRegion ops rest :: k) cs) w #[] := by
  rw [stepG_op ho hw]
  have r := ev0_run hy w #[]
  have hkb := kd.early
  simp only [stepG.apply, r, if_true]
  rw [finish_frm (by rw [nthO_eq]; exact ho)]
  simp [frm, GStep.after, gr, seen_none, hkb]
theorem stepG_def {o : Oper} {x : Deferred} (ho : nthO ops i = some o) (hw : wantB ops n e o.guard = true) (hy : ev0 P (execOp (ev n e) o) = some (.defer x)) (w : World) : stepG P main (gr fn kd n e ds (.inRegion ops (i :: rest) :: k) cs) w = .go (gr fn kd n (putO e o.dst undef) (x :: ds) (.inRegion ops rest :: k) cs) w #[] := by
  rw [stepG_op ho hw]
  have r := ev0_run hy w #[]
  have hkb := kd.early
  have hf := finish_frm (fn := fn) (kd := kd) (n := n) (e := e) (ds := x :: ds) (k := k) (rest := rest) (o := o) (by rw [nthO_eq]; exact ho) undef
  simp only [frm] at hf
  simp only [stepG.apply, r, if_true, frm]
  rw [hf]
  simp [frm, hkb, GStep.after, gr, seen_none]
theorem stepG_ent {o : Oper} {f : FuncId} {args : Array Value} (ho : nthO ops i = some o) (hw : wantB ops n e o.guard = true) (hy : ev0 P (execOp (ev n e) o) = some (.enter f args)) (w : World) : stepG P main (gr fn kd n e ds (.inRegion ops (i :: rest) :: k) cs) w = .go (enterG P f args .nor (frm fn kd n e ds (.inRegion ops (i :: rest) :: k) :: cs)) w #[] := by
  rw [stepG_op ho hw]
  have r := ev0_run hy w #[]
  have hkb := kd.early
  simp only [stepG.apply, r, if_true]
  simp [frm, hkb, GStep.after, enterG, seen_none]
  rfl
theorem stepG_comm {o : Oper} {cases : Array CommCase} {sh : CommShape} {bl : Bool} (ho : nthO ops i = some o) (hw : wantB ops n e o.guard = true) (hy : ev0 P (execOp (ev n e) o) = some (.comm cases bl sh)) (w : World) : stepG P main (gr fn kd n e ds (.inRegion ops (i :: rest) :: k) cs) w = .comm (gr fn kd n e ds (.inRegion ops (i :: rest) :: k) cs) cases bl sh w #[] := by
  rw [stepG_op ho hw]
  have r := ev0_run hy w #[]
  have hkb := kd.early
  simp only [stepG.apply, r, if_true]
  simp [frm, hkb, GStep.after, gr, seen_none]
def child (P : Program) (d : Deferred) : Goroutine := { frame := { (default : Frame) with fn := P.funcs.size, defers := [d], mode := .panicking [goexitEntry] }, callers := [], status := .running, dying := none }
theorem stepG_spawn {o : Oper} {x : Deferred} (ho : nthO ops i = some o) (hw : wantB ops n e o.guard = true) (hy : ev0 P (execOp (ev n e) o) = some (.spawn x)) (hx : ∃ f cap, x.target = .fn f cap) (w : World) : stepG P main (gr fn kd n e ds (.inRegion ops (i :: rest) :: k) cs) w = .spawn (gr fn kd n (putO e o.dst undef) ds (.inRegion ops rest :: k) cs) (child P x) w #[] := by
  rw [stepG_op ho hw]
  have r := ev0_run hy w #[]
  have hkb := kd.early
  simp only [stepG.apply, r, if_true]
  rw [finish_frm (by rw [nthO_eq]; exact ho)]
  obtain ⟨tg, ar⟩ := x
  obtain ⟨f, cap, rfl⟩ : ∃ f cap, tg = .fn f cap := hx
  simp [frm, hkb, GStep.after, gr, seen_none, child]
theorem Mt.op (M : Mt P main Z W) {o : Oper} (ho : nthO ops i = some o) (hw : wantB ops n e o.guard = true) (hy : ev0 P (execOp (ev n e) o) = some (.value v)) (h : W q (gr fn kd n (putO e o.dst v) ds (.inRegion ops rest :: k) cs)) : W (q + 1) (gr fn kd n e ds (.inRegion ops (i :: rest) :: k) cs) :=
  M.s _ _ _ rfl (fun w _ => stepG_val ho hw hy w) h
theorem Mt.no (M : Mt P main Z W) {op : Op} (ho : nthO ops i = some ⟨dst, op, ty, pos, af, gd⟩) (h : W q (gr fn kd n (putO e dst undef) ds (.inRegion ops rest :: k) cs)) (hw : wantB ops n e gd = false := by rfl) : W (q + 1) (gr fn kd n e ds (.inRegion ops (i :: rest) :: k) cs) := by
  refine M.s _ _ _ rfl (fun w _ => ?_) h
  rw [← nthO_eq] at ho
  have hw' : Region.wanted (⟨dst, op, ty, pos, af, gd⟩ : Oper) (yielded ops (tm n e)) = false := by rw [wanted_eq]; exact hw
  have hf := finish_frm (fn := fn) (kd := kd) (n := n) (e := e) (ds := ds) (k := k) (rest := rest) ho undef
  simp only [frm] at hf
  simp only [gr, frm, stepG, stepG.exec, ho, Option.map_some, Option.getD_some, hw', Bool.false_eq_true, if_false, hf]
theorem Mt.mv (M : Mt P main Z W) (ho : nthO ops i = some ⟨some t, .move x, ty, pos, af, gd⟩) (h : W q (gr fn kd n (put e t v) ds (.inRegion ops rest :: k) cs)) (hx : ev n e x = v := by conv => { lhs; whnf }) (hw : wantB ops n e gd = true := by rfl) : W (q + 1) (gr fn kd n e ds (.inRegion ops (i :: rest) :: k) cs) :=
  M.op ho hw (by unfold execOp; simp only [hx]; rfl) h
theorem Mt.asg (M : Mt P main Z W) (ho : nthO ops i = some ⟨some t, .assign x, ty, pos, af, gd⟩) (h : W q (gr fn kd n (put e t v) ds (.inRegion ops rest :: k) cs)) (hx : ev n e x = v := by conv => { lhs; whnf }) (hw : wantB ops n e gd = true := by rfl) : W (q + 1) (gr fn kd n e ds (.inRegion ops (i :: rest) :: k) cs) :=
  M.op ho hw (by unfold execOp; simp only [hx]; rfl) h
theorem Mt.nc (M : Mt P main Z W) {a : Addr} (ho : nthO ops i = some ⟨some t, .nilCheck x, ty, pos, af, gd⟩) (h : W q (gr fn kd n (put e t (.pointer (some a))) ds (.inRegion ops rest :: k) cs)) (hx : ev n e x = .pointer (some a) := by rfl) (hw : wantB ops n e gd = true := by rfl) : W (q + 1) (gr fn kd n e ds (.inRegion ops (i :: rest) :: k) cs) :=
  M.op ho hw (by unfold execOp; simp only [hx]; rfl) h
theorem ev0_und {t : TypeId} {u : TypeDesc} (h : P.underlying t = some u) : ev0 P (underlying t) = some u := by
  unfold underlying; refine ev0_do (a := P) rfl ?_; simp only [h]; rfl
theorem ev0_info {t : TypeId} {i : TypeInfo} (h : P.info? t = some i) : ev0 P (typeInfo t) = some i := by
  unfold typeInfo; refine ev0_do (a := P) rfl ?_; simp only [h]; rfl
theorem ev0_size {t : TypeId} {z : Nat} (h : ∃ i, P.info? t = some i ∧ i.size = z) : ev0 P (sizeOf t) = some z := by
  obtain ⟨i, h, rfl⟩ := h
  unfold sizeOf; exact ev0_do (ev0_info h) rfl
theorem ev0_zero {t : TypeId} {v : Value} (h : ∃ i, P.info? t = some i ∧ i.zero = some v) : ev0 P (zeroValue t) = some v := by
  obtain ⟨i, h, hz⟩ := h
  unfold zeroValue; refine ev0_do (ev0_info h) ?_; rw [hz]; rfl
theorem Mt.fa (M : Mt P main Z W) {s f o b off : Nat} [c : Fl P s f o] (ho : nthO ops i = some ⟨some t, .fieldAddr s x f, ty, pos, af, gd⟩) (h : W q (gr fn kd n (put e t (.pointer (some ⟨b, off + o, none⟩))) ds (.inRegion ops rest :: k) cs))
    (hx : ev n e x = .pointer (some ⟨b, off, none⟩) := by rfl) (hw : wantB ops n e gd = true := by rfl) : W (q + 1) (gr fn kd n e ds (.inRegion ops (i :: rest) :: k) cs) :=
  M.op ho hw (by
    obtain ⟨fs, fl, z, h1, h2, rfl, ⟨inf, h4, h5⟩, h6⟩ := c.h
    unfold execOp; simp only [hx, Instr.fieldAt]
    refine ev0_do (a := .pointer (some ⟨b, off + fl.offset, none⟩)) (ev0_do (ev0_und h1) ?_) rfl
    simp only [h2, Instr.sureAddr]
    refine ev0_do (a := (⟨b, off, none⟩ : Addr)) rfl ?_
    unfold fieldPlace
    refine ev0_do (a := ⟨b, off + fl.offset, none⟩) ?_ rfl
    refine ev0_do (ev0_size ⟨inf, h4, h5⟩) ?_
    rw [if_neg h6, add_of]; rfl) h
theorem Mt.ext (M : Mt P main Z W) {vs : Array Value} {ix : Nat} (ho : nthO ops i = some ⟨some t, .extract x ix, ty, pos, af, gd⟩) (h : W q (gr fn kd n (put e t v) ds (.inRegion ops rest :: k) cs))
    (hx : ev n e x = .tuple vs := by rfl) (hv : vs[ix]? = some v := by rfl) (hw : wantB ops n e gd = true := by rfl) : W (q + 1) (gr fn kd n e ds (.inRegion ops (i :: rest) :: k) cs) :=
  M.op ho hw (by unfold execOp; simp only [hx, Instr.extract, hv]; rfl) h
theorem Mt.cv (M : Mt P main Z W) {k1 k2 : IntKind} {s1 s2 : TypeId} {p r : Int} [c1 : Ik P s1 k1] [c2 : Ik P s2 k2] (ho : nthO ops i = some ⟨some t, .convert s1 s2 x, ty, pos, af, gd⟩) (h : W q (gr fn kd n (put e t (.int k2 r)) ds (.inRegion ops rest :: k) cs))
    (hx : ev n e x = .int k1 p := by rfl) (hr : k2.wrap p = r := by rfl) (hw : wantB ops n e gd = true := by rfl) : W (q + 1) (gr fn kd n e ds (.inRegion ops (i :: rest) :: k) cs) :=
  M.op ho hw (by
    unfold execOp; simp only [hx]
    refine ev0_do (a := .int k2 r) ?_ rfl
    unfold convert
    refine ev0_do (ev0_und c1.h) (ev0_do (ev0_und c2.h) ?_)
    simp only [Conv.intToInt, hr]; rfl) h
theorem Mt.bo (M : Mt P main Z W) {op : BinOp} {tt t2 : TypeId} {k1 k2 : IntKind} {p r : Int} (ho : nthO ops i = some ⟨some t, .binOp op tt x y t2, ty, pos, af, gd⟩) (h : W q (gr fn kd n (put e t v) ds (.inRegion ops rest :: k) cs))
    (hx : ev n e x = .int k1 p := by rfl) (hy : ev n e y = .int k2 r := by rfl) (hv : ev0 P (binOp op tt (.int k1 p) (.int k2 r)) = some v := by rfl) (hw : wantB ops n e gd = true := by rfl) : W (q + 1) (gr fn kd n e ds (.inRegion ops (i :: rest) :: k) cs) :=
  M.op ho hw (by
    unfold execOp; simp only [hx, hy]
    refine ev0_do (a := v) ?_ rfl
    refine ev0_do (a := ()) ?_ hv
    unfold eqGuard
    cases op <;> rfl) h
theorem Mt.pk (M : Mt P main Z W) {b : Bool} (ho : nthO ops i = some ⟨some t, .pick x y z, ty, pos, af, gd⟩) (h : W q (gr fn kd n (put e t v) ds (.inRegion ops rest :: k) cs)) (hx : ev n e x = .bool b := by rfl) (hy : (if b then ev n e y else ev n e z) = v := by conv => { lhs; whnf }) (hw : wantB ops n e gd = true := by rfl) : W (q + 1) (gr fn kd n e ds (.inRegion ops (i :: rest) :: k) cs) :=
  M.op ho hw (by unfold execOp; simp only [hx]; cases b <;> (subst hy; rfl)) h
theorem Mt.nt (M : Mt P main Z W) {b : Bool} {tt : TypeId} (ho : nthO ops i = some ⟨some t, .unOp .not tt x, ty, pos, af, gd⟩) (h : W q (gr fn kd n (put e t (.bool (!b))) ds (.inRegion ops rest :: k) cs)) (hx : ev n e x = .bool b := by rfl) (hw : wantB ops n e gd = true := by rfl) : W (q + 1) (gr fn kd n e ds (.inRegion ops (i :: rest) :: k) cs) :=
  M.op ho hw (by unfold execOp; simp only [hx]; rfl) h
theorem Mt.cvp (M : Mt P main Z W) {s1 s2 t1 : TypeId} {z : Nat} {ad : Addr} [c1 : Pt P s1 t1] [c2 : Up P s2] [c3 : Cz P t1 z] (hZ : ∀ w, Z w → ∃ v, w.cell? ad = some v) (ho : nthO ops i = some ⟨some t, .convert s1 s2 x, ty, pos, af, gd⟩) (h : W q (gr fn kd n (put e t (.pointer (some ad))) ds (.inRegion ops rest :: k) cs))
    (hz : z ≠ 0 := by decide) (hx : ev n e x = .pointer (some ad) := by rfl) (hw : wantB ops n e gd = true := by rfl) : W (q + 1) (gr fn kd n e ds (.inRegion ops (i :: rest) :: k) cs) := by
  refine M.s _ _ _ rfl (fun w hw' => ?_) h
  obtain ⟨v, hv⟩ := hZ w hw'
  obtain ⟨inf, hi, hz'⟩ := c3.h
  have hsz : (P.info? t1).map (fun i => decide (i.size = 0)) = some false := by rw [hi]; simp [hz', hz]
  rw [stepG_op ho hw]
  have key : (execOp (ev n e) ⟨some t, .convert s1 s2 x, ty, pos, af, gd⟩).runT P w #[] = (.ok (.value (.pointer (some ad))) w, #[]) := by
    have k2 : (convert s1 s2 (.pointer (some ad))).runT P w #[] = (.ok (.pointer (some ad)) w, #[]) := Prod.ext ((Sem.runT_fst P _ w #[]).trans (run_convert_to_unsafe c1.h c2.h hsz hv)) (events_convert_to_unsafe c1.h c2.h hsz hv #[])
    unfold execOp; simp only [hx]
    show ((convert s1 s2 (.pointer (some ad))).bind fun v => Sem.pure (Next.value v)).runT P w #[] = _
    rw [Sem.runT_bind', k2]; rfl
  have hkb := kd.early
  simp only [stepG.apply, key, if_true]
  rw [finish_frm (by rw [nthO_eq]; exact ho)]
  simp [frm, GStep.after, gr, hkb, putO, seen_none]
theorem ev0_callFunc {f : FuncId} {fu : Func} {c : Code} {nf : Nat} [b : Body P f fu c nf] (args : Array Value) : ev0 P (callFunc f args) = some (.enter f args) := by
  unfold callFunc
  refine ev0_do (a := P) rfl ?_
  rw [b.func]
  simp only [b.name, b.body, Option.isNone_some, Bool.false_eq_true, if_false]
  rfl
theorem Mt.cal (M : Mt P main Z W) {f : FuncId} {fu : Func} {c : Code} {nf : Nat} [b : Body P f fu c nf] {fo : Operand} {args : Array Operand} {ats : Array TypeId} {vl : List Value} (ho : nthO ops i = some ⟨dst, .call ⟨.value fo, args, ats⟩, ty, pos, af, gd⟩)
    (h : W q (gr f .nor nf (argE vl.toArray) [] [.code c] (frm fn kd n e ds (.inRegion ops (i :: rest) :: k) :: cs)))
    (hw : wantB ops n e gd = true := by rfl) (hf : ev n e fo = .func (.func f) #[] #[] := by rfl) (hv : args.toList.map (ev n e) = vl := by rfl) (hn : Nat.ble vl.length nf = true := by rfl) : W (q + 1) (gr fn kd n e ds (.inRegion ops (i :: rest) :: k) cs) := by
  have hv' : args.map (ev n e) = vl.toArray := by rw [← hv, ← Array.toList_map, Array.toArray_toList]
  refine M.s _ _ _ rfl (fun w _ => stepG_ent (f := f) (args := vl.toArray) ho hw (by
    unfold execOp
    simp only
    refine ev0_do (a := ⟨.fn (.func f) #[], vl.toArray⟩) ?_ ?_
    · unfold resolve
      simp only [hf, Deferred.ofValue, hv', Array.empty_append]; rfl
    · show ev0 P (callFunc f (vl.toArray ++ #[])) = _
      rw [Array.append_empty]; exact ev0_callFunc _) w) ?_
  have := enterG_eq (P := P) (kd := .nor) (args := vl.toArray) (cs := frm fn kd n e ds (.inRegion ops (i :: rest) :: k) :: cs) b.func b.body (by rw [b.tmps]; exact Nat.le_of_ble_eq_true (by simpa using hn))
  rw [this, b.tmps]
  exact h
theorem Mt.dfr (M : Mt P main Z W) {f : FuncId} {fo : Operand} {args : Array Operand} {ats : Array TypeId} {vl : List Value} (ho : nthO ops i = some ⟨dst, .defer ⟨.value fo, args, ats⟩, ty, pos, af, gd⟩)
    (h : W q (gr fn kd n (putO e dst undef) (⟨.fn (.func f) #[], vl.toArray⟩ :: ds) (.inRegion ops rest :: k) cs))
    (hw : wantB ops n e gd = true := by rfl) (hf : ev n e fo = .func (.func f) #[] #[] := by rfl) (hv : args.toList.map (ev n e) = vl := by rfl) : W (q + 1) (gr fn kd n e ds (.inRegion ops (i :: rest) :: k) cs) := by
  have hv' : args.map (ev n e) = vl.toArray := by rw [← hv, ← Array.toList_map, Array.toArray_toList]
  refine M.s _ _ _ rfl (fun w _ => stepG_def (x := ⟨.fn (.func f) #[], vl.toArray⟩) ho hw (by
    unfold execOp
    simp only
    refine ev0_do (a := ⟨.fn (.func f) #[], vl.toArray⟩) ?_ rfl
    unfold resolve
    simp only [hf, Deferred.ofValue, hv', Array.empty_append]; rfl) w) h
theorem Mt.ret (M : Mt P main Z W) (h : W q (grR fn kd n e ds (.code .ret :: k) cs)) : W (q + 1) (gr fn kd n e ds (.code .ret :: k) cs) :=
  M.s _ _ _ rfl (fun w _ => by simp [gr, grR, frmR, frm, stepG, stepG.exec]) h
theorem Mt.fin (M : Mt P main Z W) (h : W q (grR fn kd n e ds [] cs)) : W (q + 1) (gr fn kd n e ds [] cs) :=
  M.s _ _ _ rfl (fun w _ => by simp [gr, grR, frmR, frm, stepG, stepG.exec]) h
theorem ev0_results {fu : Func} {v : Value} (h : resV fu n e = some v) : ev0 P (results fu (tm n e)) = some v := by
  have key : results fu (tm n e) = (pure v : Sem Value) := by
    unfold resV at h
    have hl : fu.results = fu.results.toList.toArray := by simp
    generalize fu.results.toList = l at h hl
    split at h <;> first | (cases h; done) | skip
    all_goals (simp only [Option.some.injEq] at h; subst h)
    all_goals simp [results, hl, ← tm_getD, -Array.getD_eq_getD_getElem?]
  rw [key]; rfl
theorem Mt.home (M : Mt P main Z W) {fu : Func} {cc : Code} {n' : Nat} [b : Body P fn fu cc n'] {kR : List Item} {c : Frame} {v : Value} (h : W q (backTo c cs v)) (hv : resV fu n e = some v := by rfl) : W (q + 1) (grR fn .nor n e [] kR (c :: cs)) :=
  M.s _ _ _ rfl (fun w _ => by
    have r := ev0_run (ev0_results (P := P) hv) w #[]
    simp only [grR, frmR, frm, stepG, unwind, b.func, r, doReturn, Kd.k]
    simp [GStep.after, backTo, seen_none]) h
theorem Mt.homeD (M : Mt P main Z W) {fu : Func} {cc : Code} {n' : Nat} [b : Body P fn fu cc n'] {kR : List Item} {c : Frame} {v : Value} (h : W q (backD c cs)) (hv : resV fu n e = some v := by rfl) (hc : c.mode = .returning ∨ c.mode = .panicking [goexitEntry] := by first | exact .inl rfl | exact .inr rfl) : W (q + 1) (grR fn .dfr n e [] kR (c :: cs)) :=
  M.s _ _ _ rfl (fun w _ => by
    have r := ev0_run (ev0_results (P := P) hv) w #[]
    simp only [grR, frmR, frm, stepG, unwind, b.func, r, doReturn, Kd.k]
    rcases hc with hc | hc <;> simp [GStep.after, backD, seen_none, hc, goexitEntry]) h
theorem Mt.dcall (M : Mt P main Z W) {f : FuncId} {fu : Func} {c : Code} {nf : Nat} [b : Body P f fu c nf] {cap args : Array Value} {todo : List Item} (h : W q (gr f .dfr nf (argE (args ++ cap)) [] [.code c] (frmR fn kd n e ds todo :: cs))) (hn : Nat.ble (args ++ cap).size nf = true := by rfl) : W (q + 1) (grR fn kd n e (⟨.fn (.func f) cap, args⟩ :: ds) todo cs) := by
  have e1 := enterG_eq (P := P) (kd := .dfr) (args := args ++ cap) (cs := frmR fn kd n e ds todo :: cs) b.func b.body (by rw [b.tmps]; exact Nat.le_of_ble_eq_true hn)
  refine M.s _ _ (enterG P f (args ++ cap) .dfr (frmR fn kd n e ds todo :: cs)) rfl (fun w _ => ?_) (by rw [e1, b.tmps]; exact h)
  have r := ev0_run (ev0_callFunc (P := P) (f := f) (args ++ cap)) w #[]
  simp only [grR, frmR, frm, stepG, unwind, callDeferred, invoke, r]
  simp [GStep.after, enterG, Kd.k, seen_none]
def base (P : Program) (ds : List Deferred) : Frame := { (default : Frame) with fn := P.funcs.size, defers := ds, mode := .panicking [goexitEntry] }
theorem Mt.child (M : Mt P main Z W) {f : FuncId} {fu : Func} {c : Code} {nf : Nat} [b : Body P f fu c nf] {cap args : Array Value} (h : W q (gr f .dfr nf (argE (args ++ cap)) [] [.code c] [base P []])) (hn : Nat.ble (args ++ cap).size nf = true := by rfl) : W (q + 1) (child P ⟨.fn (.func f) cap, args⟩) := by
  have e1 := enterG_eq (P := P) (kd := .dfr) (args := args ++ cap) (cs := [base P []]) b.func b.body (by rw [b.tmps]; exact Nat.le_of_ble_eq_true hn)
  refine M.s _ _ (enterG P f (args ++ cap) .dfr [base P []]) rfl (fun w _ => ?_) (by rw [e1, b.tmps]; exact h)
  have r := ev0_run (ev0_callFunc (P := P) (f := f) (args ++ cap)) w #[]
  simp only [Sl.child, stepG, unwind, callDeferred, invoke, r]
  simp [GStep.after, enterG, Kd.k, seen_none, base]
theorem quitsBase {d : Nat} (hd : d = 0) : QuitsD P 1 d (backD (base P []) []) := by
  refine .inr ⟨rfl, { frame := base P [], callers := [], status := .finished, dying := none }, #[], by simp, fun w => ?_, ⟨rfl, by rw [deafBehind_nil]; exact hd⟩⟩
  have h0 : (default : Frame).todo = [] := rfl
  simp [backD, base, stepG, unwind, Frame.catches, h0, goexitEntry]
end
theorem QuitsD.mono' {P : Program} : ∀ {n m d : Nat} {g : Goroutine}, QuitsD P n d g → n ≤ m → QuitsD P m d g
  | 0, 0, _, _, h, _ => h
  | 0, m + 1, _, _, h, _ => .inl h
  | n + 1, 0, _, _, _, hm => absurd hm (by omega)
  | n + 1, m + 1, _, _, h, hm => h.imp id fun ⟨h1, g', es, h2, h3, h4⟩ => ⟨h1, g', es, h2, h3, QuitsD.mono' h4 (by omega)⟩
theorem Cl.mono {P : Program} {G : Grp} : ∀ {n m : Nat} {x : St} {g : Goroutine}, Cl P G n x g → n ≤ m → Cl P G m x g
  | 0, _, _, _, h, _ => h.elim
  | n + 1, 0, _, _, _, hm => absurd hm (by omega)
  | n + 1, m + 1, x, g, h, hm => by
    obtain ⟨hs, h⟩ := h
    refine ⟨hs, ?_⟩
    rcases h with ⟨g', h1, h2⟩ | h
    · exact .inl ⟨g', h1, Cl.mono h2 (by omega)⟩
    · refine .inr ?_
      cases x with
      | rel => obtain ⟨g', h1, h2⟩ := h; exact ⟨g', h1, Cl.mono h2 (by omega)⟩
      | dis => obtain ⟨g', h1, h2⟩ := h; exact ⟨g', h1, Cl.mono h2 (by omega)⟩
      | add => obtain ⟨g', h1, h2, h3⟩ := h; exact ⟨g', h1, Cl.mono h2 (by omega), fun v wt a b c => QuitsD.mono' (h3 v wt a b c) (by omega)⟩
      | ld => obtain ⟨g', h1, h2⟩ := h; exact ⟨g', h1, Cl.mono h2 (by omega)⟩
      | sto => obtain ⟨g', h1, h2⟩ := h; exact ⟨g', h1, Cl.mono h2 (by omega)⟩
      | sem => obtain ⟨h0, g', h1, h2⟩ := h; exact ⟨h0, g', h1, QuitsD.mono' h2 (by omega)⟩
theorem Mt.quits {P : Program} {d : Nat} : Mt P false (fun _ => True) fun q g => QuitsD P q d g := ⟨fun q g g' hs h k => .inr ⟨hs, g', #[], by simp, fun w => h w trivial, by rw [deafBehind_nil]; exact k⟩, fun _ _ _ h hm => QuitsD.mono' h hm⟩
theorem Mt.cl {P : Program} {G : Grp} {x : St} : Mt P false (Gs G) fun q g => Cl P G q x g := ⟨fun q g g' hs h k => ⟨hs, .inl ⟨g', h, k⟩⟩, fun _ _ _ h hm => Cl.mono h hm⟩
theorem Mt.mw {P : Program} {G : Grp} {Fin : Goroutine → Prop} {x : MS} : Mt P true (Gs G) fun _ g => MW P G Fin x g := ⟨fun _ g g' hs h q => .mute hs h q, fun _ _ _ h _ => h⟩
theorem Mt.way {P : Program} {main : Bool} {s : SeatD} : Mt P main s.K fun q g => Way P main s q g := ⟨fun q g g' hs h k => .inr ⟨hs, fun w hw => ⟨g', #[], w.drawn, h w hw, by simp, k⟩⟩, fun _ _ _ h hm => Way.mono h hm⟩
def bs (fn : FuncId) (kd : Kd) : Frame := { (default : Frame) with fn := fn, kind := kd.k }
section
variable {P : Program} {main : Bool} {fn : FuncId} {kd : Kd} {n : Nat} {e : Nat → Value} {ds : List Deferred} {k : List Item} {cs : List Frame}
variable {ops : Array Oper} {i : Nat} {rest : List Nat} {dst : Option Nat} {t : Nat} {ty : TypeId} {pos : String} {af : Array Edge} {gd : Option (Nat × Bool)} {x y z : Operand}
variable {f : FuncId} {fu : Func} {args : Array Operand} {ats : Array TypeId}
theorem gr_at (todo : List Item) : gr fn kd n e ds todo cs = G ((bs fn kd).at ⟨tm n e, ds⟩ todo) cs := rfl
theorem act_put (v : Value) : (Act.put ⟨tm n e, ds⟩ dst v) = ⟨tm n (putO e dst v), ds⟩ := by
  unfold Act.put putO
  cases dst with
  | none => rfl
  | some d => simp only [tm_set]
theorem act_eval (x : Operand) : Act.eval ⟨tm n e, ds⟩ x = ev n e x := by
  cases x with
  | tmp t => simp only [Act.eval, ev, tm_getD]
  | _ => rfl
theorem bs_early : (bs fn kd).kind ≠ .early := by cases kd <;> (intro h; cases h)
theorem stepG_m0 (m : Mark) [b : Ext_ P f fu (fun _ => do mark m; pure Extern.Race.none_)] (ho : nthO ops i = some ⟨dst, .call ⟨.value (.func f), args, ats⟩, ty, pos, af, gd⟩) (hw : wantB ops n e gd = true) (hm : ∀ g, m ≠ .extern g) (w : World) :
    stepG P main (gr fn kd n e ds (.inRegion ops (i :: rest) :: k) cs) w = .go (gr fn kd n (putO e dst (.tuple #[])) ds (.inRegion ops rest :: k) cs) w #[evm m] := by
  rw [gr_at, gr_at, ← act_put]
  exact stepG_mark0 m hm (o := ⟨dst, .call ⟨.value (.func f), args, ats⟩, ty, pos, af, gd⟩) (by rw [nthO_eq]; exact ho) (by rw [wanted_eq]; exact hw) bs_early rfl b.func b.name b.body b.nx b.fd
theorem stepG_mA (mk : Addr → Mark) [b : Ext_ P f fu (Extern.Race.marked mk)] {ad : Addr} (ho : nthO ops i = some ⟨dst, .call ⟨.value (.func f), args, ats⟩, ty, pos, af, gd⟩) (hw : wantB ops n e gd = true) (hm : ∀ ad g, mk ad ≠ .extern g) (hx : (args.toList.map (ev n e))[0]? = some (.pointer (some ad))) (w : World) :
    stepG P main (gr fn kd n e ds (.inRegion ops (i :: rest) :: k) cs) w = .go (gr fn kd n (putO e dst (.tuple #[])) ds (.inRegion ops rest :: k) cs) w #[evm (mk ad)] := by
  rw [gr_at, gr_at, ← act_put]
  refine stepG_markAt mk hm (o := ⟨dst, .call ⟨.value (.func f), args, ats⟩, ty, pos, af, gd⟩) (by rw [nthO_eq]; exact ho) (by rw [wanted_eq]; exact hw) bs_early rfl b.func b.name b.body b.nx b.fd ?_
  have : (args.map (Act.eval ⟨tm n e, ds⟩)) = (args.toList.map (ev n e)).toArray := by
    rw [show Act.eval ⟨tm n e, ds⟩ = ev n e from funext act_eval, ← Array.toList_map, Array.toArray_toList]
  rw [this]; simpa using hx
theorem stepG_aL {kk : IntKind} [b : Ext_ P f fu (Extern.Atomic.loadT (.int kk))] {ad : Addr} {v : Int} (ho : nthO ops i = some ⟨dst, .call ⟨.value (.func f), #[x], ats⟩, ty, pos, af, gd⟩) (hw : wantB ops n e gd = true) (hx : ev n e x = .pointer (some ad)) {w : World} (hc : w.cell? ad = some (.int kk v)) :
    stepG P main (gr fn kd n e ds (.inRegion ops (i :: rest) :: k) cs) w = .go (gr fn kd n (putO e dst (.int kk v)) ds (.inRegion ops rest :: k) cs) w #[ar ad] := by
  rw [gr_at, gr_at, ← act_put]
  exact stepG_load_atomic (o := ⟨dst, .call ⟨.value (.func f), #[x], ats⟩, ty, pos, af, gd⟩) (by rw [nthO_eq]; exact ho) (by rw [wanted_eq]; exact hw) bs_early rfl b.func b.name b.body b.nx kk b.fd (by rw [act_eval]; exact hx) hc
theorem stepG_aS {kk : IntKind} [b : Ext_ P f fu Extern.Atomic.storeT] {ad : Addr} {v : Int} {u : Value} (ho : nthO ops i = some ⟨dst, .call ⟨.value (.func f), #[x, y], ats⟩, ty, pos, af, gd⟩) (hw : wantB ops n e gd = true) (hx : ev n e x = .pointer (some ad)) (hy : ev n e y = .int kk v) {w : World} (hc : w.cell? ad = some u) (hz : w.frozen? ad = false) :
    stepG P main (gr fn kd n e ds (.inRegion ops (i :: rest) :: k) cs) w = .go (gr fn kd n (putO e dst (.tuple #[])) ds (.inRegion ops rest :: k) cs) (w.setCell ad (.int kk v)) #[aw ad] := by
  rw [gr_at, gr_at, ← act_put]
  exact stepG_store_atomic (o := ⟨dst, .call ⟨.value (.func f), #[x, y], ats⟩, ty, pos, af, gd⟩) (by rw [nthO_eq]; exact ho) (by rw [wanted_eq]; exact hw) bs_early rfl b.func b.name b.body b.nx b.fd (by rw [act_eval]; exact hx) (by rw [act_eval]; exact hy) hc hz
theorem stepG_aA {kk : IntKind} [b : Ext_ P f fu (Extern.Atomic.update (Op.intArith .add) kk true)] {ad : Addr} {v d : Int} (ho : nthO ops i = some ⟨dst, .call ⟨.value (.func f), #[x, y], ats⟩, ty, pos, af, gd⟩) (hw : wantB ops n e gd = true) (hx : ev n e x = .pointer (some ad)) (hy : ev n e y = .int kk d) {w : World} (hc : w.cell? ad = some (.int kk v)) (hz : w.frozen? ad = false) :
    stepG P main (gr fn kd n e ds (.inRegion ops (i :: rest) :: k) cs) w = .go (gr fn kd n (putO e dst (.int kk (kk.wrap (v + d)))) ds (.inRegion ops rest :: k) cs) (w.setCell ad (.int kk (kk.wrap (v + d)))) #[ar ad, aw ad] := by
  rw [gr_at, gr_at, ← act_put]
  exact stepG_add_atomic (o := ⟨dst, .call ⟨.value (.func f), #[x, y], ats⟩, ty, pos, af, gd⟩) (by rw [nthO_eq]; exact ho) (by rw [wanted_eq]; exact hw) bs_early rfl b.func b.name b.body b.nx kk b.fd (by rw [act_eval]; exact hx) (by rw [act_eval]; exact hy) hc hz
theorem stepG_aC {kk : IntKind} [b : Ext_ P f fu (Extern.Atomic.casT (.int kk))] {ad : Addr} {v d : Int} (ho : nthO ops i = some ⟨dst, .call ⟨.value (.func f), #[x, y, z], ats⟩, ty, pos, af, gd⟩) (hw : wantB ops n e gd = true) (hx : ev n e x = .pointer (some ad)) (hy : ev n e y = .int kk v) (hz' : ev n e z = .int kk d) {w : World} (hc : w.cell? ad = some (.int kk v)) (hz : w.frozen? ad = false) :
    stepG P main (gr fn kd n e ds (.inRegion ops (i :: rest) :: k) cs) w = .go (gr fn kd n (putO e dst (.bool true)) ds (.inRegion ops rest :: k) cs) (w.setCell ad (.int kk d)) #[ar ad, aw ad] := by
  rw [gr_at, gr_at, ← act_put]
  exact stepG_cas_hit (o := ⟨dst, .call ⟨.value (.func f), #[x, y, z], ats⟩, ty, pos, af, gd⟩) (by rw [nthO_eq]; exact ho) (by rw [wanted_eq]; exact hw) bs_early rfl b.func b.name b.body b.nx kk b.fd (by rw [act_eval]; exact hx) (by rw [act_eval]; exact hy) (by rw [act_eval]; exact hz') hc hz
theorem stepG_aM {kk : IntKind} [b : Ext_ P f fu (Extern.Atomic.casT (.int kk))] {ad : Addr} {v old d : Int} (ho : nthO ops i = some ⟨dst, .call ⟨.value (.func f), #[x, y, z], ats⟩, ty, pos, af, gd⟩) (hw : wantB ops n e gd = true) (hx : ev n e x = .pointer (some ad)) (hy : ev n e y = .int kk old) (hz' : ev n e z = .int kk d) {w : World} (hc : w.cell? ad = some (.int kk v)) (hz : w.frozen? ad = false) (hne : ¬ v = old) :
    stepG P main (gr fn kd n e ds (.inRegion ops (i :: rest) :: k) cs) w = .go (gr fn kd n (putO e dst (.bool false)) ds (.inRegion ops rest :: k) cs) w #[ar ad] := by
  rw [gr_at, gr_at, ← act_put]
  exact stepG_cas_miss (o := ⟨dst, .call ⟨.value (.func f), #[x, y, z], ats⟩, ty, pos, af, gd⟩) (by rw [nthO_eq]; exact ho) (by rw [wanted_eq]; exact hw) bs_early rfl b.func b.name b.body b.nx kk b.fd (by rw [act_eval]; exact hx) (by rw [act_eval]; exact hy) (by rw [act_eval]; exact hz') hc hz hne
theorem map_eval : args.map (Act.eval ⟨tm n e, ds⟩) = (args.toList.map (ev n e)).toArray := by
  rw [show Act.eval ⟨tm n e, ds⟩ = ev n e from funext act_eval, ← Array.toList_map, Array.toArray_toList]
theorem stepG_sA [b : Ext_ P f fu Extern.Sync.semacquire] {ad : Addr} {v : Int} (ho : nthO ops i = some ⟨dst, .call ⟨.value (.func f), args, ats⟩, ty, pos, af, gd⟩) (hw : wantB ops n e gd = true) (hx : (args.toList.map (ev n e))[0]? = some (.pointer (some ad))) {w : World} (hc : w.cell? ad = some (.int .u32 v)) (h0 : v ≠ 0) (hz : w.frozen? ad = false) :
    stepG P main (gr fn kd n e ds (.inRegion ops (i :: rest) :: k) cs) w = .go (gr fn kd n (putO e dst (.tuple #[])) ds (.inRegion ops rest :: k) cs) (w.setCell ad (.int .u32 (v - 1))) (semEvents ad) := by
  rw [gr_at, gr_at, ← act_put]
  exact stepG_semacquire (o := ⟨dst, .call ⟨.value (.func f), args, ats⟩, ty, pos, af, gd⟩) (by rw [nthO_eq]; exact ho) (by rw [wanted_eq]; exact hw) bs_early rfl b.func b.name b.body b.nx b.fd (by rw [map_eval]; simpa using hx) hc h0 hz
theorem stepG_sW [b : Ext_ P f fu Extern.Sync.semacquire] {ad : Addr} (ho : nthO ops i = some ⟨dst, .call ⟨.value (.func f), args, ats⟩, ty, pos, af, gd⟩) (hw : wantB ops n e gd = true) (hx : (args.toList.map (ev n e))[0]? = some (.pointer (some ad))) {w : World} (hc : w.cell? ad = some (.int .u32 0)) :
    stepG P main (gr fn kd n e ds (.inRegion ops (i :: rest) :: k) cs) w = .go { gr fn kd n e ds (.inRegion ops (i :: rest) :: k) cs with status := .blocked } w #[] := by
  rw [gr_at]
  exact stepG_semacquire_wait (o := ⟨dst, .call ⟨.value (.func f), args, ats⟩, ty, pos, af, gd⟩) (by rw [nthO_eq]; exact ho) (by rw [wanted_eq]; exact hw) rfl b.func b.name b.body b.nx b.fd (by rw [map_eval]; simpa using hx) hc
theorem stepG_sR [b : Ext_ P f fu Extern.Sync.semrelease] {ad : Addr} {v : Int} (ho : nthO ops i = some ⟨dst, .call ⟨.value (.func f), args, ats⟩, ty, pos, af, gd⟩) (hw : wantB ops n e gd = true) (hx : (args.toList.map (ev n e))[0]? = some (.pointer (some ad))) {w : World} (hc : w.cell? ad = some (.int .u32 v)) (hz : w.frozen? ad = false) :
    stepG P main (gr fn kd n e ds (.inRegion ops (i :: rest) :: k) cs) w = .go (gr fn kd n (putO e dst (.tuple #[])) ds (.inRegion ops rest :: k) cs) (w.setCell ad (.int .u32 (IntKind.u32.wrap (v + 1)))) (semEvents ad) := by
  rw [gr_at, gr_at, ← act_put]
  exact stepG_semrelease (o := ⟨dst, .call ⟨.value (.func f), args, ats⟩, ty, pos, af, gd⟩) (by rw [nthO_eq]; exact ho) (by rw [wanted_eq]; exact hw) bs_early rfl b.func b.name b.body b.nx b.fd (by rw [map_eval]; simpa using hx) hc hz
theorem runT_ev0 {α β : Type} {s : Sem α} {g : α → Sem β} {a : α} (h : ev0 P s = some a) (w : World) (es : Array Event) : (s >>= g).runT P w es = (g a).runT P w es := by
  show (s.bind g).runT P w es = _
  induction s generalizing es with
  | pure b => obtain rfl := Option.some.inj h; rfl
  | program k ih => exact ih P h es
  | _ => cases h
theorem seen_mem {fn : FuncId} {es : Array Event} {e : Event} (h : e ∈ seen P fn es) : e ∈ es := by
  rw [seen_def] at h
  have := seen_fold_sub _ es.toList _ #[] e h
  simpa using this
theorem stepG_ld {tt : TypeId} {v : Value} {ad : Addr} [a : Ag P tt false] (ho : nthO ops i = some ⟨some t, .load tt x, ty, pos, af, gd⟩) (hw : wantB ops n e gd = true) (hx : ev n e x = .pointer (some ad)) {w : World} (hc : w.cell? ad = some v) :
    stepG P main (gr fn kd n e ds (.inRegion ops (i :: rest) :: k) cs) w = .go (gr fn kd n (put e t v) ds (.inRegion ops rest :: k) cs) w (seen P fn #[⟨.cell ad, false, false⟩]) := by
  rw [stepG_op ho hw]
  obtain ⟨u, hu, hb⟩ := a.h
  have hagg : ev0 P (isAgg tt) = some false := by
    unfold isAgg
    refine ev0_do (ev0_und hu) ?_
    cases u <;> first | rfl | (cases hb)
  have key : (execOp (ev n e) ⟨some t, .load tt x, ty, pos, af, gd⟩).runT P w #[] = (.ok (.value v) w, #[⟨.cell ad, false, false⟩]) := by
    unfold execOp
    simp only [hx, Instr.loadAt, Instr.sureAddr]
    have h1 : (loadVar tt ad).runT P w #[] = (.ok v w, #[⟨.cell ad, false, false⟩]) := by
      unfold loadVar
      rw [runT_ev0 hagg]
      simp only [Bool.false_eq_true, if_false, load, Sem.runT, hc]
      rfl
    show ((loadVar tt ad).bind fun z => Sem.pure (Next.value z)).runT P w #[] = _
    rw [Sem.runT_bind', h1]
    rfl
  have hkb := kd.early
  simp only [stepG.apply, key, if_true]
  rw [finish_frm (by rw [nthO_eq]; exact ho)]
  simp [frm, GStep.after, gr, hkb, putO]
end
section
variable {P : Program} {main : Bool} {s : SeatD} {fn : FuncId} {kd : Kd} {n : Nat} {e : Nat → Value} {ds : List Deferred} {k : List Item} {cs : List Frame}
variable {ops : Array Oper} {i : Nat} {rest : List Nat} {dst : Option Nat} {t : Nat} {ty : TypeId} {pos : String} {af : Array Edge} {gd : Option (Nat × Bool)} {x y z : Operand}
abbrev WayE (P : Program) (main : Bool) (s : SeatD) (g : Goroutine) : Prop := ∃ n, Way P main s n g
theorem way_ld {q : Nat} {tt : TypeId} {v : Value} {ad : Addr} [a : Ag P tt false] (ho : nthO ops i = some ⟨some t, .load tt x, ty, pos, af, gd⟩) (h : Way P main s q (gr fn kd n (put e t v) ds (.inRegion ops rest :: k) cs)) (hm : (ad, v) ∈ s.mem) (hx : ev n e x = .pointer (some ad) := by rfl) (hw : wantB ops n e gd = true := by rfl) : Way P main s (q + 1) (gr fn kd n e ds (.inRegion ops (i :: rest) :: k) cs) := by
  refine .inr ⟨rfl, fun w hK => ⟨_, _, w.drawn, stepG_ld ho hw hx (hK _ hm), fun e he => ?_, h⟩⟩
  have := seen_mem he
  simp only [List.mem_toArray, List.mem_cons, List.not_mem_nil, or_false] at this
  exact ⟨ad, this, (ad, v), hm, rfl⟩
theorem way_dr {m : Nat} {c : Code} (q : ∀ t, Way P main s m (gr fn kd n e ds (.inRegion (cO c) (Region.schedule (P.follows .mixedOrders) (cO c) t) :: k) cs)) (hc : ck c = .draw := by rfl) : Way P main s (m + 1) (gr fn kd n e ds (.code c :: k) cs) := by
  have := ck_inv hc
  simp only at this
  rw [this]
  refine .inr ⟨rfl, fun w hK => ⟨_, #[], w.drawn + 1, ?_, by simp, q (w.tape w.drawn (.order fn (cI c)))⟩⟩
  simp [gr, frm, stepG, stepG.exec, choose, Sem.run, Question.forced, Question.cut]
  rfl
theorem way_at {o : Oper} (ho : nthO ops i = some o) (hr : s.recs (gr fn kd n e ds (.inRegion ops (i :: rest) :: k) cs)) (hy : ev0 P (execOp (ev n e) o) = some (.comm s.cases true s.shape)) (hw : wantB ops n e o.guard = true) : Way P main s 0 (gr fn kd n e ds (.inRegion ops (i :: rest) :: k) cs) :=
  ⟨_, hr, rfl, rfl, rfl, rfl, #[], by simp, fun w _ => stepG_comm ho hw hy w⟩
end
end Go.Sl
end
section
set_option linter.unusedVariables false
namespace Go.Sl
open Go.Conc
theorem Spec.less {P : Program} {main : Bool} {B B' : Bad} (hb : BLe B B') {f : FuncId} {args : Array Value} {A : List HP} {Q : Value → List HP → Prop} (h : Spec P main B' f args A Q) : Spec P main B f args A Q :=
  fun R C kd d F c cs hkd hr => h R (C.less hb) kd d F c cs hkd hr
theorem served_gr {fn : FuncId} {kd : Kd} {n : Nat} {e : Nat → Value} {ds : List Deferred} {k : List Item} {cs : List Frame} {ops : Array Oper} {i : Nat} {rest : List Nat} {o : Oper} (ho : nthO ops i = some o) (v : Value) :
    Conc.served (gr fn kd n e ds (.inRegion ops (i :: rest) :: k) cs) v = gr fn kd n (putO e o.dst v) ds (.inRegion ops rest :: k) cs := by
  unfold Conc.served gr
  simp only
  rw [finish_frm (by rw [nthO_eq]; exact ho)]
structure SeatH (rd : Nat → TypeId → Nat → Bool) (s : SeatD) (H : Array Obj) : Prop where
  chans : ∀ c, s.has c → ∃ k, H[c]? = some (.chan 0 #[] false k k false)
  mem : ∀ p ∈ s.mem, p.1.spot = none ∧ ∃ c ty, H[p.1.block]? = some (.cells c ty (0, 0)) ∧ c[p.1.off]? = some p.2 ∧ rd p.1.block ty p.1.off = true
section
variable {P : Program} {Post : Value → World → Prop} {X : Bar} {σ : Gh} {h : Nat} {os : Os} {out : Array (Nat × ByteArray)} {d : Nat} {As As' : List HP}
variable {fn : FuncId} {kd : Kd} {n : Nat} {e : Nat → Value} {ds : List Deferred} {k : List Item} {cs : List Frame}
variable {ops : Array Oper} {i : Nat} {rest : List Nat} {dst : Option Nat} {t : Nat} {ty : TypeId} {pos : String} {af : Array Edge} {gd : Option (Nat × Bool)} {x y : Operand}
theorem seatOk {rd : Nat → TypeId → Nat → Bool} {s : SeatD} {w : World} (hw : s.Wf) (hs : SeatH rd s w.heap) (hsh : ∀ l, s.rd l → ¬ σ.sh l) : SeatOk σ s w :=
  ⟨hw, hs.chans, fun p hp => by
    obtain ⟨h1, c, ty, h2, h3, _⟩ := hs.mem p hp
    exact cell_of h2 h1 h3, hsh⟩
theorem notShun {rd : Nat → TypeId → Nat → Bool} {s : SeatD} {H : Array Obj} (ha : ∀ p ∈ s.mem, ∀ c ty, H[p.1.block]? = some (.cells c ty (0, 0)) → X.sh ty p.1.off = false) (hs : SeatH rd s H) (go : GO X σ H) : ∀ l, s.rd l → ¬ σ.sh l := by
  rintro l ⟨p, hp, rfl⟩ hl
  obtain ⟨a, ea, c, ty, h1, h2, _⟩ := go.shun _ hl
  obtain rfl := Loc.cell.inj ea
  rw [ha p hp c ty h1] at h2; cases h2
theorem RunR.go {x : Deferred} {o : Oper} (s : SeatD) (ho : nthO ops i = some o) (hw : wantB ops n e o.guard = true) (hy : ev0 P (execOp (ev n e) o) = some (.spawn x)) (hx : ∃ f cap, x.target = .fn f cap) (hwf : s.Wf)
    (hs : ∀ H, Sat As (hp H) → SeatH (X.rd 1) s H) (ha : ∀ H, Sat As (hp H) → ∀ p ∈ s.mem, ∀ c ty, H[p.1.block]? = some (.cells c ty (0, 0)) → X.sh ty p.1.off = false) (hway : WayE P false s (child P x)) (hn : σ.n ≠ 0) (hnh : σ.n ≠ h)
    (k' : At (RunR P Post X (σ.hired s) h os out) 0 As (gr fn kd n (putO e o.dst undef) ds (.inRegion ops rest :: k) cs)) :
    At (RunR P Post X σ h os out) 0 As (gr fn kd n e ds (.inRegion ops (i :: rest) :: k) cs) := fun H st hole go w hwp ho' hu => by
  subst hwp
  obtain ⟨m, hway⟩ := hway
  have hS := hs _ st
  refine Run.hire s m #[] rfl (fun w₁ q => stepG_spawn ho hw hy hx w₁) (fun w₁ q => ⟨Nat.le_refl _, fun _ _ h _ => h, fun _ _ _ _ _ h => h, by simp⟩) rfl (seatOk hwf hS (notShun (ha _ st) hS go)) hway ?_
  refine k' _ st ?_ ⟨fun j s' hj => ?_, fun j s' c hj hc => ?_, fun j s' p hj hp => ?_, go.shun, go.bot⟩ w rfl ho' hu
  · show Go.ConcN.upd σ.seats σ.n (some s) h = none
    rw [Go.ConcN.upd_ne _ _ (Ne.symm hnh)]; exact hole
  · have hj : Go.ConcN.upd σ.seats σ.n (some s) j = some s' := hj
    show j < σ.n + 1
    by_cases ej : j = σ.n
    · omega
    · rw [Go.ConcN.upd_ne _ _ ej] at hj
      have := go.lt j s' hj; omega
  · have hj : Go.ConcN.upd σ.seats σ.n (some s) j = some s' := hj
    by_cases ej : j = σ.n
    · subst ej
      rw [Go.ConcN.upd_same] at hj
      obtain rfl := Option.some.inj hj
      obtain ⟨kq, hq⟩ := hS.chans c hc
      exact (Array.getElem?_eq_some_iff.1 hq).1
    · rw [Go.ConcN.upd_ne _ _ ej] at hj
      exact go.cl j s' c hj hc
  · have hj : Go.ConcN.upd σ.seats σ.n (some s) j = some s' := hj
    by_cases ej : j = σ.n
    · subst ej
      rw [Go.ConcN.upd_same] at hj
      obtain rfl := Option.some.inj hj
      obtain ⟨h1, c, ty, h2, _, h4⟩ := hS.mem p hp
      exact ⟨h1, c, ty, h2, by unfold Bar.rd at h4 ⊢; rw [if_neg hn]; rwa [if_neg (by decide)] at h4⟩
    · rw [Go.ConcN.upd_ne _ _ ej] at hj
      exact go.still j s' p hj hp
theorem RunR.give {o : Oper} (hlt : h < σ.n) (j c kk kc : Nat) (s sH : SeatD) (v z z' : Value) (ho : nthO ops i = some o) (hw : wantB ops n e o.guard = true) (hy : ev0 P (execOp (ev n e) o) = some (.comm #[scase c v z'] true .send))
    (hj : σ.seats j = some s) (hk : s.cases[kk]? = some (rcase c z)) (honly : ∀ i s', σ.seats i = some s' → s'.has c → i = j)
    (hc : Upd c (.chan 0 #[] false kc kc false) (.chan 0 #[] false (kc + 1) (kc + 1) false) As As')
    (hwf : sH.Wf) (hs : ∀ H, Sat As (hp H) → SeatH (X.rd h) sH H) (hs' : ∀ H, Sat As' (hp H) → SeatH (X.rd h) sH H) (ha : ∀ H, Sat As (hp H) → ∀ p ∈ sH.mem, ∀ c ty, H[p.1.block]? = some (.cells c ty (0, 0)) → X.sh ty p.1.off = false)
    (hway : WayE P (h == 0) sH (gr fn kd n (putO e o.dst undef) ds (.inRegion ops rest :: k) cs))
    (k' : ∀ r, s.recs r → At (RunR P Post X (σ.given h j sH) j os out) 0 As' (Conc.served r (commResult s.cases s.shape kk v true))) :
    At (RunR P Post X σ h os out) 0 As (gr fn kd n e ds (.inRegion ops (i :: rest) :: k) cs) := fun H st hole go w hwp ho' hu => by
  subst hwp
  obtain ⟨m, hway⟩ := hway
  have hS := hs _ st
  have hcw := hc.has.get st
  have hjh : j ≠ h := fun z => by rw [z, hole] at hj; cases hj
  have st' : Sat As' (hp (w.setChan c 0 #[] false (kc + 1) (kc + 1) false).heap) := by
    have := hc.set st
    have e1 : (w.setChan c 0 #[] false (kc + 1) (kc + 1) false).heap = w.heap.setIfInBounds c (.chan 0 #[] false (kc + 1) (kc + 1) false) := by
      have hcw' : w.heap[c]? = some (.chan 0 #[] false kc kc false) := hcw
      have hlt := (Array.getElem?_eq_some_iff.1 hcw').1
      apply Array.ext_getElem?
      intro b
      by_cases eb : c = b
      · subst eb; rw [heap_setChan_self w hcw', Array.getElem?_setIfInBounds_self_of_lt hlt]
      · rw [heap_setChan_ne w _ _ _ _ _ _ eb, Array.getElem?_setIfInBounds_ne eb]
    rw [e1]; exact this
  have hcell : ∀ (b : Nat) (cc : Array Value) (tt : TypeId), w.heap[b]? = some (.cells cc tt (0, 0)) → (w.setChan c 0 #[] false (kc + 1) (kc + 1) false).heap[b]? = some (.cells cc tt (0, 0)) := fun b cc tt hb => by
    have hcw' : w.heap[c]? = some (.chan 0 #[] false kc kc false) := hcw
    have eb : c ≠ b := fun z => by rw [z, hb] at hcw'; cases hcw'
    rw [heap_setChan_ne w _ _ _ _ _ _ eb]; exact hb
  refine Run.give j c kk kc m s sH v z z' #[] rfl hj hk honly (fun w₁ q => stepG_comm ho hw hy w₁) (fun w₁ q => ⟨Nat.le_refl _, fun _ _ h _ => h, fun _ _ _ _ _ h => h, by simp⟩) rfl hcw (seatOk hwf hS (notShun (ha _ st) hS go)) ?_ (fun r hr => ?_)
  · rw [served_gr ho]; exact hway
  · refine k' r hr _ st' ?_ ⟨fun i' s' hi => ?_, fun i' s' c' hi hc' => ?_, fun i' s' p hi hp => ?_, fun l hl => ?_, by have := go.bot; simpa [World.setChan, Gh.given] using this⟩ _ rfl ho' hu
    · show Go.ConcN.upd (Go.ConcN.upd σ.seats j none) h (some sH) j = none
      rw [Go.ConcN.upd_ne _ _ hjh, Go.ConcN.upd_same]
    · have hi : Go.ConcN.upd (Go.ConcN.upd σ.seats j none) h (some sH) i' = some s' := hi
      by_cases ei : i' = h
      · subst ei; exact hlt
      · rw [Go.ConcN.upd_ne _ _ ei] at hi
        by_cases ej : i' = j
        · subst ej; rw [Go.ConcN.upd_same] at hi; cases hi
        · rw [Go.ConcN.upd_ne _ _ ej] at hi; exact go.lt i' s' hi
    · have hi : Go.ConcN.upd (Go.ConcN.upd σ.seats j none) h (some sH) i' = some s' := hi
      have hsz : (w.setChan c 0 #[] false (kc + 1) (kc + 1) false).heap.size = w.heap.size := by simp [World.setChan]
      rw [hsz]
      by_cases ei : i' = h
      · subst ei
        rw [Go.ConcN.upd_same] at hi
        obtain rfl := Option.some.inj hi
        obtain ⟨kq, hq⟩ := hS.chans c' hc'
        exact (Array.getElem?_eq_some_iff.1 hq).1
      · rw [Go.ConcN.upd_ne _ _ ei] at hi
        by_cases ej : i' = j
        · subst ej; rw [Go.ConcN.upd_same] at hi; cases hi
        · rw [Go.ConcN.upd_ne _ _ ej] at hi; exact go.cl i' s' c' hi hc'
    · have hi : Go.ConcN.upd (Go.ConcN.upd σ.seats j none) h (some sH) i' = some s' := hi
      by_cases ei : i' = h
      · subst ei
        rw [Go.ConcN.upd_same] at hi
        obtain rfl := Option.some.inj hi
        obtain ⟨h1, c1, ty1, h2, _, h4⟩ := (hs' _ st').mem p hp
        exact ⟨h1, c1, ty1, h2, h4⟩
      · rw [Go.ConcN.upd_ne _ _ ei] at hi
        by_cases ej : i' = j
        · subst ej; rw [Go.ConcN.upd_same] at hi; cases hi
        · rw [Go.ConcN.upd_ne _ _ ej] at hi
          obtain ⟨h1, c1, ty1, h2, h3⟩ := go.still i' s' p hi hp
          exact ⟨h1, c1, ty1, hcell _ _ _ h2, h3⟩
    · obtain ⟨a, ea, c1, ty1, h1, h2⟩ := go.shun l hl
      exact ⟨a, ea, c1, ty1, hcell _ _ _ h1, h2⟩
theorem push_get {H : Array Obj} {x o : Obj} {r : Nat} (h : H[r]? = some o) : (H.push x)[r]? = some o := by
  obtain ⟨h1, h2⟩ := Array.getElem?_eq_some_iff.1 h
  rw [Array.getElem?_push_lt h1, h2]
def Gh.hide (σ : Gh) (b : Nat) (os : List Nat) : Gh := { σ with sh := fun l => σ.sh l ∨ ∃ o ∈ os, l = .cell ⟨b, o, none⟩ }
theorem RunR.bx {tt : TypeId} {v0 : Value} {c : Array Value} (hid : List Nat) (ho : nthO ops i = some ⟨some t, .box tt x, ty, pos, af, gd⟩) (hx : ev n e x = v0) (hc : v0.cells = c) (hsh : ∀ o ∈ hid, X.sh tt o = true) (hw : wantB ops n e gd = true)
    (k' : ∀ b, At (RunR P Post X (σ.hide b hid) h os out) d (pts b (.cells c tt (0, 0)) :: As) (gr fn kd n (put e t (.pointer (some ⟨b, 0, none⟩))) ds (.inRegion ops rest :: k) cs)) :
    At (RunR P Post X σ h os out) d As (gr fn kd n e ds (.inRegion ops (i :: rest) :: k) cs) := fun H st hole go w hwp ho' hu => by
  subst hwp
  refine Run.shun (σ.hide w.heap.size hid).sh (fun l hl => .inl hl) (fun l hl hn => ?_) ?_
  · rcases hl with hl | ⟨o, _, rfl⟩
    · exact absurd hl hn
    · exact ⟨_, rfl, Nat.le_refl _⟩
  · have hstep : ∀ w₁, stepG P (h == 0) (gr fn kd n e ds (.inRegion ops (i :: rest) :: k) cs) w₁ = .go (gr fn kd n (put e t (.pointer (some ⟨w₁.heap.size, 0, none⟩))) ds (.inRegion ops rest :: k) cs) { w₁ with heap := w₁.heap.push (.cells c tt (0, 0)) } #[] := fun w₁ => by
      rw [stepG_op ho hw]
      have key : (execOp (ev n e) ⟨some t, .box tt x, ty, pos, af, gd⟩).runT P w₁ #[] = (.ok (.value (.pointer (some ⟨w₁.heap.size, 0, none⟩))) { w₁ with heap := w₁.heap.push (.cells c tt (0, 0)) }, #[]) := by
        unfold execOp
        simp only [hx, Instr.box]
        subst hc
        rfl
      have hkb := kd.early
      simp only [stepG.apply, key, if_true]
      rw [finish_frm (by rw [nthO_eq]; exact ho)]
      simp [frm, GStep.after, gr, hkb, putO, seen_none]
    refine Run.own (fun w₁ => gr fn kd n (put e t (.pointer (some ⟨w₁.heap.size, 0, none⟩))) ds (.inRegion ops rest :: k) cs) (fun w₁ => { w₁ with heap := w₁.heap.push (.cells c tt (0, 0)) }) (fun _ => #[]) rfl (fun w₁ _ => hstep w₁) (fun w₁ q => ?_) (fun w₁ q => ?_)
    · have hp : ∀ (r : Nat) (o : Obj), w₁.heap[r]? = some o → (w₁.heap.push (.cells c tt (0, 0)))[r]? = some o := fun r o hr => push_get hr
      refine ⟨by simp, fun r o hr _ => hp r o hr, fun i' s p _ _ hcell => ?_, by simp⟩
      unfold World.cell? at hcell ⊢
      cases hb : w₁.heap[p.1.block]? with
      | none => rw [hb] at hcell; cases hcell
      | some o => rw [hb] at hcell; simp only [hp _ _ hb]; exact hcell
    · have e1 : w₁.heap = w.heap := q.hp
      show Run P Post (σ.hide w.heap.size hid) h (deafBehind d #[]) _ _
      rw [deafBehind_nil, e1]
      refine k' w.heap.size _ (st.push _) hole ⟨go.lt, fun i' s' c' hi hc' => by have := go.cl i' s' c' hi hc'; simp; omega, fun i' s p hi hp => ?_, fun l hl => ?_, by have := go.bot; simp only [Array.size_push]; exact Nat.le_succ_of_le this⟩ _ rfl (q.os.trans ho') (q.out.trans hu)
      · obtain ⟨h1, c1, ty1, h2, h3⟩ := go.still i' s p hi hp
        exact ⟨h1, c1, ty1, push_get h2, h3⟩
      · rcases hl with hl | ⟨o, hm, rfl⟩
        · obtain ⟨a, ea, c1, ty1, h1, h2⟩ := go.shun l hl
          exact ⟨a, ea, c1, ty1, push_get h1, h2⟩
        · exact ⟨_, rfl, c, tt, by simp, hsh o hm, go.bot⟩
end
end Go.Sl
end
section
set_option linter.unusedVariables false
namespace Go.Sl
open Go.Conc
section
variable {P : Program} {Post : Value → World → Prop} {X : Bar} {σ : Gh} {h : Nat} {os : Os} {out : Array (Nat × ByteArray)} {d : Nat} {As As' As'' : List HP}
variable {fn : FuncId} {kd : Kd} {n : Nat} {e : Nat → Value} {ds : List Deferred} {k : List Item} {cs : List Frame}
variable {ops : Array Oper} {i : Nat} {rest : List Nat} {dst : Option Nat} {t : Nat} {ty : TypeId} {pos : String} {af : Array Edge} {gd : Option (Nat × Bool)} {x y : Operand} {ats : Array TypeId}
theorem stepG_close {main : Bool} {c kc : Nat} (ho : nthO ops i = some ⟨dst, .call ⟨.builtin .close, #[x], ats⟩, ty, pos, af, gd⟩) (hw : wantB ops n e gd = true) (hx : ev n e x = .chan (some c)) (hnr : (P.funcs[fn]?).any (·.norace) = false) {w : World} (hc : w.heap[c]? = some (.chan 0 #[] false kc kc false)) :
    stepG P main (gr fn kd n e ds (.inRegion ops (i :: rest) :: k) cs) w = .go (gr fn kd n (putO e dst (.tuple #[])) ds (.inRegion ops rest :: k) cs) (w.setChan c 0 #[] true kc kc false) (closeEvents c) := by
  rw [stepG_op ho hw]
  have key : (execOp (ev n e) ⟨dst, .call ⟨.builtin .close, #[x], ats⟩, ty, pos, af, gd⟩).runT P w #[] = (.ok (.value (.tuple #[])) (w.setChan c 0 #[] true kc kc false), closeEvents c) := by
    have h1 : ev0 P (resolve (ev n e) ⟨.builtin .close, #[x], ats⟩ ty) = some ⟨.builtin .close ats ty (#[x].map fun a => a matches .const _), #[.chan (some c)]⟩ := by
      unfold resolve
      simp only [List.map_toArray, List.map_cons, List.map_nil, hx]
      rfl
    show ((resolve (ev n e) ⟨.builtin .close, #[x], ats⟩ ty) >>= fun d => invoke d.target d.args).runT P w #[] = _
    rw [runT_ev0 h1]
    show ((Builtin.close_ ats ty #[.chan (some c)]).bind fun v => Sem.pure (Next.value v)).runT P w #[] = _
    have key2 : (Builtin.close_ ats ty #[.chan (some c)]).runT P w #[] = (.ok (.tuple #[]) (w.setChan c 0 #[] true kc kc false), closeEvents c) := Prod.ext ((Sem.runT_fst P _ w #[]).trans (Go.run_close_open ats ty hc)) (Go.events_close_open (es := #[]) ats ty hc)
    rw [Sem.runT_bind', key2]
    rfl
  have hkb := kd.early
  have hseen : seen P fn (closeEvents c) = closeEvents c := seen_eq hnr (fun e he f => by
    simp only [closeEvents, List.mem_toArray, List.mem_cons, List.not_mem_nil, or_false] at he
    rcases he with rfl | rfl <;> (intro z; cases z))
  simp only [stepG.apply, key, if_true]
  rw [finish_frm (by rw [nthO_eq]; exact ho)]
  simp [frm, GStep.after, gr, hkb, hseen]
theorem RunR.shut (L : List Nat) (G : Grp) (c kc : Nat) (Fin : Goroutine → Prop) (ho : nthO ops i = some ⟨dst, .call ⟨.builtin .close, #[x], ats⟩, ty, pos, af, gd⟩) (hw : wantB ops n e gd = true) (hx : ev n e x = .chan (some c)) (hnr : (P.funcs[fn]?).any (·.norace) = false)
    (nd : L.Nodup) (len : L.length ≤ 4) (hL : ∀ i ∈ L, ∃ s cw z0 z1, σ.seats i = some s ∧ s.cases = #[rcase cw z0, rcase c z1] ∧ cw ≠ c ∧ ∃ N, ∀ r, s.recs r → Cl P G N .rel (Conc.served r (commResult s.cases s.shape 1 z1 false)))
    (honly : ∀ i s, σ.seats i = some s → s.has c → i ∈ L) (ok : G.Ok) (e1 : G.cs[G.o1]? = some (stV L.length 0)) (e2 : G.cs[G.o2]? = some (smV 0)) (shs : σ.sh (.cell G.st)) (shm : σ.sh (.cell G.sm))
    (hc : Upd c (.chan 0 #[] false kc kc false) (.chan 0 #[] true kc kc false) As As') (hb : Upd G.blk (.cells G.cs G.ty (0, 0)) (.cells (G.row (stV 0 0) (smV 0)) G.ty (0, 0)) As' As'')
    (hm : MW P G Fin (.dis L.length) (gr fn kd n (putO e dst (.tuple #[])) ds (.inRegion ops rest :: k) cs))
    (k' : ∀ a, Fin a → At (RunR P Post X (σ.joined L) 0 os out) 0 As'' a) :
    At (RunR P Post X σ 0 os out) 0 As (gr fn kd n e ds (.inRegion ops (i :: rest) :: k) cs) := fun H st hole go w hwp ho' hu => by
  subst hwp
  have hcw : w.heap[c]? = some (.chan 0 #[] false kc kc false) := hc.has.get st
  have st' : Sat As' (hp (w.setChan c 0 #[] true kc kc false).heap) := hc.set st
  have hbw : (w.setChan c 0 #[] true kc kc false).heap[G.blk]? = some (.cells G.cs G.ty (0, 0)) := hb.has.get st'
  have hbc : c ≠ G.blk := fun z => by
    rw [← z, heap_setChan_self w hcw] at hbw; cases hbw
  have hbw0 : w.heap[G.blk]? = some (.cells G.cs G.ty (0, 0)) := by rw [heap_setChan_ne w _ _ _ _ _ _ hbc] at hbw; exact hbw
  obtain ⟨N0, hN⟩ : ∃ N0, ∀ i ∈ L, ∃ s cw z0 z1, σ.seats i = some s ∧ s.cases = #[rcase cw z0, rcase c z1] ∧ cw ≠ c ∧ ∀ r, s.recs r → Cl P G N0 .rel (Conc.served r (commResult s.cases s.shape 1 z1 false)) := by
    clear k' nd len honly e1 hm
    induction L with
    | nil => exact ⟨0, by simp⟩
    | cons j L ih =>
      obtain ⟨N1, h1⟩ := ih (fun i hi => hL i (List.mem_cons_of_mem _ hi))
      obtain ⟨s, cw, z0, z1, a1, a2, a3, N2, a4⟩ := hL j (List.mem_cons_self ..)
      refine ⟨max N1 N2, fun i hi => ?_⟩
      rcases List.mem_cons.1 hi with rfl | hi
      · exact ⟨s, cw, z0, z1, a1, a2, a3, fun r hr => (a4 r hr).mono (Nat.le_max_right ..)⟩
      · obtain ⟨s, cw, z0, z1, a1, a2, a3, a4⟩ := h1 i hi
        exact ⟨s, cw, z0, z1, a1, a2, a3, fun r hr => (a4 r hr).mono (Nat.le_max_left ..)⟩
  refine Run.shut L G c kc N0 Fin rfl hcw (fun w₁ q => stepG_close ho hw hx hnr (by rw [q.hp]; exact hcw)) ?_ rfl nd len hN honly ok hbw0 e1 e2 shs shm hm (fun a'' w'' hf hwg => ?_)
  · rw [← nthO_eq] at ho
    simp [mayWake, gr, frm, ho]
  · have hh : w''.heap = (w.setChan c 0 #[] true kc kc false).heap.setIfInBounds G.blk (.cells (G.row (stV 0 0) (smV 0)) G.ty (0, 0)) := hwg.hp
    have st'' : Sat As'' (hp w''.heap) := by rw [hh]; exact hb.set st'
    have hcell : ∀ (b : Nat) (cc : Array Value) (tt : TypeId), w.heap[b]? = some (.cells cc tt (0, 0)) → ∃ cc', w''.heap[b]? = some (.cells cc' tt (0, 0)) := fun b cc tt hb' => by
      have eb : c ≠ b := fun z => by rw [z, hb'] at hcw; cases hcw
      rw [hh]
      by_cases e3 : b = G.blk
      · subst e3
        rw [hbw0] at hb'
        cases hb'
        exact ⟨_, Array.getElem?_setIfInBounds_self_of_lt (by have := (Array.getElem?_eq_some_iff.1 hbw).1; exact this)⟩
      · exact ⟨cc, by rw [Array.getElem?_setIfInBounds_ne (Ne.symm e3), heap_setChan_ne w _ _ _ _ _ _ eb]; exact hb'⟩
    refine k' a'' hf _ st'' ?_ ⟨fun i' s' hi => ?_, fun i' s' c' hi hc' => ?_, fun i' s' p hi hp => ?_, fun l hl => ?_, ?_⟩ w'' rfl (hwg.os.trans ho') (hwg.out.trans hu)
    · show (if 0 ∈ L then none else σ.seats 0) = none
      split
      · rfl
      · exact hole
    · have hi : (if i' ∈ L then none else σ.seats i') = some s' := hi
      split at hi
      · cases hi
      · exact go.lt i' s' hi
    · have hi : (if i' ∈ L then none else σ.seats i') = some s' := hi
      split at hi
      · cases hi
      · have := go.cl i' s' c' hi hc'
        rw [hh]
        simpa [World.setChan] using this
    · have hi : (if i' ∈ L then none else σ.seats i') = some s' := hi
      split at hi
      · cases hi
      · obtain ⟨h1, c1, ty1, h2, h3⟩ := go.still i' s' p hi hp
        obtain ⟨c2, h4⟩ := hcell _ _ _ h2
        exact ⟨h1, c2, ty1, h4, h3⟩
    · obtain ⟨a, ea, c1, ty1, h1, h2⟩ := go.shun l hl
      obtain ⟨c2, h4⟩ := hcell _ _ _ h1
      exact ⟨a, ea, c2, ty1, h4, h2⟩
    · rw [hh, Array.size_setIfInBounds]
      have := go.bot
      simpa [World.setChan, Gh.joined] using this
theorem RunR.done {fu : Func} {cc : Code} {n' : Nat} [b : Body P fn fu cc n'] {kR : List Item} {v : Value} (hv : resV fu n e = some v) (hi : P.inits.idxOf? fn = none) (hn : ∀ i, σ.seats i = none) (hp : ∀ w : World, Sat As (hp w.heap) → w.os = os → w.output = out → Post v w) :
    At (RunR P Post X σ 0 os out) 0 As (grR fn .nor n e [] kR []) := fun H st hole go w hwp ho' hu => by
  subst hwp
  refine Run.done v rfl (fun w₁ q => ?_) hn (fun w₁ q => hp w₁ (by rw [q.hp]; exact st) (q.os.trans ho') (q.out.trans hu))
  have r := ev0_run (ev0_results (P := P) hv) w₁ #[]
  simp only [grR, frmR, frm, stepG, unwind, b.func, r, doReturn, Kd.k]
  simp [GStep.after, seen_none, hi]
end
def Away (σ : Gh) (b : Nat) : Prop := ∀ i s p, σ.seats i = some s → p ∈ s.mem → p.1.block ≠ b
theorem Away.blk {σ : Gh} {b : Nat} (h : Away σ b) : σ.blk b = false := by
  cases e : σ.blk b with
  | false => rfl
  | true =>
    unfold Gh.blk at e
    obtain ⟨i, _, h2⟩ := List.any_eq_true.1 e
    cases es : σ.seats i with
    | none => rw [es] at h2; cases h2
    | some s =>
      rw [es] at h2
      obtain ⟨p, hp, hb⟩ := List.any_eq_true.1 h2
      exact absurd (by simpa using hb) (h i s p es hp)
theorem Away.rd {X : Bar} {σ : Gh} {b : Nat} (h : Away σ b) (ty : TypeId) (o : Nat) : (X.bw σ).rd b ty o = false := by
  show (X.mkd ty o && σ.blk b) = false
  rw [h.blk, Bool.and_false]
theorem GO.away {X : Bar} {σ : Gh} {H : Array Obj} (g : GO X σ H) {b : Nat} (hb : H.size ≤ b) : Away σ b := fun i s p e hp z => by
  obtain ⟨_, c, ty, h2, _⟩ := g.still i s p e hp
  have := (Array.getElem?_eq_some_iff.1 h2).1
  omega
section
variable {P : Program} {Post : Value → World → Prop} {X : Bar} {σ : Gh} {os : Os} {out : Array (Nat × ByteArray)} {d : Nat} {As F : List HP}
variable {fn : FuncId} {kd : Kd} {n : Nat} {e : Nat → Value} {ds : List Deferred} {k : List Item} {cs : List Frame}
variable {ops : Array Oper} {i : Nat} {rest : List Nat} {t : Nat} {ty : TypeId} {pos : String} {af : Array Edge} {gd : Option (Nat × Bool)}
theorem RunR.al {tt : TypeId} {z : Value} {c : Array Value} [cz : Zv P tt z] (ho : nthO ops i = some ⟨some t, .alloc tt, ty, pos, af, gd⟩) (h : ∀ b, Away σ b → At (RunR P Post X σ 0 os out) d (pts b (.cells c tt (0, 0)) :: As) (gr fn kd n (put e t (.pointer (some ⟨b, 0, none⟩))) ds (.inRegion ops rest :: k) cs))
    (hc : z.cells = c := by first | (simp only [Value.cells]; done) | (simp only [Value.cells]; rfl) | rfl) (hw : wantB ops n e gd = true := by rfl) : At (RunR P Post X σ 0 os out) d As (gr fn kd n e ds (.inRegion ops (i :: rest) :: k) cs) := fun H st hole go w hwp ho' hu => by
  have C : Closed P true (X.bw σ) (RunR P Post X σ 0 os out) := RunR.closed0
  refine C.op (H := H) (d := d) (fn := fn) (kd := kd) (n := n) (e := e) (ds := ds) (k := k) (cs := cs) (ops := ops) (i := i) (rest := rest) (by rw [nthO_eq]; exact ho) (by rw [wanted_eq]; exact hw) ?_ hole go w hwp ho' hu
  unfold execOp; simp only [Instr.alloc]
  subst hc
  refine okS_do (okS_do (pu_zero _ H d _ ?_))
  exact h _ (go.away (Nat.le_refl _)) _ (st.push _)
theorem RunR.ap {α : Type} {f : α → List Value} {z : Nat} [rf : RowF f z] {el tt t3 el3 bz : Nat} {zv : Value} {m l : List α} {s : SliceV} {yv : Value} {x y : Operand} [cE : El P tt el] [cE3 : El P t3 el3] [Cz P el z] [cB : Bz P el bz] [Zv P el zv]
    (ho : nthO ops i = some ⟨some t, .call ⟨.builtin .append, #[x, y], #[tt, t3]⟩, ty, pos, af, gd⟩) (hf : Fo (slP f z el s l) As F) (haw : ∀ b, s.a = some ⟨b, 0, none⟩ → Away σ b) (hsh : ∀ j, X.sh el j = false)
    (hsrc : ∀ H, Sat (slP f z el s l :: F) (hp H) → SrcOk (X.bw σ) H z m.length yv (flat f m)) (h : ∀ s', s'.len = l.length + m.length → (∀ b, s'.a = some ⟨b, 0, none⟩ → Away σ b) → At (RunR P Post X σ 0 os out) d (slP f z el s' (l ++ m) :: F) (gr fn kd n (put e t s'.v) ds (.inRegion ops rest :: k) cs))
    (hsz : (l.length + m.length) * bz ≤ 140737488355328) (hzv : zv.cells.size = z) (hb0 : bz ≠ 0) (hx : ev n e x = s.v) (hy : ev n e y = yv) (hw : wantB ops n e gd = true := by rfl) : At (RunR P Post X σ 0 os out) d As (gr fn kd n e ds (.inRegion ops (i :: rest) :: k) cs) := fun H st hole go w hwp ho' hu => by
  have C : Closed P true (X.bw σ) (RunR P Post X σ 0 os out) := RunR.closed0
  refine C.op (H := H) (d := d) (fn := fn) (kd := kd) (n := n) (e := e) (ds := ds) (k := k) (cs := cs) (ops := ops) (i := i) (rest := rest) (by rw [nthO_eq]; exact ho) (by rw [wanted_eq]; exact hw) ?_ hole go w hwp ho' hu
  have st' := st.perm hf.perm
  unfold execOp; simp only [resolve]
  refine okS_do (okS_pure ?_)
  simp only [List.map_toArray, List.map_cons, List.map_nil, hx, hy]
  unfold invoke builtin
  refine okS_do ?_
  refine okS_append rf.len rf.one hzv (fun b j hs => (haw b hs).rd _ _) (fun j => hsh j) hb0 hsz st' (hsrc H st') fun s'' H' hl ha hs => okS_pure ?_
  refine h s'' hl (fun b hb => ?_) _ hs
  rcases ha with ha | ha
  · exact haw b (ha ▸ hb)
  · rw [hb] at ha
    obtain rfl : b = H.size := by simpa using ha
    exact go.away (Nat.le_refl _)
end
def SpecG (P : Program) (X : Bar) (f : FuncId) (args : Array Value) (σ : Gh) (A : List HP) (Q : Value → Gh → List HP → Prop) : Prop :=
  ∀ (Post : Value → World → Prop) (os : Os) (out : Array (Nat × ByteArray)) (kd : Kd) (F : List HP) (c : Frame) (cs : List Frame), KdOk kd c → (∀ v σ' As', Q v σ' As' → At (RunR P Post X σ' 0 os out) 0 (As' ++ F) (after kd c cs v)) → At (RunR P Post X σ 0 os out) 0 (A ++ F) (enterG P f args kd (c :: cs))
section
variable {P : Program} {Post : Value → World → Prop} {X : Bar} {σ : Gh} {os : Os} {out : Array (Nat × ByteArray)} {d : Nat} {As F : List HP}
variable {fn : FuncId} {kd : Kd} {n : Nat} {e : Nat → Value} {ds : List Deferred} {k : List Item} {cs : List Frame}
variable {ops : Array Oper} {i : Nat} {rest : List Nat} {dst : Option Nat} {t : Nat} {ty : TypeId} {pos : String} {af : Array Edge} {gd : Option (Nat × Bool)} {x y : Operand} {ats : Array TypeId}
theorem SpecG.of {f : FuncId} {fu : Func} {c : Code} {nf : Nat} [b : Body P f fu c nf] {args : Array Value} {A : List HP} {Q : Value → Gh → List HP → Prop}
    (h : ∀ (Post : Value → World → Prop) (os : Os) (out : Array (Nat × ByteArray)) (kd : Kd) (F : List HP) (c' : Frame) (cs : List Frame), Closed P true (X.bw σ) (RunR P Post X σ 0 os out) → KdOk kd c' → (∀ v σ' As', Q v σ' As' → At (RunR P Post X σ' 0 os out) 0 (As' ++ F) (after kd c' cs v)) → At (RunR P Post X σ 0 os out) 0 (A ++ F) (gr f kd nf (argE args) [] [.code c] (c' :: cs)))
    (hn : Nat.ble args.size nf = true := by rfl) : SpecG P X f args σ A Q := fun Post os out kd F c' cs hkd hr => by
  rw [enterG_eq b.func b.body (by rw [b.tmps]; exact Nat.le_of_ble_eq_true hn), b.tmps]
  exact h Post os out kd F c' cs RunR.closed0 hkd hr
theorem Spec.g {f : FuncId} {args : Array Value} {A : List HP} {Q : Value → List HP → Prop} (h : Spec P true (X.bw σ) f args A Q) : SpecG P X f args σ A (fun v σ' As' => σ' = σ ∧ Q v As') :=
  fun Post os out kd F c cs hkd hr => h _ RunR.closed0 kd 0 F c cs hkd fun v As' q => hr v σ As' ⟨rfl, q⟩
theorem SpecG.post {f : FuncId} {args : Array Value} {A : List HP} {Q Q' : Value → Gh → List HP → Prop} (h : SpecG P X f args σ A Q) (hq : ∀ v σ' As', Q v σ' As' → Q' v σ' As') : SpecG P X f args σ A Q' :=
  fun Post os out kd F c cs hkd hr => h Post os out kd F c cs hkd fun v σ' As' q => hr v σ' As' (hq v σ' As' q)
theorem RunR.cl {f : FuncId} {fu : Func} {c : Code} {nf : Nat} [b : Body P f fu c nf] {fo : Operand} {args : Array Operand} {ats : Array TypeId} {a1 a2 : Array Value} {vl : List Value} {A : List HP} {Q : Value → Gh → List HP → Prop} (hs : SpecG P X f (a1 ++ vl.toArray ++ a2) σ A Q)
    (h : ∀ v σ' As', Q v σ' As' → At (RunR P Post X σ' 0 os out) 0 (As' ++ F) (gr fn kd n (putO e dst v) ds (.inRegion ops rest :: k) cs))
    (ho : nthO ops i = some ⟨dst, .call ⟨.value fo, args, ats⟩, ty, pos, af, gd⟩ := by rfl) (hv : args.toList.map (ev n e) = vl := by rfl) (hf : ev n e fo = .func (.func f) a1 a2 := by rfl)
    (hr : ReF A As F := by repeat (first | with_reducible exact ReF.nil | with_reducible exact Fo.head | with_reducible apply Fo.tail | with_reducible apply ReF.cons)) (hw : wantB ops n e gd = true := by rfl) : At (RunR P Post X σ 0 os out) 0 As (gr fn kd n e ds (.inRegion ops (i :: rest) :: k) cs) := by
  refine At.perm hr.perm ?_
  have hv' : args.map (ev n e) = vl.toArray := by rw [← hv, ← Array.toList_map, Array.toArray_toList]
  have C : Closed P true (X.bw σ) (RunR P Post X σ 0 os out) := RunR.closed0
  intro H st
  refine C.still (g' := enterG P f (a1 ++ vl.toArray ++ a2) .nor (frm fn kd n e ds (.inRegion ops (i :: rest) :: k) :: cs)) rfl (fun w => stepG_ent (f := f) (args := a1 ++ vl.toArray ++ a2) ho hw (by
    unfold execOp
    simp only
    refine ev0_do (a := ⟨.fn (.func f) a2, a1 ++ vl.toArray⟩) ?_ ?_
    · unfold resolve
      simp only [hf, Deferred.ofValue, hv']; rfl
    · exact ev0_callFunc _) w) ?_
  refine hs Post os out .nor F _ cs trivial (fun v σ' As' q => ?_) H st
  show At _ 0 _ (backTo _ cs v)
  rw [finish_gr ho]
  exact h v σ' As' q
theorem loopG {c : Code} {Y : Type} (S : Y → Gh) (L : Y → List (Nat × Value)) (I : Y → List HP) (Ok : Y → Prop) (m : Y → Nat) (x0 : Y) (hS : σ = S x0) (he : EnvIs e (L x0)) (hok : Ok x0)
    (step : ∀ x e, Ok x → (∀ y e' As', Ok y → m y < m x → EnvIs e' (L y) → Reo As' (I y) → At (RunR P Post X (S y) 0 os out) 0 As' (gr fn kd n e' ds (.inLoop (cB c) :: k) cs)) → At (RunR P Post X (S x) 0 os out) 0 (I x) (gr fn kd n (puts e (L x)) ds (.code (cB c) :: .inLoop (cB c) :: k) cs))
    (hI : Reo As (I x0) := by (try simp only [List.cons_append, List.nil_append]); repeat (first | with_reducible exact Reo.refl | with_reducible exact Reo.nil | with_reducible exact Fo.head | with_reducible apply Fo.tail | with_reducible apply Reo.cons | with_reducible apply Reo.drop)) (hc : ck c = .loop := by rfl) : At (RunR P Post X σ 0 os out) 0 As (gr fn kd n e ds (.code c :: k) cs) := by
  subst hS
  have key : ∀ (N : Nat) (x : Y) (e : Nat → Value) (As : List HP), m x = N → EnvIs e (L x) → Ok x → Reo As (I x) → At (RunR P Post X (S x) 0 os out) 0 As (gr fn kd n e ds (.inLoop (cB c) :: k) cs) := by
    intro N
    induction N using Nat.strongRecOn with
    | ind N ih =>
      intro x e As hm he hok hr
      have C : Closed P true (X.bw (S x)) (RunR P Post X (S x) 0 os out) := RunR.closed0
      refine At.reo hr (C.ilp ?_)
      rw [← puts_eq he]
      exact step x e hok fun y e' As' hy hlt he' hr' => ih (m y) (by omega) y e' As' rfl he' hy hr'
  have C : Closed P true (X.bw (S x0)) (RunR P Post X (S x0) 0 os out) := RunR.closed0
  refine At.reo hI (C.lp ?_ hc)
  rw [← puts_eq he]
  exact step x0 e hok fun y e' As' hy hlt he' hr' => key _ y e' As' rfl he' hy hr'
theorem againG {c : Code} {Y : Type} {S : Y → Gh} {L : Y → List (Nat × Value)} {I : Y → List HP} {Ok : Y → Prop} {m : Y → Nat} {x0 : Y} {body : Code} (ih : ∀ y e' As', Ok y → m y < m x0 → EnvIs e' (L y) → Reo As' (I y) → At (RunR P Post X (S y) 0 os out) 0 As' (gr fn kd n e' ds (.inLoop body :: k) cs)) (y : Y) (hS : σ = S y) (hy : Ok y) (hm : m y < m x0)
    (he : EnvIs e (L y) := by repeat (first | exact trivial | refine And.intro rfl ?_)) (hr : Reo As (I y) := by (try simp only [List.cons_append, List.nil_append]); repeat (first | with_reducible exact Reo.refl | with_reducible exact Reo.nil | with_reducible exact Fo.head | with_reducible apply Fo.tail | with_reducible apply Reo.cons | with_reducible apply Reo.drop)) : At (RunR P Post X σ 0 os out) 0 As (gr fn kd n e ds (.inLoop body :: k) cs) := by
  subst hS; exact ih y e As hy hm he hr
theorem RunR.retR {fu : Func} {cc : Code} {n' : Nat} [b : Body P fn fu cc n'] {c : Frame} {v : Value} {x : Code} {Q : Value → Gh → List HP → Prop} {A : List HP} (hkd : KdOk kd c) (hret : ∀ v σ' As', Q v σ' As' → At (RunR P Post X σ' 0 os out) 0 (As' ++ F) (after kd c cs v)) (q : Q v σ A) (hv : resV fu n e = some v := by rfl) (hx : ck x = .ret := by rfl)
    (hr : ReF A As F := by repeat (first | with_reducible exact ReF.nil | with_reducible exact Fo.head | with_reducible apply Fo.tail | with_reducible apply ReF.cons)) : At (RunR P Post X σ 0 os out) 0 As (gr fn kd n e [] (.code x :: k) (c :: cs)) := by
  have C : Closed P true (X.bw σ) (RunR P Post X σ 0 os out) := RunR.closed0
  exact At.perm hr.perm (C.ret0 hkd (hret v σ A q) hv hx)
theorem RunR.finR {fu : Func} {cc : Code} {n' : Nat} [b : Body P fn fu cc n'] {c : Frame} {v : Value} {Q : Value → Gh → List HP → Prop} {A : List HP} (hkd : KdOk kd c) (hret : ∀ v σ' As', Q v σ' As' → At (RunR P Post X σ' 0 os out) 0 (As' ++ F) (after kd c cs v)) (q : Q v σ A) (hv : resV fu n e = some v := by rfl)
    (hr : ReF A As F := by repeat (first | with_reducible exact ReF.nil | with_reducible exact Fo.head | with_reducible apply Fo.tail | with_reducible apply ReF.cons)) : At (RunR P Post X σ 0 os out) 0 As (gr fn kd n e [] [] (c :: cs)) := by
  have C : Closed P true (X.bw σ) (RunR P Post X σ 0 os out) := RunR.closed0
  exact At.perm hr.perm (C.fin0 hkd (hret v σ A q) hv)
end
end Go.Sl
end
