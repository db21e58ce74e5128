/-
  Texts that the proof needs, joined: part 4.
-/
import Derived.Test.YtjomdboiibakiaaGreatDoorCtC
set_option linter.unusedSimpArgs false
set_option linter.unusedVariables false
section
set_option linter.unusedVariables false
namespace Go.Sl
open Go.Proofs Go.Conc
def txAt (l : List TxV) (k : Int) : Option TxV := if k < 0 then none else l[k.toNat]?
theorem cresult_spec {σ : Gh} {c : CV} {k : Int} {I : HL} (hJ : CvJ I c) (hl : c.txs.length ≤ 60) : SpecG Tryz.prog barX 39 #[ptrV c.G.b, .int .i64 k] σ [cvP c, imm I]
  (fun v σ' As => σ' = σ ∧ ∃ (sl : SliceV) (n : Int) (rd : List Int), v = .tuple #[.int .i64 n, sl.v] ∧ (match txAt c.txs k with | none => n = 0 ∧ rd = [] | some t => n = t.state ∧ rd = t.reads) ∧ As = [slP i32C 1 21 sl rd, cvP c, imm I]) := by
 refine SpecG.of ?_
 intro Post os out kd F c' cs C hkd hret
 simp only [List.cons_append, List.nil_append]
 obtain ⟨G, hosts, bag, txs, stopped⟩ := c
 refine cvP.opn (h := fun hs bg tx => ?_)
 dsimp only at hl
 refine C.go ?_
 refine C.rg [0, 1] ?_
 refine C.asg rfl ?_
 refine C.asg rfl ?_
 refine C.go ?_
 refine C.rg [0, 1, 2, 3] ?_
 refine C.mv rfl ?_
 refine C.nc rfl ?_
 refine C.fa rfl ?_
 refine C.clR mlock_spec ?_
 rintro v As' ⟨rfl, rfl⟩
 simp only [List.cons_append, List.nil_append]
 refine C.go ?_
 refine C.rg [0, 1, 2, 3] ?_
 refine C.mv rfl ?_
 refine C.nc rfl ?_
 refine C.fa rfl ?_
 refine C.df rfl ?_
 refine C.go ?_
 refine C.rg [0, 1, 2, 3, 4, 5, 6, 7, 8, 9, 10] ?_
 refine C.mv rfl ?_
 refine C.cmp rfl (fun h14 => ?_) (fun h14 => ?_)
 ·skip
  refine C.mv rfl ?_
  refine C.no rfl ?_
  refine C.no rfl ?_
  refine C.no rfl ?_
  refine C.no rfl ?_
  refine C.no rfl ?_
  refine C.no rfl ?_
  refine C.no rfl ?_
  refine C.pk rfl ?_
  refine C.go ?_
  refine C.tru ?_
  refine C.rg [0, 1] ?_
  refine C.asg rfl ?_
  refine C.asg rfl ?_
  refine C.go ?_
  refine C.rtA ?_
  refine RunR.dfr (Spec.g unlock_spec) ?_
  rintro v σ' As' ⟨rfl, rfl, rfl⟩
  simp only [List.cons_append, List.nil_append]
  refine C.home (fu := Tryz.f39) Tryz.func39 hkd rfl ?_
  refine At.nilS i32C 1 21 ?_
  refine cvP.cls (m := 0) ⟨G, hosts, bag, txs, stopped⟩ ?_
  refine At.reo ?_ (hret _ _ _ ⟨rfl, nilS, 0, [], rfl, by unfold txAt; rw [if_pos h14]; exact ⟨rfl, rfl⟩, rfl⟩)
  ((try simp only [List.cons_append, List.nil_append]); (repeat (first | with_reducible exact Reo.refl | with_reducible exact Reo.nil | with_reducible exact Fo.head | with_reducible apply Fo.tail | with_reducible apply Reo.cons | with_reducible apply Reo.drop)); done)
 ·skip
  refine C.mv rfl ?_
  refine C.mv rfl ?_
  refine C.mv rfl ?_
  refine C.nc rfl ?_
  refine C.fa rfl ?_
  refine C.ld rfl ?_
  refine C.lnR rfl ?_ (s := tx) (l := txs) (f := txC)
  refine C.cmp rfl (fun h22 => ?_) (fun h22 => ?_)
  ·skip
   refine C.pk rfl ?_
   refine C.go ?_
   refine C.tru ?_
   refine C.rg [0, 1] ?_
   refine C.asg rfl ?_
   refine C.asg rfl ?_
   refine C.go ?_
   refine C.rtA ?_
   refine RunR.dfr (Spec.g unlock_spec) ?_
   rintro v σ' As' ⟨rfl, rfl, rfl⟩
   simp only [List.cons_append, List.nil_append]
   refine C.home (fu := Tryz.f39) Tryz.func39 hkd rfl ?_
   refine At.nilS i32C 1 21 ?_
   refine cvP.cls (m := 0) ⟨G, hosts, bag, txs, stopped⟩ ?_
   refine At.reo ?_ (hret _ _ _ ⟨rfl, nilS, 0, [], rfl, by unfold txAt; rw [if_neg h14, List.getElem?_eq_none (show txs.length ≤ k.toNat by omega)]; exact ⟨rfl, rfl⟩, rfl⟩)
   ((try simp only [List.cons_append, List.nil_append]); (repeat (first | with_reducible exact Reo.refl | with_reducible exact Reo.nil | with_reducible exact Fo.head | with_reducible apply Fo.tail | with_reducible apply Reo.cons | with_reducible apply Reo.drop)); done)
  ·skip
   refine C.pk rfl ?_
   refine C.go ?_
   refine C.fls ?_
   obtain ⟨q, rfl⟩ := Int.eq_ofNat_of_zero_le (show 0 ≤ k by omega)
   have hq : q < txs.length := by omega
   have hto : imSl I i32C 21 txs[q].sr txs[q].reads := (hJ.txs _ (List.getElem_mem hq)).r
   have htz : txs[q].reads.length < 2 ^ 20 := (hJ.txs _ (List.getElem_mem hq)).z
   refine C.drawnW [(24, 0), (25, 1), (26, 2), (27, 3), (28, 4), (29, 5), (30, 6), (31, 7), (32, 8), (33, 9), (34, 10), (35, 11), (36, 12), (37, 13), (38, 14), (39, 15), (40, 16), (4, 17), (5, 18)] [0, 1, 2, 3, 4, 5, 6, 7, 8, 9, 10, 11, 12, 13, 14, 15, 17] [16, 18] 2 ?_ (W := [clP G.b 1 hs.v bg.v tx.v (.chan (some G.dn)) stopped (CV.st ⟨G, hosts, bag, txs, stopped⟩), slP txC 3 126 tx txs])
   refine Dr.pu ⟨_, rfl, rfl⟩ (fun _ _ _ h => C.mv rfl h) ?_
   refine Dr.pu ⟨_, rfl, rfl⟩ (fun _ _ _ h => C.nc rfl h) ?_
   refine Dr.pu ⟨_, rfl, rfl⟩ (fun _ _ _ h => C.fa rfl h) ?_
   refine Dr.ld ⟨_, rfl, rfl⟩ (fun _ hE _ _ h => C.ld rfl h) ?_
   refine Dr.pu ⟨_, rfl, rfl⟩ (fun _ _ _ h => C.mv rfl h) ?_
   refine Dr.ld ⟨_, rfl, rfl⟩ (fun _ hE _ _ h => C.iaR rfl h) ?_
   refine Dr.pu ⟨_, rfl, rfl⟩ (fun _ _ _ h => C.fa rfl h) ?_
   refine Dr.ld ⟨_, rfl, rfl⟩ (fun _ hE _ _ h => C.ldR rfl h) ?_
   refine Dr.pu ⟨_, rfl, rfl⟩ (fun _ _ _ h => C.mv rfl h) ?_
   refine Dr.pu ⟨_, rfl, rfl⟩ (fun _ _ _ h => C.nc rfl h) ?_
   refine Dr.pu ⟨_, rfl, rfl⟩ (fun _ _ _ h => C.fa rfl h) ?_
   refine Dr.ld ⟨_, rfl, rfl⟩ (fun _ hE _ _ h => C.ld rfl h) ?_
   refine Dr.pu ⟨_, rfl, rfl⟩ (fun _ _ _ h => C.mv rfl h) ?_
   refine Dr.ld ⟨_, rfl, rfl⟩ (fun _ hE _ _ h => C.iaR rfl h) ?_
   refine Dr.pu ⟨_, rfl, rfl⟩ (fun _ _ _ h => C.fa rfl h) ?_
   refine Dr.ld ⟨_, rfl, rfl⟩ (fun _ hE _ _ h => C.ldR rfl h) ?_
   refine Dr.pu ⟨_, rfl, rfl⟩ (fun _ _ _ h => C.asg rfl h) ?_
   refine Dr.chain rfl ?_ (fun _ s => Reo.sat (by ((try simp only [List.cons_append, List.nil_append]); (repeat (first | with_reducible exact Reo.refl | with_reducible exact Reo.nil | with_reducible exact Fo.head | with_reducible apply Fo.tail | with_reducible apply Reo.cons | with_reducible apply Reo.drop)); done)) s)
   refine Ch.n1 (t := 16) rfl ⟨_, rfl, fun e rest hk => ?_⟩
   refine C.clR (Spec.less (barLe _) (clone32_spec hto (Nat.lt_trans htz (by decide)))) ?_
   rintro v As' ⟨s', rfl, rfl⟩
   simp only [List.cons_append, List.nil_append]
   refine hk _ _ (.of (fun _ s => Reo.sat (by ((try simp only [List.cons_append, List.nil_append]); (repeat (first | with_reducible exact Reo.refl | with_reducible exact Reo.nil | with_reducible exact Fo.head | with_reducible apply Fo.tail | with_reducible apply Reo.cons | with_reducible apply Reo.drop)); done)) s)) ?_
   refine Ch.pu (i := 18) ⟨_, rfl, rfl⟩ (fun _ _ _ h => C.asg rfl h) ?_
   refine Ch.fin ?_
   refine C.go ?_
   refine C.rtA ?_
   refine RunR.dfr (Spec.g unlock_spec) ?_
   rintro v σ' As' ⟨rfl, rfl, rfl⟩
   simp only [List.cons_append, List.nil_append]
   refine C.home (fu := Tryz.f39) Tryz.func39 hkd rfl ?_
   refine cvP.cls (m := 0) ⟨G, hosts, bag, txs, stopped⟩ ?_
   refine At.reo ?_ (hret _ _ _ ⟨rfl, s', txs[q].state, txs[q].reads, rfl, by unfold txAt; rw [if_neg h14, Int.toNat_natCast, List.getElem?_eq_getElem hq]; exact ⟨rfl, rfl⟩, rfl⟩)
   ((try simp only [List.cons_append, List.nil_append]); (repeat (first | with_reducible exact Reo.refl | with_reducible exact Reo.nil | with_reducible exact Fo.head | with_reducible apply Fo.tail | with_reducible apply Reo.cons | with_reducible apply Reo.drop)); done)
theorem cloneM_spec {main : Bool} {lg : SliceV} {l : List MsgV} (hl : l.length < 2 ^ 40) : Spec Tryz.prog main badT 127 #[lg.v] [slP msgC 7 190 lg l] (fun v As => ∃ s' : SliceV, v = s'.v ∧ As = [slP msgC 7 190 s' l, slP msgC 7 190 lg l]) := by
 refine Spec.of ?_
 intro R C kd d F c cs hkd hret
 simp only [List.cons_append, List.nil_append]
 refine At.slPc (s := lg) (l := l) (f := msgC) (by (repeat (first | with_reducible exact Fo.head | with_reducible apply Fo.tail))) ?_ ?_
 ·rintro rfl rfl
  refine C.go ?_
  refine C.rg [0] ?_
  refine C.asg rfl ?_
  refine C.go ?_
  refine C.rg [0, 1] ?_
  refine C.mv rfl ?_
  refine C.eqS rfl ?_ (a := none) (len := 0) (cap := 0)
  refine C.go ?_
  refine C.tru ?_
  refine C.rg [0] ?_
  refine C.asg rfl ?_
  refine C.go ?_
  refine At.nilS msgC 7 190 ?_
  exact C.retR hkd hret ⟨nilS, rfl, rfl⟩
 ·intro h1 h2
  have hv : lg.v = .slice (some ⟨lg.b, 0, none⟩) lg.len lg.cap := by unfold SliceV.v; rw [h1]
  refine C.go ?_
  refine C.rg [0] ?_
  refine C.asg rfl ?_
  refine C.go ?_
  refine C.rg [0, 1] ?_
  refine C.mv rfl ?_
  refine C.eqS rfl ?_ (a := some ⟨lg.b, 0, none⟩) (len := lg.len) (cap := lg.cap) (hx := hv)
  refine C.go ?_
  refine C.fls ?_
  refine C.rg [0, 1, 2, 3] ?_
  refine C.bs0 msgC rfl (fun b5 => ?_)
  refine C.mv rfl ?_
  refine C.apR (l := []) l rfl (fun s' => ?_) (hsrc := fun H st => ?_) (s := ⟨some ⟨b5, 0, none⟩, 0, 0⟩)
  ·skip
   refine C.asg rfl ?_
   refine C.go ?_
   exact C.retR hkd hret ⟨s', rfl, rfl⟩
  ·exact RowS.src (RowS.own (s := lg) (by (repeat (first | with_reducible exact Fo.head | with_reducible apply Fo.tail)))) st (fun j => rfl)
abbrev msgE (m : MsgV) : HP := all [slP opPC 3 67 m.so m.ops, slP i32C 1 21 m.sr m.reads]
section
variable {R : Nat → Goroutine → Array Obj → Prop} {d : Nat} {As F L : List HP} {g : Goroutine} {ms : List MsgV}
theorem msg_add (m : MsgV) (hr : ReF [slP opPC 3 67 m.so m.ops, slP i32C 1 21 m.sr m.reads, all (ms.map msgE)] As L) (h : At R d (all ((ms ++ [m]).map msgE) :: L) g) : At R d As g :=
 At.perm hr.perm fun H s => (all_add (f := msgE) m (.cons .head (.cons .head .nil)) h) H (Sat.unflat (l := [slP opPC 3 67 m.so m.ops, slP i32C 1 21 m.sr m.reads]) s)
end
theorem cbag_spec {σ : Gh} {c : CV} {I : HL} (hJ : CvJ I c) (hO : ∀ m ∈ c.bag, m.ops.length < 2 ^ 20) (hl : c.bag.length < 2 ^ 30) : SpecG Tryz.prog barX 77 #[ptrV c.G.b] σ [cvP c, imm I]
  (fun v σ' As => σ' = σ ∧ ∃ (sl : SliceV) (ms : List MsgV), v = sl.v ∧ ms.map (·.toMsgR) = c.bag.map (·.toMsgR) ∧ As = [slP msgC 7 190 sl ms, all (ms.map msgE), cvP c, imm I]) := by
 refine SpecG.of ?_
 intro Post os out kd F c' cs C hkd hret
 simp only [List.cons_append, List.nil_append]
 obtain ⟨G, hosts, bag, txs, stopped⟩ := c
 have hJb : ∀ m ∈ bag, MsgJ I m := hJ.bag
 refine cvP.opn (h := fun hs bg tx => ?_)
 dsimp only at hl hO
 refine C.go ?_
 refine C.rg [0] ?_
 refine C.asg rfl ?_
 refine C.go ?_
 refine C.rg [0, 1, 2, 3] ?_
 refine C.mv rfl ?_
 refine C.nc rfl ?_
 refine C.fa rfl ?_
 refine C.clR mlock_spec ?_
 rintro v As' ⟨rfl, rfl⟩
 simp only [List.cons_append, List.nil_append]
 refine C.go ?_
 refine C.rg [0, 1, 2, 3] ?_
 refine C.mv rfl ?_
 refine C.nc rfl ?_
 refine C.fa rfl ?_
 refine C.df rfl ?_
 refine C.go ?_
 refine C.rg [0, 1, 2, 3, 4, 5] ?_
 refine C.mv rfl ?_
 refine C.nc rfl ?_
 refine C.fa rfl ?_
 refine C.ld rfl ?_
 refine C.clR (Spec.less (barLe _) (cloneM_spec (lg := bg) (l := bag) (by omega))) ?_
 rintro v As' ⟨s3, rfl, rfl⟩
 simp only [List.cons_append, List.nil_append]
 refine cvP.cls (m := 1) ⟨G, hosts, bag, txs, stopped⟩ ?_
 refine C.asg rfl ?_
 refine C.go ?_
 refine C.rg [0, 1, 2] ?_
 refine C.mv rfl ?_
 refine C.lnR rfl ?_ (s := s3) (l := bag) (f := msgC)
 refine C.mv rfl ?_
 refine C.go ?_
 refine At.nilA (show At (RunR Tryz.prog Post barX σ 0 os out) 0 (all (([] : List MsgV).map msgE) :: _) _ from ?_)
 refine C.loopR (X := Nat × List MsgV) (fun x => [(0, ptrV G.b), (3, s3.v), (18, s3.v), (19, .int .i64 bag.length), (20, .int .i64 x.1)]) (fun x => slP msgC 7 190 s3 (x.2 ++ bag.drop x.1) :: all (x.2.map msgE) :: cvM 1 ⟨G, hosts, bag, txs, stopped⟩ :: imm I :: F) (fun x => x.1 ≤ bag.length ∧ x.2.map (·.toMsgR) = (bag.take x.1).map (·.toMsgR)) (fun x => bag.length - x.1) (0, []) ⟨rfl, rfl, rfl, rfl, rfl, trivial⟩ ⟨Nat.zero_le _, rfl⟩ ?_ (hI := by rw [List.nil_append, List.drop_zero]; ((try simp only [List.cons_append, List.nil_append]); (repeat (first | with_reducible exact Reo.refl | with_reducible exact Reo.nil | with_reducible exact Fo.head | with_reducible apply Fo.tail | with_reducible apply Reo.cons | with_reducible apply Reo.drop)); done))
 rintro ⟨i, ms⟩ e ⟨hi, hms⟩ ih
 dsimp only at hi hms ⊢
 have hml : ms.length = i := by have := congrArg List.length hms; rw [List.length_map, List.length_map, List.length_take] at this; omega
 refine C.go ?_
 refine C.rg [0] ?_
 refine C.cmp rfl (fun h21 => ?_) (fun h21 => ?_)
 ·skip
  refine C.go ?_
  refine C.tru ?_
  have hi' : i < bag.length := by simpa using h21
  have hlen : i < (ms ++ bag.drop i).length := by simp; omega
  have hget : (ms ++ bag.drop i)[i]'hlen = bag[i] := by rw [List.getElem_append_right (by omega)]; simp [hml]
  have hmo := (hJb _ (List.getElem_mem hi')).o
  have hmr := (hJb _ (List.getElem_mem hi')).r
  have hmz := (hJb _ (List.getElem_mem hi')).z
  have hoz := hO _ (List.getElem_mem hi')
  refine C.rg [0, 1, 2, 3, 4, 5] ?_
  refine C.mv rfl ?_
  refine C.iaR rfl ?_
  refine C.ldRS rfl (fun hj => ?_) (s := s3) (l := ms ++ bag.drop i) (j := i) (hj := hlen)
  rw [hget]
  simp only [msgC]
  refine C.al rfl (fun b5 => ?_)
  refine C.asg rfl ?_
  refine C.stS rfl ?_
  refine C.go ?_
  refine C.drawnW [(25, 0), (26, 1), (27, 2), (28, 3), (29, 4), (30, 5), (31, 6), (32, 7), (33, 8), (34, 9), (35, 10), (36, 11), (37, 13), (38, 14)] [0, 1, 2, 3, 4, 5, 7, 8] [6, 9, 10, 11, 12, 13, 14, 15] 4 ?_ (W := [msgK b5 (bag[i]'hi'), imm I])
  refine Dr.pu ⟨_, rfl, rfl⟩ (fun _ _ _ h => C.mv rfl h) ?_
  refine Dr.pu ⟨_, rfl, rfl⟩ (fun _ _ _ h => C.mv rfl h) ?_
  refine Dr.pu ⟨_, rfl, rfl⟩ (fun _ _ _ h => C.mv rfl h) ?_
  refine Dr.pu ⟨_, rfl, rfl⟩ (fun _ _ _ h => C.mv rfl h) ?_
  refine Dr.pu ⟨_, rfl, rfl⟩ (fun _ _ _ h => C.fa rfl h) ?_
  refine Dr.ld ⟨_, rfl, rfl⟩ (fun _ hE _ _ h => C.ld rfl h) ?_
  refine Dr.pu ⟨_, rfl, rfl⟩ (fun _ _ _ h => C.fa rfl h) ?_
  refine Dr.ld ⟨_, rfl, rfl⟩ (fun _ hE _ _ h => C.ld rfl h) ?_
  refine Dr.chain rfl ?_ (fun _ s => Reo.sat (by ((try simp only [List.cons_append, List.nil_append]); (repeat (first | with_reducible exact Reo.refl | with_reducible exact Reo.nil | with_reducible exact Fo.head | with_reducible apply Fo.tail | with_reducible apply Reo.cons | with_reducible apply Reo.drop)); done)) s)
  refine Ch.n1 (t := 6) rfl ⟨_, rfl, fun e rest hk => ?_⟩
  refine C.clR (Spec.less (barLe _) (clone_spec hmo (Nat.lt_trans hoz (by decide)))) ?_
  rintro v As' ⟨s31, rfl, rfl⟩
  simp only [List.cons_append, List.nil_append]
  refine hk _ _ (.of (fun _ s => Reo.sat (by ((try simp only [List.cons_append, List.nil_append]); (repeat (first | with_reducible exact Reo.refl | with_reducible exact Reo.nil | with_reducible exact Fo.head | with_reducible apply Fo.tail | with_reducible apply Reo.cons | with_reducible apply Reo.drop)); done)) s)) ?_
  refine Ch.n1 (t := 9) rfl ⟨_, rfl, fun e rest hk => ?_⟩
  refine C.clR (Spec.less (barLe _) (clone32_spec hmr (Nat.lt_trans hmz (by decide)))) ?_
  rintro v As' ⟨s34, rfl, rfl⟩
  simp only [List.cons_append, List.nil_append]
  refine hk _ _ (.of (fun _ s => Reo.sat (by ((try simp only [List.cons_append, List.nil_append]); (repeat (first | with_reducible exact Reo.refl | with_reducible exact Reo.nil | with_reducible exact Fo.head | with_reducible apply Fo.tail | with_reducible apply Reo.cons | with_reducible apply Reo.drop)); done)) s)) ?_
  refine Ch.n1 (t := 10) rfl ⟨_, rfl, fun e rest hk => ?_⟩
  refine C.iaR rfl (hk _ _ .refl ?_)
  refine Ch.pu (i := 11) ⟨_, rfl, rfl⟩ (fun _ _ _ h => C.fa rfl h) ?_
  refine Ch.n1 (t := 12) rfl ⟨_, rfl, fun e rest hk => ?_⟩
  refine C.stR (s := s3) (l := ms ++ bag.drop i) (j := i) (o := 5) ({ (bag[i]'hi') with so := s31 } : MsgV) rfl ?_ (hj := hlen) (ha := by rw [hget]; rfl)
  refine hk _ undef (.of (fun _ s => Reo.sat (by ((try simp only [List.cons_append, List.nil_append]); (repeat (first | with_reducible exact Reo.refl | with_reducible exact Reo.nil | with_reducible exact Fo.head | with_reducible apply Fo.tail | with_reducible apply Reo.cons | with_reducible apply Reo.drop)); done)) s)) ?_
  refine Ch.n1 (t := 13) rfl ⟨_, rfl, fun e rest hk => ?_⟩
  refine C.iaR rfl (hk _ _ ?_) (hj := by rw [List.length_set]; exact hlen)
  refine Ch.pu (i := 14) ⟨_, rfl, rfl⟩ (fun _ _ _ h => C.fa rfl h) ?_
  refine Ch.n1 (t := 15) rfl ⟨_, rfl, fun e rest hk => ?_⟩
  refine C.stR (s := s3) (l := (ms ++ bag.drop i).set i { (bag[i]'hi') with so := s31 }) (j := i) (o := 6) ({ (bag[i]'hi') with so := s31, sr := s34 } : MsgV) rfl (hk _ undef ?_) (hj := by rw [List.length_set]; exact hlen) (ha := by rw [List.getElem_set_self]; rfl)
  refine Ch.fin ?_
  refine C.go ?_
  refine C.rg [0, 1] ?_
  refine C.ar rfl ?_
  refine C.mv rfl ?_
  refine C.go ?_
  refine msg_add (ms := ms) ({ (bag[i]'hi') with so := s31, sr := s34 } : MsgV) (by (repeat (first | with_reducible exact ReF.nil | with_reducible exact Fo.head | with_reducible apply Fo.tail | with_reducible apply ReF.cons))) ?_
  refine again ih (i + 1, ms ++ [({ (bag[i]'hi') with so := s31, sr := s34 } : MsgV)]) ⟨hi', ?_⟩ (by dsimp only; omega) (hr := ?_)
  ·rw [List.take_succ_eq_append_getElem hi', List.map_append, List.map_append, hms]; rfl
  ·have e1 : ((ms ++ bag.drop i).set i ({ (bag[i]'hi') with so := s31 } : MsgV)).set i ({ (bag[i]'hi') with so := s31, sr := s34 } : MsgV) = (ms ++ [({ (bag[i]'hi') with so := s31, sr := s34 } : MsgV)]) ++ bag.drop (i + 1) := by
    rw [List.set_set, List.set_append_right _ _ (by omega), hml, Nat.sub_self, List.drop_eq_getElem_cons hi', List.set_cons_zero, List.append_assoc]; rfl
   rw [e1]
   ((try simp only [List.cons_append, List.nil_append]); (repeat (first | with_reducible exact Reo.refl | with_reducible exact Reo.nil | with_reducible exact Fo.head | with_reducible apply Fo.tail | with_reducible apply Reo.cons | with_reducible apply Reo.drop)); done)
 ·skip
  refine C.go ?_
  refine C.fls ?_
  refine C.rg [0, 1] ?_
  refine C.mv rfl ?_
  refine C.asg rfl ?_
  refine C.go ?_
  have hdr : bag.drop i = [] := List.drop_of_length_le (by simp at h21; omega)
  have htk : bag.take i = bag := List.take_of_length_le (by simp at h21; omega)
  rw [hdr, List.append_nil]
  rw [htk] at hms
  refine C.rtA ?_
  refine cvP.opn (m := 1) (c := ⟨G, hosts, bag, txs, stopped⟩) (h := fun hs bg tx => ?_)
  refine RunR.dfr (Spec.g unlock_spec) ?_
  rintro v σ' As' ⟨rfl, rfl, rfl⟩
  simp only [List.cons_append, List.nil_append]
  refine C.home (fu := Tryz.f77) Tryz.func77 hkd rfl ?_
  refine cvP.cls (m := 0) ⟨G, hosts, bag, txs, stopped⟩ ?_
  refine At.reo ?_ (hret _ _ _ ⟨rfl, s3, ms, rfl, hms, rfl⟩)
  ((try simp only [List.cons_append, List.nil_append]); (repeat (first | with_reducible exact Reo.refl | with_reducible exact Reo.nil | with_reducible exact Fo.head | with_reducible apply Fo.tail | with_reducible apply Reo.cons | with_reducible apply Reo.drop)); done)
end Go.Sl
end
section
set_option linter.unusedVariables false
namespace Go.Sl
open Go.Proofs Go.Conc
section
variable {R : Nat → Goroutine → Array Obj → Prop} {d : Nat} {As F L : List HP} {g : Goroutine} {ms : List MsgV} {q : Nat}
theorem msgE_out (hi : q < ms.length) (hf : Fo (all (ms.map msgE)) As L) (h : At R d (slP opPC 3 67 ms[q].so ms[q].ops :: slP i32C 1 21 ms[q].sr ms[q].reads :: all ((ms.eraseIdx q).map msgE) :: L) g) : At R d As g :=
 all_out (f := msgE) hi hf fun H s => h H (Sat.flat (l := [slP opPC 3 67 ms[q].so ms[q].ops, slP i32C 1 21 ms[q].sr ms[q].reads]) s)
end
def MsgZ (m : MsgR) : Prop := (∀ o ∈ m.ops, (-9223372036854775808 ≤ o.k ∧ o.k ≤ 9223372036854775807) ∧ (-9223372036854775808 ≤ o.v ∧ o.v ≤ 9223372036854775807)) ∧ (∀ x ∈ m.reads, -9223372036854775808 ≤ x ∧ x ≤ 9223372036854775807)
abbrev pairP (b x y : Nat) : HP := pts b (.cells #[ptrV x, ptrV y] 150 (0, 0))
set_option maxHeartbeats 2000000 in
theorem lbag_spec {σ : Gh} {c : CV} {I : HL} {w : WV} {bw : Nat} (hJ : CvJ I c) (hW : WI I w) (hO : ∀ m ∈ c.bag, m.ops.length < 2 ^ 20) (hl : c.bag.length < 2 ^ 30) (he : c.bag.map (·.toMsgR) = w.bag.map (·.toMsgR)) (hz : ∀ m ∈ w.bag, MsgZ m.toMsgR) (hRl : ∀ m ∈ c.bag, m.reads.length < 2 ^ 20) :
  SpecG Tryz.prog barX 120 #[.agg #[ptrV c.G.b, ptrV bw]] σ [cvP c, wP bw w, imm I] (fun v σ' As => σ' = σ ∧ v = .bool true ∧ As = [cvP c, wP bw w, imm I]) := by
 refine SpecG.of ?_
 intro Post os out kd F c' cs C hkd hret
 simp only [List.cons_append, List.nil_append]
 have hlen : c.bag.length = w.bag.length := by have := congrArg List.length he; simpa using this
 refine C.go ?_
 refine C.rg [0, 1] ?_
 refine C.bx rfl (fun b1 => ?_)
 refine C.asg rfl ?_
 refine C.go ?_
 refine C.rg [0] ?_
 refine C.asg rfl ?_
 refine C.go ?_
 refine C.loopR (X := Nat) (fun x => [(1, ptrV b1), (3, .int .i64 x)]) (fun _ => pairP b1 c.G.b bw :: cvP c :: wP bw w :: imm I :: F) (fun x => x ≤ 2) (fun x => 2 - x) 0 ⟨rfl, rfl, trivial⟩ (Nat.zero_le _) ?_
 intro x e hx ih
 refine C.go ?_
 refine C.rg [0, 1] ?_
 refine C.mv rfl ?_
 refine C.cmp rfl (fun h13 => ?_) (fun h13 => ?_)
 ·skip
  refine C.go ?_
  refine C.tru ?_
  refine C.rg [0, 1, 2, 3] ?_
  refine C.fa rfl ?_
  refine C.ld rfl ?_
  refine RunR.clN (cbag_spec hJ hO hl) ?_
  rintro v σ' As' ⟨rfl, sl, ms, rfl, hms, rfl⟩
  simp only [List.cons_append, List.nil_append]
  have hml : ms.length = c.bag.length := by have := congrArg List.length hms; simpa using this
  refine wP.opn (b := bw) (w := w) (h := fun sh bg tx => ?_)
  refine C.asg rfl ?_
  refine C.go ?_
  refine C.rg [0, 1, 2, 3, 4, 5, 6, 7, 8] ?_
  refine C.mv rfl ?_
  refine C.lnR rfl ?_ (s := sl) (l := ms) (f := msgC)
  refine C.fa rfl ?_
  refine C.ld rfl ?_
  refine C.nc rfl ?_
  refine C.fa rfl ?_
  refine C.ld rfl ?_
  refine C.lnR rfl ?_ (s := bg) (l := w.bag) (f := msgC)
  refine C.cmpF rfl ?_
  refine C.go ?_
  refine C.fls ?_
  refine C.rg [0] ?_
  refine C.asg rfl ?_
  refine C.go ?_
  refine C.loopR (X := Nat × List MsgV) (fun y => [(1, ptrV b1), (3, .int .i64 x), (4, sl.v), (5, .int .i64 y.1)]) (fun y => slP msgC 7 190 sl y.2 :: all ((ms.drop y.1).map msgE) :: pairP b1 c.G.b bw :: cvP c :: wO bw w sh bg tx (imm I :: F)) (fun y => y.1 ≤ ms.length ∧ y.2.length = ms.length ∧ y.2.drop y.1 = ms.drop y.1) (fun y => ms.length - y.1) (0, ms) ⟨rfl, rfl, rfl, rfl, trivial⟩ ⟨Nat.zero_le _, rfl, rfl⟩ ?_ (hI := by rw [List.drop_zero]; ((try simp only [List.cons_append, List.nil_append]); (repeat (first | with_reducible exact Reo.refl | with_reducible exact Reo.nil | with_reducible exact Fo.head | with_reducible apply Fo.tail | with_reducible apply Reo.cons | with_reducible apply Reo.drop)); done))
  rintro ⟨i, mx⟩ e ⟨hi, hmx, hdr⟩ ih2
  dsimp only at hi hmx hdr ⊢
  refine C.go ?_
  refine C.rg [0, 1, 2, 3] ?_
  refine C.mv rfl ?_
  refine C.mv rfl ?_
  refine C.lnR rfl ?_ (s := sl) (l := mx) (f := msgC)
  refine C.cmp rfl (fun h31 => ?_) (fun h31 => ?_)
  ·skip
   refine C.go ?_
   refine C.tru ?_
   have hi' : i < ms.length := by omega
   have hix : i < mx.length := by omega
   have hiw : i < w.bag.length := by omega
   have hmi : mx[i] = ms[i] := by
    have h1 := List.drop_eq_getElem_cons hix
    have h2 := List.drop_eq_getElem_cons hi'
    rw [hdr, h2] at h1
    exact (List.cons.inj h1).1.symm
   obtain ⟨ma, hma⟩ : ∃ ma, ma = ms[i] := ⟨_, rfl⟩
   obtain ⟨mb, hmb⟩ : ∃ mb, mb = w.bag[i] := ⟨_, rfl⟩
   have heq : ma.toMsgR = mb.toMsgR := by
    have h1 : (ms.map (·.toMsgR))[i]'(by simpa using hi') = (w.bag.map (·.toMsgR))[i]'(by simpa using hiw) := by simp only [hms, he]
    rw [List.getElem_map, List.getElem_map] at h1
    rw [hma, hmb]; exact h1
   have hmJ := hW.bag mb (hmb ▸ List.getElem_mem hiw)
   have hmZ := hz mb (hmb ▸ List.getElem_mem hiw)
   have hmO : ma.ops.length < 2 ^ 20 := by
    have h1 : ma.toMsgR ∈ c.bag.map (·.toMsgR) := by rw [← hms]; exact List.mem_map.2 ⟨ma, hma ▸ List.getElem_mem hi', rfl⟩
    obtain ⟨mc, h2, h3⟩ := List.mem_map.1 h1
    have := hO mc h2
    rw [← h3]; exact this
   have hmR : ma.reads.length < 2 ^ 40 := by
    have h1 : ma.toMsgR ∈ c.bag.map (·.toMsgR) := by rw [← hms]; exact List.mem_map.2 ⟨ma, hma ▸ List.getElem_mem hi', rfl⟩
    obtain ⟨mc, h2, h3⟩ := List.mem_map.1 h1
    have := hRl mc h2
    rw [← h3]; omega
   rw [List.drop_eq_getElem_cons hi', ← hma]
   obtain ⟨ra, soa, sra⟩ := ma
   obtain ⟨rb, sob, srb⟩ := mb
   obtain rfl : ra = rb := heq
   dsimp only at hmO hmZ hmR
   refine C.rg [0, 1, 2, 3, 4, 5] ?_
   refine C.mv rfl ?_
   refine C.mv rfl ?_
   refine C.iaR rfl ?_ (s := sl) (l := mx) (f := msgC) (j := i)
   refine C.ldRS rfl (fun hj => ?_) (s := sl) (l := mx) (f := msgC) (j := i)
   rw [hmi, ← hma]
   simp only [msgC]
   refine C.al rfl (fun b6 => ?_)
   refine C.stS rfl ?_
   refine C.go ?_
   refine C.rg [0, 1, 2, 3, 4, 5, 6, 7, 8, 9] ?_
   refine C.fa rfl ?_
   refine C.ld rfl ?_
   refine C.nc rfl ?_
   refine C.fa rfl ?_
   refine C.ld rfl ?_
   refine C.mv rfl ?_
   refine C.iaR rfl ?_ (s := bg) (l := w.bag) (f := msgC) (j := i)
   refine C.ldRS rfl (fun hj => ?_) (s := bg) (l := w.bag) (f := msgC) (j := i)
   rw [← hmb]
   simp only [msgC]
   refine C.al rfl (fun b7 => ?_)
   refine C.stS rfl ?_
   refine C.go ?_
   refine C.rg [0, 1, 2, 3, 4, 5] ?_
   refine C.fa rfl ?_
   refine C.ld rfl ?_
   refine C.fa rfl ?_
   refine C.ld rfl ?_
   refine msgE_out (ms := (⟨ra, soa, sra⟩ : MsgV) :: ms.drop (i + 1)) (q := 0) (Nat.zero_lt_succ _) (by (repeat (first | with_reducible exact Fo.head | with_reducible apply Fo.tail))) ?_
   simp only [List.getElem_cons_zero, List.eraseIdx_cons_zero]
   refine C.clR (Spec.less (barLe _) (sameOps_spec (so := soa) (ro := sob) (ops := ra.ops) rfl hmJ.o hmZ.1 (by omega))) ?_
   rintro v As' ⟨rfl, rfl⟩
   simp only [List.cons_append, List.nil_append]
   refine C.asg rfl ?_
   refine C.go ?_
   refine C.rg [0, 1, 2, 3, 4, 5] ?_
   refine C.fa rfl ?_
   refine C.ld rfl ?_
   refine C.fa rfl ?_
   refine C.ld rfl ?_
   refine C.clR (Spec.less (barLe _) (sameReads_spec (so := sra) (ro := srb) (l := ra.reads) rfl hmJ.r hmZ.2 hmR)) ?_
   rintro v As' ⟨rfl, rfl⟩
   simp only [List.cons_append, List.nil_append]
   refine C.asg rfl ?_
   refine C.go ?_
   refine C.rg [0, 1, 2, 3, 4, 5, 6, 7, 8, 9, 10, 11, 12, 13, 14, 15, 16, 17, 18, 19, 20, 21, 22, 23, 24, 25, 26, 27, 28, 29, 30, 31, 32, 33, 34, 35, 36, 37, 38, 39, 40] ?_
   refine C.fa rfl ?_
   refine C.ld rfl ?_
   refine C.fa rfl ?_
   refine C.ld rfl ?_
   refine C.cmpF rfl ?_ (hf := by intro h; exact h rfl)
   refine C.mv rfl ?_
   refine C.fa rfl ?_
   refine C.ld rfl ?_
   refine C.fa rfl ?_
   refine C.ld rfl ?_
   refine C.cmpF rfl ?_ (hf := by intro h; exact h rfl)
   refine C.pk rfl ?_
   refine C.mv rfl ?_
   refine C.fa rfl ?_
   refine C.ld rfl ?_
   refine C.fa rfl ?_
   refine C.ld rfl ?_
   refine C.cmpF rfl ?_ (hf := by intro h; exact h rfl)
   refine C.pk rfl ?_
   refine C.mv rfl ?_
   refine C.fa rfl ?_
   refine C.ld rfl ?_
   refine C.fa rfl ?_
   refine C.ld rfl ?_
   refine C.cmpF rfl ?_ (hf := by intro h; exact h rfl)
   refine C.pk rfl ?_
   refine C.mv rfl ?_
   refine C.fa rfl ?_
   refine C.ld rfl ?_
   refine C.fa rfl ?_
   refine C.ld rfl ?_
   refine C.eqBB Tryz.underlying4 rfl ?_
   refine C.pk rfl ?_
   refine C.mv rfl ?_
   refine C.mv rfl ?_
   refine C.nt rfl ?_
   refine C.pk rfl ?_
   refine C.mv rfl ?_
   refine C.mv rfl ?_
   refine C.nt rfl ?_
   refine C.pk rfl ?_
   refine C.go ?_
   refine C.fls ?_
   refine C.rg [0] ?_
   refine C.asg rfl ?_
   refine C.go ?_
   refine C.loopR (X := Nat × List OpR) (fun y => [(1, ptrV b1), (3, .int .i64 x), (4, sl.v), (5, .int .i64 i), (6, ptrV b6), (7, ptrV b7), (10, .int .i64 y.1)]) (fun y => slP opPC 3 67 soa y.2 :: slP i32C 1 21 sra ra.reads :: msgK b6 ⟨ra, soa, sra⟩ :: slP msgC 7 190 sl mx :: all ((ms.drop (i + 1)).map msgE) :: pairP b1 c.G.b bw :: cvP c :: wO bw w sh bg tx (imm I :: F)) (fun y => y.1 ≤ ra.ops.length ∧ y.2.length = ra.ops.length) (fun y => ra.ops.length - y.1) (0, ra.ops) ⟨rfl, rfl, rfl, rfl, rfl, rfl, rfl, trivial⟩ ⟨Nat.zero_le _, rfl⟩ ?_
   rintro ⟨k, lo⟩ e ⟨hk, hlo⟩ ih3
   dsimp only at hk hlo ⊢
   refine C.go ?_
   refine C.rg [0, 1, 2, 3, 4] ?_
   refine C.mv rfl ?_
   refine C.fa rfl ?_
   refine C.ld rfl ?_
   refine C.lnR rfl ?_ (s := soa) (l := lo) (f := opPC)
   refine C.cmp rfl (fun h101 => ?_) (fun h101 => ?_)
   ·skip
    refine C.go ?_
    refine C.tru ?_
    refine C.rg [0, 1, 2, 3, 4, 5] ?_
    refine C.fa rfl ?_
    refine C.ld rfl ?_
    refine C.mv rfl ?_
    refine C.bd rfl ?_
    refine C.iaR rfl ?_ (s := soa) (l := lo) (f := opPC) (j := k)
    refine C.stRS (s := soa) (l := lo) (f := opPC) (j := k) ⟨false, 113, 0⟩ rfl ?_
    refine C.go ?_
    refine C.rg [0, 1, 2] ?_
    refine C.mv rfl ?_
    refine C.ar rfl ?_
    refine C.asg rfl ?_
    refine C.go ?_
    exact again ih3 (k + 1, lo.set k ⟨false, 113, 0⟩) ⟨by dsimp only; omega, by dsimp only; rw [List.length_set]; exact hlo⟩ (by dsimp only; omega)
   ·skip
    refine C.go ?_
    refine C.fls ?_
    refine C.rg [0] ?_
    refine C.asg rfl ?_
    refine C.go ?_
    refine C.loopR (X := Nat × List Int) (fun y => [(1, ptrV b1), (3, .int .i64 x), (4, sl.v), (5, .int .i64 i), (6, ptrV b6), (11, .int .i64 y.1)]) (fun y => slP i32C 1 21 sra y.2 :: msgK b6 ⟨ra, soa, sra⟩ :: slP msgC 7 190 sl mx :: all ((ms.drop (i + 1)).map msgE) :: pairP b1 c.G.b bw :: cvP c :: wO bw w sh bg tx (imm I :: F)) (fun y => y.1 ≤ ra.reads.length ∧ y.2.length = ra.reads.length) (fun y => ra.reads.length - y.1) (0, ra.reads) ⟨rfl, rfl, rfl, rfl, rfl, rfl, trivial⟩ ⟨Nat.zero_le _, rfl⟩ ?_
    rintro ⟨k, lo⟩ e ⟨hk, hlo⟩ ih3
    dsimp only at hk hlo ⊢
    refine C.go ?_
    refine C.rg [0, 1, 2, 3, 4] ?_
    refine C.mv rfl ?_
    refine C.fa rfl ?_
    refine C.ld rfl ?_
    refine C.lnR rfl ?_ (s := sra) (l := lo) (f := i32C)
    refine C.cmp rfl (fun h113 => ?_) (fun h113 => ?_)
    ·skip
     refine C.go ?_
     refine C.tru ?_
     refine C.rg [0, 1, 2, 3, 4] ?_
     refine C.fa rfl ?_
     refine C.ld rfl ?_
     refine C.mv rfl ?_
     refine C.iaR rfl ?_ (s := sra) (l := lo) (f := i32C) (j := k)
     refine C.stR0 (s := sra) (l := lo) (f := i32C) (j := k) 99 rfl ?_
     refine C.go ?_
     refine C.rg [0, 1, 2] ?_
     refine C.mv rfl ?_
     refine C.ar rfl ?_
     refine C.asg rfl ?_
     refine C.go ?_
     exact again ih3 (k + 1, lo.set k 99) ⟨by dsimp only; omega, by dsimp only; rw [List.length_set]; exact hlo⟩ (by dsimp only; omega)
    ·skip
     refine C.go ?_
     refine C.fls ?_
     refine C.rg [0, 1, 2, 3, 4] ?_
     refine C.mv rfl ?_
     refine C.mv rfl ?_
     refine C.bd rfl ?_
     refine C.iaR rfl ?_ (s := sl) (l := mx) (f := msgC) (j := i)
     refine C.stRS (s := sl) (l := mx) (f := msgC) (j := i) ⟨msg0, nilS, nilS⟩ rfl ?_
     refine C.go ?_
     refine C.rg [0, 1, 2] ?_
     refine C.mv rfl ?_
     refine C.ar rfl ?_
     refine C.asg rfl ?_
     refine C.go ?_
     refine again ih2 (i + 1, mx.set i ⟨msg0, nilS, nilS⟩) ⟨hi', by dsimp only; rw [List.length_set]; exact hmx, ?_⟩ (by dsimp only; omega)
     dsimp only
     rw [List.drop_set_of_lt (by omega)]
     have h1 := List.drop_eq_getElem_cons hix
     have h2 := List.drop_eq_getElem_cons hi'
     rw [hdr, h2] at h1
     exact (List.cons.inj h1).2.symm
  ·skip
   refine C.go ?_
   refine C.fls ?_
   refine C.rg [0, 1, 2] ?_
   refine C.mv rfl ?_
   refine C.ar rfl ?_
   refine C.asg rfl ?_
   refine C.go ?_
   refine wP.cls (b := bw) w ?_
   exact again ih (x + 1) (by omega) (by omega)
 ·skip
  refine C.go ?_
  refine C.fls ?_
  refine C.rg [0] ?_
  refine C.asg rfl ?_
  refine C.go ?_
  exact RunR.retQ hkd hret ⟨rfl, rfl, rfl⟩
end Go.Sl
end
section
set_option linter.unusedVariables false
namespace Go.Sl
open Go.Proofs
variable {main : Bool}
def newV (k n : Int) : ShV := ⟨k, n, true, [], 0, zeros26, [], [], [], [], 0, []⟩
theorem wnew_spec {n : Int} : Spec Tryz.prog main badT 16 #[.int .i64 n] [] (fun v As => ((1 ≤ n ∧ n ≤ 4) ∧ ∃ b w, v = .tuple #[.pointer (some ⟨b, 0, none⟩), .int .i64 0] ∧ w.abs = newW n ∧ (∀ I, WI I w) ∧ As = [wP b w]) ∨ ((n < 1 ∨ 4 < n) ∧ v = .tuple #[.pointer none, .int .i64 1] ∧ As = [])) := by
 refine Spec.of ?_
 intro R C kd d F c cs hkd hret
 simp only [List.nil_append]
 refine C.go ?_
 refine C.rg [0, 1] ?_
 refine C.asg rfl ?_
 refine C.asg rfl ?_
 refine C.go ?_
 refine C.rg [0, 1, 2, 3, 4, 5] ?_
 refine C.mv rfl ?_
 refine C.cmp rfl (fun h8 => ?_) (fun h8 => ?_)
 ·skip
  refine C.mv rfl ?_
  refine C.no rfl ?_
  refine C.no rfl ?_
  refine C.pk rfl ?_
  refine C.go ?_
  refine C.tru ?_
  refine C.rg [0, 1] ?_
  refine C.asg rfl ?_
  refine C.asg rfl ?_
  refine C.go ?_
  exact C.retR hkd hret (.inr ⟨.inl h8, rfl, rfl⟩)
 ·skip
  refine C.mv rfl ?_
  refine C.mv rfl ?_
  refine C.cmp rfl (fun h11 => ?_) (fun h11 => ?_)
  ·skip
   refine C.pk rfl ?_
   refine C.go ?_
   refine C.tru ?_
   refine C.rg [0, 1] ?_
   refine C.asg rfl ?_
   refine C.asg rfl ?_
   refine C.go ?_
   exact C.retR hkd hret (.inr ⟨.inr (by omega), rfl, rfl⟩)
  ·skip
   refine C.pk rfl ?_
   refine C.go ?_
   refine C.fls ?_
   refine C.rg [0, 1, 2] ?_
   refine C.bd rfl ?_
   refine C.bx rfl (fun b14 => ?_)
   refine C.asg rfl ?_
   refine C.go ?_
   have hn : 1 ≤ n ∧ n ≤ 4 := ⟨by omega, by omega⟩
   refine At.turn (A := pts b14 (.cells #[.slice none 0 0, .slice none 0 0, .slice none 0 0, .bool false] 53 (0, 0))) (by (repeat (first | with_reducible exact Fo.head | with_reducible apply Fo.tail))) (A' := pts b14 (.cells #[nilS.v, nilS.v, nilS.v, .bool false] 53 (0, 0))) (fun _ h => h) ?_
   refine At.nilS ptrC 1 54 (show At R d (slP ptrC 1 54 nilS (([] : List (Nat × ShV)).map (·.1)) :: _) _ from (At.nilS msgC 7 137 (At.nilS txC 3 71 ?_)))
   refine At.nilA (show At R d (all (([] : List (Nat × ShV)).map shE) :: _) _ from ?_)
   refine C.rg [0] ?_
   refine C.asg rfl ?_
   refine C.go ?_
   refine C.loopR (X := Nat × SliceV × List (Nat × ShV)) (fun x => [(0, .int .i64 n), (4, .pointer (some ⟨b14, 0, none⟩)), (5, .int .i64 x.1)]) (fun x => wO b14 ⟨x.2.2, [], [], false⟩ x.2.1 nilS nilS F) (fun x => (x.1 : Int) ≤ n ∧ x.2.2.length = x.1 ∧ x.2.2.map (·.2) = ((upto n).take x.1).map fun k => newV k n) (fun x => (n - x.1).toNat) (0, nilS, []) ⟨rfl, rfl, rfl, trivial⟩ (And.intro (by show (0 : Int) ≤ n; omega) (And.intro rfl rfl)) ?_
   rintro ⟨k, s1, l⟩ e ⟨hk, hl, hm⟩ ih
   dsimp only at hk hl hm ⊢
   refine C.go ?_
   refine C.rg [0, 1, 2] ?_
   refine C.mv rfl ?_
   refine C.mv rfl ?_
   refine C.cmp rfl (fun h17 => ?_) (fun h17 => ?_)
   ·skip
    refine C.go ?_
    refine C.tru ?_
    refine C.rg [0, 1, 2, 3, 4] ?_
    refine C.mv rfl ?_
    refine C.mv rfl ?_
    refine C.bd rfl ?_
    refine C.bx rfl (fun b23 => ?_)
    refine C.asg rfl ?_
    refine C.go ?_
    refine At.nilS recC 6 247 (At.nilS i64L 1 3 (At.nilS heldC 2 258 (At.nilS undC 6 287 (nilU (At.nilS timC 3 251 (At.nilS msgC 7 137 (At.nilS msgC 7 137 ?_)))))))
    refine shP.cls (b := b23) ⟨k, n, true, [], 0, [], [], [], [], [], 0, []⟩ ?_ (lg := nilS) (vl := nilS) (lk := nilS) (un := nilS) (tm := nilS) (wt := nilS) (ot := nilS)
    refine C.rg [0, 1] ?_
    refine C.mv rfl ?_
    refine C.clR (forget_spec (b := b23) (s := ⟨k, n, true, [], 0, [], [], [], [], [], 0, []⟩)) ?_
    rintro v As' rfl
    simp only [List.cons_append, List.nil_append]
    refine At.turn (A := shP b23 _) (A' := shE (b23, newV k n)) (.head) (fun _ h => h) ?_
    refine C.go ?_
    refine C.rg [0, 1, 2, 3, 4, 5, 6, 7, 8, 9, 10] ?_
    refine C.mv rfl ?_
    refine C.mv rfl ?_
    refine C.nc rfl ?_
    refine C.fa rfl ?_
    refine C.ld rfl ?_
    refine C.mv rfl ?_
    refine C.bs1 rfl (fun b32 => ?_)
    refine C.ap1 (f := ptrC) b23 rfl (fun s2 => ?_) (hsz := by simp only [List.length_map, hl]; omega)
    refine C.nc rfl ?_
    refine C.fa rfl ?_
    refine C.st rfl ?_
    refine C.go ?_
    refine C.rg [0, 1, 2] ?_
    refine C.mv rfl ?_
    refine C.ar rfl ?_
    refine C.asg rfl ?_
    refine C.go ?_
    have hmap : l.map (·.1) ++ [b23] = (l ++ [(b23, newV k n)]).map (·.1) := by simp
    refine At.turn (A := slP ptrC 1 54 s2 (l.map (·.1) ++ [b23])) (A' := slP ptrC 1 54 s2 ((l ++ [(b23, newV k n)]).map (·.1))) (by (repeat (first | with_reducible exact Fo.head | with_reducible apply Fo.tail))) (fun _ h => by rw [← hmap]; exact h) ?_
    refine all_add (f := shE) (l := l) (b23, newV k n) (by (repeat (first | with_reducible exact ReF.nil | with_reducible exact Fo.head | with_reducible apply Fo.tail | with_reducible apply ReF.cons))) ?_
    refine again ih (k + 1, s2, l ++ [(b23, newV k n)]) ⟨by dsimp only; omega, by simp [hl], ?_⟩ (by dsimp only; omega)
    rw [upto_take (by omega), List.map_append, hm, List.map_append]; rfl
   ·skip
    refine C.go ?_
    refine C.fls ?_
    refine C.rg [0, 1, 2] ?_
    refine C.mv rfl ?_
    refine C.asg rfl ?_
    refine C.asg rfl ?_
    refine C.go ?_
    rw [upto_all (by omega)] at hm
    refine wP.cls ⟨l, [], [], false⟩ ?_
    refine C.retR hkd hret (.inl ⟨hn, b14, ⟨l, [], [], false⟩, rfl, ?_, fun I => ⟨fun p hp => ?_, fun m hm => (by cases hm), fun t ht => (by cases ht)⟩, rfl⟩)
    ·have e1 : l.map (·.2.abs) = (l.map (·.2)).map (·.abs) := by rw [List.map_map]; rfl
     unfold newW WV.abs
     dsimp only
     rw [e1, hm, List.map_map]
     rfl
    ·have hp2 : p.2 ∈ l.map (·.2) := List.mem_map.2 ⟨p, hp, rfl⟩
     rw [hm] at hp2
     obtain ⟨j, _, e⟩ := List.mem_map.1 hp2
     rw [← e]
     exact ⟨fun r hr => (by cases hr), fun r hr => (by cases hr), fun r hr => (by cases hr), fun r hr => (by cases hr)⟩
end Go.Sl
end
section
set_option linter.unusedVariables false
namespace Go.Sl
open Go.Proofs
variable {main : Bool}
structure WB0 (w : WR) : Prop where
 n : 1 ≤ w.sh.length ∧ w.sh.length ≤ 4
 bag : w.bag.length < 2 ^ 20
 txs : w.txs.length ≤ 60
theorem WV.abs_sh (w : WV) : w.abs.sh.length = w.sh.length := by simp [WV.abs]
theorem WV.abs_bag (w : WV) : w.abs.bag.length = w.bag.length := by simp [WV.abs]
theorem WV.abs_txs (w : WV) : w.abs.txs.length = w.txs.length := by simp [WV.abs]
theorem homeR_eq (ops : List OpR) (n : Int) (h : 0 < ops.length) : atR ops[0].k n = homeR ops n := by
 cases ops with
 | nil => cases h
 | cons o l => rfl
def begM (w : WV) (t : TxV) (tx : Int) : MsgV := ⟨{ msg0 with kind := 1, frm := -1, to := homeR t.ops w.sh.length, tx := tx, ops := t.ops }, t.so, nilS⟩
theorem wbegin_spec {I : HL} {b tx : Nat} {w : WV} (hI : WI I w) (hn : 1 ≤ w.sh.length ∧ w.sh.length ≤ 4) (hbag : w.bag.length < 2 ^ 30) (htx : tx < w.txs.length) (hops : OpsB w.txs[tx].ops ∧ 1 ≤ w.txs[tx].ops.length) :
  Spec Tryz.prog main badT 32 #[.pointer (some ⟨b, 0, none⟩), .int .i64 tx] [wP b w, imm I] (fun v As => As = [wP b { w with bag := w.bag ++ [begM w w.txs[tx] tx] }, imm I]) := by
 refine Spec.of ?_
 intro R C kd d F c cs hkd hret
 simp only [List.cons_append, List.nil_append]
 refine wP.opn (h := fun sh bg txS => ?_)
 have hto := (hI.txs _ (List.getElem_mem htx)).o
 have hol : 0 < w.txs[tx].ops.length := hops.2
 have hkey := hops.1.1 _ (List.getElem_mem hol)
 have hhome : atR w.txs[tx].ops[0].k ((w.sh.map (·.1)).length : Int) = homeR w.txs[tx].ops w.sh.length := by rw [List.length_map]; exact homeR_eq _ _ hol
 refine C.go ?_
 refine C.rg [0, 1, 2, 3, 4, 5, 6, 7, 8] ?_
 refine C.mv rfl ?_
 refine C.nc rfl ?_
 refine C.fa rfl ?_
 refine C.ld rfl ?_
 refine C.mv rfl ?_
 refine C.iaR rfl ?_
 refine C.fa rfl ?_
 refine C.ldR rfl ?_
 refine C.asg rfl ?_
 refine C.go ?_
 refine C.drawnW [(13, 0), (14, 1), (15, 2), (16, 3), (17, 4), (18, 5), (19, 6), (20, 7), (21, 8), (22, 9), (23, 10), (24, 11), (25, 12), (26, 13), (27, 14), (28, 15), (29, 16), (30, 17), (31, 18), (32, 19), (33, 20), (34, 21)] [0, 1, 2, 3, 4, 5, 6, 7, 8, 9, 10, 11, 12, 13, 15, 16, 20, 21] [14, 17, 18, 19, 22] 3 ?_ (W := [pts b (.cells #[sh.v, bg.v, txS.v, .bool w.stopped] 53 (0, 0)), slP ptrC 1 54 sh (w.sh.map (·.1)), imm I])
 refine Dr.pu ⟨_, rfl, rfl⟩ (fun _ _ _ h => C.mv rfl h) ?_
 refine Dr.pu ⟨_, rfl, rfl⟩ (fun _ _ _ h => C.mv rfl h) ?_
 refine Dr.pu ⟨_, rfl, rfl⟩ (fun _ _ _ h => C.nc rfl h) ?_
 refine Dr.pu ⟨_, rfl, rfl⟩ (fun _ _ _ h => C.fa rfl h) ?_
 refine Dr.ld ⟨_, rfl, rfl⟩ (fun _ hE _ _ h => C.ld rfl h) ?_
 refine Dr.pu ⟨_, rfl, rfl⟩ (fun _ _ _ h => C.mv rfl h) ?_
 refine Dr.ld ⟨_, rfl, rfl⟩ (fun _ hE _ _ h => C.iaR rfl h) ?_
 refine Dr.pu ⟨_, rfl, rfl⟩ (fun _ _ _ h => C.fa rfl h) ?_
 refine Dr.ld ⟨_, rfl, rfl⟩ (fun _ hE _ _ h => C.ldR rfl h) ?_
 refine Dr.pu ⟨_, rfl, rfl⟩ (fun _ _ _ h => C.mv rfl h) ?_
 refine Dr.pu ⟨_, rfl, rfl⟩ (fun _ _ _ h => C.nc rfl h) ?_
 refine Dr.pu ⟨_, rfl, rfl⟩ (fun _ _ _ h => C.fa rfl h) ?_
 refine Dr.ld ⟨_, rfl, rfl⟩ (fun _ hE _ _ h => C.ld rfl h) ?_
 refine Dr.ld ⟨_, rfl, rfl⟩ (fun _ hE _ _ h => C.lnR rfl h) ?_
 refine Dr.pu ⟨_, rfl, rfl⟩ (fun _ _ _ h => C.mv rfl h) ?_
 refine Dr.pu ⟨_, rfl, rfl⟩ (fun _ _ _ h => C.mv rfl h) ?_
 refine Dr.pu ⟨_, rfl, rfl⟩ (fun _ _ _ h => C.nc rfl h) ?_
 refine Dr.pu ⟨_, rfl, rfl⟩ (fun _ _ _ h => C.fa rfl h) ?_
 refine Dr.chain rfl ?_ (fun _ s => Reo.sat (by ((try simp only [List.cons_append, List.nil_append]); (repeat (first | with_reducible exact Reo.refl | with_reducible exact Reo.nil | with_reducible exact Fo.head | with_reducible apply Fo.tail | with_reducible apply Reo.cons | with_reducible apply Reo.drop)); done)) s)
 refine Ch.n1 (t := 14) rfl ⟨_, rfl, fun e rest hk => ?_⟩
 refine C.clR (at_spec (key := w.txs[tx].ops[0].k) (n := ((w.sh.map (·.1)).length : Int)) (by omega) (by omega) (by rw [List.length_map]; omega)) ?_
 rintro v As' ⟨rfl, rfl⟩
 simp only [List.nil_append]
 rw [hhome]
 refine hk _ _ (.of (fun _ s => Reo.sat (by ((try simp only [List.cons_append, List.nil_append]); (repeat (first | with_reducible exact Reo.refl | with_reducible exact Reo.nil | with_reducible exact Fo.head | with_reducible apply Fo.tail | with_reducible apply Reo.cons | with_reducible apply Reo.drop)); done)) s)) ?_
 refine Ch.pu (i := 17) ⟨_, rfl, rfl⟩ (fun _ _ _ h => C.bd rfl h) ?_
 refine Ch.n1 (t := 18) rfl ⟨_, rfl, fun e rest hk => ?_⟩
 refine C.bs1 rfl (fun b31 => hk _ _ .cons ?_)
 refine Ch.n1 (t := 19) rfl ⟨_, rfl, fun e rest hk => ?_⟩
 refine C.ap1 (begM w w.txs[tx] tx) rfl (fun s2 => ?_)
 refine hk _ _ (.of (fun _ s => Reo.sat (by ((try simp only [List.cons_append, List.nil_append]); (repeat (first | with_reducible exact Reo.refl | with_reducible exact Reo.nil | with_reducible exact Fo.head | with_reducible apply Fo.tail | with_reducible apply Reo.cons | with_reducible apply Reo.drop)); done)) s)) ?_
 refine Ch.n1 (t := 22) rfl ⟨_, rfl, fun e rest hk => ?_⟩
 refine C.st rfl (hk _ undef ?_)
 refine Ch.fin ?_
 refine C.go ?_
 refine wP.cls { w with bag := w.bag ++ [begM w w.txs[tx] tx] } ?_
 exact C.finR hkd hret rfl
def WQ (b : Nat) (I : HL) (r : WR) (y : Value) (v : Value) (As : List HP) : Prop := ∃ I' w', Sub I I' ∧ WI I' w' ∧ w'.abs = r ∧ v = y ∧ As = [wP b w', imm I']
theorem wsubmit_spec {I : HL} {b : Nat} {w : WV} {so : SliceV} {ops : List OpR} (hI : WI I w) (hb : WB0 w.abs) (ho : imSl I opRC 63 so ops) (hl : ops.length < 2 ^ 44) :
  Spec Tryz.prog main badT 20 #[.pointer (some ⟨b, 0, none⟩), so.v] [wP b w, imm I] (WQ b I (submitW w.abs ops).1 (.tuple #[.int .i64 (submitW w.abs ops).2.1, .int .i64 (submitW w.abs ops).2.2])) := by
 refine Spec.of ?_
 intro R C kd d F c cs hkd hret
 simp only [List.cons_append, List.nil_append]
 refine wP.opn (h := fun sh bg txS => ?_)
 have htx := hb.txs
 rw [WV.abs_txs] at htx
 have hbg := hb.bag
 rw [WV.abs_bag] at hbg
 refine C.go ?_
 refine C.rg [0, 1] ?_
 refine C.asg rfl ?_
 refine C.asg rfl ?_
 refine C.go ?_
 refine C.rg [0, 1, 2, 3] ?_
 refine C.mv rfl ?_
 refine C.nc rfl ?_
 refine C.fa rfl ?_
 refine C.ld rfl ?_
 refine C.go ?_
 refine C.cnd (fun hb11 => ?_) (fun hb11 => ?_)
 ·skip
  refine C.go ?_
  refine C.rg [0, 1] ?_
  refine C.asg rfl ?_
  refine C.asg rfl ?_
  refine C.go ?_
  refine wP.cls w ?_
  have e1 : submitW w.abs ops = (w.abs, 0, 9) := by unfold submitW; rw [if_pos (show w.abs.stopped = true from hb11)]
  rw [e1] at hret
  exact C.retR hkd hret ⟨I, w, Sub.refl _, hI, rfl, rfl, rfl⟩
 ·skip
  refine C.go ?_
  have hst : ¬ w.abs.stopped = true := by show ¬ w.stopped = true; simp [hb11]
  refine C.rg [0, 1, 2] ?_
  refine C.mv rfl ?_
  refine C.clR (right_spec ho (by omega)) ?_
  rintro v As' ⟨rfl, rfl⟩
  simp only [List.cons_append, List.nil_append]
  generalize hz : decide (rightP ops) = z
  rcases Bool.eq_false_or_eq_true z with rfl | rfl
  ·skip
   refine C.asg rfl ?_
   refine C.go ?_
   refine C.rg [0, 1] ?_
   refine C.mv rfl ?_
   refine C.nt rfl ?_
   refine C.go ?_
   refine C.fls ?_
   have hr : rightP ops := by simpa using hz
   refine C.rg [0, 1, 2, 3, 4, 5, 6, 7, 8, 9, 10, 11, 12, 13] ?_
   refine C.mv rfl ?_
   refine C.nc rfl ?_
   refine C.fa rfl ?_
   refine C.ld rfl ?_
   refine C.lnR rfl ?_
   refine C.cmp rfl (fun h21 => ?_) (fun h21 => ?_)
   ·skip
    refine C.mv rfl ?_
    refine C.no rfl ?_
    refine C.no rfl ?_
    refine C.no rfl ?_
    refine C.no rfl ?_
    refine C.no rfl ?_
    refine C.no rfl ?_
    refine C.pk rfl ?_
    refine C.go ?_
    refine C.tru ?_
    refine C.rg [0, 1] ?_
    refine C.asg rfl ?_
    refine C.asg rfl ?_
    refine C.go ?_
    refine wP.cls w ?_
    have e1 : submitW w.abs ops = (w.abs, 0, 3) := by
     unfold submitW
     rw [if_neg hst, if_neg (by simpa using hr), if_pos (.inl (by rw [WV.abs_txs]; omega))]
    rw [e1] at hret
    exact C.retR hkd hret ⟨I, w, Sub.refl _, hI, rfl, rfl, rfl⟩
   ·skip
    refine C.mv rfl ?_
    refine C.mv rfl ?_
    refine C.nc rfl ?_
    refine C.fa rfl ?_
    refine C.ld rfl ?_
    refine C.lnR rfl ?_
    refine C.cmp rfl (fun h28 => ?_) (fun h28 => ?_)
    ·skip
     refine C.pk rfl ?_
     refine C.go ?_
     refine C.tru ?_
     refine C.rg [0, 1] ?_
     refine C.asg rfl ?_
     refine C.asg rfl ?_
     refine C.go ?_
     refine wP.cls w ?_
     have e1 : submitW w.abs ops = (w.abs, 0, 3) := by
      unfold submitW
      rw [if_neg hst, if_neg (by simpa using hr), if_pos (.inr (by rw [WV.abs_bag]; omega))]
     rw [e1] at hret
     exact C.retR hkd hret ⟨I, w, Sub.refl _, hI, rfl, rfl, rfl⟩
    ·skip
     refine C.pk rfl ?_
     refine C.go ?_
     refine C.fls ?_
     refine C.rg [0] ?_
     refine C.asg rfl ?_
     refine C.go ?_
     refine At.nilS opRC 3 63 ?_
     refine C.rg [0, 1, 2, 3] ?_
     refine C.mv rfl ?_
     refine C.mv rfl ?_
     refine C.apR (f := opRC) (s := nilS) (l := []) ops rfl (fun s7 => ?_) (hsrc := fun H st => RowS.src (f := opRC) (el := 63) (.imm (by (repeat (first | with_reducible exact Fo.head | with_reducible apply Fo.tail))) ho) st (fun _ => rfl)) (hsz := by have := hr.2.2.2; simp only [List.length_nil]; omega)
     refine C.asg rfl ?_
     refine C.go ?_
     refine At.frz (s := s7) (f := opRC) (by (repeat (first | with_reducible exact Fo.head | with_reducible apply Fo.tail))) (by (repeat (first | with_reducible exact Fo.head | with_reducible apply Fo.tail))) fun I1 hI1 hs7 => ?_
     rw [List.nil_append] at hs7
     refine C.rg [0, 1, 2, 3, 4, 5, 6, 7, 8, 9, 10, 11] ?_
     refine C.mv rfl ?_
     refine C.mv rfl ?_
     refine C.nc rfl ?_
     refine C.fa rfl ?_
     refine C.ld rfl ?_
     refine C.mv rfl ?_
     refine C.bd rfl ?_
     refine C.bs1 rfl (fun b40 => ?_)
     refine C.ap1 (TxV.mk ⟨ops, 1, []⟩ s7 nilS) rfl (fun s8 => ?_)
     refine C.nc rfl ?_
     refine C.fa rfl ?_
     refine C.st rfl ?_
     refine C.go ?_
     have hW1 : WI I1 { w with txs := w.txs ++ [TxV.mk ⟨ops, 1, []⟩ s7 nilS] } := ⟨(hI.mono hI1).sh, (hI.mono hI1).bag, fun t ht => by
      rcases List.mem_append.1 ht with ht | ht
      ·exact (hI.mono hI1).txs t ht
      ·obtain rfl := List.mem_singleton.1 ht; exact ⟨hs7, .nil ..⟩⟩
     refine C.rg [0, 1, 2, 3, 4, 5, 6, 7] ?_
     refine C.mv rfl ?_
     refine C.mv rfl ?_
     refine C.nc rfl ?_
     refine C.fa rfl ?_
     refine C.ld rfl ?_
     refine C.lnR rfl ?_
     refine C.ar rfl ?_ (r := (w.txs.length : Int)) (ha := congrArg some (show (((w.txs ++ [TxV.mk ⟨ops, 1, []⟩ s7 nilS]).length : Nat) : Int) - 1 = w.txs.length by rw [List.length_append, List.length_singleton]; omega))
     have hopsB : OpsB ops := ⟨fun o ho => ⟨(hr.1 o ho).1, (hr.1 o ho).2.1⟩, by have := hr.2.2.2; omega⟩
     have hn := hb.n
     rw [WV.abs_sh] at hn
     refine wP.cls { w with txs := w.txs ++ [TxV.mk ⟨ops, 1, []⟩ s7 nilS] } ?_
     have hidx : (w.txs ++ [TxV.mk ⟨ops, 1, []⟩ s7 nilS])[w.txs.length]'(by simp) = TxV.mk ⟨ops, 1, []⟩ s7 nilS := by simp
     have hsp := wbegin_spec (main := main) (b := b) (tx := w.txs.length) (w := { w with txs := w.txs ++ [TxV.mk ⟨ops, 1, []⟩ s7 nilS] }) hW1 hn (by show w.bag.length < _; omega) (by simp) (by simp only [List.getElem_append_right (Nat.le_refl _), Nat.sub_self]; exact ⟨hopsB, hr.2.2.1⟩)
     dsimp only at hsp
     simp only [hidx] at hsp
     refine C.clR hsp ?_
     rintro v As' rfl
     simp only [List.cons_append, List.nil_append]
     refine wP.opn (h := fun sh bg txS => ?_)
     dsimp only [wO]
     refine C.go ?_
     refine C.rg [0, 1, 2, 3, 4, 5, 6, 7] ?_
     refine C.mv rfl ?_
     refine C.nc rfl ?_
     refine C.fa rfl ?_
     refine C.ld rfl ?_
     refine C.lnR rfl ?_
     refine C.ar rfl ?_ (r := (w.txs.length : Int)) (ha := congrArg some (show (((w.txs ++ [TxV.mk ⟨ops, 1, []⟩ s7 nilS]).length : Nat) : Int) - 1 = w.txs.length by rw [List.length_append, List.length_singleton]; omega))
     refine C.asg rfl ?_
     refine C.asg rfl ?_
     refine C.go ?_
     obtain ⟨w2, hw2⟩ : ∃ w2 : WV, w2 = { w with txs := w.txs ++ [TxV.mk ⟨ops, 1, []⟩ s7 nilS], bag := w.bag ++ [begM { w with txs := w.txs ++ [TxV.mk ⟨ops, 1, []⟩ s7 nilS] } (TxV.mk ⟨ops, 1, []⟩ s7 nilS) w.txs.length] } := ⟨_, rfl⟩
     refine wP.cls w2 ?_ (hc := by rw [hw2]) (hr := by rw [hw2]; (repeat (first | with_reducible exact ReF.nil | with_reducible exact Fo.head | with_reducible apply Fo.tail | with_reducible apply ReF.cons)))
     have e1 : submitW w.abs ops = (w2.abs, (w.txs.length : Int), 0) := by
      unfold submitW
      rw [if_neg hst, if_neg (by simpa using hr), if_neg (by rw [WV.abs_txs, WV.abs_bag]; omega), hw2]
      simp [WV.abs, beginW, begM]
     rw [e1] at hret
     refine C.retR hkd hret ⟨I1, w2, hI1, ⟨?_, ?_, ?_⟩, rfl, rfl, rfl⟩
     ·rw [hw2]; exact hW1.sh
     ·rw [hw2]; exact fun m hm => by
       rcases List.mem_append.1 hm with hm | hm
       ·exact hW1.bag m hm
       ·obtain rfl := List.mem_singleton.1 hm; exact ⟨hs7, .nil ..⟩
     ·rw [hw2]; exact hW1.txs
  ·skip
   refine C.asg rfl ?_
   refine C.go ?_
   refine C.rg [0, 1] ?_
   refine C.mv rfl ?_
   refine C.nt rfl ?_
   refine C.go ?_
   refine C.tru ?_
   refine C.rg [0, 1] ?_
   refine C.asg rfl ?_
   refine C.asg rfl ?_
   refine C.go ?_
   refine wP.cls w ?_
   have e1 : submitW w.abs ops = (w.abs, 0, 2) := by unfold submitW; rw [if_neg hst, if_pos (by simpa using hz)]
   rw [e1] at hret
   exact C.retR hkd hret ⟨I, w, Sub.refl _, hI, rfl, rfl, rfl⟩
end Go.Sl
end
section
set_option linter.unusedVariables false
namespace Go.Sl
open Go.Proofs
variable {main : Bool}
abbrev msgB (b : Nat) (m : MsgV) : HP := pts b (.cells #[.int .i64 m.kind, .int .i64 m.frm, .int .i64 m.to, .int .i64 m.tx, .bool m.yes, m.so.v, m.sr.v] 137 (0, 0))
end Go.Sl
end
section
set_option linter.unusedVariables false
namespace Go.Sl
open Go.Proofs
variable {main : Bool}
theorem wresult_spec {I : HL} {b : Nat} {w : WV} {i : Int} (hI : WI I w) (htx : w.txs.length < 2 ^ 40) : Spec Tryz.prog main badT 167 #[.pointer (some ⟨b, 0, none⟩), .int .i64 i] [wP b w, imm I]
  (fun v As => ∃ (st : Int) (rs : SliceV) (rd : List Int), v = .tuple #[.int .i64 st, rs.v] ∧ imSl I i64L 3 rs rd ∧ (st, rd) = (if i < 0 ∨ (w.txs.length : Int) ≤ i then (0, []) else match w.abs.txs[i.toNat]? with | some t => (t.state, t.reads) | none => (0, [])) ∧ As = [wP b w, imm I]) := by
 refine Spec.of ?_
 intro R C kd d F c cs hkd hret
 simp only [List.cons_append, List.nil_append]
 refine wP.opn (h := fun sh bg txS => ?_)
 refine C.go ?_
 refine C.rg [0, 1] ?_
 refine C.asg rfl ?_
 refine C.asg rfl ?_
 refine C.go ?_
 refine C.rg [0, 1, 2, 3, 4, 5, 6, 7, 8, 9, 10] ?_
 refine C.mv rfl ?_
 refine C.cmp rfl (fun h7 => ?_) (fun h7 => ?_)
 ·skip
  refine C.mv rfl ?_
  refine C.no rfl ?_
  refine C.no rfl ?_
  refine C.no rfl ?_
  refine C.no rfl ?_
  refine C.no rfl ?_
  refine C.no rfl ?_
  refine C.no rfl ?_
  refine C.pk rfl ?_
  refine C.go ?_
  refine C.tru ?_
  refine C.rg [0, 1] ?_
  refine C.asg rfl ?_
  refine C.asg rfl ?_
  refine C.go ?_
  refine wP.cls w ?_
  exact C.retR hkd hret ⟨0, nilS, [], rfl, .nil .., by rw [if_pos (.inl h7)], rfl⟩
 ·skip
  refine C.mv rfl ?_
  refine C.mv rfl ?_
  refine C.mv rfl ?_
  refine C.nc rfl ?_
  refine C.fa rfl ?_
  refine C.ld rfl ?_
  refine C.lnR rfl ?_
  refine C.cmp rfl (fun h15 => ?_) (fun h15 => ?_)
  ·skip
   refine C.pk rfl ?_
   refine C.go ?_
   refine C.tru ?_
   refine C.rg [0, 1] ?_
   refine C.asg rfl ?_
   refine C.asg rfl ?_
   refine C.go ?_
   refine wP.cls w ?_
   exact C.retR hkd hret ⟨0, nilS, [], rfl, .nil .., by rw [if_pos (.inr h15)], rfl⟩
  ·skip
   refine C.pk rfl ?_
   refine C.go ?_
   refine C.fls ?_
   obtain ⟨q, rfl⟩ := Int.eq_ofNat_of_zero_le (show 0 ≤ i by omega)
   have hq : q < w.txs.length := by omega
   have hqm : w.abs.txs[((q : Nat) : Int).toNat]? = some w.txs[q].toTxR := by simp [WV.abs, hq]
   refine C.drawn [(17, 0), (18, 1), (19, 2), (20, 3), (21, 4), (22, 5), (23, 6), (24, 7), (25, 8), (26, 9), (27, 10), (28, 11), (29, 12), (30, 13), (31, 14), (32, 15), (4, 16), (5, 17)] [0, 1, 2, 3, 4, 5, 6, 7, 8, 9, 10, 11, 12, 13, 14, 15, 16, 17] [] 0 ?_
   refine Dr.pu ⟨_, rfl, rfl⟩ (fun _ _ _ h => C.mv rfl h) ?_
   refine Dr.pu ⟨_, rfl, rfl⟩ (fun _ _ _ h => C.nc rfl h) ?_
   refine Dr.pu ⟨_, rfl, rfl⟩ (fun _ _ _ h => C.fa rfl h) ?_
   refine Dr.ld ⟨_, rfl, rfl⟩ (fun _ hE _ _ h => C.ld rfl h) ?_
   refine Dr.pu ⟨_, rfl, rfl⟩ (fun _ _ _ h => C.mv rfl h) ?_
   refine Dr.ld ⟨_, rfl, rfl⟩ (fun _ hE _ _ h => C.iaR rfl h) ?_
   refine Dr.pu ⟨_, rfl, rfl⟩ (fun _ _ _ h => C.fa rfl h) ?_
   refine Dr.ld ⟨_, rfl, rfl⟩ (fun _ hE _ _ h => C.ldR rfl h) ?_
   refine Dr.pu ⟨_, rfl, rfl⟩ (fun _ _ _ h => C.mv rfl h) ?_
   refine Dr.pu ⟨_, rfl, rfl⟩ (fun _ _ _ h => C.nc rfl h) ?_
   refine Dr.pu ⟨_, rfl, rfl⟩ (fun _ _ _ h => C.fa rfl h) ?_
   refine Dr.ld ⟨_, rfl, rfl⟩ (fun _ hE _ _ h => C.ld rfl h) ?_
   refine Dr.pu ⟨_, rfl, rfl⟩ (fun _ _ _ h => C.mv rfl h) ?_
   refine Dr.ld ⟨_, rfl, rfl⟩ (fun _ hE _ _ h => C.iaR rfl h) ?_
   refine Dr.pu ⟨_, rfl, rfl⟩ (fun _ _ _ h => C.fa rfl h) ?_
   refine Dr.ld ⟨_, rfl, rfl⟩ (fun _ hE _ _ h => C.ldR rfl h) ?_
   refine Dr.pu ⟨_, rfl, rfl⟩ (fun _ _ _ h => C.asg rfl h) ?_
   refine Dr.pu ⟨_, rfl, rfl⟩ (fun _ _ _ h => C.asg rfl h) ?_
   refine Dr.chain rfl ?_
   refine Ch.fin ?_
   refine C.go ?_
   refine wP.cls w ?_
   exact C.retR hkd hret ⟨w.txs[q].state, w.txs[q].sr, w.txs[q].reads, rfl, (hI.txs _ (List.getElem_mem hq)).r, by rw [if_neg (by omega), hqm], rfl⟩
theorem wat_spec {b : Nat} {w : WV} {i : Int} : Spec Tryz.prog main badT 122 #[.pointer (some ⟨b, 0, none⟩), .int .i64 i] [wP b w]
  (fun v As => ((i < 0 ∨ (w.sh.length : Int) ≤ i) ∧ v = .pointer none ∨ ∃ (q : Nat) (hq : q < w.sh.length), i = q ∧ v = .pointer (some ⟨w.sh[q].1, 0, none⟩)) ∧ As = [wP b w]) := by
 refine Spec.of ?_
 intro R C kd d F c cs hkd hret
 simp only [List.cons_append, List.nil_append]
 refine wP.opn (h := fun sh bg txS => ?_)
 refine C.go ?_
 refine C.rg [0] ?_
 refine C.asg rfl ?_
 refine C.go ?_
 refine C.rg [0, 1, 2, 3, 4, 5, 6, 7, 8, 9, 10] ?_
 refine C.mv rfl ?_
 refine C.cmp rfl (fun h6 => ?_) (fun h6 => ?_)
 ·skip
  refine C.mv rfl ?_
  refine C.no rfl ?_
  refine C.no rfl ?_
  refine C.no rfl ?_
  refine C.no rfl ?_
  refine C.no rfl ?_
  refine C.no rfl ?_
  refine C.no rfl ?_
  refine C.pk rfl ?_
  refine C.go ?_
  refine C.tru ?_
  refine C.rg [0] ?_
  refine C.asg rfl ?_
  refine C.go ?_
  refine wP.cls w ?_
  exact C.retR hkd hret ⟨.inl ⟨.inl h6, rfl⟩, rfl⟩
 ·skip
  refine C.mv rfl ?_
  refine C.mv rfl ?_
  refine C.mv rfl ?_
  refine C.nc rfl ?_
  refine C.fa rfl ?_
  refine C.ld rfl ?_
  refine C.lnR rfl ?_
  refine C.cmp rfl (fun h14 => ?_) (fun h14 => ?_)
  ·skip
   refine C.pk rfl ?_
   refine C.go ?_
   refine C.tru ?_
   refine C.rg [0] ?_
   refine C.asg rfl ?_
   refine C.go ?_
   refine wP.cls w ?_
   exact C.retR hkd hret ⟨.inl ⟨.inr (by rw [List.length_map] at h14; exact h14), rfl⟩, rfl⟩
  ·skip
   refine C.pk rfl ?_
   refine C.go ?_
   refine C.fls ?_
   obtain ⟨q, rfl⟩ := Int.eq_ofNat_of_zero_le (show 0 ≤ i by omega)
   have hq : q < w.sh.length := by rw [List.length_map] at h14; omega
   refine C.rg [0, 1, 2, 3, 4, 5, 6, 7] ?_
   refine C.mv rfl ?_
   refine C.nc rfl ?_
   refine C.fa rfl ?_
   refine C.ld rfl ?_
   refine C.mv rfl ?_
   refine C.iaR rfl ?_ (hj := by rw [List.length_map]; exact hq)
   refine C.ldR0 rfl ?_ (j := q) (l := w.sh.map (·.1)) (hj := by rw [List.length_map]; exact hq)
   refine C.asg rfl ?_
   refine C.go ?_
   refine wP.cls w ?_
   exact C.retR (v := .pointer (some ⟨(w.sh.map (·.1))[q]'(by rw [List.length_map]; exact hq), 0, none⟩)) hkd hret ⟨.inr ⟨q, hq, rfl, by rw [List.getElem_map]⟩, rfl⟩
end Go.Sl
end
section
set_option linter.unusedVariables false
namespace Go.Sl
open Go.Proofs
variable {main : Bool}
section
variable {P : Program} {B : Bad} {R : Nat → Goroutine → Array Obj → Prop} {d : Nat} {As W L : List HP}
variable {fn : FuncId} {kd : Kd} {n : Nat} {e : Nat → Value} {ds : List Deferred} {k : List Item} {cs : List Frame}
variable {ops : Array Oper} {i : Nat} {rest : List Nat} {t : Nat} {ty : TypeId} {pos : String} {af : Array Edge} {gd : Option (Nat × Bool)} {x : Operand} {v : Value} {b off : Nat} {c : Array Value} {el tt : TypeId}
theorem Ext.immK {I : HL} {o : Obj} (h : Ext As W) (hf : Fo (imm I) W L) (hI : I b = some o) : Kn As b o := fun _ st => ((h _ st).perm hf.perm).getI hI
theorem Closed.ldK (C : Closed P main B R) {fr : Nat × Nat} [Ag P tt false] (hk : Kn As b (.cells c el fr)) (hs : b < B.bot) (hc : c[off]? = some v) (ho : nthO ops i = some ⟨some t, .load tt x, ty, pos, af, gd⟩) (h : At R d As (gr fn kd n (put e t v) ds (.inRegion ops rest :: k) cs))
  (hx : ev n e x = .pointer (some ⟨b, off, none⟩) := by rfl) (hw : wantB ops n e gd = true := by rfl) : At R d As (gr fn kd n e ds (.inRegion ops (i :: rest) :: k) cs) :=
 C.gen ho hw fun H st => by
  unfold execOp; simp only [hx, Instr.loadAt, Instr.sureAddr]
  exact okS_do (okS_do (okS_pure (okS_loadVar0 (hk _ st) hc hs ⟨As, st, h⟩)))
end
def inSl {α : Type} (I : HL) (bot : Nat) (f : α → List Value) (z : Nat) (v : Value) (l : List α) : Prop :=
 ∃ (a : Option Addr) (cap : Nat), v = .slice a l.length cap ∧ (l = [] ∨ ∃ b off c ty fr, a = some ⟨b, off, none⟩ ∧ I b = some (.cells c ty fr) ∧ b < bot ∧ ∀ j (hj : j < l.length) o, o < z → c[off + j * z + o]? = (f l[j])[o]?)
theorem inSl.mono {α : Type} {I I' : HL} {bot : Nat} {f : α → List Value} {z : Nat} {v : Value} {l : List α} (h : inSl I bot f z v l) (hs : Sub I I') : inSl I' bot f z v l := by
 obtain ⟨a, cap, h1, h2⟩ := h
 refine ⟨a, cap, h1, ?_⟩
 rcases h2 with h2 | ⟨b, off, c, ty, fr, h3, h4, h5⟩
 ·exact .inl h2
 ·exact .inr ⟨b, off, c, ty, fr, h3, hs _ _ h4, h5⟩
def OpZ (o : OpR) : Prop := (-9223372036854775808 ≤ o.k ∧ o.k ≤ 9223372036854775807) ∧ (-9223372036854775808 ≤ o.v ∧ o.v ≤ 9223372036854775807)
def keptO (o : OpR) : OpR := ⟨o.w, IntKind.u8.wrap o.k, IntKind.i32.wrap o.v⟩
theorem u8_rng (p : Int) : 0 ≤ IntKind.u8.wrap p ∧ IntKind.u8.wrap p ≤ 255 := by rw [IntKind.wrap_u8]; omega
theorem i32_rng (p : Int) : -2147483648 ≤ IntKind.i32.wrap p ∧ IntKind.i32.wrap p ≤ 2147483647 := by rw [IntKind.wrap_i32]; omega
def pickR (a b : Int) : Int := (if a < 0 then 0 - (a + 1) else a).tmod b
theorem pickR_rng {a b : Int} (hb : 0 < b) : 0 ≤ pickR a b ∧ pickR a b < b := by
 unfold pickR
 refine ⟨Int.tmod_nonneg _ ?_, Int.tmod_lt_of_pos _ hb⟩
 split <;> omega
theorem pick_spec {a b : Int} (ha : -9223372036854775808 ≤ a ∧ a ≤ 9223372036854775807) (hb : 0 < b) : Spec Tryz.prog main badT 15 #[.int .i64 a, .int .i64 b] [] (fun v As => v = .int .i64 (pickR a b) ∧ As = []) := by
 refine Spec.of ?_
 intro R C kd d F c cs hkd hret
 simp only [List.nil_append]
 refine C.go ?_
 refine C.rg [0] ?_
 refine C.asg rfl ?_
 refine C.go ?_
 refine C.rg [0, 1] ?_
 refine C.mv rfl ?_
 refine C.cmp rfl (fun h6 => ?_) (fun h6 => ?_)
 ·skip
  refine C.go ?_
  refine C.tru ?_
  refine C.rg [0, 1, 2, 3] ?_
  refine C.mv rfl ?_
  refine C.ar (p := a) (q := 1) (r := a + 1) rfl ?_
  refine C.ngI rfl ?_ (p := a + 1) (r := 0 - (a + 1)) (hr := w64 (by omega) (by omega))
  refine C.asg rfl ?_
  refine C.go ?_
  refine C.rg [0, 1, 2, 3] ?_
  refine C.mv rfl ?_
  refine C.mv rfl ?_
  refine C.rem rfl ?_
  refine C.asg rfl ?_
  refine C.go ?_
  exact C.retR hkd hret ⟨by unfold pickR; rw [if_pos h6], rfl⟩
 ·skip
  refine C.go ?_
  refine C.fls ?_
  refine C.rg [0, 1, 2, 3] ?_
  refine C.mv rfl ?_
  refine C.mv rfl ?_
  refine C.rem rfl ?_
  refine C.asg rfl ?_
  refine C.go ?_
  exact C.retR hkd hret ⟨by unfold pickR; rw [if_neg h6], rfl⟩
theorem kept_spec {σ : Gh} {I : HL} {v : Value} {ops : List OpR} (hi : inSl I σ.bot opRC 3 v ops) (hz : ∀ o ∈ ops, OpZ o) (hl : ops.length * 24 ≤ 140737488355328) :
  Spec Tryz.prog true (barX.bw σ) 17 #[v] [imm I] (fun u As => ∃ s' : SliceV, u = s'.v ∧ As = [slP opRC 3 63 s' (ops.map keptO), imm I]) := by
 refine Spec.of ?_
 intro R C kd d F c cs hkd hret
 simp only [List.cons_append, List.nil_append]
 obtain ⟨a, cap, hv, hin⟩ := hi
 subst hv
 refine C.go ?_
 refine At.nilS opRC 3 63 (show At R d (slP opRC 3 63 nilS ((ops.take 0).map keptO) :: _) _ from ?_)
 refine C.rg [0] ?_
 refine C.asg rfl ?_
 refine C.go ?_
 refine C.rg [0] ?_
 refine C.asg rfl ?_
 refine C.go ?_
 refine C.rg [0] ?_
 refine C.asg rfl ?_
 refine C.go ?_
 refine C.loopR (X := Nat × SliceV) (fun x => [(0, .slice a ops.length cap), (2, nilS.v), (3, x.2.v), (4, .int .i64 x.1)]) (fun x => slP opRC 3 63 x.2 ((ops.take x.1).map keptO) :: imm I :: F) (fun x => x.1 ≤ ops.length) (fun x => ops.length - x.1) (0, nilS) ⟨rfl, rfl, rfl, rfl, trivial⟩ (Nat.zero_le _) ?_
 rintro ⟨i, s⟩ e hi ih
 dsimp only at hi ⊢
 refine C.go ?_
 refine C.rg [0, 1, 2, 3] ?_
 refine C.mv rfl ?_
 refine C.mv rfl ?_
 refine C.ln rfl ?_
 refine C.cmp rfl (fun h8 => ?_) (fun h8 => ?_)
 ·skip
  refine C.go ?_
  refine C.tru ?_
  have hj : i < ops.length := by omega
  rcases hin with rfl | ⟨b, off, cc, ty, fr, rfl, hI, hsh, hrow⟩
  ·exact absurd hj (by simp)
  have h0 := hrow i hj 0 (by decide)
  have h1 := hrow i hj 1 (by decide)
  have h2 := hrow i hj 2 (by decide)
  have hbz := hz _ (List.getElem_mem hj)
  obtain ⟨o, ho⟩ : ∃ o, o = ops[i] := ⟨_, rfl⟩
  rw [← ho] at h0 h1 h2 hbz
  have hlen : ((ops.take i).map keptO).length = i := by simp; omega
  have htk : (ops.take i).map keptO ++ [keptO o] = (ops.take (i + 1)).map keptO := by rw [ho, List.take_succ_eq_append_getElem hj, List.map_append]; rfl
  refine C.drawn [(11, 0), (12, 1), (13, 2), (14, 3), (15, 4), (16, 5), (17, 6), (18, 7), (19, 8), (20, 9), (21, 10), (22, 11), (23, 12), (24, 13), (25, 14), (26, 15), (27, 16), (28, 17), (29, 18), (30, 19), (31, 20), (32, 21), (33, 22), (3, 23)] [0, 1, 2, 3, 4, 5, 6, 7, 8, 9, 10, 11, 12, 13, 14, 15, 16, 17, 18, 19, 20] [21, 22, 23] 1 ?_
  refine Dr.pu ⟨_, rfl, rfl⟩ (fun _ _ _ h => C.mv rfl h) ?_
  refine Dr.pu ⟨_, rfl, rfl⟩ (fun _ _ _ h => C.mv rfl h) ?_
  refine Dr.pu ⟨_, rfl, rfl⟩ (fun _ _ _ h => C.mv rfl h) ?_
  refine Dr.ld ⟨_, rfl, rfl⟩ (fun _ hE _ _ h => C.ia (j := (i : Int)) (o := off + i * 3) rfl h (hoff := by simp)) ?_
  refine Dr.pu ⟨_, rfl, rfl⟩ (fun _ _ _ h => C.fa rfl h) ?_
  refine Dr.ld ⟨_, rfl, rfl⟩ (fun _ hE _ _ h => C.ldK (hE.immK (by (repeat (first | with_reducible exact Fo.head | with_reducible apply Fo.tail))) hI) hsh h0 rfl h) ?_
  refine Dr.pu ⟨_, rfl, rfl⟩ (fun _ _ _ h => C.mv rfl h) ?_
  refine Dr.pu ⟨_, rfl, rfl⟩ (fun _ _ _ h => C.mv rfl h) ?_
  refine Dr.ld ⟨_, rfl, rfl⟩ (fun _ hE _ _ h => C.ia (j := (i : Int)) (o := off + i * 3) rfl h (hoff := by simp)) ?_
  refine Dr.pu ⟨_, rfl, rfl⟩ (fun _ _ _ h => C.fa rfl h) ?_
  refine Dr.ld ⟨_, rfl, rfl⟩ (fun _ hE _ _ h => C.ldK (hE.immK (by (repeat (first | with_reducible exact Fo.head | with_reducible apply Fo.tail))) hI) hsh h1 rfl h) ?_
  refine Dr.pu ⟨_, rfl, rfl⟩ (fun _ _ _ h => C.cv (k1 := .i64) (k2 := .u8) (p := o.k) (r := IntKind.u8.wrap o.k) rfl h (hr := rfl)) ?_
  refine Dr.pu ⟨_, rfl, rfl⟩ (fun _ _ _ h => C.cv (k1 := .u8) (k2 := .i64) (p := IntKind.u8.wrap o.k) (r := IntKind.u8.wrap o.k) rfl h (hr := w64 (by have := u8_rng o.k; omega) (by have := u8_rng o.k; omega))) ?_
  refine Dr.pu ⟨_, rfl, rfl⟩ (fun _ _ _ h => C.mv rfl h) ?_
  refine Dr.pu ⟨_, rfl, rfl⟩ (fun _ _ _ h => C.mv rfl h) ?_
  refine Dr.ld ⟨_, rfl, rfl⟩ (fun _ hE _ _ h => C.ia (j := (i : Int)) (o := off + i * 3) rfl h (hoff := by simp)) ?_
  refine Dr.pu ⟨_, rfl, rfl⟩ (fun _ _ _ h => C.fa rfl h) ?_
  refine Dr.ld ⟨_, rfl, rfl⟩ (fun _ hE _ _ h => C.ldK (hE.immK (by (repeat (first | with_reducible exact Fo.head | with_reducible apply Fo.tail))) hI) hsh h2 rfl h) ?_
  refine Dr.pu ⟨_, rfl, rfl⟩ (fun _ _ _ h => C.cv (k1 := .i64) (k2 := .i32) (p := o.v) (r := IntKind.i32.wrap o.v) rfl h (hr := rfl)) ?_
  refine Dr.pu ⟨_, rfl, rfl⟩ (fun _ _ _ h => C.cv (k1 := .i32) (k2 := .i64) (p := IntKind.i32.wrap o.v) (r := IntKind.i32.wrap o.v) rfl h (hr := w64 (by have := i32_rng o.v; omega) (by have := i32_rng o.v; omega))) ?_
  refine Dr.pu ⟨_, rfl, rfl⟩ (fun _ _ _ h => C.bd rfl h) ?_
  refine Dr.chain rfl ?_
  refine Ch.n1 (t := 21) rfl ⟨_, rfl, fun e rest hk => ?_⟩
  refine C.bs1 rfl (fun b32 => hk _ _ .cons ?_)
  refine Ch.n1 (t := 22) rfl ⟨_, rfl, fun e rest hk => ?_⟩
  refine C.ap1 (f := opRC) (keptO o) rfl (fun s2 => ?_) (hsz := by rw [hlen]; omega)
  refine hk _ _ ?_
  refine Ch.pu (i := 23) ⟨_, rfl, rfl⟩ (fun _ _ _ h => C.asg rfl h) ?_
  refine Ch.fin ?_
  refine C.go ?_
  refine C.rg [0, 1, 2] ?_
  refine C.mv rfl ?_
  refine C.ar rfl ?_
  refine C.asg rfl ?_
  refine C.go ?_
  rw [htk]
  refine again ih (i + 1, s2) (by dsimp only; omega) (by dsimp only; omega)
 ·skip
  refine C.go ?_
  refine C.fls ?_
  refine C.rg [0, 1] ?_
  refine C.mv rfl ?_
  refine C.asg rfl ?_
  refine C.go ?_
  have hie : i = ops.length := by omega
  subst hie
  rw [List.take_length]
  exact C.retR hkd hret ⟨s, rfl, rfl⟩
theorem given_spec {I : HL} {so : SliceV} {ops : List OpR} (hi : imSl I opRC 63 so ops) (hz : ∀ o ∈ ops, (0 ≤ o.k ∧ o.k ≤ 255) ∧ (-2147483648 ≤ o.v ∧ o.v ≤ 2147483647)) (hl : ops.length * 8 ≤ 140737488355328) :
  Spec Tryz.prog main badT 19 #[so.v] [imm I] (fun u As => ∃ s' : SliceV, u = s'.v ∧ As = [slP opPC 3 67 s' ops, imm I]) := by
 refine Spec.of ?_
 intro R C kd d F c cs hkd hret
 simp only [List.cons_append, List.nil_append]
 refine C.go ?_
 refine At.nilS opPC 3 67 (show At R d (slP opPC 3 67 nilS (ops.take 0) :: _) _ from ?_)
 refine C.rg [0] ?_
 refine C.asg rfl ?_
 refine C.go ?_
 refine C.rg [0] ?_
 refine C.asg rfl ?_
 refine C.go ?_
 refine C.rg [0] ?_
 refine C.asg rfl ?_
 refine C.go ?_
 refine C.loopR (X := Nat × SliceV) (fun x => [(0, so.v), (2, nilS.v), (3, x.2.v), (4, .int .i64 x.1)]) (fun x => slP opPC 3 67 x.2 (ops.take x.1) :: imm I :: F) (fun x => x.1 ≤ ops.length) (fun x => ops.length - x.1) (0, nilS) ⟨rfl, rfl, rfl, rfl, trivial⟩ (Nat.zero_le _) ?_
 rintro ⟨i, s⟩ e hile ih
 dsimp only at hile ⊢
 refine C.go ?_
 refine C.rg [0, 1, 2, 3] ?_
 refine C.mv rfl ?_
 refine C.mv rfl ?_
 refine C.lnR rfl ?_
 refine C.cmp rfl (fun h8 => ?_) (fun h8 => ?_)
 ·skip
  refine C.go ?_
  refine C.tru ?_
  have hj : i < ops.length := by omega
  have hbz := hz _ (List.getElem_mem hj)
  have hlen : (ops.take i).length = i := by simp; omega
  have htk : ops.take i ++ [ops[i]] = ops.take (i + 1) := by rw [List.take_succ_eq_append_getElem hj]
  refine C.drawn [(11, 0), (12, 1), (13, 2), (14, 3), (15, 4), (16, 5), (17, 6), (18, 7), (19, 8), (20, 9), (21, 10), (22, 11), (23, 12), (24, 13), (25, 14), (26, 15), (27, 16), (28, 17), (29, 18), (30, 19), (31, 20), (3, 21)] [0, 1, 2, 3, 4, 5, 6, 7, 8, 9, 10, 11, 12, 13, 14, 15, 16, 17, 18] [19, 20, 21] 1 ?_
  refine Dr.pu ⟨_, rfl, rfl⟩ (fun _ _ _ h => C.mv rfl h) ?_
  refine Dr.pu ⟨_, rfl, rfl⟩ (fun _ _ _ h => C.mv rfl h) ?_
  refine Dr.pu ⟨_, rfl, rfl⟩ (fun _ _ _ h => C.mv rfl h) ?_
  refine Dr.ld ⟨_, rfl, rfl⟩ (fun _ hE _ _ h => C.iaR rfl h) ?_
  refine Dr.pu ⟨_, rfl, rfl⟩ (fun _ _ _ h => C.fa rfl h) ?_
  refine Dr.ld ⟨_, rfl, rfl⟩ (fun _ hE _ _ h => C.ldR (f := opRC) (s := so) (l := ops) (j := i) (o := 0) rfl h (hr := RowS.ext hE (.imm (by (repeat (first | with_reducible exact Fo.head | with_reducible apply Fo.tail))) hi))) ?_
  refine Dr.pu ⟨_, rfl, rfl⟩ (fun _ _ _ h => C.mv rfl h) ?_
  refine Dr.pu ⟨_, rfl, rfl⟩ (fun _ _ _ h => C.mv rfl h) ?_
  refine Dr.ld ⟨_, rfl, rfl⟩ (fun _ hE _ _ h => C.iaR rfl h) ?_
  refine Dr.pu ⟨_, rfl, rfl⟩ (fun _ _ _ h => C.fa rfl h) ?_
  refine Dr.ld ⟨_, rfl, rfl⟩ (fun _ hE _ _ h => C.ldR (f := opRC) (s := so) (l := ops) (j := i) (o := 1) rfl h (hr := RowS.ext hE (.imm (by (repeat (first | with_reducible exact Fo.head | with_reducible apply Fo.tail))) hi))) ?_
  refine Dr.pu ⟨_, rfl, rfl⟩ (fun _ _ _ h => C.cv rfl h) ?_
  refine Dr.pu ⟨_, rfl, rfl⟩ (fun _ _ _ h => C.mv rfl h) ?_
  refine Dr.pu ⟨_, rfl, rfl⟩ (fun _ _ _ h => C.mv rfl h) ?_
  refine Dr.ld ⟨_, rfl, rfl⟩ (fun _ hE _ _ h => C.iaR rfl h) ?_
  refine Dr.pu ⟨_, rfl, rfl⟩ (fun _ _ _ h => C.fa rfl h) ?_
  refine Dr.ld ⟨_, rfl, rfl⟩ (fun _ hE _ _ h => C.ldR (f := opRC) (s := so) (l := ops) (j := i) (o := 2) rfl h (hr := RowS.ext hE (.imm (by (repeat (first | with_reducible exact Fo.head | with_reducible apply Fo.tail))) hi))) ?_
  refine Dr.pu ⟨_, rfl, rfl⟩ (fun _ _ _ h => C.cv rfl h) ?_
  refine Dr.pu ⟨_, rfl, rfl⟩ (fun _ _ _ h => C.bd rfl h) ?_
  refine Dr.chain rfl ?_
  refine Ch.n1 (t := 19) rfl ⟨_, rfl, fun e rest hk => ?_⟩
  refine C.bs1 rfl (fun b30 => hk _ _ .cons ?_)
  refine Ch.n1 (t := 20) rfl ⟨_, rfl, fun e rest hk => ?_⟩
  refine C.ap1 (f := opPC) ops[i] rfl (fun s2 => ?_) (hsz := by rw [hlen]; omega)
  refine hk _ _ ?_
  refine Ch.pu (i := 21) ⟨_, rfl, rfl⟩ (fun _ _ _ h => C.asg rfl h) ?_
  refine Ch.fin ?_
  refine C.go ?_
  refine C.rg [0, 1, 2] ?_
  refine C.mv rfl ?_
  refine C.ar rfl ?_
  refine C.asg rfl ?_
  refine C.go ?_
  rw [htk]
  refine again ih (i + 1, s2) (by dsimp only; omega) (by dsimp only; omega)
 ·skip
  refine C.go ?_
  refine C.fls ?_
  refine C.rg [0, 1] ?_
  refine C.mv rfl ?_
  refine C.asg rfl ?_
  refine C.go ?_
  have hie : i = ops.length := by omega
  subst hie
  rw [List.take_length]
  exact C.retR hkd hret ⟨s, rfl, rfl⟩
end Go.Sl
end
section
set_option linter.unusedVariables false
namespace Go.Sl
open Go.Proofs
instance : Ext_ Tryz.prog 106 Tryz.f106 ((Extern.find Tryz.f106).getD fun _ => pure undef) := ⟨Tryz.func106, rfl, rfl, by kernel_rfl, by kernel_rfl⟩
instance : Ext_ Tryz.prog 264 Tryz.f264 ((Extern.find Tryz.f264).getD fun _ => pure undef) := ⟨Tryz.func264, rfl, rfl, by kernel_rfl, by kernel_rfl⟩
abbrev hdV (t : TypeId) : Value := .pointer (some ⟨10, t, none⟩)
abbrev rtV (t : TypeId) : Value := .iface 231 (.agg #[hdV t])
theorem hdV_eq (t : TypeId) : typeHandle Tryz.prog t = hdV t := by
 have : Tryz.prog.globals.size = 10 := by kernel_rfl
 unfold typeHandle; rw [this]
theorem typeOf_err {v : Value} : ev0 Tryz.prog (((Extern.find Tryz.f106).getD fun _ => pure undef) ([.iface 339 v] : List Value).toArray) = some (rtV 339) := by kernel_rfl
theorem m_cmp : ev0 Tryz.prog (method (Tryz.prog.types.size + Made.depth) 231 (.agg #[hdV 339]) "Comparable") = some (264, .agg #[hdV 339]) := by kernel_rfl
theorem x_cmp : ev0 Tryz.prog (((Extern.find Tryz.f264).getD fun _ => pure undef) (#[.agg #[hdV 339]] ++ ([] : List Value).toArray)) = some (.bool true) := by kernel_rfl
end Go.Sl
end
section
set_option linter.unusedVariables false
namespace Go.Sl
open Go.Proofs
variable {main : Bool}
theorem miss1 {s : String} {sig : TypeId} {got : Array Method} (h : (got.toList.any fun m => m.name == s && m.sig == sig) = false) : ∃ mm, Instr.missingMethod #[(s, sig)] got = some mm := by
 have h' : (got.any fun m => m.name == s && m.sig == sig) = false := by rw [← h]; simp
 unfold Instr.missingMethod
 simp only [List.filter_cons, List.filter_nil, h', Bool.not_false, if_true, List.map_cons, List.map_nil]
 cases hc : s.contains (Char.ofNat 46)
 ·exact ⟨s, by simp only [List.partition, List.partition.loop, hc]; rfl⟩
 ·exact ⟨(s.splitOn ".").getLastD s, by simp only [List.partition, List.partition.loop, hc]; rfl⟩
theorem have1 {s : String} {sig : TypeId} {got : Array Method} (h : (got.toList.any fun m => m.name == s && m.sig == sig) = true) : Instr.missingMethod #[(s, sig)] got = none := by
 have h' : (got.any fun m => m.name == s && m.sig == sig) = true := by rw [← h]; simp
 unfold Instr.missingMethod
 simp [h', Instr.least]
theorem unwrap_spec {bE : Nat} {nm w : Value} {at_ : Int} : Spec Tryz.prog main badT 58 #[ptrV bE] [pts bE (.cells #[nm, .int .i64 at_, w] 132 (0, 0))] (fun v As => v = w ∧ As = [pts bE (.cells #[nm, .int .i64 at_, w] 132 (0, 0))]) := by
 refine Spec.of ?_
 intro R C kd d F c cs hkd hret
 simp only [List.cons_append, List.nil_append]
 refine C.go ?_
 refine C.rg [0] ?_
 refine C.asg rfl ?_
 refine C.go ?_
 refine C.rg [0, 1, 2, 3, 4] ?_
 refine C.mv rfl ?_
 refine C.nc rfl ?_
 refine C.fa rfl ?_
 refine C.ld rfl ?_
 refine C.asg rfl ?_
 refine C.go ?_
 exact C.retR hkd hret ⟨rfl, rfl⟩
theorem m_unw {bE : Nat} : ev0 Tryz.prog (method (Tryz.prog.types.size + Made.depth) 128 (ptrV bE) "Unwrap") = some (58, ptrV bE) := by kernel_rfl
instance : Pt Tryz.prog 339 359 := ⟨Tryz.underlying339⟩
instance : Cz Tryz.prog 359 1 := ⟨_, info_of Tryz.type359, rfl⟩
theorem eis_spec {I : HL} {eb : Nat → Nat × Nat} (hE : ErrI I eb) {bE j k : Nat} (hj : j < 9) (hk : k < 9) {nm : Value} {at_ : Int} : Spec Tryz.prog main badT 107 #[.iface 128 (ptrV bE), errV (eb j), .bool true] [pts bE (.cells #[nm, .int .i64 at_, errV (eb k)] 132 (0, 0)), imm I]
  (fun v As => v = .bool (decide (k = j)) ∧ As = [pts bE (.cells #[nm, .int .i64 at_, errV (eb k)] 132 (0, 0)), imm I]) := by
 refine Spec.of ?_
 intro R C kd d F c cs hkd hret
 simp only [List.cons_append, List.nil_append]
 obtain ⟨cj, tj, hcj⟩ := hE.e j hj
 obtain ⟨ck, tk, hck⟩ := hE.e k hk
 refine C.go ?_
 refine C.rg [0] ?_
 refine C.asg rfl ?_
 refine C.go ?_
 refine C.lp ?_
 refine C.go ?_
 refine C.rg [0, 1, 2, 3, 4, 5] ?_
 refine C.mv rfl ?_
 refine C.mv rfl ?_
 refine C.mv rfl ?_
 refine C.mv rfl ?_
 refine C.eqN Tryz.underlying46 rfl ?_
 obtain ⟨mm1, hm1⟩ := miss1 (s := "Is") (sig := 242) (got := Tryz.t128.methods) (by kernel_rfl)
 obtain ⟨mm2, hm2⟩ := miss1 (s := "Is") (sig := 242) (got := Tryz.t339.methods) (by kernel_rfl)
 refine C.pk rfl ?_
 refine C.go ?_
 refine C.fls ?_
 refine C.rg [0, 1, 2, 3, 4, 5, 6] ?_
 refine C.mv rfl ?_
 refine C.taI Tryz.underlying240 (info_of Tryz.type128) hm1 ⟨_, info_of Tryz.type240, rfl⟩ rfl ?_
 refine C.mv rfl ?_
 refine C.ext rfl ?_
 refine C.ext rfl ?_
 refine C.asg rfl ?_
 refine C.asg rfl ?_
 refine C.go ?_
 refine C.rg [0, 1, 2, 3, 4, 5] ?_
 refine C.mv rfl ?_
 refine C.mv rfl ?_
 refine C.no rfl ?_
 refine C.no rfl ?_
 refine C.no rfl ?_
 refine C.pk rfl ?_
 refine C.go ?_
 refine C.fls ?_
 refine C.rg [0] ?_
 refine C.mv rfl ?_
 refine C.go ?_
 refine C.rg [0, 1, 2] ?_
 refine C.taY Tryz.underlying238 (info_of Tryz.type128) (have1 (by kernel_rfl)) rfl ?_
 refine C.ext rfl ?_
 refine C.ext rfl ?_
 refine C.go ?_
 refine C.tru ?_
 refine C.rg [0] ?_
 refine C.asg rfl ?_
 refine C.go ?_
 refine C.rg [0, 1, 2] ?_
 refine C.mv rfl ?_
 refine C.mi0 m_unw unwrap_spec ?_
 rintro v As' ⟨rfl, rfl⟩
 simp only [List.cons_append, List.nil_append]
 refine C.asg rfl ?_
 refine C.go ?_
 refine C.rg [0, 1] ?_
 refine C.mv rfl ?_
 refine C.eqZ Tryz.underlying46 rfl ?_
 refine C.go ?_
 refine C.fls ?_
 refine C.ilp ?_
 refine C.go ?_
 refine C.rg [0, 1, 2, 3, 4, 5] ?_
 refine C.mv rfl ?_
 refine C.mv rfl ?_
 refine C.mv rfl ?_
 refine C.mv rfl ?_
 refine C.eqP Tryz.underlying46 (info_of Tryz.type339) rfl rfl ?_ (fun H s => (s.perm (Fo.perm (show Fo (imm I) _ _ from (by (repeat (first | with_reducible exact Fo.head | with_reducible apply Fo.tail)))))).getI hck) (fun H s => (s.perm (Fo.perm (show Fo (imm I) _ _ from (by (repeat (first | with_reducible exact Fo.head | with_reducible apply Fo.tail)))))).getI hcj)
 by_cases hkj : k = j
 ·subst hkj
  rw [show (decide ((eb k).1 = (eb k).1 ∧ (eb k).2 = (eb k).2) == true) = true by simp]
  refine C.pk rfl ?_
  refine C.go ?_
  refine C.tru ?_
  refine C.rg [0] ?_
  refine C.asg rfl ?_
  refine C.go ?_
  refine C.retR hkd hret ⟨?_, rfl⟩
  simp
 ·rw [show (decide ((eb k).1 = (eb j).1 ∧ (eb k).2 = (eb j).2) == true) = false by
   rw [beq_true, decide_eq_false_iff_not]
   rintro ⟨h1, h2⟩
   exact hkj (hE.inj k j hk hj (Prod.ext h1 h2))]
  refine C.pk rfl ?_
  refine C.go ?_
  refine C.fls ?_
  refine C.rg [0, 1, 2, 3, 4, 5, 6] ?_
  refine C.mv rfl ?_
  refine C.taI Tryz.underlying240 (info_of Tryz.type339) hm2 ⟨_, info_of Tryz.type240, rfl⟩ rfl ?_
  refine C.mv rfl ?_
  refine C.ext rfl ?_
  refine C.ext rfl ?_
  refine C.asg rfl ?_
  refine C.asg rfl ?_
  refine C.go ?_
  refine C.rg [0, 1, 2, 3, 4, 5] ?_
  refine C.mv rfl ?_
  refine C.mv rfl ?_
  refine C.no rfl ?_
  refine C.no rfl ?_
  refine C.no rfl ?_
  refine C.pk rfl ?_
  refine C.go ?_
  refine C.fls ?_
  refine C.rg [0] ?_
  refine C.mv rfl ?_
  refine C.go ?_
  refine C.rg [0, 1, 2] ?_
  refine C.taI Tryz.underlying238 (info_of Tryz.type339) (miss1 (by kernel_rfl)).choose_spec ⟨_, info_of Tryz.type238, rfl⟩ rfl ?_
  refine C.ext rfl ?_
  refine C.ext rfl ?_
  refine C.go ?_
  refine C.fls ?_
  refine C.rg [0, 1, 2] ?_
  refine C.taI Tryz.underlying239 (info_of Tryz.type339) (miss1 (by kernel_rfl)).choose_spec ⟨_, info_of Tryz.type239, rfl⟩ rfl ?_
  refine C.ext rfl ?_
  refine C.ext rfl ?_
  refine C.go ?_
  refine C.fls ?_
  refine C.rg [0] ?_
  refine C.asg rfl ?_
  refine C.go ?_
  refine C.rg [0] ?_
  refine C.asg rfl ?_
  refine C.go ?_
  refine C.retR hkd hret ⟨?_, rfl⟩
  simp [hkj]
theorem eIs_spec {I : HL} {eb : Nat → Nat × Nat} (hE : ErrI I eb) {bE j k : Nat} (hj : j < 9) (hk : k < 9) {nm : Value} {at_ : Int} : Spec Tryz.prog main badT 60 #[.iface 128 (ptrV bE), errV (eb j)] [pts bE (.cells #[nm, .int .i64 at_, errV (eb k)] 132 (0, 0)), imm I]
  (fun v As => v = .bool (decide (k = j)) ∧ As = [pts bE (.cells #[nm, .int .i64 at_, errV (eb k)] 132 (0, 0)), imm I]) := by
 refine Spec.of ?_
 intro R C kd d F c cs hkd hret
 simp only [List.cons_append, List.nil_append]
 refine C.go ?_
 refine C.rg [0] ?_
 refine C.asg rfl ?_
 refine C.go ?_
 refine C.rg [0, 1, 2, 3, 4, 5] ?_
 refine C.mv rfl ?_
 refine C.eqZ Tryz.underlying46 rfl ?_
 refine C.mv rfl ?_
 refine C.mv rfl ?_
 refine C.eqZ Tryz.underlying46 rfl ?_
 refine C.pk rfl ?_
 refine C.go ?_
 refine C.fls ?_
 refine C.rg [0, 1, 2, 3] ?_
 refine C.mv rfl ?_
 refine C.x0 (f := 106) (v := rtV 339) typeOf_err rfl ?_
 refine C.xi0 m_cmp x_cmp ?_
 refine C.asg rfl ?_
 refine C.go ?_
 refine C.rg [0, 1, 2, 3, 4] ?_
 refine C.mv rfl ?_
 refine C.mv rfl ?_
 refine C.mv rfl ?_
 refine C.clR (eis_spec hE hj hk) ?_
 rintro v As' ⟨rfl, rfl⟩
 simp only [List.cons_append, List.nil_append]
 refine C.asg rfl ?_
 refine C.go ?_
 exact C.retR hkd hret ⟨rfl, rfl⟩
end Go.Sl
end
section
set_option linter.unusedVariables false
namespace Go.Sl
open Go.Proofs
instance : Ext_ Tryz.prog 102 Tryz.f102 (fun args => Extern.ReflectliteValue.unpack (args.getD 0 (.tuple #[]))) := ⟨Tryz.func102, rfl, rfl, by kernel_rfl, by kernel_rfl⟩
instance : Ext_ Tryz.prog 103 Tryz.f103 ((Extern.find Tryz.f103).getD fun _ => pure undef) := ⟨Tryz.func103, rfl, rfl, by kernel_rfl, by kernel_rfl⟩
instance : Ext_ Tryz.prog 104 Tryz.f104 (Extern.ReflectliteValue.method (Extern.ReflectliteValue.valueError "reflectlite.Value.IsNil" 0) Extern.ReflectliteValue.isNil) := ⟨Tryz.func104, rfl, rfl, by kernel_rfl, by kernel_rfl⟩
instance : Ext_ Tryz.prog 150 Tryz.f150 (Extern.ReflectliteValue.method (Extern.ReflectliteValue.valueError "reflectlite.Value.Elem" 0) Extern.ReflectliteValue.elem) := ⟨Tryz.func150, rfl, rfl, by kernel_rfl, by kernel_rfl⟩
instance : Ext_ Tryz.prog 151 Tryz.f151 Extern.ReflectliteValue.set := ⟨Tryz.func151, rfl, rfl, by kernel_rfl, by kernel_rfl⟩
instance : Ext_ Tryz.prog 265 Tryz.f265 ((Extern.find Tryz.f265).getD fun _ => pure undef) := ⟨Tryz.func265, rfl, rfl, by kernel_rfl, by kernel_rfl⟩
instance : Ext_ Tryz.prog 266 Tryz.f266 ((Extern.find Tryz.f266).getD fun _ => pure undef) := ⟨Tryz.func266, rfl, rfl, by kernel_rfl, by kernel_rfl⟩
instance : Ext_ Tryz.prog 263 Tryz.f263 ((Extern.find Tryz.f263).getD fun _ => pure undef) := ⟨Tryz.func263, rfl, rfl, by kernel_rfl, by kernel_rfl⟩
instance : Ext_ Tryz.prog 248 Tryz.f248 ((Extern.find Tryz.f248).getD fun _ => pure undef) := ⟨Tryz.func248, rfl, rfl, by kernel_rfl, by kernel_rfl⟩
abbrev rvV (t : TypeId) (b : Nat) (f : Int) : Value := .agg #[hdV t, .pointer (some ⟨b, 0, none⟩), .int .u64 f]
theorem mk_130 {b : Nat} : ev0 Tryz.prog (Extern.ReflectliteValue.mk 130 ⟨b, 0, none⟩ 0) = some (rvV 130 b 150) := by kernel_rfl
theorem mk_128 {b : Nat} : ev0 Tryz.prog (Extern.ReflectliteValue.mk 128 ⟨b, 0, none⟩ 0) = some (rvV 128 b 150) := by kernel_rfl
theorem mk_128a {b : Nat} : ev0 Tryz.prog (Extern.ReflectliteValue.mk 128 ⟨b, 0, none⟩ 256) = some (rvV 128 b 406) := by kernel_rfl
theorem x_type {b : Nat} : ev0 Tryz.prog (((Extern.find Tryz.f103).getD fun _ => pure undef) ([rvV 130 b 150] : List Value).toArray) = some (rtV 130) := by kernel_rfl
theorem m_kind (t : TypeId) : ev0 Tryz.prog (method (Tryz.prog.types.size + Made.depth) 231 (.agg #[hdV t]) "Kind") = some (248, hdV t) := by kernel_rfl
theorem x_kind0 : ev0 Tryz.prog (((Extern.find Tryz.f248).getD fun _ => pure undef) (#[hdV 130] ++ ([] : List Value).toArray)) = some (.int .u8 22) := by kernel_rfl
theorem x_kind1 : ev0 Tryz.prog (((Extern.find Tryz.f248).getD fun _ => pure undef) (#[hdV 128] ++ ([] : List Value).toArray)) = some (.int .u8 22) := by kernel_rfl
theorem m_elem : ev0 Tryz.prog (method (Tryz.prog.types.size + Made.depth) 231 (.agg #[hdV 130]) "Elem") = some (265, .agg #[hdV 130]) := by kernel_rfl
theorem x_elem : ev0 Tryz.prog (((Extern.find Tryz.f265).getD fun _ => pure undef) (#[.agg #[hdV 130]] ++ ([] : List Value).toArray)) = some (rtV 128) := by kernel_rfl
theorem m_impl : ev0 Tryz.prog (method (Tryz.prog.types.size + Made.depth) 231 (.agg #[hdV 128]) "Implements") = some (266, .agg #[hdV 128]) := by kernel_rfl
theorem x_impl : ev0 Tryz.prog (((Extern.find Tryz.f266).getD fun _ => pure undef) (#[.agg #[hdV 128]] ++ ([rtV 46] : List Value).toArray)) = some (.bool true) := by kernel_rfl
theorem m_asg : ev0 Tryz.prog (method (Tryz.prog.types.size + Made.depth) 231 (.agg #[hdV 128]) "AssignableTo") = some (263, .agg #[hdV 128]) := by kernel_rfl
theorem x_asg : ev0 Tryz.prog (((Extern.find Tryz.f263).getD fun _ => pure undef) (#[.agg #[hdV 128]] ++ ([rtV 128] : List Value).toArray)) = some (.bool true) := by kernel_rfl
theorem typeOf_ce {v : Value} : ev0 Tryz.prog (((Extern.find Tryz.f106).getD fun _ => pure undef) ([.iface 128 v] : List Value).toArray) = some (rtV 128) := by kernel_rfl
end Go.Sl
end
section
set_option linter.unusedVariables false
namespace Go.Sl
open Go.Proofs Go.Extern.ReflectliteValue
variable {main : Bool} {B : Bad} {H : Array Obj} {d : Nat} {Q : Value → Array Obj → Nat → Prop}
theorem okS_vof {P : Program} {t : TypeId} {v w : Value} (hmk : ev0 P (Extern.ReflectliteValue.mk t ⟨H.size, 0, none⟩ 0) = some w) (q : Q w (H.push (.cells v.cells t (0, 0))) d) : okS P B (unpack (.iface t v)) H d Q := by
 show okS P B (newVar t v >>= fun a => mk t a 0) H d Q
 refine okS_do ?_
 unfold newVar newRow
 refine okS_do ?_
 show okS P B (.new _ _) H d _
 simp only [okS]
 show okS P B (pure _) _ d _
 exact okS_pure (okS_ev0 hmk q)
theorem okS_isnilG {P : Program} {t : TypeId} {b p : Nat} {u : Value} [Ag P t false] (hp' : ev0 P (parts u) = some (some (t, ⟨b, 0, none⟩, 150))) (hg : hp H b = some (.cells #[ptrV p] t (0, 0))) (hs : B.sh t 0 = false) (q : Q (.bool false) H d) : okS P B (Extern.ReflectliteValue.method (valueError "reflectlite.Value.IsNil" 0) isNil #[u]) H d Q := by
 unfold Extern.ReflectliteValue.method
 refine okS_do (okS_ev0 hp' ?_)
 show okS P B (isNil t ⟨b, 0, none⟩ 150 22) H d Q
 unfold isNil
 simp only [List.contains_cons, List.contains_nil, Nat.reduceBEq, Bool.or_false, Bool.false_or, Bool.or_true, Bool.true_or, Bool.not_true, Bool.false_eq_true, if_false]
 refine okS_do (okS_loadVar1 hg rfl hs ?_)
 exact okS_pure q
theorem okS_elemG {P : Program} {t t2 : TypeId} {b p : Nat} {u w : Value} [Ag P t false] (hp' : ev0 P (parts u) = some (some (t, ⟨b, 0, none⟩, 150))) (he : ev0 P (Extern.Rtype.elem? t) = some (some t2)) (hmk : ev0 P (Extern.ReflectliteValue.mk t2 ⟨p, 0, none⟩ 256) = some w) (hg : hp H b = some (.cells #[ptrV p] t (0, 0))) (hs : B.sh t 0 = false) (q : Q w H d) : okS P B (Extern.ReflectliteValue.method (valueError "reflectlite.Value.Elem" 0) Extern.ReflectliteValue.elem #[u]) H d Q := by
 unfold Extern.ReflectliteValue.method
 refine okS_do (okS_ev0 hp' ?_)
 show okS P B (Extern.ReflectliteValue.elem t ⟨b, 0, none⟩ 150 22) H d Q
 unfold Extern.ReflectliteValue.elem
 simp only [Nat.reduceBNe, Bool.and_false, Bool.false_and, Bool.false_eq_true, if_false]
 refine okS_do (okS_loadVar1 hg rfl hs ?_)
 refine okS_do (okS_ev0 he ?_)
 exact okS_ev0 hmk q
theorem okS_setG {P : Program} {t : TypeId} {b p : Nat} {u w x0 v : Value} [Ag P t false] [Cz P t 1] (hu : ev0 P (parts u) = some (some (t, ⟨p, 0, none⟩, 406))) (hw : ev0 P (parts w) = some (some (t, ⟨b, 0, none⟩, 150))) (hd : ev0 P (Extern.Rtype.directlyAssignable t t) = some true) (h1 : hp H b = some (.cells #[v] t (0, 0))) (h2 : hp H p = some (.cells #[x0] t (0, 0)))
  (hv : v.cells = #[v]) (h1v : oneCell v = true) (hs : B.sh t 0 = false) (hr : B.rd p t 0 = false) (q : Q (.tuple #[]) (H.setIfInBounds p (.cells #[v] t (0, 0))) d) : okS P B (Extern.ReflectliteValue.set #[u, w]) H d Q := by
 unfold Extern.ReflectliteValue.set
 refine okS_do (okS_ev0 hu ?_)
 refine okS_do (okS_ev0 hw ?_)
 show okS P B _ H d Q
 simp only [show ((406 / flagAddr % 2 == 0) : Bool) = false from rfl, Bool.false_eq_true, if_false]
 refine okS_do (okS_loadVar1 (v := v) h1 rfl hs ?_)
 refine okS_do (okS_ev0 hd ?_)
 simp only [if_true]
 refine okS_do (okS_storeVar (z := 1) h2 (by rw [hv]; rfl) (by simp) (by rw [hv]; intro x hx; simp at hx; subst hx; exact h1v) (fun j h0 h3 => ?_) ?_)
 ·obtain rfl : j = 0 := by omega
  exact ⟨hr, hs⟩
 ·rw [hv]
  exact okS_pure q
theorem p_130 {b : Nat} : ev0 Tryz.prog (parts (rvV 130 b 150)) = some (some (130, ⟨b, 0, none⟩, 150)) := by kernel_rfl
theorem p_128 {b : Nat} : ev0 Tryz.prog (parts (rvV 128 b 150)) = some (some (128, ⟨b, 0, none⟩, 150)) := by kernel_rfl
theorem p_128a {b : Nat} : ev0 Tryz.prog (parts (rvV 128 b 406)) = some (some (128, ⟨b, 0, none⟩, 406)) := by kernel_rfl
theorem el_130 : ev0 Tryz.prog (Extern.Rtype.elem? 130) = some (some 128) := by kernel_rfl
theorem da_128 : ev0 Tryz.prog (Extern.Rtype.directlyAssignable 128 128) = some true := by kernel_rfl
section
variable {P : Program} {R : Nat → Goroutine → Array Obj → Prop} {As As' : List HP}
variable {fn : FuncId} {kd : Kd} {n : Nat} {e : Nat → Value} {ds : List Deferred} {k : List Item} {cs : List Frame}
variable {ops : Array Oper} {i : Nat} {rest : List Nat} {dst : Option Nat} {ty : TypeId} {pos : String} {af : Array Edge} {gd : Option (Nat × Bool)}
variable {f : FuncId} {fu : Func} {fo : Operand} {args : Array Operand} {ats : Array TypeId} {t t2 : TypeId} {b p : Nat} {u w v x0 : Value}
theorem Closed.xVof (C : Closed P main B R) [x : Ext_ P f fu (fun args => unpack (args.getD 0 (.tuple #[])))] {w : Nat → Value} {c : Array Value} (hc : v.cells = c) (hmk : ∀ b, ev0 P (Extern.ReflectliteValue.mk t ⟨b, 0, none⟩ 0) = some (w b)) (ho : nthO ops i = some ⟨dst, .call ⟨.value fo, args, ats⟩, ty, pos, af, gd⟩) (h : ∀ b, At R d (pts b (.cells c t (0, 0)) :: As) (gr fn kd n (putO e dst (w b)) ds (.inRegion ops rest :: k) cs))
  (hf : ev n e fo = .func (.func f) #[] #[] := by rfl) (hv : args.toList.map (ev n e) = [.iface t v] := by rfl) (hw : wantB ops n e gd = true := by rfl) : At R d As (gr fn kd n e ds (.inRegion ops (i :: rest) :: k) cs) :=
 C.xt (f := f) (vl := [.iface t v]) (fun H s => okS_vof (hmk H.size) ⟨_, s.push _, hc ▸ h _⟩) ho hw hf hv
theorem Closed.xNil (C : Closed P main B R) [x : Ext_ P f fu (Extern.ReflectliteValue.method (valueError "reflectlite.Value.IsNil" 0) isNil)] [Ag P t false] (hp' : ev0 P (parts u) = some (some (t, ⟨b, 0, none⟩, 150))) (ho : nthO ops i = some ⟨dst, .call ⟨.value fo, args, ats⟩, ty, pos, af, gd⟩) (h : At R d As (gr fn kd n (putO e dst (.bool false)) ds (.inRegion ops rest :: k) cs))
  (hh : Kn As b (.cells #[ptrV p] t (0, 0)) := by apply Has.kn; (repeat (first | with_reducible exact Has.head | with_reducible apply Has.tail)); done) (hs : B.sh t 0 = false := by rfl) (hf : ev n e fo = .func (.func f) #[] #[] := by rfl) (hv : args.toList.map (ev n e) = [u] := by rfl) (hw : wantB ops n e gd = true := by rfl) : At R d As (gr fn kd n e ds (.inRegion ops (i :: rest) :: k) cs) :=
 C.xt (f := f) (vl := [u]) (fun H s => okS_isnilG hp' (hh _ s) hs ⟨_, s, h⟩) ho hw hf hv
theorem Closed.xElm (C : Closed P main B R) [x : Ext_ P f fu (Extern.ReflectliteValue.method (valueError "reflectlite.Value.Elem" 0) Extern.ReflectliteValue.elem)] [Ag P t false] (hp' : ev0 P (parts u) = some (some (t, ⟨b, 0, none⟩, 150))) (he : ev0 P (Extern.Rtype.elem? t) = some (some t2)) (hmk : ev0 P (Extern.ReflectliteValue.mk t2 ⟨p, 0, none⟩ 256) = some w) (ho : nthO ops i = some ⟨dst, .call ⟨.value fo, args, ats⟩, ty, pos, af, gd⟩) (h : At R d As (gr fn kd n (putO e dst w) ds (.inRegion ops rest :: k) cs))
  (hh : Kn As b (.cells #[ptrV p] t (0, 0)) := by apply Has.kn; (repeat (first | with_reducible exact Has.head | with_reducible apply Has.tail)); done) (hs : B.sh t 0 = false := by rfl) (hf : ev n e fo = .func (.func f) #[] #[] := by rfl) (hv : args.toList.map (ev n e) = [u] := by rfl) (hw : wantB ops n e gd = true := by rfl) : At R d As (gr fn kd n e ds (.inRegion ops (i :: rest) :: k) cs) :=
 C.xt (f := f) (vl := [u]) (fun H s => okS_elemG hp' he hmk (hh _ s) hs ⟨_, s, h⟩) ho hw hf hv
theorem Closed.xSet (C : Closed P main B R) [x : Ext_ P f fu Extern.ReflectliteValue.set] [Ag P t false] [Cz P t 1] (hu : ev0 P (parts u) = some (some (t, ⟨p, 0, none⟩, 406))) (hw' : ev0 P (parts w) = some (some (t, ⟨b, 0, none⟩, 150))) (hd : ev0 P (Extern.Rtype.directlyAssignable t t) = some true) (ho : nthO ops i = some ⟨dst, .call ⟨.value fo, args, ats⟩, ty, pos, af, gd⟩) (h : At R d As' (gr fn kd n (putO e dst (.tuple #[])) ds (.inRegion ops rest :: k) cs))
  (hh : Kn As b (.cells #[v] t (0, 0)) := by apply Has.kn; (repeat (first | with_reducible exact Has.head | with_reducible apply Has.tail)); done) (hU : Upd p (.cells #[x0] t (0, 0)) (.cells #[v] t (0, 0)) As As' := by repeat (first | with_reducible exact Upd.head | with_reducible apply Upd.tail)) (hvc : v.cells = #[v] := by rfl) (h1v : oneCell v = true := by rfl)
  (hs : B.sh t 0 = false := by rfl) (hr : B.rd p t 0 = false := by rfl) (hf : ev n e fo = .func (.func f) #[] #[] := by rfl) (hv : args.toList.map (ev n e) = [u, w] := by rfl) (hw : wantB ops n e gd = true := by rfl) : At R d As (gr fn kd n e ds (.inRegion ops (i :: rest) :: k) cs) :=
 C.xt (f := f) (vl := [u, w]) (fun H s => okS_setG hu hw' hd (hh _ s) (hU.has.get s) hvc h1v hs hr ⟨_, hU.set s, h⟩) ho hw hf hv
end
theorem eas_spec {bE b7 bV : Nat} {tg : Value} : Spec Tryz.prog main badT 105 #[.iface 128 (ptrV bE), tg, rvV 130 bV 150, rtV 128] [pts bV (.cells #[ptrV b7] 130 (0, 0)), pts b7 (.cells #[.pointer none] 128 (0, 0))]
  (fun v As => v = .bool true ∧ As = [pts b7 (.cells #[ptrV bE] 128 (0, 0))]) := by
 refine Spec.of ?_
 intro R C kd d F c cs hkd hret
 simp only [List.cons_append, List.nil_append]
 refine C.go ?_
 refine C.rg [0, 1] ?_
 refine C.bx rfl (fun b6 => ?_)
 refine C.asg rfl ?_
 refine C.go ?_
 refine C.lp ?_
 refine C.go ?_
 refine C.rg [0, 1, 2, 3] ?_
 refine C.mv rfl ?_
 refine C.x0 (f := 106) (v := rtV 128) typeOf_ce rfl ?_
 refine C.mv rfl ?_
 refine C.xi0 m_asg x_asg ?_
 refine C.go ?_
 refine C.tru ?_
 refine C.rg [0, 1, 2, 3, 4] ?_
 refine C.ldS rfl ?_
 refine C.xElm (f := 150) p_130 el_130 (mk_128a (b := b7)) rfl ?_
 refine C.mv rfl ?_
 refine C.xVof (f := 102) (t := 128) (c := #[ptrV bE]) rfl (fun b => mk_128 (b := b)) rfl (fun bW => ?_) (v := ptrV bE)
 refine C.xSet (f := 151) (p_128a (b := b7)) (p_128 (b := bW)) da_128 rfl ?_ (v := ptrV bE)
 refine C.go ?_
 refine C.rg [0] ?_
 refine C.asg rfl ?_
 refine C.go ?_
 exact C.retR hkd hret ⟨rfl, rfl⟩
end Go.Sl
end
section
set_option linter.unusedVariables false
namespace Go.Sl
open Go.Proofs Go.Conc
def subN : ByteArray := ⟨#[83, 117, 98, 109, 105, 116]⟩
theorem csubmit_spec {σ : Gh} {c : CV} {so : SliceV} {ops : List OpR} {I J : HL} {eb : Nat → Nat × Nat} (hE : ErrI I eb) (hn : 1 ≤ c.hosts.length ∧ c.hosts.length ≤ 4) (hbag : c.bag.length < 2 ^ 20) (htx : c.txs.length ≤ 60) (ho : imSl J opPC 67 so ops) (hlo : ops.length < 2 ^ 43) :
  SpecG Tryz.prog barX 29 #[ptrV c.G.b, so.v] σ [cvP c, imm I, imm J] (fun v σ' As => ∃ er t bag' txs' I' L u, σ' = σ ∧ v = .tuple #[.int .i64 t, u] ∧ CallV eb (.string subN) 0 er u L ∧ As = cvP { c with bag := bag', txs := txs' } :: imm I' :: imm J :: L ∧
   ((c.stopped = true ∧ er = some 8 ∧ t = 0 ∧ bag' = c.bag ∧ txs' = c.txs ∧ I' = I) ∨ (c.stopped = false ∧ subQ eb I c.hosts.length ops c.bag c.txs er t I' bag' txs'))) := by
 refine SpecG.of ?_
 intro Post os out kd F c' cs C hkd hret
 simp only [List.cons_append, List.nil_append]
 refine C.go ?_
 refine C.rg [0, 1, 2, 3] ?_
 refine C.bx rfl (fun bc => ?_)
 refine C.bx rfl (fun bo => ?_)
 refine C.asg rfl ?_
 refine C.asg rfl ?_
 refine C.go ?_
 refine C.rg [0, 1] ?_
 refine C.al rfl (fun bt => ?_)
 refine C.st rfl ?_
 refine C.go ?_
 refine C.rg [0, 1, 2, 3] ?_
 refine C.ld rfl ?_
 refine C.mf rfl ?_
 have hf : c.stopped = false → SpecG Tryz.prog barX 53 (#[] ++ ([] : List Value).toArray ++ #[ptrV bo, ptrV bc, ptrV bt]) σ (cvM 1 c :: imm I :: [imm J, pts bo (.cells #[so.v] 36 (0, 0)), pts bc (.cells #[ptrV c.G.b] 23 (0, 0)), pts bt (.cells #[.int .i64 0] 3 (0, 0))])
   (fun v σ' As => ∃ er c' I' A', v = errO eb er ∧ (∀ k, er = some k → k < 9) ∧ As = cvM 1 c' :: imm I' :: A' ∧ c'.G.b = c.G.b ∧ (∃ t bag' txs', σ' = σ ∧ c' = { c with bag := bag', txs := txs' } ∧ A' = [imm J, pts bt (.cells #[.int .i64 t] 3 (0, 0))] ∧ subQ eb I c.hosts.length ops c.bag c.txs er t I' bag' txs')) := by
  intro hst Post os out kd F fr cs hkd hret
  obtain ⟨G, hosts, bag, txs, stopped⟩ := c
  obtain rfl : stopped = false := hst
  simp only [List.cons_append, List.nil_append]
  refine cvP.opn (m := 1) (h := fun hs bg tx => ?_)
  have hsp := sub1_spec (σ := σ) (b := G.b) (bo := bo) (bc := bc) (bt := bt) (so := so) (hs := hs) (bg := bg) (txS := tx) (dn := .chan (some G.dn)) (st := CV.st ⟨G, hosts, bag, txs, false⟩) (hl := hosts.map (·.h.bh)) (bag := bag) (txs := txs) hE (by simpa using hn) hbag htx ho hlo
  refine At.perm (ReF.perm (by (repeat (first | with_reducible exact ReF.nil | with_reducible exact Fo.head | with_reducible apply Fo.tail | with_reducible apply ReF.cons)))) (Spec.g hsp Post os out kd _ fr cs hkd ?_)
  rintro v σ' As' ⟨rfl, bg', txS', er, t, I', bag', txs', rfl, hQ, rfl⟩
  simp only [List.cons_append, List.nil_append]
  refine cvP.cls (m := 1) ⟨G, hosts, bag', txs', false⟩ ?_
  refine At.reo ?_ (hret _ _ _ ⟨er, ⟨G, hosts, bag', txs', false⟩, I', _, rfl, ?_, rfl, rfl, t, bag', txs', rfl, rfl, rfl, by simpa using hQ⟩)
  ·((try simp only [List.cons_append, List.nil_append]); (repeat (first | with_reducible exact Reo.refl | with_reducible exact Reo.nil | with_reducible exact Fo.head | with_reducible apply Fo.tail | with_reducible apply Reo.cons | with_reducible apply Reo.drop)); done)
  ·intro k hk
   obtain ⟨_, h | h | h⟩ := hQ
   ·have := h.2.1; rw [this] at hk; cases hk; decide
   ·have := h.2.2.1; rw [this] at hk; cases hk; decide
   ·have := h.2.2.1; rw [this] at hk; cases hk
 refine RunR.clN (call_spec (nm := subN) (at_ := 0) hE hf) ?_
 rintro v σ' As' ⟨er, c2, I2, A2, L, hcv, rfl, hor⟩
 have C : Closed Tryz.prog true (barX.bw σ') (RunR Tryz.prog Post barX σ' 0 os out) := RunR.closed0
 simp only [List.cons_append, List.nil_append]
 refine C.asg rfl ?_
 refine C.go ?_
 refine C.rg [0, 1, 2, 3] ?_
 rcases hor with ⟨hst, rfl, rfl, rfl, rfl, rfl⟩ | ⟨hst, t, bag', txs', rfl, rfl, rfl, hQ⟩
 ·obtain ⟨bE, rfl, rfl⟩ := hcv
  simp only [List.append_assoc, List.cons_append, List.nil_append]
  refine C.ld rfl ?_
  refine C.mv rfl ?_
  refine C.asg rfl ?_
  refine C.asg rfl ?_
  refine C.go ?_
  exact RunR.retQ hkd hret ⟨some 8, 0, c2.bag, c2.txs, I2, [pts bE (.cells #[.string subN, .int .i64 0, errV (eb 8)] 132 (0, 0))], .iface 128 (ptrV bE), rfl, rfl, ⟨bE, rfl, rfl⟩, rfl, .inl ⟨hst, rfl, rfl, rfl, rfl, rfl⟩⟩
 ·cases er with
  | none =>
   obtain ⟨rfl, rfl⟩ := hcv
   simp only [List.append_assoc, List.cons_append, List.nil_append]
   refine C.ld rfl ?_
   refine C.mv rfl ?_
   refine C.asg rfl ?_
   refine C.asg rfl ?_
   refine C.go ?_
   exact RunR.retQ hkd hret ⟨none, t, bag', txs', I2, [], .nilIface, rfl, rfl, ⟨rfl, rfl⟩, rfl, .inr ⟨hst, hQ⟩⟩
  | some k =>
   obtain ⟨bE, rfl, rfl⟩ := hcv
   simp only [List.append_assoc, List.cons_append, List.nil_append]
   refine C.ld rfl ?_
   refine C.mv rfl ?_
   refine C.asg rfl ?_
   refine C.asg rfl ?_
   refine C.go ?_
   exact RunR.retQ hkd hret ⟨some k, t, bag', txs', I2, [pts bE (.cells #[.string subN, .int .i64 0, errV (eb k)] 132 (0, 0))], .iface 128 (ptrV bE), rfl, rfl, ⟨bE, rfl, rfl⟩, rfl, .inr ⟨hst, hQ⟩⟩
end Go.Sl
end
section
set_option linter.unusedVariables false
namespace Go.Sl
open Go.Proofs
variable {main : Bool}
theorem eAs_spec {σ : Gh} {I : HL} {eb : Nat → Nat × Nat} (hE : ErrI I eb) {bE b7 : Nat} : Spec Tryz.prog true (barX.bw σ) 57 #[.iface 128 (ptrV bE), .iface 130 (ptrV b7)] [pts b7 (.cells #[.pointer none] 128 (0, 0)), imm I]
  (fun v As => v = .bool true ∧ As = [pts b7 (.cells #[ptrV bE] 128 (0, 0)), imm I]) := by
 refine Spec.of ?_
 intro R C kd d F c cs hkd hret
 simp only [List.cons_append, List.nil_append]
 obtain ⟨tE, hty⟩ := hE.ty
 rw [hdV_eq] at hty
 refine C.go ?_
 refine C.rg [0] ?_
 refine C.asg rfl ?_
 refine C.go ?_
 refine C.rg [0, 1] ?_
 refine C.mv rfl ?_
 refine C.eqZ Tryz.underlying46 rfl ?_
 refine C.go ?_
 refine C.fls ?_
 refine C.rg [0, 1] ?_
 refine C.mv rfl ?_
 refine C.eqZ Tryz.underlying20 rfl ?_
 refine C.go ?_
 refine C.fls ?_
 refine C.rg [0, 1, 2, 3] ?_
 refine C.mv rfl ?_
 refine C.xVof (f := 102) (t := 130) (c := #[ptrV b7]) rfl (fun b => mk_130 (b := b)) rfl (fun bV => ?_) (v := ptrV b7)
 refine C.al rfl (fun b5 => ?_)
 refine C.stS rfl ?_
 refine C.go ?_
 refine C.rg [0, 1, 2] ?_
 refine C.ldS rfl ?_
 refine C.x0 (f := 103) (v := rtV 130) x_type rfl ?_
 refine C.asg rfl ?_
 refine C.go ?_
 refine C.rg [0, 1, 2, 3, 4, 5, 6] ?_
 refine C.mv rfl ?_
 refine C.xi0 (m_kind _) x_kind0 ?_
 refine C.v0 rfl ?_ rfl
 refine C.mv rfl ?_
 refine C.ldS rfl ?_
 refine C.xNil (f := 104) (p_130 (b := bV)) rfl ?_
 refine C.pk rfl ?_
 refine C.go ?_
 refine C.fls ?_
 refine C.rg [0, 1, 2] ?_
 refine C.mv rfl ?_
 refine C.xi0 m_elem x_elem ?_
 refine C.asg rfl ?_
 refine C.go ?_
 refine C.rg [0, 1, 2, 3, 4, 5, 6, 7, 8] ?_
 refine C.mv rfl ?_
 refine C.xi0 (m_kind _) x_kind1 ?_
 refine C.v0 rfl ?_ rfl
 refine C.mv rfl ?_
 refine C.mv rfl ?_
 refine C.ldG (v := rtV 46) (by (repeat (first | with_reducible exact Fo.head | with_reducible apply Fo.tail))) hty (shG0' _ _) rfl ?_
 refine C.xi0 m_impl x_impl ?_
 refine C.nt rfl ?_
 refine C.pk rfl ?_
 refine C.go ?_
 refine C.fls ?_
 refine C.rg [0, 1, 2, 3, 4, 5] ?_
 refine C.mv rfl ?_
 refine C.mv rfl ?_
 refine C.ldS rfl ?_
 refine C.mv rfl ?_
 refine C.clR (Spec.less (barLe σ) (eas_spec (bE := bE) (b7 := b7) (bV := bV))) ?_
 rintro v As' ⟨rfl, rfl⟩
 simp only [List.cons_append, List.nil_append]
 refine C.asg rfl ?_
 refine C.go ?_
 exact C.retR hkd hret ⟨rfl, rfl⟩
end Go.Sl
end
section
set_option linter.unusedVariables false
namespace Go.Sl
open Go.Proofs
def errF (eb : Nat → Nat × Nat) (k : Nat) : List Value := [errV (eb k)]
instance (eb : Nat → Nat × Nat) : RowF (errF eb) 1 := ⟨fun _ => rfl, fun a v h => by simp [errF] at h; subst h; rfl⟩
theorem all_spec {σ : Gh} {I : HL} {eb : Nat → Nat × Nat} (hE : ErrI I eb) : Spec Tryz.prog true (barX.bw σ) 59 #[] [imm I] (fun v As => ∃ s : SliceV, v = s.v ∧ As = [slP (errF eb) 1 46 s [0, 1, 2, 3, 4, 5, 6, 7, 8], imm I]) := by
 refine Spec.of ?_
 intro R C kd d F c cs hkd hret
 simp only [List.cons_append, List.nil_append]
 obtain ⟨t0, h0⟩ := hE.g 0 (by decide)
 obtain ⟨t1, h1⟩ := hE.g 1 (by decide)
 obtain ⟨t2, h2⟩ := hE.g 2 (by decide)
 obtain ⟨t3, h3⟩ := hE.g 3 (by decide)
 obtain ⟨t4, h4⟩ := hE.g 4 (by decide)
 obtain ⟨t5, h5⟩ := hE.g 5 (by decide)
 obtain ⟨t6, h6⟩ := hE.g 6 (by decide)
 obtain ⟨t7, h7⟩ := hE.g 7 (by decide)
 obtain ⟨t8, h8⟩ := hE.g 8 (by decide)
 refine C.go ?_
 refine C.rg [0] ?_
 refine C.asg rfl ?_
 refine C.go ?_
 refine C.rg [0, 1, 2, 3, 4, 5, 6, 7, 8, 9, 10] ?_
 refine C.ldG (v := errV (eb 0)) (by (repeat (first | with_reducible exact Fo.head | with_reducible apply Fo.tail))) h0 (shG0' _ _) rfl ?_
 refine C.ldG (v := errV (eb 1)) (by (repeat (first | with_reducible exact Fo.head | with_reducible apply Fo.tail))) h1 (shG0' _ _) rfl ?_
 refine C.ldG (v := errV (eb 2)) (by (repeat (first | with_reducible exact Fo.head | with_reducible apply Fo.tail))) h2 (shG0' _ _) rfl ?_
 refine C.ldG (v := errV (eb 3)) (by (repeat (first | with_reducible exact Fo.head | with_reducible apply Fo.tail))) h3 (shG0' _ _) rfl ?_
 refine C.ldG (v := errV (eb 4)) (by (repeat (first | with_reducible exact Fo.head | with_reducible apply Fo.tail))) h4 (shG0' _ _) rfl ?_
 refine C.ldG (v := errV (eb 5)) (by (repeat (first | with_reducible exact Fo.head | with_reducible apply Fo.tail))) h5 (shG0' _ _) rfl ?_
 refine C.ldG (v := errV (eb 6)) (by (repeat (first | with_reducible exact Fo.head | with_reducible apply Fo.tail))) h6 (shG0' _ _) rfl ?_
 refine C.ldG (v := errV (eb 7)) (by (repeat (first | with_reducible exact Fo.head | with_reducible apply Fo.tail))) h7 (shG0' _ _) rfl ?_
 refine C.ldG (v := errV (eb 8)) (by (repeat (first | with_reducible exact Fo.head | with_reducible apply Fo.tail))) h8 (shG0' _ _) rfl ?_
 refine C.bs (vs := [errV (eb 0), errV (eb 1), errV (eb 2), errV (eb 3), errV (eb 4), errV (eb 5), errV (eb 6), errV (eb 7), errV (eb 8)]) rfl (fun b => ?_)
 refine C.asg rfl ?_
 refine C.go ?_
 refine At.turn (A' := slP (errF eb) 1 46 ⟨some ⟨b, 0, none⟩, 9, 9⟩ [0, 1, 2, 3, 4, 5, 6, 7, 8]) .head (fun h x => .inr ⟨b, [], rfl, rfl, Nat.le_refl 9, x⟩) ?_
 exact C.retR hkd hret ⟨⟨some ⟨b, 0, none⟩, 9, 9⟩, rfl, rfl⟩
theorem ev0_sne {P : Program} {n : Nat} {e : Nat → Value} {t : Nat} {ty tt t2 : TypeId} {pos : String} {af : Array Edge} {gd : Option (Nat × Bool)} {x y : Operand} {nm : ByteArray} (hx : ev n e x = .string nm) (hy : ev n e y = .string nm) : ev0 P (execOp (ev n e) ⟨some t, .binOp .neq tt x y t2, ty, pos, af, gd⟩) = some (.value (.bool false)) := by
 unfold execOp; simp only [hx, hy]
 refine ev0_do (a := .bool false) ?_ rfl
 refine ev0_do (a := ()) (by unfold eqGuard; rfl) ?_
 show ev0 P (Op.stringOp .neq nm nm) = _
 unfold Op.stringOp
 simp; rfl
theorem number_spec {σ : Gh} {I : HL} {eb : Nat → Nat × Nat} (hE : ErrI I eb) {bE k : Nat} {nm : ByteArray} {at_ : Int} (hk : k < 9) : Spec Tryz.prog true (barX.bw σ) 30 #[.iface 128 (ptrV bE), .string nm, .int .i64 at_] [pts bE (.cells #[.string nm, .int .i64 at_, errV (eb k)] 132 (0, 0)), imm I] (fun v As => v = .int .i64 (k + 1) ∧ As = [imm I]) := by
 refine Spec.of ?_
 intro R C kd d F c cs hkd hret
 simp only [List.cons_append, List.nil_append]
 obtain ⟨ck, tk, hck⟩ := hE.e k hk
 refine C.go ?_
 refine C.rg [0] ?_
 refine C.asg rfl ?_
 refine C.go ?_
 refine C.rg [0, 1] ?_
 refine C.mv rfl ?_
 refine C.eqZ Tryz.underlying46 rfl ?_
 refine C.go ?_
 refine C.fls ?_
 refine C.rg [0] ?_
 refine C.al rfl (fun b7 => ?_)
 refine C.go ?_
 apply cutR True [(0, .iface 128 (ptrV bE)), (46, .bool false)] (pts bE (.cells #[.string nm, .int .i64 at_, errV (eb k)] 132 (0, 0)) :: imm I :: F)
 ·intro hin
  refine C.drawn [(12, 0), (13, 1), (14, 2), (15, 3), (16, 4), (17, 5), (18, 6), (19, 7), (20, 8), (21, 9), (22, 10), (23, 11), (24, 12), (25, 13), (26, 14), (27, 15), (28, 16), (29, 17), (30, 18), (31, 19), (32, 20), (33, 21), (34, 22), (35, 23), (36, 24), (37, 25), (38, 26), (39, 27), (40, 28), (41, 29), (42, 30), (43, 31), (44, 32), (45, 33), (46, 34)] [0, 1] [2, 3, 4, 5, 6, 7, 8, 9, 10, 11, 12, 13, 14, 15, 16, 17, 18, 19, 20, 21, 22, 23, 24, 25, 26, 27, 28, 29, 30, 31, 32, 33, 34] 0 ?_
  refine Dr.pu ⟨_, rfl, rfl⟩ (fun _ _ _ h => C.mv rfl h) ?_
  refine Dr.pu ⟨_, rfl, rfl⟩ (fun _ _ _ h => C.mi rfl h) ?_
  refine Dr.chain rfl ?_
  refine Ch.nx (l := [2]) (by decide +kernel) (fa1 ?_)
  refine ⟨_, rfl, fun e rest hk => ?_⟩
  refine C.clR (eAs_spec hE (bE := bE) (b7 := b7)) ?_
  rintro v As' ⟨rfl, rfl⟩
  refine hk _ _ ?_
  (try simp only [List.cons_append, List.nil_append])
  refine Ch.pu (i := 3) ⟨_, rfl, rfl⟩ (fun _ _ _ h => C.nt rfl h) ?_
  refine Ch.pu (i := 4) ⟨_, rfl, rfl⟩ (fun _ _ _ h => C.mv rfl h) ?_
  refine Ch.pu (i := 5) ⟨_, rfl, rfl⟩ (fun _ _ _ h => C.mv rfl h) ?_
  refine Ch.nx (l := [6]) (by decide +kernel) (fa1 ?_)
  refine ⟨_, rfl, fun e rest hk => ?_⟩
  refine C.ld rfl (hk _ _ ?_)
  refine Ch.pu (i := 7) ⟨_, rfl, rfl⟩ (fun _ _ _ h => C.mi rfl h) ?_
  refine Ch.nx (l := [8]) (by decide +kernel) (fa1 ?_)
  refine ⟨_, rfl, fun e rest hk => ?_⟩
  refine C.eqP (r := false) (b1 := bE) (o1 := 0) (b2 := bE) (o2 := 0) Tryz.underlying46 (info_of Tryz.type128) rfl rfl ?_ (fun H s => Has.get (by repeat (first | with_reducible exact Has.head | with_reducible apply Has.tail)) s) (fun H s => Has.get (by repeat (first | with_reducible exact Has.head | with_reducible apply Has.tail)) s)
  rw [show (decide (bE = bE ∧ 0 = 0) == false) = false by simp]
  refine hk _ _ ?_
  refine Ch.pu (i := 9) ⟨_, rfl, rfl⟩ (fun _ _ _ h => C.pk rfl h) ?_
  refine Ch.pu (i := 10) ⟨_, rfl, rfl⟩ (fun _ _ _ h => C.mv rfl h) ?_
  refine Ch.pu (i := 15) ⟨_, rfl, rfl⟩ (fun _ _ _ h => C.mv rfl h) ?_
  refine Ch.nx (l := [11]) (by decide +kernel) (fa1 ?_)
  refine ⟨_, rfl, fun e rest hk => ?_⟩
  refine C.ld rfl (hk _ _ ?_)
  refine Ch.pu (i := 12) ⟨_, rfl, rfl⟩ (fun _ _ _ h => C.nc rfl h) ?_
  refine Ch.pu (i := 13) ⟨_, rfl, rfl⟩ (fun _ _ _ h => C.fa rfl h) ?_
  refine Ch.nx (l := [14]) (by decide +kernel) (fa1 ?_)
  refine ⟨_, rfl, fun e rest hk => ?_⟩
  refine C.ld rfl (hk _ _ ?_)
  refine Ch.pu (i := 16) ⟨_, rfl, rfl⟩ (fun _ _ _ h => C.v0 (v := .bool false) rfl h (ev0_sne rfl rfl)) ?_
  refine Ch.pu (i := 17) ⟨_, rfl, rfl⟩ (fun _ _ _ h => C.pk rfl h) ?_
  refine Ch.pu (i := 18) ⟨_, rfl, rfl⟩ (fun _ _ _ h => C.mv rfl h) ?_
  refine Ch.pu (i := 23) ⟨_, rfl, rfl⟩ (fun _ _ _ h => C.mv rfl h) ?_
  refine Ch.nx (l := [19]) (by decide +kernel) (fa1 ?_)
  refine ⟨_, rfl, fun e rest hk => ?_⟩
  refine C.ld rfl (hk _ _ ?_)
  refine Ch.pu (i := 20) ⟨_, rfl, rfl⟩ (fun _ _ _ h => C.nc rfl h) ?_
  refine Ch.pu (i := 21) ⟨_, rfl, rfl⟩ (fun _ _ _ h => C.fa rfl h) ?_
  refine Ch.nx (l := [22]) (by decide +kernel) (fa1 ?_)
  refine ⟨_, rfl, fun e rest hk => ?_⟩
  refine C.ld rfl (hk _ _ ?_)
  refine Ch.pu (i := 24) ⟨_, rfl, rfl⟩ (fun _ _ _ h => C.cmpF rfl h) ?_
  refine Ch.pu (i := 25) ⟨_, rfl, rfl⟩ (fun _ _ _ h => C.pk rfl h) ?_
  refine Ch.pu (i := 26) ⟨_, rfl, rfl⟩ (fun _ _ _ h => C.mv rfl h) ?_
  refine Ch.nx (l := [27, 29]) (by decide +kernel) (fa2 ?_ ?_)
  ·skip
   refine ⟨_, rfl, fun e rest hk => ?_⟩
   refine C.ld rfl (hk _ _ ?_)
   refine Ch.nx (l := [28, 29]) (by decide +kernel) (fa2 ?_ ?_)
   ·skip
    refine ⟨_, rfl, fun e rest hk => ?_⟩
    refine C.clR (Spec.less (barLe σ) unwrap_spec) ?_
    rintro v As' ⟨rfl, rfl⟩
    refine hk _ _ ?_
    (try simp only [List.cons_append, List.nil_append])
    refine Ch.nx (l := [29]) (by decide +kernel) (fa1 ?_)
    refine ⟨_, rfl, fun e rest hk => ?_⟩
    refine C.ld rfl (hk _ _ ?_)
    refine Ch.pu (i := 30) ⟨_, rfl, rfl⟩ (fun _ _ _ h => C.nc rfl h) ?_
    refine Ch.pu (i := 31) ⟨_, rfl, rfl⟩ (fun _ _ _ h => C.fa rfl h) ?_
    refine Ch.nx (l := [32]) (by decide +kernel) (fa1 ?_)
    refine ⟨_, rfl, fun e rest hk => ?_⟩
    refine C.ld rfl (hk _ _ ?_)
    refine Ch.nx (l := [33]) (by decide +kernel) (fa1 ?_)
    refine ⟨_, rfl, fun e rest hk => ?_⟩
    refine C.eqP (r := false) (b1 := (eb k).1) (o1 := (eb k).2) (b2 := (eb k).1) (o2 := (eb k).2) Tryz.underlying46 (info_of Tryz.type339) rfl rfl ?_ (fun H s => (s.perm (Fo.perm (show Fo (imm I) _ _ from (by (repeat (first | with_reducible exact Fo.head | with_reducible apply Fo.tail)))))).getI hck) (fun H s => (s.perm (Fo.perm (show Fo (imm I) _ _ from (by (repeat (first | with_reducible exact Fo.head | with_reducible apply Fo.tail)))))).getI hck)
    rw [show (decide ((eb k).1 = (eb k).1 ∧ (eb k).2 = (eb k).2) == false) = false by simp]
    refine hk _ _ ?_
    refine Ch.pu (i := 34) ⟨_, rfl, rfl⟩ (fun _ _ _ h => C.pk rfl h) ?_
    refine Ch.fin ?_
    refine C.go ?_
    exact join hin trivial
   ·skip
    refine ⟨_, rfl, fun e rest hk => ?_⟩
    refine C.ld rfl (hk _ _ ?_)
    refine Ch.pu (i := 30) ⟨_, rfl, rfl⟩ (fun _ _ _ h => C.nc rfl h) ?_
    refine Ch.pu (i := 31) ⟨_, rfl, rfl⟩ (fun _ _ _ h => C.fa rfl h) ?_
    refine Ch.nx (l := [28, 32]) (by decide +kernel) (fa2 ?_ ?_)
    ·skip
     refine ⟨_, rfl, fun e rest hk => ?_⟩
     refine C.clR (Spec.less (barLe σ) unwrap_spec) ?_
     rintro v As' ⟨rfl, rfl⟩
     refine hk _ _ ?_
     (try simp only [List.cons_append, List.nil_append])
     refine Ch.nx (l := [32]) (by decide +kernel) (fa1 ?_)
     refine ⟨_, rfl, fun e rest hk => ?_⟩
     refine C.ld rfl (hk _ _ ?_)
     refine Ch.nx (l := [33]) (by decide +kernel) (fa1 ?_)
     refine ⟨_, rfl, fun e rest hk => ?_⟩
     refine C.eqP (r := false) (b1 := (eb k).1) (o1 := (eb k).2) (b2 := (eb k).1) (o2 := (eb k).2) Tryz.underlying46 (info_of Tryz.type339) rfl rfl ?_ (fun H s => (s.perm (Fo.perm (show Fo (imm I) _ _ from (by (repeat (first | with_reducible exact Fo.head | with_reducible apply Fo.tail)))))).getI hck) (fun H s => (s.perm (Fo.perm (show Fo (imm I) _ _ from (by (repeat (first | with_reducible exact Fo.head | with_reducible apply Fo.tail)))))).getI hck)
     rw [show (decide ((eb k).1 = (eb k).1 ∧ (eb k).2 = (eb k).2) == false) = false by simp]
     refine hk _ _ ?_
     refine Ch.pu (i := 34) ⟨_, rfl, rfl⟩ (fun _ _ _ h => C.pk rfl h) ?_
     refine Ch.fin ?_
     refine C.go ?_
     exact join hin trivial
    ·skip
     refine ⟨_, rfl, fun e rest hk => ?_⟩
     refine C.ld rfl (hk _ _ ?_)
     refine Ch.nx (l := [28]) (by decide +kernel) (fa1 ?_)
     refine ⟨_, rfl, fun e rest hk => ?_⟩
     refine C.clR (Spec.less (barLe σ) unwrap_spec) ?_
     rintro v As' ⟨rfl, rfl⟩
     refine hk _ _ ?_
     (try simp only [List.cons_append, List.nil_append])
     refine Ch.nx (l := [33]) (by decide +kernel) (fa1 ?_)
     refine ⟨_, rfl, fun e rest hk => ?_⟩
     refine C.eqP (r := false) (b1 := (eb k).1) (o1 := (eb k).2) (b2 := (eb k).1) (o2 := (eb k).2) Tryz.underlying46 (info_of Tryz.type339) rfl rfl ?_ (fun H s => (s.perm (Fo.perm (show Fo (imm I) _ _ from (by (repeat (first | with_reducible exact Fo.head | with_reducible apply Fo.tail)))))).getI hck) (fun H s => (s.perm (Fo.perm (show Fo (imm I) _ _ from (by (repeat (first | with_reducible exact Fo.head | with_reducible apply Fo.tail)))))).getI hck)
     rw [show (decide ((eb k).1 = (eb k).1 ∧ (eb k).2 = (eb k).2) == false) = false by simp]
     refine hk _ _ ?_
     refine Ch.pu (i := 34) ⟨_, rfl, rfl⟩ (fun _ _ _ h => C.pk rfl h) ?_
     refine Ch.fin ?_
     refine C.go ?_
     exact join hin trivial
  ·skip
   refine ⟨_, rfl, fun e rest hk => ?_⟩
   refine C.ld rfl (hk _ _ ?_)
   refine Ch.pu (i := 30) ⟨_, rfl, rfl⟩ (fun _ _ _ h => C.nc rfl h) ?_
   refine Ch.pu (i := 31) ⟨_, rfl, rfl⟩ (fun _ _ _ h => C.fa rfl h) ?_
   refine Ch.nx (l := [27, 32]) (by decide +kernel) (fa2 ?_ ?_)
   ·skip
    refine ⟨_, rfl, fun e rest hk => ?_⟩
    refine C.ld rfl (hk _ _ ?_)
    refine Ch.nx (l := [28, 32]) (by decide +kernel) (fa2 ?_ ?_)
    ·skip
     refine ⟨_, rfl, fun e rest hk => ?_⟩
     refine C.clR (Spec.less (barLe σ) unwrap_spec) ?_
     rintro v As' ⟨rfl, rfl⟩
     refine hk _ _ ?_
     (try simp only [List.cons_append, List.nil_append])
     refine Ch.nx (l := [32]) (by decide +kernel) (fa1 ?_)
     refine ⟨_, rfl, fun e rest hk => ?_⟩
     refine C.ld rfl (hk _ _ ?_)
     refine Ch.nx (l := [33]) (by decide +kernel) (fa1 ?_)
     refine ⟨_, rfl, fun e rest hk => ?_⟩
     refine C.eqP (r := false) (b1 := (eb k).1) (o1 := (eb k).2) (b2 := (eb k).1) (o2 := (eb k).2) Tryz.underlying46 (info_of Tryz.type339) rfl rfl ?_ (fun H s => (s.perm (Fo.perm (show Fo (imm I) _ _ from (by (repeat (first | with_reducible exact Fo.head | with_reducible apply Fo.tail)))))).getI hck) (fun H s => (s.perm (Fo.perm (show Fo (imm I) _ _ from (by (repeat (first | with_reducible exact Fo.head | with_reducible apply Fo.tail)))))).getI hck)
     rw [show (decide ((eb k).1 = (eb k).1 ∧ (eb k).2 = (eb k).2) == false) = false by simp]
     refine hk _ _ ?_
     refine Ch.pu (i := 34) ⟨_, rfl, rfl⟩ (fun _ _ _ h => C.pk rfl h) ?_
     refine Ch.fin ?_
     refine C.go ?_
     exact join hin trivial
    ·skip
     refine ⟨_, rfl, fun e rest hk => ?_⟩
     refine C.ld rfl (hk _ _ ?_)
     refine Ch.nx (l := [28]) (by decide +kernel) (fa1 ?_)
     refine ⟨_, rfl, fun e rest hk => ?_⟩
     refine C.clR (Spec.less (barLe σ) unwrap_spec) ?_
     rintro v As' ⟨rfl, rfl⟩
     refine hk _ _ ?_
     (try simp only [List.cons_append, List.nil_append])
     refine Ch.nx (l := [33]) (by decide +kernel) (fa1 ?_)
     refine ⟨_, rfl, fun e rest hk => ?_⟩
     refine C.eqP (r := false) (b1 := (eb k).1) (o1 := (eb k).2) (b2 := (eb k).1) (o2 := (eb k).2) Tryz.underlying46 (info_of Tryz.type339) rfl rfl ?_ (fun H s => (s.perm (Fo.perm (show Fo (imm I) _ _ from (by (repeat (first | with_reducible exact Fo.head | with_reducible apply Fo.tail)))))).getI hck) (fun H s => (s.perm (Fo.perm (show Fo (imm I) _ _ from (by (repeat (first | with_reducible exact Fo.head | with_reducible apply Fo.tail)))))).getI hck)
     rw [show (decide ((eb k).1 = (eb k).1 ∧ (eb k).2 = (eb k).2) == false) = false by simp]
     refine hk _ _ ?_
     refine Ch.pu (i := 34) ⟨_, rfl, rfl⟩ (fun _ _ _ h => C.pk rfl h) ?_
     refine Ch.fin ?_
     refine C.go ?_
     exact join hin trivial
   ·skip
    refine ⟨_, rfl, fun e rest hk => ?_⟩
    refine C.ld rfl (hk _ _ ?_)
    refine Ch.nx (l := [27]) (by decide +kernel) (fa1 ?_)
    refine ⟨_, rfl, fun e rest hk => ?_⟩
    refine C.ld rfl (hk _ _ ?_)
    refine Ch.nx (l := [28]) (by decide +kernel) (fa1 ?_)
    refine ⟨_, rfl, fun e rest hk => ?_⟩
    refine C.clR (Spec.less (barLe σ) unwrap_spec) ?_
    rintro v As' ⟨rfl, rfl⟩
    refine hk _ _ ?_
    (try simp only [List.cons_append, List.nil_append])
    refine Ch.nx (l := [33]) (by decide +kernel) (fa1 ?_)
    refine ⟨_, rfl, fun e rest hk => ?_⟩
    refine C.eqP (r := false) (b1 := (eb k).1) (o1 := (eb k).2) (b2 := (eb k).1) (o2 := (eb k).2) Tryz.underlying46 (info_of Tryz.type339) rfl rfl ?_ (fun H s => (s.perm (Fo.perm (show Fo (imm I) _ _ from (by (repeat (first | with_reducible exact Fo.head | with_reducible apply Fo.tail)))))).getI hck) (fun H s => (s.perm (Fo.perm (show Fo (imm I) _ _ from (by (repeat (first | with_reducible exact Fo.head | with_reducible apply Fo.tail)))))).getI hck)
    rw [show (decide ((eb k).1 = (eb k).1 ∧ (eb k).2 = (eb k).2) == false) = false by simp]
    refine hk _ _ ?_
    refine Ch.pu (i := 34) ⟨_, rfl, rfl⟩ (fun _ _ _ h => C.pk rfl h) ?_
    refine Ch.fin ?_
    refine C.go ?_
    exact join hin trivial
 ·intro _ e
  refine C.fls ?_
  refine C.rg [0, 1, 2] ?_
  refine C.clR (all_spec hE) ?_
  rintro v As' ⟨s, rfl, rfl⟩
  simp only [List.cons_append, List.nil_append]
  refine C.lnR (f := errF eb) (s := s) (l := [0, 1, 2, 3, 4, 5, 6, 7, 8]) rfl ?_
  refine C.mv rfl ?_
  refine C.go ?_
  refine C.loopR (X := Nat) (fun i => [(0, .iface 128 (ptrV bE)), (47, s.v), (48, .int .i64 9), (49, .int .i64 i)]) (fun _ => slP (errF eb) 1 46 s [0, 1, 2, 3, 4, 5, 6, 7, 8] :: pts bE (.cells #[.string nm, .int .i64 at_, errV (eb k)] 132 (0, 0)) :: imm I :: F) (fun i => i ≤ k) (fun i => 9 - i) 0 ⟨rfl, rfl, rfl, rfl, trivial⟩ (Nat.zero_le _) ?_
  intro i e hi ih
  have hi9 : i < 9 := by omega
  have hl : ∀ (h : i < ([0, 1, 2, 3, 4, 5, 6, 7, 8] : List Nat).length), ([0, 1, 2, 3, 4, 5, 6, 7, 8] : List Nat)[i] = i := by
   have hc : i = 0 ∨ i = 1 ∨ i = 2 ∨ i = 3 ∨ i = 4 ∨ i = 5 ∨ i = 6 ∨ i = 7 ∨ i = 8 := by omega
   intro h
   rcases hc with rfl | rfl | rfl | rfl | rfl | rfl | rfl | rfl | rfl <;> rfl
  refine C.go ?_
  refine C.rg [0] ?_
  refine C.cmpT rfl ?_
  refine C.go ?_
  refine C.tru ?_
  refine C.rg [0, 1, 2, 3, 4] ?_
  refine C.mv rfl ?_
  refine C.iaR (f := errF eb) (s := s) (l := [0, 1, 2, 3, 4, 5, 6, 7, 8]) (j := i) rfl ?_ (hj := hi9)
  refine C.ldR0 (f := errF eb) (s := s) (l := [0, 1, 2, 3, 4, 5, 6, 7, 8]) (j := i) (v := errV (eb i)) rfl ?_ (hj := hi9) (hv := by rw [hl]; rfl)
  refine C.asg rfl ?_
  refine C.asg rfl ?_
  refine C.go ?_
  refine C.rg [0, 1, 2] ?_
  refine C.mv rfl ?_
  refine C.mv rfl ?_
  refine C.clR (Spec.less (barLe σ) (eIs_spec hE (bE := bE) (j := i) (k := k) hi9 hk)) ?_
  rintro v As' ⟨rfl, rfl⟩
  simp only [List.cons_append, List.nil_append]
  by_cases hki : k = i
  ·subst hki
   rw [show decide (k = k) = true by simp]
   refine C.go ?_
   refine C.tru ?_
   refine C.rg [0, 1, 2] ?_
   refine C.mv rfl ?_
   refine C.ar rfl ?_
   refine C.asg rfl ?_
   refine C.go ?_
   exact C.retR hkd hret ⟨rfl, rfl⟩
  ·rw [show decide (k = i) = false by simp [hki]]
   refine C.go ?_
   refine C.fls ?_
   refine C.rg [0, 1] ?_
   refine C.ar rfl ?_
   refine C.mv rfl ?_
   refine C.go ?_
   exact again ih (i + 1) (by omega) (by omega)
end Go.Sl
end
section
set_option linter.unusedVariables false
namespace Go.Sl
open Go.Proofs Go.Conc
theorem ev0_go0 {P : Program} {n : Nat} {e : Nat → Value} {dst : Option Nat} {ty : TypeId} {ats : Array TypeId} {pos : String} {af : Array Edge} {gd : Option (Nat × Bool)} {fo : Operand} {f : FuncId} {a2 : Array Value} (hf : ev n e fo = .func (.func f) #[] a2) : ev0 P (execOp (ev n e) ⟨dst, .go ⟨.value fo, #[], ats⟩, ty, pos, af, gd⟩) = some (.spawn ⟨.fn (.func f) a2, #[]⟩) := by
 unfold execOp
 simp only
 refine ev0_do (a := ⟨.fn (.func f) a2, #[]⟩) ?_ rfl
 unfold resolve
 simp only [hf, Deferred.ofValue]
 simp; rfl
theorem seatW_has {h : HG} {C : CG} {c : Nat} : (seatW h C).has c ↔ c = h.wk ∨ c = C.dn := by
 unfold SeatD.has seatW
 constructor
 ·rintro ⟨k, z, e⟩
  rcases k with _ | _ | k
  ·left; simp [rcase] at e; exact e.1.symm
  ·right; simp [rcase] at e; exact e.1.symm
  ·simp at e
 ·rintro (rfl | rfl)
  ·exact ⟨0, _, rfl⟩
  ·exact ⟨1, _, rfl⟩
theorem seatW_wf {h : HG} {C : CG} (hne : h.wk ≠ C.dn) : (seatW h C).Wf := by
 refine ⟨fun cc hcc => ?_, fun k m c z z' h1 h2 => ?_⟩
 ·simp [seatW] at hcc
  rcases hcc with rfl | rfl <;> exact ⟨_, _, rfl⟩
 ·simp only [seatW] at h1 h2
  rcases k with _ | _ | k <;> rcases m with _ | _ | m <;> simp [rcase] at h1 h2 <;> first | rfl | (exfalso; omega)
theorem seatW_ok {h : HG} {C : CG} {H : Array Obj} {kw kd i : Nat} {c1 c2 : Array Value} (hi : i ≠ 0) (h1 : hp H C.cb = some (.cells #[ptrV C.b] 23 (0, 0))) (h2 : hp H h.hb = some (.cells #[ptrV h.bh] 114 (0, 0)))
  (h3 : hp H C.b = some (.cells c1 92 (0, 0))) (h3' : c1[5]? = some (.chan (some C.dn))) (h4 : hp H h.bh = some (.cells c2 120 (0, 0))) (h4' : c2[1]? = some (.chan (some h.wk))) (h5 : hp H h.wk = some (.chan 0 #[] false kw kw false)) (h6 : hp H C.dn = some (.chan 0 #[] false kd kd false)) :
  SeatH (barX.rd i) (seatW h C) H ∧ ∀ p ∈ (seatW h C).mem, ∀ c ty, H[p.1.block]? = some (.cells c ty (0, 0)) → barX.sh ty p.1.off = false := by
 have hrd : ∀ b t o, barX.rd i b t o = mkdG t o := fun b t o => by unfold Bar.rd; rw [if_neg hi]; rfl
 have key : ∀ p ∈ (seatW h C).mem, p.1.spot = none ∧ ∃ c ty, H[p.1.block]? = some (.cells c ty (0, 0)) ∧ c[p.1.off]? = some p.2 ∧ barX.rd i p.1.block ty p.1.off = true ∧ shG ty p.1.off = false := by
  intro p hp
  simp only [seatW, List.mem_cons, List.not_mem_nil, or_false] at hp
  rcases hp with rfl | rfl | rfl | rfl
  ·exact ⟨rfl, _, _, h1, rfl, by rw [hrd]; rfl, rfl⟩
  ·exact ⟨rfl, _, _, h2, rfl, by rw [hrd]; rfl, rfl⟩
  ·exact ⟨rfl, _, _, h3, h3', by rw [hrd]; rfl, rfl⟩
  ·exact ⟨rfl, _, _, h4, h4', by rw [hrd]; rfl, rfl⟩
 refine ⟨⟨fun c hc => ?_, fun p hp => ?_⟩, fun p hp c ty hcc => ?_⟩
 ·rcases seatW_has.1 hc with rfl | rfl
  ·exact ⟨_, h5⟩
  ·exact ⟨_, h6⟩
 ·obtain ⟨a, c, ty, b1, b2, b3, _⟩ := key p hp
  exact ⟨a, c, ty, b1, b2, b3⟩
 ·obtain ⟨a, c', ty', b1, b2, b3, b4⟩ := key p hp
  rw [hcc] at b1
  cases b1
  exact b4
structure NewGh (σ σ' : Gh) (G : CG) (l : List HV) : Prop where
 n : σ'.n = σ.n + l.length
 old : ∀ i, i < σ.n → σ'.seats i = σ.seats i
 new : ∀ i s, σ.n ≤ i → σ'.seats i = some s → ∃ v ∈ l, v.h.g = i ∧ s = seatW v.h G
 has : ∀ v ∈ l, σ'.seats v.h.g = some (seatW v.h G) ∧ σ.n ≤ v.h.g ∧ v.h.g < σ'.n
 gnd : (l.map (·.h.g)).Nodup
 fw : ∀ v ∈ l, ∀ i s, σ.seats i = some s → ¬ s.has v.h.wk
 fd : ∀ i s, σ.seats i = some s → ¬ s.has G.dn
 wnd : (l.map (·.h.wk)).Nodup
 wd : ∀ v ∈ l, v.h.wk ≠ G.dn
 sh : ∀ x, σ'.sh x ↔ σ.sh x ∨ x = .cell ⟨G.b, 7, none⟩ ∨ x = .cell ⟨G.b, 8, none⟩
 bot : σ'.bot = σ.bot
structure GhOk (σ : Gh) : Prop where
 n : σ.n ≠ 0
 lt : ∀ i s, σ.seats i = some s → i < σ.n
theorem NewGh.start {σ : Gh} (h : GhOk σ) {G : CG} (fd : ∀ i s, σ.seats i = some s → ¬ s.has G.dn) : NewGh σ (σ.hide G.b [7, 8]) G [] := by
 refine ⟨rfl, fun _ _ => rfl, fun i s hi hs => ?_, by simp, by simp, by simp, fd, by simp, by simp, fun x => ?_, rfl⟩
 ·have := h.lt i s hs; omega
 ·simp [Gh.hide]
theorem NewGh.hire {σ σ' : Gh} {G : CG} {l : List HV} (N : NewGh σ σ' G l) {v : HV} (hg : v.h.g = σ'.n) (hlt : ∀ i s, σ.seats i = some s → i < σ.n) (hw : ∀ i s, σ'.seats i = some s → ¬ s.has v.h.wk) (hwd : v.h.wk ≠ G.dn) : NewGh σ (σ'.hired (seatW v.h G)) G (l ++ [v]) := by
 have hs : ∀ i, (σ'.hired (seatW v.h G)).seats i = if i = σ'.n then some (seatW v.h G) else σ'.seats i := fun i => by
  show Go.ConcN.upd σ'.seats σ'.n (some (seatW v.h G)) i = _
  by_cases e : i = σ'.n
  ·subst e; rw [Go.ConcN.upd_same, if_pos rfl]
  ·rw [Go.ConcN.upd_ne _ _ e, if_neg e]
 have hn := N.n
 refine ⟨?_, fun i hi => ?_, fun i s hi e => ?_, fun u hu => ?_, ?_, fun u hu i s e => ?_, N.fd, ?_, fun u hu => ?_, N.sh, N.bot⟩
 ·show σ'.n + 1 = _
  rw [List.length_append, List.length_singleton]; omega
 ·rw [hs, if_neg (by omega)]; exact N.old i hi
 ·rw [hs] at e
  by_cases z : i = σ'.n
  ·rw [if_pos z] at e
   exact ⟨v, by simp, by rw [hg, z], (Option.some.inj e).symm⟩
  ·rw [if_neg z] at e
   obtain ⟨u, hu, h1, h2⟩ := N.new i s hi e
   exact ⟨u, by simp [hu], h1, h2⟩
 ·rcases List.mem_append.1 hu with hu | hu
  ·obtain ⟨h1, h2, h3⟩ := N.has u hu
   refine ⟨by rw [hs, if_neg (by omega)]; exact h1, h2, ?_⟩
   show _ < σ'.n + 1; omega
  ·obtain rfl := List.mem_singleton.1 hu
   refine ⟨by rw [hs, if_pos hg], by omega, ?_⟩
   show _ < σ'.n + 1; omega
 ·rw [List.map_append, List.nodup_append]
  refine ⟨N.gnd, by simp, fun a ha b hb => ?_⟩
  obtain ⟨u, hu, rfl⟩ := List.mem_map.1 ha
  simp at hb
  subst hb
  have := (N.has u hu).2.2
  omega
 ·rcases List.mem_append.1 hu with hu | hu
  ·exact N.fw u hu i s e
  ·obtain rfl := List.mem_singleton.1 hu
   exact hw i s (by rw [N.old i (hlt i s e)]; exact e)
 ·rw [List.map_append, List.nodup_append]
  refine ⟨N.wnd, by simp, fun a ha b hb z => ?_⟩
  obtain ⟨u, hu, rfl⟩ := List.mem_map.1 ha
  simp at hb
  subst hb
  exact hw _ _ (N.has u hu).1 (seatW_has.2 (.inl z.symm))
 ·rcases List.mem_append.1 hu with hu | hu
  ·exact N.wd u hu
  ·obtain rfl := List.mem_singleton.1 hu; exact hwd
end Go.Sl
end
section
set_option linter.unusedVariables false
namespace Go.Sl
open Go.Proofs Go.Conc
set_option maxHeartbeats 2000000 in
theorem new_spec {σ : Gh} {n : Int} (hn : 1 ≤ n ∧ n ≤ 4) (hσ : GhOk σ) : SpecG Tryz.prog barX 27 #[.int .i64 n] σ [] (fun v σ' As => ∃ c : CV, NewGh σ σ' c.G c.hosts ∧ v = .tuple #[ptrV c.G.b, .nilIface] ∧ As = [cvP c] ∧ c.hosts.map (·.s) = ((upto n).map fun k => newSX k n) ∧ c.bag = [] ∧ c.txs = [] ∧ c.stopped = false) := by
 refine SpecG.of ?_
 intro Post os out kd F c' cs C hkd hret
 simp only [List.cons_append, List.nil_append]
 refine C.go ?_
 refine C.rg [0, 1] ?_
 refine C.asg rfl ?_
 refine C.asg rfl ?_
 refine C.go ?_
 refine C.rg [0, 1, 2, 3, 4, 5] ?_
 refine C.mv rfl ?_
 refine C.cmpF rfl ?_
 refine C.mv rfl ?_
 refine C.mv rfl ?_
 refine C.cmpF rfl ?_
 refine C.pk rfl ?_
 refine C.go ?_
 refine C.fls ?_
 refine C.rg [0, 1, 2, 3, 4] ?_
 refine RunR.mc Tryz.underlying83 (info_of Tryz.type73) rfl (fun dn hdn => ?_)
 refine C.bd rfl ?_
 refine RunR.bx (c := clA 0 nilS.v nilS.v nilS.v (.chan (some dn)) false (((0 : Nat) : Int) * KQ)) [7, 8] rfl rfl rfl (by decide) rfl (fun b => ?_)
 have C1 : Closed Tryz.prog true (barX.bw (σ.hide b [7, 8])) (RunR Tryz.prog Post barX (σ.hide b [7, 8]) 0 os out) := RunR.closed0
 refine RunR.al rfl (fun cb hcb => ?_)
 refine C1.st rfl ?_ (hr := hcb.rd _ _)
 refine C1.go ?_
 refine C1.rg [0, 1] ?_
 refine C1.mv rfl ?_
 refine C1.mv rfl ?_
 refine C1.go ?_
 refine At.nilS ptrC 1 114 (show At (RunR Tryz.prog Post barX (σ.hide b [7, 8]) 0 os out) 0 (slP ptrC 1 114 nilS (([] : List HV).map (·.h.bh)) :: _) _ from ?_)
 refine At.nilA (show At (RunR Tryz.prog Post barX (σ.hide b [7, 8]) 0 os out) 0 (all (([] : List HV).map hostE) :: _) _ from ?_)
 refine loopG (Y := Gh × SliceV × List HV × Nat) (fun y => y.1) (fun y => [(0, .int .i64 n), (4, ptrV cb), (17, .int .i64 n), (18, .int .i64 y.2.2.2)]) (fun y => clP b 0 y.2.1.v nilS.v nilS.v (.chan (some dn)) false ((y.2.2.2 : Int) * KQ) :: slP ptrC 1 114 y.2.1 (y.2.2.1.map (·.h.bh)) :: all (y.2.2.1.map hostE) :: pts dn (.chan 0 #[] false 0 0 false) :: pts cb (.cells #[ptrV b] 23 (0, 0)) :: F)
  (fun y => NewGh σ y.1 ⟨b, cb, dn⟩ y.2.2.1 ∧ y.2.2.1.length = y.2.2.2 ∧ (y.2.2.2 : Int) ≤ n ∧ y.2.2.1.map (·.s) = ((upto n).take y.2.2.2).map (fun k => newSX k n) ∧ ∀ b', y.2.1.a = some ⟨b', 0, none⟩ → Away y.1 b') (fun y => (n - y.2.2.2).toNat) (σ.hide b [7, 8], nilS, [], 0) rfl ⟨rfl, rfl, rfl, rfl, trivial⟩ ⟨NewGh.start (G := ⟨b, cb, dn⟩) hσ hdn, rfl, by show (0 : Int) ≤ n; omega, rfl, fun b' h => by cases h⟩ ?_
 rintro ⟨σk, hs, l, kk⟩ e ⟨N, hlk, hkn, hm, haw⟩ ih
 dsimp only at N hlk hkn hm haw ⊢
 have C : Closed Tryz.prog true (barX.bw σk) (RunR Tryz.prog Post barX σk 0 os out) := RunR.closed0
 refine C.go ?_
 refine C.rg [0] ?_
 by_cases hlt : (kk : Int) < n
 ·refine C.cmpT rfl ?_
  refine C.go ?_
  refine C.tru ?_
  refine C.rg [0, 1] ?_
  refine C.mv rfl ?_
  refine C.asg rfl ?_
  refine C.go ?_
  apply cutX (X := Nat × Nat × Nat × Nat × Nat) (fun x => (∀ i s, σk.seats i = some s → ¬ s.has x.2.1)) (fun x => [(0, .int .i64 n), (4, ptrV cb), (6, ptrV x.2.2.2.2), (17, .int .i64 n), (18, .int .i64 kk)]) (fun x => clP b 0 hs.v nilS.v nilS.v (.chan (some dn)) false ((kk : Int) * KQ) :: slP ptrC 1 114 hs (l.map (·.h.bh)) :: all (l.map hostE) :: pts dn (.chan 0 #[] false 0 0 false) :: pts cb (.cells #[ptrV b] 23 (0, 0)) ::
   pts x.2.2.2.1 (.cells #[ptrV x.1, .chan (some x.2.1), .chan (some x.2.2.1)] 120 (0, 0)) :: pts x.2.1 (.chan 0 #[] false 0 0 false) :: pts x.2.2.1 (.chan 0 #[] false 0 0 false) :: pts x.2.2.2.2 (.cells #[ptrV x.2.2.2.1] 114 (0, 0)) :: sxP x.1 (newSX kk n) :: F)
  ·intro hin
   refine C.drawn [(21, 0), (22, 1), (23, 2), (24, 3), (25, 4), (26, 5), (27, 6), (6, 7)] [0, 1] [2, 3, 4, 5, 6, 7, 8] 0 ?_
   refine Dr.pu ⟨_, rfl, rfl⟩ (fun _ _ _ h => C.mv rfl h) ?_
   refine Dr.pu ⟨_, rfl, rfl⟩ (fun _ _ _ h => C.mv rfl h) ?_
   refine Dr.chain rfl ?_
   refine Ch.nx (l := [2, 3, 4, 7]) (by decide +kernel) (fa4 ?_ ?_ ?_ ?_)
   ·skip
    refine ⟨_, rfl, fun e rest hk => ?_⟩
    refine C.clR (Spec.less (barLe _) snew_spec) ?_
    rintro v As' ⟨b23, rfl, rfl⟩
    refine hk _ _ ?_
    (try simp only [List.cons_append, List.nil_append])
    refine Ch.nx (l := [3, 4, 7]) (by decide +kernel) (fa3 ?_ ?_ ?_)
    ·skip
     refine ⟨_, rfl, fun e rest hk => ?_⟩
     refine RunR.mc Tryz.underlying117 (info_of Tryz.type187) rfl (fun b24 h24 => hk _ _ ?_)
     refine Ch.nx (l := [4, 7]) (by decide +kernel) (fa2 ?_ ?_)
     ·skip
      refine ⟨_, rfl, fun e rest hk => ?_⟩
      refine RunR.mc Tryz.underlying118 (info_of Tryz.type81) rfl (fun b25 h25 => hk _ _ ?_)
      refine Ch.pu (i := 5) (t := 26) ⟨_, rfl, rfl⟩ (fun _ _ _ h => C.bd rfl h) ?_
      refine Ch.nx (l := [6, 7]) (by decide +kernel) (fa2 ?_ ?_)
      ·skip
       refine ⟨_, rfl, fun e rest hk => ?_⟩
       refine C.bx rfl (fun b27 => hk _ _ ?_)
       refine Ch.nx (l := [7]) (by decide +kernel) (fa1 ?_)
       refine ⟨_, rfl, fun e rest hk => ?_⟩
       refine RunR.al rfl (fun b6 h6 => hk _ _ ?_)
       refine Ch.nx (l := [8]) (by decide +kernel) (fa1 ?_)
       refine ⟨_, rfl, fun e rest hk => ?_⟩
       refine C.st rfl (hk _ undef ?_) (hr := h6.rd _ _)
       refine Ch.fin ?_
       refine C.go ?_
       exact joinX hin (b23, b24, b25, b27, b6) h24
      ·skip
       refine ⟨_, rfl, fun e rest hk => ?_⟩
       refine RunR.al rfl (fun b6 h6 => hk _ _ ?_)
       refine Ch.nx (l := [6]) (by decide +kernel) (fa1 ?_)
       refine ⟨_, rfl, fun e rest hk => ?_⟩
       refine C.bx rfl (fun b27 => hk _ _ ?_)
       refine Ch.nx (l := [8]) (by decide +kernel) (fa1 ?_)
       refine ⟨_, rfl, fun e rest hk => ?_⟩
       refine C.st rfl (hk _ undef ?_) (hr := h6.rd _ _)
       refine Ch.fin ?_
       refine C.go ?_
       exact joinX hin (b23, b24, b25, b27, b6) h24
     ·skip
      refine ⟨_, rfl, fun e rest hk => ?_⟩
      refine RunR.al rfl (fun b6 h6 => hk _ _ ?_)
      refine Ch.nx (l := [4]) (by decide +kernel) (fa1 ?_)
      refine ⟨_, rfl, fun e rest hk => ?_⟩
      refine RunR.mc Tryz.underlying118 (info_of Tryz.type81) rfl (fun b25 h25 => hk _ _ ?_)
      refine Ch.pu (i := 5) (t := 26) ⟨_, rfl, rfl⟩ (fun _ _ _ h => C.bd rfl h) ?_
      refine Ch.nx (l := [6]) (by decide +kernel) (fa1 ?_)
      refine ⟨_, rfl, fun e rest hk => ?_⟩
      refine C.bx rfl (fun b27 => hk _ _ ?_)
      refine Ch.nx (l := [8]) (by decide +kernel) (fa1 ?_)
      refine ⟨_, rfl, fun e rest hk => ?_⟩
      refine C.st rfl (hk _ undef ?_) (hr := h6.rd _ _)
      refine Ch.fin ?_
      refine C.go ?_
      exact joinX hin (b23, b24, b25, b27, b6) h24
    ·skip
     refine ⟨_, rfl, fun e rest hk => ?_⟩
     refine RunR.mc Tryz.underlying118 (info_of Tryz.type81) rfl (fun b25 h25 => hk _ _ ?_)
     refine Ch.nx (l := [3, 7]) (by decide +kernel) (fa2 ?_ ?_)
     ·skip
      refine ⟨_, rfl, fun e rest hk => ?_⟩
      refine RunR.mc Tryz.underlying117 (info_of Tryz.type187) rfl (fun b24 h24 => hk _ _ ?_)
      refine Ch.pu (i := 5) (t := 26) ⟨_, rfl, rfl⟩ (fun _ _ _ h => C.bd rfl h) ?_
      refine Ch.nx (l := [6, 7]) (by decide +kernel) (fa2 ?_ ?_)
      ·skip
       refine ⟨_, rfl, fun e rest hk => ?_⟩
       refine C.bx rfl (fun b27 => hk _ _ ?_)
       refine Ch.nx (l := [7]) (by decide +kernel) (fa1 ?_)
       refine ⟨_, rfl, fun e rest hk => ?_⟩
       refine RunR.al rfl (fun b6 h6 => hk _ _ ?_)
       refine Ch.nx (l := [8]) (by decide +kernel) (fa1 ?_)
       refine ⟨_, rfl, fun e rest hk => ?_⟩
       refine C.st rfl (hk _ undef ?_) (hr := h6.rd _ _)
       refine Ch.fin ?_
       refine C.go ?_
       exact joinX hin (b23, b24, b25, b27, b6) h24
      ·skip
       refine ⟨_, rfl, fun e rest hk => ?_⟩
       refine RunR.al rfl (fun b6 h6 => hk _ _ ?_)
       refine Ch.nx (l := [6]) (by decide +kernel) (fa1 ?_)
       refine ⟨_, rfl, fun e rest hk => ?_⟩
       refine C.bx rfl (fun b27 => hk _ _ ?_)
       refine Ch.nx (l := [8]) (by decide +kernel) (fa1 ?_)
       refine ⟨_, rfl, fun e rest hk => ?_⟩
       refine C.st rfl (hk _ undef ?_) (hr := h6.rd _ _)
       refine Ch.fin ?_
       refine C.go ?_
       exact joinX hin (b23, b24, b25, b27, b6) h24
     ·skip
      refine ⟨_, rfl, fun e rest hk => ?_⟩
      refine RunR.al rfl (fun b6 h6 => hk _ _ ?_)
      refine Ch.nx (l := [3]) (by decide +kernel) (fa1 ?_)
      refine ⟨_, rfl, fun e rest hk => ?_⟩
      refine RunR.mc Tryz.underlying117 (info_of Tryz.type187) rfl (fun b24 h24 => hk _ _ ?_)
      refine Ch.pu (i := 5) (t := 26) ⟨_, rfl, rfl⟩ (fun _ _ _ h => C.bd rfl h) ?_
      refine Ch.nx (l := [6]) (by decide +kernel) (fa1 ?_)
      refine ⟨_, rfl, fun e rest hk => ?_⟩
      refine C.bx rfl (fun b27 => hk _ _ ?_)
      refine Ch.nx (l := [8]) (by decide +kernel) (fa1 ?_)
      refine ⟨_, rfl, fun e rest hk => ?_⟩
      refine C.st rfl (hk _ undef ?_) (hr := h6.rd _ _)
      refine Ch.fin ?_
      refine C.go ?_
      exact joinX hin (b23, b24, b25, b27, b6) h24
    ·skip
     refine ⟨_, rfl, fun e rest hk => ?_⟩
     refine RunR.al rfl (fun b6 h6 => hk _ _ ?_)
     refine Ch.nx (l := [3, 4]) (by decide +kernel) (fa2 ?_ ?_)
     ·skip
      refine ⟨_, rfl, fun e rest hk => ?_⟩
      refine RunR.mc Tryz.underlying117 (info_of Tryz.type187) rfl (fun b24 h24 => hk _ _ ?_)
      refine Ch.nx (l := [4]) (by decide +kernel) (fa1 ?_)
      refine ⟨_, rfl, fun e rest hk => ?_⟩
      refine RunR.mc Tryz.underlying118 (info_of Tryz.type81) rfl (fun b25 h25 => hk _ _ ?_)
      refine Ch.pu (i := 5) (t := 26) ⟨_, rfl, rfl⟩ (fun _ _ _ h => C.bd rfl h) ?_
      refine Ch.nx (l := [6]) (by decide +kernel) (fa1 ?_)
      refine ⟨_, rfl, fun e rest hk => ?_⟩
      refine C.bx rfl (fun b27 => hk _ _ ?_)
      refine Ch.nx (l := [8]) (by decide +kernel) (fa1 ?_)
      refine ⟨_, rfl, fun e rest hk => ?_⟩
      refine C.st rfl (hk _ undef ?_) (hr := h6.rd _ _)
      refine Ch.fin ?_
      refine C.go ?_
      exact joinX hin (b23, b24, b25, b27, b6) h24
     ·skip
      refine ⟨_, rfl, fun e rest hk => ?_⟩
      refine RunR.mc Tryz.underlying118 (info_of Tryz.type81) rfl (fun b25 h25 => hk _ _ ?_)
      refine Ch.nx (l := [3]) (by decide +kernel) (fa1 ?_)
      refine ⟨_, rfl, fun e rest hk => ?_⟩
      refine RunR.mc Tryz.underlying117 (info_of Tryz.type187) rfl (fun b24 h24 => hk _ _ ?_)
      refine Ch.pu (i := 5) (t := 26) ⟨_, rfl, rfl⟩ (fun _ _ _ h => C.bd rfl h) ?_
      refine Ch.nx (l := [6]) (by decide +kernel) (fa1 ?_)
      refine ⟨_, rfl, fun e rest hk => ?_⟩
      refine C.bx rfl (fun b27 => hk _ _ ?_)
      refine Ch.nx (l := [8]) (by decide +kernel) (fa1 ?_)
      refine ⟨_, rfl, fun e rest hk => ?_⟩
      refine C.st rfl (hk _ undef ?_) (hr := h6.rd _ _)
      refine Ch.fin ?_
      refine C.go ?_
      exact joinX hin (b23, b24, b25, b27, b6) h24
   ·skip
    refine ⟨_, rfl, fun e rest hk => ?_⟩
    refine RunR.mc Tryz.underlying117 (info_of Tryz.type187) rfl (fun b24 h24 => hk _ _ ?_)
    refine Ch.nx (l := [2, 4, 7]) (by decide +kernel) (fa3 ?_ ?_ ?_)
    ·skip
     refine ⟨_, rfl, fun e rest hk => ?_⟩
     refine C.clR (Spec.less (barLe _) snew_spec) ?_
     rintro v As' ⟨b23, rfl, rfl⟩
     refine hk _ _ ?_
     (try simp only [List.cons_append, List.nil_append])
     refine Ch.nx (l := [4, 7]) (by decide +kernel) (fa2 ?_ ?_)
     ·skip
      refine ⟨_, rfl, fun e rest hk => ?_⟩
      refine RunR.mc Tryz.underlying118 (info_of Tryz.type81) rfl (fun b25 h25 => hk _ _ ?_)
      refine Ch.pu (i := 5) (t := 26) ⟨_, rfl, rfl⟩ (fun _ _ _ h => C.bd rfl h) ?_
      refine Ch.nx (l := [6, 7]) (by decide +kernel) (fa2 ?_ ?_)
      ·skip
       refine ⟨_, rfl, fun e rest hk => ?_⟩
       refine C.bx rfl (fun b27 => hk _ _ ?_)
       refine Ch.nx (l := [7]) (by decide +kernel) (fa1 ?_)
       refine ⟨_, rfl, fun e rest hk => ?_⟩
       refine RunR.al rfl (fun b6 h6 => hk _ _ ?_)
       refine Ch.nx (l := [8]) (by decide +kernel) (fa1 ?_)
       refine ⟨_, rfl, fun e rest hk => ?_⟩
       refine C.st rfl (hk _ undef ?_) (hr := h6.rd _ _)
       refine Ch.fin ?_
       refine C.go ?_
       exact joinX hin (b23, b24, b25, b27, b6) h24
      ·skip
       refine ⟨_, rfl, fun e rest hk => ?_⟩
       refine RunR.al rfl (fun b6 h6 => hk _ _ ?_)
       refine Ch.nx (l := [6]) (by decide +kernel) (fa1 ?_)
       refine ⟨_, rfl, fun e rest hk => ?_⟩
       refine C.bx rfl (fun b27 => hk _ _ ?_)
       refine Ch.nx (l := [8]) (by decide +kernel) (fa1 ?_)
       refine ⟨_, rfl, fun e rest hk => ?_⟩
       refine C.st rfl (hk _ undef ?_) (hr := h6.rd _ _)
       refine Ch.fin ?_
       refine C.go ?_
       exact joinX hin (b23, b24, b25, b27, b6) h24
     ·skip
      refine ⟨_, rfl, fun e rest hk => ?_⟩
      refine RunR.al rfl (fun b6 h6 => hk _ _ ?_)
      refine Ch.nx (l := [4]) (by decide +kernel) (fa1 ?_)
      refine ⟨_, rfl, fun e rest hk => ?_⟩
      refine RunR.mc Tryz.underlying118 (info_of Tryz.type81) rfl (fun b25 h25 => hk _ _ ?_)
      refine Ch.pu (i := 5) (t := 26) ⟨_, rfl, rfl⟩ (fun _ _ _ h => C.bd rfl h) ?_
      refine Ch.nx (l := [6]) (by decide +kernel) (fa1 ?_)
      refine ⟨_, rfl, fun e rest hk => ?_⟩
      refine C.bx rfl (fun b27 => hk _ _ ?_)
      refine Ch.nx (l := [8]) (by decide +kernel) (fa1 ?_)
      refine ⟨_, rfl, fun e rest hk => ?_⟩
      refine C.st rfl (hk _ undef ?_) (hr := h6.rd _ _)
      refine Ch.fin ?_
      refine C.go ?_
      exact joinX hin (b23, b24, b25, b27, b6) h24
    ·skip
     refine ⟨_, rfl, fun e rest hk => ?_⟩
     refine RunR.mc Tryz.underlying118 (info_of Tryz.type81) rfl (fun b25 h25 => hk _ _ ?_)
     refine Ch.nx (l := [2, 7]) (by decide +kernel) (fa2 ?_ ?_)
     ·skip
      refine ⟨_, rfl, fun e rest hk => ?_⟩
      refine C.clR (Spec.less (barLe _) snew_spec) ?_
      rintro v As' ⟨b23, rfl, rfl⟩
      refine hk _ _ ?_
      (try simp only [List.cons_append, List.nil_append])
      refine Ch.pu (i := 5) (t := 26) ⟨_, rfl, rfl⟩ (fun _ _ _ h => C.bd rfl h) ?_
      refine Ch.nx (l := [6, 7]) (by decide +kernel) (fa2 ?_ ?_)
      ·skip
       refine ⟨_, rfl, fun e rest hk => ?_⟩
       refine C.bx rfl (fun b27 => hk _ _ ?_)
       refine Ch.nx (l := [7]) (by decide +kernel) (fa1 ?_)
       refine ⟨_, rfl, fun e rest hk => ?_⟩
       refine RunR.al rfl (fun b6 h6 => hk _ _ ?_)
       refine Ch.nx (l := [8]) (by decide +kernel) (fa1 ?_)
       refine ⟨_, rfl, fun e rest hk => ?_⟩
       refine C.st rfl (hk _ undef ?_) (hr := h6.rd _ _)
       refine Ch.fin ?_
       refine C.go ?_
       exact joinX hin (b23, b24, b25, b27, b6) h24
      ·skip
       refine ⟨_, rfl, fun e rest hk => ?_⟩
       refine RunR.al rfl (fun b6 h6 => hk _ _ ?_)
       refine Ch.nx (l := [6]) (by decide +kernel) (fa1 ?_)
       refine ⟨_, rfl, fun e rest hk => ?_⟩
       refine C.bx rfl (fun b27 => hk _ _ ?_)
       refine Ch.nx (l := [8]) (by decide +kernel) (fa1 ?_)
       refine ⟨_, rfl, fun e rest hk => ?_⟩
       refine C.st rfl (hk _ undef ?_) (hr := h6.rd _ _)
       refine Ch.fin ?_
       refine C.go ?_
       exact joinX hin (b23, b24, b25, b27, b6) h24
     ·skip
      refine ⟨_, rfl, fun e rest hk => ?_⟩
      refine RunR.al rfl (fun b6 h6 => hk _ _ ?_)
      refine Ch.nx (l := [2]) (by decide +kernel) (fa1 ?_)
      refine ⟨_, rfl, fun e rest hk => ?_⟩
      refine C.clR (Spec.less (barLe _) snew_spec) ?_
      rintro v As' ⟨b23, rfl, rfl⟩
      refine hk _ _ ?_
      (try simp only [List.cons_append, List.nil_append])
      refine Ch.pu (i := 5) (t := 26) ⟨_, rfl, rfl⟩ (fun _ _ _ h => C.bd rfl h) ?_
      refine Ch.nx (l := [6]) (by decide +kernel) (fa1 ?_)
      refine ⟨_, rfl, fun e rest hk => ?_⟩
      refine C.bx rfl (fun b27 => hk _ _ ?_)
      refine Ch.nx (l := [8]) (by decide +kernel) (fa1 ?_)
      refine ⟨_, rfl, fun e rest hk => ?_⟩
      refine C.st rfl (hk _ undef ?_) (hr := h6.rd _ _)
      refine Ch.fin ?_
      refine C.go ?_
      exact joinX hin (b23, b24, b25, b27, b6) h24
    ·skip
     refine ⟨_, rfl, fun e rest hk => ?_⟩
     refine RunR.al rfl (fun b6 h6 => hk _ _ ?_)
     refine Ch.nx (l := [2, 4]) (by decide +kernel) (fa2 ?_ ?_)
     ·skip
      refine ⟨_, rfl, fun e rest hk => ?_⟩
      refine C.clR (Spec.less (barLe _) snew_spec) ?_
      rintro v As' ⟨b23, rfl, rfl⟩
      refine hk _ _ ?_
      (try simp only [List.cons_append, List.nil_append])
      refine Ch.nx (l := [4]) (by decide +kernel) (fa1 ?_)
      refine ⟨_, rfl, fun e rest hk => ?_⟩
      refine RunR.mc Tryz.underlying118 (info_of Tryz.type81) rfl (fun b25 h25 => hk _ _ ?_)
      refine Ch.pu (i := 5) (t := 26) ⟨_, rfl, rfl⟩ (fun _ _ _ h => C.bd rfl h) ?_
      refine Ch.nx (l := [6]) (by decide +kernel) (fa1 ?_)
      refine ⟨_, rfl, fun e rest hk => ?_⟩
      refine C.bx rfl (fun b27 => hk _ _ ?_)
      refine Ch.nx (l := [8]) (by decide +kernel) (fa1 ?_)
      refine ⟨_, rfl, fun e rest hk => ?_⟩
      refine C.st rfl (hk _ undef ?_) (hr := h6.rd _ _)
      refine Ch.fin ?_
      refine C.go ?_
      exact joinX hin (b23, b24, b25, b27, b6) h24
     ·skip
      refine ⟨_, rfl, fun e rest hk => ?_⟩
      refine RunR.mc Tryz.underlying118 (info_of Tryz.type81) rfl (fun b25 h25 => hk _ _ ?_)
      refine Ch.nx (l := [2]) (by decide +kernel) (fa1 ?_)
      refine ⟨_, rfl, fun e rest hk => ?_⟩
      refine C.clR (Spec.less (barLe _) snew_spec) ?_
      rintro v As' ⟨b23, rfl, rfl⟩
      refine hk _ _ ?_
      (try simp only [List.cons_append, List.nil_append])
      refine Ch.pu (i := 5) (t := 26) ⟨_, rfl, rfl⟩ (fun _ _ _ h => C.bd rfl h) ?_
      refine Ch.nx (l := [6]) (by decide +kernel) (fa1 ?_)
      refine ⟨_, rfl, fun e rest hk => ?_⟩
      refine C.bx rfl (fun b27 => hk _ _ ?_)
      refine Ch.nx (l := [8]) (by decide +kernel) (fa1 ?_)
      refine ⟨_, rfl, fun e rest hk => ?_⟩
      refine C.st rfl (hk _ undef ?_) (hr := h6.rd _ _)
      refine Ch.fin ?_
      refine C.go ?_
      exact joinX hin (b23, b24, b25, b27, b6) h24
   ·skip
    refine ⟨_, rfl, fun e rest hk => ?_⟩
    refine RunR.mc Tryz.underlying118 (info_of Tryz.type81) rfl (fun b25 h25 => hk _ _ ?_)
    refine Ch.nx (l := [2, 3, 7]) (by decide +kernel) (fa3 ?_ ?_ ?_)
    ·skip
     refine ⟨_, rfl, fun e rest hk => ?_⟩
     refine C.clR (Spec.less (barLe _) snew_spec) ?_
     rintro v As' ⟨b23, rfl, rfl⟩
     refine hk _ _ ?_
     (try simp only [List.cons_append, List.nil_append])
     refine Ch.nx (l := [3, 7]) (by decide +kernel) (fa2 ?_ ?_)
     ·skip
      refine ⟨_, rfl, fun e rest hk => ?_⟩
      refine RunR.mc Tryz.underlying117 (info_of Tryz.type187) rfl (fun b24 h24 => hk _ _ ?_)
      refine Ch.pu (i := 5) (t := 26) ⟨_, rfl, rfl⟩ (fun _ _ _ h => C.bd rfl h) ?_
      refine Ch.nx (l := [6, 7]) (by decide +kernel) (fa2 ?_ ?_)
      ·skip
       refine ⟨_, rfl, fun e rest hk => ?_⟩
       refine C.bx rfl (fun b27 => hk _ _ ?_)
       refine Ch.nx (l := [7]) (by decide +kernel) (fa1 ?_)
       refine ⟨_, rfl, fun e rest hk => ?_⟩
       refine RunR.al rfl (fun b6 h6 => hk _ _ ?_)
       refine Ch.nx (l := [8]) (by decide +kernel) (fa1 ?_)
       refine ⟨_, rfl, fun e rest hk => ?_⟩
       refine C.st rfl (hk _ undef ?_) (hr := h6.rd _ _)
       refine Ch.fin ?_
       refine C.go ?_
       exact joinX hin (b23, b24, b25, b27, b6) h24
      ·skip
       refine ⟨_, rfl, fun e rest hk => ?_⟩
       refine RunR.al rfl (fun b6 h6 => hk _ _ ?_)
       refine Ch.nx (l := [6]) (by decide +kernel) (fa1 ?_)
       refine ⟨_, rfl, fun e rest hk => ?_⟩
       refine C.bx rfl (fun b27 => hk _ _ ?_)
       refine Ch.nx (l := [8]) (by decide +kernel) (fa1 ?_)
       refine ⟨_, rfl, fun e rest hk => ?_⟩
       refine C.st rfl (hk _ undef ?_) (hr := h6.rd _ _)
       refine Ch.fin ?_
       refine C.go ?_
       exact joinX hin (b23, b24, b25, b27, b6) h24
     ·skip
      refine ⟨_, rfl, fun e rest hk => ?_⟩
      refine RunR.al rfl (fun b6 h6 => hk _ _ ?_)
      refine Ch.nx (l := [3]) (by decide +kernel) (fa1 ?_)
      refine ⟨_, rfl, fun e rest hk => ?_⟩
      refine RunR.mc Tryz.underlying117 (info_of Tryz.type187) rfl (fun b24 h24 => hk _ _ ?_)
      refine Ch.pu (i := 5) (t := 26) ⟨_, rfl, rfl⟩ (fun _ _ _ h => C.bd rfl h) ?_
      refine Ch.nx (l := [6]) (by decide +kernel) (fa1 ?_)
      refine ⟨_, rfl, fun e rest hk => ?_⟩
      refine C.bx rfl (fun b27 => hk _ _ ?_)
      refine Ch.nx (l := [8]) (by decide +kernel) (fa1 ?_)
      refine ⟨_, rfl, fun e rest hk => ?_⟩
      refine C.st rfl (hk _ undef ?_) (hr := h6.rd _ _)
      refine Ch.fin ?_
      refine C.go ?_
      exact joinX hin (b23, b24, b25, b27, b6) h24
    ·skip
     refine ⟨_, rfl, fun e rest hk => ?_⟩
     refine RunR.mc Tryz.underlying117 (info_of Tryz.type187) rfl (fun b24 h24 => hk _ _ ?_)
     refine Ch.nx (l := [2, 7]) (by decide +kernel) (fa2 ?_ ?_)
     ·skip
      refine ⟨_, rfl, fun e rest hk => ?_⟩
      refine C.clR (Spec.less (barLe _) snew_spec) ?_
      rintro v As' ⟨b23, rfl, rfl⟩
      refine hk _ _ ?_
      (try simp only [List.cons_append, List.nil_append])
      refine Ch.pu (i := 5) (t := 26) ⟨_, rfl, rfl⟩ (fun _ _ _ h => C.bd rfl h) ?_
      refine Ch.nx (l := [6, 7]) (by decide +kernel) (fa2 ?_ ?_)
      ·skip
       refine ⟨_, rfl, fun e rest hk => ?_⟩
       refine C.bx rfl (fun b27 => hk _ _ ?_)
       refine Ch.nx (l := [7]) (by decide +kernel) (fa1 ?_)
       refine ⟨_, rfl, fun e rest hk => ?_⟩
       refine RunR.al rfl (fun b6 h6 => hk _ _ ?_)
       refine Ch.nx (l := [8]) (by decide +kernel) (fa1 ?_)
       refine ⟨_, rfl, fun e rest hk => ?_⟩
       refine C.st rfl (hk _ undef ?_) (hr := h6.rd _ _)
       refine Ch.fin ?_
       refine C.go ?_
       exact joinX hin (b23, b24, b25, b27, b6) h24
      ·skip
       refine ⟨_, rfl, fun e rest hk => ?_⟩
       refine RunR.al rfl (fun b6 h6 => hk _ _ ?_)
       refine Ch.nx (l := [6]) (by decide +kernel) (fa1 ?_)
       refine ⟨_, rfl, fun e rest hk => ?_⟩
       refine C.bx rfl (fun b27 => hk _ _ ?_)
       refine Ch.nx (l := [8]) (by decide +kernel) (fa1 ?_)
       refine ⟨_, rfl, fun e rest hk => ?_⟩
       refine C.st rfl (hk _ undef ?_) (hr := h6.rd _ _)
       refine Ch.fin ?_
       refine C.go ?_
       exact joinX hin (b23, b24, b25, b27, b6) h24
     ·skip
      refine ⟨_, rfl, fun e rest hk => ?_⟩
      refine RunR.al rfl (fun b6 h6 => hk _ _ ?_)
      refine Ch.nx (l := [2]) (by decide +kernel) (fa1 ?_)
      refine ⟨_, rfl, fun e rest hk => ?_⟩
      refine C.clR (Spec.less (barLe _) snew_spec) ?_
      rintro v As' ⟨b23, rfl, rfl⟩
      refine hk _ _ ?_
      (try simp only [List.cons_append, List.nil_append])
      refine Ch.pu (i := 5) (t := 26) ⟨_, rfl, rfl⟩ (fun _ _ _ h => C.bd rfl h) ?_
      refine Ch.nx (l := [6]) (by decide +kernel) (fa1 ?_)
      refine ⟨_, rfl, fun e rest hk => ?_⟩
      refine C.bx rfl (fun b27 => hk _ _ ?_)
      refine Ch.nx (l := [8]) (by decide +kernel) (fa1 ?_)
      refine ⟨_, rfl, fun e rest hk => ?_⟩
      refine C.st rfl (hk _ undef ?_) (hr := h6.rd _ _)
      refine Ch.fin ?_
      refine C.go ?_
      exact joinX hin (b23, b24, b25, b27, b6) h24
    ·skip
     refine ⟨_, rfl, fun e rest hk => ?_⟩
     refine RunR.al rfl (fun b6 h6 => hk _ _ ?_)
     refine Ch.nx (l := [2, 3]) (by decide +kernel) (fa2 ?_ ?_)
     ·skip
      refine ⟨_, rfl, fun e rest hk => ?_⟩
      refine C.clR (Spec.less (barLe _) snew_spec) ?_
      rintro v As' ⟨b23, rfl, rfl⟩
      refine hk _ _ ?_
      (try simp only [List.cons_append, List.nil_append])
      refine Ch.nx (l := [3]) (by decide +kernel) (fa1 ?_)
      refine ⟨_, rfl, fun e rest hk => ?_⟩
      refine RunR.mc Tryz.underlying117 (info_of Tryz.type187) rfl (fun b24 h24 => hk _ _ ?_)
      refine Ch.pu (i := 5) (t := 26) ⟨_, rfl, rfl⟩ (fun _ _ _ h => C.bd rfl h) ?_
      refine Ch.nx (l := [6]) (by decide +kernel) (fa1 ?_)
      refine ⟨_, rfl, fun e rest hk => ?_⟩
      refine C.bx rfl (fun b27 => hk _ _ ?_)
      refine Ch.nx (l := [8]) (by decide +kernel) (fa1 ?_)
      refine ⟨_, rfl, fun e rest hk => ?_⟩
      refine C.st rfl (hk _ undef ?_) (hr := h6.rd _ _)
      refine Ch.fin ?_
      refine C.go ?_
      exact joinX hin (b23, b24, b25, b27, b6) h24
     ·skip
      refine ⟨_, rfl, fun e rest hk => ?_⟩
      refine RunR.mc Tryz.underlying117 (info_of Tryz.type187) rfl (fun b24 h24 => hk _ _ ?_)
      refine Ch.nx (l := [2]) (by decide +kernel) (fa1 ?_)
      refine ⟨_, rfl, fun e rest hk => ?_⟩
      refine C.clR (Spec.less (barLe _) snew_spec) ?_
      rintro v As' ⟨b23, rfl, rfl⟩
      refine hk _ _ ?_
      (try simp only [List.cons_append, List.nil_append])
      refine Ch.pu (i := 5) (t := 26) ⟨_, rfl, rfl⟩ (fun _ _ _ h => C.bd rfl h) ?_
      refine Ch.nx (l := [6]) (by decide +kernel) (fa1 ?_)
      refine ⟨_, rfl, fun e rest hk => ?_⟩
      refine C.bx rfl (fun b27 => hk _ _ ?_)
      refine Ch.nx (l := [8]) (by decide +kernel) (fa1 ?_)
      refine ⟨_, rfl, fun e rest hk => ?_⟩
      refine C.st rfl (hk _ undef ?_) (hr := h6.rd _ _)
      refine Ch.fin ?_
      refine C.go ?_
      exact joinX hin (b23, b24, b25, b27, b6) h24
   ·skip
    refine ⟨_, rfl, fun e rest hk => ?_⟩
    refine RunR.al rfl (fun b6 h6 => hk _ _ ?_)
    refine Ch.nx (l := [2, 3, 4]) (by decide +kernel) (fa3 ?_ ?_ ?_)
    ·skip
     refine ⟨_, rfl, fun e rest hk => ?_⟩
     refine C.clR (Spec.less (barLe _) snew_spec) ?_
     rintro v As' ⟨b23, rfl, rfl⟩
     refine hk _ _ ?_
     (try simp only [List.cons_append, List.nil_append])
     refine Ch.nx (l := [3, 4]) (by decide +kernel) (fa2 ?_ ?_)
     ·skip
      refine ⟨_, rfl, fun e rest hk => ?_⟩
      refine RunR.mc Tryz.underlying117 (info_of Tryz.type187) rfl (fun b24 h24 => hk _ _ ?_)
      refine Ch.nx (l := [4]) (by decide +kernel) (fa1 ?_)
      refine ⟨_, rfl, fun e rest hk => ?_⟩
      refine RunR.mc Tryz.underlying118 (info_of Tryz.type81) rfl (fun b25 h25 => hk _ _ ?_)
      refine Ch.pu (i := 5) (t := 26) ⟨_, rfl, rfl⟩ (fun _ _ _ h => C.bd rfl h) ?_
      refine Ch.nx (l := [6]) (by decide +kernel) (fa1 ?_)
      refine ⟨_, rfl, fun e rest hk => ?_⟩
      refine C.bx rfl (fun b27 => hk _ _ ?_)
      refine Ch.nx (l := [8]) (by decide +kernel) (fa1 ?_)
      refine ⟨_, rfl, fun e rest hk => ?_⟩
      refine C.st rfl (hk _ undef ?_) (hr := h6.rd _ _)
      refine Ch.fin ?_
      refine C.go ?_
      exact joinX hin (b23, b24, b25, b27, b6) h24
     ·skip
      refine ⟨_, rfl, fun e rest hk => ?_⟩
      refine RunR.mc Tryz.underlying118 (info_of Tryz.type81) rfl (fun b25 h25 => hk _ _ ?_)
      refine Ch.nx (l := [3]) (by decide +kernel) (fa1 ?_)
      refine ⟨_, rfl, fun e rest hk => ?_⟩
      refine RunR.mc Tryz.underlying117 (info_of Tryz.type187) rfl (fun b24 h24 => hk _ _ ?_)
      refine Ch.pu (i := 5) (t := 26) ⟨_, rfl, rfl⟩ (fun _ _ _ h => C.bd rfl h) ?_
      refine Ch.nx (l := [6]) (by decide +kernel) (fa1 ?_)
      refine ⟨_, rfl, fun e rest hk => ?_⟩
      refine C.bx rfl (fun b27 => hk _ _ ?_)
      refine Ch.nx (l := [8]) (by decide +kernel) (fa1 ?_)
      refine ⟨_, rfl, fun e rest hk => ?_⟩
      refine C.st rfl (hk _ undef ?_) (hr := h6.rd _ _)
      refine Ch.fin ?_
      refine C.go ?_
      exact joinX hin (b23, b24, b25, b27, b6) h24
    ·skip
     refine ⟨_, rfl, fun e rest hk => ?_⟩
     refine RunR.mc Tryz.underlying117 (info_of Tryz.type187) rfl (fun b24 h24 => hk _ _ ?_)
     refine Ch.nx (l := [2, 4]) (by decide +kernel) (fa2 ?_ ?_)
     ·skip
      refine ⟨_, rfl, fun e rest hk => ?_⟩
      refine C.clR (Spec.less (barLe _) snew_spec) ?_
      rintro v As' ⟨b23, rfl, rfl⟩
      refine hk _ _ ?_
      (try simp only [List.cons_append, List.nil_append])
      refine Ch.nx (l := [4]) (by decide +kernel) (fa1 ?_)
      refine ⟨_, rfl, fun e rest hk => ?_⟩
      refine RunR.mc Tryz.underlying118 (info_of Tryz.type81) rfl (fun b25 h25 => hk _ _ ?_)
      refine Ch.pu (i := 5) (t := 26) ⟨_, rfl, rfl⟩ (fun _ _ _ h => C.bd rfl h) ?_
      refine Ch.nx (l := [6]) (by decide +kernel) (fa1 ?_)
      refine ⟨_, rfl, fun e rest hk => ?_⟩
      refine C.bx rfl (fun b27 => hk _ _ ?_)
      refine Ch.nx (l := [8]) (by decide +kernel) (fa1 ?_)
      refine ⟨_, rfl, fun e rest hk => ?_⟩
      refine C.st rfl (hk _ undef ?_) (hr := h6.rd _ _)
      refine Ch.fin ?_
      refine C.go ?_
      exact joinX hin (b23, b24, b25, b27, b6) h24
     ·skip
      refine ⟨_, rfl, fun e rest hk => ?_⟩
      refine RunR.mc Tryz.underlying118 (info_of Tryz.type81) rfl (fun b25 h25 => hk _ _ ?_)
      refine Ch.nx (l := [2]) (by decide +kernel) (fa1 ?_)
      refine ⟨_, rfl, fun e rest hk => ?_⟩
      refine C.clR (Spec.less (barLe _) snew_spec) ?_
      rintro v As' ⟨b23, rfl, rfl⟩
      refine hk _ _ ?_
      (try simp only [List.cons_append, List.nil_append])
      refine Ch.pu (i := 5) (t := 26) ⟨_, rfl, rfl⟩ (fun _ _ _ h => C.bd rfl h) ?_
      refine Ch.nx (l := [6]) (by decide +kernel) (fa1 ?_)
      refine ⟨_, rfl, fun e rest hk => ?_⟩
      refine C.bx rfl (fun b27 => hk _ _ ?_)
      refine Ch.nx (l := [8]) (by decide +kernel) (fa1 ?_)
      refine ⟨_, rfl, fun e rest hk => ?_⟩
      refine C.st rfl (hk _ undef ?_) (hr := h6.rd _ _)
      refine Ch.fin ?_
      refine C.go ?_
      exact joinX hin (b23, b24, b25, b27, b6) h24
    ·skip
     refine ⟨_, rfl, fun e rest hk => ?_⟩
     refine RunR.mc Tryz.underlying118 (info_of Tryz.type81) rfl (fun b25 h25 => hk _ _ ?_)
     refine Ch.nx (l := [2, 3]) (by decide +kernel) (fa2 ?_ ?_)
     ·skip
      refine ⟨_, rfl, fun e rest hk => ?_⟩
      refine C.clR (Spec.less (barLe _) snew_spec) ?_
      rintro v As' ⟨b23, rfl, rfl⟩
      refine hk _ _ ?_
      (try simp only [List.cons_append, List.nil_append])
      refine Ch.nx (l := [3]) (by decide +kernel) (fa1 ?_)
      refine ⟨_, rfl, fun e rest hk => ?_⟩
      refine RunR.mc Tryz.underlying117 (info_of Tryz.type187) rfl (fun b24 h24 => hk _ _ ?_)
      refine Ch.pu (i := 5) (t := 26) ⟨_, rfl, rfl⟩ (fun _ _ _ h => C.bd rfl h) ?_
      refine Ch.nx (l := [6]) (by decide +kernel) (fa1 ?_)
      refine ⟨_, rfl, fun e rest hk => ?_⟩
      refine C.bx rfl (fun b27 => hk _ _ ?_)
      refine Ch.nx (l := [8]) (by decide +kernel) (fa1 ?_)
      refine ⟨_, rfl, fun e rest hk => ?_⟩
      refine C.st rfl (hk _ undef ?_) (hr := h6.rd _ _)
      refine Ch.fin ?_
      refine C.go ?_
      exact joinX hin (b23, b24, b25, b27, b6) h24
     ·skip
      refine ⟨_, rfl, fun e rest hk => ?_⟩
      refine RunR.mc Tryz.underlying117 (info_of Tryz.type187) rfl (fun b24 h24 => hk _ _ ?_)
      refine Ch.nx (l := [2]) (by decide +kernel) (fa1 ?_)
      refine ⟨_, rfl, fun e rest hk => ?_⟩
      refine C.clR (Spec.less (barLe _) snew_spec) ?_
      rintro v As' ⟨b23, rfl, rfl⟩
      refine hk _ _ ?_
      (try simp only [List.cons_append, List.nil_append])
      refine Ch.pu (i := 5) (t := 26) ⟨_, rfl, rfl⟩ (fun _ _ _ h => C.bd rfl h) ?_
      refine Ch.nx (l := [6]) (by decide +kernel) (fa1 ?_)
      refine ⟨_, rfl, fun e rest hk => ?_⟩
      refine C.bx rfl (fun b27 => hk _ _ ?_)
      refine Ch.nx (l := [8]) (by decide +kernel) (fa1 ?_)
      refine ⟨_, rfl, fun e rest hk => ?_⟩
      refine C.st rfl (hk _ undef ?_) (hr := h6.rd _ _)
      refine Ch.fin ?_
      refine C.go ?_
      exact joinX hin (b23, b24, b25, b27, b6) h24
  ·rintro ⟨b23, b24, b25, b27, b6⟩ h24 e
   dsimp only at h24 ⊢
   refine At.apart (b := b24) (x := dn) (by (repeat (first | with_reducible exact ReF.nil | with_reducible exact Fo.head | with_reducible apply Fo.tail | with_reducible apply ReF.cons))) (fun hwd => ?_)
   have hl4 : l.length ≤ 3 := by omega
   refine C.drawnW [(28, 0), (29, 1), (30, 2), (31, 3), (32, 4), (33, 5), (34, 6), (35, 7), (36, 8), (37, 9)] [0, 1, 2, 3, 4, 5] [6, 7, 8, 9, 10] 2 ?_ (W := [clP b 0 hs.v nilS.v nilS.v (.chan (some dn)) false ((kk : Int) * KQ), pts cb (.cells #[ptrV b] 23 (0, 0)), pts b6 (.cells #[ptrV b27] 114 (0, 0))])
   refine Dr.ld ⟨_, rfl, rfl⟩ (fun _ hE _ _ h => C.ld rfl h) ?_
   refine Dr.ld ⟨_, rfl, rfl⟩ (fun _ hE _ _ h => C.ld rfl h) ?_
   refine Dr.pu ⟨_, rfl, rfl⟩ (fun _ _ _ h => C.nc rfl h) ?_
   refine Dr.pu ⟨_, rfl, rfl⟩ (fun _ _ _ h => C.fa rfl h) ?_
   refine Dr.ld ⟨_, rfl, rfl⟩ (fun _ hE _ _ h => C.ld rfl h) ?_
   refine Dr.ld ⟨_, rfl, rfl⟩ (fun _ hE _ _ h => C.ld rfl h) ?_
   refine Dr.chain rfl ?_ (fun _ s => Reo.sat (by ((try simp only [List.cons_append, List.nil_append]); (repeat (first | with_reducible exact Reo.refl | with_reducible exact Reo.nil | with_reducible exact Fo.head | with_reducible apply Fo.tail | with_reducible apply Reo.cons | with_reducible apply Reo.drop)); done)) s)
   refine Ch.nx (l := [6]) (by decide +kernel) (fa1 ?_)
   refine ⟨_, rfl, fun e rest hk => ?_⟩
   refine C.bs1 rfl (fun b34 => hk _ _ .cons ?_)
   refine Ch.nx (l := [7]) (by decide +kernel) (fa1 ?_)
   refine ⟨_, rfl, fun e rest hk => ?_⟩
   refine RunR.ap (f := ptrC) (z := 1) (el := 114) (m := [b27]) (l := l.map (·.h.bh)) (s := hs) rfl (by (repeat (first | with_reducible exact Fo.head | with_reducible apply Fo.tail))) haw (fun j => rfl) (fun H s => .inr ⟨b34, 0, 1, #[ptrV b27], 114, rfl, Has.get (by repeat (first | with_reducible exact Has.head | with_reducible apply Has.tail)) s, Nat.le_refl 1, rfl, fun j => rfl⟩) (fun s' hl ha => hk _ _ (.of (fun _ s => Reo.sat (by ((try simp only [List.cons_append, List.nil_append]); (repeat (first | with_reducible exact Reo.refl | with_reducible exact Reo.nil | with_reducible exact Fo.head | with_reducible apply Fo.tail | with_reducible apply Reo.cons | with_reducible apply Reo.drop)); done)) s)) ?_) (by simp; omega) rfl (by decide) rfl rfl
   refine Ch.pu (i := 8) ⟨_, rfl, rfl⟩ (fun _ _ _ h => C.nc rfl h) ?_
   refine Ch.pu (i := 9) ⟨_, rfl, rfl⟩ (fun _ _ _ h => C.fa rfl h) ?_
   refine Ch.nx (l := [10]) (by decide +kernel) (fa1 ?_)
   refine ⟨_, rfl, fun e rest hk => ?_⟩
   refine C.st rfl (hk _ undef ?_)
   refine Ch.fin ?_
   refine C.go ?_
   refine C.rg [0, 1, 2, 3] ?_
   refine C.ld rfl ?_
   refine C.nc rfl ?_
   refine C.fa rfl ?_
   refine C.clR (add_spec (k := kk) (by omega)) ?_
   rintro v As' ⟨rfl, rfl⟩
   simp only [List.cons_append, List.nil_append]
   refine C.go ?_
   refine C.rg [0, 1] ?_
   refine C.mf rfl ?_
   refine At.apartS (s := s') (x := cb) (by (repeat (first | with_reducible exact ReF.nil | with_reducible exact Fo.head | with_reducible apply Fo.tail | with_reducible apply ReF.cons))) (fun a1 => ?_)
   refine At.apartS (s := s') (x := b6) (by (repeat (first | with_reducible exact ReF.nil | with_reducible exact Fo.head | with_reducible apply Fo.tail | with_reducible apply ReF.cons))) (fun a2 => ?_)
   refine At.apartS (s := s') (x := b) (by (repeat (first | with_reducible exact ReF.nil | with_reducible exact Fo.head | with_reducible apply Fo.tail | with_reducible apply ReF.cons))) (fun a3 => ?_)
   refine At.apartS (s := s') (x := b27) (by (repeat (first | with_reducible exact ReF.nil | with_reducible exact Fo.head | with_reducible apply Fo.tail | with_reducible apply ReF.cons))) (fun a4 => ?_)
   have hkn0 : σk.n ≠ 0 := by have := N.n; have := hσ.n; omega
   refine RunR.go (x := ⟨.fn (.func 49) #[ptrV cb, ptrV b6], #[]⟩) (seatW ⟨σk.n, b6, b27, b23, b24, b25⟩ ⟨b, cb, dn⟩) rfl rfl (ev0_go0 rfl) ⟨_, _, rfl⟩ (seatW_wf hwd) (fun H s => (seatW_ok (h := ⟨σk.n, b6, b27, b23, b24, b25⟩) (C := ⟨b, cb, dn⟩) (kw := 0) (kd := 0) (by decide) (Has.get (by repeat (first | with_reducible exact Has.head | with_reducible apply Has.tail)) s) (Has.get (by repeat (first | with_reducible exact Has.head | with_reducible apply Has.tail)) s) (Has.get (by repeat (first | with_reducible exact Has.head | with_reducible apply Has.tail)) s) rfl (Has.get (by repeat (first | with_reducible exact Has.head | with_reducible apply Has.tail)) s) rfl (Has.get (by repeat (first | with_reducible exact Has.head | with_reducible apply Has.tail)) s) (Has.get (by repeat (first | with_reducible exact Has.head | with_reducible apply Has.tail)) s)).1)
    (fun H s => (seatW_ok (h := ⟨σk.n, b6, b27, b23, b24, b25⟩) (C := ⟨b, cb, dn⟩) (i := 1) (kw := 0) (kd := 0) (by decide) (Has.get (by repeat (first | with_reducible exact Has.head | with_reducible apply Has.tail)) s) (Has.get (by repeat (first | with_reducible exact Has.head | with_reducible apply Has.tail)) s) (Has.get (by repeat (first | with_reducible exact Has.head | with_reducible apply Has.tail)) s) rfl (Has.get (by repeat (first | with_reducible exact Has.head | with_reducible apply Has.tail)) s) rfl (Has.get (by repeat (first | with_reducible exact Has.head | with_reducible apply Has.tail)) s) (Has.get (by repeat (first | with_reducible exact Has.head | with_reducible apply Has.tail)) s)).2) ⟨600, child_way (h := ⟨σk.n, b6, b27, b23, b24, b25⟩) (C := ⟨b, cb, dn⟩)⟩ hkn0 hkn0 ?_
   have C : Closed Tryz.prog true (barX.bw (σk.hired (seatW ⟨σk.n, b6, b27, b23, b24, b25⟩ ⟨b, cb, dn⟩))) (RunR Tryz.prog Post barX (σk.hired (seatW ⟨σk.n, b6, b27, b23, b24, b25⟩ ⟨b, cb, dn⟩)) 0 os out) := RunR.closed0
   refine C.go ?_
   refine C.rg [0, 1] ?_
   refine C.ar rfl ?_
   refine C.mv rfl ?_
   refine C.go ?_
   refine hostE.cls ⟨⟨σk.n, b6, b27, b23, b24, b25⟩, newSX kk n, 0, 0⟩ ?_
   refine all_add (f := hostE) (l := l) ⟨⟨σk.n, b6, b27, b23, b24, b25⟩, newSX kk n, 0, 0⟩ (by (repeat (first | with_reducible exact ReF.nil | with_reducible exact Fo.head | with_reducible apply Fo.tail | with_reducible apply ReF.cons))) ?_
   rw [show l.map (·.h.bh) ++ [b27] = (l ++ [(⟨⟨σk.n, b6, b27, b23, b24, b25⟩, newSX kk n, 0, 0⟩ : HV)]).map (·.h.bh) by simp]
   refine againG (c := .skip) ih (σk.hired (seatW ⟨σk.n, b6, b27, b23, b24, b25⟩ ⟨b, cb, dn⟩), s', l ++ [⟨⟨σk.n, b6, b27, b23, b24, b25⟩, newSX kk n, 0, 0⟩], kk + 1) rfl ⟨N.hire (v := ⟨⟨σk.n, b6, b27, b23, b24, b25⟩, newSX kk n, 0, 0⟩) rfl hσ.lt h24 hwd, by simp [hlk], by show ((kk + 1 : Nat) : Int) ≤ n; omega, ?_, ?_⟩ (by show (n - ((kk + 1 : Nat) : Int)).toNat < (n - (kk : Int)).toNat; omega)
   ·show (l ++ [_]).map _ = _
    have hkk : kk < (upto n).length := by simp [upto]; omega
    rw [List.map_append, hm, List.take_add_one, List.getElem?_eq_getElem hkk]
    simp [upto]
   ·intro b' hb' i s p hi hp z
    have hi : Go.ConcN.upd σk.seats σk.n (some (seatW ⟨σk.n, b6, b27, b23, b24, b25⟩ ⟨b, cb, dn⟩)) i = some s := hi
    by_cases e1 : i = σk.n
    ·subst e1
     rw [Go.ConcN.upd_same] at hi
     obtain rfl := Option.some.inj hi
     simp only [seatW, List.mem_cons, List.not_mem_nil, or_false] at hp
     rcases hp with rfl | rfl | rfl | rfl
     ·exact a1 b' hb' z.symm
     ·exact a2 b' hb' z.symm
     ·exact a3 b' hb' z.symm
     ·exact a4 b' hb' z.symm
    ·rw [Go.ConcN.upd_ne _ _ e1] at hi
     exact ha b' hb' i s p hi hp z
 ·refine C.cmpF rfl ?_
  refine C.go ?_
  refine C.fls ?_
  refine C.rg [0, 1, 2] ?_
  refine C.ld rfl ?_
  refine C.asg rfl ?_
  refine C.asg rfl ?_
  refine C.go ?_
  subst hlk
  refine At.nilS msgC 7 190 (At.nilS txC 3 126 ?_)
  refine cvP.cls ⟨⟨b, cb, dn⟩, l, [], [], false⟩ ?_ (hs := hs) (bg := nilS) (tx := nilS)
  have hl : (l.length : Int) = n := by omega
  refine RunR.retR hkd hret ⟨⟨⟨b, cb, dn⟩, l, [], [], false⟩, N, rfl, rfl, ?_, rfl, rfl, rfl⟩
  rw [hm, List.take_of_length_le]
  simp [upto]; omega
end Go.Sl
end
section
set_option linter.unusedVariables false
namespace Go.Sl
open Go.Proofs Go.Conc
theorem At.lend {R : Nat → Goroutine → Array Obj → Prop} {d : Nat} {As L : List HP} {g : Goroutine} {α : Type} {f : α → List Value} {z : Nat} {el : TypeId} {s : SliceV} {l : List α} (hf : Fo (slP f z el s l) As L) (h : ∀ J, imSl J f el s l → (∀ h, imm J h → slP f z el s l h) → At R d (imm J :: L) g) : At R d As g :=
 At.fo hf fun H st => by
  obtain ⟨hh, x, hsub, hr⟩ := st
  refine h hh ?_ (fun h e => by have e : h = hh := e; rw [e]; exact x) H ⟨hh, rfl, hsub, hr⟩
  rcases x with ⟨e1, e2⟩ | ⟨b, pad, e, _, _, hp⟩
  ·exact .inl ⟨e1, e2⟩
  ·have hb : s.b = b := by rw [e]; rfl
   have hp : hh = one b _ := hp
   exact .inr ⟨pad, by rw [hb]; exact e, by rw [hb, hp]; simp [one]⟩
theorem pnew_spec {σ : Gh} {n : Int} (hn : 1 ≤ n ∧ n ≤ 4) (hσ : GhOk σ) : SpecG Tryz.prog barX 14 #[.int .i64 n] σ [] (fun v σ' As => ∃ c : CV, NewGh σ σ' c.G c.hosts ∧ v = .tuple #[ptrV c.G.b, .int .i64 0] ∧ As = [cvP c] ∧ c.hosts.map (·.s) = ((upto n).map fun k => newSX k n) ∧ c.bag = [] ∧ c.txs = [] ∧ c.stopped = false) := by
 refine SpecG.of ?_
 intro Post os out kd F c' cs C hkd hret
 simp only [List.cons_append, List.nil_append]
 refine C.go ?_
 refine C.rg [0, 1] ?_
 refine C.asg rfl ?_
 refine C.asg rfl ?_
 refine C.go ?_
 refine C.rg [0, 1, 2, 3, 4, 5, 6] ?_
 refine C.mv rfl ?_
 refine RunR.clN (A := []) (new_spec hn hσ) ?_
 rintro v σ' As' ⟨c, N, rfl, rfl, h1, h2, h3, h4⟩
 have C : Closed Tryz.prog true (barX.bw σ') (RunR Tryz.prog Post barX σ' 0 os out) := RunR.closed0
 simp only [List.cons_append, List.nil_append]
 refine C.mv rfl ?_
 refine C.ext rfl ?_
 refine C.ext rfl ?_
 refine C.asg rfl ?_
 refine C.asg rfl ?_
 refine C.go ?_
 refine C.rg [0, 1, 2] ?_
 refine C.mv rfl ?_
 refine C.eqZZ Tryz.underlying46 rfl ?_
 refine C.asg rfl ?_
 refine C.go ?_
 refine C.tru ?_
 refine C.rg [0, 1, 2] ?_
 refine C.mv rfl ?_
 refine C.asg rfl ?_
 refine C.asg rfl ?_
 refine C.go ?_
 exact RunR.retQ hkd hret ⟨c, N, rfl, rfl, h1, h2, h3, h4⟩
theorem number0_spec {main : Bool} {nm : Value} {at_ : Int} : Spec Tryz.prog main badT 30 #[.nilIface, nm, .int .i64 at_] [] (fun v As => v = .int .i64 0 ∧ As = []) := by
 refine Spec.of ?_
 intro R C kd d F c cs hkd hret
 simp only [List.nil_append]
 refine C.go ?_
 refine C.rg [0] ?_
 refine C.asg rfl ?_
 refine C.go ?_
 refine C.rg [0, 1] ?_
 refine C.mv rfl ?_
 refine C.eqZZ Tryz.underlying46 rfl ?_
 refine C.go ?_
 refine C.tru ?_
 refine C.rg [0] ?_
 refine C.asg rfl ?_
 refine C.go ?_
 exact C.retR hkd hret ⟨rfl, rfl⟩
end Go.Sl
end
section
set_option linter.unusedVariables false
namespace Go.Sl
open Go.Proofs Go.Conc
def numO : Option Nat → Int
 | none => 0
 | some k => k + 1
theorem psubmit_spec {σ : Gh} {c : CV} {so : SliceV} {ops : List OpR} {I : HL} {eb : Nat → Nat × Nat} (hE : ErrI I eb) (hn : 1 ≤ c.hosts.length ∧ c.hosts.length ≤ 4) (hbag : c.bag.length < 2 ^ 20) (htx : c.txs.length ≤ 60) (hlo : ops.length < 2 ^ 43) :
  SpecG Tryz.prog barX 18 #[ptrV c.G.b, so.v] σ [cvP c, imm I, slP opPC 3 67 so ops] (fun v σ' As => ∃ er t bag' txs' I', σ' = σ ∧ v = .tuple #[.int .i64 t, .int .i64 (numO er)] ∧ As = [cvP { c with bag := bag', txs := txs' }, imm I'] ∧
   ((c.stopped = true ∧ er = some 8 ∧ t = 0 ∧ bag' = c.bag ∧ txs' = c.txs ∧ I' = I) ∨ (c.stopped = false ∧ subQ eb I c.hosts.length ops c.bag c.txs er t I' bag' txs'))) := by
 refine SpecG.of ?_
 intro Post os out kd F c' cs C hkd hret
 simp only [List.cons_append, List.nil_append]
 refine C.go ?_
 refine C.rg [0, 1] ?_
 refine C.asg rfl ?_
 refine C.asg rfl ?_
 refine C.go ?_
 refine C.rg [0, 1, 2] ?_
 refine C.mv rfl ?_
 refine At.nilS opPC 3 67 ?_
 refine C.apR (f := opPC) (s := nilS) (l := []) ops rfl (fun s1 => ?_) (hsrc := fun H st => RowS.src (f := opPC) (el := 67) (s := so) (.own (by (repeat (first | with_reducible exact Fo.head | with_reducible apply Fo.tail)))) st (fun _ => rfl)) (hsz := by simp only [List.length_nil]; omega)
 rw [List.nil_append]
 refine At.reo (show Reo _ (slP opPC 3 67 s1 ops :: cvP c :: imm I :: F) by ((try simp only [List.cons_append, List.nil_append]); (repeat (first | with_reducible exact Reo.refl | with_reducible exact Reo.nil | with_reducible exact Fo.head | with_reducible apply Fo.tail | with_reducible apply Reo.cons | with_reducible apply Reo.drop)); done)) ?_
 refine C.asg rfl ?_
 refine C.go ?_
 refine C.rg [0, 1, 2, 3, 4, 5, 6, 7] ?_
 refine C.mv rfl ?_
 refine C.mv rfl ?_
 refine At.lend (s := s1) (f := opPC) (z := 3) (el := 67) (l := ops) (by (repeat (first | with_reducible exact Fo.head | with_reducible apply Fo.tail))) (fun J hJ hback => ?_)
 refine RunR.clN (csubmit_spec hE hn hbag htx hJ hlo) ?_
 rintro v σ' As' ⟨er, t, bag', txs', I', L, u, rfl, rfl, hcv, rfl, hor⟩
 simp only [List.cons_append, List.nil_append]
 refine At.turn (A := imm J) (A' := slP opPC 3 67 s1 ops) (by (repeat (first | with_reducible exact Fo.head | with_reducible apply Fo.tail))) hback ?_
 refine C.mv rfl ?_
 refine C.ext rfl ?_
 refine C.ext rfl ?_
 refine C.asg rfl ?_
 refine C.asg rfl ?_
 refine C.go ?_
 refine C.rg [0, 1, 2] ?_
 refine C.mv rfl ?_
 refine C.lnR (f := opPC) (s := s1) (l := ops) rfl ?_
 refine C.mv rfl ?_
 refine C.go ?_
 have hE' : ErrI I' eb := by
  rcases hor with ⟨_, _, _, _, _, rfl⟩ | ⟨_, hs, _⟩
  ·exact hE
  ·exact hE.mono hs
 refine C.loopR (X := Nat × List OpR) (fun x => [(6, s1.v), (7, .int .i64 t), (8, u), (18, s1.v), (19, .int .i64 ops.length), (20, .int .i64 x.1)]) (fun x => slP opPC 3 67 s1 x.2 :: cvP { c with bag := bag', txs := txs' } :: imm I' :: (L ++ F)) (fun x => x.1 ≤ ops.length ∧ x.2.length = ops.length) (fun x => ops.length - x.1) (0, ops) ⟨rfl, rfl, rfl, rfl, rfl, rfl, trivial⟩ ⟨Nat.zero_le _, rfl⟩ ?_
 rintro ⟨i, l⟩ e ⟨hi, hl⟩ ih
 dsimp only at hi hl ⊢
 refine C.go ?_
 refine C.rg [0] ?_
 by_cases hlt : (i : Int) < ops.length
 ·refine C.cmpT rfl ?_
  refine C.go ?_
  refine C.tru ?_
  refine C.rg [0, 1] ?_
  refine C.mv rfl ?_
  refine C.asg rfl ?_
  refine C.go ?_
  refine C.rg [0, 1, 2, 3, 4] ?_
  refine C.mv rfl ?_
  refine C.mv rfl ?_
  refine C.bd rfl ?_
  refine C.iaR (f := opPC) (s := s1) (l := l) (j := i) rfl ?_ (hj := by omega)
  refine C.stRS (f := opPC) (s := s1) (l := l) (j := i) ⟨true, 122, -1⟩ rfl ?_
  refine C.go ?_
  refine C.rg [0, 1] ?_
  refine C.ar rfl ?_
  refine C.mv rfl ?_
  refine C.go ?_
  exact again ih (i + 1, l.set i ⟨true, 122, -1⟩) ⟨by dsimp only; omega, by dsimp only; rw [List.length_set]; exact hl⟩ (by dsimp only; omega)
 ·refine C.cmpF rfl ?_
  refine C.go ?_
  refine C.fls ?_
  refine C.rg [0, 1, 2, 3, 4] ?_
  refine C.mv rfl ?_
  refine C.mv rfl ?_
  cases er with
  | none =>
   obtain ⟨rfl, rfl⟩ := hcv
   simp only [List.nil_append]
   refine C.clR (Spec.less (barLe _) number0_spec) (A := []) ?_
   rintro v As' ⟨rfl, rfl⟩
   simp only [List.nil_append]
   refine C.asg rfl ?_
   refine C.asg rfl ?_
   refine C.go ?_
   exact RunR.retQ hkd hret ⟨none, t, bag', txs', I', rfl, rfl, rfl, hor⟩
  | some k =>
   obtain ⟨bE, rfl, rfl⟩ := hcv
   have hk : k < 9 := by
    rcases hor with ⟨_, h, _⟩ | ⟨_, _, h | h | h⟩
    ·cases h; decide
    ·have := h.2.1; cases this; decide
    ·have := h.2.2.1; cases this; decide
    ·have := h.2.2.1; cases this
   simp only [List.cons_append, List.nil_append]
   refine C.clR (number_spec hE' (bE := bE) (k := k) (nm := subN) (at_ := 0) hk) ?_
   rintro v As' ⟨rfl, rfl⟩
   simp only [List.cons_append, List.nil_append]
   refine C.asg rfl ?_
   refine C.asg rfl ?_
   refine C.go ?_
   exact RunR.retQ hkd hret ⟨some k, t, bag', txs', I', rfl, rfl, rfl, hor⟩
end Go.Sl
end
section
set_option linter.unusedVariables false
namespace Go.Sl
open Go.Proofs Go.Conc
section
variable {P : Program} {main : Bool} {B : Bad} {R : Nat → Goroutine → Array Obj → Prop} {d : Nat} {As : List HP}
variable {fn : FuncId} {kd : Kd} {n : Nat} {e : Nat → Value} {ds : List Deferred} {k : List Item} {cs : List Frame}
variable {ops : Array Oper} {i : Nat} {rest : List Nat} {t : Nat} {ty : TypeId} {pos : String} {af : Array Edge} {gd : Option (Nat × Bool)} {x y : Operand}
theorem Closed.eqQ (C : Closed P main B R) {op : BinOp} {r : Bool} {tt t2 tp : TypeId} [cP : Pt P tt tp] {a : Option Addr} (ho : nthO ops i = some ⟨some t, .binOp op tt x y t2, ty, pos, af, gd⟩) (h : At R d As (gr fn kd n (put e t (.bool (a.isNone == r))) ds (.inRegion ops rest :: k) cs))
  (hop : isEq op = some r := by rfl) (hx : ev n e x = .pointer a := by rfl) (hy : ev n e y = .pointer none := by rfl) (hw : wantB ops n e gd = true := by rfl) : At R d As (gr fn kd n e ds (.inRegion ops (i :: rest) :: k) cs) :=
 C.v0 ho h (by
  unfold execOp; simp only [hx, hy]
  refine ev0_do (a := .bool (a.isNone == r)) ?_ rfl
  have h0 : ev0 P (Op.equal tt (.pointer a) (.pointer none)) = some a.isNone := by
   unfold Op.equal
   show ev0 P (Op.equalIn (9998 + 1 + 1) _ _ _) = _
   unfold Op.equalIn
   refine ev0_do (ev0_und cP.h) ?_
   cases a <;> rfl
  cases op <;> first | (cases hop; done) | skip
  ·obtain rfl := Option.some.inj hop
   refine ev0_do (a := ()) (by unfold eqGuard; rfl) ?_
   refine ev0_do h0 ?_
   cases a <;> rfl
  ·obtain rfl := Option.some.inj hop
   refine ev0_do (a := ()) (by unfold eqGuard; rfl) ?_
   refine ev0_do h0 ?_
   cases a <;> rfl) hw
end
structure StepV where
 kind : Int
 cl : Int
 a : Int
 b : Int
 c : Int
 so : Value
 ops : List OpR
def stepC (s : StepV) : List Value := [.int .i64 s.kind, .int .i64 s.cl, .int .i64 s.a, .int .i64 s.b, .int .i64 s.c, s.so]
def Z64 (x : Int) : Prop := -9223372036854775808 ≤ x ∧ x ≤ 9223372036854775807
structure StepI (I : HL) (bot : Nat) (s : StepV) : Prop where
 kind : Z64 s.kind
 cl : Z64 s.cl
 a : Z64 s.a
 b : Z64 s.b
 c : Z64 s.c
 o : inSl I bot opRC 3 s.so s.ops
 z : ∀ o ∈ s.ops, OpZ o
 len : s.ops.length * 24 ≤ 140737488355328
theorem StepI.mono {I I' : HL} {bot : Nat} {s : StepV} (h : StepI I bot s) (hs : Sub I I') : StepI I' bot s := { h with o := h.o.mono hs }
structure Idle0 (σ : Gh) : Prop where
 n : σ.n ≠ 0
 no : ∀ i, σ.seats i = none
theorem Idle0.ok {σ : Gh} (h : Idle0 σ) : GhOk σ := ⟨h.n, fun i s e => by rw [h.no] at e; cases e⟩
end Go.Sl
end
section
set_option linter.unusedVariables false
namespace Go.Sl
open Go.Proofs Go.Conc
section
variable {R : Nat → Goroutine → Array Obj → Prop} {d : Nat} {As F L : List HP} {g : Goroutine} {rs : List RecV} {q : Nat}
theorem rec_out (hi : q < rs.length) (hf : Fo (all (rs.map recE)) As L) (h : At R d (slP opPC 3 67 rs[q].so rs[q].ops :: slP i32C 1 21 rs[q].sr rs[q].reads :: all ((rs.eraseIdx q).map recE) :: L) g) : At R d As g :=
 all_out (f := recE) hi hf fun H s => h H (Sat.flat (l := [slP opPC 3 67 rs[q].so rs[q].ops, slP i32C 1 21 rs[q].sr rs[q].reads]) s)
theorem wsh_back {w : WV} (hi : q < w.sh.length) (hr : ReF [shE w.sh[q], all ((w.sh.eraseIdx q).map shE)] As L) (h : At R d (all (w.sh.map shE) :: L) g) : At R d As g := all_in (f := shE) hi w.sh[q] hr (by rw [List.set_getElem_self]; exact h)
end
def RecZ (m : RecR) : Prop := (∀ o ∈ m.ops, (-9223372036854775808 ≤ o.k ∧ o.k ≤ 9223372036854775807) ∧ (-9223372036854775808 ≤ o.v ∧ o.v ≤ 9223372036854775807)) ∧ (∀ x ∈ m.reads, -9223372036854775808 ≤ x ∧ x ≤ 9223372036854775807) ∧ m.ops.length < 2 ^ 20 ∧ m.reads.length < 2 ^ 20
abbrev recK (b : Nat) (m : RecV) : HP := pts b (.cells #[.int .i64 m.kind, .int .i64 m.tx, .bool m.yes, .int .i64 m.home, m.so.v, m.sr.v] 167 (0, 0))
set_option maxHeartbeats 2000000 in
theorem lrecords_spec {σ : Gh} {c : CV} {I : HL} {w : WV} {bw : Nat} {s : Int} (hn : c.hosts.length ≤ 4) (hJ : CvJ I c) (hW : WI I w) (hlog : ∀ v ∈ c.hosts, v.s.log.length < 2 ^ 30) (hsl : c.hosts.length = w.sh.length)
  (he : ∀ (q : Nat) (h1 : q < c.hosts.length) (h2 : q < w.sh.length), (c.hosts[q]).s.log.map (·.abs.recd) = (w.sh[q]).2.log.map (·.toRecR) ∧ (c.hosts[q]).s.good = (w.sh[q]).2.good) (hz : ∀ p ∈ w.sh, ∀ r ∈ p.2.log, RecZ r.toRecR) :
  SpecG Tryz.prog barX 125 #[.agg #[ptrV c.G.b, ptrV bw], .int .i64 s] σ [cvP c, wP bw w, imm I] (fun v σ' As => σ' = σ ∧ v = .bool true ∧ As = [cvP c, wP bw w, imm I]) := by
 refine SpecG.of ?_
 intro Post os out kd F c' cs C hkd hret
 simp only [List.cons_append, List.nil_append]
 cases hho : hostAt c.hosts s with
 | none =>
  have hout : s < 0 ∨ (c.hosts.length : Int) ≤ s := by
   unfold hostAt at hho
   split at hho
   ·exact .inl (by assumption)
   ·right; rw [List.getElem?_eq_none_iff] at hho; omega
  refine C.go ?_
  refine C.rg [0, 1] ?_
  refine C.bx rfl (fun b1 => ?_)
  refine C.asg rfl ?_
  refine C.go ?_
  refine C.rg [0, 1, 2, 3, 4] ?_
  refine C.fa rfl ?_
  refine C.ld rfl ?_
  refine C.mv rfl ?_
  refine C.clR (Spec.less (barLe _) (wat_spec (w := w) (b := bw) (i := s))) ?_
  rintro v As' ⟨hv, rfl⟩
  simp only [List.cons_append, List.nil_append]
  have hv := hv.resolve_right (by rintro ⟨q, hq, rfl, _⟩; omega)
  obtain ⟨_, rfl⟩ := hv
  refine C.asg rfl ?_
  refine C.go ?_
  refine C.rg [0] ?_
  refine C.asg rfl ?_
  refine C.go ?_
  refine C.loopR (X := Nat) (fun x => [(1, .int .i64 s), (2, ptrV b1), (5, .pointer none), (6, .int .i64 x)]) (fun _ => pairP b1 c.G.b bw :: cvP c :: wP bw w :: imm I :: F) (fun x => x ≤ 2) (fun x => 2 - x) 0 ⟨rfl, rfl, rfl, rfl, trivial⟩ (Nat.zero_le _) ?_
  intro x e hx ih
  refine C.go ?_
  refine C.rg [0, 1] ?_
  refine C.mv rfl ?_
  refine C.cmp rfl (fun h21 => ?_) (fun h21 => ?_)
  ·skip
   refine C.go ?_
   refine C.tru ?_
   refine C.rg [0, 1, 2, 3, 4, 5, 6, 7, 8] ?_
   refine C.fa rfl ?_
   refine C.ld rfl ?_
   refine C.mv rfl ?_
   refine RunR.clN (crecords_spec (k := s) hn hJ hlog) ?_
   rintro v σ' As' ⟨rfl, sl, rs, good, rfl, hm, rfl⟩
   rw [hho] at hm
   obtain ⟨rfl, rfl⟩ := hm
   simp only [List.cons_append, List.nil_append]
   refine C.mv rfl ?_
   refine C.ext rfl ?_
   refine C.ext rfl ?_
   refine C.asg rfl ?_
   refine C.asg rfl ?_
   refine C.go ?_
   refine C.rg [0, 1] ?_
   refine C.mv rfl ?_
   refine C.eqQ rfl ?_
   refine C.go ?_
   refine C.tru ?_
   refine C.rg [0, 1, 2, 3, 4, 5, 6, 7] ?_
   refine C.mv rfl ?_
   refine C.lnR rfl ?_ (s := sl) (l := ([] : List RecV)) (f := recC)
   refine C.cmpT rfl ?_
   refine C.mv rfl ?_
   refine C.mv rfl ?_
   refine C.cmpT rfl ?_
   refine C.pk rfl ?_
   refine C.asg rfl ?_
   refine C.go ?_
   exact RunR.retQ hkd hret ⟨rfl, rfl, rfl⟩
  ·skip
   refine C.go ?_
   refine C.fls ?_
   refine C.rg [0] ?_
   refine C.asg rfl ?_
   refine C.go ?_
   exact RunR.retQ hkd hret ⟨rfl, rfl, rfl⟩
 | some v0 =>
  obtain ⟨q, rfl, hq, rfl⟩ := hostAt_some hho
  have hq2 : q < w.sh.length := by omega
  obtain ⟨hel, heg⟩ := he q hq hq2
  have hSI := hW.sh _ (List.getElem_mem hq2)
  have hsz := hz _ (List.getElem_mem hq2)
  have hll := hlog _ (List.getElem_mem hq)
  refine C.go ?_
  refine C.rg [0, 1] ?_
  refine C.bx rfl (fun b1 => ?_)
  refine C.asg rfl ?_
  refine C.go ?_
  refine C.rg [0, 1, 2, 3, 4] ?_
  refine C.fa rfl ?_
  refine C.ld rfl ?_
  refine C.mv rfl ?_
  refine C.clR (Spec.less (barLe _) (wat_spec (w := w) (b := bw) (i := q))) ?_
  rintro v As' ⟨hv, rfl⟩
  simp only [List.cons_append, List.nil_append]
  have hv := hv.resolve_left (by rintro ⟨h | h, _⟩ <;> omega)
  obtain ⟨q', hq', e1, rfl⟩ := hv
  obtain rfl : q' = q := by omega
  refine wP.opn (b := bw) (w := w) (h := fun sh bg tx => ?_)
  refine all_out (f := shE) (l := w.sh) hq2 (by (repeat (first | with_reducible exact Fo.head | with_reducible apply Fo.tail))) ?_
  obtain ⟨p, hp⟩ : ∃ p, p = w.sh[q'] := ⟨_, rfl⟩
  rw [← hp] at hel heg hSI hsz ⊢
  obtain ⟨bs, zs⟩ := p
  dsimp only [shE] at hel heg hSI hsz ⊢
  refine shP.opn (b := bs) (s := zs) (h := fun lg vl lk un tm wt ot => ?_)
  refine C.asg rfl ?_
  refine C.go ?_
  refine C.rg [0] ?_
  refine C.asg rfl ?_
  refine C.go ?_
  refine C.loopR (X := Nat) (fun x => [(1, .int .i64 q'), (2, ptrV b1), (5, ptrV bs), (6, .int .i64 x)]) (fun _ => pairP b1 c.G.b bw :: cvP c :: shO bs zs lg vl lk un tm wt ot (all ((w.sh.eraseIdx q').map shE) :: pts bw (.cells #[sh.v, bg.v, tx.v, .bool w.stopped] 53 (0, 0)) :: slP ptrC 1 54 sh (w.sh.map (·.1)) :: slP msgC 7 137 bg w.bag :: slP txC 3 71 tx w.txs :: imm I :: F)) (fun x => x ≤ 2) (fun x => 2 - x) 0 ⟨rfl, rfl, rfl, rfl, trivial⟩ (Nat.zero_le _) ?_
  intro x e hx ih
  refine C.go ?_
  refine C.rg [0, 1] ?_
  refine C.mv rfl ?_
  refine C.cmp rfl (fun h21 => ?_) (fun h21 => ?_)
  ·skip
   refine C.go ?_
   refine C.tru ?_
   refine C.rg [0, 1, 2, 3, 4, 5, 6, 7, 8] ?_
   refine C.fa rfl ?_
   refine C.ld rfl ?_
   refine C.mv rfl ?_
   refine RunR.clN (crecords_spec (k := q') hn hJ hlog) ?_
   rintro v σ' As' ⟨rfl, sl, rs, good, rfl, hm, rfl⟩
   rw [hho] at hm
   obtain ⟨hrs, rfl⟩ := hm
   simp only [List.cons_append, List.nil_append]
   have hrs2 : rs.map (·.toRecR) = zs.log.map (·.toRecR) := hrs.trans hel
   have hrl : rs.length = zs.log.length := by have := congrArg List.length hrs2; simpa using this
   have hrl2 : rs.length < 2 ^ 30 := by have := congrArg List.length hrs; simp only [List.length_map] at this; omega
   rw [heg]
   refine C.mv rfl ?_
   refine C.ext rfl ?_
   refine C.ext rfl ?_
   refine C.asg rfl ?_
   refine C.asg rfl ?_
   refine C.go ?_
   refine C.rg [0, 1] ?_
   refine C.mv rfl ?_
   refine C.eqQ rfl ?_
   refine C.go ?_
   refine C.fls ?_
   refine C.rg [0, 1, 2, 3, 4, 5, 6, 7, 8, 9, 10, 11, 12, 13, 14, 15] ?_
   refine C.mv rfl ?_
   refine C.lnR rfl ?_ (s := sl) (l := rs) (f := recC)
   refine C.mv rfl ?_
   refine C.nc rfl ?_
   refine C.fa rfl ?_
   refine C.ld rfl ?_
   refine C.lnR rfl ?_ (s := lg) (l := zs.log) (f := recC)
   refine C.cmpF rfl ?_
   refine C.mv rfl ?_
   refine C.mv rfl ?_
   refine C.mv rfl ?_
   refine C.nc rfl ?_
   refine C.fa rfl ?_
   refine C.ld rfl ?_
   refine C.cmpF rfl ?_ (hf := by intro h; exact h rfl)
   refine C.pk rfl ?_
   refine C.go ?_
   refine C.fls ?_
   refine C.rg [0] ?_
   refine C.asg rfl ?_
   refine C.go ?_
   refine C.loopR (X := Nat × List RecV) (fun y => [(1, .int .i64 q'), (2, ptrV b1), (5, ptrV bs), (6, .int .i64 x), (7, sl.v), (9, .int .i64 y.1)]) (fun y => slP recC 6 167 sl y.2 :: all ((rs.drop y.1).map recE) :: pairP b1 c.G.b bw :: cvP c :: shO bs zs lg vl lk un tm wt ot (all ((w.sh.eraseIdx q').map shE) :: pts bw (.cells #[sh.v, bg.v, tx.v, .bool w.stopped] 53 (0, 0)) :: slP ptrC 1 54 sh (w.sh.map (·.1)) :: slP msgC 7 137 bg w.bag :: slP txC 3 71 tx w.txs :: imm I :: F)) (fun y => y.1 ≤ rs.length ∧ y.2.length = rs.length ∧ y.2.drop y.1 = rs.drop y.1) (fun y => rs.length - y.1) (0, rs) ⟨rfl, rfl, rfl, rfl, rfl, rfl, trivial⟩ ⟨Nat.zero_le _, rfl, rfl⟩ ?_ (hI := by rw [List.drop_zero]; ((try simp only [List.cons_append, List.nil_append]); (repeat (first | with_reducible exact Reo.refl | with_reducible exact Reo.nil | with_reducible exact Fo.head | with_reducible apply Fo.tail | with_reducible apply Reo.cons | with_reducible apply Reo.drop)); done))
   rintro ⟨i, mx⟩ e ⟨hi, hmx, hdr⟩ ih2
   dsimp only at hi hmx hdr ⊢
   refine C.go ?_
   refine C.rg [0, 1, 2, 3] ?_
   refine C.mv rfl ?_
   refine C.mv rfl ?_
   refine C.lnR rfl ?_ (s := sl) (l := mx) (f := recC)
   refine C.cmp rfl (fun h59 => ?_) (fun h59 => ?_)
   ·skip
    refine C.go ?_
    refine C.tru ?_
    have hi' : i < rs.length := by omega
    have hix : i < mx.length := by omega
    have hiw : i < zs.log.length := by omega
    have hmi : mx[i] = rs[i] := by
     have h1 := List.drop_eq_getElem_cons hix
     have h2 := List.drop_eq_getElem_cons hi'
     rw [hdr, h2] at h1
     exact (List.cons.inj h1).1.symm
    obtain ⟨ma, hma⟩ : ∃ ma, ma = rs[i] := ⟨_, rfl⟩
    obtain ⟨mb, hmb⟩ : ∃ mb, mb = zs.log[i] := ⟨_, rfl⟩
    have heq : ma.toRecR = mb.toRecR := by
     have h1 : (rs.map (·.toRecR))[i]'(by simpa using hi') = (zs.log.map (·.toRecR))[i]'(by simpa using hiw) := by simp only [hrs2]
     rw [List.getElem_map, List.getElem_map] at h1
     rw [hma, hmb]; exact h1
    have hmJ := hSI.log mb (hmb ▸ List.getElem_mem hiw)
    have hmZ := hsz mb (hmb ▸ List.getElem_mem hiw)
    rw [List.drop_eq_getElem_cons hi', ← hma]
    obtain ⟨ra, soa, sra⟩ := ma
    obtain ⟨rb, sob, srb⟩ := mb
    obtain rfl : ra = rb := heq
    dsimp only at hmZ
    obtain ⟨hz1, hz2, hz3, hz4⟩ := hmZ
    refine C.rg [0, 1, 2, 3, 4, 5] ?_
    refine C.mv rfl ?_
    refine C.mv rfl ?_
    refine C.iaR rfl ?_ (s := sl) (l := mx) (f := recC) (j := i)
    refine C.ldRS rfl (fun hj => ?_) (s := sl) (l := mx) (f := recC) (j := i)
    rw [hmi, ← hma]
    simp only [recC]
    refine C.al rfl (fun b6 => ?_)
    refine C.stS rfl ?_
    refine C.go ?_
    refine C.rg [0, 1, 2, 3, 4, 5, 6, 7, 8] ?_
    refine C.mv rfl ?_
    refine C.nc rfl ?_
    refine C.fa rfl ?_
    refine C.ld rfl ?_
    refine C.mv rfl ?_
    refine C.iaR rfl ?_ (s := lg) (l := zs.log) (f := recC) (j := i)
    refine C.ldRS rfl (fun hj => ?_) (s := lg) (l := zs.log) (f := recC) (j := i)
    rw [← hmb]
    simp only [recC]
    refine C.al rfl (fun b7 => ?_)
    refine C.stS rfl ?_
    refine C.go ?_
    refine C.rg [0, 1, 2, 3, 4, 5] ?_
    refine C.fa rfl ?_
    refine C.ld rfl ?_
    refine C.fa rfl ?_
    refine C.ld rfl ?_
    refine rec_out (rs := (⟨ra, soa, sra⟩ : RecV) :: rs.drop (i + 1)) (q := 0) (Nat.zero_lt_succ _) (by (repeat (first | with_reducible exact Fo.head | with_reducible apply Fo.tail))) ?_
    simp only [List.getElem_cons_zero, List.eraseIdx_cons_zero]
    refine C.clR (Spec.less (barLe _) (sameOps_spec (so := soa) (ro := sob) (ops := ra.ops) rfl hmJ.o hz1 (by omega))) ?_
    rintro v As' ⟨rfl, rfl⟩
    simp only [List.cons_append, List.nil_append]
    refine C.asg rfl ?_
    refine C.go ?_
    refine C.rg [0, 1, 2, 3, 4, 5] ?_
    refine C.fa rfl ?_
    refine C.ld rfl ?_
    refine C.fa rfl ?_
    refine C.ld rfl ?_
    refine C.clR (Spec.less (barLe _) (sameReads_spec (so := sra) (ro := srb) (l := ra.reads) rfl hmJ.r hz2 (by omega))) ?_
    rintro v As' ⟨rfl, rfl⟩
    simp only [List.cons_append, List.nil_append]
    refine C.asg rfl ?_
    refine C.go ?_
    refine C.rg [0, 1, 2, 3, 4, 5, 6, 7, 8, 9, 10, 11, 12, 13, 14, 15, 16, 17, 18, 19, 20, 21, 22, 23, 24, 25, 26, 27, 28, 29, 30, 31, 32, 33] ?_
    refine C.fa rfl ?_
    refine C.ld rfl ?_
    refine C.fa rfl ?_
    refine C.ld rfl ?_
    refine C.cmpF rfl ?_ (hf := by intro h; exact h rfl)
    refine C.mv rfl ?_
    refine C.fa rfl ?_
    refine C.ld rfl ?_
    refine C.fa rfl ?_
    refine C.ld rfl ?_
    refine C.cmpF rfl ?_ (hf := by intro h; exact h rfl)
    refine C.pk rfl ?_
    refine C.mv rfl ?_
    refine C.fa rfl ?_
    refine C.ld rfl ?_
    refine C.fa rfl ?_
    refine C.ld rfl ?_
    refine C.eqBB Tryz.underlying4 rfl ?_
    refine C.pk rfl ?_
    refine C.mv rfl ?_
    refine C.fa rfl ?_
    refine C.ld rfl ?_
    refine C.fa rfl ?_
    refine C.ld rfl ?_
    refine C.cmpF rfl ?_ (hf := by intro h; exact h rfl)
    refine C.pk rfl ?_
    refine C.mv rfl ?_
    refine C.mv rfl ?_
    refine C.nt rfl ?_
    refine C.pk rfl ?_
    refine C.mv rfl ?_
    refine C.mv rfl ?_
    refine C.nt rfl ?_
    refine C.pk rfl ?_
    refine C.go ?_
    refine C.fls ?_
    refine C.rg [0] ?_
    refine C.asg rfl ?_
    refine C.go ?_
    refine C.loopR (X := Nat × List OpR) (fun y => [(1, .int .i64 q'), (2, ptrV b1), (5, ptrV bs), (6, .int .i64 x), (7, sl.v), (9, .int .i64 i), (10, ptrV b6), (14, .int .i64 y.1)]) (fun y => slP opPC 3 67 soa y.2 :: slP i32C 1 21 sra ra.reads :: recK b6 ⟨ra, soa, sra⟩ :: slP recC 6 167 sl mx :: all ((rs.drop (i + 1)).map recE) :: pairP b1 c.G.b bw :: cvP c :: shO bs zs lg vl lk un tm wt ot (all ((w.sh.eraseIdx q').map shE) :: pts bw (.cells #[sh.v, bg.v, tx.v, .bool w.stopped] 53 (0, 0)) :: slP ptrC 1 54 sh (w.sh.map (·.1)) :: slP msgC 7 137 bg w.bag :: slP txC 3 71 tx w.txs :: imm I :: F)) (fun y => y.1 ≤ ra.ops.length ∧ y.2.length = ra.ops.length) (fun y => ra.ops.length - y.1) (0, ra.ops) ⟨rfl, rfl, rfl, rfl, rfl, rfl, rfl, rfl, trivial⟩ ⟨Nat.zero_le _, rfl⟩ ?_
    rintro ⟨k, lo⟩ e ⟨hk, hlo⟩ ih3
    dsimp only at hk hlo ⊢
    refine C.go ?_
    refine C.rg [0, 1, 2, 3, 4] ?_
    refine C.mv rfl ?_
    refine C.fa rfl ?_
    refine C.ld rfl ?_
    refine C.lnR rfl ?_ (s := soa) (l := lo) (f := opPC)
    refine C.cmp rfl (fun h121 => ?_) (fun h121 => ?_)
    ·skip
     refine C.go ?_
     refine C.tru ?_
     refine C.rg [0, 1, 2, 3, 4, 5] ?_
     refine C.fa rfl ?_
     refine C.ld rfl ?_
     refine C.mv rfl ?_
     refine C.bd rfl ?_
     refine C.iaR rfl ?_ (s := soa) (l := lo) (f := opPC) (j := k)
     refine C.stRS (s := soa) (l := lo) (f := opPC) (j := k) ⟨false, 113, 0⟩ rfl ?_
     refine C.go ?_
     refine C.rg [0, 1, 2] ?_
     refine C.mv rfl ?_
     refine C.ar rfl ?_
     refine C.asg rfl ?_
     refine C.go ?_
     exact again ih3 (k + 1, lo.set k ⟨false, 113, 0⟩) ⟨by dsimp only; omega, by dsimp only; rw [List.length_set]; exact hlo⟩ (by dsimp only; omega)
    ·skip
     refine C.go ?_
     refine C.fls ?_
     refine C.rg [0] ?_
     refine C.asg rfl ?_
     refine C.go ?_
     refine C.loopR (X := Nat × List Int) (fun y => [(1, .int .i64 q'), (2, ptrV b1), (5, ptrV bs), (6, .int .i64 x), (7, sl.v), (9, .int .i64 i), (10, ptrV b6), (15, .int .i64 y.1)]) (fun y => slP i32C 1 21 sra y.2 :: recK b6 ⟨ra, soa, sra⟩ :: slP recC 6 167 sl mx :: all ((rs.drop (i + 1)).map recE) :: pairP b1 c.G.b bw :: cvP c :: shO bs zs lg vl lk un tm wt ot (all ((w.sh.eraseIdx q').map shE) :: pts bw (.cells #[sh.v, bg.v, tx.v, .bool w.stopped] 53 (0, 0)) :: slP ptrC 1 54 sh (w.sh.map (·.1)) :: slP msgC 7 137 bg w.bag :: slP txC 3 71 tx w.txs :: imm I :: F)) (fun y => y.1 ≤ ra.reads.length ∧ y.2.length = ra.reads.length) (fun y => ra.reads.length - y.1) (0, ra.reads) ⟨rfl, rfl, rfl, rfl, rfl, rfl, rfl, rfl, trivial⟩ ⟨Nat.zero_le _, rfl⟩ ?_
     rintro ⟨k, lo⟩ e ⟨hk, hlo⟩ ih3
     dsimp only at hk hlo ⊢
     refine C.go ?_
     refine C.rg [0, 1, 2, 3, 4] ?_
     refine C.mv rfl ?_
     refine C.fa rfl ?_
     refine C.ld rfl ?_
     refine C.lnR rfl ?_ (s := sra) (l := lo) (f := i32C)
     refine C.cmp rfl (fun h133 => ?_) (fun h133 => ?_)
     ·skip
      refine C.go ?_
      refine C.tru ?_
      refine C.rg [0, 1, 2, 3, 4] ?_
      refine C.fa rfl ?_
      refine C.ld rfl ?_
      refine C.mv rfl ?_
      refine C.iaR rfl ?_ (s := sra) (l := lo) (f := i32C) (j := k)
      refine C.stR0 (s := sra) (l := lo) (f := i32C) (j := k) 99 rfl ?_
      refine C.go ?_
      refine C.rg [0, 1, 2] ?_
      refine C.mv rfl ?_
      refine C.ar rfl ?_
      refine C.asg rfl ?_
      refine C.go ?_
      exact again ih3 (k + 1, lo.set k 99) ⟨by dsimp only; omega, by dsimp only; rw [List.length_set]; exact hlo⟩ (by dsimp only; omega)
     ·skip
      refine C.go ?_
      refine C.fls ?_
      refine C.rg [0, 1, 2, 3, 4] ?_
      refine C.mv rfl ?_
      refine C.mv rfl ?_
      refine C.bd rfl ?_
      refine C.iaR rfl ?_ (s := sl) (l := mx) (f := recC) (j := i)
      refine C.stRS (s := sl) (l := mx) (f := recC) (j := i) ⟨rec0, nilS, nilS⟩ rfl ?_
      refine C.go ?_
      refine C.rg [0, 1, 2] ?_
      refine C.mv rfl ?_
      refine C.ar rfl ?_
      refine C.asg rfl ?_
      refine C.go ?_
      refine again ih2 (i + 1, mx.set i ⟨rec0, nilS, nilS⟩) ⟨hi', by dsimp only; rw [List.length_set]; exact hmx, ?_⟩ (by dsimp only; omega)
      dsimp only
      rw [List.drop_set_of_lt (by omega)]
      have h1 := List.drop_eq_getElem_cons hix
      have h2 := List.drop_eq_getElem_cons hi'
      rw [hdr, h2] at h1
      exact (List.cons.inj h1).2.symm
   ·skip
    refine C.go ?_
    refine C.fls ?_
    refine C.rg [0, 1, 2] ?_
    refine C.mv rfl ?_
    refine C.ar rfl ?_
    refine C.asg rfl ?_
    refine C.go ?_
    exact again ih (x + 1) (by omega) (by omega)
  ·skip
   refine C.go ?_
   refine C.fls ?_
   refine C.rg [0] ?_
   refine C.asg rfl ?_
   refine C.go ?_
   refine shP.cls (b := bs) zs ?_ (lg := lg) (vl := vl) (lk := lk) (un := un) (tm := tm) (wt := wt) (ot := ot)
   refine At.reo (show Reo _ (shE (bs, zs) :: all ((w.sh.eraseIdx q').map shE) :: pairP b1 c.G.b bw :: cvP c :: pts bw (.cells #[sh.v, bg.v, tx.v, .bool w.stopped] 53 (0, 0)) :: slP ptrC 1 54 sh (w.sh.map (·.1)) :: slP msgC 7 137 bg w.bag :: slP txC 3 71 tx w.txs :: imm I :: F) by ((try simp only [List.cons_append, List.nil_append]); (repeat (first | with_reducible exact Reo.refl | with_reducible exact Reo.nil | with_reducible exact Fo.head | with_reducible apply Fo.tail | with_reducible apply Reo.cons | with_reducible apply Reo.drop)); done)) ?_
   rw [hp]
   refine wsh_back (w := w) hq2 (by (repeat (first | with_reducible exact ReF.nil | with_reducible exact Fo.head | with_reducible apply Fo.tail | with_reducible apply ReF.cons))) ?_
   refine wP.cls (b := bw) w ?_
   exact RunR.retQ hkd hret ⟨rfl, rfl, rfl⟩
end Go.Sl
end
section
set_option linter.unusedVariables false
namespace Go.Sl
open Go.Proofs Go.Conc
def vl26 (d : Int) (m : List (Int × Int)) : List Int := (List.range 26).map fun (k : Nat) => (getM m (97 + (k : Int))).getD d
theorem vl26_len (d : Int) (m : List (Int × Int)) : (vl26 d m).length = 26 := by simp [vl26]
theorem vl26_get (d : Int) (m : List (Int × Int)) {k : Nat} (h : k < 26) : (vl26 d m)[k]'(by rw [vl26_len]; exact h) = (getM m (97 + (k : Int))).getD d := by simp [vl26]
def vlG (d : Int) (m : List (Int × Int)) (k : Nat) : List Int := (vl26 d m).take k ++ List.replicate (26 - k) 0
theorem vlG_len (d : Int) (m : List (Int × Int)) {k : Nat} (h : k ≤ 26) : (vlG d m k).length = 26 := by simp [vlG, vl26_len]; omega
theorem vlG_set (d : Int) (m : List (Int × Int)) {k : Nat} (h : k < 26) : (vlG d m k).set k ((getM m (97 + (k : Int))).getD d) = vlG d m (k + 1) := by
 unfold vlG
 have hl : ((vl26 d m).take k).length = k := by rw [List.length_take, vl26_len]; omega
 rw [List.set_append_right _ _ (by omega), hl, Nat.sub_self, show 26 - k = (26 - (k + 1)) + 1 by omega, List.replicate_succ, List.set_cons_zero, List.take_succ_eq_append_getElem (by rw [vl26_len]; exact h), vl26_get d m h, List.append_assoc]; rfl
theorem vlG_all (d : Int) (m : List (Int × Int)) : vlG d m 26 = vl26 d m := by
 unfold vlG; rw [List.take_of_length_le (by rw [vl26_len]; exact Nat.le_refl _)]; simp
structure Over (l' lx : List (Int × Int)) (vis : List Int) : Prop where
 keys : lx.map (·.1) = l'.map (·.1)
 nd : (l'.map (·.1)).Nodup
 vn : vis.Nodup
 vs : ∀ k ∈ vis, k ∈ l'.map (·.1)
theorem nodup_len {X : Type} [DecidableEq X] : ∀ {a b : List X}, a.Nodup → (∀ x ∈ a, x ∈ b) → a.length ≤ b.length
 | [], _, _, _ => Nat.zero_le _
 | x :: a, b, h, hs => by
  have hx := hs x (List.mem_cons_self ..)
  have nd := List.nodup_cons.1 h
  have hp := List.perm_cons_erase hx
  have := nodup_len (b := b.erase x) nd.2 fun y hy => by
   have h1 := hp.mem_iff.1 (hs y (List.mem_cons_of_mem _ hy))
   rcases List.mem_cons.1 h1 with h2 | h2
   ·rw [h2] at hy; exact absurd hy nd.1
   ·exact h2
  rw [hp.length_eq]; simp only [List.length_cons]; omega
theorem Over.step {l' lx : List (Int × Int)} {vis : List Int} (h : Over l' lx vis) {k w : Int} (hm : (k, w) ∈ lx) (hn : k ∉ vis) (w' : Int) : Over l' (setM lx k w') (k :: vis) ∧ vis.length < l'.length ∧ (getM lx k).isSome = true := by
 have hnx : (lx.map (·.1)).Nodup := by rw [h.keys]; exact h.nd
 have hg := getM_of_mem hnx hm
 have hk : k ∈ l'.map (·.1) := by rw [← h.keys]; exact List.mem_map.2 ⟨_, hm, rfl⟩
 have hv : ∀ x ∈ k :: vis, x ∈ l'.map (·.1) := fun x hx => by
  rcases List.mem_cons.1 hx with rfl | hx
  ·exact hk
  ·exact h.vs x hx
 refine ⟨⟨by rw [setM_keys, hg]; exact h.keys, h.nd, List.nodup_cons.2 ⟨hn, h.vn⟩, hv⟩, ?_, by rw [hg]; rfl⟩
 have := nodup_len (List.nodup_cons.2 ⟨hn, h.vn⟩) hv
 simp only [List.length_cons, List.length_map] at this; omega
theorem pvals_spec {σ : Gh} {c : CV} {k : Int} (hn : c.hosts.length ≤ 4) : SpecG Tryz.prog barX 40 #[ptrV c.G.b, .int .i64 k] σ [cvP c]
  (fun v σ' As => σ' = σ ∧ ∃ (sl : SliceV) (l' : List (Int × Int)), v = .tuple #[sl.v, .int .i64 l'.length] ∧ (l'.map (·.1)).Nodup ∧ (match hostAt c.hosts k with | none => l' = [] | some v => l'.Perm (v.s.values.filter fun p => p.2 != 0)) ∧ As = [slP i32C 1 21 sl (vl26 0 l'), cvP c]) := by
 refine SpecG.of ?_
 intro Post os out kd F c' cs C hkd hret
 simp only [List.cons_append, List.nil_append]
 refine C.go ?_
 refine C.rg [0, 1] ?_
 refine C.asg rfl ?_
 refine C.asg rfl ?_
 refine C.go ?_
 refine C.rg [0, 1, 2, 3] ?_
 refine C.mv rfl ?_
 refine C.mv rfl ?_
 refine RunR.clN (cvalues_spec hn) ?_
 rintro v σ' As' ⟨rfl, b', l', rfl, hl', rfl⟩
 simp only [List.cons_append, List.nil_append]
 refine At.know (A := mapP .u8 int32V b' l') (by (repeat (first | with_reducible exact Fo.head | with_reducible apply Fo.tail))) mapP_nd fun hnd => ?_
 have hnz : ∀ q w, getM l' q = some w → w ≠ 0 := fun q w hg => by
  have hm := getM_some_mem hg
  cases hh : hostAt c.hosts k with
  | none => rw [hh] at hl'; rw [hl'] at hm; cases hm
  | some u => rw [hh] at hl'; have := List.mem_filter.1 (hl'.mem_iff.1 hm); simpa using this.2
 refine C.asg rfl ?_
 refine C.go ?_
 refine C.rg [0, 1] ?_
 refine C.ms (f := i32C) (a0 := 0) rfl rfl (fun b16 => ?_)
 refine C.asg rfl ?_
 refine C.go ?_
 refine At.own (l := vlG 0 l' 0) (f := i32C) (z := 1) ⟨some ⟨b16, 0, none⟩, 26, 26⟩ [] rfl rfl (Nat.le_refl _) .head ?_
 refine C.rg [0, 1, 2] ?_
 refine C.mv rfl ?_
 refine C.lnM rfl ?_ (g := int32V) (l := l')
 refine C.asg rfl ?_
 refine C.go ?_
 refine C.rg [0, 1, 2] ?_
 refine C.mv rfl ?_
 refine C.lnR rfl ?_ (s := ⟨some ⟨b16, 0, none⟩, 26, 26⟩) (l := vlG 0 l' 0) (f := i32C)
 refine C.mv rfl ?_
 refine C.go ?_
 refine C.loopR (X := Nat) (fun x => [(6, .map (some b')), (7, .slice (some ⟨b16, 0, none⟩) 26 26), (8, .int .i64 l'.length), (20, .int .i64 26), (21, .int .i64 x)]) (fun x => slP i32C 1 21 ⟨some ⟨b16, 0, none⟩, 26, 26⟩ (vlG 0 l' x) :: mapP .u8 int32V b' l' :: cvP c :: F) (fun x => x ≤ 26) (fun x => 26 - x) 0 ⟨rfl, rfl, rfl, rfl, rfl, trivial⟩ (Nat.zero_le _) ?_
 intro x e hx ih
 refine C.go ?_
 refine C.rg [0] ?_
 refine C.cmp rfl (fun h22 => ?_) (fun h22 => ?_)
 ·skip
  refine C.go ?_
  refine C.tru ?_
  have hx26 : x < 26 := by omega
  refine C.rg [0, 1] ?_
  refine C.mv rfl ?_
  refine C.asg rfl ?_
  refine C.go ?_
  refine C.rg [0, 1, 2, 3, 4, 5, 6, 7, 8, 9] ?_
  refine C.mv rfl ?_
  refine C.mv rfl ?_
  refine C.ar rfl ?_
  refine C.cv rfl ?_
  refine C.lkC (g := int32V) (l := l') (q := 97 + (x : Int)) rfl (fun w29 h29 => ?_) (fun h29 => ?_)
  ·skip
   refine C.mv rfl ?_
   refine C.ext rfl ?_
   refine C.ext rfl ?_
   refine C.asg rfl ?_
   refine C.asg rfl ?_
   refine C.go ?_
   refine C.rg [0, 1, 2, 3, 4] ?_
   refine C.mv rfl ?_
   refine C.mv rfl ?_
   refine C.mv rfl ?_
   refine C.cmpF rfl ?_ (hf := hnz _ _ h29)
   refine C.pk rfl ?_
   refine C.go ?_
   refine C.fls ?_
   refine C.rg [0, 1, 2, 3, 4] ?_
   refine C.mv rfl ?_
   refine C.mv rfl ?_
   refine C.mv rfl ?_
   refine C.iaR rfl ?_ (s := ⟨some ⟨b16, 0, none⟩, 26, 26⟩) (l := vlG 0 l' x) (f := i32C) (j := x) (hj := by rw [vlG_len 0 l' hx]; exact hx26)
   refine C.stR0 (s := ⟨some ⟨b16, 0, none⟩, 26, 26⟩) (l := vlG 0 l' x) (j := x) ((getM l' (97 + (x : Int))).getD 0) rfl ?_ (hj := by rw [vlG_len 0 l' hx]; exact hx26) (ha := by rw [h29]; rfl)
   refine C.go ?_
   refine C.rg [0, 1] ?_
   refine C.ar rfl ?_
   refine C.mv rfl ?_
   refine C.go ?_
   rw [vlG_set 0 l' hx26]
   exact again ih (x + 1) hx26 (by omega)
  ·skip
   refine C.mv rfl ?_
   refine C.ext rfl ?_
   refine C.ext rfl ?_
   refine C.asg rfl ?_
   refine C.asg rfl ?_
   refine C.go ?_
   refine C.rg [0, 1, 2, 3, 4] ?_
   refine C.mv rfl ?_
   refine C.mv rfl ?_
   refine C.no rfl ?_
   refine C.no rfl ?_
   refine C.pk rfl ?_
   refine C.go ?_
   refine C.fls ?_
   refine C.rg [0, 1, 2, 3, 4] ?_
   refine C.mv rfl ?_
   refine C.mv rfl ?_
   refine C.mv rfl ?_
   refine C.iaR rfl ?_ (s := ⟨some ⟨b16, 0, none⟩, 26, 26⟩) (l := vlG 0 l' x) (f := i32C) (j := x) (hj := by rw [vlG_len 0 l' hx]; exact hx26)
   refine C.stR0 (s := ⟨some ⟨b16, 0, none⟩, 26, 26⟩) (l := vlG 0 l' x) (j := x) ((getM l' (97 + (x : Int))).getD 0) rfl ?_ (hj := by rw [vlG_len 0 l' hx]; exact hx26) (ha := by rw [h29]; rfl)
   refine C.go ?_
   refine C.rg [0, 1] ?_
   refine C.ar rfl ?_
   refine C.mv rfl ?_
   refine C.go ?_
   rw [vlG_set 0 l' hx26]
   exact again ih (x + 1) hx26 (by omega)
 ·skip
  refine C.go ?_
  refine C.fls ?_
  refine C.rg [0, 1] ?_
  refine C.mv rfl ?_
  have hx26' : x = 26 := by omega
  subst hx26'
  rw [vlG_all]
  refine C.rn (g := int32V) (l := l') rfl (fun b43 => ?_)
  skip
  refine C.go ?_
  refine C.loopR (X := List (Int × Int) × List Int) (fun _ => [(6, .map (some b')), (7, .slice (some ⟨b16, 0, none⟩) 26 26), (8, .int .i64 l'.length), (43, .pointer (some ⟨b43, 0, none⟩))]) (fun y => itM .u8 int32V b' b43 y.1 y.2 :: slP i32C 1 21 ⟨some ⟨b16, 0, none⟩, 26, 26⟩ (vl26 0 l') :: cvP c :: F) (fun y => Over l' y.1 y.2) (fun y => l'.length - y.2.length) (l', []) ⟨rfl, rfl, rfl, rfl, trivial⟩ ⟨rfl, hnd, .nil, by simp⟩ ?_
  rintro ⟨lx, vis⟩ e hov ih
  dsimp only at hov ⊢
  refine C.go ?_
  refine C.rg [0, 1] ?_
  refine C.nx (g := int32V) (l := lx) rfl (fun k44 w44 m44 h44 => ?_) (fun h44 => ?_)
  ·skip
   refine C.ext rfl ?_
   refine C.go ?_
   refine C.tru ?_
   have hnx : (lx.map (·.1)).Nodup := by rw [hov.keys]; exact hov.nd
   have hg43 := getM_of_mem hnx m44
   obtain ⟨hov', hlt, hsm⟩ := hov.step m44 h44 7
   refine C.rg [0, 1, 2] ?_
   refine C.ent hg43 rfl ?_ (by (repeat (first | with_reducible exact Fo.head | with_reducible apply Fo.tail)))
   refine C.ext rfl ?_
   refine C.asg rfl ?_
   refine C.go ?_
   refine C.rg [0, 1, 2] ?_
   refine C.mv rfl ?_
   refine C.mv rfl ?_
   refine C.muI (w := 7) (l := lx) (q := k44) (g := int32V) hsm rfl ?_
   refine C.go ?_
   exact again ih (setM lx k44 7, k44 :: vis) hov' (by simp only [List.length_cons]; omega)
  ·skip
   refine C.ext rfl ?_
   refine C.go ?_
   refine C.fls ?_
   refine C.rg [0, 1, 2, 3] ?_
   refine C.mv rfl ?_
   refine C.mv rfl ?_
   refine C.asg rfl ?_
   refine C.asg rfl ?_
   refine C.go ?_
   exact RunR.retQ hkd hret ⟨rfl, ⟨some ⟨b16, 0, none⟩, 26, 26⟩, l', rfl, hnd, hl', rfl⟩
theorem plks_spec {σ : Gh} {c : CV} {k : Int} (hn : c.hosts.length ≤ 4) : SpecG Tryz.prog barX 78 #[ptrV c.G.b, .int .i64 k] σ [cvP c]
  (fun v σ' As => σ' = σ ∧ ∃ (sl : SliceV) (l' : List (Int × Int)), v = .tuple #[sl.v, .int .i64 l'.length] ∧ (l'.map (·.1)).Nodup ∧ (match hostAt c.hosts k with | none => l' = [] | some v => l'.Perm v.s.locks) ∧ As = [slP i64L 1 3 sl (vl26 (-1) l'), cvP c]) := by
 refine SpecG.of ?_
 intro Post os out kd F c' cs C hkd hret
 simp only [List.cons_append, List.nil_append]
 refine C.go ?_
 refine C.rg [0, 1] ?_
 refine C.asg rfl ?_
 refine C.asg rfl ?_
 refine C.go ?_
 refine C.rg [0, 1, 2, 3] ?_
 refine C.mv rfl ?_
 refine C.mv rfl ?_
 refine RunR.clN (clocks_spec hn) ?_
 rintro v σ' As' ⟨rfl, b', l', rfl, hl', rfl⟩
 simp only [List.cons_append, List.nil_append]
 refine At.know (A := mapP .u8 int64V b' l') (by (repeat (first | with_reducible exact Fo.head | with_reducible apply Fo.tail))) mapP_nd fun hnd => ?_
 refine C.asg rfl ?_
 refine C.go ?_
 refine C.rg [0, 1] ?_
 refine C.ms (f := i64L) (a0 := 0) rfl rfl (fun b16 => ?_)
 refine C.asg rfl ?_
 refine C.go ?_
 refine At.own (l := vlG (-1) l' 0) (f := i64L) (z := 1) ⟨some ⟨b16, 0, none⟩, 26, 26⟩ [] rfl rfl (Nat.le_refl _) .head ?_
 refine C.rg [0, 1, 2] ?_
 refine C.mv rfl ?_
 refine C.lnR rfl ?_ (s := ⟨some ⟨b16, 0, none⟩, 26, 26⟩) (l := vlG (-1) l' 0) (f := i64L)
 refine C.mv rfl ?_
 refine C.go ?_
 refine C.loopR (X := Nat) (fun x => [(6, .map (some b')), (7, .slice (some ⟨b16, 0, none⟩) 26 26), (18, .int .i64 26), (19, .int .i64 x)]) (fun x => slP i64L 1 3 ⟨some ⟨b16, 0, none⟩, 26, 26⟩ (vlG (-1) l' x) :: mapP .u8 int64V b' l' :: cvP c :: F) (fun x => x ≤ 26) (fun x => 26 - x) 0 ⟨rfl, rfl, rfl, rfl, trivial⟩ (Nat.zero_le _) ?_
 intro x e hx ih
 refine C.go ?_
 refine C.rg [0] ?_
 refine C.cmp rfl (fun h20 => ?_) (fun h20 => ?_)
 ·skip
  refine C.go ?_
  refine C.tru ?_
  have hx26 : x < 26 := by omega
  refine C.rg [0, 1] ?_
  refine C.mv rfl ?_
  refine C.asg rfl ?_
  refine C.go ?_
  refine C.rg [0, 1, 2, 3, 4, 5, 6, 7, 8, 9] ?_
  refine C.mv rfl ?_
  refine C.mv rfl ?_
  refine C.ar rfl ?_
  refine C.cv rfl ?_
  refine C.lkC (g := int64V) (l := l') (q := 97 + (x : Int)) rfl (fun w27 h27 => ?_) (fun h27 => ?_)
  ·skip
   refine C.mv rfl ?_
   refine C.ext rfl ?_
   refine C.ext rfl ?_
   refine C.asg rfl ?_
   refine C.asg rfl ?_
   refine C.go ?_
   refine C.rg [0, 1] ?_
   refine C.mv rfl ?_
   refine C.nt rfl ?_
   refine C.go ?_
   refine C.fls ?_
   refine C.rg [0, 1, 2, 3, 4] ?_
   refine C.mv rfl ?_
   refine C.mv rfl ?_
   refine C.mv rfl ?_
   refine C.iaR rfl ?_ (s := ⟨some ⟨b16, 0, none⟩, 26, 26⟩) (l := vlG (-1) l' x) (f := i64L) (j := x) (hj := by rw [vlG_len (-1) l' hx]; exact hx26)
   refine C.stR0 (s := ⟨some ⟨b16, 0, none⟩, 26, 26⟩) (l := vlG (-1) l' x) (j := x) ((getM l' (97 + (x : Int))).getD (-1)) rfl ?_ (hj := by rw [vlG_len (-1) l' hx]; exact hx26) (ha := by rw [h27]; rfl)
   refine C.go ?_
   refine C.rg [0, 1] ?_
   refine C.ar rfl ?_
   refine C.mv rfl ?_
   refine C.go ?_
   rw [vlG_set (-1) l' hx26]
   exact again ih (x + 1) hx26 (by omega)
  ·skip
   refine C.mv rfl ?_
   refine C.ext rfl ?_
   refine C.ext rfl ?_
   refine C.asg rfl ?_
   refine C.asg rfl ?_
   refine C.go ?_
   refine C.rg [0, 1] ?_
   refine C.mv rfl ?_
   refine C.nt rfl ?_
   refine C.go ?_
   refine C.tru ?_
   refine C.rg [0] ?_
   refine C.asg rfl ?_
   refine C.go ?_
   refine C.rg [0, 1, 2, 3, 4] ?_
   refine C.mv rfl ?_
   refine C.mv rfl ?_
   refine C.mv rfl ?_
   refine C.iaR rfl ?_ (s := ⟨some ⟨b16, 0, none⟩, 26, 26⟩) (l := vlG (-1) l' x) (f := i64L) (j := x) (hj := by rw [vlG_len (-1) l' hx]; exact hx26)
   refine C.stR0 (s := ⟨some ⟨b16, 0, none⟩, 26, 26⟩) (l := vlG (-1) l' x) (j := x) ((getM l' (97 + (x : Int))).getD (-1)) rfl ?_ (hj := by rw [vlG_len (-1) l' hx]; exact hx26) (ha := by rw [h27]; rfl)
   refine C.go ?_
   refine C.rg [0, 1] ?_
   refine C.ar rfl ?_
   refine C.mv rfl ?_
   refine C.go ?_
   rw [vlG_set (-1) l' hx26]
   exact again ih (x + 1) hx26 (by omega)
 ·skip
  refine C.go ?_
  refine C.fls ?_
  refine C.rg [0, 1, 2] ?_
  refine C.mv rfl ?_
  refine C.lnM rfl ?_ (g := int64V) (l := l')
  refine C.asg rfl ?_
  refine C.go ?_
  refine C.rg [0, 1] ?_
  refine C.mv rfl ?_
  have hx26' : x = 26 := by omega
  subst hx26'
  rw [vlG_all]
  refine C.rn (g := int64V) (l := l') rfl (fun b40 => ?_)
  skip
  refine C.go ?_
  refine C.loopR (X := List (Int × Int) × List Int) (fun _ => [(6, .map (some b')), (7, .slice (some ⟨b16, 0, none⟩) 26 26), (11, .int .i64 l'.length), (40, .pointer (some ⟨b40, 0, none⟩))]) (fun y => itM .u8 int64V b' b40 y.1 y.2 :: slP i64L 1 3 ⟨some ⟨b16, 0, none⟩, 26, 26⟩ (vl26 (-1) l') :: cvP c :: F) (fun y => Over l' y.1 y.2) (fun y => l'.length - y.2.length) (l', []) ⟨rfl, rfl, rfl, rfl, trivial⟩ ⟨rfl, hnd, .nil, by simp⟩ ?_
  rintro ⟨lx, vis⟩ e hov ih
  dsimp only at hov ⊢
  refine C.go ?_
  refine C.rg [0, 1] ?_
  refine C.nx (g := int64V) (l := lx) rfl (fun k41 w41 m41 h41 => ?_) (fun h41 => ?_)
  ·skip
   refine C.ext rfl ?_
   refine C.go ?_
   refine C.tru ?_
   have hnx : (lx.map (·.1)).Nodup := by rw [hov.keys]; exact hov.nd
   have hg40 := getM_of_mem hnx m41
   obtain ⟨hov', hlt, hsm⟩ := hov.step m41 h41 77
   refine C.rg [0, 1, 2] ?_
   refine C.ent hg40 rfl ?_ (by (repeat (first | with_reducible exact Fo.head | with_reducible apply Fo.tail)))
   refine C.ext rfl ?_
   refine C.asg rfl ?_
   refine C.go ?_
   refine C.rg [0, 1, 2] ?_
   refine C.mv rfl ?_
   refine C.mv rfl ?_
   refine C.muI (w := 77) (l := lx) (q := k41) (g := int64V) hsm rfl ?_
   refine C.go ?_
   exact again ih (setM lx k41 77, k41 :: vis) hov' (by simp only [List.length_cons]; omega)
  ·skip
   refine C.ext rfl ?_
   refine C.go ?_
   refine C.fls ?_
   refine C.rg [0, 1, 2, 3] ?_
   refine C.mv rfl ?_
   refine C.mv rfl ?_
   refine C.asg rfl ?_
   refine C.asg rfl ?_
   refine C.go ?_
   exact RunR.retQ hkd hret ⟨rfl, ⟨some ⟨b16, 0, none⟩, 26, 26⟩, l', rfl, hnd, hl', rfl⟩
end Go.Sl
end
section
set_option linter.unusedVariables false
namespace Go.Sl
open Go.Proofs Go.Conc
def cntN (l : List Int) : Nat := (l.filter (· != 0)).length
theorem cntN_snoc (l : List Int) (x : Int) : cntN (l ++ [x]) = if x = 0 then cntN l else cntN l + 1 := by
 unfold cntN
 rw [List.filter_append, List.length_append]
 split
 ·rename_i h; subst h; simp
 ·rename_i h; simp [h]
theorem cntN_le (l : List Int) : cntN l ≤ l.length := List.length_filter_le _ _
theorem vl26_nil (d : Int) : vl26 d [] = List.replicate 26 d := by
 apply List.ext_getElem
 ·simp [vl26]
 ·intro i h1 h2
  rw [List.getElem_replicate]
  exact vl26_get d [] (by rw [vl26_len] at h1; exact h1)
structure ValJ (P : List (Int × Int)) (V : List Int) : Prop where
 len : V.length = 26
 z : ∀ x ∈ V, -9223372036854775808 ≤ x ∧ x ≤ 9223372036854775807
 eq : ∀ l' : List (Int × Int), (l'.map (·.1)).Nodup → l'.Perm (P.filter fun p => p.2 != 0) → vl26 0 l' = V ∧ l'.length = cntN V
set_option maxHeartbeats 1000000 in
theorem lvalues_spec {σ : Gh} {c : CV} {I : HL} {w : WV} {bw : Nat} {s : Int} (hn : c.hosts.length ≤ 4) (hsl : c.hosts.length = w.sh.length) (he : ∀ (q : Nat) (h1 : q < c.hosts.length) (h2 : q < w.sh.length), ValJ (c.hosts[q]).s.values (w.sh[q]).2.vals) :
  SpecG Tryz.prog barX 123 #[.agg #[ptrV c.G.b, ptrV bw], .int .i64 s] σ [cvP c, wP bw w, imm I] (fun v σ' As => σ' = σ ∧ v = .bool true ∧ As = [cvP c, wP bw w, imm I]) := by
 refine SpecG.of ?_
 intro Post os out kd F c' cs C hkd hret
 simp only [List.cons_append, List.nil_append]
 cases hho : hostAt c.hosts s with
 | none =>
  have hout : s < 0 ∨ (c.hosts.length : Int) ≤ s := by
   unfold hostAt at hho
   split at hho
   ·exact .inl (by assumption)
   ·right; rw [List.getElem?_eq_none_iff] at hho; omega
  refine C.go ?_
  refine C.rg [0, 1] ?_
  refine C.bx rfl (fun b1 => ?_)
  refine C.asg rfl ?_
  refine C.go ?_
  refine C.rg [0, 1, 2, 3, 4, 5, 6, 7, 8] ?_
  refine C.fa rfl ?_
  refine C.ld rfl ?_
  refine C.mv rfl ?_
  refine RunR.clN (pvals_spec (k := s) hn) ?_
  rintro v σ' As' ⟨rfl, sl, l', rfl, hnd, hm, rfl⟩
  rw [hho] at hm
  obtain rfl : l' = [] := hm
  rw [vl26_nil]
  simp only [List.cons_append, List.nil_append]
  refine C.mv rfl ?_
  refine C.ext rfl ?_
  refine C.ext rfl ?_
  refine C.asg rfl ?_
  refine C.asg rfl ?_
  refine C.go ?_
  refine C.rg [0, 1, 2, 3, 4] ?_
  refine C.fa rfl ?_
  refine C.ld rfl ?_
  refine C.mv rfl ?_
  refine C.clR (Spec.less (barLe _) (wat_spec (w := w) (b := bw) (i := s))) ?_
  rintro v As' ⟨hv, rfl⟩
  simp only [List.cons_append, List.nil_append]
  have hv := hv.resolve_right (by rintro ⟨q, hq, rfl, _⟩; omega)
  obtain ⟨_, rfl⟩ := hv
  refine C.asg rfl ?_
  refine C.go ?_
  refine C.rg [0, 1, 2] ?_
  refine C.mv rfl ?_
  refine C.lnR rfl ?_ (s := sl) (l := List.replicate 26 (0 : Int)) (f := i32C)
  refine C.cmpF rfl ?_
  refine C.go ?_
  refine C.fls ?_
  refine C.rg [0] ?_
  refine C.asg rfl ?_
  refine C.go ?_
  refine C.rg [0] ?_
  refine C.asg rfl ?_
  refine C.go ?_
  refine C.loopR (X := Nat) (fun x => [(2, ptrV b1), (5, sl.v), (6, .int .i64 0), (7, .pointer none), (8, .int .i64 0), (9, .int .i64 x)]) (fun _ => slP i32C 1 21 sl (List.replicate 26 0) :: pairP b1 c.G.b bw :: cvP c :: wP bw w :: imm I :: F) (fun x => x ≤ 26) (fun x => 26 - x) 0 ⟨rfl, rfl, rfl, rfl, rfl, rfl, trivial⟩ (Nat.zero_le _) ?_
  intro x e hx ih
  refine C.go ?_
  refine C.rg [0, 1] ?_
  refine C.mv rfl ?_
  refine C.cmp rfl (fun h26 => ?_) (fun h26 => ?_)
  ·skip
   refine C.go ?_
   refine C.tru ?_
   refine C.rg [0] ?_
   refine C.asg rfl ?_
   refine C.go ?_
   refine C.rg [0, 1] ?_
   refine C.mv rfl ?_
   refine C.eqQ rfl ?_
   refine C.go ?_
   refine C.fls ?_
   refine C.rg [0, 1] ?_
   refine C.mv rfl ?_
   refine C.cmpF rfl ?_
   refine C.go ?_
   refine C.fls ?_
   refine C.rg [0, 1, 2, 3, 4, 5, 6] ?_
   refine C.mv rfl ?_
   refine C.mv rfl ?_
   refine C.iaR rfl ?_ (s := sl) (l := List.replicate 26 (0 : Int)) (f := i32C) (j := x) (hj := by rw [List.length_replicate]; omega)
   refine C.ldR0 rfl ?_ (s := sl) (l := List.replicate 26 (0 : Int)) (f := i32C) (j := x) (v := .int .i32 0) (hj := by rw [List.length_replicate]; omega) (hv := by rw [List.getElem_replicate]; rfl)
   refine C.cv rfl ?_
   refine C.mv rfl ?_
   refine C.cmpF rfl ?_
   refine C.go ?_
   refine C.fls ?_
   refine C.rg [0, 1, 2] ?_
   refine C.mv rfl ?_
   refine C.ar rfl ?_
   refine C.asg rfl ?_
   refine C.go ?_
   exact again ih (x + 1) (by omega) (by omega)
  ·skip
   refine C.go ?_
   refine C.fls ?_
   refine C.rg [0, 1, 2, 3] ?_
   refine C.mv rfl ?_
   refine C.mv rfl ?_
   refine C.cmpT rfl ?_
   refine C.asg rfl ?_
   refine C.go ?_
   exact RunR.retQ hkd hret ⟨rfl, rfl, rfl⟩
 | some v0 =>
  obtain ⟨q, rfl, hq, rfl⟩ := hostAt_some hho
  have hq2 : q < w.sh.length := by omega
  obtain ⟨hvl, hvz, hve⟩ := he q hq hq2
  refine C.go ?_
  refine C.rg [0, 1] ?_
  refine C.bx rfl (fun b1 => ?_)
  refine C.asg rfl ?_
  refine C.go ?_
  refine C.rg [0, 1, 2, 3, 4, 5, 6, 7, 8] ?_
  refine C.fa rfl ?_
  refine C.ld rfl ?_
  refine C.mv rfl ?_
  refine RunR.clN (pvals_spec (k := q) hn) ?_
  rintro v σ' As' ⟨rfl, sl, l', rfl, hnd, hm, rfl⟩
  rw [hho] at hm
  obtain ⟨hv1, hv2⟩ := hve l' hnd hm
  rw [hv1, hv2]
  simp only [List.cons_append, List.nil_append]
  refine C.mv rfl ?_
  refine C.ext rfl ?_
  refine C.ext rfl ?_
  refine C.asg rfl ?_
  refine C.asg rfl ?_
  refine C.go ?_
  refine C.rg [0, 1, 2, 3, 4] ?_
  refine C.fa rfl ?_
  refine C.ld rfl ?_
  refine C.mv rfl ?_
  refine C.clR (Spec.less (barLe _) (wat_spec (w := w) (b := bw) (i := q))) ?_
  rintro v As' ⟨hv, rfl⟩
  simp only [List.cons_append, List.nil_append]
  have hv := hv.resolve_left (by rintro ⟨h | h, _⟩ <;> omega)
  obtain ⟨q', hq', e1, rfl⟩ := hv
  obtain rfl : q' = q := by omega
  refine wP.opn (b := bw) (w := w) (h := fun sh bg tx => ?_)
  refine all_out (f := shE) (l := w.sh) hq2 (by (repeat (first | with_reducible exact Fo.head | with_reducible apply Fo.tail))) ?_
  obtain ⟨p, hp⟩ : ∃ p, p = w.sh[q'] := ⟨_, rfl⟩
  rw [← hp] at hvl hvz ⊢
  obtain ⟨bs, zs⟩ := p
  dsimp only [shE] at hvl hvz ⊢
  refine shP.opn (b := bs) (s := zs) (h := fun lg vl lk un tm wt ot => ?_)
  refine C.asg rfl ?_
  refine C.go ?_
  refine C.rg [0, 1, 2] ?_
  refine C.mv rfl ?_
  refine C.lnR rfl ?_ (s := sl) (l := zs.vals) (f := i32C)
  refine C.cmpF rfl ?_
  refine C.go ?_
  refine C.fls ?_
  refine C.rg [0] ?_
  refine C.asg rfl ?_
  refine C.go ?_
  refine C.rg [0] ?_
  refine C.asg rfl ?_
  refine C.go ?_
  refine C.loopR (X := Nat) (fun x => [(2, ptrV b1), (5, sl.v), (6, .int .i64 (cntN zs.vals)), (7, ptrV bs), (8, .int .i64 (cntN (zs.vals.take x))), (9, .int .i64 x)]) (fun _ => slP i32C 1 21 sl zs.vals :: pairP b1 c.G.b bw :: cvP c :: shO bs zs lg vl lk un tm wt ot (all ((w.sh.eraseIdx q').map shE) :: pts bw (.cells #[sh.v, bg.v, tx.v, .bool w.stopped] 53 (0, 0)) :: slP ptrC 1 54 sh (w.sh.map (·.1)) :: slP msgC 7 137 bg w.bag :: slP txC 3 71 tx w.txs :: imm I :: F)) (fun x => x ≤ 26) (fun x => 26 - x) 0 ⟨rfl, rfl, rfl, rfl, rfl, rfl, trivial⟩ (Nat.zero_le _) ?_
  intro x e hx ih
  have hct := cntN_le (zs.vals.take x)
  rw [List.length_take] at hct
  refine C.go ?_
  refine C.rg [0, 1] ?_
  refine C.mv rfl ?_
  refine C.cmp rfl (fun h26 => ?_) (fun h26 => ?_)
  ·skip
   refine C.go ?_
   refine C.tru ?_
   have hx' : x < zs.vals.length := by omega
   have hzx := hvz _ (List.getElem_mem hx')
   have hsn := cntN_snoc (zs.vals.take x) (zs.vals[x]'hx')
   rw [← List.take_succ_eq_append_getElem hx'] at hsn
   refine C.rg [0] ?_
   refine C.asg rfl ?_
   refine C.go ?_
   refine C.rg [0, 1] ?_
   refine C.mv rfl ?_
   refine C.eqQ rfl ?_
   refine C.go ?_
   refine C.tru ?_
   refine C.rg [0, 1, 2, 3, 4, 5, 6, 7] ?_
   refine C.mv rfl ?_
   refine C.nc rfl ?_
   refine C.fa rfl ?_
   refine C.ld rfl ?_
   refine C.mv rfl ?_
   refine C.iaR rfl ?_ (s := vl) (l := zs.vals) (f := i64L) (j := x)
   refine C.ldR0 rfl ?_ (s := vl) (l := zs.vals) (f := i64L) (j := x) (v := .int .i64 (zs.vals[x]'hx'))
   refine C.asg rfl ?_
   refine C.go ?_
   refine C.rg [0, 1] ?_
   refine C.mv rfl ?_
   refine C.cmp rfl (fun h39 => ?_) (fun h39 => ?_)
   ·skip
    refine C.go ?_
    refine C.tru ?_
    refine C.rg [0, 1, 2] ?_
    refine C.mv rfl ?_
    refine C.ar rfl ?_ (r := ((cntN (zs.vals.take x) + 1 : Nat) : Int))
    refine C.asg rfl ?_
    refine C.go ?_
    refine C.rg [0, 1, 2, 3, 4, 5, 6] ?_
    refine C.mv rfl ?_
    refine C.mv rfl ?_
    refine C.iaR rfl ?_ (s := sl) (l := zs.vals) (f := i32C) (j := x)
    refine C.ldR0 rfl ?_ (s := sl) (l := zs.vals) (f := i32C) (j := x) (v := .int .i32 (zs.vals[x]'hx'))
    refine C.cv rfl ?_ (p := zs.vals[x]'hx') (r := zs.vals[x]'hx') (k1 := .i32) (k2 := .i64) (hr := w64 hzx.1 hzx.2)
    refine C.mv rfl ?_
    refine C.cmpF rfl ?_ (hf := by intro h; exact h rfl)
    refine C.go ?_
    refine C.fls ?_
    refine C.rg [0, 1, 2] ?_
    refine C.mv rfl ?_
    refine C.ar rfl ?_
    refine C.asg rfl ?_
    refine C.go ?_
    rw [if_neg h39] at hsn
    rw [← hsn]
    exact again ih (x + 1) (by omega) (by omega)
   ·skip
    refine C.go ?_
    refine C.fls ?_
    refine C.rg [0, 1, 2, 3, 4, 5, 6] ?_
    refine C.mv rfl ?_
    refine C.mv rfl ?_
    refine C.iaR rfl ?_ (s := sl) (l := zs.vals) (f := i32C) (j := x)
    refine C.ldR0 rfl ?_ (s := sl) (l := zs.vals) (f := i32C) (j := x) (v := .int .i32 (zs.vals[x]'hx'))
    refine C.cv rfl ?_ (p := zs.vals[x]'hx') (r := zs.vals[x]'hx') (k1 := .i32) (k2 := .i64) (hr := w64 hzx.1 hzx.2)
    refine C.mv rfl ?_
    refine C.cmpF rfl ?_ (hf := by intro h; exact h rfl)
    refine C.go ?_
    refine C.fls ?_
    refine C.rg [0, 1, 2] ?_
    refine C.mv rfl ?_
    refine C.ar rfl ?_
    refine C.asg rfl ?_
    refine C.go ?_
    rw [if_pos (Classical.not_not.1 h39)] at hsn
    rw [← hsn]
    exact again ih (x + 1) (by omega) (by omega)
  ·skip
   refine C.go ?_
   refine C.fls ?_
   refine C.rg [0, 1, 2, 3] ?_
   refine C.mv rfl ?_
   refine C.mv rfl ?_
   obtain rfl : x = 26 := by omega
   rw [List.take_of_length_le (by omega)]
   refine C.cmpT rfl ?_ (hf := rfl)
   refine C.asg rfl ?_
   refine C.go ?_
   refine shP.cls (b := bs) zs ?_ (lg := lg) (vl := vl) (lk := lk) (un := un) (tm := tm) (wt := wt) (ot := ot)
   refine At.reo (show Reo _ (shE (bs, zs) :: all ((w.sh.eraseIdx q').map shE) :: cvP c :: pts bw (.cells #[sh.v, bg.v, tx.v, .bool w.stopped] 53 (0, 0)) :: slP ptrC 1 54 sh (w.sh.map (·.1)) :: slP msgC 7 137 bg w.bag :: slP txC 3 71 tx w.txs :: imm I :: F) by ((try simp only [List.cons_append, List.nil_append]); (repeat (first | with_reducible exact Reo.refl | with_reducible exact Reo.nil | with_reducible exact Fo.head | with_reducible apply Fo.tail | with_reducible apply Reo.cons | with_reducible apply Reo.drop)); done)) ?_
   rw [hp]
   refine wsh_back (w := w) hq2 (by (repeat (first | with_reducible exact ReF.nil | with_reducible exact Fo.head | with_reducible apply Fo.tail | with_reducible apply ReF.cons))) ?_
   refine wP.cls (b := bw) w ?_
   exact RunR.retQ hkd hret ⟨rfl, rfl, rfl⟩
structure LckJ (P : List (Int × Int)) (L : List HeldR) : Prop where
 rng : ∀ h ∈ L, 97 ≤ h.key ∧ h.key ≤ 122
 eq : ∀ l' : List (Int × Int), (l'.map (·.1)).Nodup → l'.Perm P → l'.length = L.length ∧ ∀ h ∈ L, (getM l' h.key).getD (-1) = h.tx
set_option maxHeartbeats 1000000 in
theorem llocks_spec {σ : Gh} {c : CV} {I : HL} {w : WV} {bw : Nat} {s : Int} (hn : c.hosts.length ≤ 4) (hsl : c.hosts.length = w.sh.length) (he : ∀ (q : Nat) (h1 : q < c.hosts.length) (h2 : q < w.sh.length), LckJ (c.hosts[q]).s.locks (w.sh[q]).2.locks) (hlk : ∀ p ∈ w.sh, p.2.locks.length < 2 ^ 40) :
  SpecG Tryz.prog barX 124 #[.agg #[ptrV c.G.b, ptrV bw], .int .i64 s] σ [cvP c, wP bw w, imm I] (fun v σ' As => σ' = σ ∧ v = .bool true ∧ As = [cvP c, wP bw w, imm I]) := by
 refine SpecG.of ?_
 intro Post os out kd F c' cs C hkd hret
 simp only [List.cons_append, List.nil_append]
 cases hho : hostAt c.hosts s with
 | none =>
  have hout : s < 0 ∨ (c.hosts.length : Int) ≤ s := by
   unfold hostAt at hho
   split at hho
   ·exact .inl (by assumption)
   ·right; rw [List.getElem?_eq_none_iff] at hho; omega
  refine C.go ?_
  refine C.rg [0, 1] ?_
  refine C.bx rfl (fun b1 => ?_)
  refine C.asg rfl ?_
  refine C.go ?_
  refine C.rg [0, 1, 2, 3, 4, 5, 6, 7, 8] ?_
  refine C.fa rfl ?_
  refine C.ld rfl ?_
  refine C.mv rfl ?_
  refine RunR.clN (plks_spec (k := s) hn) ?_
  rintro v σ' As' ⟨rfl, sl, l', rfl, hnd, hm, rfl⟩
  rw [hho] at hm
  obtain rfl : l' = [] := hm
  simp only [List.cons_append, List.nil_append]
  refine C.mv rfl ?_
  refine C.ext rfl ?_
  refine C.ext rfl ?_
  refine C.asg rfl ?_
  refine C.asg rfl ?_
  refine C.go ?_
  refine C.rg [0, 1, 2, 3, 4] ?_
  refine C.fa rfl ?_
  refine C.ld rfl ?_
  refine C.mv rfl ?_
  refine C.clR (Spec.less (barLe _) (wat_spec (w := w) (b := bw) (i := s))) ?_
  rintro v As' ⟨hv, rfl⟩
  simp only [List.cons_append, List.nil_append]
  have hv := hv.resolve_right (by rintro ⟨q, hq, rfl, _⟩; omega)
  obtain ⟨_, rfl⟩ := hv
  refine C.asg rfl ?_
  refine C.go ?_
  refine C.rg [0, 1, 2] ?_
  refine C.mv rfl ?_
  refine C.lnR rfl ?_ (s := sl) (l := vl26 (-1) []) (f := i64L)
  refine C.cmpF rfl ?_ (hf := by rw [vl26_len]; decide)
  refine C.go ?_
  refine C.fls ?_
  refine C.rg [0, 1] ?_
  refine C.mv rfl ?_
  refine C.eqQ rfl ?_
  refine C.go ?_
  refine C.tru ?_
  refine C.rg [0, 1, 2] ?_
  refine C.mv rfl ?_
  refine C.cmpT rfl ?_
  refine C.asg rfl ?_
  refine C.go ?_
  exact RunR.retQ hkd hret ⟨rfl, rfl, rfl⟩
 | some v0 =>
  obtain ⟨q, rfl, hq, rfl⟩ := hostAt_some hho
  have hq2 : q < w.sh.length := by omega
  obtain ⟨hrg, hle⟩ := he q hq hq2
  have hlk2 := hlk _ (List.getElem_mem hq2)
  refine C.go ?_
  refine C.rg [0, 1] ?_
  refine C.bx rfl (fun b1 => ?_)
  refine C.asg rfl ?_
  refine C.go ?_
  refine C.rg [0, 1, 2, 3, 4, 5, 6, 7, 8] ?_
  refine C.fa rfl ?_
  refine C.ld rfl ?_
  refine C.mv rfl ?_
  refine RunR.clN (plks_spec (k := q) hn) ?_
  rintro v σ' As' ⟨rfl, sl, l', rfl, hnd, hm, rfl⟩
  rw [hho] at hm
  obtain ⟨hv1, hv2⟩ := hle l' hnd hm
  rw [hv1]
  simp only [List.cons_append, List.nil_append]
  have hvl := vl26_len (-1) l'
  refine C.mv rfl ?_
  refine C.ext rfl ?_
  refine C.ext rfl ?_
  refine C.asg rfl ?_
  refine C.asg rfl ?_
  refine C.go ?_
  refine C.rg [0, 1, 2, 3, 4] ?_
  refine C.fa rfl ?_
  refine C.ld rfl ?_
  refine C.mv rfl ?_
  refine C.clR (Spec.less (barLe _) (wat_spec (w := w) (b := bw) (i := q))) ?_
  rintro v As' ⟨hv, rfl⟩
  simp only [List.cons_append, List.nil_append]
  have hv := hv.resolve_left (by rintro ⟨h | h, _⟩ <;> omega)
  obtain ⟨q', hq', e1, rfl⟩ := hv
  obtain rfl : q' = q := by omega
  refine wP.opn (b := bw) (w := w) (h := fun sh bg tx => ?_)
  refine all_out (f := shE) (l := w.sh) hq2 (by (repeat (first | with_reducible exact Fo.head | with_reducible apply Fo.tail))) ?_
  obtain ⟨p, hp⟩ : ∃ p, p = w.sh[q'] := ⟨_, rfl⟩
  rw [← hp] at hrg hv2 hlk2 ⊢
  obtain ⟨bs, zs⟩ := p
  dsimp only [shE] at hrg hv2 hlk2 ⊢
  refine shP.opn (b := bs) (s := zs) (h := fun lg vl lk un tm wt ot => ?_)
  refine C.asg rfl ?_
  refine C.go ?_
  refine C.rg [0, 1, 2] ?_
  refine C.mv rfl ?_
  refine C.lnR rfl ?_ (s := sl) (l := vl26 (-1) l') (f := i64L)
  refine C.cmpF rfl ?_
  refine C.go ?_
  refine C.fls ?_
  refine C.rg [0, 1] ?_
  refine C.mv rfl ?_
  refine C.eqQ rfl ?_
  refine C.go ?_
  refine C.fls ?_
  refine C.rg [0] ?_
  refine C.asg rfl ?_
  refine C.go ?_
  refine C.loopR (X := Nat) (fun x => [(2, ptrV b1), (5, sl.v), (6, .int .i64 zs.locks.length), (7, ptrV bs), (8, .int .i64 x)]) (fun _ => slP i64L 1 3 sl (vl26 (-1) l') :: pairP b1 c.G.b bw :: cvP c :: shO bs zs lg vl lk un tm wt ot (all ((w.sh.eraseIdx q').map shE) :: pts bw (.cells #[sh.v, bg.v, tx.v, .bool w.stopped] 53 (0, 0)) :: slP ptrC 1 54 sh (w.sh.map (·.1)) :: slP msgC 7 137 bg w.bag :: slP txC 3 71 tx w.txs :: imm I :: F)) (fun x => x ≤ zs.locks.length) (fun x => zs.locks.length - x) 0 ⟨rfl, rfl, rfl, rfl, rfl, trivial⟩ (Nat.zero_le _) ?_
  intro x e hx ih
  refine C.go ?_
  refine C.rg [0, 1, 2, 3, 4, 5, 6] ?_
  refine C.mv rfl ?_
  refine C.mv rfl ?_
  refine C.nc rfl ?_
  refine C.fa rfl ?_
  refine C.ld rfl ?_
  refine C.lnR rfl ?_ (s := lk) (l := zs.locks) (f := heldC)
  refine C.cmp rfl (fun h33 => ?_) (fun h33 => ?_)
  ·skip
   refine C.go ?_
   refine C.tru ?_
   have hx' : x < zs.locks.length := by omega
   obtain ⟨hkx, hkh⟩ := hrg _ (List.getElem_mem hx')
   obtain ⟨j, hj⟩ := Int.eq_ofNat_of_zero_le (show 0 ≤ (zs.locks[x]'hx').key - 97 by omega)
   have hj26 : j < (vl26 (-1) l').length := by omega
   have hvj : (i64L ((vl26 (-1) l')[j]'hj26))[0]? = some (.int .i64 (zs.locks[x]'hx').tx) := by
    rw [vl26_get (-1) l' (by omega), show (97 : Int) + (j : Int) = (zs.locks[x]'hx').key by omega, hv2 _ (List.getElem_mem hx')]; rfl
   refine C.drawn [(36, 0), (37, 1), (38, 2), (39, 3), (40, 4), (41, 5), (42, 6), (43, 7), (44, 8), (45, 9), (46, 10), (47, 11), (48, 12), (49, 13), (50, 14), (51, 15), (52, 16), (53, 17), (54, 18), (55, 19), (56, 20)] [0, 1, 2, 3, 4, 5, 6, 7, 8, 9, 10, 11, 12, 13, 14, 15, 16, 17, 18, 19, 20] [] 0 ?_
   refine Dr.pu ⟨_, rfl, rfl⟩ (fun _ _ _ h => C.mv rfl h) ?_
   refine Dr.pu ⟨_, rfl, rfl⟩ (fun _ _ _ h => C.mv rfl h) ?_
   refine Dr.pu ⟨_, rfl, rfl⟩ (fun _ _ _ h => C.nc rfl h) ?_
   refine Dr.pu ⟨_, rfl, rfl⟩ (fun _ _ _ h => C.fa rfl h) ?_
   refine Dr.ld ⟨_, rfl, rfl⟩ (fun _ hE _ _ h => C.ld rfl h) ?_
   refine Dr.pu ⟨_, rfl, rfl⟩ (fun _ _ _ h => C.mv rfl h) ?_
   refine Dr.ld ⟨_, rfl, rfl⟩ (fun _ hE _ _ h => C.iaR rfl h (s := lk) (l := zs.locks) (f := heldC) (j := x)) ?_
   refine Dr.pu ⟨_, rfl, rfl⟩ (fun _ _ _ h => C.fa rfl h) ?_
   refine Dr.ld (v := .int .i64 (zs.locks[x]'hx').key) ⟨_, rfl, rfl⟩ (fun _ hE _ _ h => C.ldR rfl h (s := lk) (l := zs.locks) (f := heldC) (j := x) (o := 0)) ?_
   refine Dr.pu (v := .int .i64 (j : Int)) ⟨_, rfl, rfl⟩ (fun _ _ _ h => C.ar rfl h (p := (zs.locks[x]'hx').key) (q := 97) (r := (j : Int)) (ha := congrArg some (by omega))) ?_
   refine Dr.ld ⟨_, rfl, rfl⟩ (fun _ hE _ _ h => C.iaR rfl h (s := sl) (l := vl26 (-1) l') (f := i64L) (j := j) (hj := hj26)) ?_
   refine Dr.ld (v := .int .i64 (zs.locks[x]'hx').tx) ⟨_, rfl, rfl⟩ (fun _ hE _ _ h => C.ldR0 rfl h (s := sl) (l := vl26 (-1) l') (f := i64L) (j := j) (hj := hj26) (hv := hvj)) ?_
   refine Dr.pu ⟨_, rfl, rfl⟩ (fun _ _ _ h => C.mv rfl h) ?_
   refine Dr.pu ⟨_, rfl, rfl⟩ (fun _ _ _ h => C.nc rfl h) ?_
   refine Dr.pu ⟨_, rfl, rfl⟩ (fun _ _ _ h => C.fa rfl h) ?_
   refine Dr.ld ⟨_, rfl, rfl⟩ (fun _ hE _ _ h => C.ld rfl h) ?_
   refine Dr.pu ⟨_, rfl, rfl⟩ (fun _ _ _ h => C.mv rfl h) ?_
   refine Dr.ld ⟨_, rfl, rfl⟩ (fun _ hE _ _ h => C.iaR rfl h (s := lk) (l := zs.locks) (f := heldC) (j := x)) ?_
   refine Dr.pu ⟨_, rfl, rfl⟩ (fun _ _ _ h => C.fa rfl h) ?_
   refine Dr.ld (v := .int .i64 (zs.locks[x]'hx').tx) ⟨_, rfl, rfl⟩ (fun _ hE _ _ h => C.ldR rfl h (s := lk) (l := zs.locks) (f := heldC) (j := x) (o := 1)) ?_
   refine Dr.pu ⟨_, rfl, rfl⟩ (fun _ _ _ h => C.cmpF rfl h (hf := by intro h; exact h rfl)) ?_
   refine Dr.chain rfl ?_
   refine Ch.fin ?_
   refine C.go ?_
   refine C.fls ?_
   refine C.rg [0, 1, 2] ?_
   refine C.mv rfl ?_
   refine C.ar rfl ?_
   refine C.asg rfl ?_
   refine C.go ?_
   exact again ih (x + 1) (by omega) (by omega)
  ·skip
   refine C.go ?_
   refine C.fls ?_
   refine C.rg [0, 1, 2, 3, 4, 5, 6, 7] ?_
   refine C.mv rfl ?_
   refine C.mv rfl ?_
   refine C.nc rfl ?_
   refine C.fa rfl ?_
   refine C.ld rfl ?_
   refine C.lnR rfl ?_ (s := lk) (l := zs.locks) (f := heldC)
   refine C.cmpT rfl ?_ (hf := rfl)
   refine C.asg rfl ?_
   refine C.go ?_
   refine shP.cls (b := bs) zs ?_ (lg := lg) (vl := vl) (lk := lk) (un := un) (tm := tm) (wt := wt) (ot := ot)
   refine At.reo (show Reo _ (shE (bs, zs) :: all ((w.sh.eraseIdx q').map shE) :: cvP c :: pts bw (.cells #[sh.v, bg.v, tx.v, .bool w.stopped] 53 (0, 0)) :: slP ptrC 1 54 sh (w.sh.map (·.1)) :: slP msgC 7 137 bg w.bag :: slP txC 3 71 tx w.txs :: imm I :: F) by ((try simp only [List.cons_append, List.nil_append]); (repeat (first | with_reducible exact Reo.refl | with_reducible exact Reo.nil | with_reducible exact Fo.head | with_reducible apply Fo.tail | with_reducible apply Reo.cons | with_reducible apply Reo.drop)); done)) ?_
   rw [hp]
   refine wsh_back (w := w) hq2 (by (repeat (first | with_reducible exact ReF.nil | with_reducible exact Fo.head | with_reducible apply Fo.tail | with_reducible apply ReF.cons))) ?_
   refine wP.cls (b := bw) w ?_
   exact RunR.retQ hkd hret ⟨rfl, rfl, rfl⟩
end Go.Sl
end
section
set_option linter.unusedVariables false
namespace Go.Sl
open Go.Proofs Go.Conc
def I64 (x : Int) : Prop := -9223372036854775808 ≤ x ∧ x ≤ 9223372036854775807
theorem res_eq {c : List TxV} {w : List TxV} {tx n st : Int} {rd rd' : List Int} (he : c.map (·.toTxR) = w.map (·.toTxR)) (h1 : match txAt c tx with | none => n = 0 ∧ rd' = [] | some t => n = t.state ∧ rd' = t.reads)
  (h2 : (st, rd) = (if tx < 0 ∨ (w.length : Int) ≤ tx then (0, []) else match (w.map (·.toTxR))[tx.toNat]? with | some t => (t.state, t.reads) | none => (0, []))) : n = st ∧ rd' = rd := by
 have hl : c.length = w.length := by have := congrArg List.length he; simpa using this
 unfold txAt at h1
 by_cases h0 : tx < 0
 ·rw [if_pos h0] at h1
  rw [if_pos (.inl h0)] at h2
  obtain ⟨rfl, rfl⟩ := h1
  obtain ⟨rfl, rfl⟩ := Prod.mk.inj h2
  exact ⟨rfl, rfl⟩
 ·rw [if_neg h0] at h1
  by_cases h3 : (w.length : Int) ≤ tx
  ·rw [List.getElem?_eq_none (by omega)] at h1
   rw [if_pos (.inr h3)] at h2
   obtain ⟨rfl, rfl⟩ := h1
   obtain ⟨rfl, rfl⟩ := Prod.mk.inj h2
   exact ⟨rfl, rfl⟩
  ·rw [if_neg (by omega), ← he, List.getElem?_map, List.getElem?_eq_getElem (by omega)] at h2
   rw [List.getElem?_eq_getElem (by omega)] at h1
   obtain ⟨rfl, rfl⟩ := h1
   obtain ⟨rfl, rfl⟩ := Prod.mk.inj h2
   exact ⟨rfl, rfl⟩
set_option maxHeartbeats 1000000 in
theorem lresult_spec {σ : Gh} {c : CV} {I : HL} {w : WV} {bw : Nat} {tx : Int} (hJ : CvJ I c) (hW : WI I w) (hl : c.txs.length ≤ 60) (he : c.txs.map (·.toTxR) = w.txs.map (·.toTxR)) (hz : ∀ t ∈ w.txs, ∀ x ∈ t.reads, I64 x) :
  SpecG Tryz.prog barX 121 #[.agg #[ptrV c.G.b, ptrV bw], .int .i64 tx] σ [cvP c, wP bw w, imm I] (fun v σ' As => σ' = σ ∧ v = .bool true ∧ As = [cvP c, wP bw w, imm I]) := by
 have hlw : w.txs.length = c.txs.length := by have := congrArg List.length he; simpa using this.symm
 refine SpecG.of ?_
 intro Post os out kd F c' cs C hkd hret
 simp only [List.cons_append, List.nil_append]
 refine C.go ?_
 refine C.rg [0, 1] ?_
 refine C.bx rfl (fun b1 => ?_)
 refine C.asg rfl ?_
 refine C.go ?_
 refine C.rg [0, 1, 2, 3, 4, 5, 6, 7, 8] ?_
 refine C.fa rfl ?_
 refine C.ld rfl ?_
 refine C.mv rfl ?_
 refine C.clR (Spec.less (barLe _) (wresult_spec (i := tx) hW (by omega))) ?_
 rintro v As' ⟨st, ro, rd, rfl, hro, hst, rfl⟩
 simp only [List.cons_append, List.nil_append]
 have hrd : (∀ x ∈ rd, I64 x) := by
  by_cases h : tx < 0 ∨ (w.txs.length : Int) ≤ tx
  ·rw [if_pos h] at hst
   obtain ⟨rfl, rfl⟩ := Prod.mk.inj hst
   simp
  ·have hq : tx.toNat < w.txs.length := by omega
   have : w.abs.txs[tx.toNat]? = some (w.txs[tx.toNat]).toTxR := by simp [WV.abs, hq]
   rw [if_neg h, this] at hst
   obtain ⟨rfl, rfl⟩ := Prod.mk.inj hst
   exact hz _ (List.getElem_mem hq)
 refine C.mv rfl ?_
 refine C.ext rfl ?_
 refine C.ext rfl ?_
 refine C.asg rfl ?_
 refine C.asg rfl ?_
 refine C.go ?_
 refine C.rg [0] ?_
 refine C.asg rfl ?_
 refine C.go ?_
 refine C.loopR (X := Nat) (fun x => [(1, .int .i64 tx), (2, ptrV b1), (5, .int .i64 st), (6, ro.v), (7, .int .i64 x)]) (fun _ => pairP b1 c.G.b bw :: cvP c :: wP bw w :: imm I :: F) (fun x => x ≤ 2) (fun x => 2 - x) 0 ⟨rfl, rfl, rfl, rfl, rfl, trivial⟩ (Nat.zero_le _) ?_
 intro x e hx ih
 refine C.go ?_
 refine C.rg [0, 1] ?_
 refine C.mv rfl ?_
 refine C.cmp rfl (fun h20 => ?_) (fun h20 => ?_)
 ·skip
  refine C.go ?_
  refine C.tru ?_
  refine C.rg [0, 1, 2, 3, 4, 5, 6, 7, 8] ?_
  refine C.fa rfl ?_
  refine C.ld rfl ?_
  refine C.mv rfl ?_
  refine RunR.clN (cresult_spec (k := tx) hJ hl) ?_
  rintro v σ' As' ⟨rfl, sl, n, rd', rfl, hm, rfl⟩
  have hrl : rd'.length < 2 ^ 20 := by
   cases h : txAt c.txs tx with
   | none => rw [h] at hm; rw [hm.2]; decide
   | some t =>
    rw [h] at hm; rw [hm.2]
    unfold txAt at h
    split at h
    ·cases h
    ·exact (hJ.txs t (List.mem_of_getElem? h)).z
  obtain ⟨rfl, rfl⟩ := res_eq he hm hst
  simp only [List.cons_append, List.nil_append]
  refine C.mv rfl ?_
  refine C.ext rfl ?_
  refine C.ext rfl ?_
  refine C.asg rfl ?_
  refine C.asg rfl ?_
  refine C.go ?_
  refine C.rg [0, 1, 2, 3] ?_
  refine C.mv rfl ?_
  refine C.mv rfl ?_
  refine C.clR (Spec.less (barLe _) (sameReads_spec (so := sl) (ro := ro) (l := rd') rfl hro hrd (by omega))) ?_
  rintro v As' ⟨rfl, rfl⟩
  simp only [List.cons_append, List.nil_append]
  refine C.asg rfl ?_
  refine C.go ?_
  refine C.rg [0, 1, 2, 3, 4, 5, 6] ?_
  refine C.mv rfl ?_
  refine C.mv rfl ?_
  refine C.cmpF rfl ?_ (hf := by intro h; exact h rfl)
  refine C.mv rfl ?_
  refine C.mv rfl ?_
  refine C.nt rfl ?_
  refine C.pk rfl ?_
  refine C.go ?_
  refine C.fls ?_
  refine C.rg [0] ?_
  refine C.asg rfl ?_
  refine C.go ?_
  refine C.loopR (X := Nat × List Int) (fun y => [(1, .int .i64 tx), (2, ptrV b1), (5, .int .i64 n), (6, ro.v), (7, .int .i64 x), (9, sl.v), (11, .int .i64 y.1)]) (fun y => slP i32C 1 21 sl y.2 :: pairP b1 c.G.b bw :: cvP c :: wP bw w :: imm I :: F) (fun y => y.1 ≤ rd'.length ∧ y.2.length = rd'.length) (fun y => rd'.length - y.1) (0, rd') ⟨rfl, rfl, rfl, rfl, rfl, rfl, rfl, trivial⟩ ⟨Nat.zero_le _, rfl⟩ ?_
  rintro ⟨k, lo⟩ e ⟨hk, hlo⟩ ih3
  dsimp only at hk hlo ⊢
  refine C.go ?_
  refine C.rg [0, 1, 2, 3] ?_
  refine C.mv rfl ?_
  refine C.mv rfl ?_
  refine C.lnR rfl ?_ (s := sl) (l := lo) (f := i32C)
  refine C.cmp rfl (fun h43 => ?_) (fun h43 => ?_)
  ·skip
   refine C.go ?_
   refine C.tru ?_
   refine C.rg [0, 1, 2, 3] ?_
   refine C.mv rfl ?_
   refine C.mv rfl ?_
   refine C.iaR rfl ?_ (s := sl) (l := lo) (f := i32C) (j := k)
   refine C.stR0 (s := sl) (l := lo) (f := i32C) (j := k) 99 rfl ?_
   refine C.go ?_
   refine C.rg [0, 1, 2] ?_
   refine C.mv rfl ?_
   refine C.ar rfl ?_
   refine C.asg rfl ?_
   refine C.go ?_
   exact again ih3 (k + 1, lo.set k 99) ⟨by dsimp only; omega, by dsimp only; rw [List.length_set]; exact hlo⟩ (by dsimp only; omega)
  ·skip
   refine C.go ?_
   refine C.fls ?_
   refine C.rg [0, 1, 2] ?_
   refine C.mv rfl ?_
   refine C.ar rfl ?_
   refine C.asg rfl ?_
   refine C.go ?_
   exact again ih (x + 1) (by omega) (by omega)
 ·skip
  refine C.go ?_
  refine C.fls ?_
  refine C.rg [0] ?_
  refine C.asg rfl ?_
  refine C.go ?_
  exact RunR.retQ hkd hret ⟨rfl, rfl, rfl⟩
structure AskJ (I : HL) (c : CV) (w : WV) : Prop where
 n : c.hosts.length ≤ 4
 J : CvJ I c
 W : WI I w
 len : c.hosts.length = w.sh.length
 bag : c.bag.map (·.toMsgR) = w.bag.map (·.toMsgR)
 bO : ∀ m ∈ c.bag, m.ops.length < 2 ^ 20
 bl : c.bag.length < 2 ^ 30
 bz : ∀ m ∈ w.bag, MsgZ m.toMsgR
 txs : c.txs.map (·.toTxR) = w.txs.map (·.toTxR)
 tl : c.txs.length ≤ 60
 tz : ∀ t ∈ w.txs, ∀ x ∈ t.reads, I64 x
 log : ∀ v ∈ c.hosts, v.s.log.length < 2 ^ 30
 lq : ∀ (q : Nat) (h1 : q < c.hosts.length) (h2 : q < w.sh.length), (c.hosts[q]).s.log.map (·.abs.recd) = (w.sh[q]).2.log.map (·.toRecR) ∧ (c.hosts[q]).s.good = (w.sh[q]).2.good
 lz : ∀ p ∈ w.sh, ∀ r ∈ p.2.log, RecZ r.toRecR
 vq : ∀ (q : Nat) (h1 : q < c.hosts.length) (h2 : q < w.sh.length), ValJ (c.hosts[q]).s.values (w.sh[q]).2.vals
 kq : ∀ (q : Nat) (h1 : q < c.hosts.length) (h2 : q < w.sh.length), LckJ (c.hosts[q]).s.locks (w.sh[q]).2.locks
 kl : ∀ p ∈ w.sh, p.2.locks.length < 2 ^ 40
 up : ∀ (q : Nat) (h1 : q < c.hosts.length) (h2 : q < w.sh.length), (c.hosts[q]).s.up = (w.sh[q]).2.up
abbrev opA (k cl a b c : Int) (so : Value) : Value := .agg #[.int .i64 k, .int .i64 cl, .int .i64 a, .int .i64 b, .int .i64 c, so]
set_option maxHeartbeats 1000000 in
theorem lasked_spec {σ : Gh} {c : CV} {I : HL} {w : WV} {bw : Nat} {k cl a b z : Int} {so : Value} (hA : AskJ I c w) (hk : 4 ≤ k ∧ k ≤ 9) (hso : oneCell so = true) :
  SpecG Tryz.prog barX 75 #[.agg #[ptrV c.G.b, ptrV bw], opA k cl a b z so] σ [cvP c, wP bw w, imm I] (fun v σ' As => σ' = σ ∧ v = .bool true ∧ As = [cvP c, wP bw w, imm I]) := by
 refine SpecG.of ?_
 intro Post os out kd F c' cs C hkd hret
 simp only [List.cons_append, List.nil_append]
 refine C.go ?_
 refine C.rg [0, 1, 2] ?_
 refine C.bx rfl (fun b1 => ?_)
 refine C.bx rfl (fun b2 => ?_)
 refine C.asg rfl ?_
 refine C.go ?_
 refine C.rg [0, 1] ?_
 refine C.fa rfl ?_
 refine C.ld rfl ?_
 refine C.go ?_
 refine C.rg [0, 1] ?_
 refine C.cmp rfl (fun h10 => ?_) (fun h10 => ?_)
 ·skip
  refine C.asg rfl ?_
  refine C.go ?_
  refine C.tru ?_
  refine C.rg [0, 1, 2] ?_
  refine C.ldS rfl ?_
  refine RunR.clN (lbag_spec hA.J hA.W hA.bO hA.bl hA.bag hA.bz (fun m hm => (hA.J.bag m hm).z)) ?_
  rintro v σ' As' ⟨rfl, rfl, rfl⟩
  simp only [List.cons_append, List.nil_append]
  refine C.asg rfl ?_
  refine C.go ?_
  exact RunR.retQ hkd hret ⟨rfl, rfl, rfl⟩
 ·skip
  refine C.asg rfl ?_
  refine C.go ?_
  refine C.fls ?_
  refine C.rg [0, 1] ?_
  refine C.cmp rfl (fun h14 => ?_) (fun h14 => ?_)
  ·skip
   refine C.asg rfl ?_
   refine C.go ?_
   refine C.tru ?_
   refine C.rg [0, 1, 2, 3, 4] ?_
   refine C.ldS rfl ?_
   refine C.fa rfl ?_
   refine C.ld rfl ?_
   refine RunR.clN (lresult_spec hA.J hA.W hA.tl hA.txs hA.tz) ?_
   rintro v σ' As' ⟨rfl, rfl, rfl⟩
   simp only [List.cons_append, List.nil_append]
   refine C.asg rfl ?_
   refine C.go ?_
   exact RunR.retQ hkd hret ⟨rfl, rfl, rfl⟩
  ·skip
   refine C.asg rfl ?_
   refine C.go ?_
   refine C.fls ?_
   refine C.rg [0, 1] ?_
   refine C.cmp rfl (fun h20 => ?_) (fun h20 => ?_)
   ·skip
    refine C.asg rfl ?_
    refine C.go ?_
    refine C.tru ?_
    refine C.rg [0, 1, 2, 3, 4, 5] ?_
    refine C.fa rfl ?_
    refine C.ld rfl ?_
    refine C.fa rfl ?_
    refine C.ld rfl ?_
    refine C.clR (Spec.less (barLe _) (wat_spec (w := w) (b := bw) (i := b))) ?_
    rintro v As' ⟨hv, rfl⟩
    simp only [List.cons_append, List.nil_append]
    rcases hv with ⟨hout, rfl⟩ | ⟨q, hq2, rfl, rfl⟩
    ·skip
     refine C.asg rfl ?_
     refine C.go ?_
     refine C.rg [0, 1, 2, 3, 4, 5] ?_
     refine C.fa rfl ?_
     refine C.ld rfl ?_
     refine C.fa rfl ?_
     refine C.ld rfl ?_
     have hho : hostAt c.hosts b = none := by
      unfold hostAt
      split
      ·rfl
      ·rw [List.getElem?_eq_none_iff]; have := hA.len; omega
     refine RunR.clN (cup_spec (k := b) hA.n) ?_
     rintro v σ' As' ⟨rfl, rfl, rfl⟩
     rw [hho]
     simp only [List.cons_append, List.nil_append, Option.map_none, Option.getD_none]
     refine C.asg rfl ?_
     refine C.go ?_
     refine C.rg [0, 1, 2, 3, 4, 5, 6, 7, 8, 9, 10] ?_
     refine C.mv rfl ?_
     refine C.mv rfl ?_
     refine C.eqQ rfl ?_
     refine C.mv rfl ?_
     refine C.no rfl ?_
     refine C.no rfl ?_
     refine C.no rfl ?_
     refine C.no rfl ?_
     refine C.pk rfl ?_
     refine C.eqBB Tryz.underlying4 rfl ?_
     refine C.asg rfl ?_
     refine C.go ?_
     exact RunR.retQ hkd hret ⟨rfl, rfl, rfl⟩
    ·skip
     refine C.asg rfl ?_
     refine C.go ?_
     refine C.rg [0, 1, 2, 3, 4, 5] ?_
     refine C.fa rfl ?_
     refine C.ld rfl ?_
     refine C.fa rfl ?_
     refine C.ld rfl ?_
     have hq : q < c.hosts.length := by have := hA.len; omega
     have hup := hA.up q hq hq2
     refine RunR.clN (cup_spec (k := (q : Int)) hA.n) ?_
     rintro v σ' As' ⟨rfl, rfl, rfl⟩
     rw [hostAt_lt hq]
     simp only [List.cons_append, List.nil_append, Option.map_some, Option.getD_some]
     rw [hup]
     refine wP.opn (b := bw) (w := w) (h := fun sh bg tx => ?_)
     refine all_out (f := shE) (l := w.sh) hq2 (by (repeat (first | with_reducible exact Fo.head | with_reducible apply Fo.tail))) ?_
     obtain ⟨p, hp⟩ : ∃ p, p = w.sh[q] := ⟨_, rfl⟩
     rw [← hp]
     obtain ⟨bs, zs⟩ := p
     dsimp only [shE]
     refine shP.opn (b := bs) (s := zs) (h := fun lg vl lk un tm wt ot => ?_)
     refine C.asg rfl ?_
     refine C.go ?_
     refine C.rg [0, 1, 2, 3, 4, 5, 6, 7, 8, 9, 10] ?_
     refine C.mv rfl ?_
     refine C.mv rfl ?_
     refine C.eqQ rfl ?_
     refine C.mv rfl ?_
     refine C.mv rfl ?_
     refine C.nc rfl ?_
     refine C.fa rfl ?_
     refine C.ld rfl ?_
     refine C.pk rfl ?_
     refine C.eqBB Tryz.underlying4 rfl ?_
     refine C.asg rfl ?_
     refine C.go ?_
     refine shP.cls (b := bs) zs ?_ (lg := lg) (vl := vl) (lk := lk) (un := un) (tm := tm) (wt := wt) (ot := ot)
     refine At.reo (show Reo _ (shE (bs, zs) :: all ((w.sh.eraseIdx q).map shE) :: cvP c :: pts bw (.cells #[sh.v, bg.v, tx.v, .bool w.stopped] 53 (0, 0)) :: slP ptrC 1 54 sh (w.sh.map (·.1)) :: slP msgC 7 137 bg w.bag :: slP txC 3 71 tx w.txs :: imm I :: F) by ((try simp only [List.cons_append, List.nil_append]); (repeat (first | with_reducible exact Reo.refl | with_reducible exact Reo.nil | with_reducible exact Fo.head | with_reducible apply Fo.tail | with_reducible apply Reo.cons | with_reducible apply Reo.drop)); done)) ?_
     rw [hp]
     refine wsh_back (w := w) hq2 (by (repeat (first | with_reducible exact ReF.nil | with_reducible exact Fo.head | with_reducible apply Fo.tail | with_reducible apply ReF.cons))) ?_
     refine wP.cls (b := bw) w ?_
     exact RunR.retQ hkd hret ⟨rfl, rfl, rfl⟩
   ·skip
    refine C.asg rfl ?_
    refine C.go ?_
    refine C.fls ?_
    refine C.rg [0, 1] ?_
    refine C.cmp rfl (fun h42 => ?_) (fun h42 => ?_)
    ·skip
     refine C.asg rfl ?_
     refine C.go ?_
     refine C.tru ?_
     refine C.rg [0, 1, 2, 3, 4] ?_
     refine C.ldS rfl ?_
     refine C.fa rfl ?_
     refine C.ld rfl ?_
     refine RunR.clN (lvalues_spec hA.n hA.len hA.vq) ?_
     rintro v σ' As' ⟨rfl, rfl, rfl⟩
     simp only [List.cons_append, List.nil_append]
     refine C.asg rfl ?_
     refine C.go ?_
     exact RunR.retQ hkd hret ⟨rfl, rfl, rfl⟩
    ·skip
     refine C.asg rfl ?_
     refine C.go ?_
     refine C.fls ?_
     refine C.rg [0, 1] ?_
     refine C.cmp rfl (fun h48 => ?_) (fun h48 => ?_)
     ·skip
      refine C.asg rfl ?_
      refine C.go ?_
      refine C.tru ?_
      refine C.rg [0, 1, 2, 3, 4] ?_
      refine C.ldS rfl ?_
      refine C.fa rfl ?_
      refine C.ld rfl ?_
      refine RunR.clN (llocks_spec hA.n hA.len hA.kq hA.kl) ?_
      rintro v σ' As' ⟨rfl, rfl, rfl⟩
      simp only [List.cons_append, List.nil_append]
      refine C.asg rfl ?_
      refine C.go ?_
      exact RunR.retQ hkd hret ⟨rfl, rfl, rfl⟩
     ·skip
      refine C.asg rfl ?_
      refine C.go ?_
      refine C.fls ?_
      refine C.rg [0, 1, 2, 3, 4] ?_
      refine C.ldS rfl ?_
      refine C.fa rfl ?_
      refine C.ld rfl ?_
      refine RunR.clN (lrecords_spec hA.n hA.J hA.W hA.log hA.len hA.lq hA.lz) ?_
      rintro v σ' As' ⟨rfl, rfl, rfl⟩
      simp only [List.cons_append, List.nil_append]
      refine C.asg rfl ?_
      refine C.go ?_
      exact RunR.retQ hkd hret ⟨rfl, rfl, rfl⟩
end Go.Sl
end
section
set_option linter.unusedVariables false
namespace Go.Sl
open Go.Proofs Go.Conc
theorem wr_two (cells X Y : List Value) (h : cells.length = X.length + Y.length) : wr (wr cells.toArray 0 X) X.length Y = (X ++ Y).toArray := by
 obtain ⟨P, Q, rfl, hP⟩ : ∃ P Q, cells = P ++ Q ∧ P.length = X.length := ⟨cells.take X.length, cells.drop X.length, (List.take_append_drop _ _).symm, by rw [List.length_take]; omega⟩
 have h1 := wr_toArray X [] P Q hP
 simp only [List.nil_append, List.length_nil] at h1
 rw [h1]
 have h2 := wr_toArray Y X Q [] (by rw [List.length_append] at h; omega)
 simp only [List.append_nil] at h2
 exact h2
theorem flat_one {α : Type} {f : α → List Value} {z : Nat} [rf : RowF f z] {l : List α} : ∀ v ∈ flat f l, oneCell v = true := fun v hv => by
 obtain ⟨a, _, h⟩ := List.mem_flatMap.1 hv
 exact rf.one a v h
section
variable {σ : Gh} {b q : Nat} {m : Int} {bg : SliceV} {hosts txs dn : Value} {stopped : Bool} {st : Int} {bag : List MsgV}
theorem cout_spec (hq : q < bag.length) (hl : bag.length < 2 ^ 30) : Spec Tryz.prog true (barX.bw σ) 133 #[ptrV b, .int .i64 q] [clP b m hosts bg.v txs dn stopped st, slP msgC 7 190 bg bag]
  (fun v As => ∃ bg' : SliceV, As = [clP b m hosts bg'.v txs dn stopped st, slP msgC 7 190 bg' (bag.eraseIdx q)]) := by
 refine Spec.of ?_
 intro R C kd d F c cs hkd hret
 simp only [List.cons_append, List.nil_append]
 refine At.know (A := slP msgC 7 190 bg bag) (by (repeat (first | with_reducible exact Fo.head | with_reducible apply Fo.tail))) (fun h x => slP_know (by omega) h x) fun hk => ?_
 obtain ⟨hk3, hk4, hk5⟩ := hk
 have htl : (bag.take q).length = q := by rw [List.length_take]; omega
 have hdl : (bag.drop (q + 1)).length = bag.length - 1 - q := by rw [List.length_drop]; omega
 refine C.go ?_
 refine C.rg [0, 1, 2, 3, 4, 5, 6, 7] ?_
 refine C.mv rfl ?_
 refine C.nc rfl ?_
 refine C.fa rfl ?_
 refine C.ld rfl ?_
 refine C.lnR rfl ?_ (s := bg) (l := bag) (f := msgC)
 refine C.ar rfl ?_ (r := ((bag.length - 1 : Nat) : Int)) (ha := congrArg some (by omega))
 refine C.ms (f := msgC) (a0 := ⟨msg0, nilS, nilS⟩) rfl rfl (fun b11 => ?_)
 refine C.asg rfl ?_
 refine C.go ?_
 refine C.drawnW [(12, 0), (13, 1), (14, 2), (15, 3), (16, 4), (17, 5), (18, 6), (19, 7), (20, 8), (21, 9), (22, 10), (23, 11), (24, 12), (25, 13), (26, 14), (27, 15), (28, 16), (29, 17)] [0, 1, 2, 3, 4, 5, 6, 7, 10, 11, 12, 13, 14, 15, 16] [8, 9, 17] 3 ?_ (W := [clP b m hosts bg.v txs dn stopped st, slP msgC 7 190 bg bag])
 refine Dr.pu ⟨_, rfl, rfl⟩ (fun _ _ _ h => C.mv rfl h) ?_
 refine Dr.pu ⟨_, rfl, rfl⟩ (fun _ _ _ h => C.mv rfl h) ?_
 refine Dr.pu ⟨_, rfl, rfl⟩ (fun _ _ _ h => C.mv rfl h) ?_
 refine Dr.pu ⟨_, rfl, rfl⟩ (fun _ _ _ h => C.nc rfl h) ?_
 refine Dr.pu ⟨_, rfl, rfl⟩ (fun _ _ _ h => C.fa rfl h) ?_
 refine Dr.ld ⟨_, rfl, rfl⟩ (fun _ hE _ _ h => C.ld rfl h) ?_
 refine Dr.pu ⟨_, rfl, rfl⟩ (fun _ _ _ h => C.mv rfl h) ?_
 refine Dr.pu ⟨_, rfl, rfl⟩ (fun _ _ _ h => C.shi rfl h (hi := (q : Int)) (hh := by constructor <;> omega)) ?_
 refine Dr.pu ⟨_, rfl, rfl⟩ (fun _ _ _ h => C.mv rfl h) ?_
 refine Dr.pu ⟨_, rfl, rfl⟩ (fun _ _ _ h => C.nc rfl h) ?_
 refine Dr.pu ⟨_, rfl, rfl⟩ (fun _ _ _ h => C.fa rfl h) ?_
 refine Dr.ld ⟨_, rfl, rfl⟩ (fun _ hE _ _ h => C.ld rfl h) ?_
 refine Dr.pu ⟨_, rfl, rfl⟩ (fun _ _ _ h => C.mv rfl h) ?_
 refine Dr.pu ⟨_, rfl, rfl⟩ (fun _ _ _ h => C.ar rfl h) ?_
 refine Dr.pu ⟨_, rfl, rfl⟩ (fun _ _ _ h => C.slo rfl h (hx := by show Value.slice bg.a bg.len bg.cap = _; rw [hk3, hk4]) (lo := ((q + 1 : Nat) : Int)) (hh := by constructor <;> omega)) ?_
 refine Dr.chain rfl ?_ (fun _ s => Reo.sat (by ((try simp only [List.cons_append, List.nil_append]); (repeat (first | with_reducible exact Reo.refl | with_reducible exact Reo.nil | with_reducible exact Fo.head | with_reducible apply Fo.tail | with_reducible apply Reo.cons | with_reducible apply Reo.drop)); done)) s)
 refine Ch.n1 (t := 8) rfl ⟨_, rfl, fun e rest hk => ?_⟩
 refine C.cp (b := b11) (len := (((bag.length - 1 : Nat) : Int)).toNat) (cap := (((bag.length - 1 : Nat) : Int)).toNat) (z := 7) (off := 0) (xs := flat msgC (bag.take q)) (m := (bag.take q).length) rfl (fun H st => src_take (f := msgC) (by (repeat (first | with_reducible exact Fo.head | with_reducible apply Fo.tail))) st (fun _ => rfl) q hq hk3) (hm := by rw [htl, Int.toNat_natCast]; omega) (hxl := flat_len (z := 7) (f := msgC) (fun _ => rfl) _) (h1 := flat_one (f := msgC)) (hu := .head) (hz := by rw [htl, rowA_size (z := 7) (fun _ => rfl), List.length_replicate]; simp only [List.length_nil, Int.toNat_natCast]; omega) ?_
 refine hk _ _ (.of (fun _ s => Reo.sat (by ((try simp only [List.cons_append, List.nil_append]); (repeat (first | with_reducible exact Reo.refl | with_reducible exact Reo.nil | with_reducible exact Fo.head | with_reducible apply Fo.tail | with_reducible apply Reo.cons | with_reducible apply Reo.drop)); done)) s)) ?_
 refine Ch.pu (i := 9) ⟨_, rfl, rfl⟩ (fun _ _ _ h => C.slo rfl h (lo := (((bag.take q).length : Nat) : Int)) (a' := ⟨b11, if bag.length - 1 = q then 0 else q * 7, none⟩) (ha := by rw [htl]; simp only [Int.toNat_natCast]; split <;> simp) (hh := by rw [htl]; constructor <;> omega)) ?_
 refine Ch.n1 (t := 17) rfl ⟨_, rfl, fun e rest hk => ?_⟩
 refine C.cp (b := b11) (len := (((bag.length - 1 : Nat) : Int)).toNat - (((bag.take q).length : Nat) : Int).toNat) (cap := (((bag.length - 1 : Nat) : Int)).toNat - (((bag.take q).length : Nat) : Int).toNat) (z := 7) (off := if bag.length - 1 = q then 0 else q * 7) (xs := flat msgC (bag.drop (q + 1))) (m := (bag.drop (q + 1)).length) rfl (fun H st => src_drop (f := msgC) (s := bg) (by (repeat (first | with_reducible exact Fo.head | with_reducible apply Fo.tail))) st (fun _ => rfl) q hq hk5) (hm := by rw [hdl, htl]; simp only [Int.toNat_natCast]; omega) (hxl := flat_len (z := 7) (f := msgC) (fun _ => rfl) _) (h1 := flat_one (f := msgC)) (hu := .head) (hz := by rw [wr_size, rowA_size (z := 7) (fun _ => rfl), List.length_replicate]; simp only [List.length_nil, Int.toNat_natCast]; split <;> omega) ?_
 refine hk _ _ (.of (fun _ s => Reo.sat (by ((try simp only [List.cons_append, List.nil_append]); (repeat (first | with_reducible exact Reo.refl | with_reducible exact Reo.nil | with_reducible exact Fo.head | with_reducible apply Fo.tail | with_reducible apply Reo.cons | with_reducible apply Reo.drop)); done)) s)) ?_
 refine Ch.fin ?_
 refine C.go ?_
 refine C.rg [0, 1, 2, 3, 4] ?_
 refine C.mv rfl ?_
 refine C.mv rfl ?_
 refine C.nc rfl ?_
 refine C.fa rfl ?_
 refine C.st rfl ?_
 refine C.go ?_
 have hrow : wr (wr (rowA msgC (List.replicate (((bag.length - 1 : Nat) : Int)).toNat (⟨msg0, nilS, nilS⟩ : MsgV)) []) 0 (flat msgC (bag.take q))) (if bag.length - 1 = q then 0 else q * 7) (flat msgC (bag.drop (q + 1))) = rowA msgC (bag.eraseIdx q) [] := by
  rw [List.eraseIdx_eq_take_drop_succ]
  have hX : (flat msgC (bag.take q)).length = q * 7 := by rw [flat_len (z := 7) (fun _ => rfl), htl]
  have hY : (flat msgC (bag.drop (q + 1))).length = (bag.length - 1 - q) * 7 := by rw [flat_len (z := 7) (fun _ => rfl), hdl]
  have hC : (flat msgC (List.replicate (((bag.length - 1 : Nat) : Int)).toNat (⟨msg0, nilS, nilS⟩ : MsgV))).length = (bag.length - 1) * 7 := by rw [flat_len (z := 7) (fun _ => rfl), List.length_replicate, Int.toNat_natCast]
  have h2 := wr_two (flat msgC (List.replicate (((bag.length - 1 : Nat) : Int)).toNat (⟨msg0, nilS, nilS⟩ : MsgV)) ++ []) (flat msgC (bag.take q)) (flat msgC (bag.drop (q + 1))) (by rw [List.append_nil, hX, hY, hC]; omega)
  unfold rowA
  rw [flat_app, List.append_nil (flat msgC _ ++ flat msgC _), ← h2, hX]
  split
  ·rename_i hz
   have : bag.drop (q + 1) = [] := List.drop_of_length_le (by omega)
   rw [this]; rfl
  ·rfl
 rw [hrow]
 have hel : (bag.eraseIdx q).length = bag.length - 1 := by rw [List.length_eraseIdx, if_pos hq]
 refine At.own (l := bag.eraseIdx q) (f := msgC) (z := 7) ⟨some ⟨b11, 0, none⟩, (((bag.length - 1 : Nat) : Int)).toNat, (((bag.length - 1 : Nat) : Int)).toNat⟩ [] (by rw [hel, Int.toNat_natCast]) (by rw [hel, Int.toNat_natCast, List.length_nil, Nat.add_zero]) (by rw [hel, Int.toNat_natCast]; exact Nat.le_refl _) .head ?_
 exact C.finR hkd hret ⟨⟨some ⟨b11, 0, none⟩, (((bag.length - 1 : Nat) : Int)).toNat, (((bag.length - 1 : Nat) : Int)).toNat⟩, rfl⟩
end
end Go.Sl
end
section
namespace Go.Sl
structure WP where
 sh : List ShP
 bag : List MsgR
 txs : List TxR
 stopped : Bool
def newWP (n : Int) : WP := ⟨(upto n).map fun k => newShP k n, [], [], false⟩
def beginWP (w : WP) (tx : Nat) : WP :=
 match w.txs[tx]? with
 | none => w
 | some t => { w with bag := w.bag ++ [{ msg0 with kind := 1, frm := -1, to := homeR t.ops w.sh.length, tx := tx, ops := t.ops }] }
def submitWP (w : WP) (ops : List OpR) : WP × Int × Int :=
 if w.stopped then (w, 0, 9) else if ¬ rightP ops then (w, 0, 2) else if w.txs.length = 60 ∨ 400 ≤ w.bag.length then (w, 0, 3)
 else (beginWP { w with txs := w.txs ++ [⟨ops, 1, []⟩] } w.txs.length, w.txs.length, 0)
def sentWP (w : WP) (a : Nat) (s : ShP) : WP := { w with sh := w.sh.set a { s with out := [] }, bag := w.bag ++ s.out }
def replyT (txs : List TxR) (m : MsgR) : List TxR :=
 match txs[m.tx.toNat]? with
 | none => txs
 | some t => if t.state = 1 then txs.set m.tx.toNat (if m.yes then { t with state := 2, reads := m.reads } else { t with state := 3 }) else txs
def messageWP (w : WP) (k i : Int) : WP × Int :=
 if i < 0 ∨ (w.bag.length : Int) ≤ i then (w, 5) else
 match w.bag[i.toNat]? with
 | none => (w, 5)
 | some m =>
  if k = 4 then (if 400 ≤ w.bag.length then (w, 3) else ({ w with bag := w.bag ++ [m] }, 0)) else
  let w1 := { w with bag := w.bag.eraseIdx i.toNat }
  if k = 3 then (w1, 0) else
  if m.to = -1 then ({ w1 with txs := replyT w1.txs m }, 0) else
  match w1.sh[m.to.toNat]? with
  | none => (w1, 0)
  | some s => if s.up then (sentWP w1 m.to.toNat (takeP s m), 0) else (w1, 0)
def doWP (w : WP) (k a b : Int) : WP × Int :=
 if k < 1 ∨ 8 < k then (w, 0) else if w.stopped then (w, 9)
 else if k = 1 then (if a < 0 ∨ (w.txs.length : Int) ≤ a then (w, 4) else if 400 ≤ w.bag.length then (w, 3) else (beginWP w a.toNat, 0))
 else if k ≤ 4 then messageWP w k a
 else if a < 0 ∨ (w.sh.length : Int) ≤ a then (w, 6)
 else match w.sh[a.toNat]? with
  | none => (w, 6)
  | some s =>
   if k = 8 then (if s.up then (w, 8) else (sentWP w a.toNat (restartP s), 0))
   else if !s.up then (w, 7)
   else if k = 5 then (sentWP w a.toNat (syncP s), 0)
   else if k = 6 then (if 150 < w.bag.length then (w, 3) else (sentWP w a.toNat (tickP s), 0))
   else (sentWP w a.toNat (crashP s b), 0)
def opsL (txs : List TxR) : List (List OpR) := txs.map (·.ops)
structure RelW (W : WP) (w : WR) : Prop where
 n : 1 ≤ w.sh.length ∧ w.sh.length ≤ 4
 len : W.sh.length = w.sh.length
 sh : ∀ (i : Nat) P R, W.sh[i]? = some P → w.sh[i]? = some R → RelS (opsL w.txs) w.sh.length P R ∧ R.me = i ∧ R.out = []
 bag : W.bag = w.bag
 txs : W.txs = w.txs
 st : W.stopped = w.stopped
 tok : TOk (opsL w.txs)
 msg : ∀ m ∈ w.bag, MsgOk (opsL w.txs) w.sh.length m
theorem KL_new (k n : Int) : KL [] (newShP k n) [] zeros26 := KL.start _
theorem RelS.app {T : List (List OpR)} {n : Int} {P : ShP} {R : ShR} (H : RelS T n P R) (more : List (List OpR)) : RelS (T ++ more) n P R := by
 have ho : ∀ tx, (opsOf T tx).isSome = true → (opsOf (T ++ more) tx).isSome = true := fun tx h => by
  obtain ⟨ops, h⟩ := Option.isSome_iff_exists.1 h
  rw [opsOf_app more h]; rfl
 exact { H with lok := H.lok.app more, wo := fun m hm => (H.wo m hm).app more, oo := fun m hm => (H.oo m hm).app more, tt := fun t ht => ho _ (H.tt t ht), und := fun h => (H.und h).mono fun a b hu => { hu with ops := opsOf_app more hu.ops } }
theorem new_rel {n : Int} (hn : 1 ≤ n ∧ n ≤ 4) : RelW (newWP n) (newW n) := by
 have hl : (upto n).length = n.toNat := by simp [upto]
 have e1 : (newW n).sh.length = n.toNat := by simp [newW, hl]
 have e2 : (((newW n).sh.length : Nat) : Int) = n := by rw [e1]; omega
 refine ⟨by rw [e1]; omega, by simp [newWP, newW], fun i P R hP hR => ?_, rfl, rfl, rfl, ⟨by simp [newW, opsL], by simp [newW, opsL]⟩, by simp [newW]⟩
 rw [e2]
 simp only [newWP, newW, List.getElem?_map] at hP hR
 cases hk : (upto n)[i]? with
 | none => rw [hk] at hP; cases hP
 | some k =>
  rw [hk] at hP hR
  obtain rfl := Option.some.inj hP
  obtain rfl := Option.some.inj hR
  have hm := mem_upto.1 (List.mem_of_getElem? hk)
  have hki : k = i := by
   unfold upto at hk
   rw [List.getElem?_map] at hk
   cases hr : (List.range n.toNat)[i]? with
   | none => rw [hr] at hk; cases hk
   | some j =>
    rw [hr] at hk
    obtain rfl := Option.some.inj hk
    obtain ⟨_, h2⟩ := List.getElem?_eq_some_iff.1 hr
    rw [List.getElem_range] at h2
    rw [h2]; rfl
  refine ⟨⟨rfl, hm, rfl, rfl, rfl, rfl, .nil, rfl, ⟨Int.le_refl _, Int.le_refl _⟩, rfl, rfl, rfl, rfl, (fun m h => by cases h), (fun m h => by cases h), (fun m h => by cases h), fun _ => KL_new k n, fun _ => .nil, fun _ => .nil, (fun _ m h => by cases h), fun h => by cases h⟩, hki, rfl⟩
theorem RelW.opsL_len {W : WP} {w : WR} (H : RelW W w) : (opsL w.txs).length = w.txs.length := by simp [opsL]
theorem opsOf_txs {txs : List TxR} {i : Nat} {t : TxR} (h : txs[i]? = some t) : opsOf (opsL txs) i = some t.ops := by
 unfold opsOf opsL
 rw [if_neg (by omega), List.getElem?_map, Int.toNat_natCast, h]; rfl
section
variable {W : WP} {w : WR}
theorem RelW.shard (H : RelW W w) (i : Nat) (hi : i < w.sh.length) : ∃ P R, W.sh[i]? = some P ∧ w.sh[i]? = some R ∧ RelS (opsL w.txs) w.sh.length P R ∧ R.me = i ∧ R.out = [] := by
 have h1 : W.sh[i]? = some (W.sh[i]'(by rw [H.len]; exact hi)) := List.getElem?_eq_getElem _
 have h2 : w.sh[i]? = some w.sh[i] := List.getElem?_eq_getElem _
 exact ⟨_, _, h1, h2, H.sh i _ _ h1 h2⟩
theorem RelW.shape (H : RelW W w) : ∃ sh, W = ⟨sh, w.bag, w.txs, w.stopped⟩ := by
 refine ⟨W.sh, ?_⟩
 rw [← H.bag, ← H.txs, ← H.st]
theorem begin_relW (H : RelW W w) (tx : Nat) : RelW (beginWP W tx) (beginW w tx) := by
 obtain ⟨sh, rfl⟩ := H.shape
 unfold beginWP beginW
 simp only
 cases ht : w.txs[tx]? with
 | none => simp only; exact H
 | some t =>
  simp only
  have hl : sh.length = w.sh.length := H.len
  refine { H with bag := by { show w.bag ++ _ = w.bag ++ _; rw [hl] }, msg := fun m hm => ?_ }
  rcases List.mem_append.1 hm with hm | hm
  ·exact H.msg m hm
  ·obtain rfl := List.mem_singleton.1 hm
   exact ⟨t.ops, opsOf_txs ht, .inl ⟨rfl, rfl, rfl, rfl⟩⟩
theorem RelW.tx1 (H : RelW W w) {ops : List OpR} (hr : rightP ops) (hl : w.txs.length ≠ 60) : RelW { W with txs := W.txs ++ [⟨ops, 1, []⟩] } { w with txs := w.txs ++ [⟨ops, 1, []⟩] } := by
 have e : opsL (w.txs ++ [⟨ops, 1, []⟩]) = opsL w.txs ++ [ops] := by simp [opsL]
 refine ⟨H.n, H.len, fun i P R h1 h2 => ?_, H.bag, by show W.txs ++ _ = w.txs ++ _; rw [H.txs], H.st, ?_, fun m hm => ?_⟩
 ·obtain ⟨a, b, c⟩ := H.sh i P R h1 h2
  show RelS (opsL (w.txs ++ _)) _ _ _ ∧ _
  rw [e]; exact ⟨a.app _, b, c⟩
 ·show TOk (opsL (w.txs ++ _))
  rw [e]
  refine ⟨fun o ho => ?_, ?_⟩
  ·rcases List.mem_append.1 ho with h | h
   ·exact H.tok.1 o h
   ·obtain rfl := List.mem_singleton.1 h; exact hr
  ·have := H.tok.2
   rw [H.opsL_len] at this
   rw [List.length_append, H.opsL_len, List.length_singleton]; omega
 ·show MsgOk (opsL (w.txs ++ _)) _ _
  rw [e]; exact (H.msg m hm).app _
theorem submit_relW (H : RelW W w) (ops : List OpR) : RelW (submitWP W ops).1 (submitW w ops).1 ∧ (submitWP W ops).2 = (submitW w ops).2 := by
 obtain ⟨sh, rfl⟩ := H.shape
 unfold submitWP submitW
 simp only
 split
 ·exact ⟨H, rfl⟩
 split
 ·exact ⟨H, rfl⟩
 split
 ·exact ⟨H, rfl⟩
 ·rename_i h1 h2 h3
  have := H.tx1 (Classical.not_not.1 h2) (fun z => h3 (.inl z))
  exact ⟨begin_relW this w.txs.length, rfl⟩
theorem stop_relW (H : RelW W w) : RelW { W with stopped := true } { w with stopped := true } := { H with st := rfl }
end
end Go.Sl
end
section
set_option linter.unusedVariables false
namespace Go.Sl
open Go.Proofs Go.Conc
def CV.abs (c : CV) : WP := ⟨c.hosts.map (·.s.abs), c.bag.map (·.toMsgR), c.txs.map (·.toTxR), c.stopped⟩
def CntC (o a : Int) (c : CV) : Prop := ∀ v ∈ c.hosts, Cnt o a v.s
theorem Cnt.mono {o a o' a' : Int} {s : ShX} (h : Cnt o a s) (ho : o ≤ o') (ha : a ≤ a') : Cnt o' a' s := ⟨by have := h.z; omega, by have := h.o; omega, fun u hu p hp => by have := h.a u hu p hp; omega⟩
structure StepQ (c : CV) (I : HL) (o a : Int) (r : WP × Int) (er : Option Nat) (c' : CV) (I' : HL) : Prop where
 sub : Sub I I'
 j : CvJ I' c'
 g : c'.G = c.G
 h : c'.hosts.map (·.h) = c.hosts.map (·.h)
 r : (c'.abs, numO er) = r
 cn : CntC o a c'
theorem StepQ.same {c : CV} {I : HL} {o a : Int} {er : Option Nat} {z : Int} (hJ : CvJ I c) (hC : CntC o a c) (hz : numO er = z) : StepQ c I (o + 2 ^ 15) (a + 1) (c.abs, z) er c I :=
 ⟨Sub.refl _, hJ, rfl, rfl, by rw [hz], fun v hv => (hC v hv).mono (by omega) (by omega)⟩
def MQ (σ : Gh) (c : CV) (eb : Nat → Nat × Nat) (Q : Option Nat → CV → HL → Prop) : Value → Gh → List HP → Prop := fun v σ' As =>
 ∃ er c' I', v = errO eb er ∧ (∀ k, er = some k → k < 9) ∧ σ' = σ ∧ c'.G.b = c.G.b ∧ Q er c' I' ∧ As = [cvM 1 c', imm I']
def CQ (σ : Gh) (c : CV) (I : HL) (eb : Nat → Nat × Nat) (nm : ByteArray) (at_ : Int) (Q : Option Nat → CV → HL → Prop) : Value → Gh → List HP → Prop := fun v σ' As =>
 ∃ er c' I' L, CallV eb (.string nm) at_ er v L ∧ (∀ k, er = some k → k < 9) ∧ σ' = σ ∧ As = cvP c' :: imm I' :: L ∧ ((c.stopped = true ∧ er = some 8 ∧ c' = c ∧ I' = I) ∨ (c.stopped = false ∧ Q er c' I'))
theorem Reo.dropL {F : List HP} : ∀ A : List HP, Reo (A ++ F) F
 | [] => .refl
 | _ :: A => .drop (Reo.dropL A)
theorem Reo.mid {A F : List HP} : ∀ L : List HP, Reo (L ++ (A ++ F)) (L ++ F)
 | [] => Reo.dropL A
 | _ :: L => .cons .head (Reo.mid L)
theorem callX_spec {σ : Gh} {c : CV} {f : FuncId} {fu : Func} {code : Code} {nf : Nat} [bd : Body Tryz.prog f fu code nf] {caps : Array Value} {I : HL} {eb : Nat → Nat × Nat} {nm : ByteArray} {at_ : Int} {A : List HP} {Q : Option Nat → CV → HL → Prop} (hE : ErrI I eb)
  (hf : c.stopped = false → SpecG Tryz.prog barX f (#[] ++ ([] : List Value).toArray ++ caps) σ (cvM 1 c :: imm I :: A) (MQ σ c eb Q)) :
  SpecG Tryz.prog barX 52 #[ptrV c.G.b, .string nm, .int .i64 at_, .func (.func f) #[] caps] σ (cvP c :: imm I :: A) (CQ σ c I eb nm at_ Q) := by
 have h := call_spec (nm := nm) (at_ := at_) (A := A) (Q := fun er σ' c' I' A' => σ' = σ ∧ Q er c' I' ∧ A' = [] ∧ ∀ k, er = some k → k < 9) hE (fun hst Post os out kd F fr cs hkd hret => hf hst Post os out kd F fr cs hkd (by
  rintro v σ' As' ⟨er, c', I', h1, h2, rfl, h4, h5, rfl⟩
  exact hret _ _ _ ⟨er, c', I', [], h1, h2, rfl, h4, rfl, h5, rfl, h2⟩))
 intro Post os out kd F fr cs hkd hret
 refine h Post os out kd F fr cs hkd ?_
 rintro v σ' As' ⟨er, c', I', A', L, h1, rfl, h | ⟨h2, rfl, h3, rfl, h4⟩⟩
 ·obtain ⟨h2, rfl, rfl, rfl, rfl, rfl⟩ := h
  refine At.reo ?_ (hret _ _ _ ⟨some 8, c', I', L, h1, (fun k hk => by cases hk; decide), rfl, rfl, .inl ⟨h2, rfl, rfl, rfl⟩⟩)
  simp only [List.cons_append, List.append_assoc]
  exact .cons .head (.cons .head (Reo.mid L))
 ·rw [List.append_nil]
  exact hret _ _ _ ⟨er, c', I', L, h1, h4, rfl, rfl, .inr ⟨h2, h3⟩⟩
def agN : ByteArray := ⟨#[65, 103, 97, 105, 110]⟩
structure CvB (c : CV) : Prop where
 n : 1 ≤ c.hosts.length ∧ c.hosts.length ≤ 4
 bag : c.bag.length < 2 ^ 20
 txs : c.txs.length ≤ 60
 tops : ∀ t ∈ c.txs, OpsB t.ops ∧ 1 ≤ t.ops.length
theorem do1_tx {w : WP} {t : Int} (hs : w.stopped = false) (h : t < 0 ∨ (w.txs.length : Int) ≤ t) : doWP w 1 t 0 = (w, 4) := by unfold doWP; rw [if_neg (by decide), hs, if_neg (by decide), if_pos rfl, if_pos h]
theorem do1_many {w : WP} {t : Int} (hs : w.stopped = false) (h : ¬ (t < 0 ∨ (w.txs.length : Int) ≤ t)) (hb : 400 ≤ w.bag.length) : doWP w 1 t 0 = (w, 3) := by unfold doWP; rw [if_neg (by decide), hs, if_neg (by decide), if_pos rfl, if_neg h, if_pos hb]
theorem do1_go {w : WP} {t : Int} (hs : w.stopped = false) (h : ¬ (t < 0 ∨ (w.txs.length : Int) ≤ t)) (hb : ¬ 400 ≤ w.bag.length) : doWP w 1 t 0 = (beginWP w t.toNat, 0) := by unfold doWP; rw [if_neg (by decide), hs, if_neg (by decide), if_pos rfl, if_neg h, if_neg hb]
theorem CV.abs_txs (c : CV) : c.abs.txs.length = c.txs.length := by simp [CV.abs]
theorem CV.abs_bag (c : CV) : c.abs.bag.length = c.bag.length := by simp [CV.abs]
theorem ag1_spec {σ : Gh} {c : CV} {b3 b2 : Nat} {t : Int} {I : HL} {eb : Nat → Nat × Nat} {o a : Int} (hE : ErrI I eb) (hJ : CvJ I c) (hb : CvB c) (hC : CntC o a c) (hst : c.stopped = false) :
  SpecG Tryz.prog barX 130 (#[] ++ ([] : List Value).toArray ++ #[ptrV b3, ptrV b2]) σ (cvM 1 c :: imm I :: [pts b3 (.cells #[.int .i64 t] 3 (0, 0)), pts b2 (.cells #[ptrV c.G.b] 23 (0, 0))])
   (MQ σ c eb (StepQ c I (o + 2 ^ 15) (a + 1) (doWP c.abs 1 t 0))) := by
 refine SpecG.of ?_
 intro Post os out kd F c' cs C hkd hret
 simp only [List.cons_append, List.nil_append]
 obtain ⟨G, hosts, bag, txs, stopped⟩ := c
 obtain rfl : stopped = false := hst
 obtain ⟨hn, hbag, htx, htops⟩ := hb
 dsimp only at hn hbag htx htops
 obtain ⟨t2, hg2⟩ := hE.g 2 (by decide)
 obtain ⟨t3, hg3⟩ := hE.g 3 (by decide)
 refine cvP.opn (m := 1) (h := fun hs bg tx => ?_)
 have hll : (hosts.map (·.h.bh)).length = hosts.length := List.length_map ..
 refine C.go ?_
 refine C.rg [0] ?_
 refine C.asg rfl ?_
 refine C.go ?_
 by_cases h5 : t < 0
 ·skip
  refine C.drawn [(4, 0), (5, 1), (6, 2), (7, 3), (8, 4), (9, 5), (10, 6), (11, 7), (12, 8), (13, 9), (14, 10), (3, 11)] [0, 1, 2, 3, 4, 5, 6, 7, 8, 9, 10, 11] [] 0 ?_
  refine Dr.ld ⟨_, rfl, rfl⟩ (fun _ hE _ _ h => C.ld rfl h) ?_
  refine Dr.pu ⟨_, rfl, rfl⟩ (fun _ _ _ h => C.cmpT rfl h (hf := h5)) ?_
  refine Dr.pu ⟨_, rfl, rfl⟩ (fun _ _ _ h => C.mv rfl h) ?_
  refine Dr.pu ⟨_, rfl, rfl⟩ (fun _ _ _ h => C.no rfl h) ?_
  refine Dr.pu ⟨_, rfl, rfl⟩ (fun _ _ _ h => C.no rfl h) ?_
  refine Dr.pu ⟨_, rfl, rfl⟩ (fun _ _ _ h => C.no rfl h) ?_
  refine Dr.pu ⟨_, rfl, rfl⟩ (fun _ _ _ h => C.no rfl h) ?_
  refine Dr.pu ⟨_, rfl, rfl⟩ (fun _ _ _ h => C.no rfl h) ?_
  refine Dr.pu ⟨_, rfl, rfl⟩ (fun _ _ _ h => C.no rfl h) ?_
  refine Dr.pu ⟨_, rfl, rfl⟩ (fun _ _ _ h => C.no rfl h) ?_
  refine Dr.pu ⟨_, rfl, rfl⟩ (fun _ _ _ h => C.pk rfl h) ?_
  refine Dr.pu ⟨_, rfl, rfl⟩ (fun _ _ _ h => C.asg rfl h) ?_
  refine Dr.chain rfl ?_
  refine Ch.fin ?_
  refine C.go ?_
  refine C.tru ?_
  refine C.rg [0, 1] ?_
  refine C.ldG (by (repeat (first | with_reducible exact Fo.head | with_reducible apply Fo.tail))) hg3 (shG0' _ _) rfl ?_
  refine C.asg rfl ?_
  refine C.go ?_
  refine cvP.cls (m := 1) ⟨G, hosts, bag, txs, false⟩ ?_
  exact RunR.retQ hkd hret ⟨some 3, ⟨G, hosts, bag, txs, false⟩, I, rfl, (fun k hk => by cases hk; decide), rfl, rfl, (do1_tx (w := CV.abs ⟨G, hosts, bag, txs, false⟩) (t := t) rfl (.inl h5)).symm ▸ StepQ.same hJ hC rfl, rfl⟩
 ·skip
  by_cases h13 : t ≥ (txs.length : Int)
  ·skip
   refine C.drawn [(4, 0), (5, 1), (6, 2), (7, 3), (8, 4), (9, 5), (10, 6), (11, 7), (12, 8), (13, 9), (14, 10), (3, 11)] [0, 1, 2, 3, 4, 5, 6, 7, 8, 9, 10, 11] [] 0 ?_
   refine Dr.ld ⟨_, rfl, rfl⟩ (fun _ hE _ _ h => C.ld rfl h) ?_
   refine Dr.pu ⟨_, rfl, rfl⟩ (fun _ _ _ h => C.cmpF rfl h (hf := h5)) ?_
   refine Dr.pu ⟨_, rfl, rfl⟩ (fun _ _ _ h => C.mv rfl h) ?_
   refine Dr.ld ⟨_, rfl, rfl⟩ (fun _ hE _ _ h => C.ld rfl h) ?_
   refine Dr.ld ⟨_, rfl, rfl⟩ (fun _ hE _ _ h => C.ld rfl h) ?_
   refine Dr.pu ⟨_, rfl, rfl⟩ (fun _ _ _ h => C.nc rfl h) ?_
   refine Dr.pu ⟨_, rfl, rfl⟩ (fun _ _ _ h => C.fa rfl h) ?_
   refine Dr.ld ⟨_, rfl, rfl⟩ (fun _ hE _ _ h => C.ld rfl h) ?_
   refine Dr.ld ⟨_, rfl, rfl⟩ (fun _ hE _ _ h => C.lnR rfl h) ?_
   refine Dr.pu ⟨_, rfl, rfl⟩ (fun _ _ _ h => C.cmpT rfl h (hf := h13)) ?_
   refine Dr.pu ⟨_, rfl, rfl⟩ (fun _ _ _ h => C.pk rfl h) ?_
   refine Dr.pu ⟨_, rfl, rfl⟩ (fun _ _ _ h => C.asg rfl h) ?_
   refine Dr.chain rfl ?_
   refine Ch.fin ?_
   refine C.go ?_
   refine C.tru ?_
   refine C.rg [0, 1] ?_
   refine C.ldG (by (repeat (first | with_reducible exact Fo.head | with_reducible apply Fo.tail))) hg3 (shG0' _ _) rfl ?_
   refine C.asg rfl ?_
   refine C.go ?_
   refine cvP.cls (m := 1) ⟨G, hosts, bag, txs, false⟩ ?_
   exact RunR.retQ hkd hret ⟨some 3, ⟨G, hosts, bag, txs, false⟩, I, rfl, (fun k hk => by cases hk; decide), rfl, rfl, (do1_tx (w := CV.abs ⟨G, hosts, bag, txs, false⟩) (t := t) rfl (.inr (by rw [CV.abs_txs]; exact h13))).symm ▸ StepQ.same hJ hC rfl, rfl⟩
  ·skip
   refine C.drawn [(4, 0), (5, 1), (6, 2), (7, 3), (8, 4), (9, 5), (10, 6), (11, 7), (12, 8), (13, 9), (14, 10), (3, 11)] [0, 1, 2, 3, 4, 5, 6, 7, 8, 9, 10, 11] [] 0 ?_
   refine Dr.ld ⟨_, rfl, rfl⟩ (fun _ hE _ _ h => C.ld rfl h) ?_
   refine Dr.pu ⟨_, rfl, rfl⟩ (fun _ _ _ h => C.cmpF rfl h (hf := h5)) ?_
   refine Dr.pu ⟨_, rfl, rfl⟩ (fun _ _ _ h => C.mv rfl h) ?_
   refine Dr.ld ⟨_, rfl, rfl⟩ (fun _ hE _ _ h => C.ld rfl h) ?_
   refine Dr.ld ⟨_, rfl, rfl⟩ (fun _ hE _ _ h => C.ld rfl h) ?_
   refine Dr.pu ⟨_, rfl, rfl⟩ (fun _ _ _ h => C.nc rfl h) ?_
   refine Dr.pu ⟨_, rfl, rfl⟩ (fun _ _ _ h => C.fa rfl h) ?_
   refine Dr.ld ⟨_, rfl, rfl⟩ (fun _ hE _ _ h => C.ld rfl h) ?_
   refine Dr.ld ⟨_, rfl, rfl⟩ (fun _ hE _ _ h => C.lnR rfl h) ?_
   refine Dr.pu ⟨_, rfl, rfl⟩ (fun _ _ _ h => C.cmpF rfl h (hf := h13)) ?_
   refine Dr.pu ⟨_, rfl, rfl⟩ (fun _ _ _ h => C.pk rfl h) ?_
   refine Dr.pu ⟨_, rfl, rfl⟩ (fun _ _ _ h => C.asg rfl h) ?_
   refine Dr.chain rfl ?_
   refine Ch.fin ?_
   refine C.go ?_
   refine C.fls ?_
   refine C.rg [0, 1, 2, 3, 4, 5, 6] ?_
   refine C.ld rfl ?_
   refine C.nc rfl ?_
   refine C.fa rfl ?_
   refine C.ld rfl ?_
   refine C.lnR rfl ?_
   refine C.cmp rfl (fun h22 => ?_) (fun h22 => ?_)
   ·skip
    refine C.asg rfl ?_
    refine C.go ?_
    refine C.tru ?_
    refine C.rg [0, 1] ?_
    refine C.ldG (by (repeat (first | with_reducible exact Fo.head | with_reducible apply Fo.tail))) hg2 (shG0' _ _) rfl ?_
    refine C.asg rfl ?_
    refine C.go ?_
    refine cvP.cls (m := 1) ⟨G, hosts, bag, txs, false⟩ ?_
    exact RunR.retQ hkd hret ⟨some 2, ⟨G, hosts, bag, txs, false⟩, I, rfl, (fun k hk => by cases hk; decide), rfl, rfl, (do1_many (w := CV.abs ⟨G, hosts, bag, txs, false⟩) (t := t) rfl (by rw [CV.abs_txs]; dsimp only; omega) (by rw [CV.abs_bag]; omega)).symm ▸ StepQ.same hJ hC rfl, rfl⟩
   ·skip
    refine C.asg rfl ?_
    refine C.go ?_
    refine C.fls ?_
    obtain ⟨q, rfl⟩ := Int.eq_ofNat_of_zero_le (show 0 ≤ t by omega)
    have hq : q < txs.length := by omega
    have hmem := List.getElem_mem hq
    refine C.rg [0, 1, 2] ?_
    refine C.ld rfl ?_
    refine C.ld rfl ?_
    refine C.clR (cbegin_spec (σ := σ) (b := G.b) (m := 1) (hs := hs) (bg := bg) (txS := tx) (I := I) (hl := hosts.map (·.h.bh)) (bag := bag) (txs := txs) (tx := q) (by rw [hll]; exact hn) (by omega) hq (hJ.txs _ hmem).o (htops _ hmem)) ?_
    rintro v As' ⟨bg', rfl, rfl⟩
    simp only [List.cons_append, List.nil_append]
    rw [hll]
    refine C.go ?_
    refine C.rg [0] ?_
    refine C.asg rfl ?_
    refine C.go ?_
    refine cvP.cls (m := 1) ⟨G, hosts, bag ++ [begMP hosts.length txs[q] q], txs, false⟩ ?_
    refine RunR.retQ hkd hret ⟨none, ⟨G, hosts, bag ++ [begMP hosts.length txs[q] q], txs, false⟩, I, rfl, (fun k hk => by cases hk), rfl, rfl, ⟨Sub.refl _, ⟨fun m hm => ?_, hJ.txs, hJ.sh⟩, rfl, rfl, ?_, fun v hv => (hC v hv).mono (by omega) (by omega)⟩, rfl⟩
    ·rcases List.mem_append.1 hm with hm | hm
     ·exact hJ.bag m hm
     ·obtain rfl := List.mem_singleton.1 hm
      exact ⟨(hJ.txs _ hmem).o, .nil .., Nat.two_pow_pos 20⟩
    ·rw [do1_go (w := CV.abs ⟨G, hosts, bag, txs, false⟩) (t := (q : Int)) rfl (by rw [CV.abs_txs]; dsimp only; omega) (by rw [CV.abs_bag]; omega)]
     unfold beginWP
     have e1 : (CV.abs ⟨G, hosts, bag, txs, false⟩).txs[((q : Int)).toNat]? = some txs[q].toTxR := by simp [CV.abs, hq]
     rw [e1]
     simp [CV.abs, begMP, numO]
end Go.Sl
end
section
set_option linter.unusedVariables false
namespace Go.Sl
open Go.Proofs Go.Conc
structure RegD (σ : Gh) (c : CV) : Prop extends RegC σ c where
 rdn : ∀ v ∈ c.hosts, ∀ i s, σ.seats i = some s → ¬ s.has v.h.rd
section
variable {P : Program} {Post : Value → World → Prop} {X : Bar} {σ : Gh} {h : Nat} {os : Os} {out : Array (Nat × ByteArray)} {d : Nat} {As : List HP} {g : Goroutine}
end
end Go.Sl
end
