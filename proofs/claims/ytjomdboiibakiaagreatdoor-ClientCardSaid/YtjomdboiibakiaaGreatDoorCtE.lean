/-
  Texts that the proof needs, joined: part 5.
-/
import Derived.Test.YtjomdboiibakiaaGreatDoorCtD
import Derived.Conc.HoldsTime
import Derived.LaidHandle
import Derived.Carry
import Derived.LaidLaws
import Derived.FnData
import Derived.ChangeArms
import GoSem.ClaimJoined
import Derived.RowKit
set_option linter.unusedSimpArgs false
set_option linter.unusedVariables false
section
set_option linter.unusedVariables false
namespace Go.Sl
open Go.Proofs Go.Conc
theorem RegD.same {σ : Gh} {c c' : CV} (h : RegD σ c) (hG : c'.G = c.G) (hh : c'.hosts.map (·.h) = c.hosts.map (·.h)) : RegD σ c' := by
 have hl : c'.hosts.length = c.hosts.length := by have := congrArg List.length hh; simpa using this
 have key : ∀ v ∈ c'.hosts, ∃ u ∈ c.hosts, u.h = v.h := fun v hv => by
  have : v.h ∈ c'.hosts.map (·.h) := List.mem_map_of_mem hv
  rw [hh] at this
  obtain ⟨u, hu, e⟩ := List.mem_map.1 this
  exact ⟨u, hu, e⟩
 have hm : ∀ (f : HG → Nat), c'.hosts.map (fun v => f v.h) = c.hosts.map (fun v => f v.h) := fun f => by
  have := congrArg (List.map f) hh
  simpa [List.map_map, Function.comp_def] using this
 refine ⟨⟨fun v hv => ?_, ?_, fun i s e hd => ?_, fun v hv => ?_, fun v hv => ?_, by rw [hG]; exact h.sh7, by rw [hG]; exact h.sh8, by rw [hl]; exact h.n⟩, fun v hv => ?_⟩
 ·obtain ⟨u, hu, e⟩ := key v hv; rw [← e, hG]; exact h.seats u hu
 ·rw [hm (·.g)]; exact h.nd
 ·rw [hG] at hd
  obtain ⟨u, hu, e2⟩ := h.only i s e hd
  have : u.h ∈ c.hosts.map (·.h) := List.mem_map_of_mem hu
  rw [← hh] at this
  obtain ⟨v, hv, e3⟩ := List.mem_map.1 this
  exact ⟨v, hv, by rw [e3]; exact e2⟩
 ·obtain ⟨u, hu, e⟩ := key v hv; rw [← e]; exact h.wk u hu
 ·obtain ⟨u, hu, e⟩ := key v hv; rw [← e, hG]; exact h.wd u hu
 ·obtain ⟨u, hu, e⟩ := key v hv; rw [← e]; exact h.rdn u hu
theorem message_spec {σ : Gh} {c : CV} {f : FuncId} {fu : Func} {code : Code} {nf : Nat} [bd : Body Tryz.prog f fu code nf] {caps : Array Value} {I : HL} {eb : Nat → Nat × Nat} {nm : ByteArray} {i : Int} {A : List HP} {Q : Option Nat → CV → HL → Prop} (hE : ErrI I eb) (hbag : c.bag.length < 2 ^ 20)
  (hf : ∀ (h0 : 0 ≤ i) (hl : i.toNat < c.bag.length), c.stopped = false → SpecG Tryz.prog barX f (#[] ++ [msgA (c.bag[i.toNat])].toArray ++ caps) σ (cvM 1 c :: imm I :: A) (MQ σ c eb Q)) (hQ : c.stopped = false → i < 0 ∨ (c.bag.length : Int) ≤ i → Q (some 4) c I) :
  SpecG Tryz.prog barX 131 #[ptrV c.G.b, .string nm, .int .i64 i, .func (.func f) #[] caps] σ (cvP c :: imm I :: A) (CQ σ c I eb nm i Q) := by
 refine SpecG.of ?_
 intro Post os out kd F c' cs C hkd hret
 simp only [List.cons_append, List.nil_append]
 refine C.go ?_
 refine C.rg [0, 1, 2, 3] ?_
 refine C.bx rfl (fun bc => ?_)
 refine C.bx rfl (fun bi => ?_)
 refine C.bx rfl (fun bf => ?_)
 refine C.asg rfl ?_
 refine C.go ?_
 refine C.rg [0, 1, 2, 3, 4, 5] ?_
 refine C.ld rfl ?_
 refine C.mv rfl ?_
 refine C.ld rfl ?_
 refine C.mf rfl ?_
 have h1 : c.stopped = false → SpecG Tryz.prog barX 169 (#[] ++ ([] : List Value).toArray ++ #[ptrV bi, ptrV bc, ptrV bf]) σ (cvM 1 c :: imm I :: (pts bi (.cells #[.int .i64 i] 3 (0, 0)) :: pts bc (.cells #[ptrV c.G.b] 23 (0, 0)) :: pts bf (.cells #[.func (.func f) #[] caps] 225 (0, 0)) :: A)) (MQ σ c eb Q) := by
  intro hst
  have hf := fun h0 hl => hf h0 hl hst
  refine SpecG.of ?_
  clear hret
  intro Post os out kd F c' cs C hkd hret2
  simp only [List.cons_append, List.nil_append]
  obtain ⟨G, hosts, bag, txs, stopped⟩ := c
  obtain rfl : stopped = false := hst
  dsimp only at hbag hf hQ
  obtain ⟨t4, hg4⟩ := hE.g 4 (by decide)
  refine cvP.opn (m := 1) (h := fun hs bg tx => ?_)
  refine C.go ?_
  refine C.rg [0] ?_
  refine C.asg rfl ?_
  refine C.go ?_
  by_cases h5 : i < 0
  ·skip
   refine C.drawn [(4, 0), (5, 1), (6, 2), (7, 3), (8, 4), (9, 5), (10, 6), (11, 7), (12, 8), (13, 9), (14, 10)] [0, 1, 2, 3, 4, 5, 6, 7, 8, 9, 10] [] 0 ?_
   refine Dr.ld ⟨_, rfl, rfl⟩ (fun _ hE _ _ h => C.ld rfl h) ?_
   refine Dr.pu ⟨_, rfl, rfl⟩ (fun _ _ _ h => C.cmpT rfl h (hf := h5)) ?_
   refine Dr.pu ⟨_, rfl, rfl⟩ (fun _ _ _ h => C.mv rfl h) ?_
   refine Dr.pu ⟨_, rfl, rfl⟩ (fun _ _ _ h => C.no rfl h) ?_
   refine Dr.pu ⟨_, rfl, rfl⟩ (fun _ _ _ h => C.no rfl h) ?_
   refine Dr.pu ⟨_, rfl, rfl⟩ (fun _ _ _ h => C.no rfl h) ?_
   refine Dr.pu ⟨_, rfl, rfl⟩ (fun _ _ _ h => C.no rfl h) ?_
   refine Dr.pu ⟨_, rfl, rfl⟩ (fun _ _ _ h => C.no rfl h) ?_
   refine Dr.pu ⟨_, rfl, rfl⟩ (fun _ _ _ h => C.no rfl h) ?_
   refine Dr.pu ⟨_, rfl, rfl⟩ (fun _ _ _ h => C.no rfl h) ?_
   refine Dr.pu ⟨_, rfl, rfl⟩ (fun _ _ _ h => C.pk rfl h) ?_
   refine Dr.chain rfl ?_
   refine Ch.fin ?_
   refine C.go ?_
   refine C.tru ?_
   refine C.rg [0, 1] ?_
   refine C.ldG (by (repeat (first | with_reducible exact Fo.head | with_reducible apply Fo.tail))) hg4 (shG0' _ _) rfl ?_
   refine C.asg rfl ?_
   refine C.go ?_
   refine cvP.cls (m := 1) ⟨G, hosts, bag, txs, false⟩ ?_
   refine At.reo (show Reo _ (cvM 1 ⟨G, hosts, bag, txs, false⟩ :: imm I :: (A ++ F)) by ((try simp only [List.cons_append, List.nil_append]); (repeat (first | with_reducible exact Reo.refl | with_reducible exact Reo.nil | with_reducible exact Fo.head | with_reducible apply Fo.tail | with_reducible apply Reo.cons | with_reducible apply Reo.drop)); done)) ?_
   refine At.reo (.cons .head (.cons .head (Reo.dropL A))) ?_
   exact RunR.retQ hkd hret2 ⟨some 4, ⟨G, hosts, bag, txs, false⟩, I, rfl, (fun k hk => by cases hk; decide), rfl, rfl, hQ rfl (.inl h5), rfl⟩
  ·skip
   by_cases h13 : i ≥ (bag.length : Int)
   ·skip
    refine C.drawn [(4, 0), (5, 1), (6, 2), (7, 3), (8, 4), (9, 5), (10, 6), (11, 7), (12, 8), (13, 9), (14, 10)] [0, 1, 2, 3, 4, 5, 6, 7, 8, 9, 10] [] 0 ?_
    refine Dr.ld ⟨_, rfl, rfl⟩ (fun _ hE _ _ h => C.ld rfl h) ?_
    refine Dr.pu ⟨_, rfl, rfl⟩ (fun _ _ _ h => C.cmpF rfl h (hf := h5)) ?_
    refine Dr.pu ⟨_, rfl, rfl⟩ (fun _ _ _ h => C.mv rfl h) ?_
    refine Dr.ld ⟨_, rfl, rfl⟩ (fun _ hE _ _ h => C.ld rfl h) ?_
    refine Dr.ld ⟨_, rfl, rfl⟩ (fun _ hE _ _ h => C.ld rfl h) ?_
    refine Dr.pu ⟨_, rfl, rfl⟩ (fun _ _ _ h => C.nc rfl h) ?_
    refine Dr.pu ⟨_, rfl, rfl⟩ (fun _ _ _ h => C.fa rfl h) ?_
    refine Dr.ld ⟨_, rfl, rfl⟩ (fun _ hE _ _ h => C.ld rfl h) ?_
    refine Dr.ld ⟨_, rfl, rfl⟩ (fun _ hE _ _ h => C.lnR rfl h) ?_
    refine Dr.pu ⟨_, rfl, rfl⟩ (fun _ _ _ h => C.cmpT rfl h (hf := h13)) ?_
    refine Dr.pu ⟨_, rfl, rfl⟩ (fun _ _ _ h => C.pk rfl h) ?_
    refine Dr.chain rfl ?_
    refine Ch.fin ?_
    refine C.go ?_
    refine C.tru ?_
    refine C.rg [0, 1] ?_
    refine C.ldG (by (repeat (first | with_reducible exact Fo.head | with_reducible apply Fo.tail))) hg4 (shG0' _ _) rfl ?_
    refine C.asg rfl ?_
    refine C.go ?_
    refine cvP.cls (m := 1) ⟨G, hosts, bag, txs, false⟩ ?_
    refine At.reo (show Reo _ (cvM 1 ⟨G, hosts, bag, txs, false⟩ :: imm I :: (A ++ F)) by ((try simp only [List.cons_append, List.nil_append]); (repeat (first | with_reducible exact Reo.refl | with_reducible exact Reo.nil | with_reducible exact Fo.head | with_reducible apply Fo.tail | with_reducible apply Reo.cons | with_reducible apply Reo.drop)); done)) ?_
    refine At.reo (.cons .head (.cons .head (Reo.dropL A))) ?_
    exact RunR.retQ hkd hret2 ⟨some 4, ⟨G, hosts, bag, txs, false⟩, I, rfl, (fun k hk => by cases hk; decide), rfl, rfl, hQ rfl (.inr h13), rfl⟩
   ·skip
    refine C.drawn [(4, 0), (5, 1), (6, 2), (7, 3), (8, 4), (9, 5), (10, 6), (11, 7), (12, 8), (13, 9), (14, 10)] [0, 1, 2, 3, 4, 5, 6, 7, 8, 9, 10] [] 0 ?_
    refine Dr.ld ⟨_, rfl, rfl⟩ (fun _ hE _ _ h => C.ld rfl h) ?_
    refine Dr.pu ⟨_, rfl, rfl⟩ (fun _ _ _ h => C.cmpF rfl h (hf := h5)) ?_
    refine Dr.pu ⟨_, rfl, rfl⟩ (fun _ _ _ h => C.mv rfl h) ?_
    refine Dr.ld ⟨_, rfl, rfl⟩ (fun _ hE _ _ h => C.ld rfl h) ?_
    refine Dr.ld ⟨_, rfl, rfl⟩ (fun _ hE _ _ h => C.ld rfl h) ?_
    refine Dr.pu ⟨_, rfl, rfl⟩ (fun _ _ _ h => C.nc rfl h) ?_
    refine Dr.pu ⟨_, rfl, rfl⟩ (fun _ _ _ h => C.fa rfl h) ?_
    refine Dr.ld ⟨_, rfl, rfl⟩ (fun _ hE _ _ h => C.ld rfl h) ?_
    refine Dr.ld ⟨_, rfl, rfl⟩ (fun _ hE _ _ h => C.lnR rfl h) ?_
    refine Dr.pu ⟨_, rfl, rfl⟩ (fun _ _ _ h => C.cmpF rfl h (hf := h13)) ?_
    refine Dr.pu ⟨_, rfl, rfl⟩ (fun _ _ _ h => C.pk rfl h) ?_
    refine Dr.chain rfl ?_
    refine Ch.fin ?_
    refine C.go ?_
    refine C.fls ?_
    obtain ⟨q, rfl⟩ := Int.eq_ofNat_of_zero_le (show 0 ≤ i by omega)
    have hq : q < bag.length := by omega
    refine C.drawn [(16, 0), (17, 1), (18, 2), (19, 3), (20, 4), (21, 5), (22, 6), (23, 7), (24, 8), (3, 9)] [0, 1, 2, 3, 4, 5, 6, 7] [8, 9] 0 ?_
    refine Dr.ld ⟨_, rfl, rfl⟩ (fun _ hE _ _ h => C.ld rfl h) ?_
    refine Dr.ld ⟨_, rfl, rfl⟩ (fun _ hE _ _ h => C.ld rfl h) ?_
    refine Dr.pu ⟨_, rfl, rfl⟩ (fun _ _ _ h => C.nc rfl h) ?_
    refine Dr.pu ⟨_, rfl, rfl⟩ (fun _ _ _ h => C.fa rfl h) ?_
    refine Dr.ld ⟨_, rfl, rfl⟩ (fun _ hE _ _ h => C.ld rfl h) ?_
    refine Dr.ld ⟨_, rfl, rfl⟩ (fun _ hE _ _ h => C.ld rfl h) ?_
    refine Dr.ld ⟨_, rfl, rfl⟩ (fun _ hE _ _ h => C.iaR rfl h) ?_
    refine Dr.ld (v := msgA (bag[q]'hq)) ⟨_, rfl, rfl⟩ (fun _ hE _ _ h => C.ldRS rfl (fun hj => h) (s := bg) (l := bag) (f := msgC) (j := q)) ?_
    refine Dr.chain rfl ?_
    refine Ch.n1 (t := 8) rfl ⟨_, rfl, fun e rest hk => ?_⟩
    refine cvP.cls (m := 1) ⟨G, hosts, bag, txs, false⟩ ?_
    refine At.reo (show Reo _ (cvM 1 ⟨G, hosts, bag, txs, false⟩ :: imm I :: (A ++ F)) by ((try simp only [List.cons_append, List.nil_append]); (repeat (first | with_reducible exact Reo.refl | with_reducible exact Reo.nil | with_reducible exact Fo.head | with_reducible apply Fo.tail | with_reducible apply Reo.cons | with_reducible apply Reo.drop)); done)) ?_
    refine RunR.cl (f := f) (a1 := #[]) (a2 := caps) (vl := [msgA bag[q]]) (hf (Int.natCast_nonneg q) (by simpa using hq)) ?_ (hr := .cons .head (.cons .head (ReF.app A)))
    rintro v σ' As' ⟨er, c2, I2, rfl, hk9, rfl, hb, hQ2, rfl⟩
    simp only [List.cons_append, List.nil_append]
    refine hk _ _ ?_
    refine Ch.pu (i := 9) ⟨_, rfl, rfl⟩ (fun _ _ _ h => C.asg rfl h) ?_
    refine Ch.fin ?_
    refine C.go ?_
    exact RunR.retQ hkd hret2 ⟨er, c2, I2, rfl, hk9, rfl, hb, hQ2, rfl⟩
 refine RunR.clN (callX_spec (nm := nm) (at_ := i) hE h1) ?_ (hr := .cons (by (repeat (first | with_reducible exact Fo.head | with_reducible apply Fo.tail))) (.cons (by (repeat (first | with_reducible exact Fo.head | with_reducible apply Fo.tail))) (.cons (by (repeat (first | with_reducible exact Fo.head | with_reducible apply Fo.tail))) (.cons (by (repeat (first | with_reducible exact Fo.head | with_reducible apply Fo.tail))) (.cons (by (repeat (first | with_reducible exact Fo.head | with_reducible apply Fo.tail))) (ReF.app A))))))
 rintro v σ' As' ⟨er, c2, I2, L, h2, h3, rfl, rfl, h4⟩
 simp only [List.cons_append, List.nil_append]
 refine C.asg rfl ?_
 refine C.go ?_
 exact RunR.retQ hkd hret ⟨er, c2, I2, L, h2, h3, rfl, rfl, h4⟩
theorem do_msg {w : WP} {k i b : Int} (hs : w.stopped = false) (hk : 2 ≤ k ∧ k ≤ 4) : doWP w k i b = messageWP w k i := by
 unfold doWP; rw [if_neg (by omega), hs, if_neg (by decide), if_neg (by omega), if_pos (by omega)]
theorem msg_out {w : WP} {k i : Int} (h : i < 0 ∨ (w.bag.length : Int) ≤ i) : messageWP w k i = (w, 5) := by unfold messageWP; rw [if_pos h]
theorem msg_in {w : WP} {k : Int} {q : Nat} {m : MsgR} (h : w.bag[q]? = some m) : messageWP w k q = (if k = 4 then (if 400 ≤ w.bag.length then (w, (3 : Int)) else ({ w with bag := w.bag ++ [m] }, (0 : Int))) else
  if k = 3 then ({ w with bag := w.bag.eraseIdx q }, (0 : Int)) else
  if m.to = -1 then ({ w with bag := w.bag.eraseIdx q, txs := replyT w.txs m }, (0 : Int)) else
  match w.sh[m.to.toNat]? with
  | none => ({ w with bag := w.bag.eraseIdx q }, (0 : Int))
  | some s => if s.up then (sentWP { w with bag := w.bag.eraseIdx q } m.to.toNat (takeP s m), (0 : Int)) else ({ w with bag := w.bag.eraseIdx q }, (0 : Int))) := by
 have hl := (List.getElem?_eq_some_iff.1 h).1
 unfold messageWP
 rw [if_neg (by omega), Int.toNat_natCast, h]; rfl
theorem CV.abs_get {c : CV} {q : Nat} (h : q < c.bag.length) : c.abs.bag[q]? = some (c.bag[q]).toMsgR := by simp [CV.abs, h]
def drpN : ByteArray := ⟨#[68, 114, 111, 112]⟩
def cpyN : ByteArray := ⟨#[67, 111, 112, 121]⟩
theorem drp1_spec {σ : Gh} {c : CV} {b3 b2 q : Nat} {I : HL} {eb : Nat → Nat × Nat} {o a : Int} {mv : MsgV} (hJ : CvJ I c) (hb : CvB c) (hC : CntC o a c) (hst : c.stopped = false) (hq : q < c.bag.length) :
  SpecG Tryz.prog barX 138 (#[] ++ [msgA mv].toArray ++ #[ptrV b2, ptrV b3]) σ (cvM 1 c :: imm I :: [pts b2 (.cells #[ptrV c.G.b] 23 (0, 0)), pts b3 (.cells #[.int .i64 q] 3 (0, 0))])
   (MQ σ c eb (StepQ c I (o + 2 ^ 15) (a + 1) (doWP c.abs 3 q 0))) := by
 refine SpecG.of ?_
 intro Post os out kd F c' cs C hkd hret
 simp only [List.cons_append, List.nil_append]
 obtain ⟨G, hosts, bag, txs, stopped⟩ := c
 obtain rfl : stopped = false := hst
 obtain ⟨hn, hbag, htx, htops⟩ := hb
 dsimp only at hn hbag htx htops hq
 refine cvP.opn (m := 1) (h := fun hs bg tx => ?_)
 refine C.go ?_
 refine C.rg [0, 1] ?_
 refine C.bx rfl (fun b3 => ?_)
 refine C.asg rfl ?_
 refine C.go ?_
 refine C.rg [0, 1, 2] ?_
 refine C.ld rfl ?_
 refine C.ld rfl ?_
 refine C.clR (cout_spec (hosts := hs.v) (bg := bg) (bag := bag) hq (by omega)) ?_
 rintro v As' ⟨bg', rfl⟩
 simp only [List.cons_append, List.nil_append]
 refine C.go ?_
 refine C.rg [0] ?_
 refine C.asg rfl ?_
 refine C.go ?_
 refine cvP.cls (m := 1) ⟨G, hosts, bag.eraseIdx q, txs, false⟩ ?_
 refine RunR.retQ hkd hret ⟨none, ⟨G, hosts, bag.eraseIdx q, txs, false⟩, I, rfl, (fun k hk => by cases hk), rfl, rfl, ⟨Sub.refl _, ⟨fun m hm => hJ.bag m ((List.eraseIdx_sublist ..).mem hm), hJ.txs, hJ.sh⟩, rfl, rfl, ?_, fun v hv => (hC v hv).mono (by omega) (by omega)⟩, rfl⟩
 rw [do_msg (k := 3) (by rfl) (by omega), msg_in (CV.abs_get (c := ⟨G, hosts, bag, txs, false⟩) hq), if_neg (by omega), if_pos rfl]
 simp [CV.abs, numO, map_eraseIdx]
theorem cpy1_spec {σ : Gh} {c : CV} {b2 q : Nat} {I : HL} {eb : Nat → Nat × Nat} {o a : Int} (hE : ErrI I eb) (hJ : CvJ I c) (hb : CvB c) (hC : CntC o a c) (hst : c.stopped = false) (hq : q < c.bag.length) :
  SpecG Tryz.prog barX 139 (#[] ++ [msgA (c.bag[q])].toArray ++ #[ptrV b2]) σ (cvM 1 c :: imm I :: [pts b2 (.cells #[ptrV c.G.b] 23 (0, 0))])
   (MQ σ c eb (StepQ c I (o + 2 ^ 15) (a + 1) (doWP c.abs 4 q 0))) := by
 refine SpecG.of ?_
 intro Post os out kd F c' cs C hkd hret
 simp only [List.cons_append, List.nil_append]
 obtain ⟨G, hosts, bag, txs, stopped⟩ := c
 obtain rfl : stopped = false := hst
 obtain ⟨hn, hbag, htx, htops⟩ := hb
 dsimp only at hn hbag htx htops hq
 obtain ⟨t2, hg2⟩ := hE.g 2 (by decide)
 have hdo : doWP (CV.abs ⟨G, hosts, bag, txs, false⟩) 4 q 0 = if 400 ≤ bag.length then (CV.abs ⟨G, hosts, bag, txs, false⟩, 3) else (CV.abs ⟨G, hosts, bag ++ [bag[q]], txs, false⟩, 0) := by
  rw [do_msg (k := 4) (by rfl) (by omega), msg_in (CV.abs_get (c := ⟨G, hosts, bag, txs, false⟩) hq), if_pos rfl]
  simp [CV.abs]
 refine cvP.opn (m := 1) (h := fun hs bg tx => ?_)
 refine C.go ?_
 refine C.rg [0, 1] ?_
 refine C.bx rfl (fun b3 => ?_)
 refine C.asg rfl ?_
 refine C.go ?_
 refine C.rg [0, 1, 2, 3, 4, 5] ?_
 refine C.ld rfl ?_
 refine C.nc rfl ?_
 refine C.fa rfl ?_
 refine C.ld rfl ?_
 refine C.lnR rfl ?_
 refine C.cmp rfl (fun h9 => ?_) (fun h9 => ?_)
 ·skip
  refine C.go ?_
  refine C.tru ?_
  refine C.rg [0, 1] ?_
  refine C.ldG (by (repeat (first | with_reducible exact Fo.head | with_reducible apply Fo.tail))) hg2 (shG0' _ _) rfl ?_
  refine C.asg rfl ?_
  refine C.go ?_
  refine cvP.cls (m := 1) ⟨G, hosts, bag, txs, false⟩ ?_
  refine RunR.retQ hkd hret ⟨some 2, ⟨G, hosts, bag, txs, false⟩, I, rfl, (fun k hk => by cases hk; decide), rfl, rfl, ?_, rfl⟩
  have h9' : 400 ≤ (bag.length : Int) := h9
  rw [hdo, if_pos (by omega)]
  exact StepQ.same hJ hC rfl
 ·skip
  refine C.go ?_
  refine C.fls ?_
  refine C.drawnW [(11, 0), (12, 1), (13, 2), (14, 3), (15, 4), (16, 5), (17, 6), (18, 7), (19, 8), (20, 9)] [0, 1, 2, 3, 4, 5, 8, 9] [6, 7, 10] 2 ?_ (W := [clP G.b 1 hs.v bg.v tx.v (.chan (some G.dn)) false (CV.st ⟨G, hosts, bag, txs, false⟩), pts b2 (.cells #[ptrV G.b] 23 (0, 0)), msgK b3 (bag[q]'hq)])
  refine Dr.ld ⟨_, rfl, rfl⟩ (fun _ hE _ _ h => C.ld rfl h) ?_
  refine Dr.ld ⟨_, rfl, rfl⟩ (fun _ hE _ _ h => C.ld rfl h) ?_
  refine Dr.pu ⟨_, rfl, rfl⟩ (fun _ _ _ h => C.nc rfl h) ?_
  refine Dr.pu ⟨_, rfl, rfl⟩ (fun _ _ _ h => C.fa rfl h) ?_
  refine Dr.ld ⟨_, rfl, rfl⟩ (fun _ hE _ _ h => C.ld rfl h) ?_
  refine Dr.ld ⟨_, rfl, rfl⟩ (fun _ hE _ _ h => C.ldS rfl h) ?_
  refine Dr.pu ⟨_, rfl, rfl⟩ (fun _ _ _ h => C.nc rfl h) ?_
  refine Dr.pu ⟨_, rfl, rfl⟩ (fun _ _ _ h => C.fa rfl h) ?_
  refine Dr.chain rfl ?_ (fun _ s => Reo.sat (by ((try simp only [List.cons_append, List.nil_append]); (repeat (first | with_reducible exact Reo.refl | with_reducible exact Reo.nil | with_reducible exact Fo.head | with_reducible apply Fo.tail | with_reducible apply Reo.cons | with_reducible apply Reo.drop)); done)) s)
  refine Ch.n1 (t := 6) rfl ⟨_, rfl, fun e rest hk => ?_⟩
  refine C.bs1 rfl (fun b17 => hk _ _ .cons ?_)
  refine Ch.n1 (t := 7) rfl ⟨_, rfl, fun e rest hk => ?_⟩
  refine C.ap1 (bag[q]'hq) rfl (fun s' => ?_)
  refine hk _ _ (.of (fun _ s => Reo.sat (by ((try simp only [List.cons_append, List.nil_append]); (repeat (first | with_reducible exact Reo.refl | with_reducible exact Reo.nil | with_reducible exact Fo.head | with_reducible apply Fo.tail | with_reducible apply Reo.cons | with_reducible apply Reo.drop)); done)) s)) ?_
  refine Ch.n1 (t := 10) rfl ⟨_, rfl, fun e rest hk => ?_⟩
  refine C.st rfl (hk _ undef ?_)
  refine Ch.fin ?_
  refine C.go ?_
  refine C.rg [0] ?_
  refine C.asg rfl ?_
  refine C.go ?_
  refine cvP.cls (m := 1) ⟨G, hosts, bag ++ [bag[q]], txs, false⟩ ?_
  refine RunR.retQ hkd hret ⟨none, ⟨G, hosts, bag ++ [bag[q]], txs, false⟩, I, rfl, (fun k hk => by cases hk), rfl, rfl, ⟨Sub.refl _, ⟨fun m hm => ?_, hJ.txs, hJ.sh⟩, rfl, rfl, ?_, fun v hv => (hC v hv).mono (by omega) (by omega)⟩, rfl⟩
  ·rcases List.mem_append.1 hm with hm | hm
   ·exact hJ.bag m hm
   ·obtain rfl := List.mem_singleton.1 hm; exact hJ.bag _ (List.getElem_mem hq)
  ·have h9' : ¬ 400 ≤ (bag.length : Int) := h9
   rw [hdo, if_neg (by omega)]; rfl
end Go.Sl
end
section
set_option linter.unusedVariables false
namespace Go.Sl
open Go.Proofs Go.Conc
section
variable {σ : Gh} {c : CV} {i : Int} {I : HL} {eb : Nat → Nat × Nat} {o a : Int}
theorem cagain_spec (hE : ErrI I eb) (hJ : CvJ I c) (hb : CvB c) (hC : CntC o a c) :
  SpecG Tryz.prog barX 81 #[ptrV c.G.b, .int .i64 i] σ [cvP c, imm I] (CQ σ c I eb agN i (StepQ c I (o + 2 ^ 15) (a + 1) (doWP c.abs 1 i 0))) := by
 refine SpecG.of ?_
 intro Post os out kd F c' cs C hkd hret
 simp only [List.cons_append, List.nil_append]
 refine C.go ?_
 refine C.rg [0, 1, 2] ?_
 refine C.bx rfl (fun b2 => ?_)
 refine C.bx rfl (fun b3 => ?_)
 refine C.asg rfl ?_
 refine C.go ?_
 refine C.rg [0, 1, 2, 3, 4] ?_
 refine C.ld rfl ?_
 refine C.ld rfl ?_
 refine C.mf rfl ?_
 refine RunR.clN (callX_spec (nm := agN) (at_ := i) hE fun hst => ag1_spec (σ := σ) (b3 := b3) (b2 := b2) (t := i) hE hJ hb hC hst) ?_
 rintro v σ' As' ⟨er, c2, I2, L, h2, h3, rfl, rfl, h4⟩
 simp only [List.cons_append, List.nil_append]
 refine C.asg rfl ?_
 refine C.go ?_
 exact RunR.retQ hkd hret ⟨er, c2, I2, L, h2, h3, rfl, rfl, h4⟩
theorem msgQ0 {k : Int} (hk : 2 ≤ k ∧ k ≤ 4) (hJ : CvJ I c) (hC : CntC o a c) (hst : c.stopped = false) (h : i < 0 ∨ (c.bag.length : Int) ≤ i) : StepQ c I (o + 2 ^ 15) (a + 1) (doWP c.abs k i 0) (some 4) c I := by
 rw [do_msg (by exact hst) hk, msg_out (by rw [CV.abs_bag]; exact h)]
 exact StepQ.same hJ hC rfl
theorem cdrop_spec (hE : ErrI I eb) (hJ : CvJ I c) (hb : CvB c) (hC : CntC o a c) :
  SpecG Tryz.prog barX 83 #[ptrV c.G.b, .int .i64 i] σ [cvP c, imm I] (CQ σ c I eb drpN i (StepQ c I (o + 2 ^ 15) (a + 1) (doWP c.abs 3 i 0))) := by
 refine SpecG.of ?_
 intro Post os out kd F c' cs C hkd hret
 simp only [List.cons_append, List.nil_append]
 refine C.go ?_
 refine C.rg [0, 1, 2] ?_
 refine C.bx rfl (fun b2 => ?_)
 refine C.bx rfl (fun b3 => ?_)
 refine C.asg rfl ?_
 refine C.go ?_
 refine C.rg [0, 1, 2, 3, 4] ?_
 refine C.ld rfl ?_
 refine C.ld rfl ?_
 refine C.mf rfl ?_
 refine RunR.clN (message_spec (nm := drpN) (i := i) (Q := StepQ c I (o + 2 ^ 15) (a + 1) (doWP c.abs 3 i 0)) (A := [pts b2 (.cells #[ptrV c.G.b] 23 (0, 0)), pts b3 (.cells #[.int .i64 i] 3 (0, 0))]) hE hb.bag (fun h0 hl hst => ?_) (fun hst h => msgQ0 (by omega) hJ hC hst h)) ?_
 ·obtain ⟨q, rfl⟩ := Int.eq_ofNat_of_zero_le h0
  exact drp1_spec hJ hb hC hst (by simpa using hl)
 rintro v σ' As' ⟨er, c2, I2, L, h2, h3, rfl, rfl, h4⟩
 simp only [List.cons_append, List.nil_append]
 refine C.asg rfl ?_
 refine C.go ?_
 exact RunR.retQ hkd hret ⟨er, c2, I2, L, h2, h3, rfl, rfl, h4⟩
theorem ccopy_spec (hE : ErrI I eb) (hJ : CvJ I c) (hb : CvB c) (hC : CntC o a c) :
  SpecG Tryz.prog barX 84 #[ptrV c.G.b, .int .i64 i] σ [cvP c, imm I] (CQ σ c I eb cpyN i (StepQ c I (o + 2 ^ 15) (a + 1) (doWP c.abs 4 i 0))) := by
 refine SpecG.of ?_
 intro Post os out kd F c' cs C hkd hret
 simp only [List.cons_append, List.nil_append]
 refine C.go ?_
 refine C.rg [0, 1] ?_
 refine C.bx rfl (fun b2 => ?_)
 refine C.asg rfl ?_
 refine C.go ?_
 refine C.rg [0, 1, 2, 3, 4] ?_
 refine C.ld rfl ?_
 refine C.mv rfl ?_
 refine C.mf rfl ?_
 refine RunR.clN (message_spec (nm := cpyN) (i := i) (Q := StepQ c I (o + 2 ^ 15) (a + 1) (doWP c.abs 4 i 0)) (A := [pts b2 (.cells #[ptrV c.G.b] 23 (0, 0))]) hE hb.bag (fun h0 hl hst => ?_) (fun hst h => msgQ0 (by omega) hJ hC hst h)) ?_
 ·obtain ⟨q, rfl⟩ := Int.eq_ofNat_of_zero_le h0
  exact cpy1_spec hE hJ hb hC hst (by simpa using hl)
 rintro v σ' As' ⟨er, c2, I2, L, h2, h3, rfl, rfl, h4⟩
 simp only [List.cons_append, List.nil_append]
 refine C.asg rfl ?_
 refine C.go ?_
 exact RunR.retQ hkd hret ⟨er, c2, I2, L, h2, h3, rfl, rfl, h4⟩
end
end Go.Sl
end
section
set_option linter.unusedVariables false
namespace Go.Sl
open Go.Proofs Go.Conc
theorem do_b {w : WP} {k i b : Int} (hk : k ≤ 4) : doWP w k i b = doWP w k i 0 := by
 unfold doWP; rw [if_pos hk, if_pos hk]
theorem do_stop {w : WP} {k i b : Int} (hk : 1 ≤ k ∧ k ≤ 8) (hs : w.stopped = true) : doWP w k i b = (w, 9) := by
 unfold doWP; rw [if_neg (by omega), if_pos hs]
theorem do_none {w : WP} {k i b : Int} (hk : k < 1 ∨ 8 < k) : doWP w k i b = (w, 0) := by unfold doWP; rw [if_pos hk]
theorem step_of {c c' : CV} {I I' : HL} {o a : Int} {er : Option Nat} {k i b : Int} (hk : 1 ≤ k ∧ k ≤ 8) (hJ : CvJ I c) (hC : CntC o a c) (h : (c.stopped = true ∧ er = some 8 ∧ c' = c ∧ I' = I) ∨ (c.stopped = false ∧ StepQ c I (o + 2 ^ 15) (a + 1) (doWP c.abs k i b) er c' I')) : StepQ c I (o + 2 ^ 15) (a + 1) (doWP c.abs k i b) er c' I' := by
 rcases h with ⟨hs, rfl, rfl, rfl⟩ | ⟨_, h⟩
 ·rw [do_stop hk (by exact hs)]; exact StepQ.same hJ hC rfl
 ·exact h
end Go.Sl
end
section
namespace Go.Sl
def wt (m : MsgR) : Nat := if m.kind = 1 then 45 else if m.kind = 2 then 11 else if m.kind = 3 then 10 else if m.kind = 4 then 2 else if m.kind = 6 then 3 else 1
def ws (l : List MsgR) : Nat := (l.map wt).sum
theorem wt_pos (m : MsgR) : 1 ≤ wt m ∧ wt m ≤ 45 := by
 unfold wt; repeat' split
 all_goals omega
theorem ws_app (a b : List MsgR) : ws (a ++ b) = ws a + ws b := by simp [ws]
theorem ws_one (m : MsgR) : ws [m] = wt m := by simp [ws]
theorem ws_le : ∀ l : List MsgR, l.length ≤ ws l ∧ ws l ≤ 45 * l.length
 | [] => ⟨Nat.le_refl _, Nat.le_refl _⟩
 | m :: l => by
  have h := ws_le l
  have h1 := wt_pos m
  have : ws (m :: l) = wt m + ws l := by simp [ws]
  rw [this, List.length_cons]; omega
structure InvC (t : Nat) (U : List UndR) (L : List RecR) (Ti : List TimR) (W : List MsgR) (good clock : Int) : Prop where
 ub : ∀ u ∈ U, u.dec = (findR L 2 u.tx).isSome
 un : (U.map (·.tx)).Nodup
 nd : ((L.filter fun r => r.kind == 2).map (·.tx)).Nodup
 tn : (Ti.map fun t => (t.again, t.tx)).Nodup
 ta : ∀ t ∈ Ti, t.again = true → t.tx ∈ U.map (·.tx) ∨ (findR L 2 t.tx).isSome = true
 tb : ∀ t ∈ Ti, t.again = false → (findR L 1 t.tx).isSome = true ∨ (findR L 3 t.tx).isSome = true
 wl : (W.length : Int) ≤ 5 * (L.length - good)
 vn : ∀ u ∈ U, (u.votes.map (·.frm)).Nodup
 an : ∀ u ∈ U, u.acks.length ≤ t
 ck : 0 ≤ clock ∧ clock ≤ t
def InvS (t : Nat) (s : ShR) : Prop := InvC t s.under s.log s.timers s.waits s.good s.clock
theorem findR_mem2 {L : List RecR} {tx : Int} : findR L 2 tx = none ↔ tx ∉ (L.filter fun r => r.kind == 2).map (·.tx) := by
 rw [findR_none]
 constructor
 ·intro h hm
  obtain ⟨r, hr, e⟩ := List.mem_map.1 hm
  obtain ⟨h1, h2⟩ := List.mem_filter.1 hr
  exact h r h1 ⟨by simpa using h2, e⟩
 ·intro h r hr e
  exact h (List.mem_map.2 ⟨r, List.mem_filter.2 ⟨hr, by simpa using e.1⟩, e.2⟩)
section
variable {t : Nat} {U U' : List UndR} {L : List RecR} {Ti : List TimR} {W : List MsgR} {good clock : Int}
theorem InvC.mono (h : InvC t U L Ti W good clock) {t' : Nat} (ht : t ≤ t') : InvC t' U L Ti W good clock :=
 { h with an := fun u hu => Nat.le_trans (h.an u hu) ht, ck := ⟨h.ck.1, by have := h.ck.2; omega⟩ }
end
section
variable {t : Nat} {s : ShR} {m : MsgR}
end
end Go.Sl
end
section
namespace Go.Sl
theorem nodup_upto {l : List Int} {c : Nat} (hn : l.Nodup) (h : ∀ x ∈ l, 0 ≤ x ∧ x < c) : l.length ≤ c := by
 have := sub_nodup_len hn (b := upto c) fun x hx => mem_upto.2 (h x hx)
 simpa [upto] using this
section
variable {T : List (List OpR)} {n me : Int}
theorem LogOk.keys {E : List EntP} (h : LogOk T n me E) (hT : TOk T) (hnd : (((E.map EntP.recd).filter fun r => r.kind == 2).map (·.tx)).Nodup) : ((E.map EntP.recd).map fun r => r.kind * 60 + r.tx).Nodup ∧ ∀ r ∈ E.map EntP.recd, (1 ≤ r.kind ∧ r.kind ≤ 3) ∧ 0 ≤ r.tx ∧ r.tx < 60 := by
 have hlt : ∀ tx, (opsOf T tx).isSome = true → 0 ≤ tx ∧ tx < 60 := fun tx h => by
  obtain ⟨ops, h⟩ := Option.isSome_iff_exists.1 h
  have h1 := opsOf_lt h
  have h2 := hT.2
  omega
 have add : ∀ (E : List EntP) (e : EntP), (((E.map EntP.recd).map fun r => r.kind * 60 + r.tx).Nodup ∧ ∀ r ∈ E.map EntP.recd, (1 ≤ r.kind ∧ r.kind ≤ 3) ∧ 0 ≤ r.tx ∧ r.tx < 60) → (1 ≤ e.recd.kind ∧ e.recd.kind ≤ 3) → (0 ≤ e.recd.tx ∧ e.recd.tx < 60) → findR (E.map EntP.recd) e.recd.kind e.recd.tx = none →
   (((E ++ [e]).map EntP.recd).map fun r => r.kind * 60 + r.tx).Nodup ∧ ∀ r ∈ (E ++ [e]).map EntP.recd, (1 ≤ r.kind ∧ r.kind ≤ 3) ∧ 0 ≤ r.tx ∧ r.tx < 60 := fun E e ih hk ht hf => by
  rw [List.map_append, List.map_append]
  refine ⟨List.nodup_append.2 ⟨ih.1, by simp, fun a ha b hb => ?_⟩, fun r hr => ?_⟩
  ·obtain rfl := List.mem_singleton.1 hb
   rintro rfl
   obtain ⟨r, hr, er⟩ := List.mem_map.1 ha
   have h1 := ih.2 r hr
   have er : r.kind * 60 + r.tx = e.recd.kind * 60 + e.recd.tx := er
   exact findR_none.1 hf r hr ⟨by omega, by omega⟩
  ·rcases List.mem_append.1 hr with hr | hr
   ·exact ih.2 r hr
   ·obtain rfl := List.mem_singleton.1 hr; exact ⟨hk, ht⟩
 induction h with
 | nil => exact ⟨.nil, by simp⟩
 | @prep E tx ops h1 h2 h3 h4 h5 h6 ih =>
  rw [List.map_append, List.filter_append, List.map_append] at hnd
  exact add _ _ (ih (List.nodup_append.1 hnd).1) ⟨by simp [EntP.recd], by simp [EntP.recd]⟩ (hlt _ (by simp only [EntP.recd]; rw [h2]; rfl)) h4
 | @dec E tx yes reads h1 h2 ih =>
  rw [List.map_append, List.filter_append, List.map_append] at hnd
  refine add _ _ (ih (List.nodup_append.1 hnd).1) ⟨by simp [EntP.recd], by simp [EntP.recd]⟩ (hlt _ h2) (findR_mem2.2 fun hm => ?_)
  exact (List.nodup_append.1 hnd).2.2 _ hm _ (by simp [EntP.recd]) rfl
 | @don E tx yes h1 h2 h3 ih =>
  rw [List.map_append, List.filter_append, List.map_append] at hnd
  exact add _ _ (ih (List.nodup_append.1 hnd).1) ⟨by simp [EntP.recd], by simp [EntP.recd]⟩ (hlt _ h2) h3
variable {P : ShP} {R : ShR} {t : Nat}
structure SizeOk (t : Nat) (s : ShR) : Prop where
 log : s.log.length ≤ 240
 waits : s.waits.length ≤ 1200
 timers : s.timers.length ≤ 120
 under : s.under.length ≤ 60
 und : ∀ u ∈ s.under, u.votes.length ≤ 4 ∧ u.acks.length ≤ t ∧ rightP u.ops
 locks : s.locks.length ≤ 26
 lops : ∀ r ∈ s.log, (∀ o ∈ r.ops, 97 ≤ o.k ∧ o.k ≤ 122) ∧ r.ops.length ≤ 6
 vals : s.vals.length = 26
 clock : 0 ≤ s.clock ∧ s.clock ≤ t
theorem sizes (H : RelS T n P R) (hT : TOk T) (hn : n ≤ 4) (h : InvS t R) : SizeOk t R := by
 have hk := H.lok.keys hT (by rw [H.log]; exact h.nd)
 rw [H.log] at hk
 have hlog : R.log.length ≤ 240 := by
  have := nodup_upto (c := 240) hk.1 (fun x hx => by
   obtain ⟨r, hr, rfl⟩ := List.mem_map.1 hx
   have := hk.2 r hr; omega)
  simpa using this
 have hlt : ∀ tx, (opsOf T tx).isSome = true → 0 ≤ tx ∧ tx < 60 := fun tx h => by
  obtain ⟨ops, h⟩ := Option.isSome_iff_exists.1 h
  have h1 := opsOf_lt h
  have h2 := hT.2
  omega
 have hun : ∀ u ∈ R.under, R.up = true ∧ ∃ a, UndOk T n R.me (u.tx, a) u := fun u hu => by
  by_cases hup : R.up = true
  ·refine ⟨hup, ?_⟩
   have key : ∀ {l : List (Int × UndP)} {m : List UndR}, F2 (UndOk T n R.me) l m → ∀ u ∈ m, ∃ a, UndOk T n R.me (u.tx, a) u := by
    intro l m hf
    induction hf with
    | nil => intro u hu; cases hu
    | cons h1 h2 ih =>
     intro u hu
     rcases List.mem_cons.1 hu with rfl | hu
     ·rename_i a _ _
      refine ⟨a.2, ?_⟩
      rw [← h1.tx]; exact h1
     ·exact ih u hu
   exact key (H.und hup) u hu
  ·have hup : R.up = false := by simpa using hup
   exact absurd hu (by rw [show R.under = [] from (H.dn hup).2.2.2.2.2]; simp)
 refine ⟨hlog, ?_, ?_, ?_, fun u hu => ?_, ?_, fun r hr => ?_, ?_, h.ck⟩
 ·have := h.wl
  have := H.gl
  omega
 ·have := nodup_upto (c := 120) (l := R.timers.map fun t => (if t.again then 60 else 0) + t.tx) (by
   have h1 := h.tn
   have h2 : ∀ x ∈ R.timers, 0 ≤ x.tx ∧ x.tx < 60 := fun x hx => hlt _ (H.tt x hx)
   unfold List.Nodup at h1 ⊢
   rw [List.pairwise_map] at h1 ⊢
   refine List.Pairwise.imp_of_mem (fun {a b} ha hb hab e => ?_) h1
   have ba := h2 a ha
   have bb := h2 b hb
   refine hab ?_
   cases ea : a.again <;> cases eb : b.again <;> simp only [ea, eb, if_true, if_false, Bool.false_eq_true] at e <;> first | (exfalso; omega) | (rw [Prod.mk.injEq]; exact ⟨rfl, by omega⟩)) (fun x hx => by
   obtain ⟨y, hy, rfl⟩ := List.mem_map.1 hx
   have := hlt _ (H.tt y hy)
   split <;> omega)
  simpa using this
 ·have := nodup_upto (c := 60) h.un (fun x hx => by
   obtain ⟨u, hu, rfl⟩ := List.mem_map.1 hx
   obtain ⟨_, a, ha⟩ := hun u hu
   exact hlt _ (by rw [ha.ops]; rfl))
  simpa using this
 ·obtain ⟨_, a, ha⟩ := hun u hu
  refine ⟨?_, h.an u hu, hT.of ha.ops⟩
  have := nodup_upto (c := 4) (h.vn u hu) (fun x hx => by
   obtain ⟨v, hv, rfl⟩ := List.mem_map.1 hx
   have h1 : (votedR u v.frm).isSome = true := by
    unfold votedR
    rw [List.find?_isSome]
    exact ⟨v, hv, by simp⟩
   have h2 := ha.ua.votes v.frm
   cases hg : getM a.votes v.frm with
   | none => rw [hg] at h2; cases hv2 : votedR u v.frm with
    | none => rw [hv2] at h1; cases h1
    | some z => rw [hv2] at h2; cases h2
   | some rd =>
    have h3 := (ha.ua.vt _ (getM_some_mem hg)).1
    have hnp : 0 < n := by have := H.mb; omega
    have := takes_lt (hT.of ha.ops) hnp h3
    simp only at this
    omega)
  simpa using this
 ·by_cases hup : R.up = true
  ·have hkl := H.kl hup
   have := nodup_upto (c := 26) (l := R.locks.map fun h => h.key - 97) (by
    have := hkl.ln
    unfold List.Nodup at this ⊢
    rw [List.pairwise_map] at this ⊢
    exact this.imp fun h e => h (by omega)) (fun x hx => by
    obtain ⟨y, hy, rfl⟩ := List.mem_map.1 hx
    obtain ⟨i, r, h1, h2, o, h3, h4⟩ := hkl.lk y hy
    obtain ⟨ops, g1, _, g3, _⟩ := H.lok.ready h1 h2
    rw [g3] at h3
    have := (hT.of g1).key o h3
    omega)
   simpa using this
  ·have hup : R.up = false := by simpa using hup
   rw [(H.dn hup).2.2.2.1]; simp
 ·obtain ⟨i, hi⟩ := List.getElem?_of_mem hr
  rw [← H.log] at hi
  obtain ⟨ops, g1, g2⟩ := H.lok.prepd i r hi
  have hk : r.kind ≠ 1 → r.ops = [] := by
   rw [List.getElem?_map] at hi
   cases he : P.log[i]? with
   | none => rw [he] at hi; cases hi
   | some e =>
    rw [he] at hi
    obtain rfl := Option.some.inj hi
    cases e with
    | prep => intro z; exact absurd rfl z
    | dec => intro _; rfl
    | don => intro _; rfl
  by_cases k1 : r.kind = 1
  ·obtain ⟨_, g3, _⟩ := g2 k1
   rw [g3]
   exact ⟨(hT.of g1).key, Nat.le_trans (List.length_filter_le ..) (hT.of g1).2.2.2⟩
  ·rw [hk k1]; simp
 ·by_cases hup : R.up = true
  ·exact (H.kl hup).vlen
  ·have hup : R.up = false := by simpa using hup
   rw [(H.dn hup).2.2.1]; rfl
end
theorem InvC.fresh {L : List RecR} {good : Int} {t : Nat} {W : List MsgR} (hnd : ((L.filter fun r => r.kind == 2).map (·.tx)).Nodup) (hg : (W.length : Int) ≤ 5 * (L.length - good)) : InvC t [] L [] W good 0 :=
 ⟨by simp, .nil, hnd, .nil, by simp, by simp, hg, by simp, by simp, ⟨Int.le_refl _, by omega⟩⟩
section
variable {t : Nat} {s : ShR}
end
def sumW (l : List ShR) : Nat := (l.map fun s => ws s.waits).sum
structure InvW (t : Nat) (w : WR) : Prop where
 sh : ∀ s ∈ w.sh, InvS t s
 phi : ws w.bag + sumW w.sh ≤ 300000
theorem sumW_le {c : Nat} : ∀ {l : List ShR}, (∀ s ∈ l, ws s.waits ≤ c) → sumW l ≤ l.length * c
 | [], _ => by simp [sumW]
 | s :: l, h => by
  have h1 := sumW_le (l := l) fun x hx => h x (List.mem_cons_of_mem _ hx)
  have h2 := h s (List.mem_cons_self ..)
  simp only [sumW, List.map_cons, List.sum_cons, List.length_cons, Nat.add_mul] at h1 ⊢
  omega
section
variable {t : Nat} {W : WP} {w : WR}
theorem InvW.size (I : InvW t w) (H : RelW W w) {s : ShR} (hs : s ∈ w.sh) : SizeOk t s ∧ 0 ≤ s.good ∧ s.good ≤ s.log.length ∧ s.n = w.sh.length ∧ s.out = [] := by
 obtain ⟨i, hi⟩ := List.getElem?_of_mem hs
 obtain ⟨hlt, _⟩ := List.getElem?_eq_some_iff.1 hi
 obtain ⟨P, R, h1, h2, h3, h4, h5⟩ := H.shard i hlt
 rw [hi] at h2
 obtain rfl := Option.some.inj h2
 exact ⟨sizes h3 H.tok (by have := H.n; omega) (I.sh _ hs), h3.gl.1, h3.gl.2, h3.n2, h5⟩
theorem InvW.waits (I : InvW t w) (H : RelW W w) : sumW w.sh ≤ 216000 := by
 have h1 : ∀ s ∈ w.sh, ws s.waits ≤ 54000 := fun s hs => by
  have := (I.size H hs).1.waits
  have := (ws_le s.waits).2
  omega
 have := sumW_le h1
 have := H.n
 have : w.sh.length * 54000 ≤ 4 * 54000 := Nat.mul_le_mul_right _ (by omega)
 omega
theorem InvW.mono (I : InvW t w) : InvW (t + 1) w := ⟨fun s hs => InvC.mono (I.sh s hs) (Nat.le_succ t), I.phi⟩
theorem InvW.push (I : InvW t w) (H : RelW W w) (hb : w.bag.length < 400) (m : MsgR) {txs : List TxR} : InvW (t + 1) { w with bag := w.bag ++ [m], txs := txs } := by
 refine ⟨I.mono.sh, ?_⟩
 have h1 := I.waits H
 have h2 := (ws_le w.bag).2
 have h3 := wt_pos m
 show ws (w.bag ++ [m]) + sumW w.sh ≤ _
 rw [ws_app, ws_one]; omega
theorem begin_invW (I : InvW t w) (H : RelW W w) (hb : w.bag.length < 400) (tx : Nat) : InvW (t + 1) (beginW w tx) := by
 unfold beginW
 split
 ·exact I.mono
 ·exact I.push H hb _
theorem submit_invW (I : InvW t w) (H : RelW W w) (ops : List OpR) : InvW (t + 1) (submitW w ops).1 := by
 unfold submitW
 split
 ·exact I.mono
 split
 ·exact I.mono
 split
 ·exact I.mono
 ·rename_i h
  dsimp only
  unfold beginW
  simp only [List.getElem?_append_right (Nat.le_refl _), Nat.sub_self, List.getElem?_cons_zero]
  exact I.push H (by omega) _
theorem ws_erase : ∀ {l : List MsgR} {i : Nat} {m : MsgR}, l[i]? = some m → ws (l.eraseIdx i) + wt m = ws l
 | x :: l, 0, m, h => by
  obtain rfl : x = m := by simpa using h
  simp [ws]; omega
 | x :: l, i + 1, m, h => by
  have := ws_erase (l := l) (i := i) (by simpa using h)
  simp only [List.eraseIdx_cons_succ]
  simp only [ws, List.map_cons, List.sum_cons] at this ⊢
  omega
theorem new_inv {n : Int} : InvW 0 (newW n) := by
 refine ⟨fun s hs => ?_, ?_⟩
 ·obtain ⟨k, _, rfl⟩ := List.mem_map.1 hs
  exact InvC.fresh .nil (Int.le_refl _)
 ·have : sumW (newW n).sh ≤ (newW n).sh.length * 0 := sumW_le fun s hs => by
   obtain ⟨k, _, rfl⟩ := List.mem_map.1 hs; exact Nat.le_refl _
  show 0 + _ ≤ _
  omega
end
end Go.Sl
end
section
namespace Go.Sl
section
variable {t : Nat} {W : WP} {w : WR}
theorem RelW.mops (H : RelW W w) {m : MsgR} (hm : m ∈ w.bag) : (∀ o ∈ m.ops, 97 ≤ o.k ∧ o.k ≤ 122) ∧ m.ops.length ≤ 6 := by
 obtain ⟨ops, ho, hc⟩ := H.msg m hm
 have hr := H.tok.of ho
 have h0 : (∀ o ∈ ops, 97 ≤ o.k ∧ o.k ≤ 122) ∧ ops.length ≤ 6 := ⟨fun o h => ⟨(hr.1 o h).1, (hr.1 o h).2.1⟩, hr.2.2.2⟩
 have hn : ∀ l : List OpR, l = [] → (∀ o ∈ l, 97 ≤ o.k ∧ o.k ≤ 122) ∧ l.length ≤ 6 := fun l h => by subst h; simp
 rcases hc with h | h | h | h | h | h | h
 ·rw [h.2.2.2]; exact h0
 ·rw [h.2.2.2]
  refine ⟨fun o ho => h0.1 o (List.mem_filter.1 ho).1, Nat.le_trans (List.length_filter_le _ _) h0.2⟩
 ·exact hn _ h.2.2.2.2
 ·exact hn _ h.2.2.2
 ·exact hn _ h.2.2.2
 ·exact hn _ h.2.2.2
 ·exact hn _ h.2.2
theorem InvW.bag (I : InvW t w) : w.bag.length ≤ 300000 := by
 have h1 := (ws_le w.bag).1
 have h2 := I.phi
 omega
theorem RelW.tops (H : RelW W w) {x : TxR} (hx : x ∈ w.txs) : (∀ o ∈ x.ops, 97 ≤ o.k ∧ o.k ≤ 122) ∧ x.ops.length ≤ 6 ∧ 1 ≤ x.ops.length := by
 have hr := H.tok.1 x.ops (by unfold opsL; exact List.mem_map.2 ⟨x, hx, rfl⟩)
 exact ⟨fun o h => ⟨(hr.1 o h).1, (hr.1 o h).2.1⟩, hr.2.2.2, hr.2.2.1⟩
theorem RelW.ntxs (H : RelW W w) : w.txs.length ≤ 60 := by
 have := H.tok.2
 have e := H.opsL_len
 omega
end
end Go.Sl
end
section
namespace Go.Sl
section
variable {φ : Int → Prop}
def RngO (φ : Int → Prop) (l : List OpR) : Prop := ∀ o ∈ l, φ o.v
def RngL (φ : Int → Prop) (l : List Int) : Prop := ∀ x ∈ l, φ x
def RngM (φ : Int → Prop) (m : MsgR) : Prop := RngO φ m.ops ∧ RngL φ m.reads
def RngR (φ : Int → Prop) (r : RecR) : Prop := RngO φ r.ops ∧ RngL φ r.reads
def RngU (φ : Int → Prop) (u : UndR) : Prop := RngO φ u.ops ∧ ∀ v ∈ u.votes, RngL φ v.reads
structure RngS (φ : Int → Prop) (s : ShR) : Prop where
 log : ∀ r ∈ s.log, RngR φ r
 vals : RngL φ s.vals
 und : ∀ u ∈ s.under, RngU φ u
 waits : ∀ m ∈ s.waits, RngM φ m
 out : ∀ m ∈ s.out, RngM φ m
structure RngW (φ : Int → Prop) (w : WR) : Prop where
 sh : ∀ s ∈ w.sh, RngS φ s
 bag : ∀ m ∈ w.bag, RngM φ m
 txs : ∀ t ∈ w.txs, RngO φ t.ops ∧ RngL φ t.reads
theorem RngL.nil : RngL φ [] := fun _ h => by cases h
theorem mem_snoc {A : Type} {p : A → Prop} {l : List A} {x : A} (h : ∀ y ∈ l, p y) (hx : p x) : ∀ y ∈ l ++ [x], p y := fun y hy => by
 rcases List.mem_append.1 hy with hy | hy
 ·exact h y hy
 ·obtain rfl := List.mem_singleton.1 hy; exact hx
theorem mem_eraseP {A : Type} {p : A → Prop} {l : List A} {i : Nat} (h : ∀ y ∈ l, p y) : ∀ y ∈ l.eraseIdx i, p y := fun y hy => h y ((List.eraseIdx_sublist ..).mem hy)
theorem zeros_rng (h0 : φ 0) : RngL φ zeros26 := fun x hx => by rw [List.eq_of_mem_replicate hx]; exact h0
theorem new_rng (h0 : φ 0) (n : Int) : RngW φ (newW n) := ⟨fun s hs => by
 obtain ⟨k, _, rfl⟩ := List.mem_map.1 hs
 exact ⟨by simp [newSh, forgetR], zeros_rng h0, by simp [newSh, forgetR], by simp [newSh, forgetR], by simp [newSh, forgetR]⟩, by simp [newW], by simp [newW]⟩
theorem begin_rng {w : WR} (h : RngW φ w) (tx : Nat) : RngW φ (beginW w tx) := by
 unfold beginW
 split
 ·exact h
 ·rename_i t e
  exact { h with bag := mem_snoc h.bag ⟨(h.txs t (List.mem_of_getElem? e)).1, .nil⟩ }
theorem submit_rng {w : WR} (h : RngW φ w) {ops : List OpR} (ho : RngO φ ops) : RngW φ (submitW w ops).1 := by
 unfold submitW
 split
 ·exact h
 split
 ·exact h
 split
 ·exact h
 ·exact begin_rng (w := { w with txs := w.txs ++ [⟨ops, 1, []⟩] }) { h with txs := mem_snoc h.txs ⟨ho, .nil⟩ } _
end
end Go.Sl
end
section
set_option linter.unusedVariables false
namespace Go.Sl
open Go.Proofs Go.Conc
theorem nodup_inj {A B : Type} {f : A → B} : ∀ {l : List A}, (l.map f).Nodup → ∀ {a b : A}, a ∈ l → b ∈ l → f a = f b → a = b
 | [], _, _, _, h, _, _ => by cases h
 | x :: l, h, a, b, ha, hb, e => by
  have nd := List.nodup_cons.1 (show (f x :: l.map f).Nodup from h)
  rcases List.mem_cons.1 ha with rfl | ha' <;> rcases List.mem_cons.1 hb with rfl | hb'
  ·rfl
  ·exact (nd.1 (List.mem_map.2 ⟨b, hb', e.symm⟩)).elim
  ·exact (nd.1 (List.mem_map.2 ⟨a, ha', e⟩)).elim
  ·exact nodup_inj nd.2 ha' hb' e
theorem getM_perm {V : Type} {l m : List (Int × V)} (hl : (l.map (·.1)).Nodup) (hm : (m.map (·.1)).Nodup) (h : ∀ p, p ∈ l ↔ p ∈ m) (k : Int) : getM l k = getM m k := by
 cases e : getM m k with
 | some v => exact getM_of_mem hl ((h _).2 (getM_some_mem e))
 | none =>
  cases e2 : getM l k with
  | none => rfl
  | some v =>
   have := getM_of_mem hm ((h _).1 (getM_some_mem e2))
   rw [e] at this; cases this
theorem KL.valJ {E : List EntP} {P : ShP} {L : List HeldR} {V : List Int} (H : KL E P L V) (hz : ∀ x ∈ V, I64 x) : ValJ P.values V := by
 refine ⟨H.vlen, hz, fun l' hnd hp => ?_⟩
 have hm : ∀ p, p ∈ l' ↔ p ∈ P.values ∧ p.2 ≠ 0 := fun p => by
  rw [hp.mem_iff, List.mem_filter]; simp
 have hg : ∀ x, (getM l' x).getD 0 = (getM P.values x).getD 0 := fun x => by
  cases e : getM l' x with
  | some w =>
   have := (hm _).1 (getM_some_mem e)
   rw [getM_of_mem H.vn this.1]
  | none =>
   cases e2 : getM P.values x with
   | none => rfl
   | some w =>
    by_cases hw : w = 0
    ·subst hw; rfl
    ·have := getM_of_mem hnd ((hm (x, w)).2 ⟨getM_some_mem e2, hw⟩)
     rw [e] at this; cases this
 have hv : ∀ k : Nat, k < 26 → (getM P.values (97 + (k : Int))).getD 0 = V[k]?.getD 0 := fun k hk => by
  rw [H.vals (97 + (k : Int)) (by omega) (by omega), show (97 + (k : Int) - 97).toNat = k by omega]
 constructor
 ·refine List.ext_getElem (by rw [vl26_len, H.vlen]) fun i h1 h2 => ?_
  have hi : i < 26 := by rw [vl26_len] at h1; exact h1
  rw [vl26_get 0 l' hi, hg, hv i hi, List.getElem?_eq_getElem h2]; rfl
 ·have hV : V = (List.range 26).map fun k => V[k]?.getD 0 := by
   refine List.ext_getElem (by rw [List.length_map, List.length_range, H.vlen]) fun i h1 h2 => ?_
   rw [List.getElem_map, List.getElem_range, List.getElem?_eq_getElem h1]; rfl
  have hc : cntN V = ((List.range 26).filter fun k => V[k]?.getD 0 != 0).length := by
   conv => lhs; rw [hV]
   unfold cntN
   rw [List.filter_map, List.length_map]; rfl
  rw [hc]
  refine Nat.le_antisymm ?_ ?_
  ·have := nodup_len (b := ((List.range 26).filter fun k => V[k]?.getD 0 != 0).map fun (k : Nat) => 97 + (k : Int)) hnd fun x hx => by
    obtain ⟨p, hp1, rfl⟩ := List.mem_map.1 hx
    obtain ⟨h1, h2⟩ := (hm p).1 hp1
    have hk := H.vk p h1
    refine List.mem_map.2 ⟨(p.1 - 97).toNat, List.mem_filter.2 ⟨List.mem_range.2 (by omega), ?_⟩, by omega⟩
    have := hv (p.1 - 97).toNat (by omega)
    rw [show (97 : Int) + ((p.1 - 97).toNat : Int) = p.1 by omega, getM_of_mem H.vn (show (p.1, p.2) ∈ P.values from h1)] at this
    rw [← this]; simpa using h2
   simpa using this
  ·have := nodup_len (a := ((List.range 26).filter fun k => V[k]?.getD 0 != 0).map fun (k : Nat) => 97 + (k : Int)) (b := l'.map (·.1)) ?_ fun x hx => by
    obtain ⟨k, hk, rfl⟩ := List.mem_map.1 hx
    obtain ⟨h1, h2⟩ := List.mem_filter.1 hk
    have h1 := List.mem_range.1 h1
    have h3 := hv k h1
    have h2 : V[k]?.getD 0 ≠ 0 := by simpa using h2
    rw [← h3] at h2
    cases e : getM P.values (97 + (k : Int)) with
    | none => rw [e] at h2; exact absurd rfl h2
    | some w =>
     rw [e] at h2
     exact List.mem_map.2 ⟨(97 + (k : Int), w), (hm _).2 ⟨getM_some_mem e, h2⟩, rfl⟩
   ·simpa using this
   ·exact List.Pairwise.map _ (fun a b h => by omega) (List.nodup_range.filter _)
theorem KL.lckJ {E : List EntP} {P : ShP} {L : List HeldR} {V : List Int} (H : KL E P L V) (hr : ∀ h ∈ L, 97 ≤ h.key ∧ h.key ≤ 122) : LckJ P.locks L := by
 have hf : ∀ h ∈ L, L.find? (fun x => x.key == h.key) = some h := fun h hh => by
  cases e : L.find? (fun x => x.key == h.key) with
  | none => have := List.find?_eq_none.1 e h hh; simp at this
  | some g =>
   have h1 := List.find?_some e
   have h2 := List.mem_of_find?_eq_some e
   rw [nodup_inj H.ln h2 hh (by simpa using h1)]
 refine ⟨hr, fun l' hnd hp => ⟨?_, fun h hh => ?_⟩⟩
 ·rw [hp.length_eq]
  refine Nat.le_antisymm ?_ ?_
  ·have := nodup_len (b := L.map (·.key)) H.pl fun x hx => by
    obtain ⟨p, hp1, rfl⟩ := List.mem_map.1 hx
    have h1 := getM_of_mem H.pl (show (p.1, p.2) ∈ P.locks from hp1)
    rw [H.lock] at h1
    cases e : L.find? (fun x => x.key == p.1) with
    | none => rw [e] at h1; cases h1
    | some g => exact List.mem_map.2 ⟨g, List.mem_of_find?_eq_some e, by have := List.find?_some e; simpa using this⟩
   simpa using this
  ·have := nodup_len (a := L.map (·.key)) (b := P.locks.map (·.1)) H.ln fun x hx => by
    obtain ⟨h, hh, rfl⟩ := List.mem_map.1 hx
    have h1 := H.lock h.key
    rw [hf h hh] at h1
    exact List.mem_map.2 ⟨_, getM_some_mem h1, rfl⟩
   simpa using this
 ·rw [getM_perm hnd H.pl (fun p => hp.mem_iff), H.lock, hf h hh]; rfl
section
variable {T : List (List OpR)} {n : Int} {P : ShP} {R : ShR} {t : Nat}
theorem RelS.valJ (H : RelS T n P R) (hz : ∀ x ∈ R.vals, I64 x) : ValJ P.values R.vals := by
 cases hu : R.up with
 | true => exact (H.kl hu).valJ hz
 | false =>
  obtain ⟨h1, _, h3, _⟩ := H.dn hu
  rw [h1, h3]
  refine ⟨rfl, fun x hx => by rw [List.eq_of_mem_replicate hx]; exact ⟨by decide, by decide⟩, fun l' hnd hp => ?_⟩
  obtain rfl : l' = [] := by simpa using hp
  exact ⟨vl26_nil 0, rfl⟩
theorem RelS.lckJ (H : RelS T n P R) (hT : TOk T) : LckJ P.locks R.locks := by
 cases hu : R.up with
 | true =>
  refine (H.kl hu).lckJ fun h hh => ?_
  obtain ⟨i, r, h1, h2, o, h3, h4⟩ := (H.kl hu).lk h hh
  obtain ⟨ops, h5, _, h6, _⟩ := H.lok.ready h1 h2
  rw [h6] at h3
  rw [← h4]
  exact (hT.of h5).key o h3
 | false =>
  obtain ⟨_, h2, _, h4, _⟩ := H.dn hu
  rw [h2, h4]
  refine ⟨by simp, fun l' hnd hp => ?_⟩
  obtain rfl : l' = [] := by simpa using hp
  exact ⟨rfl, by simp⟩
end
end Go.Sl
end
section
set_option linter.unusedVariables false
namespace Go.Sl
open Go.Proofs Go.Conc
structure PairI (I : HL) (t : Nat) (c : CV) (w : WV) : Prop where
 rel : RelW c.abs w.abs
 inv : InvW t w.abs
 rng : RngW I64 w.abs
 J : CvJ I c
 W : WI I w
 cn : CntC (t * 2 ^ 15) t c
 lt : t ≤ 2 ^ 41
section
variable {I : HL} {t : Nat} {c : CV} {w : WV}
theorem PairI.len (h : PairI I t c w) : c.hosts.length = w.sh.length := by have := h.rel.len; simpa [CV.abs, WV.abs] using this
theorem PairI.n (h : PairI I t c w) : 1 ≤ c.hosts.length ∧ c.hosts.length ≤ 4 := by have := h.rel.n; rw [WV.abs_sh] at this; rw [h.len]; exact this
theorem PairI.bag (h : PairI I t c w) : c.bag.map (·.toMsgR) = w.bag.map (·.toMsgR) := h.rel.bag
theorem PairI.txs (h : PairI I t c w) : c.txs.map (·.toTxR) = w.txs.map (·.toTxR) := h.rel.txs
theorem PairI.at (h : PairI I t c w) {q : Nat} (h1 : q < c.hosts.length) (h2 : q < w.sh.length) : RelS (opsL w.abs.txs) w.sh.length (c.hosts[q]).s.abs (w.sh[q]).2.abs ∧ SizeOk t (w.sh[q]).2.abs ∧ (w.sh[q]).2.abs.out = [] ∧ (w.sh[q]).2.abs.me = q := by
 have e1 : c.abs.sh[q]? = some (c.hosts[q]).s.abs := by simp [CV.abs, h1]
 have e2 : w.abs.sh[q]? = some (w.sh[q]).2.abs := by simp [WV.abs, h2]
 obtain ⟨a, b, d⟩ := h.rel.sh q _ _ e1 e2
 rw [WV.abs_sh] at a
 have hs := h.inv.size h.rel (List.mem_of_getElem? e2)
 exact ⟨a, hs.1, d, b⟩
theorem PairI.host (h : PairI I t c w) {v : HV} (hv : v ∈ c.hosts) : ∃ R, R ∈ w.abs.sh ∧ RelS (opsL w.abs.txs) w.sh.length v.s.abs R ∧ SizeOk t R ∧ R.out = [] := by
 obtain ⟨q, hq, rfl⟩ := List.getElem_of_mem hv
 have h2 : q < w.sh.length := by rw [← h.len]; exact hq
 obtain ⟨a, b, d, _⟩ := h.at hq h2
 exact ⟨_, List.mem_map.2 ⟨_, List.getElem_mem h2, rfl⟩, a, b, d⟩
theorem PairI.msg (h : PairI I t c w) {m : MsgV} (hm : m ∈ c.bag) : m.toMsgR ∈ w.abs.bag := by
 have : m.toMsgR ∈ c.bag.map (·.toMsgR) := List.mem_map.2 ⟨m, hm, rfl⟩
 rw [h.bag] at this; exact this
theorem PairI.bagl (h : PairI I t c w) : c.bag.length ≤ 300000 := by
 have h1 := h.inv.bag
 have := congrArg List.length h.bag
 simp only [List.length_map] at this
 rw [WV.abs_bag] at h1
 omega
theorem PairI.tx (h : PairI I t c w) {x : TxV} (hx : x ∈ c.txs) : x.toTxR ∈ w.abs.txs := by
 have : x.toTxR ∈ c.txs.map (·.toTxR) := List.mem_map.2 ⟨x, hx, rfl⟩
 rw [h.txs] at this; exact this
theorem PairI.cvb (h : PairI I t c w) : CvB c := by
 refine ⟨h.n, by have := h.bagl; omega, ?_, fun x hx => ?_⟩
 ·have h1 := h.rel.ntxs
  have := congrArg List.length h.txs
  simp only [List.length_map] at this
  rw [WV.abs_txs] at h1
  omega
 ·have := h.rel.tops (h.tx hx)
  exact ⟨⟨this.1, by have := this.2.1; omega⟩, this.2.2⟩
theorem PairI.ask (h : PairI I t c w) : AskJ I c w := by
 have hb := h.cvb
 have hlq : ∀ (q : Nat) (h1 : q < c.hosts.length) (h2 : q < w.sh.length), (c.hosts[q]).s.log.map (·.abs.recd) = (w.sh[q]).2.log.map (·.toRecR) := fun q h1 h2 => by
  have := (h.at h1 h2).1.log
  simpa [ShX.abs, ShV.abs, List.map_map, Function.comp_def] using this
 refine ⟨hb.n.2, h.J, h.W, h.len, h.bag, fun m hm => ?_, by have := hb.bag; omega, fun m hm => ?_, h.txs, hb.txs, fun x hx => ?_, fun v hv => ?_, fun q h1 h2 => ⟨hlq q h1 h2, (h.at h1 h2).1.good⟩, fun p hp r hr => ?_, fun q h1 h2 => ?_, fun q h1 h2 => ?_, fun p hp => ?_, fun q h1 h2 => (h.at h1 h2).1.up⟩
 ·have := (h.rel.mops (h.msg hm)).2
  have : m.ops.length ≤ 6 := this
  omega
 ·have h1 : m.toMsgR ∈ w.abs.bag := List.mem_map.2 ⟨m, hm, rfl⟩
  have h2 := h.rel.mops h1
  have h3 := h.rng.bag _ h1
  exact ⟨fun o ho => ⟨by have := h2.1 o ho; omega, h3.1 o ho⟩, h3.2⟩
 ·exact (h.rng.txs x.toTxR (List.mem_map.2 ⟨x, hx, rfl⟩)).2
 ·obtain ⟨R, hRm, a, b', d⟩ := h.host hv
  have hlog : v.s.log.length = R.log.length := by have := congrArg List.length a.log; simpa [ShX.abs] using this
  have := b'.log; omega
 ·obtain ⟨q, h2, rfl⟩ := List.getElem_of_mem hp
  have h1 : q < c.hosts.length := by rw [h.len]; exact h2
  have hr1 : r.toRecR ∈ (w.sh[q]).2.log.map (·.toRecR) := List.mem_map.2 ⟨r, hr, rfl⟩
  have hz := (h.at h1 h2).2.1.lops r.toRecR hr1
  have hg := (h.rng.sh _ (List.mem_map.2 ⟨_, List.getElem_mem h2, rfl⟩)).log r.toRecR hr1
  rw [← hlq q h1 h2] at hr1
  obtain ⟨e, he, hre⟩ := List.mem_map.1 hr1
  have hJ := (h.J.sh _ (List.getElem_mem h1)).log e he
  refine ⟨fun o ho => ⟨by have := hz.1 o ho; omega, hg.1 o ho⟩, hg.2, by have := hz.2; omega, ?_⟩
  rw [← hre]
  cases e with
  | prep tx home ops so => exact Nat.two_pow_pos 20
  | dec tx yes reads sr => exact hJ.2
  | don tx yes => exact Nat.two_pow_pos 20
 ·exact (h.at h1 h2).1.valJ (h.rng.sh _ (List.mem_map.2 ⟨_, List.getElem_mem h2, rfl⟩)).vals
 ·exact (h.at h1 h2).1.lckJ h.rel.tok
 ·obtain ⟨q, h2, rfl⟩ := List.getElem_of_mem hp
  have h1 : q < c.hosts.length := by rw [h.len]; exact h2
  have := (h.at h1 h2).2.1.locks
  have : (w.sh[q]).2.locks.length ≤ 26 := this
  omega
end
end Go.Sl
end
section
set_option linter.unusedVariables false
namespace Go.Sl
open Go.Proofs Go.Conc
def Owns (A : HP) (l : List Nat) : Prop := ∀ h, A h → l.Nodup ∧ ∀ b ∈ l, ∃ o, h b = some o
theorem Owns.nil {A : HP} : Owns A [] := fun h _ => ⟨List.nodup_nil, by simp⟩
theorem Owns.pts {b : Nat} {o : Obj} : Owns (pts b o) [b] := fun h e => ⟨by simp, fun x hx => by
 obtain rfl := List.mem_singleton.1 hx
 have e : h = one x o := e
 exact ⟨o, by rw [e]; simp [one]⟩⟩
theorem Owns.all {As : List HP} {ls : List (List Nat)} (h : F2 Owns As ls) : Owns (all As) ls.flatten := by
 have key : ∀ {As : List HP} {ls : List (List Nat)}, F2 Owns As ls → ∀ h, Sat As h → ls.flatten.Nodup ∧ ∀ b ∈ ls.flatten, ∃ o, h b = some o := by
  intro As ls hh
  induction hh with
  | nil => intro h _; exact ⟨List.nodup_nil, by simp⟩
  | @cons A l As ls ha _ ih =>
   rintro h ⟨h1, a, s1, r⟩
   obtain ⟨n1, o1⟩ := ha h1 a
   obtain ⟨n2, o2⟩ := ih _ r
   simp only [List.flatten_cons]
   refine ⟨List.nodup_append.2 ⟨n1, n2, fun x hx y hy e => ?_⟩, fun b hb => ?_⟩
   ·subst e
    obtain ⟨o, ho⟩ := o1 x hx
    obtain ⟨o', ho'⟩ := o2 x hy
    unfold less at ho'
    rw [ho] at ho'
    cases ho'
   ·rcases List.mem_append.1 hb with hb | hb
    ·obtain ⟨o, ho⟩ := o1 b hb; exact ⟨o, s1 _ _ ho⟩
    ·obtain ⟨o, ho⟩ := o2 b hb; exact ⟨o, less_sub _ _ ho⟩
 exact key h
theorem Owns.ex {X : Type} {A : X → HP} {l : List Nat} (h : ∀ x, Owns (A x) l) : Owns (fun H => ∃ x, A x H) l := fun H ⟨x, a⟩ => h x H a
def HV.chans (v : HV) : List Nat := [v.h.wk, v.h.rd]
def CV.chans (c : CV) : List Nat := c.hosts.flatMap HV.chans ++ [c.G.dn]
theorem hostE_owns (v : HV) : Owns (hostE v) v.chans := by
 have := Owns.all (As := hostO v []) (ls := [[], [v.h.wk], [v.h.rd], [], []]) (.cons .nil (.cons .pts (.cons .pts (.cons .nil (.cons .nil .nil)))))
 exact this
theorem hosts_own (l : List HV) : Owns (all (l.map hostE)) (l.flatMap HV.chans) := by
 refine Owns.all (ls := l.map HV.chans) ?_
 induction l with
 | nil => exact .nil
 | cons v l ih => exact .cons (hostE_owns v) ih
theorem cvM_owns (m : Int) (c : CV) : Owns (cvM m c) c.chans := by
 refine Owns.ex fun hs => Owns.ex fun bg => Owns.ex fun tx => ?_
 have := Owns.all (As := cvO c m c.st hs bg tx []) (ls := [[], [], [], [], c.hosts.flatMap HV.chans, [c.G.dn], []]) (.cons .nil (.cons .nil (.cons .nil (.cons .nil (.cons (hosts_own _) (.cons .pts (.cons .nil .nil)))))))
 simpa [CV.chans] using this
structure Reg (σ : Gh) (L : List CV) : Prop where
 ok : GhOk σ
 reg : ∀ c ∈ L, c.stopped = false → RegD σ c
 only : ∀ i s, σ.seats i = some s → ∃ c ∈ L, c.stopped = false ∧ ∃ v ∈ c.hosts, v.h.g = i ∧ s = seatW v.h c.G
theorem Reg.nil {σ : Gh} (h : Idle0 σ) : Reg σ [] := ⟨h.ok, by simp, fun i s e => by rw [h.no] at e; cases e⟩
theorem Reg.set {σ : Gh} {L : List CV} (h : Reg σ L) {i : Nat} (hi : i < L.length) {c' : CV} (hG : c'.G = L[i].G) (hh : c'.hosts.map (·.h) = L[i].hosts.map (·.h)) (hst : c'.stopped = L[i].stopped) : Reg σ (L.set i c') := by
 refine ⟨h.ok, fun c hc hs => ?_, fun j s e => ?_⟩
 ·rcases List.mem_or_eq_of_mem_set hc with hc | rfl
  ·exact h.reg c hc hs
  ·exact (h.reg _ (List.getElem_mem hi) (hst ▸ hs)).same hG hh
 ·obtain ⟨c, hc, h1, v, hv, h2, h3⟩ := h.only j s e
  obtain ⟨q, hq, rfl⟩ := List.getElem_of_mem hc
  by_cases z : q = i
  ·subst z
   have : v.h ∈ L[q].hosts.map (·.h) := List.mem_map_of_mem hv
   rw [← hh] at this
   obtain ⟨u, hu, e2⟩ := List.mem_map.1 this
   refine ⟨c', List.mem_iff_getElem.2 ⟨q, by simpa using hq, by simp⟩, hst.trans h1, u, hu, by rw [e2]; exact h2, by rw [e2, hG]; exact h3⟩
  ·exact ⟨L[q], List.mem_iff_getElem.2 ⟨q, by simpa using hq, by rw [List.getElem_set_ne (by omega)]⟩, h1, v, hv, h2, h3⟩
theorem CV.mem_chans {c : CV} {v : HV} (hv : v ∈ c.hosts) : v.h.wk ∈ c.chans ∧ v.h.rd ∈ c.chans ∧ c.G.dn ∈ c.chans := by
 refine ⟨List.mem_append_left _ (List.mem_flatMap.2 ⟨v, hv, by simp [HV.chans]⟩), List.mem_append_left _ (List.mem_flatMap.2 ⟨v, hv, by simp [HV.chans]⟩), List.mem_append_right _ (by simp)⟩
theorem CV.rd_ne {c : CV} (nd : c.chans.Nodup) {v u : HV} (hv : v ∈ c.hosts) (hu : u ∈ c.hosts) : v.h.rd ≠ u.h.wk ∧ v.h.rd ≠ c.G.dn := by
 have h1 := List.nodup_append.1 nd
 refine ⟨fun e => ?_, fun e => h1.2.2 _ (List.mem_flatMap.2 ⟨v, hv, by simp [HV.chans]⟩) _ (List.mem_singleton.2 rfl) e⟩
 have h2 := h1.1
 obtain ⟨p, hp, rfl⟩ := List.getElem_of_mem hv
 obtain ⟨q, hq, rfl⟩ := List.getElem_of_mem hu
 have h3 := List.pairwise_flatMap.1 h2
 by_cases z : p = q
 ·subst z
  have := h3.1 _ (List.getElem_mem hp)
  simp [HV.chans] at this
  exact this e.symm
 ·have hpw := List.pairwise_iff_getElem.1 h3.2
  rcases Nat.lt_or_gt_of_ne z with z | z
  ·exact hpw p q hp hq z c.hosts[p].h.rd (by simp [HV.chans]) _ (by simp [HV.chans]) e
  ·exact hpw q p hq hp z _ (by simp [HV.chans]) c.hosts[p].h.rd (by simp [HV.chans]) e.symm
theorem seat_chans {c : CV} {v : HV} (hv : v ∈ c.hosts) {x : Nat} (h : (seatW v.h c.G).has x) : x ∈ c.chans := by
 rcases seatW_has.1 h with rfl | rfl
 ·exact (CV.mem_chans hv).1
 ·exact (CV.mem_chans hv).2.2
theorem Reg.new {σ σ' : Gh} {L : List CV} (h : Reg σ L) {c : CV} (N : NewGh σ σ' c.G c.hosts) (hn : 1 ≤ c.hosts.length ∧ c.hosts.length ≤ 4) (hs : c.stopped = false) (nd : ((L ++ [c]).flatMap CV.chans).Nodup) : Reg σ' (L ++ [c]) := by
 have nd1 : (L.flatMap CV.chans).Nodup ∧ c.chans.Nodup ∧ ∀ a ∈ L.flatMap CV.chans, ∀ b ∈ c.chans, a ≠ b := by
  rw [List.flatMap_append] at nd
  have := List.nodup_append.1 nd
  simpa using this
 have far : ∀ c' ∈ L, ∀ x ∈ c'.chans, x ∉ c.chans := fun c' hc' x hx hx' => nd1.2.2 x (List.mem_flatMap.2 ⟨c', hc', hx⟩) x hx' rfl
 have hold : ∀ i s, σ.seats i = some s → i < σ.n ∧ σ'.seats i = some s := fun i s e => by
  have := h.ok.lt i s e
  exact ⟨this, by rw [N.old i this]; exact e⟩
 have key : ∀ i s, σ'.seats i = some s → (i < σ.n ∧ σ.seats i = some s) ∨ (σ.n ≤ i ∧ ∃ v ∈ c.hosts, v.h.g = i ∧ s = seatW v.h c.G) := fun i s e => by
  rcases Nat.lt_or_ge i σ.n with h1 | h1
  ·rw [N.old i h1] at e; exact .inl ⟨h1, e⟩
  ·exact .inr ⟨h1, N.new i s h1 e⟩
 refine ⟨⟨by have := N.n; have := h.ok.n; omega, fun i s e => ?_⟩, fun c' hc' hs => ?_, fun i s e => ?_⟩
 ·rcases key i s e with ⟨h1, _⟩ | ⟨_, v, hv, rfl, _⟩
  ·have := N.n; omega
  ·exact (N.has v hv).2.2
 ·rcases List.mem_append.1 hc' with hc' | hc'
  ·have r := h.reg c' hc' hs
   refine ⟨⟨fun v hv => (hold _ _ (r.seats v hv)).2, r.nd, fun i s e hd => ?_, fun v hv i s e hd => ?_, r.wd, (N.sh _).2 (.inl r.sh7), (N.sh _).2 (.inl r.sh8), r.n⟩, fun v hv i s e hd => ?_⟩
   ·rcases key i s e with ⟨_, e⟩ | ⟨_, u, hu, _, rfl⟩
    ·exact r.only i s e hd
    ·obtain ⟨v, hv⟩ := List.exists_mem_of_ne_nil _ (List.ne_nil_of_length_pos (show 0 < c'.hosts.length by have := r.n; omega))
     exact absurd (seat_chans hu hd) (far c' hc' _ (CV.mem_chans hv).2.2)
   ·rcases key i s e with ⟨_, e⟩ | ⟨_, u, hu, _, rfl⟩
    ·exact r.wk v hv i s e hd
    ·exact absurd (seat_chans hu hd) (far c' hc' _ (CV.mem_chans hv).1)
   ·rcases key i s e with ⟨_, e⟩ | ⟨_, u, hu, _, rfl⟩
    ·exact r.rdn v hv i s e hd
    ·exact absurd (seat_chans hu hd) (far c' hc' _ (CV.mem_chans hv).2.1)
  ·obtain rfl := List.mem_singleton.1 hc'
   refine ⟨⟨fun v hv => (N.has v hv).1, N.gnd, fun i s e hd => ?_, fun v hv i s e hd => ?_, N.wd, (N.sh _).2 (.inr (.inl rfl)), (N.sh _).2 (.inr (.inr rfl)), hn⟩, fun v hv i s e hd => ?_⟩
   ·rcases key i s e with ⟨_, e⟩ | ⟨_, u, hu, h2, _⟩
    ·exact absurd hd (N.fd i s e)
    ·exact ⟨u, hu, h2⟩
   ·rcases key i s e with ⟨_, e⟩ | ⟨_, u, hu, rfl, rfl⟩
    ·exact absurd hd (N.fw v hv i s e)
    ·rcases seatW_has.1 hd with h2 | h2
     ·have nd := N.wnd
      obtain ⟨p, hp, rfl⟩ := List.getElem_of_mem hv
      obtain ⟨q, hq, rfl⟩ := List.getElem_of_mem hu
      have : p = q := (List.getElem_inj (h₀ := by simpa using hp) (h₁ := by simpa using hq) nd).1 (by simpa using h2)
      subst this; rfl
     ·exact absurd h2 (N.wd v hv)
   ·rcases key i s e with ⟨_, e⟩ | ⟨_, u, hu, _, rfl⟩
    ·obtain ⟨c2, hc2, _, u, hu, _, rfl⟩ := h.only i s e
     exact far c2 hc2 _ (seat_chans hu hd) (CV.mem_chans hv).2.1
    ·have := CV.rd_ne nd1.2.1 hv hu
     rcases seatW_has.1 hd with h2 | h2
     ·exact this.1 h2
     ·exact this.2 h2
 ·rcases key i s e with ⟨_, e⟩ | ⟨_, u, hu, h2, h3⟩
  ·obtain ⟨c2, hc2, h1, h2⟩ := h.only i s e
   exact ⟨c2, List.mem_append_left _ hc2, h1, h2⟩
  ·exact ⟨c, by simp, hs, u, hu, h2, h3⟩
theorem Reg.stop {σ : Gh} {L : List CV} (h : Reg σ L) {i : Nat} (hi : i < L.length) (nd : (L.flatMap CV.chans).Nodup) : Reg (if L[i].stopped then σ else σ.joined L[i].ids) (L.set i { L[i] with stopped := true }) := by
 have far : ∀ (p q : Nat) (hp : p < L.length) (hq : q < L.length), p ≠ q → ∀ x ∈ L[p].chans, x ∉ L[q].chans := fun p q hp hq z x hx hx' => by
  have h3 := List.pairwise_iff_getElem.1 (List.pairwise_flatMap.1 nd).2
  rcases Nat.lt_or_gt_of_ne z with z | z
  ·exact h3 p q hp hq z x hx x hx' rfl
  ·exact h3 q p hq hp z x hx' x hx rfl
 by_cases hs : L[i].stopped = true
 ·rw [if_pos hs]
  exact h.set hi rfl rfl hs.symm
 ·rw [if_neg hs]
  have hs : L[i].stopped = false := by simpa using hs
  have ri := h.reg _ (List.getElem_mem hi) hs
  have key : ∀ j s, (σ.joined L[i].ids).seats j = some s → σ.seats j = some s ∧ j ∉ L[i].ids := fun j s e => by
   have e : (if j ∈ L[i].ids then none else σ.seats j) = some s := e
   split at e
   ·cases e
   ·exact ⟨e, by assumption⟩
  refine ⟨⟨h.ok.n, fun j s e => h.ok.lt j s (key j s e).1⟩, fun c hc hcs => ?_, fun j s e => ?_⟩
  ·obtain ⟨q, hq, rfl⟩ := List.getElem_of_mem hc
   have hq' : q < L.length := by simpa using hq
   by_cases z : q = i
   ·subst z
    rw [List.getElem_set_self] at hcs
    cases hcs
   ·rw [List.getElem_set_ne (by omega)] at hcs ⊢
    have r := h.reg _ (List.getElem_mem hq') hcs
    refine ⟨⟨fun v hv => ?_, r.nd, fun j s e hd => r.only j s (key j s e).1 hd, fun v hv j s e hd => r.wk v hv j s (key j s e).1 hd, r.wd, r.sh7, r.sh8, r.n⟩, fun v hv j s e hd => r.rdn v hv j s (key j s e).1 hd⟩
    have h1 := r.seats v hv
    have h2 : v.h.g ∉ L[i].ids := fun hm => by
     obtain ⟨u, hu, e2⟩ := List.mem_map.1 hm
     have h3 := ri.seats u hu
     rw [e2, h1] at h3
     have h4 : (seatW u.h L[i].G).has v.h.wk := by
      rw [← Option.some.inj h3]; exact seatW_has.2 (.inl rfl)
     exact far q i hq' hi z _ (CV.mem_chans hv).1 (seat_chans hu h4)
    show (if v.h.g ∈ L[i].ids then none else σ.seats v.h.g) = _
    rw [if_neg h2]; exact h1
  ·obtain ⟨h1, h2⟩ := key j s e
   obtain ⟨c, hc, h3, v, hv, h4, h5⟩ := h.only j s h1
   obtain ⟨q, hq, rfl⟩ := List.getElem_of_mem hc
   have z : q ≠ i := fun z => by
    subst z
    exact h2 (List.mem_map.2 ⟨v, hv, h4⟩)
   exact ⟨L[q], List.mem_iff_getElem.2 ⟨q, by simpa using hq, by rw [List.getElem_set_ne (by omega)]⟩, h3, v, hv, h4, h5⟩
theorem Reg.idle {σ : Gh} {L : List CV} (h : Reg σ L) (hs : ∀ c ∈ L, c.stopped = true) : Idle0 σ := ⟨h.ok.n, fun i => by
 cases e : σ.seats i with
 | none => rfl
 | some s =>
  obtain ⟨c, hc, h1, _⟩ := h.only i s e
  rw [hs c hc] at h1; cases h1⟩
end Go.Sl
end
section
set_option linter.unusedVariables false
namespace Go.Sl
open Go.Proofs Go.Conc
section
variable {P : Program} {main : Bool} {B : Bad} {R : Nat → Goroutine → Array Obj → Prop} {d : Nat} {As W L : List HP}
variable {fn : FuncId} {kd : Kd} {n : Nat} {e : Nat → Value} {ds : List Deferred} {k : List Item} {cs : List Frame}
variable {ops : Array Oper} {i : Nat} {rest : List Nat} {t : Nat} {ty : TypeId} {pos : String} {af : Array Edge} {gd : Option (Nat × Bool)} {x : Operand} {v : Value} {b off : Nat} {c : Array Value} {el tt : TypeId}
theorem Closed.ldK1 (C : Closed P main B R) {fr : Nat × Nat} [Ag P tt false] (hk : Kn As b (.cells c el fr)) (hs : B.sh el off = false) (hc : c[off]? = some v) (ho : nthO ops i = some ⟨some t, .load tt x, ty, pos, af, gd⟩) (h : At R d As (gr fn kd n (put e t v) ds (.inRegion ops rest :: k) cs))
  (hx : ev n e x = .pointer (some ⟨b, off, none⟩) := by rfl) (hw : wantB ops n e gd = true := by rfl) : At R d As (gr fn kd n e ds (.inRegion ops (i :: rest) :: k) cs) :=
 C.gen ho hw fun H st => by
  unfold execOp; simp only [hx, Instr.loadAt, Instr.sureAddr]
  exact okS_do (okS_do (okS_pure (okS_loadVar1 (hk _ st) hc hs ⟨As, st, h⟩)))
end
theorem nbad_spec {σ : Gh} {n : Int} {I : HL} {eb : Nat → Nat × Nat} (hE : ErrI I eb) (hn : n < 1 ∨ 4 < n) : Spec Tryz.prog true (barX.bw σ) 27 #[.int .i64 n] [imm I] (fun v As => v = .tuple #[.pointer none, errV (eb 0)] ∧ As = [imm I]) := by
 refine Spec.of ?_
 intro R C kd d F c' cs hkd hret
 simp only [List.cons_append, List.nil_append]
 obtain ⟨t0, h0⟩ := hE.g 0 (by decide)
 refine C.go ?_
 refine C.rg [0, 1] ?_
 refine C.asg rfl ?_
 refine C.asg rfl ?_
 refine C.go ?_
 refine C.rg [0, 1, 2, 3, 4, 5] ?_
 refine C.mv rfl ?_
 by_cases h1 : n < 1
 ·refine C.cmpT rfl ?_
  refine C.mv rfl ?_
  refine C.no rfl ?_
  refine C.no rfl ?_
  refine C.pk rfl ?_
  refine C.go ?_
  refine C.tru ?_
  refine C.drawn [(13, 0), (2, 1), (3, 2)] [0, 1, 2] [] 0 ?_
  refine Dr.ld (v := errV (eb 0)) ⟨_, rfl, rfl⟩ (fun _ hE _ _ h => C.ldK1 (hE.immK (by (repeat (first | with_reducible exact Fo.head | with_reducible apply Fo.tail))) h0) (shG0' _ _) rfl rfl h) ?_
  refine Dr.pu ⟨_, rfl, rfl⟩ (fun _ _ _ h => C.asg rfl h) ?_
  refine Dr.pu ⟨_, rfl, rfl⟩ (fun _ _ _ h => C.asg rfl h) ?_
  refine Dr.chain rfl ?_
  refine Ch.fin ?_
  refine C.go ?_
  exact C.retR hkd hret ⟨rfl, rfl⟩
 ·refine C.cmpF rfl ?_
  refine C.mv rfl ?_
  refine C.mv rfl ?_
  refine C.cmpT rfl ?_
  refine C.pk rfl ?_
  refine C.go ?_
  refine C.tru ?_
  refine C.drawn [(13, 0), (2, 1), (3, 2)] [0, 1, 2] [] 0 ?_
  refine Dr.ld (v := errV (eb 0)) ⟨_, rfl, rfl⟩ (fun _ hE _ _ h => C.ldK1 (hE.immK (by (repeat (first | with_reducible exact Fo.head | with_reducible apply Fo.tail))) h0) (shG0' _ _) rfl rfl h) ?_
  refine Dr.pu ⟨_, rfl, rfl⟩ (fun _ _ _ h => C.asg rfl h) ?_
  refine Dr.pu ⟨_, rfl, rfl⟩ (fun _ _ _ h => C.asg rfl h) ?_
  refine Dr.chain rfl ?_
  refine Ch.fin ?_
  refine C.go ?_
  exact C.retR hkd hret ⟨rfl, rfl⟩
theorem pnew_bad {σ : Gh} {n : Int} {I : HL} {eb : Nat → Nat × Nat} (hE : ErrI I eb) (hn : n < 1 ∨ 4 < n) : Spec Tryz.prog true (barX.bw σ) 14 #[.int .i64 n] [imm I] (fun v As => v = .tuple #[.pointer none, .int .i64 1] ∧ As = [imm I]) := by
 refine Spec.of ?_
 intro R C kd d F c' cs hkd hret
 simp only [List.cons_append, List.nil_append]
 obtain ⟨t0, h0⟩ := hE.g 0 (by decide)
 obtain ⟨ck, tk, hck⟩ := hE.e 0 (by decide)
 refine C.go ?_
 refine C.rg [0, 1] ?_
 refine C.asg rfl ?_
 refine C.asg rfl ?_
 refine C.go ?_
 refine C.rg [0, 1, 2, 3, 4, 5, 6] ?_
 refine C.mv rfl ?_
 refine C.clR (nbad_spec hE hn) ?_
 rintro v As' ⟨rfl, rfl⟩
 simp only [List.cons_append, List.nil_append]
 refine C.mv rfl ?_
 refine C.ext rfl ?_
 refine C.ext rfl ?_
 refine C.asg rfl ?_
 refine C.asg rfl ?_
 refine C.go ?_
 refine C.rg [0, 1, 2] ?_
 refine C.mv rfl ?_
 refine C.eqZ Tryz.underlying46 rfl ?_
 refine C.asg rfl ?_
 refine C.go ?_
 refine C.fls ?_
 refine C.rg [0, 1, 2, 3] ?_
 refine C.mv rfl ?_
 refine C.ldG (v := errV (eb 0)) (by (repeat (first | with_reducible exact Fo.head | with_reducible apply Fo.tail))) h0 (shG0' _ _) rfl ?_
 refine C.eqP (r := true) (b1 := (eb 0).1) (o1 := (eb 0).2) (b2 := (eb 0).1) (o2 := (eb 0).2) Tryz.underlying46 (info_of Tryz.type339) rfl rfl ?_ (fun H s => (s.perm (Fo.perm (show Fo (imm I) _ _ from (by (repeat (first | with_reducible exact Fo.head | with_reducible apply Fo.tail)))))).getI hck) (fun H s => (s.perm (Fo.perm (show Fo (imm I) _ _ from (by (repeat (first | with_reducible exact Fo.head | with_reducible apply Fo.tail)))))).getI hck)
 rw [show (decide ((eb 0).1 = (eb 0).1 ∧ (eb 0).2 = (eb 0).2) == true) = true by simp]
 refine C.asg rfl ?_
 refine C.go ?_
 refine C.tru ?_
 refine C.rg [0, 1, 2] ?_
 refine C.mv rfl ?_
 refine C.asg rfl ?_
 refine C.asg rfl ?_
 refine C.go ?_
 exact C.retR hkd hret ⟨rfl, rfl⟩
section
variable {I I' I'' : HL} {t : Nat} {c c' : CV} {w w' : WV}
theorem PairI.cn1 (h : PairI I t c w) : CntC ((t + 1 : Nat) * 2 ^ 15) (t + 1 : Nat) c := fun v hv => (h.cn v hv).mono (by omega) (by omega)
theorem PairI.stop (h : PairI I t c w) : PairI I t { c with stopped := true } { w with stopped := true } :=
 ⟨stop_relW h.rel, ⟨h.inv.sh, h.inv.phi⟩, ⟨h.rng.sh, h.rng.bag, h.rng.txs⟩, ⟨h.J.bag, h.J.txs, h.J.sh⟩, ⟨h.W.sh, h.W.bag, h.W.txs⟩, h.cn, h.lt⟩
theorem PairI.mono (h : PairI I t c w) (hs : Sub I I') : PairI I' t c w := { h with J := h.J.mono hs, W := h.W.mono hs }
theorem PairI.new {n : Int} (hn : 1 ≤ n ∧ n ≤ 4) (h1 : c.hosts.map (·.s) = ((upto n).map fun k => newSX k n)) (h2 : c.bag = []) (h3 : c.txs = []) (h4 : c.stopped = false) (hw : w.abs = newW n) (hW : WI I w) : PairI I 0 c w := by
 have hc : c.abs = newWP n := by
  unfold CV.abs newWP
  rw [h2, h3, h4]
  have : c.hosts.map (fun v => v.s.abs) = (c.hosts.map (·.s)).map (·.abs) := by simp [List.map_map, Function.comp_def]
  rw [this, h1]
  simp [List.map_map, Function.comp_def, newSX_abs]
 have key : ∀ v ∈ c.hosts, ∃ k, v.s = newSX k n := fun v hv => by
  have : v.s ∈ c.hosts.map (·.s) := List.mem_map_of_mem hv
  rw [h1] at this
  obtain ⟨k, _, e⟩ := List.mem_map.1 this
  exact ⟨k, e.symm⟩
 refine ⟨by rw [hc, hw]; exact new_rel hn, by rw [hw]; exact new_inv, by rw [hw]; exact new_rng (by unfold I64; omega) n, ⟨by simp [h2], by simp [h3], fun v hv => ?_⟩, hW, fun v hv => ?_, Nat.zero_le _⟩
 ·obtain ⟨k, e⟩ := key v hv; rw [e]; exact newSX_J I k n
 ·obtain ⟨k, e⟩ := key v hv; rw [e]; exact ⟨by simp, by simp [newSX], by simp [newSX]⟩
theorem sub_key {eb : Nat → Nat × Nat} {ops : List OpR} {er : Option Nat} {tt : Int} {bag' : List MsgV} {txs' : List TxV} (hQ : (c.stopped = true ∧ er = some 8 ∧ tt = 0 ∧ bag' = c.bag ∧ txs' = c.txs ∧ I' = I) ∨ (c.stopped = false ∧ subQ eb I c.hosts.length ops c.bag c.txs er tt I' bag' txs')) :
  ((CV.abs { c with bag := bag', txs := txs' }, tt, numO er) : WP × Int × Int) = submitWP c.abs ops := by
 unfold submitWP
 rcases hQ with ⟨h1, rfl, rfl, rfl, rfl, _⟩ | ⟨h1, _, ⟨h2, rfl, rfl, rfl, rfl⟩ | ⟨h2, h3, rfl, rfl, rfl, rfl⟩ | ⟨h2, h3, rfl, rfl, s7, _, rfl, rfl⟩⟩
 ·rw [if_pos (show c.abs.stopped = true from h1)]; rfl
 ·rw [if_neg (show ¬ c.abs.stopped = true by rw [show c.abs.stopped = c.stopped from rfl, h1]; decide), if_pos h2]; rfl
 ·rw [if_neg (show ¬ c.abs.stopped = true by rw [show c.abs.stopped = c.stopped from rfl, h1]; decide), if_neg (by simpa using h2), if_pos (by simpa [CV.abs] using h3)]; rfl
 ·rw [if_neg (show ¬ c.abs.stopped = true by rw [show c.abs.stopped = c.stopped from rfl, h1]; decide), if_neg (by simpa using h2), if_neg (by simpa [CV.abs] using h3)]
  unfold beginWP
  simp [CV.abs, numO, begMP]
theorem sub_J {eb : Nat → Nat × Nat} {ops : List OpR} {er : Option Nat} {tt : Int} {bag' : List MsgV} {txs' : List TxV} (hJ : CvJ I c) (hQ : (c.stopped = true ∧ er = some 8 ∧ tt = 0 ∧ bag' = c.bag ∧ txs' = c.txs ∧ I' = I) ∨ (c.stopped = false ∧ subQ eb I c.hosts.length ops c.bag c.txs er tt I' bag' txs')) :
  Sub I I' ∧ CvJ I' { c with bag := bag', txs := txs' } := by
 rcases hQ with ⟨h1, rfl, rfl, rfl, rfl, rfl⟩ | ⟨h1, hs, ⟨h2, rfl, rfl, rfl, rfl⟩ | ⟨h2, h3, rfl, rfl, rfl, rfl⟩ | ⟨h2, h3, rfl, rfl, s7, h7, rfl, rfl⟩⟩
 ·exact ⟨Sub.refl _, hJ⟩
 ·exact ⟨hs, hJ.mono hs⟩
 ·exact ⟨hs, hJ.mono hs⟩
 ·refine ⟨hs, fun m hm => ?_, fun x hx => ?_, (hJ.mono hs).sh⟩
  ·rcases List.mem_append.1 hm with hm | hm
   ·exact (hJ.mono hs).bag m hm
   ·obtain rfl := List.mem_singleton.1 hm
    exact ⟨h7, .inl ⟨rfl, rfl⟩, Nat.two_pow_pos 20⟩
  ·rcases List.mem_append.1 hx with hx | hx
   ·exact (hJ.mono hs).txs x hx
   ·obtain rfl := List.mem_singleton.1 hx
    exact ⟨h7, .inl ⟨rfl, rfl⟩, Nat.two_pow_pos 20⟩
theorem PairI.submit {eb : Nat → Nat × Nat} {ops : List OpR} {er : Option Nat} {tt : Int} {bag' : List MsgV} {txs' : List TxV} (h : PairI I t c w) (hQ : (c.stopped = true ∧ er = some 8 ∧ tt = 0 ∧ bag' = c.bag ∧ txs' = c.txs ∧ I' = I) ∨ (c.stopped = false ∧ subQ eb I c.hosts.length ops c.bag c.txs er tt I' bag' txs'))
  (ho : ∀ o ∈ ops, I64 o.v) (hlt : t + 1 ≤ 2 ^ 41) (hI : Sub I' I'') (hW : WI I'' w') (hw : w'.abs = (submitW w.abs ops).1) : PairI I'' (t + 1) { c with bag := bag', txs := txs' } w' ∧ tt = (submitW w.abs ops).2.1 ∧ numO er = (submitW w.abs ops).2.2 := by
 have hk := sub_key hQ
 obtain ⟨hs, hJ⟩ := sub_J h.J hQ
 obtain ⟨hr, hn⟩ := submit_relW h.rel ops
 rw [← hk] at hr hn
 refine ⟨⟨by rw [hw]; exact hr, by rw [hw]; exact submit_invW h.inv h.rel ops, by rw [hw]; exact submit_rng h.rng ho, hJ.mono hI, hW, h.cn1, hlt⟩, ?_, ?_⟩
 ·exact congrArg Prod.fst hn
 ·exact congrArg Prod.snd hn
theorem PairI.b0 (h : PairI I t c w) : WB0 w.abs := ⟨h.rel.n, by have := h.bagl; have h2 := congrArg List.length h.bag; simp only [List.length_map] at h2; rw [WV.abs_bag]; omega, h.rel.ntxs⟩
structure DoC (k i b : Int) : Prop where
 p : ∀ {σ : Gh} {c : CV} {I : HL} {eb : Nat → Nat × Nat} {t : Nat} {w : WV}, ErrI I eb → PairI I t c w → (c.stopped = false → RegD σ c) →
  SpecG Tryz.prog barX 42 #[ptrV c.G.b, .int .i64 k, .int .i64 i, .int .i64 b] σ [cvP c, imm I] (fun v σ' As => ∃ er c' I', σ' = σ ∧ v = .int .i64 (numO er) ∧ StepQ c I (t * 2 ^ 15 + 2 ^ 15) (t + 1) (doWP c.abs k i b) er c' I' ∧ As = [cvP c', imm I'])
 w : ∀ {main : Bool} {I I' : HL} {c : CV} {t bw : Nat} {w : WV}, PairI I t c w → Sub I I' →
  Spec Tryz.prog main badT 74 #[ptrV bw, .int .i64 k, .int .i64 i, .int .i64 b] [wP bw w, imm I'] (WQ bw I' (doW w.abs k i b).1 (.int .i64 (doW w.abs k i b).2))
 r : ∀ {W : WP} {w : WR}, RelW W w → RelW (doWP W k i b).1 (doW w k i b).1 ∧ (doWP W k i b).2 = (doW w k i b).2
 iv : ∀ {W : WP} {w : WR} {t : Nat}, InvW t w → RelW W w → InvW (t + 1) (doW w k i b).1
 g : ∀ {w : WR}, RngW I64 w → RngW I64 (doW w k i b).1
theorem PairI.do {k i b : Int} {er : Option Nat} (hD : DoC k i b) (h : PairI I t c w) (hQ : StepQ c I (t * 2 ^ 15 + 2 ^ 15) (t + 1) (doWP c.abs k i b) er c' I') (hlt : t + 1 ≤ 2 ^ 41) (hI : Sub I' I'') (hW : WI I'' w') (hw : w'.abs = (doW w.abs k i b).1) : PairI I'' (t + 1) c' w' ∧ numO er = (doW w.abs k i b).2 := by
 obtain ⟨hr, hn⟩ := hD.r h.rel
 rw [← hQ.r] at hr hn
 refine ⟨⟨by rw [hw]; exact hr, by rw [hw]; exact hD.iv h.inv h.rel, by rw [hw]; exact hD.g h.rng, hQ.j.mono hI, hW, fun v hv => (hQ.cn v hv).mono (by omega) (by omega), hlt⟩, hn⟩
end
end Go.Sl
end
section
set_option linter.unusedVariables false
namespace Go.Sl
open Go.Proofs Go.Conc
structure PaV where
 c : CV
 w : WV
 bw : Nat
def pairC (p : PaV) : List Value := [ptrV p.c.G.b, ptrV p.bw]
instance : RowF pairC 2 := ⟨fun _ => rfl, fun a v h => by simp [pairC] at h; rcases h with h | h <;> subst h <;> rfl⟩
def pvE (p : PaV) : HP := all [cvP p.c, wP p.bw p.w]
abbrev pvsP (L : List PaV) : HP := all (L.map pvE)
structure LawW (σ : Gh) (I : HL) (T : Nat) (L : List PaV) : Prop where
 reg : Reg σ (L.map (·.c))
 prs : ∀ p ∈ L, ∃ t, t ≤ T ∧ PairI I t p.c p.w
 len : L.length ≤ T
theorem pvs_owns (L : List PaV) : Owns (pvsP L) ((L.map (·.c)).flatMap CV.chans) := by
 have : Owns (pvsP L) (L.map (fun p => p.c.chans)).flatten := by
  refine Owns.all ?_
  induction L with
  | nil => exact .nil
  | cons p L ih =>
   refine .cons ?_ ih
   have := Owns.all (As := [cvP p.c, wP p.bw p.w]) (ls := [p.c.chans, []]) (.cons (cvM_owns 0 p.c) (.cons .nil .nil))
   simpa [pvE] using this
 simpa [List.flatMap, List.map_map, Function.comp_def] using this
theorem At.pvs {R : Nat → Goroutine → Array Obj → Prop} {d : Nat} {As W : List HP} {g : Goroutine} {L : List PaV} (hf : Fo (pvsP L) As W) (h : ((L.map (·.c)).flatMap CV.chans).Nodup → At R d As g) : At R d As g := fun H st => by
 obtain ⟨h1, a, _, _⟩ := st.perm hf.perm
 exact h (pvs_owns L h1 a).1 H st
theorem pnew_any {σ : Gh} {n : Int} {I : HL} {eb : Nat → Nat × Nat} (hE : ErrI I eb) (hσ : GhOk σ) : SpecG Tryz.prog barX 14 #[.int .i64 n] σ [imm I] (fun v σ' As => ((1 ≤ n ∧ n ≤ 4) ∧ ∃ c : CV, NewGh σ σ' c.G c.hosts ∧ v = .tuple #[ptrV c.G.b, .int .i64 0] ∧ As = [cvP c, imm I] ∧ c.hosts.map (·.s) = ((upto n).map fun k => newSX k n) ∧ c.bag = [] ∧ c.txs = [] ∧ c.stopped = false) ∨ ((n < 1 ∨ 4 < n) ∧ σ' = σ ∧ v = .tuple #[.pointer none, .int .i64 1] ∧ As = [imm I])) := by
 by_cases hn : 1 ≤ n ∧ n ≤ 4
 ·refine fun Post os out kd F c cs hkd hr => pnew_spec hn hσ Post os out kd (imm I :: F) c cs hkd ?_
  rintro v σ' As' ⟨c, N, hv, rfl, h⟩
  exact hr v σ' [cvP c, imm I] (.inl ⟨hn, c, N, hv, rfl, h⟩)
 ·exact (Spec.g (pnew_bad hE (by omega))).post fun v σ' As' ⟨h1, h2, h3⟩ => .inr ⟨by omega, h1, h2, h3⟩
theorem slP_congr {α : Type} {f : α → List Value} {z : Nat} {el : TypeId} {s : SliceV} {l l' : List α} (h : l'.map f = l.map f) : ∀ H, slP f z el s l H → slP f z el s l' H := by
 have hl : l'.length = l.length := by have := congrArg List.length h; simpa using this
 have hf : flat f l' = flat f l := by
  have key : ∀ k : List α, flat f k = (k.map f).flatten := fun k => by
   induction k with
   | nil => rfl
    | cons a k ih => rw [List.map_cons, List.flatten_cons, ← ih]; rfl
  rw [key, key, h]
 rintro H (⟨h1, rfl⟩ | ⟨b, pad, h1, h2, h3, h4⟩)
 ·exact .inl ⟨h1, List.length_eq_zero_iff.1 (by simpa using hl)⟩
 ·refine .inr ⟨b, pad, by rw [hl]; exact h1, by rw [hl]; exact h2, by rw [hl]; exact h3, ?_⟩
  unfold rowA at h4 ⊢
  rw [hf]; exact h4
theorem messageWP_st (w : WP) (k i : Int) : (messageWP w k i).1.stopped = w.stopped := by
 unfold messageWP
 split
 ·rfl
 split
 ·rfl
 split
 ·split <;> rfl
 dsimp only
 split
 ·rfl
 split
 ·rfl
 split
 ·rfl
 ·split <;> rfl
theorem doWP_st (w : WP) (k a b : Int) : (doWP w k a b).1.stopped = w.stopped := by
 unfold doWP
 split
 ·rfl
 split
 ·rfl
 split
 ·split
  ·rfl
  split
  ·rfl
  ·unfold beginWP; split <;> rfl
 split
 ·exact messageWP_st ..
 split
 ·rfl
 split
 ·rfl
 split
 ·split <;> rfl
 split
 ·rfl
 split
 ·rfl
 split
 ·split <;> rfl
 ·rfl
section
variable {R : Nat → Goroutine → Array Obj → Prop} {d : Nat} {As W : List HP} {g : Goroutine} {L : List PaV} {q : Nat}
theorem pv_out (hq : q < L.length) (hf : Fo (pvsP L) As W) (h : At R d (cvP L[q].c :: wP L[q].bw L[q].w :: all ((L.eraseIdx q).map pvE) :: W) g) : At R d As g :=
 all_out (f := pvE) hq hf fun H st => h H (Sat.flat (l := [cvP L[q].c, wP L[q].bw L[q].w]) st)
theorem pv_in (hq : q < L.length) (p : PaV) (hr : ReF [cvP p.c, wP p.bw p.w, all ((L.eraseIdx q).map pvE)] As W) (h : At R d (pvsP (L.set q p) :: W) g) : At R d As g :=
 At.perm hr.perm fun H st => (all_in (f := pvE) hq p (.cons .head (.cons .head .nil)) h) H (Sat.unflat (l := [cvP p.c, wP p.bw p.w]) st)
theorem pv_back {c : CV} {w : WV} {bw : Nat} (hq : q < L.length) (hp : (⟨c, w, bw⟩ : PaV) = L[q]) (hr : ReF [cvP c, wP bw w, all ((L.eraseIdx q).map pvE)] As W) (h : At R d (pvsP L :: W) g) : At R d As g :=
 pv_in hq ⟨c, w, bw⟩ hr (by rw [hp, List.set_getElem_self]; exact h)
theorem pv_add (p : PaV) (hr : ReF [cvP p.c, wP p.bw p.w, pvsP L] As W) (h : At R d (pvsP (L ++ [p]) :: W) g) : At R d As g :=
 At.perm hr.perm fun H st => (all_add (f := pvE) p (.cons .head (.cons .head .nil)) h) H (Sat.unflat (l := [cvP p.c, wP p.bw p.w]) st)
end
section
variable {σ σ' : Gh} {I I' : HL} {T q : Nat} {L : List PaV} {c c' : CV} {w w' : WV} {bw : Nat}
theorem LawW.same (h : LawW σ I T L) : LawW σ I (T + 1) L := ⟨h.reg, fun p hp => by obtain ⟨t, ht, x⟩ := h.prs p hp; exact ⟨t, by omega, x⟩, by have := h.len; omega⟩
theorem LawW.set (h : LawW σ I T L) (hq : q < L.length) (hp : (⟨c, w, bw⟩ : PaV) = L[q]) {t : Nat} (hG : c'.G = c.G) (hh : c'.hosts.map (·.h) = c.hosts.map (·.h)) (hst : c'.stopped = c.stopped) (hs : Sub I I') (hP : PairI I' t c' w') (ht : t ≤ T + 1) : LawW σ I' (T + 1) (L.set q ⟨c', w', bw⟩) := by
 refine ⟨?_, fun p hp => ?_, by rw [List.length_set]; have := h.len; omega⟩
 ·rw [List.map_set]
  have e : (L.map (·.c))[q]'(by simpa using hq) = c := by simp [← hp]
  exact h.reg.set (by simpa using hq) (by rw [e]; exact hG) (by rw [e]; exact hh) (by rw [e]; exact hst)
 ·rcases List.mem_or_eq_of_mem_set hp with hp | rfl
  ·obtain ⟨t, ht, x⟩ := h.prs p hp
   exact ⟨t, by omega, x.mono hs⟩
  ·exact ⟨t, ht, hP⟩
theorem LawW.stop (h : LawW σ I T L) (hq : q < L.length) (hp : (⟨c, w, bw⟩ : PaV) = L[q]) (nd : ((L.map (·.c)).flatMap CV.chans).Nodup) : LawW (if c.stopped then σ else σ.joined c.ids) I (T + 1) (L.set q ⟨{ c with stopped := true }, { w with stopped := true }, bw⟩) := by
 have e : (L.map (·.c))[q]'(by simpa using hq) = c := by simp [← hp]
 refine ⟨?_, fun p hp' => ?_, by rw [List.length_set]; have := h.len; omega⟩
 ·rw [List.map_set]
  have := h.reg.stop (i := q) (by simpa using hq) nd
  rw [e] at this
  exact this
 ·rcases List.mem_or_eq_of_mem_set hp' with hp' | rfl
  ·obtain ⟨t, ht, x⟩ := h.prs p hp'
   exact ⟨t, by omega, x⟩
  ·obtain ⟨t, ht, x⟩ := h.prs _ (List.getElem_mem hq)
   rw [← hp] at x
   exact ⟨t, by omega, x.stop⟩
theorem LawW.new (h : LawW σ I T L) (N : NewGh σ σ' c.G c.hosts) (hst : c.stopped = false) (nd : (((L ++ [(⟨c, w, bw⟩ : PaV)]).map (·.c)).flatMap CV.chans).Nodup) (hP : PairI I 0 c w) : LawW σ' I (T + 1) (L ++ [⟨c, w, bw⟩]) := by
 refine ⟨?_, fun p hp => ?_, by simp; exact h.len⟩
 ·rw [List.map_append] at nd ⊢
  exact h.reg.new N hP.n hst nd
 ·rcases List.mem_append.1 hp with hp | hp
  ·obtain ⟨t, ht, x⟩ := h.prs p hp
   exact ⟨t, by omega, x⟩
  ·obtain rfl := List.mem_singleton.1 hp
   exact ⟨0, Nat.zero_le _, hP⟩
theorem pairs_set (hq : q < L.length) (hp : (⟨c, w, bw⟩ : PaV) = L[q]) (hG : c'.G = c.G) : (L.set q ⟨c', w', bw⟩).map pairC = L.map pairC := by
 rw [List.map_set]
 have : pairC ⟨c', w', bw⟩ = (L.map pairC)[q]'(by simpa using hq) := by simp [← hp, pairC, hG]
 rw [this, List.set_getElem_self]
end
theorem stepC_agg (s : StepV) : (stepC s).toArray = #[.int .i64 s.kind, .int .i64 s.cl, .int .i64 s.a, .int .i64 s.b, .int .i64 s.c, s.so] := rfl
set_option maxHeartbeats 2000000 in
theorem step_spec {σ : Gh} {I : HL} {T bW : Nat} {L : List PaV} {sl : SliceV} {s : StepV} {eb : Nat → Nat × Nat} (hE : ErrI I eb) (hL : LawW σ I T L) (hT : T + 1 ≤ 2 ^ 41) (hs : StepI I σ.bot s) (hR : s.kind = 3 → DoC s.a s.b s.c) :
  SpecG Tryz.prog barX 36 #[ptrV bW, opA s.kind s.cl s.a s.b s.c s.so] σ [pts bW (.cells #[sl.v] 96 (0, 0)), slP pairC 2 150 sl L, pvsP L, imm I]
   (fun v σ' As => ∃ (sl' : SliceV) (L' : List PaV) (I' : HL), v = .bool true ∧ σ'.bot = σ.bot ∧ Sub I I' ∧ LawW σ' I' (T + 1) L' ∧ As = [pts bW (.cells #[sl'.v] 96 (0, 0)), slP pairC 2 150 sl' L', pvsP L', imm I']) := by
 refine SpecG.of ?_
 intro Post os out kd F c' cs C hkd hret
 simp only [List.cons_append, List.nil_append]
 have hll := hL.len
 have hso : oneCell s.so = true := by obtain ⟨_, _, h, _⟩ := hs.o; rw [h]; rfl
 refine C.go ?_
 refine C.rg [0, 1] ?_
 refine C.bx rfl (fun b3 => ?_)
 refine C.asg rfl ?_
 refine C.go ?_
 refine C.rg [0, 1, 2] ?_
 refine C.fa rfl ?_
 refine C.ld rfl ?_
 refine C.cmp rfl (fun h19 => ?_) (fun h19 => ?_)
 ·skip
  refine C.go ?_
  refine C.tru ?_
  refine C.rg [0, 1, 2, 3, 4, 5, 6, 7] ?_
  refine C.fa rfl ?_
  refine C.ld rfl ?_
  refine RunR.clN (pnew_any hE hL.reg.ok) ?_
  rintro v σ' As' (⟨hn, c, N, rfl, rfl, q1, q2, q3, q4⟩ | ⟨hn, rfl, rfl, rfl⟩)
  all_goals simp only [List.cons_append, List.nil_append]
  ·skip
   have C : Closed Tryz.prog true (barX.bw σ') (RunR Tryz.prog Post barX σ' 0 os out) := RunR.closed0
   refine C.mv rfl ?_
   refine C.ext rfl ?_
   refine C.ext rfl ?_
   refine C.asg rfl ?_
   refine C.asg rfl ?_
   refine C.go ?_
   refine C.rg [0, 1, 2, 3, 4, 5, 6, 7] ?_
   refine C.fa rfl ?_
   refine C.ld rfl ?_
   refine C.clR (Spec.less (barLe _) (wnew_spec)) (A := []) ?_
   intro v As' hor
   obtain ⟨_, bw, w, rfl, hw, hwI, rfl⟩ := hor.resolve_right (fun h => absurd h.1 (by omega))
   clear hor
   simp only [List.cons_append, List.nil_append]
   refine C.mv rfl ?_
   refine C.ext rfl ?_
   refine C.ext rfl ?_
   refine C.asg rfl ?_
   refine C.asg rfl ?_
   refine C.go ?_
   refine C.rg [0, 1, 2, 3, 4, 5, 6, 7, 8, 9] ?_
   refine C.mv rfl ?_
   refine C.mv rfl ?_
   refine C.cmpF rfl ?_
   refine C.mv rfl ?_
   refine C.mv rfl ?_
   refine C.eqQ rfl ?_
   refine C.mv rfl ?_
   refine C.eqQ rfl ?_
   refine C.eqBB Tryz.underlying4 rfl ?_
   refine C.pk rfl ?_
   refine C.go ?_
   refine C.fls ?_
   refine C.rg [0, 1] ?_
   refine C.mv rfl ?_
   refine C.eqQ rfl ?_
   refine C.go ?_
   refine C.tru ?_
   refine C.rg [0, 1, 2, 3, 4, 5, 6, 7, 8, 9, 10, 11, 12] ?_
   refine C.mv rfl ?_
   refine C.mv rfl ?_
   refine C.nc rfl ?_
   refine C.fa rfl ?_
   refine C.ld rfl ?_
   refine C.mv rfl ?_
   refine C.mv rfl ?_
   refine C.bd rfl ?_
   refine C.bs1 rfl (fun b52 => ?_)
   refine C.ap1 (f := pairC) (l := L) (PaV.mk c w bw) rfl (fun s2 => ?_)
   refine C.nc rfl ?_
   refine C.fa rfl ?_
   refine C.st rfl ?_
   refine C.go ?_
   refine C.rg [0] ?_
   refine C.asg rfl ?_
   refine C.go ?_
   refine pv_add (L := L) ⟨c, w, bw⟩ (by (repeat (first | with_reducible exact ReF.nil | with_reducible exact Fo.head | with_reducible apply Fo.tail | with_reducible apply ReF.cons))) ?_
   refine At.pvs (L := L ++ [⟨c, w, bw⟩]) .head fun nd => ?_
   exact RunR.retQ hkd hret ⟨s2, L ++ [⟨c, w, bw⟩], I, rfl, N.bot, Sub.refl _, hL.new N q4 nd (PairI.new hn q1 q2 q3 q4 hw (hwI I)), rfl⟩
  ·skip
   refine C.mv rfl ?_
   refine C.ext rfl ?_
   refine C.ext rfl ?_
   refine C.asg rfl ?_
   refine C.asg rfl ?_
   refine C.go ?_
   refine C.rg [0, 1, 2, 3, 4, 5, 6, 7] ?_
   refine C.fa rfl ?_
   refine C.ld rfl ?_
   refine C.clR (Spec.less (barLe _) (wnew_spec)) (A := []) ?_
   intro v As' hor
   obtain ⟨_, rfl, rfl⟩ := hor.resolve_left (fun h => absurd h.1 (by omega))
   clear hor
   simp only [List.cons_append, List.nil_append]
   refine C.mv rfl ?_
   refine C.ext rfl ?_
   refine C.ext rfl ?_
   refine C.asg rfl ?_
   refine C.asg rfl ?_
   refine C.go ?_
   refine C.rg [0, 1, 2, 3, 4, 5, 6, 7, 8, 9] ?_
   refine C.mv rfl ?_
   refine C.mv rfl ?_
   refine C.cmpF rfl ?_
   refine C.mv rfl ?_
   refine C.mv rfl ?_
   refine C.eqQ rfl ?_
   refine C.mv rfl ?_
   refine C.eqQ rfl ?_
   refine C.eqBB Tryz.underlying4 rfl ?_
   refine C.pk rfl ?_
   refine C.go ?_
   refine C.fls ?_
   refine C.rg [0, 1] ?_
   refine C.mv rfl ?_
   refine C.eqQ rfl ?_
   refine C.go ?_
   refine C.fls ?_
   refine C.rg [0] ?_
   refine C.asg rfl ?_
   refine C.go ?_
   exact RunR.retQ hkd hret ⟨sl, L, I, rfl, rfl, Sub.refl _, hL.same, rfl⟩
 ·skip
  refine C.go ?_
  refine C.fls ?_
  refine C.rg [0, 1, 2, 3, 4, 5] ?_
  refine C.mv rfl ?_
  refine C.nc rfl ?_
  refine C.fa rfl ?_
  refine C.ld rfl ?_
  refine C.lnR rfl ?_
  refine C.cmp rfl (fun h61 => ?_) (fun h61 => ?_)
  ·skip
   refine C.go ?_
   refine C.tru ?_
   refine C.rg [0] ?_
   refine C.asg rfl ?_
   refine C.go ?_
   exact RunR.retQ hkd hret ⟨sl, L, I, rfl, rfl, Sub.refl _, hL.same, rfl⟩
  ·skip
   refine C.go ?_
   refine C.fls ?_
   obtain ⟨q, hq⟩ := Int.eq_ofNat_of_zero_le (pickR_rng (a := s.cl) (b := (L.length : Int)) (by omega)).1
   have hql : q < L.length := by have := (pickR_rng (a := s.cl) (b := (L.length : Int)) (by omega)).2; omega
   apply cutX (X := Nat) (fun _ => True) (fun b9 => [(0, ptrV bW), (3, ptrV b3), (9, ptrV b9)]) (fun b9 => pts b9 (.cells #[ptrV L[q].c.G.b, ptrV L[q].bw] 150 (0, 0)) :: pts b3 (.cells #[.int .i64 s.kind, .int .i64 s.cl, .int .i64 s.a, .int .i64 s.b, .int .i64 s.c, s.so] 29 (0, 0)) :: pts bW (.cells #[sl.v] 96 (0, 0)) :: slP pairC 2 150 sl L :: pvsP L :: imm I :: F) (R := RunR Tryz.prog Post barX σ 0 os out) (d := 0) (fn := 36) (kd := kd) (n := 148) (ds := []) (cs := c' :: cs)
   ·intro hin12
    refine C.drawnW [(62, 0), (63, 1), (64, 2), (65, 3), (66, 4), (67, 5), (68, 6), (69, 7), (70, 8), (71, 9), (72, 10), (73, 11), (74, 12), (75, 13), (9, 14)] [0, 1, 2, 3, 4, 5, 6, 7, 8, 9, 10] [11, 12, 13, 14, 15] 2 ?_ (W := [pts b3 (.cells #[.int .i64 s.kind, .int .i64 s.cl, .int .i64 s.a, .int .i64 s.b, .int .i64 s.c, s.so] 29 (0, 0)), pts bW (.cells #[sl.v] 96 (0, 0)), slP pairC 2 150 sl L])
    refine Dr.pu ⟨_, rfl, rfl⟩ (fun _ _ _ h => C.mv rfl h) ?_
    refine Dr.pu ⟨_, rfl, rfl⟩ (fun _ _ _ h => C.nc rfl h) ?_
    refine Dr.pu ⟨_, rfl, rfl⟩ (fun _ _ _ h => C.fa rfl h) ?_
    refine Dr.ld ⟨_, rfl, rfl⟩ (fun _ hE _ _ h => C.ld rfl h) ?_
    refine Dr.pu ⟨_, rfl, rfl⟩ (fun _ _ _ h => C.fa rfl h) ?_
    refine Dr.ld ⟨_, rfl, rfl⟩ (fun _ hE _ _ h => C.ld rfl h) ?_
    refine Dr.pu ⟨_, rfl, rfl⟩ (fun _ _ _ h => C.mv rfl h) ?_
    refine Dr.pu ⟨_, rfl, rfl⟩ (fun _ _ _ h => C.nc rfl h) ?_
    refine Dr.pu ⟨_, rfl, rfl⟩ (fun _ _ _ h => C.fa rfl h) ?_
    refine Dr.ld ⟨_, rfl, rfl⟩ (fun _ hE _ _ h => C.ld rfl h) ?_
    refine Dr.ld (v := .int .i64 L.length) ⟨_, rfl, rfl⟩ (fun _ hE _ _ h => C.lnR rfl h (f := pairC) (s := sl) (l := L)) ?_
    refine Dr.chain rfl ?_ (fun _ s => Reo.sat (by ((try simp only [List.cons_append, List.nil_append]); (repeat (first | with_reducible exact Reo.refl | with_reducible exact Reo.nil | with_reducible exact Fo.head | with_reducible apply Fo.tail | with_reducible apply Reo.cons | with_reducible apply Reo.drop)); done)) s)
    refine Ch.n2 (t := 11) (u := 14) rfl ?_ ?_
    ·skip
     refine ⟨_, rfl, fun e rest hk => ?_⟩
     refine C.clR (Spec.less (barLe _) (pick_spec (b := (L.length : Int)) hs.cl (by omega))) (A := []) ?_
     rintro v As' ⟨rfl, rfl⟩
     rw [hq]
     simp only [List.cons_append, List.nil_append]
     refine hk _ _ (.of (fun _ s => Reo.sat (by ((try simp only [List.cons_append, List.nil_append]); (repeat (first | with_reducible exact Reo.refl | with_reducible exact Reo.nil | with_reducible exact Fo.head | with_reducible apply Fo.tail | with_reducible apply Reo.cons | with_reducible apply Reo.drop)); done)) s)) ?_
     refine Ch.n2 (t := 12) (u := 14) rfl ?_ ?_
     ·skip
      refine ⟨_, rfl, fun e rest hk => ?_⟩
      refine C.iaR rfl (hk _ _ .refl ?_) (s := sl) (f := pairC) (l := L)
      refine Ch.n2 (t := 13) (u := 14) rfl ?_ ?_
      ·skip
       refine ⟨_, rfl, fun e rest hk => ?_⟩
       refine C.ldRS rfl (fun hj => ?_) (s := sl) (l := L) (f := pairC) (j := q)
       rw [show (pairC L[q]).toArray = #[ptrV L[q].c.G.b, ptrV L[q].bw] from rfl]
       refine hk _ _ ?_
       refine Ch.n1 (t := 14) rfl ⟨_, rfl, fun e rest hk => ?_⟩
       refine C.al rfl (fun b9 => hk _ _ ?_)
       refine Ch.n1 (t := 15) rfl ⟨_, rfl, fun e rest hk => ?_⟩
       refine C.stS rfl (hk _ undef ?_)
       refine Ch.fin ?_
       refine C.go ?_
       exact joinX hin12 b9 trivial
      ·skip
       refine ⟨_, rfl, fun e rest hk => ?_⟩
       refine C.al rfl (fun b9 => hk _ _ ?_)
       refine Ch.n1 (t := 13) rfl ⟨_, rfl, fun e rest hk => ?_⟩
       refine C.ldRS rfl (fun hj => ?_) (s := sl) (l := L) (f := pairC) (j := q)
       rw [show (pairC L[q]).toArray = #[ptrV L[q].c.G.b, ptrV L[q].bw] from rfl]
       refine hk _ _ ?_
       refine Ch.n1 (t := 15) rfl ⟨_, rfl, fun e rest hk => ?_⟩
       refine C.stS rfl (hk _ undef ?_)
       refine Ch.fin ?_
       refine C.go ?_
       exact joinX hin12 b9 trivial
     ·skip
      refine ⟨_, rfl, fun e rest hk => ?_⟩
      refine C.al rfl (fun b9 => hk _ _ .cons ?_)
      refine Ch.n1 (t := 12) rfl ⟨_, rfl, fun e rest hk => ?_⟩
      refine C.iaR rfl (hk _ _ ?_) (s := sl) (f := pairC) (l := L)
      refine Ch.n1 (t := 13) rfl ⟨_, rfl, fun e rest hk => ?_⟩
      refine C.ldRS rfl (fun hj => ?_) (s := sl) (l := L) (f := pairC) (j := q)
      rw [show (pairC L[q]).toArray = #[ptrV L[q].c.G.b, ptrV L[q].bw] from rfl]
      refine hk _ _ ?_
      refine Ch.n1 (t := 15) rfl ⟨_, rfl, fun e rest hk => ?_⟩
      refine C.stS rfl (hk _ undef ?_)
      refine Ch.fin ?_
      refine C.go ?_
      exact joinX hin12 b9 trivial
    ·skip
     refine ⟨_, rfl, fun e rest hk => ?_⟩
     refine C.al rfl (fun b9 => hk _ _ .cons ?_)
     refine Ch.n1 (t := 11) rfl ⟨_, rfl, fun e rest hk => ?_⟩
     refine C.clR (Spec.less (barLe _) (pick_spec (b := (L.length : Int)) hs.cl (by omega))) (A := []) ?_
     rintro v As' ⟨rfl, rfl⟩
     rw [hq]
     simp only [List.cons_append, List.nil_append]
     refine hk _ _ (.of (fun _ s => Reo.sat (by ((try simp only [List.cons_append, List.nil_append]); (repeat (first | with_reducible exact Reo.refl | with_reducible exact Reo.nil | with_reducible exact Fo.head | with_reducible apply Fo.tail | with_reducible apply Reo.cons | with_reducible apply Reo.drop)); done)) s)) ?_
     refine Ch.n1 (t := 12) rfl ⟨_, rfl, fun e rest hk => ?_⟩
     refine C.iaR rfl (hk _ _ ?_) (s := sl) (f := pairC) (l := L)
     refine Ch.n1 (t := 13) rfl ⟨_, rfl, fun e rest hk => ?_⟩
     refine C.ldRS rfl (fun hj => ?_) (s := sl) (l := L) (f := pairC) (j := q)
     rw [show (pairC L[q]).toArray = #[ptrV L[q].c.G.b, ptrV L[q].bw] from rfl]
     refine hk _ _ ?_
     refine Ch.n1 (t := 15) rfl ⟨_, rfl, fun e rest hk => ?_⟩
     refine C.stS rfl (hk _ undef ?_)
     refine Ch.fin ?_
     refine C.go ?_
     exact joinX hin12 b9 trivial
   ·rintro b9 - e
    obtain ⟨t, ht, hP⟩ := hL.prs _ (List.getElem_mem hql)
    refine At.pvs (L := L) (by (repeat (first | with_reducible exact Fo.head | with_reducible apply Fo.tail))) fun nd0 => ?_
    have hreg := hL.reg.reg L[q].c (List.mem_map_of_mem (List.getElem_mem hql))
    refine pv_out (L := L) hql (by (repeat (first | with_reducible exact Fo.head | with_reducible apply Fo.tail))) ?_
    obtain ⟨p, hp⟩ : ∃ p, p = L[q] := ⟨_, rfl⟩
    rw [← hp] at hP hreg ⊢
    obtain ⟨c, w, bw⟩ := p
    dsimp only at hP hreg ⊢
    refine C.rg [0, 1] ?_
    refine C.fa rfl ?_
    refine C.ld rfl ?_
    refine C.go ?_
    refine C.rg [0, 1] ?_
    refine C.cmp rfl (fun h79 => ?_) (fun h79 => ?_)
    ·skip
     refine C.asg rfl ?_
     refine C.go ?_
     refine C.tru ?_
     refine C.rg [0, 1, 2, 3] ?_
     refine C.fa rfl ?_
     refine C.ld rfl ?_
     refine C.clR (kept_spec hs.o hs.z hs.len) ?_
     rintro v As' ⟨s1, rfl, rfl⟩
     simp only [List.cons_append, List.nil_append]
     have hlk : (s.ops.map keptO).length = s.ops.length := List.length_map ..
     have hlen := hs.len
     have hrg : ∀ o ∈ s.ops.map keptO, (0 ≤ o.k ∧ o.k ≤ 255) ∧ (-2147483648 ≤ o.v ∧ o.v ≤ 2147483647) := by
      intro o ho
      obtain ⟨q, _, rfl⟩ := List.mem_map.1 ho
      exact ⟨u8_rng _, i32_rng _⟩
     generalize hops : s.ops.map keptO = ops at *
     refine At.frz (I := I) (s := s1) (f := opRC) (by (repeat (first | with_reducible exact Fo.head | with_reducible apply Fo.tail))) (by (repeat (first | with_reducible exact Fo.head | with_reducible apply Fo.tail))) fun I2 hI2 hs2 => ?_
     refine C.asg rfl ?_
     refine C.go ?_
     refine C.drawnW [(84, 0), (85, 1), (86, 2), (87, 3), (88, 4), (83, 5), (89, 6), (90, 7), (11, 8), (12, 9)] [0, 1, 2] [3, 4, 5, 6, 7, 8, 9] 1 ?_ (W := [pts b9 (.cells #[ptrV c.G.b, ptrV bw] 150 (0, 0))])
     refine Dr.pu ⟨_, rfl, rfl⟩ (fun _ _ _ h => C.fa rfl h) ?_
     refine Dr.ld ⟨_, rfl, rfl⟩ (fun _ hE _ _ h => C.ld rfl h) ?_
     refine Dr.pu ⟨_, rfl, rfl⟩ (fun _ _ _ h => C.mv rfl h) ?_
     refine Dr.chain rfl ?_ (fun _ s => Reo.sat (by ((try simp only [List.cons_append, List.nil_append]); (repeat (first | with_reducible exact Reo.refl | with_reducible exact Reo.nil | with_reducible exact Fo.head | with_reducible apply Fo.tail | with_reducible apply Reo.cons | with_reducible apply Reo.drop)); done)) s)
     refine Ch.n1 (t := 3) rfl ⟨_, rfl, fun e rest hk => ?_⟩
     refine C.clR (Spec.less (barLe _) (given_spec hs2 hrg (by omega))) ?_
     rintro v As' ⟨s2, rfl, rfl⟩
     simp only [List.cons_append, List.nil_append]
     refine hk _ _ (.of (fun _ s => Reo.sat (by ((try simp only [List.cons_append, List.nil_append]); (repeat (first | with_reducible exact Reo.refl | with_reducible exact Reo.nil | with_reducible exact Fo.head | with_reducible apply Fo.tail | with_reducible apply Reo.cons | with_reducible apply Reo.drop)); done)) s)) ?_
     refine Ch.n1 (t := 4) rfl ⟨_, rfl, fun e rest hk => ?_⟩
     refine RunR.clN (psubmit_spec (c := c) (so := s2) (ops := ops) (hE.mono hI2) hP.n (by have := hP.bagl; omega) hP.cvb.txs (by omega)) ?_
     rintro v σ' As' ⟨er, tt, bag', txs', I3, rfl, rfl, rfl, hor⟩
     simp only [List.cons_append, List.nil_append]
     refine hk _ _ ?_
     refine Ch.pu (i := 5) ⟨_, rfl, rfl⟩ (fun _ _ _ h => C.mv rfl h) ?_
     refine Ch.pu (i := 6) ⟨_, rfl, rfl⟩ (fun _ _ _ h => C.ext rfl h) ?_
     refine Ch.pu (i := 7) ⟨_, rfl, rfl⟩ (fun _ _ _ h => C.ext rfl h) ?_
     refine Ch.pu (i := 8) ⟨_, rfl, rfl⟩ (fun _ _ _ h => C.asg rfl h) ?_
     refine Ch.pu (i := 9) ⟨_, rfl, rfl⟩ (fun _ _ _ h => C.asg rfl h) ?_
     refine Ch.fin ?_
     refine C.go ?_
     refine C.rg [0, 1, 2, 3, 4, 5, 6, 7, 8] ?_
     refine C.fa rfl ?_
     refine C.ld rfl ?_
     refine C.mv rfl ?_
     have hI3 : Sub I2 I3 := (sub_J (hP.J.mono hI2) hor).1
     refine C.clR (Spec.less (barLe _) (wsubmit_spec (hP.W.mono (hI2.trans hI3)) hP.b0 (hs2.mono hI3) (by omega))) ?_
     rintro v As' ⟨I4, w4, hI4, hwI4, hw4, rfl, rfl⟩
     simp only [List.cons_append, List.nil_append]
     obtain ⟨hP4, e1, e2⟩ := (hP.mono hI2).submit hor (fun o ho => by have := (hrg o ho).2; unfold I64; omega) (by omega) hI4 hwI4 hw4
     subst e1
     rw [e2]
     refine C.mv rfl ?_
     refine C.ext rfl ?_
     refine C.ext rfl ?_
     refine C.asg rfl ?_
     refine C.asg rfl ?_
     refine C.go ?_
     refine C.rg [0, 1, 2, 3, 4, 5, 6, 7, 8] ?_
     refine C.mv rfl ?_
     refine C.mv rfl ?_
     refine C.cmpT rfl ?_ (hf := rfl)
     refine C.mv rfl ?_
     refine C.mv rfl ?_
     refine C.mv rfl ?_
     refine C.cmpT rfl ?_ (hf := rfl)
     refine C.pk rfl ?_
     refine C.asg rfl ?_
     refine C.go ?_
     refine pv_in (L := L) hql ⟨{ c with bag := bag', txs := txs' }, w4, bw⟩ (by (repeat (first | with_reducible exact ReF.nil | with_reducible exact Fo.head | with_reducible apply Fo.tail | with_reducible apply ReF.cons))) ?_
     refine At.turn (A := slP pairC 2 150 sl L) (by (repeat (first | with_reducible exact Fo.head | with_reducible apply Fo.tail))) (slP_congr (pairs_set (c' := { c with bag := bag', txs := txs' }) (w' := w4) hql hp rfl)) ?_
     exact RunR.retQ hkd hret ⟨sl, L.set q ⟨{ c with bag := bag', txs := txs' }, w4, bw⟩, I4, rfl, rfl, (hI2.trans hI3).trans hI4, hL.set (t := t + 1) hql hp rfl rfl rfl ((hI2.trans hI3).trans hI4) hP4 (by omega), rfl⟩
    ·skip
     refine C.asg rfl ?_
     refine C.go ?_
     refine C.fls ?_
     refine C.rg [0, 1] ?_
     refine C.cmp rfl (fun h107 => ?_) (fun h107 => ?_)
     ·skip
      refine C.asg rfl ?_
      refine C.go ?_
      refine C.tru ?_
      refine C.rg [0, 1, 2, 3, 4, 5, 6, 7, 8, 9] ?_
      refine C.fa rfl ?_
      refine C.ld rfl ?_
      refine C.fa rfl ?_
      refine C.ld rfl ?_
      refine C.fa rfl ?_
      refine C.ld rfl ?_
      refine C.fa rfl ?_
      refine C.ld rfl ?_
      have hD := hR h107
      refine RunR.clN (hD.p hE hP hreg) ?_
      rintro v σ' As' ⟨er, c2, I2, rfl, rfl, hQ, rfl⟩
      simp only [List.cons_append, List.nil_append]
      refine C.asg rfl ?_
      refine C.go ?_
      refine C.rg [0, 1, 2, 3, 4, 5, 6, 7, 8, 9] ?_
      refine C.fa rfl ?_
      refine C.ld rfl ?_
      refine C.fa rfl ?_
      refine C.ld rfl ?_
      refine C.fa rfl ?_
      refine C.ld rfl ?_
      refine C.fa rfl ?_
      refine C.ld rfl ?_
      refine C.clR (Spec.less (barLe _) (hD.w hP hQ.sub)) ?_
      rintro v As' ⟨I4, w4, hI4, hwI4, hw4, rfl, rfl⟩
      simp only [List.cons_append, List.nil_append]
      obtain ⟨hP4, e2⟩ := hP.do hD hQ (by omega) hI4 hwI4 hw4
      rw [e2]
      refine C.asg rfl ?_
      refine C.go ?_
      refine C.rg [0, 1, 2, 3] ?_
      refine C.mv rfl ?_
      refine C.mv rfl ?_
      refine C.cmpT rfl ?_ (hf := rfl)
      refine C.asg rfl ?_
      refine C.go ?_
      have hst : c2.stopped = c.stopped := by
       have h1 := congrArg (fun x => x.1.stopped) hQ.r
       exact h1.trans (doWP_st ..)
      refine pv_in (L := L) hql ⟨c2, w4, bw⟩ (by (repeat (first | with_reducible exact ReF.nil | with_reducible exact Fo.head | with_reducible apply Fo.tail | with_reducible apply ReF.cons))) ?_
      refine At.turn (A := slP pairC 2 150 sl L) (by (repeat (first | with_reducible exact Fo.head | with_reducible apply Fo.tail))) (slP_congr (pairs_set (c' := c2) (w' := w4) hql hp hQ.g)) ?_
      exact RunR.retQ hkd hret ⟨sl, L.set q ⟨c2, w4, bw⟩, I4, rfl, rfl, hQ.sub.trans hI4, hL.set (t := t + 1) hql hp hQ.g hQ.h hst (hQ.sub.trans hI4) hP4 (by omega), rfl⟩
     ·skip
      refine C.asg rfl ?_
      refine C.go ?_
      refine C.fls ?_
      refine C.rg [0, 1] ?_
      refine C.cmp rfl (fun h130 => ?_) (fun h130 => ?_)
      ·skip
       refine C.asg rfl ?_
       refine C.go ?_
       refine C.tru ?_
       refine C.rg [0, 1, 2] ?_
       refine C.fa rfl ?_
       refine C.ld rfl ?_
       refine RunR.clN (stop_spec (c := c) (fun h => (hreg h).toRegC)) ?_
       rintro v σ' As' ⟨rfl, rfl, rfl⟩
       simp only [List.cons_append, List.nil_append]
       have C : Closed Tryz.prog true (barX.bw (if c.stopped then σ else σ.joined c.ids)) (RunR Tryz.prog Post barX (if c.stopped then σ else σ.joined c.ids) 0 os out) := RunR.closed0
       refine C.go ?_
       refine wP.opn (b := bw) (w := w) (h := fun sh bg tx => ?_)
       refine C.rg [0, 1, 2, 3, 4] ?_
       refine C.fa rfl ?_
       refine C.ld rfl ?_
       refine C.nc rfl ?_
       refine C.fa rfl ?_
       refine C.st rfl ?_
       refine C.go ?_
       refine C.rg [0] ?_
       refine C.asg rfl ?_
       refine C.go ?_
       refine wP.cls (b := bw) { w with stopped := true } ?_
       refine pv_in (L := L) hql ⟨{ c with stopped := true }, { w with stopped := true }, bw⟩ (by (repeat (first | with_reducible exact ReF.nil | with_reducible exact Fo.head | with_reducible apply Fo.tail | with_reducible apply ReF.cons))) ?_
       refine At.turn (A := slP pairC 2 150 sl L) (by (repeat (first | with_reducible exact Fo.head | with_reducible apply Fo.tail))) (slP_congr (pairs_set (c' := { c with stopped := true }) (w' := { w with stopped := true }) hql hp rfl)) ?_
       exact RunR.retQ hkd hret ⟨sl, L.set q ⟨{ c with stopped := true }, { w with stopped := true }, bw⟩, I, rfl, (by split <;> rfl), Sub.refl _, hL.stop hql hp nd0, rfl⟩
      ·skip
       refine C.asg rfl ?_
       refine C.go ?_
       refine C.fls ?_
       refine C.rg [0, 1] ?_
       refine C.cmp rfl (fun h139 => ?_) (fun h139 => ?_)
       ·skip
        refine C.asg rfl ?_
        refine C.go ?_
        refine C.tru ?_
        refine C.tru ?_
        refine C.rg [0, 1, 2, 3] ?_
        refine C.ldS rfl ?_
        refine C.ldS rfl ?_
        refine RunR.clN (lasked_spec (k := s.kind) (cl := s.cl) (a := s.a) (b := s.b) (z := s.c) hP.ask (by omega) hso) ?_
        rintro v σ' As' ⟨rfl, rfl, rfl⟩
        simp only [List.cons_append, List.nil_append]
        refine C.asg rfl ?_
        refine C.go ?_
        refine pv_back (L := L) hql hp (by (repeat (first | with_reducible exact ReF.nil | with_reducible exact Fo.head | with_reducible apply Fo.tail | with_reducible apply ReF.cons))) ?_
        exact RunR.retQ hkd hret ⟨sl, L, I, rfl, rfl, Sub.refl _, hL.same, rfl⟩
       ·skip
        refine C.asg rfl ?_
        refine C.go ?_
        refine C.fls ?_
        refine C.rg [0, 1] ?_
        refine C.cmp rfl (fun h140 => ?_) (fun h140 => ?_)
        ·skip
         refine C.asg rfl ?_
         refine C.go ?_
         refine C.tru ?_
         refine C.tru ?_
         refine C.rg [0, 1, 2, 3] ?_
         refine C.ldS rfl ?_
         refine C.ldS rfl ?_
         refine RunR.clN (lasked_spec (k := s.kind) (cl := s.cl) (a := s.a) (b := s.b) (z := s.c) hP.ask (by omega) hso) ?_
         rintro v σ' As' ⟨rfl, rfl, rfl⟩
         simp only [List.cons_append, List.nil_append]
         refine C.asg rfl ?_
         refine C.go ?_
         refine pv_back (L := L) hql hp (by (repeat (first | with_reducible exact ReF.nil | with_reducible exact Fo.head | with_reducible apply Fo.tail | with_reducible apply ReF.cons))) ?_
         exact RunR.retQ hkd hret ⟨sl, L, I, rfl, rfl, Sub.refl _, hL.same, rfl⟩
        ·skip
         refine C.asg rfl ?_
         refine C.go ?_
         refine C.fls ?_
         refine C.rg [0, 1] ?_
         refine C.cmp rfl (fun h141 => ?_) (fun h141 => ?_)
         ·skip
          refine C.asg rfl ?_
          refine C.go ?_
          refine C.tru ?_
          refine C.tru ?_
          refine C.rg [0, 1, 2, 3] ?_
          refine C.ldS rfl ?_
          refine C.ldS rfl ?_
          refine RunR.clN (lasked_spec (k := s.kind) (cl := s.cl) (a := s.a) (b := s.b) (z := s.c) hP.ask (by omega) hso) ?_
          rintro v σ' As' ⟨rfl, rfl, rfl⟩
          simp only [List.cons_append, List.nil_append]
          refine C.asg rfl ?_
          refine C.go ?_
          refine pv_back (L := L) hql hp (by (repeat (first | with_reducible exact ReF.nil | with_reducible exact Fo.head | with_reducible apply Fo.tail | with_reducible apply ReF.cons))) ?_
          exact RunR.retQ hkd hret ⟨sl, L, I, rfl, rfl, Sub.refl _, hL.same, rfl⟩
         ·skip
          refine C.asg rfl ?_
          refine C.go ?_
          refine C.fls ?_
          refine C.rg [0, 1] ?_
          refine C.cmp rfl (fun h142 => ?_) (fun h142 => ?_)
          ·skip
           refine C.asg rfl ?_
           refine C.go ?_
           refine C.tru ?_
           refine C.tru ?_
           refine C.rg [0, 1, 2, 3] ?_
           refine C.ldS rfl ?_
           refine C.ldS rfl ?_
           refine RunR.clN (lasked_spec (k := s.kind) (cl := s.cl) (a := s.a) (b := s.b) (z := s.c) hP.ask (by omega) hso) ?_
           rintro v σ' As' ⟨rfl, rfl, rfl⟩
           simp only [List.cons_append, List.nil_append]
           refine C.asg rfl ?_
           refine C.go ?_
           refine pv_back (L := L) hql hp (by (repeat (first | with_reducible exact ReF.nil | with_reducible exact Fo.head | with_reducible apply Fo.tail | with_reducible apply ReF.cons))) ?_
           exact RunR.retQ hkd hret ⟨sl, L, I, rfl, rfl, Sub.refl _, hL.same, rfl⟩
          ·skip
           refine C.asg rfl ?_
           refine C.go ?_
           refine C.fls ?_
           refine C.rg [0, 1] ?_
           refine C.cmp rfl (fun h143 => ?_) (fun h143 => ?_)
           ·skip
            refine C.asg rfl ?_
            refine C.go ?_
            refine C.tru ?_
            refine C.tru ?_
            refine C.rg [0, 1, 2, 3] ?_
            refine C.ldS rfl ?_
            refine C.ldS rfl ?_
            refine RunR.clN (lasked_spec (k := s.kind) (cl := s.cl) (a := s.a) (b := s.b) (z := s.c) hP.ask (by omega) hso) ?_
            rintro v σ' As' ⟨rfl, rfl, rfl⟩
            simp only [List.cons_append, List.nil_append]
            refine C.asg rfl ?_
            refine C.go ?_
            refine pv_back (L := L) hql hp (by (repeat (first | with_reducible exact ReF.nil | with_reducible exact Fo.head | with_reducible apply Fo.tail | with_reducible apply ReF.cons))) ?_
            exact RunR.retQ hkd hret ⟨sl, L, I, rfl, rfl, Sub.refl _, hL.same, rfl⟩
           ·skip
            refine C.asg rfl ?_
            refine C.go ?_
            refine C.fls ?_
            refine C.rg [0, 1] ?_
            refine C.cmp rfl (fun h144 => ?_) (fun h144 => ?_)
            ·skip
             refine C.asg rfl ?_
             refine C.go ?_
             refine C.tru ?_
             refine C.rg [0, 1, 2, 3] ?_
             refine C.ldS rfl ?_
             refine C.ldS rfl ?_
             refine RunR.clN (lasked_spec (k := s.kind) (cl := s.cl) (a := s.a) (b := s.b) (z := s.c) hP.ask (by omega) hso) ?_
             rintro v σ' As' ⟨rfl, rfl, rfl⟩
             simp only [List.cons_append, List.nil_append]
             refine C.asg rfl ?_
             refine C.go ?_
             refine pv_back (L := L) hql hp (by (repeat (first | with_reducible exact ReF.nil | with_reducible exact Fo.head | with_reducible apply Fo.tail | with_reducible apply ReF.cons))) ?_
             exact RunR.retQ hkd hret ⟨sl, L, I, rfl, rfl, Sub.refl _, hL.same, rfl⟩
            ·skip
             refine C.asg rfl ?_
             refine C.go ?_
             refine C.fls ?_
             refine C.rg [0] ?_
             refine C.asg rfl ?_
             refine C.go ?_
             refine pv_back (L := L) hql hp (by (repeat (first | with_reducible exact ReF.nil | with_reducible exact Fo.head | with_reducible apply Fo.tail | with_reducible apply ReF.cons))) ?_
             exact RunR.retQ hkd hret ⟨sl, L, I, rfl, rfl, Sub.refl _, hL.same, rfl⟩
end Go.Sl
end
section
set_option linter.unusedVariables false
namespace Go.Sl
open Go.Proofs Go.Conc
set_option maxHeartbeats 1000000 in
theorem stopped_spec {σ : Gh} {bW : Nat} {L : List PaV} {sl : SliceV} (hR : Reg σ (L.map (·.c))) (hl : L.length ≤ 2 ^ 41) :
  SpecG Tryz.prog barX 37 #[ptrV bW] σ [pts bW (.cells #[sl.v] 96 (0, 0)), slP pairC 2 150 sl L, pvsP L] (fun v σ' As => v = .tuple #[] ∧ σ'.bot = σ.bot ∧ Idle0 σ' ∧ As = []) := by
 refine SpecG.of ?_
 intro Post os out kd F c' cs C hkd hret
 simp only [List.cons_append, List.nil_append]
 refine C.go ?_
 refine C.rg [0] ?_
 refine C.asg rfl ?_
 refine C.go ?_
 refine loopG (Y := Nat × Gh × List PaV) (fun y => y.2.1) (fun y => [(0, ptrV bW), (2, .int .i64 y.1)]) (fun y => pts bW (.cells #[sl.v] 96 (0, 0)) :: slP pairC 2 150 sl y.2.2 :: pvsP y.2.2 :: F) (fun y => y.1 ≤ y.2.2.length ∧ y.2.2.length ≤ 2 ^ 41 ∧ y.2.1.bot = σ.bot ∧ Reg y.2.1 (y.2.2.map (·.c)) ∧ ∀ p ∈ y.2.2.take y.1, p.c.stopped = true) (fun y => y.2.2.length - y.1) (0, σ, L) rfl ⟨rfl, rfl, trivial⟩ ⟨Nat.zero_le _, hl, rfl, hR, by simp⟩ ?_
 rintro ⟨i, σ1, L1⟩ e ⟨hile, hl1, hbot, hreg, hst⟩ ih
 dsimp only at hile hl1 hbot hreg hst ⊢
 have C : Closed Tryz.prog true (barX.bw σ1) (RunR Tryz.prog Post barX σ1 0 os out) := RunR.closed0
 refine C.go ?_
 refine C.rg [0, 1, 2, 3, 4, 5, 6] ?_
 refine C.mv rfl ?_
 refine C.mv rfl ?_
 refine C.nc rfl ?_
 refine C.fa rfl ?_
 refine C.ld rfl ?_
 refine C.lnR rfl ?_ (f := pairC) (s := sl) (l := L1)
 refine C.cmp rfl (fun h9 => ?_) (fun h9 => ?_)
 ·skip
  refine C.go ?_
  refine C.tru ?_
  have hi : i < L1.length := by omega
  refine At.pvs (L := L1) (by (repeat (first | with_reducible exact Fo.head | with_reducible apply Fo.tail))) fun nd0 => ?_
  refine pv_out (L := L1) hi (by (repeat (first | with_reducible exact Fo.head | with_reducible apply Fo.tail))) ?_
  refine C.rg [0, 1, 2, 3, 4, 5, 6, 7, 8] ?_
  refine C.mv rfl ?_
  refine C.nc rfl ?_
  refine C.fa rfl ?_
  refine C.ld rfl ?_
  refine C.mv rfl ?_
  refine C.iaR rfl ?_ (f := pairC) (s := sl) (l := L1) (j := i)
  refine C.fa rfl ?_
  refine C.ldR (v := ptrV L1[i].c.G.b) rfl ?_ (f := pairC) (s := sl) (l := L1) (j := i) (o := 0)
  refine RunR.clN (stop_spec (c := L1[i].c) (fun h => (hreg.reg _ (List.mem_map_of_mem (List.getElem_mem hi)) h).toRegC)) ?_
  rintro v σ' As' ⟨rfl, rfl, rfl⟩
  simp only [List.cons_append, List.nil_append]
  obtain ⟨p, hp⟩ : ∃ p, p = L1[i] := ⟨_, rfl⟩
  have hrs := hreg.stop (i := i) (by simpa using hi) nd0
  have e0 : (L1.map (·.c))[i]'(by simpa using hi) = p.c := by rw [hp]; simp
  rw [e0] at hrs
  rw [← hp]
  obtain ⟨c, w, bw⟩ := p
  dsimp only at hrs ⊢
  have C : Closed Tryz.prog true (barX.bw (if c.stopped then σ1 else σ1.joined c.ids)) (RunR Tryz.prog Post barX (if c.stopped then σ1 else σ1.joined c.ids) 0 os out) := RunR.closed0
  refine pv_in (L := L1) hi ⟨{ c with stopped := true }, w, bw⟩ (by (repeat (first | with_reducible exact ReF.nil | with_reducible exact Fo.head | with_reducible apply Fo.tail | with_reducible apply ReF.cons))) ?_
  refine At.turn (A := slP pairC 2 150 sl L1) (by (repeat (first | with_reducible exact Fo.head | with_reducible apply Fo.tail))) (slP_congr (pairs_set (c' := { c with stopped := true }) (w' := w) hi hp rfl)) ?_
  refine C.go ?_
  refine C.rg [0, 1, 2] ?_
  refine C.mv rfl ?_
  refine C.ar rfl ?_
  refine C.asg rfl ?_
  refine C.go ?_
  have hb2 : (if c.stopped = true then σ1 else σ1.joined c.ids).bot = σ.bot := by rw [← hbot]; split <;> rfl
  refine againG (c := .skip) ih (i + 1, _, L1.set i ⟨{ c with stopped := true }, w, bw⟩) rfl ⟨by dsimp only; rw [List.length_set]; omega, by dsimp only; rw [List.length_set]; omega, hb2, ?_, ?_⟩ (by dsimp only; rw [List.length_set]; omega)
  ·dsimp only
   rw [List.map_set]
   exact hrs
  ·dsimp only
   intro p hp'
   obtain ⟨q, hq, rfl⟩ := List.getElem_of_mem hp'
   rw [List.length_take, List.length_set] at hq
   rw [List.getElem_take]
   by_cases z : q = i
   ·subst z; rw [List.getElem_set_self]
   ·rw [List.getElem_set_ne (by omega)]
    exact hst _ (List.mem_iff_getElem.2 ⟨q, by rw [List.length_take]; omega, by rw [List.getElem_take]⟩)
 ·skip
  refine C.go ?_
  refine C.fls ?_
  have hall : ∀ c ∈ L1.map (·.c), c.stopped = true := fun c hc => by
   obtain ⟨p, hp, rfl⟩ := List.mem_map.1 hc
   exact hst p (by rw [List.take_of_length_le (by omega)]; exact hp)
  refine At.reo (show Reo _ F by ((try simp only [List.cons_append, List.nil_append]); (repeat (first | with_reducible exact Reo.refl | with_reducible exact Reo.nil | with_reducible exact Fo.head | with_reducible apply Fo.tail | with_reducible apply Reo.cons | with_reducible apply Reo.drop)); done)) ?_
  exact RunR.finR hkd hret ⟨rfl, hbot, hreg.idle hall, rfl⟩
section
variable {P : Program} {B : Bad} {H : Array Obj} {d : Nat}
theorem okS_loadCellsG {b off : Nat} {c : Array Value} {ty : TypeId} {fr : Nat × Nat} (h1 : hp H b = some (.cells c ty fr)) (hs : b < B.bot ∨ ∀ j, B.sh ty j = false) : ∀ (z i : Nat) (acc : Array Value) {Q : Array Value → Array Obj → Nat → Prop}, off + i + z ≤ c.size → Q (acc ++ c.extract (off + i) (off + i + z)) H d → okS P B (loadCellsFrom ⟨b, off, none⟩ i z acc) H d Q
 | 0, i, acc, Q, _, q => by
  unfold loadCellsFrom; refine okS_pure ?_
  have : c.extract (off + i) (off + i + 0) = #[] := by simp; omega
  rw [this, Array.append_empty] at q; exact q
 | z + 1, i, acc, Q, hz, q => by
  unfold loadCellsFrom
  refine okS_do ?_
  have hlt : off + i < c.size := by omega
  have h2 : ∀ {Q : Value → Array Obj → Nat → Prop}, Q c[off + i] H d → okS P B (load ((⟨b, off, none⟩ : Addr).add i) .plain) H d Q := fun {Q} q => by
   rcases hs with hs | hs
   ·exact okS_load0 (c := c) (ty := ty) (v := c[off + i]) (by rw [add_of]; exact h1) (by rw [add_of]) (by rw [add_of]; exact Array.getElem?_eq_getElem hlt) (by rw [add_of]; exact hs) q
   ·exact okS_load (c := c) (ty := ty) (v := c[off + i]) (by rw [add_of]; exact h1) (by rw [add_of]) (by rw [add_of]; exact Array.getElem?_eq_getElem hlt) (fun _ => hs _) q
  refine h2 ?_
  refine okS_loadCellsG h1 hs z (i + 1) _ (by omega) ?_
  have : acc.push c[off + i] ++ c.extract (off + (i + 1)) (off + (i + 1) + z) = acc ++ c.extract (off + i) (off + i + (z + 1)) := by
   apply Array.ext_getElem?
   intro j
   simp only [Array.getElem?_append, Array.size_push, Array.getElem?_push, Array.getElem?_extract]
   by_cases h1 : j < acc.size
   ·simp [h1, Nat.lt_succ_of_lt h1, Nat.ne_of_lt h1]
   ·by_cases h2 : j = acc.size
    ·subst h2; simp; omega
    ·have : ¬ j < acc.size + 1 := by omega
     simp only [this, h1, if_false, h2]
     have e1 : off + (i + 1) + (j - (acc.size + 1)) = off + i + (j - acc.size) := by omega
     rw [e1]
     congr 1
     simp only [eq_iff_iff]
     omega
  rw [this]; exact q
end
theorem extract_eq {c : Array Value} {p z : Nat} {l : List Value} (hl : l.length = z) (hz : 0 < z) (h : ∀ o, o < z → c[p + o]? = l[o]?) : p + z ≤ c.size ∧ c.extract p (p + z) = l.toArray := by
 have h1 : p + z ≤ c.size := by
  have := h (z - 1) (by omega)
  rw [List.getElem?_eq_getElem (by omega)] at this
  have := (Array.getElem?_eq_some_iff.1 this).1
  omega
 refine ⟨h1, Array.ext_getElem? fun j => ?_⟩
 rw [Array.getElem?_extract, show l.toArray[j]? = l[j]? by simp]
 by_cases hj : j < z
 ·rw [if_pos (by omega), h j hj]
 ·rw [if_neg (by omega), List.getElem?_eq_none (l := l) (by omega)]
def scrSl (I : HL) (bot : Nat) (v : Value) (sc : List StepV) : Prop :=
 ∃ (a : Option Addr) (cap : Nat), v = .slice a sc.length cap ∧ (sc = [] ∨ ∃ b off c ty fr, a = some ⟨b, off, none⟩ ∧ I b = some (.cells c ty fr) ∧ (b < bot ∨ ty = 29) ∧ ∀ j (hj : j < sc.length) o, o < 6 → c[off + j * 6 + o]? = (stepC sc[j])[o]?)
theorem inSl.scr {I : HL} {bot : Nat} {v : Value} {sc : List StepV} (h : inSl I bot stepC 6 v sc) : scrSl I bot v sc := by
 obtain ⟨a, cap, h1, h2⟩ := h
 refine ⟨a, cap, h1, ?_⟩
 rcases h2 with h2 | ⟨b, off, c, ty, fr, h3, h4, h5, h6⟩
 ·exact .inl h2
 ·exact .inr ⟨b, off, c, ty, fr, h3, h4, .inl h5, h6⟩
section
variable {P : Program} {main : Bool} {B : Bad} {R : Nat → Goroutine → Array Obj → Prop} {d : Nat} {As W L : List HP}
variable {fn : FuncId} {kd : Kd} {n : Nat} {e : Nat → Value} {ds : List Deferred} {k : List Item} {cs : List Frame}
variable {ops : Array Oper} {i : Nat} {rest : List Nat} {t : Nat} {ty : TypeId} {pos : String} {af : Array Edge} {gd : Option (Nat × Bool)} {x : Operand} {v : Value} {b off : Nat} {c : Array Value} {el tt : TypeId}
theorem Closed.ldKS (C : Closed P main B R) {fr : Nat × Nat} {z : Nat} {l : List Value} [Ag P tt true] [Cz P tt z] (hk : Kn As b (.cells c el fr)) (hs : b < B.bot ∨ ∀ j, B.sh el j = false) (hc : off + z ≤ c.size ∧ c.extract off (off + z) = l.toArray) (ho : nthO ops i = some ⟨some t, .load tt x, ty, pos, af, gd⟩) (h : At R d As (gr fn kd n (put e t (.agg l.toArray)) ds (.inRegion ops rest :: k) cs))
  (hx : ev n e x = .pointer (some ⟨b, off, none⟩) := by rfl) (hw : wantB ops n e gd = true := by rfl) : At R d As (gr fn kd n e ds (.inRegion ops (i :: rest) :: k) cs) :=
 C.gen ho hw fun H st => by
  unfold execOp; simp only [hx, Instr.loadAt, Instr.sureAddr]
  refine okS_do (okS_do (okS_pure ?_))
  unfold loadVar
  refine okS_do (pu_agg B H d _ ?_)
  simp only [if_true]
  refine okS_do (pu_size B H d _ (okS_do ?_))
  unfold loadCells
  refine okS_loadCellsG (off := off) (hk _ st) hs z 0 #[] (by omega) ?_
  simp only [Nat.add_zero, Array.empty_append]
  rw [hc.2]
  exact ⟨As, st, h⟩
end
set_option maxHeartbeats 1000000 in
theorem upto_spec {σ : Gh} {I : HL} {v : Value} {sc : List StepV} {eb : Nat → Nat × Nat} (hE : ErrI I eb) (hi : scrSl I σ.bot v sc) (hs : ∀ s ∈ sc, StepI I σ.bot s) (hl : sc.length ≤ 2 ^ 41) (h0 : Idle0 σ) (hR : ∀ s ∈ sc, s.kind = 3 → DoC s.a s.b s.c) :
  SpecG Tryz.prog barX 23 #[v] σ [imm I] (fun v σ' As => ∃ I', v = .int .i64 (-1) ∧ σ'.bot = σ.bot ∧ Idle0 σ' ∧ Sub I I' ∧ As = [imm I']) := by
 refine SpecG.of ?_
 intro Post os out kd F c' cs C hkd hret
 simp only [List.cons_append, List.nil_append]
 obtain ⟨a, cap, rfl, hin⟩ := hi
 refine C.go ?_
 refine C.rg [0] ?_
 refine C.asg rfl ?_
 refine C.go ?_
 refine C.rg [0, 1, 2] ?_
 refine C.bd rfl ?_
 refine C.bx rfl (fun b8 => ?_)
 refine C.asg rfl ?_
 refine C.go ?_
 refine C.rg [0] ?_
 refine C.asg rfl ?_
 refine C.go ?_
 refine C.rg [0] ?_
 refine C.asg rfl ?_
 refine C.go ?_
 refine At.turn (A' := pts b8 (.cells #[nilS.v] 96 (0, 0))) .head (fun _ h => h) ?_
 refine At.nilS pairC 2 150 ?_
 refine At.nilA (show At (RunR Tryz.prog Post barX σ 0 os out) 0 (pvsP [] :: _) _ from ?_)
 refine loopG (Y := Nat × Gh × HL × SliceV × List PaV) (fun y => y.2.1) (fun y => [(0, .slice a sc.length cap), (3, ptrV b8), (4, .int .i64 (-1)), (5, .int .i64 y.1)]) (fun y => pts b8 (.cells #[y.2.2.2.1.v] 96 (0, 0)) :: slP pairC 2 150 y.2.2.2.1 y.2.2.2.2 :: pvsP y.2.2.2.2 :: imm y.2.2.1 :: F) (fun y => y.1 ≤ sc.length ∧ y.2.1.bot = σ.bot ∧ Sub I y.2.2.1 ∧ LawW y.2.1 y.2.2.1 y.1 y.2.2.2.2) (fun y => sc.length - y.1) (0, σ, I, nilS, []) rfl ⟨rfl, rfl, rfl, rfl, trivial⟩ ⟨Nat.zero_le _, rfl, Sub.refl _, Reg.nil h0, by simp, by simp⟩ ?_
 rintro ⟨i, σ1, I1, sl, L⟩ e ⟨hile, hbot, hsub, hL⟩ ih
 dsimp only at hile hbot hsub hL ⊢
 have C : Closed Tryz.prog true (barX.bw σ1) (RunR Tryz.prog Post barX σ1 0 os out) := RunR.closed0
 have hE1 : ErrI I1 eb := hE.mono hsub
 refine C.go ?_
 refine C.rg [0, 1, 2, 3, 4, 5, 6, 7] ?_
 refine C.mv rfl ?_
 refine C.mv rfl ?_
 refine C.ln rfl ?_
 refine C.cmp rfl (fun h12 => ?_) (fun h12 => ?_)
 ·skip
  refine C.mv rfl ?_
  refine C.mv rfl ?_
  refine C.cmpT rfl ?_
  refine C.pk rfl ?_
  refine C.go ?_
  refine C.tru ?_
  have hj : i < sc.length := by omega
  rcases hin with rfl | ⟨b, off, cc, ty, fr, rfl, hI, hsh, hrow⟩
  ·exact absurd hj (by simp)
  have hst := hs _ (List.getElem_mem hj)
  have hRs := hR _ (List.getElem_mem hj)
  have hx := extract_eq (p := off + i * 6) (l := stepC sc[i]) (z := 6) rfl (by decide) (hrow i hj)
  obtain ⟨s, hs0⟩ : ∃ s, s = sc[i] := ⟨_, rfl⟩
  rw [← hs0] at hst hRs hx
  have hI1 := hsub _ _ hI
  have hst1 : StepI I1 σ1.bot s := hbot ▸ hst.mono hsub
  have hsh1 : b < (barX.bw σ1).bot ∨ ∀ j, (barX.bw σ1).sh ty j = false := by
   rcases hsh with h | rfl
   ·left; show b < σ1.bot; omega
   ·exact .inr fun _ => rfl
  refine C.rg [0, 1, 2, 3, 4, 5, 6] ?_
  refine C.mv rfl ?_
  refine C.mv rfl ?_
  refine C.mv rfl ?_
  refine C.ia (j := (i : Int)) (o := off + i * 6) rfl ?_ (hoff := by simp)
  refine C.ldKS (l := stepC s) (z := 6) (Ext.immK (fun _ st => st) (by (repeat (first | with_reducible exact Fo.head | with_reducible apply Fo.tail))) hI1) hsh1 hx rfl ?_
  refine RunR.clN (step_spec (s := s) hE1 hL (by omega) hst1 hRs) ?_
  rintro v σ' As' ⟨sl', L', I2, rfl, hb2, hs2, hL2, rfl⟩
  simp only [List.cons_append, List.nil_append]
  have C : Closed Tryz.prog true (barX.bw σ') (RunR Tryz.prog Post barX σ' 0 os out) := RunR.closed0
  refine C.asg rfl ?_
  refine C.go ?_
  refine C.rg [0, 1] ?_
  refine C.mv rfl ?_
  refine C.nt rfl ?_
  refine C.go ?_
  refine C.fls ?_
  refine C.rg [0, 1, 2] ?_
  refine C.mv rfl ?_
  refine C.ar rfl ?_
  refine C.asg rfl ?_
  refine C.go ?_
  exact againG (c := .skip) ih (i + 1, _, I2, sl', L') rfl ⟨by dsimp only; omega, hb2.trans hbot, hsub.trans hs2, hL2⟩ (by dsimp only; omega)
 ·skip
  refine C.mv rfl ?_
  refine C.no rfl ?_
  refine C.no rfl ?_
  refine C.pk rfl ?_
  refine C.go ?_
  refine C.fls ?_
  refine C.rg [0, 1] ?_
  refine C.mv rfl ?_
  refine RunR.clN (stopped_spec hL.reg (by have := hL.len; omega)) ?_
  rintro v σ' As' ⟨rfl, hb2, hid, rfl⟩
  simp only [List.cons_append, List.nil_append]
  have C : Closed Tryz.prog true (barX.bw σ') (RunR Tryz.prog Post barX σ' 0 os out) := RunR.closed0
  refine C.go ?_
  refine C.rg [0, 1] ?_
  refine C.mv rfl ?_
  refine C.asg rfl ?_
  refine C.go ?_
  exact RunR.retQ hkd hret ⟨I1, rfl, hb2.trans hbot, hid, hsub, rfl⟩
end Go.Sl
end
section
set_option linter.unusedVariables false
namespace Go.Sl
open Go.Proofs Go.Conc
def stepN (s : StepV) : List Value := [.int .i64 s.kind, .int .i64 s.cl, .int .i64 s.a, .int .i64 s.b, .int .i64 s.c, if oneCell s.so then s.so else .int .i64 0]
instance : RowF stepN 6 := ⟨fun _ => rfl, fun a v h => by
 simp only [stepN, List.mem_cons, List.not_mem_nil, or_false] at h
 rcases h with h | h | h | h | h | h
 all_goals subst h
 all_goals try rfl
 split
 ·assumption
 ·rfl⟩
theorem stepN_eq {s : StepV} (h : oneCell s.so = true) : stepN s = stepC s := by unfold stepN stepC; rw [if_pos h]
theorem scr_of_im {I : HL} {bot : Nat} {s : SliceV} {l : List StepV} (h : imSl I stepN 29 s l) (ho : ∀ x ∈ l, oneCell x.so = true) : scrSl I bot s.v l := by
 rcases h with ⟨rfl, rfl⟩ | ⟨pad, h1, h2⟩
 ·exact ⟨none, 0, rfl, .inl rfl⟩
 ·refine ⟨some ⟨s.b, 0, none⟩, s.cap, by rw [h1]; rfl, .inr ⟨s.b, 0, _, _, _, rfl, h2, .inr rfl, fun j hj o ho' => ?_⟩⟩
  rw [← stepN_eq (ho _ (List.getElem_mem hj))]
  exact rowA_get (RowF.len (f := stepN)) hj ho' (by omega)
def onlyP (a b : Int) (s : StepV) : Bool := decide (s.kind ≠ 3 ∨ (a ≤ s.a ∧ s.a ≤ b))
theorem filter_take {α : Type} {p : α → Bool} {l : List α} {i : Nat} (hi : i < l.length) : (l.take (i + 1)).filter p = if p l[i] then (l.take i).filter p ++ [l[i]] else (l.take i).filter p := by
 rw [← List.take_append_getElem hi, List.filter_append]
 by_cases h : p l[i] = true
 ·rw [if_pos h, List.filter_cons_of_pos h]; rfl
 ·rw [if_neg h, List.filter_cons_of_neg h]; simp
set_option maxHeartbeats 1000000 in
theorem only_spec {σ : Gh} {I : HL} {v : Value} {sc : List StepV} {a b : Int} (hi : scrSl I σ.bot v sc) (ho : ∀ x ∈ sc, oneCell x.so = true) (hl : sc.length ≤ 2 ^ 41) :
  Spec Tryz.prog true (barX.bw σ) 22 #[v, .int .i64 a, .int .i64 b] [imm I] (fun u As => ∃ s' : SliceV, u = s'.v ∧ As = [slP stepN 6 29 s' (sc.filter (onlyP a b)), imm I]) := by
 refine Spec.of ?_
 intro R C kd d F c cs hkd hret
 simp only [List.cons_append, List.nil_append]
 obtain ⟨a0, cap, rfl, hin⟩ := hi
 refine C.go ?_
 refine C.rg [0] ?_
 refine C.asg rfl ?_
 refine C.go ?_
 refine C.rg [0] ?_
 refine C.asg rfl ?_
 refine C.go ?_
 refine C.rg [0] ?_
 refine C.asg rfl ?_
 refine C.go ?_
 refine At.nilS stepN 6 29 (show At R d (slP stepN 6 29 nilS ((sc.take 0).filter (onlyP a b)) :: _) _ from ?_)
 refine C.loopR (X := Nat × SliceV) (fun x => [(0, .slice a0 sc.length cap), (1, .int .i64 a), (2, .int .i64 b), (7, x.2.v), (8, .int .i64 x.1)]) (fun x => slP stepN 6 29 x.2 ((sc.take x.1).filter (onlyP a b)) :: imm I :: F) (fun x => x.1 ≤ sc.length) (fun x => sc.length - x.1) (0, nilS) ⟨rfl, rfl, rfl, rfl, rfl, trivial⟩ (Nat.zero_le _) ?_
 rintro ⟨i, s'⟩ e hile ih
 dsimp only at hile ⊢
 refine C.go ?_
 refine C.rg [0, 1, 2, 3, 4, 5, 6, 7] ?_
 refine C.mv rfl ?_
 refine C.mv rfl ?_
 refine C.ln rfl ?_
 refine C.cmp rfl (fun h13 => ?_) (fun h13 => ?_)
 ·skip
  refine C.mv rfl ?_
  refine C.mv rfl ?_
  refine C.cmpT rfl ?_
  refine C.pk rfl ?_
  refine C.go ?_
  refine C.tru ?_
  have hj : i < sc.length := by omega
  rcases hin with rfl | ⟨bb, off, cc, ty, fr, rfl, hI, hsh, hrow⟩
  ·exact absurd hj (by simp)
  have hot := ho _ (List.getElem_mem hj)
  have hx := extract_eq (p := off + i * 6) (l := stepC sc[i]) (z := 6) rfl (by decide) (hrow i hj)
  have hft := filter_take (p := onlyP a b) hj
  have hfl : ((sc.take i).filter (onlyP a b)).length ≤ i := Nat.le_trans (List.length_filter_le _ _) (by rw [List.length_take]; omega)
  obtain ⟨s, hs0⟩ : ∃ s, s = sc[i] := ⟨_, rfl⟩
  rw [← hs0] at hot hx hft
  have hsh1 : bb < (barX.bw σ).bot ∨ ∀ j, (barX.bw σ).sh ty j = false := by
   rcases hsh with h | rfl
   ·left; exact h
   ·exact .inr fun _ => rfl
  refine C.rg [0, 1, 2, 3, 4, 5] ?_
  refine C.mv rfl ?_
  refine C.mv rfl ?_
  refine C.ia (j := (i : Int)) (o := off + i * 6) rfl ?_ (hoff := by simp)
  refine C.ldKS (l := stepC s) (z := 6) (Ext.immK (fun _ st => st) (by (repeat (first | with_reducible exact Fo.head | with_reducible apply Fo.tail))) hI) hsh1 hx rfl ?_
  rw [stepC_agg]
  refine C.al rfl (fun b9 => ?_)
  refine C.stS rfl ?_ (hv := fun x hx => RowF.one (f := stepN) s x (by rw [stepN_eq hot]; exact hx))
  refine C.go ?_
  refine C.rg [0, 1, 2, 3, 4, 5, 6, 7, 8, 9, 10, 11, 12, 13, 14] ?_
  refine C.fa rfl ?_
  refine C.ld rfl ?_
  refine C.cmp rfl (fun h26 => ?_) (fun h26 => ?_)
  ·skip
   refine C.mv rfl ?_
   refine C.no rfl ?_
   refine C.no rfl ?_
   refine C.no rfl ?_
   refine C.no rfl ?_
   refine C.no rfl ?_
   refine C.no rfl ?_
   refine C.no rfl ?_
   refine C.no rfl ?_
   refine C.no rfl ?_
   refine C.no rfl ?_
   refine C.pk rfl ?_
   refine C.go ?_
   refine C.tru ?_
   refine C.rg [0, 1, 2, 3, 4] ?_
   refine C.mv rfl ?_
   refine C.ldS rfl ?_
   refine C.bs1 rfl (fun b41 => ?_)
   refine C.ap1 (f := stepN) (l := (sc.take i).filter (onlyP a b)) s rfl (fun s2 => ?_) (hc := by rw [stepN_eq hot]; rfl)
   refine C.asg rfl ?_
   refine C.go ?_
   refine C.rg [0, 1, 2] ?_
   refine C.mv rfl ?_
   refine C.ar rfl ?_
   refine C.asg rfl ?_
   refine C.go ?_
   have hp : onlyP a b s = true := by unfold onlyP; simp only [decide_eq_true_eq]; omega
   rw [if_pos hp] at hft
   exact again ih (i + 1, s2) (by dsimp only; omega) (by dsimp only; omega) (hr := by dsimp only; rw [hft]; ((try simp only [List.cons_append, List.nil_append]); (repeat (first | with_reducible exact Reo.refl | with_reducible exact Reo.nil | with_reducible exact Fo.head | with_reducible apply Fo.tail | with_reducible apply Reo.cons | with_reducible apply Reo.drop)); done))
  ·skip
   refine C.mv rfl ?_
   refine C.fa rfl ?_
   refine C.ld rfl ?_
   refine C.mv rfl ?_
   refine C.cmp rfl (fun h31 => ?_) (fun h31 => ?_)
   ·skip
    refine C.mv rfl ?_
    refine C.fa rfl ?_
    refine C.ld rfl ?_
    refine C.mv rfl ?_
    refine C.cmp rfl (fun h36 => ?_) (fun h36 => ?_)
    ·skip
     refine C.pk rfl ?_
     refine C.pk rfl ?_
     refine C.go ?_
     refine C.tru ?_
     refine C.rg [0, 1, 2, 3, 4] ?_
     refine C.mv rfl ?_
     refine C.ldS rfl ?_
     refine C.bs1 rfl (fun b41 => ?_)
     refine C.ap1 (f := stepN) (l := (sc.take i).filter (onlyP a b)) s rfl (fun s2 => ?_) (hc := by rw [stepN_eq hot]; rfl)
     refine C.asg rfl ?_
     refine C.go ?_
     refine C.rg [0, 1, 2] ?_
     refine C.mv rfl ?_
     refine C.ar rfl ?_
     refine C.asg rfl ?_
     refine C.go ?_
     have hp : onlyP a b s = true := by unfold onlyP; simp only [decide_eq_true_eq]; omega
     rw [if_pos hp] at hft
     exact again ih (i + 1, s2) (by dsimp only; omega) (by dsimp only; omega) (hr := by dsimp only; rw [hft]; ((try simp only [List.cons_append, List.nil_append]); (repeat (first | with_reducible exact Reo.refl | with_reducible exact Reo.nil | with_reducible exact Fo.head | with_reducible apply Fo.tail | with_reducible apply Reo.cons | with_reducible apply Reo.drop)); done))
    ·skip
     refine C.pk rfl ?_
     refine C.pk rfl ?_
     refine C.go ?_
     refine C.fls ?_
     refine C.rg [0, 1, 2] ?_
     refine C.mv rfl ?_
     refine C.ar rfl ?_
     refine C.asg rfl ?_
     refine C.go ?_
     have hp : ¬ onlyP a b s = true := by unfold onlyP; simp only [decide_eq_true_eq]; omega
     rw [if_neg hp] at hft
     exact again ih (i + 1, s') (by dsimp only; omega) (by dsimp only; omega) (hr := by dsimp only; rw [hft]; ((try simp only [List.cons_append, List.nil_append]); (repeat (first | with_reducible exact Reo.refl | with_reducible exact Reo.nil | with_reducible exact Fo.head | with_reducible apply Fo.tail | with_reducible apply Reo.cons | with_reducible apply Reo.drop)); done))
   ·skip
    refine C.mv rfl ?_
    refine C.no rfl ?_
    refine C.no rfl ?_
    refine C.no rfl ?_
    refine C.no rfl ?_
    refine C.pk rfl ?_
    refine C.pk rfl ?_
    refine C.go ?_
    refine C.fls ?_
    refine C.rg [0, 1, 2] ?_
    refine C.mv rfl ?_
    refine C.ar rfl ?_
    refine C.asg rfl ?_
    refine C.go ?_
    have hp : ¬ onlyP a b s = true := by unfold onlyP; simp only [decide_eq_true_eq]; omega
    rw [if_neg hp] at hft
    exact again ih (i + 1, s') (by dsimp only; omega) (by dsimp only; omega) (hr := by dsimp only; rw [hft]; ((try simp only [List.cons_append, List.nil_append]); (repeat (first | with_reducible exact Reo.refl | with_reducible exact Reo.nil | with_reducible exact Fo.head | with_reducible apply Fo.tail | with_reducible apply Reo.cons | with_reducible apply Reo.drop)); done))
 ·skip
  refine C.mv rfl ?_
  refine C.no rfl ?_
  refine C.no rfl ?_
  refine C.pk rfl ?_
  refine C.go ?_
  refine C.fls ?_
  refine C.rg [0, 1] ?_
  refine C.mv rfl ?_
  refine C.asg rfl ?_
  refine C.go ?_
  have hall : (sc.take i).filter (onlyP a b) = sc.filter (onlyP a b) := by rw [List.take_of_length_le (by omega)]
  rw [hall]
  exact C.retR hkd hret ⟨s', rfl, rfl⟩
end Go.Sl
end
section
set_option linter.unusedVariables false
namespace Go.Sl
open Go.Proofs Go.Conc
section
variable {P : Program} {Post : Value → World → Prop} {X : Bar} {σ : Gh} {os : Os} {out : Array (Nat × ByteArray)} {d : Nat} {As F : List HP} {R : Nat → Goroutine → Array Obj → Prop}
variable {fn : FuncId} {kd : Kd} {n : Nat} {e : Nat → Value} {k : List Item}
theorem At.enter {f : FuncId} {fu : Func} {c : Code} {nf : Nat} [b : Body P f fu c nf] {args : Array Value} (h : At R d As (gr f .nor nf (argE args) [] [.code c] [])) (hn : Nat.ble args.size nf = true := by rfl) : At R d As (enterG P f args .nor []) := by
 rw [enterG_eq b.func b.body (by rw [b.tmps]; exact Nat.le_of_ble_eq_true hn), b.tmps]
 exact h
theorem RunR.quit {fu : Func} {cc : Code} {n' : Nat} [b : Body P fn fu cc n'] {v : Value} {x : Code} (As' : List HP) (hi : P.inits.idxOf? fn = none) (hn : ∀ i, σ.seats i = none) (hp : ∀ w : World, Sat As' (hp w.heap) → w.os = os → w.output = out → Post v w) (hv : resV fu n e = some v := by rfl) (hx : ck x = .ret := by rfl)
  (hr : Reo As As' := by (try simp only [List.cons_append, List.nil_append]); repeat (first | with_reducible exact Reo.refl | with_reducible exact Reo.nil | with_reducible exact Fo.head | with_reducible apply Fo.tail | with_reducible apply Reo.cons | with_reducible apply Reo.drop)) : At (RunR P Post X σ 0 os out) 0 As (gr fn .nor n e [] (.code x :: k) []) := by
 have C : Closed P true (X.bw σ) (RunR P Post X σ 0 os out) := RunR.closed0
 refine At.reo hr fun H st => ?_
 have z := ck_inv hx; simp only at z; subst z
 exact C.ret (RunR.done hv hi hn hp H st)
end
end Go.Sl
end
section
set_option linter.unusedVariables false
namespace Go.Sl
open Go.Proofs Go.Conc
def CliK (k : Int) : Prop := k < 1 ∨ 8 < k ∨ k = 1 ∨ k = 3 ∨ k = 4
section
variable {main : Bool}
theorem wmsgC_spec {I : HL} {b : Nat} {w : WV} {k i : Int} (hk : k = 3 ∨ k = 4) (hI : WI I w) (hb : WB0 w.abs) :
  Spec Tryz.prog main badT 114 #[.pointer (some ⟨b, 0, none⟩), .int .i64 k, .int .i64 i] [wP b w, imm I] (WQ b I (messageW w.abs k i).1 (.int .i64 (messageW w.abs k i).2)) := by
 refine Spec.of ?_
 intro R C kd d F c cs hkd hret
 simp only [List.cons_append, List.nil_append]
 refine wP.opn (h := fun sh bg txS => ?_)
 have hbg := hb.bag
 rw [WV.abs_bag] at hbg
 refine C.go ?_
 refine C.rg [0] ?_
 refine C.asg rfl ?_
 refine C.go ?_
 refine C.rg [0, 1, 2, 3, 4, 5, 6, 7, 8, 9, 10] ?_
 refine C.mv rfl ?_
 refine C.cmp rfl (fun h12 => ?_) (fun h12 => ?_)
 ·skip
  refine C.mv rfl ?_
  refine C.no rfl ?_
  refine C.no rfl ?_
  refine C.no rfl ?_
  refine C.no rfl ?_
  refine C.no rfl ?_
  refine C.no rfl ?_
  refine C.no rfl ?_
  refine C.pk rfl ?_
  refine C.go ?_
  refine C.tru ?_
  refine C.rg [0] ?_
  refine C.asg rfl ?_
  refine C.go ?_
  refine wP.cls w ?_
  have e1 : messageW w.abs k i = (w.abs, 5) := by unfold messageW; rw [if_pos (.inl h12)]
  rw [e1] at hret
  exact C.retR hkd hret ⟨I, w, Sub.refl _, hI, rfl, rfl, rfl⟩
 ·skip
  refine C.mv rfl ?_
  refine C.mv rfl ?_
  refine C.mv rfl ?_
  refine C.nc rfl ?_
  refine C.fa rfl ?_
  refine C.ld rfl ?_
  refine C.lnR rfl ?_
  refine C.cmp rfl (fun h20 => ?_) (fun h20 => ?_)
  ·skip
   refine C.pk rfl ?_
   refine C.go ?_
   refine C.tru ?_
   refine C.rg [0] ?_
   refine C.asg rfl ?_
   refine C.go ?_
   refine wP.cls w ?_
   have e1 : messageW w.abs k i = (w.abs, 5) := by unfold messageW; rw [if_pos (.inr (by rw [WV.abs_bag]; exact h20))]
   rw [e1] at hret
   exact C.retR hkd hret ⟨I, w, Sub.refl _, hI, rfl, rfl, rfl⟩
  ·skip
   refine C.pk rfl ?_
   refine C.go ?_
   refine C.fls ?_
   obtain ⟨q, rfl⟩ := Int.eq_ofNat_of_zero_le (show 0 ≤ i by omega)
   have hq : q < w.bag.length := by omega
   have hneg : ¬ ((q : Int) < 0 ∨ (w.abs.bag.length : Int) ≤ q) := by rw [WV.abs_bag]; omega
   have hqm : w.abs.bag[q]? = some w.bag[q].toMsgR := by simp [WV.abs, hq]
   have hmI := hI.bag _ (List.getElem_mem hq)
   refine C.rg [0, 1, 2, 3, 4, 5, 6, 7, 8] ?_
   refine C.mv rfl ?_
   refine C.nc rfl ?_
   refine C.fa rfl ?_
   refine C.ld rfl ?_
   refine C.mv rfl ?_
   refine C.iaR rfl ?_
   refine C.ldRP hq rfl ?_ (s := bg) (f := msgC)
   refine C.al rfl (fun b7 => ?_)
   refine C.stS rfl ?_ (hv := fun v hv => RowF.one w.bag[q] v (by simpa using hv))
   refine C.go ?_
   refine At.turn (A := pts b7 (.cells (wr #[.int .i64 0, .int .i64 0, .int .i64 0, .int .i64 0, .bool false, .slice none 0 0, .slice none 0 0] 0 (msgC w.bag[q])) 137 (0, 0))) (by (repeat (first | with_reducible exact Fo.head | with_reducible apply Fo.tail))) (A' := msgB b7 w.bag[q]) (fun _ h => h) ?_
   refine C.rg [0, 1] ?_
   refine C.mv rfl ?_
   refine C.cmp rfl (fun h30 => ?_) (fun h30 => ?_)
   ·skip
    refine C.go ?_
    refine C.tru ?_
    refine C.rg [0, 1, 2, 3, 4, 5] ?_
    refine C.mv rfl ?_
    refine C.nc rfl ?_
    refine C.fa rfl ?_
    refine C.ld rfl ?_
    refine C.lnR rfl ?_
    refine C.cmp rfl (fun h36 => ?_) (fun h36 => ?_)
    ·skip
     refine C.go ?_
     refine C.tru ?_
     refine C.rg [0] ?_
     refine C.asg rfl ?_
     refine C.go ?_
     refine wP.cls w ?_
     have e1 : messageW w.abs k q = (w.abs, 3) := by
      unfold messageW
      rw [if_neg hneg]
      simp only [Int.toNat_natCast, hqm]
      rw [if_pos h30, if_pos (by rw [WV.abs_bag]; omega)]
     rw [e1] at hret
     exact C.retR hkd hret ⟨I, w, Sub.refl _, hI, rfl, rfl, rfl⟩
    ·skip
     refine C.go ?_
     refine C.fls ?_
     refine C.drawn [(37, 0), (38, 1), (39, 2), (40, 3), (41, 4), (42, 5), (43, 6), (44, 7), (45, 8), (46, 9)] [0, 1, 2, 3, 4, 5, 8, 9] [6, 7, 10] 1 ?_
     refine Dr.pu ⟨_, rfl, rfl⟩ (fun _ _ _ h => C.mv rfl h) ?_
     refine Dr.pu ⟨_, rfl, rfl⟩ (fun _ _ _ h => C.mv rfl h) ?_
     refine Dr.pu ⟨_, rfl, rfl⟩ (fun _ _ _ h => C.nc rfl h) ?_
     refine Dr.pu ⟨_, rfl, rfl⟩ (fun _ _ _ h => C.fa rfl h) ?_
     refine Dr.ld ⟨_, rfl, rfl⟩ (fun _ hE _ _ h => C.ld rfl h) ?_
     refine Dr.ld ⟨_, rfl, rfl⟩ (fun _ hE _ _ h => C.ldS rfl h) ?_
     refine Dr.pu ⟨_, rfl, rfl⟩ (fun _ _ _ h => C.nc rfl h) ?_
     refine Dr.pu ⟨_, rfl, rfl⟩ (fun _ _ _ h => C.fa rfl h) ?_
     refine Dr.chain rfl ?_
     refine Ch.n1 (t := 6) rfl ⟨_, rfl, fun e rest hk => ?_⟩
     refine C.bs1 rfl (fun b43 => hk _ _ .cons ?_)
     refine Ch.n1 (t := 7) rfl ⟨_, rfl, fun e rest hk => ?_⟩
     refine C.ap1 w.bag[q] rfl (fun s8 => ?_)
     refine hk _ _ ?_
     refine Ch.n1 (t := 10) rfl ⟨_, rfl, fun e rest hk => ?_⟩
     refine C.st rfl (hk _ undef ?_)
     refine Ch.fin ?_
     refine C.go ?_
     refine C.rg [0] ?_
     refine C.asg rfl ?_
     refine C.go ?_
     refine wP.cls { w with bag := w.bag ++ [w.bag[q]] } ?_
     have e1 : messageW w.abs k q = (({ w with bag := w.bag ++ [w.bag[q]] } : WV).abs, 0) := by
      unfold messageW
      rw [if_neg hneg]
      simp only [Int.toNat_natCast, hqm]
      rw [if_pos h30, if_neg (by rw [WV.abs_bag]; omega)]
      simp [WV.abs]
     rw [e1] at hret
     exact C.retR hkd hret ⟨I, { w with bag := w.bag ++ [w.bag[q]] }, Sub.refl _, ⟨hI.sh, fun m hm => by
      rcases List.mem_append.1 hm with hm | hm
      ·exact hI.bag m hm
      ·obtain rfl := List.mem_singleton.1 hm; exact hmI, hI.txs⟩, rfl, rfl, rfl⟩
   ·skip
    refine C.go ?_
    refine C.fls ?_
    refine At.know (A := slP msgC 7 137 bg w.bag) (by (repeat (first | with_reducible exact Fo.head | with_reducible apply Fo.tail))) (slP_know (by omega)) fun ⟨hk3, hk4, hk5⟩ => ?_
    refine At.nilS msgC 7 137 ?_
    refine C.rg [0] ?_
    refine C.asg rfl ?_
    refine C.go ?_
    refine C.rg [0, 1, 2, 3, 4, 5, 6, 7, 8] ?_
    refine C.mv rfl ?_
    refine C.mv rfl ?_
    refine C.nc rfl ?_
    refine C.fa rfl ?_
    refine C.ld rfl ?_
    refine C.mv rfl ?_
    refine C.shi rfl ?_ (hi := (q : Int)) (hh := by constructor <;> omega)
    refine C.apR (f := msgC) (s := nilS) (l := []) (w.bag.take q) rfl (fun s7 => ?_) (hsrc := fun H st => src_take (by (repeat (first | with_reducible exact Fo.head | with_reducible apply Fo.tail))) st (fun _ => rfl) q hq hk3) (hsz := by simp only [List.length_nil, List.length_take]; omega)
    refine C.asg rfl ?_
    refine C.go ?_
    refine C.rg [0, 1, 2, 3, 4, 5, 6, 7, 8, 9, 10, 11, 12] ?_
    refine C.mv rfl ?_
    refine C.mv rfl ?_
    refine C.mv rfl ?_
    refine C.nc rfl ?_
    refine C.fa rfl ?_
    refine C.ld rfl ?_
    refine C.mv rfl ?_
    refine C.ar rfl ?_
    refine C.slo rfl ?_ (hx := by show Value.slice bg.a bg.len bg.cap = _; rw [hk3, hk4]) (lo := ((q + 1 : Nat) : Int)) (hh := by constructor <;> omega)
    refine C.apR (f := msgC) (s := s7) (l := [] ++ w.bag.take q) (w.bag.drop (q + 1)) rfl (fun s8 => ?_) (hsrc := fun H st => src_drop (s := bg) (by (repeat (first | with_reducible exact Fo.head | with_reducible apply Fo.tail))) st (fun _ => rfl) q hq hk5) (hsz := by simp only [List.nil_append, List.length_drop, List.length_take]; omega)
    refine C.nc rfl ?_
    refine C.fa rfl ?_
    refine C.st rfl ?_
    refine C.go ?_
    have hfin : [] ++ w.bag.take q ++ w.bag.drop (q + 1) = w.bag.eraseIdx q := by rw [List.nil_append, ← List.eraseIdx_eq_take_drop_succ]
    rw [hfin]
    have hW1 : WI I { w with bag := w.bag.eraseIdx q } := ⟨hI.sh, fun m hm => hI.bag m ((List.eraseIdx_sublist ..).mem hm), hI.txs⟩
    have hab : ({ w with bag := w.bag.eraseIdx q } : WV).abs = { w.abs with bag := w.abs.bag.eraseIdx q } := by simp [WV.abs, map_erase]
    refine C.rg [0, 1] ?_
    refine C.mv rfl ?_
    refine C.cmpT rfl ?_
    refine C.go ?_
    refine C.tru ?_
    refine C.rg [0] ?_
    refine C.asg rfl ?_
    refine C.go ?_
    refine wP.cls { w with bag := w.bag.eraseIdx q } ?_ (bg := s8)
    have e1 : messageW w.abs k q = (({ w with bag := w.bag.eraseIdx q } : WV).abs, 0) := by
     unfold messageW
     rw [if_neg hneg]
     simp only [Int.toNat_natCast, hqm]
     rw [if_neg h30, if_pos (by omega), hab]
    rw [e1] at hret
    exact C.retR hkd hret ⟨I, _, Sub.refl _, hW1, rfl, rfl, rfl⟩
theorem wdoC_spec {I : HL} {b : Nat} {w : WV} {k a c : Int} (hK : CliK k) (hI : WI I w) (hb : WB0 w.abs) (hto : ∀ t ∈ w.abs.txs, OpsB t.ops ∧ 1 ≤ t.ops.length) :
  Spec Tryz.prog main badT 74 #[.pointer (some ⟨b, 0, none⟩), .int .i64 k, .int .i64 a, .int .i64 c] [wP b w, imm I] (WQ b I (doW w.abs k a c).1 (.int .i64 (doW w.abs k a c).2)) := by
 refine Spec.of ?_
 intro R C kd d F c cs hkd hret
 simp only [List.cons_append, List.nil_append]
 rename_i c0
 refine wP.opn (h := fun sh bg txS => ?_)
 have hbg := hb.bag
 rw [WV.abs_bag] at hbg
 refine C.go ?_
 refine C.rg [0] ?_
 refine C.asg rfl ?_
 refine C.go ?_
 refine C.rg [0, 1, 2, 3, 4, 5] ?_
 refine C.mv rfl ?_
 refine C.cmp rfl (fun h11 => ?_) (fun h11 => ?_)
 ·skip
  refine C.mv rfl ?_
  refine C.no rfl ?_
  refine C.no rfl ?_
  refine C.pk rfl ?_
  refine C.go ?_
  refine C.tru ?_
  refine C.rg [0] ?_
  refine C.asg rfl ?_
  refine C.go ?_
  refine wP.cls w ?_
  have e1 : doW w.abs k a c0 = (w.abs, 0) := by unfold doW; rw [if_pos (.inl h11)]
  rw [e1] at hret
  exact C.retR hkd hret ⟨I, w, Sub.refl _, hI, rfl, rfl, rfl⟩
 ·skip
  refine C.mv rfl ?_
  refine C.mv rfl ?_
  refine C.cmp rfl (fun h14 => ?_) (fun h14 => ?_)
  ·skip
   refine C.pk rfl ?_
   refine C.go ?_
   refine C.tru ?_
   refine C.rg [0] ?_
   refine C.asg rfl ?_
   refine C.go ?_
   refine wP.cls w ?_
   have e1 : doW w.abs k a c0 = (w.abs, 0) := by unfold doW; rw [if_pos (.inr (by omega))]
   rw [e1] at hret
   exact C.retR hkd hret ⟨I, w, Sub.refl _, hI, rfl, rfl, rfl⟩
  ·skip
   refine C.pk rfl ?_
   refine C.go ?_
   refine C.fls ?_
   refine C.rg [0, 1, 2, 3] ?_
   refine C.mv rfl ?_
   refine C.nc rfl ?_
   refine C.fa rfl ?_
   refine C.ld rfl ?_
   refine C.go ?_
   have hkk : ¬ (k < 1 ∨ 8 < k) := by omega
   refine C.cnd (fun hb19 => ?_) (fun hb19 => ?_)
   ·skip
    refine C.go ?_
    refine C.rg [0] ?_
    refine C.asg rfl ?_
    refine C.go ?_
    refine wP.cls w ?_
    have e1 : doW w.abs k a c0 = (w.abs, 9) := by unfold doW; rw [if_neg hkk, if_pos (show w.abs.stopped = true from hb19)]
    rw [e1] at hret
    exact C.retR hkd hret ⟨I, w, Sub.refl _, hI, rfl, rfl, rfl⟩
   ·skip
    refine C.go ?_
    have hst : ¬ w.abs.stopped = true := by show ¬ w.stopped = true; simp [hb19]
    refine C.rg [0, 1] ?_
    refine C.mv rfl ?_
    refine C.cmp rfl (fun h21 => ?_) (fun h21 => ?_)
    ·skip
     refine C.go ?_
     refine C.tru ?_
     refine C.rg [0, 1, 2, 3, 4, 5, 6, 7, 8, 9, 10] ?_
     refine C.mv rfl ?_
     refine C.cmp rfl (fun h23 => ?_) (fun h23 => ?_)
     ·skip
      refine C.mv rfl ?_
      refine C.no rfl ?_
      refine C.no rfl ?_
      refine C.no rfl ?_
      refine C.no rfl ?_
      refine C.no rfl ?_
      refine C.no rfl ?_
      refine C.no rfl ?_
      refine C.pk rfl ?_
      refine C.go ?_
      refine C.tru ?_
      refine C.rg [0] ?_
      refine C.asg rfl ?_
      refine C.go ?_
      refine wP.cls w ?_
      have e1 : doW w.abs k a c0 = (w.abs, 4) := by unfold doW; rw [if_neg hkk, if_neg hst, if_pos h21, if_pos (.inl h23)]
      rw [e1] at hret
      exact C.retR hkd hret ⟨I, w, Sub.refl _, hI, rfl, rfl, rfl⟩
     ·skip
      refine C.mv rfl ?_
      refine C.mv rfl ?_
      refine C.mv rfl ?_
      refine C.nc rfl ?_
      refine C.fa rfl ?_
      refine C.ld rfl ?_
      refine C.lnR rfl ?_
      refine C.cmp rfl (fun h31 => ?_) (fun h31 => ?_)
      ·skip
       refine C.pk rfl ?_
       refine C.go ?_
       refine C.tru ?_
       refine C.rg [0] ?_
       refine C.asg rfl ?_
       refine C.go ?_
       refine wP.cls w ?_
       have e1 : doW w.abs k a c0 = (w.abs, 4) := by unfold doW; rw [if_neg hkk, if_neg hst, if_pos h21, if_pos (.inr (by rw [WV.abs_txs]; exact h31))]
       rw [e1] at hret
       exact C.retR hkd hret ⟨I, w, Sub.refl _, hI, rfl, rfl, rfl⟩
      ·skip
       refine C.pk rfl ?_
       refine C.go ?_
       refine C.fls ?_
       obtain ⟨q, rfl⟩ := Int.eq_ofNat_of_zero_le (show 0 ≤ a by omega)
       have hql : q < w.txs.length := by omega
       have hna : ¬ ((q : Int) < 0 ∨ (w.abs.txs.length : Int) ≤ q) := by rw [WV.abs_txs]; omega
       refine C.rg [0, 1, 2, 3, 4, 5] ?_
       refine C.mv rfl ?_
       refine C.nc rfl ?_
       refine C.fa rfl ?_
       refine C.ld rfl ?_
       refine C.lnR rfl ?_
       refine C.cmp rfl (fun h38 => ?_) (fun h38 => ?_)
       ·skip
        refine C.go ?_
        refine C.tru ?_
        refine C.rg [0] ?_
        refine C.asg rfl ?_
        refine C.go ?_
        refine wP.cls w ?_
        have e1 : doW w.abs k q c0 = (w.abs, 3) := by unfold doW; rw [if_neg hkk, if_neg hst, if_pos h21, if_neg hna, if_pos (by rw [WV.abs_bag]; omega)]
        rw [e1] at hret
        exact C.retR hkd hret ⟨I, w, Sub.refl _, hI, rfl, rfl, rfl⟩
       ·skip
        refine C.go ?_
        refine C.fls ?_
        refine C.rg [0, 1, 2] ?_
        refine C.mv rfl ?_
        refine C.mv rfl ?_
        have hqm : w.abs.txs[q]? = some w.txs[q].toTxR := by simp [WV.abs, hql]
        have htb := hto _ (List.mem_of_getElem? hqm)
        have hn := hb.n
        rw [WV.abs_sh] at hn
        refine wP.cls w ?_
        refine C.clR (wbegin_spec (tx := q) hI hn (by omega) hql htb) ?_
        rintro v As' rfl
        simp only [List.cons_append, List.nil_append]
        refine C.go ?_
        refine C.rg [0] ?_
        refine C.asg rfl ?_
        refine C.go ?_
        have e1 : doW w.abs k q c0 = (({ w with bag := w.bag ++ [begM w w.txs[q] q] } : WV).abs, 0) := by
         unfold doW; rw [if_neg hkk, if_neg hst, if_pos h21, if_neg hna, if_neg (by rw [WV.abs_bag]; omega)]
         simp only [Int.toNat_natCast, beginW, hqm]
         simp [WV.abs, begM]
        rw [e1] at hret
        refine C.retR hkd hret ⟨I, { w with bag := w.bag ++ [begM w w.txs[q] q] }, Sub.refl _, ⟨hI.sh, fun m hm => ?_, hI.txs⟩, rfl, rfl, rfl⟩
        rcases List.mem_append.1 hm with hm | hm
        ·exact hI.bag m hm
        ·obtain rfl := List.mem_singleton.1 hm; exact ⟨(hI.txs _ (List.getElem_mem hql)).o, .nil ..⟩
    ·skip
     refine C.go ?_
     refine C.fls ?_
     refine C.rg [0, 1] ?_
     refine C.mv rfl ?_
     refine C.cmpT rfl ?_ (hf := by unfold CliK at hK; omega)
     refine C.go ?_
     refine C.tru ?_
     refine C.rg [0, 1, 2, 3, 4] ?_
     refine C.mv rfl ?_
     refine C.mv rfl ?_
     refine C.mv rfl ?_
     refine wP.cls w ?_
     refine C.clR (wmsgC_spec (k := k) (i := a) (by unfold CliK at hK; omega) hI hb) ?_
     rintro v As' ⟨I', w', hS, hI', ha', rfl, rfl⟩
     simp only [List.cons_append, List.nil_append]
     refine C.asg rfl ?_
     refine C.go ?_
     have e1 : doW w.abs k a c0 = messageW w.abs k a := by unfold doW; rw [if_neg hkk, if_neg hst, if_neg h21, if_pos (by unfold CliK at hK; omega)]
     rw [e1] at hret
     exact C.retR hkd hret ⟨I', w', hS, hI', ha', rfl, rfl⟩
end
end Go.Sl
end
section
set_option linter.unusedVariables false
namespace Go.Sl
open Go.Proofs Go.Conc
set_option maxHeartbeats 1000000 in
theorem pdoC_spec {σ : Gh} {c : CV} {k i b : Int} {I : HL} {eb : Nat → Nat × Nat} {o a : Int} (hK : k < 1 ∨ 8 < k ∨ k = 1 ∨ k = 3 ∨ k = 4) (hE : ErrI I eb) (hJ : CvJ I c) (hC : CntC o a c) (hb : CvB c) :
  SpecG Tryz.prog barX 42 #[ptrV c.G.b, .int .i64 k, .int .i64 i, .int .i64 b] σ [cvP c, imm I] (fun v σ' As => ∃ er c' I', σ' = σ ∧ v = .int .i64 (numO er) ∧ StepQ c I (o + 2 ^ 15) (a + 1) (doWP c.abs k i b) er c' I' ∧ As = [cvP c', imm I']) := by
 refine SpecG.of ?_
 intro Post os out kd F c' cs C hkd hret
 simp only [List.cons_append, List.nil_append]
 refine C.go ?_
 refine C.rg [0] ?_
 refine C.asg rfl ?_
 refine C.go ?_
 refine C.rg [0] ?_
 refine C.mv rfl ?_
 refine C.go ?_
 refine C.rg [0, 1] ?_
 refine C.cmp rfl (fun h11 => ?_) (fun h11 => ?_)
 ·skip
  refine C.asg rfl ?_
  refine C.go ?_
  refine C.tru ?_
  obtain rfl : k = 1 := h11
  refine C.rg [0, 1, 2, 3, 4, 5] ?_
  refine C.mv rfl ?_
  refine C.mv rfl ?_
  refine RunR.clN (cagain_spec hE hJ hb hC) ?_
  rintro v σ' As' ⟨er, c2, I2, L, hcv, hk9, rfl, rfl, h4⟩
  rw [do_b (b := b) (by omega)] at hret
  have hS := step_of (by omega) hJ hC h4
  have hE2 := hE.mono hS.sub
  cases er
  ·skip
   refine C.mv rfl ?_
   obtain ⟨rfl, rfl⟩ := hcv
   simp only [List.cons_append, List.nil_append]
   refine C.clR (Spec.less (barLe _) number0_spec) (A := []) ?_
   rintro v As' ⟨rfl, rfl⟩
   simp only [List.nil_append]
   refine C.asg rfl ?_
   refine C.go ?_
   exact RunR.retQ hkd hret ⟨none, c2, I2, rfl, rfl, hS, rfl⟩
  ·skip
   refine C.mv rfl ?_
   rename_i kk
   obtain ⟨bE, rfl, rfl⟩ := hcv
   simp only [List.cons_append, List.nil_append]
   refine C.clR (number_spec hE2 (bE := bE) (k := kk) (nm := agN) (at_ := i) (hk9 kk rfl)) ?_
   rintro v As' ⟨rfl, rfl⟩
   simp only [List.cons_append, List.nil_append]
   refine C.asg rfl ?_
   refine C.go ?_
   exact RunR.retQ hkd hret ⟨some kk, c2, I2, rfl, rfl, hS, rfl⟩
 ·skip
  refine C.asg rfl ?_
  refine C.go ?_
  refine C.fls ?_
  refine C.rg [0, 1] ?_
  refine C.cmpF rfl ?_
  refine C.asg rfl ?_
  refine C.go ?_
  refine C.fls ?_
  refine C.rg [0, 1] ?_
  refine C.cmp rfl (fun h25 => ?_) (fun h25 => ?_)
  ·skip
   refine C.asg rfl ?_
   refine C.go ?_
   refine C.tru ?_
   obtain rfl : k = 3 := h25
   refine C.rg [0, 1, 2, 3, 4, 5] ?_
   refine C.mv rfl ?_
   refine C.mv rfl ?_
   refine RunR.clN (cdrop_spec hE hJ hb hC) ?_
   rintro v σ' As' ⟨er, c2, I2, L, hcv, hk9, rfl, rfl, h4⟩
   rw [do_b (b := b) (by omega)] at hret
   have hS := step_of (by omega) hJ hC h4
   have hE2 := hE.mono hS.sub
   cases er
   ·skip
    refine C.mv rfl ?_
    obtain ⟨rfl, rfl⟩ := hcv
    simp only [List.cons_append, List.nil_append]
    refine C.clR (Spec.less (barLe _) number0_spec) (A := []) ?_
    rintro v As' ⟨rfl, rfl⟩
    simp only [List.nil_append]
    refine C.asg rfl ?_
    refine C.go ?_
    exact RunR.retQ hkd hret ⟨none, c2, I2, rfl, rfl, hS, rfl⟩
   ·skip
    refine C.mv rfl ?_
    rename_i kk
    obtain ⟨bE, rfl, rfl⟩ := hcv
    simp only [List.cons_append, List.nil_append]
    refine C.clR (number_spec hE2 (bE := bE) (k := kk) (nm := drpN) (at_ := i) (hk9 kk rfl)) ?_
    rintro v As' ⟨rfl, rfl⟩
    simp only [List.cons_append, List.nil_append]
    refine C.asg rfl ?_
    refine C.go ?_
    exact RunR.retQ hkd hret ⟨some kk, c2, I2, rfl, rfl, hS, rfl⟩
  ·skip
   refine C.asg rfl ?_
   refine C.go ?_
   refine C.fls ?_
   refine C.rg [0, 1] ?_
   refine C.cmp rfl (fun h32 => ?_) (fun h32 => ?_)
   ·skip
    refine C.asg rfl ?_
    refine C.go ?_
    refine C.tru ?_
    obtain rfl : k = 4 := h32
    refine C.rg [0, 1, 2, 3, 4, 5] ?_
    refine C.mv rfl ?_
    refine C.mv rfl ?_
    refine RunR.clN (ccopy_spec hE hJ hb hC) ?_
    rintro v σ' As' ⟨er, c2, I2, L, hcv, hk9, rfl, rfl, h4⟩
    rw [do_b (b := b) (by omega)] at hret
    have hS := step_of (by omega) hJ hC h4
    have hE2 := hE.mono hS.sub
    cases er
    ·skip
     refine C.mv rfl ?_
     obtain ⟨rfl, rfl⟩ := hcv
     simp only [List.cons_append, List.nil_append]
     refine C.clR (Spec.less (barLe _) number0_spec) (A := []) ?_
     rintro v As' ⟨rfl, rfl⟩
     simp only [List.nil_append]
     refine C.asg rfl ?_
     refine C.go ?_
     exact RunR.retQ hkd hret ⟨none, c2, I2, rfl, rfl, hS, rfl⟩
    ·skip
     refine C.mv rfl ?_
     rename_i kk
     obtain ⟨bE, rfl, rfl⟩ := hcv
     simp only [List.cons_append, List.nil_append]
     refine C.clR (number_spec hE2 (bE := bE) (k := kk) (nm := cpyN) (at_ := i) (hk9 kk rfl)) ?_
     rintro v As' ⟨rfl, rfl⟩
     simp only [List.cons_append, List.nil_append]
     refine C.asg rfl ?_
     refine C.go ?_
     exact RunR.retQ hkd hret ⟨some kk, c2, I2, rfl, rfl, hS, rfl⟩
   ·skip
    refine C.asg rfl ?_
    refine C.go ?_
    refine C.fls ?_
    refine C.rg [0, 1] ?_
    refine C.cmpF rfl ?_
    refine C.asg rfl ?_
    refine C.go ?_
    refine C.fls ?_
    refine C.rg [0, 1] ?_
    refine C.cmpF rfl ?_
    refine C.asg rfl ?_
    refine C.go ?_
    refine C.fls ?_
    refine C.rg [0, 1] ?_
    refine C.cmpF rfl ?_
    refine C.asg rfl ?_
    refine C.go ?_
    refine C.fls ?_
    refine C.rg [0, 1] ?_
    refine C.cmpF rfl ?_
    refine C.asg rfl ?_
    refine C.go ?_
    refine C.fls ?_
    refine C.rg [0] ?_
    refine C.asg rfl ?_
    refine C.go ?_
    have hd := do_none (w := c.abs) (k := k) (i := i) (b := b) (by omega)
    exact RunR.retQ hkd hret ⟨none, c, I, rfl, rfl, by rw [hd]; exact StepQ.same hJ hC rfl, rfl⟩
section
variable {W : WP} {w : WR} {t : Nat}
theorem msgC_rel {k : Int} (hk : k = 3 ∨ k = 4) (H : RelW W w) (i : Int) : RelW (messageWP W k i).1 (messageW w k i).1 ∧ (messageWP W k i).2 = (messageW w k i).2 := by
 obtain ⟨sh, rfl⟩ := H.shape
 unfold messageWP messageW
 simp only
 split
 ·exact ⟨H, rfl⟩
 cases hm : w.bag[i.toNat]? with
 | none => exact ⟨H, rfl⟩
 | some m =>
  have hmo := H.msg m (List.mem_of_getElem? hm)
  simp only
  split
  ·split
   ·exact ⟨H, rfl⟩
   ·refine ⟨{ H with bag := rfl, msg := fun x hx => ?_ }, rfl⟩
    rcases List.mem_append.1 hx with hx | hx
    ·exact H.msg x hx
    ·obtain rfl := List.mem_singleton.1 hx; exact hmo
  have H1 : RelW ⟨sh, w.bag.eraseIdx i.toNat, w.txs, w.stopped⟩ { w with bag := w.bag.eraseIdx i.toNat } := { H with bag := rfl, msg := fun x hx => H.msg x ((List.eraseIdx_sublist ..).mem hx) }
  rw [if_pos (by omega), if_pos (by omega)]
  exact ⟨H1, rfl⟩
theorem msgC_inv {k : Int} (hk : k = 3 ∨ k = 4) (I : InvW t w) (H : RelW W w) (i : Int) : InvW (t + 1) (messageW w k i).1 := by
 unfold messageW
 by_cases c1 : i < 0 ∨ (w.bag.length : Int) ≤ i
 ·rw [if_pos c1]; exact I.mono
 rw [if_neg c1]
 cases hm : w.bag[i.toNat]? with
 | none => exact I.mono
 | some m =>
  dsimp only
  by_cases c2 : k = 4
  ·rw [if_pos c2]
   by_cases c3 : 400 ≤ w.bag.length
   ·rw [if_pos c3]; exact I.mono
   rw [if_neg c3]; exact I.push H (by omega) m
  rw [if_neg c2, if_pos (by omega)]
  have he := ws_erase hm
  have I1 : InvW t { w with bag := w.bag.eraseIdx i.toNat } := ⟨I.sh, by have := I.phi; show ws (w.bag.eraseIdx _) + sumW w.sh ≤ _; omega⟩
  exact I1.mono
theorem msgC_rng {k : Int} (hk : k = 3 ∨ k = 4) (h : RngW I64 w) (i : Int) : RngW I64 (messageW w k i).1 := by
 unfold messageW
 split
 ·exact h
 split
 ·exact h
 ·rename_i m e
  have hm := h.bag m (List.mem_of_getElem? e)
  split
  ·split
   ·exact h
   ·exact { h with bag := mem_snoc h.bag hm }
  ·rw [if_pos (by omega)]
   exact { h with bag := mem_eraseP h.bag }
theorem doC_rel {k : Int} (hK : CliK k) (H : RelW W w) (a b : Int) : RelW (doWP W k a b).1 (doW w k a b).1 ∧ (doWP W k a b).2 = (doW w k a b).2 := by
 obtain ⟨sh, rfl⟩ := H.shape
 unfold CliK at hK
 unfold doWP doW
 dsimp only
 by_cases c1 : k < 1 ∨ 8 < k
 ·rw [if_pos c1, if_pos c1]; exact ⟨H, rfl⟩
 rw [if_neg c1, if_neg c1]
 by_cases c2 : w.stopped = true
 ·rw [if_pos c2, if_pos c2]; exact ⟨H, rfl⟩
 rw [if_neg c2, if_neg c2]
 by_cases c3 : k = 1
 ·rw [if_pos c3, if_pos c3]
  by_cases d1 : a < 0 ∨ (w.txs.length : Int) ≤ a
  ·rw [if_pos d1, if_pos d1]; exact ⟨H, rfl⟩
  rw [if_neg d1, if_neg d1]
  by_cases d2 : 400 ≤ w.bag.length
  ·rw [if_pos d2, if_pos d2]; exact ⟨H, rfl⟩
  rw [if_neg d2, if_neg d2]
  exact ⟨begin_relW H _, rfl⟩
 rw [if_neg c3, if_neg c3, if_pos (by omega), if_pos (by omega)]
 exact msgC_rel (by omega) H a
theorem doC_inv {k : Int} (hK : CliK k) (I : InvW t w) (H : RelW W w) (a b : Int) : InvW (t + 1) (doW w k a b).1 := by
 unfold CliK at hK
 unfold doW
 by_cases c1 : k < 1 ∨ 8 < k
 ·rw [if_pos c1]; exact I.mono
 rw [if_neg c1]
 by_cases c2 : w.stopped = true
 ·rw [if_pos c2]; exact I.mono
 rw [if_neg c2]
 by_cases c3 : k = 1
 ·rw [if_pos c3]
  by_cases d1 : a < 0 ∨ (w.txs.length : Int) ≤ a
  ·rw [if_pos d1]; exact I.mono
  rw [if_neg d1]
  by_cases d2 : 400 ≤ w.bag.length
  ·rw [if_pos d2]; exact I.mono
  rw [if_neg d2]
  exact begin_invW I H (by omega) _
 rw [if_neg c3, if_pos (by omega)]
 exact msgC_inv (by omega) I H a
theorem doC_rng {k : Int} (hK : CliK k) (h : RngW I64 w) (a b : Int) : RngW I64 (doW w k a b).1 := by
 unfold CliK at hK
 unfold doW
 split
 ·exact h
 split
 ·exact h
 split
 ·split
  ·exact h
  split
  ·exact h
  ·exact begin_rng h _
 rw [if_pos (by omega)]
 exact msgC_rng (by omega) h a
end
theorem doC_cli {k i b : Int} (hK : CliK k) : DoC k i b :=
 ⟨fun hE h _ => pdoC_spec hK hE h.J h.cn h.cvb, fun h hs => wdoC_spec hK (h.W.mono hs) h.b0 fun x hx => ⟨⟨(h.rel.tops hx).1, by have := (h.rel.tops hx).2.1; omega⟩, (h.rel.tops hx).2.2⟩, fun H => doC_rel hK H i b, fun I H => doC_inv hK I H i b, fun h => doC_rng hK h i b⟩
end Go.Sl
end
section
set_option linter.unusedVariables false
namespace Go.Sl
open Go.Proofs Go.Conc
theorem StepI.one {I : HL} {bot : Nat} {s : StepV} (h : StepI I bot s) : oneCell s.so = true := by
 obtain ⟨_, _, h, _⟩ := h.o; rw [h]; rfl
def noDel (s : StepV) : Bool := decide (s.kind ≠ 3 ∨ s.a ≠ 2)
section
variable {Post : Value → World → Prop} {os : Os} {out : Array (Nat × ByteArray)} {σ : Gh} {I : HL} {v : Value} {sc : List StepV} {eb : Nat → Nat × Nat}
set_option maxHeartbeats 1000000 in
theorem client_run (hE : ErrI I eb) (hi : inSl I σ.bot stepC 6 v sc) (hs : ∀ s ∈ sc, StepI I σ.bot s) (hl : sc.length ≤ 2 ^ 41) (h0 : Idle0 σ)
  (hp : ∀ (I' : HL) (w : World), Sub I I' → Sat [imm I'] (hp w.heap) → w.os = os → w.output = out → Post (.bool true) w) :
  At (RunR Tryz.prog Post barX σ 0 os out) 0 [imm I] (enterG Tryz.prog 4 #[v] .nor []) := by
 refine At.enter ?_
 have C : Closed Tryz.prog true (barX.bw σ) (RunR Tryz.prog Post barX σ 0 os out) := RunR.closed0
 refine C.go ?_
 refine C.rg [0] ?_
 refine C.asg rfl ?_
 refine C.go ?_
 refine C.rg [0, 1, 2] ?_
 refine C.mv rfl ?_
 refine C.clR (only_spec hi.scr (fun x hx => (hs x hx).one) hl) ?_
 rintro v As' ⟨s1, rfl, rfl⟩
 simp only [List.cons_append, List.nil_append]
 obtain ⟨l, hl0⟩ : ∃ l, l = sc.filter (onlyP 1 4) := ⟨_, rfl⟩
 have hll : l.length ≤ 2 ^ 41 := by rw [hl0]; exact Nat.le_trans (List.length_filter_le _ _) hl
 have hls : ∀ x ∈ l, StepI I σ.bot x ∧ onlyP 1 4 x = true := fun x hx => by
  rw [hl0] at hx
  have := List.mem_filter.1 hx
  exact ⟨hs x this.1, this.2⟩
 rw [← hl0]
 refine C.asg rfl ?_
 refine C.go ?_
 refine C.rg [0] ?_
 refine C.asg rfl ?_
 refine C.go ?_
 refine C.rg [0] ?_
 refine C.asg rfl ?_
 refine C.go ?_
 refine At.nilS stepN 6 29 (show At (RunR Tryz.prog Post barX σ 0 os out) 0 (slP stepN 6 29 nilS ((l.take 0).filter noDel) :: _) _ from ?_)
 refine C.loopR (X := Nat × SliceV) (fun x => [(3, s1.v), (4, x.2.v), (5, .int .i64 x.1)]) (fun x => slP stepN 6 29 x.2 ((l.take x.1).filter noDel) :: slP stepN 6 29 s1 l :: [imm I]) (fun x => x.1 ≤ l.length) (fun x => l.length - x.1) (0, nilS) ⟨rfl, rfl, rfl, trivial⟩ (Nat.zero_le _) ?_
 rintro ⟨i, s'⟩ e hile ih
 dsimp only at hile ⊢
 refine C.go ?_
 refine C.rg [0, 1, 2, 3] ?_
 refine C.mv rfl ?_
 refine C.mv rfl ?_
 refine C.lnR rfl ?_ (f := stepN) (s := s1) (l := l)
 refine C.cmp rfl (fun h11 => ?_) (fun h11 => ?_)
 ·skip
  refine C.go ?_
  refine C.tru ?_
  have hj : i < l.length := by omega
  have hft := filter_take (p := noDel) hj
  have hfl : ((l.take i).filter noDel).length ≤ i := Nat.le_trans (List.length_filter_le _ _) (by rw [List.length_take]; omega)
  refine C.rg [0, 1, 2, 3, 4, 5, 6, 7, 8, 9, 10, 11, 12, 13] ?_
  refine C.mv rfl ?_
  refine C.mv rfl ?_
  refine C.iaR rfl ?_ (f := stepN) (s := s1) (l := l) (j := i)
  refine C.fa rfl ?_
  refine C.ldR (v := .int .i64 l[i].kind) rfl ?_ (f := stepN) (s := s1) (l := l) (j := i) (o := 0)
  refine C.cmp rfl (fun h19 => ?_) (fun h19 => ?_)
  ·skip
   refine C.mv rfl ?_
   refine C.no rfl ?_
   refine C.no rfl ?_
   refine C.no rfl ?_
   refine C.no rfl ?_
   refine C.no rfl ?_
   refine C.no rfl ?_
   refine C.pk rfl ?_
   refine C.go ?_
   refine C.tru ?_
   refine C.rg [0, 1, 2, 3, 4, 5, 6, 7] ?_
   refine C.mv rfl ?_
   refine C.mv rfl ?_
   refine C.mv rfl ?_
   refine C.iaR rfl ?_ (f := stepN) (s := s1) (l := l) (j := i)
   refine C.ldRS rfl (fun hj => ?_) (f := stepN) (s := s1) (l := l) (j := i)
   refine C.bs1 rfl (fun b33 => ?_)
   refine C.ap1 (f := stepN) (l := (l.take i).filter noDel) l[i] rfl (fun s2 => ?_)
   refine C.asg rfl ?_
   refine C.go ?_
   refine C.rg [0, 1, 2] ?_
   refine C.mv rfl ?_
   refine C.ar rfl ?_
   refine C.asg rfl ?_
   refine C.go ?_
   have hp : noDel l[i] = true := by unfold noDel; simp only [decide_eq_true_eq]; omega
   rw [if_pos hp] at hft
   exact again ih (i + 1, s2) (by dsimp only; omega) (by dsimp only; omega) (hr := by dsimp only; rw [hft]; ((try simp only [List.cons_append, List.nil_append]); (repeat (first | with_reducible exact Reo.refl | with_reducible exact Reo.nil | with_reducible exact Fo.head | with_reducible apply Fo.tail | with_reducible apply Reo.cons | with_reducible apply Reo.drop)); done))
  ·skip
   refine C.mv rfl ?_
   refine C.mv rfl ?_
   refine C.mv rfl ?_
   refine C.iaR rfl ?_ (f := stepN) (s := s1) (l := l) (j := i)
   refine C.fa rfl ?_
   refine C.ldR (v := .int .i64 l[i].a) rfl ?_ (f := stepN) (s := s1) (l := l) (j := i) (o := 2)
   refine C.cmp rfl (fun h26 => ?_) (fun h26 => ?_)
   ·skip
    refine C.pk rfl ?_
    refine C.go ?_
    refine C.tru ?_
    refine C.rg [0, 1, 2, 3, 4, 5, 6, 7] ?_
    refine C.mv rfl ?_
    refine C.mv rfl ?_
    refine C.mv rfl ?_
    refine C.iaR rfl ?_ (f := stepN) (s := s1) (l := l) (j := i)
    refine C.ldRS rfl (fun hj => ?_) (f := stepN) (s := s1) (l := l) (j := i)
    refine C.bs1 rfl (fun b33 => ?_)
    refine C.ap1 (f := stepN) (l := (l.take i).filter noDel) l[i] rfl (fun s2 => ?_)
    refine C.asg rfl ?_
    refine C.go ?_
    refine C.rg [0, 1, 2] ?_
    refine C.mv rfl ?_
    refine C.ar rfl ?_
    refine C.asg rfl ?_
    refine C.go ?_
    have hp : noDel l[i] = true := by unfold noDel; simp only [decide_eq_true_eq]; omega
    rw [if_pos hp] at hft
    exact again ih (i + 1, s2) (by dsimp only; omega) (by dsimp only; omega) (hr := by dsimp only; rw [hft]; ((try simp only [List.cons_append, List.nil_append]); (repeat (first | with_reducible exact Reo.refl | with_reducible exact Reo.nil | with_reducible exact Fo.head | with_reducible apply Fo.tail | with_reducible apply Reo.cons | with_reducible apply Reo.drop)); done))
   ·skip
    refine C.pk rfl ?_
    refine C.go ?_
    refine C.fls ?_
    refine C.rg [0, 1, 2] ?_
    refine C.mv rfl ?_
    refine C.ar rfl ?_
    refine C.asg rfl ?_
    refine C.go ?_
    have hp : ¬ noDel l[i] = true := by unfold noDel; simp only [decide_eq_true_eq]; omega
    rw [if_neg hp] at hft
    exact again ih (i + 1, s') (by dsimp only; omega) (by dsimp only; omega) (hr := by dsimp only; rw [hft]; ((try simp only [List.cons_append, List.nil_append]); (repeat (first | with_reducible exact Reo.refl | with_reducible exact Reo.nil | with_reducible exact Fo.head | with_reducible apply Fo.tail | with_reducible apply Reo.cons | with_reducible apply Reo.drop)); done))
 ·skip
  refine C.go ?_
  refine C.fls ?_
  have hall : (l.take i).filter noDel = l.filter noDel := by rw [List.take_of_length_le (by omega)]
  rw [hall]
  refine At.frz (I := I) (s := s') (f := stepN) (by (repeat (first | with_reducible exact Fo.head | with_reducible apply Fo.tail))) (by (repeat (first | with_reducible exact Fo.head | with_reducible apply Fo.tail))) fun I2 hI2 hs2 => ?_
  refine C.rg [0, 1, 2, 3] ?_
  refine C.mv rfl ?_
  refine RunR.clN (F := [slP stepN 6 29 s1 l]) (upto_spec (sc := l.filter noDel) (hE.mono hI2) (scr_of_im hs2 fun x hx => (hls x (List.mem_filter.1 hx).1).1.one) (fun x hx => (hls x (List.mem_filter.1 hx).1).1.mono hI2) (Nat.le_trans (List.length_filter_le _ _) hll) h0 (fun s hs' h1 => doC_cli <| by
   have h3 := (hls _ (List.mem_filter.1 hs').1).2
   have := (List.mem_filter.1 hs').2
   simp only [onlyP, noDel, decide_eq_true_eq] at this h3
   unfold CliK
   omega)) ?_
  rintro v σ1 As' ⟨I1, rfl, hb1, hid, hs1, rfl⟩
  simp only [List.cons_append, List.nil_append]
  have C : Closed Tryz.prog true (barX.bw σ1) (RunR Tryz.prog Post barX σ1 0 os out) := RunR.closed0
  refine C.cmpT rfl ?_ (hf := rfl)
  refine C.asg rfl ?_
  refine C.go ?_
  exact RunR.quit [imm I1] (by kernel_rfl) hid.no (hp I1 · (hI2.trans hs1))
end
end Go.Sl
end
section
set_option linter.unusedVariables false
namespace Go.Sl
open Go.Conc Go.ConcM Go.RowKit
section
variable {H : Type} {enc : TypeId × Value → H}
theorem leaving_of_ends {a : Assume} {C : Checked} {os : Os} {f : FuncId} {fn : Func} {s : ChangeSpec} {F : Stop.Interp} {conds : List PathCond} {apart fresh handsOn : Bool} {X : World → Array Value → Prop}
  (hX : ∀ (w w' : World) (args : Array Value), w.heap = w'.heap → X w args → X w' args)
  (own : ownKnob C.prog.godebug = none) (started : os.Started) (hfn : C.prog.funcs[f]? = some fn)
  (witness : ∃ (w : World) (tape : Tape) (i : Input), w.os = os ∧ (w.forCall tape i).Shaped C.prog ∧ i.vars = [] ∧ Input.okWide C.prog (w.forCall tape i) .any w.heap.size f i ∧
   ((s.pre enc C.prog fn conds apart (w.forCall tape i).memory i.args ∧ X (w.forCall tape i).memory i.args) ∧ sizedMet enc C.prog fn (OpenSpec.ofChange s) apart (w.forCall tape i).memory i.args) ∧ a.holds C.prog (lone (Frame.enter C.prog f i.args .normal) [] (w.forCall tape i)))
  (runs : ∀ (W : World) (base : Nat) (args : Array Value) (ds gs : List (DataW H)) (before : List MemPlace), W.ShapedOpen C.prog →
   (∀ (j : Nat) t v, fn.params[j]? = some t → args[j]? = some v → Value.okWide C.prog W .any base t v) →
   DataW.Whole enc C.prog fn.params.toList s.vars apart W args.toList ds gs before →
   conds.all (PathCond.test C.prog ⟨fn.params.toList, ds, s.plain.varTypes C.prog, gs⟩) = true →
   (DataW.weightsEach C.prog (fn.params.toList ++ s.plain.varTypes C.prog) (ds ++ gs)).all (· ≤ reachBytes) = true → X W args →
   Ends C.prog (fun v W' => s.post enc C.prog fn apart fresh handsOn false W args v { W' with os := W.os } ∧ OsLater W.os W'.os) (solo (Conc.G (Frame.enter C.prog f args .normal) []) W) #[]) :
  ReturnsInLeavingWide a C os f .any (fun w args => (s.pre enc C.prog fn conds apart w args ∧ X w args) ∧ sizedMet enc C.prog fn (OpenSpec.ofChange s) apart w args) ((OpenSpec.ofChange s).postWith enc C.prog fn F (outsideKept [.timePasses]) apart fresh handsOn) := by
 refine returnsInLeavingWide_of_good own started witness ?_
 intro w tape i _ hsh _ hok hpre hholds
 obtain ⟨_, _, _, fn', hfn', _, _, _, _, hval⟩ := hok
 have e : fn' = fn := Option.some.inj (hfn'.symm.trans hfn)
 subst e
 obtain ⟨⟨⟨ds, gs, before, hw, hc⟩, hx⟩, hz⟩ := hpre
 have hw' := DataW.Whole.of_heap (w' := w.forCall tape i) (by rfl) hw
 obtain ⟨M, last, o, w', t', h1, h2, h3, h4⟩ := runs (w.forCall tape i) w.heap.size i.args ds gs before hsh hval hw' hc (hz.weights hw) (hX _ _ _ (by rfl) hx)
 obtain ⟨v, e, hp, r1, r2, r3, r4⟩ := h4
 exact ⟨M, last, o, w', t', h1, h2, h3, v, e, postWith_blind (postWith_of_post hp.1 hp.2), r1, r2, r3, r4⟩
theorem witness_calm {C : Checked} {os : Os} {f : FuncId} {fn : Func} {s : ChangeSpec} {conds : List PathCond} {apart : Bool} {X : World → Array Value → Prop} (w0 : World) (args : Array Value) (fuel : Nat) (hos : w0.os = os)
  (hv : (w0.forCall (fun _ _ => 0) ⟨#[], args, []⟩).variablesB C.prog = true)
  (hr : ((w0.forCall (fun _ _ => 0) ⟨#[], args, []⟩).heap.toList.drop C.prog.globals.size).take ((begin C.prog (fun _ _ => 0) default).world.heap.size - C.prog.globals.size) =
   (begin C.prog (fun _ _ => 0) default).world.heap.toList.drop C.prog.globals.size)
  (hok : Input.okWideB C.prog (w0.forCall (fun _ _ => 0) ⟨#[], args, []⟩) f ⟨#[], args, []⟩ = true)
  (hpre : s.preB enc C.prog fn conds apart (w0.forCall (fun _ _ => 0) ⟨#[], args, []⟩).memory args fuel = true)
  (hsz : s.sizedB enc C.prog fn apart (w0.forCall (fun _ _ => 0) ⟨#[], args, []⟩).memory args fuel = true)
  (hx : X (w0.forCall (fun _ _ => 0) ⟨#[], args, []⟩).memory args) :
  ∃ (w : World) (tape : Tape) (i : Input), w.os = os ∧ (w.forCall tape i).Shaped C.prog ∧ i.vars = [] ∧ Input.okWide C.prog (w.forCall tape i) .any w.heap.size f i ∧
   ((s.pre enc C.prog fn conds apart (w.forCall tape i).memory i.args ∧ X (w.forCall tape i).memory i.args) ∧ sizedMet enc C.prog fn (OpenSpec.ofChange s) apart (w.forCall tape i).memory i.args) ∧ ({ calm := true } : Assume).holds C.prog (lone (Frame.enter C.prog f i.args .normal) [] (w.forCall tape i)) :=
 ⟨w0, fun _ _ => 0, ⟨#[], args, []⟩, hos, World.shaped_of_B hv hr, (Input.okWide_of_okWideB (base := 0) hok).1, (Input.okWide_of_okWideB hok).2, ⟨⟨ChangeSpec.pre_of_preB hpre, hx⟩, sizedMet_of_sizedB hsz⟩, by
  simp only [Assume.holds]
  exact ⟨by simp, fun _ _ _ _ => rfl, by simp, by simp, by simp⟩⟩
theorem below_of {W w' : World} (hout : w'.output = W.output) (h : ∀ k, k < W.heap.size → w'.heap[k]? = W.heap[k]?) (hs : W.heap.size ≤ w'.heap.size) : Below W.heap.size W { w' with os := W.os, tape := W.tape } :=
 ⟨rfl, rfl, hout, hs, h⟩
theorem kept_of {W w' : World} (hout : w'.output = W.output) (h : ∀ k, k < W.heap.size → w'.heap[k]? = W.heap[k]?) (hs : W.heap.size ≤ w'.heap.size) (may : MemPlace → Prop) : W.keptBut { w' with os := W.os } may :=
 (below_of hout h hs).frame may
end
end Go.Sl
end
section
set_option linter.unusedVariables false
namespace Go.Sl
open Go.Proofs Go.Conc Go.ConcM Go.RowKit
theorem cellsOf_estr : Tryz.prog.cellsOf 359 = 1 := by kernel_rfl
theorem cellsOf_str : Tryz.prog.cellsOf 9 = 1 := by kernel_rfl
theorem starEs : "*" ++ "errors.errorString" = "*errors.errorString" := by decide
theorem row_es (u : TypeId) (h : Tryz.prog.typeName? 3 u = some "*errors.errorString") : u = 339 :=
 typeName_ptr_named (nm := "errors.errorString") (by rw [starEs]; kernel_rfl) (by kernel_rfl) (by decide) u (by rw [starEs]; exact h)
theorem row_error (ty : Nat) (hl : ty < Tryz.prog.types.size) (h : Tryz.prog.rowNamed ty [101, 114, 114, 111, 114] = true) : ty = 46 := by
 have k : ((List.range Tryz.prog.types.size).all fun u => !Tryz.prog.rowNamed u [101, 114, 114, 111, 114] || u == 46) = true := by kernel_rfl
 have := List.all_eq_true.1 k ty (List.mem_range.2 hl)
 rw [h] at this
 simpa using this
def oneE (x : String × List UInt8) : String × DataW Unit := (x.1, .iface "*errors.errorString" (.ptr (.agg [.lit (.string x.2)])))
set_option maxRecDepth 100000 in
theorem sentinels {W : World} : ∀ (l : List (String × List UInt8)) (ps : List MemPlace), DataW.LaidVars Tryz.prog W (l.map oneE) ps → ps.Nodup →
  (∀ b off, MemPlace.cell b off ∈ ps → (∃ c t, W.heap[b]? = some (.cells c t (0, 0))) ∧ ∀ u v, W.cell? ⟨b, off, none⟩ = some (.iface u v) → Value.okWide Tryz.prog W .any 0 u v) →
  (∀ n, n ∈ l.map (·.1) → ∃ g, Tryz.prog.globalNamed n = some g ∧ (Tryz.prog.globals[g]?).map (·.type) = some 46) →
  ∃ asl : List (Nat × Nat), asl.length = l.length ∧ (∀ (k : Nat) (x : String × List UInt8), l[k]? = some x → ∃ a, asl[k]? = some a ∧ W.var? Tryz.prog x.1 = some #[errV a]) ∧
   asl.Pairwise (· ≠ ·) ∧ (∀ a ∈ asl, MemPlace.cell a.1 a.2 ∈ ps) := by
 intro l
 induction l with
 | nil => intro ps _ _ _ _; exact ⟨[], rfl, fun k x h => by simp at h, List.Pairwise.nil, fun a h => by simp at h⟩
 | cons x l ih =>
  intro ps hL hnd hrows hg
  obtain ⟨g0, t0, cs0, f0, p0, q0, hg0, ht0, hv0, hd0, hq, e0⟩ := hL
  obtain ⟨g, hg', ht'⟩ := hg x.1 (by simp)
  have hgx : Tryz.prog.globalNamed x.1 = some g0 := hg0
  obtain rfl := Option.some.inj (hgx.symm.trans hg')
  obtain rfl := Option.some.inj (ht'.symm.trans ht0)
  obtain ⟨l0⟩ := cs0
  subst e0
  have ok0 : ∀ u v, l0 = [.iface u v] → Value.okWide Tryz.prog W .any 0 u v := fun u v e => by
   subst e
   exact (hrows g0 0 (by simp [MemPlace.row])).2 u v (by simpa using World.var?_cell hg0 hv0 0)
  obtain ⟨a0, s0, rfl, hc0, hs0, hz0, rfl⟩ := errorString_of_trod Tryz.underlying46 row_es Tryz.underlying339 Tryz.underlying359 rfl rfl Tryz.underlying9 cellsOf_estr cellsOf_str hd0 ok0
  have hin : MemPlace.cell a0.block a0.off ∈ MemPlace.row a0 1 := by simp [MemPlace.row]
  have hsp : a0.spot = none := by
   unfold World.cell? at hc0
   split at hc0
   ·split at hc0
    ·cases hc0
    ·rename_i hs
     simpa using hs
   ·cases hc0
  have hnq : q0.Nodup := List.Nodup.sublist (List.sublist_append_right _ _) hnd
  obtain ⟨asl, hl, hall, hp, hm⟩ := ih q0 hq hnq (fun b off h => hrows b off (List.mem_append_right _ h)) (fun n hn => hg n (by simp at hn ⊢; exact .inr hn))
  obtain ⟨b0, o0, sp0⟩ := a0
  dsimp only at hsp
  subst hsp
  refine ⟨(b0, o0) :: asl, by simp [hl], fun k y hk => ?_, List.Pairwise.cons (fun a ha e => ?_) hp, fun a ha => ?_⟩
  ·cases k with
   | zero => simp at hk; subst hk; exact ⟨(b0, o0), rfl, hv0⟩
   | succ k => simp at hk; simpa using hall k y hk
  ·subst e
   rw [List.nodup_append] at hnd
   exact hnd.2.2 _ (List.mem_append_right _ hin) _ (hm _ ha) rfl
  ·rcases List.mem_cons.1 ha with rfl | ha
   ·exact List.mem_append_left _ (List.mem_append_right _ hin)
   ·exact List.mem_append_right _ (hm a ha)
def nmE (k : Nat) : String := ["shardlog/cluster.ErrShape", "shardlog/cluster.ErrOps", "shardlog/cluster.ErrMany", "shardlog/cluster.ErrTx", "shardlog/cluster.ErrMessage", "shardlog/cluster.ErrShard", "shardlog/cluster.ErrDown", "shardlog/cluster.ErrUp", "shardlog/cluster.ErrStopped"].getD k ""
theorem gE : ∀ k, k < 9 → Tryz.prog.globalNamed (nmE k) = some (errG k) ∧ (Tryz.prog.globals[errG k]?).map (·.type) = some 46
 | 0, _ => ⟨by kernel_rfl, by kernel_rfl⟩
 | 1, _ => ⟨by kernel_rfl, by kernel_rfl⟩
 | 2, _ => ⟨by kernel_rfl, by kernel_rfl⟩
 | 3, _ => ⟨by kernel_rfl, by kernel_rfl⟩
 | 4, _ => ⟨by kernel_rfl, by kernel_rfl⟩
 | 5, _ => ⟨by kernel_rfl, by kernel_rfl⟩
 | 6, _ => ⟨by kernel_rfl, by kernel_rfl⟩
 | 7, _ => ⟨by kernel_rfl, by kernel_rfl⟩
 | 8, _ => ⟨by kernel_rfl, by kernel_rfl⟩
theorem gTy : Tryz.prog.globalNamed "errors.errorType" = some 4 := by kernel_rfl
def textsE : List (List UInt8) := [[110, 111, 32, 115, 117, 99, 104, 32, 99, 108, 117, 115, 116, 101, 114], [110, 111, 32, 116, 114, 97, 110, 115, 97, 99, 116, 105, 111, 110], [116, 111, 111, 32, 109, 97, 110, 121],
 [110, 111, 32, 115, 117, 99, 104, 32, 116, 114, 97, 110, 115, 97, 99, 116, 105, 111, 110], [110, 111, 32, 115, 117, 99, 104, 32, 109, 101, 115, 115, 97, 103, 101], [110, 111, 32, 115, 117, 99, 104, 32, 115, 104, 97, 114, 100],
 [97, 32, 115, 104, 97, 114, 100, 32, 116, 104, 97, 116, 32, 105, 115, 32, 100, 111, 119, 110], [97, 32, 115, 104, 97, 114, 100, 32, 116, 104, 97, 116, 32, 105, 115, 32, 117, 112], [116, 104, 101, 32, 99, 108, 117, 115, 116, 101, 114, 32, 104, 97, 115, 32, 98, 101, 101, 110, 32, 115, 116, 111, 112, 112, 101, 100]]
def pairsE : List (String × List UInt8) := [(nmE 0, textsE.getD 0 []), (nmE 1, textsE.getD 1 []), (nmE 2, textsE.getD 2 []), (nmE 3, textsE.getD 3 []), (nmE 4, textsE.getD 4 []), (nmE 5, textsE.getD 5 []), (nmE 6, textsE.getD 6 []), (nmE 7, textsE.getD 7 []), (nmE 8, textsE.getD 8 [])]
theorem pairsE_nm : ∀ k, k < 9 → (pairsE[k]?).map (·.1) = some (nmE k)
 | 0, _ => rfl
 | 1, _ => rfl
 | 2, _ => rfl
 | 3, _ => rfl
 | 4, _ => rfl
 | 5, _ => rfl
 | 6, _ => rfl
 | 7, _ => rfl
 | 8, _ => rfl
theorem handleTy : (Tryz.prog.cutTypes.find? (·.1 == "internal/reflectlite.rtype")).map (·.2) = some 231 := by kernel_rfl
theorem err_of_laid {W : World} {l : List (String × DataW Unit)} {d : DataW Unit} (hnone : (l.filter fun x => x.2.handleName?.isNone) = pairsE.map oneE) (hsome : (l.filter fun x => x.2.handleName?.isSome) = [("errors.errorType", d)]) (hfd : d.funcsIn? = none) (hnd : d.handleName? = some [101, 114, 114, 111, 114])
  (h : laidMetH Tryz.prog l W) (hS : W.ShapedOpen Tryz.prog) : ∃ eb, ErrI (hp W.heap) eb := by
 unfold laidMetH at h
 rw [hsome] at h
 dsimp only at h
 rw [hnone] at h
 obtain ⟨⟨ps, hL, hpnd, hrows⟩, hH⟩ := h
 have hgs : ∀ n, n ∈ pairsE.map (·.1) → ∃ g, Tryz.prog.globalNamed n = some g ∧ (Tryz.prog.globals[g]?).map (·.type) = some 46 := fun n hn => by
  rw [show pairsE.map (·.1) = [nmE 0, nmE 1, nmE 2, nmE 3, nmE 4, nmE 5, nmE 6, nmE 7, nmE 8] from rfl] at hn
  simp only [List.mem_cons, List.not_mem_nil, or_false] at hn
  rcases hn with h | h | h | h | h | h | h | h | h
  all_goals rw [h]; exact ⟨_, gE _ (by omega)⟩
 obtain ⟨asl, hl, hall, hp, hm⟩ := sentinels pairsE ps hL hpnd hrows hgs
 have hl9 : asl.length = 9 := hl
 have var_heap : ∀ {n : String} {g : Nat} {cs : Array Value}, Tryz.prog.globalNamed n = some g → W.var? Tryz.prog n = some cs → g < Tryz.prog.globals.size → ∃ t, W.heap[g]? = some (.cells cs t (0, 0)) := by
  intro n g cs hg hv hlt
  have hz : ∃ zero t, ((begin Tryz.prog (fun _ _ => 0) default).world.heap[g]?).bind Obj.row? = some (zero, t) := by
   have k : ((List.range Tryz.prog.globals.size).all fun g => (((begin Tryz.prog (fun _ _ => 0) default).world.heap[g]?).bind Obj.row?).isSome) = true := by kernel_rfl
   have := List.all_eq_true.1 k g (List.mem_range.2 hlt)
   obtain ⟨⟨a, b⟩, hab⟩ := Option.isSome_iff_exists.1 this
   exact ⟨a, b, hab⟩
  obtain ⟨zero, t, hz⟩ := hz
  obtain ⟨cs', h1, _⟩ := hS.1 g zero t hlt hz
  unfold World.var? at hv
  rw [hg, Option.bind_some, h1] at hv
  cases hv
  exact ⟨t, h1⟩
 have gsz : ∀ k, k < 9 → errG k < Tryz.prog.globals.size := fun k hk => by
  have := (gE k hk).2
  cases hx : Tryz.prog.globals[errG k]? with
  | none => rw [hx] at this; cases this
  | some _ => exact (Array.getElem?_eq_some_iff.1 hx).1
 refine ⟨fun k => asl.getD k (0, 0), fun k hk => ?_, fun k hk => ?_, fun j k hj hk e => ?_, ?_⟩
 ·obtain ⟨x, hx, hx'⟩ := Option.map_eq_some_iff.1 (pairsE_nm k hk)
  obtain ⟨a, ha, hv⟩ := hall k x hx
  rw [hx'] at hv
  obtain ⟨t, ht⟩ := var_heap (gE k hk).1 hv (gsz k hk)
  refine ⟨t, ?_⟩
  simp only [List.getD, ha, Option.getD_some]
  exact ht
 ·have h2 : k < asl.length := by omega
  have := hm asl[k] (List.getElem_mem h2)
  obtain ⟨c, t, h3⟩ := (hrows _ _ this).1
  refine ⟨c, t, ?_⟩
  simp only [List.getD, List.getElem?_eq_getElem h2, Option.getD_some]
  exact h3
 ·have h1 : j < asl.length := by omega
  have h2 : k < asl.length := by omega
  simp only [List.getD, List.getElem?_eq_getElem h1, List.getElem?_eq_getElem h2, Option.getD_some] at e
  rcases Nat.lt_trichotomy j k with h | h | h
  ·exact absurd e (List.pairwise_iff_getElem.1 hp j k h1 h2 h)
  ·exact h
  ·exact absurd e.symm (List.pairwise_iff_getElem.1 hp k j h2 h1 h)
 ·have := hH ("errors.errorType", d) (by simp)
  dsimp only at this
  rw [hfd] at this
  dsimp only at this
  obtain ⟨name, u, ty, h1, h2, h3, h4, h5⟩ := this
  rw [hnd] at h1
  cases h1
  rw [handleTy] at h2
  cases h2
  obtain rfl := row_error ty h3 h4
  exact var_heap gTy h5 (Nat.le_of_ble_eq_true (by kernel_rfl))
end Go.Sl
end
section
set_option linter.unusedVariables false
namespace Go.Sl
open Go.Proofs
theorem list3 {α : Type} {l : List α} (h : l.length = 3) : ∃ a b c, l = [a, b, c] := by
 match l, h with
 | [a, b, c], _ => exact ⟨a, b, c, rfl⟩
theorem list6 {α : Type} {l : List α} (h : l.length = 6) : ∃ a b c d e f, l = [a, b, c, d, e, f] := by
 match l, h with
 | [a, b, c, d, e, f], _ => exact ⟨a, b, c, d, e, f, rfl⟩
theorem row_of {w : World} {base : Nat} {a : Addr} {z : Nat} {cs : List Value} (hz : 0 < z) (h : w.cells? base a z = some cs) : a.spot = none ∧ cs.length = z ∧ ∃ c ty fr, w.heap[a.block]? = some (.cells c ty fr) ∧ ∀ o, o < z → c[a.off + o]? = cs[o]? := by
 obtain ⟨_, hl, hc⟩ := World.cells?_some h
 have h0 := hc 0 hz
 have hcs : cs[0]? = some (cs[0]'(by omega)) := List.getElem?_eq_getElem _
 rw [hcs, add_zero] at h0
 unfold World.cell? at h0
 split at h0
 ·rename_i c ty fr hb
  split at h0
  ·cases h0
  ·rename_i hs
   have hsp : a.spot = none := by simpa using hs
   refine ⟨hsp, hl, c, ty, fr, hb, fun o ho => ?_⟩
   have := hc o ho
   obtain ⟨b, off, sp⟩ := a
   dsimp only at hsp hb ⊢
   subst hsp
   rw [add_of] at this
   unfold World.cell? at this
   dsimp only at this
   rw [hb] at this
   simpa using this
 ·cases h0
section
variable {H : Type} {enc : TypeId × Value → H} {P : Program} {w : World} {spare : Nat → Bool} {held : Bool}
theorem inSl_of {α : Type} {f : α → List Value} {z : Nat} {t e : TypeId} {Q : α → DataW H → Prop} (hz : 0 < z) (ht : P.underlying t = some (.slice e)) (hc : P.cellsOf e = z)
  (he : ∀ n cs y, DataW.trod enc P w 0 spare held n e cs = some y → ∃ a, f a = cs ∧ Q a y.1) {n : Nat} {cs : List Value} {x : DataW H × List MemPlace} (h : DataW.trod enc P w 0 spare held n t cs = some x) :
  ∃ v l es, cs = [v] ∧ inSl (hp w.heap) w.heap.size f z v l ∧ (x.1 = .nil ∧ es = [] ∨ ∃ sp, x.1 = .slice es sp) ∧ es.length = l.length ∧ ∀ a ∈ l, ∃ d ∈ es, Q a d := by
 rcases DataW.trod_slice ht h with ⟨rfl, rfl⟩ | ⟨a, len, cap, elems, rest, m, rfl, rfl, rfl, _, _, _, hlen, hel, _, _⟩
 ·exact ⟨_, [], [], rfl, ⟨none, 0, rfl, .inl rfl⟩, .inl ⟨rfl, rfl⟩, rfl, by simp⟩
 subst hlen
 rw [hc] at hel
 have key : ∀ i : Fin elems.length, ∃ b, w.cells? 0 (a.add (i.1 * z)) z = some (f b) ∧ Q b elems[i.1].1 := fun i => by
  have h1 := hel i.1 i.2
  rw [List.getElem?_eq_getElem i.2, Option.bind_eq_some_iff] at h1
  obtain ⟨cs', h2, h3⟩ := h1
  obtain ⟨b, rfl, hb⟩ := he _ _ _ h3
  exact ⟨b, h2, hb⟩
 let l : List α := List.ofFn fun i => Classical.choose (key i)
 have hl : l.length = elems.length := List.length_ofFn
 have hg : ∀ (i : Nat) (hi : i < elems.length), w.cells? 0 (a.add (i * z)) z = some (f (l[i]'(by omega))) ∧ Q (l[i]'(by omega)) elems[i].1 := fun i hi => by
  have e : l[i]'(by omega) = Classical.choose (key ⟨i, hi⟩) := List.getElem_ofFn _
  rw [e]; exact Classical.choose_spec (key ⟨i, hi⟩)
 refine ⟨_, l, elems.map (·.1), rfl, ?_, .inr ⟨_, rfl⟩, by rw [List.length_map, hl], fun b hb => ?_⟩
 ·refine ⟨some a, cap, by rw [hl], ?_⟩
  by_cases hn : elems.length = 0
  ·exact .inl (List.eq_nil_of_length_eq_zero (by omega))
  ·have h0 := (hg 0 (by omega)).1
   rw [Nat.zero_mul, add_zero] at h0
   obtain ⟨hsp, _, c, ty, fr, hb, _⟩ := row_of hz h0
   obtain ⟨b, off, sp⟩ := a
   dsimp only at hsp hb
   subst hsp
   refine .inr ⟨b, off, c, ty, fr, rfl, hb, (Array.getElem?_eq_some_iff.1 hb).1, fun j hj o ho => ?_⟩
   have hj' := (hg j (by omega)).1
   rw [add_of] at hj'
   obtain ⟨_, _, c', ty', fr', hb', hr⟩ := row_of hz hj'
   dsimp only at hb' hr
   rw [hb] at hb'
   cases hb'
   exact hr o ho
 ·obtain ⟨i, hi, rfl⟩ := List.getElem_of_mem hb
  have hi' : i < elems.length := by omega
  exact ⟨elems[i].1, List.mem_map.2 ⟨_, List.getElem_mem hi', rfl⟩, (hg i hi').2⟩
end
section
variable {H : Type} {enc : TypeId × Value → H} {w : World} {spare : Nat → Bool} {held : Bool}
theorem cellsOf_bool : Tryz.prog.cellsOf 4 = 1 := by kernel_rfl
theorem cellsOf_int : Tryz.prog.cellsOf 3 = 1 := by kernel_rfl
theorem cellsOf_ops : Tryz.prog.cellsOf 27 = 1 := by kernel_rfl
theorem cellsOf_op : Tryz.prog.cellsOf 63 = 3 := by kernel_rfl
theorem cellsOf_step : Tryz.prog.cellsOf 29 = 6 := by kernel_rfl
theorem bytesOf_op : Tryz.prog.bytesOf 63 = 24 := by kernel_rfl
theorem bytesOf_step : Tryz.prog.bytesOf 29 = 64 := by kernel_rfl
theorem i64_of {n : Nat} {v : Value} {y : DataW H × List MemPlace} (h : DataW.trod enc Tryz.prog w 0 spare held n 3 [v] = some y) : ∃ k, v = .int .i64 k ∧ Z64 k := by
 obtain ⟨k, h1, _, h3⟩ := DataW.trod_int Tryz.underlying3 h
 refine ⟨k, by simpa using h1, ?_⟩
 simp only [Lit.wf, Bool.and_eq_true, decide_eq_true_eq] at h3
 exact h3
theorem op_of {n : Nat} {cs : List Value} {y : DataW H × List MemPlace} (h : DataW.trod enc Tryz.prog w 0 spare held n 63 cs = some y) : ∃ o, opRC o = cs ∧ OpZ o := by
 obtain ⟨xs, m, _, _, hl, hxl, hf⟩ := DataW.trod_struct Tryz.underlying63 h
 rw [cellsOf_op] at hl
 have hxl : xs.length = 3 := hxl
 obtain ⟨a, b, c, rfl⟩ := list3 hl
 have f0 : DataW.trod enc Tryz.prog w 0 spare held m 4 (([a, b, c].drop 0).take (Tryz.prog.cellsOf 4)) = xs[0]? := hf 0 _ rfl
 have f1 : DataW.trod enc Tryz.prog w 0 spare held m 3 (([a, b, c].drop 1).take (Tryz.prog.cellsOf 3)) = xs[1]? := hf 1 _ rfl
 have f2 : DataW.trod enc Tryz.prog w 0 spare held m 3 (([a, b, c].drop 2).take (Tryz.prog.cellsOf 3)) = xs[2]? := hf 2 _ rfl
 rw [List.getElem?_eq_getElem (by omega)] at f0 f1 f2
 rw [cellsOf_bool] at f0
 rw [cellsOf_int] at f1 f2
 obtain ⟨p, hp, _⟩ := DataW.trod_bool Tryz.underlying4 f0
 obtain ⟨q, rfl, hq⟩ := i64_of f1
 obtain ⟨r, rfl, hr⟩ := i64_of f2
 have hp : [a] = [.bool p] := hp
 cases hp
 exact ⟨⟨p, q, r⟩, rfl, hq, hr⟩
def StepD (w : World) (s : StepV) (d : DataW H) : Prop := (∀ x ∈ d.weights Tryz.prog 29, x ≤ reachBytes) → StepI (hp w.heap) w.heap.size s
theorem stepD_of {n : Nat} {cs : List Value} {y : DataW H × List MemPlace} (h : DataW.trod enc Tryz.prog w 0 spare held n 29 cs = some y) : ∃ s, stepC s = cs ∧ StepD w s y.1 := by
 obtain ⟨xs, m, _, hy, hl, hxl, hf⟩ := DataW.trod_struct Tryz.underlying29 h
 rw [cellsOf_step] at hl
 have hxl : xs.length = 6 := hxl
 obtain ⟨a, b, c, d, e, u, rfl⟩ := list6 hl
 have f0 : DataW.trod enc Tryz.prog w 0 spare held m 3 (([a, b, c, d, e, u].drop 0).take (Tryz.prog.cellsOf 3)) = xs[0]? := hf 0 _ rfl
 have f1 : DataW.trod enc Tryz.prog w 0 spare held m 3 (([a, b, c, d, e, u].drop 1).take (Tryz.prog.cellsOf 3)) = xs[1]? := hf 1 _ rfl
 have f2 : DataW.trod enc Tryz.prog w 0 spare held m 3 (([a, b, c, d, e, u].drop 2).take (Tryz.prog.cellsOf 3)) = xs[2]? := hf 2 _ rfl
 have f3 : DataW.trod enc Tryz.prog w 0 spare held m 3 (([a, b, c, d, e, u].drop 3).take (Tryz.prog.cellsOf 3)) = xs[3]? := hf 3 _ rfl
 have f4 : DataW.trod enc Tryz.prog w 0 spare held m 3 (([a, b, c, d, e, u].drop 4).take (Tryz.prog.cellsOf 3)) = xs[4]? := hf 4 _ rfl
 have f5 : DataW.trod enc Tryz.prog w 0 spare held m 27 (([a, b, c, d, e, u].drop 5).take (Tryz.prog.cellsOf 27)) = xs[5]? := hf 5 _ rfl
 rw [List.getElem?_eq_getElem (by omega)] at f0 f1 f2 f3 f4 f5
 rw [cellsOf_int] at f0 f1 f2 f3 f4
 rw [cellsOf_ops] at f5
 obtain ⟨p0, rfl, h0⟩ := i64_of f0
 obtain ⟨p1, rfl, h1⟩ := i64_of f1
 obtain ⟨p2, rfl, h2⟩ := i64_of f2
 obtain ⟨p3, rfl, h3⟩ := i64_of f3
 obtain ⟨p4, rfl, h4⟩ := i64_of f4
 obtain ⟨v, l, es, hv, hin, hd, hlen, hq⟩ := inSl_of (f := opRC) (z := 3) (Q := fun o _ => OpZ o) (by decide) Tryz.underlying27 cellsOf_op (fun n cs y h => op_of h) f5
 have hv : [u] = [v] := hv
 cases hv
 refine ⟨⟨p0, p1, p2, p3, p4, u, l⟩, rfl, fun hw => ⟨h0, h1, h2, h3, h4, hin, fun o ho => ?_, ?_⟩⟩
 ·obtain ⟨_, _, h⟩ := hq o ho
  exact h
 ·show l.length * 24 ≤ _
  rcases hd with ⟨_, rfl⟩ | ⟨sp, hd⟩
  ·have : l.length = 0 := hlen.symm
   omega
  ·rw [hy] at hw
   obtain ⟨x0, x1, x2, x3, x4, x5, rfl⟩ := list6 hxl
   have hd : x5.1 = .slice es sp := hd
   have := hw ((es.length + sp.length) * 24) (by
    unfold DataW.weights
    rw [Tryz.underlying29]
    simp only [List.map_cons, List.map_nil, DataW.weightsEach, List.mem_append]
    rw [hd]
    refine .inr (.inr (.inr (.inr (.inr (.inl ?_)))))
    unfold DataW.weights
    rw [Tryz.underlying27]
    simp only [bytesOf_op]
    exact List.mem_cons_self ..)
   unfold reachBytes at this
   rw [← hlen]
   have h9 : es.length * 24 ≤ (es.length + sp.length) * 24 := Nat.mul_le_mul_right _ (Nat.le_add_right ..)
   omega
theorem weightsAll_mem {P : Program} {e : TypeId} : ∀ {es : List (DataW H)} {d : DataW H}, d ∈ es → ∀ x ∈ d.weights P e, x ∈ DataW.weightsAll P e es
 | [], _, h, _, _ => by cases h
 | a :: es, d, h, x, hx => by
  unfold DataW.weightsAll
  rcases List.mem_cons.1 h with rfl | h
  ·exact List.mem_append_left _ hx
  ·exact List.mem_append_right _ (weightsAll_mem h x hx)
theorem script_of {n : Nat} {cs : List Value} {y : DataW H × List MemPlace} (h : DataW.trod enc Tryz.prog w 0 spare held n 22 cs = some y) (hw : ∀ x ∈ y.1.weights Tryz.prog 22, x ≤ reachBytes) :
  ∃ v sc, cs = [v] ∧ inSl (hp w.heap) w.heap.size stepC 6 v sc ∧ (∀ s ∈ sc, StepI (hp w.heap) w.heap.size s) ∧ sc.length * 64 ≤ 140737488355328 := by
 obtain ⟨v, l, es, hv, hin, hd, hlen, hq⟩ := inSl_of (f := stepC) (z := 6) (Q := fun s d => StepD w s d) (by decide) Tryz.underlying22 cellsOf_step (fun n cs y h => stepD_of h) h
 refine ⟨v, l, hv, hin, fun s hs => ?_, ?_⟩
 ·obtain ⟨d, hd1, hd2⟩ := hq s hs
  refine hd2 fun x hx => ?_
  rcases hd with ⟨_, rfl⟩ | ⟨sp, hd⟩
  ·cases hd1
  ·refine hw x ?_
   rw [hd]
   unfold DataW.weights
   rw [Tryz.underlying22]
   simp only [List.mem_cons, List.mem_append]
   exact .inr (.inl (weightsAll_mem hd1 x hx))
 ·rcases hd with ⟨_, rfl⟩ | ⟨sp, hd⟩
  ·have : l.length = 0 := hlen.symm
   omega
  ·have := hw ((es.length + sp.length) * 64) (by
    rw [hd]
    unfold DataW.weights
    rw [Tryz.underlying22]
    simp only [bytesOf_step]
    exact List.mem_cons_self ..)
   unfold reachBytes at this
   rw [← hlen]
   have h9 : es.length * 64 ≤ (es.length + sp.length) * 64 := Nat.mul_le_mul_right _ (Nat.le_add_right ..)
   omega
end
end Go.Sl
end
section
set_option linter.unusedVariables false
namespace Go.Sl
open Go.Proofs Go.Conc Go.ConcM Go.RowKit Go.ChangeShapes Go.WideShapes
theorem laidOut : laidOutB Tryz.prog = true := by kernel_rfl
theorem script_read : Tryz.prog.readableRec 22 = true := by kernel_rfl
theorem script_row : 22 < Tryz.prog.types.size := Nat.le_of_ble_eq_true (by kernel_rfl)
section
variable {H : Type} {enc : TypeId × Value → H}
set_option maxRecDepth 100000 in
theorem law_ends {f : FuncId} {fu : Func} {s : ChangeSpec} {apart fresh handsOn : Bool} {W : World} {base : Nat} {args : Array Value} {ds gs : List (DataW H)} {before : List MemPlace}
  (hpar : fu.params.toList = [22]) (hres : fu.resultTypes = #[4]) (hvars : s.vars = []) (hfn : ∀ d : DataW H, (s.fn H [d]).results = [.lit (.bool true)] ∧ (s.fn H [d]).args = [d] ∧ (s.fn H [d]).vars = [])
  (hval : ∀ (j : Nat) t v, fu.params[j]? = some t → args[j]? = some v → Value.okWide Tryz.prog W .any base t v)
  (hW : DataW.Whole enc Tryz.prog fu.params.toList s.vars apart W args.toList ds gs before) (hwt : (DataW.weightsEach Tryz.prog (fu.params.toList ++ s.plain.varTypes Tryz.prog) (ds ++ gs)).all (· ≤ reachBytes) = true)
  (hE : ∃ eb, ErrI (hp W.heap) eb)
  (run : ∀ {Post : Value → World → Prop} {os : Os} {out : Array (Nat × ByteArray)} {σ : Gh} {I : HL} {v : Value} {sc : List StepV} {eb : Nat → Nat × Nat}, ErrI I eb → inSl I σ.bot stepC 6 v sc → (∀ s ∈ sc, StepI I σ.bot s) → sc.length ≤ 2 ^ 41 → Idle0 σ →
   (∀ (I' : HL) (w : World), Sub I I' → Sat [imm I'] (hp w.heap) → w.os = os → w.output = out → Post (.bool true) w) → At (RunR Tryz.prog Post barX σ 0 os out) 0 [imm I] (enterG Tryz.prog f #[v] .nor [])) :
  Ends Tryz.prog (fun v W' => s.post enc Tryz.prog fu apart fresh handsOn false W args v { W' with os := W.os } ∧ OsLater W.os W'.os) (solo (G (Frame.enter Tryz.prog f args .normal) []) W) #[] := by
 have hW' := hW
 obtain ⟨p, q, hA, hV, rfl, hfz, hnd⟩ := hW
 rw [hvars] at hV
 obtain ⟨rfl, rfl⟩ := trodVars_none hV
 rw [hpar] at hA
 obtain ⟨v, d, rfl, rfl, hd⟩ := trodAll_one hA
 obtain ⟨n, ht⟩ := hd
 rw [hpar] at hwt
 obtain ⟨v', sc, hcs, hin, hst, hlen⟩ := script_of ht (fun x hx => by
  have := List.all_eq_true.1 hwt x (by
   simp only [List.cons_append, List.nil_append, DataW.weightsEach, List.mem_append]
   exact .inl hx)
  simpa using this)
 have hp0 : fu.params[0]? = some 22 := by rw [← Array.getElem?_toList, hpar]; rfl
 have hv0 := hval 0 22 v hp0 (by simp)
 obtain ⟨a0, len0, cap0, rfl⟩ := okWide_slice Tryz.underlying22 hv0
 obtain rfl : Value.slice a0 len0 cap0 = v' := (List.cons.inj hcs).1
 obtain ⟨eb, hE⟩ := hE
 have h0 : Idle0 { n := 1, seats := fun _ => none, sh := fun _ => False, bot := W.heap.size } := ⟨Nat.one_ne_zero, fun _ => rfl⟩
 refine Run.whole (bot := W.heap.size) ?_
 have hr := run (Post := fun v W' => s.post enc Tryz.prog fu apart fresh handsOn false W #[.slice a0 len0 cap0] v { W' with os := W.os } ∧ OsLater W.os W'.os) (os := W.os) (out := W.output) (σ := { n := 1, seats := fun _ => none, sh := fun _ => False, bot := W.heap.size }) (I := hp W.heap) hE hin hst (by omega) h0 ?_
 ·exact hr W.heap ⟨_, rfl, fun _ _ h => h, trivial⟩ rfl (GO.mk (fun i s h => by cases h) (fun i s c h => by cases h) (fun i s p h => by cases h) (fun l h => False.elim h) (Nat.le_refl _)) W rfl rfl rfl
 ·intro I' w hsub hsat hos hout
  obtain ⟨h1, rfl, hs1, _⟩ := hsat
  have hlow : ∀ k, k < W.heap.size → w.heap[k]? = W.heap[k]? := fun k hk => by
   have e : W.heap[k]? = some (W.heap[k]'hk) := Array.getElem?_eq_getElem hk
   rw [e]
   exact hs1 _ _ (hsub _ _ e)
  have hsz : W.heap.size ≤ w.heap.size := by
   by_cases h : W.heap.size = 0
   ·omega
   ·have e : W.heap[W.heap.size - 1]? = some (W.heap[W.heap.size - 1]'(by omega)) := Array.getElem?_eq_getElem (by omega)
    have := (Array.getElem?_eq_some_iff.1 (hlow (W.heap.size - 1) (by omega) |>.trans e)).1
    omega
  have hb := below_of (w' := w) hout hlow hsz
  obtain ⟨e1, e2, e3⟩ := hfn d
  simp only [List.append_nil] at hW'
  have hargs := Below.trod laidOut script_read script_row ⟨n, ht⟩ hb (fun x hx => hW'.lt x hx)
  refine ⟨⟨[d], [], p, [], p, [], hW', ?_, ?_, ?_, kept_of hout hlow hsz _, fun h => by cases h⟩, by rw [hos]; exact OsLater.refl _⟩
  ·rw [List.append_nil, e1, hres]; exact trodAll_mk1 (shut_bool Tryz.underlying4 true)
  ·rw [List.append_nil, e2, hpar]; exact trodAll_mk1 (DataW.Trod.of_heap (w' := { w with os := W.os }) (by rfl) hargs)
  ·rw [List.append_nil, e3, hvars]; rfl
end
end Go.Sl
end
