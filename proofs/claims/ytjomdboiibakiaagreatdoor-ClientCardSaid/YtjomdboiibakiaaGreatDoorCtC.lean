/-
  Texts that the proof needs, joined: part 3.
-/
import Derived.Test.YtjomdboiibakiaaGreatDoorCtB
import Derived.Conc.EventLaws
import Derived.KernelRfl
set_option linter.unusedSimpArgs false
section
set_option linter.unusedVariables false
namespace Go.Sl
open Go.Conc
section
variable {P : Program} {Post : Value → World → Prop} {X : Bar} {σ : Gh} {h : Nat} {os : Os} {out : Array (Nat × ByteArray)} {d : Nat} {As As' As'' : List HP}
variable {fn : FuncId} {kd : Kd} {n : Nat} {e : Nat → Value} {ds : List Deferred} {k : List Item} {cs : List Frame}
variable {ops : Array Oper} {i : Nat} {rest : List Nat} {dst : Option Nat} {t : Nat} {ty : TypeId} {pos : String} {af : Array Edge} {gd : Option (Nat × Bool)} {x y : Operand} {ats : Array TypeId}
theorem stepG_close {main : Bool} {c kc : Nat} (ho : nthO ops i = some ⟨dst, .call ⟨.builtin .close, #[x], ats⟩, ty, pos, af, gd⟩) (hw : wantB ops n e gd = true) (hx : ev n e x = .chan (some c)) (hnr : (P.funcs[fn]?).any (·.norace) = false) {w : World} (hc : w.heap[c]? = some (.chan 0 #[] false kc kc false)) :
  stepG P main (gr fn kd n e ds (.inRegion ops (i :: rest) :: k) cs) w = .go (gr fn kd n (putO e dst (.tuple #[])) ds (.inRegion ops rest :: k) cs) (w.setChan c 0 #[] true kc kc false) (closeEvents c) := by
 rw [stepG_op ho hw]
 have key : (execOp (ev n e) ⟨dst, .call ⟨.builtin .close, #[x], ats⟩, ty, pos, af, gd⟩).runT P w #[] = (.ok (.value (.tuple #[])) (w.setChan c 0 #[] true kc kc false), closeEvents c) := by
  have h1 : ev0 P (resolve (ev n e) ⟨.builtin .close, #[x], ats⟩ ty) = some ⟨.builtin .close ats ty (#[x].map fun a => a matches .const _), #[.chan (some c)]⟩ := by
   unfold resolve
   simp only [List.map_toArray, List.map_cons, List.map_nil, hx]
   rfl
  show ((resolve (ev n e) ⟨.builtin .close, #[x], ats⟩ ty) >>= fun d => invoke d.target d.args).runT P w #[] = _
  rw [runT_ev0 h1]
  show ((Builtin.close_ ats ty #[.chan (some c)]).bind fun v => Sem.pure (Next.value v)).runT P w #[] = _
  have key2 : (Builtin.close_ ats ty #[.chan (some c)]).runT P w #[] = (.ok (.tuple #[]) (w.setChan c 0 #[] true kc kc false), closeEvents c) := Prod.ext ((Sem.runT_fst P _ w #[]).trans (Go.run_close_open ats ty hc)) (Go.events_close_open (es := #[]) ats ty hc)
  rw [Sem.runT_bind', key2]
  rfl
 have hkb := kd.early
 have hseen : seen P fn (closeEvents c) = closeEvents c := seen_eq hnr (fun e he f => by
  simp only [closeEvents, List.mem_toArray, List.mem_cons, List.not_mem_nil, or_false] at he
  rcases he with rfl | rfl <;> (intro z; cases z))
 simp only [stepG.apply, key, if_true]
 rw [finish_frm (by rw [nthO_eq]; exact ho)]
 simp [frm, GStep.after, gr, hkb, hseen]
theorem RunR.shut (L : List Nat) (G : Grp) (c kc : Nat) (Fin : Goroutine → Prop) (ho : nthO ops i = some ⟨dst, .call ⟨.builtin .close, #[x], ats⟩, ty, pos, af, gd⟩) (hw : wantB ops n e gd = true) (hx : ev n e x = .chan (some c)) (hnr : (P.funcs[fn]?).any (·.norace) = false)
  (nd : L.Nodup) (len : L.length ≤ 4) (hL : ∀ i ∈ L, ∃ s cw z0 z1, σ.seats i = some s ∧ s.cases = #[rcase cw z0, rcase c z1] ∧ cw ≠ c ∧ ∃ N, ∀ r, s.recs r → Cl P G N .rel (Conc.served r (commResult s.cases s.shape 1 z1 false)))
  (honly : ∀ i s, σ.seats i = some s → s.has c → i ∈ L) (ok : G.Ok) (e1 : G.cs[G.o1]? = some (stV L.length 0)) (e2 : G.cs[G.o2]? = some (smV 0)) (shs : σ.sh (.cell G.st)) (shm : σ.sh (.cell G.sm))
  (hc : Upd c (.chan 0 #[] false kc kc false) (.chan 0 #[] true kc kc false) As As') (hb : Upd G.blk (.cells G.cs G.ty (0, 0)) (.cells (G.row (stV 0 0) (smV 0)) G.ty (0, 0)) As' As'')
  (hm : MW P G Fin (.dis L.length) (gr fn kd n (putO e dst (.tuple #[])) ds (.inRegion ops rest :: k) cs))
  (k' : ∀ a, Fin a → At (RunR P Post X (σ.joined L) 0 os out) 0 As'' a) :
  At (RunR P Post X σ 0 os out) 0 As (gr fn kd n e ds (.inRegion ops (i :: rest) :: k) cs) := fun H st hole go w hwp ho' hu => by
 subst hwp
 have hcw : w.heap[c]? = some (.chan 0 #[] false kc kc false) := hc.has.get st
 have st' : Sat As' (hp (w.setChan c 0 #[] true kc kc false).heap) := hc.set st
 have hbw : (w.setChan c 0 #[] true kc kc false).heap[G.blk]? = some (.cells G.cs G.ty (0, 0)) := hb.has.get st'
 have hbc : c ≠ G.blk := fun z => by
  rw [← z, heap_setChan_self w hcw] at hbw; cases hbw
 have hbw0 : w.heap[G.blk]? = some (.cells G.cs G.ty (0, 0)) := by rw [heap_setChan_ne w _ _ _ _ _ _ hbc] at hbw; exact hbw
 obtain ⟨N0, hN⟩ : ∃ N0, ∀ i ∈ L, ∃ s cw z0 z1, σ.seats i = some s ∧ s.cases = #[rcase cw z0, rcase c z1] ∧ cw ≠ c ∧ ∀ r, s.recs r → Cl P G N0 .rel (Conc.served r (commResult s.cases s.shape 1 z1 false)) := by
  clear k' nd len honly e1 hm
  induction L with
  | nil => exact ⟨0, by simp⟩
  | cons j L ih =>
   obtain ⟨N1, h1⟩ := ih (fun i hi => hL i (List.mem_cons_of_mem _ hi))
   obtain ⟨s, cw, z0, z1, a1, a2, a3, N2, a4⟩ := hL j (List.mem_cons_self ..)
   refine ⟨max N1 N2, fun i hi => ?_⟩
   rcases List.mem_cons.1 hi with rfl | hi
   ·exact ⟨s, cw, z0, z1, a1, a2, a3, fun r hr => (a4 r hr).mono (Nat.le_max_right ..)⟩
   ·obtain ⟨s, cw, z0, z1, a1, a2, a3, a4⟩ := h1 i hi
    exact ⟨s, cw, z0, z1, a1, a2, a3, fun r hr => (a4 r hr).mono (Nat.le_max_left ..)⟩
 refine Run.shut L G c kc N0 Fin rfl hcw (fun w₁ q => stepG_close ho hw hx hnr (by rw [q.hp]; exact hcw)) ?_ rfl nd len hN honly ok hbw0 e1 e2 shs shm hm (fun a'' w'' hf hwg => ?_)
 ·rw [← nthO_eq] at ho
  simp [mayWake, gr, frm, ho]
 ·have hh : w''.heap = (w.setChan c 0 #[] true kc kc false).heap.setIfInBounds G.blk (.cells (G.row (stV 0 0) (smV 0)) G.ty (0, 0)) := hwg.hp
  have st'' : Sat As'' (hp w''.heap) := by rw [hh]; exact hb.set st'
  have hcell : ∀ (b : Nat) (cc : Array Value) (tt : TypeId), w.heap[b]? = some (.cells cc tt (0, 0)) → ∃ cc', w''.heap[b]? = some (.cells cc' tt (0, 0)) := fun b cc tt hb' => by
   have eb : c ≠ b := fun z => by rw [z, hb'] at hcw; cases hcw
   rw [hh]
   by_cases e3 : b = G.blk
   ·subst e3
    rw [hbw0] at hb'
    cases hb'
    exact ⟨_, Array.getElem?_setIfInBounds_self_of_lt (by have := (Array.getElem?_eq_some_iff.1 hbw).1; exact this)⟩
   ·exact ⟨cc, by rw [Array.getElem?_setIfInBounds_ne (Ne.symm e3), heap_setChan_ne w _ _ _ _ _ _ eb]; exact hb'⟩
  refine k' a'' hf _ st'' ?_ ⟨fun i' s' hi => ?_, fun i' s' c' hi hc' => ?_, fun i' s' p hi hp => ?_, fun l hl => ?_, ?_⟩ w'' rfl (hwg.os.trans ho') (hwg.out.trans hu)
  ·show (if 0 ∈ L then none else σ.seats 0) = none
   split
   ·rfl
   ·exact hole
  ·have hi : (if i' ∈ L then none else σ.seats i') = some s' := hi
   split at hi
   ·cases hi
   ·exact go.lt i' s' hi
  ·have hi : (if i' ∈ L then none else σ.seats i') = some s' := hi
   split at hi
   ·cases hi
   ·have := go.cl i' s' c' hi hc'
    rw [hh]
    simpa [World.setChan] using this
  ·have hi : (if i' ∈ L then none else σ.seats i') = some s' := hi
   split at hi
   ·cases hi
   ·obtain ⟨h1, c1, ty1, h2, h3⟩ := go.still i' s' p hi hp
    obtain ⟨c2, h4⟩ := hcell _ _ _ h2
    exact ⟨h1, c2, ty1, h4, h3⟩
  ·obtain ⟨a, ea, c1, ty1, h1, h2⟩ := go.shun l hl
   obtain ⟨c2, h4⟩ := hcell _ _ _ h1
   exact ⟨a, ea, c2, ty1, h4, h2⟩
  ·rw [hh, Array.size_setIfInBounds]
   have := go.bot
   simpa [World.setChan, Gh.joined] using this
theorem RunR.done {fu : Func} {cc : Code} {n' : Nat} [b : Body P fn fu cc n'] {kR : List Item} {v : Value} (hv : resV fu n e = some v) (hi : P.inits.idxOf? fn = none) (hn : ∀ i, σ.seats i = none) (hp : ∀ w : World, Sat As (hp w.heap) → w.os = os → w.output = out → Post v w) :
  At (RunR P Post X σ 0 os out) 0 As (grR fn .nor n e [] kR []) := fun H st hole go w hwp ho' hu => by
 subst hwp
 refine Run.done v rfl (fun w₁ q => ?_) hn (fun w₁ q => hp w₁ (by rw [q.hp]; exact st) (q.os.trans ho') (q.out.trans hu))
 have r := ev0_run (ev0_results (P := P) hv) w₁ #[]
 simp only [grR, frmR, frm, stepG, unwind, b.func, r, doReturn, Kd.k]
 simp [GStep.after, seen_none, hi]
end
def Away (σ : Gh) (b : Nat) : Prop := ∀ i s p, σ.seats i = some s → p ∈ s.mem → p.1.block ≠ b
theorem Away.blk {σ : Gh} {b : Nat} (h : Away σ b) : σ.blk b = false := by
 cases e : σ.blk b with
 | false => rfl
 | true =>
  unfold Gh.blk at e
  obtain ⟨i, _, h2⟩ := List.any_eq_true.1 e
  cases es : σ.seats i with
  | none => rw [es] at h2; cases h2
  | some s =>
   rw [es] at h2
   obtain ⟨p, hp, hb⟩ := List.any_eq_true.1 h2
   exact absurd (by simpa using hb) (h i s p es hp)
theorem Away.rd {X : Bar} {σ : Gh} {b : Nat} (h : Away σ b) (ty : TypeId) (o : Nat) : (X.bw σ).rd b ty o = false := by
 show (X.mkd ty o && σ.blk b) = false
 rw [h.blk, Bool.and_false]
theorem GO.away {X : Bar} {σ : Gh} {H : Array Obj} (g : GO X σ H) {b : Nat} (hb : H.size ≤ b) : Away σ b := fun i s p e hp z => by
 obtain ⟨_, c, ty, h2, _⟩ := g.still i s p e hp
 have := (Array.getElem?_eq_some_iff.1 h2).1
 omega
section
variable {P : Program} {Post : Value → World → Prop} {X : Bar} {σ : Gh} {os : Os} {out : Array (Nat × ByteArray)} {d : Nat} {As F : List HP}
variable {fn : FuncId} {kd : Kd} {n : Nat} {e : Nat → Value} {ds : List Deferred} {k : List Item} {cs : List Frame}
variable {ops : Array Oper} {i : Nat} {rest : List Nat} {t : Nat} {ty : TypeId} {pos : String} {af : Array Edge} {gd : Option (Nat × Bool)}
theorem RunR.al {tt : TypeId} {z : Value} {c : Array Value} [cz : Zv P tt z] (ho : nthO ops i = some ⟨some t, .alloc tt, ty, pos, af, gd⟩) (h : ∀ b, Away σ b → At (RunR P Post X σ 0 os out) d (pts b (.cells c tt (0, 0)) :: As) (gr fn kd n (put e t (.pointer (some ⟨b, 0, none⟩))) ds (.inRegion ops rest :: k) cs))
  (hc : z.cells = c := by first | (simp only [Value.cells]; done) | (simp only [Value.cells]; rfl) | rfl) (hw : wantB ops n e gd = true := by rfl) : At (RunR P Post X σ 0 os out) d As (gr fn kd n e ds (.inRegion ops (i :: rest) :: k) cs) := fun H st hole go w hwp ho' hu => by
 have C : Closed P true (X.bw σ) (RunR P Post X σ 0 os out) := RunR.closed0
 refine C.op (H := H) (d := d) (fn := fn) (kd := kd) (n := n) (e := e) (ds := ds) (k := k) (cs := cs) (ops := ops) (i := i) (rest := rest) (by rw [nthO_eq]; exact ho) (by rw [wanted_eq]; exact hw) ?_ hole go w hwp ho' hu
 unfold execOp; simp only [Instr.alloc]
 subst hc
 refine okS_do (okS_do (pu_zero _ H d _ ?_))
 exact h _ (go.away (Nat.le_refl _)) _ (st.push _)
theorem RunR.ap {α : Type} {f : α → List Value} {z : Nat} [rf : RowF f z] {el tt t3 el3 bz : Nat} {zv : Value} {m l : List α} {s : SliceV} {yv : Value} {x y : Operand} [cE : El P tt el] [cE3 : El P t3 el3] [Cz P el z] [cB : Bz P el bz] [Zv P el zv]
  (ho : nthO ops i = some ⟨some t, .call ⟨.builtin .append, #[x, y], #[tt, t3]⟩, ty, pos, af, gd⟩) (hf : Fo (slP f z el s l) As F) (haw : ∀ b, s.a = some ⟨b, 0, none⟩ → Away σ b) (hsh : ∀ j, X.sh el j = false)
  (hsrc : ∀ H, Sat (slP f z el s l :: F) (hp H) → SrcOk (X.bw σ) H z m.length yv (flat f m)) (h : ∀ s', s'.len = l.length + m.length → (∀ b, s'.a = some ⟨b, 0, none⟩ → Away σ b) → At (RunR P Post X σ 0 os out) d (slP f z el s' (l ++ m) :: F) (gr fn kd n (put e t s'.v) ds (.inRegion ops rest :: k) cs))
  (hsz : (l.length + m.length) * bz ≤ 140737488355328) (hzv : zv.cells.size = z) (hb0 : bz ≠ 0) (hx : ev n e x = s.v) (hy : ev n e y = yv) (hw : wantB ops n e gd = true := by rfl) : At (RunR P Post X σ 0 os out) d As (gr fn kd n e ds (.inRegion ops (i :: rest) :: k) cs) := fun H st hole go w hwp ho' hu => by
 have C : Closed P true (X.bw σ) (RunR P Post X σ 0 os out) := RunR.closed0
 refine C.op (H := H) (d := d) (fn := fn) (kd := kd) (n := n) (e := e) (ds := ds) (k := k) (cs := cs) (ops := ops) (i := i) (rest := rest) (by rw [nthO_eq]; exact ho) (by rw [wanted_eq]; exact hw) ?_ hole go w hwp ho' hu
 have st' := st.perm hf.perm
 unfold execOp; simp only [resolve]
 refine okS_do (okS_pure ?_)
 simp only [List.map_toArray, List.map_cons, List.map_nil, hx, hy]
 unfold invoke builtin
 refine okS_do ?_
 refine okS_append rf.len rf.one hzv (fun b j hs => (haw b hs).rd _ _) (fun j => hsh j) hb0 hsz st' (hsrc H st') fun s'' H' hl ha hs => okS_pure ?_
 refine h s'' hl (fun b hb => ?_) _ hs
 rcases ha with ha | ha
 ·exact haw b (ha ▸ hb)
 ·rw [hb] at ha
  obtain rfl : b = H.size := by simpa using ha
  exact go.away (Nat.le_refl _)
end
def SpecG (P : Program) (X : Bar) (f : FuncId) (args : Array Value) (σ : Gh) (A : List HP) (Q : Value → Gh → List HP → Prop) : Prop :=
 ∀ (Post : Value → World → Prop) (os : Os) (out : Array (Nat × ByteArray)) (kd : Kd) (F : List HP) (c : Frame) (cs : List Frame), KdOk kd c → (∀ v σ' As', Q v σ' As' → At (RunR P Post X σ' 0 os out) 0 (As' ++ F) (after kd c cs v)) → At (RunR P Post X σ 0 os out) 0 (A ++ F) (enterG P f args kd (c :: cs))
section
variable {P : Program} {Post : Value → World → Prop} {X : Bar} {σ : Gh} {os : Os} {out : Array (Nat × ByteArray)} {d : Nat} {As F : List HP}
variable {fn : FuncId} {kd : Kd} {n : Nat} {e : Nat → Value} {ds : List Deferred} {k : List Item} {cs : List Frame}
variable {ops : Array Oper} {i : Nat} {rest : List Nat} {dst : Option Nat} {t : Nat} {ty : TypeId} {pos : String} {af : Array Edge} {gd : Option (Nat × Bool)} {x y : Operand} {ats : Array TypeId}
theorem SpecG.of {f : FuncId} {fu : Func} {c : Code} {nf : Nat} [b : Body P f fu c nf] {args : Array Value} {A : List HP} {Q : Value → Gh → List HP → Prop}
  (h : ∀ (Post : Value → World → Prop) (os : Os) (out : Array (Nat × ByteArray)) (kd : Kd) (F : List HP) (c' : Frame) (cs : List Frame), Closed P true (X.bw σ) (RunR P Post X σ 0 os out) → KdOk kd c' → (∀ v σ' As', Q v σ' As' → At (RunR P Post X σ' 0 os out) 0 (As' ++ F) (after kd c' cs v)) → At (RunR P Post X σ 0 os out) 0 (A ++ F) (gr f kd nf (argE args) [] [.code c] (c' :: cs)))
  (hn : Nat.ble args.size nf = true := by rfl) : SpecG P X f args σ A Q := fun Post os out kd F c' cs hkd hr => by
 rw [enterG_eq b.func b.body (by rw [b.tmps]; exact Nat.le_of_ble_eq_true hn), b.tmps]
 exact h Post os out kd F c' cs RunR.closed0 hkd hr
theorem Spec.g {f : FuncId} {args : Array Value} {A : List HP} {Q : Value → List HP → Prop} (h : Spec P true (X.bw σ) f args A Q) : SpecG P X f args σ A (fun v σ' As' => σ' = σ ∧ Q v As') :=
 fun Post os out kd F c cs hkd hr => h _ RunR.closed0 kd 0 F c cs hkd fun v As' q => hr v σ As' ⟨rfl, q⟩
theorem SpecG.post {f : FuncId} {args : Array Value} {A : List HP} {Q Q' : Value → Gh → List HP → Prop} (h : SpecG P X f args σ A Q) (hq : ∀ v σ' As', Q v σ' As' → Q' v σ' As') : SpecG P X f args σ A Q' :=
 fun Post os out kd F c cs hkd hr => h Post os out kd F c cs hkd fun v σ' As' q => hr v σ' As' (hq v σ' As' q)
theorem RunR.cl {f : FuncId} {fu : Func} {c : Code} {nf : Nat} [b : Body P f fu c nf] {fo : Operand} {args : Array Operand} {ats : Array TypeId} {a1 a2 : Array Value} {vl : List Value} {A : List HP} {Q : Value → Gh → List HP → Prop} (hs : SpecG P X f (a1 ++ vl.toArray ++ a2) σ A Q)
  (h : ∀ v σ' As', Q v σ' As' → At (RunR P Post X σ' 0 os out) 0 (As' ++ F) (gr fn kd n (putO e dst v) ds (.inRegion ops rest :: k) cs))
  (ho : nthO ops i = some ⟨dst, .call ⟨.value fo, args, ats⟩, ty, pos, af, gd⟩ := by rfl) (hv : args.toList.map (ev n e) = vl := by rfl) (hf : ev n e fo = .func (.func f) a1 a2 := by rfl)
  (hr : ReF A As F := by repeat (first | with_reducible exact ReF.nil | with_reducible exact Fo.head | with_reducible apply Fo.tail | with_reducible apply ReF.cons)) (hw : wantB ops n e gd = true := by rfl) : At (RunR P Post X σ 0 os out) 0 As (gr fn kd n e ds (.inRegion ops (i :: rest) :: k) cs) := by
 refine At.perm hr.perm ?_
 have hv' : args.map (ev n e) = vl.toArray := by rw [← hv, ← Array.toList_map, Array.toArray_toList]
 have C : Closed P true (X.bw σ) (RunR P Post X σ 0 os out) := RunR.closed0
 intro H st
 refine C.still (g' := enterG P f (a1 ++ vl.toArray ++ a2) .nor (frm fn kd n e ds (.inRegion ops (i :: rest) :: k) :: cs)) rfl (fun w => stepG_ent (f := f) (args := a1 ++ vl.toArray ++ a2) ho hw (by
  unfold execOp
  simp only
  refine ev0_do (a := ⟨.fn (.func f) a2, a1 ++ vl.toArray⟩) ?_ ?_
  ·unfold resolve
   simp only [hf, Deferred.ofValue, hv']; rfl
  ·exact ev0_callFunc _) w) ?_
 refine hs Post os out .nor F _ cs trivial (fun v σ' As' q => ?_) H st
 show At _ 0 _ (backTo _ cs v)
 rw [finish_gr ho]
 exact h v σ' As' q
theorem loopG {c : Code} {Y : Type} (S : Y → Gh) (L : Y → List (Nat × Value)) (I : Y → List HP) (Ok : Y → Prop) (m : Y → Nat) (x0 : Y) (hS : σ = S x0) (he : EnvIs e (L x0)) (hok : Ok x0)
  (step : ∀ x e, Ok x → (∀ y e' As', Ok y → m y < m x → EnvIs e' (L y) → Reo As' (I y) → At (RunR P Post X (S y) 0 os out) 0 As' (gr fn kd n e' ds (.inLoop (cB c) :: k) cs)) → At (RunR P Post X (S x) 0 os out) 0 (I x) (gr fn kd n (puts e (L x)) ds (.code (cB c) :: .inLoop (cB c) :: k) cs))
  (hI : Reo As (I x0) := by (try simp only [List.cons_append, List.nil_append]); repeat (first | with_reducible exact Reo.refl | with_reducible exact Reo.nil | with_reducible exact Fo.head | with_reducible apply Fo.tail | with_reducible apply Reo.cons | with_reducible apply Reo.drop)) (hc : ck c = .loop := by rfl) : At (RunR P Post X σ 0 os out) 0 As (gr fn kd n e ds (.code c :: k) cs) := by
 subst hS
 have key : ∀ (N : Nat) (x : Y) (e : Nat → Value) (As : List HP), m x = N → EnvIs e (L x) → Ok x → Reo As (I x) → At (RunR P Post X (S x) 0 os out) 0 As (gr fn kd n e ds (.inLoop (cB c) :: k) cs) := by
  intro N
  induction N using Nat.strongRecOn with
  | ind N ih =>
   intro x e As hm he hok hr
   have C : Closed P true (X.bw (S x)) (RunR P Post X (S x) 0 os out) := RunR.closed0
   refine At.reo hr (C.ilp ?_)
   rw [← puts_eq he]
   exact step x e hok fun y e' As' hy hlt he' hr' => ih (m y) (by omega) y e' As' rfl he' hy hr'
 have C : Closed P true (X.bw (S x0)) (RunR P Post X (S x0) 0 os out) := RunR.closed0
 refine At.reo hI (C.lp ?_ hc)
 rw [← puts_eq he]
 exact step x0 e hok fun y e' As' hy hlt he' hr' => key _ y e' As' rfl he' hy hr'
theorem againG {c : Code} {Y : Type} {S : Y → Gh} {L : Y → List (Nat × Value)} {I : Y → List HP} {Ok : Y → Prop} {m : Y → Nat} {x0 : Y} {body : Code} (ih : ∀ y e' As', Ok y → m y < m x0 → EnvIs e' (L y) → Reo As' (I y) → At (RunR P Post X (S y) 0 os out) 0 As' (gr fn kd n e' ds (.inLoop body :: k) cs)) (y : Y) (hS : σ = S y) (hy : Ok y) (hm : m y < m x0)
  (he : EnvIs e (L y) := by repeat (first | exact trivial | refine And.intro rfl ?_)) (hr : Reo As (I y) := by (try simp only [List.cons_append, List.nil_append]); repeat (first | with_reducible exact Reo.refl | with_reducible exact Reo.nil | with_reducible exact Fo.head | with_reducible apply Fo.tail | with_reducible apply Reo.cons | with_reducible apply Reo.drop)) : At (RunR P Post X σ 0 os out) 0 As (gr fn kd n e ds (.inLoop body :: k) cs) := by
 subst hS; exact ih y e As hy hm he hr
theorem RunR.retR {fu : Func} {cc : Code} {n' : Nat} [b : Body P fn fu cc n'] {c : Frame} {v : Value} {x : Code} {Q : Value → Gh → List HP → Prop} {A : List HP} (hkd : KdOk kd c) (hret : ∀ v σ' As', Q v σ' As' → At (RunR P Post X σ' 0 os out) 0 (As' ++ F) (after kd c cs v)) (q : Q v σ A) (hv : resV fu n e = some v := by rfl) (hx : ck x = .ret := by rfl)
  (hr : ReF A As F := by repeat (first | with_reducible exact ReF.nil | with_reducible exact Fo.head | with_reducible apply Fo.tail | with_reducible apply ReF.cons)) : At (RunR P Post X σ 0 os out) 0 As (gr fn kd n e [] (.code x :: k) (c :: cs)) := by
 have C : Closed P true (X.bw σ) (RunR P Post X σ 0 os out) := RunR.closed0
 exact At.perm hr.perm (C.ret0 hkd (hret v σ A q) hv hx)
theorem RunR.finR {fu : Func} {cc : Code} {n' : Nat} [b : Body P fn fu cc n'] {c : Frame} {v : Value} {Q : Value → Gh → List HP → Prop} {A : List HP} (hkd : KdOk kd c) (hret : ∀ v σ' As', Q v σ' As' → At (RunR P Post X σ' 0 os out) 0 (As' ++ F) (after kd c cs v)) (q : Q v σ A) (hv : resV fu n e = some v := by rfl)
  (hr : ReF A As F := by repeat (first | with_reducible exact ReF.nil | with_reducible exact Fo.head | with_reducible apply Fo.tail | with_reducible apply ReF.cons)) : At (RunR P Post X σ 0 os out) 0 As (gr fn kd n e [] [] (c :: cs)) := by
 have C : Closed P true (X.bw σ) (RunR P Post X σ 0 os out) := RunR.closed0
 exact At.perm hr.perm (C.fin0 hkd (hret v σ A q) hv)
end
end Go.Sl
end
section
set_option linter.unusedVariables false
namespace Go.Sl
open Go.Proofs
instance : Ext_ Tryz.prog 64 Tryz.f64 (fun _ => do mark .disable; pure Extern.Race.none_) := ⟨Tryz.func64, rfl, rfl, by kernel_rfl, by kernel_rfl⟩
instance : Ext_ Tryz.prog 66 Tryz.f66 (fun _ => do mark .enable; pure Extern.Race.none_) := ⟨Tryz.func66, rfl, rfl, by kernel_rfl, by kernel_rfl⟩
instance : Ext_ Tryz.prog 67 Tryz.f67 (Extern.Race.marked .acquire) := ⟨Tryz.func67, rfl, rfl, by kernel_rfl, by kernel_rfl⟩
instance : Ext_ Tryz.prog 92 Tryz.f92 (Extern.Race.marked .releaseMerge) := ⟨Tryz.func92, rfl, rfl, by kernel_rfl, by kernel_rfl⟩
instance : Ext_ Tryz.prog 71 Tryz.f71 (Extern.Race.marked .write) := ⟨Tryz.func71, rfl, rfl, by kernel_rfl, by kernel_rfl⟩
instance : Ext_ Tryz.prog 97 Tryz.f97 (Extern.Race.marked .read) := ⟨Tryz.func97, rfl, rfl, by kernel_rfl, by kernel_rfl⟩
instance : Ext_ Tryz.prog 108 Tryz.f108 (Extern.Atomic.casT (.int .i32)) := ⟨Tryz.func108, rfl, rfl, by kernel_rfl, by kernel_rfl⟩
instance : Ext_ Tryz.prog 110 Tryz.f110 (Extern.Atomic.update (Op.intArith .add) .i32 true) := ⟨Tryz.func110, rfl, rfl, by kernel_rfl, by kernel_rfl⟩
instance : Ext_ Tryz.prog 112 Tryz.f112 (Extern.Atomic.loadT (.int .u64)) := ⟨Tryz.func112, rfl, rfl, by kernel_rfl, by kernel_rfl⟩
instance : Ext_ Tryz.prog 113 Tryz.f113 (Extern.Atomic.casT (.int .u64)) := ⟨Tryz.func113, rfl, rfl, by kernel_rfl, by kernel_rfl⟩
instance : Ext_ Tryz.prog 148 Tryz.f148 (Extern.Atomic.update (Op.intArith .add) .u64 true) := ⟨Tryz.func148, rfl, rfl, by kernel_rfl, by kernel_rfl⟩
instance : Ext_ Tryz.prog 149 Tryz.f149 Extern.Atomic.storeT := ⟨Tryz.func149, rfl, rfl, by kernel_rfl, by kernel_rfl⟩
instance : Ext_ Tryz.prog 73 Tryz.f73 Extern.Sync.semacquire := ⟨Tryz.func73, rfl, rfl, by kernel_rfl, by kernel_rfl⟩
instance : Ext_ Tryz.prog 99 Tryz.f99 Extern.Sync.semrelease := ⟨Tryz.func99, rfl, rfl, by kernel_rfl, by kernel_rfl⟩
instance : Ext_ Tryz.prog 72 Tryz.f72 (fun _ => pure (.bool false)) := ⟨Tryz.func72, rfl, rfl, by kernel_rfl, by kernel_rfl⟩
instance : Up Tryz.prog 143 := ⟨Tryz.underlying143⟩
end Go.Sl
end
section
namespace Go.Sl
structure AlV where
 tm : Int
 ord : Int
 tx : Int
 again : Bool
instance : Inhabited AlV := ⟨⟨0, 0, 0, false⟩⟩
def AlV.tim (a : AlV) : TimR := ⟨a.tm, a.again, a.tx⟩
def alLt (a b : AlV) : Prop := a.tm < b.tm ∨ (a.tm = b.tm ∧ a.ord < b.ord)
abbrev gA (l : List AlV) (k : Nat) : AlV := l[k]?.getD default
def nlt (l : List AlV) (i j : Nat) : Prop := ¬ alLt (gA l i) (gA l j)
def HeapAt (l : List AlV) (n : Nat) : Prop := ∀ k, 0 < k → k < n → nlt l k ((k - 1) / 2)
structure TimJ (T : List AlV) (order : Int) (l : List AlV) : Prop where
 perm : l.Perm T
 heap : HeapAt l l.length
 inc : T.Pairwise fun a b => a.ord < b.ord
 le : ∀ a ∈ T, a.ord ≤ order
theorem TimJ.zero (order : Int) : TimJ [] order [] := ⟨.refl _, fun k h0 hk => by simp at hk, .nil, fun a h => by cases h⟩
end Go.Sl
end
section
set_option linter.unusedVariables false
namespace Go.Sl
open Go.Conc
section
variable {P : Program} {main : Bool} {s : SeatD} {fn : FuncId} {kd : Kd} {n : Nat} {e : Nat → Value} {ds : List Deferred} {k : List Item} {cs : List Frame}
variable {ops : Array Oper} {i : Nat} {rest : List Nat} {t : Nat} {ty : TypeId} {pos : String} {af : Array Edge} {gd : Option (Nat × Bool)} {x : Operand} {v : Value} {m : Nat}
theorem wayOp {o : Oper} (ho : nthO ops i = some o) (hw : wantB ops n e o.guard = true) (hy : ev0 P (execOp (ev n e) o) = some (.value v)) (q : Way P main s m (gr fn kd n (putO e o.dst v) ds (.inRegion ops rest :: k) cs)) : Way P main s (m + 1) (gr fn kd n e ds (.inRegion ops (i :: rest) :: k) cs) :=
 .inr ⟨rfl, fun w _ => ⟨_, #[], w.drawn, stepG_val ho hw hy w, by simp, q⟩⟩
theorem wayNc {a : Addr} (ho : nthO ops i = some ⟨some t, .nilCheck x, ty, pos, af, gd⟩) (q : Way P main s m (gr fn kd n (put e t (.pointer (some a))) ds (.inRegion ops rest :: k) cs)) (hx : ev n e x = .pointer (some a) := by rfl) (hw : wantB ops n e gd = true := by rfl) : Way P main s (m + 1) (gr fn kd n e ds (.inRegion ops (i :: rest) :: k) cs) :=
 wayOp ho hw (by unfold execOp; simp only [hx]; rfl) q
theorem wayFa {s' f o b off : Nat} [c : Fl P s' f o] (ho : nthO ops i = some ⟨some t, .fieldAddr s' x f, ty, pos, af, gd⟩) (q : Way P main s m (gr fn kd n (put e t (.pointer (some ⟨b, off + o, none⟩))) ds (.inRegion ops rest :: k) cs)) (hx : ev n e x = .pointer (some ⟨b, off, none⟩) := by rfl) (hw : wantB ops n e gd = true := by rfl) : Way P main s (m + 1) (gr fn kd n e ds (.inRegion ops (i :: rest) :: k) cs) :=
 wayOp ho hw (by
  obtain ⟨fs, fl, z, h1, h2, rfl, ⟨inf, h4, h5⟩, h6⟩ := c.h
  unfold execOp; simp only [hx, Instr.fieldAt]
  refine ev0_do (a := .pointer (some ⟨b, off + fl.offset, none⟩)) (ev0_do (ev0_und h1) ?_) rfl
  simp only [h2, Instr.sureAddr]
  refine ev0_do (a := (⟨b, off, none⟩ : Addr)) rfl ?_
  unfold fieldPlace
  refine ev0_do (a := ⟨b, off + fl.offset, none⟩) ?_ rfl
  refine ev0_do (ev0_size ⟨inf, h4, h5⟩) ?_
  rw [if_neg h6, add_of]; rfl) q
theorem wayLd {tt : TypeId} {ad : Addr} [a : Ag P tt false] (hm : (ad, v) ∈ s.mem) (ho : nthO ops i = some ⟨some t, .load tt x, ty, pos, af, gd⟩) (q : Way P main s m (gr fn kd n (put e t v) ds (.inRegion ops rest :: k) cs)) (hx : ev n e x = .pointer (some ad) := by rfl) (hw : wantB ops n e gd = true := by rfl) : Way P main s (m + 1) (gr fn kd n e ds (.inRegion ops (i :: rest) :: k) cs) := by
 refine .inr ⟨rfl, fun w hK => ⟨_, _, w.drawn, stepG_ld ho hw hx (hK _ hm), fun e he => ?_, q⟩⟩
 have := seen_mem he
 simp only [List.mem_toArray, List.mem_cons, List.not_mem_nil, or_false] at this
 exact ⟨ad, this, (ad, v), hm, rfl⟩
end
structure EnvSt (ops : Array Oper) (e0 : Nat → Value) (D : List (Nat × Nat)) (S : List SE) (L : Nat → Prop) (e : Nat → Value) : Prop where
 v1 : ∀ x ∈ S, L x.i → e x.t = x.v
 v2 : ∀ s, lkD D s = none → e s = e0 s
 v3 : ∀ s w, lkD D s = some w → ¬ L w → e s = e0 s
 cl : ∀ w, L w → ∀ j ∈ aft ops w, L j
section
variable {P : Program} {main : Bool} {s : SeatD} {fn : FuncId} {kd : Kd} {n : Nat} {ds : List Deferred} {ops : Array Oper} {k : List Item} {cs : List Frame} {e0 : Nat → Value} {D : List (Nat × Nat)} {T is : List Nat} {S : List SE}
theorem EnvSt.env {L : Nat → Prop} {e : Nat → Value} (h : EnvSt ops e0 D S L e) {i : Nat} (hi : ¬ L i) (hr : ∀ j ∈ aft ops i, L j) {S' : List SE} (hS : ∀ x ∈ S', x ∈ S) : envD e0 D ops i S' e = e := by
 funext s
 unfold envD
 cases h1 : lkS S' (aft ops i) s with
 | some v =>
  obtain ⟨x, hx, rfl, rfl, hp⟩ := lkS_mem h1
  exact (h.v1 x (hS x hx) (hr _ hp)).symm
 | none =>
  simp only
  cases h2 : lkD D s with
  | none => exact (h.v2 s h2).symm
  | some w =>
   simp only
   split
   ·rename_i hc
    have hiw : i ∈ aft ops w := by simpa using hc
    exact (h.v3 s w h2 fun hl => hi (h.cl w hl i hiw)).symm
   ·rfl
structure SilW (P : Program) (main : Bool) (s : SeatD) (fn : FuncId) (kd : Kd) (n : Nat) (ds : List Deferred) (ops : Array Oper) (k : List Item) (cs : List Frame) (e0 : Nat → Value) (D : List (Nat × Nat)) (is : List Nat) (S : List SE) : Prop where
 all : ∀ i ∈ is, ∃ x ∈ S, x.i = i
 sub : ∀ x ∈ S, x.i ∈ is
 uq : ∀ x ∈ S, ∀ y ∈ S, x.i = y.i → x = y
 lk : ∀ x ∈ S, dstOf ops x.i = some x.t
 ob : ∀ x ∈ S, ∃ Sx, (∀ y ∈ Sx, y ∈ S) ∧ ∀ m e rest, Way P main s m (gr fn kd n (put (envD e0 D ops x.i Sx e) x.t x.v) ds (.inRegion ops rest :: k) cs) → Way P main s (m + 1) (gr fn kd n (envD e0 D ops x.i Sx e) ds (.inRegion ops (x.i :: rest) :: k) cs)
def lsT (listed : Array Bool) (i : Nat) : Prop := listed[i]?.getD false = true
def Stood (ops : Array Oper) (e0 : Nat → Value) (D : List (Nat × Nat)) (S : List SE) (r : Nat) (e : Nat → Value) (rest : List Nat) : Prop :=
 ∃ md fuel t, ∃ listed : Array Bool, listed.size = ops.size ∧ unl (fun i => listed[i]?.getD false) ops.size = fuel + 1 ∧ EnvSt ops e0 D S (lsT listed) e ∧ ¬ lsT listed r ∧ (∀ j ∈ aft ops r, lsT listed j) ∧ rest = Region.linearise.go md ops fuel t (listed.setIfInBounds r true) []
theorem way_run {md : Region.Mode} (rg : RegOk ops D T is) (sw : SilW P main s fn kd n ds ops k cs e0 D is S) {r : Nat} (hr : r ∈ T) (hT : ∀ t ∈ T, t ≠ r → reach ops 8 t r = true)
  {m0 : Nat} (hrec : ∀ e rest, Stood ops e0 D S r e rest → Way P main s m0 (gr fn kd n e ds (.inRegion ops (r :: rest) :: k) cs)) :
  ∀ (fuel t : Nat) (listed : Array Bool) (e : Nat → Value), listed.size = ops.size → unl (fun i => listed[i]?.getD false) ops.size = fuel → EnvSt ops e0 D S (lsT listed) e → ¬ lsT listed r →
   Way P main s (fuel + m0) (gr fn kd n e ds (.inRegion ops (Region.linearise.go md ops fuel t listed []) :: k) cs) := by
 intro fuel
 induction fuel with
 | zero =>
  intro t listed e hsz hu st hnr
  exact absurd (unl_zero hu r (rg.Tlt r hr)) hnr
 | succ fuel ih =>
  intro t listed e hsz hu st hnr
  have hrs : ∀ i, i ∈ ((List.range ops.size).filter fun i => !listed.getD i true && ((ops[i]?).map (·.after.all fun e => !Region.binds md e || listed.getD e.on false)).getD false) ↔ i < ops.size ∧ listed[i]?.getD false = false ∧ ∀ j ∈ aftM md ops i, listed[j]?.getD false = true := by
   intro i
   simp only [List.mem_filter, List.mem_range, Bool.and_eq_true, Bool.not_eq_true']
   constructor
   ·rintro ⟨h1, h2, h3⟩
    refine ⟨h1, ?_, (aft_ready h1).1 h3⟩
    have : i < listed.size := by omega
    simpa [Array.getD_eq_getD_getElem?, this] using h2
   ·rintro ⟨h1, h2, h3⟩
    refine ⟨h1, ?_, (aft_ready h1).2 h3⟩
    have : i < listed.size := by omega
    simpa [Array.getD_eq_getD_getElem?, this] using h2
  simp only [Region.linearise.go]
  generalize hG : ((List.range ops.size).filter fun i => !listed.getD i true && ((ops[i]?).map (·.after.all fun e => !Region.binds md e || listed.getD e.on false)).getD false) = rs at hrs
  obtain ⟨i1, hi1, hf1, _⟩ := exists_least (f := fun i => listed[i]?.getD false) (m := ops.size) (by rw [hu]; omega)
  obtain ⟨i0, hi0, hf0, hlow⟩ := rg.prog md (fun i => listed[i]?.getD false) ⟨i1, hi1, hf1⟩
  have hne : rs.length ≠ 0 := by
   have : i0 ∈ rs := (hrs i0).2 ⟨hi0, hf0, hlow⟩
   intro z
   rw [List.length_eq_zero_iff] at z
   rw [z] at this; cases this
  have hmod : t % rs.length < rs.length := Nat.mod_lt _ (by omega)
  rw [List.getElem?_eq_getElem hmod]
  simp only
  generalize hi' : rs[t % rs.length] = i
  have hmem : i ∈ rs := by rw [← hi']; exact List.getElem_mem hmod
  obtain ⟨hlt, hnl, hrd0⟩ := (hrs i).1 hmem
  have hrd : ∀ j ∈ aft ops i, listed[j]?.getD false = true := fun j hj => hrd0 j (aft_sub hj)
  have hacc : Region.linearise.go md ops fuel (t / rs.length) (listed.setIfInBounds i true) [i] = i :: Region.linearise.go md ops fuel (t / rs.length) (listed.setIfInBounds i true) [] := linearise_go_acc' md ops fuel (t / rs.length) (listed.setIfInBounds i true) i
  rw [hacc]
  have hsz' : (listed.setIfInBounds i true).size = ops.size := by simpa using hsz
  have hlt' : i < listed.size := by omega
  have hset := lsd_set (listed := listed) hlt'
  have hnl' : ¬ (listed[i]?.getD false = true) := by rw [hnl]; simp
  by_cases hir : i = r
  ·subst hir
   exact (hrec e _ ⟨md, fuel, _, listed, hsz, hu, st, hnr, hrd, rfl⟩).mono (by omega)
  ·have hu' : unl (fun j => (listed.setIfInBounds i true)[j]?.getD false) ops.size = fuel := by
    have := (unl_set (f := fun j => listed[j]?.getD false) (f' := fun j => (listed.setIfInBounds i true)[j]?.getD false) (i := i) hnl (by simp [hset]) (fun j hj => by simp [hset, hj]) (m := ops.size)).1 hlt
    rw [hu] at this
    omega
   have hL : ∀ j, ((listed.setIfInBounds i true)[j]?.getD false = true) ↔ (j = i ∨ listed[j]?.getD false = true) := fun j => by
    rw [hset]; by_cases e : j = i <;> simp [e]
   have hin : i ∈ is := by
    rcases rg.cov i hlt with h | h
    ·exact h
    ·exfalso
     have h1 := hT i h hir
     rcases reach_succ (f := 7) h1 with h2 | ⟨m, hm, h2⟩
     ·exact hir h2
     ·exact hnr (reach_closed st.cl 7 m r h2 (hrd m hm))
   obtain ⟨x, hx, rfl⟩ := sw.all i hin
   obtain ⟨Sx, hSx, ob⟩ := sw.ob x hx
   have hdst := sw.lk x hx
   have henv := st.env hnl' hrd (S' := Sx) hSx
   have key := ob (fuel + m0) e (Region.linearise.go md ops fuel (t / rs.length) (listed.setIfInBounds x.i true) [])
   rw [henv] at key
   rw [show fuel + 1 + m0 = fuel + m0 + 1 by omega]
   refine key (ih _ _ _ hsz' hu' ⟨fun y hy hLy => ?_, fun s h2 => ?_, fun s w h2 hw => ?_, fun w hw j hj => ?_⟩ fun z => ?_)
   ·by_cases hyi : y.i = x.i
    ·have hyx : y = x := sw.uq y hy x hx hyi
     subst hyx; simp [put]
    ·have hLy' : listed[y.i]?.getD false = true := ((hL _).1 hLy).resolve_left hyi
     have hyt : y.t ≠ x.t := fun e => hyi (dst_inj rg (sw.lk y hy) (e ▸ hdst))
     simp only [put, if_neg hyt]
     exact st.v1 y hy hLy'
   ·have : s ≠ x.t := fun e => by subst e; rw [rg.d2 _ _ hdst] at h2; cases h2
    simp only [put, if_neg this]; exact st.v2 s h2
   ·have : s ≠ x.t := fun e => by
     subst e; rw [rg.d2 _ _ hdst] at h2
     exact hw ((hL w).2 (.inl (Option.some.inj h2).symm))
    simp only [put, if_neg this]
    exact st.v3 s w h2 fun h => hw ((hL w).2 (.inr h))
   ·have hw : (listed.setIfInBounds x.i true)[w]?.getD false = true := hw
    show (listed.setIfInBounds x.i true)[j]?.getD false = true
    rw [hL] at hw ⊢
    rcases hw with rfl | hw
    ·exact .inr (hrd j hj)
    ·exact .inr (st.cl w hw j hj)
   ·rcases (hL r).1 z with h | h
    ·exact hir h.symm
    ·exact hnr h
theorem unl_rep : ∀ (N m : Nat), unl (fun i => (Array.replicate N false)[i]?.getD false) m = m
 | N, 0 => rfl
 | N, m + 1 => by
  unfold unl
  rw [unl_rep N m, repl_get]; rfl
theorem way_drawnM {c : Code} (D : List (Nat × Nat)) (is T : List Nat) (r : Nat) (S : List SE) (sw : SilW P main s fn kd n ds (cO c) k cs e0 D is S) (m0 : Nat) (hrec : ∀ e rest, Stood (cO c) e0 D S r e rest → Way P main s m0 (gr fn kd n e ds (.inRegion (cO c) (r :: rest) :: k) cs))
  (hr : r ∈ T := by decide) (hT : (T.all fun t => t == r || reach (cO c) 8 t r) = true := by decide +kernel) (hc : ck c = .draw := by rfl) (hg : regOk (cO c) D T is = true := by decide +kernel) : Way P main s ((cO c).size + m0 + 1) (gr fn kd n e0 ds (.code c :: k) cs) := by
 have rg := regOk_of hg
 refine way_dr (fun t => ?_) hc
 have st : EnvSt (cO c) e0 D S (lsT (Array.replicate (cO c).size false)) e0 := ⟨fun x _ h => absurd h (by unfold lsT; rw [repl_get]; simp), fun _ _ => rfl, fun _ _ _ _ => rfl, fun w h => absurd h (by unfold lsT; rw [repl_get]; simp)⟩
 have hT' : ∀ t ∈ T, t ≠ r → reach (cO c) 8 t r = true := fun t ht hne => by
  have := List.all_eq_true.1 hT t ht
  simpa [hne] using this
 unfold Region.schedule
 split
 ·unfold Region.linearise
  exact way_run rg sw hr hT' hrec _ _ _ _ (by simp) (unl_rep _ _) st (by unfold lsT; rw [repl_get]; simp)
 ·unfold Region.linearise
  exact way_run rg sw hr hT' hrec _ _ _ _ (by simp) (unl_rep _ _) st (by unfold lsT; rw [repl_get]; simp)
theorem Stood.rest {r : Nat} {e : Nat → Value} {rest : List Nat} (h : Stood ops e0 D S r e rest) (ha : ((List.range ops.size).all fun i => i == r || reach ops 8 r i) = true) : rest = [] := by
 obtain ⟨md, fuel, t, listed, hsz, hu, st, hnr, hrd, rfl⟩ := h
 have hl : ∀ i, i < ops.size → i ≠ r → lsT listed i := fun i hi hne => by
  have := List.all_eq_true.1 ha i (List.mem_range.2 hi)
  have h1 : reach ops 8 r i = true := by simpa [hne] using this
  rcases reach_succ (f := 7) h1 with h2 | ⟨m, hm, h2⟩
  ·exact absurd h2.symm hne
  ·exact reach_closed st.cl 7 m i h2 (hrd m hm)
 have h0 : unl (fun i => (listed.setIfInBounds r true)[i]?.getD false) ops.size = 0 := by
  obtain ⟨i1, hi1, hf1, _⟩ | h := Classical.em (∃ i, i < ops.size ∧ (listed.setIfInBounds r true)[i]?.getD false = false ∧ True)
  ·exfalso
   have hlt : i1 < listed.size := by omega
   by_cases e : i1 = r
   ·subst e; simp [hlt] at hf1
   ·rw [Array.getElem?_setIfInBounds_ne (Ne.symm e)] at hf1
    have := hl i1 hi1 e
    unfold lsT at this
    rw [this] at hf1; cases hf1
  ·rcases Nat.eq_zero_or_pos (unl (fun i => (listed.setIfInBounds r true)[i]?.getD false) ops.size) with h1 | h1
   ·exact h1
   ·obtain ⟨i1, hi1, hf1, _⟩ := exists_least (f := fun i => (listed.setIfInBounds r true)[i]?.getD false) (Nat.pos_iff_ne_zero.1 h1)
    exact absurd ⟨i1, hi1, hf1, trivial⟩ h
 by_cases hrl : r < ops.size
 ·have hlt' : r < listed.size := by omega
  have hset := lsd_set (listed := listed) hlt'
  have hnl : listed[r]?.getD false = false := by
   cases e : listed[r]?.getD false with
   | false => rfl
   | true => exact absurd e hnr
  have := (unl_set (f := fun j => listed[j]?.getD false) (f' := fun j => (listed.setIfInBounds r true)[j]?.getD false) (i := r) hnl (by simp [hset]) (fun j hj => by simp [hset, hj]) (m := ops.size)).1 hrl
  have hf : fuel = 0 := by omega
  subst hf
  rfl
 ·exfalso
  have : unl (fun i => listed[i]?.getD false) ops.size = 0 := by
   rcases Nat.eq_zero_or_pos (unl (fun i => listed[i]?.getD false) ops.size) with h1 | h1
   ·exact h1
   ·obtain ⟨i1, hi1, hf1, _⟩ := exists_least (f := fun i => listed[i]?.getD false) (Nat.pos_iff_ne_zero.1 h1)
    have h2 := hl i1 hi1 (by omega)
    unfold lsT at h2
    rw [h2] at hf1; cases hf1
  omega
theorem Stood.listed {r : Nat} {e : Nat → Value} {rest : List Nat} (h : Stood ops e0 D S r e rest) (ha : ((List.range ops.size).all fun i => i == r || reach ops 8 r i) = true) : ∃ L : Nat → Prop, EnvSt ops e0 D S L e ∧ ¬ L r ∧ ∀ i, i < ops.size → i ≠ r → L i := by
 obtain ⟨md, fuel, t, listed, hsz, hu, st, hnr, hrd, rfl⟩ := h
 refine ⟨_, st, hnr, fun i hi hne => ?_⟩
 have := List.all_eq_true.1 ha i (List.mem_range.2 hi)
 have h1 : reach ops 8 r i = true := by simpa [hne] using this
 rcases reach_succ (f := 7) h1 with h2 | ⟨m, hm, h2⟩
 ·exact absurd h2.symm hne
 ·exact reach_closed st.cl 7 m i h2 (hrd m hm)
theorem lkA_no : ∀ {S : List SE} {s : Nat}, (∀ x ∈ S, x.t ≠ s) → lkA S s = none
 | [], _, _ => rfl
 | x :: S, s, h => by
  unfold lkA
  rw [if_neg (h x (List.mem_cons_self ..))]
  exact lkA_no fun y hy => h y (List.mem_cons_of_mem _ hy)
theorem lkA_yes : ∀ {S : List SE} {s : Nat} {v : Value}, (∃ x ∈ S, x.t = s) → (∀ x ∈ S, x.t = s → x.v = v) → lkA S s = some v
 | [], _, _, h, _ => by obtain ⟨x, hx, _⟩ := h; cases hx
 | x :: S, s, v, h, hv => by
  unfold lkA
  by_cases e : x.t = s
  ·rw [if_pos e, hv x (List.mem_cons_self ..) e]
  ·rw [if_neg e]
   refine lkA_yes ?_ fun y hy => hv y (List.mem_cons_of_mem _ hy)
   obtain ⟨y, hy, ey⟩ := h
   rcases List.mem_cons.1 hy with rfl | hy
   ·exact absurd ey e
   ·exact ⟨y, hy, ey⟩
theorem Stood.full {r : Nat} {e : Nat → Value} {rest : List Nat} (rg : RegOk ops D T is) (hr : r ∈ T) (hT : T = [r]) (all : ∀ i ∈ is, ∃ x ∈ S, x.i = i) (sub : ∀ x ∈ S, x.i ∈ is) (uq : ∀ x ∈ S, ∀ y ∈ S, x.i = y.i → x = y) (lk : ∀ x ∈ S, dstOf ops x.i = some x.t)
  (h : Stood ops e0 D S r e rest) (ha : ((List.range ops.size).all fun i => i == r || reach ops 8 r i) = true) : e = putsS e0 S := by
 obtain ⟨L, st, hnr, hl⟩ := h.listed ha
 have hlt : ∀ x ∈ S, x.i < ops.size ∧ x.i ≠ r := fun x hx => ⟨(rg.isT x.i (sub x hx)).2, fun z => (rg.isT x.i (sub x hx)).1 (by rw [z]; exact hr)⟩
 have h0 : ∀ s, (∀ x ∈ S, x.t ≠ s) → e s = e0 s := fun s hs => by
  cases hd : lkD D s with
  | none => exact st.v2 s hd
  | some w =>
   refine st.v3 s w hd fun hw => ?_
   have hds := rg.d1 s w hd
   rcases rg.cov w (dstOf_lt hds) with h1 | h1
   ·obtain ⟨x, hx, rfl⟩ := all w h1
    have := lk x hx
    rw [hds] at this
    exact hs x hx (Option.some.inj this).symm
   ·rw [hT] at h1
    obtain rfl := List.mem_singleton.1 h1
    exact hnr hw
 funext s
 unfold putsS
 by_cases hs : ∃ x ∈ S, x.t = s
 ·obtain ⟨x, hx, rfl⟩ := hs
  rw [lkA_yes (v := x.v) ⟨x, hx, rfl⟩ fun y hy ey => by
   have := uq y hy x hx (dst_inj rg (lk y hy) (ey ▸ lk x hx))
   rw [this]]
  exact st.v1 x hx (hl x.i (hlt x hx).1 (hlt x hx).2)
 ·have hs' : ∀ x ∈ S, x.t ≠ s := fun x hx z => hs ⟨x, hx, z⟩
  rw [lkA_no hs']
  exact h0 s hs'
theorem way_drawn1 {q : Nat} {c : Code} (D : List (Nat × Nat)) (is : List Nat) (r : Nat) (S : List SE) (sw : SilW P main s fn kd n ds (cO c) k cs e0 D is S) (h : Way P main s q (gr fn kd n (putsS e0 S) ds (.inRegion (cO c) [r] :: k) cs))
  (ha : ((List.range (cO c).size).all fun i => i == r || reach (cO c) 8 r i) = true := by decide +kernel) (hc : ck c = .draw := by rfl) (hg : regOk (cO c) D [r] is = true := by decide +kernel) (h40 : Nat.ble (cO c).size 39 = true := by rfl) : Way P main s (q + 40) (gr fn kd n e0 ds (.code c :: k) cs) := by
 have h40 := Nat.le_of_ble_eq_true h40
 refine Way.mono (n := (cO c).size + q + 1) ?_ (by omega)
 refine way_drawnM D is [r] r S sw q (fun e rest hst => ?_) (List.mem_singleton.2 rfl) (by simp) hc hg
 rw [hst.rest ha, hst.full (T := [r]) (regOk_of hg) (List.mem_singleton.2 rfl) rfl sw.all sw.sub sw.uq sw.lk ha]
 exact h
end
section
variable {R : Nat → Goroutine → Array Obj → Prop} {d : Nat} {fn : FuncId} {kd : Kd} {n : Nat} {ds : List Deferred} {ops : Array Oper} {k : List Item} {cs : List Frame} {e0 : Nat → Value} {D : List (Nat × Nat)} {W As : List HP} {T is : List Nat} {a : Nat} {S : List SE}
end
end Go.Sl
end
section
set_option linter.unusedVariables false
namespace Go.Sl
open Go.Conc
theorem okS_ev0 {P : Program} {B : Bad} {α : Type} {s : Sem α} {v : α} {H : Array Obj} {d : Nat} {Q : α → Array Obj → Nat → Prop} (h : ev0 P s = some v) (q : Q v H d) : okS P B s H d Q := by
 induction s with
 | pure a => obtain rfl := Option.some.inj h; exact q
 | program k ih => exact ih P h
 | _ => cases h
section
variable {P : Program} {main : Bool} {B : Bad} {R : Nat → Goroutine → Array Obj → Prop} {d : Nat} {As As' F : List HP}
variable {fn : FuncId} {kd : Kd} {n : Nat} {e : Nat → Value} {ds : List Deferred} {k : List Item} {cs : List Frame}
variable {ops : Array Oper} {i : Nat} {rest : List Nat} {dst : Option Nat} {t : Nat} {ty : TypeId} {pos : String} {af : Array Edge} {gd : Option (Nat × Bool)} {x y z : Operand} {v : Value}
theorem Closed.v0 (C : Closed P main B R) {op : Op} (ho : nthO ops i = some ⟨some t, op, ty, pos, af, gd⟩) (h : At R d As (gr fn kd n (put e t v) ds (.inRegion ops rest :: k) cs)) (hv : ev0 P (execOp (ev n e) ⟨some t, op, ty, pos, af, gd⟩) = some (.value v)) (hw : wantB ops n e gd = true := by rfl) :
  At R d As (gr fn kd n e ds (.inRegion ops (i :: rest) :: k) cs) :=
 C.gen ho hw fun H s => okS_ev0 hv ⟨As, s, h⟩
theorem Closed.en (C : Closed P main B R) {o : Oper} {f : FuncId} {args : Array Value} {A : List HP} {Q : Value → List HP → Prop} (hs : Spec P main B f args A Q) (he : ev0 P (execOp (ev n e) o) = some (.enter f args))
  (h : ∀ v As', Q v As' → At R d (As' ++ F) (gr fn kd n (putO e o.dst v) ds (.inRegion ops rest :: k) cs)) (ho : nthO ops i = some o := by rfl)
  (hr : ReF A As F := by repeat (first | with_reducible exact ReF.nil | with_reducible exact Fo.head | with_reducible apply Fo.tail | with_reducible apply ReF.cons)) (hw : wantB ops n e o.guard = true := by rfl) : At R d As (gr fn kd n e ds (.inRegion ops (i :: rest) :: k) cs) := by
 refine At.perm hr.perm (C.gen ho hw fun H s => okS_ev0 he ⟨A ++ F, s, ?_⟩)
 exact hs R C .nor d F _ cs trivial fun v As' q => by
  show At R d (As' ++ F) (backTo _ cs v)
  rw [finish_gr ho]
  exact h v As' q
theorem Closed.x0 (C : Closed P main B R) {f : FuncId} {fu : Func} {ex : Array Value → Sem Value} [b : Ext_ P f fu ex] {fo : Operand} {args : Array Operand} {ats : Array TypeId} {vl : List Value} (hx : ev0 P (ex vl.toArray) = some v)
  (ho : nthO ops i = some ⟨dst, .call ⟨.value fo, args, ats⟩, ty, pos, af, gd⟩) (h : At R d As (gr fn kd n (putO e dst v) ds (.inRegion ops rest :: k) cs)) (hf : ev n e fo = .func (.func f) #[] #[] := by rfl) (hv : args.toList.map (ev n e) = vl := by rfl) (hw : wantB ops n e gd = true := by rfl) :
  At R d As (gr fn kd n e ds (.inRegion ops (i :: rest) :: k) cs) :=
 C.xt (vl := vl) (fun H s => okS_ev0 hx ⟨As, s, h⟩) ho hw hf hv
theorem okS_mc {tt el : TypeId} {dir : ChanDir} {inf : TypeInfo} (hu : P.underlying tt = some (.chan dir el)) (hi : P.info? el = some inf) {H : Array Obj} {Q : Next → Array Obj → Nat → Prop} (q : Q (.value (.chan (some H.size))) (H.push (.chan 0 #[] false 0 0 false)) d)
  (hx : ev n e x = .int .i64 0) {o : Oper} (hop : o.op = .makeChan tt x) : okS P B (execOp (ev n e) o) H d Q := by
 unfold execOp
 simp only [hop, hx]
 refine okS_do ?_
 unfold Instr.makeChan
 refine okS_do (okS_ev0 (v := (0 : Int)) rfl ?_)
 refine okS_do (okS_ev0 (ev0_und hu) ?_)
 refine okS_do ?_
 simp only [Int.lt_irrefl, false_or]
 refine okS_ev0 (ev0_info hi) ?_
 have h1 : ¬ ((0 : Int) > IntKind.i64.max) := by decide
 have h2 : ¬ ((inf.bytes : Int) * 0 > 2 ^ 48 - 112) := by simp
 simp only [h1, h2, or_self, if_false]
 show okS P B (newObj (.chan 0 #[] false 0 0 false) >>= fun r => _) H d _
 exact q
theorem Closed.dfx (C : Closed P main B R) {f : FuncId} {fu : Func} {ex : Array Value → Sem Value} [b : Ext_ P f fu ex] {cap args' : Array Value} {ds' : List Deferred} {todo : List Item} {kd : Kd}
  (h : ∀ H, Sat As (hp H) → okS P B (ex (args' ++ cap)) H d fun v H' d' => ∃ As', Sat As' (hp H') ∧ At R d' As' (grR fn kd n e ds' todo cs)) : At R d As (grR fn kd n e (⟨.fn (.func f) cap, args'⟩ :: ds') todo cs) := fun H s => by
 refine C.step d _ H rfl fun w hw' => ?_
 have h0 : okS P B (invoke (.fn (.func f) cap) args') H d fun y H' d' => ∃ v, y = .value v ∧ R d' (grR fn kd n e ds' todo cs) H' := by
  unfold invoke callFunc
  refine okS_do ?_
  show okS P B _ H d _
  simp only [program, okS]
  rw [b.func]
  simp only [b.name, b.body, if_true, Bool.false_eq_true, if_false]
  refine okS_do ?_
  simp only [mark, okS, markOk, deafBy, true_and]
  simp only [b.nx, b.fd]
  refine okS_do (okS_mono (fun v H' d' q => ?_) (h H s))
  obtain ⟨As', s', q⟩ := q
  exact okS_pure ⟨v, rfl, q H' s'⟩
 obtain ⟨y, w', es, d', r1, r2, r3, r4, r5, r6, v, rfl, r7⟩ := okS_sound (w := w) #[] hw' h0
 obtain ⟨s1, s2⟩ := seen_EvOk (P := P) (d := d) (fn := fn) r5
 rw [r6] at s2
 refine ⟨_, w', seen P fn es, ?_, r2, r3, r4, s1, by rw [s2]; exact r7⟩
 simp only [Array.append_empty, Array.empty_append] at r1
 simp only [grR, frmR, frm, stepG, unwind, callDeferred, r1]
 simp [GStep.after, Kd.k]
end
section
variable {P : Program} {Post : Value → World → Prop} {X : Bar} {σ : Gh} {os : Os} {out : Array (Nat × ByteArray)} {d : Nat} {As F : List HP}
variable {fn : FuncId} {kd : Kd} {n : Nat} {e : Nat → Value} {ds : List Deferred} {k : List Item} {cs : List Frame}
variable {ops : Array Oper} {i : Nat} {rest : List Nat} {t : Nat} {ty : TypeId} {pos : String} {af : Array Edge} {gd : Option (Nat × Bool)} {x : Operand}
theorem RunR.mc {tt el : TypeId} {dir : ChanDir} {inf : TypeInfo} (hu : P.underlying tt = some (.chan dir el)) (hi : P.info? el = some inf) (ho : nthO ops i = some ⟨some t, .makeChan tt x, ty, pos, af, gd⟩)
  (h : ∀ b, (∀ i s, σ.seats i = some s → ¬ s.has b) → At (RunR P Post X σ 0 os out) d (pts b (.chan 0 #[] false 0 0 false) :: As) (gr fn kd n (put e t (.chan (some b))) ds (.inRegion ops rest :: k) cs))
  (hx : ev n e x = .int .i64 0 := by rfl) (hw : wantB ops n e gd = true := by rfl) : At (RunR P Post X σ 0 os out) d As (gr fn kd n e ds (.inRegion ops (i :: rest) :: k) cs) := fun H st hole go w hwp ho' hu' => by
 have C : Closed P true (X.bw σ) (RunR P Post X σ 0 os out) := RunR.closed0
 refine C.op (H := H) (d := d) (fn := fn) (kd := kd) (n := n) (e := e) (ds := ds) (k := k) (cs := cs) (ops := ops) (i := i) (rest := rest) (by rw [nthO_eq]; exact ho) (by rw [wanted_eq]; exact hw) ?_ hole go w hwp ho' hu'
 refine okS_mc hu hi ?_ hx rfl
 refine h _ (fun i' s' e' hc => ?_) _ (st.push _)
 have := go.cl i' s' _ e' hc
 omega
theorem RunR.dfr {f : FuncId} {cap args' : Array Value} {ds' : List Deferred} {todo : List Item} {kd : Kd} {A : List HP} {Q : Value → Gh → List HP → Prop} {fu : Func} {cc : Code} {nf : Nat} [b : Body P f fu cc nf] (hs : SpecG P X f (args' ++ cap) σ A Q)
  (h : ∀ v σ' As', Q v σ' As' → At (RunR P Post X σ' 0 os out) 0 (As' ++ F) (grR fn kd n e ds' todo cs)) (hr : ReF A As F := by repeat (first | with_reducible exact ReF.nil | with_reducible exact Fo.head | with_reducible apply Fo.tail | with_reducible apply ReF.cons)) : At (RunR P Post X σ 0 os out) 0 As (grR fn kd n e (⟨.fn (.func f) cap, args'⟩ :: ds') todo cs) := by
 refine At.perm hr.perm ?_
 have C : Closed P true (X.bw σ) (RunR P Post X σ 0 os out) := RunR.closed0
 intro H st
 refine C.defCall (f := f) (args := args') (.inr ⟨cap, rfl⟩) ?_
 refine callFunc_pu (P := P) (f := f) (args' ++ cap) _ H 0 _ ?_
 refine ⟨f, _, rfl, ?_⟩
 exact hs Post os out .dfr F (frmR fn kd n e ds' todo) cs rfl (fun v σ' As' q => h v σ' As' q) H st
end
end Go.Sl
end
section
set_option linter.unusedVariables false
namespace Go.Sl
open Go.Proofs
def i32C (n : Int) : List Value := [.int .i32 n]
instance : RowF i32C 1 := ⟨fun _ => rfl, fun a v h => by simp [i32C] at h; subst h; rfl⟩
def opPC (o : OpR) : List Value := [.bool o.w, .int .u8 o.k, .int .i32 o.v]
instance : RowF opPC 3 := ⟨fun _ => rfl, fun a v h => by simp [opPC] at h; rcases h with h | h | h <;> subst h <;> rfl⟩
structure MsgJ (I : HL) (m : MsgV) : Prop where
 o : imSl I opPC 67 m.so m.ops
 r : imSl I i32C 21 m.sr m.reads
 z : m.reads.length < 2 ^ 20
inductive EntV where
 | prep (tx home : Int) (ops : List OpR) (so : SliceV)
 | dec (tx : Int) (yes : Bool) (reads : List Int) (sr : SliceV)
 | don (tx : Int) (yes : Bool)
def EntV.abs : EntV → EntP
 | .prep tx home ops _ => .prep tx home ops
 | .dec tx yes reads _ => .dec tx yes reads
 | .don tx yes => .don tx yes
def EntV.tid : EntV → TypeId
 | .prep .. => 274
 | .dec .. => 277
 | .don .. => 281
def EntV.pay : EntV → Value
 | .prep tx home _ so => .agg #[.int .i64 tx, .int .i64 home, so.v]
 | .dec tx yes _ sr => .agg #[.int .i64 tx, .bool yes, sr.v]
 | .don tx yes => .agg #[.int .i64 tx, .bool yes]
def EntV.val (e : EntV) : Value := .iface e.tid e.pay
def entC (e : EntV) : List Value := [e.val]
instance : RowF entC 1 := ⟨fun _ => rfl, fun a v h => by simp [entC] at h; subst h; cases a <;> rfl⟩
def EntV.J (I : HL) : EntV → Prop
 | .prep _ _ ops so => imSl I opPC 67 so ops ∧ ops.length < 2 ^ 20
 | .dec _ _ reads sr => imSl I i32C 21 sr reads ∧ reads.length < 2 ^ 20
 | .don _ _ => True
structure PndV where
 pl : Int
 home : Int
 ops : List OpR
 so : SliceV
def PndV.abs (p : PndV) : PendP := ⟨p.pl, p.home, p.ops⟩
def pndC (p : PndV) : Value := .agg #[.int .i64 p.pl, .int .i64 p.home, p.so.v]
def plcC (p : PlaceP) : Value := .agg #[.int .i64 p.pl, .bool p.yes]
def int32V (n : Int) : Value := .int .i32 n
def int64V (n : Int) : Value := .int .i64 n
def votG (v : List Int × SliceV) : Value := v.2.v
abbrev ptrV (b : Nat) : Value := .pointer (some ⟨b, 0, none⟩)
structure UnpV where
 b : Nat
 ops : List OpR
 so : SliceV
 votes : List (Int × (List Int × SliceV))
 mv : Nat
 acks : List (Int × Int)
 ma : Nat
 dec : Bool
 yes : Bool
def UnpV.abs (u : UnpV) : UndP := ⟨u.ops, u.votes.map fun p => (p.1, p.2.1), u.acks, u.dec, u.yes⟩
abbrev unpO (u : UnpV) (F : List HP) : List HP := pts u.b (.cells #[u.so.v, .map (some u.mv), .map (some u.ma), .bool u.dec, .bool u.yes] 299 (0, 0)) :: mapP .i64 votG u.mv u.votes :: mapP .i64 int64V u.ma u.acks :: F
def unpP (u : UnpV) : HP := all (unpO u [])
structure UnpJ (I : HL) (u : UnpV) : Prop where
 o : imSl I opPC 67 u.so u.ops
 r : ∀ v ∈ u.votes, imSl I i32C 21 v.2.2 v.2.1
 z : ∀ v ∈ u.votes, v.2.1.length < 2 ^ 20
def alC (a : AlV) : List Value := [.int .i64 a.tm, .int .i64 a.ord, .int .i64 a.tx, .bool a.again]
structure ShX where
 me : Int
 n : Int
 up : Bool
 log : List EntV
 good : Int
 values : List (Int × Int)
 locks : List (Int × Int)
 pend : List (Int × PndV)
 done : List (Int × PlaceP)
 decd : List (Int × PlaceP)
 und : List (Int × UnpV)
 timers : List AlV
 order : Int
 clock : Int
 waits : List MsgV
 out : List MsgV
def ShX.abs (s : ShX) : ShP := ⟨s.me, s.n, s.up, s.log.map (·.abs), s.good, s.values, s.locks, s.pend.map fun p => (p.1, p.2.abs), s.done, s.decd, s.und.map fun p => (p.1, p.2.abs), s.timers.map (·.tim), s.clock, s.waits.map (·.toMsgR), s.out.map (·.toMsgR)⟩
def undG (u : UnpV) : Value := ptrV u.b
abbrev unpE (p : Int × UnpV) : HP := unpP p.2
abbrev sxO (b : Nat) (s : ShX) (lg wt ot tm : SliceV) (bv bl bp bd be bu : Nat) (tl : List AlV) (F : List HP) : List HP :=
 pts b (.cells #[.int .i64 s.me, .int .i64 s.n, .bool s.up, lg.v, .int .i64 s.good, .map (some bv), .map (some bl), .map (some bp), .map (some bd), .map (some be), .map (some bu), tm.v, .int .i64 s.order, .int .i64 s.clock, wt.v, ot.v] 180 (0, 0)) ::
  slP entC 1 272 lg s.log :: mapP .u8 int32V bv s.values :: mapP .u8 int64V bl s.locks :: mapP .i64 pndC bp s.pend :: mapP .i64 plcC bd s.done :: mapP .i64 plcC be s.decd :: mapP .i64 undG bu s.und :: all (s.und.map unpE) ::
  slP alC 4 263 tm tl :: slP msgC 7 190 wt s.waits :: slP msgC 7 190 ot s.out :: F
def sxP (b : Nat) (s : ShX) : HP := fun h => ∃ lg wt ot tm : SliceV, ∃ bv bl bp bd be bu : Nat, ∃ tl : List AlV, TimJ s.timers s.order tl ∧ all (sxO b s lg wt ot tm bv bl bp bd be bu tl []) h
structure ShJ (I : HL) (s : ShX) : Prop where
 log : ∀ r ∈ s.log, r.J I
 pend : ∀ p ∈ s.pend, imSl I opPC 67 p.2.so p.2.ops
 und : ∀ u ∈ s.und, UnpJ I u.2
 waits : ∀ m ∈ s.waits, MsgJ I m
 out : ∀ m ∈ s.out, MsgJ I m
theorem MsgJ.mono {I I' : HL} {m : MsgV} (hs : Sub I I') (h : MsgJ I m) : MsgJ I' m := ⟨h.o.mono hs, h.r.mono hs, h.z⟩
theorem EntV.J.mono {I I' : HL} {m : EntV} (hs : Sub I I') (h : m.J I) : m.J I' := by
 cases m with
 | prep tx home ops so => exact ⟨imSl.mono h.1 hs, h.2⟩
 | dec tx yes reads sr => exact ⟨imSl.mono h.1 hs, h.2⟩
 | don tx yes => trivial
theorem UnpJ.mono {I I' : HL} {u : UnpV} (hs : Sub I I') (h : UnpJ I u) : UnpJ I' u := ⟨h.o.mono hs, fun v hv => (h.r v hv).mono hs, h.z⟩
theorem ShJ.mono {I I' : HL} {s : ShX} (hs : Sub I I') (h : ShJ I s) : ShJ I' s := ⟨fun r hr => (h.log r hr).mono hs, fun r hr => (h.pend r hr).mono hs, fun u hu => (h.und u hu).mono hs, fun r hr => (h.waits r hr).mono hs, fun r hr => (h.out r hr).mono hs⟩
section
variable {R : Nat → Goroutine → Array Obj → Prop} {d : Nat} {As F L : List HP} {g : Goroutine} {b : Nat} {s : ShX}
theorem sxP.opn (hf : Fo (sxP b s) As L := by repeat (first | with_reducible exact Fo.head | with_reducible apply Fo.tail)) (h : ∀ (lg wt ot tm : SliceV) (bv bl bp bd be bu : Nat) (tl : List AlV), TimJ s.timers s.order tl → At R d (sxO b s lg wt ot tm bv bl bp bd be bu tl L) g) : At R d As g := by
 refine At.fo hf fun H st => ?_
 obtain ⟨lg, st⟩ := st.ex
 obtain ⟨wt, st⟩ := st.ex
 obtain ⟨ot, st⟩ := st.ex
 obtain ⟨tm, st⟩ := st.ex
 obtain ⟨bv, st⟩ := st.ex
 obtain ⟨bl, st⟩ := st.ex
 obtain ⟨bp, st⟩ := st.ex
 obtain ⟨bd, st⟩ := st.ex
 obtain ⟨be, st⟩ := st.ex
 obtain ⟨bu, st⟩ := st.ex
 obtain ⟨tl, st⟩ := st.ex
 obtain ⟨ht, st⟩ := st.pure
 exact h lg wt ot tm bv bl bp bd be bu tl ht H st.flat
theorem sxP.cls {c : Array Value} (s : ShX) (h : At R d (sxP b s :: F) g) {lg wt ot tm : SliceV} {bv bl bp bd be bu : Nat} {tl : List AlV} (ht : TimJ s.timers s.order tl := by assumption) (hf : Fo (pts b (.cells c 180 (0, 0))) As L := by repeat (first | with_reducible exact Fo.head | with_reducible apply Fo.tail))
  (hc : c = #[.int .i64 s.me, .int .i64 s.n, .bool s.up, lg.v, .int .i64 s.good, .map (some bv), .map (some bl), .map (some bp), .map (some bd), .map (some be), .map (some bu), tm.v, .int .i64 s.order, .int .i64 s.clock, wt.v, ot.v] := by rfl)
  (hr : ReF [slP entC 1 272 lg s.log, mapP .u8 int32V bv s.values, mapP .u8 int64V bl s.locks, mapP .i64 pndC bp s.pend, mapP .i64 plcC bd s.done, mapP .i64 plcC be s.decd, mapP .i64 undG bu s.und, all (s.und.map unpE),
   slP alC 4 263 tm tl, slP msgC 7 190 wt s.waits, slP msgC 7 190 ot s.out] L F := by repeat (first | with_reducible exact ReF.nil | with_reducible exact Fo.head | with_reducible apply Fo.tail | with_reducible apply ReF.cons)) : At R d As g := by
 subst hc
 refine At.perm (hf.perm.trans (hr.perm.cons _)) fun H st => h H ?_
 exact Sat.imp (fun hh x => ⟨lg, wt, ot, tm, bv, bl, bp, bd, be, bu, tl, ht, x⟩) (Sat.unflat (l := sxO b s lg wt ot tm bv bl bp bd be bu tl []) st)
end
end Go.Sl
end
section
set_option linter.unusedVariables false
namespace Go.Sl
open Go.Conc
section
variable {P : Program} {main : Bool} {B : Bad} {R : Nat → Goroutine → Array Obj → Prop} {d : Nat} {As As' F : List HP}
variable {fn : FuncId} {kd : Kd} {n : Nat} {e : Nat → Value} {ds : List Deferred} {k : List Item} {cs : List Frame}
variable {ops : Array Oper} {i : Nat} {rest : List Nat} {dst : Option Nat} {t : Nat} {ty : TypeId} {pos : String} {af : Array Edge} {gd : Option (Nat × Bool)} {x y z : Operand} {v : Value}
theorem okS_frz {H : Array Obj} {b o : Nat} {c : Array Value} {el : TypeId} {Q : Bool → Array Obj → Nat → Prop} (h1 : hp H b = some (.cells c el (0, 0))) (q : Q false H d) : okS P B (frozen ⟨b, o, none⟩) H d Q := by
 have h1' : H[b]? = some (.cells c el (0, 0)) := h1
 simp only [frozen, okS, frozenH, h1']
 simpa using q
theorem okS_strg {H : Array Obj} {b o : Nat} {c : Array Value} {el : TypeId} {Q : Bool → Array Obj → Nat → Prop} (h1 : hp H b = some (.cells c el (0, 0))) (q : Q false H d) : okS P B (stringish ⟨b, o, none⟩) H d Q := by
 unfold stringish
 refine okS_do (okS_frz h1 ?_)
 simp only [Bool.false_eq_true, if_false]
 refine okS_do ?_
 have h1' : H[b]? = some (.cells c el (0, 0)) := h1
 simp only [shape, okS, shapeH, h1']
 exact okS_frz h1 q
theorem okS_same {H : Array Obj} {b1 o1 b2 o2 : Nat} {c1 c2 : Array Value} {e1 e2 : TypeId} {Q : Bool → Array Obj → Nat → Prop} (h1 : hp H b1 = some (.cells c1 e1 (0, 0))) (h2 : hp H b2 = some (.cells c2 e2 (0, 0)))
  (q : Q (decide (b1 = b2 ∧ o1 = o2)) H d) : okS P B (sameAddr ⟨b1, o1, none⟩ ⟨b2, o2, none⟩) H d Q := by
 unfold sameAddr
 by_cases hb : b1 = b2
 ·subst hb
  simp only [beq_self_eq_true, if_true]
  refine okS_do (okS_pure ?_)
  have : ((⟨b1, o1, none⟩ : Addr) == ⟨b1, o2, none⟩) = decide (b1 = b1 ∧ o1 = o2) := by
   rw [Bool.eq_iff_iff]; simp
  first | exact okS_pure (by rw [this]; exact q) | (simp only [this]; exact q)
 ·have hbb : (b1 == b2) = false := by simpa using hb
  simp only [hbb, Bool.false_eq_true, if_false]
  refine okS_do (okS_frz h1 ?_)
  refine okS_do (okS_frz h2 ?_)
  simp only [Bool.and_self, Bool.false_eq_true, if_false]
  refine okS_do (okS_do ?_)
  refine okS_viewAt h1 ?_
  refine okS_pure ?_
  refine okS_do (okS_do ?_)
  refine okS_viewAt h2 ?_
  refine okS_pure ?_
  refine okS_do ?_
  unfold mayBeOne
  refine okS_do (okS_strg h1 ?_)
  refine okS_do (okS_strg h2 ?_)
  refine okS_do (okS_do ?_)
  have h1' : H[b1]? = some (.cells c1 e1 (0, 0)) := h1
  have h2' : H[b2]? = some (.cells c2 e2 (0, 0)) := h2
  simp only [shape, okS, shapeH, h1']
  refine okS_pure ?_
  refine okS_do (okS_do ?_)
  simp only [shape, okS, shapeH, h2']
  refine okS_pure ?_
  simp only [Bool.false_and, Bool.or_self]
  refine okS_pure ?_
  have : decide (b1 = b2 ∧ o1 = o2) = false := by simp [hb]
  rw [this] at q
  exact q
theorem okS_eqI {H : Array Obj} {b1 o1 b2 o2 : Nat} {c1 c2 : Array Value} {e1 e2 tt tx tp : TypeId} {sz : Nat} {ms : Array (String × TypeId)} {inf : TypeInfo} {Q : Bool → Array Obj → Nat → Prop} (hu : P.underlying tt = some (.interface ms)) (hi : P.info? tx = some inf) (hc : inf.comparable = true) [c : Pt P tx tp] [cz : Cz P tp sz] (hz : sz ≠ 0)
  (h1 : hp H b1 = some (.cells c1 e1 (0, 0))) (h2 : hp H b2 = some (.cells c2 e2 (0, 0))) (q : Q (decide (b1 = b2 ∧ o1 = o2)) H d) : okS P B (Op.equal tt (.iface tx (.pointer (some ⟨b1, o1, none⟩))) (.iface tx (.pointer (some ⟨b2, o2, none⟩)))) H d Q := by
 unfold Op.equal
 show okS P B (Op.equalIn (9998 + 1 + 1) _ _ _) H d Q
 unfold Op.equalIn
 refine okS_do (okS_ev0 (ev0_und hu) ?_)
 simp only [ne_eq, not_true_eq_false, if_false]
 refine okS_do (okS_ev0 (ev0_info hi) ?_)
 simp only [hc, Bool.not_true, Bool.false_eq_true, if_false]
 unfold Op.equalIn
 refine okS_do (okS_ev0 (ev0_und c.h) ?_)
 simp only
 refine okS_do (pu_size B H d _ ?_)
 simp only [ne_eq, hz, not_false_eq_true, if_true]
 exact okS_same h1 h2 q
theorem okS_eqN {H : Array Obj} {tt tx ty : TypeId} {u w : Value} {ms : Array (String × TypeId)} {Q : Bool → Array Obj → Nat → Prop} (hu : P.underlying tt = some (.interface ms)) (hne : tx ≠ ty) (q : Q false H d) : okS P B (Op.equal tt (.iface tx u) (.iface ty w)) H d Q := by
 unfold Op.equal
 show okS P B (Op.equalIn (9998 + 1 + 1) _ _ _) H d Q
 unfold Op.equalIn
 refine okS_do (okS_ev0 (ev0_und hu) ?_)
 simp only [ne_eq, hne, not_false_eq_true, if_true]
 exact okS_pure q
def isEq : BinOp → Option Bool
 | .eql => some true
 | .neq => some false
 | _ => none
theorem okS_bin {H : Array Obj} {op : BinOp} {r : Bool} {tt tx ty : TypeId} {u w : Value} {Q : Value → Array Obj → Nat → Prop} (hop : isEq op = some r) (h : okS P B (Op.equal tt (.iface tx u) (.iface ty w)) H d fun z H' d' => Q (.bool (z == r)) H' d') : okS P B (do eqGuard op tt x y (.iface tx u) (.iface ty w); binOp op tt (.iface tx u) (.iface ty w)) H d Q := by
 cases op <;> first | (cases hop; done) | skip
 ·obtain rfl := Option.some.inj hop
  refine okS_do (okS_ev0 (v := ()) ?_ ?_)
  ·unfold eqGuard; rfl
  ·show okS P B (Op.equal _ _ _ >>= fun z => pure (.bool z)) H d Q
   refine okS_do (okS_mono (fun z H' d' hz => ?_) h)
   refine okS_pure (?_)
   simpa using hz
 ·obtain rfl := Option.some.inj hop
  refine okS_do (okS_ev0 (v := ()) ?_ ?_)
  ·unfold eqGuard; rfl
  ·show okS P B (Op.equal _ _ _ >>= fun z => pure (.bool (!z))) H d Q
   refine okS_do (okS_mono (fun z H' d' hz => ?_) h)
   refine okS_pure (?_)
   simpa using hz
theorem Closed.eqP (C : Closed P main B R) {op : BinOp} {r : Bool} {b1 o1 b2 o2 : Nat} {c1 c2 : Array Value} {e1 e2 tt t2 tx tp : TypeId} {sz : Nat} {ms : Array (String × TypeId)} {inf : TypeInfo} (hu : P.underlying tt = some (.interface ms)) (hi : P.info? tx = some inf) (hc : inf.comparable = true) [c : Pt P tx tp] [cz : Cz P tp sz]
  (ho : nthO ops i = some ⟨some t, .binOp op tt x y t2, ty, pos, af, gd⟩) (h : At R d As (gr fn kd n (put e t (.bool (decide (b1 = b2 ∧ o1 = o2) == r))) ds (.inRegion ops rest :: k) cs)) (h1 : ∀ H, Sat As (hp H) → hp H b1 = some (.cells c1 e1 (0, 0))) (h2 : ∀ H, Sat As (hp H) → hp H b2 = some (.cells c2 e2 (0, 0)))
  (hop : isEq op = some r := by rfl) (hx : ev n e x = .iface tx (.pointer (some ⟨b1, o1, none⟩)) := by rfl) (hy : ev n e y = .iface tx (.pointer (some ⟨b2, o2, none⟩)) := by rfl) (hz : sz ≠ 0 := by decide) (hw : wantB ops n e gd = true := by rfl) : At R d As (gr fn kd n e ds (.inRegion ops (i :: rest) :: k) cs) :=
 C.gen ho hw fun H s => by
  unfold execOp; simp only [hx, hy]
  exact okS_do (okS_bin hop (okS_eqI hu hi hc hz (h1 H s) (h2 H s) ⟨As, s, h⟩))
theorem Closed.eqN (C : Closed P main B R) {op : BinOp} {r : Bool} {tt t2 tx ty' : TypeId} {u w : Value} {ms : Array (String × TypeId)} (hu : P.underlying tt = some (.interface ms)) (ho : nthO ops i = some ⟨some t, .binOp op tt x y t2, ty, pos, af, gd⟩) (h : At R d As (gr fn kd n (put e t (.bool (false == r))) ds (.inRegion ops rest :: k) cs))
  (hop : isEq op = some r := by rfl) (hx : ev n e x = .iface tx u := by rfl) (hy : ev n e y = .iface ty' w := by rfl) (hne : tx ≠ ty' := by decide) (hw : wantB ops n e gd = true := by rfl) : At R d As (gr fn kd n e ds (.inRegion ops (i :: rest) :: k) cs) :=
 C.gen ho hw fun H s => by
  unfold execOp; simp only [hx, hy]
  exact okS_do (okS_bin hop (okS_eqN hu hne ⟨As, s, h⟩))
theorem Closed.eqZ (C : Closed P main B R) {op : BinOp} {r : Bool} {tt t2 tx : TypeId} {u : Value} {ms : Array (String × TypeId)} (hu : P.underlying tt = some (.interface ms)) (ho : nthO ops i = some ⟨some t, .binOp op tt x y t2, ty, pos, af, gd⟩) (h : At R d As (gr fn kd n (put e t (.bool (false == r))) ds (.inRegion ops rest :: k) cs))
  (hop : isEq op = some r := by rfl) (hx : ev n e x = .iface tx u := by rfl) (hy : ev n e y = .nilIface := by rfl) (hw : wantB ops n e gd = true := by rfl) : At R d As (gr fn kd n e ds (.inRegion ops (i :: rest) :: k) cs) :=
 C.v0 ho h (by
  unfold execOp; simp only [hx, hy]
  refine ev0_do (a := .bool (false == r)) ?_ rfl
  have h0 : ev0 P (Op.equal tt (.iface tx u) .nilIface) = some false := by
   unfold Op.equal
   show ev0 P (Op.equalIn (9998 + 1 + 1) _ _ _) = _
   unfold Op.equalIn
   exact ev0_do (ev0_und hu) rfl
  cases op <;> first | (cases hop; done) | skip
  ·obtain rfl := Option.some.inj hop
   refine ev0_do (a := ()) (by unfold eqGuard; rfl) ?_
   exact ev0_do h0 rfl
  ·obtain rfl := Option.some.inj hop
   refine ev0_do (a := ()) (by unfold eqGuard; rfl) ?_
   exact ev0_do h0 rfl) hw
def isK : Operand → Bool
 | .const _ => true
 | _ => false
theorem Closed.eqZZ (C : Closed P main B R) {op : BinOp} {r : Bool} {tt t2 : TypeId} {ms : Array (String × TypeId)} (hu : P.underlying tt = some (.interface ms)) (ho : nthO ops i = some ⟨some t, .binOp op tt x y t2, ty, pos, af, gd⟩) (h : At R d As (gr fn kd n (put e t (.bool (true == r))) ds (.inRegion ops rest :: k) cs))
  (hl : (isK x || isK y) = true := by rfl) (hop : isEq op = some r := by rfl) (hx : ev n e x = .nilIface := by rfl) (hy : ev n e y = .nilIface := by rfl) (hw : wantB ops n e gd = true := by rfl) : At R d As (gr fn kd n e ds (.inRegion ops (i :: rest) :: k) cs) :=
 C.v0 ho h (by
  unfold execOp; simp only [hx, hy]
  refine ev0_do (a := .bool (true == r)) ?_ rfl
  have h0 : ev0 P (Op.equal tt .nilIface .nilIface) = some true := by
   unfold Op.equal
   show ev0 P (Op.equalIn (9998 + 1 + 1) _ _ _) = _
   unfold Op.equalIn
   exact ev0_do (ev0_und hu) rfl
  cases op <;> first | (cases hop; done) | skip
  ·obtain rfl := Option.some.inj hop
   refine ev0_do (a := ()) (by cases x <;> cases y <;> first | rfl | (cases hl; done)) ?_
   exact ev0_do h0 rfl
  ·obtain rfl := Option.some.inj hop
   refine ev0_do (a := ()) (by cases x <;> cases y <;> first | rfl | (cases hl; done)) ?_
   exact ev0_do h0 rfl) hw
theorem Closed.eqS (C : Closed P main B R) {op : BinOp} {r : Bool} {tt t2 el : TypeId} [cE : El P tt el] {a : Option Addr} {len cap : Nat} (ho : nthO ops i = some ⟨some t, .binOp op tt x y t2, ty, pos, af, gd⟩) (h : At R d As (gr fn kd n (put e t (.bool (a.isNone == r))) ds (.inRegion ops rest :: k) cs))
  (hop : isEq op = some r := by rfl) (hx : ev n e x = .slice a len cap := by rfl) (hy : ev n e y = .slice none 0 0 := by rfl) (hw : wantB ops n e gd = true := by rfl) : At R d As (gr fn kd n e ds (.inRegion ops (i :: rest) :: k) cs) :=
 C.v0 ho h (by
  unfold execOp; simp only [hx, hy]
  refine ev0_do (a := .bool (a.isNone == r)) ?_ rfl
  have h0 : ev0 P (Op.equal tt (.slice a len cap) (.slice none 0 0)) = some a.isNone := by
   unfold Op.equal
   show ev0 P (Op.equalIn (9998 + 1 + 1) _ _ _) = _
   unfold Op.equalIn
   refine ev0_do (ev0_und cE.h) ?_
   cases a <;> rfl
  cases op <;> first | (cases hop; done) | skip
  ·obtain rfl := Option.some.inj hop
   refine ev0_do (a := ()) (by unfold eqGuard; rfl) ?_
   refine ev0_do h0 ?_
   cases a <;> rfl
  ·obtain rfl := Option.some.inj hop
   refine ev0_do (a := ()) (by unfold eqGuard; rfl) ?_
   refine ev0_do h0 ?_
   cases a <;> rfl) hw
theorem Closed.bs0 (C : Closed P main B R) {α : Type} (f : α → List Value) {tt el z : Nat} [cE : El P tt el] [Cz P el z] (ho : nthO ops i = some ⟨some t, .buildSlice tt 0 #[], ty, pos, af, gd⟩)
  (h : ∀ b, At R d (slP f z el ⟨some ⟨b, 0, none⟩, 0, 0⟩ [] :: As) (gr fn kd n (put e t (SliceV.v ⟨some ⟨b, 0, none⟩, 0, 0⟩)) ds (.inRegion ops rest :: k) cs)) (hw : wantB ops n e gd = true := by rfl) : At R d As (gr fn kd n e ds (.inRegion ops (i :: rest) :: k) cs) :=
 C.gen ho hw fun H s => by
  unfold execOp; simp only [Instr.buildSlice]
  refine okS_do (okS_do (pu_und cE.h B H d _ ?_))
  refine okS_do (pu_size B H d _ ?_)
  simp only [Nat.zero_mul, if_true]
  rw [if_neg (by omega)]
  refine okS_do ?_
  refine okS_pure ?_
  have e2 : (Array.map (fun x : Nat × Operand => (x.fst, ev n e x.snd)) #[]).toList = [] := by simp
  rw [e2]
  show okS P B (newRow el _ >>= fun a => pure (Value.slice (some a) 0 0)) H d _
  refine okS_do ?_
  unfold newRow
  refine okS_do ?_
  show okS P B (.new _ _) H d _
  simp only [okS]
  show okS P B (pure _) _ d _
  refine okS_pure (okS_pure ⟨_, (s.push _).imp (fun hh x => ?_), h _⟩)
  refine .inr ⟨_, [], rfl, by simp, by simp, ?_⟩
  have e1 : Array.map (fun x => (#[] : Array Value)[x % (#[] : Array Value).size]!) (Array.range 0) = rowA f [] [] := by simp [rowA, flat]
  rw [← e1]; exact x
theorem Closed.ldG (C : Closed P main B R) {tt el b off : Nat} {c : Array Value} {fr : Nat × Nat} {I : HL} {L : List HP} [Ag P tt false] (hf : Fo (imm I) As L) (hI : I b = some (.cells c el fr)) (hs : B.sh el off = false) (ho : nthO ops i = some ⟨some t, .load tt x, ty, pos, af, gd⟩) (h : At R d As (gr fn kd n (put e t v) ds (.inRegion ops rest :: k) cs))
  (hx : ev n e x = .pointer (some ⟨b, off, none⟩) := by rfl) (hc : c[off]? = some v := by rfl) (hw : wantB ops n e gd = true := by rfl) : At R d As (gr fn kd n e ds (.inRegion ops (i :: rest) :: k) cs) :=
 C.gen ho hw fun H st => by
  have hg : hp H b = some (.cells c el fr) := (st.perm hf.perm).getI hI
  unfold execOp; simp only [hx, Instr.loadAt, Instr.sureAddr]
  exact okS_do (okS_do (okS_pure (okS_loadVar1 hg hc hs ⟨As, st, h⟩)))
end
end Go.Sl
end
section
set_option linter.unusedVariables false
namespace Go.Sl
open Go.Proofs
section
variable {P : Program} {main : Bool} {B : Bad} {R : Nat → Goroutine → Array Obj → Prop} {d : Nat} {As : List HP}
variable {fn : FuncId} {kd : Kd} {n : Nat} {e : Nat → Value} {ds : List Deferred} {k : List Item} {cs : List Frame}
variable {ops : Array Oper} {i : Nat} {rest : List Nat} {t : Nat} {ty : TypeId} {pos : String} {af : Array Edge} {gd : Option (Nat × Bool)} {x y : Operand}
theorem Closed.eqB2 (C : Closed P main B R) {op : BinOp} {r : Bool} {tt t2 : TypeId} {b1 b2 : Bool} (hu : P.underlying tt = some .bool) (ho : nthO ops i = some ⟨some t, .binOp op tt x y t2, ty, pos, af, gd⟩) (h : At R d As (gr fn kd n (put e t (.bool ((b1 == b2) == r))) ds (.inRegion ops rest :: k) cs))
  (hop : isEq op = some r := by rfl) (hx : ev n e x = .bool b1 := by rfl) (hy : ev n e y = .bool b2 := by rfl) (hw : wantB ops n e gd = true := by rfl) : At R d As (gr fn kd n e ds (.inRegion ops (i :: rest) :: k) cs) :=
 C.v0 ho h (by
  unfold execOp; simp only [hx, hy]
  refine ev0_do (a := .bool ((b1 == b2) == r)) ?_ rfl
  have h0 : ev0 P (Op.equal tt (.bool b1) (.bool b2)) = some (b1 == b2) := by
   unfold Op.equal
   show ev0 P (Op.equalIn (9998 + 1 + 1) _ _ _) = _
   unfold Op.equalIn
   refine ev0_do (ev0_und hu) ?_
   rfl
  cases op <;> first | (cases hop; done) | skip
  ·obtain rfl := Option.some.inj hop
   refine ev0_do (a := ()) (by unfold eqGuard; rfl) ?_
   refine ev0_do h0 ?_
   cases b1 <;> cases b2 <;> rfl
  ·obtain rfl := Option.some.inj hop
   refine ev0_do (a := ()) (by unfold eqGuard; rfl) ?_
   refine ev0_do h0 ?_
   cases b1 <;> cases b2 <;> rfl) hw
theorem Closed.eqBB (C : Closed P main B R) {op : BinOp} {r : Bool} {tt t2 : TypeId} {b : Bool} (hu : P.underlying tt = some .bool) (ho : nthO ops i = some ⟨some t, .binOp op tt x y t2, ty, pos, af, gd⟩) (h : At R d As (gr fn kd n (put e t (.bool r)) ds (.inRegion ops rest :: k) cs))
  (hop : isEq op = some r := by rfl) (hx : ev n e x = .bool b := by rfl) (hy : ev n e y = .bool b := by rfl) (hw : wantB ops n e gd = true := by rfl) : At R d As (gr fn kd n e ds (.inRegion ops (i :: rest) :: k) cs) :=
 C.eqB2 hu ho (by rw [show ((b == b) == r) = r by cases b <;> cases r <;> rfl]; exact h) hop hx hy hw
end
variable {main : Bool}
theorem sameOps_spec {I : HL} {A : HP} {so ro : SliceV} {ops : List OpR} (hA : A = slP opPC 3 67 so ops) (hr : imSl I opRC 63 ro ops) (hz : ∀ o ∈ ops, (-9223372036854775808 ≤ o.k ∧ o.k ≤ 9223372036854775807) ∧ (-9223372036854775808 ≤ o.v ∧ o.v ≤ 9223372036854775807)) (hl : ops.length < 2 ^ 40) :
  Spec Tryz.prog main badT 165 #[so.v, ro.v] [A, imm I] (fun v As => v = .bool true ∧ As = [A, imm I]) := by
 subst hA
 refine Spec.of ?_
 intro R C kd d F c cs hkd hret
 simp only [List.cons_append, List.nil_append]
 refine C.go ?_
 refine C.rg [0] ?_
 refine C.asg rfl ?_
 refine C.go ?_
 refine C.rg [0, 1, 2, 3, 4] ?_
 refine C.mv rfl ?_
 refine C.lnR rfl ?_ (s := so) (l := ops) (f := opPC)
 refine C.mv rfl ?_
 refine C.lnR rfl ?_ (s := ro) (l := ops) (f := opRC)
 refine C.cmpF rfl ?_
 refine C.go ?_
 refine C.fls ?_
 refine C.rg [0] ?_
 refine C.asg rfl ?_
 refine C.go ?_
 refine C.loopR (X := Nat) (fun i => [(0, so.v), (1, ro.v), (5, .int .i64 i)]) (fun _ => slP opPC 3 67 so ops :: imm I :: F) (fun i => i ≤ ops.length) (fun i => ops.length - i) 0 ⟨rfl, rfl, rfl, trivial⟩ (Nat.zero_le _) ?_
 intro i e hi ih
 refine C.go ?_
 refine C.rg [0, 1, 2, 3] ?_
 refine C.mv rfl ?_
 refine C.mv rfl ?_
 refine C.lnR rfl ?_ (s := so) (l := ops) (f := opPC)
 refine C.cmp rfl (fun h14 => ?_) (fun h14 => ?_)
 ·skip
  refine C.go ?_
  refine C.tru ?_
  have hi' : i < ops.length := by omega
  have hzi := hz _ (List.getElem_mem hi')
  refine C.drawn [(17, 0), (18, 1), (19, 2), (20, 3), (21, 4), (22, 5), (23, 6), (24, 7), (25, 8), (26, 9), (27, 10), (28, 11), (29, 12), (30, 13), (31, 14), (32, 15), (33, 16), (34, 17), (35, 18), (36, 19), (37, 20), (38, 21), (39, 22), (40, 23), (41, 24), (42, 25), (43, 26), (44, 27), (45, 28), (46, 29), (47, 30), (48, 31), (49, 32), (50, 33), (51, 34), (52, 35), (53, 36), (54, 37), (55, 38)] [0, 1, 2, 3, 4, 5, 6, 7, 8, 9, 10, 11, 12, 13, 14, 15, 16, 17, 18, 19, 20, 21, 22, 23, 24, 25, 26, 27, 28, 29, 30, 31, 32, 33, 34, 35, 36, 37, 38] [] 0 ?_
  refine Dr.pu ⟨_, rfl, rfl⟩ (fun _ _ _ h => C.mv rfl h) ?_
  refine Dr.pu ⟨_, rfl, rfl⟩ (fun _ _ _ h => C.mv rfl h) ?_
  refine Dr.ld ⟨_, rfl, rfl⟩ (fun _ hE _ _ h => C.iaR rfl h (s := so) (l := ops) (f := opPC) (j := i)) ?_
  refine Dr.pu ⟨_, rfl, rfl⟩ (fun _ _ _ h => C.fa rfl h) ?_
  refine Dr.ld (v := .bool (ops[i]'hi').w) ⟨_, rfl, rfl⟩ (fun _ hE _ _ h => C.ldR rfl h (s := so) (l := ops) (f := opPC) (j := i) (o := 0)) ?_
  refine Dr.pu ⟨_, rfl, rfl⟩ (fun _ _ _ h => C.mv rfl h) ?_
  refine Dr.pu ⟨_, rfl, rfl⟩ (fun _ _ _ h => C.mv rfl h) ?_
  refine Dr.ld ⟨_, rfl, rfl⟩ (fun _ hE _ _ h => C.iaR rfl h (s := ro) (l := ops) (f := opRC) (j := i)) ?_
  refine Dr.pu ⟨_, rfl, rfl⟩ (fun _ _ _ h => C.fa rfl h) ?_
  refine Dr.ld (v := .bool (ops[i]'hi').w) ⟨_, rfl, rfl⟩ (fun _ hE _ _ h => C.ldR rfl h (s := ro) (l := ops) (f := opRC) (j := i) (o := 0)) ?_
  refine Dr.pu ⟨_, rfl, rfl⟩ (fun _ _ _ h => C.eqBB (b := (ops[i]'hi').w) Tryz.underlying4 rfl h) ?_
  refine Dr.pu ⟨_, rfl, rfl⟩ (fun _ _ _ h => C.mv rfl h) ?_
  refine Dr.pu ⟨_, rfl, rfl⟩ (fun _ _ _ h => C.mv rfl h) ?_
  refine Dr.pu ⟨_, rfl, rfl⟩ (fun _ _ _ h => C.mv rfl h) ?_
  refine Dr.ld ⟨_, rfl, rfl⟩ (fun _ hE _ _ h => C.iaR rfl h (s := so) (l := ops) (f := opPC) (j := i)) ?_
  refine Dr.pu ⟨_, rfl, rfl⟩ (fun _ _ _ h => C.fa rfl h) ?_
  refine Dr.ld (v := .int .u8 (ops[i]'hi').k) ⟨_, rfl, rfl⟩ (fun _ hE _ _ h => C.ldR rfl h (s := so) (l := ops) (f := opPC) (j := i) (o := 1)) ?_
  refine Dr.pu (v := .int .i64 (ops[i]'hi').k) ⟨_, rfl, rfl⟩ (fun _ _ _ h => C.cv rfl h (p := (ops[i]'hi').k) (r := (ops[i]'hi').k) (k1 := .u8) (k2 := .i64) (hr := w64 hzi.1.1 hzi.1.2)) ?_
  refine Dr.pu ⟨_, rfl, rfl⟩ (fun _ _ _ h => C.mv rfl h) ?_
  refine Dr.pu ⟨_, rfl, rfl⟩ (fun _ _ _ h => C.mv rfl h) ?_
  refine Dr.ld ⟨_, rfl, rfl⟩ (fun _ hE _ _ h => C.iaR rfl h (s := ro) (l := ops) (f := opRC) (j := i)) ?_
  refine Dr.pu ⟨_, rfl, rfl⟩ (fun _ _ _ h => C.fa rfl h) ?_
  refine Dr.ld (v := .int .i64 (ops[i]'hi').k) ⟨_, rfl, rfl⟩ (fun _ hE _ _ h => C.ldR rfl h (s := ro) (l := ops) (f := opRC) (j := i) (o := 1)) ?_
  refine Dr.pu ⟨_, rfl, rfl⟩ (fun _ _ _ h => C.cmpF rfl h (hf := by intro h; exact h rfl)) ?_
  refine Dr.pu ⟨_, rfl, rfl⟩ (fun _ _ _ h => C.pk rfl h) ?_
  refine Dr.pu ⟨_, rfl, rfl⟩ (fun _ _ _ h => C.mv rfl h) ?_
  refine Dr.pu ⟨_, rfl, rfl⟩ (fun _ _ _ h => C.mv rfl h) ?_
  refine Dr.pu ⟨_, rfl, rfl⟩ (fun _ _ _ h => C.mv rfl h) ?_
  refine Dr.ld ⟨_, rfl, rfl⟩ (fun _ hE _ _ h => C.iaR rfl h (s := so) (l := ops) (f := opPC) (j := i)) ?_
  refine Dr.pu ⟨_, rfl, rfl⟩ (fun _ _ _ h => C.fa rfl h) ?_
  refine Dr.ld (v := .int .i32 (ops[i]'hi').v) ⟨_, rfl, rfl⟩ (fun _ hE _ _ h => C.ldR rfl h (s := so) (l := ops) (f := opPC) (j := i) (o := 2)) ?_
  refine Dr.pu (v := .int .i64 (ops[i]'hi').v) ⟨_, rfl, rfl⟩ (fun _ _ _ h => C.cv rfl h (p := (ops[i]'hi').v) (r := (ops[i]'hi').v) (k1 := .i32) (k2 := .i64) (hr := w64 hzi.2.1 hzi.2.2)) ?_
  refine Dr.pu ⟨_, rfl, rfl⟩ (fun _ _ _ h => C.mv rfl h) ?_
  refine Dr.pu ⟨_, rfl, rfl⟩ (fun _ _ _ h => C.mv rfl h) ?_
  refine Dr.ld ⟨_, rfl, rfl⟩ (fun _ hE _ _ h => C.iaR rfl h (s := ro) (l := ops) (f := opRC) (j := i)) ?_
  refine Dr.pu ⟨_, rfl, rfl⟩ (fun _ _ _ h => C.fa rfl h) ?_
  refine Dr.ld (v := .int .i64 (ops[i]'hi').v) ⟨_, rfl, rfl⟩ (fun _ hE _ _ h => C.ldR rfl h (s := ro) (l := ops) (f := opRC) (j := i) (o := 2)) ?_
  refine Dr.pu ⟨_, rfl, rfl⟩ (fun _ _ _ h => C.cmpF rfl h (hf := by intro h; exact h rfl)) ?_
  refine Dr.pu ⟨_, rfl, rfl⟩ (fun _ _ _ h => C.pk rfl h) ?_
  refine Dr.chain rfl ?_
  refine Ch.fin ?_
  refine C.go ?_
  refine C.fls ?_
  refine C.rg [0, 1, 2] ?_
  refine C.mv rfl ?_
  refine C.ar rfl ?_
  refine C.asg rfl ?_
  refine C.go ?_
  exact again ih (i + 1) hi' (by omega)
 ·skip
  refine C.go ?_
  refine C.fls ?_
  refine C.rg [0] ?_
  refine C.asg rfl ?_
  refine C.go ?_
  exact C.retR hkd hret ⟨rfl, rfl⟩
theorem sameReads_spec {I : HL} {A : HP} {so ro : SliceV} {l : List Int} (hA : A = slP i32C 1 21 so l) (hr : imSl I i64L 3 ro l) (hz : ∀ x ∈ l, -9223372036854775808 ≤ x ∧ x ≤ 9223372036854775807) (hl : l.length < 2 ^ 40) :
  Spec Tryz.prog main badT 166 #[so.v, ro.v] [A, imm I] (fun v As => v = .bool true ∧ As = [A, imm I]) := by
 subst hA
 refine Spec.of ?_
 intro R C kd d F c cs hkd hret
 simp only [List.cons_append, List.nil_append]
 refine C.go ?_
 refine C.rg [0] ?_
 refine C.asg rfl ?_
 refine C.go ?_
 refine C.rg [0, 1, 2, 3, 4] ?_
 refine C.mv rfl ?_
 refine C.lnR rfl ?_ (s := so) (l := l) (f := i32C)
 refine C.mv rfl ?_
 refine C.lnR rfl ?_ (s := ro) (l := l) (f := i64L)
 refine C.cmpF rfl ?_
 refine C.go ?_
 refine C.fls ?_
 refine C.rg [0] ?_
 refine C.asg rfl ?_
 refine C.go ?_
 refine C.loopR (X := Nat) (fun i => [(0, so.v), (1, ro.v), (5, .int .i64 i)]) (fun _ => slP i32C 1 21 so l :: imm I :: F) (fun i => i ≤ l.length) (fun i => l.length - i) 0 ⟨rfl, rfl, rfl, trivial⟩ (Nat.zero_le _) ?_
 intro i e hi ih
 refine C.go ?_
 refine C.rg [0, 1, 2, 3] ?_
 refine C.mv rfl ?_
 refine C.mv rfl ?_
 refine C.lnR rfl ?_ (s := so) (l := l) (f := i32C)
 refine C.cmp rfl (fun h14 => ?_) (fun h14 => ?_)
 ·skip
  refine C.go ?_
  refine C.tru ?_
  have hi' : i < l.length := by omega
  have hzi := hz _ (List.getElem_mem hi')
  refine C.drawn [(17, 0), (18, 1), (19, 2), (20, 3), (21, 4), (22, 5), (23, 6), (24, 7), (25, 8), (26, 9)] [0, 1, 2, 3, 4, 5, 6, 7, 8, 9] [] 0 ?_
  refine Dr.pu ⟨_, rfl, rfl⟩ (fun _ _ _ h => C.mv rfl h) ?_
  refine Dr.pu ⟨_, rfl, rfl⟩ (fun _ _ _ h => C.mv rfl h) ?_
  refine Dr.ld ⟨_, rfl, rfl⟩ (fun _ hE _ _ h => C.iaR rfl h (s := so) (l := l) (f := i32C) (j := i)) ?_
  refine Dr.ld (v := .int .i32 (l[i]'hi')) ⟨_, rfl, rfl⟩ (fun _ hE _ _ h => C.ldR0 rfl h (s := so) (l := l) (f := i32C) (j := i)) ?_
  refine Dr.pu (v := .int .i64 (l[i]'hi')) ⟨_, rfl, rfl⟩ (fun _ _ _ h => C.cv rfl h (p := l[i]'hi') (r := l[i]'hi') (k1 := .i32) (k2 := .i64) (hr := w64 hzi.1 hzi.2)) ?_
  refine Dr.pu ⟨_, rfl, rfl⟩ (fun _ _ _ h => C.mv rfl h) ?_
  refine Dr.pu ⟨_, rfl, rfl⟩ (fun _ _ _ h => C.mv rfl h) ?_
  refine Dr.ld ⟨_, rfl, rfl⟩ (fun _ hE _ _ h => C.iaR rfl h (s := ro) (l := l) (f := i64L) (j := i)) ?_
  refine Dr.ld (v := .int .i64 (l[i]'hi')) ⟨_, rfl, rfl⟩ (fun _ hE _ _ h => C.ldR0 rfl h (s := ro) (l := l) (f := i64L) (j := i)) ?_
  refine Dr.pu ⟨_, rfl, rfl⟩ (fun _ _ _ h => C.cmpF rfl h (hf := by intro h; exact h rfl)) ?_
  refine Dr.chain rfl ?_
  refine Ch.fin ?_
  refine C.go ?_
  refine C.fls ?_
  refine C.rg [0, 1, 2] ?_
  refine C.mv rfl ?_
  refine C.ar rfl ?_
  refine C.asg rfl ?_
  refine C.go ?_
  exact again ih (i + 1) hi' (by omega)
 ·skip
  refine C.go ?_
  refine C.fls ?_
  refine C.rg [0] ?_
  refine C.asg rfl ?_
  refine C.go ?_
  exact C.retR hkd hret ⟨rfl, rfl⟩
end Go.Sl
end
section
set_option linter.unusedVariables false
namespace Go.Sl
open Go.Conc
section
variable {P : Program} {main : Bool} {Z : World → Prop} {W : Nat → Goroutine → Prop} {q : Nat} {fn : FuncId} {kd : Kd} {n : Nat} {e : Nat → Value} {ds : List Deferred} {k : List Item} {cs : List Frame}
variable {ops : Array Oper} {i : Nat} {rest : List Nat} {dst : Option Nat} {t : Nat} {ty : TypeId} {pos : String} {af : Array Edge} {gd : Option (Nat × Bool)} {x y z : Operand}
variable {f : FuncId} {fu : Func} {args : Array Operand} {ats : Array TypeId}
theorem Mt.xk (M : Mt P main Z W) {v : Value} [b : Ext_ P f fu (fun _ => pure v)] (ho : nthO ops i = some ⟨dst, .call ⟨.value (.func f), args, ats⟩, ty, pos, af, gd⟩) (h : W q (gr fn kd n (putO e dst v) ds (.inRegion ops rest :: k) cs)) (hw : wantB ops n e gd = true := by rfl) : W (q + 1) (gr fn kd n e ds (.inRegion ops (i :: rest) :: k) cs) :=
 M.s _ _ _ rfl (fun w _ => by
  rw [gr_at, gr_at, ← act_put]
  exact stepG_entry (o := ⟨dst, .call ⟨.value (.func f), args, ats⟩, ty, pos, af, gd⟩) (by rw [nthO_eq]; exact ho) (by rw [wanted_eq]; exact hw) bs_early rfl b.func b.name b.body b.nx b.fd (by simp) (by simp) (by simp)) h
theorem stepG_m0D (m : Mark) [b : Ext_ P f fu (fun _ => do mark m; pure Extern.Race.none_)] {av : Array Value} {todo : List Item} (hm : ∀ g, m ≠ .extern g) (w : World) :
  stepG P main (grR fn kd n e (⟨.fn (.func f) #[], av⟩ :: ds) todo cs) w = .go (grR fn kd n e ds todo cs) w #[evm m] :=
 stepG_unwind_entry (b := bs fn kd) (a := ⟨tm n e, ⟨.fn (.func f) #[], av⟩ :: ds⟩) (todo := todo) (cs := cs) (ds := ds) (f := f) (args := av) (v := .tuple #[]) rfl b.func b.name b.body b.nx b.fd (by simp [Extern.Race.none_]) (by simp) (by
  intro x hx
  simp at hx
  subst hx
  exact ⟨rfl, fun g h => hm g (by cases h; rfl)⟩)
variable {G : Grp}
theorem cl_rel {g g' : Goroutine} (hs : g.status = .running) (h : ∀ w, stepG P false g w = .go g' w #[evm (.releaseMerge G.st)]) (k : Cl P G q .dis g') : Cl P G (q + 1) .rel g := ⟨hs, .inr ⟨g', h, k⟩⟩
theorem cl_dis {g g' : Goroutine} (hs : g.status = .running) (h : ∀ w, stepG P false g w = .go g' w #[evm .disable]) (k : Cl P G q .add g') : Cl P G (q + 1) .dis g := ⟨hs, .inr ⟨g', h, k⟩⟩
theorem cl_add {g : Goroutine} (g' : Nat → Nat → Goroutine) (hs : g.status = .running) (h : ∀ w v wt, v ≤ 3 → wt ≤ 1 → w.cell? G.st = some (stV (v + 1) wt) → w.frozen? G.st = false → stepG P false g w = .go (g' v wt) (w.setCell G.st (stV v wt)) #[ar G.st, aw G.st])
  (k1 : Cl P G q .ld (g' 0 1)) (k2 : ∀ v wt, v ≤ 3 → wt ≤ 1 → ¬ (v = 0 ∧ wt = 1) → QuitsD P q 1 (g' v wt)) : Cl P G (q + 1) .add g := ⟨hs, .inr ⟨g', h, k1, k2⟩⟩
theorem cl_addA [b : Ext_ P f fu (Extern.Atomic.update (Op.intArith .add) .u64 true)] (ho : nthO ops i = some ⟨dst, .call ⟨.value (.func f), #[x, y], ats⟩, ty, pos, af, gd⟩) (k1 : Cl P G q .ld (gr fn kd n (putO e dst (stV 0 1)) ds (.inRegion ops rest :: k) cs))
  (k2 : ∀ v wt, v ≤ 3 → wt ≤ 1 → ¬ (v = 0 ∧ wt = 1) → QuitsD P q 1 (gr fn kd n (putO e dst (stV v wt)) ds (.inRegion ops rest :: k) cs)) (hx : ev n e x = .pointer (some G.st) := by rfl) (hy : ev n e y = .int .u64 18446744069414584320 := by rfl) (hw : wantB ops n e gd = true := by rfl) : Cl P G (q + 1) .add (gr fn kd n e ds (.inRegion ops (i :: rest) :: k) cs) := by
 refine cl_add (fun v wt => gr fn kd n (putO e dst (stV v wt)) ds (.inRegion ops rest :: k) cs) rfl (fun w v wt hv hw' hc hz => ?_) k1 k2
 have := stepG_aA (P := P) (f := f) (main := false) (fn := fn) (kd := kd) (ds := ds) (k := k) (cs := cs) (rest := rest) (kk := .u64) (v := ((v + 1 : Nat) : Int) * KQ + wt) (d := 18446744069414584320) ho hw hx hy hc hz
 have e1 : IntKind.u64.wrap (((v + 1 : Nat) : Int) * KQ + wt + 18446744069414584320) = (v : Int) * KQ + wt := by
  have : (2 ^ IntKind.u64.bits : Int) = 18446744073709551616 := by decide
  simp only [IntKind.wrap, KQ, this]
  rw [if_neg (by simp [IntKind.signed])]
  omega
 rw [e1] at this
 exact this
theorem cl_ld {g g' : Goroutine} (hs : g.status = .running) (h : ∀ w, w.cell? G.st = some (stV 0 1) → stepG P false g w = .go g' w #[ar G.st]) (k : Cl P G q .sto g') : Cl P G (q + 1) .ld g := ⟨hs, .inr ⟨g', h, k⟩⟩
theorem cl_sto {g g' : Goroutine} (hs : g.status = .running) (h : ∀ w, w.cell? G.st = some (stV 0 1) → w.frozen? G.st = false → stepG P false g w = .go g' (w.setCell G.st (stV 0 0)) #[aw G.st]) (k : Cl P G q .sem g') : Cl P G (q + 1) .sto g := ⟨hs, .inr ⟨g', h, k⟩⟩
theorem cl_sem {g g' : Goroutine} (hs : g.status = .running) (hm : mayWake P g = true) (h : ∀ w, w.cell? G.sm = some (smV 0) → w.frozen? G.sm = false → stepG P false g w = .go g' (w.setCell G.sm (smV 1)) (semEvents G.sm)) (k : QuitsD P q 1 g') : Cl P G (q + 1) .sem g := ⟨hs, .inr ⟨hm, g', h, k⟩⟩
theorem wake_ext {ex : Array Value → Sem Value} [b : Ext_ P f fu ex] (ho : nthO ops i = some ⟨dst, .call ⟨.value (.func f), args, ats⟩, ty, pos, af, gd⟩) : mayWake P (gr fn kd n e ds (.inRegion ops (i :: rest) :: k) cs) = true := by
 have ho' : ops[i]? = some ⟨dst, .call ⟨.value (.func f), args, ats⟩, ty, pos, af, gd⟩ := by rw [nthO_eq]; exact ho
 have h1 : (P.funcs[f]?).any (·.body.isSome) = false := by
  rw [b.func]
  have := b.body
  cases hb : fu.body with
  | none => simp [hb]
  | some c => rw [hb] at this; cases this
 unfold mayWake
 simp only [gr, frm, ho', Option.map_some]
 simp [Frame.eval, h1]
theorem quits_ena {g g' : Goroutine} (hs : g.status = .running) (h : ∀ w, stepG P false g w = .go g' w #[evm .enable]) (k : QuitsD P q 0 g') : QuitsD P (q + 1) 1 g := .inr ⟨hs, g', _, fun e he => by simp at he; subst he; rfl, h, k⟩
theorem quits_end : QuitsD P (q + 1) 0 (backD (base P []) []) := QuitsD.mono' (quitsBase rfl) (by omega)
variable {Fin : Goroutine → Prop}
theorem stV_ne {v v' : Nat} (h : v' < v) : ((v' : Int) * KQ + (0 : Nat)) ≠ ((v : Int) * KQ + (0 : Nat)) := by unfold KQ; omega
theorem mw_dis [b : Ext_ P f fu (fun _ => do mark .disable; pure Extern.Race.none_)] {c : Nat} (ho : nthO ops i = some ⟨dst, .call ⟨.value (.func f), args, ats⟩, ty, pos, af, gd⟩) (h : MW P G Fin (.head c) (gr fn kd n (putO e dst (.tuple #[])) ds (.inRegion ops rest :: k) cs)) (hw : wantB ops n e gd = true := by rfl) : MW P G Fin (.dis c) (gr fn kd n e ds (.inRegion ops (i :: rest) :: k) cs) :=
 .dis rfl (fun w => stepG_m0 .disable ho hw (by intro g; simp) w) h
theorem mw_load [b : Ext_ P f fu (Extern.Atomic.loadT (.int .u64))] {c : Nat} (ho : nthO ops i = some ⟨dst, .call ⟨.value (.func f), #[x], ats⟩, ty, pos, af, gd⟩) (k0 : MW P G Fin .ena (gr fn kd n (putO e dst (stV 0 0)) ds (.inRegion ops rest :: k) cs)) (k1 : ∀ v, 1 ≤ v → v ≤ c → MW P G Fin (.cas v) (gr fn kd n (putO e dst (stV v 0)) ds (.inRegion ops rest :: k) cs))
  (hx : ev n e x = .pointer (some G.st) := by rfl) (hw : wantB ops n e gd = true := by rfl) : MW P G Fin (.head c) (gr fn kd n e ds (.inRegion ops (i :: rest) :: k) cs) :=
 .load (fun v => gr fn kd n (putO e dst (stV v 0)) ds (.inRegion ops rest :: k) cs) rfl (fun w v _ hc => stepG_aL ho hw hx hc) k0 k1
theorem mw_cas [b : Ext_ P f fu (Extern.Atomic.casT (.int .u64))] {v : Nat} (ho : nthO ops i = some ⟨dst, .call ⟨.value (.func f), #[x, y, z], ats⟩, ty, pos, af, gd⟩) (k1 : MW P G Fin .reg (gr fn kd n (putO e dst (.bool true)) ds (.inRegion ops rest :: k) cs)) (k2 : MW P G Fin (.head (v - 1)) (gr fn kd n (putO e dst (.bool false)) ds (.inRegion ops rest :: k) cs))
  (hx : ev n e x = .pointer (some G.st) := by rfl) (hy : ev n e y = stV v 0 := by rfl) (hz : ev n e z = stV v 1 := by rfl) (hw : wantB ops n e gd = true := by rfl) : MW P G Fin (.cas v) (gr fn kd n e ds (.inRegion ops (i :: rest) :: k) cs) :=
 .cas rfl (fun w hc hf => stepG_aC ho hw hx hy hz hc hf) (fun w v' hv hc hf => stepG_aM ho hw hx hy hz hc hf (stV_ne hv)) k1 k2
theorem mw_said [b : Ext_ P f fu (Extern.Race.marked .write)] (ho : nthO ops i = some ⟨dst, .call ⟨.value (.func f), args, ats⟩, ty, pos, af, gd⟩) (h : MW P G Fin .reg (gr fn kd n (putO e dst (.tuple #[])) ds (.inRegion ops rest :: k) cs)) (hx : (args.toList.map (ev n e))[0]? = some (.pointer (some G.sm)) := by rfl) (hw : wantB ops n e gd = true := by rfl) : MW P G Fin .reg (gr fn kd n e ds (.inRegion ops (i :: rest) :: k) cs) :=
 .said rfl (fun w => stepG_mA .write ho hw (by intro ad g; simp) hx w) h
theorem mw_sem [b : Ext_ P f fu Extern.Sync.semacquire] (ho : nthO ops i = some ⟨dst, .call ⟨.value (.func f), args, ats⟩, ty, pos, af, gd⟩) (h : MW P G Fin .last (gr fn kd n (putO e dst (.tuple #[])) ds (.inRegion ops rest :: k) cs)) (hx : (args.toList.map (ev n e))[0]? = some (.pointer (some G.sm)) := by rfl) (hw : wantB ops n e gd = true := by rfl) : MW P G Fin .reg (gr fn kd n e ds (.inRegion ops (i :: rest) :: k) cs) :=
 .sem rfl rfl (fun w hc => stepG_sW ho hw hx hc) (fun w hc hz => stepG_sA ho hw hx hc (by decide) hz) h
theorem mw_last [b : Ext_ P f fu (Extern.Atomic.loadT (.int .u64))] (ho : nthO ops i = some ⟨dst, .call ⟨.value (.func f), #[x], ats⟩, ty, pos, af, gd⟩) (h : MW P G Fin .ena (gr fn kd n (putO e dst (stV 0 0)) ds (.inRegion ops rest :: k) cs)) (hx : ev n e x = .pointer (some G.st) := by rfl) (hw : wantB ops n e gd = true := by rfl) : MW P G Fin .last (gr fn kd n e ds (.inRegion ops (i :: rest) :: k) cs) :=
 .last rfl (fun w hc => stepG_aL ho hw hx hc) h
theorem mw_ena [b : Ext_ P f fu (fun _ => do mark .enable; pure Extern.Race.none_)] (ho : nthO ops i = some ⟨dst, .call ⟨.value (.func f), args, ats⟩, ty, pos, af, gd⟩) (h : MW P G Fin .acq (gr fn kd n (putO e dst (.tuple #[])) ds (.inRegion ops rest :: k) cs)) (hw : wantB ops n e gd = true := by rfl) : MW P G Fin .ena (gr fn kd n e ds (.inRegion ops (i :: rest) :: k) cs) :=
 .ena rfl (fun w => stepG_m0 .enable ho hw (by intro g; simp) w) h
theorem mw_acq [b : Ext_ P f fu (Extern.Race.marked .acquire)] (ho : nthO ops i = some ⟨dst, .call ⟨.value (.func f), args, ats⟩, ty, pos, af, gd⟩) (h : Fin (gr fn kd n (putO e dst (.tuple #[])) ds (.inRegion ops rest :: k) cs)) (hx : (args.toList.map (ev n e))[0]? = some (.pointer (some G.st)) := by rfl) (hw : wantB ops n e gd = true := by rfl) : MW P G Fin .acq (gr fn kd n e ds (.inRegion ops (i :: rest) :: k) cs) :=
 .acq rfl (fun w => stepG_mA .acquire ho hw (by intro ad g; simp) hx w) h
end
section
variable {P : Program} {main : Bool} {B : Bad} {R : Nat → Goroutine → Array Obj → Prop} {d : Nat} {As As' F : List HP}
variable {fn : FuncId} {kd : Kd} {n : Nat} {e : Nat → Value} {ds : List Deferred} {k : List Item} {cs : List Frame}
variable {ops : Array Oper} {i : Nat} {rest : List Nat} {dst : Option Nat} {t : Nat} {ty : TypeId} {pos : String} {af : Array Edge} {gd : Option (Nat × Bool)} {x y z : Operand} {v : Value}
theorem Closed.df (C : Closed P main B R) {f : FuncId} {a1 a2 : Array Value} {fo : Operand} {args : Array Operand} {ats : Array TypeId} {vl : List Value} (ho : nthO ops i = some ⟨dst, .defer ⟨.value fo, args, ats⟩, ty, pos, af, gd⟩)
  (h : At R d As (gr fn kd n (putO e dst undef) (⟨.fn (.func f) a2, a1 ++ vl.toArray⟩ :: ds) (.inRegion ops rest :: k) cs)) (hf : ev n e fo = .func (.func f) a1 a2 := by rfl) (hv : args.toList.map (ev n e) = vl := by rfl) (hw : wantB ops n e gd = true := by rfl) : At R d As (gr fn kd n e ds (.inRegion ops (i :: rest) :: k) cs) :=
 C.gen ho hw fun H s => by
  have hv' : args.map (ev n e) = vl.toArray := by rw [← hv, ← Array.toList_map, Array.toArray_toList]
  refine okS_ev0 (v := Next.defer ⟨.fn (.func f) a2, a1 ++ vl.toArray⟩) ?_ ?_
  rotate_left
  ·exact ⟨As, s, h⟩
  unfold execOp
  simp only
  refine ev0_do (a := ⟨.fn (.func f) a2, a1 ++ vl.toArray⟩) ?_ rfl
  unfold resolve
  simp only [hf, Deferred.ofValue, hv']; rfl
theorem Closed.rtA (C : Closed P main B R) (h : At R d As (grR fn kd n e ds (.code .ret :: k) cs)) : At R d As (gr fn kd n e ds (.code .ret :: k) cs) := fun H s => C.ret (h H s)
theorem Closed.fnA (C : Closed P main B R) (h : At R d As (grR fn kd n e ds [] cs)) : At R d As (gr fn kd n e ds [] cs) := fun H s => C.fin (h H s)
theorem Closed.dEna (C : Closed P main B R) {f : FuncId} {fu : Func} [x : Ext_ P f fu (fun _ => do mark .enable; pure Extern.Race.none_)] {av : Array Value} {todo : List Item} (h : At R (d - 1) As (grR fn kd n e ds todo cs)) : At R d As (grR fn kd n e (⟨.fn (.func f) #[], av⟩ :: ds) todo cs) :=
 C.dfx (f := f) fun H s => by
  show okS P B (mark .enable >>= fun _ => pure Extern.Race.none_) H d _
  refine okS_do ?_
  simp only [mark, okS, markOk, deafBy, true_and]
  exact okS_pure ⟨As, s, h⟩
theorem Closed.retC (C : Closed P main B R) {fu : Func} {cc : Code} {n' : Nat} [b : Body P fn fu cc n'] {slot t0 bb z : Nat} {el : TypeId} {xs : Array Value} [Ag P t0 true] [Cz P t0 z] {c : Frame} {w : Code} {Q : Value → List HP → Prop} {A : List HP} (hr : fu.results = #[.cell slot t0]) (hkd : KdOk kd c) (hret : ∀ v As', Q v As' → At R d (As' ++ F) (after kd c cs v)) (q : Q (.agg xs) A)
  (he : ev n e (.tmp slot) = .pointer (some ⟨bb, 0, none⟩) := by rfl) (hh : Kn As bb (.cells xs el (0, 0)) := by apply Has.kn; (repeat (first | with_reducible exact Has.head | with_reducible apply Has.tail)); done) (hsz : xs.size = z := by rfl) (hs : ∀ j, B.sh el j = false := by intro j; rfl) (hx : ck w = .ret := by rfl)
  (hA : Reo As (A ++ F) := by (try simp only [List.cons_append, List.nil_append]); repeat (first | with_reducible exact Reo.refl | with_reducible exact Reo.nil | with_reducible exact Fo.head | with_reducible apply Fo.tail | with_reducible apply Reo.cons | with_reducible apply Reo.drop)) : At R d As (gr fn kd n e [] (.code w :: k) (c :: cs)) := fun H s => by
 have zz := ck_inv hx; simp only at zz; subst zz
 have hg := hh _ s
 have key : ∀ {Q' : Value → Array Obj → Nat → Prop}, Q' (.agg xs) H d → okS P B (results fu (tm n e)) H d Q' := fun q' => by
  unfold results
  rw [hr, Array.mapM_eq_mapM_toList]
  simp only [List.mapM_cons, List.mapM_nil, map_eq_pure_bind, bind_assoc, pure_bind, tm_getD]
  have he' : (if slot < n then e slot else undef) = .pointer (some ⟨bb, 0, none⟩) := he
  rw [he']
  refine okS_do (okS_ev0 (v := (⟨bb, 0, none⟩ : Addr)) rfl ?_)
  refine okS_do (okS_loadVarS hg (by omega) hs ?_)
  have e1 : xs.extract 0 (0 + z) = xs := by rw [Nat.zero_add, ← hsz]; simp
  rw [e1]
  exact q'
 have hfin : R d (after kd c cs (.agg xs)) H := At.reo hA (hret _ A q) H s
 refine C.ret ?_
 cases kd with
 | nor => exact C.back b.func (key hfin)
 | dfr => exact C.backDef hkd b.func (key hfin)
theorem Sat.apartG {A : HP} {b x : Nat} {o : Obj} {L : List HP} {h : HL} (ha : ∀ h, A h → ∃ o', h b = some o') (s : Sat (A :: pts x o :: L) h) : b ≠ x := fun e => by
 subst e
 obtain ⟨h1, a, _, h2, p, s2, _⟩ := s
 obtain ⟨o', ho⟩ := ha _ a
 have h2' : h2 b = some o := by
  have p : h2 = one b o := p
  rw [p]; simp [one]
 have := s2 b o h2'
 unfold Sl.less at this
 rw [ho] at this
 simp at this
theorem At.apart {b x : Nat} {o o' : Obj} {g : Goroutine} {L : List HP} (hf : ReF [pts b o', pts x o] As L) (h : b ≠ x → At R d As g) : At R d As g := fun H st =>
 h (Sat.apartG (fun h e => ⟨o', by have e : h = one b o' := e; rw [e]; simp [one]⟩) (st.perm hf.perm)) H st
theorem At.apartS {α : Type} {f : α → List Value} {z : Nat} {el : TypeId} {s : SliceV} {l : List α} {x : Nat} {o : Obj} {g : Goroutine} {L : List HP} (hf : ReF [slP f z el s l, pts x o] As L) (h : (∀ b, s.a = some ⟨b, 0, none⟩ → b ≠ x) → At R d As g) : At R d As g := fun H st =>
 h (fun b hb => Sat.apartG (fun h e => by
  rcases e with ⟨rfl, _⟩ | ⟨b', pad, e, _, _, hp⟩
  ·cases hb
  ·rw [e] at hb
   obtain rfl : b' = b := by simpa using hb
   have hp : h = one b' _ := hp
   exact ⟨_, by rw [hp]; simp [one]; rfl⟩) (st.perm hf.perm)) H st
end
section
variable {R : Nat → Goroutine → Array Obj → Prop} {d : Nat} {fn : FuncId} {kd : Kd} {n : Nat} {ds : List Deferred} {ops : Array Oper} {k : List Item} {cs : List Frame} {e0 : Nat → Value} {D : List (Nat × Nat)} {W : List HP} {S : List SE}
theorem Ch.nx {f : Nat} {T' l : List Nat} {a : Nat} {K : List SE} {As : List HP} (hc : cand ops T' = l) (h : ∀ t ∈ l, Nd R d fn kd n ds ops k cs e0 D W S (fun K As => Ch R d fn kd n ds ops k cs e0 D W f S (T'.erase t) (a - 1) K As) t a K As) : Ch R d fn kd n ds ops k cs e0 D W (f + 1) S T' a K As := .inl fun t ht => h t (hc ▸ ht)
theorem fa1 {α : Type} {φ : α → Prop} {a : α} (h1 : φ a) : ∀ t ∈ [a], φ t := by simpa using h1
theorem fa2 {α : Type} {φ : α → Prop} {a b : α} (h1 : φ a) (h2 : φ b) : ∀ t ∈ [a, b], φ t := by simpa using ⟨h1, h2⟩
theorem fa3 {α : Type} {φ : α → Prop} {a b c : α} (h1 : φ a) (h2 : φ b) (h3 : φ c) : ∀ t ∈ [a, b, c], φ t := by simpa using ⟨h1, h2, h3⟩
theorem fa4 {α : Type} {φ : α → Prop} {a b c d : α} (h1 : φ a) (h2 : φ b) (h3 : φ c) (h4 : φ d) : ∀ t ∈ [a, b, c, d], φ t := by simpa using ⟨h1, h2, h3, h4⟩
end
section
variable {P : Program} {Post : Value → World → Prop} {X : Bar} {σ : Gh} {os : Os} {out : Array (Nat × ByteArray)} {As F : List HP}
variable {fn : FuncId} {kd : Kd} {n : Nat} {e : Nat → Value} {ds : List Deferred} {k : List Item} {cs : List Frame}
variable {ops : Array Oper} {i : Nat} {rest : List Nat} {dst : Option Nat} {ty : TypeId} {pos : String} {af : Array Edge} {gd : Option (Nat × Bool)}
theorem RunR.clN {f : FuncId} {fu : Func} {c : Code} {nf : Nat} [b : Body P f fu c nf] {fo : Operand} {args : Array Operand} {ats : Array TypeId} {vl : List Value} {A : List HP} {Q : Value → Gh → List HP → Prop} (hs : SpecG P X f vl.toArray σ A Q)
  (h : ∀ v σ' As', Q v σ' As' → At (RunR P Post X σ' 0 os out) 0 (As' ++ F) (gr fn kd n (putO e dst v) ds (.inRegion ops rest :: k) cs))
  (ho : nthO ops i = some ⟨dst, .call ⟨.value fo, args, ats⟩, ty, pos, af, gd⟩ := by rfl) (hv : args.toList.map (ev n e) = vl := by rfl) (hf : ev n e fo = .func (.func f) #[] #[] := by rfl)
  (hr : ReF A As F := by repeat (first | with_reducible exact ReF.nil | with_reducible exact Fo.head | with_reducible apply Fo.tail | with_reducible apply ReF.cons)) (hw : wantB ops n e gd = true := by rfl) : At (RunR P Post X σ 0 os out) 0 As (gr fn kd n e ds (.inRegion ops (i :: rest) :: k) cs) :=
 RunR.cl (a1 := #[]) (a2 := #[]) (vl := vl) (by simpa using hs) h ho hv hf hr hw
theorem RunR.retQ {fu : Func} {cc : Code} {n' : Nat} [b : Body P fn fu cc n'] {c : Frame} {v : Value} {x : Code} {Q : Value → Gh → List HP → Prop} {A : List HP} (hkd : KdOk kd c) (hret : ∀ v σ' As', Q v σ' As' → At (RunR P Post X σ' 0 os out) 0 (As' ++ F) (after kd c cs v)) (q : Q v σ A) (hv : resV fu n e = some v := by rfl) (hx : ck x = .ret := by rfl)
  (hr : Reo As (A ++ F) := by (try simp only [List.cons_append, List.nil_append]); repeat (first | with_reducible exact Reo.refl | with_reducible exact Reo.nil | with_reducible exact Fo.head | with_reducible apply Fo.tail | with_reducible apply Reo.cons | with_reducible apply Reo.drop)) : At (RunR P Post X σ 0 os out) 0 As (gr fn kd n e [] (.code x :: k) (c :: cs)) := by
 have C : Closed P true (X.bw σ) (RunR P Post X σ 0 os out) := RunR.closed0
 exact C.ret0 hkd (At.reo hr (hret v σ A q)) hv hx
end
end Go.Sl
end
section
set_option linter.unusedVariables false
namespace Go.Sl
open Go.Proofs
variable {main : Bool}
theorem fresh_spec : Spec Tryz.prog main badT 91 #[] [] (fun v As => ∃ bv bl bp bd be bu : Nat, v = .agg #[.map (some bv), .map (some bl), .map (some bp), .map (some bd), .map (some be), .map (some bu), .slice none 0 0, .int .i64 0, .int .i64 0, .slice none 0 0] ∧
  As = [mapP .u8 int32V bv [], mapP .u8 int64V bl [], mapP .i64 pndC bp [], mapP .i64 plcC bd [], mapP .i64 plcC be [], mapP .i64 undG bu []]) := by
 refine Spec.of ?_
 intro R C kd d F c cs hkd hret
 simp only [List.cons_append, List.nil_append]
 refine C.go ?_
 refine C.rg [0] ?_
 refine C.al rfl (fun b0 => ?_)
 refine C.go ?_
 refine C.rg [0, 1, 2, 3, 4, 5, 6, 7] ?_
 refine C.mm .u8 int32V rfl (fun b1 => ?_)
 refine C.mm .u8 int64V rfl (fun b2 => ?_)
 refine C.mm .i64 pndC rfl (fun b3 => ?_)
 refine C.mm .i64 plcC rfl (fun b4 => ?_)
 refine C.mm .i64 plcC rfl (fun b5 => ?_)
 refine C.mm .i64 undG rfl (fun b6 => ?_)
 refine C.bd rfl ?_
 refine C.stS rfl ?_
 refine C.go ?_
 exact C.retC rfl hkd hret ⟨b1, b2, b3, b4, b5, b6, rfl, rfl⟩
def newSX (k n : Int) : ShX := ⟨k, n, true, [], 0, [], [], [], [], [], [], [], 0, 0, [], []⟩
theorem newSX_abs (k n : Int) : (newSX k n).abs = newShP k n := rfl
theorem newSX_J (I : HL) (k n : Int) : ShJ I (newSX k n) := ⟨by simp [newSX], by simp [newSX], by simp [newSX], by simp [newSX], by simp [newSX]⟩
theorem snew_spec {k n : Int} : Spec Tryz.prog main badT 47 #[.int .i64 k, .int .i64 n] [] (fun v As => ∃ b, v = ptrV b ∧ As = [sxP b (newSX k n)]) := by
 refine Spec.of ?_
 intro R C kd d F c cs hkd hret
 simp only [List.cons_append, List.nil_append]
 refine C.go ?_
 refine C.rg [0] ?_
 refine C.asg rfl ?_
 refine C.go ?_
 refine C.rg [0, 1, 2, 3, 4, 5] ?_
 refine C.mv rfl ?_
 refine C.mv rfl ?_
 refine C.clR fresh_spec ?_
 rintro v As' ⟨bv, bl, bp, bd, be, bu, rfl, rfl⟩
 simp only [List.cons_append, List.nil_append]
 refine C.bd rfl ?_
 refine C.bx rfl (fun b9 => ?_)
 refine C.asg rfl ?_
 refine C.go ?_
 refine At.nilS entC 1 272 (At.nilS alC 4 263 (At.nilS msgC 7 190 (At.nilS msgC 7 190 ?_)))
 refine At.nilA (show At R d (all (([] : List (Int × UnpV)).map unpE) :: _) _ from ?_)
 refine sxP.cls ⟨k, n, true, [], 0, [], [], [], [], [], [], [], 0, 0, [], []⟩ ?_ (tl := []) (lg := nilS) (wt := nilS) (ot := nilS) (tm := nilS) (TimJ.zero 0)
 exact C.retR (As' := [sxP b9 ⟨k, n, true, [], 0, [], [], [], [], [], [], [], 0, 0, [], []⟩]) hkd hret ⟨_, rfl, rfl⟩
end Go.Sl
end
section
set_option linter.unusedVariables false
namespace Go.Sl
open Go.Proofs
variable {main : Bool}
theorem shAt_spec {key n : Int} (h1 : 97 ≤ key ∧ key ≤ 122) (hn : 1 ≤ n) : Spec Tryz.prog main badT 101 #[.int .u8 key, .int .i64 n] [] (fun v As => v = .int .i64 (atR key n) ∧ As = []) := by
 refine Spec.of ?_
 intro R C kd d F c cs hkd hret
 simp only [List.nil_append]
 refine C.go ?_
 refine C.rg [0] ?_
 refine C.asg rfl ?_
 refine C.go ?_
 refine C.rg [0, 1, 2, 3, 4, 5] ?_
 refine C.mv rfl ?_
 refine C.ar rfl ?_
 refine C.cv rfl ?_
 refine C.mv rfl ?_
 refine C.rem rfl ?_
 refine C.asg rfl ?_
 refine C.go ?_
 exact C.retR hkd hret ⟨rfl, rfl⟩
theorem clone_spec {I : HL} {so : SliceV} {ops : List OpR} (ho : imSl I opPC 67 so ops) (hl : ops.length < 2 ^ 43) : Spec Tryz.prog main badT 55 #[so.v] [imm I] (fun v As => ∃ s', v = s'.v ∧ As = [slP opPC 3 67 s' ops, imm I]) := by
 refine Spec.of ?_
 intro R C kd d F c cs hkd hret
 simp only [List.cons_append, List.nil_append]
 rcases ho with ⟨rfl, rfl⟩ | ⟨pad, h1, h2⟩
 ·skip
  refine C.go ?_
  refine C.rg [0] ?_
  refine C.asg rfl ?_
  refine C.go ?_
  refine C.rg [0, 1] ?_
  refine C.mv rfl ?_
  refine C.eqS rfl ?_ (a := none) (len := 0) (cap := 0)
  refine C.go ?_
  refine C.tru ?_
  refine C.rg [0] ?_
  refine C.asg rfl ?_
  refine C.go ?_
  refine At.nilS opPC 3 67 ?_
  exact C.retR hkd hret ⟨nilS, rfl, rfl⟩
 ·have ho : imSl I opPC 67 so ops := .inr ⟨pad, h1, h2⟩
  have hv : so.v = .slice (some ⟨so.b, 0, none⟩) so.len so.cap := by unfold SliceV.v; rw [show so.a = some ⟨so.b, 0, none⟩ from congrArg SliceV.a h1]
  refine C.go ?_
  refine C.rg [0] ?_
  refine C.asg rfl ?_
  refine C.go ?_
  refine C.rg [0, 1] ?_
  refine C.mv rfl ?_
  refine C.eqS rfl ?_ (a := some ⟨so.b, 0, none⟩) (len := so.len) (cap := so.cap) (hx := hv)
  refine C.go ?_
  refine C.fls ?_
  refine C.rg [0, 1, 2, 3] ?_
  refine C.bs0 opPC rfl (fun b5 => ?_)
  refine C.mv rfl ?_
  refine C.apR (l := []) ops rfl (fun s' => ?_) (hsrc := fun H st => ?_) (s := ⟨some ⟨b5, 0, none⟩, 0, 0⟩)
  ·skip
   refine C.asg rfl ?_
   refine C.go ?_
   exact C.retR hkd hret ⟨s', rfl, rfl⟩
  ·exact RowS.src (RowS.imm (by (repeat (first | with_reducible exact Fo.head | with_reducible apply Fo.tail))) ho) st (fun j => rfl)
end Go.Sl
end
section
set_option linter.unusedVariables false
namespace Go.Sl
section
variable {R : Nat → Goroutine → Array Obj → Prop} {d : Nat} {As F L : List HP} {g : Goroutine} {V : Type} {f : Int × V → HP} {m : List (Int × V)} {k : Int} {v : V}
end
section
variable {P : Program} {main : Bool} {B : Bad} {R : Nat → Goroutine → Array Obj → Prop} {d : Nat} {As L : List HP}
variable {fn : FuncId} {kd : Kd} {n : Nat} {e : Nat → Value} {ds : List Deferred} {k : List Item} {cs : List Frame}
variable {ops : Array Oper} {i : Nat} {rest : List Nat} {dst : Option Nat} {t : Nat} {ty : TypeId} {pos : String} {af : Array Edge} {gd : Option (Nat × Bool)} {x y z : Operand} {v : Value} {b : Nat} {tt key el : TypeId} {kk : IntKind} {V : Type} {g : V → Value} {l : List (Int × V)} {q : Int}
theorem Closed.eqZp (C : Closed P main B R) {op : BinOp} {r : Bool} {tt t2 el : TypeId} [cE : Pt P tt el] {a : Option Addr} (ho : nthO ops i = some ⟨some t, .binOp op tt x y t2, ty, pos, af, gd⟩) (h : At R d As (gr fn kd n (put e t (.bool (a.isNone == r))) ds (.inRegion ops rest :: k) cs))
  (hop : isEq op = some r := by rfl) (hx : ev n e x = .pointer a := by rfl) (hy : ev n e y = .pointer none := by rfl) (hw : wantB ops n e gd = true := by rfl) : At R d As (gr fn kd n e ds (.inRegion ops (i :: rest) :: k) cs) :=
 C.v0 ho h (by
  unfold execOp; simp only [hx, hy]
  refine ev0_do (a := .bool (a.isNone == r)) ?_ rfl
  have h0 : ev0 P (Op.equal tt (.pointer a) (.pointer none)) = some a.isNone := by
   unfold Op.equal
   show ev0 P (Op.equalIn (9998 + 1 + 1) _ _ _) = _
   unfold Op.equalIn
   refine ev0_do (ev0_und cE.h) ?_
   cases a <;> rfl
  cases op <;> first | (cases hop; done) | skip
  ·obtain rfl := Option.some.inj hop
   refine ev0_do (a := ()) (by unfold eqGuard; rfl) ?_
   refine ev0_do h0 ?_
   cases a <;> rfl
  ·obtain rfl := Option.some.inj hop
   refine ev0_do (a := ()) (by unfold eqGuard; rfl) ?_
   refine ev0_do h0 ?_
   cases a <;> rfl) hw
end
end Go.Sl
end
section
set_option linter.unusedVariables false
namespace Go.Sl
open Go.Proofs
variable {main : Bool}
theorem at_spec {key n : Int} (h1 : -1000 < key) (h2 : key < 1000) (hn : 0 < n) : Spec Tryz.prog main badT 61 #[.int .i64 key, .int .i64 n] [] (fun v As => v = .int .i64 (atR key n) ∧ As = []) := by
 refine Spec.of ?_
 intro R C kd d F c cs hkd hret
 simp only [List.nil_append]
 refine C.go ?_
 refine C.rg [0] ?_
 refine C.asg rfl ?_
 refine C.go ?_
 refine C.rg [0, 1, 2, 3, 4] ?_
 refine C.mv rfl ?_
 refine C.ar rfl ?_
 refine C.mv rfl ?_
 refine C.rem rfl ?_
 refine C.asg rfl ?_
 refine C.go ?_
 exact C.retR hkd hret ⟨rfl, rfl⟩
end Go.Sl
end
section
namespace Go.Sl
theorem findD_lt {log : List RecR} {kind tx : Int} : ∀ {n i : Nat}, findD log kind tx n = some i → i < n ∧ ∃ r, log[i]? = some r ∧ r.kind = kind ∧ r.tx = tx
 | 0, i, h => by cases h
 | n + 1, i, h => by
  unfold findD at h
  split at h
  ·rename_i hh
   obtain rfl := Option.some.inj h
   refine ⟨by omega, ?_⟩
   cases e : log[n]? with
   | none => rw [e] at hh; simp at hh
   | some r => rw [e] at hh; exact ⟨r, rfl, by simpa [isRec] using hh⟩
  ·obtain ⟨h1, h2⟩ := findD_lt h; exact ⟨by omega, h2⟩
theorem findR_some {log : List RecR} {kind tx : Int} {i : Nat} (h : findR log kind tx = some i) : i < log.length ∧ ∃ r, log[i]? = some r ∧ r.kind = kind ∧ r.tx = tx := findD_lt h
theorem findD_none {log : List RecR} {kind tx : Int} : ∀ {n : Nat}, findD log kind tx n = none ↔ ∀ i r, i < n → log[i]? = some r → ¬ (r.kind = kind ∧ r.tx = tx)
 | 0 => by simp [findD]
 | n + 1 => by
  unfold findD
  constructor
  ·intro h i r hi hr
   split at h
   ·cases h
   ·rename_i hh
    rcases Nat.lt_succ_iff_lt_or_eq.1 hi with h1 | rfl
    ·exact findD_none.1 h i r h1 hr
    ·rw [hr] at hh; simpa [isRec] using hh
  ·intro h
   split
   ·rename_i hh
    cases e : log[n]? with
    | none => rw [e] at hh; simp at hh
    | some r => rw [e] at hh; exact absurd (by simpa [isRec] using hh) (h n r (by omega) e)
   ·exact findD_none.2 fun i r hi => h i r (by omega)
theorem findR_none {log : List RecR} {kind tx : Int} : findR log kind tx = none ↔ ∀ r ∈ log, ¬ (r.kind = kind ∧ r.tx = tx) := by
 unfold findR
 rw [findD_none]
 constructor
 ·intro h r hr
  obtain ⟨i, hi⟩ := List.getElem?_of_mem hr
  exact h i r (List.getElem?_eq_some_iff.1 hi).1 hi
 ·intro h i r _ hr; exact h r (List.mem_of_getElem? hr)
end Go.Sl
end
section
namespace Go.Sl
theorem readyR_some {log : List RecR} {tx : Int} {i : Nat} (h : readyR log tx = some i) : findR log 3 tx = none ∧ findR log 1 tx = some i := by
 unfold readyR at h
 split at h
 ·cases h
 ·rename_i hh; exact ⟨by simpa using hh, h⟩
structure KL (E : List EntP) (P : ShP) (L : List HeldR) (V : List Int) : Prop where
 pend : ∀ tx, getM P.pend tx = (readyR (E.map EntP.recd) tx).bind fun i => ((E.map EntP.recd)[i]?).map fun r => ⟨i, r.home, r.ops⟩
 pn : (P.pend.map (·.1)).Nodup
 done : ∀ tx, getM P.done tx = (findR (E.map EntP.recd) 3 tx).bind fun i => ((E.map EntP.recd)[i]?).map fun r => ⟨i, r.yes⟩
 decd : ∀ tx, getM P.decd tx = (findR (E.map EntP.recd) 2 tx).bind fun i => ((E.map EntP.recd)[i]?).map fun r => ⟨i, r.yes⟩
 lock : ∀ k, getM P.locks k = (L.find? fun h => h.key == k).map (·.tx)
 pl : (P.locks.map (·.1)).Nodup
 ln : (L.map (·.key)).Nodup
 lk : ∀ h ∈ L, ∃ i r, readyR (E.map EntP.recd) h.tx = some i ∧ (E.map EntP.recd)[i]? = some r ∧ ∃ o ∈ r.ops, o.k = h.key
 lo : ∀ tx i r, readyR (E.map EntP.recd) tx = some i → (E.map EntP.recd)[i]? = some r → ∀ o ∈ r.ops, ⟨o.k, tx⟩ ∈ L
 vals : ∀ k, 97 ≤ k → k ≤ 122 → (getM P.values k).getD 0 = V[(k - 97).toNat]?.getD 0
 vlen : V.length = 26
 vn : (P.values.map (·.1)).Nodup
 vk : ∀ p ∈ P.values, 97 ≤ p.1 ∧ p.1 ≤ 122
theorem KL.start (P : ShP) : KL [] (freshP P) [] zeros26 := by
 have h0 : ∀ kind tx, findR ([] : List RecR) kind tx = none := fun _ _ => rfl
 have h1 : ∀ tx, readyR ([] : List RecR) tx = none := fun _ => rfl
 refine ⟨fun tx => by simp [h1, freshP, getM], by simp [freshP], fun tx => by simp [h0, freshP, getM], fun tx => by simp [h0, freshP, getM], fun k => by simp [freshP, getM], by simp [freshP], by simp, by simp, fun tx i r h => by simp [h1] at h, fun k h1 h2 => ?_, rfl, by simp [freshP], by simp [freshP]⟩
 simp only [freshP, getM, Option.getD_none, zeros26]
 rw [List.getElem?_replicate]; split <;> rfl
section
variable {E : List EntP} {P : ShP} {L : List HeldR} {V : List Int}
theorem getE (e : EntP) (i : Nat) : ((E ++ [e]).map EntP.recd)[i]? = if i = E.length then some e.recd else (E.map EntP.recd)[i]? := by
 rw [List.map_append, List.getElem?_append]
 simp only [List.length_map, List.map_cons, List.map_nil]
 split
 ·rename_i h; rw [if_neg (by omega)]
 ·rename_i h
  split
  ·rename_i h2; subst h2; simp
  ·rename_i h2
   rw [List.getElem?_eq_none (by simp; omega), List.getElem?_eq_none (by simp; omega)]
end
end Go.Sl
end
section
namespace Go.Sl
def opsOf (T : List (List OpR)) (tx : Int) : Option (List OpR) := if tx < 0 then none else T[tx.toNat]?
def nRd (l : List OpR) : Nat := (l.filter fun o => !o.w).length
def MsgOk (T : List (List OpR)) (n : Int) (m : MsgR) : Prop := ∃ ops, opsOf T m.tx = some ops ∧
 ((m.kind = 1 ∧ m.frm = -1 ∧ m.to = homeR ops n ∧ m.ops = ops) ∨
 (m.kind = 2 ∧ m.frm = homeR ops n ∧ takesR ops m.to n = true ∧ m.ops = partR ops m.to n) ∨
 (m.kind = 3 ∧ m.to = homeR ops n ∧ takesR ops m.frm n = true ∧ (m.yes = true → m.reads.length = nRd (partR ops m.frm n)) ∧ m.ops = []) ∨
 (m.kind = 4 ∧ m.frm = homeR ops n ∧ takesR ops m.to n = true ∧ m.ops = []) ∨
 (m.kind = 5 ∧ m.to = homeR ops n ∧ takesR ops m.frm n = true ∧ m.ops = []) ∨
 (m.kind = 6 ∧ m.to = homeR ops n ∧ takesR ops m.frm n = true ∧ m.ops = []) ∨
 (m.kind = 7 ∧ m.to = -1 ∧ m.ops = []))
inductive LogOk (T : List (List OpR)) (n me : Int) : List EntP → Prop
 | nil : LogOk T n me []
 | prep {E : List EntP} {tx : Int} {ops : List OpR} : LogOk T n me E → opsOf T tx = some ops → takesR ops me n = true → findR (E.map EntP.recd) 1 tx = none → findR (E.map EntP.recd) 3 tx = none →
   (∀ t i r, readyR (E.map EntP.recd) t = some i → (E.map EntP.recd)[i]? = some r → ∀ o ∈ r.ops, ∀ o' ∈ partR ops me n, o.k ≠ o'.k) → LogOk T n me (E ++ [.prep tx (homeR ops n) (partR ops me n)])
 | dec {E : List EntP} {tx : Int} {yes : Bool} {reads : List Int} : LogOk T n me E → (opsOf T tx).isSome = true → LogOk T n me (E ++ [.dec tx yes reads])
 | don {E : List EntP} {tx : Int} {yes : Bool} : LogOk T n me E → (opsOf T tx).isSome = true → findR (E.map EntP.recd) 3 tx = none → LogOk T n me (E ++ [.don tx yes])
def TOk (T : List (List OpR)) : Prop := (∀ ops ∈ T, rightP ops) ∧ T.length ≤ 60
theorem opsOf_app {T : List (List OpR)} {tx : Int} {ops : List OpR} (more : List (List OpR)) (h : opsOf T tx = some ops) : opsOf (T ++ more) tx = some ops := by
 unfold opsOf at h ⊢
 split at h
 ·cases h
 ·rename_i hh; rw [if_neg hh, List.getElem?_append_left (List.getElem?_eq_some_iff.1 h).1]; exact h
theorem opsOf_lt {T : List (List OpR)} {tx : Int} {ops : List OpR} (h : opsOf T tx = some ops) : 0 ≤ tx ∧ tx.toNat < T.length ∧ ops ∈ T := by
 unfold opsOf at h
 split at h
 ·cases h
 ·exact ⟨by omega, (List.getElem?_eq_some_iff.1 h).1, List.mem_of_getElem? h⟩
theorem MsgOk.app {T : List (List OpR)} {n : Int} {m : MsgR} (more : List (List OpR)) (h : MsgOk T n m) : MsgOk (T ++ more) n m := by
 obtain ⟨ops, h1, h2⟩ := h; exact ⟨ops, opsOf_app more h1, h2⟩
theorem LogOk.app {T : List (List OpR)} {n me : Int} {E : List EntP} (more : List (List OpR)) (h : LogOk T n me E) : LogOk (T ++ more) n me E := by
 induction h with
 | nil => exact .nil
 | prep _ h1 h2 h3 h4 h5 ih => exact .prep ih (opsOf_app more h1) h2 h3 h4 h5
 | dec _ h1 ih =>
  obtain ⟨o, ho⟩ := Option.isSome_iff_exists.1 h1
  exact .dec ih (by rw [opsOf_app more ho]; rfl)
 | don _ h1 h2 ih =>
  obtain ⟨o, ho⟩ := Option.isSome_iff_exists.1 h1
  exact .don ih (by rw [opsOf_app more ho]; rfl) h2
theorem LogOk.prepd {T : List (List OpR)} {n me : Int} {E : List EntP} (h : LogOk T n me E) : ∀ (i : Nat) (r : RecR), (E.map EntP.recd)[i]? = some r → (∃ ops, opsOf T r.tx = some ops ∧ (r.kind = 1 → takesR ops me n = true ∧ r.ops = partR ops me n ∧ r.home = homeR ops n)) := by
 induction h with
 | nil => intro i r hr; simp at hr
 | @prep E tx ops h1 h2 h3 h4 h5 h6 ih =>
  intro i r hr
  rw [getE] at hr
  split at hr
  ·obtain rfl := Option.some.inj hr; exact ⟨ops, h2, fun _ => ⟨h3, rfl, rfl⟩⟩
  ·exact ih i r hr
 | @dec E tx yes reads h1 h2 ih =>
  intro i r hr
  rw [getE] at hr
  split at hr
  ·obtain rfl := Option.some.inj hr
   obtain ⟨o, ho⟩ := Option.isSome_iff_exists.1 h2
   exact ⟨o, ho, fun h => by simp [EntP.recd] at h⟩
  ·exact ih i r hr
 | @don E tx yes h1 h2 h3 ih =>
  intro i r hr
  rw [getE] at hr
  split at hr
  ·obtain rfl := Option.some.inj hr
   obtain ⟨o, ho⟩ := Option.isSome_iff_exists.1 h2
   exact ⟨o, ho, fun h => by simp [EntP.recd] at h⟩
  ·exact ih i r hr
theorem LogOk.ready {T : List (List OpR)} {n me : Int} {E : List EntP} (h : LogOk T n me E) {tx : Int} {i : Nat} {r : RecR} (hr : readyR (E.map EntP.recd) tx = some i) (hi : (E.map EntP.recd)[i]? = some r) :
  ∃ ops, opsOf T tx = some ops ∧ takesR ops me n = true ∧ r.ops = partR ops me n ∧ r.home = homeR ops n ∧ r.tx = tx ∧ r.kind = 1 := by
 obtain ⟨_, r', h1, h2, h3⟩ := findR_some (readyR_some hr).2
 rw [hi] at h1; obtain rfl := Option.some.inj h1
 obtain ⟨ops, h4, h5⟩ := h.prepd i r hi
 rw [h3] at h4
 exact ⟨ops, h4, (h5 h2).1, (h5 h2).2.1, (h5 h2).2.2, h3, h2⟩
theorem part_sub {ops : List OpR} {k n : Int} : (partR ops k n).Sublist ops := List.filter_sublist
theorem rightP.key {ops : List OpR} (h : rightP ops) {k n : Int} : ∀ o ∈ partR ops k n, 97 ≤ o.k ∧ o.k ≤ 122 := fun o ho => by
 have := h.1 o (part_sub.mem ho); exact ⟨this.1, this.2.1⟩
theorem TOk.of {T : List (List OpR)} (h : TOk T) {tx : Int} {ops : List OpR} (ho : opsOf T tx = some ops) : rightP ops := h.1 ops (opsOf_lt ho).2.2
structure UA (n : Int) (a : UndP) (b : UndR) : Prop where
 ops : a.ops = b.ops
 dec : a.dec = b.dec
 yes : a.yes = b.yes
 votes : ∀ k, getM a.votes k = (votedR b k).map (·.reads)
 vn : (a.votes.map (·.1)).Nodup
 an : (a.acks.map (·.1)).Nodup
 acks : ∀ k, (getM a.acks k).isSome = b.acks.contains k
 ap : ∀ p ∈ a.acks, 0 < p.2
 vt : ∀ p ∈ a.votes, takesR b.ops p.1 n = true ∧ p.2.length = nRd (partR b.ops p.1 n)
 at' : ∀ p ∈ a.acks, takesR b.ops p.1 n = true
structure UndOk (T : List (List OpR)) (n me : Int) (p : Int × UndP) (u : UndR) : Prop where
 tx : p.1 = u.tx
 ua : UA n p.2 u
 ops : opsOf T u.tx = some u.ops
 home : homeR u.ops n = me
inductive F2 {A B : Type} (r : A → B → Prop) : List A → List B → Prop
 | nil : F2 r [] []
 | cons {a : A} {b : B} {l : List A} {m : List B} : r a b → F2 r l m → F2 r (a :: l) (b :: m)
structure RelS (T : List (List OpR)) (n : Int) (P : ShP) (R : ShR) : Prop where
 me : P.me = R.me
 mb : 0 ≤ R.me ∧ R.me < n
 n1 : P.n = n
 n2 : R.n = n
 up : P.up = R.up
 log : P.log.map EntP.recd = R.log
 lok : LogOk T n R.me P.log
 good : P.good = R.good
 gl : 0 ≤ R.good ∧ R.good ≤ R.log.length
 timers : P.timers = R.timers
 clock : P.clock = R.clock
 waits : P.waits = R.waits
 out : P.out = R.out
 wo : ∀ m ∈ R.waits, MsgOk T n m
 oo : ∀ m ∈ R.out, MsgOk T n m
 tt : ∀ t ∈ R.timers, (opsOf T t.tx).isSome = true
 kl : R.up = true → KL P.log P R.locks R.vals
 un : R.up = true → (P.und.map (·.1)).Nodup
 und : R.up = true → F2 (UndOk T n R.me) P.und R.under
 ud : R.up = true → ∀ u ∈ R.under, u.dec = true → (findR R.log 2 u.tx).isSome = true
 dn : R.up = false → P.values = [] ∧ P.locks = [] ∧ R.vals = zeros26 ∧ R.locks = [] ∧ R.waits = [] ∧ R.under = []
theorem F2.mono {A B : Type} {r r' : A → B → Prop} (f : ∀ a b, r a b → r' a b) {l : List A} {m : List B} (h : F2 r l m) : F2 r' l m := by
 induction h with
 | nil => exact .nil
 | cons h _ ih => exact .cons (f _ _ h) ih
section
variable {T : List (List OpR)} {n me : Int}
end
theorem atR_lt {k n : Int} (hk : 97 ≤ k) (hn : 0 < n) : 0 ≤ atR k n ∧ atR k n < n := by
 unfold atR
 exact ⟨Int.tmod_nonneg _ (by omega), Int.tmod_lt_of_pos _ hn⟩
theorem takes_lt {ops : List OpR} {k n : Int} (hr : rightP ops) (hn : 0 < n) (h : takesR ops k n = true) : 0 ≤ k ∧ k < n := by
 unfold takesR at h
 have hne : partR ops k n ≠ [] := fun e => by rw [e] at h; simp at h
 obtain ⟨o, ho⟩ := List.exists_mem_of_ne_nil _ hne
 have h1 : o ∈ ops := part_sub.mem ho
 have h2 : atR o.k n = k := by simpa [partR, h1] using ho
 rw [← h2]; exact atR_lt (hr.1 o h1).1 hn
theorem mem_upto {n k : Int} : k ∈ upto n ↔ 0 ≤ k ∧ k < n := by
 unfold upto
 rw [List.mem_map]
 constructor
 ·rintro ⟨a, ha, rfl⟩
  have := List.mem_range.1 ha
  have h2 : Int.ofNat a = (a : Int) := rfl
  omega
 ·rintro ⟨h1, h2⟩
  exact ⟨k.toNat, List.mem_range.2 (by omega), by show ((k.toNat : Nat) : Int) = k; omega⟩
theorem sub_nodup_len {a b : List Int} (ha : a.Nodup) (h : ∀ x ∈ a, x ∈ b) : a.length ≤ b.length := by
 induction a generalizing b with
 | nil => simp
 | cons x a ih =>
  rw [List.nodup_cons] at ha
  have hx := h x (List.mem_cons_self ..)
  have := ih (b := b.erase x) ha.2 fun y hy => (List.mem_erase_of_ne (fun e : y = x => ha.1 (by rw [← e]; exact hy))).2 (h y (List.mem_cons_of_mem _ hy))
  rw [List.length_erase_of_mem hx] at this
  have : 0 < b.length := List.length_pos_of_mem hx
  simp; omega
end Go.Sl
end
section
set_option linter.unusedVariables false
namespace Go.Sl
open Go.Proofs
variable {main : Bool}
theorem forget_spec {b : Nat} {s : ShV} : Spec Tryz.prog main badT 28 #[.pointer (some ⟨b, 0, none⟩)] [shP b s]
  (fun v As => As = [shP b { s with vals := zeros26, locks := [], under := [], timers := [], waits := [], clock := 0 }]) := by
 refine Spec.of ?_
 intro R C kd d F c cs hkd hret
 simp only [List.cons_append, List.nil_append]
 refine shP.opn (h := fun lg vl lk un tm wt ot => ?_)
 refine C.go ?_
 refine C.rg [0, 1, 2, 3, 4] ?_
 refine C.mv rfl ?_
 refine C.ms (f := i64L) (a0 := (0 : Int)) rfl rfl (fun b3 => ?_)
 refine At.own (l := zeros26) (f := i64L) (z := 1) ⟨some ⟨b3, 0, none⟩, 26, 26⟩ [] rfl rfl (Nat.le_refl 26) .head ?_
 refine C.nc rfl ?_
 refine C.fa rfl ?_
 refine C.st rfl ?_
 refine C.go ?_
 refine C.rg [0, 1, 2, 3] ?_
 refine C.mv rfl ?_
 refine C.nc rfl ?_
 refine C.fa rfl ?_
 refine C.st rfl ?_
 refine C.go ?_
 refine C.rg [0, 1, 2, 3] ?_
 refine C.mv rfl ?_
 refine C.nc rfl ?_
 refine C.fa rfl ?_
 refine C.st rfl ?_
 refine C.go ?_
 refine C.rg [0, 1, 2, 3] ?_
 refine C.mv rfl ?_
 refine C.nc rfl ?_
 refine C.fa rfl ?_
 refine C.st rfl ?_
 refine C.go ?_
 refine C.rg [0, 1, 2, 3] ?_
 refine C.mv rfl ?_
 refine C.nc rfl ?_
 refine C.fa rfl ?_
 refine C.st rfl ?_
 refine C.go ?_
 refine C.rg [0, 1, 2, 3] ?_
 refine C.mv rfl ?_
 refine C.nc rfl ?_
 refine C.fa rfl ?_
 refine C.st rfl ?_
 refine C.go ?_
 refine At.nilS heldC 2 258 (At.nilS undC 6 287 (nilU (At.nilS timC 3 251 (At.nilS msgC 7 137 ?_))))
 refine shP.cls { s with vals := zeros26, locks := [], under := [], timers := [], waits := [], clock := 0 } ?_ (vl := ⟨some ⟨b3, 0, none⟩, 26, 26⟩) (lk := nilS) (un := nilS) (tm := nilS) (wt := nilS)
 exact C.finR hkd hret rfl
theorem upto_take {n : Int} {i : Nat} (hi : (i : Int) < n) : (upto n).take (i + 1) = (upto n).take i ++ [(i : Int)] := by
 have hl : i < (upto n).length := by simp [upto]; omega
 rw [List.take_succ_eq_append_getElem hl]
 congr 2
 simp [upto]
theorem upto_all {n : Int} {i : Nat} (hi : ¬ (i : Int) < n) : (upto n).take i = upto n := List.take_of_length_le (by simp [upto]; omega)
end Go.Sl
end
section
set_option linter.unusedVariables false
namespace Go.Sl
open Go.Proofs
variable {main : Bool}
abbrev msgA (m : MsgV) : Value := .agg #[.int .i64 m.kind, .int .i64 m.frm, .int .i64 m.to, .int .i64 m.tx, .bool m.yes, m.so.v, m.sr.v]
abbrev PtV := List OpR × SliceV
section
variable {R : Nat → Goroutine → Array Obj → Prop} {d : Nat} {As L L2 : List HP} {g : Goroutine} {m : List (Int × PtV)} {k : Int}
end
end Go.Sl
end
section
set_option linter.unusedVariables false
namespace Go.Sl
open Go.Conc
section
variable {P : Program} {main : Bool} {B : Bad} {R : Nat → Goroutine → Array Obj → Prop} {d : Nat} {As As' F : List HP}
variable {fn : FuncId} {kd : Kd} {n : Nat} {e : Nat → Value} {ds : List Deferred} {k : List Item} {cs : List Frame}
variable {ops : Array Oper} {i : Nat} {rest : List Nat} {dst : Option Nat} {t : Nat} {ty : TypeId} {pos : String} {af : Array Edge} {gd : Option (Nat × Bool)} {x y z : Operand} {v : Value}
theorem Closed.xi (C : Closed P main B R) {f : FuncId} {fu : Func} {ex : Array Value → Sem Value} [b : Ext_ P f fu ex] {recv : Operand} {name : String} {args : Array Operand} {ats : Array TypeId} {vl : List Value} {t0 : TypeId} {v0 rv : Value} (hm : ev0 P (method (P.types.size + Made.depth) t0 v0 name) = some (f, rv))
  (h : ∀ H, Sat As (hp H) → okS P B (ex (#[rv] ++ vl.toArray)) H d fun v H' d' => ∃ As', Sat As' (hp H') ∧ At R d' As' (gr fn kd n (putO e dst v) ds (.inRegion ops rest :: k) cs))
  (ho : nthO ops i = some ⟨dst, .call ⟨.invoke recv name, args, ats⟩, ty, pos, af, gd⟩ := by rfl) (hr : ev n e recv = .iface t0 v0 := by rfl) (hv : args.toList.map (ev n e) = vl := by rfl) (hw : wantB ops n e gd = true := by rfl) : At R d As (gr fn kd n e ds (.inRegion ops (i :: rest) :: k) cs) := by
 refine C.gen ho hw fun H s => ?_
 unfold execOp
 simp only
 refine okS_do ?_
 have hv' : args.map (ev n e) = vl.toArray := by rw [← hv, ← Array.toList_map, Array.toArray_toList]
 simp only [resolve, hr, hv']
 refine okS_pure ?_
 show okS P B (invoke (.fn (.method name) #[]) (#[.iface t0 v0] ++ vl.toArray)) H d _
 unfold invoke
 have e1 : (#[Value.iface t0 v0] ++ vl.toArray)[0]? = some (.iface t0 v0) := by simp
 have e2 : (#[Value.iface t0 v0] ++ vl.toArray).extract 1 (#[Value.iface t0 v0] ++ vl.toArray).size = vl.toArray := by simp
 simp only [e1, e2]
 unfold callMethod
 simp only
 refine okS_do (okS_ev0 (v := P) rfl ?_)
 refine okS_do (okS_ev0 hm ?_)
 simp only
 unfold callFunc
 refine okS_do ?_
 show okS P B _ H d _
 simp only [program, okS]
 rw [b.func]
 simp only [b.name, b.body, if_true, Bool.false_eq_true, if_false]
 refine okS_do ?_
 simp only [mark, okS, markOk, deafBy, true_and]
 simp only [b.nx, b.fd]
 refine okS_do (okS_mono (fun v H' d' q => ?_) (h H s))
 obtain ⟨As', s', q⟩ := q
 exact okS_pure ⟨As', s', q⟩
theorem Closed.xi0 (C : Closed P main B R) {f : FuncId} {fu : Func} {ex : Array Value → Sem Value} [b : Ext_ P f fu ex] {recv : Operand} {name : String} {args : Array Operand} {ats : Array TypeId} {vl : List Value} {t0 : TypeId} {v0 rv : Value} (hm : ev0 P (method (P.types.size + Made.depth) t0 v0 name) = some (f, rv)) (hx : ev0 P (ex (#[rv] ++ vl.toArray)) = some v)
  (h : At R d As (gr fn kd n (putO e dst v) ds (.inRegion ops rest :: k) cs)) (ho : nthO ops i = some ⟨dst, .call ⟨.invoke recv name, args, ats⟩, ty, pos, af, gd⟩ := by rfl) (hr : ev n e recv = .iface t0 v0 := by rfl) (hv : args.toList.map (ev n e) = vl := by rfl) (hw : wantB ops n e gd = true := by rfl) : At R d As (gr fn kd n e ds (.inRegion ops (i :: rest) :: k) cs) :=
 C.xi hm (fun H s => okS_ev0 hx ⟨As, s, h⟩) ho hr hv hw
theorem Closed.mi0 (C : Closed P main B R) {f : FuncId} {fu : Func} {c : Code} {nf : Nat} [b : Body P f fu c nf] {recv : Operand} {name : String} {args : Array Operand} {ats : Array TypeId} {vl : List Value} {t0 : TypeId} {v0 rv : Value} {A : List HP} {Q : Value → List HP → Prop} (hm : ev0 P (method (P.types.size + Made.depth) t0 v0 name) = some (f, rv)) (hs : Spec P main B f (rv :: vl).toArray A Q)
  (h : ∀ v As', Q v As' → At R d (As' ++ F) (gr fn kd n (putO e dst v) ds (.inRegion ops rest :: k) cs)) (ho : nthO ops i = some ⟨dst, .call ⟨.invoke recv name, args, ats⟩, ty, pos, af, gd⟩ := by rfl) (hr : ev n e recv = .iface t0 v0 := by rfl) (hv : args.toList.map (ev n e) = vl := by rfl)
  (hA : ReF A As F := by repeat (first | with_reducible exact ReF.nil | with_reducible exact Fo.head | with_reducible apply Fo.tail | with_reducible apply ReF.cons)) (hw : wantB ops n e gd = true := by rfl) : At R d As (gr fn kd n e ds (.inRegion ops (i :: rest) :: k) cs) := by
 have hv' : args.map (ev n e) = vl.toArray := by rw [← hv, ← Array.toList_map, Array.toArray_toList]
 refine C.en (o := ⟨dst, .call ⟨.invoke recv name, args, ats⟩, ty, pos, af, gd⟩) hs ?_ h ho hA hw
 unfold execOp
 simp only
 refine ev0_do (a := ⟨.fn (.method name) #[], #[.iface t0 v0] ++ vl.toArray⟩) ?_ ?_
 ·unfold resolve
  simp only [hr, hv']; rfl
 ·show ev0 P (invoke (.fn (.method name) #[]) (#[.iface t0 v0] ++ vl.toArray)) = _
  unfold invoke
  have e1 : (#[Value.iface t0 v0] ++ vl.toArray)[0]? = some (.iface t0 v0) := by simp
  have e2 : (#[Value.iface t0 v0] ++ vl.toArray).extract 1 (#[Value.iface t0 v0] ++ vl.toArray).size = vl.toArray := by simp
  simp only [e1, e2]
  unfold callMethod
  simp only
  refine ev0_do (a := P) rfl (ev0_do hm ?_)
  have e3 : #[rv] ++ vl.toArray = (rv :: vl).toArray := by simp
  simp only [e3]
  exact ev0_callFunc _
theorem Closed.taI (C : Closed P main B R) {xt tt t0 : TypeId} {want : Array (String × TypeId)} {inf : TypeInfo} {zv : Value} {mm : String} {vv : Value} (hu : P.underlying tt = some (.interface want)) (hi : P.info? t0 = some inf) (hmm : Instr.missingMethod want inf.methods = some mm) (hz : ∃ i, P.info? tt = some i ∧ i.zero = some zv) (ho : nthO ops i = some ⟨some t, .typeAssert x xt tt true, ty, pos, af, gd⟩)
  (h : At R d As (gr fn kd n (put e t (.tuple #[zv, .bool false])) ds (.inRegion ops rest :: k) cs)) (hx : ev n e x = .iface t0 vv := by rfl) (hw : wantB ops n e gd = true := by rfl) : At R d As (gr fn kd n e ds (.inRegion ops (i :: rest) :: k) cs) :=
 C.v0 ho h (by
  unfold execOp; simp only [hx]
  refine ev0_do (a := .tuple #[zv, .bool false]) ?_ rfl
  unfold Instr.typeAssert
  refine ev0_do (ev0_und hu) ?_
  simp only
  refine ev0_do (ev0_info hi) ?_
  simp only [hmm, if_true]
  exact ev0_do (ev0_zero hz) rfl) hw
theorem Closed.taY (C : Closed P main B R) {xt tt t0 : TypeId} {want : Array (String × TypeId)} {inf : TypeInfo} {vv : Value} (hu : P.underlying tt = some (.interface want)) (hi : P.info? t0 = some inf) (hmm : Instr.missingMethod want inf.methods = none) (ho : nthO ops i = some ⟨some t, .typeAssert x xt tt true, ty, pos, af, gd⟩)
  (h : At R d As (gr fn kd n (put e t (.tuple #[.iface t0 vv, .bool true])) ds (.inRegion ops rest :: k) cs)) (hx : ev n e x = .iface t0 vv := by rfl) (hw : wantB ops n e gd = true := by rfl) : At R d As (gr fn kd n e ds (.inRegion ops (i :: rest) :: k) cs) :=
 C.v0 ho h (by
  unfold execOp; simp only [hx]
  refine ev0_do (a := .tuple #[.iface t0 vv, .bool true]) ?_ rfl
  unfold Instr.typeAssert
  refine ev0_do (ev0_und hu) ?_
  simp only
  refine ev0_do (ev0_info hi) ?_
  simp only [hmm, if_true]
  rfl) hw
end
end Go.Sl
end
section
set_option linter.unusedVariables false
namespace Go.Sl
open Go.Proofs
variable {main : Bool}
structure Cnt (o a : Int) (s : ShX) : Prop where
 z : 0 ≤ a
 o : 0 ≤ s.order ∧ s.order ≤ o
 a : ∀ u ∈ s.und, ∀ p ∈ u.2.acks, 0 ≤ p.2 ∧ p.2 ≤ a
end Go.Sl
end
section
set_option linter.unusedVariables false
namespace Go.Sl
open Go.Proofs
variable {main : Bool}
abbrev msgK (b : Nat) (m : MsgV) : HP := pts b (.cells #[.int .i64 m.kind, .int .i64 m.frm, .int .i64 m.to, .int .i64 m.tx, .bool m.yes, m.so.v, m.sr.v] 190 (0, 0))
end Go.Sl
end
section
set_option linter.unusedVariables false
namespace Go.Sl
open Go.Proofs
variable {main : Bool}
theorem clone32_spec {I : HL} {so : SliceV} {ops : List Int} (ho : imSl I i32C 21 so ops) (hl : ops.length < 2 ^ 43) : Spec Tryz.prog main badT 79 #[so.v] [imm I] (fun v As => ∃ s', v = s'.v ∧ As = [slP i32C 1 21 s' ops, imm I]) := by
 refine Spec.of ?_
 intro R C kd d F c cs hkd hret
 simp only [List.cons_append, List.nil_append]
 rcases ho with ⟨rfl, rfl⟩ | ⟨pad, h1, h2⟩
 ·skip
  refine C.go ?_
  refine C.rg [0] ?_
  refine C.asg rfl ?_
  refine C.go ?_
  refine C.rg [0, 1] ?_
  refine C.mv rfl ?_
  refine C.eqS rfl ?_ (a := none) (len := 0) (cap := 0)
  refine C.go ?_
  refine C.tru ?_
  refine C.rg [0] ?_
  refine C.asg rfl ?_
  refine C.go ?_
  refine At.nilS i32C 1 21 ?_
  exact C.retR hkd hret ⟨nilS, rfl, rfl⟩
 ·have ho : imSl I i32C 21 so ops := .inr ⟨pad, h1, h2⟩
  have hv : so.v = .slice (some ⟨so.b, 0, none⟩) so.len so.cap := by unfold SliceV.v; rw [show so.a = some ⟨so.b, 0, none⟩ from congrArg SliceV.a h1]
  refine C.go ?_
  refine C.rg [0] ?_
  refine C.asg rfl ?_
  refine C.go ?_
  refine C.rg [0, 1] ?_
  refine C.mv rfl ?_
  refine C.eqS rfl ?_ (a := some ⟨so.b, 0, none⟩) (len := so.len) (cap := so.cap) (hx := hv)
  refine C.go ?_
  refine C.fls ?_
  refine C.rg [0, 1, 2, 3] ?_
  refine C.bs0 i32C rfl (fun b5 => ?_)
  refine C.mv rfl ?_
  refine C.apR (l := []) ops rfl (fun s' => ?_) (hsrc := fun H st => ?_) (s := ⟨some ⟨b5, 0, none⟩, 0, 0⟩)
  ·skip
   refine C.asg rfl ?_
   refine C.go ?_
   exact C.retR hkd hret ⟨s', rfl, rfl⟩
  ·exact RowS.src (RowS.imm (by (repeat (first | with_reducible exact Fo.head | with_reducible apply Fo.tail))) ho) st (fun j => rfl)
abbrev recA (r : RecR) (so sr : SliceV) : Value := .agg #[.int .i64 r.kind, .int .i64 r.tx, .bool r.yes, .int .i64 r.home, so.v, sr.v]
def RecQ (I : HL) (e : EntV) : Value → List HP → Prop := fun v As => ∃ so sr : SliceV, v = recA e.abs.recd so sr ∧ As = [slP opPC 3 67 so e.abs.recd.ops, slP i32C 1 21 sr e.abs.recd.reads, imm I]
theorem recp_spec {I : HL} {tx home : Int} {ops : List OpR} {so : SliceV} (ho : imSl I opPC 67 so ops) (hl : ops.length < 2 ^ 43) :
  Spec Tryz.prog main badT 276 #[(EntV.prep tx home ops so).pay] [imm I] (RecQ I (.prep tx home ops so)) := by
 refine Spec.of ?_
 intro R C kd d F c cs hkd hret
 simp only [List.cons_append, List.nil_append]
 refine C.go ?_
 refine C.rg [0, 1] ?_
 refine C.bx rfl (fun b1 => ?_)
 refine C.al rfl (fun b2 => ?_)
 refine C.go ?_
 refine C.drawnW [(3, 0), (4, 1), (5, 2), (6, 3), (7, 4), (8, 5), (9, 6), (10, 7)] [0, 1, 2, 3, 4, 5] [6, 7, 8] 2 ?_ (W := [pts b1 (.cells #[.int .i64 tx, .int .i64 home, so.v] 274 (0, 0))])
 refine Dr.pu ⟨_, rfl, rfl⟩ (fun _ _ _ h => C.fa rfl h) ?_
 refine Dr.ld ⟨_, rfl, rfl⟩ (fun _ hE _ _ h => C.ld rfl h) ?_
 refine Dr.pu ⟨_, rfl, rfl⟩ (fun _ _ _ h => C.fa rfl h) ?_
 refine Dr.ld ⟨_, rfl, rfl⟩ (fun _ hE _ _ h => C.ld rfl h) ?_
 refine Dr.pu ⟨_, rfl, rfl⟩ (fun _ _ _ h => C.fa rfl h) ?_
 refine Dr.ld ⟨_, rfl, rfl⟩ (fun _ hE _ _ h => C.ld rfl h) ?_
 refine Dr.chain rfl ?_ (fun _ s => Reo.sat (by ((try simp only [List.cons_append, List.nil_append]); (repeat (first | with_reducible exact Reo.refl | with_reducible exact Reo.nil | with_reducible exact Fo.head | with_reducible apply Fo.tail | with_reducible apply Reo.cons | with_reducible apply Reo.drop)); done)) s)
 refine Ch.n1 (t := 6) rfl ⟨_, rfl, fun e rest hk => ?_⟩
 refine C.clR (clone_spec ho hl) ?_
 rintro v As' ⟨s9, rfl, rfl⟩
 simp only [List.cons_append, List.nil_append]
 refine hk _ _ (.of (fun _ s => Reo.sat (by ((try simp only [List.cons_append, List.nil_append]); (repeat (first | with_reducible exact Reo.refl | with_reducible exact Reo.nil | with_reducible exact Fo.head | with_reducible apply Fo.tail | with_reducible apply Reo.cons | with_reducible apply Reo.drop)); done)) s)) ?_
 refine Ch.pu (i := 7) ⟨_, rfl, rfl⟩ (fun _ _ _ h => C.bd rfl h) ?_
 refine Ch.n1 (t := 8) rfl ⟨_, rfl, fun e rest hk => ?_⟩
 refine C.stS rfl ?_
 refine hk _ undef (.of (fun _ s => Reo.sat (by ((try simp only [List.cons_append, List.nil_append]); (repeat (first | with_reducible exact Reo.refl | with_reducible exact Reo.nil | with_reducible exact Fo.head | with_reducible apply Fo.tail | with_reducible apply Reo.cons | with_reducible apply Reo.drop)); done)) s)) ?_
 refine Ch.fin ?_
 refine C.go ?_
 refine At.nilS i32C 1 21 ?_
 exact C.retC (xs := #[.int .i64 1, .int .i64 tx, .bool false, .int .i64 home, s9.v, .slice none 0 0]) (A := [slP opPC 3 67 s9 ops, slP i32C 1 21 nilS [], imm I]) rfl hkd hret ⟨s9, nilS, rfl, rfl⟩
theorem recd_spec {I : HL} {tx : Int} {yes : Bool} {reads : List Int} {so : SliceV} (ho : imSl I i32C 21 so reads) (hl : reads.length < 2 ^ 43) :
  Spec Tryz.prog main badT 277 #[(EntV.dec tx yes reads so).pay] [imm I] (RecQ I (.dec tx yes reads so)) := by
 refine Spec.of ?_
 intro R C kd d F c cs hkd hret
 simp only [List.cons_append, List.nil_append]
 refine C.go ?_
 refine C.rg [0, 1] ?_
 refine C.bx rfl (fun b1 => ?_)
 refine C.al rfl (fun b2 => ?_)
 refine C.go ?_
 refine C.drawnW [(3, 0), (4, 1), (5, 2), (6, 3), (7, 4), (8, 5), (9, 6), (10, 7)] [0, 1, 2, 3, 4, 5] [6, 7, 8] 2 ?_ (W := [pts b1 (.cells #[.int .i64 tx, .bool yes, so.v] 277 (0, 0))])
 refine Dr.pu ⟨_, rfl, rfl⟩ (fun _ _ _ h => C.fa rfl h) ?_
 refine Dr.ld ⟨_, rfl, rfl⟩ (fun _ hE _ _ h => C.ld rfl h) ?_
 refine Dr.pu ⟨_, rfl, rfl⟩ (fun _ _ _ h => C.fa rfl h) ?_
 refine Dr.ld ⟨_, rfl, rfl⟩ (fun _ hE _ _ h => C.ld rfl h) ?_
 refine Dr.pu ⟨_, rfl, rfl⟩ (fun _ _ _ h => C.fa rfl h) ?_
 refine Dr.ld ⟨_, rfl, rfl⟩ (fun _ hE _ _ h => C.ld rfl h) ?_
 refine Dr.chain rfl ?_ (fun _ s => Reo.sat (by ((try simp only [List.cons_append, List.nil_append]); (repeat (first | with_reducible exact Reo.refl | with_reducible exact Reo.nil | with_reducible exact Fo.head | with_reducible apply Fo.tail | with_reducible apply Reo.cons | with_reducible apply Reo.drop)); done)) s)
 refine Ch.n1 (t := 6) rfl ⟨_, rfl, fun e rest hk => ?_⟩
 refine C.clR (clone32_spec ho hl) ?_
 rintro v As' ⟨s9, rfl, rfl⟩
 simp only [List.cons_append, List.nil_append]
 refine hk _ _ (.of (fun _ s => Reo.sat (by ((try simp only [List.cons_append, List.nil_append]); (repeat (first | with_reducible exact Reo.refl | with_reducible exact Reo.nil | with_reducible exact Fo.head | with_reducible apply Fo.tail | with_reducible apply Reo.cons | with_reducible apply Reo.drop)); done)) s)) ?_
 refine Ch.pu (i := 7) ⟨_, rfl, rfl⟩ (fun _ _ _ h => C.bd rfl h) ?_
 refine Ch.n1 (t := 8) rfl ⟨_, rfl, fun e rest hk => ?_⟩
 refine C.stS rfl ?_
 refine hk _ undef (.of (fun _ s => Reo.sat (by ((try simp only [List.cons_append, List.nil_append]); (repeat (first | with_reducible exact Reo.refl | with_reducible exact Reo.nil | with_reducible exact Fo.head | with_reducible apply Fo.tail | with_reducible apply Reo.cons | with_reducible apply Reo.drop)); done)) s)) ?_
 refine Ch.fin ?_
 refine C.go ?_
 refine At.nilS opPC 3 67 ?_
 exact C.retC (xs := #[.int .i64 2, .int .i64 tx, .bool yes, .int .i64 0, .slice none 0 0, s9.v]) (A := [slP opPC 3 67 nilS [], slP i32C 1 21 s9 reads, imm I]) rfl hkd hret ⟨nilS, s9, rfl, rfl⟩
theorem recn_spec {I : HL} {tx : Int} {yes : Bool} :
  Spec Tryz.prog main badT 278 #[(EntV.don tx yes).pay] [imm I] (RecQ I (.don tx yes)) := by
 refine Spec.of ?_
 intro R C kd d F c cs hkd hret
 simp only [List.cons_append, List.nil_append]
 refine C.go ?_
 refine C.rg [0, 1] ?_
 refine C.bx rfl (fun b1 => ?_)
 refine C.al rfl (fun b2 => ?_)
 refine C.go ?_
 refine C.rg [0, 1, 2, 3, 4, 5] ?_
 refine C.fa rfl ?_
 refine C.ld rfl ?_
 refine C.fa rfl ?_
 refine C.ld rfl ?_
 refine C.bd rfl ?_
 refine C.stS rfl ?_
 refine C.go ?_
 refine At.nilS i32C 1 21 (At.nilS opPC 3 67 ?_)
 exact C.retC (xs := #[.int .i64 3, .int .i64 tx, .bool yes, .int .i64 0, .slice none 0 0, .slice none 0 0]) (A := [slP opPC 3 67 nilS [], slP i32C 1 21 nilS [], imm I]) rfl hkd hret ⟨nilS, nilS, rfl, rfl⟩
theorem m_recp {v : Value} : ev0 Tryz.prog (method (Tryz.prog.types.size + Made.depth) 274 v "shardlog/shard.record") = some (276, v) := by kernel_rfl
theorem m_recd {v : Value} : ev0 Tryz.prog (method (Tryz.prog.types.size + Made.depth) 277 v "shardlog/shard.record") = some (277, v) := by kernel_rfl
theorem m_recn {v : Value} : ev0 Tryz.prog (method (Tryz.prog.types.size + Made.depth) 281 v "shardlog/shard.record") = some (278, v) := by kernel_rfl
section
variable {R : Nat → Goroutine → Array Obj → Prop} {d : Nat} {As F : List HP} {fn : FuncId} {kd : Kd} {n : Nat} {e : Nat → Value} {ds : List Deferred} {k : List Item} {cs : List Frame}
variable {ops : Array Oper} {i : Nat} {rest : List Nat} {dst : Option Nat} {ty : TypeId} {pos : String} {af : Array Edge} {gd : Option (Nat × Bool)}
set_option maxRecDepth 100000 in
theorem Closed.enr (C : Closed Tryz.prog main badT R) {recv : Operand} {ats : Array TypeId} {I : HL} {en : EntV} (hJ : en.J I)
  (h : ∀ v As', RecQ I en v As' → At R d (As' ++ F) (gr fn kd n (putO e dst v) ds (.inRegion ops rest :: k) cs)) (ho : nthO ops i = some ⟨dst, .call ⟨.invoke recv "shardlog/shard.record", #[], ats⟩, ty, pos, af, gd⟩ := by rfl) (hr : ev n e recv = en.val := by rfl)
  (hA : ReF [imm I] As F := by repeat (first | with_reducible exact ReF.nil | with_reducible exact Fo.head | with_reducible apply Fo.tail | with_reducible apply ReF.cons)) (hw : wantB ops n e gd = true := by rfl) : At R d As (gr fn kd n e ds (.inRegion ops (i :: rest) :: k) cs) := by
 cases en with
 | prep tx home ops so => exact C.mi0 m_recp (recp_spec hJ.1 (by have := hJ.2; omega)) h ho hr rfl hA hw
 | dec tx yes reads sr => exact C.mi0 m_recd (recd_spec hJ.1 (by have := hJ.2; omega)) h ho hr rfl hA hw
 | don tx yes => exact C.mi0 m_recn recn_spec h ho hr rfl hA hw
end
end Go.Sl
end
section
set_option linter.unusedVariables false
namespace Go.Sl
open Go.Proofs
variable {main : Bool}
abbrev sxC (b : Nat) (s : ShX) (lg wt ot tm : SliceV) (bv bl bp bd be bu : Nat) : HP := pts b (.cells #[.int .i64 s.me, .int .i64 s.n, .bool s.up, lg.v, .int .i64 s.good, .map (some bv), .map (some bl), .map (some bp), .map (some bd), .map (some be), .map (some bu), tm.v, .int .i64 s.order, .int .i64 s.clock, wt.v, ot.v] 180 (0, 0))
end Go.Sl
end
section
set_option linter.unusedVariables false
namespace Go.Sl
open Go.Proofs
variable {main : Bool}
theorem map_eraseIdx {X Y : Type} (f : X → Y) : ∀ (l : List X) (n : Nat), (l.eraseIdx n).map f = (l.map f).eraseIdx n
 | [], n => by simp
 | a :: l, 0 => rfl
 | a :: l, n + 1 => by simp [map_eraseIdx f l n]
end Go.Sl
end
section
set_option linter.unusedVariables false
namespace Go.Sl
theorem At.slPc {R : Nat → Goroutine → Array Obj → Prop} {d : Nat} {As L : List HP} {g : Goroutine} {α : Type} {f : α → List Value} {z : Nat} {el : TypeId} {s : SliceV} {l : List α} (hf : Fo (slP f z el s l) As L) (h1 : s = Go.Sl.nilS → l = [] → At R d As g) (h2 : s.a = some ⟨s.b, 0, none⟩ → s.len = l.length → At R d As g) : At R d As g := fun H st => by
 obtain ⟨hh, x, hs, hr⟩ := st.perm hf.perm
 rcases x with ⟨rfl, rfl⟩ | ⟨b, pad, e, -, -, -⟩
 ·exact h1 rfl rfl H st
 ·have e1 : s.b = b := by rw [e]; rfl
  exact h2 (by rw [e1, e]) (by rw [e]) H st
section
variable {P : Program} {main : Bool} {B : Bad} {R : Nat → Goroutine → Array Obj → Prop} {d : Nat} {As L : List HP}
variable {fn : FuncId} {kd : Kd} {n : Nat} {e : Nat → Value} {ds : List Deferred} {k : List Item} {cs : List Frame}
variable {ops : Array Oper} {i : Nat} {rest : List Nat} {dst : Option Nat} {t : Nat} {ty : TypeId} {pos : String} {af : Array Edge} {gd : Option (Nat × Bool)} {x y z : Operand} {tt t2 : TypeId} {kk : IntKind} {p q r : Int}
end
theorem src_take {α : Type} {f : α → List Value} {z : Nat} [rf : RowF f z] {el : TypeId} {s : SliceV} {l : List α} {As L : List HP} {H : Array Obj} {B : Bad} (hf : Fo (slP f z el s l) As L) (st : Sat As (hp H)) (hs : ∀ j, B.sh el j = false) (k : Nat) (hk : k < l.length) (h3 : s.a = some ⟨s.b, 0, none⟩) :
  SrcOk B H z (l.take k).length (.slice s.a k s.cap) (flat f (l.take k)) := by
 have e1 : (l.take k).length = k := by rw [List.length_take]; omega
 rw [e1]
 have h := RowS.srcP (B := B) (f := f) (el := el) (s := s) (l := l) (.own hf) st hs 0 k (by omega) s.cap s.a (fun _ => by rw [h3, Nat.zero_mul]) (fun _ => .inr ⟨0, h3, by intro z; rw [z] at hk; simp at hk, by omega⟩)
 rwa [List.drop_zero] at h
theorem src_drop {α : Type} {f : α → List Value} {z : Nat} [rf : RowF f z] {el : TypeId} {s : SliceV} {l : List α} {As L : List HP} {H : Array Obj} {B : Bad} (hf : Fo (slP f z el s l) As L) (st : Sat As (hp H)) (hs : ∀ j, B.sh el j = false) (k : Nat) (hk : k < l.length) (h5 : l.length ≤ s.cap) :
  SrcOk B H z (l.drop (k + 1)).length (.slice (some (if s.cap = k + 1 then ⟨s.b, 0, none⟩ else ⟨s.b, 0 + (k + 1) * z, none⟩)) (l.length - (k + 1)) (s.cap - (k + 1))) (flat f (l.drop (k + 1))) := by
 have e1 : (l.drop (k + 1)).length = l.length - (k + 1) := by rw [List.length_drop]
 rw [e1]
 have h := RowS.srcP (B := B) (f := f) (el := el) (s := s) (l := l) (.own hf) st hs (k + 1) (l.length - (k + 1)) (by omega) (s.cap - (k + 1)) (some (if s.cap = k + 1 then ⟨s.b, 0, none⟩ else ⟨s.b, 0 + (k + 1) * z, none⟩)) (fun hm => by rw [if_neg (by omega)]; simp) (fun _ => .inr (by
  by_cases hc : s.cap = k + 1
  ·exact ⟨0, by rw [if_pos hc], by intro z; rw [z] at hk; simp at hk, by omega⟩
  ·exact ⟨(k + 1) * z, by rw [if_neg hc]; simp, by intro z; rw [z] at hk; simp at hk, Nat.mul_le_mul_right z (by omega)⟩))
 rwa [List.take_of_length_le (by rw [List.length_drop]; exact Nat.le_refl _)] at h
end Go.Sl
end
section
set_option linter.unusedVariables false
namespace Go.Sl
open Go.Conc
def curOk (kk : IntKind) (es : Array MapEntry) (seen : Array Nat) (clock last : Nat) : List Int → Prop
 | [] => True
 | k :: _ => last = clock ∧ ∃ e ∈ es.toList, seen.back? = some e.born ∧ e.key = .int kk k
def itM {V : Type} (kk : IntKind) (g : V → Value) (mb ib : Nat) (l : List (Int × V)) (vis : List Int) : HP := fun h =>
 ∃ es clock since seen last, MapR kk es clock (mapV g l) ∧ (∀ e ∈ es.toList, e.born < since) ∧ since ≤ last ∧ since ≤ clock ∧ (∀ e ∈ es.toList, (seen.contains e.born = true ↔ ∃ k ∈ vis, e.key = .int kk k)) ∧ curOk kk es seen clock last vis ∧ all [pts mb (.map es clock), pts ib (.mapIter (some mb) since seen last)] h
section
variable {P : Program} {main : Bool} {B : Bad} {R : Nat → Goroutine → Array Obj → Prop} {d : Nat} {As As' L : List HP}
variable {fn : FuncId} {kd : Kd} {n : Nat} {e : Nat → Value} {ds : List Deferred} {k : List Item} {cs : List Frame}
variable {ops : Array Oper} {i : Nat} {rest : List Nat} {dst : Option Nat} {t : Nat} {ty : TypeId} {pos : String} {af : Array Edge} {gd : Option (Nat × Bool)} {x y z : Operand} {v u : Value} {b off : Nat} {c : Array Value} {el tt t2 key : TypeId}
variable {kk : IntKind} {V : Type} {g : V → Value} {l : List (Int × V)} {q : Int}
theorem Closed.rn (C : Closed P main B R) [cM : Mp P tt key el] (ho : nthO ops i = some ⟨some t, .range tt x, ty, pos, af, gd⟩) (h : ∀ ib, Nx R d (itM kk g b ib l [] :: L) fn kd n e ds ops rest k cs t (.pointer (some ⟨ib, 0, none⟩)))
  (hx : ev n e x = .map (some b) := by rfl) (hf : Fo (mapP kk g b l) As L := by repeat (first | with_reducible exact Fo.head | with_reducible apply Fo.tail)) (hw : wantB ops n e gd = true := by rfl) : Nw R d As fn kd n e ds ops i rest k cs :=
 C.gen ho hw fun H s => by
  have s' := s.perm hf.perm
  obtain ⟨hh, ⟨es, clock, mr, hpt⟩, hsub, hr⟩ := s'
  have hget : hp H b = some (.map es clock) := by subst hpt; exact hsub b _ (by simp [one])
  have s2 : Sat (pts b (.map es clock) :: L) (hp H) := ⟨hh, hpt, hsub, hr⟩
  unfold execOp; simp only [hx]
  refine okS_do ?_
  unfold Instr.range
  refine okS_do (pu_und cM.h B H d _ ?_)
  refine okS_do (okS_getObj hget rfl ?_)
  refine okS_do (okS_pure (okS_do ?_))
  show okS P B (.new _ _) H d _
  simp only [okS]
  show okS P B (pure _) _ d _
  refine okS_pure ⟨_, ?_, h H.size⟩
  have s3 := s2.push (.mapIter (some b) clock #[] clock)
  refine Sat.imp (fun h hh => ⟨es, clock, clock, #[], clock, mr, fun e he => mr.lt e he, Nat.le_refl _, Nat.le_refl _, fun e he => by simp, trivial, hh⟩) (Sat.unflat (l := [pts b (.map es clock), pts H.size (.mapIter (some b) clock #[] clock)]) s3.swap)
theorem size1 {X : Type} {a : Array X} (h : a.isEmpty = false) : 0 < a.size := by
 rcases Nat.eq_zero_or_pos a.size with h0 | h0
 ·simp [Array.isEmpty, h0] at h
 ·exact h0
theorem okS_next {mb ib : Nat} {vis : List Int} {As : List HP} {H : Array Obj} {tt : TypeId} {Q : Value → Array Obj → Nat → Prop} (s : Sat (itM kk g mb ib l vis :: As) (hp H))
  (q1 : ∀ k v H', (k, v) ∈ l → k ∉ vis → Sat (itM kk g mb ib l (k :: vis) :: As) (hp H') → Q (.tuple #[.bool true, .int kk k, g v]) H' d) (q2 : (∀ p ∈ l, p.1 ∈ vis) → Q (.tuple #[.bool false]) H d) : okS P B (Instr.next (.pointer (some ⟨ib, 0, none⟩)) false tt) H d Q := by
 obtain ⟨es, clock, since, seen, last, mr, hb, hsl, hsc, hseen, hcur, s⟩ : ∃ es clock since seen last, MapR kk es clock (mapV g l) ∧ (∀ e ∈ es.toList, e.born < since) ∧ since ≤ last ∧ since ≤ clock ∧ (∀ e ∈ es.toList, (seen.contains e.born = true ↔ ∃ k ∈ vis, e.key = .int kk k)) ∧ curOk kk es seen clock last vis ∧ Sat (all [pts mb (.map es clock), pts ib (.mapIter (some mb) since seen last)] :: As) (hp H) := by
  obtain ⟨h1, ⟨es, clock, since, seen, last, mr, a1, a2, a3, a4, a6, a5⟩, h2, h3⟩ := s
  exact ⟨es, clock, since, seen, last, mr, a1, a2, a3, a4, a6, h1, a5, h2, h3⟩
 have s := s.flat
 have hm : hp H mb = some (.map es clock) := s.get
 have hi : hp H ib = some (.mapIter (some mb) since seen last) := s.swap.get
 unfold Instr.next
 simp only
 refine okS_do (okS_getObj hi rfl ?_)
 simp only
 refine okS_do (okS_getObj hm rfl ?_)
 have hno : (!seen.isEmpty && !es.isEmpty && es.all fun x => decide (x.born ≥ last)) = false := by
  cases he : es.isEmpty with
  | true => simp
  | false =>
   have h0 := size1 he
   have : (es.all fun x => decide (x.born ≥ last)) = false := by
    rw [Array.all_eq_false]
    refine ⟨0, h0, ?_⟩
    have := hb es[0] (by simp)
    simp; omega
   rw [this]; simp
 simp only [hno, Bool.false_eq_true, if_false]
 generalize hL : es.filter (fun e => !seen.contains e.born) = left
 have hleft : ∀ e, e ∈ left ↔ e ∈ es ∧ ¬ (seen.contains e.born = true) := fun e => by rw [← hL]; simp
 have hold : left.filter (fun x => decide (x.born < since)) = left := by
  rw [Array.filter_eq_self]
  intro e he
  have := hb e (Array.mem_toList_iff.2 ((hleft e).1 he).1)
  simp; omega
 have hnew : left.filter (fun x => decide (x.born ≥ since)) = #[] := by
  rw [Array.filter_eq_empty_iff]
  intro e he
  have := hb e (Array.mem_toList_iff.2 ((hleft e).1 he).1)
  simp; omega
 rw [hold, hnew, Array.append_empty]
 refine okS_do ?_
 show okS P B (.choose _ _) H d _
 have hkv : ∀ e ∈ es.toList, ∃ k v, (k, v) ∈ l ∧ e.key = .int kk k ∧ e.val = g v := fun e he => by
  have : (e.key, e.val) ∈ kvL kk (mapV g l) := by rw [← mr.kv]; exact List.mem_map_of_mem (f := fun e : MapEntry => (e.key, e.val)) he
  obtain ⟨p, hp1, hp2⟩ := List.mem_map.1 this
  obtain ⟨p', hp3, hp4⟩ := List.mem_map.1 hp1
  subst hp4
  obtain ⟨h1, h2⟩ := Prod.mk.inj hp2
  exact ⟨p'.1, p'.2, hp3, h1.symm, h2.symm⟩
 have hvk : ∀ p ∈ l, ∃ e ∈ es.toList, e.key = .int kk p.1 := fun p hp => by
  have : (Value.int kk p.1, g p.2) ∈ es.toList.map (fun e => (e.key, e.val)) := by rw [mr.kv]; exact List.mem_map.2 ⟨(p.1, g p.2), List.mem_map.2 ⟨p, hp, rfl⟩, rfl⟩
  obtain ⟨e, h1, h2⟩ := List.mem_map.1 this
  exact ⟨e, h1, (Prod.mk.inj h2).1⟩
 cases hem : left.isEmpty with
 | true =>
  have hl0 : left = #[] := by simpa using hem
  have hall : ∀ p ∈ l, p.1 ∈ vis := fun p hp => by
   obtain ⟨e, he, hk⟩ := hvk p hp
   have : seen.contains e.born = true := by
    refine Classical.byContradiction fun hc => ?_
    have := (hleft e).2 ⟨Array.mem_toList_iff.1 he, hc⟩
    rw [hl0] at this; simp at this
   obtain ⟨k, hk1, hk2⟩ := (hseen e he).1 this
   rw [hk] at hk2
   injection hk2 with _ h2
   rw [h2]; exact hk1
  simp only [okS, Question.forced, hl0]
  simp only [if_true, Array.map_empty, Array.append_empty]
  exact q2 hall
 | false =>
  simp only [Bool.false_eq_true, if_false]
  have hnd : ∀ e1 ∈ es.toList, ∀ e2 ∈ es.toList, e1.key = e2.key → e1 = e2 := fun e1 h1 e2 h2 hk => by
   obtain ⟨i1, hi1⟩ := List.getElem?_of_mem h1
   obtain ⟨i2, hi2⟩ := List.getElem?_of_mem h2
   have g1 : ((kvL kk (mapV g l)).map (·.1))[i1]? = some e1.key := by rw [← mr.kv]; simp [hi1]
   have g2 : ((kvL kk (mapV g l)).map (·.1))[i2]? = some e1.key := by rw [← mr.kv, hk]; simp [hi2]
   have hn : ((kvL kk (mapV g l)).map (·.1)).Nodup := by
    have hmm : (kvL kk (mapV g l)).map (·.1) = ((mapV g l).map (·.1)).map (Value.int kk) := by simp [kvL]
    rw [hmm]
    exact List.Pairwise.map _ (fun a b h z => h (by injection z)) mr.nd
   have := nodup_at hn g1 g2
   subst this
   rw [hi1] at hi2; exact Option.some.inj hi2
  have hbn : ∀ e1 ∈ es.toList, ∀ e2 ∈ es.toList, e1.born = e2.born → e1 = e2 := fun e1 h1 e2 h2 hk => by
   obtain ⟨i1, hi1⟩ := List.getElem?_of_mem h1
   obtain ⟨i2, hi2⟩ := List.getElem?_of_mem h2
   have := nodup_at mr.bn (i := i1) (j := i2) (x := e1.born) (by simp [hi1]) (by simp [hi2, hk])
   subst this
   rw [hi1] at hi2; exact Option.some.inj hi2
  have main' : ∀ j, j < left.size → okS P B (match (#[] ++ left.map some)[j]? with
    | some (some e) => do
     setObj ib (.mapIter (some mb) since (seen.push e.born) clock)
     pure (.tuple #[.bool true, e.key, e.val])
    | some none => (pure (.tuple #[.bool false]) : Sem Value)
    | none => stuck "Next: no such candidate") H d Q := fun j hj => by
   have hg : (#[] ++ left.map some)[j]? = some (some left[j]) := by simp [hj]
   rw [hg]
   have hmem : left[j] ∈ left := Array.getElem_mem hj
   obtain ⟨he, hns⟩ := (hleft _).1 hmem
   have he' := Array.mem_toList_iff.2 he
   obtain ⟨k, v, hkl, hk, hv⟩ := hkv _ he'
   have s2 := (s.swap).set (o' := .mapIter (some mb) since (seen.push left[j].born) clock)
   refine okS_do (okS_setObj hi rfl rfl (okS_pure ?_))
   rw [hk, hv]
   refine q1 k v _ hkl (fun hvis => hns ((hseen _ he').2 ⟨k, hvis, hk⟩)) ?_
   refine Sat.imp (fun h hh => ⟨es, clock, since, seen.push left[j].born, clock, mr, hb, hsc, hsc, fun e hee => ?_, ⟨rfl, left[j], he', by simp, hk⟩, hh⟩) (Sat.unflat (l := [pts mb (.map es clock), pts ib (.mapIter (some mb) since (seen.push left[j].born) clock)]) s2.swap)
   have hpush : (seen.push left[j].born).contains e.born = true ↔ seen.contains e.born = true ∨ e.born = left[j].born := by simp [Array.mem_push]
   rw [hpush, hseen e hee]
   constructor
   ·rintro (⟨k', h1, h2⟩ | h1)
    ·exact ⟨k', List.mem_cons_of_mem _ h1, h2⟩
    ·have := hbn e hee _ he' h1
     exact ⟨k, List.mem_cons_self .., by rw [this]; exact hk⟩
   ·rintro ⟨k', h1, h2⟩
    rcases List.mem_cons.1 h1 with rfl | h1
    ·exact .inr (by rw [hnd e hee _ he' (h2.trans hk.symm)])
    ·exact .inl ⟨k', h1, h2⟩
  have hls := size1 hem
  simp only [okS]
  split
  ·refine main' 0 hls
  ·intro n
   have : Question.cut (.mapNext (#[] ++ left.map some).size) n = n % (#[] ++ left.map some).size := rfl
   rw [this]
   refine main' _ ?_
   have hsz : (#[] ++ left.map some).size = left.size := by simp
   rw [hsz]; exact Nat.mod_lt _ hls
theorem Closed.nx (C : Closed P main B R) {ib : Nat} {vis : List Int} (ho : nthO ops i = some ⟨some t, .next x false, ty, pos, af, gd⟩)
  (h1 : ∀ j w, (j, w) ∈ l → j ∉ vis → Nx R d (itM kk g b ib l (j :: vis) :: L) fn kd n e ds ops rest k cs t (.tuple #[.bool true, .int kk j, g w])) (h2 : (∀ p ∈ l, p.1 ∈ vis) → Nx R d (itM kk g b ib l vis :: L) fn kd n e ds ops rest k cs t (.tuple #[.bool false]))
  (hx : ev n e x = .pointer (some ⟨ib, 0, none⟩) := by rfl) (hf : Fo (itM kk g b ib l vis) As L := by repeat (first | with_reducible exact Fo.head | with_reducible apply Fo.tail)) (hw : wantB ops n e gd = true := by rfl) : Nw R d As fn kd n e ds ops i rest k cs :=
 C.gen ho hw fun H s => by
  unfold execOp; simp only [hx]
  exact okS_do (okS_next (s.perm hf.perm) (fun j w H' m nv s' => ⟨_, s', h1 j w m nv⟩) fun hall => ⟨_, s.perm hf.perm, h2 hall⟩)
theorem Closed.muI (C : Closed P main B R) {w : V} {ib : Nat} {vis : List Int} [cM : Mp P tt key el] [Ik P key kk] (hk : (getM l q).isSome = true) (ho : nthO ops i = some ⟨none, .mapUpdate tt x y z, ty, pos, af, gd⟩) (h : At R d (itM kk g b ib (setM l q w) vis :: L) (gr fn kd n e ds (.inRegion ops rest :: k) cs))
  (hx : ev n e x = .map (some b) := by rfl) (hy : ev n e y = .int kk q := by rfl) (hf : Fo (itM kk g b ib l vis) As L := by repeat (first | with_reducible exact Fo.head | with_reducible apply Fo.tail)) (hz : ev n e z = g w := by rfl) (hw : wantB ops n e gd = true := by rfl) : Nw R d As fn kd n e ds ops i rest k cs :=
 C.gen ho hw fun H s => by
  have s' := s.perm hf.perm
  obtain ⟨es, clock, since, seen, last, mr, hb, hsl, hsc, hseen, hcur, s2⟩ : ∃ es clock since seen last, MapR kk es clock (mapV g l) ∧ (∀ e ∈ es.toList, e.born < since) ∧ since ≤ last ∧ since ≤ clock ∧ (∀ e ∈ es.toList, (seen.contains e.born = true ↔ ∃ k ∈ vis, e.key = .int kk k)) ∧ curOk kk es seen clock last vis ∧ Sat (all [pts b (.map es clock), pts ib (.mapIter (some b) since seen last)] :: L) (hp H) := by
   obtain ⟨h1, ⟨es, clock, since, seen, last, mr, a1, a2, a3, a4, a6, a5⟩, h2, h3⟩ := s'
   exact ⟨es, clock, since, seen, last, mr, a1, a2, a3, a4, a6, h1, a5, h2, h3⟩
  have s2 := s2.flat
  have hget : hp H b = some (.map es clock) := s2.get
  unfold execOp; simp only [hx, hy, hz]
  refine okS_do ?_
  unfold Instr.mapUpdate
  refine okS_do (pu_und cM.h B H d _ ?_)
  refine okS_do (okS_getObj hget rfl ?_)
  refine okS_do (pu_checkKey B H d _ ?_)
  refine okS_do (pu_findKey mr.kv B H d _ ?_)
  cases hi : idxM q (mapV g l) 0 with
  | none =>
   have := (idx_none hi).1
   rw [mapV_get, Option.map_eq_none_iff] at this
   rw [this] at hk; cases hk
  | some jv =>
   obtain ⟨j, v0⟩ := jv
   obtain ⟨m, rfl, hn, _, hs2, _⟩ := idx_some hi
   obtain ⟨e0, he, hke, _⟩ := kv_get mr.kv hn
   simp only [Nat.zero_add, arr_list, he, Option.map_some, Option.getD_some, hke]
   refine okS_do (pu_keep B H d _ ?_)
   refine okS_setObj hget rfl rfl ⟨_, ?_, h⟩
   refine Sat.imp (fun h hh => ⟨_, clock, since, seen, last, ?_, ?_, hsl, hsc, ?_, ?_, hh⟩) (Sat.unflat (l := [pts b _, pts ib (.mapIter (some b) since seen last)]) (s2.set))
   ·rw [← mapV_set]
    exact mr.modify hn (hs2 _) _ fun e' he' => ⟨rfl, rfl, rfl⟩
   ·intro e' he'
    have hl : (es.modify m fun e => { e with key := .int kk q, val := g w }).toList = es.toList.modify m fun e => { e with key := .int kk q, val := g w } := by simp
    rw [hl] at he'
    obtain ⟨i, hi'⟩ := List.getElem?_of_mem he'
    rw [List.getElem?_modify] at hi'
    obtain ⟨e2, h2, h3⟩ := Option.map_eq_some_iff.1 hi'
    have := hb e2 (List.mem_of_getElem? h2)
    split at h3 <;> (subst h3; exact this)
   ·intro e' he'
    have hl : (es.modify m fun e => { e with key := .int kk q, val := g w }).toList = es.toList.modify m fun e => { e with key := .int kk q, val := g w } := by simp
    rw [hl] at he'
    obtain ⟨i, hi'⟩ := List.getElem?_of_mem he'
    rw [List.getElem?_modify] at hi'
    obtain ⟨e2, h2, h3⟩ := Option.map_eq_some_iff.1 hi'
    have := hseen e2 (List.mem_of_getElem? h2)
    split at h3
    ·rename_i hmi
     subst h3
     subst hmi
     rw [he] at h2; obtain rfl := Option.some.inj h2
     rw [hke] at this
     exact this
    ·subst h3; exact this
   ·cases vis with
    | nil => trivial
    | cons k0 vis =>
     obtain ⟨h1, e1, he1, h2, h3⟩ := hcur
     refine ⟨h1, ?_⟩
     have hl : (es.modify m fun e => { e with key := .int kk q, val := g w }).toList = es.toList.modify m fun e => { e with key := .int kk q, val := g w } := by simp
     obtain ⟨i, hi'⟩ := List.getElem?_of_mem he1
     by_cases hmi : m = i
     ·subst hmi
      rw [he] at hi'; obtain rfl := Option.some.inj hi'
      refine ⟨{ e0 with key := .int kk q, val := g w }, ?_, h2, by rw [← h3, hke]⟩
      rw [hl]
      exact List.mem_of_getElem? (i := m) (by rw [List.getElem?_modify, he]; simp)
     ·refine ⟨e1, ?_, h2, h3⟩
      rw [hl]
      exact List.mem_of_getElem? (i := i) (by rw [List.getElem?_modify, hi']; simp [hmi])
theorem At.itM_end {ib : Nat} {vis : List Int} {gx : Goroutine} (hf : Fo (itM kk g b ib l vis) As L) (h : At R d (mapP kk g b l :: L) gx) : At R d As gx := fun H s => by
 have s' := s.perm hf.perm
 obtain ⟨h1, ⟨es, clock, since, seen, last, mr, a1, a2, a3, a4, a6, a5⟩, h2, h3⟩ := s'
 have s2 : Sat (all [pts b (.map es clock), pts ib (.mapIter (some b) since seen last)] :: L) (hp H) := ⟨h1, a5, h2, h3⟩
 exact h H ((s2.flat.swap.drop).imp fun h hh => ⟨es, clock, mr, hh⟩)
theorem Closed.ent (C : Closed P main B R) {ib : Nat} {j : Int} {w : V} {vis : List Int} (hg : getM l j = some w) (ho : nthO ops i = some ⟨some t, .entry x, ty, pos, af, gd⟩) (h : Nx R d As fn kd n e ds ops rest k cs t (.tuple #[.int kk j, g w]))
  (hf : Fo (itM kk g b ib l (j :: vis)) As L) (hx : ev n e x = .pointer (some ⟨ib, 0, none⟩) := by rfl) (hw : wantB ops n e gd = true := by rfl) : Nw R d As fn kd n e ds ops i rest k cs :=
 C.gen ho hw fun H s => by
  have s' := s.perm hf.perm
  obtain ⟨h1, ⟨es, clock, since, seen, last, mr, a1, a2, a3, a4, ⟨rfl, e0, he0, hb0, hk0⟩, a5⟩, h2, h3⟩ := s'
  have s2 : Sat ([pts b (.map es last), pts ib (.mapIter (some b) since seen last)] ++ L) (hp H) := Sat.flat ⟨h1, a5, h2, h3⟩
  have hm : hp H b = some (.map es last) := s2.get
  have hi : hp H ib = some (.mapIter (some b) since seen last) := s2.swap.get
  unfold execOp; simp only [hx]
  refine okS_do ?_
  unfold Instr.entry
  simp only
  refine okS_do (okS_getObj hi rfl ?_)
  simp only [hb0]
  refine okS_do (okS_getObj hm rfl ?_)
  simp only [bne_self_eq_false, Bool.false_eq_true, if_false]
  have hfind : es.find? (fun e => e.born == e0.born) = some e0 := by
   have hl : es.toList.find? (fun e => e.born == e0.born) = some e0 := by
    cases hf0 : es.toList.find? (fun e => e.born == e0.born) with
    | none =>
     have := List.find?_eq_none.1 hf0 e0 he0
     simp at this
    | some e1 =>
     have h1 := List.find?_some hf0
     have h2 := List.mem_of_find?_eq_some hf0
     obtain ⟨i1, hi1⟩ := List.getElem?_of_mem h2
     obtain ⟨i2, hi2⟩ := List.getElem?_of_mem he0
     have hbe : e1.born = e0.born := by simpa using h1
     have := nodup_at mr.bn (i := i1) (j := i2) (x := e0.born) (by simp [hi1, hbe]) (by simp [hi2])
     subst this
     rw [hi1] at hi2; exact congrArg some (Option.some.inj hi2)
   rw [← hl]; simp
  rw [hfind]
  have hval : e0.val = g w := by
   have : (e0.key, e0.val) ∈ kvL kk (mapV g l) := by rw [← mr.kv]; exact List.mem_map_of_mem (f := fun e : MapEntry => (e.key, e.val)) he0
   obtain ⟨p, hp1, hp2⟩ := List.mem_map.1 this
   obtain ⟨hk1, hk2⟩ := Prod.mk.inj hp2
   have hpj : p.1 = j := by rw [hk0] at hk1; injection hk1
   have hgm := getM_of_mem mr.nd (show (j, p.2) ∈ mapV g l by rw [← hpj]; exact hp1)
   rw [mapV_get, hg] at hgm
   rw [← hk2]; exact (Option.some.inj hgm).symm
  simp only [hk0, hval]
  exact okS_pure (okS_pure ⟨As, s, h⟩)
end
end Go.Sl
end
section
set_option linter.unusedVariables false
namespace Go.Sl
open Go.Proofs
variable {main : Bool}
theorem mapP_nd {V : Type} {kk : IntKind} {g : V → Value} {b : Nat} {l : List (Int × V)} (h : HL) (x : mapP kk g b l h) : (l.map (·.1)).Nodup := by
 obtain ⟨es, clock, m, _⟩ := x
 have := m.nd
 simpa [mapV, Function.comp_def] using this
structure Come {V : Type} (l vl : List (Int × V)) : Prop where
 nd : (vl.map (·.1)).Nodup
 sub : ∀ p ∈ vl, p ∈ l
theorem Come.add {V : Type} {l vl : List (Int × V)} (h : Come l vl) {k : Int} {v : V} (hm : (k, v) ∈ l) (hn : k ∉ vl.map (·.1)) : Come l ((k, v) :: vl) :=
 ⟨List.nodup_cons.2 ⟨hn, h.nd⟩, fun p hp => by
  rcases List.mem_cons.1 hp with rfl | hp
  ·exact hm
  ·exact h.sub p hp⟩
theorem Come.len {V : Type} : ∀ {vl l : List (Int × V)}, Come l vl → vl.length ≤ l.length
 | [], l, _ => Nat.zero_le _
 | p :: vl, l, h => by
  obtain ⟨i, hi, e⟩ := List.getElem_of_mem (h.sub p (List.mem_cons_self ..))
  have nd := List.nodup_cons.1 h.nd
  have hc : Come (l.eraseIdx i) vl := ⟨nd.2, fun q hq => by
   have h1 := h.sub q (List.mem_cons_of_mem _ hq)
   have h2 := (perm_out hi).mem_iff.1 h1
   rcases List.mem_cons.1 h2 with h3 | h3
   ·exact absurd (List.mem_map.2 ⟨q, hq, by rw [h3, e]⟩) nd.1
   ·exact h3⟩
  have := hc.len
  rw [List.length_eraseIdx, if_pos hi] at this
  simp only [List.length_cons]; omega
theorem Come.all {V : Type} : ∀ {vl l : List (Int × V)}, Come l vl → (l.map (·.1)).Nodup → (∀ p ∈ l, p.1 ∈ vl.map (·.1)) → vl.Perm l
 | [], l, _, _, ha => by
  cases l with
  | nil => exact .refl _
  | cons p l => have := ha p (List.mem_cons_self ..); cases this
 | p :: vl, l, h, hl, ha => by
  obtain ⟨i, hi, e⟩ := List.getElem_of_mem (h.sub p (List.mem_cons_self ..))
  have nd := List.nodup_cons.1 h.nd
  have hp := perm_out hi
  rw [e] at hp
  have hl2 : ((p :: l.eraseIdx i).map (·.1)).Nodup := (hp.map (·.1)).nodup_iff.1 hl
  have hl3 := List.nodup_cons.1 hl2
  have hc : Come (l.eraseIdx i) vl := ⟨nd.2, fun q hq => by
   have h2 := hp.mem_iff.1 (h.sub q (List.mem_cons_of_mem _ hq))
   rcases List.mem_cons.1 h2 with h3 | h3
   ·exact absurd (List.mem_map.2 ⟨q, hq, by rw [h3]⟩) nd.1
   ·exact h3⟩
  refine ((hc.all hl3.2 fun q hq => ?_).cons p).trans hp.symm
  have h3 := ha q (hp.mem_iff.2 (List.mem_cons_of_mem _ hq))
  rcases List.mem_cons.1 h3 with h4 | h4
  ·exact absurd (List.mem_map.2 ⟨q, hq, h4⟩) hl3.1
  ·exact h4
theorem setM_new {V : Type} {l : List (Int × V)} {k : Int} {v : V} (h : k ∉ l.map (·.1)) : setM l k v = l ++ [(k, v)] := by
 cases hi : idxM k l 0 with
 | none => exact (idx_none hi).2.1 v
 | some nv =>
  obtain ⟨j, w⟩ := nv
  obtain ⟨n, -, h1, h2, -, -⟩ := idx_some hi
  exact absurd (List.mem_map.2 ⟨(k, w), List.mem_of_getElem? h1, rfl⟩) h
theorem plocks_spec {b : Nat} {s : ShX} : Spec Tryz.prog main badT 168 #[ptrV b] [sxP b s] (fun v As => ∃ b' l', v = .map (some b') ∧ l'.Perm s.locks ∧ As = [mapP .u8 int64V b' l', sxP b s]) := by
 refine Spec.of ?_
 intro R C kd d F c cs hkd hret
 simp only [List.cons_append, List.nil_append]
 refine sxP.opn (h := fun lg wt ot tm bv bl bp bd be bu tl ht => ?_)
 refine At.know (A := mapP .u8 int64V bl s.locks) (by (repeat (first | with_reducible exact Fo.head | with_reducible apply Fo.tail))) mapP_nd fun hnd => ?_
 refine C.go ?_
 refine C.rg [0] ?_
 refine C.asg rfl ?_
 refine C.go ?_
 refine C.rg [0, 1] ?_
 refine C.mm .u8 int64V rfl (fun b6 => ?_)
 refine C.asg rfl ?_
 refine C.go ?_
 refine C.rg [0, 1, 2, 3, 4, 5] ?_
 refine C.mv rfl ?_
 refine C.nc rfl ?_
 refine C.fa rfl ?_
 refine C.fa rfl ?_
 refine C.ld rfl ?_
 refine C.rn (g := int64V) (l := s.locks) rfl (fun b12 => ?_)
 refine C.go ?_
 refine C.loopR (X := List (Int × Int)) (fun vl => [(3, .map (some b6)), (12, .pointer (some ⟨b12, 0, none⟩))]) (fun vl => mapP .u8 int64V b6 vl.reverse :: itM .u8 int64V bl b12 s.locks (vl.map (·.1)) :: sxC b s lg wt ot tm bv bl bp bd be bu :: slP entC 1 272 lg s.log :: mapP .u8 int32V bv s.values :: mapP .i64 pndC bp s.pend :: mapP .i64 plcC bd s.done :: mapP .i64 plcC be s.decd :: mapP .i64 undG bu s.und :: all (s.und.map unpE) ::
 slP alC 4 263 tm tl :: slP msgC 7 190 wt s.waits :: slP msgC 7 190 ot s.out :: F) (fun vl => Come s.locks vl) (fun vl => s.locks.length - vl.length) [] ⟨rfl, rfl, trivial⟩ ⟨.nil, fun p hp => (nomatch hp)⟩ ?_ (hI := by rw [List.reverse_nil, List.map_nil]; ((try simp only [List.cons_append, List.nil_append]); (repeat (first | with_reducible exact Reo.refl | with_reducible exact Reo.nil | with_reducible exact Fo.head | with_reducible apply Fo.tail | with_reducible apply Reo.cons | with_reducible apply Reo.drop)); done))
 intro vl e hc ih
 refine C.go ?_
 refine C.rg [0, 1] ?_
 refine C.nx (g := int64V) (l := s.locks) rfl (fun k13 w13 m13 h13 => ?_) (fun h13 => ?_)
 ·skip
  refine C.ext rfl ?_
  refine C.go ?_
  refine C.tru ?_
  have hg12 := getM_of_mem hnd m13
  have hc' := hc.add m13 h13
  have hl' := hc'.len
  have hnew : k13 ∉ vl.reverse.map (·.1) := by rw [List.map_reverse, List.mem_reverse]; exact h13
  refine C.rg [0, 1, 2, 3, 4] ?_
  refine C.ent hg12 rfl ?_ (by (repeat (first | with_reducible exact Fo.head | with_reducible apply Fo.tail)))
  refine C.ext rfl ?_
  refine C.ext rfl ?_
  refine C.asg rfl ?_
  refine C.asg rfl ?_
  refine C.go ?_
  refine C.rg [0, 1, 2, 3] ?_
  refine C.mv rfl ?_
  refine C.mv rfl ?_
  refine C.mv rfl ?_
  refine C.mu (w := w13) (l := vl.reverse) (q := k13) rfl ?_
  refine C.go ?_
  refine again ih ((k13, w13) :: vl) hc' (by simp only [List.length_cons] at hl' ⊢; omega) (hr := ?_)
  rw [List.reverse_cons, ← setM_new hnew, List.map_cons]
  ((try simp only [List.cons_append, List.nil_append]); (repeat (first | with_reducible exact Reo.refl | with_reducible exact Reo.nil | with_reducible exact Fo.head | with_reducible apply Fo.tail | with_reducible apply Reo.cons | with_reducible apply Reo.drop)); done)
 ·skip
  refine C.ext rfl ?_
  refine C.go ?_
  refine C.fls ?_
  refine C.rg [0, 1] ?_
  refine C.mv rfl ?_
  refine C.asg rfl ?_
  refine C.go ?_
  refine At.itM_end (l := s.locks) (g := int64V) (by (repeat (first | with_reducible exact Fo.head | with_reducible apply Fo.tail))) ?_
  refine sxP.cls s ?_
  exact C.retR hkd hret ⟨b6, vl.reverse, rfl, (List.reverse_perm vl).trans (hc.all hnd h13), rfl⟩
theorem pvalues_spec {b : Nat} {s : ShX} : Spec Tryz.prog main badT 129 #[ptrV b] [sxP b s] (fun v As => ∃ b' l', v = .map (some b') ∧ l'.Perm (s.values.filter fun p => p.2 != 0) ∧ As = [mapP .u8 int32V b' l', sxP b s]) := by
 refine Spec.of ?_
 intro R C kd d F c cs hkd hret
 simp only [List.cons_append, List.nil_append]
 refine sxP.opn (h := fun lg wt ot tm bv bl bp bd be bu tl ht => ?_)
 refine At.know (A := mapP .u8 int32V bv s.values) (by (repeat (first | with_reducible exact Fo.head | with_reducible apply Fo.tail))) mapP_nd fun hnd => ?_
 refine C.go ?_
 refine C.rg [0] ?_
 refine C.asg rfl ?_
 refine C.go ?_
 refine C.rg [0, 1] ?_
 refine C.mm .u8 int32V rfl (fun b6 => ?_)
 refine C.asg rfl ?_
 refine C.go ?_
 refine C.rg [0, 1, 2, 3, 4, 5] ?_
 refine C.mv rfl ?_
 refine C.nc rfl ?_
 refine C.fa rfl ?_
 refine C.fa rfl ?_
 refine C.ld rfl ?_
 refine C.rn (g := int32V) (l := s.values) rfl (fun b12 => ?_)
 refine C.go ?_
 refine C.loopR (X := List (Int × Int)) (fun vl => [(3, .map (some b6)), (12, .pointer (some ⟨b12, 0, none⟩))]) (fun vl => mapP .u8 int32V b6 (vl.reverse.filter fun p => p.2 != 0) :: itM .u8 int32V bv b12 s.values (vl.map (·.1)) :: sxC b s lg wt ot tm bv bl bp bd be bu :: slP entC 1 272 lg s.log :: mapP .u8 int64V bl s.locks :: mapP .i64 pndC bp s.pend :: mapP .i64 plcC bd s.done :: mapP .i64 plcC be s.decd :: mapP .i64 undG bu s.und :: all (s.und.map unpE) ::
 slP alC 4 263 tm tl :: slP msgC 7 190 wt s.waits :: slP msgC 7 190 ot s.out :: F) (fun vl => Come s.values vl) (fun vl => s.values.length - vl.length) [] ⟨rfl, rfl, trivial⟩ ⟨.nil, fun p hp => (nomatch hp)⟩ ?_ (hI := by rw [List.reverse_nil, List.filter_nil, List.map_nil]; ((try simp only [List.cons_append, List.nil_append]); (repeat (first | with_reducible exact Reo.refl | with_reducible exact Reo.nil | with_reducible exact Fo.head | with_reducible apply Fo.tail | with_reducible apply Reo.cons | with_reducible apply Reo.drop)); done))
 intro vl e hc ih
 refine C.go ?_
 refine C.rg [0, 1] ?_
 refine C.nx (g := int32V) (l := s.values) rfl (fun k13 w13 m13 h13 => ?_) (fun h13 => ?_)
 ·skip
  refine C.ext rfl ?_
  refine C.go ?_
  refine C.tru ?_
  have hg12 := getM_of_mem hnd m13
  have hc' := hc.add m13 h13
  have hl' := hc'.len
  have hnew : k13 ∉ (vl.reverse.filter fun p => p.2 != 0).map (·.1) := fun h => h13 (by
   obtain ⟨p, hp, e⟩ := List.mem_map.1 h
   exact List.mem_map.2 ⟨p, List.mem_reverse.1 (List.mem_filter.1 hp).1, e⟩)
  refine C.rg [0, 1, 2, 3, 4] ?_
  refine C.ent hg12 rfl ?_ (by (repeat (first | with_reducible exact Fo.head | with_reducible apply Fo.tail)))
  refine C.ext rfl ?_
  refine C.ext rfl ?_
  refine C.asg rfl ?_
  refine C.asg rfl ?_
  refine C.go ?_
  refine C.rg [0, 1] ?_
  refine C.mv rfl ?_
  refine C.cmp rfl (fun h19 => ?_) (fun h19 => ?_)
  ·skip
   refine C.go ?_
   refine C.tru ?_
   refine C.rg [0, 1, 2, 3] ?_
   refine C.mv rfl ?_
   refine C.mv rfl ?_
   refine C.mv rfl ?_
   refine C.mu (w := w13) (l := vl.reverse.filter fun p => p.2 != 0) (q := k13) rfl ?_
   refine C.go ?_
   refine again ih ((k13, w13) :: vl) hc' (by simp only [List.length_cons] at hl' ⊢; omega) (hr := ?_)
   have e1 : ((k13, w13) :: vl).reverse.filter (fun p => p.2 != 0) = setM (vl.reverse.filter fun p => p.2 != 0) k13 w13 := by
    rw [setM_new hnew, List.reverse_cons, List.filter_append, List.filter_cons, if_pos (by simpa using h19), List.filter_nil]
   rw [e1, List.map_cons]
   ((try simp only [List.cons_append, List.nil_append]); (repeat (first | with_reducible exact Reo.refl | with_reducible exact Reo.nil | with_reducible exact Fo.head | with_reducible apply Fo.tail | with_reducible apply Reo.cons | with_reducible apply Reo.drop)); done)
  ·skip
   refine C.go ?_
   refine C.fls ?_
   refine again ih ((k13, w13) :: vl) hc' (by simp only [List.length_cons] at hl' ⊢; omega) (hr := ?_)
   have e1 : ((k13, w13) :: vl).reverse.filter (fun p => p.2 != 0) = vl.reverse.filter fun p => p.2 != 0 := by
    rw [List.reverse_cons, List.filter_append, List.filter_cons, if_neg (by simpa using h19), List.filter_nil, List.append_nil]
   rw [e1, List.map_cons]
   ((try simp only [List.cons_append, List.nil_append]); (repeat (first | with_reducible exact Reo.refl | with_reducible exact Reo.nil | with_reducible exact Fo.head | with_reducible apply Fo.tail | with_reducible apply Reo.cons | with_reducible apply Reo.drop)); done)
 ·skip
  refine C.ext rfl ?_
  refine C.go ?_
  refine C.fls ?_
  refine C.rg [0, 1] ?_
  refine C.mv rfl ?_
  refine C.asg rfl ?_
  refine C.go ?_
  refine At.itM_end (l := s.values) (g := int32V) (by (repeat (first | with_reducible exact Fo.head | with_reducible apply Fo.tail))) ?_
  refine sxP.cls s ?_
  exact C.retR hkd hret ⟨b6, vl.reverse.filter (fun p => p.2 != 0), rfl, ((List.reverse_perm vl).trans (hc.all hnd h13)).filter _, rfl⟩
end Go.Sl
end
section
set_option linter.unusedVariables false
namespace Go.Sl
open Go.Proofs
variable {main : Bool}
abbrev recE (r : RecV) : HP := all [slP opPC 3 67 r.so r.ops, slP i32C 1 21 r.sr r.reads]
section
variable {R : Nat → Goroutine → Array Obj → Prop} {d : Nat} {As F L : List HP} {g : Goroutine} {rs : List RecV}
theorem rec_add (r : RecV) (hr : ReF [slP opPC 3 67 r.so r.ops, slP i32C 1 21 r.sr r.reads, all (rs.map recE)] As L) (h : At R d (all ((rs ++ [r]).map recE) :: L) g) : At R d As g :=
 At.perm hr.perm fun H s => (all_add (f := recE) r (.cons .head (.cons .head .nil)) h) H (Sat.unflat (l := [slP opPC 3 67 r.so r.ops, slP i32C 1 21 r.sr r.reads]) s)
end
theorem precords_spec {I : HL} {b : Nat} {s : ShX} (hJ : ShJ I s) (hl : s.log.length < 2 ^ 30) : Spec Tryz.prog main badT 146 #[ptrV b] [sxP b s, imm I]
  (fun v As => ∃ (sl : SliceV) (rs : List RecV), v = .tuple #[sl.v, .int .i64 s.good] ∧ rs.map (·.toRecR) = s.log.map (·.abs.recd) ∧ As = [slP recC 6 167 sl rs, all (rs.map recE), sxP b s, imm I]) := by
 refine Spec.of ?_
 intro R C kd d F c cs hkd hret
 simp only [List.cons_append, List.nil_append]
 refine sxP.opn (h := fun lg wt ot tm bv bl bp bd be bu tl ht => ?_)
 refine C.go ?_
 refine C.rg [0, 1] ?_
 refine C.asg rfl ?_
 refine C.asg rfl ?_
 refine C.go ?_
 refine C.rg [0] ?_
 refine C.asg rfl ?_
 refine C.go ?_
 refine C.rg [0, 1, 2, 3, 4, 5] ?_
 refine C.mv rfl ?_
 refine C.nc rfl ?_
 refine C.fa rfl ?_
 refine C.ld rfl ?_
 refine C.lnR rfl ?_
 refine C.mv rfl ?_
 refine C.go ?_
 refine At.nilS recC 6 167 ?_
 refine At.nilA (show At R d (all (([] : List RecV).map recE) :: _) _ from ?_)
 refine C.loopR (X := Nat × SliceV × List RecV) (fun x => [(0, ptrV b), (4, x.2.1.v), (10, lg.v), (11, .int .i64 s.log.length), (12, .int .i64 x.1)]) (fun x => slP recC 6 167 x.2.1 x.2.2 :: all (x.2.2.map recE) :: sxO b s lg wt ot tm bv bl bp bd be bu tl (imm I :: F)) (fun x => x.1 ≤ s.log.length ∧ x.2.2.map (·.toRecR) = (s.log.take x.1).map (·.abs.recd)) (fun x => s.log.length - x.1) (0, nilS, []) ⟨rfl, rfl, rfl, rfl, rfl, trivial⟩ ⟨Nat.zero_le _, rfl⟩ ?_
 rintro ⟨i, s1, rs⟩ e ⟨hi, hrs⟩ ih
 dsimp only at hi hrs ⊢
 have hrl : rs.length = i := by have := congrArg List.length hrs; rw [List.length_map, List.length_map, List.length_take] at this; omega
 refine C.go ?_
 refine C.rg [0] ?_
 refine C.cmp rfl (fun h13 => ?_) (fun h13 => ?_)
 ·skip
  refine C.go ?_
  refine C.tru ?_
  have hi' : i < s.log.length := by simpa using h13
  have hje := hJ.log _ (List.getElem_mem hi')
  refine C.rg [0, 1, 2] ?_
  refine C.iaR rfl ?_
  refine C.ldR0 rfl ?_
  refine C.asg rfl ?_
  refine C.go ?_
  refine C.rg [0, 1, 2, 3, 4, 5] ?_
  refine C.mv rfl ?_
  refine C.mv rfl ?_
  refine C.enr hje ?_
  rintro v As' ⟨so, sr, rfl, rfl⟩
  simp only [List.cons_append, List.nil_append]
  refine C.bs1 rfl (fun b19 => ?_)
  refine C.ap1 (s := s1) (l := rs) (RecV.mk (s.log[i]'hi').abs.recd so sr) rfl (fun s2 => ?_)
  refine C.asg rfl ?_
  refine C.go ?_
  refine C.rg [0, 1] ?_
  refine C.ar rfl ?_
  refine C.mv rfl ?_
  refine C.go ?_
  refine rec_add (rs := rs) (RecV.mk (s.log[i]'hi').abs.recd so sr) (by (repeat (first | with_reducible exact ReF.nil | with_reducible exact Fo.head | with_reducible apply Fo.tail | with_reducible apply ReF.cons))) ?_
  refine again ih (i + 1, s2, rs ++ [RecV.mk (s.log[i]'hi').abs.recd so sr]) ⟨hi', ?_⟩ (by dsimp only; omega)
  rw [List.take_succ_eq_append_getElem hi', List.map_append, List.map_append, hrs]; rfl
 ·skip
  refine C.go ?_
  refine C.fls ?_
  refine C.drawn [(22, 0), (23, 1), (24, 2), (25, 3), (26, 4), (2, 5), (3, 6)] [0, 1, 2, 3, 4, 5, 6] [] 0 ?_
  refine Dr.pu ⟨_, rfl, rfl⟩ (fun _ _ _ h => C.mv rfl h) ?_
  refine Dr.pu ⟨_, rfl, rfl⟩ (fun _ _ _ h => C.mv rfl h) ?_
  refine Dr.pu ⟨_, rfl, rfl⟩ (fun _ _ _ h => C.nc rfl h) ?_
  refine Dr.pu ⟨_, rfl, rfl⟩ (fun _ _ _ h => C.fa rfl h) ?_
  refine Dr.ld ⟨_, rfl, rfl⟩ (fun _ hE _ _ h => C.ld rfl h) ?_
  refine Dr.pu ⟨_, rfl, rfl⟩ (fun _ _ _ h => C.asg rfl h) ?_
  refine Dr.pu ⟨_, rfl, rfl⟩ (fun _ _ _ h => C.asg rfl h) ?_
  refine Dr.chain rfl ?_
  refine Ch.fin ?_
  refine C.go ?_
  have e1 : s.log.take i = s.log := List.take_of_length_le (by simp at h13; omega)
  rw [e1] at hrs
  refine sxP.cls s ?_
  exact C.retR hkd hret ⟨s1, rs, rfl, hrs, rfl⟩
end Go.Sl
end
section
set_option linter.unusedVariables false
namespace Go.Sl
open Go.Proofs
def mkdG : TypeId → Nat → Bool := fun t o => t == 23 || t == 114 || (t == 92 && o == 5) || (t == 120 && o == 1)
def shG : TypeId → Nat → Bool := fun t o => t == 92 && (o == 7 || o == 8)
def barX : Bar := ⟨⟨badT.rd, shG, 0⟩, rfl, mkdG, shG, fun b t o h => by
 simp only [mkdG, badT, Bool.or_eq_true, Bool.and_eq_true] at h ⊢
 rcases h with ((h | h) | h) | h
 ·exact .inl (.inr h)
 ·exact .inl (.inl (.inr h))
 ·exact .inl (.inl (.inl h.1))
 ·exact .inr h.1, fun t o h => h⟩
theorem barLe (σ : Gh) : BLe (barX.bw σ) badT := ⟨fun b t o h => (Bar.le barX σ).rd b t o h, fun t o h => by
 have h : shG t o = true := h
 simp only [shG, badT, Bool.or_eq_true, Bool.and_eq_true] at h ⊢
 exact .inl (.inl (.inl h.1)), Nat.zero_le _⟩
abbrev clA (m : Int) (hosts bag txs dn : Value) (stopped : Bool) (st : Int) : Array Value := #[.int .i32 m, .int .u32 0, hosts, bag, txs, dn, .bool stopped, .int .u64 st, .int .u32 0]
abbrev clP (b : Nat) (m : Int) (hosts bag txs dn : Value) (stopped : Bool) (st : Int) : HP := pts b (.cells (clA m hosts bag txs dn stopped st) 92 (0, 0))
section
variable {σ : Gh} {b : Nat} {hosts bag txs dn : Value} {stopped : Bool} {st : Int}
theorem ilock_spec : Spec Tryz.prog true (barX.bw σ) 62 #[.pointer (some ⟨b, 0, none⟩)] [clP b 0 hosts bag txs dn stopped st] (fun v As => v = .tuple #[] ∧ As = [clP b 1 hosts bag txs dn stopped st]) := by
 refine Spec.of ?_
 intro R C kd d F c cs hkd hret
 simp only [List.cons_append, List.nil_append]
 refine C.go ?_
 refine C.rg [0] ?_
 refine C.xDis rfl ?_
 refine C.go ?_
 refine C.rg [0, 1, 2, 3] ?_
 refine C.mv rfl ?_
 refine C.nc rfl ?_
 refine C.fa rfl ?_
 refine C.xCasT rfl ?_
 refine C.go ?_
 refine C.tru ?_
 refine C.tru ?_
 refine C.rg [0] ?_
 refine C.xEna rfl ?_
 refine C.go ?_
 refine C.rg [0, 1, 2] ?_
 refine C.mv rfl ?_
 refine C.cvp rfl ?_
 refine C.xMk (mk := .acquire) (a := ⟨b, 0, none⟩) rfl ?_ (hm := fun H s => ⟨_, _, Has.get (by repeat (first | with_reducible exact Has.head | with_reducible apply Has.tail)) s⟩)
 refine C.go ?_
 exact C.retR hkd hret ⟨rfl, rfl⟩
theorem iunlock_spec : Spec Tryz.prog true (barX.bw σ) 63 #[.pointer (some ⟨b, 0, none⟩)] [clP b 1 hosts bag txs dn stopped st] (fun v As => v = .tuple #[] ∧ As = [clP b 0 hosts bag txs dn stopped st]) := by
 refine Spec.of ?_
 intro R C kd d F c cs hkd hret
 simp only [List.cons_append, List.nil_append]
 refine C.go ?_
 refine C.tru ?_
 refine C.rg [0, 1, 2, 3] ?_
 refine C.mv rfl ?_
 refine C.nc rfl ?_
 refine C.fa rfl ?_
 refine C.ld rfl ?_
 refine C.go ?_
 refine C.rg [0, 1, 2] ?_
 refine C.mv rfl ?_
 refine C.cvp rfl ?_
 refine C.xMk (mk := .releaseMerge) (a := ⟨b, 0, none⟩) rfl ?_ (hm := fun H s => ⟨_, _, Has.get (by repeat (first | with_reducible exact Has.head | with_reducible apply Has.tail)) s⟩)
 refine C.go ?_
 refine C.rg [0] ?_
 refine C.xDis rfl ?_
 refine C.go ?_
 refine C.rg [0, 1, 2, 3, 4] ?_
 refine C.mv rfl ?_
 refine C.nc rfl ?_
 refine C.fa rfl ?_
 refine C.xAdd (z' := 0) rfl ?_
 refine C.asg rfl ?_
 refine C.go ?_
 refine C.rg [0, 1] ?_
 refine C.mv rfl ?_
 refine C.cmpF rfl ?_
 refine C.go ?_
 refine C.fls ?_
 refine C.rg [0] ?_
 refine C.xEna rfl ?_
 refine C.go ?_
 exact C.finR hkd hret ⟨rfl, rfl⟩
theorem mlock_spec : Spec Tryz.prog true (barX.bw σ) 33 #[.pointer (some ⟨b, 0, none⟩)] [clP b 0 hosts bag txs dn stopped st] (fun v As => v = .tuple #[] ∧ As = [clP b 1 hosts bag txs dn stopped st]) := by
 refine Spec.of ?_
 intro R C kd d F c cs hkd hret
 simp only [List.cons_append, List.nil_append]
 refine C.go ?_
 refine C.rg [0, 1, 2, 3] ?_
 refine C.mv rfl ?_
 refine C.nc rfl ?_
 refine C.fa rfl ?_
 refine C.clR ilock_spec ?_
 rintro v As' ⟨rfl, rfl⟩
 simp only [List.cons_append, List.nil_append]
 refine C.go ?_
 exact C.finR hkd hret ⟨rfl, rfl⟩
theorem unlock_spec : Spec Tryz.prog true (barX.bw σ) 34 #[.pointer (some ⟨b, 0, none⟩)] [clP b 1 hosts bag txs dn stopped st] (fun v As => v = .tuple #[] ∧ As = [clP b 0 hosts bag txs dn stopped st]) := by
 refine Spec.of ?_
 intro R C kd d F c cs hkd hret
 simp only [List.cons_append, List.nil_append]
 refine C.go ?_
 refine C.rg [0, 1, 2, 3] ?_
 refine C.mv rfl ?_
 refine C.nc rfl ?_
 refine C.fa rfl ?_
 refine C.clR iunlock_spec ?_
 rintro v As' ⟨rfl, rfl⟩
 simp only [List.cons_append, List.nil_append]
 refine C.go ?_
 exact C.finR hkd hret ⟨rfl, rfl⟩
end
end Go.Sl
end
section
set_option linter.unusedVariables false
namespace Go.Sl
open Go.Proofs Go.Conc
instance : Zv Tryz.prog 73 (.agg #[]) := ⟨_, info_of Tryz.type73, rfl⟩
section
variable {P : Program} {n : Nat} {e : Nat → Value} {dst : Option Nat} {ty t1 t2 : TypeId} {pos : String} {af : Array Edge} {gd : Option (Nat × Bool)} {x y : Operand}
theorem ev0_sel2 {a b : Nat} {z1 z2 : Value} [c1 : Zv P t1 z1] [c2 : Zv P t2 z2] (hx : ev n e x = .chan (some a)) (hy : ev n e y = .chan (some b)) : ev0 P (execOp (ev n e) ⟨dst, .select #[⟨x, none, t1⟩, ⟨y, none, t2⟩] true, ty, pos, af, gd⟩) = some (.comm #[rcase a z1, rcase b z2] true .select) := by
 unfold execOp
 simp only
 refine ev0_do (a := #[rcase a z1, rcase b z2]) ?_ rfl
 have h1 : ev0 P (zeroValue t1) = some z1 := ev0_zero c1.h
 have h2 : ev0 P (zeroValue t2) = some z2 := ev0_zero c2.h
 rw [Array.mapM_eq_mapM_toList]
 simp only [List.mapM_cons, List.mapM_nil, hx, hy, Option.map_none, map_eq_pure_bind, bind_assoc, pure_bind]
 refine ev0_do h1 (ev0_do h2 rfl)
end
structure HG where
 g : Nat
 hb : Nat
 bh : Nat
 bs : Nat
 wk : Nat
 rd : Nat
structure CG where
 b : Nat
 cb : Nat
 dn : Nat
def IsStk (C : CG) (cs : List Frame) : Prop := ∃ e1, cs = [frm 49 .dfr 11 e1 [⟨.fn (.func 50) #[], #[.pointer (some ⟨C.b, 7, none⟩)]⟩] [.inRegion (cO (cR ((Tryz.f49.body).getD .skip))) [5]], base Tryz.prog []]
def LiveRec (h : HG) (C : CG) (r : Goroutine) : Prop := ∃ e cs, IsStk C cs ∧ e 0 = ptrV h.bh ∧ e 1 = .chan (some C.dn) ∧ r = gr 51 .nor 30 e [] (.inRegion (cO (cL (cR (cB (cB (cB ((Tryz.f51.body).getD .skip))))))) [0, 1, 2, 3] :: .code (cR (cR (cB (cB (cB ((Tryz.f51.body).getD .skip)))))) :: .inBlock 1 :: .inLoop (cB (cB ((Tryz.f51.body).getD .skip))) :: [.inBlock 0]) cs
def seatW (h : HG) (C : CG) : SeatD := ⟨#[rcase h.wk .nilFunc, rcase C.dn (.agg #[])], .select, LiveRec h C, [(⟨C.cb, 0, none⟩, ptrV C.b), (⟨h.hb, 0, none⟩, ptrV h.bh), (⟨C.b, 5, none⟩, .chan (some C.dn)), (⟨h.bh, 1, none⟩, .chan (some h.wk))]⟩
theorem live_way {h : HG} {C : CG} {e : Nat → Value} {cs : List Frame} (hcs : IsStk C cs) (h0 : e 0 = ptrV h.bh) (h1 : e 1 = .chan (some C.dn)) :
  Way Tryz.prog false (seatW h C) 200 (gr 51 .nor 30 e [] (.code (cB (cB ((Tryz.f51.body).getD .skip))) :: .inLoop (cB (cB ((Tryz.f51.body).getD .skip))) :: [.inBlock 0]) cs) := by
 have M := Mt.way (P := Tryz.prog) (main := false) (s := seatW h C)
 rw [← puts_eq (e := e) (l := [(0, ptrV h.bh), (1, .chan (some C.dn))]) ⟨h0, h1, trivial⟩]
 refine M.go ?_
 refine M.rg [0, 1, 2, 3] ?_
 refine M.mv rfl ?_
 refine M.nc (a := ⟨h.bh, 0, none⟩) rfl ?_
 refine M.fa rfl ?_
 refine way_ld (ad := ⟨h.bh, 1, none⟩) (v := .chan (some h.wk)) rfl ?_ (by simp [seatW])
 refine M.go ?_
 refine M.rg [0] ?_
 refine M.mv rfl ?_
 refine M.go ?_
 refine M.rg [0, 1, 2, 3] ?_
 exact Way.mono (n := 0) (way_at rfl ⟨_, cs, hcs, rfl, rfl, rfl⟩ (ev0_sel2 rfl rfl) rfl) (by omega)
theorem child_way {h : HG} {C : CG} : Way Tryz.prog false (seatW h C) 600 (child Tryz.prog ⟨.fn (.func 49) #[ptrV C.cb, ptrV h.hb], #[]⟩) := by
 have M := Mt.way (P := Tryz.prog) (main := false) (s := seatW h C)
 refine M.child ?_
 refine M.go ?_
 refine M.rg [0, 1, 2, 3] ?_
 refine way_ld (ad := ⟨C.cb, 0, none⟩) (v := ptrV C.b) rfl ?_ (by simp [seatW])
 refine M.nc (a := ⟨C.b, 0, none⟩) rfl ?_
 refine M.fa rfl ?_
 refine M.dfr rfl ?_
 refine M.go ?_
 refine way_drawn1 [(5, 0), (6, 1), (7, 2), (8, 3), (9, 4), (10, 5)] [0, 1, 2, 3, 4] 5 [⟨0, 5, ptrV h.bh, false⟩, ⟨1, 6, ptrV C.b, false⟩, ⟨2, 7, ptrV C.b, false⟩, ⟨3, 8, .pointer (some ⟨C.b, 5, none⟩), false⟩, ⟨4, 9, .chan (some C.dn), false⟩] ⟨?_, ?_, ?_, ?_, ?_⟩ ?_
 ·intro i hi
  simp only [List.mem_cons, List.not_mem_nil, or_false] at hi
  rcases hi with rfl | rfl | rfl | rfl | rfl <;> simp
 ·simp
 ·simp
 ·intro x hx
  simp only [List.mem_cons, List.not_mem_nil, or_false] at hx
  rcases hx with rfl | rfl | rfl | rfl | rfl <;> rfl
 ·intro x hx
  simp only [List.mem_cons, List.not_mem_nil, or_false] at hx
  rcases hx with rfl | rfl | rfl | rfl | rfl
  ·exact ⟨[], by simp, fun m e rest q => wayLd (ad := ⟨h.hb, 0, none⟩) (by simp [seatW]) rfl q⟩
  ·exact ⟨[], by simp, fun m e rest q => wayLd (ad := ⟨C.cb, 0, none⟩) (by simp [seatW]) rfl q⟩
  ·exact ⟨[⟨1, 6, ptrV C.b, false⟩], by simp, fun m e rest q => wayNc (a := ⟨C.b, 0, none⟩) rfl q⟩
  ·exact ⟨[⟨2, 7, ptrV C.b, false⟩], by simp, fun m e rest q => wayFa (b := C.b) (off := 0) (o := 5) rfl q⟩
  ·exact ⟨[⟨3, 8, .pointer (some ⟨C.b, 5, none⟩), false⟩], by simp, fun m e rest q => wayLd (ad := ⟨C.b, 5, none⟩) (by simp [seatW]) rfl q⟩
 ·refine M.cal (f := 51) rfl ?_
  refine M.go ?_
  refine M.lp ?_
  exact Way.mono (live_way ⟨_, rfl⟩ rfl rfl) (by omega)
end Go.Sl
end
section
set_option linter.unusedVariables false
namespace Go.Sl
open Go.Proofs Go.Conc
structure IsGrp (G : Grp) (b : Nat) : Prop where
 blk : G.blk = b
 o1 : G.o1 = 7
 o2 : G.o2 = 8
 ty : G.ty = 92
 sz : G.cs.size = 9
theorem sel2_1 {a b : Nat} {z1 z2 v : Value} {ok : Bool} : commResult #[rcase a z1, rcase b z2] .select 1 v ok = .tuple #[.int .i64 1, .bool ok, z1, v] := by simp [commResult, rcase, goInt]
theorem leave {h : HG} {C : CG} {G : Grp} (hG : IsGrp G C.b) {r : Goroutine} (hr : LiveRec h C r) : Cl Tryz.prog G 9000 .rel (Conc.served r (commResult #[rcase h.wk .nilFunc, rcase C.dn (.agg #[])] .select 1 (.agg #[]) false)) := by
 obtain ⟨e, cs, ⟨e1, rfl⟩, h0, h1, rfl⟩ := hr
 obtain ⟨blk, o1, o2, gcs, gty⟩ := G
 obtain ⟨e1', e2', e3', e4', hsz⟩ := hG
 simp only at e1' e2' e3' e4' hsz
 subst e1' e2' e3' e4'
 have M := Mt.cl (P := Tryz.prog) (G := ⟨C.b, 7, 8, gcs, 92⟩) (x := .rel)
 rw [served_gr rfl, sel2_1]
 refine M.ext (v := .int .i64 1) rfl ?_
 refine M.bo (v := .bool false) rfl ?_
 refine M.bo (v := .bool true) rfl ?_
 refine M.go ?_
 refine M.fls ?_
 refine M.tru ?_
 refine M.ret ?_
 refine M.home ?_
 unfold backTo
 rw [finish_frm rfl]
 show Cl Tryz.prog _ _ .rel (gr 49 .dfr 11 _ _ _ _)
 refine M.go ?_
 refine M.fin ?_
 refine M.dcall ?_
 refine M.go ?_
 refine M.rg [0, 1] ?_
 refine M.mv rfl ?_
 refine M.cal (f := 48) rfl ?_
 refine M.go ?_
 refine M.tru ?_
 refine M.rg [0, 1] ?_
 refine M.mv rfl ?_
 refine M.bo (v := .bool true) rfl ?_
 refine M.go ?_
 refine M.tru ?_
 refine M.rg [0, 1, 2] ?_
 refine M.mv rfl ?_
 refine M.cvp (ad := ⟨C.b, 7, none⟩) (fun w ⟨c, h1, h2⟩ => ⟨c[7]'(by simp only at h2; omega), by simp only [World.cell?, h1]; simp⟩) rfl ?_
 refine cl_rel rfl (fun w => stepG_mA .releaseMerge rfl rfl (by intro ad g; simp) rfl w) ?_
 have M := Mt.cl (P := Tryz.prog) (G := ⟨C.b, 7, 8, gcs, 92⟩) (x := .dis)
 refine M.go ?_
 refine M.rg [0] ?_
 refine cl_dis rfl (fun w => stepG_m0 .disable rfl rfl (by intro g; simp) w) ?_
 have M := Mt.cl (P := Tryz.prog) (G := ⟨C.b, 7, 8, gcs, 92⟩) (x := .add)
 refine M.go ?_
 refine M.rg [0] ?_
 refine M.dfr rfl ?_
 refine M.go ?_
 refine M.rg [0] ?_
 refine M.asg rfl ?_
 refine M.go ?_
 refine M.rg [0] ?_
 refine M.xk rfl ?_
 refine M.go ?_
 refine M.fls ?_
 refine M.rg [0, 1, 2, 3, 4, 5, 6, 7] ?_
 refine M.mv rfl ?_
 refine M.nc (a := ⟨C.b, 7, none⟩) rfl ?_
 refine M.fa (b := C.b) (off := 7) (o := 0) rfl ?_
 refine M.mv rfl ?_
 refine M.cv (r := 18446744073709551615) rfl ?_
 refine M.bo (v := .int .u64 18446744069414584320) rfl ?_
 refine M.cal (f := 96) rfl ?_
 refine M.go ?_
 refine M.rg [0] ?_
 refine M.asg rfl ?_
 refine M.go ?_
 refine M.rg [0, 1, 2, 3, 4, 5] ?_
 refine M.mv rfl ?_
 refine M.nc (a := ⟨C.b, 7, none⟩) rfl ?_
 refine M.fa (b := C.b) (off := 7) (o := 0) rfl ?_
 refine M.mv rfl ?_
 refine cl_addA rfl ?_ ?_
 ·have M := Mt.cl (P := Tryz.prog) (G := ⟨C.b, 7, 8, gcs, 92⟩) (x := .ld)
  refine M.asg rfl ?_
  refine M.go ?_
  refine M.ret ?_
  refine M.home ?_
  unfold backTo
  rw [finish_frm rfl]
  show Cl Tryz.prog _ _ .ld (gr 48 .nor 117 _ _ _ _)
  refine M.asg rfl ?_
  refine M.go ?_
  refine M.rg [0, 1, 2, 3, 4, 5, 6] ?_
  refine M.mv rfl ?_
  refine M.bo rfl ?_
  refine M.bo rfl ?_
  refine M.mv rfl ?_
  refine M.no rfl ?_
  refine M.no rfl ?_
  refine M.pk rfl ?_
  refine M.go ?_
  refine M.fls ?_
  refine M.rg [0, 1, 2, 3] ?_
  refine M.mv rfl ?_
  refine M.bo rfl ?_
  refine M.cv rfl ?_
  refine M.asg rfl ?_
  refine M.go ?_
  refine M.rg [0, 1, 2, 3] ?_
  refine M.mv rfl ?_
  refine M.bo rfl ?_
  refine M.cv rfl ?_
  refine M.asg rfl ?_
  refine M.go ?_
  refine M.rg [0, 1, 2, 3, 4, 5, 6, 7, 8, 9] ?_
  refine M.mv rfl ?_
  refine M.mv rfl ?_
  refine M.bo rfl ?_
  refine M.pk rfl ?_
  refine M.mv rfl ?_
  refine M.no rfl ?_
  refine M.no rfl ?_
  refine M.no rfl ?_
  refine M.no rfl ?_
  refine M.pk rfl ?_
  refine M.go ?_
  refine M.fls ?_
  refine M.rg [0, 1] ?_
  refine M.mv rfl ?_
  refine M.bo rfl ?_
  refine M.go ?_
  refine M.fls ?_
  refine M.rg [0, 1, 2, 3, 4, 5, 6, 7, 8, 9, 10, 11] ?_
  refine M.mv rfl ?_
  refine M.bo rfl ?_
  refine M.mv rfl ?_
  first | refine M.no rfl ?_ | refine M.mv rfl ?_
  first | refine M.no rfl ?_ | refine M.bo rfl ?_
  refine M.pk rfl ?_
  refine M.mv rfl ?_
  refine M.no rfl ?_
  refine M.no rfl ?_
  refine M.no rfl ?_
  refine M.no rfl ?_
  refine M.pk rfl ?_
  refine M.go ?_
  refine M.fls ?_
  refine M.rg [0, 1, 2, 3, 4, 5] ?_
  refine M.mv rfl ?_
  refine M.bo rfl ?_
  refine M.mv rfl ?_
  first | refine M.no rfl ?_ | refine M.mv rfl ?_
  first | refine M.no rfl ?_ | refine M.bo rfl ?_
  refine M.pk rfl ?_
  refine M.go ?_
  refine M.fls ?_
  refine M.rg [0, 1, 2, 3, 4, 5] ?_
  refine M.mv rfl ?_
  refine M.nc rfl ?_
  refine M.fa rfl ?_
  refine M.cal (f := 65) rfl ?_
  refine M.go ?_
  refine M.rg [0] ?_
  refine M.asg rfl ?_
  refine M.go ?_
  refine M.rg [0, 1, 2, 3, 4] ?_
  refine M.mv rfl ?_
  refine M.nc rfl ?_
  refine M.fa rfl ?_
  refine cl_ld rfl (fun w hc => stepG_aL rfl rfl rfl hc) ?_
  have M := Mt.cl (P := Tryz.prog) (G := ⟨C.b, 7, 8, gcs, 92⟩) (x := .sto)
  refine M.asg rfl ?_
  refine M.go ?_
  refine M.ret ?_
  refine M.home ?_
  unfold backTo
  rw [finish_frm rfl]
  show Cl Tryz.prog _ _ .sto (gr 48 .nor 117 _ _ _ _)
  refine M.mv rfl ?_
  refine M.bo rfl ?_
  refine M.go ?_
  refine M.fls ?_
  refine M.rg [0, 1, 2, 3] ?_
  refine M.mv rfl ?_
  refine M.nc rfl ?_
  refine M.fa rfl ?_
  refine M.cal (f := 98) rfl ?_
  refine M.go ?_
  refine M.rg [0, 1, 2, 3, 4] ?_
  refine M.mv rfl ?_
  refine M.nc rfl ?_
  refine M.fa rfl ?_
  refine M.mv rfl ?_
  refine cl_sto rfl (fun w hc hz => stepG_aS rfl rfl rfl rfl hc hz) ?_
  have M := Mt.cl (P := Tryz.prog) (G := ⟨C.b, 7, 8, gcs, 92⟩) (x := .sem)
  refine M.go ?_
  refine M.fin ?_
  refine M.home ?_
  unfold backTo
  rw [finish_frm rfl]
  show Cl Tryz.prog _ _ .sem (gr 48 .nor 117 _ _ _ _)
  refine M.go ?_
  refine M.rg [0] ?_
  refine M.mv rfl ?_
  refine M.go ?_
  refine M.fls ?_
  refine M.lp ?_
  refine M.go ?_
  refine M.rg [0, 1] ?_
  refine M.mv rfl ?_
  refine M.bo rfl ?_
  refine M.go ?_
  refine M.tru ?_
  refine M.rg [0, 1, 2, 3] ?_
  refine M.mv rfl ?_
  refine M.nc rfl ?_
  refine M.fa rfl ?_
  refine cl_sem rfl (wake_ext rfl) (fun w hc hz => stepG_sR rfl rfl rfl hc hz) ?_
  have M := Mt.quits (P := Tryz.prog) (d := 1)
  refine M.go ?_
  refine M.rg [0, 1, 2] ?_
  refine M.mv rfl ?_
  refine M.bo rfl ?_
  refine M.asg rfl ?_
  refine M.go ?_
  refine M.ilp ?_
  refine M.go ?_
  refine M.rg [0, 1] ?_
  refine M.mv rfl ?_
  refine M.bo rfl ?_
  refine M.go ?_
  refine M.fls ?_
  refine M.fin ?_
  refine quits_ena rfl (fun w => stepG_m0D .enable (by intro g; simp) w) ?_
  have M := Mt.quits (P := Tryz.prog) (d := 0)
  refine M.home ?_
  unfold backTo
  rw [finish_frm rfl]
  show QuitsD Tryz.prog _ 0 (gr 50 .dfr 4 _ _ _ _)
  refine M.go ?_
  refine M.fin ?_
  refine M.homeD ?_
  refine M.homeD ?_
  exact quits_end
 ·intro v wt hv hw hne
  have M := Mt.quits (P := Tryz.prog) (d := 1)
  have hcase : (v = 0 ∧ wt = 0) ∨ (v = 1 ∧ wt = 0) ∨ (v = 1 ∧ wt = 1) ∨ (v = 2 ∧ wt = 0) ∨ (v = 2 ∧ wt = 1) ∨ (v = 3 ∧ wt = 0) ∨ (v = 3 ∧ wt = 1) := by omega
  rcases hcase with ⟨rfl, rfl⟩ | ⟨rfl, rfl⟩ | ⟨rfl, rfl⟩ | ⟨rfl, rfl⟩ | ⟨rfl, rfl⟩ | ⟨rfl, rfl⟩ | ⟨rfl, rfl⟩
  all_goals
   refine M.asg rfl ?_
   refine M.go ?_
   refine M.ret ?_
   refine M.home ?_
   unfold backTo
   rw [finish_frm rfl]
   show QuitsD Tryz.prog _ 1 (gr 48 .nor 117 _ _ _ _)
   refine M.asg rfl ?_
   refine M.go ?_
   refine M.rg [0, 1, 2, 3, 4, 5, 6] ?_
   refine M.mv rfl ?_
   refine M.bo rfl ?_
   refine M.bo rfl ?_
   refine M.mv rfl ?_
   refine M.no rfl ?_
   refine M.no rfl ?_
   refine M.pk rfl ?_
   refine M.go ?_
   refine M.fls ?_
   refine M.rg [0, 1, 2, 3] ?_
   refine M.mv rfl ?_
   refine M.bo rfl ?_
   refine M.cv rfl ?_
   refine M.asg rfl ?_
   refine M.go ?_
   refine M.rg [0, 1, 2, 3] ?_
   refine M.mv rfl ?_
   refine M.bo rfl ?_
   refine M.cv rfl ?_
   refine M.asg rfl ?_
   refine M.go ?_
   refine M.rg [0, 1, 2, 3, 4, 5, 6, 7, 8, 9] ?_
   refine M.mv rfl ?_
   refine M.mv rfl ?_
   refine M.bo rfl ?_
   refine M.pk rfl ?_
   refine M.mv rfl ?_
   refine M.no rfl ?_
   refine M.no rfl ?_
   refine M.no rfl ?_
   refine M.no rfl ?_
   refine M.pk rfl ?_
   refine M.go ?_
   refine M.fls ?_
   refine M.rg [0, 1] ?_
   refine M.mv rfl ?_
   refine M.bo rfl ?_
   refine M.go ?_
   refine M.fls ?_
   refine M.rg [0, 1, 2, 3, 4, 5, 6, 7, 8, 9, 10, 11] ?_
   refine M.mv rfl ?_
   refine M.bo rfl ?_
   refine M.mv rfl ?_
   first | refine M.no rfl ?_ | refine M.mv rfl ?_
   first | refine M.no rfl ?_ | refine M.bo rfl ?_
   refine M.pk rfl ?_
   refine M.mv rfl ?_
   refine M.no rfl ?_
   refine M.no rfl ?_
   refine M.no rfl ?_
   refine M.no rfl ?_
   refine M.pk rfl ?_
   refine M.go ?_
   refine M.fls ?_
   refine M.rg [0, 1, 2, 3, 4, 5] ?_
   refine M.mv rfl ?_
   refine M.bo rfl ?_
   refine M.mv rfl ?_
   first | refine M.no rfl ?_ | refine M.mv rfl ?_
   first | refine M.no rfl ?_ | refine M.bo rfl ?_
   refine M.pk rfl ?_
   refine M.go ?_
   refine M.tru ?_
   refine M.ret ?_
   refine quits_ena rfl (fun w => stepG_m0D .enable (by intro g; simp) w) ?_
   have M := Mt.quits (P := Tryz.prog) (d := 0)
   refine M.home ?_
   unfold backTo
   rw [finish_frm rfl]
   show QuitsD Tryz.prog _ 0 (gr 50 .dfr 4 _ _ _ _)
   refine M.go ?_
   refine M.fin ?_
   refine M.homeD ?_
   refine M.homeD ?_
   exact quits_end
def MWq (P : Program) (G : Grp) (Fin : Goroutine → Prop) (x : MS) (_ : Nat) (g : Goroutine) : Prop := MW P G Fin x g
section
variable {R : Nat → Goroutine → Array Obj → Prop} {B : Bad} {As : List HP} {b : Nat} {gcs : Array Value} {fr : Frame} {cs : List Frame}
theorem gs_cell {w : World} {o : Nat} (hsz : gcs.size = 9) (ho : o < 9) (h : Gs ⟨b, 7, 8, gcs, 92⟩ w) : ∃ v, w.cell? ⟨b, o, none⟩ = some v := by
 obtain ⟨c, h1, h2⟩ := h
 exact ⟨c[o]'(by simp only at h2; omega), by simp only [World.cell?, h1]; simp⟩
theorem wait_head (C : Closed Tryz.prog true B R) (hsz : gcs.size = 9) (hret : At R 0 As (backTo fr cs (.tuple #[]))) : ∀ (c : Nat), c ≤ 4 → ∀ e : Nat → Value, e 0 = .pointer (some ⟨b, 7, none⟩) →
  MW Tryz.prog ⟨b, 7, 8, gcs, 92⟩ (fun a => At R 0 As a) (.head c) (gr 35 .nor 84 e [] (.code (cB (cB (cR ((Tryz.f35.body).getD .skip)))) :: .inLoop (cB (cB (cR ((Tryz.f35.body).getD .skip)))) :: [.inBlock 0]) (fr :: cs)) := by
 intro c
 induction c using Nat.strongRecOn with
 | ind c ih =>
  intro hc e h0
  have M : ∀ {x : MS}, Mt Tryz.prog true (Gs ⟨b, 7, 8, gcs, 92⟩) (MWq Tryz.prog ⟨b, 7, 8, gcs, 92⟩ (fun a => At R 0 As a) x) := Mt.mw
  rw [← puts_eq (e := e) (l := [(0, .pointer (some ⟨b, 7, none⟩))]) ⟨h0, trivial⟩]
  show MWq _ _ _ _ 900 _
  refine M.go ?_
  refine M.rg [0, 1, 2, 3, 4] ?_
  refine M.mv rfl ?_
  refine M.nc rfl ?_
  refine M.fa rfl ?_
  refine M.cal (f := 65) rfl ?_
  refine M.go ?_
  refine M.rg [0] ?_
  refine M.asg rfl ?_
  refine M.go ?_
  refine M.rg [0, 1, 2, 3, 4] ?_
  refine M.mv rfl ?_
  refine M.nc rfl ?_
  refine M.fa rfl ?_
  refine mw_load rfl ?_ ?_
  ·show MWq _ _ _ _ 900 _
   refine M.asg rfl ?_
   refine M.go ?_
   refine M.ret ?_
   refine M.home ?_
   unfold backTo
   rw [finish_frm rfl]
   show MWq _ _ _ _ 900 (gr 35 .nor 84 _ _ _ _)
   refine M.asg rfl ?_
   refine M.go ?_
   refine M.rg [0, 1, 2, 3] ?_
   refine M.mv rfl ?_
   refine M.bo rfl ?_
   refine M.cv rfl ?_
   refine M.asg rfl ?_
   refine M.go ?_
   refine M.rg [0, 1, 2, 3] ?_
   refine M.mv rfl ?_
   refine M.bo rfl ?_
   refine M.cv rfl ?_
   refine M.asg rfl ?_
   refine M.go ?_
   refine M.rg [0, 1] ?_
   refine M.mv rfl ?_
   refine M.bo rfl ?_
   refine M.go ?_
   refine M.tru ?_
   refine M.tru ?_
   refine M.rg [0] ?_
   refine mw_ena rfl ?_
   show MWq _ _ _ _ 900 _
   refine M.go ?_
   refine M.rg [0, 1, 2] ?_
   refine M.mv rfl ?_
   refine M.cvp (ad := ⟨b, 7, none⟩) (fun w h => gs_cell hsz (by decide) h) rfl ?_
   refine mw_acq rfl ?_
   refine C.go ?_
   refine C.rg [0, 1, 2, 3, 4, 5, 6, 7, 8, 9, 10] ?_
   refine C.mv rfl ?_
   refine C.v0 (v := .bool true) rfl ?_ rfl
   refine C.mv rfl ?_
   refine C.mv rfl ?_
   refine C.v0 (v := .int .u64 0) rfl ?_ rfl
   refine C.v0 (v := .bool false) rfl ?_ rfl
   refine C.pk rfl ?_
   refine C.mv rfl ?_
   refine C.no rfl ?_
   refine C.no rfl ?_
   refine C.pk rfl ?_
   refine C.go ?_
   refine C.fls ?_
   exact C.ret0 trivial hret rfl rfl
  ·intro v h1 h2
   have hcase : v = 1 ∨ v = 2 ∨ v = 3 ∨ v = 4 := by omega
   have ih' := ih (v - 1) (by omega) (by omega)
   rcases hcase with rfl | rfl | rfl | rfl
   all_goals
    show MWq _ _ _ _ 900 _
    refine M.asg rfl ?_
    refine M.go ?_
    refine M.ret ?_
    refine M.home ?_
    unfold backTo
    rw [finish_frm rfl]
    show MWq _ _ _ _ 900 (gr 35 .nor 84 _ _ _ _)
    refine M.asg rfl ?_
    refine M.go ?_
    refine M.rg [0, 1, 2, 3] ?_
    refine M.mv rfl ?_
    refine M.bo rfl ?_
    refine M.cv rfl ?_
    refine M.asg rfl ?_
    refine M.go ?_
    refine M.rg [0, 1, 2, 3] ?_
    refine M.mv rfl ?_
    refine M.bo rfl ?_
    refine M.cv rfl ?_
    refine M.asg rfl ?_
    refine M.go ?_
    refine M.rg [0, 1] ?_
    refine M.mv rfl ?_
    refine M.bo rfl ?_
    refine M.go ?_
    refine M.fls ?_
    refine M.rg [0, 1, 2, 3, 4, 5, 6] ?_
    refine M.mv rfl ?_
    refine M.nc rfl ?_
    refine M.fa rfl ?_
    refine M.mv rfl ?_
    refine M.mv rfl ?_
    refine M.bo rfl ?_
    refine M.cal (f := 69) rfl ?_
    show MWq _ _ _ _ 900 _
    refine M.go ?_
    refine M.rg [0] ?_
    refine M.asg rfl ?_
    refine M.go ?_
    refine M.rg [0, 1, 2, 3, 4, 5, 6] ?_
    refine M.mv rfl ?_
    refine M.nc rfl ?_
    refine M.fa rfl ?_
    refine M.mv rfl ?_
    refine M.mv rfl ?_
    refine mw_cas rfl ?_ ?_
    ·show MWq _ _ _ _ 900 _
     refine M.asg rfl ?_
     refine M.go ?_
     refine M.ret ?_
     refine M.home ?_
     unfold backTo
     rw [finish_frm rfl]
     show MWq _ _ _ _ 900 (gr 35 .nor 84 _ _ _ _)
     refine M.go ?_
     refine M.tru ?_
     refine M.rg [0, 1, 2, 3] ?_
     refine M.mv rfl ?_
     refine M.mv rfl ?_
     refine M.bo rfl ?_
     refine M.pk rfl ?_
     refine M.go ?_
     refine M.tru ?_
     refine M.rg [0, 1, 2, 3, 4] ?_
     refine M.mv rfl ?_
     refine M.nc rfl ?_
     refine M.fa rfl ?_
     refine M.cvp (ad := ⟨b, 8, none⟩) (fun w h => gs_cell hsz (by decide) h) rfl ?_
     refine mw_said rfl ?_
     show MWq _ _ _ _ 900 _
     refine M.go ?_
     refine M.rg [0] ?_
     refine M.asg rfl ?_
     refine M.go ?_
     refine M.rg [0, 1, 2, 3, 4, 5] ?_
     refine M.mv rfl ?_
     refine M.bo rfl ?_
     refine M.bo rfl ?_
     refine M.mv rfl ?_
     refine M.no rfl ?_
     refine M.pk rfl ?_
     refine M.go ?_
     refine M.fls ?_
     refine M.rg [0, 1, 2, 3, 4] ?_
     refine M.mv rfl ?_
     refine M.nc rfl ?_
     refine M.fa rfl ?_
     refine M.mv rfl ?_
     refine mw_sem rfl ?_
     show MWq _ _ _ _ 900 _
     refine M.go ?_
     refine M.rg [0, 1, 2, 3, 4, 5] ?_
     refine M.mv rfl ?_
     refine M.nc rfl ?_
     refine M.fa rfl ?_
     refine M.cal (f := 65) rfl ?_
     refine M.go ?_
     refine M.rg [0] ?_
     refine M.asg rfl ?_
     refine M.go ?_
     refine M.rg [0, 1, 2, 3, 4] ?_
     refine M.mv rfl ?_
     refine M.nc rfl ?_
     refine M.fa rfl ?_
     refine mw_last rfl ?_
     show MWq _ _ _ _ 900 _
     refine M.asg rfl ?_
     refine M.go ?_
     refine M.ret ?_
     refine M.home ?_
     unfold backTo
     rw [finish_frm rfl]
     show MWq _ _ _ _ 900 (gr 35 .nor 84 _ _ _ _)
     refine M.bo rfl ?_
     refine M.asg rfl ?_
     refine M.go ?_
     refine M.tru ?_
     refine M.rg [0] ?_
     refine mw_ena rfl ?_
     show MWq _ _ _ _ 900 _
     refine M.go ?_
     refine M.rg [0, 1, 2] ?_
     refine M.mv rfl ?_
     refine M.cvp (ad := ⟨b, 7, none⟩) (fun w h => gs_cell hsz (by decide) h) rfl ?_
     refine mw_acq rfl ?_
     refine C.go ?_
     refine C.rg [0] ?_
     refine C.mv rfl ?_
     refine C.go ?_
     refine C.fls ?_
     exact C.ret0 trivial hret rfl rfl
    ·show MWq _ _ _ _ 900 _
     refine M.asg rfl ?_
     refine M.go ?_
     refine M.ret ?_
     refine M.home ?_
     unfold backTo
     rw [finish_frm rfl]
     show MWq _ _ _ _ 900 (gr 35 .nor 84 _ _ _ _)
     refine M.go ?_
     refine M.fls ?_
     refine M.ilp ?_
     exact ih' _ rfl
theorem wait_mw (C : Closed Tryz.prog true B R) (hsz : gcs.size = 9) (hret : At R 0 As (backTo fr cs (.tuple #[]))) {c : Nat} (hc : c ≤ 4) :
  MW Tryz.prog ⟨b, 7, 8, gcs, 92⟩ (fun a => At R 0 As a) (.dis c) (gr 35 .nor 84 (argE #[.pointer (some ⟨b, 7, none⟩)]) [] [.code ((Tryz.f35.body).getD .skip)] (fr :: cs)) := by
 have M : ∀ {x : MS}, Mt Tryz.prog true (Gs ⟨b, 7, 8, gcs, 92⟩) (MWq Tryz.prog ⟨b, 7, 8, gcs, 92⟩ (fun a => At R 0 As a) x) := Mt.mw
 show MWq _ _ _ _ 900 _
 refine M.go ?_
 refine M.tru ?_
 refine M.rg [0] ?_
 refine mw_dis rfl ?_
 show MWq _ _ _ _ 900 _
 refine M.go ?_
 refine M.lp ?_
 exact wait_head C hsz hret c hc _ rfl
end
end Go.Sl
end
section
set_option linter.unusedVariables false
namespace Go.Sl
open Go.Proofs Go.Conc
section
variable {σ : Gh} {b : Nat} {m : Int} {hosts bag txs dn : Value} {stopped : Bool} {k : Nat}
theorem uadd_spec (hk : k ≤ 3) : Spec Tryz.prog true (barX.bw σ) 96 #[.pointer (some ⟨b, 7, none⟩), .int .u64 4294967296] [clP b m hosts bag txs dn stopped ((k : Int) * KQ)] (fun v As => v = .int .u64 (((k + 1 : Nat) : Int) * KQ) ∧ As = [clP b m hosts bag txs dn stopped (((k + 1 : Nat) : Int) * KQ)]) := by
 have hw : IntKind.u64.wrap ((k : Int) * KQ + 4294967296) = ((k + 1 : Nat) : Int) * KQ := by
  have : (2 ^ IntKind.u64.bits : Int) = 18446744073709551616 := by decide
  simp only [IntKind.wrap, KQ, this]
  rw [if_neg (by simp [IntKind.signed])]
  omega
 refine Spec.of ?_
 intro R C kd d F c cs hkd hret
 simp only [List.cons_append, List.nil_append]
 refine C.go ?_
 refine C.rg [0] ?_
 refine C.asg rfl ?_
 refine C.go ?_
 refine C.rg [0, 1, 2, 3, 4, 5] ?_
 refine C.mv rfl ?_
 refine C.nc rfl ?_
 refine C.fa rfl ?_
 refine C.mv rfl ?_
 refine C.xAdd (z' := ((k + 1 : Nat) : Int) * KQ) rfl ?_ (hz := hw)
 refine C.asg rfl ?_
 refine C.go ?_
 exact C.retR hkd hret ⟨rfl, rfl⟩
theorem add_spec (hk : k ≤ 3) : Spec Tryz.prog true (barX.bw σ) 48 #[.pointer (some ⟨b, 7, none⟩), .int .i64 1] [clP b m hosts bag txs dn stopped ((k : Int) * KQ)] (fun v As => v = .tuple #[] ∧ As = [clP b m hosts bag txs dn stopped (((k + 1 : Nat) : Int) * KQ)]) := by
 refine Spec.of ?_
 intro R C kd d F c cs hkd hret
 simp only [List.cons_append, List.nil_append]
 refine C.go ?_
 refine C.tru ?_
 refine C.rg [0, 1] ?_
 refine C.mv rfl ?_
 refine C.v0 rfl ?_ rfl
 refine C.go ?_
 refine C.fls ?_
 refine C.rg [0] ?_
 refine C.xDis rfl ?_
 refine C.go ?_
 refine C.rg [0] ?_
 refine C.df rfl ?_
 refine C.go ?_
 refine C.rg [0] ?_
 refine C.asg rfl ?_
 refine C.go ?_
 refine C.rg [0] ?_
 refine C.x0 (f := 72) (v := .bool false) rfl rfl ?_
 refine C.go ?_
 refine C.fls ?_
 refine C.rg [0, 1, 2, 3, 4, 5, 6, 7] ?_
 refine C.mv rfl ?_
 refine C.nc rfl ?_
 refine C.fa rfl ?_
 refine C.mv rfl ?_
 refine C.cv rfl ?_ (hr := rfl)
 refine C.v0 rfl ?_ rfl
 refine C.clR (uadd_spec hk) ?_
 rintro v As' ⟨rfl, rfl⟩
 simp only [List.cons_append, List.nil_append]
 have hcase : k = 0 ∨ k = 1 ∨ k = 2 ∨ k = 3 := by omega
 rcases hcase with rfl | rfl | rfl | rfl
 ·skip
  refine C.asg rfl ?_
  refine C.go ?_
  refine C.rg [0, 1, 2, 3, 4, 5, 6] ?_
  refine C.mv rfl ?_
  refine C.v0 rfl ?_ rfl
  refine C.v0 rfl ?_ rfl
  refine C.mv rfl ?_
  refine C.no rfl ?_
  refine C.no rfl ?_
  refine C.pk rfl ?_
  refine C.go ?_
  refine C.fls ?_
  refine C.rg [0, 1, 2, 3] ?_
  refine C.mv rfl ?_
  refine C.v0 rfl ?_ rfl
  refine C.cv rfl ?_ (hr := rfl)
  refine C.asg rfl ?_
  refine C.go ?_
  refine C.rg [0, 1, 2, 3] ?_
  refine C.mv rfl ?_
  refine C.v0 rfl ?_ rfl
  refine C.cv rfl ?_ (hr := rfl)
  refine C.asg rfl ?_
  refine C.go ?_
  refine C.rg [0, 1, 2, 3, 4, 5, 6, 7, 8, 9] ?_
  refine C.mv rfl ?_
  refine C.mv rfl ?_
  refine C.v0 rfl ?_ rfl
  refine C.pk rfl ?_
  refine C.mv rfl ?_
  refine C.mv rfl ?_
  refine C.mv rfl ?_
  refine C.cv rfl ?_ (hr := rfl)
  refine C.v0 rfl ?_ rfl
  refine C.pk rfl ?_
  refine C.go ?_
  refine C.tru ?_
  refine C.rg [0, 1, 2, 3, 4] ?_
  refine C.mv rfl ?_
  refine C.nc rfl ?_
  refine C.fa rfl ?_
  refine C.cvp (b := b) (off := 8) rfl ?_
  refine C.xMk (mk := .read) (a := ⟨b, 8, none⟩) rfl ?_ (hm := fun H s => ⟨_, _, Has.get (by repeat (first | with_reducible exact Has.head | with_reducible apply Has.tail)) s⟩)
  refine C.go ?_
  refine C.rg [0, 1] ?_
  refine C.mv rfl ?_
  refine C.v0 rfl ?_ rfl
  refine C.go ?_
  refine C.fls ?_
  refine C.rg [0, 1, 2, 3, 4, 5, 6, 7, 8, 9, 10, 11] ?_
  refine C.mv rfl ?_
  refine C.v0 rfl ?_ rfl
  refine C.mv rfl ?_
  refine C.no rfl ?_
  refine C.no rfl ?_
  refine C.pk rfl ?_
  refine C.mv rfl ?_
  refine C.no rfl ?_
  refine C.no rfl ?_
  refine C.no rfl ?_
  refine C.no rfl ?_
  refine C.pk rfl ?_
  refine C.go ?_
  refine C.fls ?_
  refine C.rg [0, 1, 2, 3, 4, 5] ?_
  refine C.mv rfl ?_
  refine C.v0 rfl ?_ rfl
  refine C.mv rfl ?_
  refine C.no rfl ?_
  refine C.no rfl ?_
  refine C.pk rfl ?_
  refine C.go ?_
  refine C.tru ?_
  refine C.rtA ?_
  refine C.dEna ?_
  exact C.home (fu := Tryz.f48) Tryz.func48 hkd rfl (hret _ _ ⟨rfl, rfl⟩)
 all_goals
  refine C.asg rfl ?_
  refine C.go ?_
  refine C.rg [0, 1, 2, 3, 4, 5, 6] ?_
  refine C.mv rfl ?_
  refine C.v0 rfl ?_ rfl
  refine C.v0 rfl ?_ rfl
  refine C.mv rfl ?_
  refine C.no rfl ?_
  refine C.no rfl ?_
  refine C.pk rfl ?_
  refine C.go ?_
  refine C.fls ?_
  refine C.rg [0, 1, 2, 3] ?_
  refine C.mv rfl ?_
  refine C.v0 rfl ?_ rfl
  refine C.cv rfl ?_ (hr := rfl)
  refine C.asg rfl ?_
  refine C.go ?_
  refine C.rg [0, 1, 2, 3] ?_
  refine C.mv rfl ?_
  refine C.v0 rfl ?_ rfl
  refine C.cv rfl ?_ (hr := rfl)
  refine C.asg rfl ?_
  refine C.go ?_
  refine C.rg [0, 1, 2, 3, 4, 5, 6, 7, 8, 9] ?_
  refine C.mv rfl ?_
  refine C.mv rfl ?_
  refine C.v0 rfl ?_ rfl
  refine C.pk rfl ?_
  refine C.mv rfl ?_
  refine C.mv rfl ?_
  refine C.mv rfl ?_
  refine C.cv rfl ?_ (hr := rfl)
  refine C.v0 rfl ?_ rfl
  refine C.pk rfl ?_
  refine C.go ?_
  refine C.fls ?_
  refine C.rg [0, 1] ?_
  refine C.mv rfl ?_
  refine C.v0 rfl ?_ rfl
  refine C.go ?_
  refine C.fls ?_
  refine C.rg [0, 1, 2, 3, 4, 5, 6, 7, 8, 9, 10, 11] ?_
  refine C.mv rfl ?_
  refine C.v0 rfl ?_ rfl
  refine C.mv rfl ?_
  refine C.no rfl ?_
  refine C.no rfl ?_
  refine C.pk rfl ?_
  refine C.mv rfl ?_
  refine C.no rfl ?_
  refine C.no rfl ?_
  refine C.no rfl ?_
  refine C.no rfl ?_
  refine C.pk rfl ?_
  refine C.go ?_
  refine C.fls ?_
  refine C.rg [0, 1, 2, 3, 4, 5] ?_
  refine C.mv rfl ?_
  refine C.v0 rfl ?_ rfl
  refine C.mv rfl ?_
  refine C.no rfl ?_
  refine C.no rfl ?_
  refine C.pk rfl ?_
  refine C.go ?_
  refine C.tru ?_
  refine C.rtA ?_
  refine C.dEna ?_
  exact C.home (fu := Tryz.f48) Tryz.func48 hkd rfl (hret _ _ ⟨rfl, rfl⟩)
end
end Go.Sl
end
section
set_option linter.unusedVariables false
namespace Go.Sl
open Go.Proofs Go.Conc
structure HV where
 h : HG
 s : ShX
 kw : Nat
 kr : Nat
structure CV where
 G : CG
 hosts : List HV
 bag : List MsgV
 txs : List TxV
 stopped : Bool
abbrev hostO (v : HV) (F : List HP) : List HP := pts v.h.bh (.cells #[ptrV v.h.bs, .chan (some v.h.wk), .chan (some v.h.rd)] 120 (0, 0)) :: pts v.h.wk (.chan 0 #[] false v.kw v.kw false) :: pts v.h.rd (.chan 0 #[] false v.kr v.kr false) :: pts v.h.hb (.cells #[ptrV v.h.bh] 114 (0, 0)) :: sxP v.h.bs v.s :: F
def hostE (v : HV) : HP := all (hostO v [])
def CV.st (c : CV) : Int := if c.stopped then 0 else (c.hosts.length : Int) * KQ
abbrev cvO (c : CV) (m st : Int) (hs bg tx : SliceV) (F : List HP) : List HP := clP c.G.b m hs.v bg.v tx.v (.chan (some c.G.dn)) c.stopped st :: slP ptrC 1 114 hs (c.hosts.map (·.h.bh)) :: slP msgC 7 190 bg c.bag :: slP txC 3 126 tx c.txs ::
 all (c.hosts.map hostE) :: pts c.G.dn (.chan 0 #[] c.stopped 0 0 false) :: pts c.G.cb (.cells #[ptrV c.G.b] 23 (0, 0)) :: F
def cvM (m : Int) (c : CV) : HP := fun h => ∃ hs bg tx : SliceV, all (cvO c m c.st hs bg tx []) h
abbrev cvP (c : CV) : HP := cvM 0 c
section
variable {R : Nat → Goroutine → Array Obj → Prop} {d : Nat} {As F L : List HP} {g : Goroutine} {c : CV}
theorem cvP.opn {m z : Int} (hf : Fo (cvM m c) As L := by repeat (first | with_reducible exact Fo.head | with_reducible apply Fo.tail)) (h : ∀ hs bg tx : SliceV, At R d (cvO c m z hs bg tx L) g) (hz : c.st = z := by rfl) : At R d As g := by
 subst hz
 refine At.fo hf fun H st => ?_
 obtain ⟨hs, st⟩ := st.ex
 obtain ⟨bg, st⟩ := st.ex
 obtain ⟨tx, st⟩ := st.ex
 exact h hs bg tx H st.flat
theorem cvP.cls {m : Int} {cc : Array Value} (c : CV) (h : At R d (cvM m c :: F) g) (hf : Fo (pts c.G.b (.cells cc 92 (0, 0))) As L := by repeat (first | with_reducible exact Fo.head | with_reducible apply Fo.tail)) {hs bg tx : SliceV} (hc : cc = clA m hs.v bg.v tx.v (.chan (some c.G.dn)) c.stopped c.st := by rfl)
  (hr : ReF [slP ptrC 1 114 hs (c.hosts.map (·.h.bh)), slP msgC 7 190 bg c.bag, slP txC 3 126 tx c.txs, all (c.hosts.map hostE), pts c.G.dn (.chan 0 #[] c.stopped 0 0 false), pts c.G.cb (.cells #[ptrV c.G.b] 23 (0, 0))] L F := by repeat (first | with_reducible exact ReF.nil | with_reducible exact Fo.head | with_reducible apply Fo.tail | with_reducible apply ReF.cons)) : At R d As g := by
 subst hc
 refine At.perm (hf.perm.trans (hr.perm.cons _)) fun H st => h H ?_
 exact Sat.imp (fun hh x => ⟨hs, bg, tx, x⟩) (Sat.unflat (l := cvO c m c.st hs bg tx []) st)
end
theorem hostE.cls {R : Nat → Goroutine → Array Obj → Prop} {d : Nat} {As F : List HP} {g : Goroutine} (v : HV) (h : At R d (hostE v :: F) g)
  (hr : ReF (hostO v []) As F := by repeat (first | with_reducible exact ReF.nil | with_reducible exact Fo.head | with_reducible apply Fo.tail | with_reducible apply ReF.cons)) : At R d As g :=
 At.perm hr.perm fun H st => h H (Sat.unflat (l := hostO v []) st)
structure RegC (σ : Gh) (c : CV) : Prop where
 seats : ∀ v ∈ c.hosts, σ.seats v.h.g = some (seatW v.h c.G)
 nd : (c.hosts.map (·.h.g)).Nodup
 only : ∀ i s, σ.seats i = some s → s.has c.G.dn → ∃ v ∈ c.hosts, v.h.g = i
 wk : ∀ v ∈ c.hosts, ∀ i s, σ.seats i = some s → s.has v.h.wk → i = v.h.g
 wd : ∀ v ∈ c.hosts, v.h.wk ≠ c.G.dn
 sh7 : σ.sh (.cell ⟨c.G.b, 7, none⟩)
 sh8 : σ.sh (.cell ⟨c.G.b, 8, none⟩)
 n : 1 ≤ c.hosts.length ∧ c.hosts.length ≤ 4
section
variable {σ : Gh} {b : Nat} {m : Int} {hosts bag txs dn : Value} {stopped : Bool}
theorem wait0_spec : Spec Tryz.prog true (barX.bw σ) 35 #[.pointer (some ⟨b, 7, none⟩)] [clP b m hosts bag txs dn stopped 0] (fun v As => v = .tuple #[] ∧ As = [clP b m hosts bag txs dn stopped 0]) := by
 refine Spec.of ?_
 intro R C kd d F c cs hkd hret
 simp only [List.cons_append, List.nil_append]
 have hl : Spec Tryz.prog true (barX.bw σ) 65 #[.pointer (some ⟨b, 7, none⟩)] [clP b m hosts bag txs dn stopped 0] (fun v As => v = .int .u64 0 ∧ As = [clP b m hosts bag txs dn stopped 0]) := by
  refine Spec.of ?_
  intro R C kd d F c cs hkd hret
  simp only [List.cons_append, List.nil_append]
  refine C.go ?_
  refine C.rg [0] ?_
  refine C.asg rfl ?_
  refine C.go ?_
  refine C.rg [0, 1, 2, 3, 4] ?_
  refine C.mv rfl ?_
  refine C.nc rfl ?_
  refine C.fa rfl ?_
  refine C.xLd (b := b) (off := 7) (z := 0) rfl ?_
  refine C.asg rfl ?_
  refine C.go ?_
  exact C.retR hkd hret ⟨rfl, rfl⟩
 refine C.go ?_
 refine C.tru ?_
 refine C.rg [0] ?_
 refine C.xDis rfl ?_
 refine C.go ?_
 refine C.lp ?_
 refine C.go ?_
 refine C.rg [0, 1, 2, 3, 4] ?_
 refine C.mv rfl ?_
 refine C.nc rfl ?_
 refine C.fa rfl ?_
 refine C.clR hl ?_
 rintro v As' ⟨rfl, rfl⟩
 simp only [List.cons_append, List.nil_append]
 refine C.asg rfl ?_
 refine C.go ?_
 refine C.rg [0, 1, 2, 3] ?_
 refine C.mv rfl ?_
 refine C.v0 rfl ?_ rfl
 refine C.cv rfl ?_ (hr := rfl)
 refine C.asg rfl ?_
 refine C.go ?_
 refine C.rg [0, 1, 2, 3] ?_
 refine C.mv rfl ?_
 refine C.v0 rfl ?_ rfl
 refine C.cv rfl ?_ (hr := rfl)
 refine C.asg rfl ?_
 refine C.go ?_
 refine C.rg [0, 1] ?_
 refine C.mv rfl ?_
 refine C.v0 rfl ?_ rfl
 refine C.go ?_
 refine C.tru ?_
 refine C.tru ?_
 refine C.rg [0] ?_
 refine C.xEna rfl ?_
 refine C.go ?_
 refine C.rg [0, 1, 2] ?_
 refine C.mv rfl ?_
 refine C.cvp (b := b) (off := 7) rfl ?_
 refine C.xMk (mk := .acquire) (a := ⟨b, 7, none⟩) rfl ?_ (hm := fun H s => ⟨_, _, Has.get (by repeat (first | with_reducible exact Has.head | with_reducible apply Has.tail)) s⟩)
 refine C.go ?_
 refine C.rg [0, 1, 2, 3, 4, 5, 6, 7, 8, 9, 10] ?_
 refine C.mv rfl ?_
 refine C.v0 rfl ?_ rfl
 refine C.mv rfl ?_
 refine C.mv rfl ?_
 refine C.v0 rfl ?_ rfl
 refine C.v0 rfl ?_ rfl
 refine C.pk rfl ?_
 refine C.mv rfl ?_
 refine C.no rfl ?_
 refine C.no rfl ?_
 refine C.pk rfl ?_
 refine C.go ?_
 refine C.fls ?_
 exact C.retR hkd hret ⟨rfl, rfl⟩
end
end Go.Sl
end
section
set_option linter.unusedVariables false
namespace Go.Sl
open Go.Proofs Go.Conc
def CV.ids (c : CV) : List Nat := c.hosts.map (·.h.g)
theorem stop_spec {σ : Gh} {c : CV} (hr : c.stopped = false → RegC σ c) : SpecG Tryz.prog barX 21 #[ptrV c.G.b] σ [cvP c] (fun v σ' As => v = .tuple #[] ∧ σ' = (if c.stopped then σ else σ.joined c.ids) ∧ As = [cvP { c with stopped := true }]) := by
 refine SpecG.of ?_
 intro Post os out kd F c' cs C hkd hret
 simp only [List.cons_append, List.nil_append]
 obtain ⟨G, hosts, bag, txs, stopped⟩ := c
 cases stopped with
 | true =>
  refine cvP.opn (z := 0) (h := fun hs bg tx => ?_)
  refine C.go ?_
  refine C.rg [0, 1, 2, 3] ?_
  refine C.mv rfl ?_
  refine C.nc rfl ?_
  refine C.fa rfl ?_
  refine C.clR mlock_spec ?_
  rintro v As' ⟨rfl, rfl⟩
  simp only [List.cons_append, List.nil_append]
  refine C.go ?_
  refine C.rg [0, 1, 2, 3] ?_
  refine C.mv rfl ?_
  refine C.nc rfl ?_
  refine C.fa rfl ?_
  refine C.df rfl ?_
  refine C.go ?_
  refine C.rg [0, 1, 2, 3, 4] ?_
  refine C.mv rfl ?_
  refine C.nc rfl ?_
  refine C.fa rfl ?_
  refine C.ld rfl ?_
  refine C.nt rfl ?_
  refine C.go ?_
  refine C.fls ?_
  refine C.rg [0, 1, 2, 3] ?_
  refine C.mv rfl ?_
  refine C.nc rfl ?_
  refine C.fa rfl ?_
  refine C.clR wait0_spec ?_
  rintro v As' ⟨rfl, rfl⟩
  simp only [List.cons_append, List.nil_append]
  refine C.go ?_
  refine C.fnA ?_
  refine RunR.dfr (Spec.g unlock_spec) ?_
  rintro v σ' As' ⟨rfl, rfl, rfl⟩
  simp only [List.cons_append, List.nil_append]
  refine C.home (fu := Tryz.f21) Tryz.func21 hkd rfl ?_
  refine cvP.cls ⟨G, hosts, bag, txs, true⟩ ?_
  exact hret _ _ _ ⟨rfl, rfl, rfl⟩
 | false =>
  obtain ⟨r1, r2, r3, r4, r5, r6, r7, r8⟩ := hr rfl
  refine cvP.opn (z := (hosts.length : Int) * KQ) (h := fun hs bg tx => ?_)
  refine C.go ?_
  refine C.rg [0, 1, 2, 3] ?_
  refine C.mv rfl ?_
  refine C.nc rfl ?_
  refine C.fa rfl ?_
  refine C.clR mlock_spec ?_
  rintro v As' ⟨rfl, rfl⟩
  simp only [List.cons_append, List.nil_append]
  refine C.go ?_
  refine C.rg [0, 1, 2, 3] ?_
  refine C.mv rfl ?_
  refine C.nc rfl ?_
  refine C.fa rfl ?_
  refine C.df rfl ?_
  refine C.go ?_
  refine C.rg [0, 1, 2, 3, 4] ?_
  refine C.mv rfl ?_
  refine C.nc rfl ?_
  refine C.fa rfl ?_
  refine C.ld rfl ?_
  refine C.nt rfl ?_
  refine C.go ?_
  refine C.tru ?_
  refine C.rg [0, 1, 2, 3] ?_
  refine C.mv rfl ?_
  refine C.nc rfl ?_
  refine C.fa rfl ?_
  refine C.st rfl ?_
  refine C.go ?_
  refine C.rg [0, 1, 2, 3, 4] ?_
  refine C.mv rfl ?_
  refine C.nc rfl ?_
  refine C.fa rfl ?_
  refine C.ld rfl ?_
  have hrow : (⟨G.b, 7, 8, clA 1 hs.v bg.v tx.v (.chan (some G.dn)) true ((hosts.length : Int) * KQ), 92⟩ : Grp).row (stV 0 0) (smV 0) = clA 1 hs.v bg.v tx.v (.chan (some G.dn)) true 0 := rfl
  have C2 : Closed Tryz.prog true (barX.bw (σ.joined (hosts.map (·.h.g)))) (RunR Tryz.prog Post barX (σ.joined (hosts.map (·.h.g))) 0 os out) := RunR.closed0
  refine RunR.shut (hosts.map (·.h.g)) ⟨G.b, 7, 8, clA 1 hs.v bg.v tx.v (.chan (some G.dn)) true ((hosts.length : Int) * KQ), 92⟩ G.dn 0 (fun a => At (RunR Tryz.prog Post barX (σ.joined (hosts.map (·.h.g))) 0 os out) 0 (clP G.b 1 hs.v bg.v tx.v (.chan (some G.dn)) true 0 :: slP ptrC 1 114 hs (hosts.map (·.h.bh)) :: slP msgC 7 190 bg bag :: slP txC 3 126 tx txs ::
 all (hosts.map hostE) :: pts G.dn (.chan 0 #[] true 0 0 false) :: pts G.cb (.cells #[ptrV G.b] 23 (0, 0)) :: F) a) rfl rfl rfl (by rw [Tryz.func21]; rfl) r2 (by simpa using r8.2) ?_ ?_ ⟨(show (7 : Nat) ≠ 8 by decide), by simp, by simp⟩ (by simp [stV]) rfl r6 r7 (As' := clP G.b 1 hs.v bg.v tx.v (.chan (some G.dn)) true ((hosts.length : Int) * KQ) :: slP ptrC 1 114 hs (hosts.map (·.h.bh)) :: slP msgC 7 190 bg bag :: slP txC 3 126 tx txs ::
 all (hosts.map hostE) :: pts G.dn (.chan 0 #[] true 0 0 false) :: pts G.cb (.cells #[ptrV G.b] 23 (0, 0)) :: F) ?_ ?_ ?_ (fun a h => h)
  ·intro i hi
   obtain ⟨v, hv, rfl⟩ := List.mem_map.1 hi
   exact ⟨_, v.h.wk, .nilFunc, .agg #[], r1 v hv, rfl, r5 v hv, 9000, fun r hr => leave ⟨rfl, rfl, rfl, rfl, rfl⟩ hr⟩
  ·intro i s hi hs'
   obtain ⟨v, hv, rfl⟩ := r3 i s hi hs'
   exact List.mem_map.2 ⟨v, hv, rfl⟩
  ·repeat (first | with_reducible exact Upd.head | with_reducible apply Upd.tail)
  ·rw [hrow]; exact Upd.head
  ·have M : ∀ {Fin : Goroutine → Prop} {x : MS}, Mt Tryz.prog true (Gs ⟨G.b, 7, 8, clA 1 hs.v bg.v tx.v (.chan (some G.dn)) true ((hosts.length : Int) * KQ), 92⟩) (MWq Tryz.prog ⟨G.b, 7, 8, clA 1 hs.v bg.v tx.v (.chan (some G.dn)) true ((hosts.length : Int) * KQ), 92⟩ Fin x) := Mt.mw
   show MWq _ _ _ _ 900 _
   refine M.go ?_
   refine M.rg [0, 1, 2, 3] ?_
   refine M.mv rfl ?_
   refine M.nc rfl ?_
   refine M.fa rfl ?_
   refine M.cal (f := 35) rfl ?_
   refine wait_mw C2 rfl ?_ (by simpa using r8.2)
   unfold backTo
   rw [finish_frm rfl]
   show At _ _ _ (gr 21 kd 25 _ _ _ _)
   refine C2.go ?_
   refine C2.fnA ?_
   refine RunR.dfr (Spec.g unlock_spec) ?_
   rintro v σ' As' ⟨rfl, rfl, rfl⟩
   simp only [List.cons_append, List.nil_append]
   refine C2.home (fu := Tryz.f21) Tryz.func21 hkd rfl ?_
   refine cvP.cls ⟨G, hosts, bag, txs, true⟩ ?_
   exact hret _ _ _ ⟨rfl, rfl, rfl⟩
end Go.Sl
end
section
set_option linter.unusedVariables false
namespace Go.Sl
open Go.Proofs Go.Conc
def hostAt (l : List HV) (k : Int) : Option HV := if k < 0 then none else l[k.toNat]?
def atV (l : List HV) (k : Int) : Option Addr := (hostAt l k).map fun v => ⟨v.h.bs, 0, none⟩
theorem hostAt_some {l : List HV} {k : Int} {v : HV} (h : hostAt l k = some v) : ∃ q : Nat, k = q ∧ ∃ hq : q < l.length, l[q] = v := by
 unfold hostAt at h
 split at h
 ·cases h
 ·obtain ⟨hq, e⟩ := List.getElem?_eq_some_iff.1 h
  exact ⟨k.toNat, by omega, hq, e⟩
theorem hostAt_lt {l : List HV} {q : Nat} (hq : q < l.length) : hostAt l (q : Int) = some l[q] := by
 unfold hostAt
 rw [if_neg (by omega), Int.toNat_natCast, List.getElem?_eq_getElem hq]
section
variable {R : Nat → Goroutine → Array Obj → Prop} {d : Nat} {As F L : List HP} {g : Goroutine} {l : List HV} {q : Nat}
theorem host_out (hi : q < l.length) (hf : Fo (all (l.map hostE)) As L) (h : At R d (hostO l[q] (all ((l.eraseIdx q).map hostE) :: L)) g) : At R d As g :=
 all_out (f := hostE) hi hf fun H s => h H (Sat.flat (l := hostO l[q] []) s)
theorem host_in (hi : q < l.length) (v : HV) (hr : ReF (hostO v [all ((l.eraseIdx q).map hostE)]) As L) (h : At R d (all ((l.set q v).map hostE) :: L) g) : At R d As g :=
 At.perm hr.perm fun H s => (all_in (f := hostE) hi v (.cons .head (.cons .head .nil)) h) H (Sat.unflat (l := hostO v []) s)
theorem host_back (hi : q < l.length) (hr : ReF (hostO l[q] [all ((l.eraseIdx q).map hostE)]) As L) (h : At R d (all (l.map hostE) :: L) g) : At R d As g := host_in hi l[q] hr (by rw [List.set_getElem_self]; exact h)
end
section
variable {σ : Gh} {b : Nat} {m k : Int} {hs : SliceV} {bag txs dn : Value} {stopped : Bool} {st : Int} {l : List HV}
theorem cat_spec (hl : l.length ≤ 4) : Spec Tryz.prog true (barX.bw σ) 126 #[ptrV b, .int .i64 k] [clP b m hs.v bag txs dn stopped st, slP ptrC 1 114 hs (l.map (·.h.bh)), all (l.map hostE)]
  (fun v As => v = .pointer (atV l k) ∧ As = [clP b m hs.v bag txs dn stopped st, slP ptrC 1 114 hs (l.map (·.h.bh)), all (l.map hostE)]) := by
 refine Spec.of ?_
 intro R C kd d F c cs hkd hret
 simp only [List.cons_append, List.nil_append]
 have hll : (l.map (·.h.bh)).length = l.length := List.length_map ..
 refine C.go ?_
 refine C.rg [0] ?_
 refine C.asg rfl ?_
 refine C.go ?_
 refine C.rg [0, 1, 2, 3, 4, 5, 6, 7, 8, 9, 10] ?_
 refine C.mv rfl ?_
 refine C.cmp rfl (fun h6 => ?_) (fun h6 => ?_)
 ·skip
  refine C.mv rfl ?_
  refine C.no rfl ?_
  refine C.no rfl ?_
  refine C.no rfl ?_
  refine C.no rfl ?_
  refine C.no rfl ?_
  refine C.no rfl ?_
  refine C.no rfl ?_
  refine C.pk rfl ?_
  refine C.go ?_
  refine C.tru ?_
  refine C.rg [0] ?_
  refine C.asg rfl ?_
  refine C.go ?_
  exact C.retR hkd hret ⟨by unfold atV hostAt; rw [if_pos (by omega)], rfl⟩
 ·skip
  refine C.mv rfl ?_
  refine C.mv rfl ?_
  refine C.mv rfl ?_
  refine C.nc rfl ?_
  refine C.fa rfl ?_
  refine C.ld rfl ?_
  refine C.lnR rfl ?_ (s := hs) (l := l.map (·.h.bh)) (f := ptrC)
  refine C.cmp rfl (fun h14 => ?_) (fun h14 => ?_)
  ·skip
   refine C.pk rfl ?_
   refine C.go ?_
   refine C.tru ?_
   refine C.rg [0] ?_
   refine C.asg rfl ?_
   refine C.go ?_
   exact C.retR hkd hret ⟨by unfold atV hostAt; rw [if_neg (by omega), List.getElem?_eq_none (by omega)], rfl⟩
  ·skip
   refine C.pk rfl ?_
   refine C.go ?_
   refine C.fls ?_
   obtain ⟨q, rfl⟩ := Int.eq_ofNat_of_zero_le (show 0 ≤ k by omega)
   have hq : q < l.length := by omega
   have hqm : (l.map (·.h.bh))[q]'(by omega) = l[q].h.bh := by simp
   refine host_out hq (by (repeat (first | with_reducible exact Fo.head | with_reducible apply Fo.tail))) ?_
   refine C.rg [0, 1, 2, 3, 4, 5, 6, 7, 8, 9, 10] ?_
   refine C.mv rfl ?_
   refine C.nc rfl ?_
   refine C.fa rfl ?_
   refine C.ld rfl ?_
   refine C.mv rfl ?_
   refine C.iaR rfl ?_
   refine C.ldR0 rfl ?_ (s := hs) (l := l.map (·.h.bh)) (f := ptrC) (j := q) (v := ptrV l[q].h.bh) (hj := by omega) (hv := by rw [hqm]; rfl)
   refine C.nc rfl ?_
   refine C.fa rfl ?_
   refine C.ld rfl ?_
   refine C.asg rfl ?_
   refine C.go ?_
   refine host_back hq (by (repeat (first | with_reducible exact ReF.nil | with_reducible exact Fo.head | with_reducible apply Fo.tail | with_reducible apply ReF.cons))) ?_
   exact C.retR hkd hret ⟨by unfold atV; rw [hostAt_lt hq], rfl⟩
end
end Go.Sl
end
section
set_option linter.unusedVariables false
namespace Go.Sl
open Go.Proofs
variable {main : Bool}
theorem setM_len {V : Type} {k : Int} {v : V} : ∀ {l : List (Int × V)}, (setM l k v).length = if (getM l k).isSome then l.length else l.length + 1
 | [] => rfl
 | p :: l => by
  unfold setM getM
  by_cases h : p.1 = k
  ·simp [h]
  ·simp only [if_neg h, List.length_cons, setM_len (l := l)]
   split <;> rfl
structure MK (m : List (Int × Int)) (l : List OpR) : Prop where
 len : m.length ≤ l.length
 iff : m.length = l.length ↔ (l.map (·.k)).Nodup
 key : ∀ q, (getM m q).isSome = true ↔ q ∈ l.map (·.k)
 vb : ∀ q v, getM m q = some v → 0 ≤ v ∧ v ≤ l.length
theorem MK.zero : MK [] [] := ⟨Nat.le_refl _, by simp, by simp [getM], by simp [getM]⟩
theorem MK.add {m : List (Int × Int)} {l : List OpR} (h : MK m l) (o : OpR) : MK (setM m o.k ((getM m o.k).getD 0 + 1)) (l ++ [o]) := by
 have h1 := h.len
 have h3 := h.key o.k
 refine ⟨?_, ?_, fun q => ?_, fun q v hv => ?_⟩
 ·rw [setM_len, List.length_append, List.length_singleton]; split <;> omega
 ·rw [setM_len, List.length_append, List.length_singleton, List.map_append, List.nodup_append]
  by_cases e : (getM m o.k).isSome = true
  ·rw [if_pos e]
   constructor
   ·intro h; omega
   ·rintro ⟨_, _, h⟩
    exact absurd rfl (h o.k (h3.1 e) o.k (by simp))
  ·rw [if_neg e]
   have h4 : o.k ∉ l.map (·.k) := fun z => e (h3.2 z)
   constructor
   ·intro hl
    refine ⟨h.iff.1 (by omega), by simp, fun a ha b hb z => ?_⟩
    simp at hb
    subst hb; subst z
    exact h4 ha
   ·rintro ⟨hn, _⟩
    have := h.iff.2 hn
    omega
 ·rw [getM_setM, List.map_append, List.mem_append, List.map_cons, List.map_nil, List.mem_singleton]
  by_cases e : q = o.k
  ·simp [e]
  ·rw [if_neg e]
   constructor
   ·intro z; exact .inl ((h.key q).1 z)
   ·rintro (z | z)
    ·exact (h.key q).2 z
    ·exact absurd z e
 ·rw [getM_setM] at hv
  rw [List.length_append, List.length_singleton]
  by_cases e : q = o.k
  ·rw [if_pos e] at hv
   obtain rfl := Option.some.inj hv
   cases hg : getM m o.k with
   | none => simp only [Option.getD_none]; omega
   | some w =>
    have := h.vb _ _ hg
    simp only [Option.getD_some]; omega
  ·rw [if_neg e] at hv
   have := h.vb q v hv
   omega
theorem cright_spec {I : HL} {so : SliceV} {ops : List OpR} (ho : imSl I opPC 67 so ops) (hl : ops.length < 2 ^ 43) :
  Spec Tryz.prog main badT 54 #[so.v] [imm I] (fun v As => v = .bool (decide (rightP ops)) ∧ As = [imm I]) := by
 refine Spec.of ?_
 intro R C kd d F c cs hkd hret
 simp only [List.cons_append, List.nil_append]
 refine C.go ?_
 refine C.rg [0] ?_
 refine C.asg rfl ?_
 refine C.go ?_
 refine C.rg [0, 1] ?_
 refine C.mm .u8 int64V rfl (fun b6 => ?_)
 refine C.asg rfl ?_
 refine C.go ?_
 refine C.rg [0, 1, 2] ?_
 refine C.mv rfl ?_
 refine C.lnR rfl ?_
 refine C.mv rfl ?_
 refine C.go ?_
 refine C.loopR (X := Nat × List (Int × Int)) (fun x => [(0, so.v), (3, .map (some b6)), (7, so.v), (8, .int .i64 ops.length), (9, .int .i64 x.1)]) (fun x => mapP .u8 int64V b6 x.2 :: imm I :: F) (fun x => x.1 ≤ ops.length ∧ (∀ j (hj : j < ops.length), j < x.1 → okOp ops[j]) ∧ MK x.2 (ops.take x.1)) (fun x => ops.length - x.1) (0, []) ⟨rfl, rfl, rfl, rfl, rfl, trivial⟩ ⟨Nat.zero_le _, by intro j _ hj; omega, MK.zero⟩ ?_
 rintro ⟨i, m⟩ e ⟨hi, hok, hm⟩ ih
 dsimp only at hi hok hm ⊢
 refine C.go ?_
 refine C.rg [0] ?_
 refine C.cmp rfl (fun h10 => ?_) (fun h10 => ?_)
 ·skip
  refine C.go ?_
  refine C.tru ?_
  have hi' : i < ops.length := by simpa using h10
  have hv : 0 ≤ (getM m ops[i].k).getD 0 ∧ (getM m ops[i].k).getD 0 ≤ (2 : Int) ^ 43 := by
   cases hg : getM m ops[i].k with
   | none => simp
   | some w =>
    have := hm.vb _ _ hg
    rw [List.length_take] at this
    simp only [Option.getD_some]
    have : ((min i ops.length : Nat) : Int) ≤ 2 ^ 43 := by omega
    omega
  refine C.rg [0, 1, 2, 3] ?_
  refine C.iaR rfl ?_
  refine C.ldRS rfl (fun hj => ?_)
  refine C.al rfl (fun b5 => ?_)
  refine C.stS rfl ?_ (hv := fun v h => RowF.one (f := opPC) ops[i] v (by simpa using h))
  refine C.go ?_
  refine C.rg [0, 1, 2, 3, 4, 5] ?_
  refine C.mv rfl ?_
  refine C.fa rfl ?_
  refine C.ld rfl ?_
  have e16 : ((getM m ops[i].k).map int64V).getD (.int .i64 0) = .int .i64 ((getM m ops[i].k).getD 0) := by cases getM m ops[i].k <;> rfl
  refine C.lkR (co := false) (g := int64V) (l := m) (q := ops[i].k) rfl ?_
  simp only [Bool.false_eq_true, if_false]
  rw [e16]
  refine C.ar rfl ?_
  refine C.mu rfl ?_
  refine C.go ?_
  refine C.rg [0, 1, 2, 3, 4, 5, 6, 7, 8, 9, 10, 11, 12, 13, 14, 15, 16, 17] ?_
  refine C.fa rfl ?_
  refine C.ld rfl ?_
  refine C.cmp rfl (fun h20 => ?_) (fun h20 => ?_)
  ·skip
   refine C.mv rfl ?_
   refine C.no rfl ?_
   refine C.no rfl ?_
   refine C.no rfl ?_
   refine C.pk rfl ?_
   refine C.mv rfl ?_
   refine C.no rfl ?_
   refine C.no rfl ?_
   refine C.no rfl ?_
   refine C.no rfl ?_
   refine C.no rfl ?_
   refine C.no rfl ?_
   refine C.no rfl ?_
   refine C.no rfl ?_
   refine C.pk rfl ?_
   refine C.go ?_
   refine C.tru ?_
   refine C.rg [0] ?_
   refine C.asg rfl ?_
   refine C.go ?_
   refine C.retR hkd hret ⟨?_, rfl⟩
   rw [decide_eq_false (fun h => by have := (h.1 _ (List.getElem_mem hi')).1; omega)]
  ·skip
   refine C.mv rfl ?_
   refine C.fa rfl ?_
   refine C.ld rfl ?_
   refine C.cmp rfl (fun h24 => ?_) (fun h24 => ?_)
   ·skip
    refine C.pk rfl ?_
    refine C.mv rfl ?_
    refine C.no rfl ?_
    refine C.no rfl ?_
    refine C.no rfl ?_
    refine C.no rfl ?_
    refine C.no rfl ?_
    refine C.no rfl ?_
    refine C.no rfl ?_
    refine C.no rfl ?_
    refine C.pk rfl ?_
    refine C.go ?_
    refine C.tru ?_
    refine C.rg [0] ?_
    refine C.asg rfl ?_
    refine C.go ?_
    refine C.retR hkd hret ⟨?_, rfl⟩
    rw [decide_eq_false (fun h => by have := (h.1 _ (List.getElem_mem hi')).2.1; omega)]
   ·skip
    refine C.pk rfl ?_
    refine C.mv rfl ?_
    refine C.fa rfl ?_
    refine C.ld rfl ?_
    generalize hw : ops[i].w = z
    rcases Bool.eq_false_or_eq_true z with rfl | rfl
    ·skip
     refine C.nt rfl ?_
     refine C.mv rfl ?_
     refine C.no rfl ?_
     refine C.no rfl ?_
     refine C.no rfl ?_
     refine C.pk rfl ?_
     refine C.pk rfl ?_
     refine C.go ?_
     refine C.fls ?_
     refine C.rg [0, 1] ?_
     refine C.ar rfl ?_
     refine C.mv rfl ?_
     refine C.go ?_
     have hok' : okOp ops[i] := ⟨by omega, by omega, .inl hw⟩
     refine again ih (i + 1, setM m ops[i].k ((getM m ops[i].k).getD 0 + 1)) ⟨hi', fun j hj hlt => ?_, by dsimp only; rw [List.take_succ_eq_append_getElem hi']; exact hm.add _⟩ (by dsimp only; omega)
     rcases Nat.lt_succ_iff_lt_or_eq.1 hlt with h | rfl
     ·exact hok j hj h
     ·exact hok'
    ·skip
     refine C.nt rfl ?_
     refine C.mv rfl ?_
     refine C.fa rfl ?_
     refine C.ld rfl ?_
     refine C.cmp rfl (fun h33 => ?_) (fun h33 => ?_)
     ·skip
      refine C.pk rfl ?_
      refine C.pk rfl ?_
      refine C.go ?_
      refine C.tru ?_
      refine C.rg [0] ?_
      refine C.asg rfl ?_
      refine C.go ?_
      refine C.retR hkd hret ⟨?_, rfl⟩
      rw [decide_eq_false (fun h => by
       rcases (h.1 _ (List.getElem_mem hi')).2.2 with h | h
       ·rw [hw] at h; cases h
       ·omega)]
     ·skip
      refine C.pk rfl ?_
      refine C.pk rfl ?_
      refine C.go ?_
      refine C.fls ?_
      refine C.rg [0, 1] ?_
      refine C.ar rfl ?_
      refine C.mv rfl ?_
      refine C.go ?_
      have hok' : okOp ops[i] := ⟨by omega, by omega, .inr (by omega)⟩
      refine again ih (i + 1, setM m ops[i].k ((getM m ops[i].k).getD 0 + 1)) ⟨hi', fun j hj hlt => ?_, by dsimp only; rw [List.take_succ_eq_append_getElem hi']; exact hm.add _⟩ (by dsimp only; omega)
      rcases Nat.lt_succ_iff_lt_or_eq.1 hlt with h | rfl
      ·exact hok j hj h
      ·exact hok'
 ·skip
  refine C.go ?_
  refine C.fls ?_
  have hie : i = ops.length := by have : ¬ i < ops.length := (by simpa using h10); omega
  have hm' : MK m ops := by have := hm; rw [hie, List.take_length] at this; exact this
  have hall : ∀ o ∈ ops, okOp o := fun o ho => by
   obtain ⟨j, hj, rfl⟩ := List.getElem_of_mem ho
   exact hok j hj (by omega)
  have hiff := hm'.iff
  refine C.rg [0, 1, 2, 3, 4, 5, 6, 7, 8, 9, 10, 11, 12, 13, 14, 15] ?_
  refine C.mv rfl ?_
  refine C.lnR rfl ?_
  refine C.cmp rfl (fun h39 => ?_) (fun h39 => ?_)
  ·skip
   refine C.mv rfl ?_
   refine C.mv rfl ?_
   refine C.lnR rfl ?_
   refine C.cmp rfl (fun h43 => ?_) (fun h43 => ?_)
   ·skip
    refine C.pk rfl ?_
    refine C.mv rfl ?_
    refine C.mv rfl ?_
    refine C.lnM rfl ?_
    refine C.mv rfl ?_
    refine C.lnR rfl ?_
    refine C.cmp rfl (fun h50 => ?_) (fun h50 => ?_)
    ·skip
     refine C.pk rfl ?_
     refine C.asg rfl ?_
     refine C.go ?_
     refine C.retR hkd hret ⟨?_, rfl⟩
     rw [decide_eq_true (show rightP ops from ⟨hall, hiff.1 (by omega), by omega, by omega⟩)]
    ·skip
     refine C.pk rfl ?_
     refine C.asg rfl ?_
     refine C.go ?_
     refine C.retR hkd hret ⟨?_, rfl⟩
     rw [decide_eq_false (fun h => by have := hiff.2 h.2.1; omega)]
   ·skip
    refine C.pk rfl ?_
    refine C.mv rfl ?_
    refine C.no rfl ?_
    refine C.no rfl ?_
    refine C.no rfl ?_
    refine C.no rfl ?_
    refine C.no rfl ?_
    refine C.pk rfl ?_
    refine C.asg rfl ?_
    refine C.go ?_
    refine C.retR hkd hret ⟨?_, rfl⟩
    rw [decide_eq_false (fun h => by have := h.2.2.2; omega)]
  ·skip
   refine C.mv rfl ?_
   refine C.no rfl ?_
   refine C.no rfl ?_
   refine C.no rfl ?_
   refine C.pk rfl ?_
   refine C.mv rfl ?_
   refine C.no rfl ?_
   refine C.no rfl ?_
   refine C.no rfl ?_
   refine C.no rfl ?_
   refine C.no rfl ?_
   refine C.pk rfl ?_
   refine C.asg rfl ?_
   refine C.go ?_
   refine C.retR hkd hret ⟨?_, rfl⟩
   rw [decide_eq_false (fun h => by have := h.2.2.1; omega)]
end Go.Sl
end
section
set_option linter.unusedVariables false
namespace Go.Sl
open Go.Proofs Go.Conc
def begMP (n : Nat) (t : TxV) (tx : Int) : MsgV := ⟨{ msg0 with kind := 1, frm := -1, to := homeR t.ops n, tx := tx, ops := t.ops }, t.so, nilS⟩
theorem homeR_eq' (ops : List OpR) (n : Int) (h : 0 < ops.length) : atR ops[0].k n = homeR ops n := by
 cases ops with
 | nil => cases h
 | cons o l => rfl
section
variable {σ : Gh} {b : Nat} {m : Int} {hs bg txS : SliceV} {dn : Value} {stopped : Bool} {st : Int} {I : HL} {hl : List Nat} {bag : List MsgV} {txs : List TxV} {tx : Nat}
theorem cbegin_spec (hn : 1 ≤ hl.length ∧ hl.length ≤ 4) (hbag : bag.length < 2 ^ 30) (htx : tx < txs.length) (hto : imSl I opPC 67 txs[tx].so txs[tx].ops) (hops : OpsB txs[tx].ops ∧ 1 ≤ txs[tx].ops.length) :
  Spec Tryz.prog true (barX.bw σ) 56 #[.pointer (some ⟨b, 0, none⟩), .int .i64 tx] [clP b m hs.v bg.v txS.v dn stopped st, slP ptrC 1 114 hs hl, slP msgC 7 190 bg bag, slP txC 3 126 txS txs, imm I]
   (fun v As => ∃ bg' : SliceV, v = .tuple #[] ∧ As = [clP b m hs.v bg'.v txS.v dn stopped st, slP ptrC 1 114 hs hl, slP msgC 7 190 bg' (bag ++ [begMP hl.length txs[tx] tx]), slP txC 3 126 txS txs, imm I]) := by
 refine Spec.of ?_
 intro R C kd d F c cs hkd hret
 simp only [List.cons_append, List.nil_append]
 have hol : 0 < txs[tx].ops.length := hops.2
 have hkey := hops.1.1 _ (List.getElem_mem hol)
 have hhome : atR txs[tx].ops[0].k (hl.length : Int) = homeR txs[tx].ops hl.length := homeR_eq' _ _ hol
 refine C.go ?_
 refine C.rg [0, 1, 2, 3, 4, 5, 6, 7, 8] ?_
 refine C.mv rfl ?_
 refine C.nc rfl ?_
 refine C.fa rfl ?_
 refine C.ld rfl ?_
 refine C.mv rfl ?_
 refine C.iaR rfl ?_
 refine C.fa rfl ?_
 refine C.ldR rfl ?_
 refine C.asg rfl ?_
 refine C.go ?_
 refine C.drawnW [(13, 0), (14, 1), (15, 2), (16, 3), (17, 4), (18, 5), (19, 6), (20, 7), (21, 8), (22, 9), (23, 10), (24, 11), (25, 12), (26, 13), (27, 14), (28, 15), (29, 16), (30, 17), (31, 18), (32, 19), (33, 20), (34, 21)] [0, 1, 2, 3, 4, 5, 6, 7, 8, 9, 10, 11, 12, 13, 15, 16, 20, 21] [14, 17, 18, 19, 22] 3 ?_ (W := [clP b m hs.v bg.v txS.v dn stopped st, slP ptrC 1 114 hs hl, imm I])
 refine Dr.pu ⟨_, rfl, rfl⟩ (fun _ _ _ h => C.mv rfl h) ?_
 refine Dr.pu ⟨_, rfl, rfl⟩ (fun _ _ _ h => C.mv rfl h) ?_
 refine Dr.pu ⟨_, rfl, rfl⟩ (fun _ _ _ h => C.nc rfl h) ?_
 refine Dr.pu ⟨_, rfl, rfl⟩ (fun _ _ _ h => C.fa rfl h) ?_
 refine Dr.ld ⟨_, rfl, rfl⟩ (fun _ hE _ _ h => C.ld rfl h) ?_
 refine Dr.pu ⟨_, rfl, rfl⟩ (fun _ _ _ h => C.mv rfl h) ?_
 refine Dr.ld ⟨_, rfl, rfl⟩ (fun _ hE _ _ h => C.iaR rfl h) ?_
 refine Dr.pu ⟨_, rfl, rfl⟩ (fun _ _ _ h => C.fa rfl h) ?_
 refine Dr.ld ⟨_, rfl, rfl⟩ (fun _ hE _ _ h => C.ldR rfl h) ?_
 refine Dr.pu ⟨_, rfl, rfl⟩ (fun _ _ _ h => C.mv rfl h) ?_
 refine Dr.pu ⟨_, rfl, rfl⟩ (fun _ _ _ h => C.nc rfl h) ?_
 refine Dr.pu ⟨_, rfl, rfl⟩ (fun _ _ _ h => C.fa rfl h) ?_
 refine Dr.ld ⟨_, rfl, rfl⟩ (fun _ hE _ _ h => C.ld rfl h) ?_
 refine Dr.ld ⟨_, rfl, rfl⟩ (fun _ hE _ _ h => C.lnR rfl h) ?_
 refine Dr.pu ⟨_, rfl, rfl⟩ (fun _ _ _ h => C.mv rfl h) ?_
 refine Dr.pu ⟨_, rfl, rfl⟩ (fun _ _ _ h => C.mv rfl h) ?_
 refine Dr.pu ⟨_, rfl, rfl⟩ (fun _ _ _ h => C.nc rfl h) ?_
 refine Dr.pu ⟨_, rfl, rfl⟩ (fun _ _ _ h => C.fa rfl h) ?_
 refine Dr.chain rfl ?_ (fun _ s => Reo.sat (by ((try simp only [List.cons_append, List.nil_append]); (repeat (first | with_reducible exact Reo.refl | with_reducible exact Reo.nil | with_reducible exact Fo.head | with_reducible apply Fo.tail | with_reducible apply Reo.cons | with_reducible apply Reo.drop)); done)) s)
 refine Ch.n1 (t := 14) rfl ⟨_, rfl, fun e rest hk => ?_⟩
 refine C.clR (Spec.less (barLe σ) (shAt_spec (key := txs[tx].ops[0].k) (n := (hl.length : Int)) (by omega) (by omega))) ?_
 rintro v As' ⟨rfl, rfl⟩
 simp only [List.nil_append]
 rw [hhome]
 refine hk _ _ (.of (fun _ s => Reo.sat (by ((try simp only [List.cons_append, List.nil_append]); (repeat (first | with_reducible exact Reo.refl | with_reducible exact Reo.nil | with_reducible exact Fo.head | with_reducible apply Fo.tail | with_reducible apply Reo.cons | with_reducible apply Reo.drop)); done)) s)) ?_
 refine Ch.pu (i := 17) ⟨_, rfl, rfl⟩ (fun _ _ _ h => C.bd rfl h) ?_
 refine Ch.n1 (t := 18) rfl ⟨_, rfl, fun e rest hk => ?_⟩
 refine C.bs1 rfl (fun b31 => hk _ _ .cons ?_)
 refine Ch.n1 (t := 19) rfl ⟨_, rfl, fun e rest hk => ?_⟩
 refine C.ap1 (begMP hl.length txs[tx] tx) rfl (fun s2 => ?_)
 refine hk _ _ (.of (fun _ s => Reo.sat (by ((try simp only [List.cons_append, List.nil_append]); (repeat (first | with_reducible exact Reo.refl | with_reducible exact Reo.nil | with_reducible exact Fo.head | with_reducible apply Fo.tail | with_reducible apply Reo.cons | with_reducible apply Reo.drop)); done)) s)) ?_
 refine Ch.n1 (t := 22) rfl ⟨_, rfl, fun e rest hk => ?_⟩
 refine C.st rfl (hk _ undef ?_)
 refine Ch.fin ?_
 refine C.go ?_
 exact C.finR hkd hret ⟨s2, rfl, rfl⟩
end
end Go.Sl
end
section
set_option linter.unusedVariables false
namespace Go.Sl
open Go.Proofs
def errG (k : Nat) : Nat := [0, 1, 2, 5, 6, 7, 8, 9, 3].getD k 0
abbrev errV (a : Nat × Nat) : Value := .iface 339 (.pointer (some ⟨a.1, a.2, none⟩))
structure ErrI (I : HL) (eb : Nat → Nat × Nat) : Prop where
 g : ∀ k, k < 9 → ∃ t, I (errG k) = some (.cells #[errV (eb k)] t (0, 0))
 e : ∀ k, k < 9 → ∃ c t, I (eb k).1 = some (.cells c t (0, 0))
 inj : ∀ j k, j < 9 → k < 9 → eb j = eb k → j = k
 ty : ∃ t, I 4 = some (.cells #[.iface 231 (.agg #[typeHandle Tryz.prog 46])] t (0, 0))
theorem ErrI.mono {I I' : HL} {eb : Nat → Nat × Nat} (h : ErrI I eb) (hs : Sub I I') : ErrI I' eb :=
 ⟨fun k hk => by obtain ⟨t, ht⟩ := h.g k hk; exact ⟨t, hs _ _ ht⟩, fun k hk => by obtain ⟨c, t, ht⟩ := h.e k hk; exact ⟨c, t, hs _ _ ht⟩, h.inj, by obtain ⟨t, ht⟩ := h.ty; exact ⟨t, hs _ _ ht⟩⟩
theorem shG0 (t : TypeId) : shG t 0 = false := by simp [shG]
def errO (eb : Nat → Nat × Nat) : Option Nat → Value
 | none => .nilIface
 | some k => errV (eb k)
end Go.Sl
end
section
set_option linter.unusedVariables false
namespace Go.Sl
open Go.Proofs Go.Conc
def subQ (eb : Nat → Nat × Nat) (I : HL) (n : Nat) (ops : List OpR) (bag : List MsgV) (txs : List TxV) (er : Option Nat) (t : Int) (I' : HL) (bag' : List MsgV) (txs' : List TxV) : Prop :=
 Sub I I' ∧ ((¬ rightP ops ∧ er = some 1 ∧ t = 0 ∧ bag' = bag ∧ txs' = txs) ∨ (rightP ops ∧ (txs.length = 60 ∨ 400 ≤ bag.length) ∧ er = some 2 ∧ t = 0 ∧ bag' = bag ∧ txs' = txs) ∨
  (rightP ops ∧ ¬ (txs.length = 60 ∨ 400 ≤ bag.length) ∧ er = none ∧ t = txs.length ∧ ∃ s7, imSl I' opPC 67 s7 ops ∧ txs' = txs ++ [⟨⟨ops, 1, []⟩, s7, nilS⟩] ∧ bag' = bag ++ [begMP n ⟨⟨ops, 1, []⟩, s7, nilS⟩ txs.length]))
theorem shG0' (σ : Gh) (t : TypeId) : (barX.bw σ).sh t 0 = false := shG0 t
section
variable {σ : Gh} {b bo bc bt : Nat} {so hs bg txS : SliceV} {dn : Value} {st : Int} {I J : HL} {hl : List Nat} {bag : List MsgV} {txs : List TxV} {eb : Nat → Nat × Nat} {ops : List OpR}
theorem sub1_spec (hE : ErrI I eb) (hn : 1 ≤ hl.length ∧ hl.length ≤ 4) (hbag : bag.length < 2 ^ 20) (htx : txs.length ≤ 60) (ho : imSl J opPC 67 so ops) (hlo : ops.length < 2 ^ 43) :
  Spec Tryz.prog true (barX.bw σ) 53 #[ptrV bo, ptrV bc, ptrV bt] [pts bo (.cells #[so.v] 36 (0, 0)), pts bc (.cells #[ptrV b] 23 (0, 0)), pts bt (.cells #[.int .i64 0] 3 (0, 0)), clP b 1 hs.v bg.v txS.v dn false st, slP ptrC 1 114 hs hl, slP msgC 7 190 bg bag, slP txC 3 126 txS txs, imm I, imm J]
   (fun v As => ∃ (bg' txS' : SliceV) (er : Option Nat) (t : Int) (I' : HL) (bag' : List MsgV) (txs' : List TxV), v = errO eb er ∧ subQ eb I hl.length ops bag txs er t I' bag' txs' ∧ As = [pts bt (.cells #[.int .i64 t] 3 (0, 0)), clP b 1 hs.v bg'.v txS'.v dn false st, slP ptrC 1 114 hs hl, slP msgC 7 190 bg' bag', slP txC 3 126 txS' txs', imm I', imm J]) := by
 refine Spec.of ?_
 intro R C kd d F c cs hkd hret
 simp only [List.cons_append, List.nil_append]
 obtain ⟨t1, hg1⟩ := hE.g 1 (by decide)
 obtain ⟨t2, hg2⟩ := hE.g 2 (by decide)
 refine C.go ?_
 refine C.rg [0] ?_
 refine C.asg rfl ?_
 refine C.go ?_
 refine C.rg [0, 1, 2] ?_
 refine C.ld rfl ?_
 refine C.clR (Spec.less (barLe σ) (cright_spec ho hlo)) ?_
 rintro v As' ⟨rfl, rfl⟩
 simp only [List.cons_append, List.nil_append]
 generalize hz : decide (rightP ops) = z
 rcases Bool.eq_false_or_eq_true z with rfl | rfl
 ·skip
  refine C.nt rfl ?_
  refine C.go ?_
  refine C.fls ?_
  have hr : rightP ops := by simpa using hz
  refine C.rg [0, 1, 2, 3, 4, 5, 6, 7, 8, 9, 10, 11, 12, 13] ?_
  refine C.ld rfl ?_
  refine C.nc rfl ?_
  refine C.fa rfl ?_
  refine C.ld rfl ?_
  refine C.lnR rfl ?_
  refine C.cmp rfl (fun h13 => ?_) (fun h13 => ?_)
  ·skip
   refine C.mv rfl ?_
   refine C.no rfl ?_
   refine C.no rfl ?_
   refine C.no rfl ?_
   refine C.no rfl ?_
   refine C.no rfl ?_
   refine C.no rfl ?_
   refine C.pk rfl ?_
   refine C.go ?_
   refine C.tru ?_
   refine C.rg [0, 1] ?_
   refine C.ldG (by (repeat (first | with_reducible exact Fo.head | with_reducible apply Fo.tail))) hg2 (shG0' _ _) rfl ?_
   refine C.asg rfl ?_
   refine C.go ?_
   exact C.retR hkd hret ⟨bg, txS, some 2, 0, I, bag, txs, rfl, ⟨Sub.refl _, .inr (.inl ⟨hr, .inl (by omega), rfl, rfl, rfl, rfl⟩)⟩, rfl⟩
  ·skip
   refine C.mv rfl ?_
   refine C.ld rfl ?_
   refine C.nc rfl ?_
   refine C.fa rfl ?_
   refine C.ld rfl ?_
   refine C.lnR rfl ?_
   refine C.cmp rfl (fun h20 => ?_) (fun h20 => ?_)
   ·skip
    refine C.pk rfl ?_
    refine C.go ?_
    refine C.tru ?_
    refine C.rg [0, 1] ?_
    refine C.ldG (by (repeat (first | with_reducible exact Fo.head | with_reducible apply Fo.tail))) hg2 (shG0' _ _) rfl ?_
    refine C.asg rfl ?_
    refine C.go ?_
    exact C.retR hkd hret ⟨bg, txS, some 2, 0, I, bag, txs, rfl, ⟨Sub.refl _, .inr (.inl ⟨hr, .inr (by omega), rfl, rfl, rfl, rfl⟩)⟩, rfl⟩
   ·skip
    refine C.pk rfl ?_
    refine C.go ?_
    refine C.fls ?_
    refine C.rg [0, 1, 2, 3, 4, 5] ?_
    refine C.ld rfl ?_
    refine C.nc rfl ?_
    refine C.fa rfl ?_
    refine C.ld rfl ?_
    refine C.lnR rfl ?_
    refine C.st rfl ?_
    refine C.go ?_
    refine C.drawnW [(28, 0), (29, 1), (30, 2), (31, 3), (32, 4), (33, 5), (34, 6), (35, 7), (36, 8), (37, 9), (38, 10), (39, 11)] [0, 1, 2, 3, 4, 5, 10, 11] [6, 7, 8, 9, 12] 4 ?_ (W := [clP b 1 hs.v bg.v txS.v dn false st, pts bc (.cells #[ptrV b] 23 (0, 0)), pts bo (.cells #[so.v] 36 (0, 0)), imm I, imm J])
    refine Dr.ld ⟨_, rfl, rfl⟩ (fun _ hE _ _ h => C.ld rfl h) ?_
    refine Dr.ld ⟨_, rfl, rfl⟩ (fun _ hE _ _ h => C.ld rfl h) ?_
    refine Dr.pu ⟨_, rfl, rfl⟩ (fun _ _ _ h => C.nc rfl h) ?_
    refine Dr.pu ⟨_, rfl, rfl⟩ (fun _ _ _ h => C.fa rfl h) ?_
    refine Dr.ld ⟨_, rfl, rfl⟩ (fun _ hE _ _ h => C.ld rfl h) ?_
    refine Dr.ld ⟨_, rfl, rfl⟩ (fun _ hE _ _ h => C.ld rfl h) ?_
    refine Dr.pu ⟨_, rfl, rfl⟩ (fun _ _ _ h => C.nc rfl h) ?_
    refine Dr.pu ⟨_, rfl, rfl⟩ (fun _ _ _ h => C.fa rfl h) ?_
    refine Dr.chain rfl ?_ (fun _ s => Reo.sat (by ((try simp only [List.cons_append, List.nil_append]); (repeat (first | with_reducible exact Reo.refl | with_reducible exact Reo.nil | with_reducible exact Fo.head | with_reducible apply Fo.tail | with_reducible apply Reo.cons | with_reducible apply Reo.drop)); done)) s)
    refine Ch.n1 (t := 6) rfl ⟨_, rfl, fun e rest hk => ?_⟩
    refine C.clR (Spec.less (barLe σ) (clone_spec ho hlo)) ?_
    rintro v As' ⟨s7, rfl, rfl⟩
    simp only [List.cons_append, List.nil_append]
    refine hk _ _ (.of (fun _ s => Reo.sat (by ((try simp only [List.cons_append, List.nil_append]); (repeat (first | with_reducible exact Reo.refl | with_reducible exact Reo.nil | with_reducible exact Fo.head | with_reducible apply Fo.tail | with_reducible apply Reo.cons | with_reducible apply Reo.drop)); done)) s)) ?_
    refine Ch.n1 (t := 7) rfl ⟨_, rfl, fun e rest hk => ?_⟩
    refine C.bd rfl ?_
    skip
    refine hk _ _ .refl ?_
    refine Ch.n1 (t := 8) rfl ⟨_, rfl, fun e rest hk => ?_⟩
    refine C.bs1 rfl (fun b36 => hk _ _ .cons ?_)
    refine Ch.n1 (t := 9) rfl ⟨_, rfl, fun e rest hk => ?_⟩
    refine C.ap1 (TxV.mk ⟨ops, 1, []⟩ s7 nilS) rfl (fun s8 => ?_)
    refine hk _ _ (.of (fun _ s => Reo.sat (by ((try simp only [List.cons_append, List.nil_append]); (repeat (first | with_reducible exact Reo.refl | with_reducible exact Reo.nil | with_reducible exact Fo.head | with_reducible apply Fo.tail | with_reducible apply Reo.cons | with_reducible apply Reo.drop)); done)) s)) ?_
    refine Ch.n1 (t := 12) rfl ⟨_, rfl, fun e rest hk => ?_⟩
    refine C.st rfl (hk _ undef ?_)
    refine Ch.fin ?_
    refine C.go ?_
    refine At.frz (I := I) (s := s7) (f := opPC) (by (repeat (first | with_reducible exact Fo.head | with_reducible apply Fo.tail))) (by (repeat (first | with_reducible exact Fo.head | with_reducible apply Fo.tail))) fun I1 hI1 hs7 => ?_
    have hopsB : OpsB ops := ⟨fun o ho => ⟨(hr.1 o ho).1, (hr.1 o ho).2.1⟩, by have := hr.2.2.2; omega⟩
    have hsp := cbegin_spec (σ := σ) (b := b) (m := 1) (hs := hs) (bg := bg) (txS := s8) (dn := dn) (stopped := false) (st := st) (I := I1) (hl := hl) (bag := bag) (txs := txs ++ [TxV.mk ⟨ops, 1, []⟩ s7 nilS]) (tx := txs.length) hn (by omega) (by simp) (by simp only [List.getElem_append_right (Nat.le_refl _), Nat.sub_self]; exact hs7) (by simp only [List.getElem_append_right (Nat.le_refl _), Nat.sub_self]; exact ⟨hopsB, hr.2.2.1⟩)
    have hidx : (txs ++ [TxV.mk ⟨ops, 1, []⟩ s7 nilS])[txs.length]'(by simp) = TxV.mk ⟨ops, 1, []⟩ s7 nilS := by simp
    simp only [hidx] at hsp
    refine C.rg [0, 1, 2] ?_
    refine C.ld rfl ?_
    refine C.ld rfl ?_
    refine C.clR hsp ?_
    rintro v As' ⟨bg', rfl, rfl⟩
    simp only [List.cons_append, List.nil_append]
    refine C.go ?_
    refine C.rg [0] ?_
    refine C.asg rfl ?_
    refine C.go ?_
    exact C.retR hkd hret ⟨bg', s8, none, txs.length, I1, _, _, rfl, ⟨hI1, .inr (.inr ⟨hr, by omega, rfl, rfl, s7, hs7, rfl, rfl⟩)⟩, rfl⟩
 ·skip
  refine C.nt rfl ?_
  refine C.go ?_
  refine C.tru ?_
  refine C.rg [0, 1] ?_
  refine C.ldG (by (repeat (first | with_reducible exact Fo.head | with_reducible apply Fo.tail))) hg1 (shG0' _ _) rfl ?_
  refine C.asg rfl ?_
  refine C.go ?_
  exact C.retR hkd hret ⟨bg, txS, some 1, 0, I, bag, txs, rfl, ⟨Sub.refl _, .inl ⟨by simpa using hz, rfl, rfl, rfl, rfl⟩⟩, rfl⟩
end
end Go.Sl
end
section
set_option linter.unusedVariables false
namespace Go.Sl
open Go.Proofs Go.Conc
def CallV (eb : Nat → Nat × Nat) (name : Value) (at_ : Int) : Option Nat → Value → List HP → Prop
 | none, v, L => v = .nilIface ∧ L = []
 | some k, v, L => ∃ bE, v = .iface 128 (ptrV bE) ∧ L = [pts bE (.cells #[name, .int .i64 at_, errV (eb k)] 132 (0, 0))]
theorem ReF.app {F : List HP} : ∀ A : List HP, ReF A (A ++ F) F
 | [] => .nil
 | a :: A => .cons .head (ReF.app A)
theorem call_spec {σ : Gh} {c : CV} {f : FuncId} {fu : Func} {code : Code} {nf : Nat} [bd : Body Tryz.prog f fu code nf] {caps : Array Value} {I : HL} {eb : Nat → Nat × Nat} {nm : ByteArray} {at_ : Int} {A : List HP} {Q : Option Nat → Gh → CV → HL → List HP → Prop} (hE : ErrI I eb)
  (hf : c.stopped = false → SpecG Tryz.prog barX f (#[] ++ ([] : List Value).toArray ++ caps) σ (cvM 1 c :: imm I :: A) (fun v σ' As => ∃ er c' I' A', v = errO eb er ∧ (∀ k, er = some k → k < 9) ∧ As = cvM 1 c' :: imm I' :: A' ∧ c'.G.b = c.G.b ∧ Q er σ' c' I' A')) :
  SpecG Tryz.prog barX 52 #[ptrV c.G.b, .string nm, .int .i64 at_, .func (.func f) #[] caps] σ (cvP c :: imm I :: A)
   (fun v σ' As => ∃ er c' I' A' L, CallV eb (.string nm) at_ er v L ∧ As = cvP c' :: imm I' :: (L ++ A') ∧ ((c.stopped = true ∧ er = some 8 ∧ σ' = σ ∧ c' = c ∧ I' = I ∧ A' = A) ∨ (c.stopped = false ∧ Q er σ' c' I' A'))) := by
 refine SpecG.of ?_
 intro Post os out kd F c' cs C hkd hret
 simp only [List.cons_append, List.nil_append]
 obtain ⟨t8, hg8⟩ := hE.g 8 (by decide)
 obtain ⟨G, hosts, bag, txs, stopped⟩ := c
 refine cvP.opn (h := fun hs bg tx => ?_)
 refine C.go ?_
 refine C.rg [0] ?_
 refine C.asg rfl ?_
 refine C.go ?_
 refine C.rg [0, 1, 2, 3] ?_
 refine C.mv rfl ?_
 refine C.nc rfl ?_
 refine C.fa rfl ?_
 refine C.clR mlock_spec ?_
 rintro v As' ⟨rfl, rfl⟩
 simp only [List.cons_append, List.nil_append]
 refine C.go ?_
 refine C.rg [0, 1, 2, 3] ?_
 refine C.mv rfl ?_
 refine C.nc rfl ?_
 refine C.fa rfl ?_
 refine C.df rfl ?_
 refine C.go ?_
 refine C.rg [0, 1] ?_
 refine C.ldG (v := errV (eb 8)) (by (repeat (first | with_reducible exact Fo.head | with_reducible apply Fo.tail))) hg8 (shG0' _ _) rfl ?_
 refine C.asg rfl ?_
 refine C.go ?_
 refine C.rg [0, 1, 2, 3, 4] ?_
 refine C.mv rfl ?_
 refine C.nc rfl ?_
 refine C.fa rfl ?_
 refine C.ld rfl ?_
 refine C.nt rfl ?_
 refine C.go ?_
 cases stopped with
 | true =>
  refine C.fls ?_
  refine C.rg [0, 1] ?_
  refine C.mv rfl ?_
  refine C.eqZ Tryz.underlying46 rfl ?_
  refine C.go ?_
  refine C.tru ?_
  refine C.rg [0, 1, 2, 3, 4, 5, 6] ?_
  refine C.mv rfl ?_
  refine C.mv rfl ?_
  refine C.mv rfl ?_
  refine C.bd rfl ?_
  refine C.bx rfl (fun bE => ?_)
  refine C.mi rfl ?_
  refine C.asg rfl ?_
  refine C.go ?_
  refine C.rtA ?_
  refine RunR.dfr (Spec.g unlock_spec) ?_
  rintro v σ' As' ⟨rfl, rfl, rfl⟩
  simp only [List.cons_append, List.nil_append]
  refine C.home (fu := Tryz.f52) Tryz.func52 hkd rfl ?_
  refine cvP.cls (m := 0) ⟨G, hosts, bag, txs, true⟩ ?_
  refine At.reo ?_ (hret _ _ _ ⟨some 8, ⟨G, hosts, bag, txs, true⟩, I, A, [pts bE (.cells #[.string nm, .int .i64 at_, errV (eb 8)] 132 (0, 0))], ⟨bE, rfl, rfl⟩, rfl, .inl ⟨rfl, rfl, rfl, rfl, rfl, rfl⟩⟩)
  ((try simp only [List.cons_append, List.nil_append]); (repeat (first | with_reducible exact Reo.refl | with_reducible exact Reo.nil | with_reducible exact Fo.head | with_reducible apply Fo.tail | with_reducible apply Reo.cons | with_reducible apply Reo.drop)); done)
 | false =>
  refine C.tru ?_
  refine C.rg [0, 1, 2] ?_
  refine C.mv rfl ?_
  refine cvP.cls (m := 1) ⟨G, hosts, bag, txs, false⟩ ?_
  refine RunR.cl (hf rfl) ?_ (hr := .cons .head (.cons .head (ReF.app A)))
  rintro v σ' As' ⟨er, c2, I2, A2, rfl, hk, rfl, hb, hQ⟩
  have C : Closed Tryz.prog true (barX.bw σ') (RunR Tryz.prog Post barX σ' 0 os out) := RunR.closed0
  simp only [List.cons_append, List.nil_append]
  refine C.asg rfl ?_
  refine C.go ?_
  refine C.rg [0, 1] ?_
  refine C.mv rfl ?_
  refine cvP.opn (m := 1) (c := c2) (h := fun hs2 bg2 tx2 => ?_)
  rw [← hb]
  cases er with
  | none =>
   refine C.eqZZ Tryz.underlying46 rfl ?_
   refine C.go ?_
   refine C.fls ?_
   refine C.rg [0] ?_
   refine C.asg rfl ?_
   refine C.go ?_
   refine C.rtA ?_
   refine RunR.dfr (Spec.g unlock_spec) ?_
   rintro v σ2 As' ⟨rfl, rfl, rfl⟩
   simp only [List.cons_append, List.nil_append]
   refine C.home (fu := Tryz.f52) Tryz.func52 hkd rfl ?_
   refine cvP.cls (m := 0) c2 ?_
   refine At.reo ?_ (hret _ _ _ ⟨none, c2, I2, A2, [], ⟨rfl, rfl⟩, rfl, .inr ⟨rfl, hQ⟩⟩)
   ((try simp only [List.cons_append, List.nil_append]); (repeat (first | with_reducible exact Reo.refl | with_reducible exact Reo.nil | with_reducible exact Fo.head | with_reducible apply Fo.tail | with_reducible apply Reo.cons | with_reducible apply Reo.drop)); done)
  | some k =>
   refine C.eqZ Tryz.underlying46 rfl ?_
   refine C.go ?_
   refine C.tru ?_
   refine C.rg [0, 1, 2, 3, 4, 5, 6] ?_
   refine C.mv rfl ?_
   refine C.mv rfl ?_
   refine C.mv rfl ?_
   refine C.bd rfl ?_
   refine C.bx rfl (fun bE => ?_)
   refine C.mi rfl ?_
   refine C.asg rfl ?_
   refine C.go ?_
   refine C.rtA ?_
   refine RunR.dfr (Spec.g unlock_spec) ?_
   rintro v σ2 As' ⟨rfl, rfl, rfl⟩
   simp only [List.cons_append, List.nil_append]
   refine C.home (fu := Tryz.f52) Tryz.func52 hkd rfl ?_
   refine cvP.cls (m := 0) c2 ?_
   refine At.reo ?_ (hret _ _ _ ⟨some k, c2, I2, A2, [pts bE (.cells #[.string nm, .int .i64 at_, errV (eb k)] 132 (0, 0))], ⟨bE, rfl, rfl⟩, rfl, .inr ⟨rfl, hQ⟩⟩)
   ((try simp only [List.cons_append, List.nil_append]); (repeat (first | with_reducible exact Reo.refl | with_reducible exact Reo.nil | with_reducible exact Fo.head | with_reducible apply Fo.tail | with_reducible apply Reo.cons | with_reducible apply Reo.drop)); done)
end Go.Sl
end
section
set_option linter.unusedVariables false
namespace Go.Sl
open Go.Proofs Go.Conc
structure TxJ (I : HL) (t : TxV) : Prop where
 o : imSl I opPC 67 t.so t.ops
 r : imSl I i32C 21 t.sr t.reads
 z : t.reads.length < 2 ^ 20
structure CvJ (I : HL) (c : CV) : Prop where
 bag : ∀ m ∈ c.bag, MsgJ I m
 txs : ∀ t ∈ c.txs, TxJ I t
 sh : ∀ v ∈ c.hosts, ShJ I v.s
theorem TxJ.mono {I I' : HL} {t : TxV} (hs : Sub I I') (h : TxJ I t) : TxJ I' t := ⟨h.o.mono hs, h.r.mono hs, h.z⟩
theorem CvJ.mono {I I' : HL} {c : CV} (hs : Sub I I') (h : CvJ I c) : CvJ I' c := ⟨fun m hm => (h.bag m hm).mono hs, fun t ht => (h.txs t ht).mono hs, fun v hv => (h.sh v hv).mono hs⟩
theorem cup_spec {σ : Gh} {c : CV} {k : Int} (hn : c.hosts.length ≤ 4) : SpecG Tryz.prog barX 76 #[ptrV c.G.b, .int .i64 k] σ [cvP c] (fun v σ' As => σ' = σ ∧ v = .bool (((hostAt c.hosts k).map (·.s.up)).getD false) ∧ As = [cvP c]) := by
 refine SpecG.of ?_
 intro Post os out kd F c' cs C hkd hret
 simp only [List.cons_append, List.nil_append]
 obtain ⟨G, hosts, bag, txs, stopped⟩ := c
 refine cvP.opn (h := fun hs bg tx => ?_)
 cases hho : hostAt hosts k with
 | none =>
  have hav : atV hosts k = none := by unfold atV; rw [hho]; rfl
  refine C.go ?_
  refine C.rg [0] ?_
  refine C.asg rfl ?_
  refine C.go ?_
  refine C.rg [0, 1, 2, 3] ?_
  refine C.mv rfl ?_
  refine C.nc rfl ?_
  refine C.fa rfl ?_
  refine C.clR mlock_spec ?_
  rintro v As' ⟨rfl, rfl⟩
  simp only [List.cons_append, List.nil_append]
  refine C.go ?_
  refine C.rg [0, 1, 2, 3] ?_
  refine C.mv rfl ?_
  refine C.nc rfl ?_
  refine C.fa rfl ?_
  refine C.df rfl ?_
  refine C.go ?_
  refine C.rg [0, 1, 2, 3] ?_
  refine C.mv rfl ?_
  refine C.mv rfl ?_
  refine C.clR (cat_spec (l := hosts) hn) ?_
  rintro v As' ⟨rfl, rfl⟩
  simp only [List.cons_append, List.nil_append]
  rw [hav]
  refine C.asg rfl ?_
  refine C.go ?_
  refine C.rg [0, 1, 2, 3, 4, 5, 6, 7, 8] ?_
  refine C.mv rfl ?_
  refine C.eqZp rfl ?_
  refine C.mv rfl ?_
  refine C.no rfl ?_
  refine C.no rfl ?_
  refine C.no rfl ?_
  refine C.no rfl ?_
  refine C.pk rfl ?_
  refine C.asg rfl ?_
  refine C.go ?_
  refine C.rtA ?_
  refine RunR.dfr (Spec.g unlock_spec) ?_
  rintro v σ' As' ⟨rfl, rfl, rfl⟩
  simp only [List.cons_append, List.nil_append]
  refine C.home (fu := Tryz.f76) Tryz.func76 hkd rfl ?_
  refine cvP.cls (m := 0) ⟨G, hosts, bag, txs, stopped⟩ ?_
  exact hret _ _ _ ⟨rfl, by rw [hho]; rfl, rfl⟩
 | some v0 =>
  obtain ⟨q, rfl, hq, rfl⟩ := hostAt_some hho
  have hav : atV hosts (q : Int) = some ⟨hosts[q].h.bs, 0, none⟩ := by unfold atV; rw [hho]; rfl
  refine C.go ?_
  refine C.rg [0] ?_
  refine C.asg rfl ?_
  refine C.go ?_
  refine C.rg [0, 1, 2, 3] ?_
  refine C.mv rfl ?_
  refine C.nc rfl ?_
  refine C.fa rfl ?_
  refine C.clR mlock_spec ?_
  rintro v As' ⟨rfl, rfl⟩
  simp only [List.cons_append, List.nil_append]
  refine C.go ?_
  refine C.rg [0, 1, 2, 3] ?_
  refine C.mv rfl ?_
  refine C.nc rfl ?_
  refine C.fa rfl ?_
  refine C.df rfl ?_
  refine C.go ?_
  refine C.rg [0, 1, 2, 3] ?_
  refine C.mv rfl ?_
  refine C.mv rfl ?_
  refine C.clR (cat_spec (l := hosts) hn) ?_
  rintro v As' ⟨rfl, rfl⟩
  simp only [List.cons_append, List.nil_append]
  rw [hav]
  refine C.asg rfl ?_
  refine C.go ?_
  refine C.rg [0, 1, 2, 3, 4, 5, 6, 7, 8] ?_
  refine C.mv rfl ?_
  refine C.eqZp rfl ?_
  refine C.mv rfl ?_
  refine C.mv rfl ?_
  refine C.nc rfl ?_
  refine C.fa rfl ?_
  refine host_out hq (by (repeat (first | with_reducible exact Fo.head | with_reducible apply Fo.tail))) ?_
  refine sxP.opn (s := hosts[q].s) (h := fun lg wt ot tm bv bl bp bd be bu tl ht => ?_)
  refine C.ld rfl ?_
  refine sxP.cls hosts[q].s ?_
  refine host_back hq (by (repeat (first | with_reducible exact ReF.nil | with_reducible exact Fo.head | with_reducible apply Fo.tail | with_reducible apply ReF.cons))) ?_
  refine C.pk rfl ?_
  refine C.asg rfl ?_
  refine C.go ?_
  refine C.rtA ?_
  refine RunR.dfr (Spec.g unlock_spec) ?_
  rintro v σ' As' ⟨rfl, rfl, rfl⟩
  simp only [List.cons_append, List.nil_append]
  refine C.home (fu := Tryz.f76) Tryz.func76 hkd rfl ?_
  refine cvP.cls (m := 0) ⟨G, hosts, bag, txs, stopped⟩ ?_
  exact hret _ _ _ ⟨rfl, by rw [hho]; rfl, rfl⟩
theorem cvalues_spec {σ : Gh} {c : CV} {k : Int} (hn : c.hosts.length ≤ 4) : SpecG Tryz.prog barX 80 #[ptrV c.G.b, .int .i64 k] σ [cvP c] (fun v σ' As => σ' = σ ∧ ∃ b' l', v = .map (some b') ∧ (match hostAt c.hosts k with | none => l' = [] | some v => l'.Perm (v.s.values.filter fun p => p.2 != 0)) ∧ As = [mapP .u8 int32V b' l', cvP c]) := by
 refine SpecG.of ?_
 intro Post os out kd F c' cs C hkd hret
 simp only [List.cons_append, List.nil_append]
 obtain ⟨G, hosts, bag, txs, stopped⟩ := c
 refine cvP.opn (h := fun hs bg tx => ?_)
 cases hho : hostAt hosts k with
 | none =>
  have hav : atV hosts k = none := by unfold atV; rw [hho]; rfl
  refine C.go ?_
  refine C.rg [0] ?_
  refine C.asg rfl ?_
  refine C.go ?_
  refine C.rg [0, 1, 2, 3] ?_
  refine C.mv rfl ?_
  refine C.nc rfl ?_
  refine C.fa rfl ?_
  refine C.clR mlock_spec ?_
  rintro v As' ⟨rfl, rfl⟩
  simp only [List.cons_append, List.nil_append]
  refine C.go ?_
  refine C.rg [0, 1, 2, 3] ?_
  refine C.mv rfl ?_
  refine C.nc rfl ?_
  refine C.fa rfl ?_
  refine C.df rfl ?_
  refine C.go ?_
  refine C.rg [0, 1, 2, 3] ?_
  refine C.mv rfl ?_
  refine C.mv rfl ?_
  refine C.clR (cat_spec (l := hosts) hn) ?_
  rintro v As' ⟨rfl, rfl⟩
  simp only [List.cons_append, List.nil_append]
  rw [hav]
  refine C.asg rfl ?_
  refine C.go ?_
  refine C.rg [0, 1] ?_
  refine C.mv rfl ?_
  refine C.eqZp rfl ?_
  refine C.go ?_
  refine C.fls ?_
  refine C.rg [0, 1] ?_
  refine C.mm .u8 int32V rfl (fun b20 => ?_)
  refine C.asg rfl ?_
  refine C.go ?_
  refine C.rtA ?_
  refine RunR.dfr (Spec.g unlock_spec) ?_
  rintro v σ' As' ⟨rfl, rfl, rfl⟩
  simp only [List.cons_append, List.nil_append]
  refine C.home (fu := Tryz.f80) Tryz.func80 hkd rfl ?_
  refine cvP.cls (m := 0) ⟨G, hosts, bag, txs, stopped⟩ ?_
  refine At.reo ?_ (hret _ _ _ ⟨rfl, b20, [], rfl, by rw [hho], rfl⟩)
  ((try simp only [List.cons_append, List.nil_append]); (repeat (first | with_reducible exact Reo.refl | with_reducible exact Reo.nil | with_reducible exact Fo.head | with_reducible apply Fo.tail | with_reducible apply Reo.cons | with_reducible apply Reo.drop)); done)
 | some v0 =>
  obtain ⟨q, rfl, hq, rfl⟩ := hostAt_some hho
  have hav : atV hosts (q : Int) = some ⟨hosts[q].h.bs, 0, none⟩ := by unfold atV; rw [hho]; rfl
  refine C.go ?_
  refine C.rg [0] ?_
  refine C.asg rfl ?_
  refine C.go ?_
  refine C.rg [0, 1, 2, 3] ?_
  refine C.mv rfl ?_
  refine C.nc rfl ?_
  refine C.fa rfl ?_
  refine C.clR mlock_spec ?_
  rintro v As' ⟨rfl, rfl⟩
  simp only [List.cons_append, List.nil_append]
  refine C.go ?_
  refine C.rg [0, 1, 2, 3] ?_
  refine C.mv rfl ?_
  refine C.nc rfl ?_
  refine C.fa rfl ?_
  refine C.df rfl ?_
  refine C.go ?_
  refine C.rg [0, 1, 2, 3] ?_
  refine C.mv rfl ?_
  refine C.mv rfl ?_
  refine C.clR (cat_spec (l := hosts) hn) ?_
  rintro v As' ⟨rfl, rfl⟩
  simp only [List.cons_append, List.nil_append]
  rw [hav]
  refine C.asg rfl ?_
  refine C.go ?_
  refine C.rg [0, 1] ?_
  refine C.mv rfl ?_
  refine C.eqZp rfl ?_
  refine C.go ?_
  refine C.tru ?_
  refine C.rg [0, 1, 2] ?_
  refine C.mv rfl ?_
  refine host_out hq (by (repeat (first | with_reducible exact Fo.head | with_reducible apply Fo.tail))) ?_
  refine C.clR (Spec.less (barLe _) (pvalues_spec (s := hosts[q].s))) ?_
  rintro v As' ⟨b', l', rfl, hl', rfl⟩
  simp only [List.cons_append, List.nil_append]
  refine host_back hq (by (repeat (first | with_reducible exact ReF.nil | with_reducible exact Fo.head | with_reducible apply Fo.tail | with_reducible apply ReF.cons))) ?_
  refine C.asg rfl ?_
  refine C.go ?_
  refine C.rtA ?_
  refine RunR.dfr (Spec.g unlock_spec) ?_
  rintro v σ' As' ⟨rfl, rfl, rfl⟩
  simp only [List.cons_append, List.nil_append]
  refine C.home (fu := Tryz.f80) Tryz.func80 hkd rfl ?_
  refine cvP.cls (m := 0) ⟨G, hosts, bag, txs, stopped⟩ ?_
  refine At.reo ?_ (hret _ _ _ ⟨rfl, b', l', rfl, by rw [hho]; exact hl', rfl⟩)
  ((try simp only [List.cons_append, List.nil_append]); (repeat (first | with_reducible exact Reo.refl | with_reducible exact Reo.nil | with_reducible exact Fo.head | with_reducible apply Fo.tail | with_reducible apply Reo.cons | with_reducible apply Reo.drop)); done)
theorem clocks_spec {σ : Gh} {c : CV} {k : Int} (hn : c.hosts.length ≤ 4) : SpecG Tryz.prog barX 128 #[ptrV c.G.b, .int .i64 k] σ [cvP c] (fun v σ' As => σ' = σ ∧ ∃ b' l', v = .map (some b') ∧ (match hostAt c.hosts k with | none => l' = [] | some v => l'.Perm v.s.locks) ∧ As = [mapP .u8 int64V b' l', cvP c]) := by
 refine SpecG.of ?_
 intro Post os out kd F c' cs C hkd hret
 simp only [List.cons_append, List.nil_append]
 obtain ⟨G, hosts, bag, txs, stopped⟩ := c
 refine cvP.opn (h := fun hs bg tx => ?_)
 cases hho : hostAt hosts k with
 | none =>
  have hav : atV hosts k = none := by unfold atV; rw [hho]; rfl
  refine C.go ?_
  refine C.rg [0] ?_
  refine C.asg rfl ?_
  refine C.go ?_
  refine C.rg [0, 1, 2, 3] ?_
  refine C.mv rfl ?_
  refine C.nc rfl ?_
  refine C.fa rfl ?_
  refine C.clR mlock_spec ?_
  rintro v As' ⟨rfl, rfl⟩
  simp only [List.cons_append, List.nil_append]
  refine C.go ?_
  refine C.rg [0, 1, 2, 3] ?_
  refine C.mv rfl ?_
  refine C.nc rfl ?_
  refine C.fa rfl ?_
  refine C.df rfl ?_
  refine C.go ?_
  refine C.rg [0, 1, 2, 3] ?_
  refine C.mv rfl ?_
  refine C.mv rfl ?_
  refine C.clR (cat_spec (l := hosts) hn) ?_
  rintro v As' ⟨rfl, rfl⟩
  simp only [List.cons_append, List.nil_append]
  rw [hav]
  refine C.asg rfl ?_
  refine C.go ?_
  refine C.rg [0, 1] ?_
  refine C.mv rfl ?_
  refine C.eqZp rfl ?_
  refine C.go ?_
  refine C.fls ?_
  refine C.rg [0, 1] ?_
  refine C.mm .u8 int64V rfl (fun b20 => ?_)
  refine C.asg rfl ?_
  refine C.go ?_
  refine C.rtA ?_
  refine RunR.dfr (Spec.g unlock_spec) ?_
  rintro v σ' As' ⟨rfl, rfl, rfl⟩
  simp only [List.cons_append, List.nil_append]
  refine C.home (fu := Tryz.f128) Tryz.func128 hkd rfl ?_
  refine cvP.cls (m := 0) ⟨G, hosts, bag, txs, stopped⟩ ?_
  refine At.reo ?_ (hret _ _ _ ⟨rfl, b20, [], rfl, by rw [hho], rfl⟩)
  ((try simp only [List.cons_append, List.nil_append]); (repeat (first | with_reducible exact Reo.refl | with_reducible exact Reo.nil | with_reducible exact Fo.head | with_reducible apply Fo.tail | with_reducible apply Reo.cons | with_reducible apply Reo.drop)); done)
 | some v0 =>
  obtain ⟨q, rfl, hq, rfl⟩ := hostAt_some hho
  have hav : atV hosts (q : Int) = some ⟨hosts[q].h.bs, 0, none⟩ := by unfold atV; rw [hho]; rfl
  refine C.go ?_
  refine C.rg [0] ?_
  refine C.asg rfl ?_
  refine C.go ?_
  refine C.rg [0, 1, 2, 3] ?_
  refine C.mv rfl ?_
  refine C.nc rfl ?_
  refine C.fa rfl ?_
  refine C.clR mlock_spec ?_
  rintro v As' ⟨rfl, rfl⟩
  simp only [List.cons_append, List.nil_append]
  refine C.go ?_
  refine C.rg [0, 1, 2, 3] ?_
  refine C.mv rfl ?_
  refine C.nc rfl ?_
  refine C.fa rfl ?_
  refine C.df rfl ?_
  refine C.go ?_
  refine C.rg [0, 1, 2, 3] ?_
  refine C.mv rfl ?_
  refine C.mv rfl ?_
  refine C.clR (cat_spec (l := hosts) hn) ?_
  rintro v As' ⟨rfl, rfl⟩
  simp only [List.cons_append, List.nil_append]
  rw [hav]
  refine C.asg rfl ?_
  refine C.go ?_
  refine C.rg [0, 1] ?_
  refine C.mv rfl ?_
  refine C.eqZp rfl ?_
  refine C.go ?_
  refine C.tru ?_
  refine C.rg [0, 1, 2] ?_
  refine C.mv rfl ?_
  refine host_out hq (by (repeat (first | with_reducible exact Fo.head | with_reducible apply Fo.tail))) ?_
  refine C.clR (Spec.less (barLe _) (plocks_spec (s := hosts[q].s))) ?_
  rintro v As' ⟨b', l', rfl, hl', rfl⟩
  simp only [List.cons_append, List.nil_append]
  refine host_back hq (by (repeat (first | with_reducible exact ReF.nil | with_reducible exact Fo.head | with_reducible apply Fo.tail | with_reducible apply ReF.cons))) ?_
  refine C.asg rfl ?_
  refine C.go ?_
  refine C.rtA ?_
  refine RunR.dfr (Spec.g unlock_spec) ?_
  rintro v σ' As' ⟨rfl, rfl, rfl⟩
  simp only [List.cons_append, List.nil_append]
  refine C.home (fu := Tryz.f128) Tryz.func128 hkd rfl ?_
  refine cvP.cls (m := 0) ⟨G, hosts, bag, txs, stopped⟩ ?_
  refine At.reo ?_ (hret _ _ _ ⟨rfl, b', l', rfl, by rw [hho]; exact hl', rfl⟩)
  ((try simp only [List.cons_append, List.nil_append]); (repeat (first | with_reducible exact Reo.refl | with_reducible exact Reo.nil | with_reducible exact Fo.head | with_reducible apply Fo.tail | with_reducible apply Reo.cons | with_reducible apply Reo.drop)); done)
theorem crecords_spec {σ : Gh} {c : CV} {k : Int} {I : HL} (hn : c.hosts.length ≤ 4) (hJ : CvJ I c) (hlog : ∀ v ∈ c.hosts, v.s.log.length < 2 ^ 30) : SpecG Tryz.prog barX 89 #[ptrV c.G.b, .int .i64 k] σ [cvP c, imm I] (fun v σ' As => σ' = σ ∧ ∃ (sl : SliceV) (rs : List RecV) (good : Int), v = .tuple #[sl.v, .int .i64 good] ∧ (match hostAt c.hosts k with | none => rs = [] ∧ good = 0 | some v => rs.map (·.toRecR) = v.s.log.map (·.abs.recd) ∧ good = v.s.good) ∧ As = [slP recC 6 167 sl rs, all (rs.map recE), cvP c, imm I]) := by
 refine SpecG.of ?_
 intro Post os out kd F c' cs C hkd hret
 simp only [List.cons_append, List.nil_append]
 obtain ⟨G, hosts, bag, txs, stopped⟩ := c
 refine cvP.opn (h := fun hs bg tx => ?_)
 cases hho : hostAt hosts k with
 | none =>
  have hav : atV hosts k = none := by unfold atV; rw [hho]; rfl
  refine C.go ?_
  refine C.rg [0, 1] ?_
  refine C.asg rfl ?_
  refine C.asg rfl ?_
  refine C.go ?_
  refine C.rg [0, 1, 2, 3] ?_
  refine C.mv rfl ?_
  refine C.nc rfl ?_
  refine C.fa rfl ?_
  refine C.clR mlock_spec ?_
  rintro v As' ⟨rfl, rfl⟩
  simp only [List.cons_append, List.nil_append]
  refine C.go ?_
  refine C.rg [0, 1, 2, 3] ?_
  refine C.mv rfl ?_
  refine C.nc rfl ?_
  refine C.fa rfl ?_
  refine C.df rfl ?_
  refine C.go ?_
  refine C.rg [0, 1, 2, 3] ?_
  refine C.mv rfl ?_
  refine C.mv rfl ?_
  refine C.clR (cat_spec (l := hosts) hn) ?_
  rintro v As' ⟨rfl, rfl⟩
  simp only [List.cons_append, List.nil_append]
  rw [hav]
  refine C.asg rfl ?_
  refine C.go ?_
  refine C.rg [0, 1] ?_
  refine C.mv rfl ?_
  refine C.eqZp rfl ?_
  refine C.go ?_
  refine C.fls ?_
  refine C.rg [0, 1] ?_
  refine C.asg rfl ?_
  refine C.asg rfl ?_
  refine C.go ?_
  refine C.rtA ?_
  refine RunR.dfr (Spec.g unlock_spec) ?_
  rintro v σ' As' ⟨rfl, rfl, rfl⟩
  simp only [List.cons_append, List.nil_append]
  refine C.home (fu := Tryz.f89) Tryz.func89 hkd rfl ?_
  refine At.nilS recC 6 167 (At.nilA (show At (RunR Tryz.prog Post barX _ 0 os out) 0 (all (([] : List RecV).map recE) :: _) _ from ?_))
  refine cvP.cls (m := 0) ⟨G, hosts, bag, txs, stopped⟩ ?_
  refine At.reo ?_ (hret _ _ _ ⟨rfl, nilS, [], 0, rfl, by rw [hho]; exact ⟨rfl, rfl⟩, rfl⟩)
  ((try simp only [List.cons_append, List.nil_append]); (repeat (first | with_reducible exact Reo.refl | with_reducible exact Reo.nil | with_reducible exact Fo.head | with_reducible apply Fo.tail | with_reducible apply Reo.cons | with_reducible apply Reo.drop)); done)
 | some v0 =>
  obtain ⟨q, rfl, hq, rfl⟩ := hostAt_some hho
  have hav : atV hosts (q : Int) = some ⟨hosts[q].h.bs, 0, none⟩ := by unfold atV; rw [hho]; rfl
  refine C.go ?_
  refine C.rg [0, 1] ?_
  refine C.asg rfl ?_
  refine C.asg rfl ?_
  refine C.go ?_
  refine C.rg [0, 1, 2, 3] ?_
  refine C.mv rfl ?_
  refine C.nc rfl ?_
  refine C.fa rfl ?_
  refine C.clR mlock_spec ?_
  rintro v As' ⟨rfl, rfl⟩
  simp only [List.cons_append, List.nil_append]
  refine C.go ?_
  refine C.rg [0, 1, 2, 3] ?_
  refine C.mv rfl ?_
  refine C.nc rfl ?_
  refine C.fa rfl ?_
  refine C.df rfl ?_
  refine C.go ?_
  refine C.rg [0, 1, 2, 3] ?_
  refine C.mv rfl ?_
  refine C.mv rfl ?_
  refine C.clR (cat_spec (l := hosts) hn) ?_
  rintro v As' ⟨rfl, rfl⟩
  simp only [List.cons_append, List.nil_append]
  rw [hav]
  refine C.asg rfl ?_
  refine C.go ?_
  refine C.rg [0, 1] ?_
  refine C.mv rfl ?_
  refine C.eqZp rfl ?_
  refine C.go ?_
  refine C.tru ?_
  refine C.rg [0, 1, 2, 3, 4, 5] ?_
  refine C.mv rfl ?_
  refine host_out hq (by (repeat (first | with_reducible exact Fo.head | with_reducible apply Fo.tail))) ?_
  refine C.clR (Spec.less (barLe _) (precords_spec (hJ.sh _ (List.getElem_mem hq)) (hlog _ (List.getElem_mem hq)))) ?_
  rintro v As' ⟨sl, rs, rfl, hrs, rfl⟩
  simp only [List.cons_append, List.nil_append]
  refine host_back hq (by (repeat (first | with_reducible exact ReF.nil | with_reducible exact Fo.head | with_reducible apply Fo.tail | with_reducible apply ReF.cons))) ?_
  refine C.ext rfl ?_
  refine C.ext rfl ?_
  refine C.asg rfl ?_
  refine C.asg rfl ?_
  refine C.go ?_
  refine C.rtA ?_
  refine RunR.dfr (Spec.g unlock_spec) ?_
  rintro v σ' As' ⟨rfl, rfl, rfl⟩
  simp only [List.cons_append, List.nil_append]
  refine C.home (fu := Tryz.f89) Tryz.func89 hkd rfl ?_
  refine cvP.cls (m := 0) ⟨G, hosts, bag, txs, stopped⟩ ?_
  refine At.reo ?_ (hret _ _ _ ⟨rfl, sl, rs, hosts[q].s.good, rfl, by rw [hho]; exact ⟨hrs, rfl⟩, rfl⟩)
  ((try simp only [List.cons_append, List.nil_append]); (repeat (first | with_reducible exact Reo.refl | with_reducible exact Reo.nil | with_reducible exact Fo.head | with_reducible apply Fo.tail | with_reducible apply Reo.cons | with_reducible apply Reo.drop)); done)
end Go.Sl
end
