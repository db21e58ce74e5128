/-
  Texts that the proof needs, joined: part 1.
-/
import Derived.Conc.Token
import Derived.Conc.MarkLaws
import Derived.Conc.JoinTrace
import Derived.Laws.Sem
import Derived.Laws.BitsLemmas
set_option linter.unusedSimpArgs false
section
set_option linter.unusedVariables false
namespace Go.Sl
open Go.Conc
structure Px (rd : Nat → Loc → Prop) (lo : Nat → Prop) (sh : Loc → Prop) (B : Nat) (K : Nat → Prop) (t : Trace) : Prop where
 clean : ∀ said, ¬ Race said t
 known : ∀ i a, touchAt t i = some a → a.loc.isMemory = true →
  K i ∨ (a.write = false ∧ ∃ g, t.g? i = some g ∧ lo g ∧ rd g a.loc) ∨ (a.kind = .atomic ∧ sh a.loc ∧ ¬ t.heard i)
 wrote : ∀ i a, touchAt t i = some a → a.write = true → ∀ g, lo g → rd g a.loc → Knows t g i
 plain : ∀ i a, touchAt t i = some a → sh a.loc → a.kind ≠ .plain
 norel : ∀ i ad, t.act? i = some (.mark (.release ad)) → ¬ sh (.cell ad)
 seen : ∀ op ∈ t, op.act.low B
section
variable {rd : Nat → Loc → Prop} {lo : Nat → Prop} {sh : Loc → Prop} {B B' h : Nat} {K K' : Nat → Prop} {t u : Trace}
theorem seen_app2 (h : ∀ op ∈ t, op.act.low B) (hB : B ≤ B') (hu : ∀ op ∈ u, op.act.low B') : ∀ op ∈ t ++ u, op.act.low B' :=
 fun op hop => (Array.mem_append.1 hop).elim (fun x => MemAct.low_mono hB (h op x)) (hu op)
theorem Px.oldKnown (H : Px rd lo sh B K t) (hK : ∀ i, K i → K' i) {i : Nat} {a : Touch} {x : MemOp} (hx' : t[i]? = some x) (hxa : x.act.touch? = some a) (hm : a.loc.isMemory = true) :
  K' i ∨ (a.write = false ∧ ∃ g, (t ++ u).g? i = some g ∧ lo g ∧ rd g a.loc) ∨ (a.kind = .atomic ∧ sh a.loc ∧ ¬ (t ++ u).heard i) := by
 have hlt := lt_size_of_getElem? hx'
 rcases H.known i a (by rw [touchAt_of hx']; exact hxa) hm with h1 | ⟨h1, g, hg, hl, hr⟩ | ⟨h1, h2, h3⟩
 ·exact .inl (hK i h1)
 ·exact .inr (.inl ⟨h1, g, by rw [g?_old hlt]; exact hg, hl, hr⟩)
 ·exact .inr (.inr ⟨h1, h2, fun z => h3 ((heard_old hlt).1 z)⟩)
theorem Px.newPlain (H : Px rd lo sh B K t) (hu : ∀ op ∈ u, ∀ b, op.act.touch? = some b → sh b.loc → b.kind ≠ .plain) : ∀ i a, touchAt (t ++ u) i = some a → sh a.loc → a.kind ≠ .plain := by
 intro i a ha hs
 obtain ⟨x, hx, hxa⟩ := touch_of ha
 rcases getElem?_append_cases hx with ⟨hi, hx'⟩ | ⟨_, hxu⟩
 ·exact H.plain i a (by rw [touchAt_of hx']; exact hxa) hs
 ·exact hu x hxu a hxa hs
theorem Px.newRel (H : Px rd lo sh B K t) (hu : ∀ op ∈ u, ∀ ad, op.act = .mark (.release ad) → ¬ sh (.cell ad)) : ∀ i ad, (t ++ u).act? i = some (.mark (.release ad)) → ¬ sh (.cell ad) := by
 intro i ad ha
 obtain ⟨x, hx, hxa⟩ := Option.map_eq_some_iff.1 ha
 rcases getElem?_append_cases hx with ⟨hi, hx'⟩ | ⟨_, hxu⟩
 ·exact H.norel i ad (by rw [act?_of hx', hxa])
 ·exact hu x hxu ad hxa
theorem Px.own (H : Px rd lo sh B (Knows t h) t) (hu : ∀ op ∈ u, op.g = h)
  (hs : ∀ op ∈ u, ∀ b, op.act.touch? = some b → (b.write = true → ∀ g, lo g → ¬ rd g b.loc) ∧ (sh b.loc → b.kind ≠ .plain))
  (hr : ∀ op ∈ u, ∀ ad, op.act = .mark (.release ad) → ¬ sh (.cell ad)) (hB : B ≤ B') (hl : ∀ op ∈ u, op.act.low B') : Px rd lo sh B' (Knows (t ++ u) h) (t ++ u) := by
 refine ⟨fun said => noRace_append (H.clean said) hu fun i a ha op hop b hb hc => ?_, fun i a ha hm => ?_, fun i a ha hw g hg hrd => ?_, H.newPlain fun op hop b hb => (hs op hop b hb).2, H.newRel hr, seen_app2 H.seen hB hl⟩
 ·rcases H.known i a ha hc.2.1 with hk | ⟨hw, g, _, hlo, hrd⟩ | ⟨ha1, hsh, _⟩
  ·exact hk
  ·rcases hc.2.2.1 with x | x
   ·rw [hw] at x; cases x
   ·exact absurd (hc.1 ▸ hrd) ((hs op hop b hb).1 x g hlo)
  ·have hbk := (hs op hop b hb).2 (hc.1 ▸ hsh)
   rcases hc.2.2.2 with x | x | ⟨_, x, _⟩
   ·rw [ha1] at x; cases x
   ·exact absurd x hbk
   ·rw [ha1] at x; cases x
 ·obtain ⟨x, hx, hxa⟩ := touch_of ha
  rcases getElem?_append_cases hx with ⟨_, hx'⟩ | ⟨_, hxu⟩
  ·exact H.oldKnown (fun i => Knows.app u) hx' hxa hm
  ·have := knows_own hx
   rw [hu x hxu] at this
   exact .inl this
 ·obtain ⟨x, hx, hxa⟩ := touch_of ha
  rcases getElem?_append_cases hx with ⟨_, hx'⟩ | ⟨_, hxu⟩
  ·exact (H.wrote i a (by rw [touchAt_of hx']; exact hxa) hw g hg hrd).app u
  ·exact absurd hrd ((hs x hxu a hxa).1 hw g hg)
theorem Px.mute (H : Px rd lo sh B K t) (hK : ∀ i, K i → K' i) (hn : ∀ op ∈ u, op.act.touch? = none)
  (hr : ∀ op ∈ u, ∀ ad, op.act = .mark (.release ad) → ¬ sh (.cell ad)) (hB : B ≤ B') (hl : ∀ op ∈ u, op.act.low B') : Px rd lo sh B' K' (t ++ u) := by
 refine ⟨fun said => noRace_appendMute (H.clean said) hn, fun i a ha hm => ?_, fun i a ha hw g hg hrd => ?_, H.newPlain fun op hop b hb => (by rw [hn op hop] at hb; cases hb), H.newRel hr, seen_app2 H.seen hB hl⟩
 ·obtain ⟨x, hx, hxa⟩ := touch_of ha
  rcases getElem?_append_cases hx with ⟨_, hx'⟩ | ⟨_, hxu⟩
  ·exact H.oldKnown hK hx' hxa hm
  ·rw [hn x hxu] at hxa; cases hxa
 ·obtain ⟨x, hx, hxa⟩ := touch_of ha
  rcases getElem?_append_cases hx with ⟨_, hx'⟩ | ⟨_, hxu⟩
  ·exact (H.wrote i a (by rw [touchAt_of hx']; exact hxa) hw g hg hrd).app u
  ·rw [hn x hxu] at hxa; cases hxa
theorem Px.reads {g : Nat} (H : Px rd lo sh B K t) (hK : ∀ i, K i → K' i) (hL : lo g) (hu : ∀ op ∈ u, op.g = g) (hr : ∀ op ∈ u, ∀ b, op.act.touch? = some b → b.write = false ∧ rd g b.loc ∧ ¬ sh b.loc)
  (hrel : ∀ op ∈ u, ∀ ad, op.act = .mark (.release ad) → ¬ sh (.cell ad)) (hB : B ≤ B') (hl : ∀ op ∈ u, op.act.low B') : Px rd lo sh B' K' (t ++ u) := by
 refine ⟨fun said => noRace_append (H.clean said) hu fun i a ha op hop b hb hc => ?_, fun i a ha hm => ?_, fun i a ha hw g' hg' hrd => ?_, H.newPlain fun op hop b hb hs => absurd hs (hr op hop b hb).2.2, H.newRel hrel, seen_app2 H.seen hB hl⟩
 ·obtain ⟨hb0, hbS, _⟩ := hr op hop b hb
  rcases hc.2.2.1 with x | x
  ·exact H.wrote i a ha x g hL (hc.1 ▸ hbS)
  ·rw [hb0] at x; cases x
 ·obtain ⟨x, hx, hxa⟩ := touch_of ha
  rcases getElem?_append_cases hx with ⟨_, hx'⟩ | ⟨_, hxu⟩
  ·exact H.oldKnown hK hx' hxa hm
  ·exact .inr (.inl ⟨(hr x hxu a hxa).1, g, by rw [g?_of hx, hu x hxu], hL, (hr x hxu a hxa).2.1⟩)
 ·obtain ⟨x, hx, hxa⟩ := touch_of ha
  rcases getElem?_append_cases hx with ⟨_, hx'⟩ | ⟨_, hxu⟩
  ·exact (H.wrote i a (by rw [touchAt_of hx']; exact hxa) hw g' hg' hrd).app u
  ·rw [(hr x hxu a hxa).1] at hw; cases hw
theorem Px.atomics {g : Nat} (H : Px rd lo sh B K t) (hK : ∀ i, K i → K' i) (hu : ∀ op ∈ u, op.g = g) (hr : ∀ (i : Nat) (op : MemOp), u[i]? = some op → ∀ b, op.act.touch? = some b → b.kind = .atomic ∧ sh b.loc ∧ ¬ (t ++ u).heard (t.size + i))
  (hsr : ∀ g l, lo g → rd g l → ¬ sh l) (hrel : ∀ op ∈ u, ∀ ad, op.act = .mark (.release ad) → ¬ sh (.cell ad)) (hB : B ≤ B') (hl : ∀ op ∈ u, op.act.low B') : Px rd lo sh B' K' (t ++ u) := by
 have hr' : ∀ op ∈ u, ∀ b, op.act.touch? = some b → b.kind = .atomic ∧ sh b.loc := fun op hop b hb => by
  obtain ⟨i, hi, rfl⟩ := Array.mem_iff_getElem.1 hop
  have := hr i _ (Array.getElem?_eq_getElem hi) b hb
  exact ⟨this.1, this.2.1⟩
 refine ⟨fun said => noRace_append (H.clean said) hu fun i a ha op hop b hb hc => ?_, fun i a ha hm => ?_, fun i a ha hw g' hg' hrd => ?_, H.newPlain fun op hop b hb _ => (by rw [(hr' op hop b hb).1]; simp), H.newRel hrel, seen_app2 H.seen hB hl⟩
 ·obtain ⟨hb1, hb2⟩ := hr' op hop b hb
  have h1 := H.plain i a ha (hc.1 ▸ hb2)
  rcases hc.2.2.2 with x | x | ⟨_, _, x⟩
  ·exact absurd x h1
  ·rw [hb1] at x; cases x
  ·rw [hb1] at x; cases x
 ·obtain ⟨x, hx, hxa⟩ := touch_of ha
  rcases getElem?_append_cases hx with ⟨_, hx'⟩ | ⟨hge, hxu⟩
  ·exact H.oldKnown hK hx' hxa hm
  ·have hi : u[i - t.size]? = some x := by
    rw [Array.getElem?_append_right hge] at hx; exact hx
   obtain ⟨h1, h2, h3⟩ := hr _ x hi a hxa
   rw [show t.size + (i - t.size) = i by omega] at h3
   exact .inr (.inr ⟨h1, h2, h3⟩)
 ·obtain ⟨x, hx, hxa⟩ := touch_of ha
  rcases getElem?_append_cases hx with ⟨_, hx'⟩ | ⟨_, hxu⟩
  ·exact (H.wrote i a (by rw [touchAt_of hx']; exact hxa) hw g' hg' hrd).app u
  ·exact absurd (hr' x hxu a hxa).2 (hsr g' _ hg' hrd)
theorem Px.reset {rd' : Nat → Loc → Prop} {lo' : Nat → Prop} (H : Px rd lo sh B K t) (hK : ∀ i a g, touchAt t i = some a → a.loc.isMemory = true → a.write = false → t.g? i = some g → lo g → rd g a.loc → K i ∨ (lo' g ∧ rd' g a.loc) ∨ (a.kind = .atomic ∧ sh a.loc ∧ ¬ t.heard i))
  (hw : ∀ g l, lo' g → rd' g l → (lo g ∧ rd g l) ∨ ∀ i a, touchAt t i = some a → a.write = true → a.loc = l → Knows t g i) : Px rd' lo' sh B K t := by
 refine ⟨H.clean, fun i a ha hm => ?_, fun i a ha hwr g hg hrd => ?_, H.plain, H.norel, H.seen⟩
 ·rcases H.known i a ha hm with h1 | ⟨h1, g, hg, hl, hr⟩ | h1
  ·exact .inl h1
  ·rcases hK i a g ha hm h1 hg hl hr with h2 | ⟨h2, h3⟩ | h2
   ·exact .inl h2
   ·exact .inr (.inl ⟨h1, g, hg, h2, h3⟩)
   ·exact .inr (.inr h2)
  ·exact .inr (.inr h1)
 ·rcases hw g _ hg hrd with ⟨h1, h2⟩ | h1
  ·exact H.wrote i a ha hwr g h1 h2
  ·exact h1 i a ha hwr rfl
theorem Px.shun {sh' : Loc → Prop} (H : Px rd lo sh B K t) (hsub : ∀ l, sh l → sh' l) (hnew : ∀ l, sh' l → ¬ sh l → ∃ a : Addr, l = .cell a ∧ B ≤ a.block) : Px rd lo sh' B K t := by
 refine ⟨H.clean, fun i a ha hm => (H.known i a ha hm).imp id fun z => z.imp id fun ⟨x, y, z⟩ => ⟨x, hsub _ y, z⟩, H.wrote, fun i a ha hs => ?_, fun i ad ha hs => ?_, H.seen⟩
 ·by_cases h0 : sh a.loc
  ·exact H.plain i a ha h0
  ·obtain ⟨ad, e, hb⟩ := hnew _ hs h0
   obtain ⟨x, hx, hxa⟩ := touch_of ha
   have hl := H.seen x (mem_of_getElem? hx)
   exfalso
   cases hact : x.act with
   | access ev =>
    rw [hact] at hxa hl
    simp only [MemAct.touch?, Option.some.injEq] at hxa
    subst hxa
    simp only at e
    simp only [MemAct.low, e, Loc.low] at hl
    omega
   | mark m =>
    rw [hact] at hxa hl
    cases m <;> simp only [MemAct.touch?, Option.some.injEq, reduceCtorEq] at hxa <;> subst hxa <;> simp only [Loc.cell.injEq] at e <;> subst e <;> simp only [MemAct.low] at hl <;> omega
   | _ => rw [hact] at hxa; simp [MemAct.touch?] at hxa
 ·by_cases h0 : sh (.cell ad)
  ·exact H.norel i ad ha h0
  ·obtain ⟨ad', e, hb⟩ := hnew _ hs h0
   obtain rfl := Loc.cell.inj e
   obtain ⟨x, hx, hxa⟩ := Option.map_eq_some_iff.1 ha
   have hl := H.seen x (mem_of_getElem? hx)
   rw [hxa] at hl
   simp only [MemAct.low] at hl
   omega
end
section
variable {rd : Nat → Loc → Prop} {lo : Nat → Prop} {sh : Loc → Prop} {B h j : Nat} {t : Trace}
theorem Px.give (H : Px rd lo sh B (Knows t h) t) (dh : Deaf t h = 0) (dj : Deaf t j = 0) (fh : FuncId) (ph : String) (fj : FuncId) (pj : String) {c : Nat} (k cap : Nat) (hc : c < B) :
  Px rd (fun g => lo g ∧ g ≠ j) sh B (Knows (t ++ met h j fh ph fj pj c k cap) j) (t ++ met h j fh ph fj pj c k cap) := by
 have hn := met_mute h j fh ph fj pj c k cap
 have e0 : (t ++ met h j fh ph fj pj c k cap)[t.size]? = some { g := h, fn := fh, pos := ph, act := .send c k } := by simp [met]
 have e3 : (t ++ met h j fh ph fj pj c k cap)[t.size + 3]? = some { g := j, fn := fj, pos := pj, act := .recvDone c k } := by simp [met]
 have edge : HappensBefore (t ++ met h j fh ph fj pj c k cap) t.size (t.size + 3) :=
  Relation.TransGen.single (.inr ⟨.handOver (act?_of e0) (act?_of e3), ⟨h, g?_of e0, by rw [deaf_old (Nat.le_refl _)]; exact dh⟩, ⟨j, g?_of e3, by rw [deaf_quiet (met_quiet _ _ _ _ _ _ _ _ _ j) 3 (by simp [met])]; exact dj⟩⟩)
 have hl : ∀ op ∈ met h j fh ph fj pj c k cap, op.act.low B := fun op hop => by
  simp only [met, List.mem_toArray, List.mem_cons, List.not_mem_nil, or_false] at hop
  rcases hop with rfl | rfl | rfl | rfl <;> exact hc
 have hrel : ∀ op ∈ met h j fh ph fj pj c k cap, ∀ ad, op.act = .mark (.release ad) → ¬ sh (.cell ad) := fun op hop ad e => by
  simp only [met, List.mem_toArray, List.mem_cons, List.not_mem_nil, or_false] at hop
  rcases hop with rfl | rfl | rfl | rfl <;> cases e
 refine ⟨fun said => noRace_appendMute (H.clean said) hn, fun i a ha hm => ?_, fun i a ha hw g hg hrd => ?_, H.newPlain fun op hop b hb => (by rw [hn op hop] at hb; cases hb), H.newRel hrel, seen_app2 H.seen (Nat.le_refl _) hl⟩
 ·obtain ⟨x, hx, hxa⟩ := touch_of ha
  rcases getElem?_append_cases hx with ⟨hi, hx'⟩ | ⟨_, hxu⟩
  ·rcases H.known i a (by rw [touchAt_of hx']; exact hxa) hm with hk | ⟨p, g, hg, hl, hr⟩ | ⟨p, q, r⟩
   ·exact .inl ⟨t.size + 3, _, e3, rfl, .inr ((hk.hb_new (Nat.le_refl _) e0 rfl).trans edge)⟩
   ·by_cases e : g = j
    ·subst e
     have := knows_own hx
     rw [show x.g = g from by have := g?_of hx'; rw [hg] at this; exact (Option.some.inj this).symm] at this
     exact .inl this
    ·exact .inr (.inl ⟨p, g, by rw [g?_old hi]; exact hg, ⟨hl, e⟩, hr⟩)
   ·exact .inr (.inr ⟨p, q, fun z => r ((heard_old hi).1 z)⟩)
  ·rw [hn x hxu] at hxa; cases hxa
 ·obtain ⟨x, hx, hxa⟩ := touch_of ha
  rcases getElem?_append_cases hx with ⟨_, hx'⟩ | ⟨_, hxu⟩
  ·exact (H.wrote i a (by rw [touchAt_of hx']; exact hxa) hw g hg.1 hrd).app _
  ·rw [hn x hxu] at hxa; cases hxa
theorem Px.loosen {g₀ : Nat} {S : Loc → Prop} {K : Nat → Prop} (H : Px rd lo sh B K t) (hnl : ¬ lo g₀) (hS : ∀ l, S l → l.isMemory = true ∧ ¬ sh l) (hk : ∀ i a, touchAt t i = some a → a.write = true → S a.loc → Knows t g₀ i) :
  Px (fun g l => if g = g₀ then S l else rd g l) (fun g => lo g ∨ g = g₀) sh B K t := by
 refine H.reset (fun i a g ha hm hw hg hl hr => .inr (.inl ⟨.inl hl, ?_⟩)) fun g l hg hr => ?_
 ·have : g ≠ g₀ := fun e => hnl (e ▸ hl)
  simpa [this] using hr
 ·by_cases e : g = g₀
  ·subst e
   simp only [if_true] at hr
   exact .inr fun i a ha hw hl => hk i a ha hw (hl ▸ hr)
  ·simp only [e, if_false] at hr
   rcases hg with hg | hg
   ·exact .inl ⟨hg, hr⟩
   ·exact absurd hg e
theorem Px.writes {K : Nat → Prop} (H : Px rd lo sh B K t) {l : Loc} (hm : l.isMemory = true) (hs : ¬ sh l) {i : Nat} {a : Touch} (ha : touchAt t i = some a) (hw : a.write = true) (hl : a.loc = l) : K i := by
 rcases H.known i a ha (hl ▸ hm) with h1 | ⟨h1, _⟩ | ⟨_, h1, _⟩
 ·exact h1
 ·rw [hw] at h1; cases h1
 ·exact absurd (hl ▸ h1) hs
theorem Px.hire {c : Nat} {S : Loc → Prop} (H : Px rd lo sh B (Knows t h) t) (dh : Deaf t h = 0) (dc : Deaf t c = 0) (hnl : ¬ lo c) (hS : ∀ l, S l → l.isMemory = true ∧ ¬ sh l) (fh : FuncId) (ph : String) (fc : FuncId) :
  Px (fun g l => if g = c then S l else rd g l) (fun g => lo g ∨ g = c) sh B (Knows (t ++ #[{ g := h, fn := fh, pos := ph, act := .go c }, { g := c, fn := fc, pos := ph, act := .start }]) h)
   (t ++ #[{ g := h, fn := fh, pos := ph, act := .go c }, { g := c, fn := fc, pos := ph, act := .start }]) := by
 generalize hu : (#[{ g := h, fn := fh, pos := ph, act := .go c }, { g := c, fn := fc, pos := ph, act := .start }] : Trace) = u
 have hn : ∀ op ∈ u, op.act.touch? = none := by
  intro op hop
  subst hu
  simp only [List.mem_toArray, List.mem_cons, List.not_mem_nil, or_false] at hop
  rcases hop with rfl | rfl <;> rfl
 have hq : ∀ g, ∀ op ∈ u, ∀ d, deafStep g d op = d := by
  intro g op hop d
  subst hu
  simp only [List.mem_toArray, List.mem_cons, List.not_mem_nil, or_false] at hop
  rcases hop with rfl | rfl <;> rfl
 have e0 : (t ++ u)[t.size]? = some { g := h, fn := fh, pos := ph, act := .go c } := by subst hu; simp
 have e1 : (t ++ u)[t.size + 1]? = some { g := c, fn := fc, pos := ph, act := .start } := by subst hu; simp
 have edge : HappensBefore (t ++ u) t.size (t.size + 1) :=
  Relation.TransGen.single (.inr ⟨.spawn (act?_of e0) (act?_of e1) (g?_of e1), ⟨h, g?_of e0, by rw [deaf_old (Nat.le_refl _)]; exact dh⟩, ⟨c, g?_of e1, by rw [deaf_quiet (hq c) 1 (by subst hu; simp)]; exact dc⟩⟩)
 have hl : ∀ op ∈ u, op.act.low B := fun op hop => by
  subst hu
  simp only [List.mem_toArray, List.mem_cons, List.not_mem_nil, or_false] at hop
  rcases hop with rfl | rfl <;> trivial
 have hrel : ∀ op ∈ u, ∀ ad, op.act = .mark (.release ad) → ¬ sh (.cell ad) := fun op hop ad e => by
  subst hu
  simp only [List.mem_toArray, List.mem_cons, List.not_mem_nil, or_false] at hop
  rcases hop with rfl | rfl <;> cases e
 have H' : Px rd lo sh B (Knows (t ++ u) h) (t ++ u) := H.mute (fun i => Knows.app u) hn hrel (Nat.le_refl _) hl
 refine H'.loosen hnl hS fun i a ha hw hSl => ?_
 obtain ⟨x, hx, hxa⟩ := touch_of ha
 rcases getElem?_append_cases hx with ⟨_, hx'⟩ | ⟨_, hxu⟩
 ·have hk := H.writes (hS _ hSl).1 (hS _ hSl).2 (by rw [touchAt_of hx']; exact hxa) hw rfl
  exact ⟨t.size + 1, _, e1, rfl, .inr ((hk.hb_new (Nat.le_refl _) e0 rfl).trans edge)⟩
 ·rw [hn x hxu] at hxa; cases hxa
structure RelX (sh : Loc → Prop) (a : Addr) (t : Trace) (g r : Nat) : Prop where
 act : t.act? r = some (.mark (.releaseMerge a))
 own : t.g? r = some g
 heard : t.heard r
 after : ∀ i x, r < i → t.g? i = some g → touchAt t i = some x → x.kind = .atomic ∧ sh x.loc ∧ ¬ t.heard i
theorem RelX.app {a : Addr} {g r : Nat} {u : Trace} (H : RelX sh a t g r) (hu : ∀ (i : Nat) (op : MemOp), u[i]? = some op → op.g = g → ∀ b, op.act.touch? = some b → b.kind = .atomic ∧ sh b.loc ∧ ¬ (t ++ u).heard (t.size + i)) : RelX sh a (t ++ u) g r := by
 have hr := lt_of_act? H.act
 refine ⟨by rw [act?_old hr]; exact H.act, by rw [g?_old hr]; exact H.own, (heard_old hr).2 H.heard, fun i x hi hg hx => ?_⟩
 obtain ⟨op, hop, hxa⟩ := touch_of hx
 rcases getElem?_append_cases hop with ⟨hlt, hop'⟩ | ⟨hge, _⟩
 ·obtain ⟨h1, h2, h3⟩ := H.after i x hi (by rw [← g?_old (u := u) hlt]; exact hg) (by rw [touchAt_of hop']; exact hxa)
  exact ⟨h1, h2, fun z => h3 ((heard_old hlt).1 z)⟩
 ·have hi' : u[i - t.size]? = some op := by rw [Array.getElem?_append_right hge] at hop; exact hop
  have hog : op.g = g := by rw [g?_of hop] at hg; exact Option.some.inj hg
  have := hu _ op hi' hog x hxa
  rwa [show t.size + (i - t.size) = i by omega] at this
theorem RelX.other {a : Addr} {g g' r : Nat} {u : Trace} (H : RelX sh a t g r) (hu : ∀ op ∈ u, op.g = g') (hne : g' ≠ g) : RelX sh a (t ++ u) g r :=
 H.app fun i op hop hg => absurd ((hu op (Array.mem_of_getElem? hop)).symm.trans hg) hne
theorem RelX.still {a : Addr} {g r : Nat} {u : Trace} (H : RelX sh a t g r) (hu : ∀ op ∈ u, op.act.touch? = none) : RelX sh a (t ++ u) g r :=
 H.app fun i op hop hg b hb => by rw [hu op (Array.mem_of_getElem? hop)] at hb; cases hb
theorem RelX.new {a : Addr} {g : Nat} {op : MemOp} (hg : op.g = g) (ha : op.act = .mark (.releaseMerge a)) (hd : Deaf t g = 0) : RelX sh a (t ++ #[op]) g t.size := by
 have hlast : (t ++ #[op])[t.size]? = some op := by simp
 refine ⟨by rw [act?_of hlast, ha], by rw [g?_of hlast, hg], ⟨g, by rw [g?_of hlast, hg], by rw [deaf_old (Nat.le_refl _)]; exact hd⟩, fun i x hi hgi hx => ?_⟩
 obtain ⟨y, hy, _⟩ := touch_of hx
 have := lt_size_of_getElem? hy
 simp at this
 omega
theorem Px.acquire {a : Addr} {I : Nat → Prop} {op : MemOp} (H : Px rd lo sh B (Knows t h) t) (dh : Deaf t h = 0) (hop : op.g = h) (hact : op.act = .mark (.acquire a)) (hsh : sh (.cell a)) (hB : a.block < B)
  (hI : ∀ g, I g → ∃ r, RelX sh a t g r) : Px rd (fun g => lo g ∧ ¬ I g) sh B (Knows (t ++ #[op]) h) (t ++ #[op]) := by
 have hn : ∀ o ∈ #[op], o.act.touch? = none := fun o ho => by
  simp only [List.mem_toArray, List.mem_cons, List.not_mem_nil, or_false] at ho
  subst ho; rw [hact]; rfl
 have H' : Px rd lo sh B (Knows (t ++ #[op]) h) (t ++ #[op]) := H.mute (fun i => Knows.app _) hn (fun o ho ad e => by
  simp only [List.mem_toArray, List.mem_cons, List.not_mem_nil, or_false] at ho
  subst ho; rw [hact] at e; cases e) (Nat.le_refl _) (fun o ho => by
  simp only [List.mem_toArray, List.mem_cons, List.not_mem_nil, or_false] at ho
  subst ho; rw [hact]; exact hB)
 have hlast : (t ++ #[op])[t.size]? = some op := by simp
 refine H'.reset (fun i x g hx hm hw hg hl hr => ?_) fun g l hg hr => .inl ⟨hg.1, hr⟩
 by_cases hIg : I g
 ·obtain ⟨r, hR⟩ := hI g hIg
  have hR' : RelX sh a (t ++ #[op]) g r := hR.still hn
  rcases Nat.lt_or_ge r i with hri | hri
  ·exact .inr (.inr (hR'.after i x hri hg hx))
  ·left
   have hrl := lt_of_act? hR.act
   obtain ⟨y, hy, hyx⟩ := touch_of hx
   obtain ⟨z, hz, hza⟩ := Option.map_eq_some_iff.1 (show ((t ++ #[op])[r]?).map (·.act) = _ from hR'.act)
   have hzg : z.g = g := by have := hR'.own; rw [g?_of hz] at this; exact Option.some.inj this
   have hyg : y.g = g := by rw [g?_of hy] at hg; exact Option.some.inj hg
   have hne : i ≠ r := fun e => by
    subst e
    rw [hy] at hz
    obtain rfl := Option.some.inj hz
    rw [hza] at hyx; cases hyx
   have edge : HappensBefore (t ++ #[op]) r t.size :=
    Relation.TransGen.single (.inr ⟨.marked (a := a) hrl (.inr hR'.act) (by rw [act?_of hlast, hact]) (fun k h1 h2 e => H'.norel k a e hsh), hR'.heard, ⟨h, by rw [g?_of hlast, hop], by rw [deaf_old (Nat.le_refl _)]; exact dh⟩⟩)
   exact ⟨t.size, op, hlast, hop, .inr ((hb_po (by omega) hy hz (hyg.trans hzg.symm)).trans edge)⟩
 ·exact .inr (.inl ⟨⟨hl, hIg⟩, hr⟩)
theorem Px.toPast (H : Px rd lo sh B (Knows t 0) t) (h0 : Deaf t 0 = 0) (hL : ∀ g, ¬ lo g) : Past sh B t := by
 have hk : ∀ i a, touchAt t i = some a → a.loc.isMemory = true → Knows t 0 i ∨ (a.kind = .atomic ∧ sh a.loc ∧ ¬ t.heard i) := fun i a ha hm => (H.known i a ha hm).imp id fun z => z.elim (fun ⟨_, g, _, hl, _⟩ => absurd hl (hL g)) id
 refine ⟨H.clean, fun i a ha hm => (hk i a ha hm).imp id fun z => ⟨z.2.1, z.1⟩, fun i g hg hne ⟨x, hx, hm, hc⟩ => ?_, h0, H.seen⟩
 rcases hk i x hx hm with ⟨q, z, hq, hz, hb⟩ | ⟨h1, _, h3⟩
 ·rcases hb with rfl | hb
  ·rw [g?_of hq, hz] at hg
   exact absurd (Option.some.inj hg).symm hne
  ·exact ⟨q, by rw [g?_of hq, hz], hb⟩
 ·rcases hc with hc | hc
  ·exact absurd h1 hc
  ·exact absurd hc h3
end
theorem px_nil : Px (fun _ _ => False) (fun _ => False) (fun _ => False) 0 (Knows #[] 0) #[] :=
 ⟨fun said => by rintro ⟨i, j, _, ⟨a, b, ha, _⟩, _⟩; simp [Trace.act?] at ha, fun i a ha => by simp [touchAt, Trace.act?] at ha, fun i a ha => by simp [touchAt, Trace.act?] at ha, fun i a ha => by simp [touchAt, Trace.act?] at ha,
  fun i ad ha => by simp [Trace.act?] at ha, by simp⟩
end Go.Sl
end
section
set_option linter.unusedVariables false
namespace Go.Sl
open Go.Conc
open Go.ConcN (sumTo upd sumTo_upd upd_ne upd_same)
structure SeatD where
 cases : Array CommCase
 shape : CommShape
 recs : Goroutine → Prop
 mem : List (Addr × Value)
def SeatD.has (s : SeatD) (c : Nat) : Prop := ∃ (k : Nat) (z : Value), s.cases[k]? = some (rcase c z)
def SeatD.rd (s : SeatD) (l : Loc) : Prop := ∃ p ∈ s.mem, l = .cell p.1
def SeatD.K (s : SeatD) (w : World) : Prop := ∀ p ∈ s.mem, w.cell? p.1 = some p.2
structure SeatD.Wf (s : SeatD) : Prop where
 recvs : ∀ cc ∈ s.cases, ∃ c z, cc = rcase c z
 apart : ∀ (k m c : Nat) (z z' : Value), s.cases[k]? = some (rcase c z) → s.cases[m]? = some (rcase c z') → k = m
theorem SeatD.has_of_mem {s : SeatD} {c : Nat} {z : Value} (h : rcase c z ∈ s.cases) : s.has c := by
 obtain ⟨k, hk, e⟩ := Array.mem_iff_getElem.1 h
 exact ⟨k, z, by rw [← e]; exact Array.getElem?_eq_getElem hk⟩
def EvX (s : SeatD) (e : Event) : Prop := ∃ a, e = ⟨.cell a, false, false⟩ ∧ s.rd (.cell a)
def AtR (P : Program) (main : Bool) (s : SeatD) (r g : Goroutine) : Prop :=
 s.recs r ∧ g.status = .running ∧ g.frame = r.frame ∧ g.callers = r.callers ∧ g.dying = r.dying ∧ ∃ es, (∀ e ∈ es, EvX s e) ∧ ∀ w, s.K w → stepG P main g w = .comm r s.cases true s.shape w es
def AtX (P : Program) (main : Bool) (s : SeatD) (g : Goroutine) : Prop := ∃ r, AtR P main s r g
def Way (P : Program) (main : Bool) (s : SeatD) : Nat → Goroutine → Prop
 | 0, g => AtX P main s g
 | n + 1, g => AtX P main s g ∨ (g.status = .running ∧ ∀ w, s.K w → ∃ g' es d, stepG P main g w = .go g' (w.at d) es ∧ (∀ e ∈ es, EvX s e) ∧ Way P main s n g')
def SitsX (P : Program) (main : Bool) (s : SeatD) (n : Nat) (g : Goroutine) : Prop :=
 (∃ k, n = k + 1 ∧ Way P main s k g) ∨ (n = 0 ∧ ∃ g₀ r, g = parked r s.cases s.shape ∧ AtR P main s r g₀)
def IdleX (P : Program) (T : Trace) (i n : Nat) (g : Goroutine) : Option SeatD → Prop
 | none => 0 < i ∧ QuitsD P n (Deaf T i) g
 | some s => SitsX P (i == 0) s n g
section
variable {P : Program} {main : Bool} {s : SeatD} {n : Nat} {g : Goroutine}
theorem Way.running (h : ∃ w, s.K w) (hw : Way P main s n g) : g.status = .running := by
 cases n with
 | zero => obtain ⟨r, h⟩ := hw; exact h.2.1
 | succ n =>
  rcases hw with ⟨r, h⟩ | h
  ·exact h.2.1
  ·exact h.1
theorem SitsX.status (h : ∃ w, s.K w) (hw : SitsX P main s n g) : (g.status = .running ∧ 0 < n) ∨ (g.status = .blocked ∧ n = 0) := by
 rcases hw with ⟨k, rfl, hk⟩ | ⟨rfl, g₀, r, rfl, _⟩
 ·exact .inl ⟨Way.running h hk, by omega⟩
 ·exact .inr ⟨rfl, rfl⟩
theorem Way.mono {m : Nat} (hw : Way P main s n g) (hm : n ≤ m) : Way P main s m g := by
 induction n generalizing g m with
 | zero => cases m with
  | zero => exact hw
  | succ m => exact .inl hw
 | succ n ih =>
  obtain ⟨m, rfl⟩ : ∃ m', m = m' + 1 := ⟨m - 1, by omega⟩
  refine hw.imp id fun ⟨h1, h2⟩ => ⟨h1, fun w hK => ?_⟩
  obtain ⟨g', es, d, h3, h4, h5⟩ := h2 w hK
  exact ⟨g', es, d, h3, h4, ih h5 (by omega)⟩
theorem AtR.tries {g₀ r : Goroutine} (h : AtR P main s r g₀) (cs : Array CommCase) (sh : CommShape) : AtX P main s { parked r cs sh with status := .running } := by
 obtain ⟨hr, _, h1, h2, h3, es, hes, hst⟩ := h
 exact ⟨r, hr, rfl, rfl, rfl, rfl, es, hes, fun w hw => by rw [← hst w hw]; exact stepG_same h1.symm h2.symm h3.symm w⟩
end
structure Gh where
 n : Nat
 seats : Nat → Option SeatD
 sh : Loc → Prop
 bot : Nat := 0
def Gh.rd (σ : Gh) (g : Nat) (l : Loc) : Prop := ∃ s, σ.seats g = some s ∧ s.rd l
def Gh.lo (σ : Gh) (g : Nat) : Prop := (σ.seats g).isSome = true
structure Fr (P : Program) (σ : Gh) (J : Nat → Prop) (h δ : Nat) (T : Trace) (gs : Array Goroutine) (w : World) (q : Nat → Nat) : Prop where
 cnt : gs.size = σ.n
 idle : ∀ i g, i ≠ h → ¬ J i → gs[i]? = some g → IdleX P T i (q i) g (σ.seats i)
 jrun : ∀ i g, J i → gs[i]? = some g → g.status = .running ∨ g.status = .finished
 jh : ¬ J h
 hole : σ.seats h = none
 wf : ∀ i s, σ.seats i = some s → s.Wf
 there : ∀ i s, σ.seats i = some s → i < gs.size
 chans : ∀ i s c, ¬ J i → σ.seats i = some s → s.has c → ∃ k, w.heap[c]? = some (.chan 0 #[] false k k false)
 mem : ∀ i s, σ.seats i = some s → s.K w
 msh : ∀ i s l, σ.seats i = some s → s.rd l → ¬ σ.sh l
 above : ∀ j, gs.size ≤ j → Deaf T j = 0
 hear : ∀ i, ¬ J i → σ.lo i → Deaf T i = 0
 deaf : Deaf T h = δ
 px : Px σ.rd σ.lo σ.sh w.heap.size (Knows T h) T
section
variable {P : Program} {σ : Gh} {J : Nat → Prop} {h δ : Nat} {T : Trace} {gs : Array Goroutine} {w : World} {q : Nat → Nat}
theorem rd_mem {s : SeatD} {l : Loc} (h : s.rd l) : l.isMemory = true := by obtain ⟨p, _, rfl⟩ := h; rfl
theorem cell_lt {w : World} {a : Addr} {v : Value} (h : w.cell? a = some v) : a.block < w.heap.size := by
 rcases Nat.lt_or_ge a.block w.heap.size with h' | h'
 ·exact h'
 ·simp [World.cell?, Array.getElem?_eq_none h'] at h
theorem Fr.fixed (C : Fr P σ J h δ T gs w q) {x : Nat} {y : Goroutine} (hx : x ≠ h) (hy : gs[x]? = some y) : y.again w = y := by
 by_cases hJ : J x
 ·exact again_running w (C.jrun x y hJ hy)
 have hi := C.idle x y hx hJ hy
 cases e : σ.seats x with
 | none => rw [e] at hi; exact again_running w hi.2.status
 | some s =>
  rw [e] at hi
  rcases hi with ⟨k, hq, hg⟩ | ⟨_, g₀, _, rfl, _⟩
  ·exact again_running w (.inl (Way.running ⟨w, C.mem x s e⟩ hg))
  ·refine again_all_open fun cc hcc => ?_
   obtain ⟨c, z, rfl⟩ := (C.wf x s e).recvs cc hcc
   obtain ⟨k, hk⟩ := C.chans x s c hJ e (SeatD.has_of_mem hcc)
   exact ⟨c, z, 0, _, k, k, _, rfl, hk⟩
theorem Fr.noSend (C : Fr P σ J h δ T gs w q) {x : Nat} {y : Goroutine} (hx : x ≠ h) (hy : gs[x]? = some y) (c : Nat) : offersAt y c true = [] := by
 by_cases hJ : J x
 ·exact offersAt_of_not_blocked (fun hb => by rcases C.jrun x y hJ hy with z | z <;> rw [z] at hb <;> cases hb) c true
 have hi := C.idle x y hx hJ hy
 cases e : σ.seats x with
 | none =>
  rw [e] at hi
  exact offersAt_of_not_blocked (fun hb => by rcases hi.2.status with z | z <;> rw [z] at hb <;> cases hb) c true
 | some s =>
  rw [e] at hi
  rcases hi with ⟨k, hq, hg⟩ | ⟨_, g₀, _, rfl, _⟩
  ·have := Way.running ⟨w, C.mem x s e⟩ hg
   exact offersAt_of_not_blocked (fun hb => by rw [this] at hb; cases hb) c true
  ·exact offersAt_parked_sends (fun cc hcc => by obtain ⟨c', z', rfl⟩ := (C.wf x s e).recvs cc hcc; rfl) _
theorem Fr.noRecvAt (C : Fr P σ J h δ T gs w q) {x : Nat} {y : Goroutine} (hx : x ≠ h) (hy : gs[x]? = some y) {c : Nat} (hc : ∀ s, σ.seats x = some s → ¬ s.has c) : offersAt y c false = [] := by
 by_cases hJ : J x
 ·exact offersAt_of_not_blocked (fun hb => by rcases C.jrun x y hJ hy with z | z <;> rw [z] at hb <;> cases hb) c false
 have hi := C.idle x y hx hJ hy
 cases e : σ.seats x with
 | none =>
  rw [e] at hi
  exact offersAt_of_not_blocked (fun hb => by rcases hi.2.status with z | z <;> rw [z] at hb <;> cases hb) c false
 | some s =>
  rw [e] at hi
  rcases hi with ⟨k, hq, hg⟩ | ⟨_, g₀, _, rfl, _⟩
  ·have := Way.running ⟨w, C.mem x s e⟩ hg
   exact offersAt_of_not_blocked (fun hb => by rw [this] at hb; cases hb) c false
  ·refine offersAt_parked_off (fun cc hcc ec => ?_) _
   obtain ⟨c', z', rfl⟩ := (C.wf x s e).recvs cc hcc
   simp only [rcase, Value.chan.injEq, Option.some.injEq] at ec
   subst ec
   exact hc s e (SeatD.has_of_mem hcc)
theorem Fr.at (C : Fr P σ J h δ T gs w q) (d : Nat) : Fr P σ J h δ T gs (w.at d) q :=
 ⟨C.cnt, C.idle, C.jrun, C.jh, C.hole, C.wf, C.there, C.chans, C.mem, C.msh, C.above, C.hear, C.deaf, C.px⟩
theorem Fr.awake (C : Fr P σ J h δ T gs w q) {a : Goroutine} (ha : gs[h]? = some a) (hs : a.status = .running ∨ a.status = .blocked) : ∀ g ∈ gs, awake g := by
 intro g hg
 obtain ⟨i, hi, rfl⟩ := Array.mem_iff_getElem.1 hg
 by_cases e : i = h
 ·subst e
  have : gs[i] = a := by simpa [Array.getElem?_eq_getElem hi] using ha
  rw [this]; exact awake_of (hs.elim .inl fun x => .inr (.inl x))
 ·by_cases hJ : J i
  ·exact awake_of ((C.jrun i _ hJ (Array.getElem?_eq_getElem hi)).elim .inl fun x => .inr (.inr x))
  have hid := C.idle i _ e hJ (Array.getElem?_eq_getElem hi)
  cases es : σ.seats i with
  | none => rw [es] at hid; exact awake_of (hid.2.status.elim .inl fun x => .inr (.inr x))
  | some s => rw [es] at hid; exact awake_of ((SitsX.status ⟨w, C.mem i s es⟩ hid).elim (fun x => .inl x.1) fun x => .inr (.inl x.1))
theorem Fr.put (C : Fr P σ J h δ T gs w q) {i n' d : Nat} {g' : Goroutine} {ops : Array MemOp} {gs' : Array Goroutine} (hi : i ≠ h) (hJ : ¬ J i) (hlt : i < gs.size) (hsz : gs'.size = gs.size) (hother : ∀ x, x ≠ i → x ≠ h → gs'[x]? = gs[x]?) (hself : gs'[i]? = some g')
  (hops : ∀ op ∈ ops, op.g = i) (hidle : IdleX P (T ++ ops) i n' g' (σ.seats i)) (hd : σ.lo i → Deaf (T ++ ops) i = Deaf T i) (hpx : Px σ.rd σ.lo σ.sh w.heap.size (Knows (T ++ ops) h) (T ++ ops)) : Fr P σ J h δ (T ++ ops) gs' (w.at d) (upd q i n') := by
 refine ⟨hsz.trans C.cnt, fun x y hx hJx hy => ?_, fun x y hJx hy => ?_, C.jh, C.hole, C.wf, fun i s e => by rw [hsz]; exact C.there i s e, C.chans, C.mem, C.msh, fun j hj => ?_, fun x hJx hl => ?_, ?_, hpx⟩
 ·by_cases e : x = i
  ·subst e
   rw [hself] at hy
   obtain rfl := Option.some.inj hy
   rw [upd_same]; exact hidle
  ·rw [hother x e hx] at hy
   rw [upd_ne q n' e]
   have h0 := C.idle x y hx hJx hy
   cases es : σ.seats x with
   | none => rw [es] at h0; exact ⟨h0.1, by rw [Deaf_other T (fun z => e z.symm) ops hops]; exact h0.2⟩
   | some s => rw [es] at h0; exact h0
 ·have e : x ≠ i := fun e => hJ (e ▸ hJx)
  rw [hother x e (fun e => C.jh (e ▸ hJx))] at hy
  exact C.jrun x y hJx hy
 ·rw [Deaf_other T (g' := i) (by omega) ops hops]
  exact C.above j (by omega)
 ·by_cases e : x = i
  ·subst e; rw [hd hl]; exact C.hear x hJx hl
  ·rw [Deaf_other T (fun z => e z.symm) ops hops]; exact C.hear x hJx hl
 ·rw [Deaf_other T hi ops hops]; exact C.deaf
theorem evX_ops {s : SeatD} {i : Nat} {fn : FuncId} {pos : String} {es : Array Event} (hK : s.K w) (h : ∀ e ∈ es, EvX s e) :
  (∀ op ∈ MemOp.ofEvents i fn pos es, op.g = i) ∧ (∀ op ∈ MemOp.ofEvents i fn pos es, ∀ b, op.act.touch? = some b → b.write = false ∧ s.rd b.loc) ∧ (∀ op ∈ MemOp.ofEvents i fn pos es, op.act.low w.heap.size) ∧
   (∀ op ∈ MemOp.ofEvents i fn pos es, ∀ ad, op.act ≠ .mark (.release ad)) ∧ ∀ t : Trace, Deaf (t ++ MemOp.ofEvents i fn pos es) i = Deaf t i := by
 refine ⟨fun op hop => by obtain ⟨e, _, rfl⟩ := Conc.mem_ofEvents hop; rfl, fun op hop b hb => ?_, fun op hop => ?_, fun op hop ad e => ?_, fun t => ?_⟩
 ·obtain ⟨e, he, rfl⟩ := Conc.mem_ofEvents hop
  obtain ⟨a, rfl, hS⟩ := h e he
  simp only [ofEvent_cell0, MemAct.touch?, Option.some.injEq] at hb
  subst hb
  exact ⟨rfl, hS⟩
 ·obtain ⟨e, he, rfl⟩ := Conc.mem_ofEvents hop
  obtain ⟨a, rfl, p, hp, ep⟩ := h e he
  rw [ofEvent_cell0]
  obtain rfl := Loc.cell.inj ep
  exact cell_lt (hK p hp)
 ·obtain ⟨e', he, rfl⟩ := Conc.mem_ofEvents hop
  obtain ⟨a, rfl, _⟩ := h e' he
  cases e
 ·rw [Deaf_own]
  exact deafBehind_still (fun e he => by obtain ⟨a, rfl, _⟩ := h e he; exact ⟨by simp, by simp⟩) _
theorem norel_mute {e : Event} (h : e.mute = true) (ad : Addr) : MemAct.ofEvent e ≠ .mark (.release ad) := by
 obtain ⟨loc, wr, sy⟩ := e
 cases loc <;> simp_all [Event.mute]
 rename_i m
 cases m <;> simp_all [MemAct.ofEvent]
theorem Fr.by_step0 (C : Fr P σ J h δ T gs w q) {i : Nat} {g : Goroutine} {sl : Option (Nat × Nat)} (hi : gs[i]? = some g) (hih : i ≠ h) (hJ : ¬ J i) (hrun : g.status = .running)
  (hsO : ∀ s, σ.seats i = some s → AtX P (i == 0) s g → ∀ gx c, gs[h]? = some gx → s.has c → offersAt gx c true = []) :
  ∃ (gs' : Array Goroutine) (ops : Array MemOp) (q' : Nat → Nat) (d : Nat), runT P (crowd gs w sl) i = (.next (crowd gs' (w.at d) sl), ops) ∧ gs'.size = gs.size ∧ (∀ gx, gs[h]? = some gx → gs'[h]? = some gx ∨ ∃ w', w'.heap = w.heap ∧ gs'[h]? = some (gx.again w')) ∧ (∀ x, J x → gs'[x]? = gs[x]?) ∧ (∀ op ∈ ops, op.g = i) ∧
   (∀ x, x ≠ i → q' x = q x) ∧ (∀ s, σ.seats i = some s → q' i = 0 → AtX P (i == 0) s g) ∧
   Fr P σ J h δ (T ++ ops) gs' (w.at d) q' ∧ sumTo gs.size q' < sumTo gs.size q := by
 have hlt : i < gs.size := (Array.getElem?_eq_some_iff.1 hi).1
 have harr : ∀ (a' g' : Goroutine) (d : Nat) (x : Nat), x ≠ i → x ≠ h → ((gs.map (woken P g a' (w.at d))).setIfInBounds i g')[x]? = gs[x]? := by
  intro a' g' d x hx hxh
  rw [Array.getElem?_setIfInBounds_ne (fun e => hx e.symm), Array.getElem?_map]
  cases e : gs[x]? with
  | none => rfl
  | some y => simp [woken_of_again ((C.at d).fixed hxh e)]
 have hhol : ∀ (a' g' : Goroutine) (d : Nat) (gx : Goroutine), gs[h]? = some gx → ((gs.map (woken P g a' (w.at d))).setIfInBounds i g')[h]? = some gx ∨ ∃ w', w'.heap = w.heap ∧ ((gs.map (woken P g a' (w.at d))).setIfInBounds i g')[h]? = some (gx.again w') := by
  intro a' g' d gx hgx
  rw [Array.getElem?_setIfInBounds_ne hih, Array.getElem?_map, hgx]
  simp only [Option.map_some]
  unfold woken
  split
  ·exact .inr ⟨w.at d, rfl, rfl⟩
  ·exact .inl rfl
 have hself : ∀ (a' g' : Goroutine) (d : Nat), ((gs.map (woken P g a' (w.at d))).setIfInBounds i g')[i]? = some g' := fun a' g' d => Array.getElem?_setIfInBounds_self_of_lt (by simpa using hlt)
 have hsum : ∀ k n, q i = k + 1 → n ≤ k → sumTo gs.size (upd q i n) < sumTo gs.size q := by
  intro k n hqi hn
  have h2 : sumTo gs.size (upd q i n) + (k + 1) = sumTo gs.size q + n := by
   have := sumTo_upd q n id hlt
   simpa [hqi] using this
  omega
 have hid := C.idle i g hih hJ hi
 cases e : σ.seats i with
 | none =>
  rw [e] at hid
  obtain ⟨hpos, hq⟩ := hid
  have hi0 : (i == 0) = false := by simp; omega
  cases hqi : q i with
  | zero => rw [hqi] at hq; rw [hq.1] at hrun; cases hrun
  | succ k =>
   rw [hqi] at hq
   rcases hq with ⟨hf, _⟩ | ⟨_, g', es, hm, hstp, hq'⟩
   ·rw [hf] at hrun; cases hrun
   have hops : ∀ op ∈ MemOp.ofEvents i g.frame.fn g.frame.place es, op.g = i := fun op hop => by obtain ⟨e, _, rfl⟩ := Conc.mem_ofEvents hop; rfl
   have hwd : w = w.at w.drawn := rfl
   refine ⟨_, _, upd q i k, w.drawn, runT_crowd_go (sl := sl) hi (by rw [hi0]; exact hstp w), by simp, hhol g' g' w.drawn, fun x hx => harr g' g' w.drawn x (fun e => hJ (e ▸ hx)) (fun e => C.jh (e ▸ hx)), hops, fun x hx => upd_ne q k hx, fun s hs _ => (by cases hs), ?_, hsum k k hqi (Nat.le_refl _)⟩
   refine C.put hih hJ hlt (by simp) (fun x hx hxh => harr _ _ w.drawn x hx hxh) (hself _ _ w.drawn) hops (by rw [e]; exact ⟨hpos, by rw [Deaf_own]; exact hq'⟩) (fun hl => by unfold Gh.lo at hl; rw [e] at hl; cases hl) ?_
   exact C.px.mute (fun i => Knows.app _) (fun op hop => by obtain ⟨e, he, rfl⟩ := Conc.mem_ofEvents hop; exact touch_mute (hm e he)) (fun op hop ad ea => by obtain ⟨e, he, rfl⟩ := Conc.mem_ofEvents hop; exact absurd ea (norel_mute (hm e he) ad)) (Nat.le_refl _) (fun op hop => by obtain ⟨e, he, rfl⟩ := Conc.mem_ofEvents hop; exact low_mute (hm e he) _)
 | some s =>
  rw [e] at hid
  have hlo : σ.lo i := by unfold Gh.lo; rw [e]; rfl
  obtain ⟨k, hqi, hg⟩ : ∃ k, q i = k + 1 ∧ Way P (i == 0) s k g := by
   rcases hid with h1 | ⟨_, g₀, r, rfl, _⟩
   ·exact h1
   ·cases hrun
  have hKw := C.mem i s e
  have hcase : AtX P (i == 0) s g ∨ ∃ k' g' es d, k = k' + 1 ∧ stepG P (i == 0) g w = .go g' (w.at d) es ∧ (∀ e ∈ es, EvX s e) ∧ Way P (i == 0) s k' g' := by
   cases k with
   | zero => exact .inl hg
   | succ k' =>
    rcases hg with hstop | ⟨_, hstep⟩
    ·exact .inl hstop
    ·obtain ⟨g', es, d, h1, h2, h3⟩ := hstep w hKw
     exact .inr ⟨k', g', es, d, rfl, h1, h2, h3⟩
  have hrdσ : ∀ l, s.rd l → σ.rd i l := fun l hl => ⟨s, e, hl⟩
  rcases hcase with hat | ⟨k', g', es, d, rfl, hgo, hes, hG'⟩
  ·
   have hsO' := hsO s e hat
   obtain ⟨rr, hat'⟩ := id hat
   obtain ⟨_, _, _, _, _, es, hes, hstp⟩ := id hat'
   obtain ⟨hops, hr, hl, hnr, hd⟩ := evX_ops (i := i) (fn := g.frame.fn) (pos := g.frame.place) hKw hes
   have hw : ∀ cc ∈ s.cases, NoWays w (gs.setIfInBounds i ph) cc := by
    intro cc hcc
    obtain ⟨c, z, rfl⟩ := (C.wf i s e).recvs cc hcc
    have hsc := SeatD.has_of_mem hcc
    obtain ⟨kk, hc⟩ := C.chans i s c hJ e hsc
    refine ways_recv_none hc (partners_nil fun x y hy => ?_)
    rcases getElem?_stand gs i x y hy with ⟨_, rfl⟩ | ⟨hx, hy'⟩
    ·exact offersAt_ph _ _
    ·by_cases hS : x = h
     ·subst hS; exact hsO' y c hy' hsc
     ·exact C.noSend hS hy' _
   refine ⟨_, _, upd q i 0, w.drawn, crowd_waits (sl := sl) hi (hstp w hKw) hw, by simp, fun gx hgx => .inl (by rw [Array.getElem?_setIfInBounds_ne hih]; exact hgx), fun x hx => Array.getElem?_setIfInBounds_ne (fun z : i = x => hJ (by rw [z]; exact hx)), hops, fun x hx => upd_ne q 0 hx, fun s' hs' _ => (by obtain rfl := Option.some.inj hs'; exact hat), ?_, hsum k 0 hqi (Nat.zero_le _)⟩
   refine C.put hih hJ hlt (by simp) (fun x hx _ => Array.getElem?_setIfInBounds_ne (fun z => hx z.symm)) (Array.getElem?_setIfInBounds_self_of_lt hlt) hops (by rw [e]; exact .inr ⟨rfl, g, rr, rfl, hat'⟩) (fun _ => hd T) ?_
   exact C.px.reads (fun i => Knows.app _) hlo hops (fun op hop b hb => ⟨(hr op hop b hb).1, hrdσ _ (hr op hop b hb).2, C.msh i s _ e (hr op hop b hb).2⟩) (fun op hop ad ea => absurd ea (hnr op hop ad)) (Nat.le_refl _) hl
  ·obtain ⟨hops, hr, hl, hnr, hd⟩ := evX_ops (i := i) (fn := g.frame.fn) (pos := g.frame.place) hKw hes
   refine ⟨_, _, upd q i (k' + 1), d, runT_crowd_go (sl := sl) hi hgo, by simp, hhol g' g' d, fun x hx => harr g' g' d x (fun e => hJ (e ▸ hx)) (fun e => C.jh (e ▸ hx)), hops, fun x hx => upd_ne q _ hx, fun s' _ h0 => (by rw [upd_same] at h0; omega), ?_, hsum _ _ hqi (by omega)⟩
   refine C.put hih hJ hlt (by simp) (fun x hx hxh => harr _ _ d x hx hxh) (hself _ _ d) hops (by rw [e]; exact .inl ⟨k', rfl, hG'⟩) (fun _ => hd T) ?_
   exact C.px.reads (fun i => Knows.app _) hlo hops (fun op hop b hb => ⟨(hr op hop b hb).1, hrdσ _ (hr op hop b hb).2, C.msh i s _ e (hr op hop b hb).2⟩) (fun op hop ad ea => absurd ea (hnr op hop ad)) (Nat.le_refl _) hl
theorem Fr.by_step (C : Fr P σ J h δ T gs w q) {i : Nat} {g : Goroutine} {sl : Option (Nat × Nat)} (hi : gs[i]? = some g) (hih : i ≠ h) (hJ : ¬ J i) (hrun : g.status = .running) (hth : h < gs.size)
  (hsA : ∀ gx (w' : World), gs[h]? = some gx → w'.heap = w.heap → gx.again w' = gx)
  (hsO : ∀ s, σ.seats i = some s → AtX P (i == 0) s g → ∀ gx c, gs[h]? = some gx → s.has c → offersAt gx c true = []) :
  ∃ (gs' : Array Goroutine) (ops : Array MemOp) (q' : Nat → Nat) (d : Nat), runT P (crowd gs w sl) i = (.next (crowd gs' (w.at d) sl), ops) ∧ gs'.size = gs.size ∧ gs'[h]? = gs[h]? ∧ (∀ x, J x → gs'[x]? = gs[x]?) ∧ (∀ op ∈ ops, op.g = i) ∧
   (∀ x, x ≠ i → q' x = q x) ∧ (∀ s, σ.seats i = some s → q' i = 0 → AtX P (i == 0) s g) ∧
   Fr P σ J h δ (T ++ ops) gs' (w.at d) q' ∧ sumTo gs.size q' < sumTo gs.size q := by
 obtain ⟨gs', ops, q', d, h1, h2, h3, h4⟩ := C.by_step0 (sl := sl) hi hih hJ hrun hsO
 refine ⟨gs', ops, q', d, h1, h2, ?_, h4⟩
 obtain ⟨gx, hgx⟩ : ∃ gx, gs[h]? = some gx := ⟨gs[h], Array.getElem?_eq_getElem hth⟩
 rcases h3 gx hgx with h | ⟨w', hw', h⟩
 ·rw [h, hgx]
 ·rw [h, hgx, hsA gx w' hgx hw']
theorem Fr.picked (C : Fr P σ (fun _ => False) h δ T gs w q) {a : Goroutine} {sl : Option (Nat × Nat)} (ha : gs[h]? = some a) (hrun : a.status = .running) :
  ∃ (N : Nat) (gs' : Array Goroutine) (d d' : Nat) (sl' sl'' : Option (Nat × Nat)) (T' : Trace) (q' : Nat → Nat), runNT P N (crowd gs w sl) T = (.next (crowd gs' (w.at d) sl'), T') ∧
   stepT P (crowd gs' (w.at d) sl') = runT P (crowd gs' (w.at d') sl'') h ∧ gs'.size = gs.size ∧ gs'[h]? = some a ∧ Fr P σ (fun _ => False) h δ T' gs' (w.at d') q' := by
 obtain ⟨N, m', T', hr, gs', d, d', sl', sl'', q', rfl, hst, hsz, ha', C'⟩ := runs_until (P := P)
  (Inv := fun μ m t => ∃ gs₁ d sl₁ q₁, m = crowd gs₁ (w.at d) sl₁ ∧ gs₁.size = gs.size ∧ gs₁[h]? = some a ∧ Fr P σ (fun _ => False) h δ t gs₁ (w.at d) q₁ ∧ μ = sumTo gs₁.size q₁)
  (Done := fun m t => ∃ gs₁ d d' sl₁ sl₂ q₁, m = crowd gs₁ (w.at d) sl₁ ∧ stepT P (crowd gs₁ (w.at d) sl₁) = runT P (crowd gs₁ (w.at d') sl₂) h ∧ gs₁.size = gs.size ∧ gs₁[h]? = some a ∧ Fr P σ (fun _ => False) h δ t gs₁ (w.at d') q₁)
  (fun μ m t ⟨gs₁, d, sl₁, q₁, hm, hsz, ha₁, C₁, hμ⟩ => by
   subst hm
   obtain ⟨i, g, d', sl', hi, hg, hst⟩ := crowd_pick (P := P) (w := w.at d) (sl := sl₁) (C₁.awake ha₁ (.inl hrun)) ⟨h, a, ha₁, hrun⟩
   rw [at_at'] at hst
   have Cd : Fr P σ (fun _ => False) h δ t gs₁ (w.at d') q₁ := C₁.at d'
   by_cases e : i = h
   ·subst e
    exact .inl ⟨gs₁, d, d', sl₁, sl', q₁, rfl, hst, hsz, ha₁, Cd⟩
   ·obtain ⟨gs', ops, q', d₂, hrt, hsz', hsp, _, _, _, _, C', hlt⟩ := Cd.by_step (sl := sl') hi e (fun z => z) hg (Array.getElem?_eq_some_iff.1 ha₁).1
     (fun gx w' hgx _ => by rw [ha₁] at hgx; obtain rfl := Option.some.inj hgx; exact again_running _ (.inl hrun))
     (fun s _ _ gx c hgx _ => by rw [ha₁] at hgx; obtain rfl := Option.some.inj hgx; exact offersAt_of_not_blocked (by rw [hrun]; simp) _ _)
    exact .inr ⟨_, _, sumTo gs'.size q', by rw [hst]; exact hrt, by rw [hsz']; omega, gs', d₂, sl', q', rfl, hsz'.trans hsz, by rw [hsp]; exact ha₁, C', rfl⟩)
  _ _ T ⟨gs, w.drawn, sl, q, rfl, rfl, ha, C, rfl⟩
 exact ⟨N, gs', d, d', sl', sl'', T', q', hr, hst, hsz, ha', C'⟩
structure OwnOk (σ : Gh) (w w' : World) (es : Array Event) : Prop where
 size : w.heap.size ≤ w'.heap.size
 chans : ∀ (r : Nat) (o : Obj), w.heap[r]? = some o → o.isChan = true → w'.heap[r]? = some o
 mem : ∀ i s p, σ.seats i = some s → p ∈ s.mem → w.cell? p.1 = some p.2 → w'.cell? p.1 = some p.2
 ev : ∀ e ∈ es, (∀ b, (MemAct.ofEvent e).touch? = some b → (b.write = true → ∀ i, ¬ σ.rd i b.loc) ∧ (σ.sh b.loc → b.kind ≠ .plain)) ∧ (∀ ad, MemAct.ofEvent e = .mark (.release ad) → ¬ σ.sh (.cell ad)) ∧ (MemAct.ofEvent e).low w'.heap.size
theorem OwnOk.ops {σ : Gh} {w w' : World} {es : Array Event} (H : OwnOk σ w w' es) (i : Nat) (fn : FuncId) (pos : String) :
  (∀ op ∈ MemOp.ofEvents i fn pos es, op.g = i) ∧ (∀ op ∈ MemOp.ofEvents i fn pos es, ∀ b, op.act.touch? = some b → (b.write = true → ∀ g, σ.lo g → ¬ σ.rd g b.loc) ∧ (σ.sh b.loc → b.kind ≠ .plain)) ∧
   (∀ op ∈ MemOp.ofEvents i fn pos es, ∀ ad, op.act = .mark (.release ad) → ¬ σ.sh (.cell ad)) ∧ (∀ op ∈ MemOp.ofEvents i fn pos es, op.act.low w'.heap.size) :=
 ⟨fun op hop => by obtain ⟨e, _, rfl⟩ := Conc.mem_ofEvents hop; rfl, fun op hop b hb => by obtain ⟨e, he, rfl⟩ := Conc.mem_ofEvents hop; exact ⟨fun hw g _ => ((H.ev e he).1 b hb).1 hw g, ((H.ev e he).1 b hb).2⟩,
  fun op hop ad ea => by obtain ⟨e, he, rfl⟩ := Conc.mem_ofEvents hop; exact (H.ev e he).2.1 ad ea, fun op hop => by obtain ⟨e, he, rfl⟩ := Conc.mem_ofEvents hop; exact (H.ev e he).2.2⟩
theorem Fr.own (C : Fr P σ J h δ T gs w q) {a a' : Goroutine} {w' : World} {es : Array Event} {fn : FuncId} {pos : String} (hlt : h < gs.size) (ho : OwnOk σ w w' es) :
  Fr P σ J h (deafBehind δ es) (T ++ MemOp.ofEvents h fn pos es) ((gs.map (woken P a a' w')).setIfInBounds h a') w' q ∧ ((gs.map (woken P a a' w')).setIfInBounds h a')[h]? = some a' := by
 obtain ⟨hops, hs, hr, hl⟩ := ho.ops h fn pos
 have hch : ∀ i s c, ¬ J i → σ.seats i = some s → s.has c → ∃ k, w'.heap[c]? = some (.chan 0 #[] false k k false) := fun i s c hJ e hc => by
  obtain ⟨k, hk⟩ := C.chans i s c hJ e hc; exact ⟨k, ho.chans _ _ hk rfl⟩
 have hm : ∀ i s, σ.seats i = some s → s.K w' := fun i s e p hp => ho.mem i s p e hp (C.mem i s e p hp)
 have hfix : ∀ (x : Nat) (y : Goroutine), x ≠ h → gs[x]? = some y → y.again w' = y := by
  intro x y hx hy
  by_cases hJ : J x
  ·exact again_running w' (C.jrun x y hJ hy)
  have hi := C.idle x y hx hJ hy
  cases e : σ.seats x with
  | none => rw [e] at hi; exact again_running w' hi.2.status
  | some s =>
   rw [e] at hi
   rcases hi with ⟨k, hq, hg⟩ | ⟨_, g₀, _, rfl, _⟩
   ·exact again_running w' (.inl (Way.running ⟨w, C.mem x s e⟩ hg))
   ·refine again_all_open fun cc hcc => ?_
    obtain ⟨c, z, rfl⟩ := (C.wf x s e).recvs cc hcc
    obtain ⟨k, hk⟩ := hch x s c hJ e (SeatD.has_of_mem hcc)
    exact ⟨c, z, 0, _, k, k, _, rfl, hk⟩
 have harr : ∀ x, x ≠ h → ((gs.map (woken P a a' w')).setIfInBounds h a')[x]? = gs[x]? := by
  intro x hx
  rw [Array.getElem?_setIfInBounds_ne (fun e => hx e.symm), Array.getElem?_map]
  cases e : gs[x]? with
  | none => rfl
  | some y => simp [woken_of_again (hfix x y hx e)]
 refine ⟨⟨by simpa using C.cnt, fun x y hx hJ hy => ?_, fun x y hJ hy => ?_, C.jh, C.hole, C.wf, fun i s e => by simpa using C.there i s e, hch, hm, C.msh, fun j hj => ?_, fun x hJ hlo => ?_, ?_, ?_⟩, Array.getElem?_setIfInBounds_self_of_lt (by simpa using hlt)⟩
 ·rw [harr x hx] at hy
  have hi := C.idle x y hx hJ hy
  cases es' : σ.seats x with
  | none => rw [es'] at hi; exact ⟨hi.1, by rw [Deaf_other T (fun z => hx z.symm) _ hops]; exact hi.2⟩
  | some s => rw [es'] at hi; exact hi
 ·rw [harr x (fun e => C.jh (e ▸ hJ))] at hy
  exact C.jrun x y hJ hy
 ·simp only [Array.size_setIfInBounds, Array.size_map] at hj
  rw [Deaf_other T (g' := h) (by omega) _ hops]
  exact C.above j hj
 ·have hx : x ≠ h := fun e => by subst e; unfold Gh.lo at hlo; rw [C.hole] at hlo; cases hlo
  rw [Deaf_other T (fun z => hx z.symm) _ hops]
  exact C.hear x hJ hlo
 ·rw [Deaf_own, C.deaf]
 ·exact C.px.own hops hs hr ho.size hl
end
end Go.Sl
end
section
set_option linter.unusedVariables false
namespace Go.Sl
open Go.Conc
open Go.ConcN (sumTo upd sumTo_upd upd_ne upd_same)
theorem Px.conv {rd rd' : Nat → Loc → Prop} {lo lo' : Nat → Prop} {sh : Loc → Prop} {B : Nat} {K : Nat → Prop} {t : Trace} (H : Px rd lo sh B K t) (hl : ∀ g, lo' g ↔ lo g) (hr : ∀ g l, lo g → (rd' g l ↔ rd g l)) : Px rd' lo' sh B K t :=
 H.reset (fun i a g _ _ _ _ hg hrd => .inr (.inl ⟨(hl g).2 hg, (hr g _ hg).2 hrd⟩)) fun g l hg hrd => .inl ⟨(hl g).1 hg, (hr g l ((hl g).1 hg)).1 hrd⟩
section
variable {P : Program} {σ : Gh} {h δ : Nat} {T : Trace} {gs : Array Goroutine} {w : World} {q : Nat → Nat}
theorem cell_setChan {w : World} {c : Nat} {cap s r : Nat} {buf : Array Value} {cl tm : Bool} (hc : w.heap[c]? = some (.chan cap buf cl s r tm)) {a : Addr} {v : Value} (ha : w.cell? a = some v) (cap' : Nat) (buf' : Array Value) (cl' : Bool) (s' r' : Nat) (tm' : Bool) :
  (w.setChan c cap' buf' cl' s' r' tm').cell? a = some v := by
 have hne : c ≠ a.block := fun e => by
  unfold World.cell? at ha
  rw [← e, hc] at ha
  cases ha
 unfold World.cell? at ha ⊢
 rw [heap_setChan_ne w _ _ _ _ _ _ hne]
 exact ha
theorem size_setChan (w : World) (c cap : Nat) (buf : Array Value) (cl : Bool) (s r : Nat) (tm : Bool) : (w.setChan c cap buf cl s r tm).heap.size = w.heap.size := by simp [World.setChan]
structure SeatOk (σ : Gh) (s : SeatD) (w : World) : Prop where
 wf : s.Wf
 chans : ∀ c, s.has c → ∃ k, w.heap[c]? = some (.chan 0 #[] false k k false)
 mem : s.K w
 msh : ∀ l, s.rd l → ¬ σ.sh l
def Gh.hired (σ : Gh) (s : SeatD) : Gh := { n := σ.n + 1, seats := upd σ.seats σ.n (some s), sh := σ.sh, bot := σ.bot }
theorem Fr.hire (C : Fr P σ (fun _ => False) h 0 T gs w q) {a a' child : Goroutine} {es : Array Event} {s : SeatD} {m : Nat} {sl : Option (Nat × Nat)} (ha : gs[h]? = some a) (hgo : stepG P (h == 0) a w = .spawn a' child w es) (ho : OwnOk σ w w es) (hd : deafBehind 0 es = 0)
  (hs : SeatOk σ s w) (hway : Way P false s m child) :
  ∃ gs' ops q', runT P (crowd gs w sl) h = (.next (crowd gs' w sl), ops) ∧ gs'[h]? = some a' ∧ Fr P (σ.hired s) (fun _ => False) h 0 (T ++ ops) gs' w q' := by
 have hlt : h < gs.size := (Array.getElem?_eq_some_iff.1 ha).1
 have hn : σ.n = gs.size := C.cnt.symm
 obtain ⟨hops, hsO, hrO, hlO⟩ := ho.ops h a.frame.fn a.frame.place
 have hrt := runT_crowd_spawn (P := P) (sl := sl) ha hgo
 have hpush : ((MemOp.ofEvents h a.frame.fn a.frame.place es).push { g := h, fn := a.frame.fn, pos := a.frame.place, act := .go gs.size } |>.push { g := gs.size, fn := child.frame.fn, pos := a.frame.place, act := .start }) =
   MemOp.ofEvents h a.frame.fn a.frame.place es ++ #[{ g := h, fn := a.frame.fn, pos := a.frame.place, act := .go gs.size }, { g := gs.size, fn := child.frame.fn, pos := a.frame.place, act := .start }] := by
  apply Array.ext'; simp
 rw [hpush] at hrt
 have hDh : Deaf (T ++ MemOp.ofEvents h a.frame.fn a.frame.place es) h = 0 := by rw [Deaf_own, C.deaf, hd]
 have hD1 : ∀ x, x ≠ h → Deaf (T ++ MemOp.ofEvents h a.frame.fn a.frame.place es) x = Deaf T x := fun x ex => Deaf_other T (fun z => ex z.symm) _ hops
 have hne : gs.size ≠ h := by omega
 have p1 := C.px.own hops hsO hrO (Nat.le_refl _) hlO
 have hnl : ¬ σ.lo gs.size := fun hl => by
  unfold Gh.lo at hl
  obtain ⟨s', hs'⟩ := Option.isSome_iff_exists.1 hl
  have := C.there _ _ hs'
  omega
 have p2 := p1.hire (c := gs.size) (S := s.rd) hDh (by rw [hD1 _ hne]; exact C.above _ (Nat.le_refl _)) hnl (fun l hl => ⟨rd_mem hl, hs.msh l hl⟩) a.frame.fn a.frame.place child.frame.fn
 rw [Array.append_assoc] at p2
 have hD2 : ∀ x, x ≠ h → Deaf (T ++ (MemOp.ofEvents h a.frame.fn a.frame.place es ++ #[{ g := h, fn := a.frame.fn, pos := a.frame.place, act := .go gs.size }, { g := gs.size, fn := child.frame.fn, pos := a.frame.place, act := .start }])) x = Deaf T x := fun x ex => by
  rw [← Array.append_assoc, Deaf_quiet (fun op hop d => by
   simp only [List.mem_toArray, List.mem_cons, List.not_mem_nil, or_false] at hop
   rcases hop with rfl | rfl <;> rfl), hD1 x ex]
 have hD3 : Deaf (T ++ (MemOp.ofEvents h a.frame.fn a.frame.place es ++ #[{ g := h, fn := a.frame.fn, pos := a.frame.place, act := .go gs.size }, { g := gs.size, fn := child.frame.fn, pos := a.frame.place, act := .start }])) h = 0 := by
  rw [← Array.append_assoc, Deaf_quiet (fun op hop d => by
   simp only [List.mem_toArray, List.mem_cons, List.not_mem_nil, or_false] at hop
   rcases hop with rfl | rfl <;> rfl), hDh]
 have hup : ∀ x, x ≠ gs.size → (σ.hired s).seats x = σ.seats x := fun x hx => by simp only [Gh.hired, hn]; exact upd_ne _ _ hx
 have hus : (σ.hired s).seats gs.size = some s := by simp only [Gh.hired, hn, upd_same]
 refine ⟨_, _, upd q gs.size (m + 1), hrt, by rw [Array.getElem?_push, if_neg (by simp; omega)]; exact Array.getElem?_setIfInBounds_self_of_lt hlt, ?_⟩
 refine ⟨by simp [Gh.hired, hn], fun x y hx _ hy => ?_, fun _ _ z => z.elim, fun z => z, ?_, fun i s' e => ?_, fun i s' e => ?_, fun i s' c _ e hc => ?_, fun i s' e => ?_, fun i s' l e hl => ?_, fun x hx => ?_, fun x _ hl => ?_, hD3, ?_⟩
 ·by_cases ex : x = gs.size
  ·subst ex
   rw [Array.getElem?_push, if_pos (by simp)] at hy
   obtain rfl := Option.some.inj hy
   rw [hus, upd_same]
   have : (gs.size == 0) = false := by rw [beq_eq_false_iff_ne]; omega
   exact .inl ⟨m, rfl, by rw [this]; exact hway⟩
  ·have hxl : x < gs.size := by
    have := (Array.getElem?_eq_some_iff.1 hy).1
    simp at this; omega
   rw [Array.getElem?_push, if_neg (by simp; omega), Array.getElem?_setIfInBounds_ne (fun z => hx z.symm)] at hy
   rw [hup x ex, upd_ne q _ ex]
   have hid := C.idle x y hx (fun z => z) hy
   cases e : σ.seats x with
   | none => rw [e] at hid; exact ⟨hid.1, by rw [hD2 x hx]; exact hid.2⟩
   | some s' => rw [e] at hid; exact hid
 ·rw [hup h (Ne.symm hne)]; exact C.hole
 ·by_cases ex : i = gs.size
  ·subst ex; rw [hus] at e; obtain rfl := Option.some.inj e; exact hs.wf
  ·rw [hup i ex] at e; exact C.wf i s' e
 ·simp only [Array.size_push, Array.size_setIfInBounds]
  by_cases ex : i = gs.size
  ·omega
  ·rw [hup i ex] at e; have := C.there i s' e; omega
 ·by_cases ex : i = gs.size
  ·subst ex; rw [hus] at e; obtain rfl := Option.some.inj e; exact hs.chans c hc
  ·rw [hup i ex] at e; exact C.chans i s' c (fun z => z) e hc
 ·by_cases ex : i = gs.size
  ·subst ex; rw [hus] at e; obtain rfl := Option.some.inj e; exact hs.mem
  ·rw [hup i ex] at e; exact C.mem i s' e
 ·by_cases ex : i = gs.size
  ·subst ex; rw [hus] at e; obtain rfl := Option.some.inj e; exact hs.msh l hl
  ·rw [hup i ex] at e; exact C.msh i s' l e hl
 ·simp only [Array.size_push, Array.size_setIfInBounds] at hx
  rw [hD2 x (by omega)]
  exact C.above x (by omega)
 ·by_cases exh : x = h
  ·subst exh; exact hD3
  ·by_cases ex : x = gs.size
   ·subst ex; rw [hD2 _ exh]; exact C.above _ (Nat.le_refl _)
   ·rw [hD2 x exh]
    refine C.hear x (fun z => z) ?_
    unfold Gh.lo at hl ⊢
    rwa [hup x ex] at hl
 ·refine p2.conv (fun g => ?_) fun g l hg => ?_
  ·unfold Gh.lo
   by_cases ex : g = gs.size
   ·subst ex; rw [hus]; simp
   ·rw [hup g ex]; simp [ex]
  ·unfold Gh.rd
   by_cases ex : g = gs.size
   ·subst ex; rw [hus]; simp
   ·rw [hup g ex]; simp [ex]
def Gh.given (σ : Gh) (h j : Nat) (sh : SeatD) : Gh := { n := σ.n, seats := upd (upd σ.seats j none) h (some sh), sh := σ.sh, bot := σ.bot }
theorem Fr.pass (C : Fr P σ (fun _ => False) h 0 T gs w q) {j c k m : Nat} {s sH : SeatD} (hjh : j ≠ h) (hlth : h < gs.size) (hj : σ.seats j = some s) (hsc : s.has c) (hc : w.heap[c]? = some (.chan 0 #[] false k k false)) (hcB : c < w.heap.size)
  {gs' : Array Goroutine} {H' : Goroutine} (hsz : gs'.size = gs.size) (hoth : ∀ x, x ≠ h → x ≠ j → gs'[x]? = gs[x]?) (hH : gs'[h]? = some H') (fh : FuncId) (pH : String) (fj : FuncId) (pj : String)
  (hok : SeatOk σ sH w) (hway : Way P (h == 0) sH m H') :
  Fr P (σ.given h j sH) (fun _ => False) j 0 (T ++ met h j fh pH fj pj c k 0) gs' (w.setChan c 0 #[] false (k + 1) (k + 1) false) (upd q h (m + 1)) := by
 have hDeaf : ∀ x, Deaf (T ++ met h j fh pH fj pj c k 0) x = Deaf T x := fun x => Deaf_quiet (met_quiet _ _ _ _ _ _ _ _ _ x)
 have hsj : (σ.given h j sH).seats j = none := by simp only [Gh.given]; rw [upd_ne _ _ hjh, upd_same]
 have hshh : (σ.given h j sH).seats h = some sH := by simp only [Gh.given]; rw [upd_same]
 have hso : ∀ x, x ≠ h → x ≠ j → (σ.given h j sH).seats x = σ.seats x := fun x h1 h2 => by simp only [Gh.given]; rw [upd_ne _ _ h1, upd_ne _ _ h2]
 have hlj : σ.lo j := by unfold Gh.lo; rw [hj]; rfl
 have dj : Deaf T j = 0 := C.hear j (fun z => z) hlj
 have hold : ∀ x s', (σ.given h j sH).seats x = some s' → (x = h ∧ s' = sH) ∨ (x ≠ h ∧ x ≠ j ∧ σ.seats x = some s') := by
  intro x s' e
  by_cases h1 : x = h
  ·subst h1; rw [hshh] at e; exact .inl ⟨rfl, (Option.some.inj e).symm⟩
  ·by_cases h2 : x = j
   ·subst h2; rw [hsj] at e; cases e
   ·rw [hso x h1 h2] at e; exact .inr ⟨h1, h2, e⟩
 have hopen : ∀ c' : Nat, (∃ k, w.heap[c']? = some (Obj.chan 0 #[] false k k false)) → ∃ k', (w.setChan c 0 #[] false (k + 1) (k + 1) false).heap[c']? = some (Obj.chan 0 #[] false k' k' false) := by
  rintro c' ⟨k', hk'⟩
  by_cases ec : c = c'
  ·exact ⟨k + 1, by rw [← ec]; exact heap_setChan_self w hc _ _ _ _ _ _⟩
  ·exact ⟨k', by rw [heap_setChan_ne w _ _ _ _ _ _ ec]; exact hk'⟩
 refine ⟨hsz.trans C.cnt, fun x y hx _ hy => ?_, fun _ _ z => z.elim, fun z => z, hsj, fun i s' e => ?_, fun i s' e => ?_, fun i s' c' _ e hc' => ?_, fun i s' e p hp => ?_, fun i s' l e hl => ?_, fun x hx => by rw [hDeaf]; exact C.above x (by omega), fun x _ hl => ?_, by rw [hDeaf]; exact dj, ?_⟩
 ·by_cases e : x = h
  ·subst e
   rw [hH] at hy
   obtain rfl := Option.some.inj hy
   rw [hshh, upd_same]; exact .inl ⟨m, rfl, hway⟩
  ·rw [hoth x e hx] at hy
   rw [upd_ne q _ e, hso x e hx]
   have hi := C.idle x y e (fun z => z) hy
   cases es : σ.seats x with
   | none => rw [es] at hi; exact ⟨hi.1, by rw [hDeaf]; exact hi.2⟩
   | some s' => rw [es] at hi; exact hi
 ·rcases hold i s' e with ⟨rfl, rfl⟩ | ⟨_, _, e'⟩
  ·exact hok.wf
  ·exact C.wf i s' e'
 ·rw [hsz]
  rcases hold i s' e with ⟨rfl, rfl⟩ | ⟨_, _, e'⟩
  ·exact hlth
  ·exact C.there i s' e'
 ·rcases hold i s' e with ⟨rfl, rfl⟩ | ⟨_, _, e'⟩
  ·exact hopen c' (hok.chans c' hc')
  ·exact hopen c' (C.chans i s' c' (fun z => z) e' hc')
 ·rcases hold i s' e with ⟨rfl, rfl⟩ | ⟨_, _, e'⟩
  ·exact cell_setChan hc (hok.mem p hp) _ _ _ _ _ _
  ·exact cell_setChan hc (C.mem i s' e' p hp) _ _ _ _ _ _
 ·rcases hold i s' e with ⟨rfl, rfl⟩ | ⟨_, _, e'⟩
  ·exact hok.msh l hl
  ·exact C.msh i s' l e' hl
 ·rw [hDeaf]
  by_cases e : x = h
  ·subst e; exact C.deaf
  ·refine C.hear x (fun z => z) ?_
   unfold Gh.lo at hl ⊢
   by_cases ej : x = j
   ·subst ej; rw [hj]; rfl
   ·rwa [hso x e ej] at hl
 ·rw [size_setChan]
  have p := C.px.give (j := j) C.deaf dj fh pH fj pj k 0 hcB
  have hnl : ¬ (σ.lo h ∧ h ≠ j) := fun z => by have := z.1; unfold Gh.lo at this; rw [C.hole] at this; cases this
  have p2 := p.loosen (g₀ := h) (S := sH.rd) hnl (fun l hl => ⟨rd_mem hl, hok.msh l hl⟩) fun i a ha hw hS => by
   obtain ⟨x, hx, hxa⟩ := touch_of ha
   rcases getElem?_append_cases hx with ⟨_, hx'⟩ | ⟨_, hxu⟩
   ·exact (C.px.writes (rd_mem hS) (hok.msh _ hS) (by rw [touchAt_of hx']; exact hxa) hw rfl).app _
   ·rw [met_mute _ _ _ _ _ _ _ _ _ x hxu] at hxa; cases hxa
  refine p2.conv (fun g => ?_) fun g l hg => ?_
  ·unfold Gh.lo
   by_cases e : g = h
   ·subst e; rw [hshh]; simp
   ·by_cases ej : g = j
    ·subst ej; rw [hsj]; simp [e]
    ·rw [hso g e ej]; simp [e, ej]
  ·unfold Gh.rd
   by_cases e : g = h
   ·subst e; rw [hshh]; simp
   ·by_cases ej : g = j
    ·subst ej
     exact absurd hg (by simp [e])
    ·rw [hso g e ej]; simp [e]
theorem Fr.setH (C : Fr P σ (fun _ => False) h δ T gs w q) (hlt : h < gs.size) (x : Goroutine) {fn : FuncId} {pos : String} {es : Array Event} (ho : OwnOk σ w w es) : Fr P σ (fun _ => False) h (deafBehind δ es) (T ++ MemOp.ofEvents h fn pos es) (gs.setIfInBounds h x) w q := by
 obtain ⟨hops, hs, hr, hl⟩ := ho.ops h fn pos
 refine ⟨by simpa using C.cnt, fun y g hy _ hg => ?_, fun _ _ z => z.elim, fun z => z, C.hole, C.wf, fun i s e => by simpa using C.there i s e, C.chans, C.mem, C.msh, fun j hj => ?_, fun y _ hl' => ?_, by rw [Deaf_own, C.deaf], C.px.own hops hs hr (Nat.le_refl _) hl⟩
 ·rw [Array.getElem?_setIfInBounds_ne (fun e => hy e.symm)] at hg
  have hi := C.idle y g hy (fun z => z) hg
  cases e : σ.seats y with
  | none => rw [e] at hi; exact ⟨hi.1, by rw [Deaf_other T (fun z => hy z.symm) _ hops]; exact hi.2⟩
  | some s => rw [e] at hi; exact hi
 ·simp only [Array.size_setIfInBounds] at hj
  by_cases e : j = h
  ·omega
  ·rw [Deaf_other T (fun z => e z.symm) _ hops]; exact C.above j hj
 ·have hy : y ≠ h := fun e => by subst e; unfold Gh.lo at hl'; rw [C.hole] at hl'; cases hl'
  rw [Deaf_other T (fun z => hy z.symm) _ hops]; exact C.hear y (fun z => z) hl'
theorem Fr.give (C : Fr P σ (fun _ => False) h 0 T gs w q) {a a₂ : Goroutine} {j c kk k m : Nat} {s sH : SeatD} {v z z' : Value} {es : Array Event} {sl : Option (Nat × Nat)} (hj : σ.seats j = some s) (hk : s.cases[kk]? = some (rcase c z))
  (honly : ∀ i s', σ.seats i = some s' → s'.has c → i = j) (ha : gs[h]? = some a) (hrun : a.status = .running)
  (hsend : ∀ d, stepG P (h == 0) a (w.at d) = .comm a₂ #[scase c v z'] true .send (w.at d) es) (hes : ∀ d, OwnOk σ (w.at d) (w.at d) es) (hd0 : deafBehind 0 es = 0)
  (hc : w.heap[c]? = some (.chan 0 #[] false k k false)) (hok : SeatOk σ sH w) (hway : Way P (h == 0) sH m (Conc.served a₂ undef)) :
  ∃ (N : Nat) (gs' : Array Goroutine) (d : Nat) (sl' : Option (Nat × Nat)) (T' : Trace) (q' : Nat → Nat), runNT P N (crowd gs w sl) T = (.next (crowd gs' ((w.at d).setChan c 0 #[] false (k + 1) (k + 1) false) sl'), T') ∧
   (∃ r, s.recs r ∧ gs'[j]? = some (Conc.served r (commResult s.cases s.shape kk v true))) ∧ Fr P (σ.given h j sH) (fun _ => False) j 0 T' gs' ((w.at d).setChan c 0 #[] false (k + 1) (k + 1) false) q' := by
 have hsc : s.has c := ⟨kk, z, hk⟩
 have hwf := C.wf j s hj
 have hjlt := C.there j s hj
 have hjh : j ≠ h := fun e => by rw [e, C.hole] at hj; cases hj
 have hcB : c < w.heap.size := (Array.getElem?_eq_some_iff.1 hc).1
 have hu : ∀ (m : Nat) (cc : CommCase), m ≠ kk → s.cases[m]? = some cc → cc.chan ≠ .chan (some c) := by
  intro m cc hm hcc ec
  obtain ⟨c₂, z₂, rfl⟩ := hwf.recvs cc (Array.mem_of_getElem? hcc)
  simp only [rcase, Value.chan.injEq, Option.some.injEq] at ec
  subst ec
  exact hm (hwf.apart m kk _ _ _ hcc hk)
 suffices key : ∃ (N : Nat) (m' : Machine) (t' : Trace), runNT P N (crowd gs w sl) T = (.next m', t') ∧ ∃ gs' d sl' q', m' = crowd gs' ((w.at d).setChan c 0 #[] false (k + 1) (k + 1) false) sl' ∧ (∃ r, s.recs r ∧ gs'[j]? = some (Conc.served r (commResult s.cases s.shape kk v true))) ∧ Fr P (σ.given h j sH) (fun _ => False) j 0 t' gs' ((w.at d).setChan c 0 #[] false (k + 1) (k + 1) false) q' by
  obtain ⟨N, m', T', hr, gs', d, sl', q', rfl, h1, h2⟩ := key
  exact ⟨N, gs', d, sl', T', q', hr, h1, h2⟩
 refine runs_until (P := P)
  (Inv := fun μ mm t => (∃ gs' d sl' q', mm = crowd gs' ((w.at d).setChan c 0 #[] false (k + 1) (k + 1) false) sl' ∧ (∃ r, s.recs r ∧ gs'[j]? = some (Conc.served r (commResult s.cases s.shape kk v true))) ∧ Fr P (σ.given h j sH) (fun _ => False) j 0 t gs' ((w.at d).setChan c 0 #[] false (k + 1) (k + 1) false) q') ∨
   ∃ gs₁ d sl₁ q₁, ∃ pk : Bool, mm = crowd gs₁ (w.at d) sl₁ ∧ gs₁.size = gs.size ∧ gs₁[h]? = some (if pk then parked a₂ #[scase c v z'] .send else a) ∧
   Fr P σ (fun _ => False) h 0 t gs₁ (w.at d) q₁ ∧ (pk = true → 0 < q₁ j) ∧ μ = sumTo gs₁.size q₁ + (if pk then 0 else 1))
  (fun μ mm t hInv => ?_) _ _ T (.inr ⟨gs, w.drawn, sl, q, false, rfl, rfl, ha, C, by simp, rfl⟩)
 rcases hInv with hdone | ⟨gs₁, d, sl₁, q₁, pk, rfl, hsz, ha₁, C₁, hpk, hμ⟩
 ·exact .inl hdone
 refine .inr ?_
 obtain ⟨gj, hgj⟩ : ∃ gj, gs₁[j]? = some gj := ⟨gs₁[j]'(by omega), Array.getElem?_eq_getElem (by omega)⟩
 have hlth : h < gs₁.size := (Array.getElem?_eq_some_iff.1 ha₁).1
 have hSj : SitsX P (j == 0) s (q₁ j) gj := by have := C₁.idle j gj hjh (fun z => z) hgj; rwa [hj] at this
 have hKs : ∃ w, s.K w := ⟨_, C₁.mem j s hj⟩
 have hsome : ∃ (i : Nat) (g : Goroutine), gs₁[i]? = some g ∧ g.status = .running := by
  cases pk with
  | false => exact ⟨h, a, ha₁, hrun⟩
  | true => exact ⟨j, gj, hgj, (SitsX.status hKs hSj).elim (·.1) (fun z => by have := hpk rfl; omega)⟩
 obtain ⟨i, g, d', sl', hi, hg, hst⟩ := crowd_pick (P := P) (w := w.at d) (sl := sl₁) (C₁.awake ha₁ (by cases pk <;> simp [hrun, parked])) hsome
 rw [at_at'] at hst
 have Cd : Fr P σ (fun _ => False) h 0 t gs₁ (w.at d') q₁ := C₁.at d'
 have hcd : (w.at d').heap[c]? = some (.chan 0 #[] false k k false) := hc
 have hokd : SeatOk σ sH (w.at d') := ⟨hok.wf, hok.chans, hok.mem, hok.msh⟩
 have hμpos : 0 < μ := by
  cases pk with
  | false => simp at hμ; omega
  | true =>
   have h1 := hpk rfl
   have h2 : q₁ j ≤ sumTo gs₁.size q₁ := Go.ConcN.le_sumTo (f := q₁) (by omega)
   simp at hμ; omega
 by_cases e : i = h
 ·
  subst e
  cases pk with
  | true => rw [ha₁] at hi; obtain rfl := Option.some.inj hi; cases hg
  | false =>
   obtain rfl : g = a := by rw [ha₁] at hi; exact (Option.some.inj hi).symm
   have hoff : ∀ (x : Nat) (y : Goroutine), x ≠ j → (gs₁.setIfInBounds i ph)[x]? = some y → offersAt y c false = [] := by
    intro x y hxj hy
    rcases getElem?_stand gs₁ i x y hy with ⟨_, rfl⟩ | ⟨hx, hy'⟩
    ·exact offersAt_ph _ _
    ·exact Fr.noRecvAt Cd hx hy' fun s' hs' hc' => hxj (honly x s' hs' hc')
   rcases hSj with ⟨kk', hq, hG⟩ | ⟨hq0, g₀, rr, rfl, hat⟩
   ·
    have hjr : gj.status = .running := Way.running hKs hG
    have hp : partners (gs₁.setIfInBounds i ph) c false = [] := partners_nil fun x y hy => by
     by_cases hxj : x = j
     ·subst hxj
      rw [stand_get hjh hgj] at hy
      obtain rfl := Option.some.inj hy
      exact offersAt_of_not_blocked (by rw [hjr]; simp) _ _
     ·exact hoff x y hxj hy
    have hw : ∀ cc ∈ #[scase c v z'], NoWays (w.at d') (gs₁.setIfInBounds i ph) cc := by
     intro cc hcc
     simp only [List.mem_toArray, List.mem_cons, List.not_mem_nil, or_false] at hcc
     subst hcc
     exact ways_send_none hcd (Nat.le_refl _) hp
    refine ⟨_, _, sumTo gs₁.size q₁ + 0, by rw [hst]; exact crowd_waits (sl := sl') hi (hsend d') hw, by simp at hμ; omega, .inr ⟨_, d', sl', q₁, true, rfl, by simpa using hsz, Array.getElem?_setIfInBounds_self_of_lt hlth, ?_, fun _ => by omega, by simp⟩⟩
    have := Cd.setH (fn := g.frame.fn) (pos := g.frame.place) hlth (parked a₂ #[scase c v z'] .send) (hes d')
    rwa [hd0] at this
   ·
    have hp : partners (gs₁.setIfInBounds i ph) c false = [(j, kk)] := by
     rw [partners_one (stand_get hjh hgj) fun x y hxj hy => hoff x y hxj hy, offersAt_parked_at hk hu]
     rfl
    have C2 := Cd.setH (fn := g.frame.fn) (pos := g.frame.place) hlth a₂ (hes d')
    rw [hd0] at C2
    have hH2 : ((gs₁.setIfInBounds j ((parked rr s.cases s.shape).finishComm P s.cases s.shape kk v true)).setIfInBounds i (a₂.finishComm P #[scase c v z'] .send 0 undef false))[i]? = some (Conc.served a₂ undef) := Array.getElem?_setIfInBounds_self_of_lt (by simpa using hlth)
    refine ⟨_, _, 0, by rw [hst]; exact crowd_send_meets_sel (sl := sl') hi (hsend d') hcd hjh hgj hk hp, hμpos, .inl ⟨_, d', sl', upd q₁ i (m + 1), rfl, ?_, ?_⟩⟩
    ·refine ⟨rr, hat.1, ?_⟩
     rw [Array.getElem?_setIfInBounds_ne (fun z => hjh z.symm), Array.getElem?_setIfInBounds_self_of_lt (by omega), finishComm_served]
    ·rw [← Array.append_assoc]
     exact C2.pass hjh (by simpa using hlth) hj hsc hcd hcB (by simp) (fun x hx hxj => by rw [Array.getElem?_setIfInBounds_ne (fun z => hx z.symm), Array.getElem?_setIfInBounds_ne (fun z => hxj z.symm), Array.getElem?_setIfInBounds_ne (fun z => hx z.symm)]) (Array.getElem?_setIfInBounds_self_of_lt (by simpa using hlth)) _ _ _ _ hokd hway
 ·by_cases ej : i = j ∧ pk = true ∧ AtX P (i == 0) s g
  ·
   obtain ⟨rfl, rfl, hat⟩ := ej
   obtain ⟨rr, hrr, _, _, _, _, esj, hesj, hstp⟩ := hat
   obtain ⟨hops, hr, hl, hnr, hd⟩ := evX_ops (i := i) (fn := g.frame.fn) (pos := g.frame.place) (Cd.mem i s hj) hesj
   have hp : partners (gs₁.setIfInBounds i ph) c true = [(h, 0)] := by
    rw [partners_one (stand_get (Ne.symm hjh) ha₁) fun x y hxh hy => by
     rcases getElem?_stand gs₁ i x y hy with ⟨_, rfl⟩ | ⟨_, hy'⟩
     ·exact offersAt_ph _ _
     ·exact Fr.noSend Cd hxh hy' _]
    simp [offersAt_parked_send]
   have ho : ∀ (m : Nat) (c' : CommCase), m ≠ kk → s.cases[m]? = some c' → NoWays (w.at d') (gs₁.setIfInBounds i ph) c' := by
    intro m c' hm hc'
    obtain ⟨c₂, z₂, rfl⟩ := hwf.recvs c' (Array.mem_of_getElem? hc')
    have hne : c ≠ c₂ := fun ec => hu m _ hm hc' (by rw [ec]; rfl)
    obtain ⟨k₂, hc₂⟩ := Cd.chans i s c₂ (fun z => z) hj ⟨m, z₂, hc'⟩
    refine ways_recv_none hc₂ (partners_nil fun x y hy => ?_)
    rcases getElem?_stand gs₁ i x y hy with ⟨_, rfl⟩ | ⟨_, hy'⟩
    ·exact offersAt_ph _ _
    ·by_cases hxh : x = h
     ·subst hxh
      rw [ha₁] at hy'
      obtain rfl := Option.some.inj hy'
      simp only [if_true]
      rw [offersAt_parked_send, if_neg hne]
     ·exact Fr.noSend Cd hxh hy' _
   have hlo : σ.lo i := by unfold Gh.lo; rw [hj]; rfl
   have hself : ∀ x : Goroutine, (gs₁.setIfInBounds i x)[i]? = some x := fun x => Array.getElem?_setIfInBounds_self_of_lt (by omega)
   have C2 : Fr P σ (fun _ => False) h 0 (t ++ MemOp.ofEvents i g.frame.fn g.frame.place esj) (gs₁.setIfInBounds i g) (w.at d') (upd q₁ i (q₁ i)) := by
    refine Cd.put (d := d') e (fun z => z) (by omega) (by simp) (fun x hx _ => Array.getElem?_setIfInBounds_ne (fun z => hx z.symm)) (hself g) hops (by rw [hj]; rw [hi] at hgj; obtain rfl := Option.some.inj hgj; exact hSj) (fun _ => hd t) ?_
    exact Cd.px.reads (fun i => Knows.app _) hlo hops (fun op hop b hb => ⟨(hr op hop b hb).1, ⟨s, hj, (hr op hop b hb).2⟩, Cd.msh i s _ hj (hr op hop b hb).2⟩) (fun op hop ad ea => absurd ea (hnr op hop ad)) (Nat.le_refl _) hl
   refine ⟨_, _, 0, by rw [hst]; exact crowd_sel_recv_meets (sl := sl') hi (hstp _ (Cd.mem i s hj)) hk ho hcd (Ne.symm hjh) ha₁ hp, hμpos, .inl ⟨_, d', sl', upd (upd q₁ i (q₁ i)) h (m + 1), rfl, ?_, ?_⟩⟩
   ·refine ⟨rr, hrr, ?_⟩
    rw [Array.getElem?_setIfInBounds_self_of_lt (by simp; omega), finishComm_served]
   ·rw [← Array.append_assoc]
    exact C2.pass hjh (by simpa using hlth) hj hsc hcd hcB (by simp) (fun x hx hxj => by rw [Array.getElem?_setIfInBounds_ne (fun z => hxj z.symm), Array.getElem?_setIfInBounds_ne (fun z => hx z.symm), Array.getElem?_setIfInBounds_ne (fun z => hxj z.symm)])
     (by rw [Array.getElem?_setIfInBounds_ne e, Array.getElem?_setIfInBounds_self_of_lt hlth, finishComm_send]) _ _ _ _ hokd hway
  ·
   obtain ⟨gs', ops, q', d₂, hrt, hsz', hsp, _, _, hqo, hq0, C', hlt⟩ := Cd.by_step (sl := sl') hi e (fun z => z) hg hlth
    (fun gx w' hgx hw' => by
     rw [ha₁] at hgx; obtain rfl := Option.some.inj hgx
     cases pk with
     | false => exact again_running _ (.inl hrun)
     | true => exact again_send_open (by rw [hw']; exact hcd))
    (fun s' hs' hat gx c' hgx hc' => by
     rw [ha₁] at hgx; obtain rfl := Option.some.inj hgx
     cases pk with
     | false => exact offersAt_of_not_blocked (by simp [hrun]) _ _
     | true =>
      simp only [if_true]
      rw [offersAt_parked_send, if_neg]
      intro ec
      have hij : i = j := honly i s' hs' (ec ▸ hc')
      subst hij
      rw [hj] at hs'
      obtain rfl := Option.some.inj hs'
      exact ej ⟨rfl, rfl, hat⟩)
   refine ⟨_, _, sumTo gs'.size q' + (if pk then 0 else 1), by rw [hst]; exact hrt, by rw [hsz']; omega, .inr ⟨gs', d₂, sl', q', pk, rfl, hsz'.trans hsz, by rw [hsp]; exact ha₁, C', fun hp => ?_, rfl⟩⟩
   subst hp
   by_cases hij : j = i
   ·subst hij
    rcases Nat.eq_zero_or_pos (q' j) with h0 | h0
    ·exact absurd ⟨rfl, rfl, hq0 s hj h0⟩ ej
    ·exact h0
   ·rw [hqo j hij]; exact hpk rfl
end
end Go.Sl
end
section
set_option linter.unusedVariables false
namespace Go.Sl
open Go.Conc
open Go.ConcN (sumTo upd sumTo_upd upd_ne upd_same)
def KQ : Int := 4294967296
def stV (v wt : Nat) : Value := .int .u64 ((v : Int) * KQ + wt)
def smV (s : Nat) : Value := .int .u32 (s : Int)
abbrev evm (m : Mark) : Event := ⟨.mark m, false, true⟩
abbrev ar (a : Addr) : Event := ⟨.cell a, false, true⟩
abbrev aw (a : Addr) : Event := ⟨.cell a, true, true⟩
structure Grp where
 blk : Nat
 o1 : Nat
 o2 : Nat
 cs : Array Value
 ty : TypeId
abbrev Grp.st (G : Grp) : Addr := ⟨G.blk, G.o1, none⟩
abbrev Grp.sm (G : Grp) : Addr := ⟨G.blk, G.o2, none⟩
structure Grp.Ok (G : Grp) : Prop where
 ne : G.o1 ≠ G.o2
 l1 : G.o1 < G.cs.size
 l2 : G.o2 < G.cs.size
abbrev Grp.row (G : Grp) (x y : Value) : Array Value := (G.cs.setIfInBounds G.o1 x).setIfInBounds G.o2 y
structure WG (G : Grp) (w₀ : World) (x y : Value) (w : World) : Prop where
 hp : w.heap = w₀.heap.setIfInBounds G.blk (.cells (G.row x y) G.ty (0, 0))
 os : w.os = w₀.os
 out : w.output = w₀.output
 b0 : w₀.heap[G.blk]? = some (.cells G.cs G.ty (0, 0))
section
variable {G : Grp} {w₀ w w' : World} {x y x' y' : Value}
theorem WG.blt (H : WG G w₀ x y w) : G.blk < w₀.heap.size := (Array.getElem?_eq_some_iff.1 H.b0).1
theorem WG.row (H : WG G w₀ x y w) : w.heap[G.blk]? = some (.cells (G.row x y) G.ty (0, 0)) := by
 rw [H.hp]; exact Array.getElem?_setIfInBounds_self_of_lt H.blt
theorem WG.size (H : WG G w₀ x y w) : w.heap.size = w₀.heap.size := by rw [H.hp]; simp
theorem WG.blk_ne (H : WG G w₀ x y w) {b : Nat} (hb : b ≠ G.blk) : w.heap[b]? = w₀.heap[b]? := by
 rw [H.hp]; exact Array.getElem?_setIfInBounds_ne (Ne.symm hb)
theorem WG.at (H : WG G w₀ x y w) (d : Nat) : WG G w₀ x y (w.at d) := ⟨H.hp, H.os, H.out, H.b0⟩
theorem row1 (ok : G.Ok) : (G.row x y)[G.o1]? = some x := by
 rw [Array.getElem?_setIfInBounds_ne (Ne.symm ok.ne)]; exact Array.getElem?_setIfInBounds_self_of_lt ok.l1
theorem row2 (ok : G.Ok) : (G.row x y)[G.o2]? = some y := Array.getElem?_setIfInBounds_self_of_lt (by simpa using ok.l2)
theorem row_ne {o : Nat} (h1 : o ≠ G.o1) (h2 : o ≠ G.o2) : (G.row x y)[o]? = G.cs[o]? := by
 rw [Array.getElem?_setIfInBounds_ne (Ne.symm h2), Array.getElem?_setIfInBounds_ne (Ne.symm h1)]
theorem WG.cst (ok : G.Ok) (H : WG G w₀ x y w) : w.cell? G.st = some x := by
 simp only [World.cell?, H.row]; exact row1 ok
theorem WG.csm (ok : G.Ok) (H : WG G w₀ x y w) : w.cell? G.sm = some y := by
 simp only [World.cell?, H.row]; exact row2 ok
theorem WG.fst (H : WG G w₀ x y w) : w.frozen? G.st = false := by
 simp only [World.frozen?, H.row]; simp
theorem WG.fsm (H : WG G w₀ x y w) : w.frozen? G.sm = false := by
 simp only [World.frozen?, H.row]; simp
theorem row_row1 (ok : G.Ok) : (G.row x y).setIfInBounds G.o1 x' = G.row x' y := by
 apply Array.ext_getElem?
 intro i
 by_cases h1 : i = G.o1
 ·subst h1
  rw [row1 ok, Array.getElem?_setIfInBounds_self_of_lt (by simpa using ok.l1)]
 ·rw [Array.getElem?_setIfInBounds_ne (Ne.symm h1)]
  by_cases h2 : i = G.o2
  ·subst h2; rw [row2 ok, row2 ok]
  ·rw [row_ne h1 h2, row_ne h1 h2]
theorem row_row2 (ok : G.Ok) : (G.row x y).setIfInBounds G.o2 y' = G.row x y' := by
 apply Array.ext_getElem?
 intro i
 by_cases h2 : i = G.o2
 ·subst h2
  rw [row2 ok, Array.getElem?_setIfInBounds_self_of_lt (by simpa using ok.l2)]
 ·rw [Array.getElem?_setIfInBounds_ne (Ne.symm h2)]
  by_cases h1 : i = G.o1
  ·subst h1; rw [row1 ok, row1 ok]
  ·rw [row_ne h1 h2, row_ne h1 h2]
theorem heap_setCell_at {w : World} {b o : Nat} {cs : Array Value} {t : TypeId} {fz : Nat × Nat} {v : Value} (h : w.heap[b]? = some (.cells cs t fz)) :
  (w.setCell ⟨b, o, none⟩ v).heap = w.heap.setIfInBounds b (.cells (cs.setIfInBounds o v) t fz) := by
 have hlt : b < w.heap.size := (Array.getElem?_eq_some_iff.1 h).1
 unfold World.setCell
 apply Array.ext_getElem?
 intro i
 by_cases e : i = b
 ·subst e
  simp only [Array.getElem?_modify, if_true, h, Option.map_some]
  rw [Array.getElem?_setIfInBounds_self_of_lt hlt]
  simp
 ·rw [Array.getElem?_setIfInBounds_ne (Ne.symm e)]
  simp only [Array.getElem?_modify, if_neg (Ne.symm e)]
theorem set_set (a : Array Obj) (b : Nat) (o o' : Obj) : (a.setIfInBounds b o).setIfInBounds b o' = a.setIfInBounds b o' := by
 apply Array.ext_getElem?
 intro i
 by_cases e : i = b
 ·subst e
  by_cases hlt : i < a.size
  ·rw [Array.getElem?_setIfInBounds_self_of_lt (by simpa using hlt), Array.getElem?_setIfInBounds_self_of_lt hlt]
  ·rw [Array.getElem?_eq_none (by simp; omega), Array.getElem?_eq_none (by simp; omega)]
 ·rw [Array.getElem?_setIfInBounds_ne (Ne.symm e), Array.getElem?_setIfInBounds_ne (Ne.symm e), Array.getElem?_setIfInBounds_ne (Ne.symm e)]
theorem WG.setSt (ok : G.Ok) (H : WG G w₀ x y w) (x' : Value) : WG G w₀ x' y (w.setCell G.st x') := by
 refine ⟨?_, H.os, H.out, H.b0⟩
 rw [heap_setCell_at H.row, row_row1 ok, H.hp, set_set]
theorem WG.setSm (ok : G.Ok) (H : WG G w₀ x y w) (y' : Value) : WG G w₀ x y' (w.setCell G.sm y') := by
 refine ⟨?_, H.os, H.out, H.b0⟩
 rw [heap_setCell_at H.row, row_row2 ok, H.hp, set_set]
theorem WG.other (H : WG G w₀ x y w) {a : Addr} (h1 : a ≠ G.st) (h2 : a ≠ G.sm) : w.cell? a = w₀.cell? a := by
 obtain ⟨b, o, sp⟩ := a
 by_cases e : b = G.blk
 ·subst e
  simp only [World.cell?, H.row, H.b0]
  cases sp with
  | some s => rfl
  | none =>
   simp only [Option.isSome_none, Bool.false_eq_true, if_false]
   exact row_ne (fun z => h1 (by rw [z])) (fun z => h2 (by rw [z]))
 ·simp only [World.cell?, H.blk_ne e]
theorem WG.cell2 (H : WG G w₀ x y w) (H' : WG G w₀ x' y' w') {a : Addr} (h1 : a ≠ G.st) (h2 : a ≠ G.sm) : w'.cell? a = w.cell? a := by rw [H.other h1 h2, H'.other h1 h2]
theorem WG.chan2 (H : WG G w₀ x y w) (H' : WG G w₀ x' y' w') {r : Nat} {o : Obj} (h : w.heap[r]? = some o) (ho : o.isChan = true) : w'.heap[r]? = some o := by
 have e : r ≠ G.blk := fun e => by
  subst e; rw [H.row] at h
  obtain rfl := Option.some.inj h
  cases ho
 rw [H'.blk_ne e, ← H.blk_ne e]; exact h
end
def Gs (G : Grp) (w : World) : Prop := ∃ c, w.heap[G.blk]? = some (.cells c G.ty (0, 0)) ∧ c.size = G.cs.size
theorem WG.gs {G : Grp} {w₀ w : World} {x y : Value} (H : WG G w₀ x y w) : Gs G w := ⟨_, H.row, by simp⟩
inductive St where
 | rel | dis | add | ld | sto | sem
def Cl (P : Program) (G : Grp) : Nat → St → Goroutine → Prop
 | 0, _, _ => False
 | n + 1, x, g => g.status = .running ∧ ((∃ g', (∀ w, Gs G w → stepG P false g w = .go g' w #[]) ∧ Cl P G n x g') ∨ match x with
  | .rel => ∃ g', (∀ w, stepG P false g w = .go g' w #[evm (.releaseMerge G.st)]) ∧ Cl P G n .dis g'
  | .dis => ∃ g', (∀ w, stepG P false g w = .go g' w #[evm .disable]) ∧ Cl P G n .add g'
  | .add => ∃ g' : Nat → Nat → Goroutine, (∀ w v wt, v ≤ 3 → wt ≤ 1 → w.cell? G.st = some (stV (v + 1) wt) → w.frozen? G.st = false → stepG P false g w = .go (g' v wt) (w.setCell G.st (stV v wt)) #[ar G.st, aw G.st]) ∧
    Cl P G n .ld (g' 0 1) ∧ ∀ v wt, v ≤ 3 → wt ≤ 1 → ¬ (v = 0 ∧ wt = 1) → QuitsD P n 1 (g' v wt)
  | .ld => ∃ g', (∀ w, w.cell? G.st = some (stV 0 1) → stepG P false g w = .go g' w #[ar G.st]) ∧ Cl P G n .sto g'
  | .sto => ∃ g', (∀ w, w.cell? G.st = some (stV 0 1) → w.frozen? G.st = false → stepG P false g w = .go g' (w.setCell G.st (stV 0 0)) #[aw G.st]) ∧ Cl P G n .sem g'
  | .sem => mayWake P g = true ∧ ∃ g', (∀ w, w.cell? G.sm = some (smV 0) → w.frozen? G.sm = false → stepG P false g w = .go g' (w.setCell G.sm (smV 1)) (semEvents G.sm)) ∧ QuitsD P n 1 g')
inductive MS where
 | dis (c : Nat) | head (c : Nat) | cas (v : Nat) | reg | last | ena | acq
inductive MW (P : Program) (G : Grp) (Fin : Goroutine → Prop) : MS → Goroutine → Prop
 | mute {x : MS} {g g' : Goroutine} (hs : g.status = .running) (h : ∀ w, Gs G w → stepG P true g w = .go g' w #[]) (k : MW P G Fin x g') : MW P G Fin x g
 | dis {c : Nat} {g g' : Goroutine} (hs : g.status = .running) (h : ∀ w, stepG P true g w = .go g' w #[evm .disable]) (k : MW P G Fin (.head c) g') : MW P G Fin (.dis c) g
 | load {c : Nat} {g : Goroutine} (f : Nat → Goroutine) (hs : g.status = .running) (h : ∀ w v, v ≤ c → w.cell? G.st = some (stV v 0) → stepG P true g w = .go (f v) w #[ar G.st])
   (k0 : MW P G Fin .ena (f 0)) (k : ∀ v, 1 ≤ v → v ≤ c → MW P G Fin (.cas v) (f v)) : MW P G Fin (.head c) g
 | cas {v : Nat} {g g1 g2 : Goroutine} (hs : g.status = .running) (h1 : ∀ w, w.cell? G.st = some (stV v 0) → w.frozen? G.st = false → stepG P true g w = .go g1 (w.setCell G.st (stV v 1)) #[ar G.st, aw G.st])
   (h2 : ∀ w v', v' < v → w.cell? G.st = some (stV v' 0) → w.frozen? G.st = false → stepG P true g w = .go g2 w #[ar G.st]) (k1 : MW P G Fin .reg g1) (k2 : MW P G Fin (.head (v - 1)) g2) : MW P G Fin (.cas v) g
 | said {g g' : Goroutine} (hs : g.status = .running) (h : ∀ w, stepG P true g w = .go g' w #[evm (.write G.sm)]) (k : MW P G Fin .reg g') : MW P G Fin .reg g
 | sem {g g' : Goroutine} (hs : g.status = .running) (ho : g.offers = none) (h0 : ∀ w, w.cell? G.sm = some (smV 0) → stepG P true g w = .go { g with status := .blocked } w #[])
   (h1 : ∀ w, w.cell? G.sm = some (smV 1) → w.frozen? G.sm = false → stepG P true g w = .go g' (w.setCell G.sm (smV 0)) (semEvents G.sm)) (k : MW P G Fin .last g') : MW P G Fin .reg g
 | last {g g' : Goroutine} (hs : g.status = .running) (h : ∀ w, w.cell? G.st = some (stV 0 0) → stepG P true g w = .go g' w #[ar G.st]) (k : MW P G Fin .ena g') : MW P G Fin .last g
 | ena {g g' : Goroutine} (hs : g.status = .running) (h : ∀ w, stepG P true g w = .go g' w #[evm .enable]) (k : MW P G Fin .acq g') : MW P G Fin .ena g
 | acq {g g' : Goroutine} (hs : g.status = .running) (h : ∀ w, stepG P true g w = .go g' w #[evm (.acquire G.st)]) (k : Fin g') : MW P G Fin .acq g
section
variable {P : Program} {σ : Gh} {J : Nat → Prop} {h δ : Nat} {T : Trace} {gs : Array Goroutine} {w w' : World} {q : Nat → Nat}
theorem Fr.world (C : Fr P σ J h δ T gs w q) (hsz : w'.heap.size = w.heap.size) (hch : ∀ (r : Nat) (o : Obj), w.heap[r]? = some o → o.isChan = true → w'.heap[r]? = some o) (hm : ∀ i s p, σ.seats i = some s → p ∈ s.mem → w.cell? p.1 = some p.2 → w'.cell? p.1 = some p.2) :
  Fr P σ J h δ T gs w' q :=
 ⟨C.cnt, C.idle, C.jrun, C.jh, C.hole, C.wf, C.there, fun i s c hJ e hc => by obtain ⟨k, hk⟩ := C.chans i s c hJ e hc; exact ⟨k, hch _ _ hk rfl⟩, fun i s e p hp => hm i s p e hp (C.mem i s e p hp), C.msh, C.above, C.hear, C.deaf, by rw [hsz]; exact C.px⟩
theorem Fr.jput (C : Fr P σ J h δ T gs w q) {i : Nat} {g' : Goroutine} {ops : Array MemOp} {gs' : Array Goroutine} (hJ : J i) (hlt : i < gs.size) (hsz : w'.heap.size = w.heap.size)
  (hch : ∀ (r : Nat) (o : Obj), w.heap[r]? = some o → o.isChan = true → w'.heap[r]? = some o) (hm : ∀ i s p, σ.seats i = some s → p ∈ s.mem → w.cell? p.1 = some p.2 → w'.cell? p.1 = some p.2)
  (hgs : gs'.size = gs.size) (hother : ∀ x, x ≠ i → x ≠ h → gs'[x]? = gs[x]?) (hself : gs'[i]? = some g') (hst : g'.status = .running ∨ g'.status = .finished) (hops : ∀ op ∈ ops, op.g = i)
  (hpx : Px σ.rd σ.lo σ.sh w.heap.size (Knows (T ++ ops) h) (T ++ ops)) : Fr P σ J h δ (T ++ ops) gs' w' q := by
 have hih : i ≠ h := fun e => C.jh (e ▸ hJ)
 have C0 : Fr P σ J h δ T gs w' q := C.world hsz hch hm
 refine ⟨hgs.trans C.cnt, fun x y hx hJx hy => ?_, fun x y hJx hy => ?_, C.jh, C.hole, C.wf, fun i s e => by rw [hgs]; exact C.there i s e, C0.chans, C0.mem, C.msh, fun j hj => ?_, fun x hJx hl => ?_, ?_, by rw [hsz]; exact hpx⟩
 ·have e : x ≠ i := fun e => hJx (e ▸ hJ)
  rw [hother x e hx] at hy
  have h0 := C.idle x y hx hJx hy
  cases es : σ.seats x with
  | none => rw [es] at h0; exact ⟨h0.1, by rw [Deaf_other T (fun z => e z.symm) ops hops]; exact h0.2⟩
  | some s => rw [es] at h0; exact h0
 ·by_cases e : x = i
  ·subst e; rw [hself] at hy; obtain rfl := Option.some.inj hy; exact hst
  ·have hxh : x ≠ h := fun e => C.jh (e ▸ hJx)
   rw [hother x e hxh] at hy
   exact C.jrun x y hJx hy
 ·rw [Deaf_other T (g' := i) (by omega) ops hops]
  exact C.above j (by omega)
 ·rw [Deaf_other T (fun z : i = x => hJx (by rw [← z]; exact hJ)) ops hops]; exact C.hear x hJx hl
 ·rw [Deaf_other T hih ops hops]; exact C.deaf
theorem deaf_ops {i : Nat} {fn : FuncId} {pos : String} {es : Array Event} {sh : Loc → Prop} (hes : ∀ (j : Nat) (e : Event), es[j]? = some e → (MemAct.ofEvent e).touch? = none ∨ ((∃ ad wr, e = ⟨.cell ad, wr, true⟩ ∧ sh (.cell ad)) ∧ 0 < deafBehind (Deaf T i) (es.extract 0 j))) :
  ∀ (k : Nat) (op : MemOp), (MemOp.ofEvents i fn pos es)[k]? = some op → ∀ b, op.act.touch? = some b → b.kind = .atomic ∧ sh b.loc ∧ ¬ (T ++ MemOp.ofEvents i fn pos es).heard (T.size + k) := by
 intro k op hop b hb
 have hop' := hop
 rw [ofEvents_eq, Array.getElem?_map] at hop'
 obtain ⟨e, he, rfl⟩ := Option.map_eq_some_iff.1 hop'
 rcases hes k e he with h0 | ⟨⟨ad, wr, rfl, hs⟩, hd⟩
 ·simp only at hb; rw [h0] at hb; cases hb
 ·have hk : k ≤ es.size := by
   rcases Nat.lt_or_ge k es.size with h' | h'
   ·omega
   ·rw [Array.getElem?_eq_none h'] at he; cases he
  have hbe : b = ⟨.cell ad, wr, .atomic⟩ := by
   cases wr <;> simp [MemAct.ofEvent, MemAct.touch?] at hb <;> exact hb.symm
  subst hbe
  refine ⟨rfl, hs, ?_⟩
  rintro ⟨g, hg, hdf⟩
  have hgi : g = i := by
   have : (T ++ MemOp.ofEvents i fn pos es)[T.size + k]? = some { g := i, fn, pos, act := .ofEvent ⟨.cell ad, wr, true⟩ } := by
    rw [Array.getElem?_append_right (by omega)]; simpa using hop
   rw [g?_of this] at hg
   exact (Option.some.inj hg).symm
  subst hgi
  rw [deaf_inside T g fn pos es k hk] at hdf
  omega
end
end Go.Sl
end
section
set_option linter.unusedVariables false
namespace Go.Sl
open Go.Conc
open Go.ConcN (sumTo upd sumTo_upd upd_ne upd_same)
inductive WS where
 | app | cl (st : St) | qt
def WS.cnt : WS → Nat
 | .app | .cl .rel | .cl .dis | .cl .add => 1
 | _ => 0
def WS.opn : WS → Prop
 | .cl .ld | .cl .sto | .cl .sem => False
 | _ => True
def St.deaf : St → Nat
 | .rel | .dis => 0
 | _ => 1
def sumL (f : Nat → Nat) : List Nat → Nat
 | [] => 0
 | i :: l => f i + sumL f l
theorem sumL_congr {f g : Nat → Nat} : ∀ {l : List Nat}, (∀ i ∈ l, f i = g i) → sumL f l = sumL g l
 | [], _ => rfl
 | i :: l, h => by rw [sumL, sumL, h i (by simp), sumL_congr fun j hj => h j (by simp [hj])]
theorem sumL_upd {α : Type} (D : Nat → α) (x : α) (φ : α → Nat) {i : Nat} : ∀ {l : List Nat}, l.Nodup → i ∈ l → sumL (fun j => φ (upd D i x j)) l + φ (D i) = sumL (fun j => φ (D j)) l + φ x
 | [], _, h => by simp at h
 | j :: l, hn, h => by
  rw [List.nodup_cons] at hn
  by_cases e : j = i
  ·subst e
   have : sumL (fun k => φ (upd D j x k)) l = sumL (fun k => φ (D k)) l := sumL_congr fun k hk => by rw [upd_ne D x (fun z : k = j => hn.1 (by rw [← z]; exact hk))]
   simp only [sumL, upd_same]
   omega
  ·have hi : i ∈ l := by
    rcases List.mem_cons.1 h with z | z
    ·exact absurd z.symm e
    ·exact z
   have := sumL_upd D x φ hn.2 hi
   simp only [sumL, upd_ne D x e]
   omega
theorem sumL_le {f : Nat → Nat} (h : ∀ i, f i ≤ 1) : ∀ l : List Nat, sumL f l ≤ l.length
 | [] => by simp [sumL]
 | i :: l => by have := sumL_le h l; have := h i; simp only [sumL, List.length_cons]; omega
theorem sumL_zero {f : Nat → Nat} : ∀ {l : List Nat}, sumL f l = 0 → ∀ i ∈ l, f i = 0
 | [], _, i, hi => by simp at hi
 | j :: l, h, i, hi => by
  simp only [sumL] at h
  rcases List.mem_cons.1 hi with rfl | hi
  ·omega
  ·exact sumL_zero (l := l) (by omega) i hi
theorem sumL_pos {f : Nat → Nat} : ∀ {l : List Nat}, 1 ≤ sumL f l → ∃ i ∈ l, 1 ≤ f i
 | [], h => by simp [sumL] at h
 | j :: l, h => by
  simp only [sumL] at h
  by_cases hj : 1 ≤ f j
  ·exact ⟨j, by simp, hj⟩
  ·obtain ⟨i, hi, h1⟩ := sumL_pos (l := l) (f := f) (by omega)
   exact ⟨i, by simp [hi], h1⟩
theorem cnt_le (x : WS) : x.cnt ≤ 1 := by
 cases x with
 | app => simp [WS.cnt]
 | cl s => cases s <;> simp [WS.cnt]
 | qt => simp [WS.cnt]
def V (L : List Nat) (D : Nat → WS) : Nat := sumL (fun j => (D j).cnt) L
def WOK (P : Program) (σ : Gh) (G : Grp) (c N0 : Nat) (T : Trace) (i n : Nat) (g : Goroutine) : WS → Prop
 | .app => ∃ s cw z0 z1 k, σ.seats i = some s ∧ s.cases = #[rcase cw z0, rcase c z1] ∧ n = k + 1 + N0 ∧ Way P false s k g ∧ Deaf T i = 0 ∧ ∀ r, s.recs r → Cl P G N0 .rel (Conc.served r (commResult s.cases s.shape 1 z1 false))
 | .cl x => Cl P G n x g ∧ Deaf T i = x.deaf ∧ (x ≠ .rel → ∃ r, RelX σ.sh G.st T i r)
 | .qt => QuitsD P n (Deaf T i) g ∧ ∃ r, RelX σ.sh G.st T i r
theorem Cl.running {P : Program} {G : Grp} {n : Nat} {x : St} {g : Goroutine} (h : Cl P G n x g) : g.status = .running := by
 cases n with
 | zero => exact h.elim
 | succ n => exact h.1
theorem WOK.other {P : Program} {σ : Gh} {G : Grp} {c N0 : Nat} {T u : Trace} {i j n : Nat} {g : Goroutine} {x : WS} (H : WOK P σ G c N0 T i n g x) (hu : ∀ op ∈ u, op.g = j) (hne : j ≠ i) : WOK P σ G c N0 (T ++ u) i n g x := by
 have hD : Deaf (T ++ u) i = Deaf T i := Deaf_other T hne u hu
 cases x with
 | app =>
  obtain ⟨s, cw, z0, z1, k, h1, h2, h3, h4, h5, h6⟩ := H
  exact ⟨s, cw, z0, z1, k, h1, h2, h3, h4, hD.trans h5, h6⟩
 | cl x => exact ⟨H.1, hD.trans H.2.1, fun hx => let ⟨r, hr⟩ := H.2.2 hx; ⟨r, hr.other hu hne⟩⟩
 | qt => exact ⟨by rw [hD]; exact H.1, let ⟨r, hr⟩ := H.2; ⟨r, hr.other hu hne⟩⟩
structure CI (P : Program) (σ : Gh) (L : List Nat) (G : Grp) (c N0 : Nat) (w₀ : World) (δ : Nat) (T : Trace) (gs : Array Goroutine) (w : World) (q : Nat → Nat) (D : Nat → WS) (f : Nat → Nat) (x y : Value) : Prop where
 fr : Fr P σ (· ∈ L) 0 δ T gs w q
 ok : G.Ok
 nd : L.Nodup
 len : L.length ≤ 4
 wk : ∀ i ∈ L, ∃ g, gs[i]? = some g ∧ WOK P σ G c N0 T i (f i) g (D i)
 shut : ∃ k, w.heap[c]? = some (.chan 0 #[] true k k false)
 cw : ∀ i s, i ∈ L → σ.seats i = some s → ∃ cw z0 z1 k, s.cases = #[rcase cw z0, rcase c z1] ∧ w.heap[cw]? = some (.chan 0 #[] false k k false)
 loose : ∀ i ∈ L, σ.lo i
 wg : WG G w₀ x y w
 shs : σ.sh (.cell G.st)
 shm : σ.sh (.cell G.sm)
def rec' (pk : Bool) (a : Goroutine) : Goroutine := if pk then { a with status := .blocked } else a
theorem rec_again {pk : Bool} {a : Goroutine} (hr : a.status = .running) (ho : pk = true → a.offers = none) (w : World) : (rec' pk a).again w = a := by
 cases pk with
 | false => exact again_running w (.inl hr)
 | true =>
  have := ho rfl
  unfold rec' Goroutine.again
  simp only [if_true, this]
  cases a
  simp_all
section
variable {P : Program} {σ : Gh} {L : List Nat} {G : Grp} {c N0 : Nat} {w₀ : World} {δ : Nat} {T : Trace} {gs : Array Goroutine} {w w' : World} {q : Nat → Nat} {D : Nat → WS} {f : Nat → Nat} {x y x' y' : Value}
theorem CI.at (C : CI P σ L G c N0 w₀ δ T gs w q D f x y) (d : Nat) : CI P σ L G c N0 w₀ δ T gs (w.at d) q D f x y :=
 ⟨C.fr.at d, C.ok, C.nd, C.len, C.wk, C.shut, C.cw, C.loose, C.wg.at d, C.shs, C.shm⟩
theorem CI.mem_ne (C : CI P σ L G c N0 w₀ δ T gs w q D f x y) {i : Nat} {s : SeatD} {p : Addr × Value} (e : σ.seats i = some s) (hp : p ∈ s.mem) : p.1 ≠ G.st ∧ p.1 ≠ G.sm :=
 ⟨fun z => C.fr.msh i s _ e ⟨p, hp, rfl⟩ (z ▸ C.shs), fun z => C.fr.msh i s _ e ⟨p, hp, rfl⟩ (z ▸ C.shm)⟩
theorem CI.put (C : CI P σ L G c N0 w₀ δ T gs w q D f x y) {i n' : Nat} {g g' a : Goroutine} {es : Array Event} {ws : WS} {pk : Bool} {sl : Option (Nat × Nat)} (hi : i ∈ L) (hg : gs[i]? = some g) (hgo : stepG P false g w = .go g' w' es) (hw' : WG G w₀ x' y' w')
  (hst : g'.status = .running ∨ g'.status = .finished) (hpx : Px σ.rd σ.lo σ.sh w.heap.size (Knows (T ++ MemOp.ofEvents i g.frame.fn g.frame.place es) 0) (T ++ MemOp.ofEvents i g.frame.fn g.frame.place es))
  (hok : WOK P σ G c N0 (T ++ MemOp.ofEvents i g.frame.fn g.frame.place es) i n' g' ws) (hlt : n' < f i) (ha : gs[0]? = some (rec' pk a)) (har : a.status = .running) (hao : pk = true → a.offers = none) :
  ∃ (gs' : Array Goroutine) (pk' : Bool), runT P (crowd gs w sl) i = (.next (crowd gs' w' sl), MemOp.ofEvents i g.frame.fn g.frame.place es) ∧ gs'.size = gs.size ∧ gs'[0]? = some (rec' pk' a) ∧ (pk' = true → pk = true) ∧ (mayWake P g = true → pk' = false) ∧
   CI P σ L G c N0 w₀ δ (T ++ MemOp.ofEvents i g.frame.fn g.frame.place es) gs' w' q (upd D i ws) (upd f i n') x' y' ∧ sumL (upd f i n') L < sumL f L := by
 have hi0 : i ≠ 0 := fun e => C.fr.jh (e ▸ hi)
 have hib : (i == 0) = false := by rw [beq_eq_false_iff_ne]; exact hi0
 have hlt' : i < gs.size := (Array.getElem?_eq_some_iff.1 hg).1
 have hops : ∀ op ∈ MemOp.ofEvents i g.frame.fn g.frame.place es, op.g = i := fun op hop => by obtain ⟨e, _, rfl⟩ := Conc.mem_ofEvents hop; rfl
 have hsz : w'.heap.size = w.heap.size := by rw [hw'.size, C.wg.size]
 have hch : ∀ (r : Nat) (o : Obj), w.heap[r]? = some o → o.isChan = true → w'.heap[r]? = some o := fun r o h1 h2 => C.wg.chan2 hw' h1 h2
 have hm : ∀ i s p, σ.seats i = some s → p ∈ s.mem → w.cell? p.1 = some p.2 → w'.cell? p.1 = some p.2 := fun i s p e hp h1 => by
  rw [C.wg.cell2 hw' (C.mem_ne e hp).1 (C.mem_ne e hp).2]; exact h1
 have Cw := C.fr.world hsz hch hm
 have hother : ∀ z, z ≠ i → z ≠ 0 → ((gs.map (woken P g g' w')).setIfInBounds i g')[z]? = gs[z]? := by
  intro z hz hz0
  rw [Array.getElem?_setIfInBounds_ne (fun e => hz e.symm), Array.getElem?_map]
  cases e : gs[z]? with
  | none => rfl
  | some v => simp [woken_of_again (Cw.fixed hz0 e)]
 have hself : ((gs.map (woken P g g' w')).setIfInBounds i g')[i]? = some g' := Array.getElem?_setIfInBounds_self_of_lt (by simpa using hlt')
 have h0 : ((gs.map (woken P g g' w')).setIfInBounds i g')[0]? = some (woken P g g' w' (rec' pk a)) := by
  rw [Array.getElem?_setIfInBounds_ne hi0, Array.getElem?_map, ha]; rfl
 have hrt := runT_crowd_go (P := P) (sl := sl) hg (by rw [hib]; exact hgo)
 have hsl : sumL (upd f i n') L + f i = sumL f L + n' := sumL_upd f n' id C.nd hi
 have hCI : CI P σ L G c N0 w₀ δ (T ++ MemOp.ofEvents i g.frame.fn g.frame.place es) ((gs.map (woken P g g' w')).setIfInBounds i g') w' q (upd D i ws) (upd f i n') x' y' := by
  refine ⟨C.fr.jput hi hlt' hsz hch hm (by simp) hother hself hst hops hpx, C.ok, C.nd, C.len, fun j hj => ?_, ?_, fun j s hj e => ?_, C.loose, hw', C.shs, C.shm⟩
  ·by_cases e : j = i
   ·subst e
    exact ⟨g', hself, by rw [upd_same, upd_same]; exact hok⟩
   ·obtain ⟨gj, h1, h2⟩ := C.wk j hj
    refine ⟨gj, by rw [hother j e (fun z => C.fr.jh (z ▸ hj))]; exact h1, ?_⟩
    rw [upd_ne f n' e, upd_ne D ws e]
    exact h2.other hops (fun z => e z.symm)
  ·obtain ⟨k, hk⟩ := C.shut; exact ⟨k, hch _ _ hk rfl⟩
  ·obtain ⟨cw, z0, z1, k, h1, h2⟩ := C.cw j s hj e; exact ⟨cw, z0, z1, k, h1, hch _ _ h2 rfl⟩
 by_cases hmw : mayWake P g = true
 ·refine ⟨_, false, hrt, by simp, ?_, fun h => (by cases h), fun _ => rfl, hCI, by omega⟩
  rw [h0]
  have hs1 : (g'.status != .blocked) = true := by rcases hst with h | h <;> rw [h] <;> rfl
  have hs2 : (g'.status != .waiting) = true := by rcases hst with h | h <;> rw [h] <;> rfl
  unfold woken
  rw [hmw, hs1, hs2]
  simp only [Bool.and_self, if_true]
  rw [rec_again har hao]; rfl
 ·refine ⟨_, pk, hrt, by simp, ?_, fun h => h, fun h => absurd h hmw, hCI, by omega⟩
  rw [h0]
  unfold woken
  simp [hmw]
theorem CI.px_mark (C : CI P σ L G c N0 w₀ δ T gs w q D f x y) {i : Nat} {fn : FuncId} {pos : String} {m : Mark} (h1 : (MemAct.ofEvent (evm m)).touch? = none) (h2 : ∀ ad, m ≠ .release ad) (h3 : (MemAct.ofEvent (evm m)).low w.heap.size) :
  Px σ.rd σ.lo σ.sh w.heap.size (Knows (T ++ MemOp.ofEvents i fn pos #[evm m]) 0) (T ++ MemOp.ofEvents i fn pos #[evm m]) := by
 refine C.fr.px.mute (fun i => Knows.app _) (fun op hop => ?_) (fun op hop ad ea => ?_) (Nat.le_refl _) (fun op hop => ?_)
 all_goals
  obtain ⟨e, he, rfl⟩ := Conc.mem_ofEvents hop
  simp only [List.mem_toArray, List.mem_cons, List.not_mem_nil, or_false] at he
  subst he
 ·exact h1
 ·simp only [MemAct.ofEvent, MemAct.mark.injEq] at ea; exact absurd ea (h2 ad)
 ·exact h3
def tagOpen (v : Nat) : MS → Prop
 | .dis c | .head c => v ≤ c
 | .cas u => v ≤ u ∧ 1 ≤ u
 | _ => False
inductive Md (L : List Nat) (D : Nat → WS) : MS → Value → Value → Bool → Prop
 | opn {tag : MS} (ht : tagOpen (V L D) tag) (hD : ∀ i ∈ L, (D i).opn) : Md L D tag (stV (V L D) 0) (smV 0) false
 | reg {pk : Bool} (hD : ∀ i ∈ L, (D i).opn) (h1 : 1 ≤ V L D) : Md L D .reg (stV (V L D) 1) (smV 0) pk
 | lst1 {pk : Bool} (j : Nat) (hj : j ∈ L) (hx : D j = .cl .ld ∨ D j = .cl .sto) (ho : ∀ i ∈ L, i ≠ j → D i = .qt) : Md L D .reg (stV 0 1) (smV 0) pk
 | lst0 {pk : Bool} (j : Nat) (hj : j ∈ L) (hx : D j = .cl .sem) (ho : ∀ i ∈ L, i ≠ j → D i = .qt) : Md L D .reg (stV 0 0) (smV 0) pk
 | sema (ho : ∀ i ∈ L, D i = .qt) : Md L D .reg (stV 0 0) (smV 1) false
 | fin {tag : MS} (ht : tag = .last ∨ tag = .ena ∨ tag = .acq) (ho : ∀ i ∈ L, D i = .qt) : Md L D tag (stV 0 0) (smV 0) false
theorem V_upd (hn : L.Nodup) {i : Nat} (hi : i ∈ L) (ws : WS) : V L (upd D i ws) + (D i).cnt = V L D + ws.cnt := sumL_upd D ws WS.cnt hn hi
theorem tagOpen_mono {v v' : Nat} (h : v' ≤ v) {t : MS} (ht : tagOpen v t) : tagOpen v' t := by
 cases t <;> simp only [tagOpen] at ht ⊢ <;> omega
theorem Md.same {tag : MS} {pk pk' : Bool} (M : Md L D tag x y pk) (hn : L.Nodup) {i : Nat} (hi : i ∈ L) {ws : WS} (hD : (D i).opn) (hw : ws.opn) (hc : ws.cnt = (D i).cnt) (hq : D i = .qt → ws = .qt) (hpk : pk' = true → pk = true) : Md L (upd D i ws) tag x y pk' := by
 have hV : V L (upd D i ws) = V L D := by have := V_upd (D := D) hn hi ws; omega
 have hop : (∀ j ∈ L, (D j).opn) → ∀ j ∈ L, (upd D i ws j).opn := fun h j hj => by
  by_cases e : j = i
  ·subst e; rw [upd_same]; exact hw
  ·rw [upd_ne D ws e]; exact h j hj
 have hqt : (∀ j ∈ L, D j = .qt) → ∀ j ∈ L, upd D i ws j = .qt := fun h j hj => by
  by_cases e : j = i
  ·subst e; rw [upd_same]; exact hq (h j hj)
  ·rw [upd_ne D ws e]; exact h j hj
 have hqo : ∀ j₀, (∀ j ∈ L, j ≠ j₀ → D j = .qt) → i ≠ j₀ → ∀ j ∈ L, j ≠ j₀ → upd D i ws j = .qt := fun j₀ h hij j hj hne => by
  by_cases e : j = i
  ·subst e; rw [upd_same]; exact hq (h j hj hne)
  ·rw [upd_ne D ws e]; exact h j hj hne
 cases M with
 | opn ht hD' =>
  have : pk' = false := by cases pk' with
   | false => rfl
   | true => exact absurd (hpk rfl) (by simp)
  subst this
  rw [← hV]; exact .opn (by rw [hV]; exact ht) (hop hD')
 | reg hD' h1 => rw [← hV]; exact .reg (hop hD') (by omega)
 | lst1 j hj hx ho =>
  have hij : i ≠ j := fun e => by subst e; rcases hx with hx | hx <;> rw [hx] at hD <;> exact hD
  exact .lst1 j hj (by rw [upd_ne D ws (Ne.symm hij)]; exact hx) (hqo j ho hij)
 | lst0 j hj hx ho =>
  have hij : i ≠ j := fun e => by subst e; rw [hx] at hD; exact hD
  exact .lst0 j hj (by rw [upd_ne D ws (Ne.symm hij)]; exact hx) (hqo j ho hij)
 | sema ho =>
  have : pk' = false := by cases pk' with
   | false => rfl
   | true => exact absurd (hpk rfl) (by simp)
  subst this
  exact .sema (hqt ho)
 | fin ht ho =>
  have : pk' = false := by cases pk' with
   | false => rfl
   | true => exact absurd (hpk rfl) (by simp)
  subst this
  exact .fin ht (hqt ho)
end
end Go.Sl
end
section
set_option linter.unusedVariables false
namespace Go.Sl
open Go.Conc
open Go.ConcN (sumTo upd sumTo_upd upd_ne upd_same)
section
variable {P : Program} {σ : Gh} {L : List Nat} {G : Grp} {c N0 : Nat} {w₀ : World} {δ : Nat} {T : Trace} {gs : Array Goroutine} {w w' : World} {q : Nat → Nat} {D : Nat → WS} {f : Nat → Nat} {x y x' y' : Value} {tag : MS} {pk : Bool}
def AtomicEs (σ : Gh) (d : Nat) (es : Array Event) : Prop :=
 ∀ (j : Nat) (e : Event), es[j]? = some e → (MemAct.ofEvent e).touch? = none ∨ ((∃ ad wr, e = ⟨.cell ad, wr, true⟩ ∧ σ.sh (.cell ad)) ∧ 0 < deafBehind d (es.extract 0 j))
theorem at_r {a : Addr} (h : σ.sh (.cell a)) : AtomicEs σ 1 #[ar a] := by
 intro j e he
 rcases j with _ | j
 ·simp at he; subst he; exact .inr ⟨⟨a, false, rfl, h⟩, by simp [deafBehind]⟩
 ·simp at he
theorem at_w {a : Addr} (h : σ.sh (.cell a)) : AtomicEs σ 1 #[aw a] := by
 intro j e he
 rcases j with _ | j
 ·simp at he; subst he; exact .inr ⟨⟨a, true, rfl, h⟩, by simp [deafBehind]⟩
 ·simp at he
theorem at_rw {a : Addr} (h : σ.sh (.cell a)) : AtomicEs σ 1 #[ar a, aw a] := by
 intro j e he
 rcases j with _ | _ | j
 ·simp at he; subst he; exact .inr ⟨⟨a, false, rfl, h⟩, by simp [deafBehind]⟩
 ·simp at he; subst he; exact .inr ⟨⟨a, true, rfl, h⟩, by simp [deafBehind]⟩
 ·simp at he
theorem at_sem {a : Addr} (h : σ.sh (.cell a)) : AtomicEs σ 1 (semEvents a) := by
 intro j e he
 unfold semEvents at he ⊢
 rcases j with _ | _ | _ | _ | j
 ·simp at he; subst he; exact .inl rfl
 ·simp at he; subst he; exact .inr ⟨⟨a, false, rfl, h⟩, by simp [deafBehind]⟩
 ·simp at he; subst he; exact .inr ⟨⟨a, true, rfl, h⟩, by simp [deafBehind]⟩
 ·simp at he; subst he; exact .inl rfl
 ·simp at he
theorem CI.px_atom (C : CI P σ L G c N0 w₀ δ T gs w q D f x y) {i d : Nat} {fn : FuncId} {pos : String} {es : Array Event} (hd : Deaf T i = d) (hes : AtomicEs σ d es) (hm : ∀ e ∈ es, ∀ ad, MemAct.ofEvent e ≠ .mark (.release ad)) (hl : ∀ e ∈ es, (MemAct.ofEvent e).low w.heap.size) :
  Px σ.rd σ.lo σ.sh w.heap.size (Knows (T ++ MemOp.ofEvents i fn pos es) 0) (T ++ MemOp.ofEvents i fn pos es) := by
 have h := deaf_ops (T := T) (i := i) (fn := fn) (pos := pos) (es := es) (sh := σ.sh) (by rw [hd]; exact hes)
 exact C.fr.px.atomics (fun i => Knows.app _) (fun op hop => by obtain ⟨e, _, rfl⟩ := Conc.mem_ofEvents hop; rfl) h (fun g l _ hr => by obtain ⟨s, e, hl⟩ := hr; exact C.fr.msh g s l e hl)
  (fun op hop ad ea => by obtain ⟨e, he, rfl⟩ := Conc.mem_ofEvents hop; exact absurd ea (hm e he ad)) (Nat.le_refl _) (fun op hop => by obtain ⟨e, he, rfl⟩ := Conc.mem_ofEvents hop; exact hl e he)
theorem RelX.atom {a : Addr} {i r d : Nat} {fn : FuncId} {pos : String} {es : Array Event} (H : RelX σ.sh a T i r) (hd : Deaf T i = d) (hes : AtomicEs σ d es) : RelX σ.sh a (T ++ MemOp.ofEvents i fn pos es) i r := by
 have h := deaf_ops (T := T) (i := i) (fn := fn) (pos := pos) (es := es) (sh := σ.sh) (by rw [hd]; exact hes)
 exact H.app fun k op hop _ b hb => h k op hop b hb
theorem CI.st_lt (C : CI P σ L G c N0 w₀ δ T gs w q D f x y) : G.blk < w.heap.size := by rw [C.wg.size]; exact C.wg.blt
theorem cnt0_qt {v : WS} (h : v.opn) (h0 : v.cnt = 0) : v = .qt := by
 cases v with
 | app => simp [WS.cnt] at h0
 | cl s => cases s <;> simp_all [WS.cnt, WS.opn]
 | qt => rfl
theorem Md.opn_of (M : Md L D tag x y pk) {i : Nat} (hi : i ∈ L) (h1 : (D i).cnt = 1) : (∀ j ∈ L, (D j).opn) ∧ 1 ≤ V L D ∧ ((tagOpen (V L D) tag ∧ x = stV (V L D) 0 ∧ y = smV 0 ∧ pk = false) ∨ (tag = .reg ∧ x = stV (V L D) 1 ∧ y = smV 0)) := by
 have hno : ∀ {a : WS}, D i = a → a.cnt = 0 → False := fun e h => by rw [e] at h1; omega
 have hV : ∀ l : List Nat, i ∈ l → 1 ≤ sumL (fun j => (D j).cnt) l := fun l => by
  induction l with
  | nil => intro h; simp at h
  | cons j l ih =>
   intro h
   rcases List.mem_cons.1 h with rfl | h
   ·simp only [sumL]; omega
   ·have := ih h; simp only [sumL]; omega
 cases M with
 | opn ht hD => exact ⟨hD, hV L hi, .inl ⟨ht, rfl, rfl, rfl⟩⟩
 | reg hD h => exact ⟨hD, h, .inr ⟨rfl, rfl, rfl⟩⟩
 | lst1 j hj hx ho =>
  by_cases e : i = j
  ·subst e; rcases hx with hx | hx <;> exact (hno hx (by simp [WS.cnt])).elim
  ·exact (hno (ho i hi e) (by simp [WS.cnt])).elim
 | lst0 j hj hx ho =>
  by_cases e : i = j
  ·subst e; exact (hno hx (by simp [WS.cnt])).elim
  ·exact (hno (ho i hi e) (by simp [WS.cnt])).elim
 | sema ho => exact (hno (ho i hi) (by simp [WS.cnt])).elim
 | fin _ ho => exact (hno (ho i hi) (by simp [WS.cnt])).elim
theorem Md.lst1_of (M : Md L D tag x y pk) {i : Nat} (hi : i ∈ L) (h1 : D i = .cl .ld ∨ D i = .cl .sto) : tag = .reg ∧ x = stV 0 1 ∧ y = smV 0 ∧ ∀ j ∈ L, j ≠ i → D j = .qt := by
 have hno : D i ≠ .qt := fun e => by rcases h1 with h | h <;> rw [e] at h <;> cases h
 have hno2 : ¬ (D i).opn := by rcases h1 with h | h <;> rw [h] <;> exact fun z => z
 cases M with
 | opn ht hD => exact absurd (hD i hi) hno2
 | reg hD h => exact absurd (hD i hi) hno2
 | lst1 j hj hx ho =>
  by_cases e : i = j
  ·subst e; exact ⟨rfl, rfl, rfl, ho⟩
  ·exact absurd (ho i hi e) hno
 | lst0 j hj hx ho =>
  by_cases e : i = j
  ·subst e; rcases h1 with h | h <;> rw [h] at hx <;> cases hx
  ·exact absurd (ho i hi e) hno
 | sema ho => exact absurd (ho i hi) hno
 | fin _ ho => exact absurd (ho i hi) hno
theorem Md.lst0_of (M : Md L D tag x y pk) {i : Nat} (hi : i ∈ L) (h1 : D i = .cl .sem) : tag = .reg ∧ x = stV 0 0 ∧ y = smV 0 ∧ ∀ j ∈ L, j ≠ i → D j = .qt := by
 have hno : D i ≠ .qt := fun e => by rw [e] at h1; cases h1
 have hno2 : ¬ (D i).opn := by rw [h1]; exact fun z => z
 cases M with
 | opn ht hD => exact absurd (hD i hi) hno2
 | reg hD h => exact absurd (hD i hi) hno2
 | lst1 j hj hx ho =>
  by_cases e : i = j
  ·subst e; rcases hx with h | h <;> rw [h] at h1 <;> cases h1
  ·exact absurd (ho i hi e) hno
 | lst0 j hj hx ho =>
  by_cases e : i = j
  ·subst e; exact ⟨rfl, rfl, rfl, ho⟩
  ·exact absurd (ho i hi e) hno
 | sema ho => exact absurd (ho i hi) hno
 | fin _ ho => exact absurd (ho i hi) hno
def WStep (P : Program) (σ : Gh) (L : List Nat) (G : Grp) (c N0 : Nat) (w₀ : World) (δ : Nat) (T : Trace) (gs : Array Goroutine) (w : World) (q : Nat → Nat) (f : Nat → Nat) (tag : MS) (pk : Bool) (a : Goroutine) (sl : Option (Nat × Nat)) (i : Nat) : Prop :=
 ∃ (gs' : Array Goroutine) (ops : Array MemOp) (w' : World) (D' : Nat → WS) (f' : Nat → Nat) (x' y' : Value) (pk' : Bool), runT P (crowd gs w sl) i = (.next (crowd gs' w' sl), ops) ∧ gs'.size = gs.size ∧ gs'[0]? = some (rec' pk' a) ∧ (pk' = true → pk = true) ∧
  CI P σ L G c N0 w₀ δ (T ++ ops) gs' w' q D' f' x' y' ∧ Md L D' tag x' y' pk' ∧ sumL f' L < sumL f L
theorem offers_main {a : Goroutine} (har : a.status = .running) (hao : pk = true → a.offers = none) (r : Nat) (b : Bool) : offersAt (rec' pk a) r b = [] := by
 cases pk with
 | false => exact offersAt_of_not_blocked (by unfold rec'; simp [har]) _ _
 | true => unfold rec' offersAt; simp [hao rfl]
theorem CI.wstep (C : CI P σ L G c N0 w₀ δ T gs w q D f x y) (M : Md L D tag x y pk) {i : Nat} {g a : Goroutine} {sl : Option (Nat × Nat)} (hi : i ∈ L) (hg : gs[i]? = some g) (hrun : g.status = .running) (ha : gs[0]? = some (rec' pk a)) (har : a.status = .running) (hao : pk = true → a.offers = none) :
  WStep P σ L G c N0 w₀ δ T gs w q f tag pk a sl i := by
 have hi0 : i ≠ 0 := fun e => C.fr.jh (e ▸ hi)
 have hib : (i == 0) = false := by rw [beq_eq_false_iff_ne]; exact hi0
 have hlt : i < gs.size := (Array.getElem?_eq_some_iff.1 hg).1
 have hblk := C.st_lt
 obtain ⟨g₁, hg₁, hW⟩ := C.wk i hi
 obtain rfl : g₁ = g := Option.some.inj (hg₁.symm.trans hg)
 have go : ∀ {g' : Goroutine} {w' : World} {es : Array Event} {n' : Nat} {ws : WS} {x' y' : Value}, stepG P false g₁ w = .go g' w' es → WG G w₀ x' y' w' → (g'.status = .running ∨ g'.status = .finished) →
   Px σ.rd σ.lo σ.sh w.heap.size (Knows (T ++ MemOp.ofEvents i g₁.frame.fn g₁.frame.place es) 0) (T ++ MemOp.ofEvents i g₁.frame.fn g₁.frame.place es) → WOK P σ G c N0 (T ++ MemOp.ofEvents i g₁.frame.fn g₁.frame.place es) i n' g' ws → n' < f i →
   (∀ pk' : Bool, (pk' = true → pk = true) → (mayWake P g₁ = true → pk' = false) → Md L (upd D i ws) tag x' y' pk') → WStep P σ L G c N0 w₀ δ T gs w q f tag pk a sl i := by
  intro g' w' es n' ws x' y' h1 h2 h3 h4 h5 h6 h7
  obtain ⟨gs', pk', r1, r2, r3, r4, r5, r6, r7⟩ := C.put (sl := sl) hi hg h1 h2 h3 h4 h5 h6 ha har hao
  exact ⟨gs', _, w', _, _, _, _, pk', r1, r2, r3, r4, r6, h7 pk' r4 r5, r7⟩
 have pxmute : ∀ {es : Array Event}, (∀ e ∈ es, e.mute = true) → Px σ.rd σ.lo σ.sh w.heap.size (Knows (T ++ MemOp.ofEvents i g₁.frame.fn g₁.frame.place es) 0) (T ++ MemOp.ofEvents i g₁.frame.fn g₁.frame.place es) := fun hm =>
  C.fr.px.mute (fun i => Knows.app _) (fun op hop => by obtain ⟨e, he, rfl⟩ := Conc.mem_ofEvents hop; exact touch_mute (hm e he)) (fun op hop ad ea => by obtain ⟨e, he, rfl⟩ := Conc.mem_ofEvents hop; exact absurd ea (norel_mute (hm e he) ad)) (Nat.le_refl _) (fun op hop => by obtain ⟨e, he, rfl⟩ := Conc.mem_ofEvents hop; exact low_mute (hm e he) _)
 have px0 : Px σ.rd σ.lo σ.sh w.heap.size (Knows (T ++ MemOp.ofEvents i g₁.frame.fn g₁.frame.place #[]) 0) (T ++ MemOp.ofEvents i g₁.frame.fn g₁.frame.place #[]) := pxmute (fun e he => by simp at he)
 cases hDi : D i with
 | qt =>
  rw [hDi] at hW
  obtain ⟨hq, r, hR⟩ := hW
  cases hfi : f i with
  | zero => rw [hfi] at hq; rw [hq.1] at hrun; cases hrun
  | succ k =>
   rw [hfi] at hq
   rcases hq with ⟨hf, _⟩ | ⟨_, g', es, hm, hstp, hq'⟩
   ·rw [hf] at hrun; cases hrun
   refine go (ws := .qt) (hstp w) C.wg hq'.status (pxmute hm) ⟨by rw [Deaf_own]; exact hq', r, hR.still fun op hop => by obtain ⟨e, he, rfl⟩ := Conc.mem_ofEvents hop; exact touch_mute (hm e he)⟩ (by omega) fun pk' hp _ => ?_
   exact M.same C.nd hi (by rw [hDi]; exact trivial) trivial (by rw [hDi]) (fun _ => rfl) hp
 | app =>
  rw [hDi] at hW
  obtain ⟨s, cw, z0, z1, k, hs, hcs, hfi, hway, hdf, hcl⟩ := hW
  have hlo := C.loose i hi
  have hKw := C.fr.mem i s hs
  have hcase : AtX P false s g₁ ∨ ∃ k' g' es d, k = k' + 1 ∧ stepG P false g₁ w = .go g' (w.at d) es ∧ (∀ e ∈ es, EvX s e) ∧ Way P false s k' g' := by
   cases k with
   | zero => exact .inl hway
   | succ k' =>
    rcases hway with hstop | ⟨_, hstep⟩
    ·exact .inl hstop
    ·obtain ⟨g', es, d, h1, h2, h3⟩ := hstep w hKw
     exact .inr ⟨k', g', es, d, rfl, h1, h2, h3⟩
  have hmsame : ∀ pk' : Bool, (pk' = true → pk = true) → ∀ ws : WS, ws.opn → ws.cnt = 1 → Md L (upd D i ws) tag x y pk' := fun pk' hp ws h1 h2 =>
   M.same C.nd hi (by rw [hDi]; exact trivial) h1 (by rw [hDi, h2]; rfl) (fun e => by rw [hDi] at e; cases e) hp
  rcases hcase with hat | ⟨k', g', es, d, rfl, hgo, hes, hG'⟩
  ·
   obtain ⟨rr, hrr, _, _, _, _, es, hes, hstp⟩ := id hat
   obtain ⟨hops, hr, hl, hnr, hd⟩ := evX_ops (i := i) (fn := g₁.frame.fn) (pos := g₁.frame.place) hKw hes
   have hnosend : ∀ r, partners (gs.setIfInBounds i ph) r true = [] := fun r => partners_nil fun j v hv => by
    rcases getElem?_stand gs i j v hv with ⟨_, rfl⟩ | ⟨_, hv'⟩
    ·exact offersAt_ph _ _
    ·by_cases hj : j = 0
     ·subst hj; rw [ha] at hv'; obtain rfl := Option.some.inj hv'; exact offers_main har hao r true
     ·exact C.fr.noSend hj hv' r
   obtain ⟨kc, hkc⟩ := C.shut
   obtain ⟨cw', z0', z1', kw, hcs', hkw⟩ := C.cw i s hi hs
   obtain ⟨rfl, rfl⟩ : cw = cw' ∧ z0 = z0' := by
    rw [hcs] at hcs'
    have := congrArg (·[0]?) hcs'
    simp [rcase] at this
    exact this
   have ho : ∀ (m : Nat) (c' : CommCase), m ≠ 1 → s.cases[m]? = some c' → NoWays w (gs.setIfInBounds i ph) c' := by
    intro m c' hm hc'
    rw [hcs] at hc'
    rcases m with _ | _ | m
    ·simp at hc'; subst hc'; exact ways_recv_none hkw (hnosend _)
    ·exact absurd rfl hm
    ·simp at hc'
   have hk1 : s.cases[1]? = some (rcase c z1) := by rw [hcs]; rfl
   have hrt := crowd_sel_recv_closed (P := P) (sl := sl) hg (by rw [hib]; exact hstp w hKw) hk1 ho hkc (hnosend _)
   rw [finishComm_served, show ((1 : Nat) : Int) = (1 : Int) from rfl] at hrt
   have hops2 : ∀ op ∈ MemOp.ofEvents i g₁.frame.fn g₁.frame.place es ++ #[{ g := i, fn := rr.frame.fn, pos := rr.frame.place, act := .recvClosed c }], op.g = i := fun op hop => by
    rcases Array.mem_append.1 hop with h | h
    ·exact hops op h
    ·simp only [List.mem_toArray, List.mem_cons, List.not_mem_nil, or_false] at h
     subst h; rfl
   have hDf : Deaf (T ++ (MemOp.ofEvents i g₁.frame.fn g₁.frame.place es ++ #[{ g := i, fn := rr.frame.fn, pos := rr.frame.place, act := .recvClosed c }])) i = 0 := by
    rw [← Array.append_assoc, Deaf_quiet (fun op hop d => by
     simp only [List.mem_toArray, List.mem_cons, List.not_mem_nil, or_false] at hop
     subst hop; rfl), hd T, hdf]
   have hclt : c < w.heap.size := (Array.getElem?_eq_some_iff.1 hkc).1
   have p1 := C.fr.px.reads (K' := Knows (T ++ MemOp.ofEvents i g₁.frame.fn g₁.frame.place es) 0) (fun i => Knows.app _) hlo hops (fun op hop b hb => ⟨(hr op hop b hb).1, ⟨s, hs, (hr op hop b hb).2⟩, C.fr.msh i s _ hs (hr op hop b hb).2⟩) (fun op hop ad ea => absurd ea (hnr op hop ad)) (Nat.le_refl _) hl
   have p2 := p1.mute (u := #[{ g := i, fn := rr.frame.fn, pos := rr.frame.place, act := .recvClosed c }]) (K' := Knows (T ++ MemOp.ofEvents i g₁.frame.fn g₁.frame.place es ++ #[{ g := i, fn := rr.frame.fn, pos := rr.frame.place, act := .recvClosed c }]) 0) (fun i => Knows.app _) (fun op hop => by
     simp only [List.mem_toArray, List.mem_cons, List.not_mem_nil, or_false] at hop
     subst hop; rfl) (fun op hop ad ea => by
     simp only [List.mem_toArray, List.mem_cons, List.not_mem_nil, or_false] at hop
     subst hop; cases ea) (Nat.le_refl _) (fun op hop => by
     simp only [List.mem_toArray, List.mem_cons, List.not_mem_nil, or_false] at hop
     subst hop; exact hclt)
   rw [Array.append_assoc] at p2
   have hself : (gs.setIfInBounds i (Conc.served rr (commResult s.cases s.shape 1 z1 false)))[i]? = some (Conc.served rr (commResult s.cases s.shape 1 z1 false)) := Array.getElem?_setIfInBounds_self_of_lt hlt
   have hoth : ∀ v, v ≠ i → (gs.setIfInBounds i (Conc.served rr (commResult s.cases s.shape 1 z1 false)))[v]? = gs[v]? := fun v hv => Array.getElem?_setIfInBounds_ne (fun e => hv e.symm)
   have hsl : sumL (upd f i N0) L + f i = sumL f L + N0 := sumL_upd f N0 id C.nd hi
   refine ⟨_, _, w, upd D i (.cl .rel), upd f i N0, x, y, pk, hrt, by simp, by rw [hoth 0 (Ne.symm hi0)]; exact ha, id, ?_, hmsame pk id _ trivial rfl, by omega⟩
   refine ⟨C.fr.jput hi hlt rfl (fun _ _ h _ => h) (fun _ _ _ _ _ h => h) (by simp) (fun v hv _ => hoth v hv) hself (.inl rfl) hops2 p2, C.ok, C.nd, C.len, fun j hj => ?_, C.shut, C.cw, C.loose, C.wg, C.shs, C.shm⟩
   by_cases e : j = i
   ·subst e
    exact ⟨_, hself, by rw [upd_same, upd_same]; exact ⟨hcl rr hrr, hDf, fun h => absurd rfl h⟩⟩
   ·obtain ⟨gj, h1, h2⟩ := C.wk j hj
    refine ⟨gj, by rw [hoth j e]; exact h1, ?_⟩
    rw [upd_ne f N0 e, upd_ne D (.cl .rel) e]
    exact h2.other hops2 (fun z => e z.symm)
  ·obtain ⟨hops, hr, hl, hnr, hd⟩ := evX_ops (i := i) (fn := g₁.frame.fn) (pos := g₁.frame.place) hKw hes
   refine go (ws := .app) hgo (C.wg.at d) (.inl (Way.running ⟨w, hKw⟩ hG')) ?_ ⟨s, cw, z0, z1, k', hs, hcs, rfl, hG', (hd T).trans hdf, hcl⟩ (by omega) fun pk' hp _ => hmsame pk' hp _ trivial rfl
   exact C.fr.px.reads (fun i => Knows.app _) hlo hops (fun op hop b hb => ⟨(hr op hop b hb).1, ⟨s, hs, (hr op hop b hb).2⟩, C.fr.msh i s _ hs (hr op hop b hb).2⟩) (fun op hop ad ea => absurd ea (hnr op hop ad)) (Nat.le_refl _) hl
 | cl st =>
  rw [hDi] at hW
  obtain ⟨hcl, hdf, hrel⟩ := hW
  cases hfi : f i with
  | zero => rw [hfi] at hcl; exact hcl.elim
  | succ n =>
   rw [hfi] at hcl
   obtain ⟨_, hcl⟩ := hcl
   rcases hcl with ⟨g', hstp, hcl'⟩ | hcl
   ·
    refine go (ws := .cl st) (hstp w C.wg.gs) C.wg (.inl hcl'.running) px0 ⟨hcl', by rw [Deaf_own]; exact hdf, fun h => let ⟨r, hR⟩ := hrel h; ⟨r, hR.still fun op hop => by obtain ⟨e, he, _⟩ := Conc.mem_ofEvents hop; simp at he⟩⟩ (by omega) fun pk' hp _ => ?_
    have eu : upd D i (.cl st) = D := by
     funext j
     by_cases e : j = i
     ·subst e; rw [upd_same, hDi]
     ·rw [upd_ne D _ e]
    rw [eu]
    cases M with
    | opn ht hD =>
     have : pk' = false := by cases pk' with
      | false => rfl
      | true => exact absurd (hp rfl) (by simp)
     subst this; exact .opn ht hD
    | reg hD h => exact .reg hD h
    | lst1 j hj hx ho => exact .lst1 j hj hx ho
    | lst0 j hj hx ho => exact .lst0 j hj hx ho
    | sema ho =>
     have : pk' = false := by cases pk' with
      | false => rfl
      | true => exact absurd (hp rfl) (by simp)
     subst this; exact .sema ho
    | fin ht ho =>
     have : pk' = false := by cases pk' with
      | false => rfl
      | true => exact absurd (hp rfl) (by simp)
     subst this; exact .fin ht ho
   ·have hrelOf : st ≠ .rel → ∃ r, RelX σ.sh G.st T i r := hrel
    cases st with
    | rel =>
     obtain ⟨g', hstp, hcl'⟩ := hcl
     have hd0 : Deaf T i = 0 := hdf
     refine go (ws := .cl .dis) (hstp w) C.wg (.inl hcl'.running) (C.px_mark rfl (fun ad => by simp) hblk) ⟨hcl', by rw [Deaf_own, hd0]; rfl, fun _ => ⟨T.size, ?_⟩⟩ (by omega) fun pk' hp _ => M.same C.nd hi (by rw [hDi]; exact trivial) trivial (by rw [hDi]; rfl) (fun e => by rw [hDi] at e; cases e) hp
     have e1 : MemOp.ofEvents i g₁.frame.fn g₁.frame.place #[evm (.releaseMerge G.st)] = #[{ g := i, fn := g₁.frame.fn, pos := g₁.frame.place, act := .mark (.releaseMerge G.st) }] := by rw [ofEvents_eq]; simp [MemAct.ofEvent]
     rw [e1]
     exact RelX.new rfl rfl hd0
    | dis =>
     obtain ⟨g', hstp, hcl'⟩ := hcl
     have hd0 : Deaf T i = 0 := hdf
     obtain ⟨r, hR⟩ := hrelOf (by simp)
     exact go (ws := .cl .add) (hstp w) C.wg (.inl hcl'.running) (C.px_mark rfl (fun ad => by simp) trivial) ⟨hcl', by rw [Deaf_own, hd0]; rfl, fun _ => ⟨r, hR.still fun op hop => by obtain ⟨e, he, rfl⟩ := Conc.mem_ofEvents hop; simp only [List.mem_toArray, List.mem_cons, List.not_mem_nil, or_false] at he; subst he; rfl⟩⟩ (by omega)
      fun pk' hp _ => M.same C.nd hi (by rw [hDi]; exact trivial) trivial (by rw [hDi]; rfl) (fun e => by rw [hDi] at e; cases e) hp
    | add =>
     obtain ⟨g', hstp, hcl', hquit⟩ := hcl
     have hd1 : Deaf T i = 1 := hdf
     obtain ⟨r, hR⟩ := hrelOf (by simp)
     obtain ⟨hopn, hV1, hmode⟩ := M.opn_of hi (by rw [hDi]; rfl)
     have hV4 : V L D ≤ 4 := Nat.le_trans (sumL_le (fun i => cnt_le _) L) C.len
     obtain ⟨v, hv⟩ : ∃ v, V L D = v + 1 := ⟨V L D - 1, by omega⟩
     have px := C.px_atom (i := i) (fn := g₁.frame.fn) (pos := g₁.frame.place) hd1 (at_rw C.shs) (fun e he ad => by
      simp only [List.mem_toArray, List.mem_cons, List.not_mem_nil, or_false] at he
      rcases he with rfl | rfl <;> simp [MemAct.ofEvent]) (fun e he => by
      simp only [List.mem_toArray, List.mem_cons, List.not_mem_nil, or_false] at he
      rcases he with rfl | rfl <;> exact hblk)
     have hD1 : Deaf (T ++ MemOp.ofEvents i g₁.frame.fn g₁.frame.place #[ar G.st, aw G.st]) i = 1 := by rw [Deaf_own, hd1]; rfl
     have hVq : V L (upd D i .qt) = v := by have := V_upd (D := D) C.nd hi .qt; rw [hDi] at this; simp only [WS.cnt] at this; omega
     have hVl : V L (upd D i (.cl .ld)) = v := by have := V_upd (D := D) C.nd hi (.cl .ld); rw [hDi] at this; simp only [WS.cnt] at this; omega
     have hopq : ∀ j ∈ L, (upd D i .qt j).opn := fun j hj => by
      by_cases e : j = i
      ·subst e; rw [upd_same]; exact trivial
      ·rw [upd_ne D _ e]; exact hopn j hj
     rcases hmode with ⟨ht, rfl, rfl, rfl⟩ | ⟨rfl, rfl, rfl⟩
     ·have hst : w.cell? G.st = some (stV (v + 1) 0) := by rw [C.wg.cst C.ok, hv]
      have hq := hquit v 0 (by omega) (by omega) (by omega)
      refine go (ws := .qt) (hstp w v 0 (by omega) (by omega) hst C.wg.fst) (C.wg.setSt C.ok _) hq.status px ⟨by rw [hD1]; exact hq, r, hR.atom hd1 (at_rw C.shs)⟩ (by omega) fun pk' hp _ => ?_
      have : pk' = false := by cases pk' with
       | false => rfl
       | true => exact absurd (hp rfl) (by simp)
      subst this
      have hx := Md.opn (L := L) (D := upd D i .qt) (tag := tag) (by rw [hVq]; exact tagOpen_mono (by omega) ht) hopq
      rwa [hVq] at hx
     ·have hst : w.cell? G.st = some (stV (v + 1) 1) := by rw [C.wg.cst C.ok, hv]
      by_cases h0 : v = 0
      ·subst h0
       refine go (ws := .cl .ld) (hstp w 0 1 (by omega) (by omega) hst C.wg.fst) (C.wg.setSt C.ok _) (.inl hcl'.running) px ⟨hcl', hD1, fun _ => ⟨r, hR.atom hd1 (at_rw C.shs)⟩⟩ (by omega) fun pk' hp _ => ?_
       refine .lst1 i hi (.inl (by rw [upd_same])) fun j hj hne => ?_
       rw [upd_ne D _ hne]
       have := sumL_zero hVl j hj
       simp only [upd_ne D (.cl .ld) hne] at this
       exact cnt0_qt (hopn j hj) this
      ·have hq := hquit v 1 (by omega) (by omega) (by omega)
       refine go (ws := .qt) (hstp w v 1 (by omega) (by omega) hst C.wg.fst) (C.wg.setSt C.ok _) hq.status px ⟨by rw [hD1]; exact hq, r, hR.atom hd1 (at_rw C.shs)⟩ (by omega) fun pk' hp _ => ?_
       have hx := Md.reg (L := L) (D := upd D i .qt) (pk := pk') hopq (by rw [hVq]; omega)
       rwa [hVq] at hx
    | ld =>
     obtain ⟨g', hstp, hcl'⟩ := hcl
     have hd1 : Deaf T i = 1 := hdf
     obtain ⟨r, hR⟩ := hrelOf (by simp)
     obtain ⟨rfl, rfl, rfl, ho⟩ := M.lst1_of hi (.inl hDi)
     refine go (ws := .cl .sto) (hstp w (C.wg.cst C.ok)) C.wg (.inl hcl'.running) (C.px_atom hd1 (at_r C.shs) (fun e he ad => ?_) (fun e he => ?_)) ⟨hcl', by rw [Deaf_own, hd1]; rfl, fun _ => ⟨r, hR.atom hd1 (at_r C.shs)⟩⟩ (by omega) fun pk' hp _ => ?_
     ·simp only [List.mem_toArray, List.mem_cons, List.not_mem_nil, or_false] at he
      subst he; simp [MemAct.ofEvent]
     ·simp only [List.mem_toArray, List.mem_cons, List.not_mem_nil, or_false] at he
      subst he; exact hblk
     ·exact .lst1 i hi (.inr (by rw [upd_same])) fun j hj hne => by rw [upd_ne D _ hne]; exact ho j hj hne
    | sto =>
     obtain ⟨g', hstp, hcl'⟩ := hcl
     have hd1 : Deaf T i = 1 := hdf
     obtain ⟨r, hR⟩ := hrelOf (by simp)
     obtain ⟨rfl, rfl, rfl, ho⟩ := M.lst1_of hi (.inr hDi)
     refine go (ws := .cl .sem) (hstp w (C.wg.cst C.ok) C.wg.fst) (C.wg.setSt C.ok _) (.inl hcl'.running) (C.px_atom hd1 (at_w C.shs) (fun e he ad => ?_) (fun e he => ?_)) ⟨hcl', by rw [Deaf_own, hd1]; rfl, fun _ => ⟨r, hR.atom hd1 (at_w C.shs)⟩⟩ (by omega) fun pk' hp _ => ?_
     ·simp only [List.mem_toArray, List.mem_cons, List.not_mem_nil, or_false] at he
      subst he; simp [MemAct.ofEvent]
     ·simp only [List.mem_toArray, List.mem_cons, List.not_mem_nil, or_false] at he
      subst he; exact hblk
     ·exact .lst0 i hi (by rw [upd_same]) fun j hj hne => by rw [upd_ne D _ hne]; exact ho j hj hne
    | sem =>
     obtain ⟨hmw, g', hstp, hq⟩ := hcl
     have hd1 : Deaf T i = 1 := hdf
     obtain ⟨r, hR⟩ := hrelOf (by simp)
     obtain ⟨rfl, rfl, rfl, ho⟩ := M.lst0_of hi hDi
     refine go (ws := .qt) (hstp w (C.wg.csm C.ok) C.wg.fsm) (C.wg.setSm C.ok _) hq.status (C.px_atom hd1 (at_sem C.shm) (fun e he ad => ?_) (fun e he => ?_)) ⟨by rw [Deaf_own, hd1]; exact hq, r, hR.atom hd1 (at_sem C.shm)⟩ (by omega) fun pk' hp hmk => ?_
     ·simp only [semEvents, List.mem_toArray, List.mem_cons, List.not_mem_nil, or_false] at he
      rcases he with rfl | rfl | rfl | rfl <;> simp [MemAct.ofEvent]
     ·simp only [semEvents, List.mem_toArray, List.mem_cons, List.not_mem_nil, or_false] at he
      rcases he with rfl | rfl | rfl | rfl <;> first | exact hblk | trivial
     ·have : pk' = false := hmk hmw
      subst this
      refine .sema fun j hj => ?_
      by_cases e : j = i
      ·subst e; rw [upd_same]
      ·rw [upd_ne D _ e]; exact ho j hj e
end
end Go.Sl
end
section
set_option linter.unusedVariables false
namespace Go.Sl
open Go.Conc
open Go.ConcN (sumTo upd sumTo_upd upd_ne upd_same)
section
variable {P : Program} {σ : Gh} {L : List Nat} {G : Grp} {c N0 : Nat} {w₀ : World} {δ : Nat} {T : Trace} {gs : Array Goroutine} {w w' : World} {q : Nat → Nat} {D : Nat → WS} {f : Nat → Nat} {x y x' y' : Value} {tag : MS} {pk : Bool}
theorem Md.wake (M : Md L D tag x y pk) : Md L D tag x y false := by
 cases M with
 | opn ht hD => exact .opn ht hD
 | reg hD h => exact .reg hD h
 | lst1 j hj hx ho => exact .lst1 j hj hx ho
 | lst0 j hj hx ho => exact .lst0 j hj hx ho
 | sema ho => exact .sema ho
 | fin ht ho => exact .fin ht ho
theorem WOK.runs (C : CI P σ L G c N0 w₀ δ T gs w q D f x y) {i n : Nat} {g : Goroutine} {ws : WS} (H : WOK P σ G c N0 T i n g ws) (h : ws ≠ .qt) : g.status = .running := by
 cases ws with
 | app => obtain ⟨s, cw, z0, z1, k, hs, _, _, hw, _⟩ := H; exact Way.running ⟨w, C.fr.mem i s hs⟩ hw
 | cl st => exact H.1.running
 | qt => exact absurd rfl h
theorem CI.turn {a : Goroutine} (har : a.status = .running) : ∀ (F : Nat) (T : Trace) (gs : Array Goroutine) (w : World) (q : Nat → Nat) (D : Nat → WS) (f : Nat → Nat) (x y : Value) (pk : Bool) (sl : Option (Nat × Nat)),
  CI P σ L G c N0 w₀ δ T gs w q D f x y → Md L D tag x y pk → gs[0]? = some (rec' pk a) → (pk = true → a.offers = none) → sumTo gs.size q + sumL f L = F →
  ∃ (N : Nat) (gs' : Array Goroutine) (w' : World) (sl' sl'' : Option (Nat × Nat)) (d : Nat) (T' : Trace) (q' : Nat → Nat) (D' : Nat → WS) (f' : Nat → Nat) (x' y' : Value), runNT P N (crowd gs w sl) T = (.next (crowd gs' w' sl'), T') ∧
   stepT P (crowd gs' w' sl') = runT P (crowd gs' (w'.at d) sl'') 0 ∧ gs'[0]? = some a ∧ CI P σ L G c N0 w₀ δ T' gs' (w'.at d) q' D' f' x' y' ∧ Md L D' tag x' y' false ∧ sumTo gs'.size q' + sumL f' L ≤ F ∧ (pk = true → sumTo gs'.size q' + sumL f' L < F) := by
 intro F
 induction F using Nat.strongRecOn with
 | _ F ih =>
  intro T gs w q D f x y pk sl C M ha hao hF
  have hsome : ∃ (i : Nat) (g : Goroutine), gs[i]? = some g ∧ g.status = .running := by
   cases pk with
   | false => exact ⟨0, a, ha, har⟩
   | true =>
    have : ∃ i ∈ L, D i ≠ .qt := by
     cases M with
     | reg hD h =>
      obtain ⟨i, hi, h1⟩ := sumL_pos h
      exact ⟨i, hi, fun e => by rw [e] at h1; simp [WS.cnt] at h1⟩
     | lst1 j hj hx ho => exact ⟨j, hj, fun e => by rcases hx with h | h <;> rw [e] at h <;> cases h⟩
     | lst0 j hj hx ho => exact ⟨j, hj, fun e => by rw [e] at hx; cases hx⟩
    obtain ⟨i, hi, hne⟩ := this
    obtain ⟨g, hg, hW⟩ := C.wk i hi
    exact ⟨i, g, hg, hW.runs C hne⟩
  have haw : ∀ g ∈ gs, awake g := C.fr.awake ha (by cases pk <;> simp [rec', har])
  obtain ⟨i, g, d', sl', hi, hg, hst⟩ := crowd_pick (P := P) (w := w) (sl := sl) haw hsome
  have Cd := C.at d'
  by_cases e : i = 0
  ·subst e
   have : pk = false := by
    cases pk with
    | false => rfl
    | true => rw [ha] at hi; obtain rfl := Option.some.inj hi; simp [rec'] at hg
   subst this
   exact ⟨0, gs, w, sl, sl', d', T, q, D, f, x, y, rfl, hst, ha, Cd, M, by omega, fun h => by cases h⟩
  ·by_cases hL : i ∈ L
   ·obtain ⟨gs', ops, w', D', f', x', y', pk', r1, r2, r3, r4, r5, r6, r7⟩ := Cd.wstep (sl := sl') M hL hi hg ha har hao
    obtain ⟨N, gs'', w'', s1, s2, d2, T'', q'', D'', f'', x'', y'', t1, t2, t3, t4, t5, t6, t7⟩ := ih (sumTo gs'.size q + sumL f' L) (by rw [r2]; omega) _ gs' w' q D' f' x' y' pk' sl' r5 r6 r3 (fun h => hao (r4 h)) rfl
    refine ⟨1 + N, gs'', w'', s1, s2, d2, T'', q'', D'', f'', x'', y'', runNT_then (runNT_succ_of (N := 0) rfl (hst.trans r1)) t1, t2, t3, t4, t5, ?_, fun _ => ?_⟩
    ·rw [r2] at t6; omega
    ·rw [r2] at t6; omega
   ·obtain ⟨gs', ops, q', d₂, hrt, hsz', hmain, hJ', hops, _, _, C', hlt⟩ := Cd.fr.by_step0 (sl := sl') hi e hL hg (fun s _ _ gx c hgx _ => by rw [ha] at hgx; obtain rfl := Option.some.inj hgx; exact offers_main har hao c true)
    obtain ⟨pk', hp1, hp2⟩ : ∃ pk' : Bool, gs'[0]? = some (rec' pk' a) ∧ (pk' = true → pk = true) := by
     rcases hmain _ ha with h | ⟨w', _, h⟩
     ·exact ⟨pk, h, id⟩
     ·exact ⟨false, by rw [h, rec_again har hao]; rfl, fun z => by cases z⟩
    have M' : Md L D tag x y pk' := by
     cases pk' with
     | false => exact M.wake
     | true => have := hp2 rfl; subst this; exact M
    have C2 : CI P σ L G c N0 w₀ δ (T ++ ops) gs' ((w.at d').at d₂) q' D f x y :=
     ⟨C', C.ok, C.nd, C.len, fun j hj => by
      obtain ⟨gj, h1, h2⟩ := C.wk j hj
      exact ⟨gj, by rw [hJ' j hj]; exact h1, h2.other hops (fun z => hL (z ▸ hj))⟩, C.shut, C.cw, C.loose, C.wg.at d₂, C.shs, C.shm⟩
    obtain ⟨N, gs'', w'', s1, s2, d2, T'', q'', D'', f'', x'', y'', t1, t2, t3, t4, t5, t6, t7⟩ := ih (sumTo gs'.size q' + sumL f L) (by rw [hsz']; omega) _ gs' _ q' D f x y pk' sl' C2 M' hp1 (fun h => hao (hp2 h)) rfl
    refine ⟨1 + N, gs'', w'', s1, s2, d2, T'', q'', D'', f'', x'', y'', runNT_then (runNT_succ_of (N := 0) rfl (hst.trans hrt)) t1, t2, t3, t4, t5, ?_, fun _ => ?_⟩
    ·rw [hsz'] at t6; omega
    ·rw [hsz'] at t6; omega
def EvM (G : Grp) (e : Event) : Prop := (∃ m, e = evm m ∧ (MemAct.ofEvent e).touch? = none ∧ (∀ ad, m ≠ .release ad) ∧ ∀ B, G.blk < B → (MemAct.ofEvent e).low B) ∨ e = evm (.write G.sm) ∨ e = ar G.st ∨ e = aw G.st ∨ e = ar G.sm ∨ e = aw G.sm
theorem CI.ownOk (C : CI P σ L G c N0 w₀ δ T gs w q D f x y) {es : Array Event} (hw' : WG G w₀ x' y' w') (hes : ∀ e ∈ es, EvM G e) : OwnOk σ w w' es := by
 have hsz : w'.heap.size = w.heap.size := by rw [hw'.size, C.wg.size]
 refine ⟨by omega, fun r o h1 h2 => C.wg.chan2 hw' h1 h2, fun i s p e hp h1 => by rw [C.wg.cell2 hw' (C.mem_ne e hp).1 (C.mem_ne e hp).2]; exact h1, fun e he => ?_⟩
 have hb : G.blk < w'.heap.size := by rw [hsz]; exact C.st_lt
 have hrs : ∀ i, ¬ σ.rd i (.cell G.st) := fun i ⟨s, e, h⟩ => C.fr.msh i s _ e h C.shs
 have hrm : ∀ i, ¬ σ.rd i (.cell G.sm) := fun i ⟨s, e, h⟩ => C.fr.msh i s _ e h C.shm
 rcases hes e he with ⟨m, rfl, h1, h2, h3⟩ | rfl | rfl | rfl | rfl | rfl
 ·exact ⟨fun b hb' => (by rw [h1] at hb'; cases hb'), fun ad ea => absurd (MemAct.mark.inj ea) (h2 ad), h3 _ hb⟩
 ·refine ⟨fun b hb' => ?_, (fun ad ea => by cases ea), hb⟩
  simp only [MemAct.ofEvent, MemAct.touch?, Option.some.injEq] at hb'
  subst hb'; exact ⟨fun _ => hrm, fun _ => by simp⟩
 ·refine ⟨fun b hb' => ?_, (fun ad ea => by cases ea), hb⟩
  simp only [MemAct.ofEvent, MemAct.touch?, Option.some.injEq] at hb'
  subst hb'; exact ⟨fun _ => hrs, fun _ => by simp⟩
 ·refine ⟨fun b hb' => ?_, (fun ad ea => by cases ea), hb⟩
  simp only [MemAct.ofEvent, MemAct.touch?, Option.some.injEq] at hb'
  subst hb'; exact ⟨fun _ => hrs, fun _ => by simp⟩
 ·refine ⟨fun b hb' => ?_, (fun ad ea => by cases ea), hb⟩
  simp only [MemAct.ofEvent, MemAct.touch?, Option.some.injEq] at hb'
  subst hb'; exact ⟨fun _ => hrm, fun _ => by simp⟩
 ·refine ⟨fun b hb' => ?_, (fun ad ea => by cases ea), hb⟩
  simp only [MemAct.ofEvent, MemAct.touch?, Option.some.injEq] at hb'
  subst hb'; exact ⟨fun _ => hrm, fun _ => by simp⟩
theorem CI.main (C : CI P σ L G c N0 w₀ δ T gs w q D f x y) {a a' : Goroutine} {es : Array Event} {sl : Option (Nat × Nat)} (ha : gs[0]? = some a) (hgo : stepG P true a w = .go a' w' es) (hw' : WG G w₀ x' y' w') (hes : ∀ e ∈ es, EvM G e) :
  ∃ (gs' : Array Goroutine) (ops : Array MemOp), runT P (crowd gs w sl) 0 = (.next (crowd gs' w' sl), ops) ∧ gs'.size = gs.size ∧ gs'[0]? = some a' ∧ CI P σ L G c N0 w₀ (deafBehind δ es) (T ++ ops) gs' w' q D f x' y' := by
 have hlt : 0 < gs.size := (Array.getElem?_eq_some_iff.1 ha).1
 have ho := C.ownOk hw' hes
 obtain ⟨C', ha'⟩ := C.fr.own (a := a) (a' := a') (fn := a.frame.fn) (pos := a.frame.place) hlt ho
 have hops : ∀ op ∈ MemOp.ofEvents 0 a.frame.fn a.frame.place es, op.g = 0 := fun op hop => by obtain ⟨e, _, rfl⟩ := Conc.mem_ofEvents hop; rfl
 refine ⟨_, _, runT_crowd_go (P := P) (sl := sl) ha (by simpa using hgo), by simp, ha', C', C.ok, C.nd, C.len, fun j hj => ?_, ?_, fun j s hj e => ?_, C.loose, hw', C.shs, C.shm⟩
 ·obtain ⟨gj, h1, h2⟩ := C.wk j hj
  have hj0 : j ≠ 0 := fun e => C.fr.jh (e ▸ hj)
  refine ⟨gj, ?_, h2.other hops (fun z => hj0 z.symm)⟩
  rw [Array.getElem?_setIfInBounds_ne (fun z => hj0 z.symm), Array.getElem?_map, h1]
  simp [woken_of_again (again_running w' (C.fr.jrun j gj hj h1))]
 ·obtain ⟨k, hk⟩ := C.shut; exact ⟨k, ho.chans _ _ hk rfl⟩
 ·obtain ⟨cw, z0, z1, k, h1, h2⟩ := C.cw j s hj e; exact ⟨cw, z0, z1, k, h1, ho.chans _ _ h2 rfl⟩
def Gh.joined (σ : Gh) (L : List Nat) : Gh := { n := σ.n, seats := fun i => if i ∈ L then none else σ.seats i, sh := σ.sh, bot := σ.bot }
def tagδ : MS → Nat
 | .dis _ | .acq => 0
 | _ => 1
def Joined (P : Program) (σ : Gh) (L : List Nat) (G : Grp) (w₀ : World) (Fin : Goroutine → Prop) (m : Machine) (T : Trace) : Prop :=
 ∃ (N : Nat) (gs' : Array Goroutine) (w' : World) (sl' : Option (Nat × Nat)) (T' : Trace) (q' : Nat → Nat) (a' : Goroutine), runNT P N m T = (.next (crowd gs' w' sl'), T') ∧ gs'[0]? = some a' ∧ Fin a' ∧ Fr P (σ.joined L) (fun _ => False) 0 0 T' gs' w' q' ∧ WG G w₀ (stV 0 0) (smV 0) w'
theorem Joined.of {Fin : Goroutine → Prop} {N : Nat} {m m' : Machine} {T T' : Trace} (h : runNT P N m T = (.next m', T')) (k : Joined P σ L G w₀ Fin m' T') : Joined P σ L G w₀ Fin m T := by
 obtain ⟨N', gs', w', sl', T'', q', a', h1, h2⟩ := k
 exact ⟨N + N', gs', w', sl', T'', q', a', runNT_then h h1, h2⟩
theorem all_qt (h0 : V L D = 0) (hD : ∀ i ∈ L, (D i).opn) : ∀ i ∈ L, D i = .qt := fun i hi => cnt0_qt (hD i hi) (sumL_zero h0 i hi)
def early : MS → Bool
 | .dis _ | .head _ | .cas _ => true
 | _ => false
theorem Md.opn_inv {tag : MS} (M : Md L D tag x y pk) (ht : early tag = true) : tagOpen (V L D) tag ∧ (∀ i ∈ L, (D i).opn) ∧ x = stV (V L D) 0 ∧ y = smV 0 := by
 cases M with
 | opn ht hD => exact ⟨ht, hD, rfl, rfl⟩
 | reg => cases ht
 | lst1 => cases ht
 | lst0 => cases ht
 | sema => cases ht
 | fin h => rcases h with rfl | rfl | rfl <;> cases ht
theorem Md.fin_inv {tag : MS} (M : Md L D tag x y pk) (ht : tag = .last ∨ tag = .ena ∨ tag = .acq) : (∀ i ∈ L, D i = .qt) ∧ x = stV 0 0 ∧ y = smV 0 := by
 cases M with
 | opn h hD => rcases ht with rfl | rfl | rfl <;> exact h.elim
 | reg => rcases ht with h | h | h <;> cases h
 | lst1 => rcases ht with h | h | h <;> cases h
 | lst0 => rcases ht with h | h | h <;> cases h
 | sema => rcases ht with h | h | h <;> cases h
 | fin _ ho => exact ⟨ho, rfl, rfl⟩
theorem ev1 {e : Event} (h : EvM G e) : ∀ z ∈ #[e], EvM G z := fun z hz => by
 simp only [List.mem_toArray, List.mem_cons, List.not_mem_nil, or_false] at hz
 subst hz; exact h
theorem ev_dis : EvM G (evm .disable) := .inl ⟨_, rfl, rfl, fun _ => by simp, fun _ _ => trivial⟩
theorem ev_ena : EvM G (evm .enable) := .inl ⟨_, rfl, rfl, fun _ => by simp, fun _ _ => trivial⟩
theorem ev_acq : EvM G (evm (.acquire G.st)) := .inl ⟨_, rfl, rfl, fun _ => by simp, fun _ h => h⟩
theorem join_runs {Fin : Goroutine → Prop} {tag : MS} {a : Goroutine} (hm : MW P G Fin tag a) : ∀ (T : Trace) (gs : Array Goroutine) (w : World) (q : Nat → Nat) (D : Nat → WS) (f : Nat → Nat) (x y : Value) (sl : Option (Nat × Nat)),
  CI P σ L G c N0 w₀ (tagδ tag) T gs w q D f x y → Md L D tag x y false → gs[0]? = some a → Joined P σ L G w₀ Fin (crowd gs w sl) T := by
 induction hm with
 | @mute tag g g' hs h k ih =>
  intro T gs w q D f x y sl C M ha
  obtain ⟨N, gs1, w1, s1, s2, d, T1, q1, D1, f1, x1, y1, t1, t2, t3, t4, t5, _, _⟩ := CI.turn hs _ T gs w q D f x y false sl C M ha (fun z => by cases z) rfl
  obtain ⟨gs2, ops, r1, _, r3, r4⟩ := t4.main (sl := s2) t3 (h _ t4.wg.gs) t4.wg (fun e he => by simp at he)
  exact Joined.of (runNT_succ_of t1 (t2.trans r1)) (ih _ gs2 _ q1 D1 f1 x1 y1 s2 r4 t5 r3)
 | @dis c' g g' hs h k ih =>
  intro T gs w q D f x y sl C M ha
  obtain ⟨N, gs1, w1, s1, s2, d, T1, q1, D1, f1, x1, y1, t1, t2, t3, t4, t5, _, _⟩ := CI.turn hs _ T gs w q D f x y false sl C M ha (fun z => by cases z) rfl
  obtain ⟨gs2, ops, r1, _, r3, r4⟩ := t4.main (sl := s2) t3 (h _) t4.wg (ev1 ev_dis)
  obtain ⟨h1, h2, rfl, rfl⟩ := t5.opn_inv rfl
  exact Joined.of (runNT_succ_of t1 (t2.trans r1)) (ih _ gs2 _ q1 D1 f1 _ _ s2 r4 (.opn h1 h2) r3)
 | @load c' g fv hs h k0 k ih0 ih =>
  intro T gs w q D f x y sl C M ha
  obtain ⟨N, gs1, w1, s1, s2, d, T1, q1, D1, f1, x1, y1, t1, t2, t3, t4, t5, _, _⟩ := CI.turn hs _ T gs w q D f x y false sl C M ha (fun z => by cases z) rfl
  obtain ⟨h1, h2, rfl, rfl⟩ := t5.opn_inv rfl
  obtain ⟨gs2, ops, r1, _, r3, r4⟩ := t4.main (sl := s2) t3 (h _ (V L D1) h1 (t4.wg.cst t4.ok)) t4.wg (ev1 (.inr (.inr (.inl rfl))))
  by_cases h0 : V L D1 = 0
  ·rw [h0] at r3 r4
   exact Joined.of (runNT_succ_of t1 (t2.trans r1)) (ih0 _ gs2 _ q1 D1 f1 _ _ s2 r4 (.fin (.inr (.inl rfl)) (all_qt h0 h2)) r3)
  ·exact Joined.of (runNT_succ_of t1 (t2.trans r1)) (ih (V L D1) (by omega) h1 _ gs2 _ q1 D1 f1 _ _ s2 r4 (.opn ⟨Nat.le_refl _, by omega⟩ h2) r3)
 | @cas v g g1 g2 hs h1 h2 k1 k2 ih1 ih2 =>
  intro T gs w q D f x y sl C M ha
  obtain ⟨N, gs1, w1, s1, s2, d, T1, q1, D1, f1, x1, y1, t1, t2, t3, t4, t5, _, _⟩ := CI.turn hs _ T gs w q D f x y false sl C M ha (fun z => by cases z) rfl
  obtain ⟨e1, e2, rfl, rfl⟩ := t5.opn_inv rfl
  obtain ⟨hle, hv1⟩ := e1
  by_cases hv : V L D1 = v
  ·have hc : (w1.at d).cell? G.st = some (stV v 0) := by rw [← hv]; exact t4.wg.cst t4.ok
   obtain ⟨gs2, ops, r1, _, r3, r4⟩ := t4.main (sl := s2) t3 (h1 _ hc t4.wg.fst) (t4.wg.setSt t4.ok (stV v 1)) (fun e he => by
    simp only [List.mem_toArray, List.mem_cons, List.not_mem_nil, or_false] at he
    rcases he with rfl | rfl
    ·exact .inr (.inr (.inl rfl))
    ·exact .inr (.inr (.inr (.inl rfl))))
   refine Joined.of (runNT_succ_of t1 (t2.trans r1)) (ih1 _ gs2 _ q1 D1 f1 _ _ s2 r4 ?_ r3)
   rw [← hv]; exact .reg e2 (by omega)
  ·obtain ⟨gs2, ops, r1, _, r3, r4⟩ := t4.main (sl := s2) t3 (h2 _ (V L D1) (by omega) (t4.wg.cst t4.ok) t4.wg.fst) t4.wg (ev1 (.inr (.inr (.inl rfl))))
   exact Joined.of (runNT_succ_of t1 (t2.trans r1)) (ih2 _ gs2 _ q1 D1 f1 _ _ s2 r4 (.opn (show _ ≤ _ by omega) e2) r3)
 | @said g g' hs h k ih =>
  intro T gs w q D f x y sl C M ha
  obtain ⟨N, gs1, w1, s1, s2, d, T1, q1, D1, f1, x1, y1, t1, t2, t3, t4, t5, _, _⟩ := CI.turn hs _ T gs w q D f x y false sl C M ha (fun z => by cases z) rfl
  obtain ⟨gs2, ops, r1, _, r3, r4⟩ := t4.main (sl := s2) t3 (h _) t4.wg (ev1 (.inr (.inl rfl)))
  exact Joined.of (runNT_succ_of t1 (t2.trans r1)) (ih _ gs2 _ q1 D1 f1 x1 y1 s2 r4 t5 r3)
 | @sem g g' hs ho h0 h1 k ih =>
  have key : ∀ (F : Nat) (T : Trace) (gs : Array Goroutine) (w : World) (q : Nat → Nat) (D : Nat → WS) (f : Nat → Nat) (x y : Value) (pk : Bool) (sl : Option (Nat × Nat)),
    CI P σ L G c N0 w₀ 1 T gs w q D f x y → Md L D .reg x y pk → gs[0]? = some (rec' pk g) → sumTo gs.size q + sumL f L + (if pk then 0 else 1) = F → Joined P σ L G w₀ Fin (crowd gs w sl) T := by
   intro F
   induction F using Nat.strongRecOn with
   | _ F ihF =>
    intro T gs w q D f x y pk sl C M ha hF
    obtain ⟨N, gs1, w1, s1, s2, d, T1, q1, D1, f1, x1, y1, t1, t2, t3, t4, t5, t6, t7⟩ := CI.turn hs _ T gs w q D f x y pk sl C M ha (fun _ => ho) rfl
    have block : y1 = smV 0 → Md L D1 .reg x1 y1 true → Joined P σ L G w₀ Fin (crowd gs w sl) T := fun hy hM => by
     have hsm : (w1.at d).cell? G.sm = some (smV 0) := by rw [← hy]; exact t4.wg.csm t4.ok
     obtain ⟨gs2, ops, r1, r2, r3, r4⟩ := t4.main (sl := s2) t3 (h0 _ hsm) t4.wg (fun e he => by simp at he)
     refine Joined.of (runNT_succ_of t1 (t2.trans r1)) (ihF (sumTo gs2.size q1 + sumL f1 L + 0) ?_ _ gs2 _ q1 D1 f1 x1 y1 true s2 r4 hM r3 rfl)
     rw [r2]
     cases pk with
     | false => simp at hF; omega
     | true => have := t7 rfl; simp at hF; omega
    cases t5 with
    | opn ht => exact ht.elim
    | reg hD hV => exact block rfl (.reg hD hV)
    | lst1 j hj hx ho => exact block rfl (.lst1 j hj hx ho)
    | lst0 j hj hx ho => exact block rfl (.lst0 j hj hx ho)
    | sema hq =>
     obtain ⟨gs2, ops, r1, r2, r3, r4⟩ := t4.main (sl := s2) t3 (h1 _ (t4.wg.csm t4.ok) t4.wg.fsm) (t4.wg.setSm t4.ok (smV 0)) (fun e he => by
      simp only [semEvents, List.mem_toArray, List.mem_cons, List.not_mem_nil, or_false] at he
      rcases he with rfl | rfl | rfl | rfl
      ·exact ev_dis
      ·exact .inr (.inr (.inr (.inr (.inl rfl))))
      ·exact .inr (.inr (.inr (.inr (.inr rfl))))
      ·exact ev_ena)
     exact Joined.of (runNT_succ_of t1 (t2.trans r1)) (ih _ gs2 _ q1 D1 f1 _ _ s2 r4 (.fin (.inl rfl) hq) r3)
    | fin h => rcases h with h | h | h <;> cases h
  intro T gs w q D f x y sl C M ha
  exact key _ T gs w q D f x y false sl C M ha rfl
 | @last g g' hs h k ih =>
  intro T gs w q D f x y sl C M ha
  obtain ⟨N, gs1, w1, s1, s2, d, T1, q1, D1, f1, x1, y1, t1, t2, t3, t4, t5, _, _⟩ := CI.turn hs _ T gs w q D f x y false sl C M ha (fun z => by cases z) rfl
  obtain ⟨e1, rfl, rfl⟩ := t5.fin_inv (.inl rfl)
  obtain ⟨gs2, ops, r1, _, r3, r4⟩ := t4.main (sl := s2) t3 (h _ (t4.wg.cst t4.ok)) t4.wg (ev1 (.inr (.inr (.inl rfl))))
  exact Joined.of (runNT_succ_of t1 (t2.trans r1)) (ih _ gs2 _ q1 D1 f1 _ _ s2 r4 (.fin (.inr (.inl rfl)) e1) r3)
 | @ena g g' hs h k ih =>
  intro T gs w q D f x y sl C M ha
  obtain ⟨N, gs1, w1, s1, s2, d, T1, q1, D1, f1, x1, y1, t1, t2, t3, t4, t5, _, _⟩ := CI.turn hs _ T gs w q D f x y false sl C M ha (fun z => by cases z) rfl
  obtain ⟨e1, rfl, rfl⟩ := t5.fin_inv (.inr (.inl rfl))
  obtain ⟨gs2, ops, r1, _, r3, r4⟩ := t4.main (sl := s2) t3 (h _) t4.wg (ev1 ev_ena)
  exact Joined.of (runNT_succ_of t1 (t2.trans r1)) (ih _ gs2 _ q1 D1 f1 _ _ s2 r4 (.fin (.inr (.inr rfl)) e1) r3)
 | @acq g g' hs h k =>
  intro T gs w q D f x y sl C M ha
  obtain ⟨N, gs1, w1, s1, s2, d, T1, q1, D1, f1, x1, y1, t1, t2, t3, t4, t5, _, _⟩ := CI.turn hs _ T gs w q D f x y false sl C M ha (fun z => by cases z) rfl
  obtain ⟨e1, rfl, rfl⟩ := t5.fin_inv (.inr (.inr rfl))
  obtain ⟨gs2, ops, r1, r2, r3, r4⟩ := t4.main (sl := s2) t3 (h _) t4.wg (ev1 ev_acq)
  have hops : ops = #[{ g := 0, fn := g.frame.fn, pos := g.frame.place, act := .mark (.acquire G.st) }] := by
   have := runT_crowd_go (P := P) (sl := s2) t3 (show stepG P (0 == 0) g (w1.at d) = _ from h _)
   rw [r1] at this
   rw [(Prod.mk.inj this).2, ofEvents_eq]
   simp [MemAct.ofEvent]
  refine Joined.of (runNT_succ_of t1 (t2.trans r1)) ⟨0, gs2, _, s2, _, fun i => if i ∈ L then f1 i else q1 i, g', rfl, r3, k, ?_, r4.wg⟩
  have F := r4.fr
  have hpx := t4.fr.px.acquire (I := fun i => i ∈ L) (op := { g := 0, fn := g.frame.fn, pos := g.frame.place, act := .mark (.acquire G.st) }) t4.fr.deaf rfl rfl t4.shs t4.st_lt (fun i hi => by
   obtain ⟨gi, _, hW⟩ := t4.wk i hi
   rw [e1 i hi] at hW
   exact hW.2)
  rw [← hops] at hpx
  have hjs : ∀ i s, (σ.joined L).seats i = some s → σ.seats i = some s ∧ i ∉ L := fun i s e => by
   simp only [Gh.joined] at e
   split at e
   ·cases e
   ·exact ⟨e, by assumption⟩
  refine ⟨F.cnt, fun i v hi _ hv => ?_, fun _ _ z => z.elim, fun z => z, ?_, fun i s e => F.wf i s (hjs i s e).1, fun i s e => F.there i s (hjs i s e).1, fun i s c' _ e hc => F.chans i s c' (hjs i s e).2 (hjs i s e).1 hc, fun i s e => F.mem i s (hjs i s e).1, fun i s l e hl => F.msh i s l (hjs i s e).1 hl, F.above, fun i _ hl => ?_, F.deaf, ?_⟩
  ·by_cases hL : i ∈ L
   ·obtain ⟨gi, h1, hW⟩ := r4.wk i hL
    rw [e1 i hL] at hW
    rw [h1] at hv
    obtain rfl := Option.some.inj hv
    simp only [Gh.joined, hL, if_true]
    exact ⟨Nat.pos_of_ne_zero hi, hW.1⟩
   ·simp only [Gh.joined, hL, if_false]
    exact F.idle i v hi hL hv
  ·simp only [Gh.joined]
   split
   ·rfl
   ·exact F.hole
  ·unfold Gh.lo at hl
   obtain ⟨s, hs'⟩ := Option.isSome_iff_exists.1 hl
   have := hjs i s hs'
   exact F.hear i this.2 (by unfold Gh.lo; rw [this.1]; rfl)
  ·refine hpx.conv (fun i => ?_) fun i l hi => ?_
   ·unfold Gh.lo
    simp only [Gh.joined]
    by_cases hL : i ∈ L <;> simp [hL]
   ·unfold Gh.rd
    simp only [Gh.joined, hi.2, if_false]
end
end Go.Sl
end
section
set_option linter.unusedVariables false
namespace Go.Sl
open Go.Conc
open Go.ConcN (sumTo upd sumTo_upd upd_ne upd_same)
section
variable {P : Program} {σ : Gh} {L : List Nat} {G : Grp} {c N0 : Nat} {T : Trace} {gs : Array Goroutine} {w : World} {q : Nat → Nat}
theorem V_app (L : List Nat) : V L (fun _ => .app) = L.length := by
 unfold V
 induction L with
 | nil => rfl
 | cons i l ih => simp only [sumL, List.length_cons, WS.cnt] at ih ⊢; omega
theorem set_same (a : Array Obj) (b : Nat) (o : Obj) (h : a[b]? = some o) : a.setIfInBounds b o = a := by
 apply Array.ext_getElem?
 intro i
 by_cases e : i = b
 ·subst e
  rw [Array.getElem?_setIfInBounds_self_of_lt (Array.getElem?_eq_some_iff.1 h).1, h]
 ·rw [Array.getElem?_setIfInBounds_ne (Ne.symm e)]
theorem row_same {G : Grp} (ok : G.Ok) {x y : Value} (h1 : G.cs[G.o1]? = some x) (h2 : G.cs[G.o2]? = some y) : G.row x y = G.cs := by
 apply Array.ext_getElem?
 intro i
 by_cases e2 : i = G.o2
 ·subst e2; rw [row2 ok, h2]
 ·by_cases e1 : i = G.o1
  ·subst e1; rw [row1 ok, h1]
  ·rw [row_ne e1 e2]
theorem close_ops {σ : Gh} {w w' : World} {c : Nat} (hc : c < w'.heap.size) (hsz : w.heap.size ≤ w'.heap.size) : ∀ e ∈ closeEvents c, (∀ b, (MemAct.ofEvent e).touch? = some b → (b.write = true → ∀ i, ¬ σ.rd i b.loc) ∧ (σ.sh b.loc → b.kind ≠ .plain)) ∧ (∀ ad, MemAct.ofEvent e = .mark (.release ad) → ¬ σ.sh (.cell ad)) ∧ (MemAct.ofEvent e).low w'.heap.size := by
 intro e he
 simp only [closeEvents, List.mem_toArray, List.mem_cons, List.not_mem_nil, or_false] at he
 rcases he with rfl | rfl
 ·refine ⟨fun b hb => ?_, (fun ad ea => by cases ea), hc⟩
  simp only [MemAct.ofEvent, MemAct.touch?, Option.some.injEq] at hb
  subst hb; exact ⟨fun h => by simp at h, fun _ => by simp⟩
 ·exact ⟨fun b hb => (by simp [MemAct.ofEvent, MemAct.touch?] at hb), (fun ad ea => by cases ea), hc⟩
theorem Fr.shut {Fin : Goroutine → Prop} (C : Fr P σ (fun _ => False) 0 0 T gs w q) {a a' : Goroutine} {sl : Option (Nat × Nat)} (ha : gs[0]? = some a) (hrun : a.status = .running) {k : Nat} (hc : w.heap[c]? = some (.chan 0 #[] false k k false))
  (hclose : ∀ d, stepG P true a (w.at d) = .go a' ((w.at d).setChan c 0 #[] true k k false) (closeEvents c)) (hwake : mayWake P a = true) (ha' : a'.status = .running)
  (nd : L.Nodup) (len : L.length ≤ 4) (hL : ∀ i ∈ L, ∃ s cw z0 z1, σ.seats i = some s ∧ s.cases = #[rcase cw z0, rcase c z1] ∧ cw ≠ c ∧ ∀ r, s.recs r → Cl P G N0 .rel (Conc.served r (commResult s.cases s.shape 1 z1 false)))
  (honly : ∀ i s, σ.seats i = some s → s.has c → i ∈ L) (ok : G.Ok) (hb : w.heap[G.blk]? = some (.cells G.cs G.ty (0, 0))) (h1 : G.cs[G.o1]? = some (stV L.length 0)) (h2 : G.cs[G.o2]? = some (smV 0)) (shs : σ.sh (.cell G.st)) (shm : σ.sh (.cell G.sm))
  (hm : MW P G Fin (.dis L.length) a') : Joined P σ L G (w.setChan c 0 #[] true k k false) Fin (crowd gs w sl) T := by
 obtain ⟨N, gs1, d, d', sl1, sl2, T1, q1, t1, t2, t3, t4, C1⟩ := C.picked (sl := sl) ha hrun
 have hlt : 0 < gs1.size := (Array.getElem?_eq_some_iff.1 t4).1
 have hgo : stepG P (0 == 0) a (w.at d') = .go a' ((w.at d').setChan c 0 #[] true k k false) (closeEvents c) := hclose d'
 have hrt := runT_crowd_go (P := P) (sl := sl2) t4 hgo
 refine Joined.of (runNT_succ_of t1 (t2.trans hrt)) ?_
 have hcd : (w.at d').heap[c]? = some (.chan 0 #[] false k k false) := hc
 have hclt : c < w.heap.size := (Array.getElem?_eq_some_iff.1 hc).1
 have hcl : ((w.at d').setChan c 0 #[] true k k false).heap[c]? = some (.chan 0 #[] true k k false) := heap_setChan_self _ hcd _ _ _ _ _ _
 have hops : ∀ op ∈ MemOp.ofEvents 0 a.frame.fn a.frame.place (closeEvents c), op.g = 0 := fun op hop => by obtain ⟨e, _, rfl⟩ := Conc.mem_ofEvents hop; rfl
 have hbc : G.blk ≠ c := fun e => by rw [e, hc] at hb; cases hb
 have hL0 : ∀ i ∈ L, i ≠ 0 := fun i hi e => by
  obtain ⟨s, _, _, _, hs, _⟩ := hL i hi
  rw [e, C.hole] at hs; cases hs
 have hcx : ∀ i s c', i ∉ L → σ.seats i = some s → s.has c' → c ≠ c' := fun i s c' hi hs hc' e => hi (honly i s hs (e ▸ hc'))
 have hw1 : (a'.status != .blocked) = true := by rw [ha']; rfl
 have hw2 : (a'.status != .waiting) = true := by rw [ha']; rfl
 have hwk : ∀ o : Goroutine, woken P a a' ((w.at d').setChan c 0 #[] true k k false) o = o.again ((w.at d').setChan c 0 #[] true k k false) := fun o => by
  unfold woken; rw [hwake, hw1, hw2]; rfl
 have hfix : ∀ i v, i ≠ 0 → i ∉ L → gs1[i]? = some v → v.again ((w.at d').setChan c 0 #[] true k k false) = v := fun i v hi hiL hv => by
  have hid := C1.idle i v hi (fun z => z) hv
  cases e : σ.seats i with
  | none => rw [e] at hid; exact again_running _ hid.2.status
  | some s =>
   rw [e] at hid
   rcases hid with ⟨k', hq, hg⟩ | ⟨_, g₀, rr, rfl, _⟩
   ·exact again_running _ (.inl (Way.running ⟨_, C1.mem i s e⟩ hg))
   ·refine again_all_open fun cc hcc => ?_
    obtain ⟨c', z, rfl⟩ := (C1.wf i s e).recvs cc hcc
    have hsc := SeatD.has_of_mem hcc
    obtain ⟨k', hk'⟩ := C1.chans i s c' (fun z => z) e hsc
    exact ⟨c', z, 0, _, k', k', _, rfl, by rw [heap_setChan_ne _ _ _ _ _ _ _ (hcx i s c' hiL e hsc)]; exact hk'⟩
 have hget : ∀ i, i ≠ 0 → ((gs1.map (woken P a a' ((w.at d').setChan c 0 #[] true k k false))).setIfInBounds 0 a')[i]? = (gs1[i]?).map (fun o => o.again ((w.at d').setChan c 0 #[] true k k false)) := fun i hi => by
  rw [Array.getElem?_setIfInBounds_ne (Ne.symm hi), Array.getElem?_map]
  cases gs1[i]? with
  | none => rfl
  | some v => simp [hwk]
 have hmemb : ∀ i ∈ L, ∃ s cw z0 z1 v kk, σ.seats i = some s ∧ s.cases = #[rcase cw z0, rcase c z1] ∧ cw ≠ c ∧ (∀ r, s.recs r → Cl P G N0 .rel (Conc.served r (commResult s.cases s.shape 1 z1 false))) ∧
   ((gs1.map (woken P a a' ((w.at d').setChan c 0 #[] true k k false))).setIfInBounds 0 a')[i]? = some v ∧ Way P false s kk v ∧ kk ≤ q1 i := fun i hi => by
  obtain ⟨s, cw, z0, z1, hs, hcs, hne, hcl'⟩ := hL i hi
  obtain ⟨v, hv⟩ : ∃ v, gs1[i]? = some v := ⟨gs1[i]'(by have := C1.there i s hs; omega), Array.getElem?_eq_getElem _⟩
  have hid := C1.idle i v (hL0 i hi) (fun z => z) hv
  rw [hs] at hid
  have hib : (i == 0) = false := by rw [beq_eq_false_iff_ne]; exact hL0 i hi
  have hg := hget i (hL0 i hi)
  rw [hv] at hg
  rcases hid with ⟨k', hq, hw⟩ | ⟨hq, g₀, rr, rfl, hat⟩
  ·rw [hib] at hw
   exact ⟨s, cw, z0, z1, v, k', hs, hcs, hne, hcl', by rw [hg]; simp [again_running _ (.inl (Way.running ⟨_, C1.mem i s hs⟩ hw))], hw, by omega⟩
  ·rw [hib] at hat
   refine ⟨s, cw, z0, z1, { parked rr s.cases s.shape with status := .running }, 0, hs, hcs, hne, hcl', ?_, hat.tries _ _, Nat.zero_le _⟩
   rw [hg]
   simp only [Option.map_some, Option.some.injEq]
   exact again_some_closed (k := 1) (by rw [hcs]; rfl) hcl
 have hmem : ∀ i s, σ.seats i = some s → s.K ((w.at d').setChan c 0 #[] true k k false) := fun i s e p hp => cell_setChan hcd (C1.mem i s e p hp) _ _ _ _ _ _
 have hfr : Fr P σ (· ∈ L) 0 0 (T1 ++ MemOp.ofEvents 0 a.frame.fn a.frame.place (closeEvents c)) ((gs1.map (woken P a a' ((w.at d').setChan c 0 #[] true k k false))).setIfInBounds 0 a') ((w.at d').setChan c 0 #[] true k k false) q1 := by
  refine ⟨by simpa using C1.cnt, fun i v hi hiL hv => ?_, fun i v hiL hv => ?_, fun z => hL0 0 z rfl, C.hole, C1.wf, fun i s e => by simpa using C1.there i s e, fun i s c' hiL e hc' => ?_, hmem, C1.msh, fun j hj => ?_, fun i hiL hl => ?_, ?_, ?_⟩
  ·rw [hget i hi] at hv
   obtain ⟨v0, hv0, rfl⟩ := Option.map_eq_some_iff.1 hv
   rw [hfix i v0 hi hiL hv0]
   have hid := C1.idle i v0 hi (fun z => z) hv0
   cases e : σ.seats i with
   | none => rw [e] at hid; exact ⟨hid.1, by rw [Deaf_other T1 (fun z => hi z.symm) _ hops]; exact hid.2⟩
   | some s => rw [e] at hid; exact hid
  ·obtain ⟨s, cw, z0, z1, v', kk, hs, _, _, _, hv', hw, _⟩ := hmemb i hiL
   rw [hv'] at hv
   obtain rfl := Option.some.inj hv
   exact .inl (Way.running ⟨_, hmem i s hs⟩ hw)
  ·obtain ⟨k', hk'⟩ := C1.chans i s c' (fun z => z) e hc'
   exact ⟨k', by rw [heap_setChan_ne _ _ _ _ _ _ _ (hcx i s c' hiL e hc')]; exact hk'⟩
  ·simp only [Array.size_setIfInBounds, Array.size_map] at hj
   rw [Deaf_other T1 (g' := 0) (by omega) _ hops]
   exact C1.above j hj
  ·have hi0 : i ≠ 0 := fun e => by subst e; unfold Gh.lo at hl; rw [C.hole] at hl; cases hl
   rw [Deaf_other T1 (fun z => hi0 z.symm) _ hops]
   exact C1.hear i (fun z => z) hl
  ·rw [Deaf_own, C1.deaf]; rfl
  ·have hev := close_ops (σ := σ) (w := w) (w' := (w.at d').setChan c 0 #[] true k k false) (c := c) (by rw [size_setChan]; exact hclt) (by rw [size_setChan]; exact Nat.le_refl _)
   refine C1.px.own hops (fun op hop b hb => ?_) (fun op hop ad ea => ?_) (by rw [size_setChan]; exact Nat.le_refl _) (fun op hop => ?_)
   ·obtain ⟨e, he, rfl⟩ := Conc.mem_ofEvents hop
    exact ⟨fun hw g _ => (((hev e he).1 b hb).1 hw g), ((hev e he).1 b hb).2⟩
   ·obtain ⟨e, he, rfl⟩ := Conc.mem_ofEvents hop
    exact (hev e he).2.1 ad ea
   ·obtain ⟨e, he, rfl⟩ := Conc.mem_ofEvents hop
    exact (hev e he).2.2
 have hself : ((gs1.map (woken P a a' ((w.at d').setChan c 0 #[] true k k false))).setIfInBounds 0 a')[0]? = some a' := Array.getElem?_setIfInBounds_self_of_lt (by simpa using hlt)
 have hfuel : ∃ f : Nat → Nat, ∀ i ∈ L, ∃ v, ((gs1.map (woken P a a' ((w.at d').setChan c 0 #[] true k k false))).setIfInBounds 0 a')[i]? = some v ∧ WOK P σ G c N0 (T1 ++ MemOp.ofEvents 0 a.frame.fn a.frame.place (closeEvents c)) i (f i) v .app := by
  refine ⟨fun i => q1 i + 1 + N0, fun i hi => ?_⟩
  obtain ⟨s, cw, z0, z1, v, kk, hs, hcs, _, hcl', hv, hw, hkk⟩ := hmemb i hi
  refine ⟨v, hv, s, cw, z0, z1, q1 i, hs, hcs, rfl, hw.mono hkk, ?_, hcl'⟩
  rw [Deaf_other T1 (fun z => hL0 i hi z.symm) _ hops]
  exact C1.hear i (fun z => z) (by unfold Gh.lo; rw [hs]; rfl)
 obtain ⟨f, hf⟩ := hfuel
 have hwg : WG G (w.setChan c 0 #[] true k k false) (stV L.length 0) (smV 0) ((w.at d').setChan c 0 #[] true k k false) := by
  have hb0 : (w.setChan c 0 #[] true k k false).heap[G.blk]? = some (.cells G.cs G.ty (0, 0)) := by rw [heap_setChan_ne _ _ _ _ _ _ _ (Ne.symm hbc)]; exact hb
  refine ⟨?_, rfl, rfl, hb0⟩
  rw [row_same ok h1 h2, set_same _ _ _ hb0]
  rfl
 refine join_runs hm _ _ _ q1 (fun _ => .app) f _ _ sl2 ⟨hfr, ok, nd, len, hf, ⟨k, hcl⟩, fun i s hi e => ?_, fun i hi => ?_, hwg, shs, shm⟩ ?_ hself
 ·obtain ⟨s', cw, z0, z1, _, _, hs, hcs, hne, _⟩ := hmemb i hi
  rw [e] at hs
  obtain rfl := Option.some.inj hs
  obtain ⟨k', hk'⟩ := C1.chans i s cw (fun z => z) e ⟨0, z0, by rw [hcs]; rfl⟩
  exact ⟨cw, z0, z1, k', hcs, by rw [heap_setChan_ne _ _ _ _ _ _ _ (Ne.symm hne)]; exact hk'⟩
 ·obtain ⟨s, _, _, _, hs, _⟩ := hL i hi
  unfold Gh.lo; rw [hs]; rfl
 ·have := Md.opn (L := L) (D := fun _ => .app) (tag := .dis L.length) (by rw [V_app]; exact Nat.le_refl _) (fun i _ => trivial)
  rwa [V_app] at this
end
structure Sm (w w₁ : World) : Prop where
 hp : w₁.heap = w.heap
 os : w₁.os = w.os
 out : w₁.output = w.output
theorem Sm.refl (w : World) : Sm w w := ⟨rfl, rfl, rfl⟩
theorem Sm.trans {a b c : World} (h : Sm a b) (k : Sm b c) : Sm a c := ⟨k.hp.trans h.hp, k.os.trans h.os, k.out.trans h.out⟩
theorem Sm.at {a b : World} (h : Sm a b) (d : Nat) : Sm a (b.at d) := h.trans ⟨rfl, rfl, rfl⟩
theorem Sm.cell {w w₁ : World} (h : Sm w w₁) (a : Addr) : w₁.cell? a = w.cell? a := by unfold World.cell?; rw [h.hp]
theorem Sm.setChan {w w₁ : World} (h : Sm w w₁) (c cap : Nat) (buf : Array Value) (cl : Bool) (s r : Nat) (tm : Bool) : Sm (w.setChan c cap buf cl s r tm) (w₁.setChan c cap buf cl s r tm) :=
 ⟨by simp only [World.setChan, h.hp], h.os, h.out⟩
theorem SeatOk.sm {σ : Gh} {s : SeatD} {w w₁ : World} (h : SeatOk σ s w) (e : Sm w w₁) : SeatOk σ s w₁ :=
 ⟨h.wf, fun c hc => by rw [e.hp]; exact h.chans c hc, fun p hp => by rw [e.cell]; exact h.mem p hp, h.msh⟩
inductive Run (P : Program) (Post : Value → World → Prop) : Gh → Nat → Nat → Goroutine → World → Prop
 | own {σ : Gh} {h δ : Nat} {g : Goroutine} {w : World} (g' : World → Goroutine) (w' : World → World) (es : World → Array Event) (hs : g.status = .running)
   (h1 : ∀ w₁, Sm w w₁ → stepG P (h == 0) g w₁ = .go (g' w₁) (w' w₁) (es w₁)) (h2 : ∀ w₁, Sm w w₁ → OwnOk σ w₁ (w' w₁) (es w₁)) (h3 : ∀ w₁, Sm w w₁ → Run P Post σ h (deafBehind δ (es w₁)) (g' w₁) (w' w₁)) : Run P Post σ h δ g w
 | hire {σ : Gh} {h : Nat} {g a' child : Goroutine} {w : World} (s : SeatD) (m : Nat) (es : Array Event) (hs : g.status = .running) (h1 : ∀ w₁, Sm w w₁ → stepG P (h == 0) g w₁ = .spawn a' child w₁ es) (h2 : ∀ w₁, Sm w w₁ → OwnOk σ w₁ w₁ es) (hd : deafBehind 0 es = 0)
   (hok : SeatOk σ s w) (hway : Way P false s m child) (h3 : Run P Post (σ.hired s) h 0 a' w) : Run P Post σ h 0 g w
 | give {σ : Gh} {h : Nat} {g a₂ : Goroutine} {w : World} (j c kk k m : Nat) (s sH : SeatD) (v z z' : Value) (es : Array Event) (hs : g.status = .running) (hj : σ.seats j = some s) (hk : s.cases[kk]? = some (rcase c z)) (honly : ∀ i s', σ.seats i = some s' → s'.has c → i = j)
   (h1 : ∀ w₁, Sm w w₁ → stepG P (h == 0) g w₁ = .comm a₂ #[scase c v z'] true .send w₁ es) (h2 : ∀ w₁, Sm w w₁ → OwnOk σ w₁ w₁ es) (hd : deafBehind 0 es = 0) (hc : w.heap[c]? = some (.chan 0 #[] false k k false)) (hok : SeatOk σ sH w) (hway : Way P (h == 0) sH m (Conc.served a₂ undef))
   (h3 : ∀ r, s.recs r → Run P Post (σ.given h j sH) j 0 (Conc.served r (commResult s.cases s.shape kk v true)) (w.setChan c 0 #[] false (k + 1) (k + 1) false)) : Run P Post σ h 0 g w
 | shut {σ : Gh} {g a' : Goroutine} {w : World} (L : List Nat) (G : Grp) (c k N0 : Nat) (Fin : Goroutine → Prop) (hs : g.status = .running) (hc : w.heap[c]? = some (.chan 0 #[] false k k false))
   (hclose : ∀ w₁, Sm w w₁ → stepG P true g w₁ = .go a' (w₁.setChan c 0 #[] true k k false) (closeEvents c)) (hwake : mayWake P g = true) (ha' : a'.status = .running)
   (nd : L.Nodup) (len : L.length ≤ 4) (hL : ∀ i ∈ L, ∃ s cw z0 z1, σ.seats i = some s ∧ s.cases = #[rcase cw z0, rcase c z1] ∧ cw ≠ c ∧ ∀ r, s.recs r → Cl P G N0 .rel (Conc.served r (commResult s.cases s.shape 1 z1 false)))
   (honly : ∀ i s, σ.seats i = some s → s.has c → i ∈ L) (ok : G.Ok) (hb : w.heap[G.blk]? = some (.cells G.cs G.ty (0, 0))) (e1 : G.cs[G.o1]? = some (stV L.length 0)) (e2 : G.cs[G.o2]? = some (smV 0)) (shs : σ.sh (.cell G.st)) (shm : σ.sh (.cell G.sm))
   (hm : MW P G Fin (.dis L.length) a') (h3 : ∀ a'' w'', Fin a'' → WG G (w.setChan c 0 #[] true k k false) (stV 0 0) (smV 0) w'' → Run P Post (σ.joined L) 0 0 a'' w'') : Run P Post σ 0 0 g w
 | shun {σ : Gh} {h δ : Nat} {g : Goroutine} {w : World} (sh' : Loc → Prop) (hsub : ∀ l, σ.sh l → sh' l) (hnew : ∀ l, sh' l → ¬ σ.sh l → ∃ a : Addr, l = .cell a ∧ w.heap.size ≤ a.block) (h3 : Run P Post { σ with sh := sh' } h δ g w) : Run P Post σ h δ g w
 | done {σ : Gh} {g : Goroutine} {w : World} (v : Value) (hs : g.status = .running) (h1 : ∀ w₁, Sm w w₁ → stepG P true g w₁ = .ended (.done v) w₁ #[]) (hn : ∀ i, σ.seats i = none) (hp : ∀ w₁, Sm w w₁ → Post v w₁) : Run P Post σ 0 0 g w
def Ends (P : Program) (Post : Value → World → Prop) (m : Machine) (T : Trace) : Prop :=
 ∃ N last o w' t', runNT P (N + 1) m T = (.ended o w', t') ∧ runN P N m = .next last ∧ step P last = .ended o w' ∧ Good P Post last o w' t'
theorem Ends.of {P : Program} {Post : Value → World → Prop} {N : Nat} {m m' : Machine} {T T' : Trace} (h : runNT P N m T = (.next m', T')) (k : Ends P Post m' T') : Ends P Post m T := by
 obtain ⟨N', last, o, w', t', e1, e2, e3, e4⟩ := k
 refine ⟨N + N', last, o, w', t', ?_, ?_, e3, e4⟩
 ·rw [Nat.add_assoc, runNT_add, h]; exact e1
 ·rw [runN_add, ← runNT_fst P N m T, h]; exact e2
theorem Run.ends {P : Program} {Post : Value → World → Prop} {σ : Gh} {h δ : Nat} {g : Goroutine} {w : World} (R : Run P Post σ h δ g w) :
  ∀ (w₁ : World) (gs : Array Goroutine) (sl : Option (Nat × Nat)) (T : Trace) (q : Nat → Nat), Sm w w₁ → Fr P σ (fun _ => False) h δ T gs w₁ q → gs[h]? = some g → Ends P Post (crowd gs w₁ sl) T := by
 induction R with
 | @own σ h δ g w g' w' es hs h1 h2 h3 ih =>
  intro w₁ gs sl T q hw C hg
  obtain ⟨N, gs1, d, d', sl1, sl2, T1, q1, t1, t2, t3, t4, C1⟩ := C.picked (sl := sl) hg hs
  have hw' := hw.at d'
  have hlt : h < gs1.size := (Array.getElem?_eq_some_iff.1 t4).1
  obtain ⟨C2, hg2⟩ := C1.own (a := g) (a' := g' (w₁.at d')) (fn := g.frame.fn) (pos := g.frame.place) hlt (h2 _ hw')
  exact Ends.of (runNT_succ_of t1 (t2.trans (runT_crowd_go (P := P) (sl := sl2) t4 (h1 _ hw')))) (ih _ hw' _ _ sl2 _ q1 (Sm.refl _) C2 hg2)
 | @hire σ h g a' child w s m es hs h1 h2 hd hok hway h3 ih =>
  intro w₁ gs sl T q hw C hg
  obtain ⟨N, gs1, d, d', sl1, sl2, T1, q1, t1, t2, t3, t4, C1⟩ := C.picked (sl := sl) hg hs
  have hw' := hw.at d'
  obtain ⟨gs2, ops, q2, r1, r2, C2⟩ := C1.hire (sl := sl2) t4 (h1 _ hw') (h2 _ hw') hd (hok.sm hw') hway
  exact Ends.of (runNT_succ_of t1 (t2.trans r1)) (ih _ gs2 sl2 _ q2 hw' C2 r2)
 | @give σ h g a₂ w j c kk k m s sH v z z' es hs hj hk honly h1 h2 hd hc hok hway h3 ih =>
  intro w₁ gs sl T q hw C hg
  obtain ⟨N, gs1, d, sl1, T1, q1, r1, ⟨r, hr, r2⟩, C1⟩ := C.give (sl := sl) hj hk honly hg hs (fun d => h1 _ (hw.at d)) (fun d => h2 _ (hw.at d)) hd (by rw [hw.hp]; exact hc) (hok.sm hw) hway
  exact Ends.of r1 (ih r hr _ gs1 sl1 _ q1 ((hw.at d).setChan _ _ _ _ _ _ _) C1 r2)
 | @shut σ g a' w L G c k N0 Fin hs hc hclose hwake ha' nd len hL honly ok hb e1 e2 shs shm hm h3 ih =>
  intro w₁ gs sl T q hw C hg
  obtain ⟨N, gs1, w', sl1, T1, q1, a'', r1, r2, r3, C1, hG⟩ := C.shut (sl := sl) (Fin := Fin) hg hs (by rw [hw.hp]; exact hc) (fun d => hclose _ (hw.at d)) hwake ha' nd len hL honly ok (by rw [hw.hp]; exact hb) e1 e2 shs shm hm
  have hw2 := hw.setChan c 0 #[] true k k false
  have hG' : WG G (w.setChan c 0 #[] true k k false) (stV 0 0) (smV 0) w' := ⟨by rw [hG.hp, hw2.hp], by rw [hG.os, hw2.os], by rw [hG.out, hw2.out], by rw [← hw2.hp]; exact hG.b0⟩
  exact Ends.of r1 (ih a'' w' r3 hG' w' gs1 sl1 _ q1 (Sm.refl _) C1 r2)
 | @shun σ h δ g w sh' hsub hnew h3 ih =>
  intro w₁ gs sl T q hw C hg
  refine ih w₁ gs sl T q hw ?_ hg
  refine ⟨C.cnt, C.idle, C.jrun, C.jh, C.hole, C.wf, C.there, C.chans, C.mem, fun i s l e hl hs => ?_, C.above, C.hear, C.deaf, C.px.shun hsub fun l h1 h2 => by rw [hw.hp]; exact hnew l h1 h2⟩
  by_cases h0 : σ.sh l
  ·exact C.msh i s l e hl h0
  ·obtain ⟨a, rfl, hb⟩ := hnew l hs h0
   obtain ⟨p, hp, ep⟩ := hl
   obtain rfl := Loc.cell.inj ep
   have := cell_lt (C.mem i s e p hp)
   rw [hw.hp] at this
   omega
 | @done σ g w v hs h1 hn hp =>
  intro w₁ gs sl T q hw C hg
  have hL : Leavers P T gs q := ⟨fun i x hi hx => by
   have := C.idle i x (by omega) (fun z => z) hx
   rw [hn i] at this
   exact this.2, C.above⟩
  have hP : Past σ.sh w₁.heap.size T := C.px.toPast C.deaf fun i hl => by unfold Gh.lo at hl; rw [hn i] at hl; cases hl
  exact beside_ends (D := fun _ _ _ => False) (Post := Post) (sl := sl) (n := 0) (fun _ _ _ h => h.elim) hg hL hP (fun w₂ h₂ => by
   obtain ⟨d, rfl⟩ := h₂
   exact ⟨hs, v, #[], h1 _ (hw.at d), fun e he => by simp at he, hp _ (hw.at d)⟩)
theorem fr_one (P : Program) (g : Goroutine) (w : World) (bot : Nat) : Fr P { n := 1, seats := fun _ => none, sh := fun _ => False, bot := bot } (fun _ => False) 0 0 #[] #[g] w (fun _ => 0) := by
 refine ⟨rfl, fun i x hi _ hx => ?_, fun _ _ z => z.elim, fun z => z, rfl, fun _ _ e => (by cases e), fun _ _ e => (by cases e), fun _ _ _ _ e => (by cases e), fun _ _ e => (by cases e), fun _ _ _ e => (by cases e), fun _ _ => rfl, fun i _ hl => ?_, rfl, ?_⟩
 ·have : i < 1 := by simpa using (Array.getElem?_eq_some_iff.1 hx).1
  omega
 ·cases hl
 ·have h := px_nil
  refine ⟨h.clean, fun i a ha => by simp [touchAt, Trace.act?] at ha, fun i a ha => by simp [touchAt, Trace.act?] at ha, fun i a ha => by simp [touchAt, Trace.act?] at ha, fun i ad ha => by simp [Trace.act?] at ha, by simp⟩
theorem Run.whole {P : Program} {Post : Value → World → Prop} {g : Goroutine} {w : World} {bot : Nat} (R : Run P Post { n := 1, seats := fun _ => none, sh := fun _ => False, bot := bot } 0 0 g w) : Ends P Post (solo g w) #[] := by
 rw [solo_eq_crowd]
 exact R.ends w #[g] none #[] _ (Sm.refl w) (fr_one P g w bot) rfl
end Go.Sl
end
section
set_option linter.unusedVariables false
namespace Go.Sl
open Go.Conc
open Go.ConcR (deafBehind_cons deafBehind_one)
structure Bad where
 rd : Nat → TypeId → Nat → Bool
 sh : TypeId → Nat → Bool
 bot : Nat := 0
def Obj.quiet : Obj → Bool
 | .cells .. => false
 | .chan .. => false
 | _ => true
def oneCell : Value → Bool
 | .agg _ => false
 | .tuple _ => false
 | _ => true
def shapeH (H : Array Obj) (r : Nat) : Option (TypeId × Nat) :=
 match H[r]? with
 | some (.cells c elem _) => some (elem, c.size)
 | _ => none
def frozenH (H : Array Obj) (a : Addr) : Bool :=
 match H[a.block]? with
 | some (.cells _ _ (lo, hi)) => lo ≤ a.off && a.off < hi
 | _ => false
def markOk (B : Bad) (H : Array Obj) : Mark → Prop
 | .acquire a | .releaseMerge a | .read a => ∃ c ty, H[a.block]? = some (.cells c ty (0, 0))
 | .release a => ∃ c ty, H[a.block]? = some (.cells c ty (0, 0)) ∧ B.sh ty a.off = false
 | .write a => ∃ c ty, H[a.block]? = some (.cells c ty (0, 0)) ∧ B.rd a.block ty a.off = false
 | _ => True
def deafBy : Mark → Nat → Nat
 | .disable, d => d + 1
 | .enable, d => d - 1
 | _, d => d
def okS (P : Program) (B : Bad) {α : Type} : Sem α → Array Obj → Nat → (α → Array Obj → Nat → Prop) → Prop
 | .pure a, H, d, Q => Q a H d
 | .load m a k, H, d, Q => ∃ c ty v, (∃ fr, H[a.block]? = some (.cells c ty fr)) ∧ a.spot = none ∧ c[a.off]? = some v ∧ (m = .plain → a.block < B.bot ∨ B.sh ty a.off = false) ∧ okS P B (k v) H d Q
 | .store m a v k, H, d, Q => oneCell v = true ∧ ∃ c ty, H[a.block]? = some (.cells c ty (0, 0)) ∧ a.spot = none ∧ a.off < c.size ∧ B.rd a.block ty a.off = false ∧ (m = .plain → B.sh ty a.off = false) ∧
   okS P B k (H.setIfInBounds a.block (.cells (c.setIfInBounds a.off v) ty (0, 0))) d Q
 | .new o k, H, d, Q => okS P B (k H.size) (H.push o) d Q
 | .shape r k, H, d, Q => okS P B (k (shapeH H r)) H d Q
 | .freeze _ _ _, _, _, _ => False
 | .frozen a k, H, d, Q => okS P B (k (frozenH H a)) H d Q
 | .getObj r k, H, d, Q => ∃ o, H[r]? = some o ∧ Obj.quiet o = true ∧ okS P B (k o) H d Q
 | .setObj r o k, H, d, Q => ∃ o₀, H[r]? = some o₀ ∧ Obj.quiet o₀ = true ∧ Obj.quiet o = true ∧ okS P B k (H.setIfInBounds r o) d Q
 | .choose q k, H, d, Q => if q.forced then okS P B (k 0) H d Q else ∀ n, okS P B (k (q.cut n)) H d Q
 | .sys _ _, _, _, _ => False
 | .program k, H, d, Q => okS P B (k P) H d Q
 | .mark m k, H, d, Q => markOk B H m ∧ okS P B k H (deafBy m d) Q
 | .halt _, _, _, _ => False
section
variable {P : Program} {B : Bad} {α β : Type}
theorem okS_mono {s : Sem α} {H : Array Obj} {d : Nat} {Q Q' : α → Array Obj → Nat → Prop} (hQ : ∀ a H d, Q a H d → Q' a H d) (h : okS P B s H d Q) : okS P B s H d Q' := by
 induction s generalizing H d with
 | pure a => exact hQ _ _ _ h
 | load m a k ih => obtain ⟨c, ty, v, h1, h2, h3, h4, h5⟩ := h; exact ⟨c, ty, v, h1, h2, h3, h4, ih _ h5⟩
 | store m a v k ih => obtain ⟨h0, c, ty, h1, h2, h3, h4, h5, h6⟩ := h; exact ⟨h0, c, ty, h1, h2, h3, h4, h5, ih h6⟩
 | new o k ih => exact ih _ h
 | shape r k ih => exact ih _ h
 | freeze a n k ih => exact h.elim
 | frozen a k ih => exact ih _ h
 | getObj r k ih => obtain ⟨o, h1, h2, h3⟩ := h; exact ⟨o, h1, h2, ih _ h3⟩
 | setObj r o k ih => obtain ⟨o₀, h1, h2, h2', h3⟩ := h; exact ⟨o₀, h1, h2, h2', ih h3⟩
 | choose q k ih =>
  simp only [okS] at h ⊢
  split
  ·rename_i e; rw [if_pos e] at h; exact ih _ h
  ·rename_i e; rw [if_neg e] at h; exact fun n => ih _ (h n)
 | sys c k ih => exact h.elim
 | program k ih => exact ih _ h
 | mark m k ih => exact ⟨h.1, ih h.2⟩
 | halt x => exact h.elim
theorem okS_bind {s : Sem α} {f : α → Sem β} {H : Array Obj} {d : Nat} {Q : β → Array Obj → Nat → Prop} (h : okS P B s H d fun a H d => okS P B (f a) H d Q) : okS P B (s.bind f) H d Q := by
 induction s generalizing H d with
 | pure a => exact h
 | load m a k ih => obtain ⟨c, ty, v, h1, h2, h3, h4, h5⟩ := h; exact ⟨c, ty, v, h1, h2, h3, h4, ih _ h5⟩
 | store m a v k ih => obtain ⟨h0, c, ty, h1, h2, h3, h4, h5, h6⟩ := h; exact ⟨h0, c, ty, h1, h2, h3, h4, h5, ih h6⟩
 | new o k ih => exact ih _ h
 | shape r k ih => exact ih _ h
 | freeze a n k ih => exact h.elim
 | frozen a k ih => exact ih _ h
 | getObj r k ih => obtain ⟨o, h1, h2, h3⟩ := h; exact ⟨o, h1, h2, ih _ h3⟩
 | setObj r o k ih => obtain ⟨o₀, h1, h2, h2', h3⟩ := h; exact ⟨o₀, h1, h2, h2', ih h3⟩
 | choose q k ih =>
  simp only [okS, Sem.bind] at h ⊢
  split
  ·rename_i e; rw [if_pos e] at h; exact ih _ h
  ·rename_i e; rw [if_neg e] at h; exact fun n => ih _ (h n)
 | sys c k ih => exact h.elim
 | program k ih => exact ih _ h
 | mark m k ih => exact ⟨h.1, ih h.2⟩
 | halt x => exact h.elim
theorem okS_do {s : Sem α} {f : α → Sem β} {H : Array Obj} {d : Nat} {Q : β → Array Obj → Nat → Prop} (h : okS P B s H d fun a H d => okS P B (f a) H d Q) : okS P B (s >>= f) H d Q := okS_bind h
def EvOk (B : Bad) (H : Array Obj) (e : Event) : Prop :=
 match e.loc with
 | .cell a => a.spot = none ∧ ∃ c ty, (∃ fr, H[a.block]? = some (.cells c ty fr)) ∧ (e.write = true → B.rd a.block ty a.off = false) ∧ (e.sync = false → a.block < B.bot ∨ B.sh ty a.off = false)
 | .obj r => r < H.size ∧ e.sync = false
 | .mark m => markOk B H m ∧ e.sync = true
 | _ => False
structure StepOk (B : Bad) (H H' : Array Obj) : Prop where
 size : H.size ≤ H'.size
 chans : ∀ (r : Nat) (o : Obj), H[r]? = some o → o.isChan = true → H'[r]? = some o
 cells : ∀ (b : Nat) (c : Array Value) (ty : TypeId) (fr : Nat × Nat), H[b]? = some (.cells c ty fr) → ∃ c', H'[b]? = some (.cells c' ty fr) ∧ ∀ j, B.rd b ty j = true → c'[j]? = c[j]?
theorem StepOk.refl (H : Array Obj) : StepOk B H H := ⟨Nat.le_refl _, fun _ _ h _ => h, fun _ c _ _ h => ⟨c, h, fun _ _ => rfl⟩⟩
theorem StepOk.trans {H H' H'' : Array Obj} (h : StepOk B H H') (k : StepOk B H' H'') : StepOk B H H'' :=
 ⟨Nat.le_trans h.size k.size, fun r o e i => k.chans r o (h.chans r o e i) i, fun b c ty fr e => by
  obtain ⟨c', e1, e2⟩ := h.cells b c ty fr e
  obtain ⟨c'', e3, e4⟩ := k.cells b c' ty fr e1
  exact ⟨c'', e3, fun j hj => (e4 j hj).trans (e2 j hj)⟩⟩
theorem markOk_step {H H' : Array Obj} (h : StepOk B H H') {m : Mark} (k : markOk B H m) : markOk B H' m := by
 have go : ∀ {b : Nat} {c : Array Value} {ty : TypeId}, H[b]? = some (.cells c ty (0, 0)) → ∃ c', H'[b]? = some (.cells c' ty (0, 0)) := fun e => by
  obtain ⟨c', e1, _⟩ := h.cells _ _ _ _ e; exact ⟨c', e1⟩
 cases m <;> simp only [markOk] at k ⊢
 ·obtain ⟨c, ty, e⟩ := k; obtain ⟨c', e'⟩ := go e; exact ⟨c', ty, e'⟩
 ·obtain ⟨c, ty, e, x⟩ := k; obtain ⟨c', e'⟩ := go e; exact ⟨c', ty, e', x⟩
 ·obtain ⟨c, ty, e⟩ := k; obtain ⟨c', e'⟩ := go e; exact ⟨c', ty, e'⟩
 ·obtain ⟨c, ty, e⟩ := k; obtain ⟨c', e'⟩ := go e; exact ⟨c', ty, e'⟩
 ·obtain ⟨c, ty, e, x⟩ := k; obtain ⟨c', e'⟩ := go e; exact ⟨c', ty, e', x⟩
theorem cell_of {w : World} {a : Addr} {c : Array Value} {ty : TypeId} {fz : Nat × Nat} {v : Value} (h1 : w.heap[a.block]? = some (.cells c ty fz)) (h2 : a.spot = none) (h3 : c[a.off]? = some v) : w.cell? a = some v := by
 unfold World.cell?; rw [h1]; simp [h2, h3]
theorem modify_eq {H : Array Obj} {b : Nat} {o : Obj} (f : Obj → Obj) (h : H[b]? = some o) : H.modify b f = H.setIfInBounds b (f o) := by
 apply Array.ext_getElem?
 intro i
 have hlt := (Array.getElem?_eq_some_iff.1 h).1
 by_cases e : i = b
 ·subst e; rw [Array.getElem?_setIfInBounds_self_of_lt hlt, Array.getElem?_modify]; simp [h]
 ·rw [Array.getElem?_setIfInBounds_ne (Ne.symm e), Array.getElem?_modify]; simp [Ne.symm e]
theorem setCell_of {w : World} {a : Addr} {c : Array Value} {ty : TypeId} {fz : Nat × Nat} {v : Value} (h1 : w.heap[a.block]? = some (.cells c ty fz)) (h2 : a.spot = none) :
  w.setCell a v = { w with heap := w.heap.setIfInBounds a.block (.cells (c.setIfInBounds a.off v) ty fz) } := by
 unfold World.setCell
 rw [modify_eq _ h1]; simp [h2]
theorem frozen_no {w : World} {a : Addr} {c : Array Value} {ty : TypeId} (h1 : w.heap[a.block]? = some (.cells c ty (0, 0))) : w.frozen? a = false := by
 unfold World.frozen?; rw [h1]; simp
theorem StepOk.store {H : Array Obj} {b off : Nat} {c : Array Value} {ty : TypeId} {v : Value} (h : H[b]? = some (.cells c ty (0, 0))) (hb : B.rd b ty off = false) : StepOk B H (H.setIfInBounds b (.cells (c.setIfInBounds off v) ty (0, 0))) := by
 have hlt := (Array.getElem?_eq_some_iff.1 h).1
 refine ⟨by simp, fun r o e i => ?_, fun b' c' ty' fr' e => ?_⟩
 ·have : b ≠ r := fun z => by subst z; rw [h] at e; cases e; cases i
  rw [Array.getElem?_setIfInBounds_ne this]; exact e
 ·by_cases z : b = b'
  ·subst z
   rw [h] at e; cases e
   refine ⟨_, Array.getElem?_setIfInBounds_self_of_lt hlt, fun j hj => ?_⟩
   have : off ≠ j := fun z => by subst z; rw [hb] at hj; cases hj
   rw [Array.getElem?_setIfInBounds_ne this]
  ·exact ⟨c', by rw [Array.getElem?_setIfInBounds_ne z]; exact e, fun _ _ => rfl⟩
theorem StepOk.setObj {H : Array Obj} {r : Nat} {o₀ o : Obj} (h : H[r]? = some o₀) (hq : Obj.quiet o₀ = true) : StepOk B H (H.setIfInBounds r o) := by
 refine ⟨by simp, fun r' o' e i => ?_, fun b' c' ty' fr' e => ?_⟩
 ·have : r ≠ r' := fun z => by subst z; rw [h] at e; cases e; cases o₀ <;> simp_all [Obj.quiet, Obj.isChan]
  rw [Array.getElem?_setIfInBounds_ne this]; exact e
 ·have : r ≠ b' := fun z => by subst z; rw [h] at e; cases e; cases hq
  exact ⟨c', by rw [Array.getElem?_setIfInBounds_ne this]; exact e, fun _ _ => rfl⟩
theorem StepOk.push (H : Array Obj) (o : Obj) : StepOk B H (H.push o) := by
 have go : ∀ {b : Nat} {x : Obj}, H[b]? = some x → (H.push o)[b]? = some x := fun {b x} e => by
  have := (Array.getElem?_eq_some_iff.1 e).1
  rw [Array.getElem?_push_lt this]; rw [← e, Array.getElem?_eq_getElem this]
 exact ⟨by simp, fun r o' e _ => go e, fun b c ty fr e => ⟨c, go e, fun _ _ => rfl⟩⟩
theorem push_app {X : Type} (a b : Array X) (x : X) : a.push x ++ b = a ++ (#[x] ++ b) := by apply Array.ext'; simp
theorem evOk_cell {H : Array Obj} {a : Addr} {wr sy : Bool} (h2 : a.spot = none) {c : Array Value} {ty : TypeId} {fr : Nat × Nat} (h : H[a.block]? = some (.cells c ty fr)) (h3 : wr = true → B.rd a.block ty a.off = false) (h4 : sy = false → a.block < B.bot ∨ B.sh ty a.off = false) : EvOk B H ⟨.cell a, wr, sy⟩ := ⟨h2, c, ty, ⟨fr, h⟩, h3, h4⟩
theorem deafBehind_append (d : Nat) (a b : Array Event) : deafBehind d (a ++ b) = deafBehind (deafBehind d a) b := by
 obtain ⟨a⟩ := a
 obtain ⟨b⟩ := b
 simp only [List.append_toArray]
 induction a generalizing d with
 | nil => simp [deafBehind]
 | cons e l ih => rw [List.cons_append, deafBehind_cons, deafBehind_cons d e l, ih]
theorem deafBehind_mark (d : Nat) (m : Mark) : deafBehind d #[⟨.mark m, false, true⟩] = deafBy m d := by
 cases m <;> simp [deafBehind, deafBy]
theorem deafBehind_nil (d : Nat) : deafBehind d #[] = d := by simp [deafBehind]
theorem okS_sound {s : Sem α} : ∀ {H : Array Obj} {d : Nat} {Q : α → Array Obj → Nat → Prop} {w : World} (es0 : Array Event), w.heap = H → okS P B s H d Q →
  ∃ a w' es d', s.runT P w es0 = (.ok a w', es0 ++ es) ∧ w'.os = w.os ∧ w'.output = w.output ∧ StepOk B H w'.heap ∧ (∀ e ∈ es, EvOk B w'.heap e) ∧ deafBehind d es = d' ∧ Q a w'.heap d' := by
 induction s with
 | pure a => intro H d Q w es0 hw h; subst hw; exact ⟨a, w, #[], d, by simp [Sem.runT], rfl, rfl, StepOk.refl _, by simp, deafBehind_nil _, h⟩
 | load m a k ih =>
  intro H d Q w es0 hw h
  obtain ⟨c, ty, v, ⟨fr, h1⟩, h2, h3, h4, h5⟩ := h
  subst hw
  obtain ⟨x, w', es, d', r1, r2, r3, r4, r5, r6, r7⟩ := ih v (es0.push ⟨.cell a, false, m == .atomic⟩) rfl h5
  refine ⟨x, w', #[⟨.cell a, false, m == .atomic⟩] ++ es, d', ?_, r2, r3, r4, ?_, ?_, r7⟩
  ·simp only [Sem.runT, cell_of h1 h2 h3]
   rw [r1, push_app]
  ·intro e he
   rcases Array.mem_append.1 he with he | he
   ·simp only [List.mem_toArray, List.mem_singleton] at he
    subst he
    obtain ⟨c', e1, _⟩ := r4.cells _ _ _ _ h1
    exact evOk_cell h2 e1 (fun z => by cases z) (fun z => h4 (by cases m <;> first | rfl | cases z))
   ·exact r5 e he
  ·rw [deafBehind_append, deafBehind_one (by simp) (by simp)]; exact r6
 | store m a v k ih =>
  intro H d Q w es0 hw h
  obtain ⟨h0, c, ty, h1, h2, h3, h4, h5, h6⟩ := h
  subst hw
  obtain ⟨x, w', es, d', r1, r2, r3, r4, r5, r6, r7⟩ := ih (w := w.setCell a v) (es0.push ⟨.cell a, true, m == .atomic⟩) (by rw [setCell_of h1 h2]) h6
  have hst := StepOk.store (B := B) (off := a.off) (v := v) h1 h4
  refine ⟨x, w', #[⟨.cell a, true, m == .atomic⟩] ++ es, d', ?_, r2, r3, hst.trans r4, ?_, ?_, r7⟩
  ·have hc := cell_of (w := w) h1 h2 (Array.getElem?_eq_getElem h3)
   have hf := frozen_no (w := w) (a := a) h1
   cases v <;> first | (simp only [Sem.runT, hc, hf, Bool.false_eq_true, if_false]; rw [r1, push_app]; done) | (simp [oneCell] at h0)
  ·intro e he
   rcases Array.mem_append.1 he with he | he
   ·simp only [List.mem_toArray, List.mem_singleton] at he
    subst he
    obtain ⟨c', e1, _⟩ := (hst.trans r4).cells _ _ _ _ h1
    exact evOk_cell h2 e1 (fun _ => h4) (fun z => .inr (h5 (by cases m <;> first | rfl | cases z)))
   ·exact r5 e he
  ·rw [deafBehind_append, deafBehind_one (by simp) (by simp)]; exact r6
 | new o k ih =>
  intro H d Q w es0 hw h
  subst hw
  obtain ⟨x, w', es, d', r1, r2, r3, r4, r5, r6, r7⟩ := ih w.heap.size (w := { w with heap := w.heap.push o }) es0 rfl h
  exact ⟨x, w', es, d', by simp only [Sem.runT]; exact r1, r2, r3, (StepOk.push _ o).trans r4, r5, r6, r7⟩
 | shape r k ih =>
  intro H d Q w es0 hw h
  subst hw
  obtain ⟨x, w', es, d', r1, r2⟩ := ih (shapeH w.heap r) es0 rfl h
  exact ⟨x, w', es, d', by simp only [Sem.runT]; exact r1, r2⟩
 | freeze a n k ih => intro H d Q w es0 hw h; exact h.elim
 | frozen a k ih =>
  intro H d Q w es0 hw h
  subst hw
  obtain ⟨x, w', es, d', r1, r2⟩ := ih (frozenH w.heap a) es0 rfl h
  exact ⟨x, w', es, d', by simp only [Sem.runT]; exact r1, r2⟩
 | getObj r k ih =>
  intro H d Q w es0 hw h
  obtain ⟨o, h1, h2, h3⟩ := h
  subst hw
  obtain ⟨x, w', es, d', r1, r2, r3, r4, r5, r6, r7⟩ := ih o (es0.push ⟨.obj r, false, o.isChan⟩) rfl h3
  have hch : o.isChan = false := by cases o <;> simp_all [Obj.quiet, Obj.isChan]
  refine ⟨x, w', #[⟨.obj r, false, o.isChan⟩] ++ es, d', ?_, r2, r3, r4, ?_, ?_, r7⟩
  ·simp only [Sem.runT, h1]
   cases o <;> first | (simp only [r1, push_app]; done) | (simp [Obj.quiet] at h2)
  ·intro e he
   rcases Array.mem_append.1 he with he | he
   ·simp only [List.mem_toArray, List.mem_singleton] at he
    subst he
    exact ⟨Nat.lt_of_lt_of_le (Array.getElem?_eq_some_iff.1 h1).1 r4.size, hch⟩
   ·exact r5 e he
  ·rw [deafBehind_append, deafBehind_one (by simp) (by simp)]; exact r6
 | setObj r o k ih =>
  intro H d Q w es0 hw h
  obtain ⟨o₀, h1, h2, h2', h3⟩ := h
  subst hw
  obtain ⟨x, w', es, d', r1, r2, r3, r4, r5, r6, r7⟩ := ih (w := { w with heap := w.heap.setIfInBounds r o }) (es0.push ⟨.obj r, true, o.isChan⟩) rfl h3
  have hch : o.isChan = false := by cases o <;> simp_all [Obj.quiet, Obj.isChan]
  have hst := StepOk.setObj (B := B) (o := o) h1 h2
  refine ⟨x, w', #[⟨.obj r, true, o.isChan⟩] ++ es, d', ?_, r2, r3, hst.trans r4, ?_, ?_, r7⟩
  ·simp only [Sem.runT, h1]
   cases o₀ <;> first | (rw [← push_app]; exact r1) | (simp [Obj.quiet] at h2)
  ·intro e he
   rcases Array.mem_append.1 he with he | he
   ·simp only [List.mem_toArray, List.mem_singleton] at he
    subst he
    exact ⟨Nat.lt_of_lt_of_le (Array.getElem?_eq_some_iff.1 h1).1 (hst.trans r4).size, hch⟩
   ·exact r5 e he
  ·rw [deafBehind_append, deafBehind_one (by simp) (by simp)]; exact r6
 | choose q k ih =>
  intro H d Q w es0 hw h
  subst hw
  simp only [okS] at h
  by_cases e : q.forced = true
  ·rw [if_pos e] at h
   obtain ⟨x, w', es, d', r1, r2⟩ := ih 0 es0 rfl h
   exact ⟨x, w', es, d', by simp only [Sem.runT, e, if_true]; exact r1, r2⟩
  ·rw [if_neg e] at h
   obtain ⟨x, w', es, d', r1, r2⟩ := ih (q.cut (w.tape w.drawn q)) (w := { w with drawn := w.drawn + 1 }) es0 rfl (h _)
   exact ⟨x, w', es, d', by simp only [Sem.runT, e]; exact r1, r2⟩
 | sys c k ih => intro H d Q w es0 hw h; exact h.elim
 | program k ih =>
  intro H d Q w es0 hw h
  subst hw
  obtain ⟨x, w', es, d', r1, r2⟩ := ih P es0 rfl h
  exact ⟨x, w', es, d', by simp only [Sem.runT]; exact r1, r2⟩
 | mark m k ih =>
  intro H d Q w es0 hw h
  subst hw
  obtain ⟨x, w', es, d', r1, r2, r3, r4, r5, r6, r7⟩ := ih (es0.push ⟨.mark m, false, true⟩) rfl h.2
  refine ⟨x, w', #[⟨.mark m, false, true⟩] ++ es, d', ?_, r2, r3, r4, ?_, ?_, r7⟩
  ·simp only [Sem.runT]; rw [r1, push_app]
  ·intro e he
   rcases Array.mem_append.1 he with he | he
   ·simp only [List.mem_toArray, List.mem_singleton] at he
    subst he
    exact ⟨markOk_step r4 h.1, rfl⟩
   ·exact r5 e he
  ·rw [deafBehind_append, deafBehind_mark]; exact r6
 | halt x => intro H d Q w es0 hw h; exact h.elim
end
end Go.Sl
end
section
set_option linter.unusedVariables false
namespace Go.Sl
open Go.Conc
def tm (n : Nat) (e : Nat → Value) : Array Value := Array.ofFn fun i : Fin n => e i
def put (e : Nat → Value) (d : Nat) (v : Value) : Nat → Value := fun i => if i = d then v else e i
def putO (e : Nat → Value) (d : Option Nat) (v : Value) : Nat → Value := match d with | some d => put e d v | none => e
def ev (n : Nat) (e : Nat → Value) : Operand → Value
 | .tmp t => if t < n then e t else undef
 | .const v => v
 | .global g => .pointer (some ⟨g, 0, none⟩)
 | .func f => .func (.func f) #[] #[]
def argE (args : Array Value) : Nat → Value := fun i => args.getD i undef
theorem tm_get (n : Nat) (e : Nat → Value) (t : Nat) : (tm n e)[t]? = if t < n then some (e t) else none := by
 unfold tm
 by_cases h : t < n <;> simp [h]
theorem tm_getD (n : Nat) (e : Nat → Value) (t : Nat) : (tm n e).getD t undef = if t < n then e t else undef := by
 have : (tm n e).getD t undef = ((tm n e)[t]?).getD undef := by simp [Array.getD_eq_getD_getElem?]
 rw [this, tm_get]
 by_cases h : t < n <;> simp [h]
theorem tm_set (n : Nat) (e : Nat → Value) (d : Nat) (v : Value) : (tm n e).setIfInBounds d v = tm n (put e d v) := by
 apply Array.ext_getElem?
 intro i
 rw [tm_get]
 by_cases h : i = d
 ·subst h
  by_cases h2 : i < n
  ·rw [Array.getElem?_setIfInBounds_self_of_lt (by simpa [tm] using h2)]; simp [put, h2]
  ·simp [tm, h2]
 ·rw [Array.getElem?_setIfInBounds_ne (Ne.symm h), tm_get]; simp [put, h]
theorem enter_tmps (args : Array Value) (n : Nat) (h : args.size ≤ n) : args ++ Array.replicate (n - args.size) undef = tm n (argE args) := by
 apply Array.ext_getElem?
 intro i
 rw [tm_get, Array.getElem?_append]
 by_cases h1 : i < args.size
 ·have : i < n := Nat.lt_of_lt_of_le h1 h
  simp [h1, this, argE, Array.getD]
 ·by_cases h2 : i < n
  ·have : i - args.size < n - args.size := by omega
   simp [h1, h2, this, argE, Array.getD]
  ·have : ¬ i - args.size < n - args.size := by omega
   simp [h1, h2, this]
inductive Kd where
 | nor | dfr
def Kd.k : Kd → CallKind
 | .nor => .normal
 | .dfr => .deferred
theorem Kd.early (kd : Kd) : (kd.k == CallKind.early) = false := by cases kd <;> rfl
def frm (fn : FuncId) (kd : Kd) (n : Nat) (e : Nat → Value) (ds : List Deferred) (todo : List Item) : Frame := { fn, tmps := tm n e, todo, defers := ds, mode := .run, kind := kd.k, roundOf := none }
def gr (fn : FuncId) (kd : Kd) (n : Nat) (e : Nat → Value) (ds : List Deferred) (todo : List Item) (cs : List Frame) : Goroutine := { frame := frm fn kd n e ds todo, callers := cs, status := .running, dying := none }
def frmR (fn : FuncId) (kd : Kd) (n : Nat) (e : Nat → Value) (ds : List Deferred) (todo : List Item) : Frame := { frm fn kd n e ds todo with mode := .returning }
def grR (fn : FuncId) (kd : Kd) (n : Nat) (e : Nat → Value) (ds : List Deferred) (todo : List Item) (cs : List Frame) : Goroutine := { frame := frmR fn kd n e ds todo, callers := cs, status := .running, dying := none }
def backTo (c : Frame) (cs : List Frame) (v : Value) : Goroutine := { frame := c.finish v, callers := cs, status := .running, dying := none }
def backD (c : Frame) (cs : List Frame) : Goroutine := { frame := c, callers := cs, status := .running, dying := none }
def enterG (P : Program) (f : FuncId) (args : Array Value) (kd : Kd) (cs : List Frame) : Goroutine := { frame := Frame.enter P f args kd.k, callers := cs, status := .running, dying := none }
theorem eval_frm (fn : FuncId) (kd : Kd) (n : Nat) (e : Nat → Value) (ds : List Deferred) (todo : List Item) : (frm fn kd n e ds todo).eval = ev n e := by
 funext x
 cases x <;> simp only [Frame.eval, ev, frm]
 exact tm_getD n e _
structure Closed (P : Program) (main : Bool) (B : Bad) (R : Nat → Goroutine → Array Obj → Prop) : Prop where
 step : ∀ d g H, g.status = .running → (∀ w : World, w.heap = H → ∃ g' w' es, stepG P main g w = .go g' w' es ∧ w'.os = w.os ∧ w'.output = w.output ∧ StepOk B H w'.heap ∧ (∀ e ∈ es, EvOk B w'.heap e) ∧ R (deafBehind d es) g' w'.heap) → R d g H
section
variable {P : Program} {main : Bool} {B : Bad} {R : Nat → Goroutine → Array Obj → Prop} {d : Nat} {H : Array Obj}
variable {fn : FuncId} {kd : Kd} {n : Nat} {e : Nat → Value} {ds : List Deferred} {k : List Item} {cs : List Frame}
theorem Closed.still (C : Closed P main B R) {g g' : Goroutine} (hs : g.status = .running) (h : ∀ w, stepG P main g w = .go g' w #[]) (hR : R d g' H) : R d g H :=
 C.step d g H hs fun w hw => ⟨g', w, #[], h w, rfl, rfl, hw ▸ StepOk.refl _, by simp, by rw [deafBehind_nil, hw]; exact hR⟩
theorem Closed.skip (C : Closed P main B R) (h : R d (gr fn kd n e ds k cs) H) : R d (gr fn kd n e ds (.code .skip :: k) cs) H :=
 C.still rfl (fun w => by simp [gr, frm, stepG, stepG.exec]) h
theorem Closed.label (C : Closed P main B R) {l : Nat} (h : R d (gr fn kd n e ds k cs) H) : R d (gr fn kd n e ds (.code (.label l) :: k) cs) H :=
 C.still rfl (fun w => by simp [gr, frm, stepG, stepG.exec]) h
theorem Closed.inBlock (C : Closed P main B R) {id : Nat} (h : R d (gr fn kd n e ds k cs) H) : R d (gr fn kd n e ds (.inBlock id :: k) cs) H :=
 C.still rfl (fun w => by simp [gr, frm, stepG, stepG.exec]) h
theorem Closed.inScope (C : Closed P main B R) {c : Code} (h : R d (gr fn kd n e ds k cs) H) : R d (gr fn kd n e ds (.inScope c :: k) cs) H :=
 C.still rfl (fun w => by simp [gr, frm, stepG, stepG.exec]) h
theorem Closed.seq (C : Closed P main B R) {x y : Code} (h : R d (gr fn kd n e ds (.code x :: .code y :: k) cs) H) : R d (gr fn kd n e ds (.code (.seq x y) :: k) cs) H :=
 C.still rfl (fun w => by simp [gr, frm, stepG, stepG.exec]) h
theorem Closed.block (C : Closed P main B R) {id : Nat} {c : Code} (h : R d (gr fn kd n e ds (.code c :: .inBlock id :: k) cs) H) : R d (gr fn kd n e ds (.code (.block id c) :: k) cs) H :=
 C.still rfl (fun w => by simp [gr, frm, stepG, stepG.exec]) h
theorem Closed.loop (C : Closed P main B R) {c : Code} (h : R d (gr fn kd n e ds (.code c :: .inLoop c :: k) cs) H) : R d (gr fn kd n e ds (.code (.loop c) :: k) cs) H :=
 C.still rfl (fun w => by simp [gr, frm, stepG, stepG.exec]) h
theorem Closed.inLoop (C : Closed P main B R) {c : Code} (h : R d (gr fn kd n e ds (.code c :: .inLoop c :: k) cs) H) : R d (gr fn kd n e ds (.inLoop c :: k) cs) H :=
 C.still rfl (fun w => by simp [gr, frm, stepG, stepG.exec]) h
theorem Closed.scope (C : Closed P main B R) {c : Code} (h : R d (gr fn kd n e ds (.code c :: .inScope c :: k) cs) H) : R d (gr fn kd n e ds (.code (.scope c) :: k) cs) H :=
 C.still rfl (fun w => by simp [gr, frm, stepG, stepG.exec]) h
theorem Closed.exit (C : Closed P main B R) {id : Nat} {k' : List Item} (hx : exitTo id k = some k') (h : R d (gr fn kd n e ds k' cs) H) : R d (gr fn kd n e ds (.code (.exit id) :: k) cs) H :=
 C.still rfl (fun w => by simp [gr, frm, stepG, stepG.exec, hx]) h
theorem Closed.cond (C : Closed P main B R) {c : Operand} {x y : Code} {t : Bool} (hc : ev n e c = .bool t) (h : R d (gr fn kd n e ds (.code (if t then x else y) :: k) cs) H) : R d (gr fn kd n e ds (.code (.cond c x y) :: k) cs) H :=
 C.still rfl (fun w => by
  have := eval_frm fn kd n e ds (.code (.cond c x y) :: k)
  simp only [frm] at this
  simp [gr, frm, stepG, stepG.exec, this, hc]) h
theorem Closed.region (C : Closed P main B R) {id : Nat} {ops : Array Oper} (h : R d (gr fn kd n e ds (.inRegion ops (List.range ops.size) :: k) cs) H) : R d (gr fn kd n e ds (.code (.region id ops false) :: k) cs) H :=
 C.still rfl (fun w => by simp [gr, frm, stepG, stepG.exec]) h
theorem Closed.regionEnd (C : Closed P main B R) {ops : Array Oper} (h : R d (gr fn kd n e ds k cs) H) : R d (gr fn kd n e ds (.inRegion ops [] :: k) cs) H :=
 C.still rfl (fun w => by simp [gr, frm, stepG, stepG.exec]) h
theorem Closed.draw (C : Closed P main B R) {id : Nat} {ops : Array Oper} (h : ∀ t, R d (gr fn kd n e ds (.inRegion ops (Region.schedule (P.follows .mixedOrders) ops t) :: k) cs) H) : R d (gr fn kd n e ds (.code (.region id ops true) :: k) cs) H :=
 C.step d _ H rfl fun w hw => ⟨_, { w with drawn := w.drawn + 1 }, #[], by simp [gr, frm, stepG, stepG.exec, choose, Sem.run, Question.forced, Question.cut]; rfl, rfl, rfl, hw ▸ StepOk.refl _, by simp, by rw [deafBehind_nil]; show R d _ w.heap; rw [hw]; exact h _⟩
theorem Closed.ret (C : Closed P main B R) (h : R d (grR fn kd n e ds (.code .ret :: k) cs) H) : R d (gr fn kd n e ds (.code .ret :: k) cs) H :=
 C.still rfl (fun w => by simp [gr, grR, frmR, frm, stepG, stepG.exec]) h
theorem Closed.fin (C : Closed P main B R) (h : R d (grR fn kd n e ds [] cs) H) : R d (gr fn kd n e ds [] cs) H :=
 C.still rfl (fun w => by simp [gr, grR, frmR, frm, stepG, stepG.exec]) h
theorem seen_EvOk {es : Array Event} {fn : FuncId} (h : ∀ e ∈ es, EvOk B H e) : (∀ e ∈ seen P fn es, EvOk B H e) ∧ deafBehind d (seen P fn es) = deafBehind d es := by
 refine ⟨fun e he => h e (mem_seen he), ?_⟩
 rw [seen_def]
 have key : ∀ (quiet : FuncId → Bool) (l : List Event) (q : Bool) (kept : Array Event), (∀ e ∈ l, EvOk B H e) → deafBehind d (l.foldl (seenStep quiet) (q, kept)).2 = deafBehind (deafBehind d kept) l.toArray := by
  intro quiet l
  induction l with
  | nil => intro q kept _; simp [deafBehind_nil]
  | cons x l ih =>
   intro q kept hl
   have hx := hl x (List.mem_cons_self ..)
   have hl' : ∀ e ∈ l, EvOk B H e := fun e he => hl e (List.mem_cons_of_mem _ he)
   rw [List.foldl_cons, Go.ConcR.deafBehind_cons]
   obtain ⟨loc, wr, sy⟩ := x
   by_cases hm : ∃ f, loc = .mark (.extern f)
   ·obtain ⟨f, rfl⟩ := hm
    simp only [seenStep]
    rw [ih _ _ hl', Go.ConcR.deafBehind_one (by simp) (by simp)]
   ·have hst : seenStep quiet (q, kept) ⟨loc, wr, sy⟩ = (q, if q && !sy then kept else kept.push ⟨loc, wr, sy⟩) := by
     unfold seenStep
     simp only
     split
     ·rename_i f; exact absurd ⟨_, rfl⟩ hm
     ·rfl
    rw [hst, ih _ _ hl']
    by_cases hq : (q && !sy) = true
    ·rw [if_pos hq]
     have hsy : sy = false := by revert hq; cases q <;> cases sy <;> simp
     have h1 : loc ≠ .mark .disable := fun z => by subst z; simp [EvOk, hsy] at hx
     have h2 : loc ≠ .mark .enable := fun z => by subst z; simp [EvOk, hsy] at hx
     rw [Go.ConcR.deafBehind_one h1 h2]
    ·rw [if_neg hq]
     have : kept.push ⟨loc, wr, sy⟩ = kept ++ #[⟨loc, wr, sy⟩] := by simp
     rw [this, deafBehind_append]
 have := key (fun f => (P.funcs[f]?).any (·.norace)) es.toList ((P.funcs[fn]?).any (·.norace)) #[] (fun e he => h e (Array.mem_toList_iff.1 he))
 rw [this, deafBehind_nil]
def upon (P : Program) (R : Nat → Goroutine → Array Obj → Prop) (fn : FuncId) (kd : Kd) (n : Nat) (e : Nat → Value) (ds : List Deferred) (ops : Array Oper) (i : Nat) (rest : List Nat) (k : List Item) (cs : List Frame) (dst : Option Nat) (d : Nat) (H : Array Obj) : Next → Prop
 | .value v => R d (gr fn kd n (putO e dst v) ds (.inRegion ops rest :: k) cs) H
 | .skip => R d (gr fn kd n (putO e dst undef) ds (.inRegion ops rest :: k) cs) H
 | .enter f args => R d (enterG P f args .nor (frm fn kd n e ds (.inRegion ops (i :: rest) :: k) :: cs)) H
 | .defer x => R d (gr fn kd n (putO e dst undef) (x :: ds) (.inRegion ops rest :: k) cs) H
 | _ => False
theorem finish_frm {ops : Array Oper} {i : Nat} {rest : List Nat} {o : Oper} (ho : ops[i]? = some o) (v : Value) : (frm fn kd n e ds (.inRegion ops (i :: rest) :: k)).finish v = frm fn kd n (putO e o.dst v) ds (.inRegion ops rest :: k) := by
 unfold Frame.finish frm
 simp only [ho, Option.bind_some]
 cases o.dst with
 | none => rfl
 | some t => simp only [tm_set, putO]
theorem Closed.op (C : Closed P main B R) {ops : Array Oper} {i : Nat} {rest : List Nat} {o : Oper} (ho : ops[i]? = some o) (hw : Region.wanted o (yielded ops (tm n e)) = true)
  (h : okS P B (execOp (ev n e) o) H d fun x H' d' => upon P R fn kd n e ds ops i rest k cs o.dst d' H' x) : R d (gr fn kd n e ds (.inRegion ops (i :: rest) :: k) cs) H := by
 refine C.step d _ H rfl fun w hw' => ?_
 obtain ⟨x, w', es, d', r1, r2, r3, r4, r5, r6, r7⟩ := okS_sound (w := w) #[] hw' h
 have hkb := kd.early
 obtain ⟨s1, s2⟩ := seen_EvOk (P := P) (d := d) (fn := fn) r5
 rw [r6] at s2
 have hop : stepG P main (gr fn kd n e ds (.inRegion ops (i :: rest) :: k) cs) w = stepG.apply P true (frm fn kd n e ds (.inRegion ops (i :: rest) :: k)) cs none (execOp (ev n e) o) w := by
  have he := eval_frm fn kd n e ds (.inRegion ops (i :: rest) :: k)
  simp only [frm] at he
  simp [gr, frm, stepG, stepG.exec, stepG.oper, Frame.oper?, ho, hw, he]
 simp only [Array.append_empty, Array.empty_append] at r1
 rw [hop]
 cases x <;> first | exact r7.elim | skip
 ·refine ⟨_, w', seen P fn es, ?_, r2, r3, r4, s1, by rw [s2]; exact r7⟩
  simp only [stepG.apply, r1, if_true]
  rw [finish_frm ho]
  simp [frm, hkb, GStep.after, gr]
 ·refine ⟨_, w', seen P fn es, ?_, r2, r3, r4, s1, by rw [s2]; exact r7⟩
  simp only [stepG.apply, r1, if_true]
  rw [finish_frm ho]
  simp [frm, hkb, GStep.after, gr]
 ·refine ⟨_, w', seen P fn es, ?_, r2, r3, r4, s1, by rw [s2]; exact r7⟩
  simp only [stepG.apply, r1, if_true]
  simp [frm, hkb, GStep.after, enterG]
  rfl
 ·refine ⟨_, w', seen P fn es, ?_, r2, r3, r4, s1, by rw [s2]; exact r7⟩
  rename_i x
  have hf := finish_frm (fn := fn) (kd := kd) (n := n) (e := e) (ds := x :: ds) (k := k) (rest := rest) ho undef
  simp only [frm] at hf
  simp only [stepG.apply, r1, if_true, frm]
  rw [hf]
  simp [frm, hkb, GStep.after, gr]
theorem Closed.opSkip (C : Closed P main B R) {ops : Array Oper} {i : Nat} {rest : List Nat} {o : Oper} (ho : ops[i]? = some o) (hw : Region.wanted o (yielded ops (tm n e)) = false)
  (h : R d (gr fn kd n (putO e o.dst undef) ds (.inRegion ops rest :: k) cs) H) : R d (gr fn kd n e ds (.inRegion ops (i :: rest) :: k) cs) H := by
 refine C.still rfl (fun w => ?_) h
 have hf := finish_frm (fn := fn) (kd := kd) (n := n) (e := e) (ds := ds) (k := k) (rest := rest) ho undef
 simp only [frm] at hf
 simp only [gr, frm, stepG, stepG.exec, ho, Option.map_some, Option.getD_some, hw, Bool.false_eq_true, if_false, hf]
theorem enterG_eq {f : FuncId} {fu : Func} {c : Code} {args : Array Value} (hf : P.funcs[f]? = some fu) (hb : fu.body = some c) (hn : args.size ≤ fu.ntmps) : enterG P f args kd cs = gr f kd fu.ntmps (argE args) [] [.code c] cs := by
 unfold enterG gr Frame.enter frm
 simp only [hf, Option.map_some, Option.getD_some, Option.bind_some, hb, enter_tmps _ _ hn]
theorem Closed.back (C : Closed P main B R) {todo : List Item} {fu : Func} {c : Frame} (hf : P.funcs[fn]? = some fu) (h : okS P B (results fu (tm n e)) H d fun v H' d' => R d' (backTo c cs v) H') : R d (grR fn .nor n e [] todo (c :: cs)) H := by
 refine C.step d _ H rfl fun w hw' => ?_
 obtain ⟨x, w', es, d', r1, r2, r3, r4, r5, r6, r7⟩ := okS_sound (w := w) #[] hw' h
 obtain ⟨s1, s2⟩ := seen_EvOk (P := P) (d := d) (fn := fn) r5
 rw [r6] at s2
 refine ⟨_, w', seen P fn es, ?_, r2, r3, r4, s1, by rw [s2]; exact r7⟩
 simp only [Array.append_empty, Array.empty_append] at r1
 simp only [grR, frmR, frm, stepG, unwind, hf, r1, doReturn, Kd.k]
 simp [GStep.after, backTo]
theorem Closed.backDef (C : Closed P main B R) {todo : List Item} {fu : Func} {c : Frame} (hm : c.mode = .returning) (hf : P.funcs[fn]? = some fu) (h : okS P B (results fu (tm n e)) H d fun v H' d' => R d' (backD c cs) H') : R d (grR fn .dfr n e [] todo (c :: cs)) H := by
 refine C.step d _ H rfl fun w hw' => ?_
 obtain ⟨x, w', es, d', r1, r2, r3, r4, r5, r6, r7⟩ := okS_sound (w := w) #[] hw' h
 obtain ⟨s1, s2⟩ := seen_EvOk (P := P) (d := d) (fn := fn) r5
 rw [r6] at s2
 refine ⟨_, w', seen P fn es, ?_, r2, r3, r4, s1, by rw [s2]; exact r7⟩
 simp only [Array.append_empty, Array.empty_append] at r1
 simp only [grR, frmR, frm, stepG, unwind, hf, r1, doReturn, hm, Kd.k]
 simp [GStep.after, backD]
theorem Closed.defCall (C : Closed P main B R) {todo : List Item} {x : Deferred} {f : FuncId} {args : Array Value} (hx : x.target = .fn (.func f) #[] ∨ ∃ cap, x.target = .fn (.func f) cap)
  (h : okS P B (invoke x.target x.args) H d fun y H' d' => ∃ f args, y = .enter f args ∧ R d' (enterG P f args .dfr (frmR fn kd n e ds todo :: cs)) H') : R d (grR fn kd n e (x :: ds) todo cs) H := by
 refine C.step d _ H rfl fun w hw' => ?_
 obtain ⟨y, w', es, d', r1, r2, r3, r4, r5, r6, f', args', rfl, r7⟩ := okS_sound (w := w) #[] hw' h
 obtain ⟨s1, s2⟩ := seen_EvOk (P := P) (d := d) (fn := fn) r5
 rw [r6] at s2
 refine ⟨_, w', seen P fn es, ?_, r2, r3, r4, s1, by rw [s2]; exact r7⟩
 simp only [Array.append_empty, Array.empty_append] at r1
 obtain ⟨tg, ar⟩ := x
 have : ∃ cap, tg = .fn (.func f) cap := hx.elim (fun z => ⟨_, z⟩) id
 obtain ⟨cap, rfl⟩ := this
 simp only [grR, frmR, frm, stepG, unwind, callDeferred, r1]
 simp [GStep.after, enterG, Kd.k]
end
end Go.Sl
end
section
set_option linter.unusedVariables false
namespace Go.Sl
open Go.Conc
abbrev HL := Nat → Option Obj
abbrev HP := HL → Prop
def hp (H : Array Obj) : HL := fun b => H[b]?
def Sub (h h' : HL) : Prop := ∀ b o, h b = some o → h' b = some o
def less (h h1 : HL) : HL := fun b => if (h1 b).isSome then none else h b
def Sat : List HP → HL → Prop
 | [], _ => True
 | A :: As, h => ∃ h1, A h1 ∧ Sub h1 h ∧ Sat As (less h h1)
def one (b : Nat) (o : Obj) : HL := fun i => if i = b then some o else none
def pts (b : Nat) (o : Obj) : HP := fun h => h = one b o
def imm (I : HL) : HP := fun h => h = I
def all (l : List HP) : HP := Sat l
theorem Sub.refl (h : HL) : Sub h h := fun _ _ x => x
theorem Sub.trans {a b c : HL} (h : Sub a b) (k : Sub b c) : Sub a c := fun i o x => k i o (h i o x)
theorem less_sub {h h1 : HL} : Sub (less h h1) h := fun b o x => by unfold less at x; split at x <;> simp_all
theorem less_mono {h h' h1 : HL} (s : Sub h h') : Sub (less h h1) (less h' h1) := fun b o x => by
 unfold less at x ⊢; split at x
 ·cases x
 ·rename_i z; rw [if_neg z]; exact s _ _ x
theorem Sat.mono {As : List HP} : ∀ {h h' : HL}, Sub h h' → Sat As h → Sat As h' := by
 induction As with
 | nil => exact fun _ _ => trivial
 | cons A As ih =>
  rintro h h' s ⟨h1, a, s1, r⟩
  exact ⟨h1, a, s1.trans s, ih (less_mono s) r⟩
theorem sub_less {h h1 h2 : HL} (s1 : Sub h1 h) (s2 : Sub h2 (less h h1)) : Sub h1 (less h h2) := fun b o x => by
 unfold less
 cases e : h2 b with
 | none => simp; exact s1 _ _ x
 | some o' => have := s2 _ _ e; unfold less at this; rw [x] at this; simp at this
theorem less_less (h h1 h2 : HL) : less (less h h1) h2 = less (less h h2) h1 := by
 funext b; unfold less; cases h1 b <;> cases h2 b <;> rfl
theorem Sat.swap {A B : HP} {As : List HP} {h : HL} (s : Sat (A :: B :: As) h) : Sat (B :: A :: As) h := by
 obtain ⟨h1, a, s1, h2, b, s2, r⟩ := s
 exact ⟨h2, b, s2.trans less_sub, h1, a, sub_less s1 s2, by rw [less_less]; exact r⟩
theorem Sat.perm {As Bs : List HP} (p : As.Perm Bs) : ∀ {h : HL}, Sat As h → Sat Bs h := by
 induction p with
 | nil => exact id
 | cons x _ ih => rintro h ⟨h1, a, s1, r⟩; exact ⟨h1, a, s1, ih r⟩
 | swap x y l => exact fun s => Sat.swap s
 | trans _ _ ih1 ih2 => exact fun s => ih2 (ih1 s)
theorem Sat.drop {A : HP} {As : List HP} {h : HL} (s : Sat (A :: As) h) : Sat As h := by
 obtain ⟨h1, a, s1, r⟩ := s; exact r.mono less_sub
theorem Sat.imp {A B : HP} {As : List HP} {h : HL} (f : ∀ h, A h → B h) (s : Sat (A :: As) h) : Sat (B :: As) h := by
 obtain ⟨h1, a, s1, r⟩ := s; exact ⟨h1, f _ a, s1, r⟩
theorem Sat.ex {X : Type} {A : X → HP} {As : List HP} {h : HL} (s : Sat ((fun h => ∃ x, A x h) :: As) h) : ∃ x, Sat (A x :: As) h := by
 obtain ⟨h1, ⟨x, a⟩, s1, r⟩ := s; exact ⟨x, h1, a, s1, r⟩
theorem Sat.pure {p : Prop} {A : HP} {As : List HP} {h : HL} (s : Sat ((fun h => p ∧ A h) :: As) h) : p ∧ Sat (A :: As) h := by
 obtain ⟨h1, ⟨x, a⟩, s1, r⟩ := s; exact ⟨x, h1, a, s1, r⟩
theorem less_less' {h h1 h2 : HL} (s : Sub h2 h1) : less (less h h2) (less h1 h2) = less h h1 := by
 funext b
 unfold less
 cases e2 : h2 b with
 | none => simp
 | some o => rw [s _ _ e2]; simp
theorem Sat.flat {l As : List HP} : ∀ {h : HL}, Sat (all l :: As) h → Sat (l ++ As) h := by
 induction l with
 | nil => rintro h ⟨h1, a, s1, r⟩; exact r.mono less_sub
 | cons B l ih =>
  rintro h ⟨h1, ⟨h2, b, s2, r2⟩, s1, r⟩
  refine ⟨h2, b, s2.trans s1, ih ⟨less h1 h2, r2, less_mono s1, ?_⟩⟩
  rw [less_less' s2]; exact r
def cup (h1 h2 : HL) : HL := fun b => (h1 b).or (h2 b)
theorem Sat.unflat {l As : List HP} : ∀ {h : HL}, Sat (l ++ As) h → Sat (all l :: As) h := by
 induction l with
 | nil => intro h s; exact ⟨fun _ => none, trivial, fun _ _ x => (by cases x), (by
   have : less h (fun _ => none) = h := by funext b; simp [less]
   rw [this]; exact s)⟩
 | cons B l ih =>
  rintro h ⟨h2, b, s2, r⟩
  obtain ⟨h1, a, s1, r1⟩ := ih r
  have hc : Sub h2 (cup h2 h1) := fun i o x => by unfold cup; rw [x]; rfl
  have hl : less (cup h2 h1) h2 = h1 := by
   funext i
   unfold less cup
   cases e : h2 i with
   | none => simp
   | some o =>
    simp
    cases e' : h1 i with
    | none => rfl
    | some o' => have := s1 _ _ e'; unfold less at this; rw [e] at this; simp at this
  refine ⟨cup h2 h1, ⟨h2, b, hc, by rw [hl]; exact a⟩, fun i o x => ?_, ?_⟩
  ·unfold cup at x
   cases e : h2 i with
   | none => rw [e] at x; exact less_sub _ _ (s1 _ _ (by simpa using x))
   | some o' => rw [e] at x; simp at x; subst x; exact s2 _ _ e
  ·have : less h (cup h2 h1) = less (less h h2) h1 := by
    funext i; unfold less cup; cases h2 i <;> cases h1 i <;> rfl
   rw [this]; exact r1
theorem Sat.under {A : HP} {As Bs : List HP} {h : HL} (f : ∀ h, Sat As h → Sat Bs h) (s : Sat (A :: As) h) : Sat (A :: Bs) h := by
 obtain ⟨h1, a, s1, r⟩ := s; exact ⟨h1, a, s1, f _ r⟩
theorem Sat.get {b : Nat} {o : Obj} {As : List HP} {h : HL} (s : Sat (pts b o :: As) h) : h b = some o := by
 obtain ⟨h1, rfl, s1, r⟩ := s; exact s1 b o (by simp [one])
theorem Sat.getI {I : HL} {As : List HP} {h : HL} (s : Sat (imm I :: As) h) {b : Nat} {o : Obj} (e : I b = some o) : h b = some o := by
 obtain ⟨h1, rfl, s1, r⟩ := s; exact s1 b o e
theorem hp_push_ne {H : Array Obj} {o : Obj} {b : Nat} (h : b ≠ H.size) : hp (H.push o) b = hp H b := by
 unfold hp
 rcases Nat.lt_or_ge b H.size with h' | h'
 ·rw [Array.getElem?_push_lt h', Array.getElem?_eq_getElem h']
 ·have : H.size < b := by omega
  have h1 : (H.push o).size ≤ b := by rw [Array.size_push]; omega
  rw [Array.getElem?_eq_none h1, Array.getElem?_eq_none h']
theorem hp_push_self {H : Array Obj} {o : Obj} : hp (H.push o) H.size = some o := by unfold hp; simp
theorem hp_size {H : Array Obj} {b : Nat} (h : H.size ≤ b) : hp H b = none := by unfold hp; exact Array.getElem?_eq_none h
theorem Sat.push {As : List HP} {H : Array Obj} (o : Obj) (s : Sat As (hp H)) : Sat (pts H.size o :: As) (hp (H.push o)) := by
 refine ⟨one H.size o, rfl, fun b x e => ?_, s.mono fun b x e => ?_⟩
 ·unfold one at e; split at e
  ·rename_i z; subst z; cases e; exact hp_push_self
  ·cases e
 ·have hb : b ≠ H.size := fun z => by subst z; rw [hp_size (Nat.le_refl _)] at e; cases e
  unfold less one
  rw [if_neg hb]; simp; rw [hp_push_ne hb]; exact e
theorem Sat.set {b : Nat} {o o' : Obj} {As : List HP} {H : Array Obj} (s : Sat (pts b o :: As) (hp H)) : Sat (pts b o' :: As) (hp (H.setIfInBounds b o')) := by
 have hb := s.get
 have hlt : b < H.size := (Array.getElem?_eq_some_iff.1 hb).1
 obtain ⟨h1, rfl, s1, r⟩ := s
 have hs : hp (H.setIfInBounds b o') b = some o' := by unfold hp; exact Array.getElem?_setIfInBounds_self_of_lt hlt
 refine ⟨one b o', rfl, fun i x e => ?_, ?_⟩
 ·unfold one at e; split at e
  ·rename_i z; subst z; cases e; exact hs
  ·cases e
 ·have : less (hp (H.setIfInBounds b o')) (one b o') = less (hp H) (one b o) := by
   funext i
   unfold less one
   by_cases z : i = b
   ·simp [z]
   ·simp only [if_neg z, Option.isSome_none]
    unfold hp; rw [Array.getElem?_setIfInBounds_ne (Ne.symm z)]
  rw [this]; exact r
theorem Sat.freeze {b : Nat} {o : Obj} {I : HL} {As : List HP} {h : HL} (s : Sat (pts b o :: imm I :: As) h) : Sub I (cup I (one b o)) ∧ Sat (imm (cup I (one b o)) :: As) h := by
 obtain ⟨h1, rfl, s1, h2, rfl, s2, r⟩ := s
 have hn : h2 b = none := by
  cases e : h2 b with
  | none => rfl
  | some x => have := s2 _ _ e; unfold less one at this; simp at this
 refine ⟨fun i x e => by unfold cup; rw [e]; rfl, cup h2 (one b o), rfl, fun i x e => ?_, ?_⟩
 ·unfold cup at e
  cases e2 : h2 i with
  | some y => rw [e2] at e; simp at e; subst e; exact less_sub _ _ (s2 _ _ e2)
  | none => rw [e2] at e; simp at e; exact s1 _ _ e
 ·have : less h (cup h2 (one b o)) = less (less h (one b o)) h2 := by
   funext i; unfold less cup; cases h2 i <;> cases (one b o) i <;> rfl
  rw [this]; exact r
inductive Has (b : Nat) (o : Obj) : List HP → Prop
 | head {As : List HP} : Has b o (pts b o :: As)
 | tail {A : HP} {As : List HP} : Has b o As → Has b o (A :: As)
inductive Upd (b : Nat) (o o' : Obj) : List HP → List HP → Prop
 | head {As : List HP} : Upd b o o' (pts b o :: As) (pts b o' :: As)
 | tail {A : HP} {As As' : List HP} : Upd b o o' As As' → Upd b o o' (A :: As) (A :: As')
theorem Has.get {b : Nat} {o : Obj} {As : List HP} (x : Has b o As) : ∀ {h : HL}, Sat As h → h b = some o := by
 induction x with
 | head => exact fun s => s.get
 | tail _ ih => exact fun s => ih s.drop
def Kn (As : List HP) (b : Nat) (o : Obj) : Prop := ∀ h, Sat As h → h b = some o
def Ext (As As0 : List HP) : Prop := ∀ h, Sat As h → Sat As0 h
inductive Ext1 (W : List HP) : List HP → List HP → Prop
 | refl {As : List HP} : Ext1 W As As
 | cons {X : HP} {As : List HP} : Ext1 W (X :: As) As
 | of {As' As : List HP} : Ext As' W → Ext1 W As' As
theorem Has.kn {b : Nat} {o : Obj} {As : List HP} (x : Has b o As) : Kn As b o := fun _ s => x.get s
theorem Ext.kn {b : Nat} {o : Obj} {As As0 : List HP} (e : Ext As As0) (x : Has b o As0) : Kn As b o := fun _ s => x.get (e _ s)
theorem Ext1.ext {W As As' : List HP} (x : Ext1 W As' As) (e : Ext As W) : Ext As' W := by
 cases x with
 | refl => exact e
 | cons => exact fun h s => e h s.drop
 | of h => exact h
theorem Upd.has {b : Nat} {o o' : Obj} {As As' : List HP} (x : Upd b o o' As As') : Has b o As := by
 induction x with
 | head => exact .head
 | tail _ ih => exact .tail ih
theorem Upd.perm {b : Nat} {o o' : Obj} {As As' : List HP} (x : Upd b o o' As As') : ∃ L, As.Perm (pts b o :: L) ∧ As'.Perm (pts b o' :: L) := by
 induction x with
 | @head As => exact ⟨As, .refl _, .refl _⟩
 | @tail A As As' _ ih =>
  obtain ⟨L, h1, h2⟩ := ih
  exact ⟨A :: L, (h1.cons A).trans (.swap _ _ _), (h2.cons A).trans (.swap _ _ _)⟩
theorem Upd.set {b : Nat} {o o' : Obj} {As As' : List HP} (x : Upd b o o' As As') {H : Array Obj} (s : Sat As (hp H)) : Sat As' (hp (H.setIfInBounds b o')) := by
 obtain ⟨L, h1, h2⟩ := x.perm
 exact (s.perm h1).set.perm h2.symm
def At (R : Nat → Goroutine → Array Obj → Prop) (d : Nat) (As : List HP) (g : Goroutine) : Prop := ∀ H, Sat As (hp H) → R d g H
section
variable {R : Nat → Goroutine → Array Obj → Prop} {d : Nat} {As Bs : List HP} {g : Goroutine}
theorem At.perm (p : As.Perm Bs) (h : At R d Bs g) : At R d As g := fun H s => h H (s.perm p)
theorem At.freeze {b : Nat} {o : Obj} {I : HL} (h : ∀ I', Sub I I' → I' b = some o → At R d (imm I' :: As) g) : At R d (pts b o :: imm I :: As) g := fun H s =>
 have z := s.freeze
 h _ z.1 (by
  obtain ⟨h1, rfl, s1, h2, rfl, s2, r⟩ := s
  unfold cup
  cases e : h2 b with
  | none => simp [one]
  | some x => have := s2 _ _ e; unfold less one at this; simp at this) H z.2
end
end Go.Sl
end
section
set_option linter.unusedVariables false
namespace Go.Sl
open Go.Conc
def nthL : List Oper → Nat → Option Oper
 | [], _ => none
 | o :: _, 0 => some o
 | _ :: l, i + 1 => nthL l i
def nthO (ops : Array Oper) (i : Nat) : Option Oper := nthL ops.toList i
theorem nthL_eq : ∀ (l : List Oper) (i : Nat), l[i]? = nthL l i
 | [], _ => rfl
 | o :: _, 0 => rfl
 | _ :: l, i + 1 => by rw [List.getElem?_cons_succ]; exact nthL_eq l i
theorem nthO_eq (ops : Array Oper) (i : Nat) : ops[i]? = nthO ops i := by unfold nthO; rw [← nthL_eq]; simp
def cL : Code → Code | .seq a _ => a | c => c
def cR : Code → Code | .seq _ b => b | c => c
def cT : Code → Code | .cond _ a _ => a | c => c
def cE : Code → Code | .cond _ _ b => b | c => c
def cC : Code → Operand | .cond x _ _ => x | _ => .tmp 0
def cB : Code → Code | .block _ c => c | .loop c => c | .scope c => c | c => c
def cI : Code → Nat | .block i _ => i | .exit i => i | .region i _ _ => i | _ => 0
def cO : Code → Array Oper | .region _ ops _ => ops | _ => #[]
inductive CK where
 | skip | label | seq | cond | block | loop | scope | exit | region | draw | ret | other
def ck : Code → CK
 | .skip => .skip | .label _ => .label | .seq .. => .seq | .cond .. => .cond | .block .. => .block | .loop _ => .loop | .scope _ => .scope | .exit _ => .exit
 | .region _ _ false => .region | .region _ _ true => .draw | .ret => .ret | _ => .other
theorem ck_inv {c : Code} {x : CK} (h : ck c = x) : match x with
  | .skip => c = .skip
  | .label => ∃ l, c = .label l
  | .seq => c = .seq (cL c) (cR c)
  | .cond => c = .cond (cC c) (cT c) (cE c)
  | .block => c = .block (cI c) (cB c)
  | .loop => c = .loop (cB c)
  | .scope => c = .scope (cB c)
  | .exit => c = .exit (cI c)
  | .region => c = .region (cI c) (cO c) false
  | .draw => c = .region (cI c) (cO c) true
  | .ret => c = .ret
  | .other => True := by
 subst h
 cases c <;> first | rfl | exact ⟨_, rfl⟩ | trivial | skip
 rename_i a b d
 cases d <;> rfl
def ctl : Nat → List Item → List Item
 | 0, k => k
 | n + 1, k => match k with
  | .inBlock _ :: k | .inScope _ :: k | .inRegion _ [] :: k => ctl n k
  | .code c :: k => match ck c with
   | .skip | .label => ctl n k
   | .seq => ctl n (.code (cL c) :: .code (cR c) :: k)
   | .block => ctl n (.code (cB c) :: .inBlock (cI c) :: k)
   | .scope => ctl n (.code (cB c) :: .inScope (cB c) :: k)
   | .exit => match exitTo (cI c) k with | some k' => ctl n k' | none => .code c :: k
   | _ => .code c :: k
  | k => k
def puts (e : Nat → Value) : List (Nat × Value) → Nat → Value
 | [] => e
 | (i, v) :: l => put (puts e l) i v
def EnvIs (e : Nat → Value) : List (Nat × Value) → Prop
 | [] => True
 | (i, v) :: l => e i = v ∧ EnvIs e l
theorem puts_eq {e : Nat → Value} : ∀ {l : List (Nat × Value)}, EnvIs e l → puts e l = e
 | [], _ => rfl
 | (i, v) :: l, h => by
  unfold puts
  rw [puts_eq h.2]
  funext j
  unfold put
  by_cases z : j = i
  ·subst z; simp [h.1]
  ·simp [z]
def yieldB (ops : Array Oper) (n : Nat) (e : Nat → Value) (j : Nat) : Option Bool :=
 match nthO ops j with
 | some o => match o.dst with
  | some t => if t < n then (match e t with | .bool b => some b | _ => none) else none
  | none => none
 | none => none
def wantB (ops : Array Oper) (n : Nat) (e : Nat → Value) : Option (Nat × Bool) → Bool
 | none => true
 | some (j, w) => yieldB ops n e j == some w
theorem wanted_eq (ops : Array Oper) (n : Nat) (e : Nat → Value) (o : Oper) : Region.wanted o (yielded ops (tm n e)) = wantB ops n e o.guard := by
 unfold Region.wanted wantB
 cases o.guard with
 | none => rfl
 | some p =>
  obtain ⟨j, w⟩ := p
  simp only
  have : yielded ops (tm n e) j = yieldB ops n e j := by
   unfold yielded yieldB
   rw [nthO_eq]
   cases nthO ops j with
   | none => rfl
   | some o' =>
    simp only [Option.bind_some]
    cases o'.dst with
    | none => rfl
    | some t =>
     simp only [Option.bind_some, tm_get]
     by_cases ht : t < n
     ·simp only [if_pos ht]
      generalize e t = v
      cases v <;> rfl
     ·simp [ht]
  rw [this]
section
variable {P : Program} {main : Bool} {B : Bad} {R : Nat → Goroutine → Array Obj → Prop} {d : Nat} {As : List HP}
variable {fn : FuncId} {kd : Kd} {n : Nat} {e : Nat → Value} {ds : List Deferred} {k : List Item} {cs : List Frame}
theorem Closed.ctl_ok (C : Closed P main B R) : ∀ (m : Nat) (k : List Item), At R d As (gr fn kd n e ds (ctl m k) cs) → At R d As (gr fn kd n e ds k cs)
 | 0, _, h => h
 | m + 1, k, h => by
  intro H s
  unfold ctl at h
  split at h
  ·exact C.inBlock (C.ctl_ok m _ h H s)
  ·exact C.inScope (C.ctl_ok m _ h H s)
  ·exact C.regionEnd (C.ctl_ok m _ h H s)
  ·rename_i c k'
   split at h
   ·rename_i hc; have := ck_inv hc; simp only at this; rw [this]; exact C.skip (C.ctl_ok m _ h H s)
   ·rename_i hc; obtain ⟨l, e⟩ := ck_inv hc; rw [e]; exact C.label (C.ctl_ok m _ h H s)
   ·rename_i hc; have := ck_inv hc; simp only at this; rw [this]; exact C.seq (C.ctl_ok m _ h H s)
   ·rename_i hc; have := ck_inv hc; simp only at this; rw [this]; exact C.block (C.ctl_ok m _ h H s)
   ·rename_i hc; have := ck_inv hc; simp only at this; rw [this]; exact C.scope (C.ctl_ok m _ h H s)
   ·rename_i hc
    split at h
    ·rename_i k'' hx
     have := ck_inv hc; simp only at this; rw [this]; exact C.exit hx (C.ctl_ok m _ h H s)
    ·exact h H s
   ·exact h H s
  ·exact h H s
theorem Closed.go (C : Closed P main B R) {k' : List Item} (h : At R d As (gr fn kd n e ds k' cs)) (hk : ctl 60 k = k' := by conv => { lhs; whnf }) : At R d As (gr fn kd n e ds k cs) := C.ctl_ok 60 k (hk ▸ h)
theorem Closed.cT' (C : Closed P main B R) {c : Code} (h : At R d As (gr fn kd n e ds (.code (cT c) :: k) cs)) (hc : ck c = .cond := by rfl) (hb : ev n e (cC c) = .bool true := by rfl) : At R d As (gr fn kd n e ds (.code c :: k) cs) := fun H s => by
 have z := ck_inv hc; simp only at z; rw [z]; exact C.cond hb (h H s)
theorem Closed.cF' (C : Closed P main B R) {c : Code} (h : At R d As (gr fn kd n e ds (.code (cE c) :: k) cs)) (hc : ck c = .cond := by rfl) (hb : ev n e (cC c) = .bool false := by rfl) : At R d As (gr fn kd n e ds (.code c :: k) cs) := fun H s => by
 have z := ck_inv hc; simp only at z; rw [z]; exact C.cond hb (h H s)
theorem Closed.tru (C : Closed P main B R) {c : Code} {k' : List Item} (h : At R d As (gr fn kd n e ds k' cs)) (hc : ck c = .cond := by rfl) (hb : ev n e (cC c) = .bool true := by rfl) (hk : ctl 60 (.code (cT c) :: k) = k' := by conv => { lhs; whnf }) : At R d As (gr fn kd n e ds (.code c :: k) cs) := C.cT' (C.go h hk) hc hb
theorem Closed.fls (C : Closed P main B R) {c : Code} {k' : List Item} (h : At R d As (gr fn kd n e ds k' cs)) (hc : ck c = .cond := by rfl) (hb : ev n e (cC c) = .bool false := by rfl) (hk : ctl 60 (.code (cE c) :: k) = k' := by conv => { lhs; whnf }) : At R d As (gr fn kd n e ds (.code c :: k) cs) := C.cF' (C.go h hk) hc hb
theorem Closed.rg (C : Closed P main B R) {c : Code} (l : List Nat) (h : At R d As (gr fn kd n e ds (.inRegion (cO c) l :: k) cs)) (hc : ck c = .region := by rfl) (hl : List.range (cO c).size = l := by rfl) : At R d As (gr fn kd n e ds (.code c :: k) cs) := fun H s => by
 subst hl; have z := ck_inv hc; simp only at z; rw [z]; exact C.region (h H s)
theorem Closed.dr (C : Closed P main B R) {c : Code} (h : ∀ t, At R d As (gr fn kd n e ds (.inRegion (cO c) (Region.schedule (P.follows .mixedOrders) (cO c) t) :: k) cs)) (hc : ck c = .draw := by rfl) : At R d As (gr fn kd n e ds (.code c :: k) cs) := fun H s => by
 have z := ck_inv hc; simp only at z; rw [z]; exact C.draw fun t => h t H s
theorem Closed.lp (C : Closed P main B R) {c : Code} (h : At R d As (gr fn kd n e ds (.code (cB c) :: .inLoop (cB c) :: k) cs)) (hc : ck c = .loop := by rfl) : At R d As (gr fn kd n e ds (.code c :: k) cs) := fun H s => by
 have z := ck_inv hc; simp only at z; rw [z]; exact C.loop (h H s)
theorem Closed.ilp (C : Closed P main B R) {c : Code} (h : At R d As (gr fn kd n e ds (.code c :: .inLoop c :: k) cs)) : At R d As (gr fn kd n e ds (.inLoop c :: k) cs) := fun H s => C.inLoop (h H s)
theorem Closed.loopI (C : Closed P main B R) {c : Code} {X : Type} (L : X → List (Nat × Value)) (I : X → List HP) (Ok : X → Prop) (m : X → Nat) (x0 : X) (he : EnvIs e (L x0)) (hI : As = I x0) (hok : Ok x0)
  (step : ∀ x e, Ok x → (∀ y e', EnvIs e' (L y) → Ok y → m y < m x → At R d (I y) (gr fn kd n e' ds (.inLoop (cB c) :: k) cs)) → At R d (I x) (gr fn kd n (puts e (L x)) ds (.code (cB c) :: .inLoop (cB c) :: k) cs))
  (hc : ck c = .loop := by rfl) : At R d As (gr fn kd n e ds (.code c :: k) cs) := by
 have key : ∀ (N : Nat) (x : X) (e : Nat → Value), m x = N → EnvIs e (L x) → Ok x → At R d (I x) (gr fn kd n e ds (.inLoop (cB c) :: k) cs) := by
  intro N
  induction N using Nat.strongRecOn with
  | ind N ih =>
   intro x e hm he hok
   refine C.ilp ?_
   rw [← puts_eq he]
   exact step x e hok fun y e' he' hy hlt => ih (m y) (by omega) y e' rfl he' hy
 refine C.lp ?_ hc
 subst hI
 rw [← puts_eq he]
 exact step x0 e hok fun y e' he' hy hlt => key _ y e' rfl he' hy
def uponA (P : Program) (R : Nat → Goroutine → Array Obj → Prop) (fn : FuncId) (kd : Kd) (n : Nat) (e : Nat → Value) (ds : List Deferred) (ops : Array Oper) (i : Nat) (rest : List Nat) (k : List Item) (cs : List Frame) (dst : Option Nat) (As : List HP) (d : Nat) : Next → Prop
 | .value v => At R d As (gr fn kd n (putO e dst v) ds (.inRegion ops rest :: k) cs)
 | .skip => At R d As (gr fn kd n (putO e dst undef) ds (.inRegion ops rest :: k) cs)
 | .enter f args => At R d As (enterG P f args .nor (frm fn kd n e ds (.inRegion ops (i :: rest) :: k) :: cs))
 | .defer x => At R d As (gr fn kd n (putO e dst undef) (x :: ds) (.inRegion ops rest :: k) cs)
 | _ => False
variable {ops : Array Oper} {i : Nat} {rest : List Nat} {dst : Option Nat} {t : Nat} {ty : TypeId} {pos : String} {af : Array Edge} {gd : Option (Nat × Bool)}
theorem Closed.gen (C : Closed P main B R) {o : Oper} (ho : nthO ops i = some o) (hw : wantB ops n e o.guard = true)
  (h : ∀ H, Sat As (hp H) → okS P B (execOp (ev n e) o) H d fun x H' d' => ∃ As', Sat As' (hp H') ∧ uponA P R fn kd n e ds ops i rest k cs o.dst As' d' x) : At R d As (gr fn kd n e ds (.inRegion ops (i :: rest) :: k) cs) := fun H s => by
 refine C.op (by rw [nthO_eq]; exact ho) (by rw [wanted_eq]; exact hw) (okS_mono (fun x H' d' q => ?_) (h H s))
 obtain ⟨As', s', q⟩ := q
 cases x <;> first | exact q.elim | exact q H' s'
theorem Closed.no (C : Closed P main B R) {op : Op} (ho : nthO ops i = some ⟨dst, op, ty, pos, af, gd⟩) (h : At R d As (gr fn kd n (putO e dst undef) ds (.inRegion ops rest :: k) cs)) (hw : wantB ops n e gd = false := by rfl) :
  At R d As (gr fn kd n e ds (.inRegion ops (i :: rest) :: k) cs) := fun H s => C.opSkip (by rw [nthO_eq]; exact ho) (by rw [wanted_eq]; exact hw) (h H s)
def Pu (P : Program) {α : Type} (s : Sem α) (v : α) : Prop := ∀ (B : Bad) (H : Array Obj) (d : Nat) (Q : α → Array Obj → Nat → Prop), Q v H d → okS P B s H d Q
theorem Pu.pure {α : Type} (v : α) : Pu P (Sem.pure v) v := fun _ _ _ _ h => h
theorem Pu.bind {α β : Type} {s : Sem α} {f : α → Sem β} {a : α} {b : β} (h : Pu P s a) (k : Pu P (f a) b) : Pu P (s >>= f) b := fun B H d Q q => okS_do (h B H d _ (k B H d Q q))
theorem Closed.val (C : Closed P main B R) {op : Op} {v : Value} (ho : nthO ops i = some ⟨some t, op, ty, pos, af, gd⟩) (hw : wantB ops n e gd = true) (hy : Pu P (execOp (ev n e) ⟨some t, op, ty, pos, af, gd⟩) (.value v))
  (h : At R d As (gr fn kd n (put e t v) ds (.inRegion ops rest :: k) cs)) : At R d As (gr fn kd n e ds (.inRegion ops (i :: rest) :: k) cs) :=
 C.gen ho hw fun H s => hy _ _ _ _ ⟨As, s, h⟩
def KdOk (kd : Kd) (c : Frame) : Prop := match kd with | .nor => True | .dfr => c.mode = .returning
def after (kd : Kd) (c : Frame) (cs : List Frame) (v : Value) : Goroutine := match kd with | .nor => backTo c cs v | .dfr => backD c cs
def Spec (P : Program) (main : Bool) (B : Bad) (f : FuncId) (args : Array Value) (A : List HP) (Q : Value → List HP → Prop) : Prop :=
 ∀ (R : Nat → Goroutine → Array Obj → Prop), Closed P main B R → ∀ (kd : Kd) (d : Nat) (F : List HP) (c : Frame) (cs : List Frame), KdOk kd c → (∀ v As', Q v As' → At R d (As' ++ F) (after kd c cs v)) → At R d (A ++ F) (enterG P f args kd (c :: cs))
class Body (P : Program) (f : FuncId) (fu : outParam Func) (c : outParam Code) (n : outParam Nat) : Prop where
 func : P.funcs[f]? = some fu
 name : (fu.name == "runtime.NumGoroutine") = false
 body : fu.body = some c
 tmps : fu.ntmps = n
theorem Spec.of {f : FuncId} {fu : Func} {c : Code} {n : Nat} [b : Body P f fu c n] {args : Array Value} {A : List HP} {Q : Value → List HP → Prop} (h : ∀ (R : Nat → Goroutine → Array Obj → Prop), Closed P main B R → ∀ (kd : Kd) (d : Nat) (F : List HP) (c' : Frame) (cs : List Frame), KdOk kd c' → (∀ v As', Q v As' → At R d (As' ++ F) (after kd c' cs v)) → At R d (A ++ F) (gr f kd n (argE args) [] [.code c] (c' :: cs))) (hn : Nat.ble args.size n = true := by rfl) : Spec P main B f args A Q := by
 intro R C kd d F c' cs hkd hr
 have := b.tmps
 subst this
 rw [enterG_eq b.func b.body (Nat.le_of_ble_eq_true hn)]
 exact h R C kd d F c' cs hkd hr
theorem callFunc_pu {f : FuncId} {fu : Func} {c : Code} {n : Nat} [b : Body P f fu c n] (args : Array Value) : Pu P (callFunc f args) (.enter f args) := by
 intro B H d Q q
 unfold callFunc
 refine okS_do ?_
 show okS P B _ _ _ _
 simp only [program, okS, b.func, b.name, b.body]
 exact q
theorem finish_gr {o : Oper} (ho : nthO ops i = some o) (v : Value) : backTo (frm fn kd n e ds (.inRegion ops (i :: rest) :: k)) cs v = gr fn kd n (putO e o.dst v) ds (.inRegion ops rest :: k) cs := by
 unfold backTo gr
 rw [finish_frm (by rw [nthO_eq]; exact ho)]
theorem Closed.cl (C : Closed P main B R) {f : FuncId} {fu : Func} {c : Code} {nf : Nat} [b : Body P f fu c nf] {fo : Operand} {args : Array Operand} {ats : Array TypeId} {vl : List Value} {A F : List HP} {Q : Value → List HP → Prop} (hs : Spec P main B f vl.toArray A Q)
  (h : ∀ v As', Q v As' → At R d (As' ++ F) (gr fn kd n (putO e dst v) ds (.inRegion ops rest :: k) cs))
  (ho : nthO ops i = some ⟨dst, .call ⟨.value fo, args, ats⟩, ty, pos, af, gd⟩ := by rfl) (hw : wantB ops n e gd = true := by rfl) (hf : ev n e fo = .func (.func f) #[] #[] := by rfl) (hv : args.toList.map (ev n e) = vl := by rfl) : At R d (A ++ F) (gr fn kd n e ds (.inRegion ops (i :: rest) :: k) cs) := by
 refine C.gen ho hw fun H s => ?_
 unfold execOp
 simp only
 refine okS_do ?_
 have hv' : args.map (ev n e) = vl.toArray := by rw [← hv, ← Array.toList_map, Array.toArray_toList]
 simp only [resolve, hf, Deferred.ofValue, hv']
 refine okS_do ?_
 show okS P B _ _ _ _
 simp only [Array.empty_append]
 show okS P B (invoke (.fn (.func f) #[]) vl.toArray) H d _
 unfold invoke
 simp only [Array.append_empty]
 refine callFunc_pu (P := P) vl.toArray B H d _ ⟨A ++ F, s, ?_⟩
 exact hs R C .nor d F _ cs trivial fun v As' q => by
  show At R d (As' ++ F) (backTo _ cs v)
  rw [finish_gr ho]
  exact h v As' q
def resV (fu : Func) (n : Nat) (e : Nat → Value) : Option Value :=
 match fu.results.toList with
 | [] => some (.tuple #[])
 | [.tmp t] => some (if t < n then e t else undef)
 | [.tmp t, .tmp u] => some (.tuple #[if t < n then e t else undef, if u < n then e u else undef])
 | [.tmp t, .tmp u, .tmp x] => some (.tuple #[if t < n then e t else undef, if u < n then e u else undef, if x < n then e x else undef])
 | _ => none
theorem results_pu {fu : Func} {v : Value} (h : resV fu n e = some v) : Pu P (results fu (tm n e)) v := by
 have key : results fu (tm n e) = (pure v : Sem Value) := by
  unfold resV at h
  have hl : fu.results = fu.results.toList.toArray := by simp
  generalize fu.results.toList = l at h hl
  split at h <;> first | (cases h; done) | skip
  all_goals (simp only [Option.some.injEq] at h; subst h)
  all_goals simp [results, hl, ← tm_getD, -Array.getD_eq_getD_getElem?]
 rw [key]
 exact Pu.pure v
theorem Closed.home (C : Closed P main B R) {fu : Func} {c : Frame} {v : Value} {kR : List Item} (hf : P.funcs[fn]? = some fu) (hkd : KdOk kd c) (hv : resV fu n e = some v) (h : At R d As (after kd c cs v)) : At R d As (grR fn kd n e [] kR (c :: cs)) := fun H s => by
 cases kd with
 | nor => exact C.back hf (results_pu hv B H d _ (h H s))
 | dfr => exact C.backDef hkd hf (results_pu hv B H d _ (h H s))
theorem Closed.ret0 (C : Closed P main B R) {fu : Func} {cc : Code} {n' : Nat} [b : Body P fn fu cc n'] {c : Frame} {v : Value} {x : Code} (hkd : KdOk kd c) (h : At R d As (after kd c cs v)) (hv : resV fu n e = some v := by rfl) (hx : ck x = .ret := by rfl) : At R d As (gr fn kd n e [] (.code x :: k) (c :: cs)) := fun H s => by
 have z := ck_inv hx; simp only at z; subst z; exact C.ret (C.home b.func hkd hv h H s)
theorem Closed.fin0 (C : Closed P main B R) {fu : Func} {cc : Code} {n' : Nat} [b : Body P fn fu cc n'] {c : Frame} {v : Value} (hkd : KdOk kd c) (h : At R d As (after kd c cs v)) (hv : resV fu n e = some v := by rfl) : At R d As (gr fn kd n e [] [] (c :: cs)) := fun H s => C.fin (C.home b.func hkd hv h H s)
end
end Go.Sl
end
section
set_option linter.unusedVariables false
namespace Go.Sl
open Go.Conc
class Cz (P : Program) (t : TypeId) (z : outParam Nat) : Prop where
 h : ∃ i, P.info? t = some i ∧ i.size = z
class Bz (P : Program) (t : TypeId) (z : outParam Nat) : Prop where
 h : ∃ i, P.info? t = some i ∧ i.bytes = z
class Zv (P : Program) (t : TypeId) (v : outParam Value) : Prop where
 h : ∃ i, P.info? t = some i ∧ i.zero = some v
def aggD : TypeDesc → Bool | .struct _ => true | .array _ _ => true | _ => false
class Ag (P : Program) (t : TypeId) (b : outParam Bool) : Prop where
 h : ∃ u, P.underlying t = some u ∧ aggD u = b
class Fl (P : Program) (s f : Nat) (off : outParam Nat) : Prop where
 h : ∃ fs fl z, P.underlying s = some (.struct fs) ∧ fs[f]? = some fl ∧ fl.offset = off ∧ (∃ i, P.info? fl.type = some i ∧ i.size = z) ∧ z ≠ 0
class El (P : Program) (t : TypeId) (el : outParam TypeId) : Prop where
 h : P.underlying t = some (.slice el)
class Mp (P : Program) (t : TypeId) (key el : outParam TypeId) : Prop where
 h : P.underlying t = some (.map key el)
class Ik (P : Program) (t : TypeId) (k : outParam IntKind) : Prop where
 h : P.underlying t = some (.int k)
class Pt (P : Program) (t : TypeId) (el : outParam TypeId) : Prop where
 h : P.underlying t = some (.pointer el)
def ifaceD : TypeDesc → Bool | .interface _ => true | _ => false
class NI (P : Program) (t : TypeId) : Prop where
 h : ∃ u, P.underlying t = some u ∧ ifaceD u = false
theorem info_of {P : Program} {t : TypeId} {i : TypeInfo} (h : P.types[t]? = some i) : P.info? t = some i := by
 have := (Array.getElem?_eq_some_iff.1 h).1
 show (if t < P.types.size then P.types[t]? else _) = _
 rw [if_pos this, h]
section
variable {P : Program} {B : Bad} {α β : Type} {H : Array Obj} {d : Nat}
theorem okS_pure {a : α} {Q : α → Array Obj → Nat → Prop} (h : Q a H d) : okS P B (pure a) H d Q := h
theorem pu_typeInfo {t : TypeId} {i : TypeInfo} (h : P.info? t = some i) : Pu P (typeInfo t) i := fun B H d Q q => by
 unfold typeInfo; refine okS_do ?_; show okS P B _ _ _ _; simp only [program, okS, h]; exact q
theorem pu_und {t : TypeId} {u : TypeDesc} (h : P.underlying t = some u) : Pu P (underlying t) u := fun B H d Q q => by
 unfold underlying; refine okS_do ?_; show okS P B _ _ _ _; simp only [program, okS, h]; exact q
theorem pu_size {t : TypeId} {z : Nat} [c : Cz P t z] : Pu P (sizeOf t) z := fun B H d Q q => by
 obtain ⟨i, h, rfl⟩ := c.h
 unfold sizeOf; exact okS_do (pu_typeInfo h B H d _ q)
theorem pu_zero {t : TypeId} {v : Value} [c : Zv P t v] : Pu P (zeroValue t) v := fun B H d Q q => by
 obtain ⟨i, h, hz⟩ := c.h
 unfold zeroValue; refine okS_do (pu_typeInfo h B H d _ ?_); rw [hz]; exact q
theorem pu_agg {t : TypeId} {b : Bool} [c : Ag P t b] : Pu P (isAgg t) b := fun B H d Q q => by
 obtain ⟨u, h, hb⟩ := c.h
 unfold isAgg; refine okS_do (pu_und h B H d _ ?_); subst hb; cases u <;> exact q
theorem okS_load {m : Mode} {a : Addr} {c : Array Value} {ty : TypeId} {fr : Nat × Nat} {v : Value} {Q : Value → Array Obj → Nat → Prop} (h1 : hp H a.block = some (.cells c ty fr)) (h2 : a.spot = none) (h3 : c[a.off]? = some v) (h4 : m = .plain → B.sh ty a.off = false) (h : Q v H d) : okS P B (load a m) H d Q :=
 ⟨c, ty, v, ⟨fr, h1⟩, h2, h3, fun e => .inr (h4 e), h⟩
theorem okS_load0 {m : Mode} {a : Addr} {c : Array Value} {ty : TypeId} {fr : Nat × Nat} {v : Value} {Q : Value → Array Obj → Nat → Prop} (h1 : hp H a.block = some (.cells c ty fr)) (h2 : a.spot = none) (h3 : c[a.off]? = some v) (h4 : a.block < B.bot) (h : Q v H d) : okS P B (load a m) H d Q :=
 ⟨c, ty, v, ⟨fr, h1⟩, h2, h3, fun _ => .inl h4, h⟩
theorem add_zero (a : Addr) : a.add 0 = a := by simp [Addr.add]
theorem add_of (b off n : Nat) : (⟨b, off, none⟩ : Addr).add n = ⟨b, off + n, none⟩ := by
 unfold Addr.add; split
 ·rename_i h; subst h; rfl
 ·rfl
theorem okS_loadCellsFrom {b off : Nat} {c : Array Value} {ty : TypeId} {fr : Nat × Nat} (h1 : hp H b = some (.cells c ty fr)) : ∀ (z i : Nat) (acc : Array Value) {Q : Array Value → Array Obj → Nat → Prop}, off + i + z ≤ c.size → (∀ j, B.sh ty j = false) → Q (acc ++ c.extract (off + i) (off + i + z)) H d → okS P B (loadCellsFrom ⟨b, off, none⟩ i z acc) H d Q
 | 0, i, acc, Q, _, _, q => by
  unfold loadCellsFrom; refine okS_pure ?_
  have : c.extract (off + i) (off + i + 0) = #[] := by simp; omega
  rw [this, Array.append_empty] at q; exact q
 | z + 1, i, acc, Q, hz, hs, q => by
  unfold loadCellsFrom
  refine okS_do ?_
  have hlt : off + i < c.size := by omega
  refine okS_load (c := c) (ty := ty) (v := c[off + i]) (by rw [add_of]; exact h1) (by rw [add_of]) (by rw [add_of]; exact Array.getElem?_eq_getElem hlt) (fun _ => hs _) ?_
  refine okS_loadCellsFrom h1 z (i + 1) _ (by omega) hs ?_
  have : acc.push c[off + i] ++ c.extract (off + (i + 1)) (off + (i + 1) + z) = acc ++ c.extract (off + i) (off + i + (z + 1)) := by
   apply Array.ext_getElem?
   intro j
   simp only [Array.getElem?_append, Array.size_push, Array.getElem?_push, Array.getElem?_extract]
   by_cases h1 : j < acc.size
   ·simp [h1, Nat.lt_succ_of_lt h1, Nat.ne_of_lt h1]
   ·by_cases h2 : j = acc.size
    ·subst h2; simp; omega
    ·have : ¬ j < acc.size + 1 := by omega
     simp only [this, h1, if_false, h2]
     have e1 : off + (i + 1) + (j - (acc.size + 1)) = off + i + (j - acc.size) := by omega
     rw [e1]
     congr 1
     simp only [eq_iff_iff]
     omega
  rw [this]; exact q
theorem okS_loadCells {b off z : Nat} {c : Array Value} {ty : TypeId} {fr : Nat × Nat} {Q : Array Value → Array Obj → Nat → Prop} (h1 : hp H b = some (.cells c ty fr)) (hz : off + z ≤ c.size) (hs : ∀ j, B.sh ty j = false) (q : Q (c.extract off (off + z)) H d) : okS P B (loadCells ⟨b, off, none⟩ z) H d Q := by
 unfold loadCells
 refine okS_loadCellsFrom (off := off) h1 z 0 #[] (by omega) hs ?_
 simpa using q
theorem okS_loadVar1 {t : TypeId} [Ag P t false] {b off : Nat} {c : Array Value} {ty : TypeId} {fr : Nat × Nat} {v : Value} {Q : Value → Array Obj → Nat → Prop} (h1 : hp H b = some (.cells c ty fr)) (h3 : c[off]? = some v) (h4 : B.sh ty off = false) (h : Q v H d) : okS P B (loadVar t ⟨b, off, none⟩) H d Q := by
 unfold loadVar
 exact okS_do (pu_agg B H d _ (okS_load h1 rfl h3 (fun _ => h4) h))
theorem okS_loadVar0 {t : TypeId} [Ag P t false] {b off : Nat} {c : Array Value} {ty : TypeId} {fr : Nat × Nat} {v : Value} {Q : Value → Array Obj → Nat → Prop} (h1 : hp H b = some (.cells c ty fr)) (h3 : c[off]? = some v) (h4 : b < B.bot) (h : Q v H d) : okS P B (loadVar t ⟨b, off, none⟩) H d Q := by
 unfold loadVar
 exact okS_do (pu_agg B H d _ (okS_load0 h1 rfl h3 h4 h))
theorem okS_loadVarS {t : TypeId} {z : Nat} [Ag P t true] [Cz P t z] {b off : Nat} {c : Array Value} {ty : TypeId} {fr : Nat × Nat} {Q : Value → Array Obj → Nat → Prop} (h1 : hp H b = some (.cells c ty fr)) (hz : off + z ≤ c.size) (hs : ∀ j, B.sh ty j = false) (h : Q (.agg (c.extract off (off + z))) H d) : okS P B (loadVar t ⟨b, off, none⟩) H d Q := by
 unfold loadVar
 refine okS_do (pu_agg B H d _ ?_)
 simp only [if_true]
 exact okS_do (pu_size B H d _ (okS_do (okS_loadCells h1 hz hs h)))
def wr (c : Array Value) (off : Nat) : List Value → Array Value
 | [] => c
 | v :: l => wr (c.setIfInBounds off v) (off + 1) l
theorem wr_size : ∀ (l : List Value) (c : Array Value) (off : Nat), (wr c off l).size = c.size
 | [], c, off => rfl
 | v :: l, c, off => by unfold wr; rw [wr_size l]; simp
theorem hp_set {b : Nat} {o o' : Obj} (h : hp H b = some o) : hp (H.setIfInBounds b o') b = some o' := by
 unfold hp at h ⊢; exact Array.getElem?_setIfInBounds_self_of_lt (Array.getElem?_eq_some_iff.1 h).1
theorem setH_setH {b : Nat} {o o' : Obj} : (H.setIfInBounds b o).setIfInBounds b o' = H.setIfInBounds b o' := by
 apply Array.ext_getElem?
 intro i
 simp only [Array.getElem?_setIfInBounds]
 by_cases h : b = i
 ·subst h; simp
 ·simp [h]
theorem set_self {b : Nat} {o : Obj} (h : hp H b = some o) : H.setIfInBounds b o = H := by
 apply Array.ext_getElem?
 intro i
 simp only [Array.getElem?_setIfInBounds]
 by_cases z : b = i
 ·subst z; unfold hp at h; have := (Array.getElem?_eq_some_iff.1 h).1; rw [if_pos rfl, if_pos this, h]
 ·simp [z]
theorem okS_storeCells {b off : Nat} {ty : TypeId} : ∀ (l : List Value) (i : Nat) {H : Array Obj} {c : Array Value} {Q : Unit → Array Obj → Nat → Prop}, hp H b = some (.cells c ty (0, 0)) → off + i + l.length ≤ c.size → (∀ v ∈ l, oneCell v = true) → (∀ j, off + i ≤ j → j < off + i + l.length → B.rd b ty j = false ∧ B.sh ty j = false) →
  Q () (H.setIfInBounds b (.cells (wr c (off + i) l) ty (0, 0))) d → okS P B (storeCells ⟨b, off, none⟩ l i) H d Q
 | [], i, H, c, Q, h1, _, _, _, q => by
  unfold storeCells; refine okS_pure ?_
  have : H.setIfInBounds b (.cells (wr c (off + i) []) ty (0, 0)) = H := set_self h1
  rw [this] at q; exact q
 | v :: l, i, H, c, Q, h1, hz, hv, hb, q => by
  unfold storeCells
  refine okS_do ?_
  simp only [List.length_cons] at hz hb
  have hb0 := hb (off + i) (Nat.le_refl _) (by omega)
  rw [add_of]
  refine ⟨hv v (List.mem_cons_self ..), c, ty, h1, rfl, by simp; omega, hb0.1, fun _ => hb0.2, ?_⟩
  refine okS_storeCells (off := off) l (i + 1) (hp_set h1) (by simp; omega) (fun v hv' => hv v (List.mem_cons_of_mem _ hv')) (fun j h1 h2 => hb j (by omega) (by omega)) ?_
  rw [setH_setH]; exact q
theorem okS_storeVar {t : TypeId} {z : Nat} [Cz P t z] {b off : Nat} {c : Array Value} {ty : TypeId} {v : Value} {Q : Unit → Array Obj → Nat → Prop} (h1 : hp H b = some (.cells c ty (0, 0))) (hsz : v.cells.size = z) (hz : off + z ≤ c.size) (hv : ∀ x ∈ v.cells, oneCell x = true)
  (hb : ∀ j, off ≤ j → j < off + z → B.rd b ty j = false ∧ B.sh ty j = false) (q : Q () (H.setIfInBounds b (.cells (wr c off v.cells.toList) ty (0, 0))) d) : okS P B (storeVar t ⟨b, off, none⟩ v) H d Q := by
 unfold storeVar
 refine okS_do (pu_size B H d _ ?_)
 rw [if_neg (by rw [hsz]; simp)]
 refine okS_storeCells (off := off) v.cells.toList 0 h1 (by simp [hsz]; omega) (fun x hx => hv x (Array.mem_toList_iff.1 hx)) (fun j h2 h3 => hb j (by omega) (by simp [hsz] at h3; omega)) q
end
section
variable {P : Program} {main : Bool} {B : Bad} {R : Nat → Goroutine → Array Obj → Prop} {d : Nat} {As As' : List HP}
variable {fn : FuncId} {kd : Kd} {n : Nat} {e : Nat → Value} {ds : List Deferred} {k : List Item} {cs : List Frame}
variable {ops : Array Oper} {i : Nat} {rest : List Nat} {dst : Option Nat} {t : Nat} {ty : TypeId} {pos : String} {af : Array Edge} {gd : Option (Nat × Bool)} {x y : Operand} {v : Value} {u : Array Value} {b off : Nat} {c : Array Value} {el tt : TypeId}
theorem Closed.mv (C : Closed P main B R) (ho : nthO ops i = some ⟨some t, .move x, ty, pos, af, gd⟩) (h : At R d As (gr fn kd n (put e t v) ds (.inRegion ops rest :: k) cs))
  (hx : ev n e x = v := by conv => { lhs; whnf }) (hw : wantB ops n e gd = true := by rfl) : At R d As (gr fn kd n e ds (.inRegion ops (i :: rest) :: k) cs) :=
 C.val ho hw (fun _ _ _ _ q => by unfold execOp; simp only [hx]; exact q) h
theorem Closed.asg (C : Closed P main B R) (ho : nthO ops i = some ⟨some t, .assign x, ty, pos, af, gd⟩) (h : At R d As (gr fn kd n (put e t v) ds (.inRegion ops rest :: k) cs))
  (hx : ev n e x = v := by conv => { lhs; whnf }) (hw : wantB ops n e gd = true := by rfl) : At R d As (gr fn kd n e ds (.inRegion ops (i :: rest) :: k) cs) :=
 C.val ho hw (fun _ _ _ _ q => by unfold execOp; simp only [hx]; exact q) h
theorem Closed.nc (C : Closed P main B R) {a : Addr} (ho : nthO ops i = some ⟨some t, .nilCheck x, ty, pos, af, gd⟩) (h : At R d As (gr fn kd n (put e t (.pointer (some a))) ds (.inRegion ops rest :: k) cs))
  (hx : ev n e x = .pointer (some a) := by rfl) (hw : wantB ops n e gd = true := by rfl) : At R d As (gr fn kd n e ds (.inRegion ops (i :: rest) :: k) cs) :=
 C.val ho hw (fun _ _ _ _ q => by unfold execOp; simp only [hx]; exact q) h
theorem Closed.fa (C : Closed P main B R) {s f o : Nat} [c : Fl P s f o] (ho : nthO ops i = some ⟨some t, .fieldAddr s x f, ty, pos, af, gd⟩) (h : At R d As (gr fn kd n (put e t (.pointer (some ⟨b, off + o, none⟩))) ds (.inRegion ops rest :: k) cs))
  (hx : ev n e x = .pointer (some ⟨b, off, none⟩) := by rfl) (hw : wantB ops n e gd = true := by rfl) : At R d As (gr fn kd n e ds (.inRegion ops (i :: rest) :: k) cs) :=
 C.val ho hw (fun B H d Q q => by
  obtain ⟨fs, fl, z, h1, h2, rfl, ⟨inf, h4, h5⟩, h6⟩ := c.h
  unfold execOp; simp only [hx, Instr.fieldAt]
  refine okS_do (okS_do (pu_und h1 B H d _ ?_))
  simp only [h2, Instr.sureAddr]
  refine okS_do (okS_pure ?_)
  unfold fieldPlace sizeOf
  refine okS_do (okS_do (okS_do (pu_typeInfo h4 B H d _ (okS_pure ?_))))
  rw [h5, if_neg h6, add_of]
  exact q) h
theorem Closed.ld (C : Closed P main B R) [Ag P tt false] (ho : nthO ops i = some ⟨some t, .load tt x, ty, pos, af, gd⟩) (h : At R d As (gr fn kd n (put e t v) ds (.inRegion ops rest :: k) cs))
  (hx : ev n e x = .pointer (some ⟨b, off, none⟩) := by rfl) (hh : Kn As b (.cells c el (0, 0)) := by first | (apply Has.kn; (repeat (first | with_reducible exact Has.head | with_reducible apply Has.tail)); done) | (apply Ext.kn; assumption; (repeat (first | with_reducible exact Has.head | with_reducible apply Has.tail)); done)) {v0 : Value} (hc : c[off]? = some v0 := by rfl) (hcv : v0 = v := by first | ((conv => { lhs; whnf }); done) | rfl) (hs : B.sh el off = false := by rfl) (hw : wantB ops n e gd = true := by rfl) : At R d As (gr fn kd n e ds (.inRegion ops (i :: rest) :: k) cs) :=
 C.gen ho hw fun H s => by
  unfold execOp; simp only [hx, Instr.loadAt, Instr.sureAddr]
  exact okS_do (okS_do (okS_pure (okS_loadVar1 (hh _ s) (hcv ▸ hc) hs ⟨As, s, h⟩)))
theorem Closed.ldS (C : Closed P main B R) {z : Nat} [Ag P tt true] [Cz P tt z] (ho : nthO ops i = some ⟨some t, .load tt x, ty, pos, af, gd⟩) (h : At R d As (gr fn kd n (put e t (.agg u)) ds (.inRegion ops rest :: k) cs))
  (hx : ev n e x = .pointer (some ⟨b, off, none⟩) := by rfl) (hh : Kn As b (.cells c el (0, 0)) := by first | (apply Has.kn; (repeat (first | with_reducible exact Has.head | with_reducible apply Has.tail)); done) | (apply Ext.kn; assumption; (repeat (first | with_reducible exact Has.head | with_reducible apply Has.tail)); done)) (hz : off + z ≤ c.size := by first | decide | (simp only [Nat.zero_add, Nat.reduceAdd, List.size_toArray, List.length_cons, List.length_nil]; decide)) (hc : c.extract off (off + z) = u := by first | (simp only [Nat.zero_add, Nat.reduceAdd, List.extract_toArray, List.extract_eq_take_drop, List.drop_zero, List.drop_succ_cons, List.take_succ_cons, List.take_zero, Nat.sub_zero, Nat.reduceSub]; done) | (simp only [Nat.zero_add, Nat.reduceAdd, List.extract_toArray, List.extract_eq_take_drop, List.drop_zero, List.drop_succ_cons, List.take_succ_cons, List.take_zero, Nat.sub_zero, Nat.reduceSub]; rfl) | rfl) (hs : ∀ j, B.sh el j = false := by intro j; rfl) (hw : wantB ops n e gd = true := by rfl) : At R d As (gr fn kd n e ds (.inRegion ops (i :: rest) :: k) cs) :=
 C.gen ho hw fun H s => by
  unfold execOp; simp only [hx, Instr.loadAt, Instr.sureAddr]
  exact okS_do (okS_do (okS_pure (okS_loadVarS (hh _ s) hz hs ⟨As, s, hc ▸ h⟩)))
theorem Closed.st (C : Closed P main B R) [Cz P tt 1] (ho : nthO ops i = some ⟨none, .store tt x y, ty, pos, af, gd⟩) (h : At R d As' (gr fn kd n e ds (.inRegion ops rest :: k) cs))
  (hx : ev n e x = .pointer (some ⟨b, off, none⟩) := by rfl) (hy : ev n e y = v := by conv => { lhs; whnf }) (hv : oneCell v = true := by rfl)
  {c' : Array Value} (hu : Upd b (.cells c el (0, 0)) (.cells c' el (0, 0)) As As' := by repeat (first | with_reducible exact Upd.head | with_reducible apply Upd.tail)) (hcc : c.setIfInBounds off v = c' := by first | (simp only [Nat.zero_add, Nat.reduceAdd, List.setIfInBounds_toArray, List.set_cons_succ, List.set_cons_zero]; done) | (simp only [Nat.zero_add, Nat.reduceAdd, List.setIfInBounds_toArray, List.set_cons_succ, List.set_cons_zero]; rfl) | rfl) (hz : off < c.size := by first | decide | (simp only [Nat.zero_add, Nat.reduceAdd, List.size_toArray, List.length_cons, List.length_nil]; decide)) (hr : B.rd b el off = false := by rfl) (hs : B.sh el off = false := by rfl) (hw : wantB ops n e gd = true := by rfl) : At R d As (gr fn kd n e ds (.inRegion ops (i :: rest) :: k) cs) :=
 C.gen ho hw fun H s => by
  subst hcc
  have hcells : v.cells = #[v] := by cases v <;> first | rfl | (simp [oneCell] at hv)
  unfold execOp; simp only [hx, hy, Instr.storeAt, Instr.sureAddr]
  refine okS_do (okS_do (okS_pure (okS_storeVar (hu.has.get s) (by rw [hcells]; rfl) hz (fun z hz' => by rw [hcells] at hz'; simp at hz'; subst hz'; exact hv) (fun j h1 h2 => by
   have : j = off := by omega
   subst this; exact ⟨hr, hs⟩) ?_)))
  refine ⟨As', ?_, h⟩
  rw [hcells]
  exact hu.set s
theorem Closed.stS (C : Closed P main B R) {z : Nat} [Cz P tt z] {xs : Array Value} (ho : nthO ops i = some ⟨none, .store tt x y, ty, pos, af, gd⟩) (h : At R d As' (gr fn kd n e ds (.inRegion ops rest :: k) cs))
  (hx : ev n e x = .pointer (some ⟨b, off, none⟩) := by rfl) (hy : ev n e y = .agg xs := by rfl) (hv : ∀ v ∈ xs.toList, oneCell v = true := by simp [oneCell]) (hxs : xs.size = z := by rfl)
  {c' : Array Value} (hu : Upd b (.cells c el (0, 0)) (.cells c' el (0, 0)) As As' := by repeat (first | with_reducible exact Upd.head | with_reducible apply Upd.tail)) (hcc : wr c off xs.toList = c' := by first | (simp only [Nat.zero_add, Nat.reduceAdd, List.setIfInBounds_toArray, List.set_cons_succ, List.set_cons_zero, wr, List.toList_toArray]; done) | (simp only [Nat.zero_add, Nat.reduceAdd, List.setIfInBounds_toArray, List.set_cons_succ, List.set_cons_zero, wr, List.toList_toArray]; rfl) | rfl) (hz : off + z ≤ c.size := by first | decide | (simp only [Nat.zero_add, Nat.reduceAdd, List.size_toArray, List.length_cons, List.length_nil]; decide)) (hr : ∀ j, B.rd b el j = false := by intro j; rfl) (hs : ∀ j, B.sh el j = false := by intro j; rfl) (hw : wantB ops n e gd = true := by rfl) : At R d As (gr fn kd n e ds (.inRegion ops (i :: rest) :: k) cs) :=
 C.gen ho hw fun H s => by
  subst hcc
  unfold execOp; simp only [hx, hy, Instr.storeAt, Instr.sureAddr]
  exact okS_do (okS_do (okS_pure (okS_storeVar (v := .agg xs) (hu.has.get s) hxs hz (fun z hz' => hv z (Array.mem_toList_iff.2 hz')) (fun j h1 h2 => ⟨hr j, hs j⟩) ⟨As', hu.set s, h⟩)))
theorem Closed.ia (C : Closed P main B R) {z len cap : Nat} {kk : IntKind} {j : Int} {o : Nat} [c : El P tt el] [Cz P el z] (ho : nthO ops i = some ⟨some t, .indexAddr tt x y, ty, pos, af, gd⟩) (h : At R d As (gr fn kd n (put e t (.pointer (some ⟨b, o, none⟩))) ds (.inRegion ops rest :: k) cs))
  (hx : ev n e x = .slice (some ⟨b, off, none⟩) len cap := by rfl) (hy : ev n e y = .int kk j := by rfl) (hj : 0 ≤ j ∧ j < len := by constructor <;> omega) (hoff : off + j.toNat * z = o := by rfl) (hw : wantB ops n e gd = true := by rfl) : At R d As (gr fn kd n e ds (.inRegion ops (i :: rest) :: k) cs) :=
 C.val ho hw (fun B H d Q q => by
  unfold execOp; simp only [hx, hy, Instr.indexAt, asIntOf]
  refine okS_do (okS_do (okS_pure ?_))
  refine okS_do (pu_und c.h B H d _ ?_)
  refine okS_do (okS_pure ?_)
  refine okS_do (pu_und c.h B H d _ ?_)
  simp only
  rw [if_pos hj]
  refine okS_do (pu_size B H d _ (okS_pure ?_))
  rw [add_of, hoff]
  exact q) h
end
end Go.Sl
end
section
set_option linter.unusedVariables false
namespace Go.Sl
open Go.Conc
theorem w64 {r : Int} (h1 : -9223372036854775808 ≤ r) (h2 : r ≤ 9223372036854775807) : IntKind.i64.wrap r = r := by rw [IntKind.wrap_i64]; omega
theorem w32 {r : Int} (h1 : -2147483648 ≤ r) (h2 : r ≤ 2147483647) : IntKind.i32.wrap r = r := by rw [IntKind.wrap_i32]; omega
theorem wu8 {r : Int} (h1 : 0 ≤ r) (h2 : r ≤ 255) : IntKind.u8.wrap r = r := by rw [IntKind.wrap_u8]; omega
section
variable {P : Program} {main : Bool} {B : Bad} {R : Nat → Goroutine → Array Obj → Prop} {d : Nat} {As As' : List HP}
variable {fn : FuncId} {kd : Kd} {n : Nat} {e : Nat → Value} {ds : List Deferred} {k : List Item} {cs : List Frame}
variable {ops : Array Oper} {i : Nat} {rest : List Nat} {dst : Option Nat} {t : Nat} {ty : TypeId} {pos : String} {af : Array Edge} {gd : Option (Nat × Bool)} {x y z : Operand} {v u : Value} {b off : Nat} {c : Array Value} {el tt t2 : TypeId}
variable {kk : IntKind} {p q r : Int}
theorem pu_guard_int {op : BinOp} {k1 k2 : IntKind} : Pu P (eqGuard op tt x y (.int k1 p) (.int k2 q)) () := by cases op <;> exact fun _ _ _ _ h => h
abbrev Nx (R : Nat → Goroutine → Array Obj → Prop) (d : Nat) (As : List HP) (fn : FuncId) (kd : Kd) (n : Nat) (e : Nat → Value) (ds : List Deferred) (ops : Array Oper) (rest : List Nat) (k : List Item) (cs : List Frame) (t : Nat) (v : Value) : Prop :=
 At R d As (gr fn kd n (put e t v) ds (.inRegion ops rest :: k) cs)
abbrev Nw (R : Nat → Goroutine → Array Obj → Prop) (d : Nat) (As : List HP) (fn : FuncId) (kd : Kd) (n : Nat) (e : Nat → Value) (ds : List Deferred) (ops : Array Oper) (i : Nat) (rest : List Nat) (k : List Item) (cs : List Frame) : Prop :=
 At R d As (gr fn kd n e ds (.inRegion ops (i :: rest) :: k) cs)
def arith (op : BinOp) (p q : Int) : Option Int := match op with | .add => some (p + q) | .sub => some (p - q) | .mul => some (p * q) | _ => none
theorem pu_arith {op : BinOp} (h : arith op p q = some r) (hr : kk.wrap r = r) : Pu P (binOp op tt (.int kk p) (.int kk q)) (.int kk r) := by
 intro B H d Q q'
 cases op <;> simp only [arith, Option.some.injEq] at h <;> first | (cases h; done) | skip
 all_goals (subst h; unfold binOp; simp only [ne_eq, not_true_eq_false, if_false, Op.intArith, hr]; exact q')
theorem Closed.ar (C : Closed P main B R) {op : BinOp} (ho : nthO ops i = some ⟨some t, .binOp op tt x y t2, ty, pos, af, gd⟩) (h : Nx R d As fn kd n e ds ops rest k cs t (.int kk r))
  (hx : ev n e x = .int kk p := by rfl) (hy : ev n e y = .int kk q := by rfl) (ha : arith op p q = some r := by rfl) (hr : kk.wrap r = r := by first | exact w64 (by omega) (by omega) | exact w32 (by omega) (by omega) | exact wu8 (by omega) (by omega)) (hw : wantB ops n e gd = true := by rfl) : Nw R d As fn kd n e ds ops i rest k cs :=
 C.val ho hw (fun B H d Q q' => by
  unfold execOp; simp only [hx, hy]
  exact okS_do (okS_do (pu_guard_int B H d _ (pu_arith ha hr B H d _ q')))) h
theorem Closed.rem (C : Closed P main B R) (ho : nthO ops i = some ⟨some t, .binOp .rem tt x y t2, ty, pos, af, gd⟩) (h : Nx R d As fn kd n e ds ops rest k cs t (.int kk (p.tmod q)))
  (hx : ev n e x = .int kk p := by rfl) (hy : ev n e y = .int kk q := by rfl) (h0 : q ≠ 0 := by first | decide | omega) (hw : wantB ops n e gd = true := by rfl) : Nw R d As fn kd n e ds ops i rest k cs :=
 C.val ho hw (fun B H d Q q' => by
  unfold execOp; simp only [hx, hy]
  refine okS_do (okS_do (pu_guard_int B H d _ ?_))
  unfold binOp; simp only [ne_eq, not_true_eq_false, if_false, Op.intDiv, if_neg h0]; exact q') h
def cmpP (op : BinOp) (p q : Int) : Option Prop := match op with | .eql => some (p = q) | .neq => some (p ≠ q) | .lss => some (p < q) | .leq => some (p ≤ q) | .gtr => some (p > q) | .geq => some (p ≥ q) | _ => none
def cmpB (op : BinOp) (p q : Int) : Bool := match op with | .eql => p == q | .neq => p != q | .lss => p < q | .leq => p ≤ q | .gtr => p > q | .geq => p ≥ q | _ => false
theorem cmp_iff {op : BinOp} {φ : Prop} (h : cmpP op p q = some φ) : cmpB op p q = true ↔ φ := by
 cases op <;> simp only [cmpP, Option.some.injEq] at h <;> first | (cases h; done) | (subst h; simp [cmpB])
theorem pu_cmp {op : BinOp} {φ : Prop} (h : cmpP op p q = some φ) : Pu P (binOp op tt (.int kk p) (.int kk q)) (.bool (cmpB op p q)) := by
 intro B H d Q q'
 cases op <;> simp only [cmpP, Option.some.injEq] at h <;> first | (cases h; done) | skip
 all_goals (unfold binOp; simp only [ne_eq, not_true_eq_false, if_false, Op.intCmp]; exact q')
theorem Closed.cmp (C : Closed P main B R) {op : BinOp} {φ : Prop} (ho : nthO ops i = some ⟨some t, .binOp op tt x y t2, ty, pos, af, gd⟩) (h1 : φ → Nx R d As fn kd n e ds ops rest k cs t (.bool true)) (h2 : ¬ φ → Nx R d As fn kd n e ds ops rest k cs t (.bool false))
  (hx : ev n e x = .int kk p := by rfl) (hy : ev n e y = .int kk q := by rfl) (hc : cmpP op p q = some φ := by rfl) (hw : wantB ops n e gd = true := by rfl) : Nw R d As fn kd n e ds ops i rest k cs := by
 have key : Nx R d As fn kd n e ds ops rest k cs t (.bool (cmpB op p q)) := by
  cases hb : cmpB op p q with
  | true => exact h1 ((cmp_iff hc).1 hb)
  | false => exact h2 fun f => by rw [(cmp_iff hc).2 f] at hb; cases hb
 exact C.val ho hw (fun B H d Q q' => by
  unfold execOp; simp only [hx, hy]
  exact okS_do (okS_do (pu_guard_int B H d _ (pu_cmp hc B H d _ q')))) key
theorem Closed.cmpT (C : Closed P main B R) {op : BinOp} {φ : Prop} (ho : nthO ops i = some ⟨some t, .binOp op tt x y t2, ty, pos, af, gd⟩) (h : Nx R d As fn kd n e ds ops rest k cs t (.bool true))
  (hx : ev n e x = .int kk p := by rfl) (hy : ev n e y = .int kk q := by rfl) (hc : cmpP op p q = some φ := by rfl) (hf : φ := by first | decide | omega) (hw : wantB ops n e gd = true := by rfl) : Nw R d As fn kd n e ds ops i rest k cs :=
 C.cmp ho (fun _ => h) (fun f => absurd hf f) hx hy hc hw
theorem Closed.cmpF (C : Closed P main B R) {op : BinOp} {φ : Prop} (ho : nthO ops i = some ⟨some t, .binOp op tt x y t2, ty, pos, af, gd⟩) (h : Nx R d As fn kd n e ds ops rest k cs t (.bool false))
  (hx : ev n e x = .int kk p := by rfl) (hy : ev n e y = .int kk q := by rfl) (hc : cmpP op p q = some φ := by rfl) (hf : ¬ φ := by first | decide | omega) (hw : wantB ops n e gd = true := by rfl) : Nw R d As fn kd n e ds ops i rest k cs :=
 C.cmp ho (fun f => absurd f hf) (fun _ => h) hx hy hc hw
theorem Closed.nt (C : Closed P main B R) {b : Bool} (ho : nthO ops i = some ⟨some t, .unOp .not tt x, ty, pos, af, gd⟩) (h : Nx R d As fn kd n e ds ops rest k cs t (.bool (!b)))
  (hx : ev n e x = .bool b := by rfl) (hw : wantB ops n e gd = true := by rfl) : Nw R d As fn kd n e ds ops i rest k cs :=
 C.val ho hw (fun B H d Q q' => by unfold execOp; simp only [hx]; exact q') h
theorem Closed.ngI (C : Closed P main B R) (ho : nthO ops i = some ⟨some t, .unOp .neg tt x, ty, pos, af, gd⟩) (h : Nx R d As fn kd n e ds ops rest k cs t (.int kk r))
  (hx : ev n e x = .int kk p := by rfl) (hr : kk.wrap (0 - p) = r := by exact w64 (by omega) (by omega)) (hw : wantB ops n e gd = true := by rfl) : Nw R d As fn kd n e ds ops i rest k cs :=
 C.val ho hw (fun B H d Q q' => by unfold execOp; simp only [hx, Op.unary, Op.intArith, hr]; exact q') h
theorem Closed.pk (C : Closed P main B R) {b : Bool} (ho : nthO ops i = some ⟨some t, .pick x y z, ty, pos, af, gd⟩) (h : Nx R d As fn kd n e ds ops rest k cs t v)
  (hx : ev n e x = .bool b := by rfl) (hv : (if b then ev n e y else ev n e z) = v := by conv => { lhs; whnf }) (hw : wantB ops n e gd = true := by rfl) : Nw R d As fn kd n e ds ops i rest k cs :=
 C.val ho hw (fun B H d Q q' => by
  unfold execOp; simp only [hx, asBool]
  refine okS_do (okS_pure ?_)
  cases b <;> (subst hv; exact q')) h
theorem Closed.cv (C : Closed P main B R) {k1 k2 : IntKind} {s1 s2 : TypeId} [c1 : Ik P s1 k1] [c2 : Ik P s2 k2] (ho : nthO ops i = some ⟨some t, .convert s1 s2 x, ty, pos, af, gd⟩) (h : Nx R d As fn kd n e ds ops rest k cs t (.int k2 r))
  (hx : ev n e x = .int k1 p := by rfl) (hr : k2.wrap p = r := by first | exact w64 (by omega) (by omega) | exact w32 (by omega) (by omega) | exact wu8 (by omega) (by omega)) (hw : wantB ops n e gd = true := by rfl) : Nw R d As fn kd n e ds ops i rest k cs :=
 C.val ho hw (fun B H d Q q' => by
  unfold execOp; simp only [hx]
  refine okS_do ?_
  unfold convert
  refine okS_do (pu_und c1.h B H d _ (okS_do (pu_und c2.h B H d _ ?_)))
  simp only [Conv.intToInt, hr]
  exact q') h
theorem Closed.ext (C : Closed P main B R) {vs : Array Value} {ix : Nat} (ho : nthO ops i = some ⟨some t, .extract x ix, ty, pos, af, gd⟩) (h : Nx R d As fn kd n e ds ops rest k cs t v)
  (hx : ev n e x = .tuple vs := by rfl) (hv : vs[ix]? = some v := by rfl) (hw : wantB ops n e gd = true := by rfl) : Nw R d As fn kd n e ds ops i rest k cs :=
 C.val ho hw (fun B H d Q q' => by unfold execOp; simp only [hx, Instr.extract, hv]; exact q') h
theorem Closed.mi (C : Closed P main B R) [c : NI P tt] (ho : nthO ops i = some ⟨some t, .makeInterface tt x, ty, pos, af, gd⟩) (h : Nx R d As fn kd n e ds ops rest k cs t (.iface tt v))
  (hx : ev n e x = v := by conv => { lhs; whnf }) (hw : wantB ops n e gd = true := by rfl) : Nw R d As fn kd n e ds ops i rest k cs :=
 C.val ho hw (fun B H d Q q' => by
  obtain ⟨u, h1, h2⟩ := c.h
  unfold execOp; simp only [hx, Instr.makeInterface]
  refine okS_do (okS_do (pu_und h1 B H d _ ?_))
  cases u <;> first | exact q' | cases h2) h
theorem Closed.mf (C : Closed P main B R) {f : Fn} {a1 a2 : Array Operand} {v1 v2 : List Value} (ho : nthO ops i = some ⟨some t, .makeFunc f a1 a2, ty, pos, af, gd⟩) (h : Nx R d As fn kd n e ds ops rest k cs t (.func f v1.toArray v2.toArray))
  (h1 : a1.toList.map (ev n e) = v1 := by rfl) (h2 : a2.toList.map (ev n e) = v2 := by rfl) (hw : wantB ops n e gd = true := by rfl) : Nw R d As fn kd n e ds ops i rest k cs :=
 C.val ho hw (fun B H d Q q' => by
  have h1' : a1.map (ev n e) = v1.toArray := by rw [← h1, ← Array.toList_map, Array.toArray_toList]
  have h2' : a2.map (ev n e) = v2.toArray := by rw [← h2, ← Array.toList_map, Array.toArray_toList]
  unfold execOp; simp only [Instr.makeFunc, h1', h2']; exact q') h
theorem Closed.al (C : Closed P main B R) {z : Value} [cz : Zv P tt z] (ho : nthO ops i = some ⟨some t, .alloc tt, ty, pos, af, gd⟩) (h : ∀ b, Nx R d (pts b (.cells c tt (0, 0)) :: As) fn kd n e ds ops rest k cs t (.pointer (some ⟨b, 0, none⟩)))
  (hc : z.cells = c := by first | (simp only [Value.cells]; done) | (simp only [Value.cells]; rfl) | rfl) (hw : wantB ops n e gd = true := by rfl) : Nw R d As fn kd n e ds ops i rest k cs :=
 C.gen ho hw fun H s => by
  unfold execOp; simp only [Instr.alloc]
  subst hc
  refine okS_do (okS_do (pu_zero B H d _ ?_))
  exact ⟨_, s.push _, h _⟩
theorem Closed.bx (C : Closed P main B R) (ho : nthO ops i = some ⟨some t, .box tt x, ty, pos, af, gd⟩) (h : ∀ b, Nx R d (pts b (.cells c tt (0, 0)) :: As) fn kd n e ds ops rest k cs t (.pointer (some ⟨b, 0, none⟩)))
  {v0 : Value} (hx0 : ev n e x = v0 := by conv => { lhs; whnf }) (hx : v0.cells = c := by first | (simp only [Value.cells]; done) | (simp only [Value.cells]; rfl) | rfl) (hw : wantB ops n e gd = true := by rfl) : Nw R d As fn kd n e ds ops i rest k cs :=
 C.gen ho hw fun H s => by
  unfold execOp; simp only [Instr.box]
  subst hx0; subst hx
  exact ⟨_, s.push _, h _⟩
inductive SzL (P : Program) : List Field → List (Nat × Nat) → Prop
 | nil : SzL P [] []
 | cons {f : Field} {l : List Field} {m : List (Nat × Nat)} {o z : Nat} (ho : f.offset = o) (h : ∃ i, P.info? f.type = some i ∧ i.size = z) : SzL P l m → SzL P (f :: l) ((o, z) :: m)
theorem SzL.pu {P : Program} {l : List Field} {m : List (Nat × Nat)} (s : SzL P l m) : Pu P (l.mapM fun f => (do pure (f.offset, ← sizeOf f.type) : Sem (Nat × Nat))) m := by
 induction s with
 | nil => rw [List.mapM_nil]; exact Pu.pure _
 | cons ho h _ ih =>
  obtain ⟨i, h, rfl⟩ := h
  subst ho
  rw [List.mapM_cons]
  refine Pu.bind (a := (_, _)) (fun B H d Q q => ?_) (Pu.bind ih (Pu.pure _))
  unfold sizeOf
  exact okS_do (okS_do (pu_typeInfo h B H d _ q))
class Bd (P : Program) (t : TypeId) (pl : outParam (List (Nat × Nat))) : Prop where
 h : ∃ fs, P.underlying t = some (.struct fs) ∧ SzL P fs.toList pl
end
end Go.Sl
end
