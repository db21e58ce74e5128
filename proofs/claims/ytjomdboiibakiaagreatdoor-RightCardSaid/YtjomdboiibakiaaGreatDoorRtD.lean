/-
  Texts that the proof needs, joined: part 4.
-/
import Derived.Test.YtjomdboiibakiaaGreatDoorRtC
section
set_option linter.unusedVariables false
namespace Go.Sl
open Go.Proofs Go.Conc
structure IsGrp (G : Grp) (b : Nat) : Prop where
  blk : G.blk = b
  o1 : G.o1 = 7
  o2 : G.o2 = 8
  ty : G.ty = 92
  sz : G.cs.size = 9
theorem sel2_1 {a b : Nat} {z1 z2 v : Value} {ok : Bool} : commResult #[rcase a z1, rcase b z2] .select 1 v ok = .tuple #[.int .i64 1, .bool ok, z1, v] := by simp [commResult, rcase, goInt]
theorem sel2_0 {a b : Nat} {z1 z2 v : Value} {ok : Bool} : commResult #[rcase a z1, rcase b z2] .select 0 v ok = .tuple #[.int .i64 0, .bool ok, v, z2] := by simp [commResult, rcase, goInt]
theorem leave {h : HG} {C : CG} {G : Grp} (hG : IsGrp G C.b) {r : Goroutine} (hr : LiveRec h C r) : Cl Tryz.prog G 9000 .rel (Conc.served r (commResult #[rcase h.wk .nilFunc, rcase C.dn (.agg #[])] .select 1 (.agg #[]) false)) := by
  obtain ⟨e, cs, ⟨e1, rfl⟩, h0, h1, rfl⟩ := hr
  obtain ⟨blk, o1, o2, gcs, gty⟩ := G
  obtain ⟨e1', e2', e3', e4', hsz⟩ := hG
  simp only at e1' e2' e3' e4' hsz
  subst e1' e2' e3' e4'
  have M := Mt.cl (P := Tryz.prog) (G := ⟨C.b, 7, 8, gcs, 92⟩) (x := .rel)
  rw [served_gr rfl, sel2_1]
  refine M.ext (v := .int .i64 1) rfl ?_
  refine M.bo (v := .bool false) rfl ?_
  refine M.bo (v := .bool true) rfl ?_
  refine M.go ?_
  refine M.fls ?_
  refine M.tru ?_
  refine M.ret ?_
  refine M.home ?_
  unfold backTo
  rw [finish_frm rfl]
  show Cl Tryz.prog _ _ .rel (gr 49 .dfr 11 _ _ _ _)
  refine M.go ?_
  refine M.fin ?_
  refine M.dcall ?_
  refine M.go ?_
  refine M.rg [0, 1] ?_
  refine M.mv rfl ?_
  refine M.cal (f := 48) rfl ?_
  refine M.go ?_
  refine M.tru ?_
  refine M.rg [0, 1] ?_
  refine M.mv rfl ?_
  refine M.bo (v := .bool true) rfl ?_
  refine M.go ?_
  refine M.tru ?_
  refine M.rg [0, 1, 2] ?_
  refine M.mv rfl ?_
  refine M.cvp (ad := ⟨C.b, 7, none⟩) (fun w ⟨c, h1, h2⟩ => ⟨c[7]'(by simp only at h2; omega), by simp only [World.cell?, h1]; simp⟩) rfl ?_
  refine cl_rel rfl (fun w => stepG_mA .releaseMerge rfl rfl (by intro ad g; simp) rfl w) ?_
  have M := Mt.cl (P := Tryz.prog) (G := ⟨C.b, 7, 8, gcs, 92⟩) (x := .dis)
  refine M.go ?_
  refine M.rg [0] ?_
  refine cl_dis rfl (fun w => stepG_m0 .disable rfl rfl (by intro g; simp) w) ?_
  have M := Mt.cl (P := Tryz.prog) (G := ⟨C.b, 7, 8, gcs, 92⟩) (x := .add)
  refine M.go ?_
  refine M.rg [0] ?_
  refine M.dfr rfl ?_
  refine M.go ?_
  refine M.rg [0] ?_
  refine M.asg rfl ?_
  refine M.go ?_
  refine M.rg [0] ?_
  refine M.xk rfl ?_
  refine M.go ?_
  refine M.fls ?_
  refine M.rg [0, 1, 2, 3, 4, 5, 6, 7] ?_
  refine M.mv rfl ?_
  refine M.nc (a := ⟨C.b, 7, none⟩) rfl ?_
  refine M.fa (b := C.b) (off := 7) (o := 0) rfl ?_
  refine M.mv rfl ?_
  refine M.cv (r := 18446744073709551615) rfl ?_
  refine M.bo (v := .int .u64 18446744069414584320) rfl ?_
  refine M.cal (f := 96) rfl ?_
  refine M.go ?_
  refine M.rg [0] ?_
  refine M.asg rfl ?_
  refine M.go ?_
  refine M.rg [0, 1, 2, 3, 4, 5] ?_
  refine M.mv rfl ?_
  refine M.nc (a := ⟨C.b, 7, none⟩) rfl ?_
  refine M.fa (b := C.b) (off := 7) (o := 0) rfl ?_
  refine M.mv rfl ?_
  refine cl_addA rfl ?_ ?_
  · have M := Mt.cl (P := Tryz.prog) (G := ⟨C.b, 7, 8, gcs, 92⟩) (x := .ld)
    refine M.asg rfl ?_
    refine M.go ?_
    refine M.ret ?_
    refine M.home ?_
    unfold backTo
    rw [finish_frm rfl]
    show Cl Tryz.prog _ _ .ld (gr 48 .nor 117 _ _ _ _)
    refine M.asg rfl ?_
    refine M.go ?_
    refine M.rg [0, 1, 2, 3, 4, 5, 6] ?_
    refine M.mv rfl ?_
    refine M.bo rfl ?_
    refine M.bo rfl ?_
    refine M.mv rfl ?_
    refine M.no rfl ?_
    refine M.no rfl ?_
    refine M.pk rfl ?_
    refine M.go ?_
    refine M.fls ?_
    refine M.rg [0, 1, 2, 3] ?_
    refine M.mv rfl ?_
    refine M.bo rfl ?_
    refine M.cv rfl ?_
    refine M.asg rfl ?_
    refine M.go ?_
    refine M.rg [0, 1, 2, 3] ?_
    refine M.mv rfl ?_
    refine M.bo rfl ?_
    refine M.cv rfl ?_
    refine M.asg rfl ?_
    refine M.go ?_
    refine M.rg [0, 1, 2, 3, 4, 5, 6, 7, 8, 9] ?_
    refine M.mv rfl ?_
    refine M.mv rfl ?_
    refine M.bo rfl ?_
    refine M.pk rfl ?_
    refine M.mv rfl ?_
    refine M.no rfl ?_
    refine M.no rfl ?_
    refine M.no rfl ?_
    refine M.no rfl ?_
    refine M.pk rfl ?_
    refine M.go ?_
    refine M.fls ?_
    refine M.rg [0, 1] ?_
    refine M.mv rfl ?_
    refine M.bo rfl ?_
    refine M.go ?_
    refine M.fls ?_
    refine M.rg [0, 1, 2, 3, 4, 5, 6, 7, 8, 9, 10, 11] ?_
    refine M.mv rfl ?_
    refine M.bo rfl ?_
    refine M.mv rfl ?_
    first | refine M.no rfl ?_ | refine M.mv rfl ?_
    first | refine M.no rfl ?_ | refine M.bo rfl ?_
    refine M.pk rfl ?_
    refine M.mv rfl ?_
    refine M.no rfl ?_
    refine M.no rfl ?_
    refine M.no rfl ?_
    refine M.no rfl ?_
    refine M.pk rfl ?_
    refine M.go ?_
    refine M.fls ?_
    refine M.rg [0, 1, 2, 3, 4, 5] ?_
    refine M.mv rfl ?_
    refine M.bo rfl ?_
    refine M.mv rfl ?_
    first | refine M.no rfl ?_ | refine M.mv rfl ?_
    first | refine M.no rfl ?_ | refine M.bo rfl ?_
    refine M.pk rfl ?_
    refine M.go ?_
    refine M.fls ?_
    refine M.rg [0, 1, 2, 3, 4, 5] ?_
    refine M.mv rfl ?_
    refine M.nc rfl ?_
    refine M.fa rfl ?_
    refine M.cal (f := 65) rfl ?_
    refine M.go ?_
    refine M.rg [0] ?_
    refine M.asg rfl ?_
    refine M.go ?_
    refine M.rg [0, 1, 2, 3, 4] ?_
    refine M.mv rfl ?_
    refine M.nc rfl ?_
    refine M.fa rfl ?_
    refine cl_ld rfl (fun w hc => stepG_aL rfl rfl rfl hc) ?_
    have M := Mt.cl (P := Tryz.prog) (G := ⟨C.b, 7, 8, gcs, 92⟩) (x := .sto)
    refine M.asg rfl ?_
    refine M.go ?_
    refine M.ret ?_
    refine M.home ?_
    unfold backTo
    rw [finish_frm rfl]
    show Cl Tryz.prog _ _ .sto (gr 48 .nor 117 _ _ _ _)
    refine M.mv rfl ?_
    refine M.bo rfl ?_
    refine M.go ?_
    refine M.fls ?_
    refine M.rg [0, 1, 2, 3] ?_
    refine M.mv rfl ?_
    refine M.nc rfl ?_
    refine M.fa rfl ?_
    refine M.cal (f := 98) rfl ?_
    refine M.go ?_
    refine M.rg [0, 1, 2, 3, 4] ?_
    refine M.mv rfl ?_
    refine M.nc rfl ?_
    refine M.fa rfl ?_
    refine M.mv rfl ?_
    refine cl_sto rfl (fun w hc hz => stepG_aS rfl rfl rfl rfl hc hz) ?_
    have M := Mt.cl (P := Tryz.prog) (G := ⟨C.b, 7, 8, gcs, 92⟩) (x := .sem)
    refine M.go ?_
    refine M.fin ?_
    refine M.home ?_
    unfold backTo
    rw [finish_frm rfl]
    show Cl Tryz.prog _ _ .sem (gr 48 .nor 117 _ _ _ _)
    refine M.go ?_
    refine M.rg [0] ?_
    refine M.mv rfl ?_
    refine M.go ?_
    refine M.fls ?_
    refine M.lp ?_
    refine M.go ?_
    refine M.rg [0, 1] ?_
    refine M.mv rfl ?_
    refine M.bo rfl ?_
    refine M.go ?_
    refine M.tru ?_
    refine M.rg [0, 1, 2, 3] ?_
    refine M.mv rfl ?_
    refine M.nc rfl ?_
    refine M.fa rfl ?_
    refine cl_sem rfl (wake_ext rfl) (fun w hc hz => stepG_sR rfl rfl rfl hc hz) ?_
    have M := Mt.quits (P := Tryz.prog) (d := 1)
    refine M.go ?_
    refine M.rg [0, 1, 2] ?_
    refine M.mv rfl ?_
    refine M.bo rfl ?_
    refine M.asg rfl ?_
    refine M.go ?_
    refine M.ilp ?_
    refine M.go ?_
    refine M.rg [0, 1] ?_
    refine M.mv rfl ?_
    refine M.bo rfl ?_
    refine M.go ?_
    refine M.fls ?_
    refine M.fin ?_
    refine quits_ena rfl (fun w => stepG_m0D .enable (by intro g; simp) w) ?_
    have M := Mt.quits (P := Tryz.prog) (d := 0)
    refine M.home ?_
    unfold backTo
    rw [finish_frm rfl]
    show QuitsD Tryz.prog _ 0 (gr 50 .dfr 4 _ _ _ _)
    refine M.go ?_
    refine M.fin ?_
    refine M.homeD ?_
    refine M.homeD ?_
    exact quits_end
  · intro v wt hv hw hne
    have M := Mt.quits (P := Tryz.prog) (d := 1)
    have hcase : (v = 0 ∧ wt = 0) ∨ (v = 1 ∧ wt = 0) ∨ (v = 1 ∧ wt = 1) ∨ (v = 2 ∧ wt = 0) ∨ (v = 2 ∧ wt = 1) ∨ (v = 3 ∧ wt = 0) ∨ (v = 3 ∧ wt = 1) := by omega
    rcases hcase with ⟨rfl, rfl⟩ | ⟨rfl, rfl⟩ | ⟨rfl, rfl⟩ | ⟨rfl, rfl⟩ | ⟨rfl, rfl⟩ | ⟨rfl, rfl⟩ | ⟨rfl, rfl⟩
    all_goals
      refine M.asg rfl ?_
      refine M.go ?_
      refine M.ret ?_
      refine M.home ?_
      unfold backTo
      rw [finish_frm rfl]
      show QuitsD Tryz.prog _ 1 (gr 48 .nor 117 _ _ _ _)
      refine M.asg rfl ?_
      refine M.go ?_
      refine M.rg [0, 1, 2, 3, 4, 5, 6] ?_
      refine M.mv rfl ?_
      refine M.bo rfl ?_
      refine M.bo rfl ?_
      refine M.mv rfl ?_
      refine M.no rfl ?_
      refine M.no rfl ?_
      refine M.pk rfl ?_
      refine M.go ?_
      refine M.fls ?_
      refine M.rg [0, 1, 2, 3] ?_
      refine M.mv rfl ?_
      refine M.bo rfl ?_
      refine M.cv rfl ?_
      refine M.asg rfl ?_
      refine M.go ?_
      refine M.rg [0, 1, 2, 3] ?_
      refine M.mv rfl ?_
      refine M.bo rfl ?_
      refine M.cv rfl ?_
      refine M.asg rfl ?_
      refine M.go ?_
      refine M.rg [0, 1, 2, 3, 4, 5, 6, 7, 8, 9] ?_
      refine M.mv rfl ?_
      refine M.mv rfl ?_
      refine M.bo rfl ?_
      refine M.pk rfl ?_
      refine M.mv rfl ?_
      refine M.no rfl ?_
      refine M.no rfl ?_
      refine M.no rfl ?_
      refine M.no rfl ?_
      refine M.pk rfl ?_
      refine M.go ?_
      refine M.fls ?_
      refine M.rg [0, 1] ?_
      refine M.mv rfl ?_
      refine M.bo rfl ?_
      refine M.go ?_
      refine M.fls ?_
      refine M.rg [0, 1, 2, 3, 4, 5, 6, 7, 8, 9, 10, 11] ?_
      refine M.mv rfl ?_
      refine M.bo rfl ?_
      refine M.mv rfl ?_
      first | refine M.no rfl ?_ | refine M.mv rfl ?_
      first | refine M.no rfl ?_ | refine M.bo rfl ?_
      refine M.pk rfl ?_
      refine M.mv rfl ?_
      refine M.no rfl ?_
      refine M.no rfl ?_
      refine M.no rfl ?_
      refine M.no rfl ?_
      refine M.pk rfl ?_
      refine M.go ?_
      refine M.fls ?_
      refine M.rg [0, 1, 2, 3, 4, 5] ?_
      refine M.mv rfl ?_
      refine M.bo rfl ?_
      refine M.mv rfl ?_
      first | refine M.no rfl ?_ | refine M.mv rfl ?_
      first | refine M.no rfl ?_ | refine M.bo rfl ?_
      refine M.pk rfl ?_
      refine M.go ?_
      refine M.tru ?_
      refine M.ret ?_
      refine quits_ena rfl (fun w => stepG_m0D .enable (by intro g; simp) w) ?_
      have M := Mt.quits (P := Tryz.prog) (d := 0)
      refine M.home ?_
      unfold backTo
      rw [finish_frm rfl]
      show QuitsD Tryz.prog _ 0 (gr 50 .dfr 4 _ _ _ _)
      refine M.go ?_
      refine M.fin ?_
      refine M.homeD ?_
      refine M.homeD ?_
      exact quits_end
def MWq (P : Program) (G : Grp) (Fin : Goroutine → Prop) (x : MS) (_ : Nat) (g : Goroutine) : Prop := MW P G Fin x g
section
variable {R : Nat → Goroutine → Array Obj → Prop} {B : Bad} {As : List HP} {b : Nat} {gcs : Array Value} {fr : Frame} {cs : List Frame}
theorem gs_cell {w : World} {o : Nat} (hsz : gcs.size = 9) (ho : o < 9) (h : Gs ⟨b, 7, 8, gcs, 92⟩ w) : ∃ v, w.cell? ⟨b, o, none⟩ = some v := by
  obtain ⟨c, h1, h2⟩ := h
  exact ⟨c[o]'(by simp only at h2; omega), by simp only [World.cell?, h1]; simp⟩
theorem wait_head (C : Closed Tryz.prog true B R) (hsz : gcs.size = 9) (hret : At R 0 As (backTo fr cs (.tuple #[]))) : ∀ (c : Nat), c ≤ 4 → ∀ e : Nat → Value, e 0 = .pointer (some ⟨b, 7, none⟩) →
    MW Tryz.prog ⟨b, 7, 8, gcs, 92⟩ (fun a => At R 0 As a) (.head c) (gr 35 .nor 84 e [] (.code (cB (cB (cR ((Tryz.f35.body).getD .skip)))) :: .inLoop (cB (cB (cR ((Tryz.f35.body).getD .skip)))) :: [.inBlock 0]) (fr :: cs)) := by
  intro c
  induction c using Nat.strongRecOn with
  | ind c ih =>
    intro hc e h0
    have M : ∀ {x : MS}, Mt Tryz.prog true (Gs ⟨b, 7, 8, gcs, 92⟩) (MWq Tryz.prog ⟨b, 7, 8, gcs, 92⟩ (fun a => At R 0 As a) x) := Mt.mw
    rw [← puts_eq (e := e) (l := [(0, .pointer (some ⟨b, 7, none⟩))]) ⟨h0, trivial⟩]
    show MWq _ _ _ _ 900 _
    refine M.go ?_
    refine M.rg [0, 1, 2, 3, 4] ?_
    refine M.mv rfl ?_
    refine M.nc rfl ?_
    refine M.fa rfl ?_
    refine M.cal (f := 65) rfl ?_
    refine M.go ?_
    refine M.rg [0] ?_
    refine M.asg rfl ?_
    refine M.go ?_
    refine M.rg [0, 1, 2, 3, 4] ?_
    refine M.mv rfl ?_
    refine M.nc rfl ?_
    refine M.fa rfl ?_
    refine mw_load rfl ?_ ?_
    · show MWq _ _ _ _ 900 _
      refine M.asg rfl ?_
      refine M.go ?_
      refine M.ret ?_
      refine M.home ?_
      unfold backTo
      rw [finish_frm rfl]
      show MWq _ _ _ _ 900 (gr 35 .nor 84 _ _ _ _)
      refine M.asg rfl ?_
      refine M.go ?_
      refine M.rg [0, 1, 2, 3] ?_
      refine M.mv rfl ?_
      refine M.bo rfl ?_
      refine M.cv rfl ?_
      refine M.asg rfl ?_
      refine M.go ?_
      refine M.rg [0, 1, 2, 3] ?_
      refine M.mv rfl ?_
      refine M.bo rfl ?_
      refine M.cv rfl ?_
      refine M.asg rfl ?_
      refine M.go ?_
      refine M.rg [0, 1] ?_
      refine M.mv rfl ?_
      refine M.bo rfl ?_
      refine M.go ?_
      refine M.tru ?_
      refine M.tru ?_
      refine M.rg [0] ?_
      refine mw_ena rfl ?_
      show MWq _ _ _ _ 900 _
      refine M.go ?_
      refine M.rg [0, 1, 2] ?_
      refine M.mv rfl ?_
      refine M.cvp (ad := ⟨b, 7, none⟩) (fun w h => gs_cell hsz (by decide) h) rfl ?_
      refine mw_acq rfl ?_
      refine C.go ?_
      refine C.rg [0, 1, 2, 3, 4, 5, 6, 7, 8, 9, 10] ?_
      refine C.mv rfl ?_
      refine C.v0 (v := .bool true) rfl ?_ rfl
      refine C.mv rfl ?_
      refine C.mv rfl ?_
      refine C.v0 (v := .int .u64 0) rfl ?_ rfl
      refine C.v0 (v := .bool false) rfl ?_ rfl
      refine C.pk rfl ?_
      refine C.mv rfl ?_
      refine C.no rfl ?_
      refine C.no rfl ?_
      refine C.pk rfl ?_
      refine C.go ?_
      refine C.fls ?_
      exact C.ret0 trivial hret rfl rfl
    · intro v h1 h2
      have hcase : v = 1 ∨ v = 2 ∨ v = 3 ∨ v = 4 := by omega
      have ih' := ih (v - 1) (by omega) (by omega)
      rcases hcase with rfl | rfl | rfl | rfl
      all_goals
        show MWq _ _ _ _ 900 _
        refine M.asg rfl ?_
        refine M.go ?_
        refine M.ret ?_
        refine M.home ?_
        unfold backTo
        rw [finish_frm rfl]
        show MWq _ _ _ _ 900 (gr 35 .nor 84 _ _ _ _)
        refine M.asg rfl ?_
        refine M.go ?_
        refine M.rg [0, 1, 2, 3] ?_
        refine M.mv rfl ?_
        refine M.bo rfl ?_
        refine M.cv rfl ?_
        refine M.asg rfl ?_
        refine M.go ?_
        refine M.rg [0, 1, 2, 3] ?_
        refine M.mv rfl ?_
        refine M.bo rfl ?_
        refine M.cv rfl ?_
        refine M.asg rfl ?_
        refine M.go ?_
        refine M.rg [0, 1] ?_
        refine M.mv rfl ?_
        refine M.bo rfl ?_
        refine M.go ?_
        refine M.fls ?_
        refine M.rg [0, 1, 2, 3, 4, 5, 6] ?_
        refine M.mv rfl ?_
        refine M.nc rfl ?_
        refine M.fa rfl ?_
        refine M.mv rfl ?_
        refine M.mv rfl ?_
        refine M.bo rfl ?_
        refine M.cal (f := 69) rfl ?_
        show MWq _ _ _ _ 900 _
        refine M.go ?_
        refine M.rg [0] ?_
        refine M.asg rfl ?_
        refine M.go ?_
        refine M.rg [0, 1, 2, 3, 4, 5, 6] ?_
        refine M.mv rfl ?_
        refine M.nc rfl ?_
        refine M.fa rfl ?_
        refine M.mv rfl ?_
        refine M.mv rfl ?_
        refine mw_cas rfl ?_ ?_
        · show MWq _ _ _ _ 900 _
          refine M.asg rfl ?_
          refine M.go ?_
          refine M.ret ?_
          refine M.home ?_
          unfold backTo
          rw [finish_frm rfl]
          show MWq _ _ _ _ 900 (gr 35 .nor 84 _ _ _ _)
          refine M.go ?_
          refine M.tru ?_
          refine M.rg [0, 1, 2, 3] ?_
          refine M.mv rfl ?_
          refine M.mv rfl ?_
          refine M.bo rfl ?_
          refine M.pk rfl ?_
          refine M.go ?_
          refine M.tru ?_
          refine M.rg [0, 1, 2, 3, 4] ?_
          refine M.mv rfl ?_
          refine M.nc rfl ?_
          refine M.fa rfl ?_
          refine M.cvp (ad := ⟨b, 8, none⟩) (fun w h => gs_cell hsz (by decide) h) rfl ?_
          refine mw_said rfl ?_
          show MWq _ _ _ _ 900 _
          refine M.go ?_
          refine M.rg [0] ?_
          refine M.asg rfl ?_
          refine M.go ?_
          refine M.rg [0, 1, 2, 3, 4, 5] ?_
          refine M.mv rfl ?_
          refine M.bo rfl ?_
          refine M.bo rfl ?_
          refine M.mv rfl ?_
          refine M.no rfl ?_
          refine M.pk rfl ?_
          refine M.go ?_
          refine M.fls ?_
          refine M.rg [0, 1, 2, 3, 4] ?_
          refine M.mv rfl ?_
          refine M.nc rfl ?_
          refine M.fa rfl ?_
          refine M.mv rfl ?_
          refine mw_sem rfl ?_
          show MWq _ _ _ _ 900 _
          refine M.go ?_
          refine M.rg [0, 1, 2, 3, 4, 5] ?_
          refine M.mv rfl ?_
          refine M.nc rfl ?_
          refine M.fa rfl ?_
          refine M.cal (f := 65) rfl ?_
          refine M.go ?_
          refine M.rg [0] ?_
          refine M.asg rfl ?_
          refine M.go ?_
          refine M.rg [0, 1, 2, 3, 4] ?_
          refine M.mv rfl ?_
          refine M.nc rfl ?_
          refine M.fa rfl ?_
          refine mw_last rfl ?_
          show MWq _ _ _ _ 900 _
          refine M.asg rfl ?_
          refine M.go ?_
          refine M.ret ?_
          refine M.home ?_
          unfold backTo
          rw [finish_frm rfl]
          show MWq _ _ _ _ 900 (gr 35 .nor 84 _ _ _ _)
          refine M.bo rfl ?_
          refine M.asg rfl ?_
          refine M.go ?_
          refine M.tru ?_
          refine M.rg [0] ?_
          refine mw_ena rfl ?_
          show MWq _ _ _ _ 900 _
          refine M.go ?_
          refine M.rg [0, 1, 2] ?_
          refine M.mv rfl ?_
          refine M.cvp (ad := ⟨b, 7, none⟩) (fun w h => gs_cell hsz (by decide) h) rfl ?_
          refine mw_acq rfl ?_
          refine C.go ?_
          refine C.rg [0] ?_
          refine C.mv rfl ?_
          refine C.go ?_
          refine C.fls ?_
          exact C.ret0 trivial hret rfl rfl
        · show MWq _ _ _ _ 900 _
          refine M.asg rfl ?_
          refine M.go ?_
          refine M.ret ?_
          refine M.home ?_
          unfold backTo
          rw [finish_frm rfl]
          show MWq _ _ _ _ 900 (gr 35 .nor 84 _ _ _ _)
          refine M.go ?_
          refine M.fls ?_
          refine M.ilp ?_
          exact ih' _ rfl
theorem wait_mw (C : Closed Tryz.prog true B R) (hsz : gcs.size = 9) (hret : At R 0 As (backTo fr cs (.tuple #[]))) {c : Nat} (hc : c ≤ 4) :
    MW Tryz.prog ⟨b, 7, 8, gcs, 92⟩ (fun a => At R 0 As a) (.dis c) (gr 35 .nor 84 (argE #[.pointer (some ⟨b, 7, none⟩)]) [] [.code ((Tryz.f35.body).getD .skip)] (fr :: cs)) := by
  have M : ∀ {x : MS}, Mt Tryz.prog true (Gs ⟨b, 7, 8, gcs, 92⟩) (MWq Tryz.prog ⟨b, 7, 8, gcs, 92⟩ (fun a => At R 0 As a) x) := Mt.mw
  show MWq _ _ _ _ 900 _
  refine M.go ?_
  refine M.tru ?_
  refine M.rg [0] ?_
  refine mw_dis rfl ?_
  show MWq _ _ _ _ 900 _
  refine M.go ?_
  refine M.lp ?_
  exact wait_head C hsz hret c hc _ rfl
end
end Go.Sl
end
section
set_option linter.unusedVariables false
namespace Go.Sl
open Go.Proofs Go.Conc
section
variable {σ : Gh} {b : Nat} {m : Int} {hosts bag txs dn : Value} {stopped : Bool} {k : Nat}
theorem uadd_spec (hk : k ≤ 3) : Spec Tryz.prog true (barX.bw σ) 96 #[.pointer (some ⟨b, 7, none⟩), .int .u64 4294967296] [clP b m hosts bag txs dn stopped ((k : Int) * KQ)] (fun v As => v = .int .u64 (((k + 1 : Nat) : Int) * KQ) ∧ As = [clP b m hosts bag txs dn stopped (((k + 1 : Nat) : Int) * KQ)]) := by
  have hw : IntKind.u64.wrap ((k : Int) * KQ + 4294967296) = ((k + 1 : Nat) : Int) * KQ := by
    have : (2 ^ IntKind.u64.bits : Int) = 18446744073709551616 := by decide
    simp only [IntKind.wrap, KQ, this]
    rw [if_neg (by simp [IntKind.signed])]
    omega
  refine Spec.of ?_
  intro R C kd d F c cs hkd hret
  simp only [List.cons_append, List.nil_append]
  refine C.go ?_
  refine C.rg [0] ?_
  refine C.asg rfl ?_
  refine C.go ?_
  refine C.rg [0, 1, 2, 3, 4, 5] ?_
  refine C.mv rfl ?_
  refine C.nc rfl ?_
  refine C.fa rfl ?_
  refine C.mv rfl ?_
  refine C.xAdd (z' := ((k + 1 : Nat) : Int) * KQ) rfl ?_ (hz := hw)
  refine C.asg rfl ?_
  refine C.go ?_
  exact C.retR hkd hret ⟨rfl, rfl⟩
theorem add_spec (hk : k ≤ 3) : Spec Tryz.prog true (barX.bw σ) 48 #[.pointer (some ⟨b, 7, none⟩), .int .i64 1] [clP b m hosts bag txs dn stopped ((k : Int) * KQ)] (fun v As => v = .tuple #[] ∧ As = [clP b m hosts bag txs dn stopped (((k + 1 : Nat) : Int) * KQ)]) := by
  refine Spec.of ?_
  intro R C kd d F c cs hkd hret
  simp only [List.cons_append, List.nil_append]
  refine C.go ?_
  refine C.tru ?_
  refine C.rg [0, 1] ?_
  refine C.mv rfl ?_
  refine C.v0 rfl ?_ rfl
  refine C.go ?_
  refine C.fls ?_
  refine C.rg [0] ?_
  refine C.xDis rfl ?_
  refine C.go ?_
  refine C.rg [0] ?_
  refine C.df rfl ?_
  refine C.go ?_
  refine C.rg [0] ?_
  refine C.asg rfl ?_
  refine C.go ?_
  refine C.rg [0] ?_
  refine C.x0 (f := 72) (v := .bool false) rfl rfl ?_
  refine C.go ?_
  refine C.fls ?_
  refine C.rg [0, 1, 2, 3, 4, 5, 6, 7] ?_
  refine C.mv rfl ?_
  refine C.nc rfl ?_
  refine C.fa rfl ?_
  refine C.mv rfl ?_
  refine C.cv rfl ?_ (hr := rfl)
  refine C.v0 rfl ?_ rfl
  refine C.clR (uadd_spec hk) ?_
  rintro v As' ⟨rfl, rfl⟩
  simp only [List.cons_append, List.nil_append]
  have hcase : k = 0 ∨ k = 1 ∨ k = 2 ∨ k = 3 := by omega
  rcases hcase with rfl | rfl | rfl | rfl
  · skip
    refine C.asg rfl ?_
    refine C.go ?_
    refine C.rg [0, 1, 2, 3, 4, 5, 6] ?_
    refine C.mv rfl ?_
    refine C.v0 rfl ?_ rfl
    refine C.v0 rfl ?_ rfl
    refine C.mv rfl ?_
    refine C.no rfl ?_
    refine C.no rfl ?_
    refine C.pk rfl ?_
    refine C.go ?_
    refine C.fls ?_
    refine C.rg [0, 1, 2, 3] ?_
    refine C.mv rfl ?_
    refine C.v0 rfl ?_ rfl
    refine C.cv rfl ?_ (hr := rfl)
    refine C.asg rfl ?_
    refine C.go ?_
    refine C.rg [0, 1, 2, 3] ?_
    refine C.mv rfl ?_
    refine C.v0 rfl ?_ rfl
    refine C.cv rfl ?_ (hr := rfl)
    refine C.asg rfl ?_
    refine C.go ?_
    refine C.rg [0, 1, 2, 3, 4, 5, 6, 7, 8, 9] ?_
    refine C.mv rfl ?_
    refine C.mv rfl ?_
    refine C.v0 rfl ?_ rfl
    refine C.pk rfl ?_
    refine C.mv rfl ?_
    refine C.mv rfl ?_
    refine C.mv rfl ?_
    refine C.cv rfl ?_ (hr := rfl)
    refine C.v0 rfl ?_ rfl
    refine C.pk rfl ?_
    refine C.go ?_
    refine C.tru ?_
    refine C.rg [0, 1, 2, 3, 4] ?_
    refine C.mv rfl ?_
    refine C.nc rfl ?_
    refine C.fa rfl ?_
    refine C.cvp (b := b) (off := 8) rfl ?_
    refine C.xMk (mk := .read) (a := ⟨b, 8, none⟩) rfl ?_ (hm := fun H s => ⟨_, _, Has.get (by repeat (first | with_reducible exact Has.head | with_reducible apply Has.tail)) s⟩)
    refine C.go ?_
    refine C.rg [0, 1] ?_
    refine C.mv rfl ?_
    refine C.v0 rfl ?_ rfl
    refine C.go ?_
    refine C.fls ?_
    refine C.rg [0, 1, 2, 3, 4, 5, 6, 7, 8, 9, 10, 11] ?_
    refine C.mv rfl ?_
    refine C.v0 rfl ?_ rfl
    refine C.mv rfl ?_
    refine C.no rfl ?_
    refine C.no rfl ?_
    refine C.pk rfl ?_
    refine C.mv rfl ?_
    refine C.no rfl ?_
    refine C.no rfl ?_
    refine C.no rfl ?_
    refine C.no rfl ?_
    refine C.pk rfl ?_
    refine C.go ?_
    refine C.fls ?_
    refine C.rg [0, 1, 2, 3, 4, 5] ?_
    refine C.mv rfl ?_
    refine C.v0 rfl ?_ rfl
    refine C.mv rfl ?_
    refine C.no rfl ?_
    refine C.no rfl ?_
    refine C.pk rfl ?_
    refine C.go ?_
    refine C.tru ?_
    refine C.rtA ?_
    refine C.dEna ?_
    exact C.home (fu := Tryz.f48) Tryz.func48 hkd rfl (hret _ _ ⟨rfl, rfl⟩)
  all_goals
    refine C.asg rfl ?_
    refine C.go ?_
    refine C.rg [0, 1, 2, 3, 4, 5, 6] ?_
    refine C.mv rfl ?_
    refine C.v0 rfl ?_ rfl
    refine C.v0 rfl ?_ rfl
    refine C.mv rfl ?_
    refine C.no rfl ?_
    refine C.no rfl ?_
    refine C.pk rfl ?_
    refine C.go ?_
    refine C.fls ?_
    refine C.rg [0, 1, 2, 3] ?_
    refine C.mv rfl ?_
    refine C.v0 rfl ?_ rfl
    refine C.cv rfl ?_ (hr := rfl)
    refine C.asg rfl ?_
    refine C.go ?_
    refine C.rg [0, 1, 2, 3] ?_
    refine C.mv rfl ?_
    refine C.v0 rfl ?_ rfl
    refine C.cv rfl ?_ (hr := rfl)
    refine C.asg rfl ?_
    refine C.go ?_
    refine C.rg [0, 1, 2, 3, 4, 5, 6, 7, 8, 9] ?_
    refine C.mv rfl ?_
    refine C.mv rfl ?_
    refine C.v0 rfl ?_ rfl
    refine C.pk rfl ?_
    refine C.mv rfl ?_
    refine C.mv rfl ?_
    refine C.mv rfl ?_
    refine C.cv rfl ?_ (hr := rfl)
    refine C.v0 rfl ?_ rfl
    refine C.pk rfl ?_
    refine C.go ?_
    refine C.fls ?_
    refine C.rg [0, 1] ?_
    refine C.mv rfl ?_
    refine C.v0 rfl ?_ rfl
    refine C.go ?_
    refine C.fls ?_
    refine C.rg [0, 1, 2, 3, 4, 5, 6, 7, 8, 9, 10, 11] ?_
    refine C.mv rfl ?_
    refine C.v0 rfl ?_ rfl
    refine C.mv rfl ?_
    refine C.no rfl ?_
    refine C.no rfl ?_
    refine C.pk rfl ?_
    refine C.mv rfl ?_
    refine C.no rfl ?_
    refine C.no rfl ?_
    refine C.no rfl ?_
    refine C.no rfl ?_
    refine C.pk rfl ?_
    refine C.go ?_
    refine C.fls ?_
    refine C.rg [0, 1, 2, 3, 4, 5] ?_
    refine C.mv rfl ?_
    refine C.v0 rfl ?_ rfl
    refine C.mv rfl ?_
    refine C.no rfl ?_
    refine C.no rfl ?_
    refine C.pk rfl ?_
    refine C.go ?_
    refine C.tru ?_
    refine C.rtA ?_
    refine C.dEna ?_
    exact C.home (fu := Tryz.f48) Tryz.func48 hkd rfl (hret _ _ ⟨rfl, rfl⟩)
end
end Go.Sl
end
section
set_option linter.unusedVariables false
namespace Go.Sl
open Go.Proofs
variable {main : Bool}
structure TxV extends TxR where
  so : SliceV
  sr : SliceV
def txC (t : TxV) : List Value := [t.so.v, .int .i64 t.state, t.sr.v]
instance : RowF txC 3 := ⟨fun _ => rfl, fun a v h => by simp [txC] at h; rcases h with h | h | h <;> subst h <;> rfl⟩
def ptrC (b : Nat) : List Value := [.pointer (some ⟨b, 0, none⟩)]
instance : RowF ptrC 1 := ⟨fun _ => rfl, fun a v h => by simp [ptrC] at h; subst h; rfl⟩
structure WV where
  sh : List (Nat × ShV)
  bag : List MsgV
  txs : List TxV
  stopped : Bool
def WV.abs (w : WV) : WR := ⟨w.sh.map (·.2.abs), w.bag.map (·.toMsgR), w.txs.map (·.toTxR), w.stopped⟩
abbrev shE (p : Nat × ShV) : HP := shP p.1 p.2
abbrev wO (b : Nat) (w : WV) (sh bg tx : SliceV) (F : List HP) : List HP := pts b (.cells #[sh.v, bg.v, tx.v, .bool w.stopped] 53 (0, 0)) :: slP ptrC 1 54 sh (w.sh.map (·.1)) :: slP msgC 7 137 bg w.bag :: slP txC 3 71 tx w.txs :: all (w.sh.map shE) :: F
def wP (b : Nat) (w : WV) : HP := fun h => ∃ sh bg tx : SliceV, all (wO b w sh bg tx []) h
structure TxI (I : HL) (t : TxV) : Prop where
  o : imSl I opRC 63 t.so t.ops
  r : imSl I i64L 3 t.sr t.reads
structure WI (I : HL) (w : WV) : Prop where
  sh : ∀ p ∈ w.sh, ShI I p.2
  bag : ∀ m ∈ w.bag, MsgI I m
  txs : ∀ t ∈ w.txs, TxI I t
theorem TxI.mono {I I' : HL} {t : TxV} (hs : Sub I I') (h : TxI I t) : TxI I' t := ⟨h.o.mono hs, h.r.mono hs⟩
theorem WI.mono {I I' : HL} {w : WV} (hs : Sub I I') (h : WI I w) : WI I' w := ⟨fun p hp => (h.sh p hp).mono hs, fun m hm => (h.bag m hm).mono hs, fun t ht => (h.txs t ht).mono hs⟩
section
variable {R : Nat → Goroutine → Array Obj → Prop} {d : Nat} {As F L : List HP} {g : Goroutine} {b : Nat} {w : WV}
theorem wP.opn (hf : Fo (wP b w) As L := by repeat (first | with_reducible exact Fo.head | with_reducible apply Fo.tail)) (h : ∀ sh bg tx : SliceV, At R d (wO b w sh bg tx L) g) : At R d As g := by
  refine At.fo hf fun H st => ?_
  obtain ⟨sh, st⟩ := st.ex
  obtain ⟨bg, st⟩ := st.ex
  obtain ⟨tx, st⟩ := st.ex
  exact h sh bg tx H st.flat
theorem wP.cls {c : Array Value} (w : WV) (h : At R d (wP b w :: F) g) (hf : Fo (pts b (.cells c 53 (0, 0))) As L := by repeat (first | with_reducible exact Fo.head | with_reducible apply Fo.tail)) {sh bg tx : SliceV} (hc : c = #[sh.v, bg.v, tx.v, .bool w.stopped] := by rfl)
    (hr : ReF [slP ptrC 1 54 sh (w.sh.map (·.1)), slP msgC 7 137 bg w.bag, slP txC 3 71 tx w.txs, all (w.sh.map shE)] L F := by repeat (first | with_reducible exact ReF.nil | with_reducible exact Fo.head | with_reducible apply Fo.tail | with_reducible apply ReF.cons)) : At R d As g := by
  subst hc
  refine At.perm (hf.perm.trans (hr.perm.cons _)) fun H st => h H ?_
  exact Sat.imp (fun hh x => ⟨sh, bg, tx, x⟩) (Sat.unflat (l := wO b w sh bg tx []) st)
end
theorem right_spec {I : HL} {so : SliceV} {ops : List OpR} (ho : imSl I opRC 63 so ops) (hl : ops.length < 2 ^ 60) :
    Spec Tryz.prog main badT 31 #[so.v] [imm I] (fun v As => v = .bool (decide (rightP ops)) ∧ As = [imm I]) := by
  refine Spec.of ?_
  intro R C kd d F c cs hkd hret
  simp only [List.cons_append, List.nil_append]
  refine C.go ?_
  refine C.rg [0] ?_
  refine C.asg rfl ?_
  refine C.go ?_
  refine C.rg [0] ?_
  refine C.asg rfl ?_
  refine C.go ?_
  refine C.loopR (X := Nat) (fun i => [(0, so.v), (3, .int .i64 i)]) (fun _ => imm I :: F) (fun i => i ≤ ops.length ∧ (∀ j (hj : j < ops.length), j < i → okOp ops[j]) ∧ ((ops.take i).map (·.k)).Nodup) (fun i => ops.length - i) 0 ⟨rfl, rfl, trivial⟩ ⟨Nat.zero_le _, by intro j _ hj; omega, by simp⟩ ?_
  intro i e ⟨hi, hok, hne⟩ ih
  refine C.go ?_
  refine C.rg [0, 1, 2, 3] ?_
  refine C.mv rfl ?_
  refine C.mv rfl ?_
  refine C.lnR rfl ?_
  refine C.cmp rfl (fun h8 => ?_) (fun h8 => ?_)
  · skip
    refine C.go ?_
    refine C.tru ?_
    have hi' : i < ops.length := by simpa using h8
    apply cutR (okOp ops[i]) [(0, so.v), (3, .int .i64 i)] (imm I :: F) (R := R) (d := d) (fn := 31) (kd := kd) (n := 65) (ds := []) (cs := c :: cs)
    · intro hin6
      refine C.rg [0, 1, 2, 3, 4, 5, 6, 7, 8, 9, 10, 11, 12, 13, 14, 15, 16, 17, 18, 19, 20, 21, 22, 23, 24, 25, 26, 27, 28, 29] ?_
      refine C.mv rfl ?_
      refine C.mv rfl ?_
      refine C.iaR rfl ?_
      refine C.fa rfl ?_
      refine C.ldR rfl ?_
      refine C.cmp rfl (fun h16 => ?_) (fun h16 => ?_)
      · skip
        refine C.mv rfl ?_
        refine C.no rfl ?_
        refine C.no rfl ?_
        refine C.no rfl ?_
        refine C.no rfl ?_
        refine C.no rfl ?_
        refine C.no rfl ?_
        refine C.pk rfl ?_
        refine C.mv rfl ?_
        refine C.no rfl ?_
        refine C.no rfl ?_
        refine C.no rfl ?_
        refine C.no rfl ?_
        refine C.no rfl ?_
        refine C.no rfl ?_
        refine C.no rfl ?_
        refine C.no rfl ?_
        refine C.no rfl ?_
        refine C.no rfl ?_
        refine C.no rfl ?_
        refine C.no rfl ?_
        refine C.no rfl ?_
        refine C.no rfl ?_
        refine C.pk rfl ?_
        refine C.go ?_
        refine C.tru ?_
        refine C.rg [0] ?_
        refine C.asg rfl ?_
        refine C.go ?_
        refine C.retR hkd hret ⟨?_, rfl⟩
        rw [decide_eq_false (fun h => by have := (h.1 _ (List.getElem_mem hi')).1; omega)]
      · skip
        refine C.mv rfl ?_
        refine C.mv rfl ?_
        refine C.mv rfl ?_
        refine C.iaR rfl ?_
        refine C.fa rfl ?_
        refine C.ldR rfl ?_
        refine C.cmp rfl (fun h23 => ?_) (fun h23 => ?_)
        · skip
          refine C.pk rfl ?_
          refine C.mv rfl ?_
          refine C.no rfl ?_
          refine C.no rfl ?_
          refine C.no rfl ?_
          refine C.no rfl ?_
          refine C.no rfl ?_
          refine C.no rfl ?_
          refine C.no rfl ?_
          refine C.no rfl ?_
          refine C.no rfl ?_
          refine C.no rfl ?_
          refine C.no rfl ?_
          refine C.no rfl ?_
          refine C.no rfl ?_
          refine C.no rfl ?_
          refine C.pk rfl ?_
          refine C.go ?_
          refine C.tru ?_
          refine C.rg [0] ?_
          refine C.asg rfl ?_
          refine C.go ?_
          refine C.retR hkd hret ⟨?_, rfl⟩
          rw [decide_eq_false (fun h => by have := (h.1 _ (List.getElem_mem hi')).2.1; omega)]
        · skip
          refine C.pk rfl ?_
          refine C.mv rfl ?_
          refine C.mv rfl ?_
          refine C.mv rfl ?_
          refine C.iaR rfl ?_
          refine C.fa rfl ?_
          refine C.ldR0 rfl ?_
          generalize hw : ops[i].w = z
          rcases Bool.eq_false_or_eq_true z with rfl | rfl
          · skip
            refine C.nt rfl ?_
            refine C.mv rfl ?_
            refine C.no rfl ?_
            refine C.no rfl ?_
            refine C.no rfl ?_
            refine C.no rfl ?_
            refine C.no rfl ?_
            refine C.no rfl ?_
            refine C.pk rfl ?_
            refine C.pk rfl ?_
            refine C.go ?_
            refine C.fls ?_
            exact join hin6 ⟨by omega, by omega, .inl hw⟩
          · skip
            refine C.nt rfl ?_
            refine C.mv rfl ?_
            refine C.mv rfl ?_
            refine C.mv rfl ?_
            refine C.iaR rfl ?_
            refine C.fa rfl ?_
            refine C.ldR rfl ?_
            refine C.cmp rfl (fun h38 => ?_) (fun h38 => ?_)
            · skip
              refine C.pk rfl ?_
              refine C.pk rfl ?_
              refine C.go ?_
              refine C.tru ?_
              refine C.rg [0] ?_
              refine C.asg rfl ?_
              refine C.go ?_
              refine C.retR hkd hret ⟨?_, rfl⟩
              rw [decide_eq_false (fun h => by
                rcases (h.1 _ (List.getElem_mem hi')).2.2 with h | h
                · rw [hw] at h; cases h
                · omega)]
            · skip
              refine C.pk rfl ?_
              refine C.pk rfl ?_
              refine C.go ?_
              refine C.fls ?_
              exact join hin6 ⟨by omega, by omega, .inr (by omega)⟩
    · rintro hoki e
      refine C.rg [0] ?_
      refine C.asg rfl ?_
      refine C.go ?_
      refine C.loopR (X := Nat) (fun j => [(0, so.v), (3, .int .i64 i), (4, .int .i64 j)]) (fun _ => imm I :: F) (fun j => j ≤ i ∧ ∀ j' (hj : j' < ops.length), j' < j → ops[j'].k ≠ ops[i].k) (fun j => i - j) 0 ⟨rfl, rfl, rfl, trivial⟩ ⟨Nat.zero_le _, by intro j' _ hj; omega⟩ ?_
      intro j e ⟨hj, hnj⟩ ih2
      refine C.go ?_
      refine C.rg [0, 1, 2] ?_
      refine C.mv rfl ?_
      refine C.mv rfl ?_
      refine C.cmp rfl (fun h43 => ?_) (fun h43 => ?_)
      · skip
        refine C.go ?_
        refine C.tru ?_
        have hj' : j < i := by simpa using h43
        have hj2 : j < ops.length := by omega
        by_cases h56 : ops[j].k = ops[i].k
        · skip
          refine C.drawn [(46, 0), (47, 1), (48, 2), (49, 3), (50, 4), (51, 5), (52, 6), (53, 7), (54, 8), (55, 9), (56, 10)] [0, 1, 2, 3, 4, 5, 6, 7, 8, 9, 10] [] 0 ?_
          refine Dr.pu ⟨_, rfl, rfl⟩ (fun _ _ _ h => C.mv rfl h) ?_
          refine Dr.pu ⟨_, rfl, rfl⟩ (fun _ _ _ h => C.mv rfl h) ?_
          refine Dr.ld ⟨_, rfl, rfl⟩ (fun _ hE _ _ h => C.iaR rfl h) ?_
          refine Dr.pu ⟨_, rfl, rfl⟩ (fun _ _ _ h => C.fa rfl h) ?_
          refine Dr.ld ⟨_, rfl, rfl⟩ (fun _ hE _ _ h => C.ldR rfl h) ?_
          refine Dr.pu ⟨_, rfl, rfl⟩ (fun _ _ _ h => C.mv rfl h) ?_
          refine Dr.pu ⟨_, rfl, rfl⟩ (fun _ _ _ h => C.mv rfl h) ?_
          refine Dr.ld ⟨_, rfl, rfl⟩ (fun _ hE _ _ h => C.iaR rfl h) ?_
          refine Dr.pu ⟨_, rfl, rfl⟩ (fun _ _ _ h => C.fa rfl h) ?_
          refine Dr.ld ⟨_, rfl, rfl⟩ (fun _ hE _ _ h => C.ldR rfl h) ?_
          refine Dr.pu ⟨_, rfl, rfl⟩ (fun _ _ _ h => C.cmpT rfl h (hf := h56)) ?_
          refine Dr.chain rfl ?_
          refine Ch.fin ?_
          refine C.go ?_
          refine C.tru ?_
          refine C.rg [0] ?_
          refine C.asg rfl ?_
          refine C.go ?_
          refine C.retR hkd hret ⟨?_, rfl⟩
          rw [decide_eq_false (fun h => by
            have h1 := List.pairwise_iff_getElem.1 h.2.1 j i (by simpa using hj2) (by simpa using hi') hj'
            rw [List.getElem_map, List.getElem_map] at h1
            exact h1 h56)]
        · skip
          refine C.drawn [(46, 0), (47, 1), (48, 2), (49, 3), (50, 4), (51, 5), (52, 6), (53, 7), (54, 8), (55, 9), (56, 10)] [0, 1, 2, 3, 4, 5, 6, 7, 8, 9, 10] [] 0 ?_
          refine Dr.pu ⟨_, rfl, rfl⟩ (fun _ _ _ h => C.mv rfl h) ?_
          refine Dr.pu ⟨_, rfl, rfl⟩ (fun _ _ _ h => C.mv rfl h) ?_
          refine Dr.ld ⟨_, rfl, rfl⟩ (fun _ hE _ _ h => C.iaR rfl h) ?_
          refine Dr.pu ⟨_, rfl, rfl⟩ (fun _ _ _ h => C.fa rfl h) ?_
          refine Dr.ld ⟨_, rfl, rfl⟩ (fun _ hE _ _ h => C.ldR rfl h) ?_
          refine Dr.pu ⟨_, rfl, rfl⟩ (fun _ _ _ h => C.mv rfl h) ?_
          refine Dr.pu ⟨_, rfl, rfl⟩ (fun _ _ _ h => C.mv rfl h) ?_
          refine Dr.ld ⟨_, rfl, rfl⟩ (fun _ hE _ _ h => C.iaR rfl h) ?_
          refine Dr.pu ⟨_, rfl, rfl⟩ (fun _ _ _ h => C.fa rfl h) ?_
          refine Dr.ld ⟨_, rfl, rfl⟩ (fun _ hE _ _ h => C.ldR rfl h) ?_
          refine Dr.pu ⟨_, rfl, rfl⟩ (fun _ _ _ h => C.cmpF rfl h (hf := h56)) ?_
          refine Dr.chain rfl ?_
          refine Ch.fin ?_
          refine C.go ?_
          refine C.fls ?_
          refine C.rg [0, 1, 2] ?_
          refine C.mv rfl ?_
          refine C.ar rfl ?_
          refine C.asg rfl ?_
          refine C.go ?_
          refine again ih2 (j + 1) ⟨hj', fun j' hj3 hlt => ?_⟩ (by omega)
          rcases Nat.lt_succ_iff_lt_or_eq.1 hlt with h | rfl
          · exact hnj j' hj3 h
          · exact h56
      · skip
        refine C.go ?_
        refine C.fls ?_
        refine C.rg [0, 1, 2] ?_
        refine C.mv rfl ?_
        refine C.ar rfl ?_
        refine C.asg rfl ?_
        refine C.go ?_
        have hji : j = i := by have : ¬ j < i := (by simpa using h43); omega
        subst hji
        refine again ih (j + 1) ⟨hi', fun j' hj3 hlt => ?_, ?_⟩ (by omega)
        · rcases Nat.lt_succ_iff_lt_or_eq.1 hlt with h | rfl
          · exact hok j' hj3 h
          · exact hoki
        · rw [List.take_succ_eq_append_getElem hi', List.map_append, List.nodup_append]
          refine ⟨hne, by simp, fun a ha c hc => ?_⟩
          simp only [List.map_cons, List.map_nil, List.mem_singleton] at hc
          subst hc
          obtain ⟨o, ho, rfl⟩ := List.mem_map.1 ha
          obtain ⟨q, hq, rfl⟩ := List.getElem_of_mem ho
          rw [List.length_take] at hq
          rw [List.getElem_take]
          exact hnj q (by omega) (by omega)
  · skip
    refine C.go ?_
    refine C.fls ?_
    have hie : i = ops.length := by have : ¬ i < ops.length := (by simpa using h8); omega
    subst hie
    rw [List.take_length] at hne
    have hall : ∀ o ∈ ops, okOp o := fun o ho => by
      obtain ⟨q, hq, rfl⟩ := List.getElem_of_mem ho
      exact hok q hq hq
    refine C.rg [0, 1, 2, 3, 4, 5, 6, 7, 8] ?_
    refine C.mv rfl ?_
    refine C.lnR rfl ?_
    refine C.cmp rfl (fun h59 => ?_) (fun h59 => ?_)
    · skip
      refine C.mv rfl ?_
      refine C.mv rfl ?_
      refine C.lnR rfl ?_
      refine C.cmp rfl (fun h63 => ?_) (fun h63 => ?_)
      · skip
        refine C.pk rfl ?_
        refine C.asg rfl ?_
        refine C.go ?_
        refine C.retR hkd hret ⟨?_, rfl⟩
        rw [decide_eq_true (show rightP ops from ⟨hall, hne, by omega, by omega⟩)]
      · skip
        refine C.pk rfl ?_
        refine C.asg rfl ?_
        refine C.go ?_
        refine C.retR hkd hret ⟨?_, rfl⟩
        rw [decide_eq_false (fun h => by have := h.2.2.2; omega)]
    · skip
      refine C.mv rfl ?_
      refine C.no rfl ?_
      refine C.no rfl ?_
      refine C.no rfl ?_
      refine C.pk rfl ?_
      refine C.asg rfl ?_
      refine C.go ?_
      refine C.retR hkd hret ⟨?_, rfl⟩
      rw [decide_eq_false (fun h => by have := h.2.2.1; omega)]
end Go.Sl
end
section
set_option linter.unusedVariables false
namespace Go.Sl
open Go.Proofs Go.Conc
structure HV where
  h : HG
  s : ShX
  kw : Nat
  kr : Nat
structure CV where
  G : CG
  hosts : List HV
  bag : List MsgV
  txs : List TxV
  stopped : Bool
abbrev hostO (v : HV) (F : List HP) : List HP := pts v.h.bh (.cells #[ptrV v.h.bs, .chan (some v.h.wk), .chan (some v.h.rd)] 120 (0, 0)) :: pts v.h.wk (.chan 0 #[] false v.kw v.kw false) :: pts v.h.rd (.chan 0 #[] false v.kr v.kr false) :: pts v.h.hb (.cells #[ptrV v.h.bh] 114 (0, 0)) :: sxP v.h.bs v.s :: F
def hostE (v : HV) : HP := all (hostO v [])
def CV.st (c : CV) : Int := if c.stopped then 0 else (c.hosts.length : Int) * KQ
abbrev cvO (c : CV) (m st : Int) (hs bg tx : SliceV) (F : List HP) : List HP := clP c.G.b m hs.v bg.v tx.v (.chan (some c.G.dn)) c.stopped st :: slP ptrC 1 114 hs (c.hosts.map (·.h.bh)) :: slP msgC 7 190 bg c.bag :: slP txC 3 126 tx c.txs ::
  all (c.hosts.map hostE) :: pts c.G.dn (.chan 0 #[] c.stopped 0 0 false) :: pts c.G.cb (.cells #[ptrV c.G.b] 23 (0, 0)) :: F
def cvM (m : Int) (c : CV) : HP := fun h => ∃ hs bg tx : SliceV, all (cvO c m c.st hs bg tx []) h
abbrev cvP (c : CV) : HP := cvM 0 c
section
variable {R : Nat → Goroutine → Array Obj → Prop} {d : Nat} {As F L : List HP} {g : Goroutine} {c : CV}
theorem cvP.opn {m z : Int} (hf : Fo (cvM m c) As L := by repeat (first | with_reducible exact Fo.head | with_reducible apply Fo.tail)) (h : ∀ hs bg tx : SliceV, At R d (cvO c m z hs bg tx L) g) (hz : c.st = z := by rfl) : At R d As g := by
  subst hz
  refine At.fo hf fun H st => ?_
  obtain ⟨hs, st⟩ := st.ex
  obtain ⟨bg, st⟩ := st.ex
  obtain ⟨tx, st⟩ := st.ex
  exact h hs bg tx H st.flat
theorem cvP.cls {m : Int} {cc : Array Value} (c : CV) (h : At R d (cvM m c :: F) g) (hf : Fo (pts c.G.b (.cells cc 92 (0, 0))) As L := by repeat (first | with_reducible exact Fo.head | with_reducible apply Fo.tail)) {hs bg tx : SliceV} (hc : cc = clA m hs.v bg.v tx.v (.chan (some c.G.dn)) c.stopped c.st := by rfl)
    (hr : ReF [slP ptrC 1 114 hs (c.hosts.map (·.h.bh)), slP msgC 7 190 bg c.bag, slP txC 3 126 tx c.txs, all (c.hosts.map hostE), pts c.G.dn (.chan 0 #[] c.stopped 0 0 false), pts c.G.cb (.cells #[ptrV c.G.b] 23 (0, 0))] L F := by repeat (first | with_reducible exact ReF.nil | with_reducible exact Fo.head | with_reducible apply Fo.tail | with_reducible apply ReF.cons)) : At R d As g := by
  subst hc
  refine At.perm (hf.perm.trans (hr.perm.cons _)) fun H st => h H ?_
  exact Sat.imp (fun hh x => ⟨hs, bg, tx, x⟩) (Sat.unflat (l := cvO c m c.st hs bg tx []) st)
end
theorem hostE.cls {R : Nat → Goroutine → Array Obj → Prop} {d : Nat} {As F : List HP} {g : Goroutine} (v : HV) (h : At R d (hostE v :: F) g)
    (hr : ReF (hostO v []) As F := by repeat (first | with_reducible exact ReF.nil | with_reducible exact Fo.head | with_reducible apply Fo.tail | with_reducible apply ReF.cons)) : At R d As g :=
  At.perm hr.perm fun H st => h H (Sat.unflat (l := hostO v []) st)
theorem hostE.opn {R : Nat → Goroutine → Array Obj → Prop} {d : Nat} {As L : List HP} {g : Goroutine} {v : HV} (hf : Fo (hostE v) As L := by repeat (first | with_reducible exact Fo.head | with_reducible apply Fo.tail)) (h : At R d (hostO v L) g) : At R d As g :=
  At.fo hf fun H st => h H (Sat.flat (l := hostO v []) st)
structure RegC (σ : Gh) (c : CV) : Prop where
  seats : ∀ v ∈ c.hosts, σ.seats v.h.g = some (seatW v.h c.G)
  nd : (c.hosts.map (·.h.g)).Nodup
  only : ∀ i s, σ.seats i = some s → s.has c.G.dn → ∃ v ∈ c.hosts, v.h.g = i
  wk : ∀ v ∈ c.hosts, ∀ i s, σ.seats i = some s → s.has v.h.wk → i = v.h.g
  wd : ∀ v ∈ c.hosts, v.h.wk ≠ c.G.dn
  sh7 : σ.sh (.cell ⟨c.G.b, 7, none⟩)
  sh8 : σ.sh (.cell ⟨c.G.b, 8, none⟩)
  n : 1 ≤ c.hosts.length ∧ c.hosts.length ≤ 4
section
variable {σ : Gh} {b : Nat} {m : Int} {hosts bag txs dn : Value} {stopped : Bool}
theorem wait0_spec : Spec Tryz.prog true (barX.bw σ) 35 #[.pointer (some ⟨b, 7, none⟩)] [clP b m hosts bag txs dn stopped 0] (fun v As => v = .tuple #[] ∧ As = [clP b m hosts bag txs dn stopped 0]) := by
  refine Spec.of ?_
  intro R C kd d F c cs hkd hret
  simp only [List.cons_append, List.nil_append]
  have hl : Spec Tryz.prog true (barX.bw σ) 65 #[.pointer (some ⟨b, 7, none⟩)] [clP b m hosts bag txs dn stopped 0] (fun v As => v = .int .u64 0 ∧ As = [clP b m hosts bag txs dn stopped 0]) := by
    refine Spec.of ?_
    intro R C kd d F c cs hkd hret
    simp only [List.cons_append, List.nil_append]
    refine C.go ?_
    refine C.rg [0] ?_
    refine C.asg rfl ?_
    refine C.go ?_
    refine C.rg [0, 1, 2, 3, 4] ?_
    refine C.mv rfl ?_
    refine C.nc rfl ?_
    refine C.fa rfl ?_
    refine C.xLd (b := b) (off := 7) (z := 0) rfl ?_
    refine C.asg rfl ?_
    refine C.go ?_
    exact C.retR hkd hret ⟨rfl, rfl⟩
  refine C.go ?_
  refine C.tru ?_
  refine C.rg [0] ?_
  refine C.xDis rfl ?_
  refine C.go ?_
  refine C.lp ?_
  refine C.go ?_
  refine C.rg [0, 1, 2, 3, 4] ?_
  refine C.mv rfl ?_
  refine C.nc rfl ?_
  refine C.fa rfl ?_
  refine C.clR hl ?_
  rintro v As' ⟨rfl, rfl⟩
  simp only [List.cons_append, List.nil_append]
  refine C.asg rfl ?_
  refine C.go ?_
  refine C.rg [0, 1, 2, 3] ?_
  refine C.mv rfl ?_
  refine C.v0 rfl ?_ rfl
  refine C.cv rfl ?_ (hr := rfl)
  refine C.asg rfl ?_
  refine C.go ?_
  refine C.rg [0, 1, 2, 3] ?_
  refine C.mv rfl ?_
  refine C.v0 rfl ?_ rfl
  refine C.cv rfl ?_ (hr := rfl)
  refine C.asg rfl ?_
  refine C.go ?_
  refine C.rg [0, 1] ?_
  refine C.mv rfl ?_
  refine C.v0 rfl ?_ rfl
  refine C.go ?_
  refine C.tru ?_
  refine C.tru ?_
  refine C.rg [0] ?_
  refine C.xEna rfl ?_
  refine C.go ?_
  refine C.rg [0, 1, 2] ?_
  refine C.mv rfl ?_
  refine C.cvp (b := b) (off := 7) rfl ?_
  refine C.xMk (mk := .acquire) (a := ⟨b, 7, none⟩) rfl ?_ (hm := fun H s => ⟨_, _, Has.get (by repeat (first | with_reducible exact Has.head | with_reducible apply Has.tail)) s⟩)
  refine C.go ?_
  refine C.rg [0, 1, 2, 3, 4, 5, 6, 7, 8, 9, 10] ?_
  refine C.mv rfl ?_
  refine C.v0 rfl ?_ rfl
  refine C.mv rfl ?_
  refine C.mv rfl ?_
  refine C.v0 rfl ?_ rfl
  refine C.v0 rfl ?_ rfl
  refine C.pk rfl ?_
  refine C.mv rfl ?_
  refine C.no rfl ?_
  refine C.no rfl ?_
  refine C.pk rfl ?_
  refine C.go ?_
  refine C.fls ?_
  exact C.retR hkd hret ⟨rfl, rfl⟩
end
end Go.Sl
end
section
set_option linter.unusedVariables false
namespace Go.Sl
open Go.Proofs Go.Conc
def CV.ids (c : CV) : List Nat := c.hosts.map (·.h.g)
theorem stop_spec {σ : Gh} {c : CV} (hr : c.stopped = false → RegC σ c) : SpecG Tryz.prog barX 21 #[ptrV c.G.b] σ [cvP c] (fun v σ' As => v = .tuple #[] ∧ σ' = (if c.stopped then σ else σ.joined c.ids) ∧ As = [cvP { c with stopped := true }]) := by
  refine SpecG.of ?_
  intro Post os out kd F c' cs C hkd hret
  simp only [List.cons_append, List.nil_append]
  obtain ⟨G, hosts, bag, txs, stopped⟩ := c
  cases stopped with
  | true =>
    refine cvP.opn (z := 0) (h := fun hs bg tx => ?_)
    refine C.go ?_
    refine C.rg [0, 1, 2, 3] ?_
    refine C.mv rfl ?_
    refine C.nc rfl ?_
    refine C.fa rfl ?_
    refine C.clR mlock_spec ?_
    rintro v As' ⟨rfl, rfl⟩
    simp only [List.cons_append, List.nil_append]
    refine C.go ?_
    refine C.rg [0, 1, 2, 3] ?_
    refine C.mv rfl ?_
    refine C.nc rfl ?_
    refine C.fa rfl ?_
    refine C.df rfl ?_
    refine C.go ?_
    refine C.rg [0, 1, 2, 3, 4] ?_
    refine C.mv rfl ?_
    refine C.nc rfl ?_
    refine C.fa rfl ?_
    refine C.ld rfl ?_
    refine C.nt rfl ?_
    refine C.go ?_
    refine C.fls ?_
    refine C.rg [0, 1, 2, 3] ?_
    refine C.mv rfl ?_
    refine C.nc rfl ?_
    refine C.fa rfl ?_
    refine C.clR wait0_spec ?_
    rintro v As' ⟨rfl, rfl⟩
    simp only [List.cons_append, List.nil_append]
    refine C.go ?_
    refine C.fnA ?_
    refine RunR.dfr (Spec.g unlock_spec) ?_
    rintro v σ' As' ⟨rfl, rfl, rfl⟩
    simp only [List.cons_append, List.nil_append]
    refine C.home (fu := Tryz.f21) Tryz.func21 hkd rfl ?_
    refine cvP.cls ⟨G, hosts, bag, txs, true⟩ ?_
    exact hret _ _ _ ⟨rfl, rfl, rfl⟩
  | false =>
    obtain ⟨r1, r2, r3, r4, r5, r6, r7, r8⟩ := hr rfl
    refine cvP.opn (z := (hosts.length : Int) * KQ) (h := fun hs bg tx => ?_)
    refine C.go ?_
    refine C.rg [0, 1, 2, 3] ?_
    refine C.mv rfl ?_
    refine C.nc rfl ?_
    refine C.fa rfl ?_
    refine C.clR mlock_spec ?_
    rintro v As' ⟨rfl, rfl⟩
    simp only [List.cons_append, List.nil_append]
    refine C.go ?_
    refine C.rg [0, 1, 2, 3] ?_
    refine C.mv rfl ?_
    refine C.nc rfl ?_
    refine C.fa rfl ?_
    refine C.df rfl ?_
    refine C.go ?_
    refine C.rg [0, 1, 2, 3, 4] ?_
    refine C.mv rfl ?_
    refine C.nc rfl ?_
    refine C.fa rfl ?_
    refine C.ld rfl ?_
    refine C.nt rfl ?_
    refine C.go ?_
    refine C.tru ?_
    refine C.rg [0, 1, 2, 3] ?_
    refine C.mv rfl ?_
    refine C.nc rfl ?_
    refine C.fa rfl ?_
    refine C.st rfl ?_
    refine C.go ?_
    refine C.rg [0, 1, 2, 3, 4] ?_
    refine C.mv rfl ?_
    refine C.nc rfl ?_
    refine C.fa rfl ?_
    refine C.ld rfl ?_
    have hrow : (⟨G.b, 7, 8, clA 1 hs.v bg.v tx.v (.chan (some G.dn)) true ((hosts.length : Int) * KQ), 92⟩ : Grp).row (stV 0 0) (smV 0) = clA 1 hs.v bg.v tx.v (.chan (some G.dn)) true 0 := rfl
    have C2 : Closed Tryz.prog true (barX.bw (σ.joined (hosts.map (·.h.g)))) (RunR Tryz.prog Post barX (σ.joined (hosts.map (·.h.g))) 0 os out) := RunR.closed0
    refine RunR.shut (hosts.map (·.h.g)) ⟨G.b, 7, 8, clA 1 hs.v bg.v tx.v (.chan (some G.dn)) true ((hosts.length : Int) * KQ), 92⟩ G.dn 0 (fun a => At (RunR Tryz.prog Post barX (σ.joined (hosts.map (·.h.g))) 0 os out) 0 (clP G.b 1 hs.v bg.v tx.v (.chan (some G.dn)) true 0 :: slP ptrC 1 114 hs (hosts.map (·.h.bh)) :: slP msgC 7 190 bg bag :: slP txC 3 126 tx txs ::
  all (hosts.map hostE) :: pts G.dn (.chan 0 #[] true 0 0 false) :: pts G.cb (.cells #[ptrV G.b] 23 (0, 0)) :: F) a) rfl rfl rfl (by rw [Tryz.func21]; rfl) r2 (by simpa using r8.2) ?_ ?_ ⟨(show (7 : Nat) ≠ 8 by decide), by simp, by simp⟩ (by simp [stV]) rfl r6 r7 (As' := clP G.b 1 hs.v bg.v tx.v (.chan (some G.dn)) true ((hosts.length : Int) * KQ) :: slP ptrC 1 114 hs (hosts.map (·.h.bh)) :: slP msgC 7 190 bg bag :: slP txC 3 126 tx txs ::
  all (hosts.map hostE) :: pts G.dn (.chan 0 #[] true 0 0 false) :: pts G.cb (.cells #[ptrV G.b] 23 (0, 0)) :: F) ?_ ?_ ?_ (fun a h => h)
    · intro i hi
      obtain ⟨v, hv, rfl⟩ := List.mem_map.1 hi
      exact ⟨_, v.h.wk, .nilFunc, .agg #[], r1 v hv, rfl, r5 v hv, 9000, fun r hr => leave ⟨rfl, rfl, rfl, rfl, rfl⟩ hr⟩
    · intro i s hi hs'
      obtain ⟨v, hv, rfl⟩ := r3 i s hi hs'
      exact List.mem_map.2 ⟨v, hv, rfl⟩
    · repeat (first | with_reducible exact Upd.head | with_reducible apply Upd.tail)
    · rw [hrow]; exact Upd.head
    · have M : ∀ {Fin : Goroutine → Prop} {x : MS}, Mt Tryz.prog true (Gs ⟨G.b, 7, 8, clA 1 hs.v bg.v tx.v (.chan (some G.dn)) true ((hosts.length : Int) * KQ), 92⟩) (MWq Tryz.prog ⟨G.b, 7, 8, clA 1 hs.v bg.v tx.v (.chan (some G.dn)) true ((hosts.length : Int) * KQ), 92⟩ Fin x) := Mt.mw
      show MWq _ _ _ _ 900 _
      refine M.go ?_
      refine M.rg [0, 1, 2, 3] ?_
      refine M.mv rfl ?_
      refine M.nc rfl ?_
      refine M.fa rfl ?_
      refine M.cal (f := 35) rfl ?_
      refine wait_mw C2 rfl ?_ (by simpa using r8.2)
      unfold backTo
      rw [finish_frm rfl]
      show At _ _ _ (gr 21 kd 25 _ _ _ _)
      refine C2.go ?_
      refine C2.fnA ?_
      refine RunR.dfr (Spec.g unlock_spec) ?_
      rintro v σ' As' ⟨rfl, rfl, rfl⟩
      simp only [List.cons_append, List.nil_append]
      refine C2.home (fu := Tryz.f21) Tryz.func21 hkd rfl ?_
      refine cvP.cls ⟨G, hosts, bag, txs, true⟩ ?_
      exact hret _ _ _ ⟨rfl, rfl, rfl⟩
end Go.Sl
end
section
set_option linter.unusedVariables false
namespace Go.Sl
open Go.Proofs
variable {main : Bool}
theorem fresh_spec : Spec Tryz.prog main badT 91 #[] [] (fun v As => ∃ bv bl bp bd be bu : Nat, v = .agg #[.map (some bv), .map (some bl), .map (some bp), .map (some bd), .map (some be), .map (some bu), .slice none 0 0, .int .i64 0, .int .i64 0, .slice none 0 0] ∧
    As = [mapP .u8 int32V bv [], mapP .u8 int64V bl [], mapP .i64 pndC bp [], mapP .i64 plcC bd [], mapP .i64 plcC be [], mapP .i64 undG bu []]) := by
  refine Spec.of ?_
  intro R C kd d F c cs hkd hret
  simp only [List.cons_append, List.nil_append]
  refine C.go ?_
  refine C.rg [0] ?_
  refine C.al rfl (fun b0 => ?_)
  refine C.go ?_
  refine C.rg [0, 1, 2, 3, 4, 5, 6, 7] ?_
  refine C.mm .u8 int32V rfl (fun b1 => ?_)
  refine C.mm .u8 int64V rfl (fun b2 => ?_)
  refine C.mm .i64 pndC rfl (fun b3 => ?_)
  refine C.mm .i64 plcC rfl (fun b4 => ?_)
  refine C.mm .i64 plcC rfl (fun b5 => ?_)
  refine C.mm .i64 undG rfl (fun b6 => ?_)
  refine C.bd rfl ?_
  refine C.stS rfl ?_
  refine C.go ?_
  exact C.retC rfl hkd hret ⟨b1, b2, b3, b4, b5, b6, rfl, rfl⟩
def newSX (k n : Int) : ShX := ⟨k, n, true, [], 0, [], [], [], [], [], [], [], 0, 0, [], []⟩
theorem newSX_abs (k n : Int) : (newSX k n).abs = newShP k n := rfl
theorem newSX_J (I : HL) (k n : Int) : ShJ I (newSX k n) := ⟨by simp [newSX], by simp [newSX], by simp [newSX], by simp [newSX], by simp [newSX]⟩
theorem snew_spec {k n : Int} : Spec Tryz.prog main badT 47 #[.int .i64 k, .int .i64 n] [] (fun v As => ∃ b, v = ptrV b ∧ As = [sxP b (newSX k n)]) := by
  refine Spec.of ?_
  intro R C kd d F c cs hkd hret
  simp only [List.cons_append, List.nil_append]
  refine C.go ?_
  refine C.rg [0] ?_
  refine C.asg rfl ?_
  refine C.go ?_
  refine C.rg [0, 1, 2, 3, 4, 5] ?_
  refine C.mv rfl ?_
  refine C.mv rfl ?_
  refine C.clR fresh_spec ?_
  rintro v As' ⟨bv, bl, bp, bd, be, bu, rfl, rfl⟩
  simp only [List.cons_append, List.nil_append]
  refine C.bd rfl ?_
  refine C.bx rfl (fun b9 => ?_)
  refine C.asg rfl ?_
  refine C.go ?_
  refine At.nilS entC 1 272 (At.nilS alC 4 263 (At.nilS msgC 7 190 (At.nilS msgC 7 190 ?_)))
  refine At.nilA (show At R d (all (([] : List (Int × UnpV)).map unpE) :: _) _ from ?_)
  refine sxP.cls ⟨k, n, true, [], 0, [], [], [], [], [], [], [], 0, 0, [], []⟩ ?_ (tl := []) (lg := nilS) (wt := nilS) (ot := nilS) (tm := nilS) (TimJ.zero 0)
  exact C.retR (As' := [sxP b9 ⟨k, n, true, [], 0, [], [], [], [], [], [], [], 0, 0, [], []⟩]) hkd hret ⟨_, rfl, rfl⟩
end Go.Sl
end
section
set_option linter.unusedVariables false
namespace Go.Sl
open Go.Proofs
variable {main : Bool}
theorem shAt_spec {key n : Int} (h1 : 97 ≤ key ∧ key ≤ 122) (hn : 1 ≤ n) : Spec Tryz.prog main badT 101 #[.int .u8 key, .int .i64 n] [] (fun v As => v = .int .i64 (atR key n) ∧ As = []) := by
  refine Spec.of ?_
  intro R C kd d F c cs hkd hret
  simp only [List.nil_append]
  refine C.go ?_
  refine C.rg [0] ?_
  refine C.asg rfl ?_
  refine C.go ?_
  refine C.rg [0, 1, 2, 3, 4, 5] ?_
  refine C.mv rfl ?_
  refine C.ar rfl ?_
  refine C.cv rfl ?_
  refine C.mv rfl ?_
  refine C.rem rfl ?_
  refine C.asg rfl ?_
  refine C.go ?_
  exact C.retR hkd hret ⟨rfl, rfl⟩
theorem clone_spec {I : HL} {so : SliceV} {ops : List OpR} (ho : imSl I opPC 67 so ops) (hl : ops.length < 2 ^ 43) : Spec Tryz.prog main badT 55 #[so.v] [imm I] (fun v As => ∃ s', v = s'.v ∧ As = [slP opPC 3 67 s' ops, imm I]) := by
  refine Spec.of ?_
  intro R C kd d F c cs hkd hret
  simp only [List.cons_append, List.nil_append]
  rcases ho with ⟨rfl, rfl⟩ | ⟨pad, h1, h2⟩
  · skip
    refine C.go ?_
    refine C.rg [0] ?_
    refine C.asg rfl ?_
    refine C.go ?_
    refine C.rg [0, 1] ?_
    refine C.mv rfl ?_
    refine C.eqS rfl ?_ (a := none) (len := 0) (cap := 0)
    refine C.go ?_
    refine C.tru ?_
    refine C.rg [0] ?_
    refine C.asg rfl ?_
    refine C.go ?_
    refine At.nilS opPC 3 67 ?_
    exact C.retR hkd hret ⟨nilS, rfl, rfl⟩
  · have ho : imSl I opPC 67 so ops := .inr ⟨pad, h1, h2⟩
    have hv : so.v = .slice (some ⟨so.b, 0, none⟩) so.len so.cap := by unfold SliceV.v; rw [show so.a = some ⟨so.b, 0, none⟩ from congrArg SliceV.a h1]
    refine C.go ?_
    refine C.rg [0] ?_
    refine C.asg rfl ?_
    refine C.go ?_
    refine C.rg [0, 1] ?_
    refine C.mv rfl ?_
    refine C.eqS rfl ?_ (a := some ⟨so.b, 0, none⟩) (len := so.len) (cap := so.cap) (hx := hv)
    refine C.go ?_
    refine C.fls ?_
    refine C.rg [0, 1, 2, 3] ?_
    refine C.bs0 opPC rfl (fun b5 => ?_)
    refine C.mv rfl ?_
    refine C.apR (l := []) ops rfl (fun s' => ?_) (hsrc := fun H st => ?_) (s := ⟨some ⟨b5, 0, none⟩, 0, 0⟩)
    · skip
      refine C.asg rfl ?_
      refine C.go ?_
      exact C.retR hkd hret ⟨s', rfl, rfl⟩
    · exact RowS.src (RowS.imm (by (repeat (first | with_reducible exact Fo.head | with_reducible apply Fo.tail))) ho) st (fun j => rfl)
end Go.Sl
end
section
set_option linter.unusedVariables false
namespace Go.Sl
open Go.Proofs
variable {main : Bool}
theorem setM_len {V : Type} {k : Int} {v : V} : ∀ {l : List (Int × V)}, (setM l k v).length = if (getM l k).isSome then l.length else l.length + 1
  | [] => rfl
  | p :: l => by
    unfold setM getM
    by_cases h : p.1 = k
    · simp [h]
    · simp only [if_neg h, List.length_cons, setM_len (l := l)]
      split <;> rfl
structure MK (m : List (Int × Int)) (l : List OpR) : Prop where
  len : m.length ≤ l.length
  iff : m.length = l.length ↔ (l.map (·.k)).Nodup
  key : ∀ q, (getM m q).isSome = true ↔ q ∈ l.map (·.k)
  vb : ∀ q v, getM m q = some v → 0 ≤ v ∧ v ≤ l.length
theorem MK.zero : MK [] [] := ⟨Nat.le_refl _, by simp, by simp [getM], by simp [getM]⟩
theorem MK.add {m : List (Int × Int)} {l : List OpR} (h : MK m l) (o : OpR) : MK (setM m o.k ((getM m o.k).getD 0 + 1)) (l ++ [o]) := by
  have h1 := h.len
  have h3 := h.key o.k
  refine ⟨?_, ?_, fun q => ?_, fun q v hv => ?_⟩
  · rw [setM_len, List.length_append, List.length_singleton]; split <;> omega
  · rw [setM_len, List.length_append, List.length_singleton, List.map_append, List.nodup_append]
    by_cases e : (getM m o.k).isSome = true
    · rw [if_pos e]
      constructor
      · intro h; omega
      · rintro ⟨_, _, h⟩
        exact absurd rfl (h o.k (h3.1 e) o.k (by simp))
    · rw [if_neg e]
      have h4 : o.k ∉ l.map (·.k) := fun z => e (h3.2 z)
      constructor
      · intro hl
        refine ⟨h.iff.1 (by omega), by simp, fun a ha b hb z => ?_⟩
        simp at hb
        subst hb; subst z
        exact h4 ha
      · rintro ⟨hn, _⟩
        have := h.iff.2 hn
        omega
  · rw [getM_setM, List.map_append, List.mem_append, List.map_cons, List.map_nil, List.mem_singleton]
    by_cases e : q = o.k
    · simp [e]
    · rw [if_neg e]
      constructor
      · intro z; exact .inl ((h.key q).1 z)
      · rintro (z | z)
        · exact (h.key q).2 z
        · exact absurd z e
  · rw [getM_setM] at hv
    rw [List.length_append, List.length_singleton]
    by_cases e : q = o.k
    · rw [if_pos e] at hv
      obtain rfl := Option.some.inj hv
      cases hg : getM m o.k with
      | none => simp only [Option.getD_none]; omega
      | some w =>
        have := h.vb _ _ hg
        simp only [Option.getD_some]; omega
    · rw [if_neg e] at hv
      have := h.vb q v hv
      omega
theorem cright_spec {I : HL} {so : SliceV} {ops : List OpR} (ho : imSl I opPC 67 so ops) (hl : ops.length < 2 ^ 43) :
    Spec Tryz.prog main badT 54 #[so.v] [imm I] (fun v As => v = .bool (decide (rightP ops)) ∧ As = [imm I]) := by
  refine Spec.of ?_
  intro R C kd d F c cs hkd hret
  simp only [List.cons_append, List.nil_append]
  refine C.go ?_
  refine C.rg [0] ?_
  refine C.asg rfl ?_
  refine C.go ?_
  refine C.rg [0, 1] ?_
  refine C.mm .u8 int64V rfl (fun b6 => ?_)
  refine C.asg rfl ?_
  refine C.go ?_
  refine C.rg [0, 1, 2] ?_
  refine C.mv rfl ?_
  refine C.lnR rfl ?_
  refine C.mv rfl ?_
  refine C.go ?_
  refine C.loopR (X := Nat × List (Int × Int)) (fun x => [(0, so.v), (3, .map (some b6)), (7, so.v), (8, .int .i64 ops.length), (9, .int .i64 x.1)]) (fun x => mapP .u8 int64V b6 x.2 :: imm I :: F) (fun x => x.1 ≤ ops.length ∧ (∀ j (hj : j < ops.length), j < x.1 → okOp ops[j]) ∧ MK x.2 (ops.take x.1)) (fun x => ops.length - x.1) (0, []) ⟨rfl, rfl, rfl, rfl, rfl, trivial⟩ ⟨Nat.zero_le _, by intro j _ hj; omega, MK.zero⟩ ?_
  rintro ⟨i, m⟩ e ⟨hi, hok, hm⟩ ih
  dsimp only at hi hok hm ⊢
  refine C.go ?_
  refine C.rg [0] ?_
  refine C.cmp rfl (fun h10 => ?_) (fun h10 => ?_)
  · skip
    refine C.go ?_
    refine C.tru ?_
    have hi' : i < ops.length := by simpa using h10
    have hv : 0 ≤ (getM m ops[i].k).getD 0 ∧ (getM m ops[i].k).getD 0 ≤ (2 : Int) ^ 43 := by
      cases hg : getM m ops[i].k with
      | none => simp
      | some w =>
        have := hm.vb _ _ hg
        rw [List.length_take] at this
        simp only [Option.getD_some]
        have : ((min i ops.length : Nat) : Int) ≤ 2 ^ 43 := by omega
        omega
    refine C.rg [0, 1, 2, 3] ?_
    refine C.iaR rfl ?_
    refine C.ldRS rfl (fun hj => ?_)
    refine C.al rfl (fun b5 => ?_)
    refine C.stS rfl ?_ (hv := fun v h => RowF.one (f := opPC) ops[i] v (by simpa using h))
    refine C.go ?_
    refine C.rg [0, 1, 2, 3, 4, 5] ?_
    refine C.mv rfl ?_
    refine C.fa rfl ?_
    refine C.ld rfl ?_
    have e16 : ((getM m ops[i].k).map int64V).getD (.int .i64 0) = .int .i64 ((getM m ops[i].k).getD 0) := by cases getM m ops[i].k <;> rfl
    refine C.lkR (co := false) (g := int64V) (l := m) (q := ops[i].k) rfl ?_
    simp only [Bool.false_eq_true, if_false]
    rw [e16]
    refine C.ar rfl ?_
    refine C.mu rfl ?_
    refine C.go ?_
    refine C.rg [0, 1, 2, 3, 4, 5, 6, 7, 8, 9, 10, 11, 12, 13, 14, 15, 16, 17] ?_
    refine C.fa rfl ?_
    refine C.ld rfl ?_
    refine C.cmp rfl (fun h20 => ?_) (fun h20 => ?_)
    · skip
      refine C.mv rfl ?_
      refine C.no rfl ?_
      refine C.no rfl ?_
      refine C.no rfl ?_
      refine C.pk rfl ?_
      refine C.mv rfl ?_
      refine C.no rfl ?_
      refine C.no rfl ?_
      refine C.no rfl ?_
      refine C.no rfl ?_
      refine C.no rfl ?_
      refine C.no rfl ?_
      refine C.no rfl ?_
      refine C.no rfl ?_
      refine C.pk rfl ?_
      refine C.go ?_
      refine C.tru ?_
      refine C.rg [0] ?_
      refine C.asg rfl ?_
      refine C.go ?_
      refine C.retR hkd hret ⟨?_, rfl⟩
      rw [decide_eq_false (fun h => by have := (h.1 _ (List.getElem_mem hi')).1; omega)]
    · skip
      refine C.mv rfl ?_
      refine C.fa rfl ?_
      refine C.ld rfl ?_
      refine C.cmp rfl (fun h24 => ?_) (fun h24 => ?_)
      · skip
        refine C.pk rfl ?_
        refine C.mv rfl ?_
        refine C.no rfl ?_
        refine C.no rfl ?_
        refine C.no rfl ?_
        refine C.no rfl ?_
        refine C.no rfl ?_
        refine C.no rfl ?_
        refine C.no rfl ?_
        refine C.no rfl ?_
        refine C.pk rfl ?_
        refine C.go ?_
        refine C.tru ?_
        refine C.rg [0] ?_
        refine C.asg rfl ?_
        refine C.go ?_
        refine C.retR hkd hret ⟨?_, rfl⟩
        rw [decide_eq_false (fun h => by have := (h.1 _ (List.getElem_mem hi')).2.1; omega)]
      · skip
        refine C.pk rfl ?_
        refine C.mv rfl ?_
        refine C.fa rfl ?_
        refine C.ld rfl ?_
        generalize hw : ops[i].w = z
        rcases Bool.eq_false_or_eq_true z with rfl | rfl
        · skip
          refine C.nt rfl ?_
          refine C.mv rfl ?_
          refine C.no rfl ?_
          refine C.no rfl ?_
          refine C.no rfl ?_
          refine C.pk rfl ?_
          refine C.pk rfl ?_
          refine C.go ?_
          refine C.fls ?_
          refine C.rg [0, 1] ?_
          refine C.ar rfl ?_
          refine C.mv rfl ?_
          refine C.go ?_
          have hok' : okOp ops[i] := ⟨by omega, by omega, .inl hw⟩
          refine again ih (i + 1, setM m ops[i].k ((getM m ops[i].k).getD 0 + 1)) ⟨hi', fun j hj hlt => ?_, by dsimp only; rw [List.take_succ_eq_append_getElem hi']; exact hm.add _⟩ (by dsimp only; omega)
          rcases Nat.lt_succ_iff_lt_or_eq.1 hlt with h | rfl
          · exact hok j hj h
          · exact hok'
        · skip
          refine C.nt rfl ?_
          refine C.mv rfl ?_
          refine C.fa rfl ?_
          refine C.ld rfl ?_
          refine C.cmp rfl (fun h33 => ?_) (fun h33 => ?_)
          · skip
            refine C.pk rfl ?_
            refine C.pk rfl ?_
            refine C.go ?_
            refine C.tru ?_
            refine C.rg [0] ?_
            refine C.asg rfl ?_
            refine C.go ?_
            refine C.retR hkd hret ⟨?_, rfl⟩
            rw [decide_eq_false (fun h => by
              rcases (h.1 _ (List.getElem_mem hi')).2.2 with h | h
              · rw [hw] at h; cases h
              · omega)]
          · skip
            refine C.pk rfl ?_
            refine C.pk rfl ?_
            refine C.go ?_
            refine C.fls ?_
            refine C.rg [0, 1] ?_
            refine C.ar rfl ?_
            refine C.mv rfl ?_
            refine C.go ?_
            have hok' : okOp ops[i] := ⟨by omega, by omega, .inr (by omega)⟩
            refine again ih (i + 1, setM m ops[i].k ((getM m ops[i].k).getD 0 + 1)) ⟨hi', fun j hj hlt => ?_, by dsimp only; rw [List.take_succ_eq_append_getElem hi']; exact hm.add _⟩ (by dsimp only; omega)
            rcases Nat.lt_succ_iff_lt_or_eq.1 hlt with h | rfl
            · exact hok j hj h
            · exact hok'
  · skip
    refine C.go ?_
    refine C.fls ?_
    have hie : i = ops.length := by have : ¬ i < ops.length := (by simpa using h10); omega
    have hm' : MK m ops := by have := hm; rw [hie, List.take_length] at this; exact this
    have hall : ∀ o ∈ ops, okOp o := fun o ho => by
      obtain ⟨j, hj, rfl⟩ := List.getElem_of_mem ho
      exact hok j hj (by omega)
    have hiff := hm'.iff
    refine C.rg [0, 1, 2, 3, 4, 5, 6, 7, 8, 9, 10, 11, 12, 13, 14, 15] ?_
    refine C.mv rfl ?_
    refine C.lnR rfl ?_
    refine C.cmp rfl (fun h39 => ?_) (fun h39 => ?_)
    · skip
      refine C.mv rfl ?_
      refine C.mv rfl ?_
      refine C.lnR rfl ?_
      refine C.cmp rfl (fun h43 => ?_) (fun h43 => ?_)
      · skip
        refine C.pk rfl ?_
        refine C.mv rfl ?_
        refine C.mv rfl ?_
        refine C.lnM rfl ?_
        refine C.mv rfl ?_
        refine C.lnR rfl ?_
        refine C.cmp rfl (fun h50 => ?_) (fun h50 => ?_)
        · skip
          refine C.pk rfl ?_
          refine C.asg rfl ?_
          refine C.go ?_
          refine C.retR hkd hret ⟨?_, rfl⟩
          rw [decide_eq_true (show rightP ops from ⟨hall, hiff.1 (by omega), by omega, by omega⟩)]
        · skip
          refine C.pk rfl ?_
          refine C.asg rfl ?_
          refine C.go ?_
          refine C.retR hkd hret ⟨?_, rfl⟩
          rw [decide_eq_false (fun h => by have := hiff.2 h.2.1; omega)]
      · skip
        refine C.pk rfl ?_
        refine C.mv rfl ?_
        refine C.no rfl ?_
        refine C.no rfl ?_
        refine C.no rfl ?_
        refine C.no rfl ?_
        refine C.no rfl ?_
        refine C.pk rfl ?_
        refine C.asg rfl ?_
        refine C.go ?_
        refine C.retR hkd hret ⟨?_, rfl⟩
        rw [decide_eq_false (fun h => by have := h.2.2.2; omega)]
    · skip
      refine C.mv rfl ?_
      refine C.no rfl ?_
      refine C.no rfl ?_
      refine C.no rfl ?_
      refine C.pk rfl ?_
      refine C.mv rfl ?_
      refine C.no rfl ?_
      refine C.no rfl ?_
      refine C.no rfl ?_
      refine C.no rfl ?_
      refine C.no rfl ?_
      refine C.pk rfl ?_
      refine C.asg rfl ?_
      refine C.go ?_
      refine C.retR hkd hret ⟨?_, rfl⟩
      rw [decide_eq_false (fun h => by have := h.2.2.1; omega)]
end Go.Sl
end
section
set_option linter.unusedVariables false
namespace Go.Sl
open Go.Proofs Go.Conc
def begMP (n : Nat) (t : TxV) (tx : Int) : MsgV := ⟨{ msg0 with kind := 1, frm := -1, to := homeR t.ops n, tx := tx, ops := t.ops }, t.so, nilS⟩
theorem homeR_eq' (ops : List OpR) (n : Int) (h : 0 < ops.length) : atR ops[0].k n = homeR ops n := by
  cases ops with
  | nil => cases h
  | cons o l => rfl
section
variable {σ : Gh} {b : Nat} {m : Int} {hs bg txS : SliceV} {dn : Value} {stopped : Bool} {st : Int} {I : HL} {hl : List Nat} {bag : List MsgV} {txs : List TxV} {tx : Nat}
theorem cbegin_spec (hn : 1 ≤ hl.length ∧ hl.length ≤ 4) (hbag : bag.length < 2 ^ 30) (htx : tx < txs.length) (hto : imSl I opPC 67 txs[tx].so txs[tx].ops) (hops : OpsB txs[tx].ops ∧ 1 ≤ txs[tx].ops.length) :
    Spec Tryz.prog true (barX.bw σ) 56 #[.pointer (some ⟨b, 0, none⟩), .int .i64 tx] [clP b m hs.v bg.v txS.v dn stopped st, slP ptrC 1 114 hs hl, slP msgC 7 190 bg bag, slP txC 3 126 txS txs, imm I]
      (fun v As => ∃ bg' : SliceV, v = .tuple #[] ∧ As = [clP b m hs.v bg'.v txS.v dn stopped st, slP ptrC 1 114 hs hl, slP msgC 7 190 bg' (bag ++ [begMP hl.length txs[tx] tx]), slP txC 3 126 txS txs, imm I]) := by
  refine Spec.of ?_
  intro R C kd d F c cs hkd hret
  simp only [List.cons_append, List.nil_append]
  have hol : 0 < txs[tx].ops.length := hops.2
  have hkey := hops.1.1 _ (List.getElem_mem hol)
  have hhome : atR txs[tx].ops[0].k (hl.length : Int) = homeR txs[tx].ops hl.length := homeR_eq' _ _ hol
  refine C.go ?_
  refine C.rg [0, 1, 2, 3, 4, 5, 6, 7, 8] ?_
  refine C.mv rfl ?_
  refine C.nc rfl ?_
  refine C.fa rfl ?_
  refine C.ld rfl ?_
  refine C.mv rfl ?_
  refine C.iaR rfl ?_
  refine C.fa rfl ?_
  refine C.ldR rfl ?_
  refine C.asg rfl ?_
  refine C.go ?_
  refine C.drawnW [(13, 0), (14, 1), (15, 2), (16, 3), (17, 4), (18, 5), (19, 6), (20, 7), (21, 8), (22, 9), (23, 10), (24, 11), (25, 12), (26, 13), (27, 14), (28, 15), (29, 16), (30, 17), (31, 18), (32, 19), (33, 20), (34, 21)] [0, 1, 2, 3, 4, 5, 6, 7, 8, 9, 10, 11, 12, 13, 15, 16, 20, 21] [14, 17, 18, 19, 22] 3 ?_ (W := [clP b m hs.v bg.v txS.v dn stopped st, slP ptrC 1 114 hs hl, imm I])
  refine Dr.pu ⟨_, rfl, rfl⟩ (fun _ _ _ h => C.mv rfl h) ?_
  refine Dr.pu ⟨_, rfl, rfl⟩ (fun _ _ _ h => C.mv rfl h) ?_
  refine Dr.pu ⟨_, rfl, rfl⟩ (fun _ _ _ h => C.nc rfl h) ?_
  refine Dr.pu ⟨_, rfl, rfl⟩ (fun _ _ _ h => C.fa rfl h) ?_
  refine Dr.ld ⟨_, rfl, rfl⟩ (fun _ hE _ _ h => C.ld rfl h) ?_
  refine Dr.pu ⟨_, rfl, rfl⟩ (fun _ _ _ h => C.mv rfl h) ?_
  refine Dr.ld ⟨_, rfl, rfl⟩ (fun _ hE _ _ h => C.iaR rfl h) ?_
  refine Dr.pu ⟨_, rfl, rfl⟩ (fun _ _ _ h => C.fa rfl h) ?_
  refine Dr.ld ⟨_, rfl, rfl⟩ (fun _ hE _ _ h => C.ldR rfl h) ?_
  refine Dr.pu ⟨_, rfl, rfl⟩ (fun _ _ _ h => C.mv rfl h) ?_
  refine Dr.pu ⟨_, rfl, rfl⟩ (fun _ _ _ h => C.nc rfl h) ?_
  refine Dr.pu ⟨_, rfl, rfl⟩ (fun _ _ _ h => C.fa rfl h) ?_
  refine Dr.ld ⟨_, rfl, rfl⟩ (fun _ hE _ _ h => C.ld rfl h) ?_
  refine Dr.ld ⟨_, rfl, rfl⟩ (fun _ hE _ _ h => C.lnR rfl h) ?_
  refine Dr.pu ⟨_, rfl, rfl⟩ (fun _ _ _ h => C.mv rfl h) ?_
  refine Dr.pu ⟨_, rfl, rfl⟩ (fun _ _ _ h => C.mv rfl h) ?_
  refine Dr.pu ⟨_, rfl, rfl⟩ (fun _ _ _ h => C.nc rfl h) ?_
  refine Dr.pu ⟨_, rfl, rfl⟩ (fun _ _ _ h => C.fa rfl h) ?_
  refine Dr.chain rfl ?_ (fun _ s => Reo.sat (by ((try simp only [List.cons_append, List.nil_append]); (repeat (first | with_reducible exact Reo.refl | with_reducible exact Reo.nil | with_reducible exact Fo.head | with_reducible apply Fo.tail | with_reducible apply Reo.cons | with_reducible apply Reo.drop)); done)) s)
  refine Ch.n1 (t := 14) rfl ⟨_, rfl, fun e rest hk => ?_⟩
  refine C.clR (Spec.less (barLe σ) (shAt_spec (key := txs[tx].ops[0].k) (n := (hl.length : Int)) (by omega) (by omega))) ?_
  rintro v As' ⟨rfl, rfl⟩
  simp only [List.nil_append]
  rw [hhome]
  refine hk _ _ (.of (fun _ s => Reo.sat (by ((try simp only [List.cons_append, List.nil_append]); (repeat (first | with_reducible exact Reo.refl | with_reducible exact Reo.nil | with_reducible exact Fo.head | with_reducible apply Fo.tail | with_reducible apply Reo.cons | with_reducible apply Reo.drop)); done)) s)) ?_
  refine Ch.pu (i := 17) ⟨_, rfl, rfl⟩ (fun _ _ _ h => C.bd rfl h) ?_
  refine Ch.n1 (t := 18) rfl ⟨_, rfl, fun e rest hk => ?_⟩
  refine C.bs1 rfl (fun b31 => hk _ _ .cons ?_)
  refine Ch.n1 (t := 19) rfl ⟨_, rfl, fun e rest hk => ?_⟩
  refine C.ap1 (begMP hl.length txs[tx] tx) rfl (fun s2 => ?_)
  refine hk _ _ (.of (fun _ s => Reo.sat (by ((try simp only [List.cons_append, List.nil_append]); (repeat (first | with_reducible exact Reo.refl | with_reducible exact Reo.nil | with_reducible exact Fo.head | with_reducible apply Fo.tail | with_reducible apply Reo.cons | with_reducible apply Reo.drop)); done)) s)) ?_
  refine Ch.n1 (t := 22) rfl ⟨_, rfl, fun e rest hk => ?_⟩
  refine C.st rfl (hk _ undef ?_)
  refine Ch.fin ?_
  refine C.go ?_
  exact C.finR hkd hret ⟨s2, rfl, rfl⟩
end
end Go.Sl
end
section
set_option linter.unusedVariables false
namespace Go.Sl
open Go.Proofs Go.Conc
def subQ (eb : Nat → Nat × Nat) (I : HL) (n : Nat) (ops : List OpR) (bag : List MsgV) (txs : List TxV) (er : Option Nat) (t : Int) (I' : HL) (bag' : List MsgV) (txs' : List TxV) : Prop :=
  Sub I I' ∧ ((¬ rightP ops ∧ er = some 1 ∧ t = 0 ∧ bag' = bag ∧ txs' = txs) ∨ (rightP ops ∧ (txs.length = 60 ∨ 400 ≤ bag.length) ∧ er = some 2 ∧ t = 0 ∧ bag' = bag ∧ txs' = txs) ∨
    (rightP ops ∧ ¬ (txs.length = 60 ∨ 400 ≤ bag.length) ∧ er = none ∧ t = txs.length ∧ ∃ s7, imSl I' opPC 67 s7 ops ∧ txs' = txs ++ [⟨⟨ops, 1, []⟩, s7, nilS⟩] ∧ bag' = bag ++ [begMP n ⟨⟨ops, 1, []⟩, s7, nilS⟩ txs.length]))
theorem shG0' (σ : Gh) (t : TypeId) : (barX.bw σ).sh t 0 = false := shG0 t
section
variable {σ : Gh} {b bo bc bt : Nat} {so hs bg txS : SliceV} {dn : Value} {st : Int} {I J : HL} {hl : List Nat} {bag : List MsgV} {txs : List TxV} {eb : Nat → Nat × Nat} {ops : List OpR}
theorem sub1_spec (hE : ErrI I eb) (hn : 1 ≤ hl.length ∧ hl.length ≤ 4) (hbag : bag.length < 2 ^ 20) (htx : txs.length ≤ 60) (ho : imSl J opPC 67 so ops) (hlo : ops.length < 2 ^ 43) :
    Spec Tryz.prog true (barX.bw σ) 53 #[ptrV bo, ptrV bc, ptrV bt] [pts bo (.cells #[so.v] 36 (0, 0)), pts bc (.cells #[ptrV b] 23 (0, 0)), pts bt (.cells #[.int .i64 0] 3 (0, 0)), clP b 1 hs.v bg.v txS.v dn false st, slP ptrC 1 114 hs hl, slP msgC 7 190 bg bag, slP txC 3 126 txS txs, imm I, imm J]
      (fun v As => ∃ (bg' txS' : SliceV) (er : Option Nat) (t : Int) (I' : HL) (bag' : List MsgV) (txs' : List TxV), v = errO eb er ∧ subQ eb I hl.length ops bag txs er t I' bag' txs' ∧ As = [pts bt (.cells #[.int .i64 t] 3 (0, 0)), clP b 1 hs.v bg'.v txS'.v dn false st, slP ptrC 1 114 hs hl, slP msgC 7 190 bg' bag', slP txC 3 126 txS' txs', imm I', imm J]) := by
  refine Spec.of ?_
  intro R C kd d F c cs hkd hret
  simp only [List.cons_append, List.nil_append]
  obtain ⟨t1, hg1⟩ := hE.g 1 (by decide)
  obtain ⟨t2, hg2⟩ := hE.g 2 (by decide)
  refine C.go ?_
  refine C.rg [0] ?_
  refine C.asg rfl ?_
  refine C.go ?_
  refine C.rg [0, 1, 2] ?_
  refine C.ld rfl ?_
  refine C.clR (Spec.less (barLe σ) (cright_spec ho hlo)) ?_
  rintro v As' ⟨rfl, rfl⟩
  simp only [List.cons_append, List.nil_append]
  generalize hz : decide (rightP ops) = z
  rcases Bool.eq_false_or_eq_true z with rfl | rfl
  · skip
    refine C.nt rfl ?_
    refine C.go ?_
    refine C.fls ?_
    have hr : rightP ops := by simpa using hz
    refine C.rg [0, 1, 2, 3, 4, 5, 6, 7, 8, 9, 10, 11, 12, 13] ?_
    refine C.ld rfl ?_
    refine C.nc rfl ?_
    refine C.fa rfl ?_
    refine C.ld rfl ?_
    refine C.lnR rfl ?_
    refine C.cmp rfl (fun h13 => ?_) (fun h13 => ?_)
    · skip
      refine C.mv rfl ?_
      refine C.no rfl ?_
      refine C.no rfl ?_
      refine C.no rfl ?_
      refine C.no rfl ?_
      refine C.no rfl ?_
      refine C.no rfl ?_
      refine C.pk rfl ?_
      refine C.go ?_
      refine C.tru ?_
      refine C.rg [0, 1] ?_
      refine C.ldG (by (repeat (first | with_reducible exact Fo.head | with_reducible apply Fo.tail))) hg2 (shG0' _ _) rfl ?_
      refine C.asg rfl ?_
      refine C.go ?_
      exact C.retR hkd hret ⟨bg, txS, some 2, 0, I, bag, txs, rfl, ⟨Sub.refl _, .inr (.inl ⟨hr, .inl (by omega), rfl, rfl, rfl, rfl⟩)⟩, rfl⟩
    · skip
      refine C.mv rfl ?_
      refine C.ld rfl ?_
      refine C.nc rfl ?_
      refine C.fa rfl ?_
      refine C.ld rfl ?_
      refine C.lnR rfl ?_
      refine C.cmp rfl (fun h20 => ?_) (fun h20 => ?_)
      · skip
        refine C.pk rfl ?_
        refine C.go ?_
        refine C.tru ?_
        refine C.rg [0, 1] ?_
        refine C.ldG (by (repeat (first | with_reducible exact Fo.head | with_reducible apply Fo.tail))) hg2 (shG0' _ _) rfl ?_
        refine C.asg rfl ?_
        refine C.go ?_
        exact C.retR hkd hret ⟨bg, txS, some 2, 0, I, bag, txs, rfl, ⟨Sub.refl _, .inr (.inl ⟨hr, .inr (by omega), rfl, rfl, rfl, rfl⟩)⟩, rfl⟩
      · skip
        refine C.pk rfl ?_
        refine C.go ?_
        refine C.fls ?_
        refine C.rg [0, 1, 2, 3, 4, 5] ?_
        refine C.ld rfl ?_
        refine C.nc rfl ?_
        refine C.fa rfl ?_
        refine C.ld rfl ?_
        refine C.lnR rfl ?_
        refine C.st rfl ?_
        refine C.go ?_
        refine C.drawnW [(28, 0), (29, 1), (30, 2), (31, 3), (32, 4), (33, 5), (34, 6), (35, 7), (36, 8), (37, 9), (38, 10), (39, 11)] [0, 1, 2, 3, 4, 5, 10, 11] [6, 7, 8, 9, 12] 4 ?_ (W := [clP b 1 hs.v bg.v txS.v dn false st, pts bc (.cells #[ptrV b] 23 (0, 0)), pts bo (.cells #[so.v] 36 (0, 0)), imm I, imm J])
        refine Dr.ld ⟨_, rfl, rfl⟩ (fun _ hE _ _ h => C.ld rfl h) ?_
        refine Dr.ld ⟨_, rfl, rfl⟩ (fun _ hE _ _ h => C.ld rfl h) ?_
        refine Dr.pu ⟨_, rfl, rfl⟩ (fun _ _ _ h => C.nc rfl h) ?_
        refine Dr.pu ⟨_, rfl, rfl⟩ (fun _ _ _ h => C.fa rfl h) ?_
        refine Dr.ld ⟨_, rfl, rfl⟩ (fun _ hE _ _ h => C.ld rfl h) ?_
        refine Dr.ld ⟨_, rfl, rfl⟩ (fun _ hE _ _ h => C.ld rfl h) ?_
        refine Dr.pu ⟨_, rfl, rfl⟩ (fun _ _ _ h => C.nc rfl h) ?_
        refine Dr.pu ⟨_, rfl, rfl⟩ (fun _ _ _ h => C.fa rfl h) ?_
        refine Dr.chain rfl ?_ (fun _ s => Reo.sat (by ((try simp only [List.cons_append, List.nil_append]); (repeat (first | with_reducible exact Reo.refl | with_reducible exact Reo.nil | with_reducible exact Fo.head | with_reducible apply Fo.tail | with_reducible apply Reo.cons | with_reducible apply Reo.drop)); done)) s)
        refine Ch.n1 (t := 6) rfl ⟨_, rfl, fun e rest hk => ?_⟩
        refine C.clR (Spec.less (barLe σ) (clone_spec ho hlo)) ?_
        rintro v As' ⟨s7, rfl, rfl⟩
        simp only [List.cons_append, List.nil_append]
        refine hk _ _ (.of (fun _ s => Reo.sat (by ((try simp only [List.cons_append, List.nil_append]); (repeat (first | with_reducible exact Reo.refl | with_reducible exact Reo.nil | with_reducible exact Fo.head | with_reducible apply Fo.tail | with_reducible apply Reo.cons | with_reducible apply Reo.drop)); done)) s)) ?_
        refine Ch.n1 (t := 7) rfl ⟨_, rfl, fun e rest hk => ?_⟩
        refine C.bd rfl ?_
        skip
        refine hk _ _ .refl ?_
        refine Ch.n1 (t := 8) rfl ⟨_, rfl, fun e rest hk => ?_⟩
        refine C.bs1 rfl (fun b36 => hk _ _ .cons ?_)
        refine Ch.n1 (t := 9) rfl ⟨_, rfl, fun e rest hk => ?_⟩
        refine C.ap1 (TxV.mk ⟨ops, 1, []⟩ s7 nilS) rfl (fun s8 => ?_)
        refine hk _ _ (.of (fun _ s => Reo.sat (by ((try simp only [List.cons_append, List.nil_append]); (repeat (first | with_reducible exact Reo.refl | with_reducible exact Reo.nil | with_reducible exact Fo.head | with_reducible apply Fo.tail | with_reducible apply Reo.cons | with_reducible apply Reo.drop)); done)) s)) ?_
        refine Ch.n1 (t := 12) rfl ⟨_, rfl, fun e rest hk => ?_⟩
        refine C.st rfl (hk _ undef ?_)
        refine Ch.fin ?_
        refine C.go ?_
        refine At.frz (I := I) (s := s7) (f := opPC) (by (repeat (first | with_reducible exact Fo.head | with_reducible apply Fo.tail))) (by (repeat (first | with_reducible exact Fo.head | with_reducible apply Fo.tail))) fun I1 hI1 hs7 => ?_
        have hopsB : OpsB ops := ⟨fun o ho => ⟨(hr.1 o ho).1, (hr.1 o ho).2.1⟩, by have := hr.2.2.2; omega⟩
        have hsp := cbegin_spec (σ := σ) (b := b) (m := 1) (hs := hs) (bg := bg) (txS := s8) (dn := dn) (stopped := false) (st := st) (I := I1) (hl := hl) (bag := bag) (txs := txs ++ [TxV.mk ⟨ops, 1, []⟩ s7 nilS]) (tx := txs.length) hn (by omega) (by simp) (by simp only [List.getElem_append_right (Nat.le_refl _), Nat.sub_self]; exact hs7) (by simp only [List.getElem_append_right (Nat.le_refl _), Nat.sub_self]; exact ⟨hopsB, hr.2.2.1⟩)
        have hidx : (txs ++ [TxV.mk ⟨ops, 1, []⟩ s7 nilS])[txs.length]'(by simp) = TxV.mk ⟨ops, 1, []⟩ s7 nilS := by simp
        simp only [hidx] at hsp
        refine C.rg [0, 1, 2] ?_
        refine C.ld rfl ?_
        refine C.ld rfl ?_
        refine C.clR hsp ?_
        rintro v As' ⟨bg', rfl, rfl⟩
        simp only [List.cons_append, List.nil_append]
        refine C.go ?_
        refine C.rg [0] ?_
        refine C.asg rfl ?_
        refine C.go ?_
        exact C.retR hkd hret ⟨bg', s8, none, txs.length, I1, _, _, rfl, ⟨hI1, .inr (.inr ⟨hr, by omega, rfl, rfl, s7, hs7, rfl, rfl⟩)⟩, rfl⟩
  · skip
    refine C.nt rfl ?_
    refine C.go ?_
    refine C.tru ?_
    refine C.rg [0, 1] ?_
    refine C.ldG (by (repeat (first | with_reducible exact Fo.head | with_reducible apply Fo.tail))) hg1 (shG0' _ _) rfl ?_
    refine C.asg rfl ?_
    refine C.go ?_
    exact C.retR hkd hret ⟨bg, txS, some 1, 0, I, bag, txs, rfl, ⟨Sub.refl _, .inl ⟨by simpa using hz, rfl, rfl, rfl, rfl⟩⟩, rfl⟩
end
end Go.Sl
end
section
set_option linter.unusedVariables false
namespace Go.Sl
open Go.Proofs Go.Conc
def CallV (eb : Nat → Nat × Nat) (name : Value) (at_ : Int) : Option Nat → Value → List HP → Prop
  | none, v, L => v = .nilIface ∧ L = []
  | some k, v, L => ∃ bE, v = .iface 128 (ptrV bE) ∧ L = [pts bE (.cells #[name, .int .i64 at_, errV (eb k)] 132 (0, 0))]
theorem ReF.app {F : List HP} : ∀ A : List HP, ReF A (A ++ F) F
  | [] => .nil
  | a :: A => .cons .head (ReF.app A)
theorem call_spec {σ : Gh} {c : CV} {f : FuncId} {fu : Func} {code : Code} {nf : Nat} [bd : Body Tryz.prog f fu code nf] {caps : Array Value} {I : HL} {eb : Nat → Nat × Nat} {nm : ByteArray} {at_ : Int} {A : List HP} {Q : Option Nat → Gh → CV → HL → List HP → Prop} (hE : ErrI I eb)
    (hf : c.stopped = false → SpecG Tryz.prog barX f (#[] ++ ([] : List Value).toArray ++ caps) σ (cvM 1 c :: imm I :: A) (fun v σ' As => ∃ er c' I' A', v = errO eb er ∧ (∀ k, er = some k → k < 9) ∧ As = cvM 1 c' :: imm I' :: A' ∧ c'.G.b = c.G.b ∧ Q er σ' c' I' A')) :
    SpecG Tryz.prog barX 52 #[ptrV c.G.b, .string nm, .int .i64 at_, .func (.func f) #[] caps] σ (cvP c :: imm I :: A)
      (fun v σ' As => ∃ er c' I' A' L, CallV eb (.string nm) at_ er v L ∧ As = cvP c' :: imm I' :: (L ++ A') ∧ ((c.stopped = true ∧ er = some 8 ∧ σ' = σ ∧ c' = c ∧ I' = I ∧ A' = A) ∨ (c.stopped = false ∧ Q er σ' c' I' A'))) := by
  refine SpecG.of ?_
  intro Post os out kd F c' cs C hkd hret
  simp only [List.cons_append, List.nil_append]
  obtain ⟨t8, hg8⟩ := hE.g 8 (by decide)
  obtain ⟨G, hosts, bag, txs, stopped⟩ := c
  refine cvP.opn (h := fun hs bg tx => ?_)
  refine C.go ?_
  refine C.rg [0] ?_
  refine C.asg rfl ?_
  refine C.go ?_
  refine C.rg [0, 1, 2, 3] ?_
  refine C.mv rfl ?_
  refine C.nc rfl ?_
  refine C.fa rfl ?_
  refine C.clR mlock_spec ?_
  rintro v As' ⟨rfl, rfl⟩
  simp only [List.cons_append, List.nil_append]
  refine C.go ?_
  refine C.rg [0, 1, 2, 3] ?_
  refine C.mv rfl ?_
  refine C.nc rfl ?_
  refine C.fa rfl ?_
  refine C.df rfl ?_
  refine C.go ?_
  refine C.rg [0, 1] ?_
  refine C.ldG (v := errV (eb 8)) (by (repeat (first | with_reducible exact Fo.head | with_reducible apply Fo.tail))) hg8 (shG0' _ _) rfl ?_
  refine C.asg rfl ?_
  refine C.go ?_
  refine C.rg [0, 1, 2, 3, 4] ?_
  refine C.mv rfl ?_
  refine C.nc rfl ?_
  refine C.fa rfl ?_
  refine C.ld rfl ?_
  refine C.nt rfl ?_
  refine C.go ?_
  cases stopped with
  | true =>
    refine C.fls ?_
    refine C.rg [0, 1] ?_
    refine C.mv rfl ?_
    refine C.eqZ Tryz.underlying46 rfl ?_
    refine C.go ?_
    refine C.tru ?_
    refine C.rg [0, 1, 2, 3, 4, 5, 6] ?_
    refine C.mv rfl ?_
    refine C.mv rfl ?_
    refine C.mv rfl ?_
    refine C.bd rfl ?_
    refine C.bx rfl (fun bE => ?_)
    refine C.mi rfl ?_
    refine C.asg rfl ?_
    refine C.go ?_
    refine C.rtA ?_
    refine RunR.dfr (Spec.g unlock_spec) ?_
    rintro v σ' As' ⟨rfl, rfl, rfl⟩
    simp only [List.cons_append, List.nil_append]
    refine C.home (fu := Tryz.f52) Tryz.func52 hkd rfl ?_
    refine cvP.cls (m := 0) ⟨G, hosts, bag, txs, true⟩ ?_
    refine At.reo ?_ (hret _ _ _ ⟨some 8, ⟨G, hosts, bag, txs, true⟩, I, A, [pts bE (.cells #[.string nm, .int .i64 at_, errV (eb 8)] 132 (0, 0))], ⟨bE, rfl, rfl⟩, rfl, .inl ⟨rfl, rfl, rfl, rfl, rfl, rfl⟩⟩)
    ((try simp only [List.cons_append, List.nil_append]); (repeat (first | with_reducible exact Reo.refl | with_reducible exact Reo.nil | with_reducible exact Fo.head | with_reducible apply Fo.tail | with_reducible apply Reo.cons | with_reducible apply Reo.drop)); done)
  | false =>
    refine C.tru ?_
    refine C.rg [0, 1, 2] ?_
    refine C.mv rfl ?_
    refine cvP.cls (m := 1) ⟨G, hosts, bag, txs, false⟩ ?_
    refine RunR.cl (hf rfl) ?_ (hr := .cons .head (.cons .head (ReF.app A)))
    rintro v σ' As' ⟨er, c2, I2, A2, rfl, hk, rfl, hb, hQ⟩
    have C : Closed Tryz.prog true (barX.bw σ') (RunR Tryz.prog Post barX σ' 0 os out) := RunR.closed0
    simp only [List.cons_append, List.nil_append]
    refine C.asg rfl ?_
    refine C.go ?_
    refine C.rg [0, 1] ?_
    refine C.mv rfl ?_
    refine cvP.opn (m := 1) (c := c2) (h := fun hs2 bg2 tx2 => ?_)
    rw [← hb]
    cases er with
    | none =>
      refine C.eqZZ Tryz.underlying46 rfl ?_
      refine C.go ?_
      refine C.fls ?_
      refine C.rg [0] ?_
      refine C.asg rfl ?_
      refine C.go ?_
      refine C.rtA ?_
      refine RunR.dfr (Spec.g unlock_spec) ?_
      rintro v σ2 As' ⟨rfl, rfl, rfl⟩
      simp only [List.cons_append, List.nil_append]
      refine C.home (fu := Tryz.f52) Tryz.func52 hkd rfl ?_
      refine cvP.cls (m := 0) c2 ?_
      refine At.reo ?_ (hret _ _ _ ⟨none, c2, I2, A2, [], ⟨rfl, rfl⟩, rfl, .inr ⟨rfl, hQ⟩⟩)
      ((try simp only [List.cons_append, List.nil_append]); (repeat (first | with_reducible exact Reo.refl | with_reducible exact Reo.nil | with_reducible exact Fo.head | with_reducible apply Fo.tail | with_reducible apply Reo.cons | with_reducible apply Reo.drop)); done)
    | some k =>
      refine C.eqZ Tryz.underlying46 rfl ?_
      refine C.go ?_
      refine C.tru ?_
      refine C.rg [0, 1, 2, 3, 4, 5, 6] ?_
      refine C.mv rfl ?_
      refine C.mv rfl ?_
      refine C.mv rfl ?_
      refine C.bd rfl ?_
      refine C.bx rfl (fun bE => ?_)
      refine C.mi rfl ?_
      refine C.asg rfl ?_
      refine C.go ?_
      refine C.rtA ?_
      refine RunR.dfr (Spec.g unlock_spec) ?_
      rintro v σ2 As' ⟨rfl, rfl, rfl⟩
      simp only [List.cons_append, List.nil_append]
      refine C.home (fu := Tryz.f52) Tryz.func52 hkd rfl ?_
      refine cvP.cls (m := 0) c2 ?_
      refine At.reo ?_ (hret _ _ _ ⟨some k, c2, I2, A2, [pts bE (.cells #[.string nm, .int .i64 at_, errV (eb k)] 132 (0, 0))], ⟨bE, rfl, rfl⟩, rfl, .inr ⟨rfl, hQ⟩⟩)
      ((try simp only [List.cons_append, List.nil_append]); (repeat (first | with_reducible exact Reo.refl | with_reducible exact Reo.nil | with_reducible exact Fo.head | with_reducible apply Fo.tail | with_reducible apply Reo.cons | with_reducible apply Reo.drop)); done)
end Go.Sl
end
section
set_option linter.unusedVariables false
namespace Go.Sl
open Go.Proofs Go.Conc
def subN : ByteArray := ⟨#[83, 117, 98, 109, 105, 116]⟩
theorem csubmit_spec {σ : Gh} {c : CV} {so : SliceV} {ops : List OpR} {I J : HL} {eb : Nat → Nat × Nat} (hE : ErrI I eb) (hn : 1 ≤ c.hosts.length ∧ c.hosts.length ≤ 4) (hbag : c.bag.length < 2 ^ 20) (htx : c.txs.length ≤ 60) (ho : imSl J opPC 67 so ops) (hlo : ops.length < 2 ^ 43) :
    SpecG Tryz.prog barX 29 #[ptrV c.G.b, so.v] σ [cvP c, imm I, imm J] (fun v σ' As => ∃ er t bag' txs' I' L u, σ' = σ ∧ v = .tuple #[.int .i64 t, u] ∧ CallV eb (.string subN) 0 er u L ∧ As = cvP { c with bag := bag', txs := txs' } :: imm I' :: imm J :: L ∧
      ((c.stopped = true ∧ er = some 8 ∧ t = 0 ∧ bag' = c.bag ∧ txs' = c.txs ∧ I' = I) ∨ (c.stopped = false ∧ subQ eb I c.hosts.length ops c.bag c.txs er t I' bag' txs'))) := by
  refine SpecG.of ?_
  intro Post os out kd F c' cs C hkd hret
  simp only [List.cons_append, List.nil_append]
  refine C.go ?_
  refine C.rg [0, 1, 2, 3] ?_
  refine C.bx rfl (fun bc => ?_)
  refine C.bx rfl (fun bo => ?_)
  refine C.asg rfl ?_
  refine C.asg rfl ?_
  refine C.go ?_
  refine C.rg [0, 1] ?_
  refine C.al rfl (fun bt => ?_)
  refine C.st rfl ?_
  refine C.go ?_
  refine C.rg [0, 1, 2, 3] ?_
  refine C.ld rfl ?_
  refine C.mf rfl ?_
  have hf : c.stopped = false → SpecG Tryz.prog barX 53 (#[] ++ ([] : List Value).toArray ++ #[ptrV bo, ptrV bc, ptrV bt]) σ (cvM 1 c :: imm I :: [imm J, pts bo (.cells #[so.v] 36 (0, 0)), pts bc (.cells #[ptrV c.G.b] 23 (0, 0)), pts bt (.cells #[.int .i64 0] 3 (0, 0))])
      (fun v σ' As => ∃ er c' I' A', v = errO eb er ∧ (∀ k, er = some k → k < 9) ∧ As = cvM 1 c' :: imm I' :: A' ∧ c'.G.b = c.G.b ∧ (∃ t bag' txs', σ' = σ ∧ c' = { c with bag := bag', txs := txs' } ∧ A' = [imm J, pts bt (.cells #[.int .i64 t] 3 (0, 0))] ∧ subQ eb I c.hosts.length ops c.bag c.txs er t I' bag' txs')) := by
    intro hst Post os out kd F fr cs hkd hret
    obtain ⟨G, hosts, bag, txs, stopped⟩ := c
    obtain rfl : stopped = false := hst
    simp only [List.cons_append, List.nil_append]
    refine cvP.opn (m := 1) (h := fun hs bg tx => ?_)
    have hsp := sub1_spec (σ := σ) (b := G.b) (bo := bo) (bc := bc) (bt := bt) (so := so) (hs := hs) (bg := bg) (txS := tx) (dn := .chan (some G.dn)) (st := CV.st ⟨G, hosts, bag, txs, false⟩) (hl := hosts.map (·.h.bh)) (bag := bag) (txs := txs) hE (by simpa using hn) hbag htx ho hlo
    refine At.perm (ReF.perm (by (repeat (first | with_reducible exact ReF.nil | with_reducible exact Fo.head | with_reducible apply Fo.tail | with_reducible apply ReF.cons)))) (Spec.g hsp Post os out kd _ fr cs hkd ?_)
    rintro v σ' As' ⟨rfl, bg', txS', er, t, I', bag', txs', rfl, hQ, rfl⟩
    simp only [List.cons_append, List.nil_append]
    refine cvP.cls (m := 1) ⟨G, hosts, bag', txs', false⟩ ?_
    refine At.reo ?_ (hret _ _ _ ⟨er, ⟨G, hosts, bag', txs', false⟩, I', _, rfl, ?_, rfl, rfl, t, bag', txs', rfl, rfl, rfl, by simpa using hQ⟩)
    · ((try simp only [List.cons_append, List.nil_append]); (repeat (first | with_reducible exact Reo.refl | with_reducible exact Reo.nil | with_reducible exact Fo.head | with_reducible apply Fo.tail | with_reducible apply Reo.cons | with_reducible apply Reo.drop)); done)
    · intro k hk
      obtain ⟨_, h | h | h⟩ := hQ
      · have := h.2.1; rw [this] at hk; cases hk; decide
      · have := h.2.2.1; rw [this] at hk; cases hk; decide
      · have := h.2.2.1; rw [this] at hk; cases hk
  refine RunR.clN (call_spec (nm := subN) (at_ := 0) hE hf) ?_
  rintro v σ' As' ⟨er, c2, I2, A2, L, hcv, rfl, hor⟩
  have C : Closed Tryz.prog true (barX.bw σ') (RunR Tryz.prog Post barX σ' 0 os out) := RunR.closed0
  simp only [List.cons_append, List.nil_append]
  refine C.asg rfl ?_
  refine C.go ?_
  refine C.rg [0, 1, 2, 3] ?_
  rcases hor with ⟨hst, rfl, rfl, rfl, rfl, rfl⟩ | ⟨hst, t, bag', txs', rfl, rfl, rfl, hQ⟩
  · obtain ⟨bE, rfl, rfl⟩ := hcv
    simp only [List.append_assoc, List.cons_append, List.nil_append]
    refine C.ld rfl ?_
    refine C.mv rfl ?_
    refine C.asg rfl ?_
    refine C.asg rfl ?_
    refine C.go ?_
    exact RunR.retQ hkd hret ⟨some 8, 0, c2.bag, c2.txs, I2, [pts bE (.cells #[.string subN, .int .i64 0, errV (eb 8)] 132 (0, 0))], .iface 128 (ptrV bE), rfl, rfl, ⟨bE, rfl, rfl⟩, rfl, .inl ⟨hst, rfl, rfl, rfl, rfl, rfl⟩⟩
  · cases er with
    | none =>
      obtain ⟨rfl, rfl⟩ := hcv
      simp only [List.append_assoc, List.cons_append, List.nil_append]
      refine C.ld rfl ?_
      refine C.mv rfl ?_
      refine C.asg rfl ?_
      refine C.asg rfl ?_
      refine C.go ?_
      exact RunR.retQ hkd hret ⟨none, t, bag', txs', I2, [], .nilIface, rfl, rfl, ⟨rfl, rfl⟩, rfl, .inr ⟨hst, hQ⟩⟩
    | some k =>
      obtain ⟨bE, rfl, rfl⟩ := hcv
      simp only [List.append_assoc, List.cons_append, List.nil_append]
      refine C.ld rfl ?_
      refine C.mv rfl ?_
      refine C.asg rfl ?_
      refine C.asg rfl ?_
      refine C.go ?_
      exact RunR.retQ hkd hret ⟨some k, t, bag', txs', I2, [pts bE (.cells #[.string subN, .int .i64 0, errV (eb k)] 132 (0, 0))], .iface 128 (ptrV bE), rfl, rfl, ⟨bE, rfl, rfl⟩, rfl, .inr ⟨hst, hQ⟩⟩
end Go.Sl
end
section
set_option linter.unusedVariables false
namespace Go.Sl
open Go.Proofs
variable {main : Bool}
theorem badT0 (t : TypeId) (h : (t == 92 || t == 114 || t == 23 || t == 120) = false) : badT.sh t 0 = false := h
theorem eAs_spec {σ : Gh} {I : HL} {eb : Nat → Nat × Nat} (hE : ErrI I eb) {bE b7 : Nat} : Spec Tryz.prog true (barX.bw σ) 57 #[.iface 128 (ptrV bE), .iface 130 (ptrV b7)] [pts b7 (.cells #[.pointer none] 128 (0, 0)), imm I]
    (fun v As => v = .bool true ∧ As = [pts b7 (.cells #[ptrV bE] 128 (0, 0)), imm I]) := by
  refine Spec.of ?_
  intro R C kd d F c cs hkd hret
  simp only [List.cons_append, List.nil_append]
  obtain ⟨tE, hty⟩ := hE.ty
  rw [hdV_eq] at hty
  refine C.go ?_
  refine C.rg [0] ?_
  refine C.asg rfl ?_
  refine C.go ?_
  refine C.rg [0, 1] ?_
  refine C.mv rfl ?_
  refine C.eqZ Tryz.underlying46 rfl ?_
  refine C.go ?_
  refine C.fls ?_
  refine C.rg [0, 1] ?_
  refine C.mv rfl ?_
  refine C.eqZ Tryz.underlying20 rfl ?_
  refine C.go ?_
  refine C.fls ?_
  refine C.rg [0, 1, 2, 3] ?_
  refine C.mv rfl ?_
  refine C.xVof (f := 102) (t := 130) (c := #[ptrV b7]) rfl (fun b => mk_130 (b := b)) rfl (fun bV => ?_) (v := ptrV b7)
  refine C.al rfl (fun b5 => ?_)
  refine C.stS rfl ?_
  refine C.go ?_
  refine C.rg [0, 1, 2] ?_
  refine C.ldS rfl ?_
  refine C.x0 (f := 103) (v := rtV 130) x_type rfl ?_
  refine C.asg rfl ?_
  refine C.go ?_
  refine C.rg [0, 1, 2, 3, 4, 5, 6] ?_
  refine C.mv rfl ?_
  refine C.xi0 (m_kind _) x_kind0 ?_
  refine C.v0 rfl ?_ rfl
  refine C.mv rfl ?_
  refine C.ldS rfl ?_
  refine C.xNil (f := 104) (p_130 (b := bV)) rfl ?_
  refine C.pk rfl ?_
  refine C.go ?_
  refine C.fls ?_
  refine C.rg [0, 1, 2] ?_
  refine C.mv rfl ?_
  refine C.xi0 m_elem x_elem ?_
  refine C.asg rfl ?_
  refine C.go ?_
  refine C.rg [0, 1, 2, 3, 4, 5, 6, 7, 8] ?_
  refine C.mv rfl ?_
  refine C.xi0 (m_kind _) x_kind1 ?_
  refine C.v0 rfl ?_ rfl
  refine C.mv rfl ?_
  refine C.mv rfl ?_
  refine C.ldG (v := rtV 46) (by (repeat (first | with_reducible exact Fo.head | with_reducible apply Fo.tail))) hty (shG0' _ _) rfl ?_
  refine C.xi0 m_impl x_impl ?_
  refine C.nt rfl ?_
  refine C.pk rfl ?_
  refine C.go ?_
  refine C.fls ?_
  refine C.rg [0, 1, 2, 3, 4, 5] ?_
  refine C.mv rfl ?_
  refine C.mv rfl ?_
  refine C.ldS rfl ?_
  refine C.mv rfl ?_
  refine C.clR (Spec.less (barLe σ) (eas_spec (bE := bE) (b7 := b7) (bV := bV))) ?_
  rintro v As' ⟨rfl, rfl⟩
  simp only [List.cons_append, List.nil_append]
  refine C.asg rfl ?_
  refine C.go ?_
  exact C.retR hkd hret ⟨rfl, rfl⟩
end Go.Sl
end
section
set_option linter.unusedVariables false
namespace Go.Sl
open Go.Proofs
def errF (eb : Nat → Nat × Nat) (k : Nat) : List Value := [errV (eb k)]
instance (eb : Nat → Nat × Nat) : RowF (errF eb) 1 := ⟨fun _ => rfl, fun a v h => by simp [errF] at h; subst h; rfl⟩
theorem all_spec {σ : Gh} {I : HL} {eb : Nat → Nat × Nat} (hE : ErrI I eb) : Spec Tryz.prog true (barX.bw σ) 59 #[] [imm I] (fun v As => ∃ s : SliceV, v = s.v ∧ As = [slP (errF eb) 1 46 s [0, 1, 2, 3, 4, 5, 6, 7, 8], imm I]) := by
  refine Spec.of ?_
  intro R C kd d F c cs hkd hret
  simp only [List.cons_append, List.nil_append]
  obtain ⟨t0, h0⟩ := hE.g 0 (by decide)
  obtain ⟨t1, h1⟩ := hE.g 1 (by decide)
  obtain ⟨t2, h2⟩ := hE.g 2 (by decide)
  obtain ⟨t3, h3⟩ := hE.g 3 (by decide)
  obtain ⟨t4, h4⟩ := hE.g 4 (by decide)
  obtain ⟨t5, h5⟩ := hE.g 5 (by decide)
  obtain ⟨t6, h6⟩ := hE.g 6 (by decide)
  obtain ⟨t7, h7⟩ := hE.g 7 (by decide)
  obtain ⟨t8, h8⟩ := hE.g 8 (by decide)
  refine C.go ?_
  refine C.rg [0] ?_
  refine C.asg rfl ?_
  refine C.go ?_
  refine C.rg [0, 1, 2, 3, 4, 5, 6, 7, 8, 9, 10] ?_
  refine C.ldG (v := errV (eb 0)) (by (repeat (first | with_reducible exact Fo.head | with_reducible apply Fo.tail))) h0 (shG0' _ _) rfl ?_
  refine C.ldG (v := errV (eb 1)) (by (repeat (first | with_reducible exact Fo.head | with_reducible apply Fo.tail))) h1 (shG0' _ _) rfl ?_
  refine C.ldG (v := errV (eb 2)) (by (repeat (first | with_reducible exact Fo.head | with_reducible apply Fo.tail))) h2 (shG0' _ _) rfl ?_
  refine C.ldG (v := errV (eb 3)) (by (repeat (first | with_reducible exact Fo.head | with_reducible apply Fo.tail))) h3 (shG0' _ _) rfl ?_
  refine C.ldG (v := errV (eb 4)) (by (repeat (first | with_reducible exact Fo.head | with_reducible apply Fo.tail))) h4 (shG0' _ _) rfl ?_
  refine C.ldG (v := errV (eb 5)) (by (repeat (first | with_reducible exact Fo.head | with_reducible apply Fo.tail))) h5 (shG0' _ _) rfl ?_
  refine C.ldG (v := errV (eb 6)) (by (repeat (first | with_reducible exact Fo.head | with_reducible apply Fo.tail))) h6 (shG0' _ _) rfl ?_
  refine C.ldG (v := errV (eb 7)) (by (repeat (first | with_reducible exact Fo.head | with_reducible apply Fo.tail))) h7 (shG0' _ _) rfl ?_
  refine C.ldG (v := errV (eb 8)) (by (repeat (first | with_reducible exact Fo.head | with_reducible apply Fo.tail))) h8 (shG0' _ _) rfl ?_
  refine C.bs (vs := [errV (eb 0), errV (eb 1), errV (eb 2), errV (eb 3), errV (eb 4), errV (eb 5), errV (eb 6), errV (eb 7), errV (eb 8)]) rfl (fun b => ?_)
  refine C.asg rfl ?_
  refine C.go ?_
  refine At.turn (A' := slP (errF eb) 1 46 ⟨some ⟨b, 0, none⟩, 9, 9⟩ [0, 1, 2, 3, 4, 5, 6, 7, 8]) .head (fun h x => .inr ⟨b, [], rfl, rfl, Nat.le_refl 9, x⟩) ?_
  exact C.retR hkd hret ⟨⟨some ⟨b, 0, none⟩, 9, 9⟩, rfl, rfl⟩
theorem ev0_sne {P : Program} {n : Nat} {e : Nat → Value} {t : Nat} {ty tt t2 : TypeId} {pos : String} {af : Array Edge} {gd : Option (Nat × Bool)} {x y : Operand} {nm : ByteArray} (hx : ev n e x = .string nm) (hy : ev n e y = .string nm) : ev0 P (execOp (ev n e) ⟨some t, .binOp .neq tt x y t2, ty, pos, af, gd⟩) = some (.value (.bool false)) := by
  unfold execOp; simp only [hx, hy]
  refine ev0_do (a := .bool false) ?_ rfl
  refine ev0_do (a := ()) (by unfold eqGuard; rfl) ?_
  show ev0 P (Op.stringOp .neq nm nm) = _
  unfold Op.stringOp
  simp; rfl
theorem number_spec {σ : Gh} {I : HL} {eb : Nat → Nat × Nat} (hE : ErrI I eb) {bE k : Nat} {nm : ByteArray} {at_ : Int} (hk : k < 9) : Spec Tryz.prog true (barX.bw σ) 30 #[.iface 128 (ptrV bE), .string nm, .int .i64 at_] [pts bE (.cells #[.string nm, .int .i64 at_, errV (eb k)] 132 (0, 0)), imm I] (fun v As => v = .int .i64 (k + 1) ∧ As = [imm I]) := by
  refine Spec.of ?_
  intro R C kd d F c cs hkd hret
  simp only [List.cons_append, List.nil_append]
  obtain ⟨ck, tk, hck⟩ := hE.e k hk
  refine C.go ?_
  refine C.rg [0] ?_
  refine C.asg rfl ?_
  refine C.go ?_
  refine C.rg [0, 1] ?_
  refine C.mv rfl ?_
  refine C.eqZ Tryz.underlying46 rfl ?_
  refine C.go ?_
  refine C.fls ?_
  refine C.rg [0] ?_
  refine C.al rfl (fun b7 => ?_)
  refine C.go ?_
  apply cutR True [(0, .iface 128 (ptrV bE)), (46, .bool false)] (pts bE (.cells #[.string nm, .int .i64 at_, errV (eb k)] 132 (0, 0)) :: imm I :: F)
  · intro hin
    refine C.drawn [(12, 0), (13, 1), (14, 2), (15, 3), (16, 4), (17, 5), (18, 6), (19, 7), (20, 8), (21, 9), (22, 10), (23, 11), (24, 12), (25, 13), (26, 14), (27, 15), (28, 16), (29, 17), (30, 18), (31, 19), (32, 20), (33, 21), (34, 22), (35, 23), (36, 24), (37, 25), (38, 26), (39, 27), (40, 28), (41, 29), (42, 30), (43, 31), (44, 32), (45, 33), (46, 34)] [0, 1] [2, 3, 4, 5, 6, 7, 8, 9, 10, 11, 12, 13, 14, 15, 16, 17, 18, 19, 20, 21, 22, 23, 24, 25, 26, 27, 28, 29, 30, 31, 32, 33, 34] 0 ?_
    refine Dr.pu ⟨_, rfl, rfl⟩ (fun _ _ _ h => C.mv rfl h) ?_
    refine Dr.pu ⟨_, rfl, rfl⟩ (fun _ _ _ h => C.mi rfl h) ?_
    refine Dr.chain rfl ?_
    refine Ch.nx (l := [2]) (by decide +kernel) (fa1 ?_)
    refine ⟨_, rfl, fun e rest hk => ?_⟩
    refine C.clR (eAs_spec hE (bE := bE) (b7 := b7)) ?_
    rintro v As' ⟨rfl, rfl⟩
    refine hk _ _ ?_
    (try simp only [List.cons_append, List.nil_append])
    refine Ch.pu (i := 3) ⟨_, rfl, rfl⟩ (fun _ _ _ h => C.nt rfl h) ?_
    refine Ch.pu (i := 4) ⟨_, rfl, rfl⟩ (fun _ _ _ h => C.mv rfl h) ?_
    refine Ch.pu (i := 5) ⟨_, rfl, rfl⟩ (fun _ _ _ h => C.mv rfl h) ?_
    refine Ch.nx (l := [6]) (by decide +kernel) (fa1 ?_)
    refine ⟨_, rfl, fun e rest hk => ?_⟩
    refine C.ld rfl (hk _ _ ?_)
    refine Ch.pu (i := 7) ⟨_, rfl, rfl⟩ (fun _ _ _ h => C.mi rfl h) ?_
    refine Ch.nx (l := [8]) (by decide +kernel) (fa1 ?_)
    refine ⟨_, rfl, fun e rest hk => ?_⟩
    refine C.eqP (r := false) (b1 := bE) (o1 := 0) (b2 := bE) (o2 := 0) Tryz.underlying46 (info_of Tryz.type128) rfl rfl ?_ (fun H s => Has.get (by repeat (first | with_reducible exact Has.head | with_reducible apply Has.tail)) s) (fun H s => Has.get (by repeat (first | with_reducible exact Has.head | with_reducible apply Has.tail)) s)
    rw [show (decide (bE = bE ∧ 0 = 0) == false) = false by simp]
    refine hk _ _ ?_
    refine Ch.pu (i := 9) ⟨_, rfl, rfl⟩ (fun _ _ _ h => C.pk rfl h) ?_
    refine Ch.pu (i := 10) ⟨_, rfl, rfl⟩ (fun _ _ _ h => C.mv rfl h) ?_
    refine Ch.pu (i := 15) ⟨_, rfl, rfl⟩ (fun _ _ _ h => C.mv rfl h) ?_
    refine Ch.nx (l := [11]) (by decide +kernel) (fa1 ?_)
    refine ⟨_, rfl, fun e rest hk => ?_⟩
    refine C.ld rfl (hk _ _ ?_)
    refine Ch.pu (i := 12) ⟨_, rfl, rfl⟩ (fun _ _ _ h => C.nc rfl h) ?_
    refine Ch.pu (i := 13) ⟨_, rfl, rfl⟩ (fun _ _ _ h => C.fa rfl h) ?_
    refine Ch.nx (l := [14]) (by decide +kernel) (fa1 ?_)
    refine ⟨_, rfl, fun e rest hk => ?_⟩
    refine C.ld rfl (hk _ _ ?_)
    refine Ch.pu (i := 16) ⟨_, rfl, rfl⟩ (fun _ _ _ h => C.v0 (v := .bool false) rfl h (ev0_sne rfl rfl)) ?_
    refine Ch.pu (i := 17) ⟨_, rfl, rfl⟩ (fun _ _ _ h => C.pk rfl h) ?_
    refine Ch.pu (i := 18) ⟨_, rfl, rfl⟩ (fun _ _ _ h => C.mv rfl h) ?_
    refine Ch.pu (i := 23) ⟨_, rfl, rfl⟩ (fun _ _ _ h => C.mv rfl h) ?_
    refine Ch.nx (l := [19]) (by decide +kernel) (fa1 ?_)
    refine ⟨_, rfl, fun e rest hk => ?_⟩
    refine C.ld rfl (hk _ _ ?_)
    refine Ch.pu (i := 20) ⟨_, rfl, rfl⟩ (fun _ _ _ h => C.nc rfl h) ?_
    refine Ch.pu (i := 21) ⟨_, rfl, rfl⟩ (fun _ _ _ h => C.fa rfl h) ?_
    refine Ch.nx (l := [22]) (by decide +kernel) (fa1 ?_)
    refine ⟨_, rfl, fun e rest hk => ?_⟩
    refine C.ld rfl (hk _ _ ?_)
    refine Ch.pu (i := 24) ⟨_, rfl, rfl⟩ (fun _ _ _ h => C.cmpF rfl h) ?_
    refine Ch.pu (i := 25) ⟨_, rfl, rfl⟩ (fun _ _ _ h => C.pk rfl h) ?_
    refine Ch.pu (i := 26) ⟨_, rfl, rfl⟩ (fun _ _ _ h => C.mv rfl h) ?_
    refine Ch.nx (l := [27, 29]) (by decide +kernel) (fa2 ?_ ?_)
    · skip
      refine ⟨_, rfl, fun e rest hk => ?_⟩
      refine C.ld rfl (hk _ _ ?_)
      refine Ch.nx (l := [28, 29]) (by decide +kernel) (fa2 ?_ ?_)
      · skip
        refine ⟨_, rfl, fun e rest hk => ?_⟩
        refine C.clR (Spec.less (barLe σ) unwrap_spec) ?_
        rintro v As' ⟨rfl, rfl⟩
        refine hk _ _ ?_
        (try simp only [List.cons_append, List.nil_append])
        refine Ch.nx (l := [29]) (by decide +kernel) (fa1 ?_)
        refine ⟨_, rfl, fun e rest hk => ?_⟩
        refine C.ld rfl (hk _ _ ?_)
        refine Ch.pu (i := 30) ⟨_, rfl, rfl⟩ (fun _ _ _ h => C.nc rfl h) ?_
        refine Ch.pu (i := 31) ⟨_, rfl, rfl⟩ (fun _ _ _ h => C.fa rfl h) ?_
        refine Ch.nx (l := [32]) (by decide +kernel) (fa1 ?_)
        refine ⟨_, rfl, fun e rest hk => ?_⟩
        refine C.ld rfl (hk _ _ ?_)
        refine Ch.nx (l := [33]) (by decide +kernel) (fa1 ?_)
        refine ⟨_, rfl, fun e rest hk => ?_⟩
        refine C.eqP (r := false) (b1 := (eb k).1) (o1 := (eb k).2) (b2 := (eb k).1) (o2 := (eb k).2) Tryz.underlying46 (info_of Tryz.type339) rfl rfl ?_ (fun H s => (s.perm (Fo.perm (show Fo (imm I) _ _ from (by (repeat (first | with_reducible exact Fo.head | with_reducible apply Fo.tail)))))).getI hck) (fun H s => (s.perm (Fo.perm (show Fo (imm I) _ _ from (by (repeat (first | with_reducible exact Fo.head | with_reducible apply Fo.tail)))))).getI hck)
        rw [show (decide ((eb k).1 = (eb k).1 ∧ (eb k).2 = (eb k).2) == false) = false by simp]
        refine hk _ _ ?_
        refine Ch.pu (i := 34) ⟨_, rfl, rfl⟩ (fun _ _ _ h => C.pk rfl h) ?_
        refine Ch.fin ?_
        refine C.go ?_
        exact join hin trivial
      · skip
        refine ⟨_, rfl, fun e rest hk => ?_⟩
        refine C.ld rfl (hk _ _ ?_)
        refine Ch.pu (i := 30) ⟨_, rfl, rfl⟩ (fun _ _ _ h => C.nc rfl h) ?_
        refine Ch.pu (i := 31) ⟨_, rfl, rfl⟩ (fun _ _ _ h => C.fa rfl h) ?_
        refine Ch.nx (l := [28, 32]) (by decide +kernel) (fa2 ?_ ?_)
        · skip
          refine ⟨_, rfl, fun e rest hk => ?_⟩
          refine C.clR (Spec.less (barLe σ) unwrap_spec) ?_
          rintro v As' ⟨rfl, rfl⟩
          refine hk _ _ ?_
          (try simp only [List.cons_append, List.nil_append])
          refine Ch.nx (l := [32]) (by decide +kernel) (fa1 ?_)
          refine ⟨_, rfl, fun e rest hk => ?_⟩
          refine C.ld rfl (hk _ _ ?_)
          refine Ch.nx (l := [33]) (by decide +kernel) (fa1 ?_)
          refine ⟨_, rfl, fun e rest hk => ?_⟩
          refine C.eqP (r := false) (b1 := (eb k).1) (o1 := (eb k).2) (b2 := (eb k).1) (o2 := (eb k).2) Tryz.underlying46 (info_of Tryz.type339) rfl rfl ?_ (fun H s => (s.perm (Fo.perm (show Fo (imm I) _ _ from (by (repeat (first | with_reducible exact Fo.head | with_reducible apply Fo.tail)))))).getI hck) (fun H s => (s.perm (Fo.perm (show Fo (imm I) _ _ from (by (repeat (first | with_reducible exact Fo.head | with_reducible apply Fo.tail)))))).getI hck)
          rw [show (decide ((eb k).1 = (eb k).1 ∧ (eb k).2 = (eb k).2) == false) = false by simp]
          refine hk _ _ ?_
          refine Ch.pu (i := 34) ⟨_, rfl, rfl⟩ (fun _ _ _ h => C.pk rfl h) ?_
          refine Ch.fin ?_
          refine C.go ?_
          exact join hin trivial
        · skip
          refine ⟨_, rfl, fun e rest hk => ?_⟩
          refine C.ld rfl (hk _ _ ?_)
          refine Ch.nx (l := [28]) (by decide +kernel) (fa1 ?_)
          refine ⟨_, rfl, fun e rest hk => ?_⟩
          refine C.clR (Spec.less (barLe σ) unwrap_spec) ?_
          rintro v As' ⟨rfl, rfl⟩
          refine hk _ _ ?_
          (try simp only [List.cons_append, List.nil_append])
          refine Ch.nx (l := [33]) (by decide +kernel) (fa1 ?_)
          refine ⟨_, rfl, fun e rest hk => ?_⟩
          refine C.eqP (r := false) (b1 := (eb k).1) (o1 := (eb k).2) (b2 := (eb k).1) (o2 := (eb k).2) Tryz.underlying46 (info_of Tryz.type339) rfl rfl ?_ (fun H s => (s.perm (Fo.perm (show Fo (imm I) _ _ from (by (repeat (first | with_reducible exact Fo.head | with_reducible apply Fo.tail)))))).getI hck) (fun H s => (s.perm (Fo.perm (show Fo (imm I) _ _ from (by (repeat (first | with_reducible exact Fo.head | with_reducible apply Fo.tail)))))).getI hck)
          rw [show (decide ((eb k).1 = (eb k).1 ∧ (eb k).2 = (eb k).2) == false) = false by simp]
          refine hk _ _ ?_
          refine Ch.pu (i := 34) ⟨_, rfl, rfl⟩ (fun _ _ _ h => C.pk rfl h) ?_
          refine Ch.fin ?_
          refine C.go ?_
          exact join hin trivial
    · skip
      refine ⟨_, rfl, fun e rest hk => ?_⟩
      refine C.ld rfl (hk _ _ ?_)
      refine Ch.pu (i := 30) ⟨_, rfl, rfl⟩ (fun _ _ _ h => C.nc rfl h) ?_
      refine Ch.pu (i := 31) ⟨_, rfl, rfl⟩ (fun _ _ _ h => C.fa rfl h) ?_
      refine Ch.nx (l := [27, 32]) (by decide +kernel) (fa2 ?_ ?_)
      · skip
        refine ⟨_, rfl, fun e rest hk => ?_⟩
        refine C.ld rfl (hk _ _ ?_)
        refine Ch.nx (l := [28, 32]) (by decide +kernel) (fa2 ?_ ?_)
        · skip
          refine ⟨_, rfl, fun e rest hk => ?_⟩
          refine C.clR (Spec.less (barLe σ) unwrap_spec) ?_
          rintro v As' ⟨rfl, rfl⟩
          refine hk _ _ ?_
          (try simp only [List.cons_append, List.nil_append])
          refine Ch.nx (l := [32]) (by decide +kernel) (fa1 ?_)
          refine ⟨_, rfl, fun e rest hk => ?_⟩
          refine C.ld rfl (hk _ _ ?_)
          refine Ch.nx (l := [33]) (by decide +kernel) (fa1 ?_)
          refine ⟨_, rfl, fun e rest hk => ?_⟩
          refine C.eqP (r := false) (b1 := (eb k).1) (o1 := (eb k).2) (b2 := (eb k).1) (o2 := (eb k).2) Tryz.underlying46 (info_of Tryz.type339) rfl rfl ?_ (fun H s => (s.perm (Fo.perm (show Fo (imm I) _ _ from (by (repeat (first | with_reducible exact Fo.head | with_reducible apply Fo.tail)))))).getI hck) (fun H s => (s.perm (Fo.perm (show Fo (imm I) _ _ from (by (repeat (first | with_reducible exact Fo.head | with_reducible apply Fo.tail)))))).getI hck)
          rw [show (decide ((eb k).1 = (eb k).1 ∧ (eb k).2 = (eb k).2) == false) = false by simp]
          refine hk _ _ ?_
          refine Ch.pu (i := 34) ⟨_, rfl, rfl⟩ (fun _ _ _ h => C.pk rfl h) ?_
          refine Ch.fin ?_
          refine C.go ?_
          exact join hin trivial
        · skip
          refine ⟨_, rfl, fun e rest hk => ?_⟩
          refine C.ld rfl (hk _ _ ?_)
          refine Ch.nx (l := [28]) (by decide +kernel) (fa1 ?_)
          refine ⟨_, rfl, fun e rest hk => ?_⟩
          refine C.clR (Spec.less (barLe σ) unwrap_spec) ?_
          rintro v As' ⟨rfl, rfl⟩
          refine hk _ _ ?_
          (try simp only [List.cons_append, List.nil_append])
          refine Ch.nx (l := [33]) (by decide +kernel) (fa1 ?_)
          refine ⟨_, rfl, fun e rest hk => ?_⟩
          refine C.eqP (r := false) (b1 := (eb k).1) (o1 := (eb k).2) (b2 := (eb k).1) (o2 := (eb k).2) Tryz.underlying46 (info_of Tryz.type339) rfl rfl ?_ (fun H s => (s.perm (Fo.perm (show Fo (imm I) _ _ from (by (repeat (first | with_reducible exact Fo.head | with_reducible apply Fo.tail)))))).getI hck) (fun H s => (s.perm (Fo.perm (show Fo (imm I) _ _ from (by (repeat (first | with_reducible exact Fo.head | with_reducible apply Fo.tail)))))).getI hck)
          rw [show (decide ((eb k).1 = (eb k).1 ∧ (eb k).2 = (eb k).2) == false) = false by simp]
          refine hk _ _ ?_
          refine Ch.pu (i := 34) ⟨_, rfl, rfl⟩ (fun _ _ _ h => C.pk rfl h) ?_
          refine Ch.fin ?_
          refine C.go ?_
          exact join hin trivial
      · skip
        refine ⟨_, rfl, fun e rest hk => ?_⟩
        refine C.ld rfl (hk _ _ ?_)
        refine Ch.nx (l := [27]) (by decide +kernel) (fa1 ?_)
        refine ⟨_, rfl, fun e rest hk => ?_⟩
        refine C.ld rfl (hk _ _ ?_)
        refine Ch.nx (l := [28]) (by decide +kernel) (fa1 ?_)
        refine ⟨_, rfl, fun e rest hk => ?_⟩
        refine C.clR (Spec.less (barLe σ) unwrap_spec) ?_
        rintro v As' ⟨rfl, rfl⟩
        refine hk _ _ ?_
        (try simp only [List.cons_append, List.nil_append])
        refine Ch.nx (l := [33]) (by decide +kernel) (fa1 ?_)
        refine ⟨_, rfl, fun e rest hk => ?_⟩
        refine C.eqP (r := false) (b1 := (eb k).1) (o1 := (eb k).2) (b2 := (eb k).1) (o2 := (eb k).2) Tryz.underlying46 (info_of Tryz.type339) rfl rfl ?_ (fun H s => (s.perm (Fo.perm (show Fo (imm I) _ _ from (by (repeat (first | with_reducible exact Fo.head | with_reducible apply Fo.tail)))))).getI hck) (fun H s => (s.perm (Fo.perm (show Fo (imm I) _ _ from (by (repeat (first | with_reducible exact Fo.head | with_reducible apply Fo.tail)))))).getI hck)
        rw [show (decide ((eb k).1 = (eb k).1 ∧ (eb k).2 = (eb k).2) == false) = false by simp]
        refine hk _ _ ?_
        refine Ch.pu (i := 34) ⟨_, rfl, rfl⟩ (fun _ _ _ h => C.pk rfl h) ?_
        refine Ch.fin ?_
        refine C.go ?_
        exact join hin trivial
  · intro _ e
    refine C.fls ?_
    refine C.rg [0, 1, 2] ?_
    refine C.clR (all_spec hE) ?_
    rintro v As' ⟨s, rfl, rfl⟩
    simp only [List.cons_append, List.nil_append]
    refine C.lnR (f := errF eb) (s := s) (l := [0, 1, 2, 3, 4, 5, 6, 7, 8]) rfl ?_
    refine C.mv rfl ?_
    refine C.go ?_
    refine C.loopR (X := Nat) (fun i => [(0, .iface 128 (ptrV bE)), (47, s.v), (48, .int .i64 9), (49, .int .i64 i)]) (fun _ => slP (errF eb) 1 46 s [0, 1, 2, 3, 4, 5, 6, 7, 8] :: pts bE (.cells #[.string nm, .int .i64 at_, errV (eb k)] 132 (0, 0)) :: imm I :: F) (fun i => i ≤ k) (fun i => 9 - i) 0 ⟨rfl, rfl, rfl, rfl, trivial⟩ (Nat.zero_le _) ?_
    intro i e hi ih
    have hi9 : i < 9 := by omega
    have hl : ∀ (h : i < ([0, 1, 2, 3, 4, 5, 6, 7, 8] : List Nat).length), ([0, 1, 2, 3, 4, 5, 6, 7, 8] : List Nat)[i] = i := by
      have hc : i = 0 ∨ i = 1 ∨ i = 2 ∨ i = 3 ∨ i = 4 ∨ i = 5 ∨ i = 6 ∨ i = 7 ∨ i = 8 := by omega
      intro h
      rcases hc with rfl | rfl | rfl | rfl | rfl | rfl | rfl | rfl | rfl <;> rfl
    refine C.go ?_
    refine C.rg [0] ?_
    refine C.cmpT rfl ?_
    refine C.go ?_
    refine C.tru ?_
    refine C.rg [0, 1, 2, 3, 4] ?_
    refine C.mv rfl ?_
    refine C.iaR (f := errF eb) (s := s) (l := [0, 1, 2, 3, 4, 5, 6, 7, 8]) (j := i) rfl ?_ (hj := hi9)
    refine C.ldR0 (f := errF eb) (s := s) (l := [0, 1, 2, 3, 4, 5, 6, 7, 8]) (j := i) (v := errV (eb i)) rfl ?_ (hj := hi9) (hv := by rw [hl]; rfl)
    refine C.asg rfl ?_
    refine C.asg rfl ?_
    refine C.go ?_
    refine C.rg [0, 1, 2] ?_
    refine C.mv rfl ?_
    refine C.mv rfl ?_
    refine C.clR (Spec.less (barLe σ) (eIs_spec hE (bE := bE) (j := i) (k := k) hi9 hk)) ?_
    rintro v As' ⟨rfl, rfl⟩
    simp only [List.cons_append, List.nil_append]
    by_cases hki : k = i
    · subst hki
      rw [show decide (k = k) = true by simp]
      refine C.go ?_
      refine C.tru ?_
      refine C.rg [0, 1, 2] ?_
      refine C.mv rfl ?_
      refine C.ar rfl ?_
      refine C.asg rfl ?_
      refine C.go ?_
      exact C.retR hkd hret ⟨rfl, rfl⟩
    · rw [show decide (k = i) = false by simp [hki]]
      refine C.go ?_
      refine C.fls ?_
      refine C.rg [0, 1] ?_
      refine C.ar rfl ?_
      refine C.mv rfl ?_
      refine C.go ?_
      exact again ih (i + 1) (by omega) (by omega)
end Go.Sl
end
section
set_option linter.unusedVariables false
namespace Go.Sl
open Go.Proofs Go.Conc
theorem ev0_go0 {P : Program} {n : Nat} {e : Nat → Value} {dst : Option Nat} {ty : TypeId} {ats : Array TypeId} {pos : String} {af : Array Edge} {gd : Option (Nat × Bool)} {fo : Operand} {f : FuncId} {a2 : Array Value} (hf : ev n e fo = .func (.func f) #[] a2) : ev0 P (execOp (ev n e) ⟨dst, .go ⟨.value fo, #[], ats⟩, ty, pos, af, gd⟩) = some (.spawn ⟨.fn (.func f) a2, #[]⟩) := by
  unfold execOp
  simp only
  refine ev0_do (a := ⟨.fn (.func f) a2, #[]⟩) ?_ rfl
  unfold resolve
  simp only [hf, Deferred.ofValue]
  simp; rfl
theorem seatW_has {h : HG} {C : CG} {c : Nat} : (seatW h C).has c ↔ c = h.wk ∨ c = C.dn := by
  unfold SeatD.has seatW
  constructor
  · rintro ⟨k, z, e⟩
    rcases k with _ | _ | k
    · left; simp [rcase] at e; exact e.1.symm
    · right; simp [rcase] at e; exact e.1.symm
    · simp at e
  · rintro (rfl | rfl)
    · exact ⟨0, _, rfl⟩
    · exact ⟨1, _, rfl⟩
theorem seatW_wf {h : HG} {C : CG} (hne : h.wk ≠ C.dn) : (seatW h C).Wf := by
  refine ⟨fun cc hcc => ?_, fun k m c z z' h1 h2 => ?_⟩
  · simp [seatW] at hcc
    rcases hcc with rfl | rfl <;> exact ⟨_, _, rfl⟩
  · simp only [seatW] at h1 h2
    rcases k with _ | _ | k <;> rcases m with _ | _ | m <;> simp [rcase] at h1 h2 <;> first | rfl | (exfalso; omega)
theorem seatW_ok {h : HG} {C : CG} {H : Array Obj} {kw kd i : Nat} {c1 c2 : Array Value} (hi : i ≠ 0) (h1 : hp H C.cb = some (.cells #[ptrV C.b] 23 (0, 0))) (h2 : hp H h.hb = some (.cells #[ptrV h.bh] 114 (0, 0)))
    (h3 : hp H C.b = some (.cells c1 92 (0, 0))) (h3' : c1[5]? = some (.chan (some C.dn))) (h4 : hp H h.bh = some (.cells c2 120 (0, 0))) (h4' : c2[1]? = some (.chan (some h.wk))) (h5 : hp H h.wk = some (.chan 0 #[] false kw kw false)) (h6 : hp H C.dn = some (.chan 0 #[] false kd kd false)) :
    SeatH (barX.rd i) (seatW h C) H ∧ ∀ p ∈ (seatW h C).mem, ∀ c ty, H[p.1.block]? = some (.cells c ty (0, 0)) → barX.sh ty p.1.off = false := by
  have hrd : ∀ b t o, barX.rd i b t o = mkdG t o := fun b t o => by unfold Bar.rd; rw [if_neg hi]; rfl
  have key : ∀ p ∈ (seatW h C).mem, p.1.spot = none ∧ ∃ c ty, H[p.1.block]? = some (.cells c ty (0, 0)) ∧ c[p.1.off]? = some p.2 ∧ barX.rd i p.1.block ty p.1.off = true ∧ shG ty p.1.off = false := by
    intro p hp
    simp only [seatW, List.mem_cons, List.not_mem_nil, or_false] at hp
    rcases hp with rfl | rfl | rfl | rfl
    · exact ⟨rfl, _, _, h1, rfl, by rw [hrd]; rfl, rfl⟩
    · exact ⟨rfl, _, _, h2, rfl, by rw [hrd]; rfl, rfl⟩
    · exact ⟨rfl, _, _, h3, h3', by rw [hrd]; rfl, rfl⟩
    · exact ⟨rfl, _, _, h4, h4', by rw [hrd]; rfl, rfl⟩
  refine ⟨⟨fun c hc => ?_, fun p hp => ?_⟩, fun p hp c ty hcc => ?_⟩
  · rcases seatW_has.1 hc with rfl | rfl
    · exact ⟨_, h5⟩
    · exact ⟨_, h6⟩
  · obtain ⟨a, c, ty, b1, b2, b3, _⟩ := key p hp
    exact ⟨a, c, ty, b1, b2, b3⟩
  · obtain ⟨a, c', ty', b1, b2, b3, b4⟩ := key p hp
    rw [hcc] at b1
    cases b1
    exact b4
structure NewGh (σ σ' : Gh) (G : CG) (l : List HV) : Prop where
  n : σ'.n = σ.n + l.length
  old : ∀ i, i < σ.n → σ'.seats i = σ.seats i
  new : ∀ i s, σ.n ≤ i → σ'.seats i = some s → ∃ v ∈ l, v.h.g = i ∧ s = seatW v.h G
  has : ∀ v ∈ l, σ'.seats v.h.g = some (seatW v.h G) ∧ σ.n ≤ v.h.g ∧ v.h.g < σ'.n
  gnd : (l.map (·.h.g)).Nodup
  fw : ∀ v ∈ l, ∀ i s, σ.seats i = some s → ¬ s.has v.h.wk
  fd : ∀ i s, σ.seats i = some s → ¬ s.has G.dn
  wnd : (l.map (·.h.wk)).Nodup
  wd : ∀ v ∈ l, v.h.wk ≠ G.dn
  sh : ∀ x, σ'.sh x ↔ σ.sh x ∨ x = .cell ⟨G.b, 7, none⟩ ∨ x = .cell ⟨G.b, 8, none⟩
  bot : σ'.bot = σ.bot
structure GhOk (σ : Gh) : Prop where
  n : σ.n ≠ 0
  lt : ∀ i s, σ.seats i = some s → i < σ.n
theorem NewGh.start {σ : Gh} (h : GhOk σ) {G : CG} (fd : ∀ i s, σ.seats i = some s → ¬ s.has G.dn) : NewGh σ (σ.hide G.b [7, 8]) G [] := by
  refine ⟨rfl, fun _ _ => rfl, fun i s hi hs => ?_, by simp, by simp, by simp, fd, by simp, by simp, fun x => ?_, rfl⟩
  · have := h.lt i s hs; omega
  · simp [Gh.hide]
theorem NewGh.hire {σ σ' : Gh} {G : CG} {l : List HV} (N : NewGh σ σ' G l) {v : HV} (hg : v.h.g = σ'.n) (hlt : ∀ i s, σ.seats i = some s → i < σ.n) (hw : ∀ i s, σ'.seats i = some s → ¬ s.has v.h.wk) (hwd : v.h.wk ≠ G.dn) : NewGh σ (σ'.hired (seatW v.h G)) G (l ++ [v]) := by
  have hs : ∀ i, (σ'.hired (seatW v.h G)).seats i = if i = σ'.n then some (seatW v.h G) else σ'.seats i := fun i => by
    show Go.ConcN.upd σ'.seats σ'.n (some (seatW v.h G)) i = _
    by_cases e : i = σ'.n
    · subst e; rw [Go.ConcN.upd_same, if_pos rfl]
    · rw [Go.ConcN.upd_ne _ _ e, if_neg e]
  have hn := N.n
  refine ⟨?_, fun i hi => ?_, fun i s hi e => ?_, fun u hu => ?_, ?_, fun u hu i s e => ?_, N.fd, ?_, fun u hu => ?_, N.sh, N.bot⟩
  · show σ'.n + 1 = _
    rw [List.length_append, List.length_singleton]; omega
  · rw [hs, if_neg (by omega)]; exact N.old i hi
  · rw [hs] at e
    by_cases z : i = σ'.n
    · rw [if_pos z] at e
      exact ⟨v, by simp, by rw [hg, z], (Option.some.inj e).symm⟩
    · rw [if_neg z] at e
      obtain ⟨u, hu, h1, h2⟩ := N.new i s hi e
      exact ⟨u, by simp [hu], h1, h2⟩
  · rcases List.mem_append.1 hu with hu | hu
    · obtain ⟨h1, h2, h3⟩ := N.has u hu
      refine ⟨by rw [hs, if_neg (by omega)]; exact h1, h2, ?_⟩
      show _ < σ'.n + 1; omega
    · obtain rfl := List.mem_singleton.1 hu
      refine ⟨by rw [hs, if_pos hg], by omega, ?_⟩
      show _ < σ'.n + 1; omega
  · rw [List.map_append, List.nodup_append]
    refine ⟨N.gnd, by simp, fun a ha b hb => ?_⟩
    obtain ⟨u, hu, rfl⟩ := List.mem_map.1 ha
    simp at hb
    subst hb
    have := (N.has u hu).2.2
    omega
  · rcases List.mem_append.1 hu with hu | hu
    · exact N.fw u hu i s e
    · obtain rfl := List.mem_singleton.1 hu
      exact hw i s (by rw [N.old i (hlt i s e)]; exact e)
  · rw [List.map_append, List.nodup_append]
    refine ⟨N.wnd, by simp, fun a ha b hb z => ?_⟩
    obtain ⟨u, hu, rfl⟩ := List.mem_map.1 ha
    simp at hb
    subst hb
    exact hw _ _ (N.has u hu).1 (seatW_has.2 (.inl z.symm))
  · rcases List.mem_append.1 hu with hu | hu
    · exact N.wd u hu
    · obtain rfl := List.mem_singleton.1 hu; exact hwd
end Go.Sl
end
section
set_option linter.unusedVariables false
namespace Go.Sl
open Go.Proofs Go.Conc
set_option maxHeartbeats 2000000 in
theorem new_spec {σ : Gh} {n : Int} (hn : 1 ≤ n ∧ n ≤ 4) (hσ : GhOk σ) : SpecG Tryz.prog barX 27 #[.int .i64 n] σ [] (fun v σ' As => ∃ c : CV, NewGh σ σ' c.G c.hosts ∧ v = .tuple #[ptrV c.G.b, .nilIface] ∧ As = [cvP c] ∧ c.hosts.map (·.s) = ((upto n).map fun k => newSX k n) ∧ c.bag = [] ∧ c.txs = [] ∧ c.stopped = false) := by
  refine SpecG.of ?_
  intro Post os out kd F c' cs C hkd hret
  simp only [List.cons_append, List.nil_append]
  refine C.go ?_
  refine C.rg [0, 1] ?_
  refine C.asg rfl ?_
  refine C.asg rfl ?_
  refine C.go ?_
  refine C.rg [0, 1, 2, 3, 4, 5] ?_
  refine C.mv rfl ?_
  refine C.cmpF rfl ?_
  refine C.mv rfl ?_
  refine C.mv rfl ?_
  refine C.cmpF rfl ?_
  refine C.pk rfl ?_
  refine C.go ?_
  refine C.fls ?_
  refine C.rg [0, 1, 2, 3, 4] ?_
  refine RunR.mc Tryz.underlying83 (info_of Tryz.type73) rfl (fun dn hdn => ?_)
  refine C.bd rfl ?_
  refine RunR.bx (c := clA 0 nilS.v nilS.v nilS.v (.chan (some dn)) false (((0 : Nat) : Int) * KQ)) [7, 8] rfl rfl rfl (by decide) rfl (fun b => ?_)
  have C1 : Closed Tryz.prog true (barX.bw (σ.hide b [7, 8])) (RunR Tryz.prog Post barX (σ.hide b [7, 8]) 0 os out) := RunR.closed0
  refine RunR.al rfl (fun cb hcb => ?_)
  refine C1.st rfl ?_ (hr := hcb.rd _ _)
  refine C1.go ?_
  refine C1.rg [0, 1] ?_
  refine C1.mv rfl ?_
  refine C1.mv rfl ?_
  refine C1.go ?_
  refine At.nilS ptrC 1 114 (show At (RunR Tryz.prog Post barX (σ.hide b [7, 8]) 0 os out) 0 (slP ptrC 1 114 nilS (([] : List HV).map (·.h.bh)) :: _) _ from ?_)
  refine At.nilA (show At (RunR Tryz.prog Post barX (σ.hide b [7, 8]) 0 os out) 0 (all (([] : List HV).map hostE) :: _) _ from ?_)
  refine loopG (Y := Gh × SliceV × List HV × Nat) (fun y => y.1) (fun y => [(0, .int .i64 n), (4, ptrV cb), (17, .int .i64 n), (18, .int .i64 y.2.2.2)]) (fun y => clP b 0 y.2.1.v nilS.v nilS.v (.chan (some dn)) false ((y.2.2.2 : Int) * KQ) :: slP ptrC 1 114 y.2.1 (y.2.2.1.map (·.h.bh)) :: all (y.2.2.1.map hostE) :: pts dn (.chan 0 #[] false 0 0 false) :: pts cb (.cells #[ptrV b] 23 (0, 0)) :: F)
    (fun y => NewGh σ y.1 ⟨b, cb, dn⟩ y.2.2.1 ∧ y.2.2.1.length = y.2.2.2 ∧ (y.2.2.2 : Int) ≤ n ∧ y.2.2.1.map (·.s) = ((upto n).take y.2.2.2).map (fun k => newSX k n) ∧ ∀ b', y.2.1.a = some ⟨b', 0, none⟩ → Away y.1 b') (fun y => (n - y.2.2.2).toNat) (σ.hide b [7, 8], nilS, [], 0) rfl ⟨rfl, rfl, rfl, rfl, trivial⟩ ⟨NewGh.start (G := ⟨b, cb, dn⟩) hσ hdn, rfl, by show (0 : Int) ≤ n; omega, rfl, fun b' h => by cases h⟩ ?_
  rintro ⟨σk, hs, l, kk⟩ e ⟨N, hlk, hkn, hm, haw⟩ ih
  dsimp only at N hlk hkn hm haw ⊢
  have C : Closed Tryz.prog true (barX.bw σk) (RunR Tryz.prog Post barX σk 0 os out) := RunR.closed0
  refine C.go ?_
  refine C.rg [0] ?_
  by_cases hlt : (kk : Int) < n
  · refine C.cmpT rfl ?_
    refine C.go ?_
    refine C.tru ?_
    refine C.rg [0, 1] ?_
    refine C.mv rfl ?_
    refine C.asg rfl ?_
    refine C.go ?_
    apply cutX (X := Nat × Nat × Nat × Nat × Nat) (fun x => (∀ i s, σk.seats i = some s → ¬ s.has x.2.1)) (fun x => [(0, .int .i64 n), (4, ptrV cb), (6, ptrV x.2.2.2.2), (17, .int .i64 n), (18, .int .i64 kk)]) (fun x => clP b 0 hs.v nilS.v nilS.v (.chan (some dn)) false ((kk : Int) * KQ) :: slP ptrC 1 114 hs (l.map (·.h.bh)) :: all (l.map hostE) :: pts dn (.chan 0 #[] false 0 0 false) :: pts cb (.cells #[ptrV b] 23 (0, 0)) ::
      pts x.2.2.2.1 (.cells #[ptrV x.1, .chan (some x.2.1), .chan (some x.2.2.1)] 120 (0, 0)) :: pts x.2.1 (.chan 0 #[] false 0 0 false) :: pts x.2.2.1 (.chan 0 #[] false 0 0 false) :: pts x.2.2.2.2 (.cells #[ptrV x.2.2.2.1] 114 (0, 0)) :: sxP x.1 (newSX kk n) :: F)
    · intro hin
      refine C.drawn [(21, 0), (22, 1), (23, 2), (24, 3), (25, 4), (26, 5), (27, 6), (6, 7)] [0, 1] [2, 3, 4, 5, 6, 7, 8] 0 ?_
      refine Dr.pu ⟨_, rfl, rfl⟩ (fun _ _ _ h => C.mv rfl h) ?_
      refine Dr.pu ⟨_, rfl, rfl⟩ (fun _ _ _ h => C.mv rfl h) ?_
      refine Dr.chain rfl ?_
      refine Ch.nx (l := [2, 3, 4, 7]) (by decide +kernel) (fa4 ?_ ?_ ?_ ?_)
      · skip
        refine ⟨_, rfl, fun e rest hk => ?_⟩
        refine C.clR (Spec.less (barLe _) snew_spec) ?_
        rintro v As' ⟨b23, rfl, rfl⟩
        refine hk _ _ ?_
        (try simp only [List.cons_append, List.nil_append])
        refine Ch.nx (l := [3, 4, 7]) (by decide +kernel) (fa3 ?_ ?_ ?_)
        · skip
          refine ⟨_, rfl, fun e rest hk => ?_⟩
          refine RunR.mc Tryz.underlying117 (info_of Tryz.type187) rfl (fun b24 h24 => hk _ _ ?_)
          refine Ch.nx (l := [4, 7]) (by decide +kernel) (fa2 ?_ ?_)
          · skip
            refine ⟨_, rfl, fun e rest hk => ?_⟩
            refine RunR.mc Tryz.underlying118 (info_of Tryz.type81) rfl (fun b25 h25 => hk _ _ ?_)
            refine Ch.pu (i := 5) (t := 26) ⟨_, rfl, rfl⟩ (fun _ _ _ h => C.bd rfl h) ?_
            refine Ch.nx (l := [6, 7]) (by decide +kernel) (fa2 ?_ ?_)
            · skip
              refine ⟨_, rfl, fun e rest hk => ?_⟩
              refine C.bx rfl (fun b27 => hk _ _ ?_)
              refine Ch.nx (l := [7]) (by decide +kernel) (fa1 ?_)
              refine ⟨_, rfl, fun e rest hk => ?_⟩
              refine RunR.al rfl (fun b6 h6 => hk _ _ ?_)
              refine Ch.nx (l := [8]) (by decide +kernel) (fa1 ?_)
              refine ⟨_, rfl, fun e rest hk => ?_⟩
              refine C.st rfl (hk _ undef ?_) (hr := h6.rd _ _)
              refine Ch.fin ?_
              refine C.go ?_
              exact joinX hin (b23, b24, b25, b27, b6) h24
            · skip
              refine ⟨_, rfl, fun e rest hk => ?_⟩
              refine RunR.al rfl (fun b6 h6 => hk _ _ ?_)
              refine Ch.nx (l := [6]) (by decide +kernel) (fa1 ?_)
              refine ⟨_, rfl, fun e rest hk => ?_⟩
              refine C.bx rfl (fun b27 => hk _ _ ?_)
              refine Ch.nx (l := [8]) (by decide +kernel) (fa1 ?_)
              refine ⟨_, rfl, fun e rest hk => ?_⟩
              refine C.st rfl (hk _ undef ?_) (hr := h6.rd _ _)
              refine Ch.fin ?_
              refine C.go ?_
              exact joinX hin (b23, b24, b25, b27, b6) h24
          · skip
            refine ⟨_, rfl, fun e rest hk => ?_⟩
            refine RunR.al rfl (fun b6 h6 => hk _ _ ?_)
            refine Ch.nx (l := [4]) (by decide +kernel) (fa1 ?_)
            refine ⟨_, rfl, fun e rest hk => ?_⟩
            refine RunR.mc Tryz.underlying118 (info_of Tryz.type81) rfl (fun b25 h25 => hk _ _ ?_)
            refine Ch.pu (i := 5) (t := 26) ⟨_, rfl, rfl⟩ (fun _ _ _ h => C.bd rfl h) ?_
            refine Ch.nx (l := [6]) (by decide +kernel) (fa1 ?_)
            refine ⟨_, rfl, fun e rest hk => ?_⟩
            refine C.bx rfl (fun b27 => hk _ _ ?_)
            refine Ch.nx (l := [8]) (by decide +kernel) (fa1 ?_)
            refine ⟨_, rfl, fun e rest hk => ?_⟩
            refine C.st rfl (hk _ undef ?_) (hr := h6.rd _ _)
            refine Ch.fin ?_
            refine C.go ?_
            exact joinX hin (b23, b24, b25, b27, b6) h24
        · skip
          refine ⟨_, rfl, fun e rest hk => ?_⟩
          refine RunR.mc Tryz.underlying118 (info_of Tryz.type81) rfl (fun b25 h25 => hk _ _ ?_)
          refine Ch.nx (l := [3, 7]) (by decide +kernel) (fa2 ?_ ?_)
          · skip
            refine ⟨_, rfl, fun e rest hk => ?_⟩
            refine RunR.mc Tryz.underlying117 (info_of Tryz.type187) rfl (fun b24 h24 => hk _ _ ?_)
            refine Ch.pu (i := 5) (t := 26) ⟨_, rfl, rfl⟩ (fun _ _ _ h => C.bd rfl h) ?_
            refine Ch.nx (l := [6, 7]) (by decide +kernel) (fa2 ?_ ?_)
            · skip
              refine ⟨_, rfl, fun e rest hk => ?_⟩
              refine C.bx rfl (fun b27 => hk _ _ ?_)
              refine Ch.nx (l := [7]) (by decide +kernel) (fa1 ?_)
              refine ⟨_, rfl, fun e rest hk => ?_⟩
              refine RunR.al rfl (fun b6 h6 => hk _ _ ?_)
              refine Ch.nx (l := [8]) (by decide +kernel) (fa1 ?_)
              refine ⟨_, rfl, fun e rest hk => ?_⟩
              refine C.st rfl (hk _ undef ?_) (hr := h6.rd _ _)
              refine Ch.fin ?_
              refine C.go ?_
              exact joinX hin (b23, b24, b25, b27, b6) h24
            · skip
              refine ⟨_, rfl, fun e rest hk => ?_⟩
              refine RunR.al rfl (fun b6 h6 => hk _ _ ?_)
              refine Ch.nx (l := [6]) (by decide +kernel) (fa1 ?_)
              refine ⟨_, rfl, fun e rest hk => ?_⟩
              refine C.bx rfl (fun b27 => hk _ _ ?_)
              refine Ch.nx (l := [8]) (by decide +kernel) (fa1 ?_)
              refine ⟨_, rfl, fun e rest hk => ?_⟩
              refine C.st rfl (hk _ undef ?_) (hr := h6.rd _ _)
              refine Ch.fin ?_
              refine C.go ?_
              exact joinX hin (b23, b24, b25, b27, b6) h24
          · skip
            refine ⟨_, rfl, fun e rest hk => ?_⟩
            refine RunR.al rfl (fun b6 h6 => hk _ _ ?_)
            refine Ch.nx (l := [3]) (by decide +kernel) (fa1 ?_)
            refine ⟨_, rfl, fun e rest hk => ?_⟩
            refine RunR.mc Tryz.underlying117 (info_of Tryz.type187) rfl (fun b24 h24 => hk _ _ ?_)
            refine Ch.pu (i := 5) (t := 26) ⟨_, rfl, rfl⟩ (fun _ _ _ h => C.bd rfl h) ?_
            refine Ch.nx (l := [6]) (by decide +kernel) (fa1 ?_)
            refine ⟨_, rfl, fun e rest hk => ?_⟩
            refine C.bx rfl (fun b27 => hk _ _ ?_)
            refine Ch.nx (l := [8]) (by decide +kernel) (fa1 ?_)
            refine ⟨_, rfl, fun e rest hk => ?_⟩
            refine C.st rfl (hk _ undef ?_) (hr := h6.rd _ _)
            refine Ch.fin ?_
            refine C.go ?_
            exact joinX hin (b23, b24, b25, b27, b6) h24
        · skip
          refine ⟨_, rfl, fun e rest hk => ?_⟩
          refine RunR.al rfl (fun b6 h6 => hk _ _ ?_)
          refine Ch.nx (l := [3, 4]) (by decide +kernel) (fa2 ?_ ?_)
          · skip
            refine ⟨_, rfl, fun e rest hk => ?_⟩
            refine RunR.mc Tryz.underlying117 (info_of Tryz.type187) rfl (fun b24 h24 => hk _ _ ?_)
            refine Ch.nx (l := [4]) (by decide +kernel) (fa1 ?_)
            refine ⟨_, rfl, fun e rest hk => ?_⟩
            refine RunR.mc Tryz.underlying118 (info_of Tryz.type81) rfl (fun b25 h25 => hk _ _ ?_)
            refine Ch.pu (i := 5) (t := 26) ⟨_, rfl, rfl⟩ (fun _ _ _ h => C.bd rfl h) ?_
            refine Ch.nx (l := [6]) (by decide +kernel) (fa1 ?_)
            refine ⟨_, rfl, fun e rest hk => ?_⟩
            refine C.bx rfl (fun b27 => hk _ _ ?_)
            refine Ch.nx (l := [8]) (by decide +kernel) (fa1 ?_)
            refine ⟨_, rfl, fun e rest hk => ?_⟩
            refine C.st rfl (hk _ undef ?_) (hr := h6.rd _ _)
            refine Ch.fin ?_
            refine C.go ?_
            exact joinX hin (b23, b24, b25, b27, b6) h24
          · skip
            refine ⟨_, rfl, fun e rest hk => ?_⟩
            refine RunR.mc Tryz.underlying118 (info_of Tryz.type81) rfl (fun b25 h25 => hk _ _ ?_)
            refine Ch.nx (l := [3]) (by decide +kernel) (fa1 ?_)
            refine ⟨_, rfl, fun e rest hk => ?_⟩
            refine RunR.mc Tryz.underlying117 (info_of Tryz.type187) rfl (fun b24 h24 => hk _ _ ?_)
            refine Ch.pu (i := 5) (t := 26) ⟨_, rfl, rfl⟩ (fun _ _ _ h => C.bd rfl h) ?_
            refine Ch.nx (l := [6]) (by decide +kernel) (fa1 ?_)
            refine ⟨_, rfl, fun e rest hk => ?_⟩
            refine C.bx rfl (fun b27 => hk _ _ ?_)
            refine Ch.nx (l := [8]) (by decide +kernel) (fa1 ?_)
            refine ⟨_, rfl, fun e rest hk => ?_⟩
            refine C.st rfl (hk _ undef ?_) (hr := h6.rd _ _)
            refine Ch.fin ?_
            refine C.go ?_
            exact joinX hin (b23, b24, b25, b27, b6) h24
      · skip
        refine ⟨_, rfl, fun e rest hk => ?_⟩
        refine RunR.mc Tryz.underlying117 (info_of Tryz.type187) rfl (fun b24 h24 => hk _ _ ?_)
        refine Ch.nx (l := [2, 4, 7]) (by decide +kernel) (fa3 ?_ ?_ ?_)
        · skip
          refine ⟨_, rfl, fun e rest hk => ?_⟩
          refine C.clR (Spec.less (barLe _) snew_spec) ?_
          rintro v As' ⟨b23, rfl, rfl⟩
          refine hk _ _ ?_
          (try simp only [List.cons_append, List.nil_append])
          refine Ch.nx (l := [4, 7]) (by decide +kernel) (fa2 ?_ ?_)
          · skip
            refine ⟨_, rfl, fun e rest hk => ?_⟩
            refine RunR.mc Tryz.underlying118 (info_of Tryz.type81) rfl (fun b25 h25 => hk _ _ ?_)
            refine Ch.pu (i := 5) (t := 26) ⟨_, rfl, rfl⟩ (fun _ _ _ h => C.bd rfl h) ?_
            refine Ch.nx (l := [6, 7]) (by decide +kernel) (fa2 ?_ ?_)
            · skip
              refine ⟨_, rfl, fun e rest hk => ?_⟩
              refine C.bx rfl (fun b27 => hk _ _ ?_)
              refine Ch.nx (l := [7]) (by decide +kernel) (fa1 ?_)
              refine ⟨_, rfl, fun e rest hk => ?_⟩
              refine RunR.al rfl (fun b6 h6 => hk _ _ ?_)
              refine Ch.nx (l := [8]) (by decide +kernel) (fa1 ?_)
              refine ⟨_, rfl, fun e rest hk => ?_⟩
              refine C.st rfl (hk _ undef ?_) (hr := h6.rd _ _)
              refine Ch.fin ?_
              refine C.go ?_
              exact joinX hin (b23, b24, b25, b27, b6) h24
            · skip
              refine ⟨_, rfl, fun e rest hk => ?_⟩
              refine RunR.al rfl (fun b6 h6 => hk _ _ ?_)
              refine Ch.nx (l := [6]) (by decide +kernel) (fa1 ?_)
              refine ⟨_, rfl, fun e rest hk => ?_⟩
              refine C.bx rfl (fun b27 => hk _ _ ?_)
              refine Ch.nx (l := [8]) (by decide +kernel) (fa1 ?_)
              refine ⟨_, rfl, fun e rest hk => ?_⟩
              refine C.st rfl (hk _ undef ?_) (hr := h6.rd _ _)
              refine Ch.fin ?_
              refine C.go ?_
              exact joinX hin (b23, b24, b25, b27, b6) h24
          · skip
            refine ⟨_, rfl, fun e rest hk => ?_⟩
            refine RunR.al rfl (fun b6 h6 => hk _ _ ?_)
            refine Ch.nx (l := [4]) (by decide +kernel) (fa1 ?_)
            refine ⟨_, rfl, fun e rest hk => ?_⟩
            refine RunR.mc Tryz.underlying118 (info_of Tryz.type81) rfl (fun b25 h25 => hk _ _ ?_)
            refine Ch.pu (i := 5) (t := 26) ⟨_, rfl, rfl⟩ (fun _ _ _ h => C.bd rfl h) ?_
            refine Ch.nx (l := [6]) (by decide +kernel) (fa1 ?_)
            refine ⟨_, rfl, fun e rest hk => ?_⟩
            refine C.bx rfl (fun b27 => hk _ _ ?_)
            refine Ch.nx (l := [8]) (by decide +kernel) (fa1 ?_)
            refine ⟨_, rfl, fun e rest hk => ?_⟩
            refine C.st rfl (hk _ undef ?_) (hr := h6.rd _ _)
            refine Ch.fin ?_
            refine C.go ?_
            exact joinX hin (b23, b24, b25, b27, b6) h24
        · skip
          refine ⟨_, rfl, fun e rest hk => ?_⟩
          refine RunR.mc Tryz.underlying118 (info_of Tryz.type81) rfl (fun b25 h25 => hk _ _ ?_)
          refine Ch.nx (l := [2, 7]) (by decide +kernel) (fa2 ?_ ?_)
          · skip
            refine ⟨_, rfl, fun e rest hk => ?_⟩
            refine C.clR (Spec.less (barLe _) snew_spec) ?_
            rintro v As' ⟨b23, rfl, rfl⟩
            refine hk _ _ ?_
            (try simp only [List.cons_append, List.nil_append])
            refine Ch.pu (i := 5) (t := 26) ⟨_, rfl, rfl⟩ (fun _ _ _ h => C.bd rfl h) ?_
            refine Ch.nx (l := [6, 7]) (by decide +kernel) (fa2 ?_ ?_)
            · skip
              refine ⟨_, rfl, fun e rest hk => ?_⟩
              refine C.bx rfl (fun b27 => hk _ _ ?_)
              refine Ch.nx (l := [7]) (by decide +kernel) (fa1 ?_)
              refine ⟨_, rfl, fun e rest hk => ?_⟩
              refine RunR.al rfl (fun b6 h6 => hk _ _ ?_)
              refine Ch.nx (l := [8]) (by decide +kernel) (fa1 ?_)
              refine ⟨_, rfl, fun e rest hk => ?_⟩
              refine C.st rfl (hk _ undef ?_) (hr := h6.rd _ _)
              refine Ch.fin ?_
              refine C.go ?_
              exact joinX hin (b23, b24, b25, b27, b6) h24
            · skip
              refine ⟨_, rfl, fun e rest hk => ?_⟩
              refine RunR.al rfl (fun b6 h6 => hk _ _ ?_)
              refine Ch.nx (l := [6]) (by decide +kernel) (fa1 ?_)
              refine ⟨_, rfl, fun e rest hk => ?_⟩
              refine C.bx rfl (fun b27 => hk _ _ ?_)
              refine Ch.nx (l := [8]) (by decide +kernel) (fa1 ?_)
              refine ⟨_, rfl, fun e rest hk => ?_⟩
              refine C.st rfl (hk _ undef ?_) (hr := h6.rd _ _)
              refine Ch.fin ?_
              refine C.go ?_
              exact joinX hin (b23, b24, b25, b27, b6) h24
          · skip
            refine ⟨_, rfl, fun e rest hk => ?_⟩
            refine RunR.al rfl (fun b6 h6 => hk _ _ ?_)
            refine Ch.nx (l := [2]) (by decide +kernel) (fa1 ?_)
            refine ⟨_, rfl, fun e rest hk => ?_⟩
            refine C.clR (Spec.less (barLe _) snew_spec) ?_
            rintro v As' ⟨b23, rfl, rfl⟩
            refine hk _ _ ?_
            (try simp only [List.cons_append, List.nil_append])
            refine Ch.pu (i := 5) (t := 26) ⟨_, rfl, rfl⟩ (fun _ _ _ h => C.bd rfl h) ?_
            refine Ch.nx (l := [6]) (by decide +kernel) (fa1 ?_)
            refine ⟨_, rfl, fun e rest hk => ?_⟩
            refine C.bx rfl (fun b27 => hk _ _ ?_)
            refine Ch.nx (l := [8]) (by decide +kernel) (fa1 ?_)
            refine ⟨_, rfl, fun e rest hk => ?_⟩
            refine C.st rfl (hk _ undef ?_) (hr := h6.rd _ _)
            refine Ch.fin ?_
            refine C.go ?_
            exact joinX hin (b23, b24, b25, b27, b6) h24
        · skip
          refine ⟨_, rfl, fun e rest hk => ?_⟩
          refine RunR.al rfl (fun b6 h6 => hk _ _ ?_)
          refine Ch.nx (l := [2, 4]) (by decide +kernel) (fa2 ?_ ?_)
          · skip
            refine ⟨_, rfl, fun e rest hk => ?_⟩
            refine C.clR (Spec.less (barLe _) snew_spec) ?_
            rintro v As' ⟨b23, rfl, rfl⟩
            refine hk _ _ ?_
            (try simp only [List.cons_append, List.nil_append])
            refine Ch.nx (l := [4]) (by decide +kernel) (fa1 ?_)
            refine ⟨_, rfl, fun e rest hk => ?_⟩
            refine RunR.mc Tryz.underlying118 (info_of Tryz.type81) rfl (fun b25 h25 => hk _ _ ?_)
            refine Ch.pu (i := 5) (t := 26) ⟨_, rfl, rfl⟩ (fun _ _ _ h => C.bd rfl h) ?_
            refine Ch.nx (l := [6]) (by decide +kernel) (fa1 ?_)
            refine ⟨_, rfl, fun e rest hk => ?_⟩
            refine C.bx rfl (fun b27 => hk _ _ ?_)
            refine Ch.nx (l := [8]) (by decide +kernel) (fa1 ?_)
            refine ⟨_, rfl, fun e rest hk => ?_⟩
            refine C.st rfl (hk _ undef ?_) (hr := h6.rd _ _)
            refine Ch.fin ?_
            refine C.go ?_
            exact joinX hin (b23, b24, b25, b27, b6) h24
          · skip
            refine ⟨_, rfl, fun e rest hk => ?_⟩
            refine RunR.mc Tryz.underlying118 (info_of Tryz.type81) rfl (fun b25 h25 => hk _ _ ?_)
            refine Ch.nx (l := [2]) (by decide +kernel) (fa1 ?_)
            refine ⟨_, rfl, fun e rest hk => ?_⟩
            refine C.clR (Spec.less (barLe _) snew_spec) ?_
            rintro v As' ⟨b23, rfl, rfl⟩
            refine hk _ _ ?_
            (try simp only [List.cons_append, List.nil_append])
            refine Ch.pu (i := 5) (t := 26) ⟨_, rfl, rfl⟩ (fun _ _ _ h => C.bd rfl h) ?_
            refine Ch.nx (l := [6]) (by decide +kernel) (fa1 ?_)
            refine ⟨_, rfl, fun e rest hk => ?_⟩
            refine C.bx rfl (fun b27 => hk _ _ ?_)
            refine Ch.nx (l := [8]) (by decide +kernel) (fa1 ?_)
            refine ⟨_, rfl, fun e rest hk => ?_⟩
            refine C.st rfl (hk _ undef ?_) (hr := h6.rd _ _)
            refine Ch.fin ?_
            refine C.go ?_
            exact joinX hin (b23, b24, b25, b27, b6) h24
      · skip
        refine ⟨_, rfl, fun e rest hk => ?_⟩
        refine RunR.mc Tryz.underlying118 (info_of Tryz.type81) rfl (fun b25 h25 => hk _ _ ?_)
        refine Ch.nx (l := [2, 3, 7]) (by decide +kernel) (fa3 ?_ ?_ ?_)
        · skip
          refine ⟨_, rfl, fun e rest hk => ?_⟩
          refine C.clR (Spec.less (barLe _) snew_spec) ?_
          rintro v As' ⟨b23, rfl, rfl⟩
          refine hk _ _ ?_
          (try simp only [List.cons_append, List.nil_append])
          refine Ch.nx (l := [3, 7]) (by decide +kernel) (fa2 ?_ ?_)
          · skip
            refine ⟨_, rfl, fun e rest hk => ?_⟩
            refine RunR.mc Tryz.underlying117 (info_of Tryz.type187) rfl (fun b24 h24 => hk _ _ ?_)
            refine Ch.pu (i := 5) (t := 26) ⟨_, rfl, rfl⟩ (fun _ _ _ h => C.bd rfl h) ?_
            refine Ch.nx (l := [6, 7]) (by decide +kernel) (fa2 ?_ ?_)
            · skip
              refine ⟨_, rfl, fun e rest hk => ?_⟩
              refine C.bx rfl (fun b27 => hk _ _ ?_)
              refine Ch.nx (l := [7]) (by decide +kernel) (fa1 ?_)
              refine ⟨_, rfl, fun e rest hk => ?_⟩
              refine RunR.al rfl (fun b6 h6 => hk _ _ ?_)
              refine Ch.nx (l := [8]) (by decide +kernel) (fa1 ?_)
              refine ⟨_, rfl, fun e rest hk => ?_⟩
              refine C.st rfl (hk _ undef ?_) (hr := h6.rd _ _)
              refine Ch.fin ?_
              refine C.go ?_
              exact joinX hin (b23, b24, b25, b27, b6) h24
            · skip
              refine ⟨_, rfl, fun e rest hk => ?_⟩
              refine RunR.al rfl (fun b6 h6 => hk _ _ ?_)
              refine Ch.nx (l := [6]) (by decide +kernel) (fa1 ?_)
              refine ⟨_, rfl, fun e rest hk => ?_⟩
              refine C.bx rfl (fun b27 => hk _ _ ?_)
              refine Ch.nx (l := [8]) (by decide +kernel) (fa1 ?_)
              refine ⟨_, rfl, fun e rest hk => ?_⟩
              refine C.st rfl (hk _ undef ?_) (hr := h6.rd _ _)
              refine Ch.fin ?_
              refine C.go ?_
              exact joinX hin (b23, b24, b25, b27, b6) h24
          · skip
            refine ⟨_, rfl, fun e rest hk => ?_⟩
            refine RunR.al rfl (fun b6 h6 => hk _ _ ?_)
            refine Ch.nx (l := [3]) (by decide +kernel) (fa1 ?_)
            refine ⟨_, rfl, fun e rest hk => ?_⟩
            refine RunR.mc Tryz.underlying117 (info_of Tryz.type187) rfl (fun b24 h24 => hk _ _ ?_)
            refine Ch.pu (i := 5) (t := 26) ⟨_, rfl, rfl⟩ (fun _ _ _ h => C.bd rfl h) ?_
            refine Ch.nx (l := [6]) (by decide +kernel) (fa1 ?_)
            refine ⟨_, rfl, fun e rest hk => ?_⟩
            refine C.bx rfl (fun b27 => hk _ _ ?_)
            refine Ch.nx (l := [8]) (by decide +kernel) (fa1 ?_)
            refine ⟨_, rfl, fun e rest hk => ?_⟩
            refine C.st rfl (hk _ undef ?_) (hr := h6.rd _ _)
            refine Ch.fin ?_
            refine C.go ?_
            exact joinX hin (b23, b24, b25, b27, b6) h24
        · skip
          refine ⟨_, rfl, fun e rest hk => ?_⟩
          refine RunR.mc Tryz.underlying117 (info_of Tryz.type187) rfl (fun b24 h24 => hk _ _ ?_)
          refine Ch.nx (l := [2, 7]) (by decide +kernel) (fa2 ?_ ?_)
          · skip
            refine ⟨_, rfl, fun e rest hk => ?_⟩
            refine C.clR (Spec.less (barLe _) snew_spec) ?_
            rintro v As' ⟨b23, rfl, rfl⟩
            refine hk _ _ ?_
            (try simp only [List.cons_append, List.nil_append])
            refine Ch.pu (i := 5) (t := 26) ⟨_, rfl, rfl⟩ (fun _ _ _ h => C.bd rfl h) ?_
            refine Ch.nx (l := [6, 7]) (by decide +kernel) (fa2 ?_ ?_)
            · skip
              refine ⟨_, rfl, fun e rest hk => ?_⟩
              refine C.bx rfl (fun b27 => hk _ _ ?_)
              refine Ch.nx (l := [7]) (by decide +kernel) (fa1 ?_)
              refine ⟨_, rfl, fun e rest hk => ?_⟩
              refine RunR.al rfl (fun b6 h6 => hk _ _ ?_)
              refine Ch.nx (l := [8]) (by decide +kernel) (fa1 ?_)
              refine ⟨_, rfl, fun e rest hk => ?_⟩
              refine C.st rfl (hk _ undef ?_) (hr := h6.rd _ _)
              refine Ch.fin ?_
              refine C.go ?_
              exact joinX hin (b23, b24, b25, b27, b6) h24
            · skip
              refine ⟨_, rfl, fun e rest hk => ?_⟩
              refine RunR.al rfl (fun b6 h6 => hk _ _ ?_)
              refine Ch.nx (l := [6]) (by decide +kernel) (fa1 ?_)
              refine ⟨_, rfl, fun e rest hk => ?_⟩
              refine C.bx rfl (fun b27 => hk _ _ ?_)
              refine Ch.nx (l := [8]) (by decide +kernel) (fa1 ?_)
              refine ⟨_, rfl, fun e rest hk => ?_⟩
              refine C.st rfl (hk _ undef ?_) (hr := h6.rd _ _)
              refine Ch.fin ?_
              refine C.go ?_
              exact joinX hin (b23, b24, b25, b27, b6) h24
          · skip
            refine ⟨_, rfl, fun e rest hk => ?_⟩
            refine RunR.al rfl (fun b6 h6 => hk _ _ ?_)
            refine Ch.nx (l := [2]) (by decide +kernel) (fa1 ?_)
            refine ⟨_, rfl, fun e rest hk => ?_⟩
            refine C.clR (Spec.less (barLe _) snew_spec) ?_
            rintro v As' ⟨b23, rfl, rfl⟩
            refine hk _ _ ?_
            (try simp only [List.cons_append, List.nil_append])
            refine Ch.pu (i := 5) (t := 26) ⟨_, rfl, rfl⟩ (fun _ _ _ h => C.bd rfl h) ?_
            refine Ch.nx (l := [6]) (by decide +kernel) (fa1 ?_)
            refine ⟨_, rfl, fun e rest hk => ?_⟩
            refine C.bx rfl (fun b27 => hk _ _ ?_)
            refine Ch.nx (l := [8]) (by decide +kernel) (fa1 ?_)
            refine ⟨_, rfl, fun e rest hk => ?_⟩
            refine C.st rfl (hk _ undef ?_) (hr := h6.rd _ _)
            refine Ch.fin ?_
            refine C.go ?_
            exact joinX hin (b23, b24, b25, b27, b6) h24
        · skip
          refine ⟨_, rfl, fun e rest hk => ?_⟩
          refine RunR.al rfl (fun b6 h6 => hk _ _ ?_)
          refine Ch.nx (l := [2, 3]) (by decide +kernel) (fa2 ?_ ?_)
          · skip
            refine ⟨_, rfl, fun e rest hk => ?_⟩
            refine C.clR (Spec.less (barLe _) snew_spec) ?_
            rintro v As' ⟨b23, rfl, rfl⟩
            refine hk _ _ ?_
            (try simp only [List.cons_append, List.nil_append])
            refine Ch.nx (l := [3]) (by decide +kernel) (fa1 ?_)
            refine ⟨_, rfl, fun e rest hk => ?_⟩
            refine RunR.mc Tryz.underlying117 (info_of Tryz.type187) rfl (fun b24 h24 => hk _ _ ?_)
            refine Ch.pu (i := 5) (t := 26) ⟨_, rfl, rfl⟩ (fun _ _ _ h => C.bd rfl h) ?_
            refine Ch.nx (l := [6]) (by decide +kernel) (fa1 ?_)
            refine ⟨_, rfl, fun e rest hk => ?_⟩
            refine C.bx rfl (fun b27 => hk _ _ ?_)
            refine Ch.nx (l := [8]) (by decide +kernel) (fa1 ?_)
            refine ⟨_, rfl, fun e rest hk => ?_⟩
            refine C.st rfl (hk _ undef ?_) (hr := h6.rd _ _)
            refine Ch.fin ?_
            refine C.go ?_
            exact joinX hin (b23, b24, b25, b27, b6) h24
          · skip
            refine ⟨_, rfl, fun e rest hk => ?_⟩
            refine RunR.mc Tryz.underlying117 (info_of Tryz.type187) rfl (fun b24 h24 => hk _ _ ?_)
            refine Ch.nx (l := [2]) (by decide +kernel) (fa1 ?_)
            refine ⟨_, rfl, fun e rest hk => ?_⟩
            refine C.clR (Spec.less (barLe _) snew_spec) ?_
            rintro v As' ⟨b23, rfl, rfl⟩
            refine hk _ _ ?_
            (try simp only [List.cons_append, List.nil_append])
            refine Ch.pu (i := 5) (t := 26) ⟨_, rfl, rfl⟩ (fun _ _ _ h => C.bd rfl h) ?_
            refine Ch.nx (l := [6]) (by decide +kernel) (fa1 ?_)
            refine ⟨_, rfl, fun e rest hk => ?_⟩
            refine C.bx rfl (fun b27 => hk _ _ ?_)
            refine Ch.nx (l := [8]) (by decide +kernel) (fa1 ?_)
            refine ⟨_, rfl, fun e rest hk => ?_⟩
            refine C.st rfl (hk _ undef ?_) (hr := h6.rd _ _)
            refine Ch.fin ?_
            refine C.go ?_
            exact joinX hin (b23, b24, b25, b27, b6) h24
      · skip
        refine ⟨_, rfl, fun e rest hk => ?_⟩
        refine RunR.al rfl (fun b6 h6 => hk _ _ ?_)
        refine Ch.nx (l := [2, 3, 4]) (by decide +kernel) (fa3 ?_ ?_ ?_)
        · skip
          refine ⟨_, rfl, fun e rest hk => ?_⟩
          refine C.clR (Spec.less (barLe _) snew_spec) ?_
          rintro v As' ⟨b23, rfl, rfl⟩
          refine hk _ _ ?_
          (try simp only [List.cons_append, List.nil_append])
          refine Ch.nx (l := [3, 4]) (by decide +kernel) (fa2 ?_ ?_)
          · skip
            refine ⟨_, rfl, fun e rest hk => ?_⟩
            refine RunR.mc Tryz.underlying117 (info_of Tryz.type187) rfl (fun b24 h24 => hk _ _ ?_)
            refine Ch.nx (l := [4]) (by decide +kernel) (fa1 ?_)
            refine ⟨_, rfl, fun e rest hk => ?_⟩
            refine RunR.mc Tryz.underlying118 (info_of Tryz.type81) rfl (fun b25 h25 => hk _ _ ?_)
            refine Ch.pu (i := 5) (t := 26) ⟨_, rfl, rfl⟩ (fun _ _ _ h => C.bd rfl h) ?_
            refine Ch.nx (l := [6]) (by decide +kernel) (fa1 ?_)
            refine ⟨_, rfl, fun e rest hk => ?_⟩
            refine C.bx rfl (fun b27 => hk _ _ ?_)
            refine Ch.nx (l := [8]) (by decide +kernel) (fa1 ?_)
            refine ⟨_, rfl, fun e rest hk => ?_⟩
            refine C.st rfl (hk _ undef ?_) (hr := h6.rd _ _)
            refine Ch.fin ?_
            refine C.go ?_
            exact joinX hin (b23, b24, b25, b27, b6) h24
          · skip
            refine ⟨_, rfl, fun e rest hk => ?_⟩
            refine RunR.mc Tryz.underlying118 (info_of Tryz.type81) rfl (fun b25 h25 => hk _ _ ?_)
            refine Ch.nx (l := [3]) (by decide +kernel) (fa1 ?_)
            refine ⟨_, rfl, fun e rest hk => ?_⟩
            refine RunR.mc Tryz.underlying117 (info_of Tryz.type187) rfl (fun b24 h24 => hk _ _ ?_)
            refine Ch.pu (i := 5) (t := 26) ⟨_, rfl, rfl⟩ (fun _ _ _ h => C.bd rfl h) ?_
            refine Ch.nx (l := [6]) (by decide +kernel) (fa1 ?_)
            refine ⟨_, rfl, fun e rest hk => ?_⟩
            refine C.bx rfl (fun b27 => hk _ _ ?_)
            refine Ch.nx (l := [8]) (by decide +kernel) (fa1 ?_)
            refine ⟨_, rfl, fun e rest hk => ?_⟩
            refine C.st rfl (hk _ undef ?_) (hr := h6.rd _ _)
            refine Ch.fin ?_
            refine C.go ?_
            exact joinX hin (b23, b24, b25, b27, b6) h24
        · skip
          refine ⟨_, rfl, fun e rest hk => ?_⟩
          refine RunR.mc Tryz.underlying117 (info_of Tryz.type187) rfl (fun b24 h24 => hk _ _ ?_)
          refine Ch.nx (l := [2, 4]) (by decide +kernel) (fa2 ?_ ?_)
          · skip
            refine ⟨_, rfl, fun e rest hk => ?_⟩
            refine C.clR (Spec.less (barLe _) snew_spec) ?_
            rintro v As' ⟨b23, rfl, rfl⟩
            refine hk _ _ ?_
            (try simp only [List.cons_append, List.nil_append])
            refine Ch.nx (l := [4]) (by decide +kernel) (fa1 ?_)
            refine ⟨_, rfl, fun e rest hk => ?_⟩
            refine RunR.mc Tryz.underlying118 (info_of Tryz.type81) rfl (fun b25 h25 => hk _ _ ?_)
            refine Ch.pu (i := 5) (t := 26) ⟨_, rfl, rfl⟩ (fun _ _ _ h => C.bd rfl h) ?_
            refine Ch.nx (l := [6]) (by decide +kernel) (fa1 ?_)
            refine ⟨_, rfl, fun e rest hk => ?_⟩
            refine C.bx rfl (fun b27 => hk _ _ ?_)
            refine Ch.nx (l := [8]) (by decide +kernel) (fa1 ?_)
            refine ⟨_, rfl, fun e rest hk => ?_⟩
            refine C.st rfl (hk _ undef ?_) (hr := h6.rd _ _)
            refine Ch.fin ?_
            refine C.go ?_
            exact joinX hin (b23, b24, b25, b27, b6) h24
          · skip
            refine ⟨_, rfl, fun e rest hk => ?_⟩
            refine RunR.mc Tryz.underlying118 (info_of Tryz.type81) rfl (fun b25 h25 => hk _ _ ?_)
            refine Ch.nx (l := [2]) (by decide +kernel) (fa1 ?_)
            refine ⟨_, rfl, fun e rest hk => ?_⟩
            refine C.clR (Spec.less (barLe _) snew_spec) ?_
            rintro v As' ⟨b23, rfl, rfl⟩
            refine hk _ _ ?_
            (try simp only [List.cons_append, List.nil_append])
            refine Ch.pu (i := 5) (t := 26) ⟨_, rfl, rfl⟩ (fun _ _ _ h => C.bd rfl h) ?_
            refine Ch.nx (l := [6]) (by decide +kernel) (fa1 ?_)
            refine ⟨_, rfl, fun e rest hk => ?_⟩
            refine C.bx rfl (fun b27 => hk _ _ ?_)
            refine Ch.nx (l := [8]) (by decide +kernel) (fa1 ?_)
            refine ⟨_, rfl, fun e rest hk => ?_⟩
            refine C.st rfl (hk _ undef ?_) (hr := h6.rd _ _)
            refine Ch.fin ?_
            refine C.go ?_
            exact joinX hin (b23, b24, b25, b27, b6) h24
        · skip
          refine ⟨_, rfl, fun e rest hk => ?_⟩
          refine RunR.mc Tryz.underlying118 (info_of Tryz.type81) rfl (fun b25 h25 => hk _ _ ?_)
          refine Ch.nx (l := [2, 3]) (by decide +kernel) (fa2 ?_ ?_)
          · skip
            refine ⟨_, rfl, fun e rest hk => ?_⟩
            refine C.clR (Spec.less (barLe _) snew_spec) ?_
            rintro v As' ⟨b23, rfl, rfl⟩
            refine hk _ _ ?_
            (try simp only [List.cons_append, List.nil_append])
            refine Ch.nx (l := [3]) (by decide +kernel) (fa1 ?_)
            refine ⟨_, rfl, fun e rest hk => ?_⟩
            refine RunR.mc Tryz.underlying117 (info_of Tryz.type187) rfl (fun b24 h24 => hk _ _ ?_)
            refine Ch.pu (i := 5) (t := 26) ⟨_, rfl, rfl⟩ (fun _ _ _ h => C.bd rfl h) ?_
            refine Ch.nx (l := [6]) (by decide +kernel) (fa1 ?_)
            refine ⟨_, rfl, fun e rest hk => ?_⟩
            refine C.bx rfl (fun b27 => hk _ _ ?_)
            refine Ch.nx (l := [8]) (by decide +kernel) (fa1 ?_)
            refine ⟨_, rfl, fun e rest hk => ?_⟩
            refine C.st rfl (hk _ undef ?_) (hr := h6.rd _ _)
            refine Ch.fin ?_
            refine C.go ?_
            exact joinX hin (b23, b24, b25, b27, b6) h24
          · skip
            refine ⟨_, rfl, fun e rest hk => ?_⟩
            refine RunR.mc Tryz.underlying117 (info_of Tryz.type187) rfl (fun b24 h24 => hk _ _ ?_)
            refine Ch.nx (l := [2]) (by decide +kernel) (fa1 ?_)
            refine ⟨_, rfl, fun e rest hk => ?_⟩
            refine C.clR (Spec.less (barLe _) snew_spec) ?_
            rintro v As' ⟨b23, rfl, rfl⟩
            refine hk _ _ ?_
            (try simp only [List.cons_append, List.nil_append])
            refine Ch.pu (i := 5) (t := 26) ⟨_, rfl, rfl⟩ (fun _ _ _ h => C.bd rfl h) ?_
            refine Ch.nx (l := [6]) (by decide +kernel) (fa1 ?_)
            refine ⟨_, rfl, fun e rest hk => ?_⟩
            refine C.bx rfl (fun b27 => hk _ _ ?_)
            refine Ch.nx (l := [8]) (by decide +kernel) (fa1 ?_)
            refine ⟨_, rfl, fun e rest hk => ?_⟩
            refine C.st rfl (hk _ undef ?_) (hr := h6.rd _ _)
            refine Ch.fin ?_
            refine C.go ?_
            exact joinX hin (b23, b24, b25, b27, b6) h24
    · rintro ⟨b23, b24, b25, b27, b6⟩ h24 e
      dsimp only at h24 ⊢
      refine At.apart (b := b24) (x := dn) (by (repeat (first | with_reducible exact ReF.nil | with_reducible exact Fo.head | with_reducible apply Fo.tail | with_reducible apply ReF.cons))) (fun hwd => ?_)
      have hl4 : l.length ≤ 3 := by omega
      refine C.drawnW [(28, 0), (29, 1), (30, 2), (31, 3), (32, 4), (33, 5), (34, 6), (35, 7), (36, 8), (37, 9)] [0, 1, 2, 3, 4, 5] [6, 7, 8, 9, 10] 2 ?_ (W := [clP b 0 hs.v nilS.v nilS.v (.chan (some dn)) false ((kk : Int) * KQ), pts cb (.cells #[ptrV b] 23 (0, 0)), pts b6 (.cells #[ptrV b27] 114 (0, 0))])
      refine Dr.ld ⟨_, rfl, rfl⟩ (fun _ hE _ _ h => C.ld rfl h) ?_
      refine Dr.ld ⟨_, rfl, rfl⟩ (fun _ hE _ _ h => C.ld rfl h) ?_
      refine Dr.pu ⟨_, rfl, rfl⟩ (fun _ _ _ h => C.nc rfl h) ?_
      refine Dr.pu ⟨_, rfl, rfl⟩ (fun _ _ _ h => C.fa rfl h) ?_
      refine Dr.ld ⟨_, rfl, rfl⟩ (fun _ hE _ _ h => C.ld rfl h) ?_
      refine Dr.ld ⟨_, rfl, rfl⟩ (fun _ hE _ _ h => C.ld rfl h) ?_
      refine Dr.chain rfl ?_ (fun _ s => Reo.sat (by ((try simp only [List.cons_append, List.nil_append]); (repeat (first | with_reducible exact Reo.refl | with_reducible exact Reo.nil | with_reducible exact Fo.head | with_reducible apply Fo.tail | with_reducible apply Reo.cons | with_reducible apply Reo.drop)); done)) s)
      refine Ch.nx (l := [6]) (by decide +kernel) (fa1 ?_)
      refine ⟨_, rfl, fun e rest hk => ?_⟩
      refine C.bs1 rfl (fun b34 => hk _ _ .cons ?_)
      refine Ch.nx (l := [7]) (by decide +kernel) (fa1 ?_)
      refine ⟨_, rfl, fun e rest hk => ?_⟩
      refine RunR.ap (f := ptrC) (z := 1) (el := 114) (m := [b27]) (l := l.map (·.h.bh)) (s := hs) rfl (by (repeat (first | with_reducible exact Fo.head | with_reducible apply Fo.tail))) haw (fun j => rfl) (fun H s => .inr ⟨b34, 0, 1, #[ptrV b27], 114, rfl, Has.get (by repeat (first | with_reducible exact Has.head | with_reducible apply Has.tail)) s, Nat.le_refl 1, rfl, fun j => rfl⟩) (fun s' hl ha => hk _ _ (.of (fun _ s => Reo.sat (by ((try simp only [List.cons_append, List.nil_append]); (repeat (first | with_reducible exact Reo.refl | with_reducible exact Reo.nil | with_reducible exact Fo.head | with_reducible apply Fo.tail | with_reducible apply Reo.cons | with_reducible apply Reo.drop)); done)) s)) ?_) (by simp; omega) rfl (by decide) rfl rfl
      refine Ch.pu (i := 8) ⟨_, rfl, rfl⟩ (fun _ _ _ h => C.nc rfl h) ?_
      refine Ch.pu (i := 9) ⟨_, rfl, rfl⟩ (fun _ _ _ h => C.fa rfl h) ?_
      refine Ch.nx (l := [10]) (by decide +kernel) (fa1 ?_)
      refine ⟨_, rfl, fun e rest hk => ?_⟩
      refine C.st rfl (hk _ undef ?_)
      refine Ch.fin ?_
      refine C.go ?_
      refine C.rg [0, 1, 2, 3] ?_
      refine C.ld rfl ?_
      refine C.nc rfl ?_
      refine C.fa rfl ?_
      refine C.clR (add_spec (k := kk) (by omega)) ?_
      rintro v As' ⟨rfl, rfl⟩
      simp only [List.cons_append, List.nil_append]
      refine C.go ?_
      refine C.rg [0, 1] ?_
      refine C.mf rfl ?_
      refine At.apartS (s := s') (x := cb) (by (repeat (first | with_reducible exact ReF.nil | with_reducible exact Fo.head | with_reducible apply Fo.tail | with_reducible apply ReF.cons))) (fun a1 => ?_)
      refine At.apartS (s := s') (x := b6) (by (repeat (first | with_reducible exact ReF.nil | with_reducible exact Fo.head | with_reducible apply Fo.tail | with_reducible apply ReF.cons))) (fun a2 => ?_)
      refine At.apartS (s := s') (x := b) (by (repeat (first | with_reducible exact ReF.nil | with_reducible exact Fo.head | with_reducible apply Fo.tail | with_reducible apply ReF.cons))) (fun a3 => ?_)
      refine At.apartS (s := s') (x := b27) (by (repeat (first | with_reducible exact ReF.nil | with_reducible exact Fo.head | with_reducible apply Fo.tail | with_reducible apply ReF.cons))) (fun a4 => ?_)
      have hkn0 : σk.n ≠ 0 := by have := N.n; have := hσ.n; omega
      refine RunR.go (x := ⟨.fn (.func 49) #[ptrV cb, ptrV b6], #[]⟩) (seatW ⟨σk.n, b6, b27, b23, b24, b25⟩ ⟨b, cb, dn⟩) rfl rfl (ev0_go0 rfl) ⟨_, _, rfl⟩ (seatW_wf hwd) (fun H s => (seatW_ok (h := ⟨σk.n, b6, b27, b23, b24, b25⟩) (C := ⟨b, cb, dn⟩) (kw := 0) (kd := 0) (by decide) (Has.get (by repeat (first | with_reducible exact Has.head | with_reducible apply Has.tail)) s) (Has.get (by repeat (first | with_reducible exact Has.head | with_reducible apply Has.tail)) s) (Has.get (by repeat (first | with_reducible exact Has.head | with_reducible apply Has.tail)) s) rfl (Has.get (by repeat (first | with_reducible exact Has.head | with_reducible apply Has.tail)) s) rfl (Has.get (by repeat (first | with_reducible exact Has.head | with_reducible apply Has.tail)) s) (Has.get (by repeat (first | with_reducible exact Has.head | with_reducible apply Has.tail)) s)).1)
        (fun H s => (seatW_ok (h := ⟨σk.n, b6, b27, b23, b24, b25⟩) (C := ⟨b, cb, dn⟩) (i := 1) (kw := 0) (kd := 0) (by decide) (Has.get (by repeat (first | with_reducible exact Has.head | with_reducible apply Has.tail)) s) (Has.get (by repeat (first | with_reducible exact Has.head | with_reducible apply Has.tail)) s) (Has.get (by repeat (first | with_reducible exact Has.head | with_reducible apply Has.tail)) s) rfl (Has.get (by repeat (first | with_reducible exact Has.head | with_reducible apply Has.tail)) s) rfl (Has.get (by repeat (first | with_reducible exact Has.head | with_reducible apply Has.tail)) s) (Has.get (by repeat (first | with_reducible exact Has.head | with_reducible apply Has.tail)) s)).2) ⟨600, child_way (h := ⟨σk.n, b6, b27, b23, b24, b25⟩) (C := ⟨b, cb, dn⟩)⟩ hkn0 hkn0 ?_
      have C : Closed Tryz.prog true (barX.bw (σk.hired (seatW ⟨σk.n, b6, b27, b23, b24, b25⟩ ⟨b, cb, dn⟩))) (RunR Tryz.prog Post barX (σk.hired (seatW ⟨σk.n, b6, b27, b23, b24, b25⟩ ⟨b, cb, dn⟩)) 0 os out) := RunR.closed0
      refine C.go ?_
      refine C.rg [0, 1] ?_
      refine C.ar rfl ?_
      refine C.mv rfl ?_
      refine C.go ?_
      refine hostE.cls ⟨⟨σk.n, b6, b27, b23, b24, b25⟩, newSX kk n, 0, 0⟩ ?_
      refine all_add (f := hostE) (l := l) ⟨⟨σk.n, b6, b27, b23, b24, b25⟩, newSX kk n, 0, 0⟩ (by (repeat (first | with_reducible exact ReF.nil | with_reducible exact Fo.head | with_reducible apply Fo.tail | with_reducible apply ReF.cons))) ?_
      rw [show l.map (·.h.bh) ++ [b27] = (l ++ [(⟨⟨σk.n, b6, b27, b23, b24, b25⟩, newSX kk n, 0, 0⟩ : HV)]).map (·.h.bh) by simp]
      refine againG (c := .skip) ih (σk.hired (seatW ⟨σk.n, b6, b27, b23, b24, b25⟩ ⟨b, cb, dn⟩), s', l ++ [⟨⟨σk.n, b6, b27, b23, b24, b25⟩, newSX kk n, 0, 0⟩], kk + 1) rfl ⟨N.hire (v := ⟨⟨σk.n, b6, b27, b23, b24, b25⟩, newSX kk n, 0, 0⟩) rfl hσ.lt h24 hwd, by simp [hlk], by show ((kk + 1 : Nat) : Int) ≤ n; omega, ?_, ?_⟩ (by show (n - ((kk + 1 : Nat) : Int)).toNat < (n - (kk : Int)).toNat; omega)
      · show (l ++ [_]).map _ = _
        have hkk : kk < (upto n).length := by simp [upto]; omega
        rw [List.map_append, hm, List.take_add_one, List.getElem?_eq_getElem hkk]
        simp [upto]
      · intro b' hb' i s p hi hp z
        have hi : Go.ConcN.upd σk.seats σk.n (some (seatW ⟨σk.n, b6, b27, b23, b24, b25⟩ ⟨b, cb, dn⟩)) i = some s := hi
        by_cases e1 : i = σk.n
        · subst e1
          rw [Go.ConcN.upd_same] at hi
          obtain rfl := Option.some.inj hi
          simp only [seatW, List.mem_cons, List.not_mem_nil, or_false] at hp
          rcases hp with rfl | rfl | rfl | rfl
          · exact a1 b' hb' z.symm
          · exact a2 b' hb' z.symm
          · exact a3 b' hb' z.symm
          · exact a4 b' hb' z.symm
        · rw [Go.ConcN.upd_ne _ _ e1] at hi
          exact ha b' hb' i s p hi hp z
  · refine C.cmpF rfl ?_
    refine C.go ?_
    refine C.fls ?_
    refine C.rg [0, 1, 2] ?_
    refine C.ld rfl ?_
    refine C.asg rfl ?_
    refine C.asg rfl ?_
    refine C.go ?_
    subst hlk
    refine At.nilS msgC 7 190 (At.nilS txC 3 126 ?_)
    refine cvP.cls ⟨⟨b, cb, dn⟩, l, [], [], false⟩ ?_ (hs := hs) (bg := nilS) (tx := nilS)
    have hl : (l.length : Int) = n := by omega
    refine RunR.retR hkd hret ⟨⟨⟨b, cb, dn⟩, l, [], [], false⟩, N, rfl, rfl, ?_, rfl, rfl, rfl⟩
    rw [hm, List.take_of_length_le]
    simp [upto]; omega
end Go.Sl
end
section
set_option linter.unusedVariables false
namespace Go.Sl
open Go.Proofs Go.Conc
theorem At.lend {R : Nat → Goroutine → Array Obj → Prop} {d : Nat} {As L : List HP} {g : Goroutine} {α : Type} {f : α → List Value} {z : Nat} {el : TypeId} {s : SliceV} {l : List α} (hf : Fo (slP f z el s l) As L) (h : ∀ J, imSl J f el s l → (∀ h, imm J h → slP f z el s l h) → At R d (imm J :: L) g) : At R d As g :=
  At.fo hf fun H st => by
    obtain ⟨hh, x, hsub, hr⟩ := st
    refine h hh ?_ (fun h e => by have e : h = hh := e; rw [e]; exact x) H ⟨hh, rfl, hsub, hr⟩
    rcases x with ⟨e1, e2⟩ | ⟨b, pad, e, _, _, hp⟩
    · exact .inl ⟨e1, e2⟩
    · have hb : s.b = b := by rw [e]; rfl
      have hp : hh = one b _ := hp
      exact .inr ⟨pad, by rw [hb]; exact e, by rw [hb, hp]; simp [one]⟩
theorem pnew_spec {σ : Gh} {n : Int} (hn : 1 ≤ n ∧ n ≤ 4) (hσ : GhOk σ) : SpecG Tryz.prog barX 14 #[.int .i64 n] σ [] (fun v σ' As => ∃ c : CV, NewGh σ σ' c.G c.hosts ∧ v = .tuple #[ptrV c.G.b, .int .i64 0] ∧ As = [cvP c] ∧ c.hosts.map (·.s) = ((upto n).map fun k => newSX k n) ∧ c.bag = [] ∧ c.txs = [] ∧ c.stopped = false) := by
  refine SpecG.of ?_
  intro Post os out kd F c' cs C hkd hret
  simp only [List.cons_append, List.nil_append]
  refine C.go ?_
  refine C.rg [0, 1] ?_
  refine C.asg rfl ?_
  refine C.asg rfl ?_
  refine C.go ?_
  refine C.rg [0, 1, 2, 3, 4, 5, 6] ?_
  refine C.mv rfl ?_
  refine RunR.clN (A := []) (new_spec hn hσ) ?_
  rintro v σ' As' ⟨c, N, rfl, rfl, h1, h2, h3, h4⟩
  have C : Closed Tryz.prog true (barX.bw σ') (RunR Tryz.prog Post barX σ' 0 os out) := RunR.closed0
  simp only [List.cons_append, List.nil_append]
  refine C.mv rfl ?_
  refine C.ext rfl ?_
  refine C.ext rfl ?_
  refine C.asg rfl ?_
  refine C.asg rfl ?_
  refine C.go ?_
  refine C.rg [0, 1, 2] ?_
  refine C.mv rfl ?_
  refine C.eqZZ Tryz.underlying46 rfl ?_
  refine C.asg rfl ?_
  refine C.go ?_
  refine C.tru ?_
  refine C.rg [0, 1, 2] ?_
  refine C.mv rfl ?_
  refine C.asg rfl ?_
  refine C.asg rfl ?_
  refine C.go ?_
  exact RunR.retQ hkd hret ⟨c, N, rfl, rfl, h1, h2, h3, h4⟩
theorem number0_spec {main : Bool} {nm : Value} {at_ : Int} : Spec Tryz.prog main badT 30 #[.nilIface, nm, .int .i64 at_] [] (fun v As => v = .int .i64 0 ∧ As = []) := by
  refine Spec.of ?_
  intro R C kd d F c cs hkd hret
  simp only [List.nil_append]
  refine C.go ?_
  refine C.rg [0] ?_
  refine C.asg rfl ?_
  refine C.go ?_
  refine C.rg [0, 1] ?_
  refine C.mv rfl ?_
  refine C.eqZZ Tryz.underlying46 rfl ?_
  refine C.go ?_
  refine C.tru ?_
  refine C.rg [0] ?_
  refine C.asg rfl ?_
  refine C.go ?_
  exact C.retR hkd hret ⟨rfl, rfl⟩
end Go.Sl
end
section
set_option linter.unusedVariables false
namespace Go.Sl
open Go.Proofs Go.Conc
def numO : Option Nat → Int
  | none => 0
  | some k => k + 1
theorem psubmit_spec {σ : Gh} {c : CV} {so : SliceV} {ops : List OpR} {I : HL} {eb : Nat → Nat × Nat} (hE : ErrI I eb) (hn : 1 ≤ c.hosts.length ∧ c.hosts.length ≤ 4) (hbag : c.bag.length < 2 ^ 20) (htx : c.txs.length ≤ 60) (hlo : ops.length < 2 ^ 43) :
    SpecG Tryz.prog barX 18 #[ptrV c.G.b, so.v] σ [cvP c, imm I, slP opPC 3 67 so ops] (fun v σ' As => ∃ er t bag' txs' I', σ' = σ ∧ v = .tuple #[.int .i64 t, .int .i64 (numO er)] ∧ As = [cvP { c with bag := bag', txs := txs' }, imm I'] ∧
      ((c.stopped = true ∧ er = some 8 ∧ t = 0 ∧ bag' = c.bag ∧ txs' = c.txs ∧ I' = I) ∨ (c.stopped = false ∧ subQ eb I c.hosts.length ops c.bag c.txs er t I' bag' txs'))) := by
  refine SpecG.of ?_
  intro Post os out kd F c' cs C hkd hret
  simp only [List.cons_append, List.nil_append]
  refine C.go ?_
  refine C.rg [0, 1] ?_
  refine C.asg rfl ?_
  refine C.asg rfl ?_
  refine C.go ?_
  refine C.rg [0, 1, 2] ?_
  refine C.mv rfl ?_
  refine At.nilS opPC 3 67 ?_
  refine C.apR (f := opPC) (s := nilS) (l := []) ops rfl (fun s1 => ?_) (hsrc := fun H st => RowS.src (f := opPC) (el := 67) (s := so) (.own (by (repeat (first | with_reducible exact Fo.head | with_reducible apply Fo.tail)))) st (fun _ => rfl)) (hsz := by simp only [List.length_nil]; omega)
  rw [List.nil_append]
  refine At.reo (show Reo _ (slP opPC 3 67 s1 ops :: cvP c :: imm I :: F) by ((try simp only [List.cons_append, List.nil_append]); (repeat (first | with_reducible exact Reo.refl | with_reducible exact Reo.nil | with_reducible exact Fo.head | with_reducible apply Fo.tail | with_reducible apply Reo.cons | with_reducible apply Reo.drop)); done)) ?_
  refine C.asg rfl ?_
  refine C.go ?_
  refine C.rg [0, 1, 2, 3, 4, 5, 6, 7] ?_
  refine C.mv rfl ?_
  refine C.mv rfl ?_
  refine At.lend (s := s1) (f := opPC) (z := 3) (el := 67) (l := ops) (by (repeat (first | with_reducible exact Fo.head | with_reducible apply Fo.tail))) (fun J hJ hback => ?_)
  refine RunR.clN (csubmit_spec hE hn hbag htx hJ hlo) ?_
  rintro v σ' As' ⟨er, t, bag', txs', I', L, u, rfl, rfl, hcv, rfl, hor⟩
  simp only [List.cons_append, List.nil_append]
  refine At.turn (A := imm J) (A' := slP opPC 3 67 s1 ops) (by (repeat (first | with_reducible exact Fo.head | with_reducible apply Fo.tail))) hback ?_
  refine C.mv rfl ?_
  refine C.ext rfl ?_
  refine C.ext rfl ?_
  refine C.asg rfl ?_
  refine C.asg rfl ?_
  refine C.go ?_
  refine C.rg [0, 1, 2] ?_
  refine C.mv rfl ?_
  refine C.lnR (f := opPC) (s := s1) (l := ops) rfl ?_
  refine C.mv rfl ?_
  refine C.go ?_
  have hE' : ErrI I' eb := by
    rcases hor with ⟨_, _, _, _, _, rfl⟩ | ⟨_, hs, _⟩
    · exact hE
    · exact hE.mono hs
  refine C.loopR (X := Nat × List OpR) (fun x => [(6, s1.v), (7, .int .i64 t), (8, u), (18, s1.v), (19, .int .i64 ops.length), (20, .int .i64 x.1)]) (fun x => slP opPC 3 67 s1 x.2 :: cvP { c with bag := bag', txs := txs' } :: imm I' :: (L ++ F)) (fun x => x.1 ≤ ops.length ∧ x.2.length = ops.length) (fun x => ops.length - x.1) (0, ops) ⟨rfl, rfl, rfl, rfl, rfl, rfl, trivial⟩ ⟨Nat.zero_le _, rfl⟩ ?_
  rintro ⟨i, l⟩ e ⟨hi, hl⟩ ih
  dsimp only at hi hl ⊢
  refine C.go ?_
  refine C.rg [0] ?_
  by_cases hlt : (i : Int) < ops.length
  · refine C.cmpT rfl ?_
    refine C.go ?_
    refine C.tru ?_
    refine C.rg [0, 1] ?_
    refine C.mv rfl ?_
    refine C.asg rfl ?_
    refine C.go ?_
    refine C.rg [0, 1, 2, 3, 4] ?_
    refine C.mv rfl ?_
    refine C.mv rfl ?_
    refine C.bd rfl ?_
    refine C.iaR (f := opPC) (s := s1) (l := l) (j := i) rfl ?_ (hj := by omega)
    refine C.stRS (f := opPC) (s := s1) (l := l) (j := i) ⟨true, 122, -1⟩ rfl ?_
    refine C.go ?_
    refine C.rg [0, 1] ?_
    refine C.ar rfl ?_
    refine C.mv rfl ?_
    refine C.go ?_
    exact again ih (i + 1, l.set i ⟨true, 122, -1⟩) ⟨by dsimp only; omega, by dsimp only; rw [List.length_set]; exact hl⟩ (by dsimp only; omega)
  · refine C.cmpF rfl ?_
    refine C.go ?_
    refine C.fls ?_
    refine C.rg [0, 1, 2, 3, 4] ?_
    refine C.mv rfl ?_
    refine C.mv rfl ?_
    cases er with
    | none =>
      obtain ⟨rfl, rfl⟩ := hcv
      simp only [List.nil_append]
      refine C.clR (Spec.less (barLe _) number0_spec) (A := []) ?_
      rintro v As' ⟨rfl, rfl⟩
      simp only [List.nil_append]
      refine C.asg rfl ?_
      refine C.asg rfl ?_
      refine C.go ?_
      exact RunR.retQ hkd hret ⟨none, t, bag', txs', I', rfl, rfl, rfl, hor⟩
    | some k =>
      obtain ⟨bE, rfl, rfl⟩ := hcv
      have hk : k < 9 := by
        rcases hor with ⟨_, h, _⟩ | ⟨_, _, h | h | h⟩
        · cases h; decide
        · have := h.2.1; cases this; decide
        · have := h.2.2.1; cases this; decide
        · have := h.2.2.1; cases this
      simp only [List.cons_append, List.nil_append]
      refine C.clR (number_spec hE' (bE := bE) (k := k) (nm := subN) (at_ := 0) hk) ?_
      rintro v As' ⟨rfl, rfl⟩
      simp only [List.cons_append, List.nil_append]
      refine C.asg rfl ?_
      refine C.asg rfl ?_
      refine C.go ?_
      exact RunR.retQ hkd hret ⟨some k, t, bag', txs', I', rfl, rfl, rfl, hor⟩
end Go.Sl
end
section
set_option linter.unusedVariables false
namespace Go.Sl
open Go.Proofs
variable {main : Bool}
theorem at_spec {key n : Int} (h1 : -1000 < key) (h2 : key < 1000) (hn : 0 < n) : Spec Tryz.prog main badT 61 #[.int .i64 key, .int .i64 n] [] (fun v As => v = .int .i64 (atR key n) ∧ As = []) := by
  refine Spec.of ?_
  intro R C kd d F c cs hkd hret
  simp only [List.nil_append]
  refine C.go ?_
  refine C.rg [0] ?_
  refine C.asg rfl ?_
  refine C.go ?_
  refine C.rg [0, 1, 2, 3, 4] ?_
  refine C.mv rfl ?_
  refine C.ar rfl ?_
  refine C.mv rfl ?_
  refine C.rem rfl ?_
  refine C.asg rfl ?_
  refine C.go ?_
  exact C.retR hkd hret ⟨rfl, rfl⟩
theorem holds_spec {s : SliceV} {l : List Int} {x : Int} (hl : l.length < 2 ^ 60) :
    Spec Tryz.prog main badT 196 #[s.v, .int .i64 x] [slP i64L 1 3 s l] (fun v As => v = .bool (l.contains x) ∧ As = [slP i64L 1 3 s l]) := by
  refine Spec.of ?_
  intro R C kd d F c cs hkd hret
  simp only [List.cons_append, List.nil_append]
  refine C.go ?_
  refine C.rg [0] ?_
  refine C.asg rfl ?_
  refine C.go ?_
  refine C.rg [0] ?_
  refine C.asg rfl ?_
  refine C.go ?_
  refine C.loopR (X := Nat) (fun i => [(0, s.v), (1, .int .i64 x), (5, .int .i64 i)]) (fun _ => slP i64L 1 3 s l :: F) (fun i => i ≤ l.length ∧ ∀ j, j < i → l[j]? ≠ some x) (fun i => l.length - i) 0 ⟨rfl, rfl, rfl, trivial⟩ ⟨by omega, by intro j hj; omega⟩ ?_
  intro i e ⟨hi, hnot⟩ ih
  refine C.go ?_
  refine C.rg [0, 1, 2, 3] ?_
  refine C.mv rfl ?_
  refine C.mv rfl ?_
  refine C.lnR rfl ?_
  refine C.cmp rfl (fun h9 => ?_) (fun h9 => ?_)
  · skip
    refine C.go ?_
    refine C.tru ?_
    refine C.rg [0, 1, 2, 3, 4, 5] ?_
    refine C.mv rfl ?_
    refine C.mv rfl ?_
    refine C.iaR rfl ?_
    refine C.ldR0 rfl ?_
    refine C.mv rfl ?_
    refine C.cmp rfl (fun h17 => ?_) (fun h17 => ?_)
    · skip
      refine C.go ?_
      refine C.tru ?_
      refine C.rg [0] ?_
      refine C.asg rfl ?_
      refine C.go ?_
      refine C.retR hkd hret ⟨?_, rfl⟩
      have : x ∈ l := by rw [← h17]; exact List.getElem_mem _
      simp [this]
    · skip
      refine C.go ?_
      refine C.fls ?_
      refine C.rg [0, 1, 2] ?_
      refine C.mv rfl ?_
      refine C.ar rfl ?_
      refine C.asg rfl ?_
      refine C.go ?_
      refine again ih (i + 1) ⟨by omega, fun j hj => ?_⟩ (by omega)
      rcases Nat.lt_succ_iff_lt_or_eq.1 hj with h | rfl
      · exact hnot j h
      · intro z; rw [List.getElem?_eq_getElem (by omega)] at z; exact h17 (Option.some.inj z)
  · skip
    refine C.go ?_
    refine C.fls ?_
    refine C.rg [0] ?_
    refine C.asg rfl ?_
    refine C.go ?_
    refine C.retR hkd hret ⟨?_, rfl⟩
    have : ¬ x ∈ l := fun hm => by
      obtain ⟨j, hj, e⟩ := List.getElem_of_mem hm
      exact hnot j (by omega) (by rw [List.getElem?_eq_getElem hj, e])
    simp [this]
def plI : Option Nat → Int | some i => i | none => -1
theorem find_spec {b : Nat} {s : ShV} {kind tx : Int} (hl : s.log.length < 2 ^ 60) :
    Spec Tryz.prog main badT 191 #[.pointer (some ⟨b, 0, none⟩), .int .i64 kind, .int .i64 tx] [shP b s] (fun v As => v = .int .i64 (plI (findR s.abs.log kind tx)) ∧ As = [shP b s]) := by
  refine Spec.of ?_
  intro R C kd d F c cs hkd hret
  simp only [List.cons_append, List.nil_append]
  refine shP.opn (h := fun lg vl lk un tm wt ot => ?_)
  have hget : ∀ i (hi : i < s.log.length), s.abs.log[i]? = some (s.log[i]).toRecR := fun i hi => by simp [ShV.abs, hi]
  have hal : s.abs.log.length = s.log.length := by simp [ShV.abs]
  refine C.go ?_
  refine C.rg [0] ?_
  refine C.asg rfl ?_
  refine C.go ?_
  refine C.rg [0, 1, 2, 3, 4, 5, 6] ?_
  refine C.mv rfl ?_
  refine C.nc rfl ?_
  refine C.fa rfl ?_
  refine C.ld rfl ?_
  refine C.lnR rfl ?_
  refine C.ar rfl ?_
  refine C.asg rfl ?_
  refine C.go ?_
  refine C.loopR (X := Int) (fun x => [(0, .pointer (some ⟨b, 0, none⟩)), (1, .int .i64 kind), (2, .int .i64 tx), (7, .int .i64 x)]) (fun _ => shO b s lg vl lk un tm wt ot F) (fun x => -1 ≤ x ∧ x < s.log.length ∧ findR s.abs.log kind tx = findD s.abs.log kind tx (x + 1).toNat) (fun x => (x + 1).toNat) _ ⟨rfl, rfl, rfl, rfl, trivial⟩ ⟨by omega, by omega, by unfold findR; rw [hal]; congr 1; omega⟩ ?_
  intro x e ⟨hx1, hx2, hf⟩ ih
  refine C.go ?_
  refine C.rg [0, 1] ?_
  refine C.mv rfl ?_
  refine C.cmp rfl (fun h15 => ?_) (fun h15 => ?_)
  · skip
    refine C.go ?_
    refine C.tru ?_
    obtain ⟨j, rfl⟩ := Int.eq_ofNat_of_zero_le h15
    have e1 : ((j : Int) + 1).toNat = j + 1 := by omega
    rw [e1, findD, hget j (by omega)] at hf
    refine C.rg [0, 1, 2, 3, 4, 5, 6, 7, 8, 9, 10, 11, 12, 13, 14, 15, 16, 17, 18, 19, 20, 21] ?_
    refine C.mv rfl ?_
    refine C.nc rfl ?_
    refine C.fa rfl ?_
    refine C.ld rfl ?_
    refine C.mv rfl ?_
    refine C.iaR rfl ?_
    refine C.fa rfl ?_
    refine C.ldR rfl ?_
    refine C.mv rfl ?_
    refine C.cmp rfl (fun h27 => ?_) (fun h27 => ?_)
    · skip
      refine C.mv rfl ?_
      refine C.mv rfl ?_
      refine C.nc rfl ?_
      refine C.fa rfl ?_
      refine C.ld rfl ?_
      refine C.mv rfl ?_
      refine C.iaR rfl ?_
      refine C.fa rfl ?_
      refine C.ldR rfl ?_
      refine C.mv rfl ?_
      refine C.cmp rfl (fun h38 => ?_) (fun h38 => ?_)
      · skip
        refine C.pk rfl ?_
        refine C.go ?_
        refine C.tru ?_
        refine C.rg [0, 1] ?_
        refine C.mv rfl ?_
        refine C.asg rfl ?_
        refine C.go ?_
        rw [if_pos (by simp [isRec, h27, h38])] at hf
        refine shP.cls s ?_
        refine C.retR hkd hret ⟨?_, rfl⟩
        rw [hf]; rfl
      · skip
        refine C.pk rfl ?_
        refine C.go ?_
        refine C.fls ?_
        refine C.rg [0, 1, 2] ?_
        refine C.mv rfl ?_
        refine C.ar rfl ?_
        refine C.asg rfl ?_
        refine C.go ?_
        rw [if_neg (by simp [isRec, h38])] at hf
        refine again ih ((j : Int) - 1) ⟨by omega, by omega, by rw [hf]; congr 1; omega⟩ (by omega)
    · skip
      refine C.mv rfl ?_
      refine C.no rfl ?_
      refine C.no rfl ?_
      refine C.no rfl ?_
      refine C.no rfl ?_
      refine C.no rfl ?_
      refine C.no rfl ?_
      refine C.no rfl ?_
      refine C.no rfl ?_
      refine C.no rfl ?_
      refine C.no rfl ?_
      refine C.pk rfl ?_
      refine C.go ?_
      refine C.fls ?_
      refine C.rg [0, 1, 2] ?_
      refine C.mv rfl ?_
      refine C.ar rfl ?_
      refine C.asg rfl ?_
      refine C.go ?_
      rw [if_neg (by simp [isRec, h27])] at hf
      refine again ih ((j : Int) - 1) ⟨by omega, by omega, by rw [hf]; congr 1; omega⟩ (by omega)
  · skip
    refine C.go ?_
    refine C.fls ?_
    refine C.rg [0] ?_
    refine C.asg rfl ?_
    refine C.go ?_
    refine shP.cls s ?_
    refine C.retR hkd hret ⟨?_, rfl⟩
    have : (x + 1).toNat = 0 := by omega
    rw [hf, this]; rfl
end Go.Sl
end
section
set_option linter.unusedVariables false
namespace Go.Sl
open Go.Proofs
variable {main : Bool}
structure WB0 (w : WR) : Prop where
  n : 1 ≤ w.sh.length ∧ w.sh.length ≤ 4
  bag : w.bag.length < 2 ^ 20
  txs : w.txs.length ≤ 60
theorem WV.abs_sh (w : WV) : w.abs.sh.length = w.sh.length := by simp [WV.abs]
theorem WV.abs_bag (w : WV) : w.abs.bag.length = w.bag.length := by simp [WV.abs]
theorem WV.abs_txs (w : WV) : w.abs.txs.length = w.txs.length := by simp [WV.abs]
theorem homeR_eq (ops : List OpR) (n : Int) (h : 0 < ops.length) : atR ops[0].k n = homeR ops n := by
  cases ops with
  | nil => cases h
  | cons o l => rfl
def begM (w : WV) (t : TxV) (tx : Int) : MsgV := ⟨{ msg0 with kind := 1, frm := -1, to := homeR t.ops w.sh.length, tx := tx, ops := t.ops }, t.so, nilS⟩
theorem wbegin_spec {I : HL} {b tx : Nat} {w : WV} (hI : WI I w) (hn : 1 ≤ w.sh.length ∧ w.sh.length ≤ 4) (hbag : w.bag.length < 2 ^ 30) (htx : tx < w.txs.length) (hops : OpsB w.txs[tx].ops ∧ 1 ≤ w.txs[tx].ops.length) :
    Spec Tryz.prog main badT 32 #[.pointer (some ⟨b, 0, none⟩), .int .i64 tx] [wP b w, imm I] (fun v As => As = [wP b { w with bag := w.bag ++ [begM w w.txs[tx] tx] }, imm I]) := by
  refine Spec.of ?_
  intro R C kd d F c cs hkd hret
  simp only [List.cons_append, List.nil_append]
  refine wP.opn (h := fun sh bg txS => ?_)
  have hto := (hI.txs _ (List.getElem_mem htx)).o
  have hol : 0 < w.txs[tx].ops.length := hops.2
  have hkey := hops.1.1 _ (List.getElem_mem hol)
  have hhome : atR w.txs[tx].ops[0].k ((w.sh.map (·.1)).length : Int) = homeR w.txs[tx].ops w.sh.length := by rw [List.length_map]; exact homeR_eq _ _ hol
  refine C.go ?_
  refine C.rg [0, 1, 2, 3, 4, 5, 6, 7, 8] ?_
  refine C.mv rfl ?_
  refine C.nc rfl ?_
  refine C.fa rfl ?_
  refine C.ld rfl ?_
  refine C.mv rfl ?_
  refine C.iaR rfl ?_
  refine C.fa rfl ?_
  refine C.ldR rfl ?_
  refine C.asg rfl ?_
  refine C.go ?_
  refine C.drawnW [(13, 0), (14, 1), (15, 2), (16, 3), (17, 4), (18, 5), (19, 6), (20, 7), (21, 8), (22, 9), (23, 10), (24, 11), (25, 12), (26, 13), (27, 14), (28, 15), (29, 16), (30, 17), (31, 18), (32, 19), (33, 20), (34, 21)] [0, 1, 2, 3, 4, 5, 6, 7, 8, 9, 10, 11, 12, 13, 15, 16, 20, 21] [14, 17, 18, 19, 22] 3 ?_ (W := [pts b (.cells #[sh.v, bg.v, txS.v, .bool w.stopped] 53 (0, 0)), slP ptrC 1 54 sh (w.sh.map (·.1)), imm I])
  refine Dr.pu ⟨_, rfl, rfl⟩ (fun _ _ _ h => C.mv rfl h) ?_
  refine Dr.pu ⟨_, rfl, rfl⟩ (fun _ _ _ h => C.mv rfl h) ?_
  refine Dr.pu ⟨_, rfl, rfl⟩ (fun _ _ _ h => C.nc rfl h) ?_
  refine Dr.pu ⟨_, rfl, rfl⟩ (fun _ _ _ h => C.fa rfl h) ?_
  refine Dr.ld ⟨_, rfl, rfl⟩ (fun _ hE _ _ h => C.ld rfl h) ?_
  refine Dr.pu ⟨_, rfl, rfl⟩ (fun _ _ _ h => C.mv rfl h) ?_
  refine Dr.ld ⟨_, rfl, rfl⟩ (fun _ hE _ _ h => C.iaR rfl h) ?_
  refine Dr.pu ⟨_, rfl, rfl⟩ (fun _ _ _ h => C.fa rfl h) ?_
  refine Dr.ld ⟨_, rfl, rfl⟩ (fun _ hE _ _ h => C.ldR rfl h) ?_
  refine Dr.pu ⟨_, rfl, rfl⟩ (fun _ _ _ h => C.mv rfl h) ?_
  refine Dr.pu ⟨_, rfl, rfl⟩ (fun _ _ _ h => C.nc rfl h) ?_
  refine Dr.pu ⟨_, rfl, rfl⟩ (fun _ _ _ h => C.fa rfl h) ?_
  refine Dr.ld ⟨_, rfl, rfl⟩ (fun _ hE _ _ h => C.ld rfl h) ?_
  refine Dr.ld ⟨_, rfl, rfl⟩ (fun _ hE _ _ h => C.lnR rfl h) ?_
  refine Dr.pu ⟨_, rfl, rfl⟩ (fun _ _ _ h => C.mv rfl h) ?_
  refine Dr.pu ⟨_, rfl, rfl⟩ (fun _ _ _ h => C.mv rfl h) ?_
  refine Dr.pu ⟨_, rfl, rfl⟩ (fun _ _ _ h => C.nc rfl h) ?_
  refine Dr.pu ⟨_, rfl, rfl⟩ (fun _ _ _ h => C.fa rfl h) ?_
  refine Dr.chain rfl ?_ (fun _ s => Reo.sat (by ((try simp only [List.cons_append, List.nil_append]); (repeat (first | with_reducible exact Reo.refl | with_reducible exact Reo.nil | with_reducible exact Fo.head | with_reducible apply Fo.tail | with_reducible apply Reo.cons | with_reducible apply Reo.drop)); done)) s)
  refine Ch.n1 (t := 14) rfl ⟨_, rfl, fun e rest hk => ?_⟩
  refine C.clR (at_spec (key := w.txs[tx].ops[0].k) (n := ((w.sh.map (·.1)).length : Int)) (by omega) (by omega) (by rw [List.length_map]; omega)) ?_
  rintro v As' ⟨rfl, rfl⟩
  simp only [List.nil_append]
  rw [hhome]
  refine hk _ _ (.of (fun _ s => Reo.sat (by ((try simp only [List.cons_append, List.nil_append]); (repeat (first | with_reducible exact Reo.refl | with_reducible exact Reo.nil | with_reducible exact Fo.head | with_reducible apply Fo.tail | with_reducible apply Reo.cons | with_reducible apply Reo.drop)); done)) s)) ?_
  refine Ch.pu (i := 17) ⟨_, rfl, rfl⟩ (fun _ _ _ h => C.bd rfl h) ?_
  refine Ch.n1 (t := 18) rfl ⟨_, rfl, fun e rest hk => ?_⟩
  refine C.bs1 rfl (fun b31 => hk _ _ .cons ?_)
  refine Ch.n1 (t := 19) rfl ⟨_, rfl, fun e rest hk => ?_⟩
  refine C.ap1 (begM w w.txs[tx] tx) rfl (fun s2 => ?_)
  refine hk _ _ (.of (fun _ s => Reo.sat (by ((try simp only [List.cons_append, List.nil_append]); (repeat (first | with_reducible exact Reo.refl | with_reducible exact Reo.nil | with_reducible exact Fo.head | with_reducible apply Fo.tail | with_reducible apply Reo.cons | with_reducible apply Reo.drop)); done)) s)) ?_
  refine Ch.n1 (t := 22) rfl ⟨_, rfl, fun e rest hk => ?_⟩
  refine C.st rfl (hk _ undef ?_)
  refine Ch.fin ?_
  refine C.go ?_
  refine wP.cls { w with bag := w.bag ++ [begM w w.txs[tx] tx] } ?_
  exact C.finR hkd hret rfl
def WQ (b : Nat) (I : HL) (r : WR) (y : Value) (v : Value) (As : List HP) : Prop := ∃ I' w', Sub I I' ∧ WI I' w' ∧ w'.abs = r ∧ v = y ∧ As = [wP b w', imm I']
theorem wsubmit_spec {I : HL} {b : Nat} {w : WV} {so : SliceV} {ops : List OpR} (hI : WI I w) (hb : WB0 w.abs) (ho : imSl I opRC 63 so ops) (hl : ops.length < 2 ^ 44) :
    Spec Tryz.prog main badT 20 #[.pointer (some ⟨b, 0, none⟩), so.v] [wP b w, imm I] (WQ b I (submitW w.abs ops).1 (.tuple #[.int .i64 (submitW w.abs ops).2.1, .int .i64 (submitW w.abs ops).2.2])) := by
  refine Spec.of ?_
  intro R C kd d F c cs hkd hret
  simp only [List.cons_append, List.nil_append]
  refine wP.opn (h := fun sh bg txS => ?_)
  have htx := hb.txs
  rw [WV.abs_txs] at htx
  have hbg := hb.bag
  rw [WV.abs_bag] at hbg
  refine C.go ?_
  refine C.rg [0, 1] ?_
  refine C.asg rfl ?_
  refine C.asg rfl ?_
  refine C.go ?_
  refine C.rg [0, 1, 2, 3] ?_
  refine C.mv rfl ?_
  refine C.nc rfl ?_
  refine C.fa rfl ?_
  refine C.ld rfl ?_
  refine C.go ?_
  refine C.cnd (fun hb11 => ?_) (fun hb11 => ?_)
  · skip
    refine C.go ?_
    refine C.rg [0, 1] ?_
    refine C.asg rfl ?_
    refine C.asg rfl ?_
    refine C.go ?_
    refine wP.cls w ?_
    have e1 : submitW w.abs ops = (w.abs, 0, 9) := by unfold submitW; rw [if_pos (show w.abs.stopped = true from hb11)]
    rw [e1] at hret
    exact C.retR hkd hret ⟨I, w, Sub.refl _, hI, rfl, rfl, rfl⟩
  · skip
    refine C.go ?_
    have hst : ¬ w.abs.stopped = true := by show ¬ w.stopped = true; simp [hb11]
    refine C.rg [0, 1, 2] ?_
    refine C.mv rfl ?_
    refine C.clR (right_spec ho (by omega)) ?_
    rintro v As' ⟨rfl, rfl⟩
    simp only [List.cons_append, List.nil_append]
    generalize hz : decide (rightP ops) = z
    rcases Bool.eq_false_or_eq_true z with rfl | rfl
    · skip
      refine C.asg rfl ?_
      refine C.go ?_
      refine C.rg [0, 1] ?_
      refine C.mv rfl ?_
      refine C.nt rfl ?_
      refine C.go ?_
      refine C.fls ?_
      have hr : rightP ops := by simpa using hz
      refine C.rg [0, 1, 2, 3, 4, 5, 6, 7, 8, 9, 10, 11, 12, 13] ?_
      refine C.mv rfl ?_
      refine C.nc rfl ?_
      refine C.fa rfl ?_
      refine C.ld rfl ?_
      refine C.lnR rfl ?_
      refine C.cmp rfl (fun h21 => ?_) (fun h21 => ?_)
      · skip
        refine C.mv rfl ?_
        refine C.no rfl ?_
        refine C.no rfl ?_
        refine C.no rfl ?_
        refine C.no rfl ?_
        refine C.no rfl ?_
        refine C.no rfl ?_
        refine C.pk rfl ?_
        refine C.go ?_
        refine C.tru ?_
        refine C.rg [0, 1] ?_
        refine C.asg rfl ?_
        refine C.asg rfl ?_
        refine C.go ?_
        refine wP.cls w ?_
        have e1 : submitW w.abs ops = (w.abs, 0, 3) := by
          unfold submitW
          rw [if_neg hst, if_neg (by simpa using hr), if_pos (.inl (by rw [WV.abs_txs]; omega))]
        rw [e1] at hret
        exact C.retR hkd hret ⟨I, w, Sub.refl _, hI, rfl, rfl, rfl⟩
      · skip
        refine C.mv rfl ?_
        refine C.mv rfl ?_
        refine C.nc rfl ?_
        refine C.fa rfl ?_
        refine C.ld rfl ?_
        refine C.lnR rfl ?_
        refine C.cmp rfl (fun h28 => ?_) (fun h28 => ?_)
        · skip
          refine C.pk rfl ?_
          refine C.go ?_
          refine C.tru ?_
          refine C.rg [0, 1] ?_
          refine C.asg rfl ?_
          refine C.asg rfl ?_
          refine C.go ?_
          refine wP.cls w ?_
          have e1 : submitW w.abs ops = (w.abs, 0, 3) := by
            unfold submitW
            rw [if_neg hst, if_neg (by simpa using hr), if_pos (.inr (by rw [WV.abs_bag]; omega))]
          rw [e1] at hret
          exact C.retR hkd hret ⟨I, w, Sub.refl _, hI, rfl, rfl, rfl⟩
        · skip
          refine C.pk rfl ?_
          refine C.go ?_
          refine C.fls ?_
          refine C.rg [0] ?_
          refine C.asg rfl ?_
          refine C.go ?_
          refine At.nilS opRC 3 63 ?_
          refine C.rg [0, 1, 2, 3] ?_
          refine C.mv rfl ?_
          refine C.mv rfl ?_
          refine C.apR (f := opRC) (s := nilS) (l := []) ops rfl (fun s7 => ?_) (hsrc := fun H st => RowS.src (f := opRC) (el := 63) (.imm (by (repeat (first | with_reducible exact Fo.head | with_reducible apply Fo.tail))) ho) st (fun _ => rfl)) (hsz := by have := hr.2.2.2; simp only [List.length_nil]; omega)
          refine C.asg rfl ?_
          refine C.go ?_
          refine At.frz (s := s7) (f := opRC) (by (repeat (first | with_reducible exact Fo.head | with_reducible apply Fo.tail))) (by (repeat (first | with_reducible exact Fo.head | with_reducible apply Fo.tail))) fun I1 hI1 hs7 => ?_
          rw [List.nil_append] at hs7
          refine C.rg [0, 1, 2, 3, 4, 5, 6, 7, 8, 9, 10, 11] ?_
          refine C.mv rfl ?_
          refine C.mv rfl ?_
          refine C.nc rfl ?_
          refine C.fa rfl ?_
          refine C.ld rfl ?_
          refine C.mv rfl ?_
          refine C.bd rfl ?_
          refine C.bs1 rfl (fun b40 => ?_)
          refine C.ap1 (TxV.mk ⟨ops, 1, []⟩ s7 nilS) rfl (fun s8 => ?_)
          refine C.nc rfl ?_
          refine C.fa rfl ?_
          refine C.st rfl ?_
          refine C.go ?_
          have hW1 : WI I1 { w with txs := w.txs ++ [TxV.mk ⟨ops, 1, []⟩ s7 nilS] } := ⟨(hI.mono hI1).sh, (hI.mono hI1).bag, fun t ht => by
            rcases List.mem_append.1 ht with ht | ht
            · exact (hI.mono hI1).txs t ht
            · obtain rfl := List.mem_singleton.1 ht; exact ⟨hs7, .nil ..⟩⟩
          refine C.rg [0, 1, 2, 3, 4, 5, 6, 7] ?_
          refine C.mv rfl ?_
          refine C.mv rfl ?_
          refine C.nc rfl ?_
          refine C.fa rfl ?_
          refine C.ld rfl ?_
          refine C.lnR rfl ?_
          refine C.ar rfl ?_ (r := (w.txs.length : Int)) (ha := congrArg some (show (((w.txs ++ [TxV.mk ⟨ops, 1, []⟩ s7 nilS]).length : Nat) : Int) - 1 = w.txs.length by rw [List.length_append, List.length_singleton]; omega))
          have hopsB : OpsB ops := ⟨fun o ho => ⟨(hr.1 o ho).1, (hr.1 o ho).2.1⟩, by have := hr.2.2.2; omega⟩
          have hn := hb.n
          rw [WV.abs_sh] at hn
          refine wP.cls { w with txs := w.txs ++ [TxV.mk ⟨ops, 1, []⟩ s7 nilS] } ?_
          have hidx : (w.txs ++ [TxV.mk ⟨ops, 1, []⟩ s7 nilS])[w.txs.length]'(by simp) = TxV.mk ⟨ops, 1, []⟩ s7 nilS := by simp
          have hsp := wbegin_spec (main := main) (b := b) (tx := w.txs.length) (w := { w with txs := w.txs ++ [TxV.mk ⟨ops, 1, []⟩ s7 nilS] }) hW1 hn (by show w.bag.length < _; omega) (by simp) (by simp only [List.getElem_append_right (Nat.le_refl _), Nat.sub_self]; exact ⟨hopsB, hr.2.2.1⟩)
          dsimp only at hsp
          simp only [hidx] at hsp
          refine C.clR hsp ?_
          rintro v As' rfl
          simp only [List.cons_append, List.nil_append]
          refine wP.opn (h := fun sh bg txS => ?_)
          dsimp only [wO]
          refine C.go ?_
          refine C.rg [0, 1, 2, 3, 4, 5, 6, 7] ?_
          refine C.mv rfl ?_
          refine C.nc rfl ?_
          refine C.fa rfl ?_
          refine C.ld rfl ?_
          refine C.lnR rfl ?_
          refine C.ar rfl ?_ (r := (w.txs.length : Int)) (ha := congrArg some (show (((w.txs ++ [TxV.mk ⟨ops, 1, []⟩ s7 nilS]).length : Nat) : Int) - 1 = w.txs.length by rw [List.length_append, List.length_singleton]; omega))
          refine C.asg rfl ?_
          refine C.asg rfl ?_
          refine C.go ?_
          obtain ⟨w2, hw2⟩ : ∃ w2 : WV, w2 = { w with txs := w.txs ++ [TxV.mk ⟨ops, 1, []⟩ s7 nilS], bag := w.bag ++ [begM { w with txs := w.txs ++ [TxV.mk ⟨ops, 1, []⟩ s7 nilS] } (TxV.mk ⟨ops, 1, []⟩ s7 nilS) w.txs.length] } := ⟨_, rfl⟩
          refine wP.cls w2 ?_ (hc := by rw [hw2]) (hr := by rw [hw2]; (repeat (first | with_reducible exact ReF.nil | with_reducible exact Fo.head | with_reducible apply Fo.tail | with_reducible apply ReF.cons)))
          have e1 : submitW w.abs ops = (w2.abs, (w.txs.length : Int), 0) := by
            unfold submitW
            rw [if_neg hst, if_neg (by simpa using hr), if_neg (by rw [WV.abs_txs, WV.abs_bag]; omega), hw2]
            simp [WV.abs, beginW, begM]
          rw [e1] at hret
          refine C.retR hkd hret ⟨I1, w2, hI1, ⟨?_, ?_, ?_⟩, rfl, rfl, rfl⟩
          · rw [hw2]; exact hW1.sh
          · rw [hw2]; exact fun m hm => by
              rcases List.mem_append.1 hm with hm | hm
              · exact hW1.bag m hm
              · obtain rfl := List.mem_singleton.1 hm; exact ⟨hs7, .nil ..⟩
          · rw [hw2]; exact hW1.txs
    · skip
      refine C.asg rfl ?_
      refine C.go ?_
      refine C.rg [0, 1] ?_
      refine C.mv rfl ?_
      refine C.nt rfl ?_
      refine C.go ?_
      refine C.tru ?_
      refine C.rg [0, 1] ?_
      refine C.asg rfl ?_
      refine C.asg rfl ?_
      refine C.go ?_
      refine wP.cls w ?_
      have e1 : submitW w.abs ops = (w.abs, 0, 2) := by unfold submitW; rw [if_neg hst, if_pos (by simpa using hz)]
      rw [e1] at hret
      exact C.retR hkd hret ⟨I, w, Sub.refl _, hI, rfl, rfl, rfl⟩
end Go.Sl
end
section
namespace Go.Sl
theorem partR_app (a b : List OpR) (k n : Int) : partR (a ++ b) k n = partR a k n ++ partR b k n := by simp [partR]
theorem parts_go (n k : Int) : ∀ (ops : List OpR) (m : List (Int × List OpR)), getM (ops.foldl (fun m o => setM m (atR o.k n) ((getM m (atR o.k n)).getD [] ++ [o])) m) k =
    if partR ops k n = [] then getM m k else some ((getM m k).getD [] ++ partR ops k n)
  | [], m => by simp [partR]
  | o :: l, m => by
    rw [List.foldl_cons, parts_go n k l, getM_setM]
    by_cases h : atR o.k n = k
    · subst h
      have hp : partR (o :: l) (atR o.k n) n = o :: partR l (atR o.k n) n := by simp [partR]
      rw [hp]
      by_cases h2 : partR l (atR o.k n) n = []
      · simp [h2]
      · simp [h2]
    · have h' : ¬ k = atR o.k n := fun e => h e.symm
      have hp : partR (o :: l) k n = partR l k n := by simp [partR, h]
      rw [hp]; simp [h']
theorem parts_get (ops : List OpR) (n k : Int) : getM (partsP ops n) k = if partR ops k n = [] then none else some (partR ops k n) := by
  unfold partsP
  rw [parts_go]; simp [getM]
theorem parts_getD (ops : List OpR) (n k : Int) : (getM (partsP ops n) k).getD [] = partR ops k n := by
  rw [parts_get]; split
  · rename_i h; simp [h]
  · rfl
theorem parts_nodup_go (n : Int) : ∀ (ops : List OpR) (m : List (Int × List OpR)), (m.map (·.1)).Nodup → ((ops.foldl (fun m o => setM m (atR o.k n) ((getM m (atR o.k n)).getD [] ++ [o])) m).map (·.1)).Nodup
  | [], m, h => h
  | o :: l, m, h => parts_nodup_go n l _ (setM_nodup h)
theorem parts_nodup (ops : List OpR) (n : Int) : ((partsP ops n).map (·.1)).Nodup := parts_nodup_go n ops [] (by simp)
theorem parts_key (ops : List OpR) (n k : Int) : k ∈ (partsP ops n).map (·.1) ↔ takesR ops k n = true := by
  have h := getM_none (k := k) (l := partsP ops n)
  rw [parts_get] at h
  unfold takesR
  by_cases h2 : partR ops k n = []
  · simp only [h2, if_true, List.isEmpty_nil, Bool.not_true, Bool.false_eq_true, iff_false] at h ⊢
    exact h.1 trivial
  · simp only [h2, if_false, reduceCtorEq, false_iff] at h
    have : (partR ops k n).isEmpty = false := by simpa using h2
    rw [this]
    simp only [Bool.not_false, iff_true]
    exact Classical.not_not.1 h
theorem each_eq (s : ShP) (ops : List OpR) (f : ShP → Int → List OpR → ShP) : eachP s ops f = (upto s.n).foldl (fun z k => if (partR ops k s.n).isEmpty then z else f z k (partR ops k s.n)) s := by
  unfold eachP; simp only [parts_getD]
theorem findD_app (log more : List RecR) (kind tx : Int) : ∀ i, i ≤ log.length → findD (log ++ more) kind tx i = findD log kind tx i
  | 0, _ => rfl
  | i + 1, h => by
    unfold findD
    rw [findD_app log more kind tx i (by omega), List.getElem?_append_left (by omega)]
theorem findR_push (log : List RecR) (r : RecR) (kind tx : Int) : findR (log ++ [r]) kind tx = if isRec kind tx r then some log.length else findR log kind tx := by
  unfold findR
  rw [List.length_append, List.length_singleton, findD]
  rw [findD_app log [r] kind tx _ (Nat.le_refl _)]
  simp
theorem findD_lt {log : List RecR} {kind tx : Int} : ∀ {n i : Nat}, findD log kind tx n = some i → i < n ∧ ∃ r, log[i]? = some r ∧ r.kind = kind ∧ r.tx = tx
  | 0, i, h => by cases h
  | n + 1, i, h => by
    unfold findD at h
    split at h
    · rename_i hh
      obtain rfl := Option.some.inj h
      refine ⟨by omega, ?_⟩
      cases e : log[n]? with
      | none => rw [e] at hh; simp at hh
      | some r => rw [e] at hh; exact ⟨r, rfl, by simpa [isRec] using hh⟩
    · obtain ⟨h1, h2⟩ := findD_lt h; exact ⟨by omega, h2⟩
theorem findR_some {log : List RecR} {kind tx : Int} {i : Nat} (h : findR log kind tx = some i) : i < log.length ∧ ∃ r, log[i]? = some r ∧ r.kind = kind ∧ r.tx = tx := findD_lt h
theorem findD_none {log : List RecR} {kind tx : Int} : ∀ {n : Nat}, findD log kind tx n = none ↔ ∀ i r, i < n → log[i]? = some r → ¬ (r.kind = kind ∧ r.tx = tx)
  | 0 => by simp [findD]
  | n + 1 => by
    unfold findD
    constructor
    · intro h i r hi hr
      split at h
      · cases h
      · rename_i hh
        rcases Nat.lt_succ_iff_lt_or_eq.1 hi with h1 | rfl
        · exact findD_none.1 h i r h1 hr
        · rw [hr] at hh; simpa [isRec] using hh
    · intro h
      split
      · rename_i hh
        cases e : log[n]? with
        | none => rw [e] at hh; simp at hh
        | some r => rw [e] at hh; exact absurd (by simpa [isRec] using hh) (h n r (by omega) e)
      · exact findD_none.2 fun i r hi => h i r (by omega)
theorem findR_none {log : List RecR} {kind tx : Int} : findR log kind tx = none ↔ ∀ r ∈ log, ¬ (r.kind = kind ∧ r.tx = tx) := by
  unfold findR
  rw [findD_none]
  constructor
  · intro h r hr
    obtain ⟨i, hi⟩ := List.getElem?_of_mem hr
    exact h i r (List.getElem?_eq_some_iff.1 hi).1 hi
  · intro h i r _ hr; exact h r (List.mem_of_getElem? hr)
end Go.Sl
end
section
namespace Go.Sl
theorem readyR_push (log : List RecR) (r : RecR) (tx : Int) : readyR (log ++ [r]) tx = if isRec 3 tx r then none else if isRec 1 tx r then (if (findR log 3 tx).isSome then none else some log.length) else readyR log tx := by
  unfold readyR
  rw [findR_push, findR_push]
  by_cases h3 : isRec 3 tx r = true
  · simp [h3]
  · by_cases h1 : isRec 1 tx r = true
    · simp [h3, h1]
    · simp [h3, h1]
theorem readyR_some {log : List RecR} {tx : Int} {i : Nat} (h : readyR log tx = some i) : findR log 3 tx = none ∧ findR log 1 tx = some i := by
  unfold readyR at h
  split at h
  · cases h
  · rename_i hh; exact ⟨by simpa using hh, h⟩
structure KL (E : List EntP) (P : ShP) (L : List HeldR) (V : List Int) : Prop where
  pend : ∀ tx, getM P.pend tx = (readyR (E.map EntP.recd) tx).bind fun i => ((E.map EntP.recd)[i]?).map fun r => ⟨i, r.home, r.ops⟩
  pn : (P.pend.map (·.1)).Nodup
  done : ∀ tx, getM P.done tx = (findR (E.map EntP.recd) 3 tx).bind fun i => ((E.map EntP.recd)[i]?).map fun r => ⟨i, r.yes⟩
  decd : ∀ tx, getM P.decd tx = (findR (E.map EntP.recd) 2 tx).bind fun i => ((E.map EntP.recd)[i]?).map fun r => ⟨i, r.yes⟩
  lock : ∀ k, getM P.locks k = (L.find? fun h => h.key == k).map (·.tx)
  pl : (P.locks.map (·.1)).Nodup
  ln : (L.map (·.key)).Nodup
  lk : ∀ h ∈ L, ∃ i r, readyR (E.map EntP.recd) h.tx = some i ∧ (E.map EntP.recd)[i]? = some r ∧ ∃ o ∈ r.ops, o.k = h.key
  lo : ∀ tx i r, readyR (E.map EntP.recd) tx = some i → (E.map EntP.recd)[i]? = some r → ∀ o ∈ r.ops, ⟨o.k, tx⟩ ∈ L
  vals : ∀ k, 97 ≤ k → k ≤ 122 → (getM P.values k).getD 0 = V[(k - 97).toNat]?.getD 0
  vlen : V.length = 26
  vn : (P.values.map (·.1)).Nodup
  vk : ∀ p ∈ P.values, 97 ≤ p.1 ∧ p.1 ≤ 122
theorem KL.as {E : List EntP} {P P' : ShP} {L : List HeldR} {V : List Int} (H : KL E P L V) (e : (P'.pend, P'.done, P'.decd, P'.locks, P'.values) = (P.pend, P.done, P.decd, P.locks, P.values) := by rfl) : KL E P' L V := by
  simp only [Prod.mk.injEq] at e
  obtain ⟨e1, e2, e3, e4, e5⟩ := e
  exact ⟨by rw [e1]; exact H.pend, by rw [e1]; exact H.pn, by rw [e2]; exact H.done, by rw [e3]; exact H.decd, by rw [e4]; exact H.lock, by rw [e4]; exact H.pl, H.ln, H.lk, H.lo, by rw [e5]; exact H.vals, H.vlen, by rw [e5]; exact H.vn, by rw [e5]; exact H.vk⟩
theorem find_key {L : List HeldR} (hn : (L.map (·.key)).Nodup) {k tx : Int} : (L.find? fun h => h.key == k).map (·.tx) = some tx ↔ (⟨k, tx⟩ : HeldR) ∈ L := by
  induction L with
  | nil => simp
  | cons h L ih =>
    rw [List.map_cons, List.nodup_cons] at hn
    rw [List.find?_cons]
    by_cases e : h.key = k
    · have hb : (h.key == k) = true := by simpa using e
      rw [hb]
      simp only [Option.map_some, Option.some.injEq, List.mem_cons]
      constructor
      · rintro rfl; subst e; exact .inl rfl
      · rintro (rfl | hm)
        · rfl
        · exact absurd (List.mem_map.2 ⟨_, hm, rfl⟩) (e ▸ hn.1)
    · have hb : (h.key == k) = false := by simpa using e
      rw [hb]
      simp only [ih hn.2, List.mem_cons]
      constructor
      · exact .inr
      · rintro (rfl | hm)
        · exact absurd rfl e
        · exact hm
theorem find_none {L : List HeldR} {k : Int} : (L.find? fun h => h.key == k).map (·.tx) = none ↔ ∀ h ∈ L, h.key ≠ k := by
  simp [List.find?_eq_none]
theorem KL.start (P : ShP) : KL [] (freshP P) [] zeros26 := by
  have h0 : ∀ kind tx, findR ([] : List RecR) kind tx = none := fun _ _ => rfl
  have h1 : ∀ tx, readyR ([] : List RecR) tx = none := fun _ => rfl
  refine ⟨fun tx => by simp [h1, freshP, getM], by simp [freshP], fun tx => by simp [h0, freshP, getM], fun tx => by simp [h0, freshP, getM], fun k => by simp [freshP, getM], by simp [freshP], by simp, by simp, fun tx i r h => by simp [h1] at h, fun k h1 h2 => ?_, rfl, by simp [freshP], by simp [freshP]⟩
  simp only [freshP, getM, Option.getD_none, zeros26]
  rw [List.getElem?_replicate]; split <;> rfl
section
variable {E : List EntP} {P : ShP} {L : List HeldR} {V : List Int}
theorem getE (e : EntP) (i : Nat) : ((E ++ [e]).map EntP.recd)[i]? = if i = E.length then some e.recd else (E.map EntP.recd)[i]? := by
  rw [List.map_append, List.getElem?_append]
  simp only [List.length_map, List.map_cons, List.map_nil]
  split
  · rename_i h; rw [if_neg (by omega)]
  · rename_i h
    split
    · rename_i h2; subst h2; simp
    · rename_i h2
      rw [List.getElem?_eq_none (by simp; omega), List.getElem?_eq_none (by simp; omega)]
theorem foldlock_get (tx k : Int) : ∀ (ops : List OpR) (l : List (Int × Int)), getM (ops.foldl (fun l o => setM l o.k tx) l) k = if ops.any (fun o => o.k == k) then some tx else getM l k
  | [], l => by simp
  | o :: ops, l => by
    rw [List.foldl_cons, foldlock_get tx k ops, getM_setM]
    by_cases h : o.k = k
    · subst h; simp
    · have h' : ¬ k = o.k := fun e => h e.symm
      simp [h, h']
theorem foldlock_nodup (tx : Int) : ∀ (ops : List OpR) (l : List (Int × Int)), (l.map (·.1)).Nodup → ((ops.foldl (fun l o => setM l o.k tx) l).map (·.1)).Nodup
  | [], l, h => h
  | o :: ops, l, h => foldlock_nodup tx ops _ (setM_nodup h)
theorem foldfree_get (k : Int) : ∀ (ops : List OpR) (l : List (Int × Int)), (l.map (·.1)).Nodup → getM (ops.foldl (fun l o => delM l o.k) l) k = if ops.any (fun o => o.k == k) then none else getM l k
  | [], l, _ => by simp
  | o :: ops, l, h => by
    rw [List.foldl_cons, foldfree_get k ops _ (delM_nodup h), getM_delM h]
    by_cases h : o.k = k
    · subst h; simp
    · have h' : ¬ k = o.k := fun e => h e.symm
      simp [h, h']
theorem foldfree_nodup : ∀ (ops : List OpR) (l : List (Int × Int)), (l.map (·.1)).Nodup → ((ops.foldl (fun l o => delM l o.k) l).map (·.1)).Nodup
  | [], l, h => h
  | o :: ops, l, h => foldfree_nodup ops _ (delM_nodup h)
theorem find_append (L : List HeldR) (M : List HeldR) (k : Int) : ((L ++ M).find? fun h => h.key == k).map (·.tx) = ((L.find? fun h => h.key == k).map (·.tx)).or ((M.find? fun h => h.key == k).map (·.tx)) := by
  rw [List.find?_append]; cases L.find? fun h => h.key == k <;> simp
theorem find_locked (tx k : Int) : ∀ ops : List OpR, ((ops.map fun o => (⟨o.k, tx⟩ : HeldR)).find? fun h => h.key == k).map (·.tx) = if ops.any (fun o => o.k == k) then some tx else none
  | [] => rfl
  | o :: ops => by
    have := find_locked tx k ops
    rw [List.map_cons, List.find?_cons]
    by_cases h : o.k = k
    · subst h; simp
    · have hb : (o.k == k) = false := by simpa using h
      simp only [hb, List.any_cons, Bool.false_or]; exact this
theorem KL.prep (H : KL E P L V) {tx home : Int} {ops : List OpR} (h1 : findR (E.map EntP.recd) 1 tx = none) (h3 : findR (E.map EntP.recd) 3 tx = none) (hf : ∀ o ∈ ops, getM P.locks o.k = none) (hn : (ops.map (·.k)).Nodup) :
    KL (E ++ [.prep tx home ops]) (holdP P tx home ops E.length) (lockR L tx ops) V := by
  have hr : readyR (E.map EntP.recd) tx = none := by unfold readyR; rw [h3]; simpa using h1
  have hmap : (E ++ [EntP.prep tx home ops]).map EntP.recd = E.map EntP.recd ++ [(EntP.prep tx home ops).recd] := by simp
  have hready : ∀ t, readyR ((E ++ [EntP.prep tx home ops]).map EntP.recd) t = if t = tx then some E.length else readyR (E.map EntP.recd) t := fun t => by
    rw [hmap, readyR_push]
    by_cases e : t = tx
    · subst e; simp [isRec, EntP.recd, rec0, h3]
    · have : ¬ tx = t := fun z => e z.symm
      simp [isRec, EntP.recd, rec0, e, this]
  have hlt : ∀ t i, readyR (E.map EntP.recd) t = some i → i < E.length := fun t i h => by
    have := (findR_some (readyR_some h).2).1; simpa using this
  have hfind : ∀ kind t, kind ≠ 1 → findR ((E ++ [EntP.prep tx home ops]).map EntP.recd) kind t = findR (E.map EntP.recd) kind t := fun kind t hk => by
    rw [hmap, findR_push]
    have : isRec kind t (EntP.prep tx home ops).recd = false := by
      simp [isRec, EntP.recd, rec0]; intro z; exact absurd z.symm hk
    simp [this]
  have hget : ∀ kind t, (findR (E.map EntP.recd) kind t).bind (fun i => (((E ++ [EntP.prep tx home ops]).map EntP.recd)[i]?).map fun r => (⟨i, r.yes⟩ : PlaceP)) = (findR (E.map EntP.recd) kind t).bind (fun i => ((E.map EntP.recd)[i]?).map fun r => ⟨i, r.yes⟩) := fun kind t => by
    cases h : findR (E.map EntP.recd) kind t with
    | none => rfl
    | some i =>
      have := (findR_some h).1
      simp only [List.length_map] at this
      simp only [Option.bind_some, getE, if_neg (Nat.ne_of_lt this)]
  refine ⟨fun t => ?_, setM_nodup H.pn, fun t => ?_, fun t => ?_, fun k => ?_, foldlock_nodup _ _ _ H.pl, ?_, fun h hh => ?_, fun t i r hri hi o ho => ?_, H.vals, H.vlen, H.vn, H.vk⟩
  · show getM (setM P.pend tx _) t = _
    rw [getM_setM, hready]
    by_cases e : t = tx
    · rw [if_pos e, if_pos e]
      simp only [Option.bind_some, getE, if_true, Option.map_some]; rfl
    · rw [if_neg e, if_neg e, H.pend]
      cases h : readyR (E.map EntP.recd) t with
      | none => rfl
      | some i => simp only [Option.bind_some, getE, if_neg (Nat.ne_of_lt (hlt t i h))]
  · show getM P.done t = _
    rw [hfind 3 t (by decide), hget, H.done]
  · show getM P.decd t = _
    rw [hfind 2 t (by decide), hget, H.decd]
  · show getM (ops.foldl _ P.locks) k = _
    rw [foldlock_get]
    unfold lockR
    rw [find_append, find_locked, ← H.lock]
    by_cases ha : ops.any (fun o => o.k == k) = true
    · obtain ⟨o, ho, hk⟩ := List.any_eq_true.1 ha
      have hk' : o.k = k := by simpa using hk
      have := hf o ho
      rw [hk'] at this
      simp [ha, this]
    · simp [ha]
  · unfold lockR
    rw [List.map_append]
    refine List.nodup_append.2 ⟨H.ln, by simpa [Function.comp_def] using hn, fun a ha b hb e => ?_⟩
    subst e
    obtain ⟨h, hh, rfl⟩ := List.mem_map.1 ha
    simp only [List.map_map, List.mem_map, Function.comp_apply] at hb
    obtain ⟨o, ho, hok⟩ := hb
    have h2 := hf o ho
    rw [H.lock, find_none] at h2
    exact h2 h hh hok.symm
  · unfold lockR at hh
    rcases List.mem_append.1 hh with hh | hh
    · obtain ⟨i, r, h1, h2, h3⟩ := H.lk h hh
      have hne : h.tx ≠ tx := fun e => by rw [e, hr] at h1; cases h1
      exact ⟨i, r, by rw [hready, if_neg hne]; exact h1, by rw [getE, if_neg (Nat.ne_of_lt (hlt _ _ h1))]; exact h2, h3⟩
    · obtain ⟨o, ho, rfl⟩ := List.mem_map.1 hh
      exact ⟨E.length, _, by rw [hready, if_pos rfl], by rw [getE, if_pos rfl], o, ho, rfl⟩
  · unfold lockR
    rw [hready] at hri
    by_cases e : t = tx
    · rw [if_pos e] at hri
      obtain rfl := Option.some.inj hri
      rw [getE, if_pos rfl] at hi
      obtain rfl := Option.some.inj hi
      subst e
      exact List.mem_append_right _ (List.mem_map.2 ⟨o, ho, rfl⟩)
    · rw [if_neg e] at hri
      rw [getE, if_neg (Nat.ne_of_lt (hlt _ _ hri))] at hi
      exact List.mem_append_left _ (H.lo t i r hri hi o ho)
theorem KL.dec (H : KL E P L V) {tx : Int} {yes : Bool} {reads : List Int} : KL (E ++ [.dec tx yes reads]) { P with decd := setM P.decd tx ⟨E.length, yes⟩ } L V := by
  have hmap : (E ++ [EntP.dec tx yes reads]).map EntP.recd = E.map EntP.recd ++ [(EntP.dec tx yes reads).recd] := by simp
  have hfind : ∀ kind t, findR ((E ++ [EntP.dec tx yes reads]).map EntP.recd) kind t = if kind = 2 ∧ t = tx then some E.length else findR (E.map EntP.recd) kind t := fun kind t => by
    rw [hmap, findR_push]
    by_cases e : kind = 2 ∧ t = tx
    · obtain ⟨rfl, rfl⟩ := e; simp [isRec, EntP.recd, rec0]
    · have : isRec kind t (EntP.dec tx yes reads).recd = false := by
        simp [isRec, EntP.recd, rec0]; intro z y; exact e ⟨z.symm, y.symm⟩
      simp [this, e]
  have hready : ∀ t, readyR ((E ++ [EntP.dec tx yes reads]).map EntP.recd) t = readyR (E.map EntP.recd) t := fun t => by
    unfold readyR; rw [hfind, hfind]; simp
  have hlt : ∀ t i, readyR (E.map EntP.recd) t = some i → i < E.length := fun t i h => by
    have := (findR_some (readyR_some h).2).1; simpa using this
  have hget : ∀ kind t, (findR (E.map EntP.recd) kind t).bind (fun i => (((E ++ [EntP.dec tx yes reads]).map EntP.recd)[i]?).map fun r => (⟨i, r.yes⟩ : PlaceP)) = (findR (E.map EntP.recd) kind t).bind (fun i => ((E.map EntP.recd)[i]?).map fun r => ⟨i, r.yes⟩) := fun kind t => by
    cases h : findR (E.map EntP.recd) kind t with
    | none => rfl
    | some i =>
      have := (findR_some h).1
      simp only [List.length_map] at this
      simp only [Option.bind_some, getE, if_neg (Nat.ne_of_lt this)]
  refine ⟨fun t => ?_, H.pn, fun t => ?_, fun t => ?_, H.lock, H.pl, H.ln, fun h hh => ?_, fun t i r hri hi o ho => ?_, H.vals, H.vlen, H.vn, H.vk⟩
  · show getM P.pend t = _
    rw [hready, H.pend]
    cases h : readyR (E.map EntP.recd) t with
    | none => rfl
    | some i => simp only [Option.bind_some, getE, if_neg (Nat.ne_of_lt (hlt t i h))]
  · show getM P.done t = _
    rw [hfind, if_neg (by simp), hget, H.done]
  · show getM (setM P.decd tx _) t = _
    rw [getM_setM, hfind]
    by_cases e : t = tx
    · rw [if_pos e, if_pos ⟨rfl, e⟩]
      simp only [Option.bind_some, getE, if_true, Option.map_some]; rfl
    · rw [if_neg e, if_neg (fun z => e z.2), hget, H.decd]
  · obtain ⟨i, r, h1, h2, h3⟩ := H.lk h hh
    exact ⟨i, r, by rw [hready]; exact h1, by rw [getE, if_neg (Nat.ne_of_lt (hlt _ _ h1))]; exact h2, h3⟩
  · rw [hready] at hri
    rw [getE, if_neg (Nat.ne_of_lt (hlt _ _ hri))] at hi
    exact H.lo t i r hri hi o ho
theorem foldwrite_get (yes : Bool) : ∀ (ops : List OpR) (l : List (Int × Int)) (v : List Int), v.length = 26 → (∀ o ∈ ops, 97 ≤ o.k ∧ o.k ≤ 122) → (∀ k, 97 ≤ k → k ≤ 122 → (getM l k).getD 0 = v[(k - 97).toNat]?.getD 0) →
    ∀ k, 97 ≤ k → k ≤ 122 → (getM (ops.foldl (fun v o => if yes && o.w then setM v o.k o.v else v) l) k).getD 0 = (if yes then writeR v ops else v)[(k - 97).toNat]?.getD 0
  | [], l, v, hv, ho, h, k, h1, h2 => by cases yes <;> exact h k h1 h2
  | o :: ops, l, v, hv, ho, h, k, h1, h2 => by
    have hok := ho o (List.mem_cons_self ..)
    cases hy : yes with
    | false =>
      have := foldwrite_get false ops l v hv (fun o h => ho o (List.mem_cons_of_mem _ h)) h k h1 h2
      simpa using this
    | true =>
      cases hw : o.w with
      | false =>
        have := foldwrite_get true ops l v hv (fun o h => ho o (List.mem_cons_of_mem _ h)) h k h1 h2
        simpa [writeR, hw] using this
      | true =>
        have := foldwrite_get true ops (setM l o.k o.v) (v.set (o.k - 97).toNat o.v) (by simpa using hv) (fun o h => ho o (List.mem_cons_of_mem _ h)) (fun k h1 h2 => by
          rw [getM_setM, List.getElem?_set]
          by_cases e : k = o.k
          · subst e
            rename_i h1 h2
            have hlt : (o.k - 97).toNat < v.length := by omega
            rw [if_pos rfl, if_pos rfl, if_pos hlt]
          · have : ¬ (o.k - 97).toNat = (k - 97).toNat := by omega
            rw [if_neg e, if_neg this]; exact h k h1 h2) k h1 h2
        simpa [writeR, hw] using this
theorem writeR_len : ∀ (ops : List OpR) (v : List Int), (writeR v ops).length = v.length
  | [], v => rfl
  | o :: ops, v => by
    have := writeR_len ops (if o.w then v.set (o.k - 97).toNat o.v else v)
    simp only [writeR, List.foldl_cons] at this ⊢
    rw [this]; split <;> simp
theorem foldwrite_nodup (yes : Bool) : ∀ (ops : List OpR) (l : List (Int × Int)), (l.map (·.1)).Nodup → ((ops.foldl (fun v o => if yes && o.w then setM v o.k o.v else v) l).map (·.1)).Nodup
  | [], l, h => h
  | o :: ops, l, h => foldwrite_nodup yes ops _ (by
      show ((if (yes && o.w) = true then setM l o.k o.v else l).map (·.1)).Nodup
      split
      · exact setM_nodup h
      · exact h)
theorem setM_mem {V : Type} {k : Int} {v : V} {p : Int × V} : ∀ {l : List (Int × V)}, p ∈ setM l k v → p = (k, v) ∨ p ∈ l
  | [], h => .inl (by simpa [setM] using h)
  | q :: l, h => by
    unfold setM at h
    split at h
    · rcases List.mem_cons.1 h with h | h
      · exact .inl h
      · exact .inr (List.mem_cons_of_mem _ h)
    · rcases List.mem_cons.1 h with h | h
      · exact .inr (h ▸ List.mem_cons_self ..)
      · exact (setM_mem h).imp id (List.mem_cons_of_mem _)
theorem foldwrite_mem (yes : Bool) : ∀ (ops : List OpR) (l : List (Int × Int)), (∀ o ∈ ops, 97 ≤ o.k ∧ o.k ≤ 122) → (∀ p ∈ l, 97 ≤ p.1 ∧ p.1 ≤ 122) → ∀ p ∈ (ops.foldl (fun v o => if yes && o.w then setM v o.k o.v else v) l), 97 ≤ p.1 ∧ p.1 ≤ 122
  | [], l, _, h => h
  | o :: ops, l, ho, h => foldwrite_mem yes ops _ (fun o h => ho o (List.mem_cons_of_mem _ h)) (fun p hp => by
      have hp : p ∈ (if (yes && o.w) = true then setM l o.k o.v else l) := hp
      split at hp
      · rcases setM_mem hp with rfl | hp
        · exact ho o (List.mem_cons_self ..)
        · exact h p hp
      · exact h p hp)
theorem KL.don (H : KL E P L V) {tx : Int} {yes : Bool} (h3 : findR (E.map EntP.recd) 3 tx = none) (hk : ∀ i r, readyR (E.map EntP.recd) tx = some i → (E.map EntP.recd)[i]? = some r → ∀ o ∈ r.ops, 97 ≤ o.k ∧ o.k ≤ 122) {V' : List Int}
    (hV : V' = match readyR (E.map EntP.recd) tx with | some i => if yes then writeR V (((E.map EntP.recd)[i]?).getD rec0).ops else V | none => V) :
    KL (E ++ [.don tx yes]) (finishP P tx yes E.length) (freeR L tx) V' := by
  have hmap : (E ++ [EntP.don tx yes]).map EntP.recd = E.map EntP.recd ++ [(EntP.don tx yes).recd] := by simp
  have hfind : ∀ kind t, findR ((E ++ [EntP.don tx yes]).map EntP.recd) kind t = if kind = 3 ∧ t = tx then some E.length else findR (E.map EntP.recd) kind t := fun kind t => by
    rw [hmap, findR_push]
    by_cases e : kind = 3 ∧ t = tx
    · obtain ⟨rfl, rfl⟩ := e; simp [isRec, EntP.recd, rec0]
    · have : isRec kind t (EntP.don tx yes).recd = false := by
        simp [isRec, EntP.recd, rec0]; intro z y; exact e ⟨z.symm, y.symm⟩
      simp [this, e]
  have hready : ∀ t, readyR ((E ++ [EntP.don tx yes]).map EntP.recd) t = if t = tx then none else readyR (E.map EntP.recd) t := fun t => by
    unfold readyR; rw [hfind, hfind]
    by_cases e : t = tx
    · simp [e]
    · simp [e]
  have hlt : ∀ t i, readyR (E.map EntP.recd) t = some i → i < E.length := fun t i h => by
    have := (findR_some (readyR_some h).2).1; simpa using this
  have hget : ∀ kind t, (findR (E.map EntP.recd) kind t).bind (fun i => (((E ++ [EntP.don tx yes]).map EntP.recd)[i]?).map fun r => (⟨i, r.yes⟩ : PlaceP)) = (findR (E.map EntP.recd) kind t).bind (fun i => ((E.map EntP.recd)[i]?).map fun r => ⟨i, r.yes⟩) := fun kind t => by
    cases h : findR (E.map EntP.recd) kind t with
    | none => rfl
    | some i =>
      have := (findR_some h).1
      simp only [List.length_map] at this
      simp only [Option.bind_some, getE, if_neg (Nat.ne_of_lt this)]
  have hops : ∃ ops, ((getM P.pend tx).map (·.ops)).getD [] = ops ∧ ((readyR (E.map EntP.recd) tx = none ∧ ops = []) ∨ ∃ i r, readyR (E.map EntP.recd) tx = some i ∧ (E.map EntP.recd)[i]? = some r ∧ ops = r.ops) := by
    refine ⟨_, rfl, ?_⟩
    rw [H.pend]
    cases h : readyR (E.map EntP.recd) tx with
    | none => exact .inl ⟨rfl, rfl⟩
    | some i =>
      obtain ⟨_, r, hr, _⟩ := findR_some (readyR_some h).2
      exact .inr ⟨i, r, rfl, hr, by simp only [Option.bind_some, hr, Option.map_some, Option.getD_some]⟩
  obtain ⟨ops, hop, hcase⟩ := hops
  have hok : ∀ o ∈ ops, 97 ≤ o.k ∧ o.k ≤ 122 := fun o ho => by
    rcases hcase with ⟨_, rfl⟩ | ⟨i, r, h1, h2, rfl⟩
    · cases ho
    · exact hk i r h1 h2 o ho
  have hVe : V' = if yes then writeR V ops else V := by
    rw [hV]
    rcases hcase with ⟨h1, rfl⟩ | ⟨i, r, h1, h2, rfl⟩
    · rw [h1]; cases yes <;> simp [writeR]
    · rw [h1]; simp [h2]
  have hkeys : ∀ k, ops.any (fun o => o.k == k) = true ↔ (⟨k, tx⟩ : HeldR) ∈ L := fun k => by
    rcases hcase with ⟨h1, rfl⟩ | ⟨i, r, h1, h2, rfl⟩
    · constructor
      · intro h; simp at h
      · intro h
        obtain ⟨i, r, h2, _⟩ := H.lk _ h
        simp only at h2; rw [h1] at h2; cases h2
    · constructor
      · intro h
        obtain ⟨o, ho, e⟩ := List.any_eq_true.1 h
        have e' : o.k = k := by simpa using e
        exact e' ▸ H.lo tx i r h1 h2 o ho
      · intro h
        obtain ⟨i', r', h3, h4, o, ho, e⟩ := H.lk _ h
        simp only at h3 e
        rw [h1] at h3; obtain rfl := Option.some.inj h3
        rw [h2] at h4; obtain rfl := Option.some.inj h4
        exact List.any_eq_true.2 ⟨o, ho, by simpa using e⟩
  have hfn : ((freeR L tx).map (·.key)).Nodup := H.ln.sublist ((List.filter_sublist ..).map _)
  refine ⟨fun t => ?_, delM_nodup H.pn, fun t => ?_, fun t => ?_, fun k => ?_, foldfree_nodup _ _ H.pl, hfn, fun h hh => ?_, fun t i r hri hi o ho => ?_, fun k h1 h2 => ?_, ?_, foldwrite_nodup _ _ _ H.vn, ?_⟩
  · show getM (delM P.pend tx) t = _
    rw [getM_delM H.pn, hready]
    by_cases e : t = tx
    · simp [e]
    · rw [if_neg e, if_neg e, H.pend]
      cases h : readyR (E.map EntP.recd) t with
      | none => rfl
      | some i => simp only [Option.bind_some, getE, if_neg (Nat.ne_of_lt (hlt t i h))]
  · show getM (setM P.done tx _) t = _
    rw [getM_setM, hfind]
    by_cases e : t = tx
    · rw [if_pos e, if_pos ⟨rfl, e⟩]
      simp only [Option.bind_some, getE, if_true, Option.map_some]; rfl
    · rw [if_neg e, if_neg (fun z => e z.2), hget, H.done]
  · show getM P.decd t = _
    rw [hfind, if_neg (by simp), hget, H.decd]
  · show getM (List.foldl (fun l o => delM l o.k) P.locks (((getM P.pend tx).map (·.ops)).getD [])) k = _
    rw [hop, foldfree_get _ _ _ H.pl]
    by_cases ha : ops.any (fun o => o.k == k) = true
    · rw [if_pos ha]
      have hm := (hkeys k).1 ha
      symm
      rw [find_none]
      intro h hh e
      obtain ⟨h1, h2⟩ := List.mem_filter.1 hh
      have e1 := (find_key H.ln).2 hm
      have e2 := (find_key H.ln (k := k) (tx := h.tx)).2 (by rw [← e]; exact h1)
      rw [e1] at e2
      have := Option.some.inj e2
      simp [this] at h2
    · rw [if_neg ha, H.lock]
      cases hL : (L.find? fun h => h.key == k).map (·.tx) with
      | none =>
        symm; rw [find_none]
        intro h hh
        exact find_none.1 hL h (List.mem_filter.1 hh).1
      | some t =>
        symm
        rw [find_key hfn]
        have hm := (find_key H.ln).1 hL
        refine List.mem_filter.2 ⟨hm, ?_⟩
        have : t ≠ tx := fun e => ha ((hkeys k).2 (e ▸ hm))
        simpa using this
  · obtain ⟨h1, h2⟩ := List.mem_filter.1 hh
    have hne : h.tx ≠ tx := by simpa using h2
    obtain ⟨i, r, h3, h4, h5⟩ := H.lk h h1
    exact ⟨i, r, by rw [hready, if_neg hne]; exact h3, by rw [getE, if_neg (Nat.ne_of_lt (hlt _ _ h3))]; exact h4, h5⟩
  · rw [hready] at hri
    by_cases e : t = tx
    · rw [if_pos e] at hri; cases hri
    · rw [if_neg e] at hri
      rw [getE, if_neg (Nat.ne_of_lt (hlt _ _ hri))] at hi
      exact List.mem_filter.2 ⟨H.lo t i r hri hi o ho, by simpa using e⟩
  · show (getM (List.foldl _ P.values (((getM P.pend tx).map (·.ops)).getD [])) k).getD 0 = _
    rw [hop, hVe]
    exact foldwrite_get yes ops P.values V H.vlen hok H.vals k h1 h2
  · rw [hVe]; split
    · rw [writeR_len, H.vlen]
    · exact H.vlen
  · show ∀ p ∈ List.foldl _ P.values (((getM P.pend tx).map (·.ops)).getD []), _
    rw [hop]
    exact foldwrite_mem yes ops P.values hok H.vk
end
end Go.Sl
end
section
namespace Go.Sl
def opsOf (T : List (List OpR)) (tx : Int) : Option (List OpR) := if tx < 0 then none else T[tx.toNat]?
def nRd (l : List OpR) : Nat := (l.filter fun o => !o.w).length
def MsgOk (T : List (List OpR)) (n : Int) (m : MsgR) : Prop := ∃ ops, opsOf T m.tx = some ops ∧
  ((m.kind = 1 ∧ m.frm = -1 ∧ m.to = homeR ops n ∧ m.ops = ops) ∨
   (m.kind = 2 ∧ m.frm = homeR ops n ∧ takesR ops m.to n = true ∧ m.ops = partR ops m.to n) ∨
   (m.kind = 3 ∧ m.to = homeR ops n ∧ takesR ops m.frm n = true ∧ (m.yes = true → m.reads.length = nRd (partR ops m.frm n)) ∧ m.ops = []) ∨
   (m.kind = 4 ∧ m.frm = homeR ops n ∧ takesR ops m.to n = true ∧ m.ops = []) ∨
   (m.kind = 5 ∧ m.to = homeR ops n ∧ takesR ops m.frm n = true ∧ m.ops = []) ∨
   (m.kind = 6 ∧ m.to = homeR ops n ∧ takesR ops m.frm n = true ∧ m.ops = []) ∨
   (m.kind = 7 ∧ m.to = -1 ∧ m.ops = []))
inductive LogOk (T : List (List OpR)) (n me : Int) : List EntP → Prop
  | nil : LogOk T n me []
  | prep {E : List EntP} {tx : Int} {ops : List OpR} : LogOk T n me E → opsOf T tx = some ops → takesR ops me n = true → findR (E.map EntP.recd) 1 tx = none → findR (E.map EntP.recd) 3 tx = none →
      (∀ t i r, readyR (E.map EntP.recd) t = some i → (E.map EntP.recd)[i]? = some r → ∀ o ∈ r.ops, ∀ o' ∈ partR ops me n, o.k ≠ o'.k) → LogOk T n me (E ++ [.prep tx (homeR ops n) (partR ops me n)])
  | dec {E : List EntP} {tx : Int} {yes : Bool} {reads : List Int} : LogOk T n me E → (opsOf T tx).isSome = true → LogOk T n me (E ++ [.dec tx yes reads])
  | don {E : List EntP} {tx : Int} {yes : Bool} : LogOk T n me E → (opsOf T tx).isSome = true → findR (E.map EntP.recd) 3 tx = none → LogOk T n me (E ++ [.don tx yes])
def TOk (T : List (List OpR)) : Prop := (∀ ops ∈ T, rightP ops) ∧ T.length ≤ 60
theorem opsOf_app {T : List (List OpR)} {tx : Int} {ops : List OpR} (more : List (List OpR)) (h : opsOf T tx = some ops) : opsOf (T ++ more) tx = some ops := by
  unfold opsOf at h ⊢
  split at h
  · cases h
  · rename_i hh; rw [if_neg hh, List.getElem?_append_left (List.getElem?_eq_some_iff.1 h).1]; exact h
theorem opsOf_lt {T : List (List OpR)} {tx : Int} {ops : List OpR} (h : opsOf T tx = some ops) : 0 ≤ tx ∧ tx.toNat < T.length ∧ ops ∈ T := by
  unfold opsOf at h
  split at h
  · cases h
  · exact ⟨by omega, (List.getElem?_eq_some_iff.1 h).1, List.mem_of_getElem? h⟩
theorem MsgOk.app {T : List (List OpR)} {n : Int} {m : MsgR} (more : List (List OpR)) (h : MsgOk T n m) : MsgOk (T ++ more) n m := by
  obtain ⟨ops, h1, h2⟩ := h; exact ⟨ops, opsOf_app more h1, h2⟩
theorem LogOk.app {T : List (List OpR)} {n me : Int} {E : List EntP} (more : List (List OpR)) (h : LogOk T n me E) : LogOk (T ++ more) n me E := by
  induction h with
  | nil => exact .nil
  | prep _ h1 h2 h3 h4 h5 ih => exact .prep ih (opsOf_app more h1) h2 h3 h4 h5
  | dec _ h1 ih =>
    obtain ⟨o, ho⟩ := Option.isSome_iff_exists.1 h1
    exact .dec ih (by rw [opsOf_app more ho]; rfl)
  | don _ h1 h2 ih =>
    obtain ⟨o, ho⟩ := Option.isSome_iff_exists.1 h1
    exact .don ih (by rw [opsOf_app more ho]; rfl) h2
theorem LogOk.init {T : List (List OpR)} {n me : Int} {E : List EntP} (h : LogOk T n me E) : ∀ k, LogOk T n me (E.take k) := by
  induction h with
  | nil => intro k; simpa using LogOk.nil
  | @prep E tx ops h1 h2 h3 h4 h5 h6 ih =>
    intro k
    rcases Nat.lt_or_ge E.length k with h | h
    · rw [List.take_of_length_le (by simp; omega)]; exact .prep h1 h2 h3 h4 h5 h6
    · rw [List.take_append_of_le_length h]; exact ih k
  | @dec E tx yes reads h1 h2 ih =>
    intro k
    rcases Nat.lt_or_ge E.length k with h | h
    · rw [List.take_of_length_le (by simp; omega)]; exact .dec h1 h2
    · rw [List.take_append_of_le_length h]; exact ih k
  | @don E tx yes h1 h2 h3 ih =>
    intro k
    rcases Nat.lt_or_ge E.length k with h | h
    · rw [List.take_of_length_le (by simp; omega)]; exact .don h1 h2 h3
    · rw [List.take_append_of_le_length h]; exact ih k
theorem LogOk.prepd {T : List (List OpR)} {n me : Int} {E : List EntP} (h : LogOk T n me E) : ∀ (i : Nat) (r : RecR), (E.map EntP.recd)[i]? = some r → (∃ ops, opsOf T r.tx = some ops ∧ (r.kind = 1 → takesR ops me n = true ∧ r.ops = partR ops me n ∧ r.home = homeR ops n)) := by
  induction h with
  | nil => intro i r hr; simp at hr
  | @prep E tx ops h1 h2 h3 h4 h5 h6 ih =>
    intro i r hr
    rw [getE] at hr
    split at hr
    · obtain rfl := Option.some.inj hr; exact ⟨ops, h2, fun _ => ⟨h3, rfl, rfl⟩⟩
    · exact ih i r hr
  | @dec E tx yes reads h1 h2 ih =>
    intro i r hr
    rw [getE] at hr
    split at hr
    · obtain rfl := Option.some.inj hr
      obtain ⟨o, ho⟩ := Option.isSome_iff_exists.1 h2
      exact ⟨o, ho, fun h => by simp [EntP.recd] at h⟩
    · exact ih i r hr
  | @don E tx yes h1 h2 h3 ih =>
    intro i r hr
    rw [getE] at hr
    split at hr
    · obtain rfl := Option.some.inj hr
      obtain ⟨o, ho⟩ := Option.isSome_iff_exists.1 h2
      exact ⟨o, ho, fun h => by simp [EntP.recd] at h⟩
    · exact ih i r hr
theorem LogOk.ready {T : List (List OpR)} {n me : Int} {E : List EntP} (h : LogOk T n me E) {tx : Int} {i : Nat} {r : RecR} (hr : readyR (E.map EntP.recd) tx = some i) (hi : (E.map EntP.recd)[i]? = some r) :
    ∃ ops, opsOf T tx = some ops ∧ takesR ops me n = true ∧ r.ops = partR ops me n ∧ r.home = homeR ops n ∧ r.tx = tx ∧ r.kind = 1 := by
  obtain ⟨_, r', h1, h2, h3⟩ := findR_some (readyR_some hr).2
  rw [hi] at h1; obtain rfl := Option.some.inj h1
  obtain ⟨ops, h4, h5⟩ := h.prepd i r hi
  rw [h3] at h4
  exact ⟨ops, h4, (h5 h2).1, (h5 h2).2.1, (h5 h2).2.2, h3, h2⟩
theorem part_sub {ops : List OpR} {k n : Int} : (partR ops k n).Sublist ops := List.filter_sublist
theorem rightP.key {ops : List OpR} (h : rightP ops) {k n : Int} : ∀ o ∈ partR ops k n, 97 ≤ o.k ∧ o.k ≤ 122 := fun o ho => by
  have := h.1 o (part_sub.mem ho); exact ⟨this.1, this.2.1⟩
theorem rightP.nod {ops : List OpR} (h : rightP ops) {k n : Int} : ((partR ops k n).map (·.k)).Nodup := h.2.1.sublist (part_sub.map _)
theorem TOk.of {T : List (List OpR)} (h : TOk T) {tx : Int} {ops : List OpR} (ho : opsOf T tx = some ops) : rightP ops := h.1 ops (opsOf_lt ho).2.2
structure UA (n : Int) (a : UndP) (b : UndR) : Prop where
  ops : a.ops = b.ops
  dec : a.dec = b.dec
  yes : a.yes = b.yes
  votes : ∀ k, getM a.votes k = (votedR b k).map (·.reads)
  vn : (a.votes.map (·.1)).Nodup
  an : (a.acks.map (·.1)).Nodup
  acks : ∀ k, (getM a.acks k).isSome = b.acks.contains k
  ap : ∀ p ∈ a.acks, 0 < p.2
  vt : ∀ p ∈ a.votes, takesR b.ops p.1 n = true ∧ p.2.length = nRd (partR b.ops p.1 n)
  at' : ∀ p ∈ a.acks, takesR b.ops p.1 n = true
structure UndOk (T : List (List OpR)) (n me : Int) (p : Int × UndP) (u : UndR) : Prop where
  tx : p.1 = u.tx
  ua : UA n p.2 u
  ops : opsOf T u.tx = some u.ops
  home : homeR u.ops n = me
inductive F2 {A B : Type} (r : A → B → Prop) : List A → List B → Prop
  | nil : F2 r [] []
  | cons {a : A} {b : B} {l : List A} {m : List B} : r a b → F2 r l m → F2 r (a :: l) (b :: m)
structure RelS (T : List (List OpR)) (n : Int) (P : ShP) (R : ShR) : Prop where
  me : P.me = R.me
  mb : 0 ≤ R.me ∧ R.me < n
  n1 : P.n = n
  n2 : R.n = n
  up : P.up = R.up
  log : P.log.map EntP.recd = R.log
  lok : LogOk T n R.me P.log
  good : P.good = R.good
  gl : 0 ≤ R.good ∧ R.good ≤ R.log.length
  timers : P.timers = R.timers
  clock : P.clock = R.clock
  waits : P.waits = R.waits
  out : P.out = R.out
  wo : ∀ m ∈ R.waits, MsgOk T n m
  oo : ∀ m ∈ R.out, MsgOk T n m
  tt : ∀ t ∈ R.timers, (opsOf T t.tx).isSome = true
  kl : R.up = true → KL P.log P R.locks R.vals
  un : R.up = true → (P.und.map (·.1)).Nodup
  und : R.up = true → F2 (UndOk T n R.me) P.und R.under
  ud : R.up = true → ∀ u ∈ R.under, u.dec = true → (findR R.log 2 u.tx).isSome = true
  dn : R.up = false → P.values = [] ∧ P.locks = [] ∧ R.vals = zeros26 ∧ R.locks = [] ∧ R.waits = [] ∧ R.under = []
theorem F2.mono {A B : Type} {r r' : A → B → Prop} (f : ∀ a b, r a b → r' a b) {l : List A} {m : List B} (h : F2 r l m) : F2 r' l m := by
  induction h with
  | nil => exact .nil
  | cons h _ ih => exact .cons (f _ _ h) ih
theorem F2.app {A B : Type} {r : A → B → Prop} {l l' : List A} {m m' : List B} (h : F2 r l m) (k : F2 r l' m') : F2 r (l ++ l') (m ++ m') := by
  induction h with
  | nil => exact k
  | cons h _ ih => exact .cons h ih
theorem F2.len {A B : Type} {r : A → B → Prop} {l : List A} {m : List B} (h : F2 r l m) : l.length = m.length := by
  induction h with
  | nil => rfl
  | cons _ _ ih => simp [ih]
section
variable {T : List (List OpR)} {n me : Int}
theorem und_find {l : List (Int × UndP)} {m : List UndR} (h : F2 (UndOk T n me) l m) (tx : Int) :
    (getM l tx = none ∧ underR m tx = none) ∨ ∃ i a u, getM l tx = some a ∧ underR m tx = some i ∧ m[i]? = some u ∧ u.tx = tx ∧ UndOk T n me (tx, a) u := by
  induction h with
  | nil => exact .inl ⟨rfl, rfl⟩
  | @cons p u l m hp h ih =>
    have hc : underR (u :: m) tx = if u.tx == tx then some 0 else (underR m tx).map (· + 1) := by
      unfold underR; rw [List.findIdx?_cons]
    by_cases e : u.tx = tx
    · refine .inr ⟨0, p.2, u, ?_, by rw [hc]; simp [e], rfl, e, ?_⟩
      · unfold getM; rw [if_pos (hp.tx.trans e)]
      · rw [← e, ← hp.tx]; exact hp
    · have e2 : ¬ p.1 = tx := fun z => e (hp.tx.symm.trans z)
      have hb : (u.tx == tx) = false := by simpa using e
      rcases ih with ⟨h1, h2⟩ | ⟨i, a, v, h1, h2, h3, h4, h5⟩
      · exact .inl ⟨by unfold getM; rw [if_neg e2]; exact h1, by rw [hc, hb, h2]; rfl⟩
      · exact .inr ⟨i + 1, a, v, by unfold getM; rw [if_neg e2]; exact h1, by rw [hc, hb, h2]; rfl, by simpa using h3, h4, h5⟩
theorem und_set {l : List (Int × UndP)} {m : List UndR} (h : F2 (UndOk T n me) l m) {tx : Int} {i : Nat} {a : UndP} {v : UndR} (hi : underR m tx = some i) (hv : UndOk T n me (tx, a) v) : F2 (UndOk T n me) (setM l tx a) (m.set i v) := by
  induction h generalizing i with
  | nil => cases hi
  | @cons p u l m hp h ih =>
    have hc : underR (u :: m) tx = if u.tx == tx then some 0 else (underR m tx).map (· + 1) := by
      unfold underR; rw [List.findIdx?_cons]
    rw [hc] at hi
    by_cases e : u.tx = tx
    · have hb : (u.tx == tx) = true := by simpa using e
      rw [hb] at hi
      obtain rfl := Option.some.inj hi
      unfold setM
      rw [if_pos (hp.tx.trans e), List.set_cons_zero]
      exact .cons hv h
    · have hb : (u.tx == tx) = false := by simpa using e
      rw [hb] at hi
      obtain ⟨j, hj, rfl⟩ := Option.map_eq_some_iff.1 hi
      unfold setM
      rw [if_neg fun z => e (hp.tx.symm.trans z), List.set_cons_succ]
      exact .cons hp (ih hj)
theorem und_new {l : List (Int × UndP)} {m : List UndR} (h : F2 (UndOk T n me) l m) {tx : Int} {a : UndP} {v : UndR} (hi : underR m tx = none) (hv : UndOk T n me (tx, a) v) : F2 (UndOk T n me) (setM l tx a) (m ++ [v]) := by
  induction h with
  | nil => exact .cons hv .nil
  | @cons p u l m hp h ih =>
    have hc : underR (u :: m) tx = if u.tx == tx then some 0 else (underR m tx).map (· + 1) := by
      unfold underR; rw [List.findIdx?_cons]
    rw [hc] at hi
    by_cases e : u.tx = tx
    · have hb : (u.tx == tx) = true := by simpa using e
      rw [hb] at hi; cases hi
    · have hb : (u.tx == tx) = false := by simpa using e
      rw [hb] at hi
      unfold setM
      rw [if_neg fun z => e (hp.tx.symm.trans z)]
      exact .cons hp (ih (by simpa using hi))
theorem und_del {l : List (Int × UndP)} {m : List UndR} (h : F2 (UndOk T n me) l m) {tx : Int} {i : Nat} (hi : underR m tx = some i) : F2 (UndOk T n me) (delM l tx) (m.eraseIdx i) := by
  induction h generalizing i with
  | nil => cases hi
  | @cons p u l m hp h ih =>
    have hc : underR (u :: m) tx = if u.tx == tx then some 0 else (underR m tx).map (· + 1) := by
      unfold underR; rw [List.findIdx?_cons]
    rw [hc] at hi
    by_cases e : u.tx = tx
    · have hb : (u.tx == tx) = true := by simpa using e
      rw [hb] at hi
      obtain rfl := Option.some.inj hi
      unfold delM
      rw [if_pos (hp.tx.trans e)]
      exact h
    · have hb : (u.tx == tx) = false := by simpa using e
      rw [hb] at hi
      obtain ⟨j, hj, rfl⟩ := Option.map_eq_some_iff.1 hi
      unfold delM
      rw [if_neg fun z => e (hp.tx.symm.trans z), List.eraseIdx_cons_succ]
      exact .cons hp (ih hj)
theorem del_set {V : Type} (k : Int) (v : V) : ∀ l : List (Int × V), (getM l k).isSome = true → delM (setM l k v) k = delM l k
  | [], h => by cases h
  | p :: l, h => by
    unfold getM at h
    unfold setM
    by_cases e : p.1 = k
    · rw [if_pos e]
      conv => lhs; unfold delM
      conv => rhs; unfold delM
      simp [e]
    · rw [if_neg e] at h ⊢
      conv => lhs; unfold delM
      conv => rhs; unfold delM
      rw [if_neg e, if_neg e, del_set k v l h]
end
theorem homeR_takes {ops : List OpR} {n : Int} (h : ops ≠ []) : takesR ops (homeR ops n) n = true := by
  cases ops with
  | nil => exact absurd rfl h
  | cons o l => simp [takesR, partR, homeR]
theorem atR_lt {k n : Int} (hk : 97 ≤ k) (hn : 0 < n) : 0 ≤ atR k n ∧ atR k n < n := by
  unfold atR
  exact ⟨Int.tmod_nonneg _ (by omega), Int.tmod_lt_of_pos _ hn⟩
theorem takes_lt {ops : List OpR} {k n : Int} (hr : rightP ops) (hn : 0 < n) (h : takesR ops k n = true) : 0 ≤ k ∧ k < n := by
  unfold takesR at h
  have hne : partR ops k n ≠ [] := fun e => by rw [e] at h; simp at h
  obtain ⟨o, ho⟩ := List.exists_mem_of_ne_nil _ hne
  have h1 : o ∈ ops := part_sub.mem ho
  have h2 : atR o.k n = k := by simpa [partR, h1] using ho
  rw [← h2]; exact atR_lt (hr.1 o h1).1 hn
theorem mem_upto {n k : Int} : k ∈ upto n ↔ 0 ≤ k ∧ k < n := by
  unfold upto
  rw [List.mem_map]
  constructor
  · rintro ⟨a, ha, rfl⟩
    have := List.mem_range.1 ha
    have h2 : Int.ofNat a = (a : Int) := rfl
    omega
  · rintro ⟨h1, h2⟩
    exact ⟨k.toNat, List.mem_range.2 (by omega), by show ((k.toNat : Nat) : Int) = k; omega⟩
theorem allIn_iff {n : Int} {ops : List OpR} {p : Int → Bool} (hr : rightP ops) (hn : 0 < n) : allIn n ops p = true ↔ ∀ k, takesR ops k n = true → p k = true := by
  unfold allIn
  rw [List.all_eq_true]
  constructor
  · intro h k hk
    have := h k (mem_upto.2 (takes_lt hr hn hk))
    simpa [hk] using this
  · intro h k _
    cases hk : takesR ops k n with
    | false => simp
    | true => simp [h k hk]
theorem sub_nodup_len {a b : List Int} (ha : a.Nodup) (h : ∀ x ∈ a, x ∈ b) : a.length ≤ b.length := by
  induction a generalizing b with
  | nil => simp
  | cons x a ih =>
    rw [List.nodup_cons] at ha
    have hx := h x (List.mem_cons_self ..)
    have := ih (b := b.erase x) ha.2 fun y hy => (List.mem_erase_of_ne (fun e : y = x => ha.1 (by rw [← e]; exact hy))).2 (h y (List.mem_cons_of_mem _ hy))
    rw [List.length_erase_of_mem hx] at this
    have : 0 < b.length := List.length_pos_of_mem hx
    simp; omega
theorem sub_eq_of_len {a b : List Int} (ha : a.Nodup) (h : ∀ x ∈ a, x ∈ b) (hl : b.length ≤ a.length) : ∀ x ∈ b, x ∈ a := by
  intro x hx
  refine Classical.byContradiction fun hn => ?_
  have := sub_nodup_len (a := x :: a) (List.nodup_cons.2 ⟨hn, ha⟩) (b := b) fun y hy => by
    rcases List.mem_cons.1 hy with rfl | hy
    · exact hx
    · exact h y hy
  simp at this; omega
theorem all_by_len {V : Type} {n : Int} {ops : List OpR} {l : List (Int × V)} (hn : (l.map (·.1)).Nodup) (ht : ∀ p ∈ l, takesR ops p.1 n = true) : (partsP ops n).length ≤ l.length ↔ ∀ k, takesR ops k n = true → (getM l k).isSome = true := by
  have hsub : ∀ x ∈ l.map (·.1), x ∈ (partsP ops n).map (·.1) := fun x hx => by
    obtain ⟨p, hp, rfl⟩ := List.mem_map.1 hx
    exact (parts_key ops n p.1).2 (ht p hp)
  constructor
  · intro h k hk
    have := sub_eq_of_len hn hsub (by simpa using h) k ((parts_key ops n k).2 hk)
    cases hg : getM l k with
    | none => exact absurd this (getM_none.1 hg)
    | some v => rfl
  · intro h
    have := sub_nodup_len (parts_nodup ops n) (b := l.map (·.1)) fun x hx => by
      have := h x ((parts_key ops n x).1 hx)
      refine Classical.byContradiction fun hc => ?_
      rw [getM_none.2 hc] at this; cases this
    simpa using this
theorem eq_by_len {V : Type} {n : Int} {ops : List OpR} {l : List (Int × V)} (hn : (l.map (·.1)).Nodup) (ht : ∀ p ∈ l, takesR ops p.1 n = true) : l.length = (partsP ops n).length ↔ ∀ k, takesR ops k n = true → (getM l k).isSome = true := by
  rw [← all_by_len hn ht]
  have hsub : l.length ≤ (partsP ops n).length := by
    have := sub_nodup_len hn (b := (partsP ops n).map (·.1)) fun x hx => by
      obtain ⟨p, hp, rfl⟩ := List.mem_map.1 hx
      exact (parts_key ops n p.1).2 (ht p hp)
    simpa using this
  omega
end Go.Sl
end
section
set_option linter.unusedVariables false
namespace Go.Sl
open Go.Proofs
variable {main : Bool}
theorem send_spec {b : Nat} {s : ShV} {m : MsgV} (hl : s.out.length < 2 ^ 34) : Spec Tryz.prog main badT 192 #[.pointer (some ⟨b, 0, none⟩), .agg #[.int .i64 m.kind, .int .i64 m.frm, .int .i64 m.to, .int .i64 m.tx, .bool m.yes, m.so.v, m.sr.v]] [shP b s]
    (fun v As => As = [shP b { s with out := s.out ++ [{ m with frm := s.me }] }]) := by
  refine Spec.of ?_
  intro R C kd d F c cs hkd hret
  simp only [List.cons_append, List.nil_append]
  refine shP.opn (h := fun lg vl lk un tm wt ot => ?_)
  refine C.go ?_
  refine C.rg [0] ?_
  refine C.bx rfl (fun b3 => ?_)
  refine C.go ?_
  refine C.rg [0, 1, 2, 3, 4, 5] ?_
  refine C.mv rfl ?_
  refine C.nc rfl ?_
  refine C.fa rfl ?_
  refine C.ld rfl ?_
  refine C.fa rfl ?_
  refine C.st rfl ?_
  refine C.go ?_
  refine C.drawn [(9, 0), (10, 1), (11, 2), (12, 3), (13, 4), (14, 5), (15, 6), (16, 7), (17, 8), (18, 9)] [0, 1, 2, 3, 4, 5, 8, 9] [6, 7, 10] 1 ?_
  refine Dr.pu ⟨_, rfl, rfl⟩ (fun _ _ _ h => C.mv rfl h) ?_
  refine Dr.pu ⟨_, rfl, rfl⟩ (fun _ _ _ h => C.mv rfl h) ?_
  refine Dr.pu ⟨_, rfl, rfl⟩ (fun _ _ _ h => C.nc rfl h) ?_
  refine Dr.pu ⟨_, rfl, rfl⟩ (fun _ _ _ h => C.fa rfl h) ?_
  refine Dr.ld ⟨_, rfl, rfl⟩ (fun _ hE _ _ h => C.ld rfl h) ?_
  refine Dr.ld ⟨_, rfl, rfl⟩ (fun _ hE _ _ h => C.ldS rfl h) ?_
  refine Dr.pu ⟨_, rfl, rfl⟩ (fun _ _ _ h => C.nc rfl h) ?_
  refine Dr.pu ⟨_, rfl, rfl⟩ (fun _ _ _ h => C.fa rfl h) ?_
  refine Dr.chain rfl ?_
  refine Ch.n1 (t := 6) rfl ⟨_, rfl, fun e rest hk => ?_⟩
  refine C.bs1 rfl (fun b15 => hk _ _ .cons ?_)
  refine Ch.n1 (t := 7) rfl ⟨_, rfl, fun e rest hk => ?_⟩
  refine C.ap1 { m with frm := s.me } rfl (fun s' => ?_)
  refine hk _ _ ?_
  refine Ch.n1 (t := 10) rfl ⟨_, rfl, fun e rest hk => ?_⟩
  refine C.st rfl (hk _ undef ?_)
  refine Ch.fin ?_
  refine C.go ?_
  refine shP.cls { s with out := s.out ++ [{ m with frm := s.me }] } ?_
  exact C.finR hkd hret rfl
theorem wait_spec {b : Nat} {s : ShV} {m : MsgV} (hl : s.waits.length < 2 ^ 34) : Spec Tryz.prog main badT 212 #[.pointer (some ⟨b, 0, none⟩), .agg #[.int .i64 m.kind, .int .i64 m.frm, .int .i64 m.to, .int .i64 m.tx, .bool m.yes, m.so.v, m.sr.v]] [shP b s]
    (fun v As => As = [shP b { s with waits := s.waits ++ [{ m with frm := s.me }] }]) := by
  refine Spec.of ?_
  intro R C kd d F c cs hkd hret
  simp only [List.cons_append, List.nil_append]
  refine shP.opn (h := fun lg vl lk un tm wt ot => ?_)
  refine C.go ?_
  refine C.rg [0] ?_
  refine C.bx rfl (fun b3 => ?_)
  refine C.go ?_
  refine C.rg [0, 1, 2, 3, 4, 5] ?_
  refine C.mv rfl ?_
  refine C.nc rfl ?_
  refine C.fa rfl ?_
  refine C.ld rfl ?_
  refine C.fa rfl ?_
  refine C.st rfl ?_
  refine C.go ?_
  refine C.drawn [(9, 0), (10, 1), (11, 2), (12, 3), (13, 4), (14, 5), (15, 6), (16, 7), (17, 8), (18, 9)] [0, 1, 2, 3, 4, 5, 8, 9] [6, 7, 10] 1 ?_
  refine Dr.pu ⟨_, rfl, rfl⟩ (fun _ _ _ h => C.mv rfl h) ?_
  refine Dr.pu ⟨_, rfl, rfl⟩ (fun _ _ _ h => C.mv rfl h) ?_
  refine Dr.pu ⟨_, rfl, rfl⟩ (fun _ _ _ h => C.nc rfl h) ?_
  refine Dr.pu ⟨_, rfl, rfl⟩ (fun _ _ _ h => C.fa rfl h) ?_
  refine Dr.ld ⟨_, rfl, rfl⟩ (fun _ hE _ _ h => C.ld rfl h) ?_
  refine Dr.ld ⟨_, rfl, rfl⟩ (fun _ hE _ _ h => C.ldS rfl h) ?_
  refine Dr.pu ⟨_, rfl, rfl⟩ (fun _ _ _ h => C.nc rfl h) ?_
  refine Dr.pu ⟨_, rfl, rfl⟩ (fun _ _ _ h => C.fa rfl h) ?_
  refine Dr.chain rfl ?_
  refine Ch.n1 (t := 6) rfl ⟨_, rfl, fun e rest hk => ?_⟩
  refine C.bs1 rfl (fun b15 => hk _ _ .cons ?_)
  refine Ch.n1 (t := 7) rfl ⟨_, rfl, fun e rest hk => ?_⟩
  refine C.ap1 { m with frm := s.me } rfl (fun s' => ?_)
  refine hk _ _ ?_
  refine Ch.n1 (t := 10) rfl ⟨_, rfl, fun e rest hk => ?_⟩
  refine C.st rfl (hk _ undef ?_)
  refine Ch.fin ?_
  refine C.go ?_
  refine shP.cls { s with waits := s.waits ++ [{ m with frm := s.me }] } ?_
  exact C.finR hkd hret rfl
theorem ready_spec {b : Nat} {s : ShV} {tx : Int} (hl : s.log.length < 2 ^ 60) :
    Spec Tryz.prog main badT 163 #[.pointer (some ⟨b, 0, none⟩), .int .i64 tx] [shP b s] (fun v As => v = .int .i64 (plI (readyR s.abs.log tx)) ∧ As = [shP b s]) := by
  refine Spec.of ?_
  intro R C kd d F c cs hkd hret
  simp only [List.cons_append, List.nil_append]
  refine C.go ?_
  refine C.rg [0] ?_
  refine C.asg rfl ?_
  refine C.go ?_
  refine C.rg [0, 1, 2, 3] ?_
  refine C.mv rfl ?_
  refine C.mv rfl ?_
  refine C.clR (find_spec (by first | assumption | omega)) ?_
  rintro v As' ⟨rfl, rfl⟩
  simp only [List.cons_append, List.nil_append]
  refine C.asg rfl ?_
  refine C.go ?_
  refine C.rg [0, 1] ?_
  refine C.mv rfl ?_
  refine C.cmp rfl (fun h10 => ?_) (fun h10 => ?_)
  · skip
    refine C.go ?_
    refine C.tru ?_
    refine C.rg [0] ?_
    refine C.asg rfl ?_
    refine C.go ?_
    refine C.retR hkd hret ⟨?_, rfl⟩
    cases hf : findR s.abs.log 3 tx with
    | none => rw [hf] at h10; exact absurd h10 (by decide)
    | some i => simp [readyR, hf, plI]
  · skip
    refine C.go ?_
    refine C.fls ?_
    refine C.rg [0, 1, 2, 3] ?_
    refine C.mv rfl ?_
    refine C.mv rfl ?_
    refine C.clR (find_spec (by first | assumption | omega)) ?_
    rintro v As' ⟨rfl, rfl⟩
    simp only [List.cons_append, List.nil_append]
    refine C.asg rfl ?_
    refine C.go ?_
    refine C.retR hkd hret ⟨?_, rfl⟩
    cases hf : findR s.abs.log 3 tx with
    | none => simp [readyR, hf]
    | some i => rw [hf] at h10; exact absurd (show plI (some i) ≥ 0 from Int.natCast_nonneg i) h10
theorem und_drop (l : List UndR) (tx : Int) : ∀ i, i ≤ l.length → (∀ j (hj : j < l.length), j < i → l[j].tx ≠ tx) → underR l tx = (underR (l.drop i) tx).map (· + i) := by
  intro i
  induction i generalizing l with
  | zero => intro _ _; simp [underR]
  | succ i ih =>
    intro hi hn
    cases l with
    | nil => simp at hi
    | cons u l =>
      have h0 := hn 0 (by simp) (by omega)
      have := ih l (by simpa using hi) (fun j hj hji => hn (j + 1) (by simpa using hj) (by omega))
      unfold underR at this ⊢
      rw [List.findIdx?_cons]
      have hb : (u.tx == tx) = false := by simpa using h0
      rw [hb, List.drop_succ_cons]
      simp only [Bool.false_eq_true, if_false]
      rw [this]; simp [Function.comp_def, Nat.add_assoc]
theorem under_spec {b : Nat} {s : ShV} {tx : Int} (hl : s.under.length < 2 ^ 60) :
    Spec Tryz.prog main badT 193 #[.pointer (some ⟨b, 0, none⟩), .int .i64 tx] [shP b s] (fun v As => v = .int .i64 (plI (underR s.abs.under tx)) ∧ As = [shP b s]) := by
  refine Spec.of ?_
  intro R C kd d F c cs hkd hret
  simp only [List.cons_append, List.nil_append]
  refine shP.opn (h := fun lg vl lk un tm wt ot => ?_)
  have hal : s.abs.under.length = s.under.length := by simp [ShV.abs]
  have hget : ∀ i (hi : i < s.abs.under.length), s.abs.under[i].tx = (s.under[i]'(by omega)).tx := fun i hi => by simp [ShV.abs, UndV.abs]
  refine C.go ?_
  refine C.rg [0] ?_
  refine C.asg rfl ?_
  refine C.go ?_
  refine C.rg [0] ?_
  refine C.asg rfl ?_
  refine C.go ?_
  refine C.loopR (X := Nat) (fun i => [(0, .pointer (some ⟨b, 0, none⟩)), (1, .int .i64 tx), (5, .int .i64 i)]) (fun _ => shO b s lg vl lk un tm wt ot F) (fun i => i ≤ s.under.length ∧ ∀ j (hj : j < s.abs.under.length), j < i → s.abs.under[j].tx ≠ tx) (fun i => s.under.length - i) 0 ⟨rfl, rfl, rfl, trivial⟩ ⟨by omega, by intro j _ hj; omega⟩ ?_
  intro i e ⟨hi, hnot⟩ ih
  refine C.go ?_
  refine C.rg [0, 1, 2, 3, 4, 5, 6] ?_
  refine C.mv rfl ?_
  refine C.mv rfl ?_
  refine C.nc rfl ?_
  refine C.fa rfl ?_
  refine C.ld rfl ?_
  refine C.lnR rfl ?_
  refine C.cmp rfl (fun h12 => ?_) (fun h12 => ?_)
  · skip
    refine C.go ?_
    refine C.tru ?_
    refine C.rg [0, 1, 2, 3, 4, 5, 6, 7, 8, 9] ?_
    refine C.mv rfl ?_
    refine C.nc rfl ?_
    refine C.fa rfl ?_
    refine C.ld rfl ?_
    refine C.mv rfl ?_
    refine C.iaR rfl ?_
    refine C.fa rfl ?_
    refine C.ldR rfl ?_
    refine C.mv rfl ?_
    refine C.cmp rfl (fun h24 => ?_) (fun h24 => ?_)
    · skip
      refine C.go ?_
      refine C.tru ?_
      refine C.rg [0, 1] ?_
      refine C.mv rfl ?_
      refine C.asg rfl ?_
      refine C.go ?_
      refine shP.cls s ?_
      refine C.retR hkd hret ⟨?_, rfl⟩
      rw [und_drop s.abs.under tx i (by omega) hnot]
      have hi' : i < s.abs.under.length := by omega
      rw [List.drop_eq_getElem_cons hi']
      unfold underR
      rw [List.findIdx?_cons]
      have hb : (s.abs.under[i].tx == tx) = true := by rw [hget]; simpa using h24
      simp [hb, plI]
    · skip
      refine C.go ?_
      refine C.fls ?_
      refine C.rg [0, 1, 2] ?_
      refine C.mv rfl ?_
      refine C.ar rfl ?_
      refine C.asg rfl ?_
      refine C.go ?_
      refine again ih (i + 1) ⟨by omega, fun j hj hji => ?_⟩ (by omega)
      rcases Nat.lt_succ_iff_lt_or_eq.1 hji with h | rfl
      · exact hnot j hj h
      · rw [hget]; exact h24
  · skip
    refine C.go ?_
    refine C.fls ?_
    refine C.rg [0] ?_
    refine C.asg rfl ?_
    refine C.go ?_
    refine shP.cls s ?_
    refine C.retR hkd hret ⟨?_, rfl⟩
    rw [und_drop s.abs.under tx i (by omega) hnot, List.drop_of_length_le (by omega)]
    simp [underR, plI]
theorem locked_spec {b : Nat} {s : ShV} {key : Int} (hl : s.locks.length < 2 ^ 60) :
    Spec Tryz.prog main badT 211 #[.pointer (some ⟨b, 0, none⟩), .int .i64 key] [shP b s] (fun v As => v = .int .i64 (lockedR s.locks key) ∧ As = [shP b s]) := by
  refine Spec.of ?_
  intro R C kd d F c cs hkd hret
  simp only [List.cons_append, List.nil_append]
  refine shP.opn (h := fun lg vl lk un tm wt ot => ?_)
  refine C.go ?_
  refine C.rg [0] ?_
  refine C.asg rfl ?_
  refine C.go ?_
  refine C.rg [0] ?_
  refine C.asg rfl ?_
  refine C.go ?_
  refine C.loopR (X := Nat) (fun i => [(0, .pointer (some ⟨b, 0, none⟩)), (1, .int .i64 key), (5, .int .i64 i)]) (fun _ => shO b s lg vl lk un tm wt ot F) (fun i => i ≤ s.locks.length ∧ lockedR s.locks key = lockedR (s.locks.drop i) key) (fun i => s.locks.length - i) 0 ⟨rfl, rfl, rfl, trivial⟩ ⟨by omega, rfl⟩ ?_
  intro i e ⟨hi, hd⟩ ih
  refine C.go ?_
  refine C.rg [0, 1, 2, 3, 4, 5, 6] ?_
  refine C.mv rfl ?_
  refine C.mv rfl ?_
  refine C.nc rfl ?_
  refine C.fa rfl ?_
  refine C.ld rfl ?_
  refine C.lnR rfl ?_
  refine C.cmp rfl (fun h12 => ?_) (fun h12 => ?_)
  · skip
    refine C.go ?_
    refine C.tru ?_
    refine C.rg [0, 1, 2, 3, 4, 5, 6, 7, 8, 9] ?_
    refine C.mv rfl ?_
    refine C.nc rfl ?_
    refine C.fa rfl ?_
    refine C.ld rfl ?_
    refine C.mv rfl ?_
    refine C.iaR rfl ?_
    refine C.fa rfl ?_
    refine C.ldR rfl ?_
    refine C.mv rfl ?_
    refine C.cmp rfl (fun h24 => ?_) (fun h24 => ?_)
    · skip
      refine C.go ?_
      refine C.tru ?_
      refine C.rg [0, 1, 2, 3, 4, 5, 6, 7, 8] ?_
      refine C.mv rfl ?_
      refine C.nc rfl ?_
      refine C.fa rfl ?_
      refine C.ld rfl ?_
      refine C.mv rfl ?_
      refine C.iaR rfl ?_
      refine C.fa rfl ?_
      refine C.ldR rfl ?_
      refine C.asg rfl ?_
      refine C.go ?_
      refine shP.cls s ?_
      refine C.retR hkd hret ⟨?_, rfl⟩
      rw [hd, List.drop_eq_getElem_cons (by omega)]
      have hb : (s.locks[i].key == key) = true := by simpa using h24
      unfold lockedR
      rw [List.find?_cons, hb]; rfl
    · skip
      refine C.go ?_
      refine C.fls ?_
      refine C.rg [0, 1, 2] ?_
      refine C.mv rfl ?_
      refine C.ar rfl ?_
      refine C.asg rfl ?_
      refine C.go ?_
      refine again ih (i + 1) ⟨by omega, ?_⟩ (by omega)
      rw [hd, List.drop_eq_getElem_cons (by omega)]
      have hb : (s.locks[i].key == key) = false := by simpa using h24
      unfold lockedR
      rw [List.find?_cons, hb]
  · skip
    refine C.go ?_
    refine C.fls ?_
    refine C.rg [0] ?_
    refine C.asg rfl ?_
    refine C.go ?_
    refine shP.cls s ?_
    refine C.retR hkd hret ⟨?_, rfl⟩
    rw [hd, List.drop_of_length_le (by omega)]; rfl
theorem part_spec {I : HL} {so : SliceV} {ops : List OpR} {k n : Int} (ho : imSl I opRC 63 so ops) (hk : ∀ o ∈ ops, 97 ≤ o.k ∧ o.k ≤ 122) (hn : 0 < n) (hl : ops.length < 2 ^ 30) :
    Spec Tryz.prog main badT 194 #[so.v, .int .i64 k, .int .i64 n] [imm I] (fun v As => ∃ s' : SliceV, v = s'.v ∧ As = [slP opRC 3 63 s' (partR ops k n), imm I]) := by
  refine Spec.of ?_
  intro R C kd d F c cs hkd hret
  simp only [List.cons_append, List.nil_append]
  refine At.nilS opRC 3 63 ?_
  refine C.go ?_
  refine C.rg [0] ?_
  refine C.asg rfl ?_
  refine C.go ?_
  refine C.rg [0] ?_
  refine C.asg rfl ?_
  refine C.go ?_
  refine C.rg [0] ?_
  refine C.asg rfl ?_
  refine C.go ?_
  refine C.loopR (X := Nat × SliceV) (fun x => [(0, so.v), (1, .int .i64 k), (2, .int .i64 n), (7, x.2.v), (8, .int .i64 x.1)]) (fun x => slP opRC 3 63 x.2 (partR (ops.take x.1) k n) :: imm I :: F) (fun x => x.1 ≤ ops.length) (fun x => ops.length - x.1) (0, nilS) ⟨rfl, rfl, rfl, rfl, rfl, trivial⟩ (by simp) ?_ (hI := .refl)
  rintro ⟨i, s1⟩ e hi ih
  dsimp only at hi ⊢
  refine C.go ?_
  refine C.rg [0, 1, 2, 3] ?_
  refine C.mv rfl ?_
  refine C.mv rfl ?_
  refine C.lnR rfl ?_
  refine C.cmp rfl (fun h12 => ?_) (fun h12 => ?_)
  · skip
    refine C.go ?_
    refine C.tru ?_
    refine C.rg [0, 1, 2, 3, 4, 5, 6, 7, 8] ?_
    refine C.mv rfl ?_
    refine C.mv rfl ?_
    refine C.iaR rfl ?_
    refine C.fa rfl ?_
    refine C.ldR rfl ?_
    refine C.mv rfl ?_
    have hi' : i < ops.length := by simpa using h12
    have hkey := hk _ (List.getElem_mem hi')
    refine C.clR (at_spec (key := ops[i].k) (by omega) (by omega) hn) ?_
    rintro v As' ⟨rfl, rfl⟩
    simp only [List.nil_append]
    refine C.mv rfl ?_
    refine C.cmp rfl (fun h23 => ?_) (fun h23 => ?_)
    · skip
      refine C.go ?_
      refine C.tru ?_
      refine C.rg [0, 1, 2, 3, 4, 5, 6, 7] ?_
      refine C.mv rfl ?_
      refine C.mv rfl ?_
      refine C.mv rfl ?_
      refine C.iaR rfl ?_
      refine C.ldRS rfl (fun hj => ?_)
      refine C.bs1 rfl (fun b29 => ?_)
      refine C.ap1 ops[i] rfl (fun s2 => ?_) (hsz := by have := (part_sub (ops := ops.take i) (k := k) (n := n)).length_le; simp only [List.length_take] at this; omega)
      refine C.asg rfl ?_
      refine C.go ?_
      refine C.rg [0, 1, 2] ?_
      refine C.mv rfl ?_
      refine C.ar rfl ?_
      refine C.asg rfl ?_
      refine C.go ?_
      refine again ih (i + 1, s2) (by simp; omega) (by simp; omega) (hr := ?_)
      have e1 : partR (ops.take (i + 1)) k n = partR (ops.take i) k n ++ [ops[i]] := by
        rw [List.take_succ_eq_append_getElem hi', partR_app]; simp [partR, h23]
      rw [e1]; ((try simp only [List.cons_append, List.nil_append]); (repeat (first | with_reducible exact Reo.refl | with_reducible exact Reo.nil | with_reducible exact Fo.head | with_reducible apply Fo.tail | with_reducible apply Reo.cons | with_reducible apply Reo.drop)); done)
    · skip
      refine C.go ?_
      refine C.fls ?_
      refine C.rg [0, 1, 2] ?_
      refine C.mv rfl ?_
      refine C.ar rfl ?_
      refine C.asg rfl ?_
      refine C.go ?_
      refine again ih (i + 1, s1) (by simp; omega) (by simp; omega) (hr := ?_)
      have e1 : partR (ops.take (i + 1)) k n = partR (ops.take i) k n := by
        rw [List.take_succ_eq_append_getElem hi', partR_app]; simp [partR, h23]
      rw [e1]; ((try simp only [List.cons_append, List.nil_append]); (repeat (first | with_reducible exact Reo.refl | with_reducible exact Reo.nil | with_reducible exact Fo.head | with_reducible apply Fo.tail | with_reducible apply Reo.cons | with_reducible apply Reo.drop)); done)
  · skip
    refine C.go ?_
    refine C.fls ?_
    refine C.rg [0, 1] ?_
    refine C.mv rfl ?_
    refine C.asg rfl ?_
    refine C.go ?_
    have : ops.take i = ops := List.take_of_length_le (by simp at h12; omega)
    show At R d (slP opRC 3 63 s1 (partR (ops.take i) k n) :: imm I :: F) _
    rw [this]
    exact C.retR hkd hret ⟨s1, rfl, rfl⟩
end Go.Sl
end
section
set_option linter.unusedVariables false
namespace Go.Sl
open Go.Proofs
variable {main : Bool}
theorem takes_spec {I : HL} {so : SliceV} {ops : List OpR} {k n : Int} (ho : imSl I opRC 63 so ops) (hk : ∀ o ∈ ops, 97 ≤ o.k ∧ o.k ≤ 122) (hn : 0 < n) (hl : ops.length < 2 ^ 30) :
    Spec Tryz.prog main badT 213 #[so.v, .int .i64 k, .int .i64 n] [imm I] (fun v As => v = .bool (takesR ops k n) ∧ As = [imm I]) := by
  refine Spec.of ?_
  intro R C kd d F c cs hkd hret
  simp only [List.cons_append, List.nil_append]
  refine C.go ?_
  refine C.rg [0] ?_
  refine C.asg rfl ?_
  refine C.go ?_
  refine C.rg [0, 1, 2, 3, 4, 5, 6] ?_
  refine C.mv rfl ?_
  refine C.mv rfl ?_
  refine C.mv rfl ?_
  refine C.clR (part_spec ho hk hn hl) ?_
  rintro v As' ⟨s', rfl, rfl⟩
  simp only [List.cons_append, List.nil_append]
  refine C.lnR rfl ?_
  refine C.cmp rfl (fun h12 => ?_) (fun h12 => ?_)
  · skip
    refine C.asg rfl ?_
    refine C.go ?_
    refine C.retR hkd hret ⟨?_, rfl⟩
    unfold takesR
    cases hp : partR ops k n with
    | nil => rw [hp] at h12; simp at h12
    | cons _ _ => rfl
  · skip
    refine C.asg rfl ?_
    refine C.go ?_
    refine C.retR hkd hret ⟨?_, rfl⟩
    unfold takesR
    cases hp : partR ops k n with
    | nil => rfl
    | cons _ _ => rw [hp] at h12; simp at h12
def votedV (l : List VotV) (k : Int) : Option VotV := l.find? fun v => v.frm == k
theorem votedV_abs (u : UndV) (k : Int) : votedR u.abs k = (votedV u.votes k).map (·.toVoteR) := by
  unfold votedR votedV UndV.abs
  simp only
  rw [List.find?_map]; rfl
def votOut : Option VotV → Value
  | some w => .tuple #[.agg #[.int .i64 w.frm, w.sr.v], .bool true]
  | none => .tuple #[.agg #[.int .i64 0, nilS.v], .bool false]
theorem voted_spec {l : List VotV} {sv : SliceV} {k x0 : Int} {x1 x5 : SliceV} {x3 x4 : Bool} (hl : l.length < 2 ^ 60) : Spec Tryz.prog main badT 195 #[.agg #[.int .i64 x0, x1.v, sv.v, .bool x3, .bool x4, x5.v], .int .i64 k] [slP votC 2 290 sv l]
    (fun v As => v = votOut (votedV l k) ∧ As = [slP votC 2 290 sv l]) := by
  refine Spec.of ?_
  intro R C kd d F c cs hkd hret
  simp only [List.cons_append, List.nil_append]
  refine C.go ?_
  refine C.rg [0, 1, 2] ?_
  refine C.bx rfl (fun b2 => ?_)
  refine C.al rfl (fun b4 => ?_)
  refine C.asg rfl ?_
  refine C.go ?_
  refine C.rg [0] ?_
  refine C.asg rfl ?_
  refine C.go ?_
  refine C.loopR (X := Nat) (fun i => [(1, .int .i64 k), (2, .pointer (some ⟨b2, 0, none⟩)), (4, .pointer (some ⟨b4, 0, none⟩)), (6, .int .i64 i)]) (fun _ => pts b4 _ :: pts b2 _ :: slP votC 2 290 sv l :: F) (fun i => i ≤ l.length ∧ votedV l k = votedV (l.drop i) k) (fun i => l.length - i) 0 ⟨rfl, rfl, rfl, rfl, trivial⟩ ⟨by omega, rfl⟩ ?_
  intro i e ⟨hi, hd⟩ ih
  refine C.go ?_
  refine C.rg [0, 1, 2, 3, 4] ?_
  refine C.mv rfl ?_
  refine C.fa rfl ?_
  refine C.ld rfl ?_
  refine C.lnR rfl ?_
  refine C.cmp rfl (fun h11 => ?_) (fun h11 => ?_)
  · skip
    refine C.go ?_
    refine C.tru ?_
    refine C.rg [0, 1, 2, 3, 4, 5, 6, 7] ?_
    refine C.fa rfl ?_
    refine C.ld rfl ?_
    refine C.mv rfl ?_
    refine C.iaR rfl ?_
    refine C.fa rfl ?_
    refine C.ldR rfl ?_
    refine C.mv rfl ?_
    refine C.cmp rfl (fun h21 => ?_) (fun h21 => ?_)
    · skip
      refine C.go ?_
      refine C.tru ?_
      refine C.rg [0, 1, 2, 3, 4, 5, 6] ?_
      refine C.fa rfl ?_
      refine C.ld rfl ?_
      refine C.mv rfl ?_
      refine C.iaR rfl ?_
      refine C.ldRS rfl (fun hj => ?_)
      refine C.stS rfl ?_ (hv := fun v hv => RowF.one l[i] v (by simpa using hv))
      refine C.asg rfl ?_
      refine C.go ?_
      refine C.retL hkd hret (rs := [.cell 4 290, .tmp 5]) (.cell (.tmp rfl .nil)) ⟨?_, rfl⟩
      rw [hd, List.drop_eq_getElem_cons (by omega)]
      have hb : (l[i].frm == k) = true := by simpa using h21
      unfold votedV
      rw [List.find?_cons, hb]; rfl
    · skip
      refine C.go ?_
      refine C.fls ?_
      refine C.rg [0, 1, 2] ?_
      refine C.mv rfl ?_
      refine C.ar rfl ?_
      refine C.asg rfl ?_
      refine C.go ?_
      refine again ih (i + 1) ⟨by omega, ?_⟩ (by omega)
      rw [hd, List.drop_eq_getElem_cons (by omega)]
      have hb : (l[i].frm == k) = false := by simpa using h21
      unfold votedV
      rw [List.find?_cons, hb]
  · skip
    refine C.go ?_
    refine C.fls ?_
    refine C.rg [0, 1, 2] ?_
    refine C.bd rfl ?_
    refine C.stS rfl ?_
    refine C.asg rfl ?_
    refine C.go ?_
    refine C.retL hkd hret (rs := [.cell 4 290, .tmp 5]) (.cell (.tmp rfl .nil)) ⟨?_, rfl⟩
    rw [hd, List.drop_of_length_le (by omega)]; rfl
theorem seenR_snoc (V : List Int) (l : List OpR) (o : OpR) : seenR V (l ++ [o]) = if o.w then seenR V l else seenR V l ++ [V[(o.k - 97).toNat]?.getD 0] := by
  unfold seenR
  cases h : o.w <;> simp [List.filter_append, h]
theorem seen_spec {I : HL} {b : Nat} {s : ShV} {so : SliceV} {ops : List OpR} (ho : imSl I opRC 63 so ops) (hk : ∀ o ∈ ops, 97 ≤ o.k ∧ o.k ≤ 122) (hv : s.vals.length = 26) (hl : ops.length < 2 ^ 30) :
    Spec Tryz.prog main badT 210 #[.pointer (some ⟨b, 0, none⟩), so.v] [shP b s, imm I] (fun v As => ∃ s' : SliceV, v = s'.v ∧ As = [slP i64L 1 3 s' (seenR s.vals ops), shP b s, imm I]) := by
  refine Spec.of ?_
  intro R C kd d F c cs hkd hret
  simp only [List.cons_append, List.nil_append]
  refine shP.opn (h := fun lg vl lk un tm wt ot => ?_)
  refine At.nilS i64L 1 3 ?_
  refine C.go ?_
  refine C.rg [0] ?_
  refine C.asg rfl ?_
  refine C.go ?_
  refine C.rg [0] ?_
  refine C.asg rfl ?_
  refine C.go ?_
  refine C.rg [0] ?_
  refine C.asg rfl ?_
  refine C.go ?_
  refine C.loopR (X := Nat × SliceV) (fun x => [(0, .pointer (some ⟨b, 0, none⟩)), (1, so.v), (5, x.2.v), (6, .int .i64 x.1)]) (fun x => slP i64L 1 3 x.2 (seenR s.vals (ops.take x.1)) :: shO b s lg vl lk un tm wt ot (imm I :: F)) (fun x => x.1 ≤ ops.length) (fun x => ops.length - x.1) (0, nilS) ⟨rfl, rfl, rfl, rfl, trivial⟩ (by simp) ?_ (hI := .refl)
  rintro ⟨i, s1⟩ e hi ih
  dsimp only at hi ⊢
  refine C.go ?_
  refine C.rg [0, 1, 2, 3] ?_
  refine C.mv rfl ?_
  refine C.mv rfl ?_
  refine C.lnR rfl ?_
  refine C.cmp rfl (fun h10 => ?_) (fun h10 => ?_)
  · skip
    refine C.go ?_
    refine C.tru ?_
    have hi' : i < ops.length := by simpa using h10
    have hkey := hk _ (List.getElem_mem hi')
    obtain ⟨q, hq⟩ : ∃ q : Nat, ops[i].k - 97 = q := ⟨(ops[i].k - 97).toNat, by omega⟩
    have hq2 : q < s.vals.length := by omega
    have hq3 : (ops[i].k - 97).toNat = q := by omega
    refine C.rg [0, 1, 2, 3, 4, 5] ?_
    refine C.mv rfl ?_
    refine C.mv rfl ?_
    refine C.iaR rfl ?_
    refine C.fa rfl ?_
    refine C.ldR rfl ?_
    refine C.nt rfl ?_
    refine C.go ?_
    refine C.cnd (fun hb18 => ?_) (fun hb18 => ?_)
    · skip
      refine C.go ?_
      refine C.drawn [(19, 0), (20, 1), (21, 2), (22, 3), (23, 4), (24, 5), (25, 6), (26, 7), (27, 8), (28, 9), (29, 10), (30, 11), (31, 12), (32, 13), (33, 14), (5, 15)] [0, 1, 2, 3, 4, 5, 6, 7, 8, 9, 10, 11, 12] [13, 14, 15] 1 ?_
      refine Dr.pu ⟨_, rfl, rfl⟩ (fun _ _ _ h => C.mv rfl h) ?_
      refine Dr.pu ⟨_, rfl, rfl⟩ (fun _ _ _ h => C.mv rfl h) ?_
      refine Dr.pu ⟨_, rfl, rfl⟩ (fun _ _ _ h => C.nc rfl h) ?_
      refine Dr.pu ⟨_, rfl, rfl⟩ (fun _ _ _ h => C.fa rfl h) ?_
      refine Dr.ld ⟨_, rfl, rfl⟩ (fun _ hE _ _ h => C.ld rfl h) ?_
      refine Dr.pu ⟨_, rfl, rfl⟩ (fun _ _ _ h => C.mv rfl h) ?_
      refine Dr.pu ⟨_, rfl, rfl⟩ (fun _ _ _ h => C.mv rfl h) ?_
      refine Dr.ld ⟨_, rfl, rfl⟩ (fun _ hE _ _ h => C.iaR rfl h) ?_
      refine Dr.pu ⟨_, rfl, rfl⟩ (fun _ _ _ h => C.fa rfl h) ?_
      refine Dr.ld ⟨_, rfl, rfl⟩ (fun _ hE _ _ h => C.ldR rfl h) ?_
      refine Dr.pu ⟨_, rfl, rfl⟩ (fun _ _ _ h => C.ar rfl h (r := (q : Int)) (ha := congrArg some hq)) ?_
      refine Dr.ld ⟨_, rfl, rfl⟩ (fun _ hE _ _ h => C.iaR rfl h) ?_
      refine Dr.ld ⟨_, rfl, rfl⟩ (fun _ hE _ _ h => C.ldR0 rfl h) ?_
      refine Dr.chain rfl ?_
      refine Ch.n1 (t := 13) rfl ⟨_, rfl, fun e rest hk => ?_⟩
      refine C.bs1 rfl (fun b32 => hk _ _ .cons ?_)
      refine Ch.n1 (t := 14) rfl ⟨_, rfl, fun e rest hk => ?_⟩
      refine C.ap1 s.vals[q] rfl (fun s2 => ?_) (hsz := by have := List.length_filter_le (fun o : OpR => !o.w) (ops.take i); simp only [seenR, List.length_map, List.length_take, List.length_cons, List.length_nil] at this ⊢; omega)
      refine hk _ _ ?_
      refine Ch.pu (i := 15) ⟨_, rfl, rfl⟩ (fun _ _ _ h => C.asg rfl h) ?_
      refine Ch.fin ?_
      refine C.go ?_
      refine C.rg [0, 1, 2] ?_
      refine C.mv rfl ?_
      refine C.ar rfl ?_
      refine C.asg rfl ?_
      refine C.go ?_
      refine again ih (i + 1, s2) (by simp; omega) (by simp; omega) (hr := ?_)
      have e1 : seenR s.vals (ops.take (i + 1)) = seenR s.vals (ops.take i) ++ [s.vals[q]] := by
        have : ops[i].w = false := by simpa using hb18
        rw [List.take_succ_eq_append_getElem hi', seenR_snoc, this, hq3, List.getElem?_eq_getElem hq2]; rfl
      rw [e1]; ((try simp only [List.cons_append, List.nil_append]); (repeat (first | with_reducible exact Reo.refl | with_reducible exact Reo.nil | with_reducible exact Fo.head | with_reducible apply Fo.tail | with_reducible apply Reo.cons | with_reducible apply Reo.drop)); done)
    · skip
      refine C.go ?_
      refine C.rg [0, 1, 2] ?_
      refine C.mv rfl ?_
      refine C.ar rfl ?_
      refine C.asg rfl ?_
      refine C.go ?_
      refine again ih (i + 1, s1) (by simp; omega) (by simp; omega) (hr := ?_)
      have e1 : seenR s.vals (ops.take (i + 1)) = seenR s.vals (ops.take i) := by
        have : ops[i].w = true := by simpa using hb18
        rw [List.take_succ_eq_append_getElem hi', seenR_snoc, this]; rfl
      rw [e1]; ((try simp only [List.cons_append, List.nil_append]); (repeat (first | with_reducible exact Reo.refl | with_reducible exact Reo.nil | with_reducible exact Fo.head | with_reducible apply Fo.tail | with_reducible apply Reo.cons | with_reducible apply Reo.drop)); done)
  · skip
    refine C.go ?_
    refine C.fls ?_
    refine C.rg [0, 1] ?_
    refine C.mv rfl ?_
    refine C.asg rfl ?_
    refine C.go ?_
    have e1 : ops.take i = ops := List.take_of_length_le (by simp at h10; omega)
    simp only [e1]
    refine shP.cls s ?_
    exact C.retR hkd hret ⟨s1, rfl, rfl⟩
end Go.Sl
end
