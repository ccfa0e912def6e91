/- The statement VmConverts: what numbers become that are converted; for all of them. -/
import Derived.Test.YtdmnfaefakceiaaGreatVmf
import Derived.Test.YtdmnfaefakceiaaGreatHly
import Derived.Test.YtdmnfaefakceiaaGreatRows
set_option linter.unusedSimpArgs false
set_option linter.unusedVariables false
set_option maxRecDepth 100000
set_option maxHeartbeats 2000000
namespace Go.Proofs.YtdmnfaefakceiaaGreat
open Go.HL Go.ChangeShapes Go.WideShapes Go.ChangeAt Go.RowKit Pb
theorem own : ownKnob Tryz.prog.godebug = none := by kernel_rfl
theorem laid : laidOutB Tryz.prog = true := by kernel_rfl
set_option maxRecDepth 100000 in
theorem liftedVmConverts (os : Os) (started : os.Started) (H : Type) (enc : TypeId × Value → H) :
    ReturnsInHanded {} Tryz.checked os 6 .any (Rows.vmConvertsSpec.pre6 enc Tryz.prog Tryz.f6 Rows.vmConvertsRow.domain false) (Rows.vmConvertsSpec.post enc Tryz.prog Tryz.f6 false true false false) := by
  refine returnsInHanded_of_change (C := Tryz.checked) own started (by kernel_rfl) Tryz.func6
    (ChangeSpec.witness6 (enc := enc) (C := Tryz.checked) false ⟨#[], #[.agg #[.int .i64 0, .int .i64 0, .int .i64 0], .agg #[.int .i64 0, .int .i64 0, .int .i64 0], .agg #[.int .i32 0, .int .i32 0, .int .i32 0, .int .i32 0]], []⟩ 8 (by kernel_rfl) (by kernel_rfl) (by kernel_rfl) (by kernel_rfl)) ?_
  intro W base args ds gs before hval0 hW hcnd hsz
  have hval : ∀ (j : Nat) t v, Tryz.f6.params[j]? = some t → args[j]? = some v → Value.okWide Tryz.prog W .any base t v := hval0
  have hW' := hW
  obtain ⟨p, q, hA0, hV, rfl, hfz, hnd⟩ := hW
  have hA : DataW.TrodAll enc Tryz.prog W 0 (fun _ => true) true Tryz.f6.params.toList args.toList ds p := hA0
  have hps : Tryz.f6.params = #[54, 54, 28] := by kernel_rfl
  rw [hps] at hA hval
  obtain ⟨v0, vs0, d0, ds0, p0, q0, hargs, rfl, rfl, h0, r0⟩ := trodAll_cons hA
  obtain ⟨v1, vs1, d1, ds1, p1, q1, rfl, rfl, rfl, h1, r1⟩ := trodAll_cons r0
  obtain ⟨v2, vs2, d2, ds2, p2, q2, rfl, rfl, rfl, h2, r2⟩ := trodAll_cons r1
  obtain ⟨rfl, rfl, rfl⟩ := trodAll_nil r2
  obtain rfl : args = #[v0, v1, v2] := by cases args; simp_all
  obtain ⟨rfl, rfl⟩ := trodVars_none hV
  obtain ⟨c0, rfl, hc0⟩ := open_cells (D := 9) (ks := List.replicate 3 (.int .i64)) (by kernel_rfl) (by kernel_rfl) (hval 0 54 v0 rfl rfl) h0
  obtain ⟨g0, rfl, w0⟩ := ints_of 3 c0 hc0
  obtain ⟨c1, rfl, hc1⟩ := open_cells (D := 9) (ks := List.replicate 3 (.int .i64)) (by kernel_rfl) (by kernel_rfl) (hval 1 54 v1 rfl rfl) h1
  obtain ⟨g1, rfl, w1⟩ := ints_of 3 c1 hc1
  obtain ⟨c2, rfl, hc2⟩ := open_cells_arr (D := 9) (n := 4) (e := 26) (ks := List.replicate 4 (.int .i32)) (by kernel_rfl) (by kernel_rfl) (hval 2 28 v2 rfl rfl) h2
  obtain ⟨g2, rfl, w2⟩ := ints_of 4 c2 hc2
  clear hA0 hval0
  have hcall : HCalls Tryz.prog W 6 (Array.toList _) (fun _ => none) (fun v _ => v = .bool true) := l_VmConverts (g0 0) (g0 1) (g0 2) (g1 0) (g1 1) (g1 2) ⟨g2 0, g2 1, g2 2, g2 3⟩ ⟨bounds_i32 (w2 0), bounds_i32 (w2 1), bounds_i32 (w2 2), bounds_i32 (w2 3)⟩ rfl
  refine (hcall.all (F := fun _ => False) W ⟨Below.refl _ _, fun b x h => (by cases h), fun _ h => h.elim⟩).mono fun e W' ⟨v, H', he, hv, ho⟩ => ?_
  subst he
  subst hv
  exact ⟨_, rfl, post_true (tb := 4) laid (by kernel_rfl) (by kernel_rfl) (by kernel_rfl) rfl rfl hW' ho.below⟩

/-- The statement VmConverts, of the given program. -/
theorem provedVmConverts : Rows.VmConvertsSaid :=
  OpenClaim.holds_of_wide 6 Tryz.f6 rfl rfl rfl rfl rfl rfl rfl ⟨rfl, rfl, rfl, rfl, rfl⟩ rfl rfl rfl rfl rfl (by kernel_rfl) Tryz.func6 (by kernel_rfl)
    (of_decide_eq_true (by kernel_rfl)) (by unfold Func.isWrapper; first | (rw [if_pos (by decide +kernel)]; kernel_rfl) | (rw [if_neg (by decide +kernel)]; exact ⟨rfl, rfl⟩))
    (fun os started H enc _ => liftedVmConverts os started H enc)

end Go.Proofs.YtdmnfaefakceiaaGreat
