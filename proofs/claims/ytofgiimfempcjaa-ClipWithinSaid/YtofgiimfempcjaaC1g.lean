/- The statement ClipWithin: whatever is cut lies in the window, with w above 0, and a triangle comes to 40 triangles at most; for every window and three corners. -/
import Derived.Test.YtofgiimfempcjaaClwi
import Derived.Test.YtofgiimfempcjaaHly
import Derived.Test.YtofgiimfempcjaaRows
set_option linter.unusedSimpArgs false
set_option linter.unusedVariables false
set_option maxRecDepth 100000
set_option maxHeartbeats 2000000
namespace Go.Proofs.Ytofgiimfempcjaa
open Go.HL Go.ChangeShapes Go.WideShapes Go.ChangeAt Go.RowKit Pb
theorem own : ownKnob Try.prog.godebug = none := by kernel_rfl
theorem laid : laidOutB Try.prog = true := by kernel_rfl
set_option maxRecDepth 100000 in
theorem liftedClipWithin (os : Os) (started : os.Started) (H : Type) (enc : TypeId × Value → H) :
    ReturnsInHanded {} Try.checked os 8 .any (Rows.clipWithinSpec.pre6 enc Try.prog Try.f8 Rows.clipWithinRow.domain false) (Rows.clipWithinSpec.post enc Try.prog Try.f8 false true false false) := by
  refine returnsInHanded_of_change_sized (C := Try.checked) own started (by kernel_rfl) Try.func8
    (ChangeSpec.witness6 (enc := enc) (C := Try.checked) false ⟨#[], #[.agg #[.int .i64 0, .int .i64 0, .int .i64 0, .int .i64 0, .int .i32 0, .int .i32 0], .agg #[.int .i32 0, .int .i32 0, .int .i32 0, .int .i32 0, .int .i32 0, .slice none 0 0, .int .i32 0, .int .i32 0, .int .i32 0, .int .i32 0, .int .i32 0, .slice none 0 0, .int .i32 0, .int .i32 0, .int .i32 0, .int .i32 0, .int .i32 0, .slice none 0 0]], []⟩ 8 (by kernel_rfl) (by kernel_rfl) (by kernel_rfl) (by kernel_rfl)) ?_
  intro W base args ds gs before hval0 hW hcnd hsz _
  have hval : ∀ (j : Nat) t v, Try.f8.params[j]? = some t → args[j]? = some v → Value.okWide Try.prog W .any base t v := hval0
  have hW' := hW
  obtain ⟨p, q, hA0, hV, rfl, hfz, hnd⟩ := hW
  have hA : DataW.TrodAll enc Try.prog W 0 (fun _ => true) true Try.f8.params.toList args.toList ds p := hA0
  have hps : Try.f8.params = #[24, 31] := by kernel_rfl
  rw [hps] at hA hval
  obtain ⟨v0, vs0, d0, ds0, p0, q0, hargs, rfl, rfl, h0, r0⟩ := trodAll_cons hA
  obtain ⟨v1, vs1, d1, ds1, p1, q1, rfl, rfl, rfl, h1, r1⟩ := trodAll_cons r0
  obtain ⟨rfl, rfl, rfl⟩ := trodAll_nil r1
  obtain rfl : args = #[v0, v1] := by cases args; simp_all
  obtain ⟨rfl, rfl⟩ := trodVars_none hV
  obtain ⟨c0, rfl, hc0⟩ := open_cells (D := 9) (ks := [.int .i64, .int .i64, .int .i64, .int .i64, .int .i32, .int .i32]) (by kernel_rfl) (by kernel_rfl) (hval 0 24 v0 rfl rfl) h0
  obtain ⟨g0_0, c0, rfl, w0_0, hc0⟩ := cell_int hc0
  obtain ⟨g0_1, c0, rfl, w0_1, hc0⟩ := cell_int hc0
  obtain ⟨g0_2, c0, rfl, w0_2, hc0⟩ := cell_int hc0
  obtain ⟨g0_3, c0, rfl, w0_3, hc0⟩ := cell_int hc0
  obtain ⟨g0_4, c0, rfl, w0_4, hc0⟩ := cell_int hc0
  obtain ⟨g0_5, c0, rfl, w0_5, hc0⟩ := cell_int hc0
  obtain rfl := cell_nil hc0
  obtain ⟨x1, rfl, o1⟩ := open_three (hval 1 31 v1 rfl rfl) (arg_of hsz (j := 1) (by rfl) (by rfl) h1 8)
  clear hA0 hval0
  have hcall : HCalls Try.prog W 8 (Array.toList _) (fun _ => none) (fun v _ => v = .bool true) := l_ClipWithin ⟨g0_0, g0_1, g0_2, g0_3, g0_4, g0_5⟩ x1.1 x1.2.1 x1.2.2 ⟨i64_wf w0_0, i64_wf w0_1, i64_wf w0_2, i64_wf w0_3⟩ o1.1 o1.2.1 o1.2.2 rfl
  refine (hcall.all W ⟨Below.refl _ _, fun b x h => by cases h⟩).mono fun e W' ⟨v, H', he, hv, ho⟩ => ?_
  subst he
  subst hv
  exact ⟨_, rfl, post_true (tb := 4) laid (by kernel_rfl) (by kernel_rfl) (by kernel_rfl) rfl rfl hW' ho.below⟩

/-- The statement ClipWithin, of the given program. -/
theorem provedClipWithin : Rows.ClipWithinSaid :=
  OpenClaim.holds_of_wide 8 Try.f8 rfl rfl rfl rfl rfl rfl rfl ⟨rfl, rfl, rfl, rfl, rfl⟩ rfl rfl rfl rfl rfl (by kernel_rfl) Try.func8 (by kernel_rfl)
    (of_decide_eq_true (by kernel_rfl)) (by unfold Func.isWrapper; first | (rw [if_pos (by decide +kernel)]; kernel_rfl) | (rw [if_neg (by decide +kernel)]; exact ⟨rfl, rfl⟩))
    (fun os started H enc _ => liftedClipWithin os started H enc)

end Go.Proofs.Ytofgiimfempcjaa
