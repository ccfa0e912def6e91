/- The statement ClipWindows: a corner's distance and where it lies in a window are what the document says, or refused; for every window, corner and number. -/
import Derived.Test.YtofgiimfempcjaaClw
import Derived.Test.YtofgiimfempcjaaHly
import Derived.Test.YtofgiimfempcjaaRows
set_option linter.unusedSimpArgs false
set_option linter.unusedVariables false
set_option maxRecDepth 100000
set_option maxHeartbeats 2000000
namespace Go.Proofs.Ytofgiimfempcjaa
open Go.HL Go.ChangeShapes Go.WideShapes Go.ChangeAt Go.RowKit Pb
theorem own : ownKnob Try.prog.godebug = none := by kernel_rfl
theorem laid : laidOutB Try.prog = true := by kernel_rfl
set_option maxRecDepth 100000 in
theorem liftedClipWindows (os : Os) (started : os.Started) (H : Type) (enc : TypeId × Value → H) :
    ReturnsInHanded {} Try.checked os 5 .any (Rows.clipWindowsSpec.pre6 enc Try.prog Try.f5 Rows.clipWindowsRow.domain false) (Rows.clipWindowsSpec.post enc Try.prog Try.f5 false true false false) := by
  refine returnsInHanded_of_change_sized (C := Try.checked) own started (by kernel_rfl) Try.func5
    (ChangeSpec.witness6 (enc := enc) (C := Try.checked) false ⟨#[], #[.agg #[.int .i64 0, .int .i64 0, .int .i64 0, .int .i64 0, .int .i32 0, .int .i32 0], .agg #[.int .i32 0, .int .i32 0, .int .i32 0, .int .i32 0, .int .i32 0, .slice none 0 0], .int .i64 0], []⟩ 8 (by kernel_rfl) (by kernel_rfl) (by kernel_rfl) (by kernel_rfl)) ?_
  intro W base args ds gs before hval0 hW hcnd hsz _
  have hval : ∀ (j : Nat) t v, Try.f5.params[j]? = some t → args[j]? = some v → Value.okWide Try.prog W .any base t v := hval0
  have hW' := hW
  obtain ⟨p, q, hA0, hV, rfl, hfz, hnd⟩ := hW
  have hA : DataW.TrodAll enc Try.prog W 0 (fun _ => true) true Try.f5.params.toList args.toList ds p := hA0
  have hps : Try.f5.params = #[24, 29, 3] := by kernel_rfl
  rw [hps] at hA hval
  obtain ⟨v0, vs0, d0, ds0, p0, q0, hargs, rfl, rfl, h0, r0⟩ := trodAll_cons hA
  obtain ⟨v1, vs1, d1, ds1, p1, q1, rfl, rfl, rfl, h1, r1⟩ := trodAll_cons r0
  obtain ⟨v2, vs2, d2, ds2, p2, q2, rfl, rfl, rfl, h2, r2⟩ := trodAll_cons r1
  obtain ⟨rfl, rfl, rfl⟩ := trodAll_nil r2
  obtain rfl : args = #[v0, v1, v2] := by cases args; simp_all
  obtain ⟨rfl, rfl⟩ := trodVars_none hV
  obtain ⟨c0, rfl, hc0⟩ := open_cells (D := 9) (ks := [.int .i64, .int .i64, .int .i64, .int .i64, .int .i32, .int .i32]) (by kernel_rfl) (by kernel_rfl) (hval 0 24 v0 rfl rfl) h0
  obtain ⟨g0_0, c0, rfl, w0_0, hc0⟩ := cell_int hc0
  obtain ⟨g0_1, c0, rfl, w0_1, hc0⟩ := cell_int hc0
  obtain ⟨g0_2, c0, rfl, w0_2, hc0⟩ := cell_int hc0
  obtain ⟨g0_3, c0, rfl, w0_3, hc0⟩ := cell_int hc0
  obtain ⟨g0_4, c0, rfl, w0_4, hc0⟩ := cell_int hc0
  obtain ⟨g0_5, c0, rfl, w0_5, hc0⟩ := cell_int hc0
  obtain rfl := cell_nil hc0
  obtain ⟨x1, rfl, o1⟩ := open_vert (hval 1 29 v1 rfl rfl) (arg_of hsz (j := 1) (by rfl) (by rfl) h1 8)
  obtain ⟨a2, rfl, rfl, rfl, w2⟩ := open_int (by kernel_rfl : Try.prog.underlying 3 = some (.int .i64)) (hval 2 3 v2 rfl rfl) h2
  clear hA0 hval0
  have hcall : HCalls Try.prog W 5 (Array.toList _) (fun _ => none) (fun v _ => v = .bool true) := l_ClipWindows ⟨g0_0, g0_1, g0_2, g0_3, g0_4, g0_5⟩ x1 a2 ⟨i64_wf w0_0, i64_wf w0_1, i64_wf w0_2, i64_wf w0_3⟩ o1 rfl
  refine (hcall.all W ⟨Below.refl _ _, fun b x h => by cases h⟩).mono fun e W' ⟨v, H', he, hv, ho⟩ => ?_
  subst he
  subst hv
  exact ⟨_, rfl, post_true (tb := 4) laid (by kernel_rfl) (by kernel_rfl) (by kernel_rfl) rfl rfl hW' ho.below⟩

/-- The statement ClipWindows, of the given program. -/
theorem provedClipWindows : Rows.ClipWindowsSaid :=
  OpenClaim.holds_of_wide 5 Try.f5 rfl rfl rfl rfl rfl rfl rfl ⟨rfl, rfl, rfl, rfl, rfl⟩ rfl rfl rfl rfl rfl (by kernel_rfl) Try.func5 (by kernel_rfl)
    (of_decide_eq_true (by kernel_rfl)) (by unfold Func.isWrapper; first | (rw [if_pos (by decide +kernel)]; kernel_rfl) | (rw [if_neg (by decide +kernel)]; exact ⟨rfl, rfl⟩))
    (fun os started H enc _ => liftedClipWindows os started H enc)

end Go.Proofs.Ytofgiimfempcjaa
