/- The statement LineBetween: the number between whatever two is the document's; for every four numbers and every two w. -/
import Derived.Test.YtokjajfojjibcaaLnf
import Derived.Test.YtokjajfojjibcaaLnk
import Derived.Test.YtokjajfojjibcaaHly
import Derived.Test.YtokjajfojjibcaaRows
set_option linter.unusedSimpArgs false
set_option linter.unusedVariables false
set_option maxRecDepth 100000
set_option maxHeartbeats 2000000
namespace Go.Proofs.Ytokjajfojjibcaa
open Go.HL Go.ChangeShapes Go.WideShapes Go.ChangeAt Go.RowKit Pb
theorem own : ownKnob Try.prog.godebug = none := by kernel_rfl
theorem laid : laidOutB Try.prog = true := by kernel_rfl
set_option maxRecDepth 100000 in
theorem liftedLineBetween (os : Os) (started : os.Started) (H : Type) (enc : TypeId × Value → H) :
    ReturnsInHanded {} Try.checked os 5 .any (Rows.lineBetweenSpec.pre6 enc Try.prog Try.f5 Rows.lineBetweenRow.domain false) (Rows.lineBetweenSpec.post enc Try.prog Try.f5 false true false false) := by
  refine returnsInHanded_of_change (C := Try.checked) own started (by kernel_rfl) Try.func5
    (ChangeSpec.witness6 (enc := enc) (C := Try.checked) false ⟨#[], #[.agg #[.int .i32 0, .int .i32 0, .int .i32 0, .int .i32 0], .agg #[.int .i32 0, .int .i32 0]], []⟩ 8 (by kernel_rfl) (by kernel_rfl) (by kernel_rfl) (by kernel_rfl)) ?_
  intro W base args ds gs before hval0 hW hcnd hsz
  have hval : ∀ (j : Nat) t v, Try.f5.params[j]? = some t → args[j]? = some v → Value.okWide Try.prog W .any base t v := hval0
  have hW' := hW
  obtain ⟨p, q, hA0, hV, rfl, hfz, hnd⟩ := hW
  have hA : DataW.TrodAll enc Try.prog W 0 (fun _ => true) true Try.f5.params.toList args.toList ds p := hA0
  have hps : Try.f5.params = #[38, 39] := by kernel_rfl
  rw [hps] at hA hval
  obtain ⟨v0, vs0, d0, ds0, p0, q0, hargs, rfl, rfl, h0, r0⟩ := trodAll_cons hA
  obtain ⟨v1, vs1, d1, ds1, p1, q1, rfl, rfl, rfl, h1, r1⟩ := trodAll_cons r0
  obtain ⟨rfl, rfl, rfl⟩ := trodAll_nil r1
  obtain rfl : args = #[v0, v1] := by cases args; simp_all
  obtain ⟨rfl, rfl⟩ := trodVars_none hV
  obtain ⟨c0, rfl, hc0⟩ := open_cells_arr (D := 9) (n := 4) (e := 22) (ks := List.replicate 4 (.int .i32)) (by kernel_rfl) (by kernel_rfl) (hval 0 38 v0 rfl rfl) h0
  obtain ⟨g0, rfl, w0⟩ := ints_of 4 c0 hc0
  obtain ⟨c1, rfl, hc1⟩ := open_cells_arr (D := 9) (n := 2) (e := 22) (ks := List.replicate 2 (.int .i32)) (by kernel_rfl) (by kernel_rfl) (hval 1 39 v1 rfl rfl) h1
  obtain ⟨g1, rfl, w1⟩ := ints_of 2 c1 hc1
  clear hA0 hval0
  have hcall : HCalls Try.prog W 5 (Array.toList _) (fun _ => none) (fun v _ => v = .bool true) := l_LineBetween (fun G K hk => l_wakes hk) _ _ _ _ _ _ (bounds_i32 (w0 0)) (bounds_i32 (w0 1)) (bounds_i32 (w0 2)) (bounds_i32 (w0 3)) (bounds_i32 (w1 0)) (bounds_i32 (w1 1)) rfl
  refine (hcall.all W ⟨Below.refl _ _, fun b x h => by cases h⟩).mono fun e W' ⟨v, H', he, hv, ho⟩ => ?_
  subst he
  subst hv
  exact ⟨_, rfl, post_true (tb := 4) laid (by kernel_rfl) (by kernel_rfl) (by kernel_rfl) rfl rfl hW' ho.below⟩

/-- The statement LineBetween, of the given program. -/
theorem provedLineBetween : Rows.LineBetweenSaid :=
  OpenClaim.holds_of_wide 5 Try.f5 rfl rfl rfl rfl rfl rfl rfl ⟨rfl, rfl, rfl, rfl, rfl⟩ rfl rfl rfl rfl rfl (by kernel_rfl) Try.func5 (by kernel_rfl)
    (of_decide_eq_true (by kernel_rfl)) (by unfold Func.isWrapper; first | (rw [if_pos (by decide +kernel)]; kernel_rfl) | (rw [if_neg (by decide +kernel)]; exact ⟨rfl, rfl⟩))
    (fun os started H enc _ => liftedLineBetween os started H enc)

end Go.Proofs.Ytokjajfojjibcaa
