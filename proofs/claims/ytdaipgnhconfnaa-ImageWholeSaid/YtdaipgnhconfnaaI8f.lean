/- The statement ImageWhole: a generated image is complete, and generating it once more changes nothing; for every image. -/
import Derived.Test.YtdaipgnhconfnaaIqb
import Derived.Test.YtdaipgnhconfnaaHly
import Derived.Test.YtdaipgnhconfnaaRows
set_option linter.unusedSimpArgs false
set_option linter.unusedVariables false
set_option maxRecDepth 100000
set_option maxHeartbeats 2000000
namespace Go.Proofs.Ytdaipgnhconfnaa
open Go.HL Go.ChangeShapes Go.WideShapes Go.ChangeAt Go.RowKit Pb
theorem own : ownKnob Try.prog.godebug = none := by kernel_rfl
theorem laid : laidOutB Try.prog = true := by kernel_rfl
set_option maxRecDepth 100000 in
theorem liftedImageWhole (os : Os) (started : os.Started) (H : Type) (enc : TypeId × Value → H) :
    ReturnsInHanded {} Try.checked os 8 .any (Rows.imageWholeSpec.pre6 enc Try.prog Try.f8 Rows.imageWholeRow.domain false) (Rows.imageWholeSpec.post enc Try.prog Try.f8 false true false false) := by
  refine returnsInHanded_of_change_sized (C := Try.checked) own started (by kernel_rfl) Try.func8
    (ChangeSpec.witness6 (enc := enc) (C := Try.checked) false ⟨#[], #[.agg #[.int .i64 0, .slice none 0 0, .int .i64 0, .int .i64 0, .int .i64 0, .int .i64 0]], []⟩ 8 (by kernel_rfl) (by kernel_rfl) (by kernel_rfl) (by kernel_rfl)) ?_
  intro W base args ds gs before hval0 hW hcnd hsz _
  have hval : ∀ (j : Nat) t v, Try.f8.params[j]? = some t → args[j]? = some v → Value.okWide Try.prog W .any base t v := hval0
  have hW' := hW
  obtain ⟨p, q, hA0, hV, rfl, hfz, hnd⟩ := hW
  have hA : DataW.TrodAll enc Try.prog W 0 (fun _ => true) true Try.f8.params.toList args.toList ds p := hA0
  have hps : Try.f8.params = #[24] := by kernel_rfl
  rw [hps] at hA hval
  obtain ⟨v0, vs0, d0, ds0, p0, q0, hargs, rfl, rfl, h0, r0⟩ := trodAll_cons hA
  obtain ⟨rfl, rfl, rfl⟩ := trodAll_nil r0
  obtain rfl : args = #[v0] := by cases args; simp_all
  obtain ⟨rfl, rfl⟩ := trodVars_none hV
  obtain ⟨x0, rfl, o0⟩ := open_image (hval 0 24 v0 rfl rfl) (arg_of hsz (j := 0) (by rfl) (by rfl) h0 8)
  clear hA0 hval0
  have hcall : HCalls Try.prog W 8 (Array.toList _) (fun _ => none) (fun v _ => v = .bool true) := l_ImageWhole x0 o0 rfl
  refine (hcall.all (F := fun _ => False) W ⟨Below.refl _ _, fun b x h => (by cases h), fun _ h => h.elim⟩).mono fun e W' ⟨v, H', he, hv, ho⟩ => ?_
  subst he
  subst hv
  exact ⟨_, rfl, post_true (tb := 4) laid (by kernel_rfl) (by kernel_rfl) (by kernel_rfl) rfl rfl hW' ho.below⟩

/-- The statement ImageWhole, of the given program. -/
theorem provedImageWhole : Rows.ImageWholeSaid :=
  OpenClaim.holds_of_wide 8 Try.f8 rfl rfl rfl rfl rfl rfl rfl ⟨rfl, rfl, rfl, rfl, rfl⟩ rfl rfl rfl rfl rfl (by kernel_rfl) Try.func8 (by kernel_rfl)
    (of_decide_eq_true (by kernel_rfl)) (by unfold Func.isWrapper; first | (rw [if_pos (by decide +kernel)]; kernel_rfl) | (rw [if_neg (by decide +kernel)]; exact ⟨rfl, rfl⟩))
    (fun os started H enc _ => liftedImageWhole os started H enc)

end Go.Proofs.Ytdaipgnhconfnaa
