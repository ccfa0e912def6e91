/- The statement VecPlaces: what is taken from places and laid at them is the document's; for every input. -/
import Derived.Test.YtdaejnakkingbaaFl
import Derived.Test.YtdaejnakkingbaaHly
import Derived.Test.YtdaejnakkingbaaRows
set_option linter.unusedSimpArgs false
set_option linter.unusedVariables false
set_option maxRecDepth 100000
set_option maxHeartbeats 2000000
namespace Go.Proofs.Ytdaejnakkingbaa
open Go.HL Go.ChangeShapes Go.WideShapes Go.ChangeAt Go.RowKit Pb
theorem own : ownKnob Try.prog.godebug = none := by kernel_rfl
theorem laid : laidOutB Try.prog = true := by kernel_rfl
set_option maxRecDepth 100000 in
theorem liftedVecPlaces (os : Os) (started : os.Started) (H : Type) (enc : TypeId × Value → H) :
    ReturnsInHanded {} Try.checked os 6 .any (Rows.vecPlacesSpec.pre6 enc Try.prog Try.f6 Rows.vecPlacesRow.domain false) (Rows.vecPlacesSpec.post enc Try.prog Try.f6 false true false false) := by
  refine returnsInHanded_of_change_sized (C := Try.checked) own started (by kernel_rfl) Try.func6
    (ChangeSpec.witness6 (enc := enc) (C := Try.checked) false ⟨#[], #[.agg #[.int .i32 0, .int .i32 0, .int .i32 0, .int .i32 0, .int .i32 0, .int .i32 0, .int .i32 0, .int .i32 0], .slice none 0 0], []⟩ 8 (by kernel_rfl) (by kernel_rfl) (by kernel_rfl) (by kernel_rfl)) ?_
  intro W base args ds gs before hval0 hW hcnd hsz _
  have hval : ∀ (j : Nat) t v, Try.f6.params[j]? = some t → args[j]? = some v → Value.okWide Try.prog W .any base t v := hval0
  have hW' := hW
  obtain ⟨p, q, hA0, hV, rfl, hfz, hnd⟩ := hW
  have hA : DataW.TrodAll enc Try.prog W 0 (fun _ => true) true Try.f6.params.toList args.toList ds p := hA0
  have hps : Try.f6.params = #[26, 41] := by kernel_rfl
  rw [hps] at hA hval
  obtain ⟨v0, vs0, d0, ds0, p0, q0, hargs, rfl, rfl, h0, r0⟩ := trodAll_cons hA
  obtain ⟨v1, vs1, d1, ds1, p1, q1, rfl, rfl, rfl, h1, r1⟩ := trodAll_cons r0
  obtain ⟨rfl, rfl, rfl⟩ := trodAll_nil r1
  obtain rfl : args = #[v0, v1] := by cases args; simp_all
  obtain ⟨rfl, rfl⟩ := trodVars_none hV
  obtain ⟨c0, rfl, hc0⟩ := open_cells (D := 9) (ks := List.replicate 8 (.int .i32)) (by kernel_rfl) (by kernel_rfl) (hval 0 26 v0 rfl rfl) h0
  obtain ⟨g0, rfl, w0⟩ := ints_of 8 c0 hc0
  obtain ⟨a1, c1, l1, rfl, lc1, lb1, lm1, lw1, li1, ln1⟩ := open_param_ints (k := .i64) (by kernel_rfl : Try.prog.underlying 41 = some (.slice 3)) (by kernel_rfl) (by kernel_rfl) (hval 1 41 v1 rfl rfl) (arg_of hsz (j := 1) (by rfl) (by rfl) h1 2)
  clear hA0 hval0
  have hcall : HCalls Try.prog W 6 (Array.toList _) (fun _ => none) (fun v _ => v = .bool true) := l_VecPlaces g0 (fun i => g0 (i + 4)) (fun i => bounds_i32 (w0 i)) (fun i => bounds_i32 (w0 (i + 4))) a1 c1 l1 li1 lm1 (by have := lb1; rw [show Try.prog.bytesOf 3 = 8 by kernel_rfl] at this; exact Nat.le_trans this (by decide)) rfl
  refine (hcall.all W ⟨Below.refl _ _, fun b x h => by cases h⟩).mono fun e W' ⟨v, H', he, hv, ho⟩ => ?_
  subst he
  subst hv
  exact ⟨_, rfl, post_true (tb := 4) laid (by kernel_rfl) (by kernel_rfl) (by kernel_rfl) rfl rfl hW' ho.below⟩

/-- The statement VecPlaces, of the given program. -/
theorem provedVecPlaces : Rows.VecPlacesSaid :=
  OpenClaim.holds_of_wide 6 Try.f6 rfl rfl rfl rfl rfl rfl rfl ⟨rfl, rfl, rfl, rfl, rfl⟩ rfl rfl rfl rfl rfl (by kernel_rfl) Try.func6 (by kernel_rfl)
    (of_decide_eq_true (by kernel_rfl)) (by unfold Func.isWrapper; first | (rw [if_pos (by decide +kernel)]; kernel_rfl) | (rw [if_neg (by decide +kernel)]; exact ⟨rfl, rfl⟩))
    (fun os started H enc _ => liftedVecPlaces os started H enc)

end Go.Proofs.Ytdaejnakkingbaa
