/- The statement LineOnce: no cell is met twice, on one line, and on one and the next; for every three corners. -/
import Derived.Test.YtokjajfojjibcaaLpc
import Derived.Test.YtokjajfojjibcaaHly
import Derived.Test.YtokjajfojjibcaaRows
set_option linter.unusedSimpArgs false
set_option linter.unusedVariables false
set_option maxRecDepth 100000
set_option maxHeartbeats 2000000
namespace Go.Proofs.Ytokjajfojjibcaa
open Go.HL Go.ChangeShapes Go.WideShapes Go.ChangeAt Go.RowKit Pb
theorem own : ownKnob Try.prog.godebug = none := by kernel_rfl
theorem laid : laidOutB Try.prog = true := by kernel_rfl
set_option maxRecDepth 100000 in
theorem liftedLineOnce (os : Os) (started : os.Started) (H : Type) (enc : TypeId × Value → H) :
    ReturnsInHanded {} Try.checked os 6 .any (Rows.lineOnceSpec.pre6 enc Try.prog Try.f6 Rows.lineOnceRow.domain false) (Rows.lineOnceSpec.post enc Try.prog Try.f6 false true false false) := by
  refine returnsInHanded_of_change_sized (C := Try.checked) own started (by kernel_rfl) Try.func6
    (ChangeSpec.witness6 (enc := enc) (C := Try.checked) false ⟨#[], #[.agg #[.int .i64 0, .int .i64 0, .int .i32 0, .int .i32 0, .int .i32 0, .slice none 0 0], .agg #[.int .i64 0, .int .i64 0, .int .i32 0, .int .i32 0, .int .i32 0, .slice none 0 0], .agg #[.int .i64 0, .int .i64 0, .int .i32 0, .int .i32 0, .int .i32 0, .slice none 0 0]], []⟩ 8 (by kernel_rfl) (by kernel_rfl) (by kernel_rfl) (by kernel_rfl)) ?_
  intro W base args ds gs before hval0 hW hcnd hsz _
  have hval : ∀ (j : Nat) t v, Try.f6.params[j]? = some t → args[j]? = some v → Value.okWide Try.prog W .any base t v := hval0
  have hW' := hW
  obtain ⟨p, q, hA0, hV, rfl, hfz, hnd⟩ := hW
  have hA : DataW.TrodAll enc Try.prog W 0 (fun _ => true) true Try.f6.params.toList args.toList ds p := hA0
  have hps : Try.f6.params = #[25, 25, 25] := by kernel_rfl
  rw [hps] at hA hval
  obtain ⟨v0, vs0, d0, ds0, p0, q0, hargs, rfl, rfl, h0, r0⟩ := trodAll_cons hA
  obtain ⟨v1, vs1, d1, ds1, p1, q1, rfl, rfl, rfl, h1, r1⟩ := trodAll_cons r0
  obtain ⟨v2, vs2, d2, ds2, p2, q2, rfl, rfl, rfl, h2, r2⟩ := trodAll_cons r1
  obtain ⟨rfl, rfl, rfl⟩ := trodAll_nil r2
  obtain rfl : args = #[v0, v1, v2] := by cases args; simp_all
  obtain ⟨rfl, rfl⟩ := trodVars_none hV
  obtain ⟨x0, rfl, o0⟩ := open_win (hval 0 25 v0 rfl rfl) (arg_of hsz (j := 0) (by rfl) (by rfl) h0 8)
  obtain ⟨x1, rfl, o1⟩ := open_win (hval 1 25 v1 rfl rfl) (arg_of hsz (j := 1) (by rfl) (by rfl) h1 8)
  obtain ⟨x2, rfl, o2⟩ := open_win (hval 2 25 v2 rfl rfl) (arg_of hsz (j := 2) (by rfl) (by rfl) h2 8)
  clear hA0 hval0
  have hcall : HCalls Try.prog W 6 (Array.toList _) (fun _ => none) (fun v _ => v = .bool true) := l_LineOnce x0 x1 x2 o0 o1 o2 rfl
  refine (hcall.all (F := fun _ => False) W ⟨Below.refl _ _, fun b x h => (by cases h), fun _ h => h.elim⟩).mono fun e W' ⟨v, H', he, hv, ho⟩ => ?_
  subst he
  subst hv
  exact ⟨_, rfl, post_true (tb := 4) laid (by kernel_rfl) (by kernel_rfl) (by kernel_rfl) rfl rfl hW' ho.below⟩

/-- The statement LineOnce, of the given program. -/
theorem provedLineOnce : Rows.LineOnceSaid :=
  OpenClaim.holds_of_wide 6 Try.f6 rfl rfl rfl rfl rfl rfl rfl ⟨rfl, rfl, rfl, rfl, rfl⟩ rfl rfl rfl rfl rfl (by kernel_rfl) Try.func6 (by kernel_rfl)
    (of_decide_eq_true (by kernel_rfl)) (by unfold Func.isWrapper; first | (rw [if_pos (by decide +kernel)]; kernel_rfl) | (rw [if_neg (by decide +kernel)]; exact ⟨rfl, rfl⟩))
    (fun os started H enc _ => liftedLineOnce os started H enc)

end Go.Proofs.Ytokjajfojjibcaa
