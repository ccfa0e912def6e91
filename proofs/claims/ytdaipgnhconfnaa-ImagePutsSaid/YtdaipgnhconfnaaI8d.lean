/- The statement ImagePuts: which levels can be put, and what becomes of the image, is what the document says; for every image and level. -/
import Derived.Test.YtdaipgnhconfnaaIoh
import Derived.Test.YtdaipgnhconfnaaHly
import Derived.Test.YtdaipgnhconfnaaRows
set_option linter.unusedSimpArgs false
set_option linter.unusedVariables false
set_option maxRecDepth 100000
set_option maxHeartbeats 2000000
namespace Go.Proofs.Ytdaipgnhconfnaa
open Go.HL Go.ChangeShapes Go.WideShapes Go.ChangeAt Go.RowKit Pb
theorem own : ownKnob Try.prog.godebug = none := by kernel_rfl
theorem laid : laidOutB Try.prog = true := by kernel_rfl
def putV (x : Int × Int × LvR) : Value := .agg #[.int .i64 x.1, .int .i64 x.2.1, .int .i64 x.2.2.w, .int .i64 x.2.2.h, .slice x.2.2.a x.2.2.l.length x.2.2.cap]
theorem len5 {l : List Value} (h : l.length = 5) : ∃ a b c d e, l = [a, b, c, d, e] := by
  match l, h with
  | [a, b, c, d, e], _ => exact ⟨a, b, c, d, e, rfl⟩
theorem open_put {W : World} {r : Reach} {b : Nat} {v : Value} (hv : Value.okWide Try.prog W r b 40 v) (h : Arg Try.prog W 8 40 v.cells.toList) : ∃ x : Int × Int × LvR, v = putV x ∧ I64 x.2.1 ∧ LvOk W (fun _ => none) x.2.2 := by
  obtain ⟨cs, rfl⟩ := okWide_agg (by kernel_rfl) hv
  rw [cells_agg] at h
  have hl := arg_len (n := 5) h 0 (by kernel_rfl) (by kernel_rfl)
  obtain ⟨c0, c1, c2, c3, c4, rfl⟩ := len5 hl
  have f0 := arg_fld (ft := 3) h (i := 0) (off := 0) (n := 1) (by kernel_rfl) (by kernel_rfl); obtain ⟨n0, e0, q0⟩ := arg_int (k := .i64) f0 (by kernel_rfl); have f1 := arg_fld (ft := 3) h (i := 1) (off := 1) (n := 1) (by kernel_rfl) (by kernel_rfl); obtain ⟨n1, e1, q1⟩ := arg_int (k := .i64) f1 (by kernel_rfl); have f2 := arg_fld (ft := 38) h (i := 2) (off := 2) (n := 3) (by kernel_rfl) (by kernel_rfl)
  obtain ⟨z, e2, hz⟩ := open_lv (D := 4) f2
  unfold LvR.row at e2
  simp at e0 e1 e2
  obtain ⟨e2, e3, e4⟩ := e2
  subst e0 e1 e2 e3 e4
  exact ⟨(n0, n1, z), rfl, i64_wf q1, hz⟩
set_option maxRecDepth 100000 in
theorem liftedImagePuts (os : Os) (started : os.Started) (H : Type) (enc : TypeId × Value → H) :
    ReturnsInHanded {} Try.checked os 5 .any (Rows.imagePutsSpec.pre6 enc Try.prog Try.f5 Rows.imagePutsRow.domain false) (Rows.imagePutsSpec.post enc Try.prog Try.f5 false true false false) := by
  refine returnsInHanded_of_change_sized (C := Try.checked) own started (by kernel_rfl) Try.func5
    (ChangeSpec.witness6 (enc := enc) (C := Try.checked) false ⟨#[], #[.agg #[.int .i64 0, .slice none 0 0, .int .i64 0, .int .i64 0, .int .i64 0, .int .i64 0], .agg #[.int .i64 0, .int .i64 0, .int .i64 0, .int .i64 0, .slice none 0 0]], []⟩ 8 (by kernel_rfl) (by kernel_rfl) (by kernel_rfl) (by kernel_rfl)) ?_
  intro W base args ds gs before hval0 hW hcnd hsz _
  have hval : ∀ (j : Nat) t v, Try.f5.params[j]? = some t → args[j]? = some v → Value.okWide Try.prog W .any base t v := hval0
  have hW' := hW
  obtain ⟨p, q, hA0, hV, rfl, hfz, hnd⟩ := hW
  have hA : DataW.TrodAll enc Try.prog W 0 (fun _ => true) true Try.f5.params.toList args.toList ds p := hA0
  have hps : Try.f5.params = #[24, 40] := by kernel_rfl
  rw [hps] at hA hval
  obtain ⟨v0, vs0, d0, ds0, p0, q0, hargs, rfl, rfl, h0, r0⟩ := trodAll_cons hA
  obtain ⟨v1, vs1, d1, ds1, p1, q1, rfl, rfl, rfl, h1, r1⟩ := trodAll_cons r0
  obtain ⟨rfl, rfl, rfl⟩ := trodAll_nil r1
  obtain rfl : args = #[v0, v1] := by cases args; simp_all
  obtain ⟨rfl, rfl⟩ := trodVars_none hV
  obtain ⟨x0, rfl, o0⟩ := open_image (hval 0 24 v0 rfl rfl) (arg_of hsz (j := 0) (by rfl) (by rfl) h0 8)
  obtain ⟨x1, rfl, o1⟩ := open_put (hval 1 40 v1 rfl rfl) (arg_of hsz (j := 1) (by rfl) (by rfl) h1 8)
  clear hA0 hval0
  have hcall : HCalls Try.prog W 5 (Array.toList _) (fun _ => none) (fun v _ => v = .bool true) := l_ImagePuts x0 o0 x1.1 x1.2.1 o1.1 x1.2.2 o1.2 rfl
  refine (hcall.all (F := fun _ => False) W ⟨Below.refl _ _, fun b x h => (by cases h), fun _ h => h.elim⟩).mono fun e W' ⟨v, H', he, hv, ho⟩ => ?_
  subst he
  subst hv
  exact ⟨_, rfl, post_true (tb := 4) laid (by kernel_rfl) (by kernel_rfl) (by kernel_rfl) rfl rfl hW' ho.below⟩

/-- The statement ImagePuts, of the given program. -/
theorem provedImagePuts : Rows.ImagePutsSaid :=
  OpenClaim.holds_of_wide 5 Try.f5 rfl rfl rfl rfl rfl rfl rfl ⟨rfl, rfl, rfl, rfl, rfl⟩ rfl rfl rfl rfl rfl (by kernel_rfl) Try.func5 (by kernel_rfl)
    (of_decide_eq_true (by kernel_rfl)) (by unfold Func.isWrapper; first | (rw [if_pos (by decide +kernel)]; kernel_rfl) | (rw [if_neg (by decide +kernel)]; exact ⟨rfl, rfl⟩))
    (fun os started H enc _ => liftedImagePuts os started H enc)

end Go.Proofs.Ytdaipgnhconfnaa
