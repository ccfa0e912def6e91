/- The statement ImageCuts: pieces are put and got as the document says; for every image, piece and bytes. -/
import Derived.Test.YtdaipgnhconfnaaIsg
import Derived.Test.YtdaipgnhconfnaaHly
import Derived.Test.YtdaipgnhconfnaaRows
set_option linter.unusedSimpArgs false
set_option linter.unusedVariables false
set_option maxRecDepth 100000
set_option maxHeartbeats 2000000
namespace Go.Proofs.Ytdaipgnhconfnaa
open Go Go.HL Go.ChangeShapes Go.WideShapes Go.ChangeAt Go.RowKit Pb
theorem own : ownKnob Try.prog.godebug = none := by kernel_rfl
theorem laid : laidOutB Try.prog = true := by kernel_rfl
def cutW (x : Int × Pc × Option Addr × List Int × Nat) : Value := cutV x.1 x.2.1 x.2.2.1 x.2.2.2.1.length x.2.2.2.2
theorem len6b {l : List Value} (h : l.length = 6) : ∃ a b c d e f, l = [a, b, c, d, e, f] := by
  match l, h with
  | [a, b, c, d, e, f], _ => exact ⟨a, b, c, d, e, f, rfl⟩
theorem okWide_cell {P : Program} {W : World} {t : TypeId} {v : Value} (hs : structT P t = true) {r : Reach} {b : Nat} (hv : Value.okWide P W r b t v) {ts : List TypeId} (hts : P.cellTypes P.depth t = some ts) {cs : List Value} (e : v = .agg cs.toArray) {i : Nat} {u : TypeId} {x : Value} (hi : cs[i]? = some x) (hu : ts[i % ts.length]? = some u) : Cell.okWide P W r b u x := by
  have hs' : ∃ fs, P.underlying t = some (.struct fs) := by
    unfold structT at hs
    split at hs <;> first | exact ⟨_, by assumption⟩ | cases hs
  obtain ⟨fs, ht⟩ := hs'
  simp only [Value.okWide, ht] at hv
  obtain ⟨cs', h1, -, ts', h3, -, h4⟩ := hv
  rw [e] at h1
  cases h1
  obtain ⟨u', hu', hc⟩ := h4 i x (by simpa using hi)
  rw [hts] at h3
  cases h3
  rw [hu] at hu'
  cases hu'
  exact hc
theorem slice_spot {P : Program} {W : World} {u e : TypeId} {r : Reach} {b n c : Nat} {a : Option Addr} (hu : P.underlying u = some (.slice e)) (h : Cell.okWide P W r b u (.slice a n c)) : plainO a := by
  unfold Cell.okWide at h
  rw [hu] at h
  simp only at h
  unfold Cell.ok at h
  rw [hu] at h
  cases a with
  | none => exact .inl rfl
  | some ad =>
    obtain ⟨b0, o, s⟩ := ad
    obtain ⟨-, -, h1⟩ := h
    obtain ⟨-, h2, -⟩ := h1
    simp only at h2
    subst h2
    exact .inr ⟨b0, o, rfl⟩
theorem ct : Try.prog.cellTypes Try.prog.depth 51 = some [3, 3, 3, 3, 3, 36] := by kernel_rfl
theorem len4 {l : List Value} (h : l.length = 4) : ∃ a b c d, l = [a, b, c, d] := by
  match l, h with
  | [a, b, c, d], _ => exact ⟨a, b, c, d, rfl⟩
theorem open_pc {W : World} {D : Nat} {cs : List Value} (h : Arg Try.prog W (D + 3) 49 cs) : ∃ p : Pc, cs = p.row := by
  have hl := arg_len (n := 4) h 0 (by kernel_rfl) (by kernel_rfl)
  obtain ⟨c0, c1, c2, c3, rfl⟩ := len4 hl
  have f0 := arg_fld (ft := 3) h (i := 0) (off := 0) (n := 1) (by kernel_rfl) (by kernel_rfl); obtain ⟨n0, e0, q0⟩ := arg_int (k := .i64) f0 (by kernel_rfl); have f1 := arg_fld (ft := 3) h (i := 1) (off := 1) (n := 1) (by kernel_rfl) (by kernel_rfl); obtain ⟨n1, e1, q1⟩ := arg_int (k := .i64) f1 (by kernel_rfl); have f2 := arg_fld (ft := 3) h (i := 2) (off := 2) (n := 1) (by kernel_rfl) (by kernel_rfl); obtain ⟨n2, e2, q2⟩ := arg_int (k := .i64) f2 (by kernel_rfl); have f3 := arg_fld (ft := 3) h (i := 3) (off := 3) (n := 1) (by kernel_rfl) (by kernel_rfl); obtain ⟨n3, e3, q3⟩ := arg_int (k := .i64) f3 (by kernel_rfl)
  simp at e0 e1 e2 e3
  subst e0 e1 e2 e3
  exact ⟨⟨n0, n1, n2, n3⟩, rfl⟩
theorem open_cut {W : World} {r : Reach} {b : Nat} {v : Value} (hv : Value.okWide Try.prog W r b 51 v) (h : Arg Try.prog W 8 51 v.cells.toList) : ∃ x : Int × Pc × Option Addr × List Int × Nat, v = cutW x ∧ BsOk W (fun _ => none) x.2.2.1 x.2.2.2.2 x.2.2.2.1 ∧ x.2.2.2.1.length ≤ 9223372036854775807 := by
  obtain ⟨cs, rfl⟩ := okWide_agg (by kernel_rfl) hv
  rw [cells_agg] at h
  have hl := arg_len (n := 6) h 0 (by kernel_rfl) (by kernel_rfl)
  obtain ⟨c0, c1, c2, c3, c4, c5, rfl⟩ := len6b hl
  have f0 := arg_fld (ft := 3) h (i := 0) (off := 0) (n := 1) (by kernel_rfl) (by kernel_rfl); obtain ⟨n0, e0, q0⟩ := arg_int (k := .i64) f0 (by kernel_rfl); have f1 := arg_fld (ft := 49) h (i := 1) (off := 1) (n := 4) (by kernel_rfl) (by kernel_rfl); have f2 := arg_fld (ft := 36) h (i := 2) (off := 5) (n := 1) (by kernel_rfl) (by kernel_rfl); obtain ⟨a2, len2, cap2, l2, e2, hl2, lc2, lb2, lm2, lw2, li2, ln2⟩ := open_intslice (e := 5) (k := .u8) (by kernel_rfl) (by kernel_rfl) (by kernel_rfl) f2
  obtain ⟨p, e1⟩ := open_pc (D := 4) f1
  unfold Pc.row at e1
  simp at e0 e1 e2
  obtain ⟨p1, p2, p3, p4⟩ := e1
  subst e0 p1 p2 p3 p4 e2 hl2
  have sp := slice_spot (e := 5) (by kernel_rfl) (okWide_cell (by kernel_rfl) hv ct rfl (i := 5) (u := 36) rfl rfl)
  exact ⟨(n0, p, a2, l2, cap2), rfl, ⟨li2, lc2, sp, fun b hb => u8_wf (lw2 b hb)⟩, Nat.le_trans lm2 (by decide)⟩
set_option maxRecDepth 100000 in
theorem liftedImageCuts (os : Os) (started : os.Started) (H : Type) (enc : TypeId × Value → H) :
    ReturnsInHanded {} Try.checked os 9 .any (Rows.imageCutsSpec.pre6 enc Try.prog Try.f9 Rows.imageCutsRow.domain false) (Rows.imageCutsSpec.post enc Try.prog Try.f9 false true false false) := by
  refine returnsInHanded_of_change_sized (C := Try.checked) own started (by kernel_rfl) Try.func9
    (ChangeSpec.witness6 (enc := enc) (C := Try.checked) false ⟨#[], #[.agg #[.int .i64 0, .slice none 0 0, .int .i64 0, .int .i64 0, .int .i64 0, .int .i64 0], .agg #[.int .i64 0, .int .i64 0, .int .i64 0, .int .i64 0, .int .i64 0, .slice none 0 0]], []⟩ 8 (by kernel_rfl) (by kernel_rfl) (by kernel_rfl) (by kernel_rfl)) ?_
  intro W base args ds gs before hval0 hW hcnd hsz _
  have hval : ∀ (j : Nat) t v, Try.f9.params[j]? = some t → args[j]? = some v → Value.okWide Try.prog W .any base t v := hval0
  have hW' := hW
  obtain ⟨p, q, hA0, hV, rfl, hfz, hnd⟩ := hW
  have hA : DataW.TrodAll enc Try.prog W 0 (fun _ => true) true Try.f9.params.toList args.toList ds p := hA0
  have hps : Try.f9.params = #[24, 51] := by kernel_rfl
  rw [hps] at hA hval
  obtain ⟨v0, vs0, d0, ds0, p0, q0, hargs, rfl, rfl, h0, r0⟩ := trodAll_cons hA
  obtain ⟨v1, vs1, d1, ds1, p1, q1, rfl, rfl, rfl, h1, r1⟩ := trodAll_cons r0
  obtain ⟨rfl, rfl, rfl⟩ := trodAll_nil r1
  obtain rfl : args = #[v0, v1] := by cases args; simp_all
  obtain ⟨rfl, rfl⟩ := trodVars_none hV
  obtain ⟨x0, rfl, o0⟩ := open_image (hval 0 24 v0 rfl rfl) (arg_of hsz (j := 0) (by rfl) (by rfl) h0 8)
  obtain ⟨x1, rfl, o1⟩ := open_cut (hval 1 51 v1 rfl rfl) (arg_of hsz (j := 1) (by rfl) (by rfl) h1 8)
  clear hA0 hval0
  have hcall : HCalls Try.prog W 9 (Array.toList _) (fun _ => none) (fun v _ => v = .bool true) := l_ImageCuts x0 o0 x1.1 x1.2.1 x1.2.2.1 x1.2.2.2.2 x1.2.2.2.1 o1.1 o1.2 rfl
  refine (hcall.all (F := fun _ => False) W ⟨Below.refl _ _, fun b x h => (by cases h), fun _ h => h.elim⟩).mono fun e W' ⟨v, H', he, hv, ho⟩ => ?_
  subst he
  subst hv
  exact ⟨_, rfl, post_true (tb := 4) laid (by kernel_rfl) (by kernel_rfl) (by kernel_rfl) rfl rfl hW' ho.below⟩

/-- The statement ImageCuts, of the given program. -/
theorem provedImageCuts : Rows.ImageCutsSaid :=
  OpenClaim.holds_of_wide 9 Try.f9 rfl rfl rfl rfl rfl rfl rfl ⟨rfl, rfl, rfl, rfl, rfl⟩ rfl rfl rfl rfl rfl (by kernel_rfl) Try.func9 (by kernel_rfl)
    (of_decide_eq_true (by kernel_rfl)) (by unfold Func.isWrapper; first | (rw [if_pos (by decide +kernel)]; kernel_rfl) | (rw [if_neg (by decide +kernel)]; exact ⟨rfl, rfl⟩))
    (fun os started H enc _ => liftedImageCuts os started H enc)

end Go.Proofs.Ytdaipgnhconfnaa
