/- Corners in the window as arguments, and which may be, together (layer 23). -/
import Derived.Test.YtokjajfojjibcaaVsa
set_option linter.unusedSimpArgs false
set_option linter.unusedVariables false
set_option maxRecDepth 100000
set_option maxHeartbeats 4000000
namespace Go.Proofs.Ytokjajfojjibcaa
open Go Go.HL Go.RowKit Go.ChangeShapes Go.WideShapes Pb
variable {w0 : World} {H : Heap} {K : Value → Heap → Prop}

/-- A corner in the window. -/
structure Wn where
  x : Int
  y : Int
  z : Int
  w : Int
  s : Int
  l : List (Nat → Int)
structure WnR extends Wn where
  a : Option Addr
  cap : Nat
def WnR.row (x : WnR) : List Value := [.int .i64 x.x, .int .i64 x.y, .int .i32 x.z, .int .i32 x.w, .int .i32 x.s, .slice x.a x.l.length x.cap]
def WnR.v (x : WnR) : Value := .agg #[.int .i64 x.x, .int .i64 x.y, .int .i32 x.z, .int .i32 x.w, .int .i32 x.s, .slice x.a x.l.length x.cap]
structure WnOk (w0 : World) (H : Heap) (c : WnR) : Prop where
  vs : VsOk w0 H c.a c.cap c.l
  hx : I64 c.x
  hy : I64 c.y
  hz : I32 c.z
  hw : I32 c.w
  hs : I32 c.s
theorem WnOk.grow {G : Heap} {x : WnR} (h : WnOk w0 H x) (g : Grow w0 H G) : WnOk w0 G x := ⟨h.vs.grow g, h.hx, h.hy, h.hz, h.hw, h.hs⟩
section
variable {W : World}
theorem open_wrow {D : Nat} {cs : List Value} (h : Arg Try.prog W (D + 4) 25 cs) : ∃ x : WnR, cs = x.row ∧ WnOk W (fun _ => none) x := by
  have hl := arg_len (n := 6) h 0 (by kernel_rfl) (by kernel_rfl)
  obtain ⟨c0, c1, c2, c3, c4, c5, rfl⟩ := len6 hl
  have f0 := arg_fld (ft := 3) h (i := 0) (off := 0) (n := 1) (by kernel_rfl) (by kernel_rfl); obtain ⟨n0, e0, q0⟩ := arg_int (k := .i64) f0 (by kernel_rfl); have f1 := arg_fld (ft := 3) h (i := 1) (off := 1) (n := 1) (by kernel_rfl) (by kernel_rfl); obtain ⟨n1, e1, q1⟩ := arg_int (k := .i64) f1 (by kernel_rfl); have f2 := arg_fld (ft := 22) h (i := 2) (off := 2) (n := 1) (by kernel_rfl) (by kernel_rfl); obtain ⟨n2, e2, q2⟩ := arg_int (k := .i32) f2 (by kernel_rfl); have f3 := arg_fld (ft := 22) h (i := 3) (off := 3) (n := 1) (by kernel_rfl) (by kernel_rfl); obtain ⟨n3, e3, q3⟩ := arg_int (k := .i32) f3 (by kernel_rfl); have f4 := arg_fld (ft := 22) h (i := 4) (off := 4) (n := 1) (by kernel_rfl) (by kernel_rfl); obtain ⟨n4, e4, q4⟩ := arg_int (k := .i32) f4 (by kernel_rfl); have f5 := arg_fld (ft := 23) h (i := 5) (off := 5) (n := 1) (by kernel_rfl) (by kernel_rfl); obtain ⟨a5, cap5, rows5, e5, lc5, lm5, lb5, ln5, lr5, ls5⟩ := open_rows (e := 38) (sz := 4) (by kernel_rfl) (by kernel_rfl) (by decide) f5
  obtain ⟨l, rfl, hv⟩ := open_vecs (D := D) (e := 22) (by kernel_rfl) (by kernel_rfl) (by kernel_rfl) (by kernel_rfl) (by kernel_rfl) lc5 lm5 lb5 lr5 ls5
  simp at e0 e1 e2 e3 e4 e5
  subst e0 e1 e2 e3 e4 e5
  exact ⟨⟨⟨n0, n1, n2, n3, n4, l⟩, a5, cap5⟩, rfl, ⟨hv, i64_wf q0, i64_wf q1, bounds_i32 q2, bounds_i32 q3, bounds_i32 q4⟩⟩
theorem open_win {r : Reach} {b : Nat} {v : Value} (hv : Value.okWide Try.prog W r b 25 v) (h : Arg Try.prog W 8 25 v.cells.toList) : ∃ x : WnR, v = x.v ∧ WnOk W (fun _ => none) x := by
  obtain ⟨cs, rfl⟩ := okWide_agg (by kernel_rfl) hv
  rw [cells_agg] at h
  obtain ⟨x, e, hx⟩ := open_wrow (D := 4) h
  refine ⟨x, ?_, hx⟩
  obtain rfl : cs = x.row := by simpa using e
  rfl
end
/-- May a corner be? -/
def Wn.right (a : Wn) : Prop := (0 ≤ a.x ∧ a.x ≤ 16384) ∧ (0 ≤ a.y ∧ a.y ≤ 16384) ∧ 0 < a.w ∧ a.l.length ≤ 4
/- paintboxref23 Right -/
def M11 : MC :=
  .seq (.reg [⟨(some 1), .box 25 (.tmp 0), none⟩,
     ⟨(some 2), .mv (.const (.bool false)), none⟩])
  (.seq (.reg [⟨(some 3), .fa 0 (.tmp 1), none⟩,
      ⟨(some 4), .ld1 (.tmp 3), none⟩,
      ⟨(some 5), .bin .geq (.tmp 4) (.const (.int .i64 0)), none⟩,
      ⟨(some 6), .mv (.tmp 5), none⟩,
      ⟨(some 7), .fa 0 (.tmp 1), (some (6, true))⟩,
      ⟨(some 8), .ld1 (.tmp 7), (some (6, true))⟩,
      ⟨(some 9), .bin .leq (.tmp 8) (.const (.int .i64 16384)), (some (6, true))⟩,
      ⟨(some 10), .pick (.tmp 6) (.tmp 9) (.const (.bool false)), none⟩,
      ⟨(some 11), .mv (.tmp 10), none⟩,
      ⟨(some 12), .fa 1 (.tmp 1), (some (11, true))⟩,
      ⟨(some 13), .ld1 (.tmp 12), (some (11, true))⟩,
      ⟨(some 14), .bin .geq (.tmp 13) (.const (.int .i64 0)), (some (11, true))⟩,
      ⟨(some 15), .pick (.tmp 11) (.tmp 14) (.const (.bool false)), none⟩,
      ⟨(some 16), .mv (.tmp 15), none⟩,
      ⟨(some 17), .fa 1 (.tmp 1), (some (16, true))⟩,
      ⟨(some 18), .ld1 (.tmp 17), (some (16, true))⟩,
      ⟨(some 19), .bin .leq (.tmp 18) (.const (.int .i64 16384)), (some (16, true))⟩,
      ⟨(some 20), .pick (.tmp 16) (.tmp 19) (.const (.bool false)), none⟩,
      ⟨(some 21), .mv (.tmp 20), none⟩,
      ⟨(some 22), .fa 3 (.tmp 1), (some (21, true))⟩,
      ⟨(some 23), .ld1 (.tmp 22), (some (21, true))⟩,
      ⟨(some 24), .bin .gtr (.tmp 23) (.const (.int .i32 0)), (some (21, true))⟩,
      ⟨(some 25), .pick (.tmp 21) (.tmp 24) (.const (.bool false)), none⟩,
      ⟨(some 26), .mv (.tmp 25), none⟩,
      ⟨(some 27), .fa 5 (.tmp 1), (some (26, true))⟩,
      ⟨(some 28), .ld1 (.tmp 27), (some (26, true))⟩,
      ⟨(some 29), .len (.tmp 28), (some (26, true))⟩,
      ⟨(some 30), .bin .leq (.tmp 29) (.const (.int .i64 4)), (some (26, true))⟩,
      ⟨(some 31), .pick (.tmp 26) (.tmp 30) (.const (.bool false)), none⟩,
      ⟨(some 2), .mv (.tmp 31), none⟩])
   (.ret))
theorem k11 : fnOk Try.prog 11 = some (M11, [.t 2], 32) := by kernel_rfl

theorem r_Right (a : WnR) (ha : WnOk w0 H a) (h1 : a.right → K (.bool true) H) (h2 : ¬ a.right → K (.bool false) H) : HCalls Try.prog w0 11 [a.v] H K := by
  have hlm := ha.vs.lr
  have key : ∀ (G : Heap) (b : Bool), Heap.Le H G → (b = true ↔ a.right) → HL.Fin K (.bool b) G := fun G b g e => by
    cases b
    · exact Fin_mk g (h2 fun hh => by have := e.2 hh; cases this)
    · exact Fin_mk g (h1 (e.1 rfl))
  clear h1 h2 ha
  unfold Wn.right at key
  replace key : Keep _ := key
  unfold WnR.v
  refine HL.hc k11 999 ?_; unfold M11
  (all_goals (try simp only [Sq,Sr,Sh,Si,Sl,Bu,Bb,Bd,Bc,Bw,Bn,Int.reduceAdd,Int.reduceSub,Int.reduceMul,Int.reduceTDiv,Int.reduceTMod,Int.reduceMod,Int.reduceDiv,Nat.reduceLT,Nat.reduceEqDiff,Sa,Sb,Sc,Sd,Se,Sf,Sg,Int.reduceLE,Int.reduceLT,Int.reduceToNat,Int.reduceNeg,Int.reduceEq,Nat.reduceLeDiff,Nat.reducePow,Int.reducePow,reduceIte,Nat.reduceSub,Nat.reduceAdd,Nat.reduceMul,putAt,ceq,List.replicate, *])); repeat' ((first | (with_reducible refine fun _ : True => ?_) | (with_reducible refine any_h ?_) | ((first | refine AllocQ_i ?_ | refine AllocO_i ?_); intro bk hb0 hbk; try simp only [set_none'] at hbk) | ((first | refine condS_i ?_ ?_ | refine pick_i ?_ ?_ | refine gS_it ?_ ?_ | refine gS_if ?_ ?_ | refine gP_it ?_ ?_ | refine gP_if ?_ ?_) <;> (intro hc; try simp only [Int.reduceLE,Int.reduceLT,Int.reduceEq,Sn] at hc)) | (with_reducible refine KP_i ?_ ?_; · (repeat' (first | exact Heap.Le.refl _ | (refine Le_fresh (by first | exact (by simp only [*]) | exact (by simp [set_none', *])) ?_) | (refine Heap.Le.trans ?_ (Grow.le (by assumption)))))) | (with_reducible refine And.intro ?_ ?_)) <;> (try simp only [Sq,Sr,Sh,Si,Sl,Bu,Bb,Bd,Bc,Bw,Bn,Int.reduceAdd,Int.reduceSub,Int.reduceMul,Int.reduceTDiv,Int.reduceTMod,Int.reduceMod,Int.reduceDiv,Nat.reduceLT,Nat.reduceEqDiff,Sa,Sb,Sc,Sd,Se,Sf,Sg,Int.reduceLE,Int.reduceLT,Int.reduceToNat,Int.reduceNeg,Int.reduceEq,Nat.reduceLeDiff,Nat.reducePow,Int.reducePow,reduceIte,Nat.reduceSub,Nat.reduceAdd,Nat.reduceMul,putAt,ceq,List.replicate, *]))
  all_goals (refine key _ _ (by (repeat' (first | exact Heap.Le.refl _ | (with_reducible refine Le_set2 ?_) | (refine Le_known (by first | (simp only [Heap.set_same, set_ne, ne_eq, not_false_eq_true, *] <;> rfl) | fail) ?_) | (refine Le_fresh (by first | (simp only [*] <;> done) | (simp [set_none', Heap.set_same, set_ne, noneH, *] <;> done) | fail) ?_) | (refine Heap.Le.trans ?_ (Grow.le (by assumption))) | exact Le_none | (refine Le_put ?_ (by first | (simp only [Heap.set_same, set_ne, ne_eq, not_false_eq_true, *] <;> rfl) | fail)) | fail))) ?_)
  all_goals (simp only [decide_eq_true_eq, Bool.false_eq_true, false_iff, true_iff, iff_true]; omega)
end Go.Proofs.Ytokjajfojjibcaa
