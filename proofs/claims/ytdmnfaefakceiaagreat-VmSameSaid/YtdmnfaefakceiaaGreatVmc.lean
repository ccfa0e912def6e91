/- The statement VmSame, as a call (layer 18). -/
import Derived.Test.YtdmnfaefakceiaaGreatVmb
import Derived.Test.YtdmnfaefakceiaaGreatWk18
import Derived.Test.YtdmnfaefakceiaaGreatHly
set_option linter.unusedSimpArgs false
set_option linter.unusedVariables false
set_option maxRecDepth 100000
set_option maxHeartbeats 4000000
namespace Go.Proofs.YtdmnfaefakceiaaGreat
open Go.HL Go.RowKit Go.ChangeShapes Go.WideShapes Pb

theorem len4c {l : List Value} (h : l.length = 4) : ∃ a b c d, l = [a, b, c, d] := by
  match l, h with
  | [a, b, c, d], _ => exact ⟨a, b, c, d, rfl⟩
theorem len11c {l : List Value} (h : l.length = 11) : ∃ a0 a1 a2 a3 a4 a5 a6 a7 a8 a9 b0, l = [a0, a1, a2, a3, a4, a5, a6, a7, a8, a9, b0] := by
  match l, h with
  | [a0, a1, a2, a3, a4, a5, a6, a7, a8, a9, b0], _ => exact ⟨_, _, _, _, _, _, _, _, _, _, _, rfl⟩
section
variable {W : World}
theorem open_v4 {D : Nat} {t e : TypeId} {cs : List Value} (hu : Tryz.prog.underlying t = some (.array 4 e)) (hc : Tryz.prog.cellsOf t = 4) (he : Tryz.prog.cellsOf e = 1) (hi : Tryz.prog.underlying e = some (.int .i32)) (h : Arg Tryz.prog W (D + 2) t cs) : ∃ x : V4, cs = x.row ∧ I32 x.a ∧ I32 x.b ∧ I32 x.c ∧ I32 x.d := by
  obtain ⟨hl, hh⟩ := arg_arr h hu he
  rw [hc] at hl
  obtain ⟨c0, c1, c2, c3, rfl⟩ := len4c hl
  obtain ⟨n0, e0, q0⟩ := arg_int (hh 0 (by omega)) hi
  obtain ⟨n1, e1, q1⟩ := arg_int (hh 1 (by omega)) hi
  obtain ⟨n2, e2, q2⟩ := arg_int (hh 2 (by omega)) hi
  obtain ⟨n3, e3, q3⟩ := arg_int (hh 3 (by omega)) hi
  simp at e0 e1 e2 e3
  subst e0 e1 e2 e3
  exact ⟨⟨n0, n1, n2, n3⟩, rfl, bounds_i32 q0, bounds_i32 q1, bounds_i32 q2, bounds_i32 q3⟩
theorem open_res {r : Reach} {b : Nat} {v : Value} (hv : Value.okWide Tryz.prog W r b 36 v) (h : Arg Tryz.prog W 8 36 v.cells.toList) : ∃ x : Res, v = x.v ∧ ResAt W (fun _ => none) x := by
  obtain ⟨cs, rfl⟩ := okWide_agg (by kernel_rfl) hv
  rw [cells_agg] at h
  have hl := arg_len (n := 11) h 0 (by kernel_rfl) (by kernel_rfl)
  obtain ⟨a0, a1, a2, a3, a4, a5, a6, a7, a8, a9, b0, rfl⟩ := len11c hl
  have f0 := arg_fld (ft := 28) h (i := 0) (off := 0) (n := 4) (by kernel_rfl) (by kernel_rfl); have f1 := arg_fld (ft := 26) h (i := 1) (off := 4) (n := 1) (by kernel_rfl) (by kernel_rfl); obtain ⟨n1, e1, q1⟩ := arg_int (k := .i32) f1 (by kernel_rfl); have f2 := arg_fld (ft := 25) h (i := 2) (off := 5) (n := 1) (by kernel_rfl) (by kernel_rfl); obtain ⟨a2, cap2, rows2, e2, lc2, lm2, lb2, ln2, lr2, ls2⟩ := open_rows (e := 28) (sz := 4) (by kernel_rfl) (by kernel_rfl) (by decide) f2; have f3 := arg_fld (ft := 28) h (i := 3) (off := 6) (n := 4) (by kernel_rfl) (by kernel_rfl); have f4 := arg_fld (ft := 4) h (i := 4) (off := 10) (n := 1) (by kernel_rfl) (by kernel_rfl); obtain ⟨n4, e4⟩ := arg_bool f4 (by kernel_rfl)
  obtain ⟨x0, e0, -⟩ := open_v4 (e := 26) (by kernel_rfl) (by kernel_rfl) (by kernel_rfl) (by kernel_rfl) f0
  obtain ⟨x3, e3, -⟩ := open_v4 (e := 26) (by kernel_rfl) (by kernel_rfl) (by kernel_rfl) (by kernel_rfl) f3
  obtain ⟨vs, rfl, -⟩ := map_of (f := V4.row) (q := fun _ => True) rows2 fun y hy => by
    obtain ⟨z, e, -⟩ := open_v4 (D := 4) (e := 26) (by kernel_rfl) (by kernel_rfl) (by kernel_rfl) (by kernel_rfl) (lr2 y hy).2
    exact ⟨z, e, trivial⟩
  unfold V4.row at e0 e3
  simp at e0 e1 e2 e3 e4
  obtain ⟨rfl, rfl, rfl, rfl⟩ := e0
  obtain ⟨rfl, rfl, rfl, rfl⟩ := e3
  subst e1 e4
  exact ⟨⟨x0, n1, a2, cap2, vs, x3, n4⟩, by rw [e2]; rfl, ⟨ls2, by simpa using lm2, by simpa using lc2⟩⟩
end
section
variable {rec : List It → List Value → Heap → Prop} {T : List Value} {H A B : Heap} {m : Nat}
theorem any_half {f : (Nat → Heap) → It} {k : List It} (m : Nat) (A B : Heap) (hA : Heap.Le A H) (hB : Heap.Le B H) (h : rec (f (fun i => if i < m then A else B) :: k) T H) : AnyQ rec f k T H := any_subs _ (fun i => by split <;> assumption) h
theorem KP_half {k : List It} {e : Option Tmp} {ds : List Nat} {v : Value} (hd : ds.all (fun g => decide (m ≤ g)) = true) (hB : Heap.Le B H) (h : rec k (put T e v) H) : KP rec k T e (fun i => if i < m then A else B) ds v H :=
  ⟨fun g hg => by
    have := of_decide_eq_true (List.all_eq_true.1 hd g hg)
    show Heap.Le (if g < m then A else B) H
    rw [if_neg (by omega)]; exact hB, h⟩
end
theorem slc_pre {φ : Value → Prop} {z n c : Nat} {a : Option Addr} {k : IntKind} {h : Int} (h0 : 0 ≤ h) (h1 : h ≤ c) (hφ : φ (.slice a h.toNat c)) : slcQ φ z (.slice a n c) none (some (.int k h)) := by
  rcases a with _ | ⟨b, o, _ | s⟩ <;> exact ⟨h0, h1, hφ⟩
theorem rows4_take (l : List V4) (k : Nat) : (l.map V4.row).flatten.take (k * 4) = ((l.take k).map V4.row).flatten := by
  induction l generalizing k with
  | nil => simp
  | cons x l ih =>
    cases k with
    | zero => simp
    | succ k =>
      rw [List.map_cons, List.flatten_cons, List.take_succ_cons, List.map_cons, List.flatten_cons, List.take_append, List.take_of_length_le (by show 4 ≤ _; omega), show (k + 1) * 4 - x.row.length = k * 4 by show (k + 1) * 4 - 4 = _; omega, ih]
variable {w0 : World} {H G : Heap} {K : Value → Heap → Prop}
theorem slTakeV {a : Option Addr} {cs : List Value} (h : SlAt w0 H a cs) (k : Nat) : SlAt w0 H a (cs.take k) := fun hc => by
  obtain ⟨b, o, ha, hr⟩ := h (fun e => hc (by rw [e]; simp))
  refine ⟨b, o, ha, fun i hi => ?_⟩
  rw [List.length_take] at hi
  rw [List.getElem?_take, if_pos (by omega)]
  exact hr i (by omega)
def Res.cut (x : Res) : Res := { x with vs := x.vs.take 20 }
theorem cut_at {x : Res} (h : ResAt w0 H x) : ResAt w0 H x.cut := ⟨by have := slTakeV h.at_ (20 * 4); rw [rows4_take] at this; exact this, by have := h.lm; unfold Res.cut; simp only [List.length_take]; omega, by have := h.lc; unfold Res.cut; simp only [List.length_take]; omega⟩
/- paintboxlaw18 VmSame -/
def M7 : MC :=
  .seq (.reg [⟨(some 2), .box 36 (.tmp 0), none⟩,
 ⟨(some 3), .box 36 (.tmp 1), none⟩,
 ⟨(some 4), .mv (.const (.bool false)), none⟩])
 (.seq (.seq (.reg [⟨(some 5), .call 10 [], none⟩,
 ⟨(some 6), .un .not (.tmp 5), none⟩])
 (.cond (.tmp 6)
 (.seq (.reg [⟨(some 4), .mv (.const (.bool false)), none⟩])
 (.ret))
 (.skip)))
 (.seq (.any [(true, 0, [], ⟨(some 7), .fa 5 (.tmp 2), none⟩),
 (true, 1, [], ⟨(some 8), .ld1 (.tmp 7), none⟩),
 (true, 2, [], ⟨(some 9), .fa 5 (.tmp 2), none⟩),
 (true, 3, [], ⟨(some 10), .ld1 (.tmp 9), none⟩),
 (true, 4, [], ⟨(some 11), .len (.tmp 10), none⟩),
 (true, 5, [], ⟨(some 12), .mn (.tmp 11) (.const (.int .i64 20)), none⟩),
 (true, 6, [], ⟨(some 13), .slc 4 (.tmp 8) none (some (.tmp 12)), none⟩),
 (true, 7, [], ⟨(some 14), .fa 5 (.tmp 3), none⟩),
 (true, 8, [], ⟨(some 15), .ld1 (.tmp 14), none⟩),
 (true, 9, [], ⟨(some 16), .fa 5 (.tmp 3), none⟩),
 (true, 10, [], ⟨(some 17), .ld1 (.tmp 16), none⟩),
 (true, 11, [], ⟨(some 18), .len (.tmp 17), none⟩),
 (true, 12, [], ⟨(some 19), .mn (.tmp 18) (.const (.int .i64 20)), none⟩),
 (true, 13, [], ⟨(some 20), .slc 4 (.tmp 15) none (some (.tmp 19)), none⟩),
 (false, 14, [7, 8, 9, 10, 11, 12, 13], ⟨(some 21), .fa 5 (.tmp 2), none⟩),
 (false, 15, [7, 8, 9, 10, 11, 12, 13], ⟨none, .st1 (.tmp 21) (.tmp 13), none⟩),
 (false, 16, [], ⟨(some 22), .fa 5 (.tmp 3), none⟩),
 (false, 17, [], ⟨none, .st1 (.tmp 22) (.tmp 20), none⟩)])
 (.seq (.any [(true, 0, [], ⟨(some 23), .ldn 11 (.tmp 2), none⟩),
 (true, 1, [], ⟨(some 24), .ldn 11 (.tmp 3), none⟩),
 (true, 3, [], ⟨(some 26), .ldn 11 (.tmp 2), none⟩),
 (true, 4, [], ⟨(some 27), .ldn 11 (.tmp 3), none⟩),
 (false, 2, [3, 4, 8], ⟨(some 25), .call 16 [(.tmp 23), (.tmp 24)], none⟩),
 (false, 5, [8], ⟨(some 28), .call 23 [(.tmp 26), (.tmp 27)], none⟩),
 (false, 6, [8], ⟨(some 29), .eqb false (.tmp 25) (.tmp 28), none⟩),
 (false, 7, [8], ⟨(some 30), .mv (.tmp 29), none⟩),
 (true, 8, [], ⟨(some 31), .ldn 11 (.tmp 2), (some (30, true))⟩),
 (false, 9, [8], ⟨(some 32), .ldn 11 (.tmp 2), (some (30, true))⟩),
 (false, 10, [], ⟨(some 33), .call 16 [(.tmp 31), (.tmp 32)], (some (30, true))⟩),
 (false, 11, [], ⟨(some 34), .pick (.tmp 30) (.tmp 33) (.const (.bool false)), none⟩),
 (false, 12, [], ⟨(some 4), .mv (.tmp 34), none⟩)])
 (.ret))))
theorem k7 : fnOk Tryz.prog 7 = some (M7, [.t 4], 35) := by kernel_rfl

theorem l_VmSame (x y : Res) (hx : ResAt w0 H x) (hy : ResAt w0 H y) (h : K (.bool true) H) : HCalls Tryz.prog w0 7 [x.v, y.v] H K := by
  have h1 := fun (G : Heap) (K : Value → Heap → Prop) (g : Grow w0 H G) => c_SameR (w0 := w0) (H := G) (K := K) x.cut y.cut ((cut_at hx).grow g) ((cut_at hy).grow g)
  have h2 := fun (G : Heap) (K : Value → Heap → Prop) (g : Grow w0 H G) => r_SameR (w0 := w0) (H := G) (K := K) x.cut y.cut ((cut_at hx).grow g) ((cut_at hy).grow g)
  have h3 := fun (G : Heap) (K : Value → Heap → Prop) (g : Grow w0 H G) => c_SameR (w0 := w0) (H := G) (K := K) x.cut x.cut ((cut_at hx).grow g) ((cut_at hx).grow g)
  simp only [Res.same_self] at h3
  generalize x.cut.same y.cut = u at h1 h2
  have l1 := hx.lc
  have l2 := hy.lc
  clear hx hy
  obtain ⟨m, em⟩ : ∃ m, (x.vs.take 20).length = m := ⟨_, rfl⟩
  obtain ⟨m', em'⟩ : ∃ m, (y.vs.take 20).length = m := ⟨_, rfl⟩
  have em2 : m = min 20 x.vs.length := by rw [← em, List.length_take]
  have em2' : m' = min 20 y.vs.length := by rw [← em', List.length_take]
  unfold Res.v Res.row Res.cut at h1 h2 h3
  unfold Res.v Res.row
  simp only [em, em'] at h1 h2 h3
  generalize x.vs.length = n at l1 em2 ⊢
  generalize y.vs.length = n' at l2 em2' ⊢
  have e1 : (if (20 : Int) < (n : Int) then (20 : Int) else (n : Int)) = m := by split <;> omega
  have e1' : (if (20 : Int) < (n' : Int) then (20 : Int) else (n' : Int)) = m' := by split <;> omega
  have p1 : (m : Int) ≤ (x.cap : Int) := by omega
  have p2 : (m' : Int) ≤ (y.cap : Int) := by omega
  have p3 : (0 : Int) ≤ (m : Int) := by omega
  have p4 : (0 : Int) ≤ (m' : Int) := by omega
  clear em em' em2 em2' l1 l2
  replace h : Keep _ := h
  replace h1 : Keep _ := h1
  replace h2 : Keep _ := h2
  replace h3 : Keep _ := h3
  refine HL.hc k7 999 ?_; unfold M7
  (all_goals (try simp only [Sq,Sr,Sh,Si,Sl,Bu,Bb,Bd,Bc,Bw,Bn,Int.reduceAdd,Int.reduceSub,Int.reduceMul,Int.reduceTDiv,Int.reduceTMod,Int.reduceMod,Int.reduceDiv,Nat.reduceLT,Nat.reduceEqDiff,Sa,Sb,Sc,Sd,Se,Sf,Sg,Int.reduceLE,Int.reduceLT,Int.reduceToNat,Int.reduceNeg,Int.reduceEq,Nat.reduceLeDiff,Nat.reducePow,Int.reducePow,reduceIte,Nat.reduceSub,Nat.reduceAdd,Nat.reduceMul,putAt,ceq,List.replicate, *])); repeat' ((first | (with_reducible refine fun _ : True => ?_) | refine x_Wakes ?_ | ((first | refine AllocQ_i ?_ | refine AllocO_i ?_); intro bk hb0 hbk; (try simp only [set_none'] at hbk); (try (first | have hbn := Grow.none (by assumption) hbk | have hbn := Grow.none (by assumption) hbk.2 | have hbn := Grow.none (by assumption) hbk.2.2 | have hbn := Grow.none (by assumption) hbk.2.2.2 | have hbn := Grow.none (by assumption) hbk.2.2.2.2 | have hbn := Grow.none (by assumption) hbk.2.2.2.2.2)); (try simp only [set_none'] at hbn); (try (first | have hbm := Grow.none (by assumption) hbn | have hbm := Grow.none (by assumption) hbn.2 | have hbm := Grow.none (by assumption) hbn.2.2 | have hbm := Grow.none (by assumption) hbn.2.2.2 | have hbm := Grow.none (by assumption) hbn.2.2.2.2 | have hbm := Grow.none (by assumption) hbn.2.2.2.2.2)); (try simp only [set_none'] at hbm)) | ((first | refine condS_i ?_ ?_ | refine pick_i ?_ ?_ | refine gS_it ?_ ?_ | refine gS_if ?_ ?_ | refine gP_it ?_ ?_ | refine gP_if ?_ ?_) <;> (intro hc; try simp only [Int.reduceLE,Int.reduceLT,Int.reduceEq,Sn] at hc)) | (with_reducible refine KP_i ?_ ?_; · (repeat' (first | exact Heap.Le.refl _ | (with_reducible refine Le_set2 ?_) | (refine Le_known (by first | (simp only [Heap.set_same, set_ne, ne_eq, not_false_eq_true, *] <;> rfl) | fail) ?_) | (refine Le_fresh (by first | (simp only [*] <;> done) | (simp [set_none', Heap.set_same, set_ne, noneH, *] <;> done) | fail) ?_) | (refine Heap.Le.trans ?_ (Grow.le (by assumption))) | exact Le_none | (refine Le_put ?_ (by first | (simp only [Heap.set_same, set_ne, ne_eq, not_false_eq_true, *] <;> rfl) | fail)) | fail))) | (with_reducible refine And.intro ?_ ?_)) <;> (try simp only [Sq,Sr,Sh,Si,Sl,Bu,Bb,Bd,Bc,Bw,Bn,Int.reduceAdd,Int.reduceSub,Int.reduceMul,Int.reduceTDiv,Int.reduceTMod,Int.reduceMod,Int.reduceDiv,Nat.reduceLT,Nat.reduceEqDiff,Sa,Sb,Sc,Sd,Se,Sf,Sg,Int.reduceLE,Int.reduceLT,Int.reduceToNat,Int.reduceNeg,Int.reduceEq,Nat.reduceLeDiff,Nat.reducePow,Int.reducePow,reduceIte,Nat.reduceSub,Nat.reduceAdd,Nat.reduceMul,putAt,ceq,List.replicate, *]))
  rename_i b1 hb1 hn1
  refine any_half 7 (noneH.set b1 _) (noneH.set bk _) (Le_put Le_none (by simp only [Heap.set_same, set_ne, ne_eq, not_false_eq_true, *] <;> rfl)) (Le_put Le_none (by simp only [Heap.set_same, set_ne, ne_eq, not_false_eq_true, *] <;> rfl)) ?_
  cases u
  all_goals
    (all_goals (try simp only [Sq,Sr,Sh,Si,Sl,Bu,Bb,Bd,Bc,Bw,Bn,Int.reduceAdd,Int.reduceSub,Int.reduceMul,Int.reduceTDiv,Int.reduceTMod,Int.reduceMod,Int.reduceDiv,Nat.reduceLT,Nat.reduceEqDiff,Sa,Sb,Sc,Sd,Se,Sf,Sg,Int.reduceLE,Int.reduceLT,Int.reduceToNat,Int.reduceNeg,Int.reduceEq,Nat.reduceLeDiff,Nat.reducePow,Int.reducePow,reduceIte,Nat.reduceSub,Nat.reduceAdd,Nat.reduceMul,putAt,List.replicate, *])); repeat' ((first | (with_reducible refine fun _ : True => ?_) | refine KP_half rfl (by (repeat' (first | exact Heap.Le.refl _ | (with_reducible refine Le_set2 ?_) | (refine Le_known (by first | (simp only [Heap.set_same, set_ne, ne_eq, not_false_eq_true, *] <;> rfl) | fail) ?_) | (refine Le_fresh (by first | (simp only [*] <;> done) | (simp [set_none', Heap.set_same, set_ne, noneH, *] <;> done) | fail) ?_) | (refine Heap.Le.trans ?_ (Grow.le (by assumption))) | exact Le_none | (refine Le_put ?_ (by first | (simp only [Heap.set_same, set_ne, ne_eq, not_false_eq_true, *] <;> rfl) | fail)) | fail))) ?_ | refine slc_pre p3 p1 ?_ | refine slc_pre p4 p2 ?_ | refine h1 _ _ (by (repeat' (first | exact Grow.refl _ | assumption | (refine Grow_known (by first | (simp only [Heap.set_same, set_ne, ne_eq, not_false_eq_true, *] <;> rfl) | fail) ?_) | (refine Grow.set ?_ (by assumption) (by first | (simp only [*] <;> done) | (simp [set_none', Heap.set_same, set_ne, noneH, *] <;> done) | fail)) | (refine Grow.trans ?_ (by assumption))))) ?_ | refine h2 _ _ (by (repeat' (first | exact Grow.refl _ | assumption | (refine Grow_known (by first | (simp only [Heap.set_same, set_ne, ne_eq, not_false_eq_true, *] <;> rfl) | fail) ?_) | (refine Grow.set ?_ (by assumption) (by first | (simp only [*] <;> done) | (simp [set_none', Heap.set_same, set_ne, noneH, *] <;> done) | fail)) | (refine Grow.trans ?_ (by assumption))))) ?_ | refine h3 _ _ (by (repeat' (first | exact Grow.refl _ | assumption | (refine Grow_known (by first | (simp only [Heap.set_same, set_ne, ne_eq, not_false_eq_true, *] <;> rfl) | fail) ?_) | (refine Grow.set ?_ (by assumption) (by first | (simp only [*] <;> done) | (simp [set_none', Heap.set_same, set_ne, noneH, *] <;> done) | fail)) | (refine Grow.trans ?_ (by assumption))))) ?_ | (with_reducible refine any_h ?_) | ((first | refine AllocQ_i ?_ | refine AllocO_i ?_); intro bk hb0 hbk; (try simp only [set_none'] at hbk); (try (first | have hbn := Grow.none (by assumption) hbk | have hbn := Grow.none (by assumption) hbk.2 | have hbn := Grow.none (by assumption) hbk.2.2 | have hbn := Grow.none (by assumption) hbk.2.2.2 | have hbn := Grow.none (by assumption) hbk.2.2.2.2 | have hbn := Grow.none (by assumption) hbk.2.2.2.2.2)); (try simp only [set_none'] at hbn); (try (first | have hbm := Grow.none (by assumption) hbn | have hbm := Grow.none (by assumption) hbn.2 | have hbm := Grow.none (by assumption) hbn.2.2 | have hbm := Grow.none (by assumption) hbn.2.2.2 | have hbm := Grow.none (by assumption) hbn.2.2.2.2 | have hbm := Grow.none (by assumption) hbn.2.2.2.2.2)); (try simp only [set_none'] at hbm)) | ((first | refine condS_i ?_ ?_ | refine pick_i ?_ ?_ | refine gS_it ?_ ?_ | refine gS_if ?_ ?_ | refine gP_it ?_ ?_ | refine gP_if ?_ ?_) <;> (intro hc; try simp only [Int.reduceLE,Int.reduceLT,Int.reduceEq,Sn] at hc)) | (with_reducible refine KP_i ?_ ?_; · (repeat' (first | exact Heap.Le.refl _ | (with_reducible refine Le_set2 ?_) | (refine Le_known (by first | (simp only [Heap.set_same, set_ne, ne_eq, not_false_eq_true, *] <;> rfl) | fail) ?_) | (refine Le_fresh (by first | (simp only [*] <;> done) | (simp [set_none', Heap.set_same, set_ne, noneH, *] <;> done) | fail) ?_) | (refine Heap.Le.trans ?_ (Grow.le (by assumption))) | exact Le_none | (refine Le_put ?_ (by first | (simp only [Heap.set_same, set_ne, ne_eq, not_false_eq_true, *] <;> rfl) | fail)) | fail))) | (with_reducible refine And.intro ?_ ?_)) <;> (try simp only [Sq,Sr,Sh,Si,Sl,Bu,Bb,Bd,Bc,Bw,Bn,Int.reduceAdd,Int.reduceSub,Int.reduceMul,Int.reduceTDiv,Int.reduceTMod,Int.reduceMod,Int.reduceDiv,Nat.reduceLT,Nat.reduceEqDiff,Sa,Sb,Sc,Sd,Se,Sf,Sg,Int.reduceLE,Int.reduceLT,Int.reduceToNat,Int.reduceNeg,Int.reduceEq,Nat.reduceLeDiff,Nat.reducePow,Int.reducePow,reduceIte,Nat.reduceSub,Nat.reduceAdd,Nat.reduceMul,putAt,List.replicate, *]))
    exact Fin_mk (by (repeat' (first | exact Heap.Le.refl _ | (with_reducible refine Le_set2 ?_) | (refine Le_known (by first | (simp only [Heap.set_same, set_ne, ne_eq, not_false_eq_true, *] <;> rfl) | fail) ?_) | (refine Le_fresh (by first | (simp only [*] <;> done) | (simp [set_none', Heap.set_same, set_ne, noneH, *] <;> done) | fail) ?_) | (refine Heap.Le.trans ?_ (Grow.le (by assumption))) | exact Le_none | (refine Le_put ?_ (by first | (simp only [Heap.set_same, set_ne, ne_eq, not_false_eq_true, *] <;> rfl) | fail)) | fail))) (kpv h)
end Go.Proofs.YtdmnfaefakceiaaGreat
