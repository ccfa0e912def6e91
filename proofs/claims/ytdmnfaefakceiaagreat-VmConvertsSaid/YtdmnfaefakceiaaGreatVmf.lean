/- The statement VmConverts, as a call (layer 18). -/
import Derived.Test.YtdmnfaefakceiaaGreatVme
import Derived.Test.YtdmnfaefakceiaaGreatWk18
set_option linter.unusedSimpArgs false
set_option linter.unusedVariables false
set_option maxRecDepth 100000
set_option maxHeartbeats 4000000
namespace Go.Proofs.YtdmnfaefakceiaaGreat
open Go.HL Go.RowKit Pb
variable {w0 : World} {H G : Heap} {K : Value → Heap → Prop}

def wkV (a b c : Int) : Value := .agg #[.int .i64 a, .int .i64 b, .int .i64 c]
/- paintboxlaw18 VmConverts 1 -/
def M21 : MC :=
  .seq (.reg [⟨(some 2), .mv (.const (.bool false)), none⟩])
 (.seq (.reg [⟨(some 3), .mv (.tmp 0), none⟩,
 ⟨(some 4), .bin .geq (.tmp 3) (.const (.int .i64 1)), none⟩,
 ⟨(some 5), .mv (.tmp 4), none⟩,
 ⟨(some 6), .mv (.tmp 0), (some (5, true))⟩,
 ⟨(some 7), .bin .leq (.tmp 6) (.const (.int .i64 3)), (some (5, true))⟩,
 ⟨(some 8), .pick (.tmp 5) (.tmp 7) (.const (.bool false)), none⟩,
 ⟨(some 2), .mv (.tmp 8), none⟩])
 (.ret))
theorem k21 : fnOk Tryz.prog 21 = some (M21, [.t 2], 9) := by kernel_rfl
/- paintboxlaw18 VmConverts -/
def M6 : MC :=
  .seq (.reg [⟨(some 3), .box 54 (.tmp 0), none⟩,
 ⟨(some 4), .box 54 (.tmp 1), none⟩,
 ⟨(some 5), .box 28 (.tmp 2), none⟩,
 ⟨(some 6), .mv (.const (.bool false)), none⟩])
 (.seq (.seq (.reg [⟨(some 12), .call 10 [], none⟩,
 ⟨(some 13), .un .not (.tmp 12), none⟩])
 (.cond (.tmp 13)
 (.seq (.reg [⟨(some 6), .mv (.const (.bool false)), none⟩])
 (.ret))
 (.skip)))
 (.seq (.reg [⟨(some 15), .fa 1 (.tmp 3), none⟩,
 ⟨(some 16), .ld1 (.tmp 15), none⟩,
 ⟨(some 17), .fa 1 (.tmp 4), none⟩,
 ⟨(some 18), .ld1 (.tmp 17), none⟩,
 ⟨(some 19), .fa 2 (.tmp 3), none⟩,
 ⟨(some 20), .ld1 (.tmp 19), none⟩,
 ⟨(some 21), .ldn 4 (.tmp 5), none⟩,
 ⟨(some 22), .call 20 [(.tmp 16), (.tmp 18), (.tmp 20), (.tmp 21)], none⟩,
 ⟨(some 14), .mv (.tmp 22), none⟩,
 ⟨(some 23), .ext 0 (.tmp 14), none⟩,
 ⟨(some 24), .ext 1 (.tmp 14), none⟩,
 ⟨(some 7), .alloc 28 [(.int .i32 0), (.int .i32 0), (.int .i32 0), (.int .i32 0)], none⟩,
 ⟨none, .stn 4 (.tmp 7) (.tmp 23), none⟩,
 ⟨(some 8), .mv (.tmp 24), none⟩])
 (.seq (.reg [⟨(some 9), .mv (.func 21), none⟩])
 (.seq (.seq (.reg [⟨(some 25), .mv (.tmp 9), none⟩,
 ⟨(some 26), .fa 1 (.tmp 3), none⟩,
 ⟨(some 27), .ld1 (.tmp 26), none⟩,
 ⟨(some 28), .yv (.tmp 25) [(.tmp 27)], none⟩,
 ⟨(some 29), .un .not (.tmp 28), none⟩,
 ⟨(some 30), .mv (.tmp 29), none⟩,
 ⟨(some 31), .mv (.tmp 9), (some (30, false))⟩,
 ⟨(some 32), .fa 1 (.tmp 4), (some (30, false))⟩,
 ⟨(some 33), .ld1 (.tmp 32), (some (30, false))⟩,
 ⟨(some 34), .yv (.tmp 31) [(.tmp 33)], (some (30, false))⟩,
 ⟨(some 35), .un .not (.tmp 34), (some (30, false))⟩,
 ⟨(some 36), .pick (.tmp 30) (.const (.bool true)) (.tmp 35), none⟩,
 ⟨(some 37), .mv (.tmp 36), none⟩,
 ⟨(some 38), .fa 2 (.tmp 3), (some (37, false))⟩,
 ⟨(some 39), .ld1 (.tmp 38), (some (37, false))⟩,
 ⟨(some 40), .bin .lss (.tmp 39) (.const (.int .i64 1)), (some (37, false))⟩,
 ⟨(some 41), .pick (.tmp 37) (.const (.bool true)) (.tmp 40), none⟩,
 ⟨(some 42), .mv (.tmp 41), none⟩,
 ⟨(some 43), .fa 2 (.tmp 3), (some (42, false))⟩,
 ⟨(some 44), .ld1 (.tmp 43), (some (42, false))⟩,
 ⟨(some 45), .bin .gtr (.tmp 44) (.const (.int .i64 4)), (some (42, false))⟩,
 ⟨(some 46), .pick (.tmp 42) (.const (.bool true)) (.tmp 45), none⟩])
 (.cond (.tmp 46)
 (.seq (.reg [⟨(some 47), .mv (.tmp 8), none⟩,
 ⟨(some 48), .bin .eql (.tmp 47) (.const (.int .i64 2)), none⟩,
 ⟨(some 49), .mv (.tmp 48), none⟩,
 ⟨(some 50), .ldn 4 (.tmp 7), (some (49, true))⟩,
 ⟨(some 51), .build [(.int .i32 0), (.int .i32 0), (.int .i32 0), (.int .i32 0)] [], (some (49, true))⟩,
 ⟨(some 52), .eqa false 4 (.tmp 50) (.tmp 51), (some (49, true))⟩,
 ⟨(some 53), .pick (.tmp 49) (.tmp 52) (.const (.bool false)), none⟩,
 ⟨(some 6), .mv (.tmp 53), none⟩])
 (.ret))
 (.skip)))
 (.seq (.reg [⟨(some 10), .alloc 28 [(.int .i32 0), (.int .i32 0), (.int .i32 0), (.int .i32 0)], none⟩])
 (.seq (.seq (.reg [⟨(some 54), .fa 2 (.tmp 3), none⟩,
 ⟨(some 55), .ld1 (.tmp 54), none⟩,
 ⟨(some 56), .mv (.const (.int .i64 0)), none⟩])
 (.block 0 (.loop (.seq (.reg [⟨(some 57), .bin .lss (.tmp 56) (.tmp 55), none⟩])
 (.seq (.cond (.tmp 57)
 (.skip)
 (.exit 0))
 (.seq (.block 1 (.seq (.reg [⟨(some 58), .mv (.tmp 56), none⟩,
 ⟨(some 11), .mv (.tmp 58), none⟩])
 (.any [(true, 0, [], ⟨(some 59), .mv (.tmp 11), none⟩),
 (true, 1, [], ⟨(some 60), .fa 1 (.tmp 3), none⟩),
 (true, 2, [], ⟨(some 61), .ld1 (.tmp 60), none⟩),
 (true, 3, [], ⟨(some 62), .fa 1 (.tmp 4), none⟩),
 (true, 4, [], ⟨(some 63), .ld1 (.tmp 62), none⟩),
 (false, 5, [0, 1, 2, 3, 4], ⟨(some 64), .mv (.tmp 11), none⟩),
 (false, 6, [0, 1, 2, 3, 4], ⟨(some 65), .ia 4 1 (.tmp 5) (.tmp 64), none⟩),
 (false, 7, [0, 1, 2, 3, 4], ⟨(some 66), .ld1 (.tmp 65), none⟩),
 (false, 8, [0], ⟨(some 67), .call 22 [(.tmp 61), (.tmp 63), (.tmp 66)], none⟩),
 (false, 9, [], ⟨(some 68), .ia 4 1 (.tmp 10) (.tmp 59), none⟩),
 (false, 10, [], ⟨none, .st1 (.tmp 68) (.tmp 67), none⟩)])))
 (.reg [⟨(some 69), .bin .add (.tmp 56) (.const (.int .i64 1)), none⟩,
 ⟨(some 56), .mv (.tmp 69), none⟩])))))))
 (.seq (.reg [⟨(some 70), .mv (.tmp 8), none⟩,
 ⟨(some 71), .bin .eql (.tmp 70) (.const (.int .i64 0)), none⟩,
 ⟨(some 72), .mv (.tmp 71), none⟩,
 ⟨(some 73), .ldn 4 (.tmp 7), (some (72, true))⟩,
 ⟨(some 74), .ldn 4 (.tmp 10), (some (72, true))⟩,
 ⟨(some 75), .eqa false 4 (.tmp 73) (.tmp 74), (some (72, true))⟩,
 ⟨(some 76), .pick (.tmp 72) (.tmp 75) (.const (.bool false)), none⟩,
 ⟨(some 6), .mv (.tmp 76), none⟩])
 (.ret))))))))
theorem k6 : fnOk Tryz.prog 6 = some (M6, [.t 6], 77) := by kernel_rfl

theorem l_base1 (x : Int) (h : K (.bool (decide (1 ≤ x) && decide (x ≤ 3))) H) : HCalls Tryz.prog w0 21 [.int .i64 x] H K := by
  by_cases h1 : 1 ≤ x
  · rw [decide_eq_true h1, Bool.true_and] at h
    refine HL.hc k21 999 ?_; unfold M21
    (all_goals (try simp only [Sq,Sr,Sh,Si,Sl,Bu,Bb,Bd,Bc,Bw,Bn,Int.reduceAdd,Int.reduceSub,Int.reduceMul,Int.reduceTDiv,Int.reduceTMod,Int.reduceMod,Int.reduceDiv,Nat.reduceLT,Nat.reduceEqDiff,Sa,Sb,Sc,Sd,Se,Sf,Sg,Int.reduceLE,Int.reduceLT,Int.reduceToNat,Int.reduceNeg,Int.reduceEq,Nat.reduceLeDiff,Nat.reducePow,Int.reducePow,reduceIte,Nat.reduceSub,Nat.reduceAdd,Nat.reduceMul,putAt,ceq,List.replicate, *])); repeat' ((first | (with_reducible refine fun _ : True => ?_) | (with_reducible refine any_h ?_) | ((first | refine AllocQ_i ?_ | refine AllocO_i ?_); intro bk hb0 hbk; (try simp only [set_none'] at hbk); (try (first | have hbn := Grow.none (by assumption) hbk | have hbn := Grow.none (by assumption) hbk.2 | have hbn := Grow.none (by assumption) hbk.2.2 | have hbn := Grow.none (by assumption) hbk.2.2.2 | have hbn := Grow.none (by assumption) hbk.2.2.2.2 | have hbn := Grow.none (by assumption) hbk.2.2.2.2.2)); (try simp only [set_none'] at hbn); (try (first | have hbm := Grow.none (by assumption) hbn | have hbm := Grow.none (by assumption) hbn.2 | have hbm := Grow.none (by assumption) hbn.2.2 | have hbm := Grow.none (by assumption) hbn.2.2.2 | have hbm := Grow.none (by assumption) hbn.2.2.2.2 | have hbm := Grow.none (by assumption) hbn.2.2.2.2.2)); (try simp only [set_none'] at hbm)) | ((first | refine condS_i ?_ ?_ | refine pick_i ?_ ?_ | refine gS_it ?_ ?_ | refine gS_if ?_ ?_ | refine gP_it ?_ ?_ | refine gP_if ?_ ?_) <;> (intro hc; try simp only [Int.reduceLE,Int.reduceLT,Int.reduceEq,Sn] at hc)) | (with_reducible refine KP_i ?_ ?_; · (repeat' (first | exact Heap.Le.refl _ | (with_reducible refine Le_set2 ?_) | (refine Le_known (by first | (simp only [Heap.set_same, set_ne, ne_eq, not_false_eq_true, *] <;> rfl) | fail) ?_) | (refine Le_fresh (by first | (simp only [*] <;> done) | (simp [set_none', Heap.set_same, set_ne, noneH, *] <;> done) | fail) ?_) | (refine Heap.Le.trans ?_ (Grow.le (by assumption))) | exact Le_none | (refine Le_put ?_ (by first | (simp only [Heap.set_same, set_ne, ne_eq, not_false_eq_true, *] <;> rfl) | fail)) | fail))) | (with_reducible refine And.intro ?_ ?_)) <;> (try simp only [Sq,Sr,Sh,Si,Sl,Bu,Bb,Bd,Bc,Bw,Bn,Int.reduceAdd,Int.reduceSub,Int.reduceMul,Int.reduceTDiv,Int.reduceTMod,Int.reduceMod,Int.reduceDiv,Nat.reduceLT,Nat.reduceEqDiff,Sa,Sb,Sc,Sd,Se,Sf,Sg,Int.reduceLE,Int.reduceLT,Int.reduceToNat,Int.reduceNeg,Int.reduceEq,Nat.reduceLeDiff,Nat.reducePow,Int.reducePow,reduceIte,Nat.reduceSub,Nat.reduceAdd,Nat.reduceMul,putAt,ceq,List.replicate, *]))
    exact Fin_mk (Heap.Le.refl _) h
  · rw [decide_eq_false h1, Bool.false_and] at h
    refine HL.hc k21 999 ?_; unfold M21
    (all_goals (try simp only [Sq,Sr,Sh,Si,Sl,Bu,Bb,Bd,Bc,Bw,Bn,Int.reduceAdd,Int.reduceSub,Int.reduceMul,Int.reduceTDiv,Int.reduceTMod,Int.reduceMod,Int.reduceDiv,Nat.reduceLT,Nat.reduceEqDiff,Sa,Sb,Sc,Sd,Se,Sf,Sg,Int.reduceLE,Int.reduceLT,Int.reduceToNat,Int.reduceNeg,Int.reduceEq,Nat.reduceLeDiff,Nat.reducePow,Int.reducePow,reduceIte,Nat.reduceSub,Nat.reduceAdd,Nat.reduceMul,putAt,ceq,List.replicate, *])); repeat' ((first | (with_reducible refine fun _ : True => ?_) | (with_reducible refine any_h ?_) | ((first | refine AllocQ_i ?_ | refine AllocO_i ?_); intro bk hb0 hbk; (try simp only [set_none'] at hbk); (try (first | have hbn := Grow.none (by assumption) hbk | have hbn := Grow.none (by assumption) hbk.2 | have hbn := Grow.none (by assumption) hbk.2.2 | have hbn := Grow.none (by assumption) hbk.2.2.2 | have hbn := Grow.none (by assumption) hbk.2.2.2.2 | have hbn := Grow.none (by assumption) hbk.2.2.2.2.2)); (try simp only [set_none'] at hbn); (try (first | have hbm := Grow.none (by assumption) hbn | have hbm := Grow.none (by assumption) hbn.2 | have hbm := Grow.none (by assumption) hbn.2.2 | have hbm := Grow.none (by assumption) hbn.2.2.2 | have hbm := Grow.none (by assumption) hbn.2.2.2.2 | have hbm := Grow.none (by assumption) hbn.2.2.2.2.2)); (try simp only [set_none'] at hbm)) | ((first | refine condS_i ?_ ?_ | refine pick_i ?_ ?_ | refine gS_it ?_ ?_ | refine gS_if ?_ ?_ | refine gP_it ?_ ?_ | refine gP_if ?_ ?_) <;> (intro hc; try simp only [Int.reduceLE,Int.reduceLT,Int.reduceEq,Sn] at hc)) | (with_reducible refine KP_i ?_ ?_; · (repeat' (first | exact Heap.Le.refl _ | (with_reducible refine Le_set2 ?_) | (refine Le_known (by first | (simp only [Heap.set_same, set_ne, ne_eq, not_false_eq_true, *] <;> rfl) | fail) ?_) | (refine Le_fresh (by first | (simp only [*] <;> done) | (simp [set_none', Heap.set_same, set_ne, noneH, *] <;> done) | fail) ?_) | (refine Heap.Le.trans ?_ (Grow.le (by assumption))) | exact Le_none | (refine Le_put ?_ (by first | (simp only [Heap.set_same, set_ne, ne_eq, not_false_eq_true, *] <;> rfl) | fail)) | fail))) | (with_reducible refine And.intro ?_ ?_)) <;> (try simp only [Sq,Sr,Sh,Si,Sl,Bu,Bb,Bd,Bc,Bw,Bn,Int.reduceAdd,Int.reduceSub,Int.reduceMul,Int.reduceTDiv,Int.reduceTMod,Int.reduceMod,Int.reduceDiv,Nat.reduceLT,Nat.reduceEqDiff,Sa,Sb,Sc,Sd,Se,Sf,Sg,Int.reduceLE,Int.reduceLT,Int.reduceToNat,Int.reduceNeg,Int.reduceEq,Nat.reduceLeDiff,Nat.reducePow,Int.reducePow,reduceIte,Nat.reduceSub,Nat.reduceAdd,Nat.reduceMul,putAt,ceq,List.replicate, *]))
    exact Fin_mk (Heap.Le.refl _) h
theorem l_yes (m f n m' t n' : Int) (a : V4) (ha : a.I) (hf : f = 1 ∨ f = 2 ∨ f = 3) (ht : t = 1 ∨ t = 2 ∨ t = 3) (hN : n = 1 ∨ n = 2 ∨ n = 3 ∨ n = 4) (h : K (.bool true) H) : HCalls Tryz.prog w0 6 [wkV m f n, wkV m' t n', a.v] H K := by
  have hf1 := fun (G : Heap) (K : Value → Heap → Prop) (hk : K (.bool true) G) => l_base1 (w0 := w0) (H := G) (K := K) f (by rw [base_yes hf]; exact hk)
  have ht1 := fun (G : Heap) (K : Value → Heap → Prop) (hk : K (.bool true) G) => l_base1 (w0 := w0) (H := G) (K := K) t (by rw [base_yes ht]; exact hk)
  have hC := fun (G : Heap) (K : Value → Heap → Prop) (h : K (.tuple #[(a.upto n (cvt f t)).v, .int .i64 0]) G) => c_Convert (w0 := w0) (H := G) (K := K) f t n a ha (fun _ => h) (fun h' => absurd ⟨hf, ht, hN⟩ h')
  have hR := fun (x : Int) (hx : I32 x) (G : Heap) (K : Value → Heap → Prop) => r_Conv (w0 := w0) (H := G) (K := K) f t x hf ht hx
  obtain ⟨ha1, ha2, ha3, ha4⟩ := ha
  have c1 := hR _ ha1
  have c2 := hR _ ha2
  have c3 := hR _ ha3
  have c4 := hR _ ha4
  unfold V4.upto V4.v V4.row at hC
  unfold V4.v V4.row wkV
  obtain ⟨a, b, c, d⟩ := a
  simp only at hC c1 c2 c3 c4 ⊢
  generalize cvt f t a = ra at hC c1
  generalize cvt f t b = rb at hC c2
  generalize cvt f t c = rc at hC c3
  generalize cvt f t d = rd at hC c4
  clear ha1 ha2 ha3 ha4 hR hf ht
  replace h : Keep _ := h
  replace hf1 : Keep _ := hf1
  replace ht1 : Keep _ := ht1
  replace c1 : Keep _ := c1
  replace c2 : Keep _ := c2
  replace c3 : Keep _ := c3
  replace c4 : Keep _ := c4
  rcases hN with rfl | rfl | rfl | rfl
  all_goals
    simp only [Int.reduceLT, if_true, if_false, reduceIte] at hC
    replace hC : Keep _ := hC
    refine HL.hc k6 999 ?_; unfold M6
    (all_goals (try simp only [Sq,Sr,Sh,Si,Sl,Bu,Bb,Bd,Bc,Bw,Bn,Int.reduceAdd,Int.reduceSub,Int.reduceMul,Int.reduceTDiv,Int.reduceTMod,Int.reduceMod,Int.reduceDiv,Nat.reduceLT,Nat.reduceEqDiff,Sa,Sb,Sc,Sd,Se,Sf,Sg,Int.reduceLE,Int.reduceLT,Int.reduceToNat,Int.reduceNeg,Int.reduceEq,Nat.reduceLeDiff,Nat.reducePow,Int.reducePow,reduceIte,Nat.reduceSub,Nat.reduceAdd,Nat.reduceMul,putAt,ceq,List.replicate, *])); repeat' ((first | (with_reducible refine fun _ : True => ?_) | refine x_Wakes ?_ | refine hC _ _ ?_ | refine hf1 _ _ ?_ | refine ht1 _ _ ?_ | refine c1 _ _ ?_ | refine c2 _ _ ?_ | refine c3 _ _ ?_ | refine c4 _ _ ?_ | (with_reducible refine any_h ?_) | ((first | refine AllocQ_i ?_ | refine AllocO_i ?_); intro bk hb0 hbk; (try simp only [set_none'] at hbk); (try (first | have hbn := Grow.none (by assumption) hbk | have hbn := Grow.none (by assumption) hbk.2 | have hbn := Grow.none (by assumption) hbk.2.2 | have hbn := Grow.none (by assumption) hbk.2.2.2 | have hbn := Grow.none (by assumption) hbk.2.2.2.2 | have hbn := Grow.none (by assumption) hbk.2.2.2.2.2)); (try simp only [set_none'] at hbn); (try (first | have hbm := Grow.none (by assumption) hbn | have hbm := Grow.none (by assumption) hbn.2 | have hbm := Grow.none (by assumption) hbn.2.2 | have hbm := Grow.none (by assumption) hbn.2.2.2 | have hbm := Grow.none (by assumption) hbn.2.2.2.2 | have hbm := Grow.none (by assumption) hbn.2.2.2.2.2)); (try simp only [set_none'] at hbm)) | ((first | refine condS_i ?_ ?_ | refine pick_i ?_ ?_ | refine gS_it ?_ ?_ | refine gS_if ?_ ?_ | refine gP_it ?_ ?_ | refine gP_if ?_ ?_) <;> (intro hc; try simp only [Int.reduceLE,Int.reduceLT,Int.reduceEq,Sn] at hc)) | (with_reducible refine KP_i ?_ ?_; · (repeat' (first | exact Heap.Le.refl _ | (with_reducible refine Le_set2 ?_) | (refine Le_known (by first | (simp only [Heap.set_same, set_ne, ne_eq, not_false_eq_true, *] <;> rfl) | fail) ?_) | (refine Le_fresh (by first | (simp only [*] <;> done) | (simp [set_none', Heap.set_same, set_ne, noneH, *] <;> done) | fail) ?_) | (refine Heap.Le.trans ?_ (Grow.le (by assumption))) | exact Le_none | (refine Le_put ?_ (by first | (simp only [Heap.set_same, set_ne, ne_eq, not_false_eq_true, *] <;> rfl) | fail)) | fail))) | (with_reducible refine loop_u ?_) | (with_reducible refine And.intro ?_ ?_)) <;> (try simp only [Sq,Sr,Sh,Si,Sl,Bu,Bb,Bd,Bc,Bw,Bn,Int.reduceAdd,Int.reduceSub,Int.reduceMul,Int.reduceTDiv,Int.reduceTMod,Int.reduceMod,Int.reduceDiv,Nat.reduceLT,Nat.reduceEqDiff,Sa,Sb,Sc,Sd,Se,Sf,Sg,Int.reduceLE,Int.reduceLT,Int.reduceToNat,Int.reduceNeg,Int.reduceEq,Nat.reduceLeDiff,Nat.reducePow,Int.reducePow,reduceIte,Nat.reduceSub,Nat.reduceAdd,Nat.reduceMul,putAt,ceq,List.replicate, *]))
    exact Fin_mk (by (repeat' (first | exact Heap.Le.refl _ | (with_reducible refine Le_set2 ?_) | (refine Le_known (by first | (simp only [Heap.set_same, set_ne, ne_eq, not_false_eq_true, *] <;> rfl) | fail) ?_) | (refine Le_fresh (by first | (simp only [*] <;> done) | (simp [set_none', Heap.set_same, set_ne, noneH, *] <;> done) | fail) ?_) | (refine Heap.Le.trans ?_ (Grow.le (by assumption))) | exact Le_none | (refine Le_put ?_ (by first | (simp only [Heap.set_same, set_ne, ne_eq, not_false_eq_true, *] <;> rfl) | fail)) | fail))) (kpv h)
theorem l_no (m f n m' t n' : Int) (a : V4) (ha : a.I) (hx : ¬ cvOk f t n) (h : K (.bool true) H) : HCalls Tryz.prog w0 6 [wkV m f n, wkV m' t n', a.v] H K := by
  have hf1 := fun (h : f = 1 ∨ f = 2 ∨ f = 3) (G : Heap) (K : Value → Heap → Prop) (hk : K (.bool true) G) => l_base1 (w0 := w0) (H := G) (K := K) f (by rw [base_yes h]; exact hk)
  have hf0 := fun (h : ¬ (f = 1 ∨ f = 2 ∨ f = 3)) (G : Heap) (K : Value → Heap → Prop) (hk : K (.bool false) G) => l_base1 (w0 := w0) (H := G) (K := K) f (by rw [base_no h]; exact hk)
  have ht1 := fun (h : t = 1 ∨ t = 2 ∨ t = 3) (G : Heap) (K : Value → Heap → Prop) (hk : K (.bool true) G) => l_base1 (w0 := w0) (H := G) (K := K) t (by rw [base_yes h]; exact hk)
  have ht0 := fun (h : ¬ (t = 1 ∨ t = 2 ∨ t = 3)) (G : Heap) (K : Value → Heap → Prop) (hk : K (.bool false) G) => l_base1 (w0 := w0) (H := G) (K := K) t (by rw [base_no h]; exact hk)
  have hC := fun (G : Heap) (K : Value → Heap → Prop) (h : K (.tuple #[zV.v, .int .i64 2]) G) => c_Convert (w0 := w0) (H := G) (K := K) f t n a ha (fun h' => absurd h' hx) (fun _ => h)
  unfold zV V4.v V4.row at hC
  unfold V4.v V4.row wkV
  simp only at hC
  replace h : Keep _ := h
  replace hC : Keep _ := hC
  clear ha
  by_cases hf : f = 1 ∨ f = 2 ∨ f = 3
  · have hf1 := hf1 hf
    by_cases ht : t = 1 ∨ t = 2 ∨ t = 3
    · have ht1 := ht1 ht
      have hN : ¬ (n = 1 ∨ n = 2 ∨ n = 3 ∨ n = 4) := fun h => hx ⟨hf, ht, h⟩
      clear hf0 ht0 hf ht hx
      replace hf1 : Keep _ := hf1
      replace ht1 : Keep _ := ht1
      by_cases n1 : n < 1
      · clear hN
        refine HL.hc k6 999 ?_; unfold M6
        (all_goals (try simp only [Sq,Sr,Sh,Si,Sl,Bu,Bb,Bd,Bc,Bw,Bn,Int.reduceAdd,Int.reduceSub,Int.reduceMul,Int.reduceTDiv,Int.reduceTMod,Int.reduceMod,Int.reduceDiv,Nat.reduceLT,Nat.reduceEqDiff,Sa,Sb,Sc,Sd,Se,Sf,Sg,Int.reduceLE,Int.reduceLT,Int.reduceToNat,Int.reduceNeg,Int.reduceEq,Nat.reduceLeDiff,Nat.reducePow,Int.reducePow,reduceIte,Nat.reduceSub,Nat.reduceAdd,Nat.reduceMul,putAt,ceq,List.replicate, *])); repeat' ((first | (with_reducible refine fun _ : True => ?_) | refine x_Wakes ?_ | refine hC _ _ ?_ | refine hf1 _ _ ?_ | refine ht1 _ _ ?_ | (with_reducible refine any_h ?_) | ((first | refine AllocQ_i ?_ | refine AllocO_i ?_); intro bk hb0 hbk; (try simp only [set_none'] at hbk); (try (first | have hbn := Grow.none (by assumption) hbk | have hbn := Grow.none (by assumption) hbk.2 | have hbn := Grow.none (by assumption) hbk.2.2 | have hbn := Grow.none (by assumption) hbk.2.2.2 | have hbn := Grow.none (by assumption) hbk.2.2.2.2 | have hbn := Grow.none (by assumption) hbk.2.2.2.2.2)); (try simp only [set_none'] at hbn); (try (first | have hbm := Grow.none (by assumption) hbn | have hbm := Grow.none (by assumption) hbn.2 | have hbm := Grow.none (by assumption) hbn.2.2 | have hbm := Grow.none (by assumption) hbn.2.2.2 | have hbm := Grow.none (by assumption) hbn.2.2.2.2 | have hbm := Grow.none (by assumption) hbn.2.2.2.2.2)); (try simp only [set_none'] at hbm)) | ((first | refine condS_i ?_ ?_ | refine pick_i ?_ ?_ | refine gS_it ?_ ?_ | refine gS_if ?_ ?_ | refine gP_it ?_ ?_ | refine gP_if ?_ ?_) <;> (intro hc; try simp only [Int.reduceLE,Int.reduceLT,Int.reduceEq,Sn] at hc)) | (with_reducible refine KP_i ?_ ?_; · (repeat' (first | exact Heap.Le.refl _ | (with_reducible refine Le_set2 ?_) | (refine Le_known (by first | (simp only [Heap.set_same, set_ne, ne_eq, not_false_eq_true, *] <;> rfl) | fail) ?_) | (refine Le_fresh (by first | (simp only [*] <;> done) | (simp [set_none', Heap.set_same, set_ne, noneH, *] <;> done) | fail) ?_) | (refine Heap.Le.trans ?_ (Grow.le (by assumption))) | exact Le_none | (refine Le_put ?_ (by first | (simp only [Heap.set_same, set_ne, ne_eq, not_false_eq_true, *] <;> rfl) | fail)) | fail))) | (with_reducible refine And.intro ?_ ?_)) <;> (try simp only [Sq,Sr,Sh,Si,Sl,Bu,Bb,Bd,Bc,Bw,Bn,Int.reduceAdd,Int.reduceSub,Int.reduceMul,Int.reduceTDiv,Int.reduceTMod,Int.reduceMod,Int.reduceDiv,Nat.reduceLT,Nat.reduceEqDiff,Sa,Sb,Sc,Sd,Se,Sf,Sg,Int.reduceLE,Int.reduceLT,Int.reduceToNat,Int.reduceNeg,Int.reduceEq,Nat.reduceLeDiff,Nat.reducePow,Int.reducePow,reduceIte,Nat.reduceSub,Nat.reduceAdd,Nat.reduceMul,putAt,ceq,List.replicate, *]))
        exact Fin_mk (by (repeat' (first | exact Heap.Le.refl _ | (with_reducible refine Le_set2 ?_) | (refine Le_known (by first | (simp only [Heap.set_same, set_ne, ne_eq, not_false_eq_true, *] <;> rfl) | fail) ?_) | (refine Le_fresh (by first | (simp only [*] <;> done) | (simp [set_none', Heap.set_same, set_ne, noneH, *] <;> done) | fail) ?_) | (refine Heap.Le.trans ?_ (Grow.le (by assumption))) | exact Le_none | (refine Le_put ?_ (by first | (simp only [Heap.set_same, set_ne, ne_eq, not_false_eq_true, *] <;> rfl) | fail)) | fail))) (kpv h)
      · have n2 : 4 < n := by omega
        clear hN
        refine HL.hc k6 999 ?_; unfold M6
        (all_goals (try simp only [Sq,Sr,Sh,Si,Sl,Bu,Bb,Bd,Bc,Bw,Bn,Int.reduceAdd,Int.reduceSub,Int.reduceMul,Int.reduceTDiv,Int.reduceTMod,Int.reduceMod,Int.reduceDiv,Nat.reduceLT,Nat.reduceEqDiff,Sa,Sb,Sc,Sd,Se,Sf,Sg,Int.reduceLE,Int.reduceLT,Int.reduceToNat,Int.reduceNeg,Int.reduceEq,Nat.reduceLeDiff,Nat.reducePow,Int.reducePow,reduceIte,Nat.reduceSub,Nat.reduceAdd,Nat.reduceMul,putAt,ceq,List.replicate, *])); repeat' ((first | (with_reducible refine fun _ : True => ?_) | refine x_Wakes ?_ | refine hC _ _ ?_ | refine hf1 _ _ ?_ | refine ht1 _ _ ?_ | (with_reducible refine any_h ?_) | ((first | refine AllocQ_i ?_ | refine AllocO_i ?_); intro bk hb0 hbk; (try simp only [set_none'] at hbk); (try (first | have hbn := Grow.none (by assumption) hbk | have hbn := Grow.none (by assumption) hbk.2 | have hbn := Grow.none (by assumption) hbk.2.2 | have hbn := Grow.none (by assumption) hbk.2.2.2 | have hbn := Grow.none (by assumption) hbk.2.2.2.2 | have hbn := Grow.none (by assumption) hbk.2.2.2.2.2)); (try simp only [set_none'] at hbn); (try (first | have hbm := Grow.none (by assumption) hbn | have hbm := Grow.none (by assumption) hbn.2 | have hbm := Grow.none (by assumption) hbn.2.2 | have hbm := Grow.none (by assumption) hbn.2.2.2 | have hbm := Grow.none (by assumption) hbn.2.2.2.2 | have hbm := Grow.none (by assumption) hbn.2.2.2.2.2)); (try simp only [set_none'] at hbm)) | ((first | refine condS_i ?_ ?_ | refine pick_i ?_ ?_ | refine gS_it ?_ ?_ | refine gS_if ?_ ?_ | refine gP_it ?_ ?_ | refine gP_if ?_ ?_) <;> (intro hc; try simp only [Int.reduceLE,Int.reduceLT,Int.reduceEq,Sn] at hc)) | (with_reducible refine KP_i ?_ ?_; · (repeat' (first | exact Heap.Le.refl _ | (with_reducible refine Le_set2 ?_) | (refine Le_known (by first | (simp only [Heap.set_same, set_ne, ne_eq, not_false_eq_true, *] <;> rfl) | fail) ?_) | (refine Le_fresh (by first | (simp only [*] <;> done) | (simp [set_none', Heap.set_same, set_ne, noneH, *] <;> done) | fail) ?_) | (refine Heap.Le.trans ?_ (Grow.le (by assumption))) | exact Le_none | (refine Le_put ?_ (by first | (simp only [Heap.set_same, set_ne, ne_eq, not_false_eq_true, *] <;> rfl) | fail)) | fail))) | (with_reducible refine And.intro ?_ ?_)) <;> (try simp only [Sq,Sr,Sh,Si,Sl,Bu,Bb,Bd,Bc,Bw,Bn,Int.reduceAdd,Int.reduceSub,Int.reduceMul,Int.reduceTDiv,Int.reduceTMod,Int.reduceMod,Int.reduceDiv,Nat.reduceLT,Nat.reduceEqDiff,Sa,Sb,Sc,Sd,Se,Sf,Sg,Int.reduceLE,Int.reduceLT,Int.reduceToNat,Int.reduceNeg,Int.reduceEq,Nat.reduceLeDiff,Nat.reducePow,Int.reducePow,reduceIte,Nat.reduceSub,Nat.reduceAdd,Nat.reduceMul,putAt,ceq,List.replicate, *]))
        exact Fin_mk (by (repeat' (first | exact Heap.Le.refl _ | (with_reducible refine Le_set2 ?_) | (refine Le_known (by first | (simp only [Heap.set_same, set_ne, ne_eq, not_false_eq_true, *] <;> rfl) | fail) ?_) | (refine Le_fresh (by first | (simp only [*] <;> done) | (simp [set_none', Heap.set_same, set_ne, noneH, *] <;> done) | fail) ?_) | (refine Heap.Le.trans ?_ (Grow.le (by assumption))) | exact Le_none | (refine Le_put ?_ (by first | (simp only [Heap.set_same, set_ne, ne_eq, not_false_eq_true, *] <;> rfl) | fail)) | fail))) (kpv h)
    · have ht0 := ht0 ht
      clear hf0 ht1 hf ht hx
      replace hf1 : Keep _ := hf1
      replace ht0 : Keep _ := ht0
      refine HL.hc k6 999 ?_; unfold M6
      (all_goals (try simp only [Sq,Sr,Sh,Si,Sl,Bu,Bb,Bd,Bc,Bw,Bn,Int.reduceAdd,Int.reduceSub,Int.reduceMul,Int.reduceTDiv,Int.reduceTMod,Int.reduceMod,Int.reduceDiv,Nat.reduceLT,Nat.reduceEqDiff,Sa,Sb,Sc,Sd,Se,Sf,Sg,Int.reduceLE,Int.reduceLT,Int.reduceToNat,Int.reduceNeg,Int.reduceEq,Nat.reduceLeDiff,Nat.reducePow,Int.reducePow,reduceIte,Nat.reduceSub,Nat.reduceAdd,Nat.reduceMul,putAt,ceq,List.replicate, *])); repeat' ((first | (with_reducible refine fun _ : True => ?_) | refine x_Wakes ?_ | refine hC _ _ ?_ | refine hf1 _ _ ?_ | refine ht0 _ _ ?_ | (with_reducible refine any_h ?_) | ((first | refine AllocQ_i ?_ | refine AllocO_i ?_); intro bk hb0 hbk; (try simp only [set_none'] at hbk); (try (first | have hbn := Grow.none (by assumption) hbk | have hbn := Grow.none (by assumption) hbk.2 | have hbn := Grow.none (by assumption) hbk.2.2 | have hbn := Grow.none (by assumption) hbk.2.2.2 | have hbn := Grow.none (by assumption) hbk.2.2.2.2 | have hbn := Grow.none (by assumption) hbk.2.2.2.2.2)); (try simp only [set_none'] at hbn); (try (first | have hbm := Grow.none (by assumption) hbn | have hbm := Grow.none (by assumption) hbn.2 | have hbm := Grow.none (by assumption) hbn.2.2 | have hbm := Grow.none (by assumption) hbn.2.2.2 | have hbm := Grow.none (by assumption) hbn.2.2.2.2 | have hbm := Grow.none (by assumption) hbn.2.2.2.2.2)); (try simp only [set_none'] at hbm)) | ((first | refine condS_i ?_ ?_ | refine pick_i ?_ ?_ | refine gS_it ?_ ?_ | refine gS_if ?_ ?_ | refine gP_it ?_ ?_ | refine gP_if ?_ ?_) <;> (intro hc; try simp only [Int.reduceLE,Int.reduceLT,Int.reduceEq,Sn] at hc)) | (with_reducible refine KP_i ?_ ?_; · (repeat' (first | exact Heap.Le.refl _ | (with_reducible refine Le_set2 ?_) | (refine Le_known (by first | (simp only [Heap.set_same, set_ne, ne_eq, not_false_eq_true, *] <;> rfl) | fail) ?_) | (refine Le_fresh (by first | (simp only [*] <;> done) | (simp [set_none', Heap.set_same, set_ne, noneH, *] <;> done) | fail) ?_) | (refine Heap.Le.trans ?_ (Grow.le (by assumption))) | exact Le_none | (refine Le_put ?_ (by first | (simp only [Heap.set_same, set_ne, ne_eq, not_false_eq_true, *] <;> rfl) | fail)) | fail))) | (with_reducible refine And.intro ?_ ?_)) <;> (try simp only [Sq,Sr,Sh,Si,Sl,Bu,Bb,Bd,Bc,Bw,Bn,Int.reduceAdd,Int.reduceSub,Int.reduceMul,Int.reduceTDiv,Int.reduceTMod,Int.reduceMod,Int.reduceDiv,Nat.reduceLT,Nat.reduceEqDiff,Sa,Sb,Sc,Sd,Se,Sf,Sg,Int.reduceLE,Int.reduceLT,Int.reduceToNat,Int.reduceNeg,Int.reduceEq,Nat.reduceLeDiff,Nat.reducePow,Int.reducePow,reduceIte,Nat.reduceSub,Nat.reduceAdd,Nat.reduceMul,putAt,ceq,List.replicate, *]))
      exact Fin_mk (by (repeat' (first | exact Heap.Le.refl _ | (with_reducible refine Le_set2 ?_) | (refine Le_known (by first | (simp only [Heap.set_same, set_ne, ne_eq, not_false_eq_true, *] <;> rfl) | fail) ?_) | (refine Le_fresh (by first | (simp only [*] <;> done) | (simp [set_none', Heap.set_same, set_ne, noneH, *] <;> done) | fail) ?_) | (refine Heap.Le.trans ?_ (Grow.le (by assumption))) | exact Le_none | (refine Le_put ?_ (by first | (simp only [Heap.set_same, set_ne, ne_eq, not_false_eq_true, *] <;> rfl) | fail)) | fail))) (kpv h)
  · have hf0 := hf0 hf
    clear ht0 hf1 ht1 hf hx
    replace hf0 : Keep _ := hf0
    refine HL.hc k6 999 ?_; unfold M6
    (all_goals (try simp only [Sq,Sr,Sh,Si,Sl,Bu,Bb,Bd,Bc,Bw,Bn,Int.reduceAdd,Int.reduceSub,Int.reduceMul,Int.reduceTDiv,Int.reduceTMod,Int.reduceMod,Int.reduceDiv,Nat.reduceLT,Nat.reduceEqDiff,Sa,Sb,Sc,Sd,Se,Sf,Sg,Int.reduceLE,Int.reduceLT,Int.reduceToNat,Int.reduceNeg,Int.reduceEq,Nat.reduceLeDiff,Nat.reducePow,Int.reducePow,reduceIte,Nat.reduceSub,Nat.reduceAdd,Nat.reduceMul,putAt,ceq,List.replicate, *])); repeat' ((first | (with_reducible refine fun _ : True => ?_) | refine x_Wakes ?_ | refine hC _ _ ?_ | refine hf0 _ _ ?_ | (with_reducible refine any_h ?_) | ((first | refine AllocQ_i ?_ | refine AllocO_i ?_); intro bk hb0 hbk; (try simp only [set_none'] at hbk); (try (first | have hbn := Grow.none (by assumption) hbk | have hbn := Grow.none (by assumption) hbk.2 | have hbn := Grow.none (by assumption) hbk.2.2 | have hbn := Grow.none (by assumption) hbk.2.2.2 | have hbn := Grow.none (by assumption) hbk.2.2.2.2 | have hbn := Grow.none (by assumption) hbk.2.2.2.2.2)); (try simp only [set_none'] at hbn); (try (first | have hbm := Grow.none (by assumption) hbn | have hbm := Grow.none (by assumption) hbn.2 | have hbm := Grow.none (by assumption) hbn.2.2 | have hbm := Grow.none (by assumption) hbn.2.2.2 | have hbm := Grow.none (by assumption) hbn.2.2.2.2 | have hbm := Grow.none (by assumption) hbn.2.2.2.2.2)); (try simp only [set_none'] at hbm)) | ((first | refine condS_i ?_ ?_ | refine pick_i ?_ ?_ | refine gS_it ?_ ?_ | refine gS_if ?_ ?_ | refine gP_it ?_ ?_ | refine gP_if ?_ ?_) <;> (intro hc; try simp only [Int.reduceLE,Int.reduceLT,Int.reduceEq,Sn] at hc)) | (with_reducible refine KP_i ?_ ?_; · (repeat' (first | exact Heap.Le.refl _ | (with_reducible refine Le_set2 ?_) | (refine Le_known (by first | (simp only [Heap.set_same, set_ne, ne_eq, not_false_eq_true, *] <;> rfl) | fail) ?_) | (refine Le_fresh (by first | (simp only [*] <;> done) | (simp [set_none', Heap.set_same, set_ne, noneH, *] <;> done) | fail) ?_) | (refine Heap.Le.trans ?_ (Grow.le (by assumption))) | exact Le_none | (refine Le_put ?_ (by first | (simp only [Heap.set_same, set_ne, ne_eq, not_false_eq_true, *] <;> rfl) | fail)) | fail))) | (with_reducible refine And.intro ?_ ?_)) <;> (try simp only [Sq,Sr,Sh,Si,Sl,Bu,Bb,Bd,Bc,Bw,Bn,Int.reduceAdd,Int.reduceSub,Int.reduceMul,Int.reduceTDiv,Int.reduceTMod,Int.reduceMod,Int.reduceDiv,Nat.reduceLT,Nat.reduceEqDiff,Sa,Sb,Sc,Sd,Se,Sf,Sg,Int.reduceLE,Int.reduceLT,Int.reduceToNat,Int.reduceNeg,Int.reduceEq,Nat.reduceLeDiff,Nat.reducePow,Int.reducePow,reduceIte,Nat.reduceSub,Nat.reduceAdd,Nat.reduceMul,putAt,ceq,List.replicate, *]))
    exact Fin_mk (by (repeat' (first | exact Heap.Le.refl _ | (with_reducible refine Le_set2 ?_) | (refine Le_known (by first | (simp only [Heap.set_same, set_ne, ne_eq, not_false_eq_true, *] <;> rfl) | fail) ?_) | (refine Le_fresh (by first | (simp only [*] <;> done) | (simp [set_none', Heap.set_same, set_ne, noneH, *] <;> done) | fail) ?_) | (refine Heap.Le.trans ?_ (Grow.le (by assumption))) | exact Le_none | (refine Le_put ?_ (by first | (simp only [Heap.set_same, set_ne, ne_eq, not_false_eq_true, *] <;> rfl) | fail)) | fail))) (kpv h)
theorem l_VmConverts (m f n m' t n' : Int) (a : V4) (ha : a.I) (h : K (.bool true) H) : HCalls Tryz.prog w0 6 [wkV m f n, wkV m' t n', a.v] H K := by
  by_cases hx : cvOk f t n
  · exact l_yes m f n m' t n' a ha hx.1 hx.2.1 hx.2.2 h
  · exact l_no m f n m' t n' a ha hx h
end Go.Proofs.YtdmnfaefakceiaaGreat
