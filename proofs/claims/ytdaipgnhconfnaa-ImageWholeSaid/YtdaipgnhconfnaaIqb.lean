/- The statement ImageWhole, as a call (layer 8). -/
import Derived.Test.YtdaipgnhconfnaaIqa
import Derived.Test.YtdaipgnhconfnaaWk8
set_option linter.unusedSimpArgs false
set_option linter.unusedVariables false
set_option maxRecDepth 100000
set_option maxHeartbeats 4000000
namespace Go.Proofs.Ytdaipgnhconfnaa
open Go Go.HL Go.RowKit Pb
variable {w0 : World} {H G : Heap} {K : Value → Heap → Prop}

/- paintboxlaw08 ImageWhole -/
def M8 : MC :=
  .seq (.reg [⟨(some 1), .box 24 (.tmp 0), none⟩,
 ⟨(some 2), .mv (.const (.bool false)), none⟩])
 (.seq (.seq (.reg [⟨(some 7), .call 12 [], none⟩,
 ⟨(some 8), .un .not (.tmp 7), none⟩])
 (.cond (.tmp 8)
 (.seq (.reg [⟨(some 2), .mv (.const (.bool false)), none⟩])
 (.ret))
 (.skip)))
 (.seq (.reg [⟨(some 9), .ldn 6 (.tmp 1), none⟩,
 ⟨(some 10), .call 13 [(.tmp 9)], none⟩,
 ⟨none, .stn 6 (.tmp 1) (.tmp 10), none⟩])
 (.seq (.reg [⟨(some 12), .ldn 6 (.tmp 1), none⟩,
 ⟨(some 13), .call 15 [(.tmp 12)], none⟩,
 ⟨(some 11), .mv (.tmp 13), none⟩,
 ⟨(some 14), .ext 0 (.tmp 11), none⟩,
 ⟨(some 15), .ext 1 (.tmp 11), none⟩,
 ⟨(some 3), .alloc 24 [(.int .i64 0), (.slice none 0 0), (.int .i64 0), (.int .i64 0), (.int .i64 0), (.int .i64 0)], none⟩,
 ⟨none, .stn 6 (.tmp 3) (.tmp 14), none⟩,
 ⟨(some 4), .mv (.tmp 15), none⟩])
 (.seq (.seq (.reg [⟨(some 16), .mv (.tmp 4), none⟩,
 ⟨(some 17), .bin .neq (.tmp 16) (.const (.int .i64 0)), none⟩])
 (.cond (.tmp 17)
 (.seq (.reg [⟨(some 18), .fa 1 (.tmp 3), none⟩,
 ⟨(some 19), .ld1 (.tmp 18), none⟩,
 ⟨(some 20), .len (.tmp 19), none⟩,
 ⟨(some 21), .bin .eql (.tmp 20) (.const (.int .i64 0)), none⟩,
 ⟨(some 2), .mv (.tmp 21), none⟩])
 (.ret))
 (.skip)))
 (.seq (.reg [⟨(some 23), .ldn 6 (.tmp 3), none⟩,
 ⟨(some 24), .call 15 [(.tmp 23)], none⟩,
 ⟨(some 22), .mv (.tmp 24), none⟩,
 ⟨(some 25), .ext 0 (.tmp 22), none⟩,
 ⟨(some 26), .ext 1 (.tmp 22), none⟩,
 ⟨(some 5), .alloc 24 [(.int .i64 0), (.slice none 0 0), (.int .i64 0), (.int .i64 0), (.int .i64 0), (.int .i64 0)], none⟩,
 ⟨none, .stn 6 (.tmp 5) (.tmp 25), none⟩,
 ⟨(some 4), .mv (.tmp 26), none⟩])
 (.seq (.reg [⟨(some 27), .fa 1 (.tmp 3), none⟩,
 ⟨(some 28), .ld1 (.tmp 27), none⟩,
 ⟨(some 29), .is 3 (.tmp 28) (.const (.int .i64 0)), none⟩,
 ⟨(some 30), .ldn 3 (.tmp 29), none⟩,
 ⟨(some 6), .alloc 38 [(.int .i64 0), (.int .i64 0), (.slice none 0 0)], none⟩,
 ⟨none, .stn 3 (.tmp 6) (.tmp 30), none⟩])
 (.seq (.any [(false, 0, [3, 12, 13, 14, 15, 16, 23, 24], ⟨(some 31), .mv (.tmp 4), none⟩),
 (false, 1, [3, 12, 13, 14, 15, 16, 23, 24], ⟨(some 32), .bin .eql (.tmp 31) (.const (.int .i64 0)), none⟩),
 (false, 2, [3, 12, 13, 14, 15, 16, 23, 24], ⟨(some 33), .mv (.tmp 32), none⟩),
 (true, 3, [], ⟨(some 34), .ldn 6 (.tmp 3), (some (33, true))⟩),
 (false, 4, [3, 12, 13, 14, 15, 16, 23, 24], ⟨(some 35), .ldn 6 (.tmp 5), (some (33, true))⟩),
 (false, 5, [12, 13, 14, 15, 16, 23, 24], ⟨(some 36), .call 25 [(.tmp 34), (.tmp 35)], (some (33, true))⟩),
 (false, 6, [12, 13, 14, 15, 16, 23, 24], ⟨(some 37), .pick (.tmp 33) (.tmp 36) (.const (.bool false)), none⟩),
 (false, 7, [12, 13, 14, 15, 16, 23, 24], ⟨(some 38), .mv (.tmp 37), none⟩),
 (false, 8, [12, 13, 14, 15, 16, 23, 24], ⟨(some 39), .ldn 6 (.tmp 3), (some (38, true))⟩),
 (false, 9, [12, 13, 14, 15, 16, 23, 24], ⟨(some 40), .call 30 [(.tmp 39)], (some (38, true))⟩),
 (false, 10, [12, 13, 14, 15, 16, 23, 24], ⟨(some 41), .pick (.tmp 38) (.tmp 40) (.const (.bool false)), none⟩),
 (false, 11, [12, 13, 14, 15, 16, 23, 24], ⟨(some 42), .mv (.tmp 41), none⟩),
 (true, 12, [], ⟨(some 43), .fa 1 (.tmp 3), (some (42, true))⟩),
 (true, 13, [], ⟨(some 44), .ld1 (.tmp 43), (some (42, true))⟩),
 (true, 14, [], ⟨(some 45), .len (.tmp 44), (some (42, true))⟩),
 (true, 15, [], ⟨(some 46), .fa 0 (.tmp 6), (some (42, true))⟩),
 (true, 16, [], ⟨(some 47), .ld1 (.tmp 46), (some (42, true))⟩),
 (false, 17, [12, 13, 14, 15, 16, 23, 24], ⟨(some 48), .fa 1 (.tmp 6), (some (42, true))⟩),
 (false, 18, [12, 13, 14, 15, 16, 23, 24], ⟨(some 49), .ld1 (.tmp 48), (some (42, true))⟩),
 (false, 19, [12, 13, 14, 23, 24], ⟨(some 50), .call 20 [(.tmp 47), (.tmp 49)], (some (42, true))⟩),
 (false, 20, [23, 24], ⟨(some 51), .bin .eql (.tmp 45) (.tmp 50), (some (42, true))⟩),
 (false, 21, [23, 24], ⟨(some 52), .pick (.tmp 42) (.tmp 51) (.const (.bool false)), none⟩),
 (false, 22, [23, 24], ⟨(some 53), .mv (.tmp 52), none⟩),
 (true, 23, [], ⟨(some 54), .fa 2 (.tmp 6), (some (53, true))⟩),
 (true, 24, [], ⟨(some 55), .ld1 (.tmp 54), (some (53, true))⟩),
 (false, 25, [23, 24], ⟨(some 56), .fa 1 (.tmp 1), (some (53, true))⟩),
 (false, 26, [23, 24], ⟨(some 57), .ld1 (.tmp 56), (some (53, true))⟩),
 (false, 27, [23, 24], ⟨(some 58), .is 3 (.tmp 57) (.const (.int .i64 0)), (some (53, true))⟩),
 (false, 28, [23, 24], ⟨(some 59), .fa 2 (.tmp 58), (some (53, true))⟩),
 (false, 29, [23, 24], ⟨(some 60), .ld1 (.tmp 59), (some (53, true))⟩),
 (false, 30, [], ⟨(some 61), .call 24 [(.tmp 55), (.tmp 60)], (some (53, true))⟩),
 (false, 31, [], ⟨(some 62), .pick (.tmp 53) (.tmp 61) (.const (.bool false)), none⟩),
 (false, 32, [], ⟨(some 2), .mv (.tmp 62), none⟩)])
 (.ret))))))))
theorem k8 : fnOk Try.prog 8 = some (M8, [.t 2], 63) := by kernel_rfl

theorem l_ImageWhole (x : Im) (hx : ImOk w0 H x) (h : K (.bool true) H) : HCalls Try.prog w0 8 [x.v] H K := by
  have cX := cShort hx
  clear hx
  unfold Im.v at cX ⊢
  refine HL.hc k8 3000 ?_; unfold M8
  (all_goals (try simp only [Sq,Sr,Sh,Si,Sl,Bu,Bb,Bd,Bc,Bw,Bn,Int.reduceAdd,Int.reduceSub,Int.reduceMul,Int.reduceTDiv,Int.reduceTMod,Int.reduceMod,Int.reduceDiv,Nat.reduceLT,Nat.reduceEqDiff,Sa,Sb,Sc,Sd,Se,Sf,Sg,Int.reduceLE,Int.reduceLT,Int.reduceToNat,Int.reduceNeg,Int.reduceEq,Nat.reduceLeDiff,Nat.reducePow,Int.reducePow,reduceIte,Nat.reduceSub,Nat.reduceAdd,Nat.reduceMul,putAt,ceq,List.replicate, *])); repeat' ((first | (with_reducible refine fun _ : True => ?_) | refine x_Wakes ?_ | refine cX _ _ (by (repeat' (first | exact Grow.refl _ | assumption | (refine Grow_known (by first | (simp only [Heap.set_same, set_ne, ne_eq, not_false_eq_true, *] <;> rfl) | fail) ?_) | (refine Grow.set ?_ (by assumption) (by first | (simp only [*] <;> done) | (simp [set_none', Heap.set_same, set_ne, noneH, *] <;> done) | fail)) | (refine Grow.trans ?_ (by assumption))))) (fun x1 H1 Hx hSx hIx gx nx fx gHx hg => ?_)  | (with_reducible refine any_h ?_) | ((first | refine AllocQ_i ?_ | refine AllocO_i ?_); intro bk hb0 hbk; (try simp only [set_none'] at hbk); (try (first | have hbn := Grow.none (by assumption) hbk | have hbn := Grow.none (by assumption) hbk.2 | have hbn := Grow.none (by assumption) hbk.2.2 | have hbn := Grow.none (by assumption) hbk.2.2.2 | have hbn := Grow.none (by assumption) hbk.2.2.2.2 | have hbn := Grow.none (by assumption) hbk.2.2.2.2.2)); (try simp only [set_none'] at hbn); (try (first | have hbm := Grow.none (by assumption) hbn | have hbm := Grow.none (by assumption) hbn.2 | have hbm := Grow.none (by assumption) hbn.2.2 | have hbm := Grow.none (by assumption) hbn.2.2.2 | have hbm := Grow.none (by assumption) hbn.2.2.2.2 | have hbm := Grow.none (by assumption) hbn.2.2.2.2.2)); (try simp only [set_none'] at hbm)) | ((first | refine condS_i ?_ ?_ | refine pick_i ?_ ?_ | refine gS_it ?_ ?_ | refine gS_if ?_ ?_ | refine gP_it ?_ ?_ | refine gP_if ?_ ?_) <;> (intro hc; try simp only [Int.reduceLE,Int.reduceLT,Int.reduceEq,Sn] at hc)) | (with_reducible refine KP_i ?_ ?_; · (repeat' (first | exact Heap.Le.refl _ | (with_reducible refine Le_set2 ?_) | (refine Le_known (by first | (simp only [Heap.set_same, set_ne, ne_eq, not_false_eq_true, *] <;> rfl) | fail) ?_) | (refine Le_fresh (by first | (simp only [*] <;> done) | (simp [set_none', Heap.set_same, set_ne, noneH, *] <;> done) | fail) ?_) | (refine Heap.Le.trans ?_ (Grow.le (by assumption))) | exact Le_none | (refine Le_put ?_ (by first | (simp only [Heap.set_same, set_ne, ne_eq, not_false_eq_true, *] <;> rfl) | fail)) | fail))) | (with_reducible refine And.intro ?_ ?_)) <;> (try simp only [Sq,Sr,Sh,Si,Sl,Bu,Bb,Bd,Bc,Bw,Bn,Int.reduceAdd,Int.reduceSub,Int.reduceMul,Int.reduceTDiv,Int.reduceTMod,Int.reduceMod,Int.reduceDiv,Nat.reduceLT,Nat.reduceEqDiff,Sa,Sb,Sc,Sd,Se,Sf,Sg,Int.reduceLE,Int.reduceLT,Int.reduceToNat,Int.reduceNeg,Int.reduceEq,Nat.reduceLeDiff,Nat.reducePow,Int.reducePow,reduceIte,Nat.reduceSub,Nat.reduceAdd,Nat.reduceMul,putAt,ceq,List.replicate, *]))
  obtain ⟨b1, rfl⟩ : ∃ b1, b1 = bk := ⟨_, rfl⟩
  have s1 : w0.heap.size ≤ b1 := hb0
  have n1 : H b1 = none := hbk
  have nx1 : Hx b1 = none := nx b1 s1 (by rw [Heap.set_same]; rfl)
  rw [up1 hg]
  clear hg nx cX fx
  (all_goals (try simp only [Sq,Sr,Sh,Si,Sl,Bu,Bb,Bd,Bc,Bw,Bn,Int.reduceAdd,Int.reduceSub,Int.reduceMul,Int.reduceTDiv,Int.reduceTMod,Int.reduceMod,Int.reduceDiv,Nat.reduceLT,Nat.reduceEqDiff,Sa,Sb,Sc,Sd,Se,Sf,Sg,Int.reduceLE,Int.reduceLT,Int.reduceToNat,Int.reduceNeg,Int.reduceEq,Nat.reduceLeDiff,Nat.reducePow,Int.reducePow,reduceIte,Nat.reduceSub,Nat.reduceAdd,Nat.reduceMul,putAt,ceq,List.replicate, *])); repeat' ((first | (with_reducible refine fun _ : True => ?_) | (with_reducible refine any_h ?_) | ((first | refine AllocQ_i ?_ | refine AllocO_i ?_); intro bk hb0 hbk; (try simp only [set_none'] at hbk); (try (first | have hbn := Grow.none (by assumption) hbk | have hbn := Grow.none (by assumption) hbk.2 | have hbn := Grow.none (by assumption) hbk.2.2 | have hbn := Grow.none (by assumption) hbk.2.2.2 | have hbn := Grow.none (by assumption) hbk.2.2.2.2 | have hbn := Grow.none (by assumption) hbk.2.2.2.2.2)); (try simp only [set_none'] at hbn); (try (first | have hbm := Grow.none (by assumption) hbn | have hbm := Grow.none (by assumption) hbn.2 | have hbm := Grow.none (by assumption) hbn.2.2 | have hbm := Grow.none (by assumption) hbn.2.2.2 | have hbm := Grow.none (by assumption) hbn.2.2.2.2 | have hbm := Grow.none (by assumption) hbn.2.2.2.2.2)); (try simp only [set_none'] at hbm)) | ((first | refine condS_i ?_ ?_ | refine pick_i ?_ ?_ | refine gS_it ?_ ?_ | refine gS_if ?_ ?_ | refine gP_it ?_ ?_ | refine gP_if ?_ ?_) <;> (intro hc; try simp only [Int.reduceLE,Int.reduceLT,Int.reduceEq,Sn] at hc)) | (with_reducible refine KP_i ?_ ?_; · (repeat' (first | exact Heap.Le.refl _ | (with_reducible refine Le_set2 ?_) | (refine Le_known (by first | (simp only [Heap.set_same, set_ne, ne_eq, not_false_eq_true, *] <;> rfl) | fail) ?_) | (refine Le_fresh (by first | (simp only [*] <;> done) | (simp [set_none', Heap.set_same, set_ne, noneH, *] <;> done) | fail) ?_) | (refine Heap.Le.trans ?_ (Grow.le (by assumption))) | exact Le_none | (refine Le_put ?_ (by first | (simp only [Heap.set_same, set_ne, ne_eq, not_false_eq_true, *] <;> rfl) | fail)) | fail))) | (with_reducible refine And.intro ?_ ?_)) <;> (try simp only [Sq,Sr,Sh,Si,Sl,Bu,Bb,Bd,Bc,Bw,Bn,Int.reduceAdd,Int.reduceSub,Int.reduceMul,Int.reduceTDiv,Int.reduceTMod,Int.reduceMod,Int.reduceDiv,Nat.reduceLT,Nat.reduceEqDiff,Sa,Sb,Sc,Sd,Se,Sf,Sg,Int.reduceLE,Int.reduceLT,Int.reduceToNat,Int.reduceNeg,Int.reduceEq,Nat.reduceLeDiff,Nat.reducePow,Int.reducePow,reduceIte,Nat.reduceSub,Nat.reduceAdd,Nat.reduceMul,putAt,ceq,List.replicate, *]))
  refine hc_heap (fun G3 e3 => ?_)
  have k1 := at_of e3 (b := b1) (by simp only [Heap.set_same, set_ne, ne_eq, not_false_eq_true, *] <;> rfl)
  have gx3 : Grow w0 Hx G3 := by rw [e3]; exact gx.set s1 nx1
  have gH3 : Grow w0 H G3 := by rw [e3]; exact gHx.set s1 n1
  clear e3 hbk hb0 gx gHx
  refine c_GenT (hIx.grow gx3) (fun y e H4 hP hC4 g4 => ?_)
  have j1 := g4.some k1
  have gH4 := gH3.trans g4
  rcases hP with ⟨he, rfl⟩ | ⟨hp, rfl, hok⟩
  · have hne : ¬ e = 0 := by cases he <;> decide
    rw [root1 j1]
    unfold Im.v Im0
    clear he hC4
    (all_goals (try simp only [Sq,Sr,Sh,Si,Sl,Bu,Bb,Bd,Bc,Bw,Bn,Int.reduceAdd,Int.reduceSub,Int.reduceMul,Int.reduceTDiv,Int.reduceTMod,Int.reduceMod,Int.reduceDiv,Nat.reduceLT,Nat.reduceEqDiff,Sa,Sb,Sc,Sd,Se,Sf,Sg,Int.reduceLE,Int.reduceLT,Int.reduceToNat,Int.reduceNeg,Int.reduceEq,Nat.reduceLeDiff,Nat.reducePow,Int.reducePow,reduceIte,Nat.reduceSub,Nat.reduceAdd,Nat.reduceMul,putAt,ceq,List.replicate, *])); repeat' ((first | (with_reducible refine fun _ : True => ?_) | (with_reducible refine any_h ?_) | ((first | refine AllocQ_i ?_ | refine AllocO_i ?_); intro bk hb0 hbk; (try simp only [set_none'] at hbk); (try (first | have hbn := Grow.none (by assumption) hbk | have hbn := Grow.none (by assumption) hbk.2 | have hbn := Grow.none (by assumption) hbk.2.2 | have hbn := Grow.none (by assumption) hbk.2.2.2 | have hbn := Grow.none (by assumption) hbk.2.2.2.2 | have hbn := Grow.none (by assumption) hbk.2.2.2.2.2)); (try simp only [set_none'] at hbn); (try (first | have hbm := Grow.none (by assumption) hbn | have hbm := Grow.none (by assumption) hbn.2 | have hbm := Grow.none (by assumption) hbn.2.2 | have hbm := Grow.none (by assumption) hbn.2.2.2 | have hbm := Grow.none (by assumption) hbn.2.2.2.2 | have hbm := Grow.none (by assumption) hbn.2.2.2.2.2)); (try simp only [set_none'] at hbm)) | ((first | refine condS_i ?_ ?_ | refine pick_i ?_ ?_ | refine gS_it ?_ ?_ | refine gS_if ?_ ?_ | refine gP_it ?_ ?_ | refine gP_if ?_ ?_) <;> (intro hc; try simp only [Int.reduceLE,Int.reduceLT,Int.reduceEq,Sn] at hc)) | (with_reducible refine KP_i ?_ ?_; · (repeat' (first | exact Heap.Le.refl _ | (with_reducible refine Le_set2 ?_) | (refine Le_known (by first | (simp only [Heap.set_same, set_ne, ne_eq, not_false_eq_true, *] <;> rfl) | fail) ?_) | (refine Le_fresh (by first | (simp only [*] <;> done) | (simp [set_none', Heap.set_same, set_ne, noneH, *] <;> done) | fail) ?_) | (refine Heap.Le.trans ?_ (Grow.le (by assumption))) | exact Le_none | (refine Le_put ?_ (by first | (simp only [Heap.set_same, set_ne, ne_eq, not_false_eq_true, *] <;> rfl) | fail)) | fail))) | (with_reducible refine And.intro ?_ ?_)) <;> (try simp only [Sq,Sr,Sh,Si,Sl,Bu,Bb,Bd,Bc,Bw,Bn,Int.reduceAdd,Int.reduceSub,Int.reduceMul,Int.reduceTDiv,Int.reduceTMod,Int.reduceMod,Int.reduceDiv,Nat.reduceLT,Nat.reduceEqDiff,Sa,Sb,Sc,Sd,Se,Sf,Sg,Int.reduceLE,Int.reduceLT,Int.reduceToNat,Int.reduceNeg,Int.reduceEq,Nat.reduceLeDiff,Nat.reducePow,Int.reducePow,reduceIte,Nat.reduceSub,Nat.reduceAdd,Nat.reduceMul,putAt,ceq,List.replicate, *]))
    all_goals exact Fin_mk (Heap.Le.trans (Grow.le gH4) (by (repeat' (first | exact Heap.Le.refl _ | (with_reducible refine Le_set2 ?_) | (refine Le_known (by first | (simp only [Heap.set_same, set_ne, ne_eq, not_false_eq_true, *] <;> rfl) | fail) ?_) | (refine Le_fresh (by first | (simp only [*] <;> done) | (simp [set_none', Heap.set_same, set_ne, noneH, *] <;> done) | fail) ?_) | (refine Heap.Le.trans ?_ (Grow.le (by assumption))) | exact Le_none | (refine Le_put ?_ (by first | (simp only [Heap.set_same, set_ne, ne_eq, not_false_eq_true, *] <;> rfl) | fail)) | fail)))) h
  · obtain ⟨z, y0, F⟩ := gen_f hp hok
    have hpy := gen_genP hp hok
    rw [root1 j1]
    unfold Im.v
    (all_goals (try simp only [Sq,Sr,Sh,Si,Sl,Bu,Bb,Bd,Bc,Bw,Bn,Int.reduceAdd,Int.reduceSub,Int.reduceMul,Int.reduceTDiv,Int.reduceTMod,Int.reduceMod,Int.reduceDiv,Nat.reduceLT,Nat.reduceEqDiff,Sa,Sb,Sc,Sd,Se,Sf,Sg,Int.reduceLE,Int.reduceLT,Int.reduceToNat,Int.reduceNeg,Int.reduceEq,Nat.reduceLeDiff,Nat.reducePow,Int.reducePow,reduceIte,Nat.reduceSub,Nat.reduceAdd,Nat.reduceMul,putAt,ceq,List.replicate, *])); repeat' ((first | (with_reducible refine fun _ : True => ?_) | (with_reducible refine any_h ?_) | ((first | refine AllocQ_i ?_ | refine AllocO_i ?_); intro bk hb0 hbk; (try simp only [set_none'] at hbk); (try (first | have hbn := Grow.none (by assumption) hbk | have hbn := Grow.none (by assumption) hbk.2 | have hbn := Grow.none (by assumption) hbk.2.2 | have hbn := Grow.none (by assumption) hbk.2.2.2 | have hbn := Grow.none (by assumption) hbk.2.2.2.2 | have hbn := Grow.none (by assumption) hbk.2.2.2.2.2)); (try simp only [set_none'] at hbn); (try (first | have hbm := Grow.none (by assumption) hbn | have hbm := Grow.none (by assumption) hbn.2 | have hbm := Grow.none (by assumption) hbn.2.2 | have hbm := Grow.none (by assumption) hbn.2.2.2 | have hbm := Grow.none (by assumption) hbn.2.2.2.2 | have hbm := Grow.none (by assumption) hbn.2.2.2.2.2)); (try simp only [set_none'] at hbm)) | ((first | refine condS_i ?_ ?_ | refine pick_i ?_ ?_ | refine gS_it ?_ ?_ | refine gS_if ?_ ?_ | refine gP_it ?_ ?_ | refine gP_if ?_ ?_) <;> (intro hc; try simp only [Int.reduceLE,Int.reduceLT,Int.reduceEq,Sn] at hc)) | (with_reducible refine KP_i ?_ ?_; · (repeat' (first | exact Heap.Le.refl _ | (with_reducible refine Le_set2 ?_) | (refine Le_known (by first | (simp only [Heap.set_same, set_ne, ne_eq, not_false_eq_true, *] <;> rfl) | fail) ?_) | (refine Le_fresh (by first | (simp only [*] <;> done) | (simp [set_none', Heap.set_same, set_ne, noneH, *] <;> done) | fail) ?_) | (refine Heap.Le.trans ?_ (Grow.le (by assumption))) | exact Le_none | (refine Le_put ?_ (by first | (simp only [Heap.set_same, set_ne, ne_eq, not_false_eq_true, *] <;> rfl) | fail)) | fail))) | (with_reducible refine And.intro ?_ ?_)) <;> (try simp only [Sq,Sr,Sh,Si,Sl,Bu,Bb,Bd,Bc,Bw,Bn,Int.reduceAdd,Int.reduceSub,Int.reduceMul,Int.reduceTDiv,Int.reduceTMod,Int.reduceMod,Int.reduceDiv,Nat.reduceLT,Nat.reduceEqDiff,Sa,Sb,Sc,Sd,Se,Sf,Sg,Int.reduceLE,Int.reduceLT,Int.reduceToNat,Int.reduceNeg,Int.reduceEq,Nat.reduceLeDiff,Nat.reducePow,Int.reducePow,reduceIte,Nat.reduceSub,Nat.reduceAdd,Nat.reduceMul,putAt,ceq,List.replicate, *]))
    obtain ⟨b3, rfl⟩ : ∃ b3, b3 = bk := ⟨_, rfl⟩
    have s3 : w0.heap.size ≤ b3 := hb0
    have d13 : b1 ≠ b3 := hbk.1.2
    have d31 := Ne.symm d13
    have n3 : H4 b3 = none := hbk.2
    refine hc_heap (fun G5 e5 => ?_)
    have m1 := at_of e5 (b := b1) (by simp only [Heap.set_same, set_ne, ne_eq, not_false_eq_true, *] <;> rfl)
    have m3 := at_of e5 (b := b3) (by simp only [Heap.set_same, set_ne, ne_eq, not_false_eq_true, *] <;> rfl)
    have g45 : Grow w0 H4 G5 := by rw [e5]; exact (by (repeat' (first | exact Grow.refl _ | assumption | (refine Grow_known (by first | (simp only [Heap.set_same, set_ne, ne_eq, not_false_eq_true, *] <;> rfl) | fail) ?_) | (refine Grow.set ?_ (by assumption) (by first | (simp only [*] <;> done) | (simp [set_none', Heap.set_same, set_ne, noneH, *] <;> done) | fail)) | (refine Grow.trans ?_ (by assumption)))))
    clear e5 hbk hb0 hbn
    refine c_GenT (x := y) (hC4.ok.grow g45) (fun u e H6 hP2 hC6 g6 => ?_)
    rcases hP2 with ⟨he, -⟩ | ⟨-, rfl, hok2⟩
    · exact (GenE_not he hpy).elim
    have hEq := gen_again hp hok hok2
    have hcm := gen_compl hp hok
    have i1 := g6.some m1
    have i3 := g6.some m3
    have g46 := g45.trans g6
    have gx6 : Grow w0 Hx H6 := (gx3.trans g4).trans g46
    have gH6 : Grow w0 H H6 := gH4.trans g46
    obtain ⟨xb, xo, exa, xr0, xf0⟩ := first_at hIx F.gz
    obtain ⟨yb, yo, eya, yr0, yf0⟩ := first_at hC4.ok F.gy
    have xb1 : b1 ≠ xb := xf0 b1 s1 nx1
    have xb3 : b3 ≠ xb := xf0 b3 s3 ((gx3.trans g4).none n3)
    have yb1 : b1 ≠ yb := fun e => by
      rcases hC4.bld with ⟨c, zz, e1, a1, a2, a3, a4⟩ | ⟨-, e1⟩
      · rw [eya] at e1
        cases e1
        subst e
        rw [k1] at a2; cases a2
      · have hpos := (List.getElem?_eq_some_iff.1 F.gy).1
        have := congrArg List.length e1
        rw [rows_len] at this
        have h0 : y.ls.length * 3 = 0 := this
        omega
    have yb3 : b3 ≠ yb := yf0 b3 s3 n3
    have xr := gx6.rdn xr0 (by decide)
    have yr := g46.rdn yr0 (by decide)
    have xf : ∀ c, w0.heap.size ≤ c → H6 c = none → c ≠ xb := fun c h1 h2 => xf0 c h1 (gx6.none h2)
    have yf : ∀ c, w0.heap.size ≤ c → H6 c = none → c ≠ yb := fun c h1 h2 => yf0 c h1 (g46.none h2)
    obtain ⟨xr2, -⟩ := rd1_of_rdn (i := 2) xr (by decide)
    simp only [List.getElem?_cons_zero, List.getElem?_cons_succ] at xr2
    have hlz := (hIx.lv z (List.mem_of_getElem? F.gz)).grow gx6
    have hly := (hC4.ok.lv y0 (List.mem_of_getElem? F.gy)).grow g46
    have ely : y0.l = z.l := congrArg (fun q : Core => q.2.2) F.co
    have hC4' := hC4.ok.grow g46
    have hC6' := hC6.ok
    have cS : ∀ (G : Heap) (K : Value → Heap → Prop), Grow w0 H6 G → K (.bool true) G → HCalls Try.prog w0 25 [y.v, u.v] G K := fun G K g hk => c_Same y u (hC4'.grow g) (hC6'.grow g) (fun _ => hk) (fun q => (q hEq).elim)
    have cD : ∀ (G : Heap) (K : Value → Heap → Prop), Grow w0 H6 G → K (.bool true) G → HCalls Try.prog w0 30 [y.v] G K := fun G K g hk => c_Complete y (hC4'.grow g) (fun _ => hk) (fun q => (q hcm).elim)
    have cN : ∀ (G : Heap) (K : Value → Heap → Prop), K (.int .i64 (y.ls.length : Nat)) G → HCalls Try.prog w0 20 [.int .i64 y0.w, .int .i64 y0.h] G K := fun G K hk => c_Count _ _ (by rw [← F.len]; exact hk)
    have cB : ∀ (G : Heap) (K : Value → Heap → Prop), Grow w0 H6 G → K (.bool true) G → HCalls Try.prog w0 24 [.slice y0.a y0.l.length y0.cap, .slice z.a z.l.length z.cap] G K := fun G K g hk => c_bytesEqual _ _ _ _ _ _ y0.l z.l rfl rfl (hly.grow g).at_ (hlz.grow g).at_ hly.by_ hlz.by_ (by rw [decide_eq_true ely]; exact hk)
    have xl0 : (0 : Int) < (x1.ls.length : Int) := by have := (List.getElem?_eq_some_iff.1 F.gz).1; omega
    have yl0 : (0 : Int) < (y.ls.length : Int) := by have := (List.getElem?_eq_some_iff.1 F.gy).1; omega
    clear hlz hly hC4' hC6' hC4 hC6 hok hok2 hp hpy F hEq hcm m1 m3 j1 k1 xr0 yr0 xf0 yf0 hIx hSx ely xr g45 g46 g6 g4 gH3 gH4 gx3 nx1
    unfold Im.v at cS cD
    rw [eya] at cS cD
    unfold Im.v
    rw [eya] at i3 ⊢
    rw [exa] at i1 ⊢
    rw [root2 d13 i1 i3]
    clear eya exa
    (all_goals (try simp only [Sq,Sr,Sh,Si,Sl,Bu,Bb,Bd,Bc,Bw,Bn,Int.reduceAdd,Int.reduceSub,Int.reduceMul,Int.reduceTDiv,Int.reduceTMod,Int.reduceMod,Int.reduceDiv,Nat.reduceLT,Nat.reduceEqDiff,Sa,Sb,Sc,Sd,Se,Sf,Sg,Int.reduceLE,Int.reduceLT,Int.reduceToNat,Int.reduceNeg,Int.reduceEq,Nat.reduceLeDiff,Nat.reducePow,Int.reducePow,reduceIte,Nat.reduceSub,Nat.reduceAdd,Nat.reduceMul,putAt,ceq,List.replicate, *])); repeat' ((first | (with_reducible refine fun _ : True => ?_) | refine cS _ _ (by (repeat' (first | exact Grow.refl _ | assumption | (refine Grow_known (by first | (simp only [Heap.set_same, set_ne, ne_eq, not_false_eq_true, *] <;> rfl) | fail) ?_) | (refine Grow.set ?_ (by assumption) (by first | (simp only [*] <;> done) | (simp [set_none', Heap.set_same, set_ne, noneH, *] <;> done) | fail)) | (refine Grow.trans ?_ (by assumption))))) ?_ | refine cD _ _ (by (repeat' (first | exact Grow.refl _ | assumption | (refine Grow_known (by first | (simp only [Heap.set_same, set_ne, ne_eq, not_false_eq_true, *] <;> rfl) | fail) ?_) | (refine Grow.set ?_ (by assumption) (by first | (simp only [*] <;> done) | (simp [set_none', Heap.set_same, set_ne, noneH, *] <;> done) | fail)) | (refine Grow.trans ?_ (by assumption))))) ?_ | refine cN _ _ ?_ | refine cB _ _ (by (repeat' (first | exact Grow.refl _ | assumption | (refine Grow_known (by first | (simp only [Heap.set_same, set_ne, ne_eq, not_false_eq_true, *] <;> rfl) | fail) ?_) | (refine Grow.set ?_ (by assumption) (by first | (simp only [*] <;> done) | (simp [set_none', Heap.set_same, set_ne, noneH, *] <;> done) | fail)) | (refine Grow.trans ?_ (by assumption))))) ?_ | (with_reducible refine any_h ?_) | ((first | refine AllocQ_i ?_ | refine AllocO_i ?_); intro bk hb0 hbk; (try simp only [set_none'] at hbk); (try (first | have hbn := Grow.none (by assumption) hbk | have hbn := Grow.none (by assumption) hbk.2 | have hbn := Grow.none (by assumption) hbk.2.2 | have hbn := Grow.none (by assumption) hbk.2.2.2 | have hbn := Grow.none (by assumption) hbk.2.2.2.2 | have hbn := Grow.none (by assumption) hbk.2.2.2.2.2)); (try simp only [set_none'] at hbn); (try (first | have hbm := Grow.none (by assumption) hbn | have hbm := Grow.none (by assumption) hbn.2 | have hbm := Grow.none (by assumption) hbn.2.2 | have hbm := Grow.none (by assumption) hbn.2.2.2 | have hbm := Grow.none (by assumption) hbn.2.2.2.2 | have hbm := Grow.none (by assumption) hbn.2.2.2.2.2)); (try simp only [set_none'] at hbm)) | ((first | refine condS_i ?_ ?_ | refine pick_i ?_ ?_ | refine gS_it ?_ ?_ | refine gS_if ?_ ?_ | refine gP_it ?_ ?_ | refine gP_if ?_ ?_) <;> (intro hc; try simp only [Int.reduceLE,Int.reduceLT,Int.reduceEq,Sn] at hc)) | (with_reducible refine KP_i ?_ ?_; · (repeat' (first | exact Heap.Le.refl _ | (with_reducible refine Le_set2 ?_) | (refine Le_known (by first | (simp only [Heap.set_same, set_ne, ne_eq, not_false_eq_true, *] <;> rfl) | fail) ?_) | (refine Le_fresh (by first | (simp only [*] <;> done) | (simp [set_none', Heap.set_same, set_ne, noneH, *] <;> done) | fail) ?_) | (refine Heap.Le.trans ?_ (Grow.le (by assumption))) | exact Le_none | (refine Le_put ?_ (by first | (simp only [Heap.set_same, set_ne, ne_eq, not_false_eq_true, *] <;> rfl) | fail)) | fail))) | (with_reducible refine And.intro ?_ ?_)) <;> (try simp only [Sq,Sr,Sh,Si,Sl,Bu,Bb,Bd,Bc,Bw,Bn,Int.reduceAdd,Int.reduceSub,Int.reduceMul,Int.reduceTDiv,Int.reduceTMod,Int.reduceMod,Int.reduceDiv,Nat.reduceLT,Nat.reduceEqDiff,Sa,Sb,Sc,Sd,Se,Sf,Sg,Int.reduceLE,Int.reduceLT,Int.reduceToNat,Int.reduceNeg,Int.reduceEq,Nat.reduceLeDiff,Nat.reducePow,Int.reducePow,reduceIte,Nat.reduceSub,Nat.reduceAdd,Nat.reduceMul,putAt,ceq,List.replicate, *]))
    all_goals exact Fin_mk (Heap.Le.trans (Grow.le gH6) (by (repeat' (first | exact Heap.Le.refl _ | (with_reducible refine Le_set2 ?_) | (refine Le_known (by first | (simp only [Heap.set_same, set_ne, ne_eq, not_false_eq_true, *] <;> rfl) | fail) ?_) | (refine Le_fresh (by first | (simp only [*] <;> done) | (simp [set_none', Heap.set_same, set_ne, noneH, *] <;> done) | fail) ?_) | (refine Heap.Le.trans ?_ (Grow.le (by assumption))) | exact Le_none | (refine Le_put ?_ (by first | (simp only [Heap.set_same, set_ne, ne_eq, not_false_eq_true, *] <;> rfl) | fail)) | fail)))) h
end Go.Proofs.Ytdaipgnhconfnaa
