/- Numbers converted, by both (layer 18). -/
import Derived.Test.YtdmnfaefakceiaaGreatVma
import Derived.Test.YtdmnfaefakceiaaGreatPa
set_option linter.unusedSimpArgs false
set_option linter.unusedVariables false
set_option maxRecDepth 100000
set_option maxHeartbeats 4000000
namespace Go.Proofs.YtdmnfaefakceiaaGreat
open Go.HL Go.RowKit Pb
variable {w0 : World} {H G : Heap} {K : Value → Heap → Prop}

theorem raw_of (x : Int) : raw (cut x (-65536) 65536 * 65536) = raw (x * 65536) := by unfold raw cut; (repeat' split) <;> omega
theorem raw_hi {x : Int} (h : 40000 < x) : raw (x * 65536) = 2147483647 := by unfold raw; (repeat' split) <;> omega
theorem raw_lo {x : Int} (h : x < -40000) : raw (x * 65536) = -2147483648 := by unfold raw; (repeat' split) <;> omega
def cvt (f t x : Int) : Int := if f = t then x else if t = 3 then (if x = 0 then 0 else 1) else if t = 2 then (if f = 3 then x else x.tdiv 65536) else if f = 3 then (if x = 0 then 0 else 65536) else raw (x * 65536)
theorem w64_32 {x : Int} (h : I32 x) : IntKind.i64.wrap x = x := h.w64
theorem tdiv_in {x : Int} (h : I32 x) : I32 (x.tdiv 65536) := by
  unfold I32 at *
  rcases Int.le_total 0 x with h0 | h0
  · rw [Int.tdiv_eq_ediv_of_nonneg h0]; omega
  · have e : x.tdiv 65536 = -((-x).tdiv 65536) := by rw [Int.neg_tdiv, Int.neg_neg]
    rw [e, Int.tdiv_eq_ediv_of_nonneg (by omega)]; omega
/- fix cut[int64] -/
def M124 : MC :=
  .seq (.reg [⟨(some 6), .mv (.const (.int .i64 0)), none⟩])
 (.seq (.reg [⟨(some 7), .mv (.tmp 0), none⟩,
 ⟨(some 8), .mv (.tmp 1), none⟩,
 ⟨(some 9), .mx (.tmp 7) (.tmp 8), none⟩,
 ⟨(some 10), .mv (.tmp 2), none⟩,
 ⟨(some 11), .mn (.tmp 9) (.tmp 10), none⟩,
 ⟨(some 6), .mv (.tmp 11), none⟩])
 (.ret))
theorem k124 : fnOk Tryz.prog 124 = some (M124, [.t 6], 12) := by kernel_rfl
/- fix cut[int] -/
def M70 : MC :=
  .seq (.reg [⟨(some 6), .mv (.const (.int .i64 0)), none⟩])
 (.seq (.reg [⟨(some 7), .mv (.tmp 0), none⟩,
 ⟨(some 8), .mv (.tmp 1), none⟩,
 ⟨(some 9), .mx (.tmp 7) (.tmp 8), none⟩,
 ⟨(some 10), .mv (.tmp 2), none⟩,
 ⟨(some 11), .mn (.tmp 9) (.tmp 10), none⟩,
 ⟨(some 6), .mv (.tmp 11), none⟩])
 (.ret))
theorem k70 : fnOk Tryz.prog 70 = some (M70, [.t 6], 12) := by kernel_rfl
/- fix Raw -/
def M69 : MC :=
  .seq (.reg [⟨(some 2), .mv (.const (.int .i32 0)), none⟩])
 (.seq (.reg [⟨(some 3), .mv (.tmp 0), none⟩,
 ⟨(some 4), .call 124 [(.tmp 3), (.const (.int .i64 (-2147483648))), (.const (.int .i64 2147483647))], none⟩,
 ⟨(some 5), .conv .i32 (.tmp 4), none⟩,
 ⟨(some 2), .mv (.tmp 5), none⟩])
 (.ret))
theorem k69 : fnOk Tryz.prog 69 = some (M69, [.t 2], 6) := by kernel_rfl
/- fix Of -/
def M38 : MC :=
  .seq (.reg [⟨(some 2), .mv (.const (.int .i32 0)), none⟩])
 (.seq (.reg [⟨(some 3), .mv (.tmp 0), none⟩,
 ⟨(some 4), .call 70 [(.tmp 3), (.const (.int .i64 (-65536))), (.const (.int .i64 65536))], none⟩,
 ⟨(some 5), .bin .shl (.tmp 4) (.const (.int .u64 16)), none⟩,
 ⟨(some 6), .call 69 [(.tmp 5)], none⟩,
 ⟨(some 2), .mv (.tmp 6), none⟩])
 (.ret))
theorem k38 : fnOk Tryz.prog 38 = some (M38, [.t 2], 7) := by kernel_rfl
/- paintboxref02 Raw -/
def M71 : MC :=
  .seq (.reg [⟨(some 2), .mv (.const (.int .i32 0)), none⟩])
 (.seq (.seq (.reg [⟨(some 3), .mv (.tmp 0), none⟩,
 ⟨(some 4), .bin .gtr (.tmp 3) (.const (.int .i64 2147483647)), none⟩])
 (.cond (.tmp 4)
 (.seq (.reg [⟨(some 2), .mv (.const (.int .i32 2147483647)), none⟩])
 (.ret))
 (.skip)))
 (.seq (.seq (.reg [⟨(some 5), .mv (.tmp 0), none⟩,
 ⟨(some 6), .bin .lss (.tmp 5) (.const (.int .i64 (-2147483648))), none⟩])
 (.cond (.tmp 6)
 (.seq (.reg [⟨(some 2), .mv (.const (.int .i32 (-2147483648))), none⟩])
 (.ret))
 (.skip)))
 (.seq (.reg [⟨(some 7), .mv (.tmp 0), none⟩,
 ⟨(some 8), .conv .i32 (.tmp 7), none⟩,
 ⟨(some 2), .mv (.tmp 8), none⟩])
 (.ret))))
theorem k71 : fnOk Tryz.prog 71 = some (M71, [.t 2], 9) := by kernel_rfl
/- paintboxref02 Of -/
def M40 : MC :=
  .seq (.reg [⟨(some 2), .mv (.const (.int .i32 0)), none⟩])
 (.seq (.seq (.reg [⟨(some 3), .mv (.tmp 0), none⟩,
 ⟨(some 4), .bin .gtr (.tmp 3) (.const (.int .i64 40000)), none⟩])
 (.cond (.tmp 4)
 (.seq (.reg [⟨(some 2), .mv (.const (.int .i32 2147483647)), none⟩])
 (.ret))
 (.skip)))
 (.seq (.seq (.reg [⟨(some 5), .mv (.tmp 0), none⟩,
 ⟨(some 6), .bin .lss (.tmp 5) (.const (.int .i64 (-40000))), none⟩])
 (.cond (.tmp 6)
 (.seq (.reg [⟨(some 2), .mv (.const (.int .i32 (-2147483648))), none⟩])
 (.ret))
 (.skip)))
 (.seq (.reg [⟨(some 7), .mv (.tmp 0), none⟩,
 ⟨(some 8), .bin .mul (.tmp 7) (.const (.int .i64 65536)), none⟩,
 ⟨(some 9), .call 71 [(.tmp 8)], none⟩,
 ⟨(some 2), .mv (.tmp 9), none⟩])
 (.ret))))
theorem k40 : fnOk Tryz.prog 40 = some (M40, [.t 2], 10) := by kernel_rfl
/- paintbox/vm truth -/
def M37 : MC :=
  .seq (.reg [⟨(some 2), .mv (.const (.int .i32 0)), none⟩])
 (.seq (.seq (.reg [⟨(some 3), .mv (.tmp 0), none⟩])
 (.cond (.tmp 3)
 (.seq (.reg [⟨(some 2), .mv (.const (.int .i32 1)), none⟩])
 (.ret))
 (.skip)))
 (.seq (.reg [⟨(some 2), .mv (.const (.int .i32 0)), none⟩])
 (.ret)))
theorem k37 : fnOk Tryz.prog 37 = some (M37, [.t 2], 4) := by kernel_rfl
/- paintboxref15 one -/
def M39 : MC :=
  .seq (.reg [⟨(some 2), .mv (.const (.int .i32 0)), none⟩])
 (.seq (.seq (.reg [⟨(some 3), .mv (.tmp 0), none⟩])
 (.cond (.tmp 3)
 (.seq (.reg [⟨(some 2), .mv (.const (.int .i32 1)), none⟩])
 (.ret))
 (.skip)))
 (.seq (.reg [⟨(some 2), .mv (.const (.int .i32 0)), none⟩])
 (.ret)))
theorem k39 : fnOk Tryz.prog 39 = some (M39, [.t 2], 4) := by kernel_rfl

theorem c_cut64 (a b c : Int) (h : K (.int .i64 (cut a b c)) H) : HCalls Tryz.prog w0 124 [.int .i64 a, .int .i64 b, .int .i64 c] H K := by
  refine HL.hc k124 999 ?_; unfold M124
  exact Fin_mk (Heap.Le.refl _) h
theorem c_cutI (a b c : Int) (h : K (.int .i64 (cut a b c)) H) : HCalls Tryz.prog w0 70 [.int .i64 a, .int .i64 b, .int .i64 c] H K := by
  refine HL.hc k70 999 ?_; unfold M70
  exact Fin_mk (Heap.Le.refl _) h
theorem c_Raw (n : Int) (h : K (.int .i32 (raw n)) H) : HCalls Tryz.prog w0 69 [.int .i64 n] H K := by
  refine HL.hc k69 999 ?_; unfold M69
  rw [← w32_cut] at h
  (all_goals (try simp only [Sq,Sr,Sh,Si,Sl,Bu,Bb,Bd,Bc,Bw,Bn,Int.reduceAdd,Int.reduceSub,Int.reduceMul,Int.reduceTDiv,Int.reduceTMod,Int.reduceMod,Int.reduceDiv,Nat.reduceLT,Nat.reduceEqDiff,Sa,Sb,Sc,Sd,Se,Sf,Sg,Int.reduceLE,Int.reduceLT,Int.reduceToNat,Int.reduceNeg,Int.reduceEq,Nat.reduceLeDiff,Nat.reducePow,Int.reducePow,reduceIte,Nat.reduceSub,Nat.reduceAdd,Nat.reduceMul,putAt,ceq,List.replicate, *])); repeat' ((first | (with_reducible refine fun _ : True => ?_) | refine c_cut64 _ _ _ ?_ | (with_reducible refine any_h ?_) | ((first | refine AllocQ_i ?_ | refine AllocO_i ?_); intro bk hb0 hbk; (try simp only [set_none'] at hbk); (try (first | have hbn := Grow.none (by assumption) hbk | have hbn := Grow.none (by assumption) hbk.2 | have hbn := Grow.none (by assumption) hbk.2.2 | have hbn := Grow.none (by assumption) hbk.2.2.2 | have hbn := Grow.none (by assumption) hbk.2.2.2.2 | have hbn := Grow.none (by assumption) hbk.2.2.2.2.2)); (try simp only [set_none'] at hbn); (try (first | have hbm := Grow.none (by assumption) hbn | have hbm := Grow.none (by assumption) hbn.2 | have hbm := Grow.none (by assumption) hbn.2.2 | have hbm := Grow.none (by assumption) hbn.2.2.2 | have hbm := Grow.none (by assumption) hbn.2.2.2.2 | have hbm := Grow.none (by assumption) hbn.2.2.2.2.2)); (try simp only [set_none'] at hbm)) | ((first | refine condS_i ?_ ?_ | refine pick_i ?_ ?_ | refine gS_it ?_ ?_ | refine gS_if ?_ ?_ | refine gP_it ?_ ?_ | refine gP_if ?_ ?_) <;> (intro hc; try simp only [Int.reduceLE,Int.reduceLT,Int.reduceEq,Sn] at hc)) | (with_reducible refine KP_i ?_ ?_; · (repeat' (first | exact Heap.Le.refl _ | (with_reducible refine Le_set2 ?_) | (refine Le_known (by first | (simp only [Heap.set_same, set_ne, ne_eq, not_false_eq_true, *] <;> rfl) | fail) ?_) | (refine Le_fresh (by first | (simp only [*] <;> done) | (simp [set_none', Heap.set_same, set_ne, noneH, *] <;> done) | fail) ?_) | (refine Heap.Le.trans ?_ (Grow.le (by assumption))) | exact Le_none | (refine Le_put ?_ (by first | (simp only [Heap.set_same, set_ne, ne_eq, not_false_eq_true, *] <;> rfl) | fail)) | fail))) | (with_reducible refine And.intro ?_ ?_)) <;> (try simp only [Sq,Sr,Sh,Si,Sl,Bu,Bb,Bd,Bc,Bw,Bn,Int.reduceAdd,Int.reduceSub,Int.reduceMul,Int.reduceTDiv,Int.reduceTMod,Int.reduceMod,Int.reduceDiv,Nat.reduceLT,Nat.reduceEqDiff,Sa,Sb,Sc,Sd,Se,Sf,Sg,Int.reduceLE,Int.reduceLT,Int.reduceToNat,Int.reduceNeg,Int.reduceEq,Nat.reduceLeDiff,Nat.reducePow,Int.reducePow,reduceIte,Nat.reduceSub,Nat.reduceAdd,Nat.reduceMul,putAt,ceq,List.replicate, *]))
  exact Fin_mk (Heap.Le.refl _) h
theorem c_Of (x : Int) (h : K (.int .i32 (raw (x * 65536))) H) : HCalls Tryz.prog w0 38 [.int .i64 x] H K := by
  rw [← raw_of] at h
  have hw : IntKind.i64.wrap (cut x (-65536) 65536 * 65536) = cut x (-65536) 65536 * 65536 := Bw.1 _ (by unfold cut; (repeat' split) <;> omega) (by unfold cut; (repeat' split) <;> omega)
  replace h : Keep _ := h
  refine HL.hc k38 999 ?_; unfold M38
  (all_goals (try simp only [Sq,Sr,Sh,Si,Sl,Bu,Bb,Bd,Bc,Bw,Bn,Int.reduceAdd,Int.reduceSub,Int.reduceMul,Int.reduceTDiv,Int.reduceTMod,Int.reduceMod,Int.reduceDiv,Nat.reduceLT,Nat.reduceEqDiff,Sa,Sb,Sc,Sd,Se,Sf,Sg,Int.reduceLE,Int.reduceLT,Int.reduceToNat,Int.reduceNeg,Int.reduceEq,Nat.reduceLeDiff,Nat.reducePow,Int.reducePow,reduceIte,Nat.reduceSub,Nat.reduceAdd,Nat.reduceMul,putAt,ceq,List.replicate, *])); repeat' ((first | (with_reducible refine fun _ : True => ?_) | refine c_cutI _ _ _ ?_ | refine c_Raw _ ?_ | (with_reducible refine any_h ?_) | ((first | refine AllocQ_i ?_ | refine AllocO_i ?_); intro bk hb0 hbk; (try simp only [set_none'] at hbk); (try (first | have hbn := Grow.none (by assumption) hbk | have hbn := Grow.none (by assumption) hbk.2 | have hbn := Grow.none (by assumption) hbk.2.2 | have hbn := Grow.none (by assumption) hbk.2.2.2 | have hbn := Grow.none (by assumption) hbk.2.2.2.2 | have hbn := Grow.none (by assumption) hbk.2.2.2.2.2)); (try simp only [set_none'] at hbn); (try (first | have hbm := Grow.none (by assumption) hbn | have hbm := Grow.none (by assumption) hbn.2 | have hbm := Grow.none (by assumption) hbn.2.2 | have hbm := Grow.none (by assumption) hbn.2.2.2 | have hbm := Grow.none (by assumption) hbn.2.2.2.2 | have hbm := Grow.none (by assumption) hbn.2.2.2.2.2)); (try simp only [set_none'] at hbm)) | ((first | refine condS_i ?_ ?_ | refine pick_i ?_ ?_ | refine gS_it ?_ ?_ | refine gS_if ?_ ?_ | refine gP_it ?_ ?_ | refine gP_if ?_ ?_) <;> (intro hc; try simp only [Int.reduceLE,Int.reduceLT,Int.reduceEq,Sn] at hc)) | (with_reducible refine KP_i ?_ ?_; · (repeat' (first | exact Heap.Le.refl _ | (with_reducible refine Le_set2 ?_) | (refine Le_known (by first | (simp only [Heap.set_same, set_ne, ne_eq, not_false_eq_true, *] <;> rfl) | fail) ?_) | (refine Le_fresh (by first | (simp only [*] <;> done) | (simp [set_none', Heap.set_same, set_ne, noneH, *] <;> done) | fail) ?_) | (refine Heap.Le.trans ?_ (Grow.le (by assumption))) | exact Le_none | (refine Le_put ?_ (by first | (simp only [Heap.set_same, set_ne, ne_eq, not_false_eq_true, *] <;> rfl) | fail)) | fail))) | (with_reducible refine And.intro ?_ ?_)) <;> (try simp only [Sq,Sr,Sh,Si,Sl,Bu,Bb,Bd,Bc,Bw,Bn,Int.reduceAdd,Int.reduceSub,Int.reduceMul,Int.reduceTDiv,Int.reduceTMod,Int.reduceMod,Int.reduceDiv,Nat.reduceLT,Nat.reduceEqDiff,Sa,Sb,Sc,Sd,Se,Sf,Sg,Int.reduceLE,Int.reduceLT,Int.reduceToNat,Int.reduceNeg,Int.reduceEq,Nat.reduceLeDiff,Nat.reducePow,Int.reducePow,reduceIte,Nat.reduceSub,Nat.reduceAdd,Nat.reduceMul,putAt,ceq,List.replicate, *]))
  exact Fin_mk (Heap.Le.refl _) h
theorem r_Raw (n : Int) (h : K (.int .i32 (raw n)) H) : HCalls Tryz.prog w0 71 [.int .i64 n] H K := by
  have h1 : n > 2147483647 → raw n = 2147483647 := fun e => by unfold raw; (repeat' split) <;> omega
  have h2 : n < -2147483648 → raw n = -2147483648 := fun e => by unfold raw; (repeat' split) <;> omega
  by_cases e1 : n > 2147483647
  · have e := h1 e1
    rw [e] at h
    clear h1 h2 e
    refine HL.hc k71 999 ?_; unfold M71
    (all_goals (try simp only [Sq,Sr,Sh,Si,Sl,Bu,Bb,Bd,Bc,Bw,Bn,Int.reduceAdd,Int.reduceSub,Int.reduceMul,Int.reduceTDiv,Int.reduceTMod,Int.reduceMod,Int.reduceDiv,Nat.reduceLT,Nat.reduceEqDiff,Sa,Sb,Sc,Sd,Se,Sf,Sg,Int.reduceLE,Int.reduceLT,Int.reduceToNat,Int.reduceNeg,Int.reduceEq,Nat.reduceLeDiff,Nat.reducePow,Int.reducePow,reduceIte,Nat.reduceSub,Nat.reduceAdd,Nat.reduceMul,putAt,ceq,List.replicate, *])); repeat' ((first | (with_reducible refine fun _ : True => ?_) | (with_reducible refine any_h ?_) | ((first | refine AllocQ_i ?_ | refine AllocO_i ?_); intro bk hb0 hbk; (try simp only [set_none'] at hbk); (try (first | have hbn := Grow.none (by assumption) hbk | have hbn := Grow.none (by assumption) hbk.2 | have hbn := Grow.none (by assumption) hbk.2.2 | have hbn := Grow.none (by assumption) hbk.2.2.2 | have hbn := Grow.none (by assumption) hbk.2.2.2.2 | have hbn := Grow.none (by assumption) hbk.2.2.2.2.2)); (try simp only [set_none'] at hbn); (try (first | have hbm := Grow.none (by assumption) hbn | have hbm := Grow.none (by assumption) hbn.2 | have hbm := Grow.none (by assumption) hbn.2.2 | have hbm := Grow.none (by assumption) hbn.2.2.2 | have hbm := Grow.none (by assumption) hbn.2.2.2.2 | have hbm := Grow.none (by assumption) hbn.2.2.2.2.2)); (try simp only [set_none'] at hbm)) | ((first | refine condS_i ?_ ?_ | refine pick_i ?_ ?_ | refine gS_it ?_ ?_ | refine gS_if ?_ ?_ | refine gP_it ?_ ?_ | refine gP_if ?_ ?_) <;> (intro hc; try simp only [Int.reduceLE,Int.reduceLT,Int.reduceEq,Sn] at hc)) | (with_reducible refine KP_i ?_ ?_; · (repeat' (first | exact Heap.Le.refl _ | (with_reducible refine Le_set2 ?_) | (refine Le_known (by first | (simp only [Heap.set_same, set_ne, ne_eq, not_false_eq_true, *] <;> rfl) | fail) ?_) | (refine Le_fresh (by first | (simp only [*] <;> done) | (simp [set_none', Heap.set_same, set_ne, noneH, *] <;> done) | fail) ?_) | (refine Heap.Le.trans ?_ (Grow.le (by assumption))) | exact Le_none | (refine Le_put ?_ (by first | (simp only [Heap.set_same, set_ne, ne_eq, not_false_eq_true, *] <;> rfl) | fail)) | fail))) | (with_reducible refine And.intro ?_ ?_)) <;> (try simp only [Sq,Sr,Sh,Si,Sl,Bu,Bb,Bd,Bc,Bw,Bn,Int.reduceAdd,Int.reduceSub,Int.reduceMul,Int.reduceTDiv,Int.reduceTMod,Int.reduceMod,Int.reduceDiv,Nat.reduceLT,Nat.reduceEqDiff,Sa,Sb,Sc,Sd,Se,Sf,Sg,Int.reduceLE,Int.reduceLT,Int.reduceToNat,Int.reduceNeg,Int.reduceEq,Nat.reduceLeDiff,Nat.reducePow,Int.reducePow,reduceIte,Nat.reduceSub,Nat.reduceAdd,Nat.reduceMul,putAt,ceq,List.replicate, *]))
    exact Fin_mk (Heap.Le.refl _) h
  by_cases e2 : n < -2147483648
  · have e := h2 e2
    rw [e] at h
    clear h1 h2 e
    refine HL.hc k71 999 ?_; unfold M71
    (all_goals (try simp only [Sq,Sr,Sh,Si,Sl,Bu,Bb,Bd,Bc,Bw,Bn,Int.reduceAdd,Int.reduceSub,Int.reduceMul,Int.reduceTDiv,Int.reduceTMod,Int.reduceMod,Int.reduceDiv,Nat.reduceLT,Nat.reduceEqDiff,Sa,Sb,Sc,Sd,Se,Sf,Sg,Int.reduceLE,Int.reduceLT,Int.reduceToNat,Int.reduceNeg,Int.reduceEq,Nat.reduceLeDiff,Nat.reducePow,Int.reducePow,reduceIte,Nat.reduceSub,Nat.reduceAdd,Nat.reduceMul,putAt,ceq,List.replicate, *])); repeat' ((first | (with_reducible refine fun _ : True => ?_) | (with_reducible refine any_h ?_) | ((first | refine AllocQ_i ?_ | refine AllocO_i ?_); intro bk hb0 hbk; (try simp only [set_none'] at hbk); (try (first | have hbn := Grow.none (by assumption) hbk | have hbn := Grow.none (by assumption) hbk.2 | have hbn := Grow.none (by assumption) hbk.2.2 | have hbn := Grow.none (by assumption) hbk.2.2.2 | have hbn := Grow.none (by assumption) hbk.2.2.2.2 | have hbn := Grow.none (by assumption) hbk.2.2.2.2.2)); (try simp only [set_none'] at hbn); (try (first | have hbm := Grow.none (by assumption) hbn | have hbm := Grow.none (by assumption) hbn.2 | have hbm := Grow.none (by assumption) hbn.2.2 | have hbm := Grow.none (by assumption) hbn.2.2.2 | have hbm := Grow.none (by assumption) hbn.2.2.2.2 | have hbm := Grow.none (by assumption) hbn.2.2.2.2.2)); (try simp only [set_none'] at hbm)) | ((first | refine condS_i ?_ ?_ | refine pick_i ?_ ?_ | refine gS_it ?_ ?_ | refine gS_if ?_ ?_ | refine gP_it ?_ ?_ | refine gP_if ?_ ?_) <;> (intro hc; try simp only [Int.reduceLE,Int.reduceLT,Int.reduceEq,Sn] at hc)) | (with_reducible refine KP_i ?_ ?_; · (repeat' (first | exact Heap.Le.refl _ | (with_reducible refine Le_set2 ?_) | (refine Le_known (by first | (simp only [Heap.set_same, set_ne, ne_eq, not_false_eq_true, *] <;> rfl) | fail) ?_) | (refine Le_fresh (by first | (simp only [*] <;> done) | (simp [set_none', Heap.set_same, set_ne, noneH, *] <;> done) | fail) ?_) | (refine Heap.Le.trans ?_ (Grow.le (by assumption))) | exact Le_none | (refine Le_put ?_ (by first | (simp only [Heap.set_same, set_ne, ne_eq, not_false_eq_true, *] <;> rfl) | fail)) | fail))) | (with_reducible refine And.intro ?_ ?_)) <;> (try simp only [Sq,Sr,Sh,Si,Sl,Bu,Bb,Bd,Bc,Bw,Bn,Int.reduceAdd,Int.reduceSub,Int.reduceMul,Int.reduceTDiv,Int.reduceTMod,Int.reduceMod,Int.reduceDiv,Nat.reduceLT,Nat.reduceEqDiff,Sa,Sb,Sc,Sd,Se,Sf,Sg,Int.reduceLE,Int.reduceLT,Int.reduceToNat,Int.reduceNeg,Int.reduceEq,Nat.reduceLeDiff,Nat.reducePow,Int.reducePow,reduceIte,Nat.reduceSub,Nat.reduceAdd,Nat.reduceMul,putAt,ceq,List.replicate, *]))
    all_goals exact Fin_mk (Heap.Le.refl _) h
  have e3 : I32 n := ⟨by omega, by omega⟩
  rw [raw_in e3] at h
  have hw : IntKind.i32.wrap n = n := w32_in e3
  clear h1 h2
  refine HL.hc k71 999 ?_; unfold M71
  (all_goals (try simp only [Sq,Sr,Sh,Si,Sl,Bu,Bb,Bd,Bc,Bw,Bn,Int.reduceAdd,Int.reduceSub,Int.reduceMul,Int.reduceTDiv,Int.reduceTMod,Int.reduceMod,Int.reduceDiv,Nat.reduceLT,Nat.reduceEqDiff,Sa,Sb,Sc,Sd,Se,Sf,Sg,Int.reduceLE,Int.reduceLT,Int.reduceToNat,Int.reduceNeg,Int.reduceEq,Nat.reduceLeDiff,Nat.reducePow,Int.reducePow,reduceIte,Nat.reduceSub,Nat.reduceAdd,Nat.reduceMul,putAt,ceq,List.replicate, *])); repeat' ((first | (with_reducible refine fun _ : True => ?_) | (with_reducible refine any_h ?_) | ((first | refine AllocQ_i ?_ | refine AllocO_i ?_); intro bk hb0 hbk; (try simp only [set_none'] at hbk); (try (first | have hbn := Grow.none (by assumption) hbk | have hbn := Grow.none (by assumption) hbk.2 | have hbn := Grow.none (by assumption) hbk.2.2 | have hbn := Grow.none (by assumption) hbk.2.2.2 | have hbn := Grow.none (by assumption) hbk.2.2.2.2 | have hbn := Grow.none (by assumption) hbk.2.2.2.2.2)); (try simp only [set_none'] at hbn); (try (first | have hbm := Grow.none (by assumption) hbn | have hbm := Grow.none (by assumption) hbn.2 | have hbm := Grow.none (by assumption) hbn.2.2 | have hbm := Grow.none (by assumption) hbn.2.2.2 | have hbm := Grow.none (by assumption) hbn.2.2.2.2 | have hbm := Grow.none (by assumption) hbn.2.2.2.2.2)); (try simp only [set_none'] at hbm)) | ((first | refine condS_i ?_ ?_ | refine pick_i ?_ ?_ | refine gS_it ?_ ?_ | refine gS_if ?_ ?_ | refine gP_it ?_ ?_ | refine gP_if ?_ ?_) <;> (intro hc; try simp only [Int.reduceLE,Int.reduceLT,Int.reduceEq,Sn] at hc)) | (with_reducible refine KP_i ?_ ?_; · (repeat' (first | exact Heap.Le.refl _ | (with_reducible refine Le_set2 ?_) | (refine Le_known (by first | (simp only [Heap.set_same, set_ne, ne_eq, not_false_eq_true, *] <;> rfl) | fail) ?_) | (refine Le_fresh (by first | (simp only [*] <;> done) | (simp [set_none', Heap.set_same, set_ne, noneH, *] <;> done) | fail) ?_) | (refine Heap.Le.trans ?_ (Grow.le (by assumption))) | exact Le_none | (refine Le_put ?_ (by first | (simp only [Heap.set_same, set_ne, ne_eq, not_false_eq_true, *] <;> rfl) | fail)) | fail))) | (with_reducible refine And.intro ?_ ?_)) <;> (try simp only [Sq,Sr,Sh,Si,Sl,Bu,Bb,Bd,Bc,Bw,Bn,Int.reduceAdd,Int.reduceSub,Int.reduceMul,Int.reduceTDiv,Int.reduceTMod,Int.reduceMod,Int.reduceDiv,Nat.reduceLT,Nat.reduceEqDiff,Sa,Sb,Sc,Sd,Se,Sf,Sg,Int.reduceLE,Int.reduceLT,Int.reduceToNat,Int.reduceNeg,Int.reduceEq,Nat.reduceLeDiff,Nat.reducePow,Int.reducePow,reduceIte,Nat.reduceSub,Nat.reduceAdd,Nat.reduceMul,putAt,ceq,List.replicate, *]))
  all_goals exact Fin_mk (Heap.Le.refl _) h
theorem r_Of (x : Int) (h : K (.int .i32 (raw (x * 65536))) H) : HCalls Tryz.prog w0 40 [.int .i64 x] H K := by
  by_cases e1 : x > 40000
  · rw [raw_hi e1] at h
    refine HL.hc k40 999 ?_; unfold M40
    (all_goals (try simp only [Sq,Sr,Sh,Si,Sl,Bu,Bb,Bd,Bc,Bw,Bn,Int.reduceAdd,Int.reduceSub,Int.reduceMul,Int.reduceTDiv,Int.reduceTMod,Int.reduceMod,Int.reduceDiv,Nat.reduceLT,Nat.reduceEqDiff,Sa,Sb,Sc,Sd,Se,Sf,Sg,Int.reduceLE,Int.reduceLT,Int.reduceToNat,Int.reduceNeg,Int.reduceEq,Nat.reduceLeDiff,Nat.reducePow,Int.reducePow,reduceIte,Nat.reduceSub,Nat.reduceAdd,Nat.reduceMul,putAt,ceq,List.replicate, *])); repeat' ((first | (with_reducible refine fun _ : True => ?_) | (with_reducible refine any_h ?_) | ((first | refine AllocQ_i ?_ | refine AllocO_i ?_); intro bk hb0 hbk; (try simp only [set_none'] at hbk); (try (first | have hbn := Grow.none (by assumption) hbk | have hbn := Grow.none (by assumption) hbk.2 | have hbn := Grow.none (by assumption) hbk.2.2 | have hbn := Grow.none (by assumption) hbk.2.2.2 | have hbn := Grow.none (by assumption) hbk.2.2.2.2 | have hbn := Grow.none (by assumption) hbk.2.2.2.2.2)); (try simp only [set_none'] at hbn); (try (first | have hbm := Grow.none (by assumption) hbn | have hbm := Grow.none (by assumption) hbn.2 | have hbm := Grow.none (by assumption) hbn.2.2 | have hbm := Grow.none (by assumption) hbn.2.2.2 | have hbm := Grow.none (by assumption) hbn.2.2.2.2 | have hbm := Grow.none (by assumption) hbn.2.2.2.2.2)); (try simp only [set_none'] at hbm)) | ((first | refine condS_i ?_ ?_ | refine pick_i ?_ ?_ | refine gS_it ?_ ?_ | refine gS_if ?_ ?_ | refine gP_it ?_ ?_ | refine gP_if ?_ ?_) <;> (intro hc; try simp only [Int.reduceLE,Int.reduceLT,Int.reduceEq,Sn] at hc)) | (with_reducible refine KP_i ?_ ?_; · (repeat' (first | exact Heap.Le.refl _ | (with_reducible refine Le_set2 ?_) | (refine Le_known (by first | (simp only [Heap.set_same, set_ne, ne_eq, not_false_eq_true, *] <;> rfl) | fail) ?_) | (refine Le_fresh (by first | (simp only [*] <;> done) | (simp [set_none', Heap.set_same, set_ne, noneH, *] <;> done) | fail) ?_) | (refine Heap.Le.trans ?_ (Grow.le (by assumption))) | exact Le_none | (refine Le_put ?_ (by first | (simp only [Heap.set_same, set_ne, ne_eq, not_false_eq_true, *] <;> rfl) | fail)) | fail))) | (with_reducible refine And.intro ?_ ?_)) <;> (try simp only [Sq,Sr,Sh,Si,Sl,Bu,Bb,Bd,Bc,Bw,Bn,Int.reduceAdd,Int.reduceSub,Int.reduceMul,Int.reduceTDiv,Int.reduceTMod,Int.reduceMod,Int.reduceDiv,Nat.reduceLT,Nat.reduceEqDiff,Sa,Sb,Sc,Sd,Se,Sf,Sg,Int.reduceLE,Int.reduceLT,Int.reduceToNat,Int.reduceNeg,Int.reduceEq,Nat.reduceLeDiff,Nat.reducePow,Int.reducePow,reduceIte,Nat.reduceSub,Nat.reduceAdd,Nat.reduceMul,putAt,ceq,List.replicate, *]))
    exact Fin_mk (Heap.Le.refl _) h
  by_cases e2 : x < -40000
  · rw [raw_lo e2] at h
    refine HL.hc k40 999 ?_; unfold M40
    (all_goals (try simp only [Sq,Sr,Sh,Si,Sl,Bu,Bb,Bd,Bc,Bw,Bn,Int.reduceAdd,Int.reduceSub,Int.reduceMul,Int.reduceTDiv,Int.reduceTMod,Int.reduceMod,Int.reduceDiv,Nat.reduceLT,Nat.reduceEqDiff,Sa,Sb,Sc,Sd,Se,Sf,Sg,Int.reduceLE,Int.reduceLT,Int.reduceToNat,Int.reduceNeg,Int.reduceEq,Nat.reduceLeDiff,Nat.reducePow,Int.reducePow,reduceIte,Nat.reduceSub,Nat.reduceAdd,Nat.reduceMul,putAt,ceq,List.replicate, *])); repeat' ((first | (with_reducible refine fun _ : True => ?_) | (with_reducible refine any_h ?_) | ((first | refine AllocQ_i ?_ | refine AllocO_i ?_); intro bk hb0 hbk; (try simp only [set_none'] at hbk); (try (first | have hbn := Grow.none (by assumption) hbk | have hbn := Grow.none (by assumption) hbk.2 | have hbn := Grow.none (by assumption) hbk.2.2 | have hbn := Grow.none (by assumption) hbk.2.2.2 | have hbn := Grow.none (by assumption) hbk.2.2.2.2 | have hbn := Grow.none (by assumption) hbk.2.2.2.2.2)); (try simp only [set_none'] at hbn); (try (first | have hbm := Grow.none (by assumption) hbn | have hbm := Grow.none (by assumption) hbn.2 | have hbm := Grow.none (by assumption) hbn.2.2 | have hbm := Grow.none (by assumption) hbn.2.2.2 | have hbm := Grow.none (by assumption) hbn.2.2.2.2 | have hbm := Grow.none (by assumption) hbn.2.2.2.2.2)); (try simp only [set_none'] at hbm)) | ((first | refine condS_i ?_ ?_ | refine pick_i ?_ ?_ | refine gS_it ?_ ?_ | refine gS_if ?_ ?_ | refine gP_it ?_ ?_ | refine gP_if ?_ ?_) <;> (intro hc; try simp only [Int.reduceLE,Int.reduceLT,Int.reduceEq,Sn] at hc)) | (with_reducible refine KP_i ?_ ?_; · (repeat' (first | exact Heap.Le.refl _ | (with_reducible refine Le_set2 ?_) | (refine Le_known (by first | (simp only [Heap.set_same, set_ne, ne_eq, not_false_eq_true, *] <;> rfl) | fail) ?_) | (refine Le_fresh (by first | (simp only [*] <;> done) | (simp [set_none', Heap.set_same, set_ne, noneH, *] <;> done) | fail) ?_) | (refine Heap.Le.trans ?_ (Grow.le (by assumption))) | exact Le_none | (refine Le_put ?_ (by first | (simp only [Heap.set_same, set_ne, ne_eq, not_false_eq_true, *] <;> rfl) | fail)) | fail))) | (with_reducible refine And.intro ?_ ?_)) <;> (try simp only [Sq,Sr,Sh,Si,Sl,Bu,Bb,Bd,Bc,Bw,Bn,Int.reduceAdd,Int.reduceSub,Int.reduceMul,Int.reduceTDiv,Int.reduceTMod,Int.reduceMod,Int.reduceDiv,Nat.reduceLT,Nat.reduceEqDiff,Sa,Sb,Sc,Sd,Se,Sf,Sg,Int.reduceLE,Int.reduceLT,Int.reduceToNat,Int.reduceNeg,Int.reduceEq,Nat.reduceLeDiff,Nat.reducePow,Int.reducePow,reduceIte,Nat.reduceSub,Nat.reduceAdd,Nat.reduceMul,putAt,ceq,List.replicate, *]))
    all_goals exact Fin_mk (Heap.Le.refl _) h
  have hw : IntKind.i64.wrap (x * 65536) = x * 65536 := Bw.1 _ (by omega) (by omega)
  replace h : Keep _ := h
  refine HL.hc k40 999 ?_; unfold M40
  (all_goals (try simp only [Sq,Sr,Sh,Si,Sl,Bu,Bb,Bd,Bc,Bw,Bn,Int.reduceAdd,Int.reduceSub,Int.reduceMul,Int.reduceTDiv,Int.reduceTMod,Int.reduceMod,Int.reduceDiv,Nat.reduceLT,Nat.reduceEqDiff,Sa,Sb,Sc,Sd,Se,Sf,Sg,Int.reduceLE,Int.reduceLT,Int.reduceToNat,Int.reduceNeg,Int.reduceEq,Nat.reduceLeDiff,Nat.reducePow,Int.reducePow,reduceIte,Nat.reduceSub,Nat.reduceAdd,Nat.reduceMul,putAt,ceq,List.replicate, *])); repeat' ((first | (with_reducible refine fun _ : True => ?_) | refine r_Raw _ ?_ | (with_reducible refine any_h ?_) | ((first | refine AllocQ_i ?_ | refine AllocO_i ?_); intro bk hb0 hbk; (try simp only [set_none'] at hbk); (try (first | have hbn := Grow.none (by assumption) hbk | have hbn := Grow.none (by assumption) hbk.2 | have hbn := Grow.none (by assumption) hbk.2.2 | have hbn := Grow.none (by assumption) hbk.2.2.2 | have hbn := Grow.none (by assumption) hbk.2.2.2.2 | have hbn := Grow.none (by assumption) hbk.2.2.2.2.2)); (try simp only [set_none'] at hbn); (try (first | have hbm := Grow.none (by assumption) hbn | have hbm := Grow.none (by assumption) hbn.2 | have hbm := Grow.none (by assumption) hbn.2.2 | have hbm := Grow.none (by assumption) hbn.2.2.2 | have hbm := Grow.none (by assumption) hbn.2.2.2.2 | have hbm := Grow.none (by assumption) hbn.2.2.2.2.2)); (try simp only [set_none'] at hbm)) | ((first | refine condS_i ?_ ?_ | refine pick_i ?_ ?_ | refine gS_it ?_ ?_ | refine gS_if ?_ ?_ | refine gP_it ?_ ?_ | refine gP_if ?_ ?_) <;> (intro hc; try simp only [Int.reduceLE,Int.reduceLT,Int.reduceEq,Sn] at hc)) | (with_reducible refine KP_i ?_ ?_; · (repeat' (first | exact Heap.Le.refl _ | (with_reducible refine Le_set2 ?_) | (refine Le_known (by first | (simp only [Heap.set_same, set_ne, ne_eq, not_false_eq_true, *] <;> rfl) | fail) ?_) | (refine Le_fresh (by first | (simp only [*] <;> done) | (simp [set_none', Heap.set_same, set_ne, noneH, *] <;> done) | fail) ?_) | (refine Heap.Le.trans ?_ (Grow.le (by assumption))) | exact Le_none | (refine Le_put ?_ (by first | (simp only [Heap.set_same, set_ne, ne_eq, not_false_eq_true, *] <;> rfl) | fail)) | fail))) | (with_reducible refine And.intro ?_ ?_)) <;> (try simp only [Sq,Sr,Sh,Si,Sl,Bu,Bb,Bd,Bc,Bw,Bn,Int.reduceAdd,Int.reduceSub,Int.reduceMul,Int.reduceTDiv,Int.reduceTMod,Int.reduceMod,Int.reduceDiv,Nat.reduceLT,Nat.reduceEqDiff,Sa,Sb,Sc,Sd,Se,Sf,Sg,Int.reduceLE,Int.reduceLT,Int.reduceToNat,Int.reduceNeg,Int.reduceEq,Nat.reduceLeDiff,Nat.reducePow,Int.reducePow,reduceIte,Nat.reduceSub,Nat.reduceAdd,Nat.reduceMul,putAt,ceq,List.replicate, *]))
  all_goals exact Fin_mk (Heap.Le.refl _) h
theorem c_truth (u : Bool) (h : K (.int .i32 (if u = true then 1 else 0)) H) : HCalls Tryz.prog w0 37 [.bool u] H K := by
  cases u
  all_goals
    refine HL.hc k37 999 ?_; unfold M37
    (all_goals (try simp only [Sq,Sr,Sh,Si,Sl,Bu,Bb,Bd,Bc,Bw,Bn,Int.reduceAdd,Int.reduceSub,Int.reduceMul,Int.reduceTDiv,Int.reduceTMod,Int.reduceMod,Int.reduceDiv,Nat.reduceLT,Nat.reduceEqDiff,Sa,Sb,Sc,Sd,Se,Sf,Sg,Int.reduceLE,Int.reduceLT,Int.reduceToNat,Int.reduceNeg,Int.reduceEq,Nat.reduceLeDiff,Nat.reducePow,Int.reducePow,reduceIte,Nat.reduceSub,Nat.reduceAdd,Nat.reduceMul,putAt,ceq,List.replicate, *])); repeat' ((first | (with_reducible refine fun _ : True => ?_) | (with_reducible refine any_h ?_) | ((first | refine AllocQ_i ?_ | refine AllocO_i ?_); intro bk hb0 hbk; (try simp only [set_none'] at hbk); (try (first | have hbn := Grow.none (by assumption) hbk | have hbn := Grow.none (by assumption) hbk.2 | have hbn := Grow.none (by assumption) hbk.2.2 | have hbn := Grow.none (by assumption) hbk.2.2.2 | have hbn := Grow.none (by assumption) hbk.2.2.2.2 | have hbn := Grow.none (by assumption) hbk.2.2.2.2.2)); (try simp only [set_none'] at hbn); (try (first | have hbm := Grow.none (by assumption) hbn | have hbm := Grow.none (by assumption) hbn.2 | have hbm := Grow.none (by assumption) hbn.2.2 | have hbm := Grow.none (by assumption) hbn.2.2.2 | have hbm := Grow.none (by assumption) hbn.2.2.2.2 | have hbm := Grow.none (by assumption) hbn.2.2.2.2.2)); (try simp only [set_none'] at hbm)) | ((first | refine condS_i ?_ ?_ | refine pick_i ?_ ?_ | refine gS_it ?_ ?_ | refine gS_if ?_ ?_ | refine gP_it ?_ ?_ | refine gP_if ?_ ?_) <;> (intro hc; try simp only [Int.reduceLE,Int.reduceLT,Int.reduceEq,Sn] at hc)) | (with_reducible refine KP_i ?_ ?_; · (repeat' (first | exact Heap.Le.refl _ | (with_reducible refine Le_set2 ?_) | (refine Le_known (by first | (simp only [Heap.set_same, set_ne, ne_eq, not_false_eq_true, *] <;> rfl) | fail) ?_) | (refine Le_fresh (by first | (simp only [*] <;> done) | (simp [set_none', Heap.set_same, set_ne, noneH, *] <;> done) | fail) ?_) | (refine Heap.Le.trans ?_ (Grow.le (by assumption))) | exact Le_none | (refine Le_put ?_ (by first | (simp only [Heap.set_same, set_ne, ne_eq, not_false_eq_true, *] <;> rfl) | fail)) | fail))) | (with_reducible refine And.intro ?_ ?_)) <;> (try simp only [Sq,Sr,Sh,Si,Sl,Bu,Bb,Bd,Bc,Bw,Bn,Int.reduceAdd,Int.reduceSub,Int.reduceMul,Int.reduceTDiv,Int.reduceTMod,Int.reduceMod,Int.reduceDiv,Nat.reduceLT,Nat.reduceEqDiff,Sa,Sb,Sc,Sd,Se,Sf,Sg,Int.reduceLE,Int.reduceLT,Int.reduceToNat,Int.reduceNeg,Int.reduceEq,Nat.reduceLeDiff,Nat.reducePow,Int.reducePow,reduceIte,Nat.reduceSub,Nat.reduceAdd,Nat.reduceMul,putAt,ceq,List.replicate, *]))
    exact Fin_mk (Heap.Le.refl _) h
theorem r_one (u : Bool) (h : K (.int .i32 (if u = true then 1 else 0)) H) : HCalls Tryz.prog w0 39 [.bool u] H K := by
  cases u
  all_goals
    refine HL.hc k39 999 ?_; unfold M39
    (all_goals (try simp only [Sq,Sr,Sh,Si,Sl,Bu,Bb,Bd,Bc,Bw,Bn,Int.reduceAdd,Int.reduceSub,Int.reduceMul,Int.reduceTDiv,Int.reduceTMod,Int.reduceMod,Int.reduceDiv,Nat.reduceLT,Nat.reduceEqDiff,Sa,Sb,Sc,Sd,Se,Sf,Sg,Int.reduceLE,Int.reduceLT,Int.reduceToNat,Int.reduceNeg,Int.reduceEq,Nat.reduceLeDiff,Nat.reducePow,Int.reducePow,reduceIte,Nat.reduceSub,Nat.reduceAdd,Nat.reduceMul,putAt,ceq,List.replicate, *])); repeat' ((first | (with_reducible refine fun _ : True => ?_) | (with_reducible refine any_h ?_) | ((first | refine AllocQ_i ?_ | refine AllocO_i ?_); intro bk hb0 hbk; (try simp only [set_none'] at hbk); (try (first | have hbn := Grow.none (by assumption) hbk | have hbn := Grow.none (by assumption) hbk.2 | have hbn := Grow.none (by assumption) hbk.2.2 | have hbn := Grow.none (by assumption) hbk.2.2.2 | have hbn := Grow.none (by assumption) hbk.2.2.2.2 | have hbn := Grow.none (by assumption) hbk.2.2.2.2.2)); (try simp only [set_none'] at hbn); (try (first | have hbm := Grow.none (by assumption) hbn | have hbm := Grow.none (by assumption) hbn.2 | have hbm := Grow.none (by assumption) hbn.2.2 | have hbm := Grow.none (by assumption) hbn.2.2.2 | have hbm := Grow.none (by assumption) hbn.2.2.2.2 | have hbm := Grow.none (by assumption) hbn.2.2.2.2.2)); (try simp only [set_none'] at hbm)) | ((first | refine condS_i ?_ ?_ | refine pick_i ?_ ?_ | refine gS_it ?_ ?_ | refine gS_if ?_ ?_ | refine gP_it ?_ ?_ | refine gP_if ?_ ?_) <;> (intro hc; try simp only [Int.reduceLE,Int.reduceLT,Int.reduceEq,Sn] at hc)) | (with_reducible refine KP_i ?_ ?_; · (repeat' (first | exact Heap.Le.refl _ | (with_reducible refine Le_set2 ?_) | (refine Le_known (by first | (simp only [Heap.set_same, set_ne, ne_eq, not_false_eq_true, *] <;> rfl) | fail) ?_) | (refine Le_fresh (by first | (simp only [*] <;> done) | (simp [set_none', Heap.set_same, set_ne, noneH, *] <;> done) | fail) ?_) | (refine Heap.Le.trans ?_ (Grow.le (by assumption))) | exact Le_none | (refine Le_put ?_ (by first | (simp only [Heap.set_same, set_ne, ne_eq, not_false_eq_true, *] <;> rfl) | fail)) | fail))) | (with_reducible refine And.intro ?_ ?_)) <;> (try simp only [Sq,Sr,Sh,Si,Sl,Bu,Bb,Bd,Bc,Bw,Bn,Int.reduceAdd,Int.reduceSub,Int.reduceMul,Int.reduceTDiv,Int.reduceTMod,Int.reduceMod,Int.reduceDiv,Nat.reduceLT,Nat.reduceEqDiff,Sa,Sb,Sc,Sd,Se,Sf,Sg,Int.reduceLE,Int.reduceLT,Int.reduceToNat,Int.reduceNeg,Int.reduceEq,Nat.reduceLeDiff,Nat.reducePow,Int.reducePow,reduceIte,Nat.reduceSub,Nat.reduceAdd,Nat.reduceMul,putAt,ceq,List.replicate, *]))
    exact Fin_mk (Heap.Le.refl _) h
/- paintbox/vm Convert 2 -/
def M36 : MC :=
  .seq (.reg [⟨(some 4), .mv (.const (.int .i32 0)), none⟩])
 (.seq (.block 0 (.seq (.reg [⟨(some 6), .ld1 (.tmp 1), none⟩,
 ⟨(some 7), .ld1 (.tmp 2), none⟩,
 ⟨(some 8), .bin .eql (.tmp 6) (.tmp 7), none⟩,
 ⟨(some 5), .mv (.tmp 8), none⟩])
 (.cond (.tmp 5)
 (.seq (.reg [⟨(some 9), .mv (.tmp 0), none⟩,
 ⟨(some 4), .mv (.tmp 9), none⟩])
 (.ret))
 (.seq (.reg [⟨(some 11), .ld1 (.tmp 2), none⟩,
 ⟨(some 12), .bin .eql (.tmp 11) (.const (.int .i64 3)), none⟩,
 ⟨(some 10), .mv (.tmp 12), none⟩])
 (.cond (.tmp 10)
 (.seq (.reg [⟨(some 13), .mv (.tmp 0), none⟩,
 ⟨(some 14), .bin .neq (.tmp 13) (.const (.int .i32 0)), none⟩,
 ⟨(some 15), .call 37 [(.tmp 14)], none⟩,
 ⟨(some 4), .mv (.tmp 15), none⟩])
 (.ret))
 (.seq (.reg [⟨(some 17), .ld1 (.tmp 2), none⟩,
 ⟨(some 18), .bin .eql (.tmp 17) (.const (.int .i64 1)), none⟩,
 ⟨(some 19), .mv (.tmp 18), none⟩,
 ⟨(some 20), .ld1 (.tmp 1), (some (19, true))⟩,
 ⟨(some 21), .bin .eql (.tmp 20) (.const (.int .i64 3)), (some (19, true))⟩,
 ⟨(some 22), .pick (.tmp 19) (.tmp 21) (.const (.bool false)), none⟩,
 ⟨(some 16), .mv (.tmp 22), none⟩])
 (.cond (.tmp 16)
 (.seq (.reg [⟨(some 23), .mv (.tmp 0), none⟩,
 ⟨(some 24), .bin .neq (.tmp 23) (.const (.int .i32 0)), none⟩,
 ⟨(some 25), .call 37 [(.tmp 24)], none⟩,
 ⟨(some 26), .bin .mul (.tmp 25) (.const (.int .i32 65536)), none⟩,
 ⟨(some 4), .mv (.tmp 26), none⟩])
 (.ret))
 (.seq (.reg [⟨(some 28), .ld1 (.tmp 2), none⟩,
 ⟨(some 29), .bin .eql (.tmp 28) (.const (.int .i64 1)), none⟩,
 ⟨(some 27), .mv (.tmp 29), none⟩])
 (.cond (.tmp 27)
 (.seq (.reg [⟨(some 30), .mv (.tmp 0), none⟩,
 ⟨(some 31), .conv .i64 (.tmp 30), none⟩,
 ⟨(some 32), .call 38 [(.tmp 31)], none⟩,
 ⟨(some 4), .mv (.tmp 32), none⟩])
 (.ret))
 (.seq (.reg [⟨(some 34), .ld1 (.tmp 1), none⟩,
 ⟨(some 35), .bin .eql (.tmp 34) (.const (.int .i64 1)), none⟩,
 ⟨(some 33), .mv (.tmp 35), none⟩])
 (.cond (.tmp 33)
 (.seq (.reg [⟨(some 36), .mv (.tmp 0), none⟩,
 ⟨(some 37), .bin .quo (.tmp 36) (.const (.int .i32 65536)), none⟩,
 ⟨(some 4), .mv (.tmp 37), none⟩])
 (.ret))
 (.skip))))))))))))
 (.seq (.reg [⟨(some 38), .mv (.tmp 0), none⟩,
 ⟨(some 4), .mv (.tmp 38), none⟩])
 (.ret)))
theorem k36 : fnOk Tryz.prog 36 = some (M36, [.t 4], 39) := by kernel_rfl
/- paintboxref15 Convert -/
def M22 : MC :=
  .seq (.reg [⟨(some 6), .mv (.const (.int .i32 0)), none⟩])
 (.seq (.seq (.reg [⟨(some 7), .mv (.tmp 0), none⟩,
 ⟨(some 8), .mv (.tmp 1), none⟩,
 ⟨(some 9), .bin .eql (.tmp 7) (.tmp 8), none⟩,
 ⟨(some 10), .mv (.tmp 9), none⟩,
 ⟨(some 11), .mv (.tmp 0), (some (10, false))⟩,
 ⟨(some 12), .bin .eql (.tmp 11) (.const (.int .i64 3)), (some (10, false))⟩,
 ⟨(some 13), .mv (.tmp 12), (some (10, false))⟩,
 ⟨(some 14), .mv (.tmp 1), (some (13, true))⟩,
 ⟨(some 15), .bin .eql (.tmp 14) (.const (.int .i64 2)), (some (13, true))⟩,
 ⟨(some 16), .pick (.tmp 13) (.tmp 15) (.const (.bool false)), (some (10, false))⟩,
 ⟨(some 17), .pick (.tmp 10) (.const (.bool true)) (.tmp 16), none⟩])
 (.cond (.tmp 17)
 (.seq (.reg [⟨(some 18), .mv (.tmp 2), none⟩,
 ⟨(some 6), .mv (.tmp 18), none⟩])
 (.ret))
 (.skip)))
 (.seq (.seq (.reg [⟨(some 19), .mv (.tmp 1), none⟩,
 ⟨(some 20), .bin .eql (.tmp 19) (.const (.int .i64 3)), none⟩])
 (.cond (.tmp 20)
 (.seq (.reg [⟨(some 21), .mv (.tmp 2), none⟩,
 ⟨(some 22), .bin .neq (.tmp 21) (.const (.int .i32 0)), none⟩,
 ⟨(some 23), .call 39 [(.tmp 22)], none⟩,
 ⟨(some 6), .mv (.tmp 23), none⟩])
 (.ret))
 (.skip)))
 (.seq (.seq (.reg [⟨(some 24), .mv (.tmp 1), none⟩,
 ⟨(some 25), .bin .eql (.tmp 24) (.const (.int .i64 2)), none⟩])
 (.cond (.tmp 25)
 (.seq (.reg [⟨(some 26), .mv (.tmp 2), none⟩,
 ⟨(some 27), .conv .i64 (.tmp 26), none⟩,
 ⟨(some 28), .bin .quo (.tmp 27) (.const (.int .i64 65536)), none⟩,
 ⟨(some 29), .conv .i32 (.tmp 28), none⟩,
 ⟨(some 6), .mv (.tmp 29), none⟩])
 (.ret))
 (.skip)))
 (.seq (.seq (.reg [⟨(some 30), .mv (.tmp 0), none⟩,
 ⟨(some 31), .bin .eql (.tmp 30) (.const (.int .i64 3)), none⟩])
 (.cond (.tmp 31)
 (.seq (.reg [⟨(some 32), .mv (.tmp 2), none⟩,
 ⟨(some 33), .bin .neq (.tmp 32) (.const (.int .i32 0)), none⟩,
 ⟨(some 34), .call 39 [(.tmp 33)], none⟩,
 ⟨(some 35), .bin .mul (.const (.int .i32 65536)) (.tmp 34), none⟩,
 ⟨(some 6), .mv (.tmp 35), none⟩])
 (.ret))
 (.skip)))
 (.seq (.reg [⟨(some 36), .mv (.tmp 2), none⟩,
 ⟨(some 37), .conv .i64 (.tmp 36), none⟩,
 ⟨(some 38), .call 40 [(.tmp 37)], none⟩,
 ⟨(some 6), .mv (.tmp 38), none⟩])
 (.ret))))))
theorem k22 : fnOk Tryz.prog 22 = some (M22, [.t 6], 39) := by kernel_rfl

theorem c_Cv2 (f t x : Int) (hf : f = 1 ∨ f = 2 ∨ f = 3) (ht : t = 1 ∨ t = 2 ∨ t = 3) (hx : I32 x) {b1 b2 : Nat} (h1 : HL.rd1 w0 H b1 0 = some (.int .i64 f)) (h2 : HL.rd1 w0 H b2 0 = some (.int .i64 t)) (h : K (.int .i32 (cvt f t x)) H) :
    HCalls Tryz.prog w0 36 [.int .i32 x, .pointer (some ⟨b1, 0, none⟩), .pointer (some ⟨b2, 0, none⟩)] H K := by
  have hw := w64_32 hx
  have hq : IntKind.i32.wrap (x.tdiv 65536) = x.tdiv 65536 := w32_in (tdiv_in hx)
  have hm : IntKind.i32.wrap 65536 = 65536 := rfl
  have hz : IntKind.i32.wrap 0 = 0 := rfl
  unfold cvt at h
  by_cases e0 : x = 0
  · subst e0
    clear hx hw hq
    rcases hf with rfl | rfl | rfl <;> rcases ht with rfl | rfl | rfl
    all_goals simp only [Int.reduceEq, if_true, if_false, reduceIte, Int.zero_mul, Int.zero_tdiv] at h
    all_goals refine HL.hc k36 999 ?_; unfold M36
    all_goals (all_goals (try simp only [Sq,Sr,Sh,Si,Sl,Bu,Bb,Bd,Bc,Bw,Bn,Int.reduceAdd,Int.reduceSub,Int.reduceMul,Int.reduceTDiv,Int.reduceTMod,Int.reduceMod,Int.reduceDiv,Nat.reduceLT,Nat.reduceEqDiff,Sa,Sb,Sc,Sd,Se,Sf,Sg,Int.reduceLE,Int.reduceLT,Int.reduceToNat,Int.reduceNeg,Int.reduceEq,Nat.reduceLeDiff,Nat.reducePow,Int.reducePow,reduceIte,Nat.reduceSub,Nat.reduceAdd,Nat.reduceMul,putAt,ceq,List.replicate, *])); repeat' ((first | (with_reducible refine fun _ : True => ?_) | refine c_truth _ ?_ | refine c_Of _ ?_ | (with_reducible refine any_h ?_) | ((first | refine AllocQ_i ?_ | refine AllocO_i ?_); intro bk hb0 hbk; (try simp only [set_none'] at hbk); (try (first | have hbn := Grow.none (by assumption) hbk | have hbn := Grow.none (by assumption) hbk.2 | have hbn := Grow.none (by assumption) hbk.2.2 | have hbn := Grow.none (by assumption) hbk.2.2.2 | have hbn := Grow.none (by assumption) hbk.2.2.2.2 | have hbn := Grow.none (by assumption) hbk.2.2.2.2.2)); (try simp only [set_none'] at hbn); (try (first | have hbm := Grow.none (by assumption) hbn | have hbm := Grow.none (by assumption) hbn.2 | have hbm := Grow.none (by assumption) hbn.2.2 | have hbm := Grow.none (by assumption) hbn.2.2.2 | have hbm := Grow.none (by assumption) hbn.2.2.2.2 | have hbm := Grow.none (by assumption) hbn.2.2.2.2.2)); (try simp only [set_none'] at hbm)) | ((first | refine condS_i ?_ ?_ | refine pick_i ?_ ?_ | refine gS_it ?_ ?_ | refine gS_if ?_ ?_ | refine gP_it ?_ ?_ | refine gP_if ?_ ?_) <;> (intro hc; try simp only [Int.reduceLE,Int.reduceLT,Int.reduceEq,Sn] at hc)) | (with_reducible refine KP_i ?_ ?_; · (repeat' (first | exact Heap.Le.refl _ | (with_reducible refine Le_set2 ?_) | (refine Le_known (by first | (simp only [Heap.set_same, set_ne, ne_eq, not_false_eq_true, *] <;> rfl) | fail) ?_) | (refine Le_fresh (by first | (simp only [*] <;> done) | (simp [set_none', Heap.set_same, set_ne, noneH, *] <;> done) | fail) ?_) | (refine Heap.Le.trans ?_ (Grow.le (by assumption))) | exact Le_none | (refine Le_put ?_ (by first | (simp only [Heap.set_same, set_ne, ne_eq, not_false_eq_true, *] <;> rfl) | fail)) | fail))) | (with_reducible refine And.intro ?_ ?_)) <;> (try simp only [Sq,Sr,Sh,Si,Sl,Bu,Bb,Bd,Bc,Bw,Bn,Int.reduceAdd,Int.reduceSub,Int.reduceMul,Int.reduceTDiv,Int.reduceTMod,Int.reduceMod,Int.reduceDiv,Nat.reduceLT,Nat.reduceEqDiff,Sa,Sb,Sc,Sd,Se,Sf,Sg,Int.reduceLE,Int.reduceLT,Int.reduceToNat,Int.reduceNeg,Int.reduceEq,Nat.reduceLeDiff,Nat.reducePow,Int.reducePow,reduceIte,Nat.reduceSub,Nat.reduceAdd,Nat.reduceMul,putAt,ceq,List.replicate, *]))
    all_goals exact Fin_mk (Heap.Le.refl _) h
  · simp only [if_neg e0] at h
    clear hx
    rcases hf with rfl | rfl | rfl <;> rcases ht with rfl | rfl | rfl
    all_goals simp only [Int.reduceEq, if_true, if_false, reduceIte] at h
    all_goals refine HL.hc k36 999 ?_; unfold M36
    all_goals (all_goals (try simp only [Sq,Sr,Sh,Si,Sl,Bu,Bb,Bd,Bc,Bw,Bn,Int.reduceAdd,Int.reduceSub,Int.reduceMul,Int.reduceTDiv,Int.reduceTMod,Int.reduceMod,Int.reduceDiv,Nat.reduceLT,Nat.reduceEqDiff,Sa,Sb,Sc,Sd,Se,Sf,Sg,Int.reduceLE,Int.reduceLT,Int.reduceToNat,Int.reduceNeg,Int.reduceEq,Nat.reduceLeDiff,Nat.reducePow,Int.reducePow,reduceIte,Nat.reduceSub,Nat.reduceAdd,Nat.reduceMul,putAt,ceq,List.replicate, *])); repeat' ((first | (with_reducible refine fun _ : True => ?_) | refine c_truth _ ?_ | refine c_Of _ ?_ | (with_reducible refine any_h ?_) | ((first | refine AllocQ_i ?_ | refine AllocO_i ?_); intro bk hb0 hbk; (try simp only [set_none'] at hbk); (try (first | have hbn := Grow.none (by assumption) hbk | have hbn := Grow.none (by assumption) hbk.2 | have hbn := Grow.none (by assumption) hbk.2.2 | have hbn := Grow.none (by assumption) hbk.2.2.2 | have hbn := Grow.none (by assumption) hbk.2.2.2.2 | have hbn := Grow.none (by assumption) hbk.2.2.2.2.2)); (try simp only [set_none'] at hbn); (try (first | have hbm := Grow.none (by assumption) hbn | have hbm := Grow.none (by assumption) hbn.2 | have hbm := Grow.none (by assumption) hbn.2.2 | have hbm := Grow.none (by assumption) hbn.2.2.2 | have hbm := Grow.none (by assumption) hbn.2.2.2.2 | have hbm := Grow.none (by assumption) hbn.2.2.2.2.2)); (try simp only [set_none'] at hbm)) | ((first | refine condS_i ?_ ?_ | refine pick_i ?_ ?_ | refine gS_it ?_ ?_ | refine gS_if ?_ ?_ | refine gP_it ?_ ?_ | refine gP_if ?_ ?_) <;> (intro hc; try simp only [Int.reduceLE,Int.reduceLT,Int.reduceEq,Sn] at hc)) | (with_reducible refine KP_i ?_ ?_; · (repeat' (first | exact Heap.Le.refl _ | (with_reducible refine Le_set2 ?_) | (refine Le_known (by first | (simp only [Heap.set_same, set_ne, ne_eq, not_false_eq_true, *] <;> rfl) | fail) ?_) | (refine Le_fresh (by first | (simp only [*] <;> done) | (simp [set_none', Heap.set_same, set_ne, noneH, *] <;> done) | fail) ?_) | (refine Heap.Le.trans ?_ (Grow.le (by assumption))) | exact Le_none | (refine Le_put ?_ (by first | (simp only [Heap.set_same, set_ne, ne_eq, not_false_eq_true, *] <;> rfl) | fail)) | fail))) | (with_reducible refine And.intro ?_ ?_)) <;> (try simp only [Sq,Sr,Sh,Si,Sl,Bu,Bb,Bd,Bc,Bw,Bn,Int.reduceAdd,Int.reduceSub,Int.reduceMul,Int.reduceTDiv,Int.reduceTMod,Int.reduceMod,Int.reduceDiv,Nat.reduceLT,Nat.reduceEqDiff,Sa,Sb,Sc,Sd,Se,Sf,Sg,Int.reduceLE,Int.reduceLT,Int.reduceToNat,Int.reduceNeg,Int.reduceEq,Nat.reduceLeDiff,Nat.reducePow,Int.reducePow,reduceIte,Nat.reduceSub,Nat.reduceAdd,Nat.reduceMul,putAt,ceq,List.replicate, *]))
    all_goals exact Fin_mk (Heap.Le.refl _) h
theorem r_Conv (f t x : Int) (hf : f = 1 ∨ f = 2 ∨ f = 3) (ht : t = 1 ∨ t = 2 ∨ t = 3) (hx : I32 x) (h : K (.int .i32 (cvt f t x)) H) :
    HCalls Tryz.prog w0 22 [.int .i64 f, .int .i64 t, .int .i32 x] H K := by
  have hw := w64_32 hx
  have hq : IntKind.i32.wrap (x.tdiv 65536) = x.tdiv 65536 := w32_in (tdiv_in hx)
  have hq2 : IntKind.i64.wrap (x.tdiv 65536) = x.tdiv 65536 := w64_32 (tdiv_in hx)
  have hm : IntKind.i32.wrap 65536 = 65536 := rfl
  have hz : IntKind.i32.wrap 0 = 0 := rfl
  unfold cvt at h
  by_cases e0 : x = 0
  · subst e0
    clear hx hw hq hq2
    have hz2 : IntKind.i64.wrap 0 = 0 := rfl
    rcases hf with rfl | rfl | rfl <;> rcases ht with rfl | rfl | rfl
    all_goals simp only [Int.reduceEq, if_true, if_false, reduceIte, Int.zero_mul, Int.zero_tdiv] at h
    all_goals refine HL.hc k22 999 ?_; unfold M22
    all_goals (all_goals (try simp only [Sq,Sr,Sh,Si,Sl,Bu,Bb,Bd,Bc,Bw,Bn,Int.reduceAdd,Int.reduceSub,Int.reduceMul,Int.reduceTDiv,Int.reduceTMod,Int.reduceMod,Int.reduceDiv,Nat.reduceLT,Nat.reduceEqDiff,Sa,Sb,Sc,Sd,Se,Sf,Sg,Int.reduceLE,Int.reduceLT,Int.reduceToNat,Int.reduceNeg,Int.reduceEq,Nat.reduceLeDiff,Nat.reducePow,Int.reducePow,reduceIte,Nat.reduceSub,Nat.reduceAdd,Nat.reduceMul,putAt,ceq,List.replicate, *])); repeat' ((first | (with_reducible refine fun _ : True => ?_) | refine r_one _ ?_ | refine r_Of _ ?_ | (with_reducible refine any_h ?_) | ((first | refine AllocQ_i ?_ | refine AllocO_i ?_); intro bk hb0 hbk; (try simp only [set_none'] at hbk); (try (first | have hbn := Grow.none (by assumption) hbk | have hbn := Grow.none (by assumption) hbk.2 | have hbn := Grow.none (by assumption) hbk.2.2 | have hbn := Grow.none (by assumption) hbk.2.2.2 | have hbn := Grow.none (by assumption) hbk.2.2.2.2 | have hbn := Grow.none (by assumption) hbk.2.2.2.2.2)); (try simp only [set_none'] at hbn); (try (first | have hbm := Grow.none (by assumption) hbn | have hbm := Grow.none (by assumption) hbn.2 | have hbm := Grow.none (by assumption) hbn.2.2 | have hbm := Grow.none (by assumption) hbn.2.2.2 | have hbm := Grow.none (by assumption) hbn.2.2.2.2 | have hbm := Grow.none (by assumption) hbn.2.2.2.2.2)); (try simp only [set_none'] at hbm)) | ((first | refine condS_i ?_ ?_ | refine pick_i ?_ ?_ | refine gS_it ?_ ?_ | refine gS_if ?_ ?_ | refine gP_it ?_ ?_ | refine gP_if ?_ ?_) <;> (intro hc; try simp only [Int.reduceLE,Int.reduceLT,Int.reduceEq,Sn] at hc)) | (with_reducible refine KP_i ?_ ?_; · (repeat' (first | exact Heap.Le.refl _ | (with_reducible refine Le_set2 ?_) | (refine Le_known (by first | (simp only [Heap.set_same, set_ne, ne_eq, not_false_eq_true, *] <;> rfl) | fail) ?_) | (refine Le_fresh (by first | (simp only [*] <;> done) | (simp [set_none', Heap.set_same, set_ne, noneH, *] <;> done) | fail) ?_) | (refine Heap.Le.trans ?_ (Grow.le (by assumption))) | exact Le_none | (refine Le_put ?_ (by first | (simp only [Heap.set_same, set_ne, ne_eq, not_false_eq_true, *] <;> rfl) | fail)) | fail))) | (with_reducible refine And.intro ?_ ?_)) <;> (try simp only [Sq,Sr,Sh,Si,Sl,Bu,Bb,Bd,Bc,Bw,Bn,Int.reduceAdd,Int.reduceSub,Int.reduceMul,Int.reduceTDiv,Int.reduceTMod,Int.reduceMod,Int.reduceDiv,Nat.reduceLT,Nat.reduceEqDiff,Sa,Sb,Sc,Sd,Se,Sf,Sg,Int.reduceLE,Int.reduceLT,Int.reduceToNat,Int.reduceNeg,Int.reduceEq,Nat.reduceLeDiff,Nat.reducePow,Int.reducePow,reduceIte,Nat.reduceSub,Nat.reduceAdd,Nat.reduceMul,putAt,ceq,List.replicate, *]))
    all_goals exact Fin_mk (Heap.Le.refl _) h
  · simp only [if_neg e0] at h
    clear hx
    rcases hf with rfl | rfl | rfl <;> rcases ht with rfl | rfl | rfl
    all_goals simp only [Int.reduceEq, if_true, if_false, reduceIte] at h
    all_goals refine HL.hc k22 999 ?_; unfold M22
    all_goals (all_goals (try simp only [Sq,Sr,Sh,Si,Sl,Bu,Bb,Bd,Bc,Bw,Bn,Int.reduceAdd,Int.reduceSub,Int.reduceMul,Int.reduceTDiv,Int.reduceTMod,Int.reduceMod,Int.reduceDiv,Nat.reduceLT,Nat.reduceEqDiff,Sa,Sb,Sc,Sd,Se,Sf,Sg,Int.reduceLE,Int.reduceLT,Int.reduceToNat,Int.reduceNeg,Int.reduceEq,Nat.reduceLeDiff,Nat.reducePow,Int.reducePow,reduceIte,Nat.reduceSub,Nat.reduceAdd,Nat.reduceMul,putAt,ceq,List.replicate, *])); repeat' ((first | (with_reducible refine fun _ : True => ?_) | refine r_one _ ?_ | refine r_Of _ ?_ | (with_reducible refine any_h ?_) | ((first | refine AllocQ_i ?_ | refine AllocO_i ?_); intro bk hb0 hbk; (try simp only [set_none'] at hbk); (try (first | have hbn := Grow.none (by assumption) hbk | have hbn := Grow.none (by assumption) hbk.2 | have hbn := Grow.none (by assumption) hbk.2.2 | have hbn := Grow.none (by assumption) hbk.2.2.2 | have hbn := Grow.none (by assumption) hbk.2.2.2.2 | have hbn := Grow.none (by assumption) hbk.2.2.2.2.2)); (try simp only [set_none'] at hbn); (try (first | have hbm := Grow.none (by assumption) hbn | have hbm := Grow.none (by assumption) hbn.2 | have hbm := Grow.none (by assumption) hbn.2.2 | have hbm := Grow.none (by assumption) hbn.2.2.2 | have hbm := Grow.none (by assumption) hbn.2.2.2.2 | have hbm := Grow.none (by assumption) hbn.2.2.2.2.2)); (try simp only [set_none'] at hbm)) | ((first | refine condS_i ?_ ?_ | refine pick_i ?_ ?_ | refine gS_it ?_ ?_ | refine gS_if ?_ ?_ | refine gP_it ?_ ?_ | refine gP_if ?_ ?_) <;> (intro hc; try simp only [Int.reduceLE,Int.reduceLT,Int.reduceEq,Sn] at hc)) | (with_reducible refine KP_i ?_ ?_; · (repeat' (first | exact Heap.Le.refl _ | (with_reducible refine Le_set2 ?_) | (refine Le_known (by first | (simp only [Heap.set_same, set_ne, ne_eq, not_false_eq_true, *] <;> rfl) | fail) ?_) | (refine Le_fresh (by first | (simp only [*] <;> done) | (simp [set_none', Heap.set_same, set_ne, noneH, *] <;> done) | fail) ?_) | (refine Heap.Le.trans ?_ (Grow.le (by assumption))) | exact Le_none | (refine Le_put ?_ (by first | (simp only [Heap.set_same, set_ne, ne_eq, not_false_eq_true, *] <;> rfl) | fail)) | fail))) | (with_reducible refine And.intro ?_ ?_)) <;> (try simp only [Sq,Sr,Sh,Si,Sl,Bu,Bb,Bd,Bc,Bw,Bn,Int.reduceAdd,Int.reduceSub,Int.reduceMul,Int.reduceTDiv,Int.reduceTMod,Int.reduceMod,Int.reduceDiv,Nat.reduceLT,Nat.reduceEqDiff,Sa,Sb,Sc,Sd,Se,Sf,Sg,Int.reduceLE,Int.reduceLT,Int.reduceToNat,Int.reduceNeg,Int.reduceEq,Nat.reduceLeDiff,Nat.reducePow,Int.reducePow,reduceIte,Nat.reduceSub,Nat.reduceAdd,Nat.reduceMul,putAt,ceq,List.replicate, *]))
    all_goals exact Fin_mk (Heap.Le.refl _) h
end Go.Proofs.YtdmnfaefakceiaaGreat
