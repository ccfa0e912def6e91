/- Budgets and bytes (layer 7): contracts. -/
import Derived.Test.YtgbcakebmpgghaaHlt
import Derived.Test.YtgbcakebmpgghaaHlu
import Derived.Test.YtgbcakebmpgghaaHly
import Derived.Test.YtgbcakebmpgghaaPd
import Derived.Test.YtgbcakebmpgghaaProg
set_option linter.unusedSimpArgs false
set_option linter.unusedVariables false
set_option maxRecDepth 100000
set_option maxHeartbeats 4000000
namespace Go.Proofs.Ytgbcakebmpgghaa
open Go.HL Go.RowKit Pb
variable {w0 : World} {H G : Heap} {K : Value → Heap → Prop}

theorem kpb {p : Prop} (h : Keep p) : p := h
theorem Fin_le {v : Value} {G : Heap} (h : HL.Fin K v H) (l : Heap.Le H G) : HL.Fin K v G := by
  obtain ⟨E, h1, h2⟩ := h
  exact ⟨E, h1.trans l, h2⟩
abbrev bud (b : Nat) : Value := .pointer (some ⟨b, 0, none⟩)
theorem rd1_at {G : Heap} {b k : Nat} {t : Kd} {l : List Value} {v : Value} (h : G b = some ⟨t, l⟩) (e : l[k]? = some v) : HL.rd1 w0 G b k = some v := by unfold HL.rd1; rw [h]; exact e
/- buffer NewBudget -/
def M8 : MC :=
  .seq (.reg [⟨(some 2), .mv (.const (.pointer none)), none⟩,
 ⟨(some 3), .mv (.const (.int .i64 0)), none⟩])
 (.seq (.seq (.reg [⟨(some 4), .mv (.tmp 0), none⟩,
 ⟨(some 5), .bin .lss (.tmp 4) (.const (.int .i64 0)), none⟩,
 ⟨(some 6), .mv (.tmp 5), none⟩,
 ⟨(some 7), .mv (.tmp 0), (some (6, false))⟩,
 ⟨(some 8), .bin .gtr (.tmp 7) (.const (.int .i64 262144)), (some (6, false))⟩,
 ⟨(some 9), .pick (.tmp 6) (.const (.bool true)) (.tmp 8), none⟩])
 (.cond (.tmp 9)
 (.seq (.reg [⟨(some 2), .mv (.const (.pointer none)), none⟩,
 ⟨(some 3), .mv (.const (.int .i64 2)), none⟩])
 (.ret))
 (.skip)))
 (.seq (.reg [⟨(some 10), .mv (.tmp 0), none⟩,
 ⟨(some 11), .build [(.int .i64 0), (.int .i64 0)] [(0, 1, (.tmp 10))], none⟩,
 ⟨(some 12), .box 60 (.tmp 11), none⟩,
 ⟨(some 2), .mv (.tmp 12), none⟩,
 ⟨(some 3), .mv (.const (.int .i64 0)), none⟩])
 (.ret)))
theorem k8 : fnOk Try.prog 8 = some (M8, [.t 2, .t 3], 13) := by kernel_rfl
/- (*paintbox/buffer Budget) Left -/
def M9 : MC :=
  .seq (.reg [⟨(some 2), .mv (.const (.int .i64 0)), none⟩])
 (.seq (.seq (.reg [⟨(some 3), .mv (.tmp 0), none⟩,
 ⟨(some 4), .eqp false (.tmp 3) (.const (.pointer none)), none⟩])
 (.cond (.tmp 4)
 (.seq (.reg [⟨(some 2), .mv (.const (.int .i64 0)), none⟩])
 (.ret))
 (.skip)))
 (.seq (.any [(true, 0, [], ⟨(some 5), .mv (.tmp 0), none⟩),
 (true, 1, [], ⟨(some 6), .nilc (.tmp 5), none⟩),
 (true, 2, [], ⟨(some 7), .fa 0 (.tmp 6), none⟩),
 (true, 3, [], ⟨(some 8), .ld1 (.tmp 7), none⟩),
 (false, 4, [0, 1, 2, 3], ⟨(some 9), .mv (.tmp 0), none⟩),
 (false, 5, [0, 1, 2, 3], ⟨(some 10), .nilc (.tmp 9), none⟩),
 (false, 6, [0, 1, 2, 3], ⟨(some 11), .fa 1 (.tmp 10), none⟩),
 (false, 7, [0, 1, 2, 3], ⟨(some 12), .ld1 (.tmp 11), none⟩),
 (false, 8, [], ⟨(some 13), .bin .sub (.tmp 8) (.tmp 12), none⟩),
 (false, 9, [], ⟨(some 2), .mv (.tmp 13), none⟩)])
 (.ret)))
theorem k9 : fnOk Try.prog 9 = some (M9, [.t 2], 14) := by kernel_rfl
/- (*paintbox/buffer Budget) Take -/
def M10 : MC :=
  .seq (.reg [⟨(some 4), .mv (.const (.int .i64 0)), none⟩])
 (.seq (.block 0 (.seq (.reg [⟨(some 6), .mv (.tmp 0), none⟩,
 ⟨(some 7), .eqp false (.tmp 6) (.const (.pointer none)), none⟩,
 ⟨(some 5), .mv (.tmp 7), none⟩])
 (.cond (.tmp 5)
 (.seq (.reg [⟨(some 4), .mv (.const (.int .i64 1)), none⟩])
 (.ret))
 (.seq (.reg [⟨(some 9), .mv (.tmp 1), none⟩,
 ⟨(some 10), .bin .lss (.tmp 9) (.const (.int .i64 0)), none⟩,
 ⟨(some 8), .mv (.tmp 10), none⟩])
 (.cond (.tmp 8)
 (.seq (.reg [⟨(some 4), .mv (.const (.int .i64 2)), none⟩])
 (.ret))
 (.seq (.any [(true, 0, [], ⟨(some 12), .mv (.tmp 1), none⟩),
 (true, 1, [], ⟨(some 13), .mv (.tmp 0), none⟩),
 (true, 2, [], ⟨(some 14), .nilc (.tmp 13), none⟩),
 (true, 3, [], ⟨(some 15), .fa 0 (.tmp 14), none⟩),
 (true, 4, [], ⟨(some 16), .ld1 (.tmp 15), none⟩),
 (false, 5, [0, 1, 2, 3, 4], ⟨(some 17), .mv (.tmp 0), none⟩),
 (false, 6, [0, 1, 2, 3, 4], ⟨(some 18), .nilc (.tmp 17), none⟩),
 (false, 7, [0, 1, 2, 3, 4], ⟨(some 19), .fa 1 (.tmp 18), none⟩),
 (false, 8, [0, 1, 2, 3, 4], ⟨(some 20), .ld1 (.tmp 19), none⟩),
 (false, 9, [0], ⟨(some 21), .bin .sub (.tmp 16) (.tmp 20), none⟩),
 (false, 10, [], ⟨(some 22), .bin .gtr (.tmp 12) (.tmp 21), none⟩),
 (false, 11, [], ⟨(some 11), .mv (.tmp 22), none⟩)])
 (.cond (.tmp 11)
 (.seq (.reg [⟨(some 4), .mv (.const (.int .i64 6)), none⟩])
 (.ret))
 (.skip))))))))
 (.seq (.reg [⟨(some 23), .mv (.tmp 0), none⟩,
 ⟨(some 24), .nilc (.tmp 23), none⟩,
 ⟨(some 25), .fa 1 (.tmp 24), none⟩,
 ⟨(some 26), .ld1 (.tmp 25), none⟩,
 ⟨(some 27), .mv (.tmp 1), none⟩,
 ⟨(some 28), .bin .add (.tmp 26) (.tmp 27), none⟩,
 ⟨(some 29), .nilc (.tmp 23), none⟩,
 ⟨(some 30), .fa 1 (.tmp 29), none⟩,
 ⟨none, .st1 (.tmp 30) (.tmp 28), none⟩])
 (.seq (.reg [⟨(some 4), .mv (.const (.int .i64 0)), none⟩])
 (.ret))))
theorem k10 : fnOk Try.prog 10 = some (M10, [.t 4], 31) := by kernel_rfl
/- (*paintbox/buffer Budget) Give -/
def M11 : MC :=
  .seq (.reg [⟨(some 4), .mv (.const (.int .i64 0)), none⟩])
 (.seq (.block 0 (.seq (.reg [⟨(some 6), .mv (.tmp 0), none⟩,
 ⟨(some 7), .eqp false (.tmp 6) (.const (.pointer none)), none⟩,
 ⟨(some 5), .mv (.tmp 7), none⟩])
 (.cond (.tmp 5)
 (.seq (.reg [⟨(some 4), .mv (.const (.int .i64 1)), none⟩])
 (.ret))
 (.seq (.reg [⟨(some 9), .mv (.tmp 1), none⟩,
 ⟨(some 10), .bin .lss (.tmp 9) (.const (.int .i64 0)), none⟩,
 ⟨(some 11), .mv (.tmp 10), none⟩,
 ⟨(some 12), .mv (.tmp 1), (some (11, false))⟩,
 ⟨(some 13), .mv (.tmp 0), (some (11, false))⟩,
 ⟨(some 14), .nilc (.tmp 13), (some (11, false))⟩,
 ⟨(some 15), .fa 1 (.tmp 14), (some (11, false))⟩,
 ⟨(some 16), .ld1 (.tmp 15), (some (11, false))⟩,
 ⟨(some 17), .bin .gtr (.tmp 12) (.tmp 16), (some (11, false))⟩,
 ⟨(some 18), .pick (.tmp 11) (.const (.bool true)) (.tmp 17), none⟩,
 ⟨(some 8), .mv (.tmp 18), none⟩])
 (.cond (.tmp 8)
 (.seq (.reg [⟨(some 4), .mv (.const (.int .i64 2)), none⟩])
 (.ret))
 (.skip))))))
 (.seq (.reg [⟨(some 19), .mv (.tmp 0), none⟩,
 ⟨(some 20), .nilc (.tmp 19), none⟩,
 ⟨(some 21), .fa 1 (.tmp 20), none⟩,
 ⟨(some 22), .ld1 (.tmp 21), none⟩,
 ⟨(some 23), .mv (.tmp 1), none⟩,
 ⟨(some 24), .bin .sub (.tmp 22) (.tmp 23), none⟩,
 ⟨(some 25), .nilc (.tmp 19), none⟩,
 ⟨(some 26), .fa 1 (.tmp 25), none⟩,
 ⟨none, .st1 (.tmp 26) (.tmp 24), none⟩])
 (.seq (.reg [⟨(some 4), .mv (.const (.int .i64 0)), none⟩])
 (.ret))))
theorem k11 : fnOk Try.prog 11 = some (M11, [.t 4], 27) := by kernel_rfl
/- buffer New -/
def M12 : MC :=
  .seq (.reg [⟨(some 2), .mv (.const (.pointer none)), none⟩,
 ⟨(some 3), .mv (.const (.int .i64 0)), none⟩])
 (.seq (.seq (.reg [⟨(some 4), .mv (.tmp 0), none⟩,
 ⟨(some 5), .eqp false (.tmp 4) (.const (.pointer none)), none⟩])
 (.cond (.tmp 5)
 (.seq (.reg [⟨(some 2), .mv (.const (.pointer none)), none⟩,
 ⟨(some 3), .mv (.const (.int .i64 1)), none⟩])
 (.ret))
 (.skip)))
 (.seq (.reg [⟨(some 6), .mv (.tmp 0), none⟩,
 ⟨(some 7), .mkm, none⟩,
 ⟨(some 8), .build [(.pointer none), (.map none)] [(0, 1, (.tmp 6)), (1, 1, (.tmp 7))], none⟩,
 ⟨(some 9), .box 63 (.tmp 8), none⟩,
 ⟨(some 2), .mv (.tmp 9), none⟩,
 ⟨(some 3), .mv (.const (.int .i64 0)), none⟩])
 (.ret)))
theorem k12 : fnOk Try.prog 12 = some (M12, [.t 2, .t 3], 10) := by kernel_rfl

theorem c_NewBudget (n : Int) (hn : 0 ≤ n ∧ n ≤ 262144) (h : ∀ b, w0.heap.size ≤ b → H b = none → K (.tuple #[bud b, .int .i64 0]) (H.set b ⟨.t 60, [.int .i64 n, .int .i64 0]⟩)) : HCalls Try.prog w0 8 [.int .i64 n] H K := by
  have h1 : ¬ n < 0 := by omega
  have h2 : ¬ 262144 < n := by omega
  replace h : Keep _ := h
  clear hn
  refine HL.hc k8 999 ?_; unfold M8
  (all_goals (try simp only [Sq,Sr,Sh,Si,Sl,Bu,Bb,Bd,Bc,Bw,Bn,Int.reduceAdd,Int.reduceSub,Int.reduceMul,Int.reduceTDiv,Int.reduceTMod,Int.reduceMod,Int.reduceDiv,Nat.reduceLT,Nat.reduceEqDiff,Sa,Sb,Sc,Sd,Se,Sf,Sg,Int.reduceLE,Int.reduceLT,Int.reduceToNat,Int.reduceNeg,Int.reduceEq,Nat.reduceLeDiff,Nat.reducePow,Int.reducePow,reduceIte,Nat.reduceSub,Nat.reduceAdd,Nat.reduceMul,putAt,ceq,List.replicate, *])); repeat' ((first | (with_reducible refine fun _ : True => ?_) | (with_reducible refine any_h ?_) | ((first | refine AllocQ_i ?_ | refine AllocO_i ?_); intro bk hb0 hbk; (try simp only [set_none'] at hbk); (try (first | have hbn := Grow.none (by assumption) hbk | have hbn := Grow.none (by assumption) hbk.2 | have hbn := Grow.none (by assumption) hbk.2.2 | have hbn := Grow.none (by assumption) hbk.2.2.2 | have hbn := Grow.none (by assumption) hbk.2.2.2.2 | have hbn := Grow.none (by assumption) hbk.2.2.2.2.2)); (try simp only [set_none'] at hbn); (try (first | have hbm := Grow.none (by assumption) hbn | have hbm := Grow.none (by assumption) hbn.2 | have hbm := Grow.none (by assumption) hbn.2.2 | have hbm := Grow.none (by assumption) hbn.2.2.2 | have hbm := Grow.none (by assumption) hbn.2.2.2.2 | have hbm := Grow.none (by assumption) hbn.2.2.2.2.2)); (try simp only [set_none'] at hbm)) | ((first | refine condS_i ?_ ?_ | refine pick_i ?_ ?_ | refine gS_it ?_ ?_ | refine gS_if ?_ ?_ | refine gP_it ?_ ?_ | refine gP_if ?_ ?_) <;> (intro hc; try simp only [Int.reduceLE,Int.reduceLT,Int.reduceEq,Sn] at hc)) | (with_reducible refine KP_i ?_ ?_; · (repeat' (first | exact Heap.Le.refl _ | (with_reducible refine Le_set2 ?_) | (refine Le_known (by first | (simp only [Heap.set_same, set_ne, ne_eq, not_false_eq_true, *] <;> rfl) | fail) ?_) | (refine Le_fresh (by first | (simp only [*] <;> done) | (simp [set_none', Heap.set_same, set_ne, noneH, *] <;> done) | fail) ?_) | (refine Heap.Le.trans ?_ (Grow.le (by assumption))) | exact Le_none | (refine Le_put ?_ (by first | (simp only [Heap.set_same, set_ne, ne_eq, not_false_eq_true, *] <;> rfl) | fail)) | fail))) | (with_reducible refine And.intro ?_ ?_)) <;> (try simp only [Sq,Sr,Sh,Si,Sl,Bu,Bb,Bd,Bc,Bw,Bn,Int.reduceAdd,Int.reduceSub,Int.reduceMul,Int.reduceTDiv,Int.reduceTMod,Int.reduceMod,Int.reduceDiv,Nat.reduceLT,Nat.reduceEqDiff,Sa,Sb,Sc,Sd,Se,Sf,Sg,Int.reduceLE,Int.reduceLT,Int.reduceToNat,Int.reduceNeg,Int.reduceEq,Nat.reduceLeDiff,Nat.reducePow,Int.reducePow,reduceIte,Nat.reduceSub,Nat.reduceAdd,Nat.reduceMul,putAt,ceq,List.replicate, *]))
  exact Fin_mk (Heap.Le.refl _) (kpb h bk hb0 hbk)
theorem c_Left {b : Nat} {t : Kd} (all taken : Int) (hb : H b = some ⟨t, [.int .i64 all, .int .i64 taken]⟩) (ha : 0 ≤ taken ∧ taken ≤ all ∧ all ≤ 262144) (h : K (.int .i64 (all - taken)) H) : HCalls Try.prog w0 9 [bud b] H K := by
  have r0 : HL.rd1 w0 H b 0 = some _ := rd1_at hb rfl
  have r1 : HL.rd1 w0 H b 1 = some _ := rd1_at hb rfl
  have hw : IntKind.i64.wrap (all - taken) = all - taken := Bw.1 _ (by omega) (by omega)
  unfold bud
  clear ha hb
  refine HL.hc k9 999 ?_; unfold M9
  (all_goals (try simp only [Sq,Sr,Sh,Si,Sl,Bu,Bb,Bd,Bc,Bw,Bn,Int.reduceAdd,Int.reduceSub,Int.reduceMul,Int.reduceTDiv,Int.reduceTMod,Int.reduceMod,Int.reduceDiv,Nat.reduceLT,Nat.reduceEqDiff,Sa,Sb,Sc,Sd,Se,Sf,Sg,Int.reduceLE,Int.reduceLT,Int.reduceToNat,Int.reduceNeg,Int.reduceEq,Nat.reduceLeDiff,Nat.reducePow,Int.reducePow,reduceIte,Nat.reduceSub,Nat.reduceAdd,Nat.reduceMul,putAt,ceq,List.replicate, *])); repeat' ((first | (with_reducible refine fun _ : True => ?_) | (with_reducible refine any_h ?_) | ((first | refine AllocQ_i ?_ | refine AllocO_i ?_); intro bk hb0 hbk; (try simp only [set_none'] at hbk); (try (first | have hbn := Grow.none (by assumption) hbk | have hbn := Grow.none (by assumption) hbk.2 | have hbn := Grow.none (by assumption) hbk.2.2 | have hbn := Grow.none (by assumption) hbk.2.2.2 | have hbn := Grow.none (by assumption) hbk.2.2.2.2 | have hbn := Grow.none (by assumption) hbk.2.2.2.2.2)); (try simp only [set_none'] at hbn); (try (first | have hbm := Grow.none (by assumption) hbn | have hbm := Grow.none (by assumption) hbn.2 | have hbm := Grow.none (by assumption) hbn.2.2 | have hbm := Grow.none (by assumption) hbn.2.2.2 | have hbm := Grow.none (by assumption) hbn.2.2.2.2 | have hbm := Grow.none (by assumption) hbn.2.2.2.2.2)); (try simp only [set_none'] at hbm)) | ((first | refine condS_i ?_ ?_ | refine pick_i ?_ ?_ | refine gS_it ?_ ?_ | refine gS_if ?_ ?_ | refine gP_it ?_ ?_ | refine gP_if ?_ ?_) <;> (intro hc; try simp only [Int.reduceLE,Int.reduceLT,Int.reduceEq,Sn] at hc)) | (with_reducible refine KP_i ?_ ?_; · (repeat' (first | exact Heap.Le.refl _ | (with_reducible refine Le_set2 ?_) | (refine Le_known (by first | (simp only [Heap.set_same, set_ne, ne_eq, not_false_eq_true, *] <;> rfl) | fail) ?_) | (refine Le_fresh (by first | (simp only [*] <;> done) | (simp [set_none', Heap.set_same, set_ne, noneH, *] <;> done) | fail) ?_) | (refine Heap.Le.trans ?_ (Grow.le (by assumption))) | exact Le_none | (refine Le_put ?_ (by first | (simp only [Heap.set_same, set_ne, ne_eq, not_false_eq_true, *] <;> rfl) | fail)) | fail))) | (with_reducible refine And.intro ?_ ?_)) <;> (try simp only [Sq,Sr,Sh,Si,Sl,Bu,Bb,Bd,Bc,Bw,Bn,Int.reduceAdd,Int.reduceSub,Int.reduceMul,Int.reduceTDiv,Int.reduceTMod,Int.reduceMod,Int.reduceDiv,Nat.reduceLT,Nat.reduceEqDiff,Sa,Sb,Sc,Sd,Se,Sf,Sg,Int.reduceLE,Int.reduceLT,Int.reduceToNat,Int.reduceNeg,Int.reduceEq,Nat.reduceLeDiff,Nat.reducePow,Int.reducePow,reduceIte,Nat.reduceSub,Nat.reduceAdd,Nat.reduceMul,putAt,ceq,List.replicate, *]))
  exact Fin_mk (Heap.Le.refl _) h
theorem c_Take {b : Nat} {t : Kd} (all taken n : Int) (hb : H b = some ⟨t, [.int .i64 all, .int .i64 taken]⟩) (ha : 0 ≤ taken ∧ taken ≤ all ∧ all ≤ 262144) (h1 : n < 0 → K (.int .i64 2) H) (h2 : all - taken < n → K (.int .i64 6) H)
    (h3 : 0 ≤ n → n ≤ all - taken → K (.int .i64 0) (H.set b ⟨t, [.int .i64 all, .int .i64 (taken + n)]⟩)) : HCalls Try.prog w0 10 [bud b, .int .i64 n] H K := by
  have r0 : HL.rd1 w0 H b 0 = some _ := rd1_at hb rfl
  have r1 : HL.rd1 w0 H b 1 = some _ := rd1_at hb rfl
  have hw : IntKind.i64.wrap (all - taken) = all - taken := Bw.1 _ (by omega) (by omega)
  unfold bud
  by_cases c1 : n < 0
  · have h := h1 c1
    clear h1 h2 h3 ha hb
    refine HL.hc k10 999 ?_; unfold M10
    (all_goals (try simp only [Sq,Sr,Sh,Si,Sl,Bu,Bb,Bd,Bc,Bw,Bn,Int.reduceAdd,Int.reduceSub,Int.reduceMul,Int.reduceTDiv,Int.reduceTMod,Int.reduceMod,Int.reduceDiv,Nat.reduceLT,Nat.reduceEqDiff,Sa,Sb,Sc,Sd,Se,Sf,Sg,Int.reduceLE,Int.reduceLT,Int.reduceToNat,Int.reduceNeg,Int.reduceEq,Nat.reduceLeDiff,Nat.reducePow,Int.reducePow,reduceIte,Nat.reduceSub,Nat.reduceAdd,Nat.reduceMul,putAt,ceq,List.replicate, *])); repeat' ((first | (with_reducible refine fun _ : True => ?_) | (with_reducible refine any_h ?_) | ((first | refine AllocQ_i ?_ | refine AllocO_i ?_); intro bk hb0 hbk; (try simp only [set_none'] at hbk); (try (first | have hbn := Grow.none (by assumption) hbk | have hbn := Grow.none (by assumption) hbk.2 | have hbn := Grow.none (by assumption) hbk.2.2 | have hbn := Grow.none (by assumption) hbk.2.2.2 | have hbn := Grow.none (by assumption) hbk.2.2.2.2 | have hbn := Grow.none (by assumption) hbk.2.2.2.2.2)); (try simp only [set_none'] at hbn); (try (first | have hbm := Grow.none (by assumption) hbn | have hbm := Grow.none (by assumption) hbn.2 | have hbm := Grow.none (by assumption) hbn.2.2 | have hbm := Grow.none (by assumption) hbn.2.2.2 | have hbm := Grow.none (by assumption) hbn.2.2.2.2 | have hbm := Grow.none (by assumption) hbn.2.2.2.2.2)); (try simp only [set_none'] at hbm)) | ((first | refine condS_i ?_ ?_ | refine pick_i ?_ ?_ | refine gS_it ?_ ?_ | refine gS_if ?_ ?_ | refine gP_it ?_ ?_ | refine gP_if ?_ ?_) <;> (intro hc; try simp only [Int.reduceLE,Int.reduceLT,Int.reduceEq,Sn] at hc)) | (with_reducible refine KP_i ?_ ?_; · (repeat' (first | exact Heap.Le.refl _ | (with_reducible refine Le_set2 ?_) | (refine Le_known (by first | (simp only [Heap.set_same, set_ne, ne_eq, not_false_eq_true, *] <;> rfl) | fail) ?_) | (refine Le_fresh (by first | (simp only [*] <;> done) | (simp [set_none', Heap.set_same, set_ne, noneH, *] <;> done) | fail) ?_) | (refine Heap.Le.trans ?_ (Grow.le (by assumption))) | exact Le_none | (refine Le_put ?_ (by first | (simp only [Heap.set_same, set_ne, ne_eq, not_false_eq_true, *] <;> rfl) | fail)) | fail))) | (with_reducible refine And.intro ?_ ?_)) <;> (try simp only [Sq,Sr,Sh,Si,Sl,Bu,Bb,Bd,Bc,Bw,Bn,Int.reduceAdd,Int.reduceSub,Int.reduceMul,Int.reduceTDiv,Int.reduceTMod,Int.reduceMod,Int.reduceDiv,Nat.reduceLT,Nat.reduceEqDiff,Sa,Sb,Sc,Sd,Se,Sf,Sg,Int.reduceLE,Int.reduceLT,Int.reduceToNat,Int.reduceNeg,Int.reduceEq,Nat.reduceLeDiff,Nat.reducePow,Int.reducePow,reduceIte,Nat.reduceSub,Nat.reduceAdd,Nat.reduceMul,putAt,ceq,List.replicate, *]))
    exact Fin_mk (Heap.Le.refl _) h
  by_cases c2 : all - taken < n
  · have h := h2 c2
    clear h1 h2 h3 ha
    refine HL.hc k10 999 ?_; unfold M10
    (all_goals (try simp only [Sq,Sr,Sh,Si,Sl,Bu,Bb,Bd,Bc,Bw,Bn,Int.reduceAdd,Int.reduceSub,Int.reduceMul,Int.reduceTDiv,Int.reduceTMod,Int.reduceMod,Int.reduceDiv,Nat.reduceLT,Nat.reduceEqDiff,Sa,Sb,Sc,Sd,Se,Sf,Sg,Int.reduceLE,Int.reduceLT,Int.reduceToNat,Int.reduceNeg,Int.reduceEq,Nat.reduceLeDiff,Nat.reducePow,Int.reducePow,reduceIte,Nat.reduceSub,Nat.reduceAdd,Nat.reduceMul,putAt,ceq,List.replicate, *])); repeat' ((first | (with_reducible refine fun _ : True => ?_) | (with_reducible refine any_h ?_) | ((first | refine AllocQ_i ?_ | refine AllocO_i ?_); intro bk hb0 hbk; (try simp only [set_none'] at hbk); (try (first | have hbn := Grow.none (by assumption) hbk | have hbn := Grow.none (by assumption) hbk.2 | have hbn := Grow.none (by assumption) hbk.2.2 | have hbn := Grow.none (by assumption) hbk.2.2.2 | have hbn := Grow.none (by assumption) hbk.2.2.2.2 | have hbn := Grow.none (by assumption) hbk.2.2.2.2.2)); (try simp only [set_none'] at hbn); (try (first | have hbm := Grow.none (by assumption) hbn | have hbm := Grow.none (by assumption) hbn.2 | have hbm := Grow.none (by assumption) hbn.2.2 | have hbm := Grow.none (by assumption) hbn.2.2.2 | have hbm := Grow.none (by assumption) hbn.2.2.2.2 | have hbm := Grow.none (by assumption) hbn.2.2.2.2.2)); (try simp only [set_none'] at hbm)) | ((first | refine condS_i ?_ ?_ | refine pick_i ?_ ?_ | refine gS_it ?_ ?_ | refine gS_if ?_ ?_ | refine gP_it ?_ ?_ | refine gP_if ?_ ?_) <;> (intro hc; try simp only [Int.reduceLE,Int.reduceLT,Int.reduceEq,Sn] at hc)) | (with_reducible refine KP_i ?_ ?_; · (repeat' (first | exact Heap.Le.refl _ | (with_reducible refine Le_set2 ?_) | (refine Le_known (by first | (simp only [Heap.set_same, set_ne, ne_eq, not_false_eq_true, *] <;> rfl) | fail) ?_) | (refine Le_fresh (by first | (simp only [*] <;> done) | (simp [set_none', Heap.set_same, set_ne, noneH, *] <;> done) | fail) ?_) | (refine Heap.Le.trans ?_ (Grow.le (by assumption))) | exact Le_none | (refine Le_put ?_ (by first | (simp only [Heap.set_same, set_ne, ne_eq, not_false_eq_true, *] <;> rfl) | fail)) | fail))) | (with_reducible refine And.intro ?_ ?_)) <;> (try simp only [Sq,Sr,Sh,Si,Sl,Bu,Bb,Bd,Bc,Bw,Bn,Int.reduceAdd,Int.reduceSub,Int.reduceMul,Int.reduceTDiv,Int.reduceTMod,Int.reduceMod,Int.reduceDiv,Nat.reduceLT,Nat.reduceEqDiff,Sa,Sb,Sc,Sd,Se,Sf,Sg,Int.reduceLE,Int.reduceLT,Int.reduceToNat,Int.reduceNeg,Int.reduceEq,Nat.reduceLeDiff,Nat.reducePow,Int.reducePow,reduceIte,Nat.reduceSub,Nat.reduceAdd,Nat.reduceMul,putAt,ceq,List.replicate, *]))
    exact Fin_mk (Heap.Le.refl _) h
  have h := h3 (by omega) (by omega)
  have hw2 : IntKind.i64.wrap (taken + n) = taken + n := Bw.1 _ (by omega) (by omega)
  clear h1 h2 h3 ha
  refine HL.hc k10 999 ?_; unfold M10
  (all_goals (try simp only [Sq,Sr,Sh,Si,Sl,Bu,Bb,Bd,Bc,Bw,Bn,Int.reduceAdd,Int.reduceSub,Int.reduceMul,Int.reduceTDiv,Int.reduceTMod,Int.reduceMod,Int.reduceDiv,Nat.reduceLT,Nat.reduceEqDiff,Sa,Sb,Sc,Sd,Se,Sf,Sg,Int.reduceLE,Int.reduceLT,Int.reduceToNat,Int.reduceNeg,Int.reduceEq,Nat.reduceLeDiff,Nat.reducePow,Int.reducePow,reduceIte,Nat.reduceSub,Nat.reduceAdd,Nat.reduceMul,putAt,ceq,List.replicate, *])); repeat' ((first | (with_reducible refine fun _ : True => ?_) | (with_reducible refine any_h ?_) | ((first | refine AllocQ_i ?_ | refine AllocO_i ?_); intro bk hb0 hbk; (try simp only [set_none'] at hbk); (try (first | have hbn := Grow.none (by assumption) hbk | have hbn := Grow.none (by assumption) hbk.2 | have hbn := Grow.none (by assumption) hbk.2.2 | have hbn := Grow.none (by assumption) hbk.2.2.2 | have hbn := Grow.none (by assumption) hbk.2.2.2.2 | have hbn := Grow.none (by assumption) hbk.2.2.2.2.2)); (try simp only [set_none'] at hbn); (try (first | have hbm := Grow.none (by assumption) hbn | have hbm := Grow.none (by assumption) hbn.2 | have hbm := Grow.none (by assumption) hbn.2.2 | have hbm := Grow.none (by assumption) hbn.2.2.2 | have hbm := Grow.none (by assumption) hbn.2.2.2.2 | have hbm := Grow.none (by assumption) hbn.2.2.2.2.2)); (try simp only [set_none'] at hbm)) | ((first | refine condS_i ?_ ?_ | refine pick_i ?_ ?_ | refine gS_it ?_ ?_ | refine gS_if ?_ ?_ | refine gP_it ?_ ?_ | refine gP_if ?_ ?_) <;> (intro hc; try simp only [Int.reduceLE,Int.reduceLT,Int.reduceEq,Sn] at hc)) | (with_reducible refine KP_i ?_ ?_; · (repeat' (first | exact Heap.Le.refl _ | (with_reducible refine Le_set2 ?_) | (refine Le_known (by first | (simp only [Heap.set_same, set_ne, ne_eq, not_false_eq_true, *] <;> rfl) | fail) ?_) | (refine Le_fresh (by first | (simp only [*] <;> done) | (simp [set_none', Heap.set_same, set_ne, noneH, *] <;> done) | fail) ?_) | (refine Heap.Le.trans ?_ (Grow.le (by assumption))) | exact Le_none | (refine Le_put ?_ (by first | (simp only [Heap.set_same, set_ne, ne_eq, not_false_eq_true, *] <;> rfl) | fail)) | fail))) | (with_reducible refine And.intro ?_ ?_)) <;> (try simp only [Sq,Sr,Sh,Si,Sl,Bu,Bb,Bd,Bc,Bw,Bn,Int.reduceAdd,Int.reduceSub,Int.reduceMul,Int.reduceTDiv,Int.reduceTMod,Int.reduceMod,Int.reduceDiv,Nat.reduceLT,Nat.reduceEqDiff,Sa,Sb,Sc,Sd,Se,Sf,Sg,Int.reduceLE,Int.reduceLT,Int.reduceToNat,Int.reduceNeg,Int.reduceEq,Nat.reduceLeDiff,Nat.reducePow,Int.reducePow,reduceIte,Nat.reduceSub,Nat.reduceAdd,Nat.reduceMul,putAt,ceq,List.replicate, *]))
  exact Fin_mk (Heap.Le.refl _) h
theorem c_Give {b : Nat} {t : Kd} (all taken n : Int) (hb : H b = some ⟨t, [.int .i64 all, .int .i64 taken]⟩) (ha : 0 ≤ taken ∧ taken ≤ all ∧ all ≤ 262144) (h1 : (n < 0 ∨ taken < n) → K (.int .i64 2) H)
    (h3 : 0 ≤ n → n ≤ taken → K (.int .i64 0) (H.set b ⟨t, [.int .i64 all, .int .i64 (taken - n)]⟩)) : HCalls Try.prog w0 11 [bud b, .int .i64 n] H K := by
  have r0 : HL.rd1 w0 H b 0 = some _ := rd1_at hb rfl
  have r1 : HL.rd1 w0 H b 1 = some _ := rd1_at hb rfl
  unfold bud
  by_cases c1 : n < 0
  · have h := h1 (.inl c1)
    clear h1 h3 ha hb
    refine HL.hc k11 999 ?_; unfold M11
    (all_goals (try simp only [Sq,Sr,Sh,Si,Sl,Bu,Bb,Bd,Bc,Bw,Bn,Int.reduceAdd,Int.reduceSub,Int.reduceMul,Int.reduceTDiv,Int.reduceTMod,Int.reduceMod,Int.reduceDiv,Nat.reduceLT,Nat.reduceEqDiff,Sa,Sb,Sc,Sd,Se,Sf,Sg,Int.reduceLE,Int.reduceLT,Int.reduceToNat,Int.reduceNeg,Int.reduceEq,Nat.reduceLeDiff,Nat.reducePow,Int.reducePow,reduceIte,Nat.reduceSub,Nat.reduceAdd,Nat.reduceMul,putAt,ceq,List.replicate, *])); repeat' ((first | (with_reducible refine fun _ : True => ?_) | (with_reducible refine any_h ?_) | ((first | refine AllocQ_i ?_ | refine AllocO_i ?_); intro bk hb0 hbk; (try simp only [set_none'] at hbk); (try (first | have hbn := Grow.none (by assumption) hbk | have hbn := Grow.none (by assumption) hbk.2 | have hbn := Grow.none (by assumption) hbk.2.2 | have hbn := Grow.none (by assumption) hbk.2.2.2 | have hbn := Grow.none (by assumption) hbk.2.2.2.2 | have hbn := Grow.none (by assumption) hbk.2.2.2.2.2)); (try simp only [set_none'] at hbn); (try (first | have hbm := Grow.none (by assumption) hbn | have hbm := Grow.none (by assumption) hbn.2 | have hbm := Grow.none (by assumption) hbn.2.2 | have hbm := Grow.none (by assumption) hbn.2.2.2 | have hbm := Grow.none (by assumption) hbn.2.2.2.2 | have hbm := Grow.none (by assumption) hbn.2.2.2.2.2)); (try simp only [set_none'] at hbm)) | ((first | refine condS_i ?_ ?_ | refine pick_i ?_ ?_ | refine gS_it ?_ ?_ | refine gS_if ?_ ?_ | refine gP_it ?_ ?_ | refine gP_if ?_ ?_) <;> (intro hc; try simp only [Int.reduceLE,Int.reduceLT,Int.reduceEq,Sn] at hc)) | (with_reducible refine KP_i ?_ ?_; · (repeat' (first | exact Heap.Le.refl _ | (with_reducible refine Le_set2 ?_) | (refine Le_known (by first | (simp only [Heap.set_same, set_ne, ne_eq, not_false_eq_true, *] <;> rfl) | fail) ?_) | (refine Le_fresh (by first | (simp only [*] <;> done) | (simp [set_none', Heap.set_same, set_ne, noneH, *] <;> done) | fail) ?_) | (refine Heap.Le.trans ?_ (Grow.le (by assumption))) | exact Le_none | (refine Le_put ?_ (by first | (simp only [Heap.set_same, set_ne, ne_eq, not_false_eq_true, *] <;> rfl) | fail)) | fail))) | (with_reducible refine And.intro ?_ ?_)) <;> (try simp only [Sq,Sr,Sh,Si,Sl,Bu,Bb,Bd,Bc,Bw,Bn,Int.reduceAdd,Int.reduceSub,Int.reduceMul,Int.reduceTDiv,Int.reduceTMod,Int.reduceMod,Int.reduceDiv,Nat.reduceLT,Nat.reduceEqDiff,Sa,Sb,Sc,Sd,Se,Sf,Sg,Int.reduceLE,Int.reduceLT,Int.reduceToNat,Int.reduceNeg,Int.reduceEq,Nat.reduceLeDiff,Nat.reducePow,Int.reducePow,reduceIte,Nat.reduceSub,Nat.reduceAdd,Nat.reduceMul,putAt,ceq,List.replicate, *]))
    exact Fin_mk (Heap.Le.refl _) h
  by_cases c2 : taken < n
  · have h := h1 (.inr c2)
    clear h1 h3 ha
    refine HL.hc k11 999 ?_; unfold M11
    (all_goals (try simp only [Sq,Sr,Sh,Si,Sl,Bu,Bb,Bd,Bc,Bw,Bn,Int.reduceAdd,Int.reduceSub,Int.reduceMul,Int.reduceTDiv,Int.reduceTMod,Int.reduceMod,Int.reduceDiv,Nat.reduceLT,Nat.reduceEqDiff,Sa,Sb,Sc,Sd,Se,Sf,Sg,Int.reduceLE,Int.reduceLT,Int.reduceToNat,Int.reduceNeg,Int.reduceEq,Nat.reduceLeDiff,Nat.reducePow,Int.reducePow,reduceIte,Nat.reduceSub,Nat.reduceAdd,Nat.reduceMul,putAt,ceq,List.replicate, *])); repeat' ((first | (with_reducible refine fun _ : True => ?_) | (with_reducible refine any_h ?_) | ((first | refine AllocQ_i ?_ | refine AllocO_i ?_); intro bk hb0 hbk; (try simp only [set_none'] at hbk); (try (first | have hbn := Grow.none (by assumption) hbk | have hbn := Grow.none (by assumption) hbk.2 | have hbn := Grow.none (by assumption) hbk.2.2 | have hbn := Grow.none (by assumption) hbk.2.2.2 | have hbn := Grow.none (by assumption) hbk.2.2.2.2 | have hbn := Grow.none (by assumption) hbk.2.2.2.2.2)); (try simp only [set_none'] at hbn); (try (first | have hbm := Grow.none (by assumption) hbn | have hbm := Grow.none (by assumption) hbn.2 | have hbm := Grow.none (by assumption) hbn.2.2 | have hbm := Grow.none (by assumption) hbn.2.2.2 | have hbm := Grow.none (by assumption) hbn.2.2.2.2 | have hbm := Grow.none (by assumption) hbn.2.2.2.2.2)); (try simp only [set_none'] at hbm)) | ((first | refine condS_i ?_ ?_ | refine pick_i ?_ ?_ | refine gS_it ?_ ?_ | refine gS_if ?_ ?_ | refine gP_it ?_ ?_ | refine gP_if ?_ ?_) <;> (intro hc; try simp only [Int.reduceLE,Int.reduceLT,Int.reduceEq,Sn] at hc)) | (with_reducible refine KP_i ?_ ?_; · (repeat' (first | exact Heap.Le.refl _ | (with_reducible refine Le_set2 ?_) | (refine Le_known (by first | (simp only [Heap.set_same, set_ne, ne_eq, not_false_eq_true, *] <;> rfl) | fail) ?_) | (refine Le_fresh (by first | (simp only [*] <;> done) | (simp [set_none', Heap.set_same, set_ne, noneH, *] <;> done) | fail) ?_) | (refine Heap.Le.trans ?_ (Grow.le (by assumption))) | exact Le_none | (refine Le_put ?_ (by first | (simp only [Heap.set_same, set_ne, ne_eq, not_false_eq_true, *] <;> rfl) | fail)) | fail))) | (with_reducible refine And.intro ?_ ?_)) <;> (try simp only [Sq,Sr,Sh,Si,Sl,Bu,Bb,Bd,Bc,Bw,Bn,Int.reduceAdd,Int.reduceSub,Int.reduceMul,Int.reduceTDiv,Int.reduceTMod,Int.reduceMod,Int.reduceDiv,Nat.reduceLT,Nat.reduceEqDiff,Sa,Sb,Sc,Sd,Se,Sf,Sg,Int.reduceLE,Int.reduceLT,Int.reduceToNat,Int.reduceNeg,Int.reduceEq,Nat.reduceLeDiff,Nat.reducePow,Int.reducePow,reduceIte,Nat.reduceSub,Nat.reduceAdd,Nat.reduceMul,putAt,ceq,List.replicate, *]))
    exact Fin_mk (Heap.Le.refl _) h
  have h := h3 (by omega) (by omega)
  have hw2 : IntKind.i64.wrap (taken - n) = taken - n := Bw.1 _ (by omega) (by omega)
  clear h1 h3 ha
  refine HL.hc k11 999 ?_; unfold M11
  (all_goals (try simp only [Sq,Sr,Sh,Si,Sl,Bu,Bb,Bd,Bc,Bw,Bn,Int.reduceAdd,Int.reduceSub,Int.reduceMul,Int.reduceTDiv,Int.reduceTMod,Int.reduceMod,Int.reduceDiv,Nat.reduceLT,Nat.reduceEqDiff,Sa,Sb,Sc,Sd,Se,Sf,Sg,Int.reduceLE,Int.reduceLT,Int.reduceToNat,Int.reduceNeg,Int.reduceEq,Nat.reduceLeDiff,Nat.reducePow,Int.reducePow,reduceIte,Nat.reduceSub,Nat.reduceAdd,Nat.reduceMul,putAt,ceq,List.replicate, *])); repeat' ((first | (with_reducible refine fun _ : True => ?_) | (with_reducible refine any_h ?_) | ((first | refine AllocQ_i ?_ | refine AllocO_i ?_); intro bk hb0 hbk; (try simp only [set_none'] at hbk); (try (first | have hbn := Grow.none (by assumption) hbk | have hbn := Grow.none (by assumption) hbk.2 | have hbn := Grow.none (by assumption) hbk.2.2 | have hbn := Grow.none (by assumption) hbk.2.2.2 | have hbn := Grow.none (by assumption) hbk.2.2.2.2 | have hbn := Grow.none (by assumption) hbk.2.2.2.2.2)); (try simp only [set_none'] at hbn); (try (first | have hbm := Grow.none (by assumption) hbn | have hbm := Grow.none (by assumption) hbn.2 | have hbm := Grow.none (by assumption) hbn.2.2 | have hbm := Grow.none (by assumption) hbn.2.2.2 | have hbm := Grow.none (by assumption) hbn.2.2.2.2 | have hbm := Grow.none (by assumption) hbn.2.2.2.2.2)); (try simp only [set_none'] at hbm)) | ((first | refine condS_i ?_ ?_ | refine pick_i ?_ ?_ | refine gS_it ?_ ?_ | refine gS_if ?_ ?_ | refine gP_it ?_ ?_ | refine gP_if ?_ ?_) <;> (intro hc; try simp only [Int.reduceLE,Int.reduceLT,Int.reduceEq,Sn] at hc)) | (with_reducible refine KP_i ?_ ?_; · (repeat' (first | exact Heap.Le.refl _ | (with_reducible refine Le_set2 ?_) | (refine Le_known (by first | (simp only [Heap.set_same, set_ne, ne_eq, not_false_eq_true, *] <;> rfl) | fail) ?_) | (refine Le_fresh (by first | (simp only [*] <;> done) | (simp [set_none', Heap.set_same, set_ne, noneH, *] <;> done) | fail) ?_) | (refine Heap.Le.trans ?_ (Grow.le (by assumption))) | exact Le_none | (refine Le_put ?_ (by first | (simp only [Heap.set_same, set_ne, ne_eq, not_false_eq_true, *] <;> rfl) | fail)) | fail))) | (with_reducible refine And.intro ?_ ?_)) <;> (try simp only [Sq,Sr,Sh,Si,Sl,Bu,Bb,Bd,Bc,Bw,Bn,Int.reduceAdd,Int.reduceSub,Int.reduceMul,Int.reduceTDiv,Int.reduceTMod,Int.reduceMod,Int.reduceDiv,Nat.reduceLT,Nat.reduceEqDiff,Sa,Sb,Sc,Sd,Se,Sf,Sg,Int.reduceLE,Int.reduceLT,Int.reduceToNat,Int.reduceNeg,Int.reduceEq,Nat.reduceLeDiff,Nat.reducePow,Int.reducePow,reduceIte,Nat.reduceSub,Nat.reduceAdd,Nat.reduceMul,putAt,ceq,List.replicate, *]))
  exact Fin_mk (Heap.Le.refl _) h
end Go.Proofs.Ytgbcakebmpgghaa
