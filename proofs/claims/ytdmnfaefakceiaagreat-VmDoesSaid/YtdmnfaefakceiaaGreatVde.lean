/- What an operation does, by the document: the small functions (layer 18). -/
import Derived.Test.YtdmnfaefakceiaaGreatVdc
import Derived.Test.YtdmnfaefakceiaaGreatDrc
set_option linter.unusedSimpArgs false
set_option linter.unusedVariables false
set_option maxRecDepth 100000
set_option maxHeartbeats 4000000
namespace Go.Proofs.YtdmnfaefakceiaaGreat
open Go.HL Go.RowKit Pb
variable {w0 : World} {H G : Heap} {K : Value → Heap → Prop}

theorem w32c {z x : Int} (h : (z - x) % 4294967296 = 0) : w32 z = w32 x := by
  unfold w32
  have e2 : z % 4294967296 = x % 4294967296 := by omega
  have e : (2 : Int) ^ 32 = 4294967296 := by decide
  simp only [IntKind.wrap, IntKind.bits, IntKind.signed, e, e2]
theorem tmod_32 (x : Int) : (x.tmod 4294967296 - x) % 4294967296 = 0 ∧ -4294967296 < x.tmod 4294967296 ∧ x.tmod 4294967296 < 4294967296 := by
  rcases Int.le_total 0 x with h | h
  · rw [Int.tmod_eq_emod_of_nonneg h]; omega
  · have e : x.tmod 4294967296 = -((-x).tmod 4294967296) := by rw [Int.neg_tmod, Int.neg_neg]
    rw [e, Int.tmod_eq_emod_of_nonneg (by omega)]; omega
/- paintboxref15 wrap -/
def M113 : MC :=
  .seq (.reg [oX 2 (.mv (.const (.int .i32 0)))])
 (.seq (.reg [vX 3 0,
 oX 4 (bK .rem 3 4294967296),
 vX 0 4])
 (.seq (.seq (.reg [vX 5 0,
 oX 6 (.bin .lss (.tmp 5) (kX (-2147483648)))])
 (.cond (.tmp 6)
 (.reg [vX 7 0,
 oX 8 (bK .add 7 4294967296),
 vX 0 8])
 (.skip)))
 (.seq (.seq (.reg [vX 9 0,
 oX 10 (bK .gtr 9 2147483647)])
 (.cond (.tmp 10)
 (.reg [vX 11 0,
 oX 12 (bK .sub 11 4294967296),
 vX 0 12])
 (.skip)))
 (.seq (.reg [vX 13 0,
 oX 14 (.conv .i32 (.tmp 13)),
 vX 2 14])
 (.ret)))))
theorem k113 : fnOk Tryz.prog 113 = some (M113, [.t 2], 15) := by kernel_rfl
/- paintboxref15 whole -/
def M63 : MC :=
  .seq (.reg [oX 6 (.mv (.const (.int .i32 0)))])
 (.seq (.seq (.reg [vX 7 0,
 oX 8 (bK .eql 7 24)])
 (.cond (.tmp 8)
 (.seq (.reg [vX 9 1,
 vX 10 2,
 oX 11 (bX .add 9 10),
 oX 12 (.call 113 [(.tmp 11)]),
 vX 6 12])
 (.ret))
 (.skip)))
 (.seq (.seq (.reg [vX 13 0,
 oX 14 (bK .eql 13 25)])
 (.cond (.tmp 14)
 (.seq (.reg [vX 15 1,
 vX 16 2,
 oX 17 (bX .sub 15 16),
 oX 18 (.call 113 [(.tmp 17)]),
 vX 6 18])
 (.ret))
 (.skip)))
 (.seq (.seq (.reg [vX 19 0,
 oX 20 (bK .eql 19 26)])
 (.cond (.tmp 20)
 (.seq (.reg [vX 21 1,
 vX 22 2,
 oX 23 (bX .mul 21 22),
 oX 24 (.call 113 [(.tmp 23)]),
 vX 6 24])
 (.ret))
 (.skip)))
 (.seq (.seq (.reg [vX 25 0,
 oX 26 (bK .eql 25 28)])
 (.cond (.tmp 26)
 (.seq (.reg [vX 27 1,
 oX 28 (.un .neg (.tmp 27)),
 oX 29 (.call 113 [(.tmp 28)]),
 vX 6 29])
 (.ret))
 (.skip)))
 (.seq (.seq (.reg [vX 30 2,
 oX 31 (bK .eql 30 0)])
 (.cond (.tmp 31)
 (.seq (.reg [oX 6 (.mv (.const (.int .i32 0)))])
 (.ret))
 (.skip)))
 (.seq (.reg [vX 32 1,
 vX 33 2,
 oX 34 (bX .quo 32 33),
 oX 35 (.call 113 [(.tmp 34)]),
 vX 6 35])
 (.ret)))))))
theorem k63 : fnOk Tryz.prog 63 = some (M63, [.t 6], 36) := by kernel_rfl
/- paintboxref15 single -/
def M67 : MC :=
  .seq (.reg [oX 4 (.mv (.const (.int .i32 0)))])
 (.seq (.seq (.reg [vX 5 0,
 oX 6 (bK .eql 5 5)])
 (.cond (.tmp 6)
 (.seq (.reg [vX 7 1,
 oX 8 (.call 119 [(.tmp 7)]),
 vX 4 8])
 (.ret))
 (.skip)))
 (.seq (.seq (.reg [vX 9 0,
 oX 10 (bK .eql 9 6)])
 (.cond (.tmp 10)
 (.seq (.reg [vX 11 1,
 oX 12 (.call 120 [(.tmp 11)]),
 vX 4 12])
 (.ret))
 (.skip)))
 (.seq (.seq (.reg [vX 13 0,
 oX 14 (bK .eql 13 7)])
 (.cond (.tmp 14)
 (.seq (.reg [vX 15 1,
 oX 16 (.call 117 [(.tmp 15)]),
 vX 4 16])
 (.ret))
 (.skip)))
 (.seq (.seq (.reg [vX 17 0,
 oX 18 (bK .eql 17 8)])
 (.cond (.tmp 18)
 (.seq (.reg [vX 19 1,
 oX 20 (.call 118 [(.tmp 19)]),
 vX 4 20])
 (.ret))
 (.skip)))
 (.seq (.seq (.reg [vX 21 0,
 oX 22 (bK .eql 21 9)])
 (.cond (.tmp 22)
 (.seq (.reg [vX 23 1,
 oX 24 (.call 121 [(.tmp 23)]),
 vX 4 24])
 (.ret))
 (.skip)))
 (.seq (.seq (.reg [vX 25 0,
 oX 26 (bK .eql 25 10)])
 (.cond (.tmp 26)
 (.seq (.reg [vX 27 1,
 oX 28 (.call 122 [(.tmp 27)]),
 vX 4 28])
 (.ret))
 (.skip)))
 (.seq (.reg [vX 29 0,
 vX 30 1,
 oX 31 (.call 123 [(.tmp 29),(.tmp 30)]),
 vX 4 31])
 (.ret))))))))
theorem k67 : fnOk Tryz.prog 67 = some (M67, [.t 4], 32) := by kernel_rfl

theorem r_wrap (x : Int) (h : K (.int .i32 (w32 x)) H) : HCalls Tryz.prog w0 113 [.int .i64 x] H K := by
  obtain ⟨hm, h1, h2⟩ := tmod_32 x
  obtain ⟨y, ey⟩ : ∃ y, x.tmod 4294967296 = y := ⟨_, rfl⟩
  rw [ey] at hm h1 h2
  have e1 : IntKind.i64.wrap (y + 4294967296) = y + 4294967296 := Bw.1 _ (by omega) (by omega)
  have e2 : IntKind.i64.wrap (y - 4294967296) = y - 4294967296 := Bw.1 _ (by omega) (by omega)
  replace h : Keep _ := h
  replace hm : Keep _ := hm
  rcases (by omega : y < -2147483648 ∨ (¬ y < -2147483648 ∧ 2147483647 < y) ∨ (¬ y < -2147483648 ∧ ¬ 2147483647 < y)) with q1 | ⟨q1, q2⟩ | ⟨q1, q2⟩
  · have q2 : ¬ 2147483647 < y + 4294967296 := by omega
    refine HL.hc k113 999 ?_; unfold M113
    (all_goals (try simp only [S0,putAt,List.replicate,Int.reduceAdd,Int.reduceSub,Int.reduceMul,Int.reduceTDiv,Int.reduceTMod,Int.reduceMod,Int.reduceDiv,Nat.reduceLT,Nat.reduceEqDiff,Int.reduceLE,Int.reduceLT,Int.reduceToNat,Int.reduceNeg,Int.reduceEq,Nat.reduceLeDiff,Nat.reducePow,Int.reducePow,reduceIte,Nat.reduceSub,Nat.reduceAdd,Nat.reduceMul, *])); repeat' ((first | (with_reducible refine fun _ : True => ?_) | (with_reducible refine any_h ?_) | ((first | refine AllocQ_i ?_ | refine AllocO_i ?_); intro bk hb0 hbk; try simp only [set_none'] at hbk) | ((first | refine condS_i ?_ ?_ | refine pick_i ?_ ?_ | refine gS_it ?_ ?_ | refine gS_if ?_ ?_ | refine gP_it ?_ ?_ | refine gP_if ?_ ?_) <;> (intro hc; try simp only [Int.reduceLE,Int.reduceLT,Int.reduceEq,Sn] at hc)) | (with_reducible refine KP_i ?_ ?_; · exact aE) | (with_reducible refine And.intro ?_ ?_)) <;> (try simp only [S0,putAt,List.replicate,Int.reduceAdd,Int.reduceSub,Int.reduceMul,Int.reduceTDiv,Int.reduceTMod,Int.reduceMod,Int.reduceDiv,Nat.reduceLT,Nat.reduceEqDiff,Int.reduceLE,Int.reduceLT,Int.reduceToNat,Int.reduceNeg,Int.reduceEq,Nat.reduceLeDiff,Nat.reducePow,Int.reducePow,reduceIte,Nat.reduceSub,Nat.reduceAdd,Nat.reduceMul, *]))
    exact Fin_mk (Heap.Le.refl _) (K_int h (w32c (by have : _ = _ := hm; omega)))
  · refine HL.hc k113 999 ?_; unfold M113
    (all_goals (try simp only [S0,putAt,List.replicate,Int.reduceAdd,Int.reduceSub,Int.reduceMul,Int.reduceTDiv,Int.reduceTMod,Int.reduceMod,Int.reduceDiv,Nat.reduceLT,Nat.reduceEqDiff,Int.reduceLE,Int.reduceLT,Int.reduceToNat,Int.reduceNeg,Int.reduceEq,Nat.reduceLeDiff,Nat.reducePow,Int.reducePow,reduceIte,Nat.reduceSub,Nat.reduceAdd,Nat.reduceMul, *])); repeat' ((first | (with_reducible refine fun _ : True => ?_) | (with_reducible refine any_h ?_) | ((first | refine AllocQ_i ?_ | refine AllocO_i ?_); intro bk hb0 hbk; try simp only [set_none'] at hbk) | ((first | refine condS_i ?_ ?_ | refine pick_i ?_ ?_ | refine gS_it ?_ ?_ | refine gS_if ?_ ?_ | refine gP_it ?_ ?_ | refine gP_if ?_ ?_) <;> (intro hc; try simp only [Int.reduceLE,Int.reduceLT,Int.reduceEq,Sn] at hc)) | (with_reducible refine KP_i ?_ ?_; · exact aE) | (with_reducible refine And.intro ?_ ?_)) <;> (try simp only [S0,putAt,List.replicate,Int.reduceAdd,Int.reduceSub,Int.reduceMul,Int.reduceTDiv,Int.reduceTMod,Int.reduceMod,Int.reduceDiv,Nat.reduceLT,Nat.reduceEqDiff,Int.reduceLE,Int.reduceLT,Int.reduceToNat,Int.reduceNeg,Int.reduceEq,Nat.reduceLeDiff,Nat.reducePow,Int.reducePow,reduceIte,Nat.reduceSub,Nat.reduceAdd,Nat.reduceMul, *]))
    exact Fin_mk (Heap.Le.refl _) (K_int h (w32c (by have : _ = _ := hm; omega)))
  · refine HL.hc k113 999 ?_; unfold M113
    (all_goals (try simp only [S0,putAt,List.replicate,Int.reduceAdd,Int.reduceSub,Int.reduceMul,Int.reduceTDiv,Int.reduceTMod,Int.reduceMod,Int.reduceDiv,Nat.reduceLT,Nat.reduceEqDiff,Int.reduceLE,Int.reduceLT,Int.reduceToNat,Int.reduceNeg,Int.reduceEq,Nat.reduceLeDiff,Nat.reducePow,Int.reducePow,reduceIte,Nat.reduceSub,Nat.reduceAdd,Nat.reduceMul, *])); repeat' ((first | (with_reducible refine fun _ : True => ?_) | (with_reducible refine any_h ?_) | ((first | refine AllocQ_i ?_ | refine AllocO_i ?_); intro bk hb0 hbk; try simp only [set_none'] at hbk) | ((first | refine condS_i ?_ ?_ | refine pick_i ?_ ?_ | refine gS_it ?_ ?_ | refine gS_if ?_ ?_ | refine gP_it ?_ ?_ | refine gP_if ?_ ?_) <;> (intro hc; try simp only [Int.reduceLE,Int.reduceLT,Int.reduceEq,Sn] at hc)) | (with_reducible refine KP_i ?_ ?_; · exact aE) | (with_reducible refine And.intro ?_ ?_)) <;> (try simp only [S0,putAt,List.replicate,Int.reduceAdd,Int.reduceSub,Int.reduceMul,Int.reduceTDiv,Int.reduceTMod,Int.reduceMod,Int.reduceDiv,Nat.reduceLT,Nat.reduceEqDiff,Int.reduceLE,Int.reduceLT,Int.reduceToNat,Int.reduceNeg,Int.reduceEq,Nat.reduceLeDiff,Nat.reducePow,Int.reducePow,reduceIte,Nat.reduceSub,Nat.reduceAdd,Nat.reduceMul, *]))
    exact Fin_mk (Heap.Le.refl _) (K_int h (w32c (by have : _ = _ := hm; omega)))
theorem r_whole (fn x y : Int) (hx : I32 x) (hy : I32 y) (hfn : 24 ≤ fn ∧ fn ≤ 28) (h : K (.int .i32 (wI fn x y)) H) : HCalls Tryz.prog w0 63 [.int .i64 fn, .int .i64 x, .int .i64 y] H K := by
  have hm := hx.mul hy
  have b := hx
  have b' := hy
  unfold I32 at b b'
  have e1 : IntKind.i64.wrap (x + y) = x + y := Bw.1 _ (by omega) (by omega)
  have e2 : IntKind.i64.wrap (x - y) = x - y := Bw.1 _ (by omega) (by omega)
  have e3 : IntKind.i64.wrap (x * y) = x * y := Bw.1 _ (by omega) (by omega)
  have e4 : IntKind.i64.wrap (0 - x) = -x := by rw [Int.zero_sub]; exact Bw.1 _ (by omega) (by omega)
  have hq : fn = 24 ∨ fn = 25 ∨ fn = 26 ∨ fn = 28 ∨ (fn = 27 ∧ y = 0) ∨ (fn = 27 ∧ ¬ y = 0) := by omega
  have e5 := fun hn => tdiv_64 hx hy hn
  clear hm b b' hfn
  rcases hq with rfl | rfl | rfl | rfl | ⟨rfl, hy0⟩ | ⟨rfl, hy0⟩
  all_goals
    try replace e5 := e5 hy0
    first
      | simp only [wI, hy0, Int.reduceEq, if_true, if_false, reduceIte] at h
      | simp only [wI, Int.reduceEq, if_true, if_false, reduceIte] at h
    replace h : Keep _ := h
    refine HL.hc k63 999 ?_; unfold M63
    (all_goals (try simp only [S0,putAt,List.replicate,Int.reduceAdd,Int.reduceSub,Int.reduceMul,Int.reduceTDiv,Int.reduceTMod,Int.reduceMod,Int.reduceDiv,Nat.reduceLT,Nat.reduceEqDiff,Int.reduceLE,Int.reduceLT,Int.reduceToNat,Int.reduceNeg,Int.reduceEq,Nat.reduceLeDiff,Nat.reducePow,Int.reducePow,reduceIte,Nat.reduceSub,Nat.reduceAdd,Nat.reduceMul, *])); repeat' ((first | (with_reducible refine fun _ : True => ?_) | refine r_wrap _ ?_ | (with_reducible refine any_h ?_) | ((first | refine AllocQ_i ?_ | refine AllocO_i ?_); intro bk hb0 hbk; try simp only [set_none'] at hbk) | ((first | refine condS_i ?_ ?_ | refine pick_i ?_ ?_ | refine gS_it ?_ ?_ | refine gS_if ?_ ?_ | refine gP_it ?_ ?_ | refine gP_if ?_ ?_) <;> (intro hc; try simp only [Int.reduceLE,Int.reduceLT,Int.reduceEq,Sn] at hc)) | (with_reducible refine KP_i ?_ ?_; · exact aE) | (with_reducible refine And.intro ?_ ?_)) <;> (try simp only [S0,putAt,List.replicate,Int.reduceAdd,Int.reduceSub,Int.reduceMul,Int.reduceTDiv,Int.reduceTMod,Int.reduceMod,Int.reduceDiv,Nat.reduceLT,Nat.reduceEqDiff,Int.reduceLE,Int.reduceLT,Int.reduceToNat,Int.reduceNeg,Int.reduceEq,Nat.reduceLeDiff,Nat.reducePow,Int.reducePow,reduceIte,Nat.reduceSub,Nat.reduceAdd,Nat.reduceMul, *]))
    exact Fin_mk (Heap.Le.refl _) h
theorem r_single (fn x : Int) (hx : I32 x) (hfn : 1 ≤ fn ∧ fn ≤ 10) (h : K (.int .i32 (compV fn x 0)) H) : HCalls Tryz.prog w0 67 [.int .i64 fn, .int .i32 x] H K := by
  have hq : fn = 1 ∨ fn = 2 ∨ fn = 3 ∨ fn = 4 ∨ fn = 5 ∨ fn = 6 ∨ fn = 7 ∨ fn = 8 ∨ fn = 9 ∨ fn = 10 := by omega
  clear hfn
  rcases hq with rfl | rfl | rfl | rfl | rfl | rfl | rfl | rfl | rfl | rfl
  all_goals
    simp only [compV, Int.reduceEq, Int.reduceLE, and_self, and_true, true_and, and_false, false_and, if_true, if_false, reduceIte] at h
    replace h : Keep _ := h
    refine HL.hc k67 999 ?_; unfold M67
    (all_goals (try simp only [S0,putAt,List.replicate,Int.reduceAdd,Int.reduceSub,Int.reduceMul,Int.reduceTDiv,Int.reduceTMod,Int.reduceMod,Int.reduceDiv,Nat.reduceLT,Nat.reduceEqDiff,Int.reduceLE,Int.reduceLT,Int.reduceToNat,Int.reduceNeg,Int.reduceEq,Nat.reduceLeDiff,Nat.reducePow,Int.reducePow,reduceIte,Nat.reduceSub,Nat.reduceAdd,Nat.reduceMul, *])); repeat' ((first | (with_reducible refine fun _ : True => ?_) | refine r_Sqrt _ hx ?_ | refine r_InvSqrt _ hx ?_ | refine r_Exp2 _ hx ?_ | refine r_Log2 _ hx ?_ | refine r_Sin _ hx ?_ | refine r_Cos _ hx ?_ | refine r_One _ _ (by decide) hx ?_ | (with_reducible refine any_h ?_) | ((first | refine AllocQ_i ?_ | refine AllocO_i ?_); intro bk hb0 hbk; try simp only [set_none'] at hbk) | ((first | refine condS_i ?_ ?_ | refine pick_i ?_ ?_ | refine gS_it ?_ ?_ | refine gS_if ?_ ?_ | refine gP_it ?_ ?_ | refine gP_if ?_ ?_) <;> (intro hc; try simp only [Int.reduceLE,Int.reduceLT,Int.reduceEq,Sn] at hc)) | (with_reducible refine KP_i ?_ ?_; · exact aE) | (with_reducible refine And.intro ?_ ?_)) <;> (try simp only [S0,putAt,List.replicate,Int.reduceAdd,Int.reduceSub,Int.reduceMul,Int.reduceTDiv,Int.reduceTMod,Int.reduceMod,Int.reduceDiv,Nat.reduceLT,Nat.reduceEqDiff,Int.reduceLE,Int.reduceLT,Int.reduceToNat,Int.reduceNeg,Int.reduceEq,Nat.reduceLeDiff,Nat.reducePow,Int.reducePow,reduceIte,Nat.reduceSub,Nat.reduceAdd,Nat.reduceMul, *]))
    exact Fin_mk (Heap.Le.refl _) h
end Go.Proofs.YtdmnfaefakceiaaGreat
