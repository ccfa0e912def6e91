/- What the functions of layers 2 and 3 return, by the document. -/
import Derived.Test.YtdmnfaefakceiaaGreatDma
set_option linter.unusedSimpArgs false
set_option linter.unusedVariables false
set_option maxRecDepth 100000
set_option maxHeartbeats 4000000
namespace Go.Proofs.YtdmnfaefakceiaaGreat
open Go.HL Go.RowKit Pb
variable {w0 : World} {t1 t2 t3 : TypeId} {H : Heap} {K : Value → Heap → Prop}
theorem aR {P Q : Prop} (k : Q) (h : Q → P := by (intro kk; ((all_goals (try simp only [S0,putAt,List.replicate,Int.reduceAdd,Int.reduceSub,Int.reduceMul,Int.reduceTDiv,Int.reduceTMod,Int.reduceMod,Int.reduceDiv,Nat.reduceLT,Nat.reduceEqDiff,Int.reduceLE,Int.reduceLT,Int.reduceToNat,Int.reduceNeg,Int.reduceEq,Nat.reduceLeDiff,Nat.reducePow,Int.reducePow,reduceIte,Nat.reduceSub,Nat.reduceAdd,Nat.reduceMul, *])); repeat' ((first | (with_reducible refine fun _ : True => ?_) | refine r_Raw _ ?_ | (with_reducible refine any_h ?_) | ((first | refine AllocQ_i ?_ | refine AllocO_i ?_); intro bk hb0 hbk; try simp only [set_none'] at hbk) | ((first | refine condS_i ?_ ?_ | refine pick_i ?_ ?_ | refine gS_it ?_ ?_ | refine gS_if ?_ ?_ | refine gP_it ?_ ?_ | refine gP_if ?_ ?_) <;> (intro hc; try simp only [Int.reduceLE,Int.reduceLT,Int.reduceEq,Sn] at hc)) | (with_reducible refine KP_i ?_ ?_; · exact aE) | (with_reducible refine And.intro ?_ ?_)) <;> (try simp only [S0,putAt,List.replicate,Int.reduceAdd,Int.reduceSub,Int.reduceMul,Int.reduceTDiv,Int.reduceTMod,Int.reduceMod,Int.reduceDiv,Nat.reduceLT,Nat.reduceEqDiff,Int.reduceLE,Int.reduceLT,Int.reduceToNat,Int.reduceNeg,Int.reduceEq,Nat.reduceLeDiff,Nat.reducePow,Int.reducePow,reduceIte,Nat.reduceSub,Nat.reduceAdd,Nat.reduceMul, *]))); exact kk)) : P := h k
/- paintboxref02 Raw -/
def M71 : MC :=
  .seq (.reg [oX 2 (.mv (.const (.int .i32 0)))])
 (.seq (.seq (.reg [vX 3 0,
 oX 4 (bK .gtr 3 2147483647)])
 (.cond (.tmp 4)
 (.seq (.reg [oX 2 (.mv (.const (.int .i32 2147483647)))])
 (.ret))
 (.skip)))
 (.seq (.seq (.reg [vX 5 0,
 oX 6 (.bin .lss (.tmp 5) (kX (-2147483648)))])
 (.cond (.tmp 6)
 (.seq (.reg [oX 2 (.mv (.const (.int .i32 (-2147483648))))])
 (.ret))
 (.skip)))
 (.seq (.reg [vX 7 0,
 oX 8 (.conv .i32 (.tmp 7)),
 vX 2 8])
 (.ret))))
theorem k71 : fnOk Tryz.prog 71 = some (M71, [.t 2], 9) := by kernel_rfl

theorem r_Raw (n : Int) (h : K (.int .i32 (raw n)) H) : HCalls Tryz.prog w0 71 [.int .i64 n] H K := by
  refine HL.hc k71 999 ?_; unfold M71
  (all_goals (try simp only [S0,putAt,List.replicate,Int.reduceAdd,Int.reduceSub,Int.reduceMul,Int.reduceTDiv,Int.reduceTMod,Int.reduceMod,Int.reduceDiv,Nat.reduceLT,Nat.reduceEqDiff,Int.reduceLE,Int.reduceLT,Int.reduceToNat,Int.reduceNeg,Int.reduceEq,Nat.reduceLeDiff,Nat.reducePow,Int.reducePow,reduceIte,Nat.reduceSub,Nat.reduceAdd,Nat.reduceMul, *])); repeat' ((first | (with_reducible refine fun _ : True => ?_) | (with_reducible refine any_h ?_) | ((first | refine AllocQ_i ?_ | refine AllocO_i ?_); intro bk hb0 hbk; try simp only [set_none'] at hbk) | ((first | refine condS_i ?_ ?_ | refine pick_i ?_ ?_ | refine gS_it ?_ ?_ | refine gS_if ?_ ?_ | refine gP_it ?_ ?_ | refine gP_if ?_ ?_) <;> (intro hc; try simp only [Int.reduceLE,Int.reduceLT,Int.reduceEq,Sn] at hc)) | (with_reducible refine KP_i ?_ ?_; · exact aE) | (with_reducible refine And.intro ?_ ?_)) <;> (try simp only [S0,putAt,List.replicate,Int.reduceAdd,Int.reduceSub,Int.reduceMul,Int.reduceTDiv,Int.reduceTMod,Int.reduceMod,Int.reduceDiv,Nat.reduceLT,Nat.reduceEqDiff,Int.reduceLE,Int.reduceLT,Int.reduceToNat,Int.reduceNeg,Int.reduceEq,Nat.reduceLeDiff,Nat.reducePow,Int.reducePow,reduceIte,Nat.reduceSub,Nat.reduceAdd,Nat.reduceMul, *]))
  all_goals try simp only [Int.reduceLE,Int.reduceLT,Int.reduceEq,Sn] at *
  all_goals (refine Fin_mk (Heap.Le.refl _) (K_int h ?_))
  all_goals first | (refine (w32_in (by unfold I32; omega)).trans ?_; unfold raw; (repeat' split) <;> omega) | (unfold raw; (repeat' split) <;> omega)
/- paintboxref02 down -/
def M148 : MC :=
  .seq (.reg [oX 4 (.mv (kX 0))])
 (.seq (.reg [vX 6 0,
 vX 7 1,
 oX 8 (bX .quo 6 7),
 vX 5 8])
 (.seq (.seq (.reg [vX 9 0,
 vX 10 1,
 oX 11 (bX .rem 9 10),
 oX 12 (bK .lss 11 0)])
 (.cond (.tmp 12)
 (.reg [vX 13 5,
 oX 14 (bK .sub 13 1),
 vX 5 14])
 (.skip)))
 (.seq (.reg [vX 15 5,
 vX 4 15])
 (.ret))))
theorem k148 : fnOk Tryz.prog 148 = some (M148, [.t 4], 16) := by kernel_rfl

theorem r_down (n d : Int) (hn : -4611686018427500000 ≤ n ∧ n ≤ 4611686018427500000) (hd : 1 ≤ d ∧ d ≤ 4611686018427500000) (h : K (.int .i64 (n / d)) H) : HCalls Tryz.prog w0 148 [.int .i64 n, .int .i64 d] H K := by
  refine HL.hc k148 999 ?_; unfold M148
  (all_goals (try simp only [S0,putAt,List.replicate,Int.reduceAdd,Int.reduceSub,Int.reduceMul,Int.reduceTDiv,Int.reduceTMod,Int.reduceMod,Int.reduceDiv,Nat.reduceLT,Nat.reduceEqDiff,Int.reduceLE,Int.reduceLT,Int.reduceToNat,Int.reduceNeg,Int.reduceEq,Nat.reduceLeDiff,Nat.reducePow,Int.reducePow,reduceIte,Nat.reduceSub,Nat.reduceAdd,Nat.reduceMul, *])); repeat' ((first | (with_reducible refine fun _ : True => ?_) | (with_reducible refine any_h ?_) | ((first | refine AllocQ_i ?_ | refine AllocO_i ?_); intro bk hb0 hbk; try simp only [set_none'] at hbk) | ((first | refine condS_i ?_ ?_ | refine pick_i ?_ ?_ | refine gS_it ?_ ?_ | refine gS_if ?_ ?_ | refine gP_it ?_ ?_ | refine gP_if ?_ ?_) <;> (intro hc; try simp only [Int.reduceLE,Int.reduceLT,Int.reduceEq,Sn] at hc)) | (with_reducible refine KP_i ?_ ?_; · exact aE) | (with_reducible refine And.intro ?_ ?_)) <;> (try simp only [S0,putAt,List.replicate,Int.reduceAdd,Int.reduceSub,Int.reduceMul,Int.reduceTDiv,Int.reduceTMod,Int.reduceMod,Int.reduceDiv,Nat.reduceLT,Nat.reduceEqDiff,Int.reduceLE,Int.reduceLT,Int.reduceToNat,Int.reduceNeg,Int.reduceEq,Nat.reduceLeDiff,Nat.reducePow,Int.reducePow,reduceIte,Nat.reduceSub,Nat.reduceAdd,Nat.reduceMul, *]))
  all_goals try simp only [Int.reduceLE,Int.reduceLT,Int.reduceEq,Sn] at *
  all_goals try omega
  all_goals (refine Fin_mk (Heap.Le.refl _) (K_int h ?_))
  · exact down_neg hn hd (by assumption)
  · exact down_pos hn hd (by assumption)
/- paintboxref02 Add -/
def M110 : MC :=
  .seq (.reg [oX 4 (.mv (.const (.int .i32 0)))])
 (.seq (.reg [vX 5 0,
 oX 6 (.conv .i64 (.tmp 5)),
 vX 7 1,
 oX 8 (.conv .i64 (.tmp 7)),
 oX 9 (bX .add 6 8),
 oX 10 (.call 71 [(.tmp 9)]),
 vX 4 10])
 (.ret))
theorem k110 : fnOk Tryz.prog 110 = some (M110, [.t 4], 11) := by kernel_rfl

theorem r_Add (a b : Int) (ha : I32 a) (hb : I32 b) (h : K (.int .i32 (fadd a b)) H) : HCalls Tryz.prog w0 110 [.int .i32 a, .int .i32 b] H K := by
  refine HL.hc k110 999 ?_; unfold M110
  refine aR ?_
  exact Fin_mk (Heap.Le.refl _) (K_int h (fadd_eq ha hb))
/- paintboxref02 Sub -/
def M114 : MC :=
  .seq (.reg [oX 4 (.mv (.const (.int .i32 0)))])
 (.seq (.reg [vX 5 0,
 oX 6 (.conv .i64 (.tmp 5)),
 vX 7 1,
 oX 8 (.conv .i64 (.tmp 7)),
 oX 9 (bX .sub 6 8),
 oX 10 (.call 71 [(.tmp 9)]),
 vX 4 10])
 (.ret))
theorem k114 : fnOk Tryz.prog 114 = some (M114, [.t 4], 11) := by kernel_rfl

theorem r_Sub (a b : Int) (ha : I32 a) (hb : I32 b) (h : K (.int .i32 (fsub a b)) H) : HCalls Tryz.prog w0 114 [.int .i32 a, .int .i32 b] H K := by
  refine HL.hc k114 999 ?_; unfold M114
  refine aR ?_
  exact Fin_mk (Heap.Le.refl _) (K_int h (fsub_eq ha hb))
/- paintboxref02 Neg -/
def M65 : MC :=
  .seq (.reg [oX 2 (.mv (.const (.int .i32 0)))])
 (.seq (.reg [vX 3 0,
 oX 4 (.conv .i64 (.tmp 3)),
 oX 5 (.un .neg (.tmp 4)),
 oX 6 (.call 71 [(.tmp 5)]),
 vX 2 6])
 (.ret))
theorem k65 : fnOk Tryz.prog 65 = some (M65, [.t 2], 7) := by kernel_rfl

theorem r_Neg (a : Int) (ha : I32 a) (h : K (.int .i32 (fneg a)) H) : HCalls Tryz.prog w0 65 [.int .i32 a] H K := by
  refine HL.hc k65 999 ?_; unfold M65
  refine aR ?_
  exact Fin_mk (Heap.Le.refl _) (K_int h (fneg_eq ha))
/- paintboxref02 Floor -/
def M116 : MC :=
  .seq (.reg [oX 2 (.mv (.const (.int .i32 0)))])
 (.seq (.reg [vX 3 0,
 oX 4 (.conv .i64 (.tmp 3)),
 oX 5 (.call 148 [(.tmp 4),(kX 65536)]),
 oX 6 (bK .mul 5 65536),
 oX 7 (.call 71 [(.tmp 6)]),
 vX 2 7])
 (.ret))
theorem k116 : fnOk Tryz.prog 116 = some (M116, [.t 2], 8) := by kernel_rfl

theorem r_Floor (a : Int) (ha : I32 a) (h : K (.int .i32 (ffloor a)) H) : HCalls Tryz.prog w0 116 [.int .i32 a] H K := by
  refine HL.hc k116 999 ?_; unfold M116
  have e : IntKind.i64.wrap a = a := ha.w64
  have ha' := ha; unfold I32 at ha'
  (all_goals (try simp only [S0,putAt,List.replicate,Int.reduceAdd,Int.reduceSub,Int.reduceMul,Int.reduceTDiv,Int.reduceTMod,Int.reduceMod,Int.reduceDiv,Nat.reduceLT,Nat.reduceEqDiff,Int.reduceLE,Int.reduceLT,Int.reduceToNat,Int.reduceNeg,Int.reduceEq,Nat.reduceLeDiff,Nat.reducePow,Int.reducePow,reduceIte,Nat.reduceSub,Nat.reduceAdd,Nat.reduceMul, *])); repeat' ((first | (with_reducible refine fun _ : True => ?_) | refine r_down _ _ (by omega) (by omega) ?_ | refine r_Raw _ ?_ | (with_reducible refine any_h ?_) | ((first | refine AllocQ_i ?_ | refine AllocO_i ?_); intro bk hb0 hbk; try simp only [set_none'] at hbk) | ((first | refine condS_i ?_ ?_ | refine pick_i ?_ ?_ | refine gS_it ?_ ?_ | refine gS_if ?_ ?_ | refine gP_it ?_ ?_ | refine gP_if ?_ ?_) <;> (intro hc; try simp only [Int.reduceLE,Int.reduceLT,Int.reduceEq,Sn] at hc)) | (with_reducible refine KP_i ?_ ?_; · exact aE) | (with_reducible refine And.intro ?_ ?_)) <;> (try simp only [S0,putAt,List.replicate,Int.reduceAdd,Int.reduceSub,Int.reduceMul,Int.reduceTDiv,Int.reduceTMod,Int.reduceMod,Int.reduceDiv,Nat.reduceLT,Nat.reduceEqDiff,Int.reduceLE,Int.reduceLT,Int.reduceToNat,Int.reduceNeg,Int.reduceEq,Nat.reduceLeDiff,Nat.reducePow,Int.reducePow,reduceIte,Nat.reduceSub,Nat.reduceAdd,Nat.reduceMul, *]))
  refine Fin_mk (Heap.Le.refl _) (K_int h ?_)
  exact (congrArg raw (w64_in (by omega) (by omega))).trans (raw_in (ffloor_I32 ha))
/- paintboxref02 Fract -/
def M154 : MC :=
  .seq (.reg [oX 2 (.mv (.const (.int .i32 0)))])
 (.seq (.reg [vX 3 0,
 vX 4 0,
 oX 5 (.call 116 [(.tmp 4)]),
 oX 6 (.call 114 [(.tmp 3),(.tmp 5)]),
 vX 2 6])
 (.ret))
theorem k154 : fnOk Tryz.prog 154 = some (M154, [.t 2], 7) := by kernel_rfl

theorem r_Fract (a : Int) (ha : I32 a) (h : K (.int .i32 (ffract a)) H) : HCalls Tryz.prog w0 154 [.int .i32 a] H K := by
  refine HL.hc k154 999 ?_; unfold M154
  (all_goals (try simp only [S0,putAt,List.replicate,Int.reduceAdd,Int.reduceSub,Int.reduceMul,Int.reduceTDiv,Int.reduceTMod,Int.reduceMod,Int.reduceDiv,Nat.reduceLT,Nat.reduceEqDiff,Int.reduceLE,Int.reduceLT,Int.reduceToNat,Int.reduceNeg,Int.reduceEq,Nat.reduceLeDiff,Nat.reducePow,Int.reducePow,reduceIte,Nat.reduceSub,Nat.reduceAdd,Nat.reduceMul, *])); repeat' ((first | (with_reducible refine fun _ : True => ?_) | refine r_Floor _ ha ?_ | refine r_Sub _ _ ha (ffloor_I32 ha) ?_ | (with_reducible refine any_h ?_) | ((first | refine AllocQ_i ?_ | refine AllocO_i ?_); intro bk hb0 hbk; try simp only [set_none'] at hbk) | ((first | refine condS_i ?_ ?_ | refine pick_i ?_ ?_ | refine gS_it ?_ ?_ | refine gS_if ?_ ?_ | refine gP_it ?_ ?_ | refine gP_if ?_ ?_) <;> (intro hc; try simp only [Int.reduceLE,Int.reduceLT,Int.reduceEq,Sn] at hc)) | (with_reducible refine KP_i ?_ ?_; · exact aE) | (with_reducible refine And.intro ?_ ?_)) <;> (try simp only [S0,putAt,List.replicate,Int.reduceAdd,Int.reduceSub,Int.reduceMul,Int.reduceTDiv,Int.reduceTMod,Int.reduceMod,Int.reduceDiv,Nat.reduceLT,Nat.reduceEqDiff,Int.reduceLE,Int.reduceLT,Int.reduceToNat,Int.reduceNeg,Int.reduceEq,Nat.reduceLeDiff,Nat.reducePow,Int.reducePow,reduceIte,Nat.reduceSub,Nat.reduceAdd,Nat.reduceMul, *]))
  refine Fin_mk (Heap.Le.refl _) (K_int h ?_)
  unfold fsub ffloor ffract raw; (repeat' split) <;> omega
/- paintboxref02 Abs -/
def M153 : MC :=
  .seq (.reg [oX 2 (.mv (.const (.int .i32 0)))])
 (.seq (.seq (.reg [vX 3 0,
 oX 4 (.bin .lss (.tmp 3) (.const (.int .i32 0)))])
 (.cond (.tmp 4)
 (.seq (.reg [vX 5 0,
 oX 6 (.call 65 [(.tmp 5)]),
 vX 2 6])
 (.ret))
 (.skip)))
 (.seq (.reg [vX 7 0,
 vX 2 7])
 (.ret)))
theorem k153 : fnOk Tryz.prog 153 = some (M153, [.t 2], 8) := by kernel_rfl

theorem r_Abs (a : Int) (ha : I32 a) (h : K (.int .i32 (fabs a)) H) : HCalls Tryz.prog w0 153 [.int .i32 a] H K := by
  refine HL.hc k153 999 ?_; unfold M153
  (all_goals (try simp only [S0,putAt,List.replicate,Int.reduceAdd,Int.reduceSub,Int.reduceMul,Int.reduceTDiv,Int.reduceTMod,Int.reduceMod,Int.reduceDiv,Nat.reduceLT,Nat.reduceEqDiff,Int.reduceLE,Int.reduceLT,Int.reduceToNat,Int.reduceNeg,Int.reduceEq,Nat.reduceLeDiff,Nat.reducePow,Int.reducePow,reduceIte,Nat.reduceSub,Nat.reduceAdd,Nat.reduceMul, *])); repeat' ((first | (with_reducible refine fun _ : True => ?_) | refine r_Neg _ ha ?_ | (with_reducible refine any_h ?_) | ((first | refine AllocQ_i ?_ | refine AllocO_i ?_); intro bk hb0 hbk; try simp only [set_none'] at hbk) | ((first | refine condS_i ?_ ?_ | refine pick_i ?_ ?_ | refine gS_it ?_ ?_ | refine gS_if ?_ ?_ | refine gP_it ?_ ?_ | refine gP_if ?_ ?_) <;> (intro hc; try simp only [Int.reduceLE,Int.reduceLT,Int.reduceEq,Sn] at hc)) | (with_reducible refine KP_i ?_ ?_; · exact aE) | (with_reducible refine And.intro ?_ ?_)) <;> (try simp only [S0,putAt,List.replicate,Int.reduceAdd,Int.reduceSub,Int.reduceMul,Int.reduceTDiv,Int.reduceTMod,Int.reduceMod,Int.reduceDiv,Nat.reduceLT,Nat.reduceEqDiff,Int.reduceLE,Int.reduceLT,Int.reduceToNat,Int.reduceNeg,Int.reduceEq,Nat.reduceLeDiff,Nat.reducePow,Int.reducePow,reduceIte,Nat.reduceSub,Nat.reduceAdd,Nat.reduceMul, *]))
  all_goals try simp only [Int.reduceLE,Int.reduceLT,Int.reduceEq,Sn] at *
  all_goals (refine Fin_mk (Heap.Le.refl _) (K_int h ?_))
  all_goals (unfold I32 at ha; unfold fabs fmax fneg raw; (repeat' split) <;> omega)
/- paintboxref02 Mul -/
def M115 : MC :=
  .seq (.reg [oX 4 (.mv (.const (.int .i32 0)))])
 (.seq (.reg [vX 5 0,
 oX 6 (.conv .i64 (.tmp 5)),
 vX 7 1,
 oX 8 (.conv .i64 (.tmp 7)),
 oX 9 (bX .mul 6 8),
 oX 10 (bK .add 9 32768),
 oX 11 (.call 148 [(.tmp 10),(kX 65536)]),
 oX 12 (.call 71 [(.tmp 11)]),
 vX 4 12])
 (.ret))
theorem k115 : fnOk Tryz.prog 115 = some (M115, [.t 4], 13) := by kernel_rfl

theorem r_Mul (a b : Int) (ha : I32 a) (hb : I32 b) (h : K (.int .i32 (fmul a b)) H) : HCalls Tryz.prog w0 115 [.int .i32 a, .int .i32 b] H K := by
  refine HL.hc k115 999 ?_; unfold M115
  have hm := ha.mul hb
  have e1 : IntKind.i64.wrap a = a := ha.w64
  have e2 : IntKind.i64.wrap b = b := hb.w64
  have e3 : IntKind.i64.wrap (a * b) = a * b := w64_in (by omega) (by omega)
  have e4 : IntKind.i64.wrap (a * b + 32768) = a * b + 32768 := w64_in (by omega) (by omega)
  (all_goals (try simp only [S0,putAt,List.replicate,Int.reduceAdd,Int.reduceSub,Int.reduceMul,Int.reduceTDiv,Int.reduceTMod,Int.reduceMod,Int.reduceDiv,Nat.reduceLT,Nat.reduceEqDiff,Int.reduceLE,Int.reduceLT,Int.reduceToNat,Int.reduceNeg,Int.reduceEq,Nat.reduceLeDiff,Nat.reducePow,Int.reducePow,reduceIte,Nat.reduceSub,Nat.reduceAdd,Nat.reduceMul, *])); repeat' ((first | (with_reducible refine fun _ : True => ?_) | refine r_down _ _ (by omega) (by omega) ?_ | refine r_Raw _ ?_ | (with_reducible refine any_h ?_) | ((first | refine AllocQ_i ?_ | refine AllocO_i ?_); intro bk hb0 hbk; try simp only [set_none'] at hbk) | ((first | refine condS_i ?_ ?_ | refine pick_i ?_ ?_ | refine gS_it ?_ ?_ | refine gS_if ?_ ?_ | refine gP_it ?_ ?_ | refine gP_if ?_ ?_) <;> (intro hc; try simp only [Int.reduceLE,Int.reduceLT,Int.reduceEq,Sn] at hc)) | (with_reducible refine KP_i ?_ ?_; · exact aE) | (with_reducible refine And.intro ?_ ?_)) <;> (try simp only [S0,putAt,List.replicate,Int.reduceAdd,Int.reduceSub,Int.reduceMul,Int.reduceTDiv,Int.reduceTMod,Int.reduceMod,Int.reduceDiv,Nat.reduceLT,Nat.reduceEqDiff,Int.reduceLE,Int.reduceLT,Int.reduceToNat,Int.reduceNeg,Int.reduceEq,Nat.reduceLeDiff,Nat.reducePow,Int.reducePow,reduceIte,Nat.reduceSub,Nat.reduceAdd,Nat.reduceMul, *]))
  exact Fin_mk (Heap.Le.refl _) h
/- paintboxref02 Div -/
def M108 : MC :=
  .seq (.reg [oX 4 (.mv (.const (.int .i32 0)))])
 (.seq (.seq (.reg [vX 9 1,
 oX 10 (.bin .eql (.tmp 9) (.const (.int .i32 0)))])
 (.cond (.tmp 10)
 (.seq (.block 0 (.seq (.reg [vX 12 0,
 oX 13 (.bin .gtr (.tmp 12) (.const (.int .i32 0))),
 vX 11 13])
 (.cond (.tmp 11)
 (.seq (.reg [oX 4 (.mv (.const (.int .i32 2147483647)))])
 (.ret))
 (.seq (.reg [vX 15 0,
 oX 16 (.bin .lss (.tmp 15) (.const (.int .i32 0))),
 vX 14 16])
 (.cond (.tmp 14)
 (.seq (.reg [oX 4 (.mv (.const (.int .i32 (-2147483648))))])
 (.ret))
 (.skip))))))
 (.seq (.reg [oX 4 (.mv (.const (.int .i32 0)))])
 (.ret)))
 (.skip)))
 (.seq (.reg [vX 17 0,
 oX 18 (.conv .i64 (.tmp 17)),
 oX 19 (bK .mul 18 65536),
 vX 20 1,
 oX 21 (.conv .i64 (.tmp 20)),
 vX 5 19,
 vX 6 21])
 (.seq (.reg [vX 22 5,
 oX 23 (bK .lss 22 0),
 vX 24 6,
 oX 25 (bK .lss 24 0),
 oX 26 (.eqb true (.tmp 23) (.tmp 25)),
 vX 7 26])
 (.seq (.seq (.reg [vX 27 5,
 oX 28 (bK .lss 27 0)])
 (.cond (.tmp 28)
 (.reg [vX 29 5,
 oX 30 (.un .neg (.tmp 29)),
 vX 5 30])
 (.skip)))
 (.seq (.seq (.reg [vX 31 6,
 oX 32 (bK .lss 31 0)])
 (.cond (.tmp 32)
 (.reg [vX 33 6,
 oX 34 (.un .neg (.tmp 33)),
 vX 6 34])
 (.skip)))
 (.seq (.reg [vX 35 5,
 vX 36 6,
 oX 37 (bX .quo 35 36),
 vX 8 37])
 (.seq (.seq (.reg [vX 38 5,
 vX 39 6,
 oX 40 (bX .rem 38 39),
 oX 41 (.bin .mul (kX 2) (.tmp 40)),
 vX 42 6,
 oX 43 (bX .geq 41 42)])
 (.cond (.tmp 43)
 (.reg [vX 44 8,
 oX 45 (bK .add 44 1),
 vX 8 45])
 (.skip)))
 (.seq (.seq (.reg [vX 46 7])
 (.cond (.tmp 46)
 (.reg [vX 47 8,
 oX 48 (.un .neg (.tmp 47)),
 vX 8 48])
 (.skip)))
 (.seq (.reg [vX 49 8,
 oX 50 (.call 71 [(.tmp 49)]),
 vX 4 50])
 (.ret))))))))))
theorem k108 : fnOk Tryz.prog 108 = some (M108, [.t 4], 51) := by kernel_rfl

theorem r_Div (a b : Int) (ha : I32 a) (hb : I32 b) (h : K (.int .i32 (fdiv a b)) H) : HCalls Tryz.prog w0 108 [.int .i32 a, .int .i32 b] H K := by
  refine HL.hc k108 999 ?_; unfold M108
  unfold I32 at ha hb
  have e1 : IntKind.i64.wrap a = a := w64_in (by omega) (by omega)
  have e2 : IntKind.i64.wrap b = b := w64_in (by omega) (by omega)
  have e3 : IntKind.i64.wrap (a * 65536) = a * 65536 := w64_in (by omega) (by omega)
  have e4 : IntKind.i64.wrap (0 - a * 65536) = -(a * 65536) := by rw [Int.zero_sub]; exact w64_in (by omega) (by omega)
  have e5 : IntKind.i64.wrap (0 - b) = -b := by rw [Int.zero_sub]; exact w64_in (by omega) (by omega)
  (all_goals (try simp only [S0,putAt,List.replicate,Int.reduceAdd,Int.reduceSub,Int.reduceMul,Int.reduceTDiv,Int.reduceTMod,Int.reduceMod,Int.reduceDiv,Nat.reduceLT,Nat.reduceEqDiff,Int.reduceLE,Int.reduceLT,Int.reduceToNat,Int.reduceNeg,Int.reduceEq,Nat.reduceLeDiff,Nat.reducePow,Int.reducePow,reduceIte,Nat.reduceSub,Nat.reduceAdd,Nat.reduceMul, *])); repeat' ((first | (with_reducible refine fun _ : True => ?_) | refine r_Raw _ ?_ | (with_reducible refine any_h ?_) | ((first | refine AllocQ_i ?_ | refine AllocO_i ?_); intro bk hb0 hbk; try simp only [set_none'] at hbk) | ((first | refine condS_i ?_ ?_ | refine pick_i ?_ ?_ | refine gS_it ?_ ?_ | refine gS_if ?_ ?_ | refine gP_it ?_ ?_ | refine gP_if ?_ ?_) <;> (intro hc; try simp only [Int.reduceLE,Int.reduceLT,Int.reduceEq,Sn] at hc)) | (with_reducible refine KP_i ?_ ?_; · exact aE) | (with_reducible refine And.intro ?_ ?_)) <;> (try simp only [S0,putAt,List.replicate,Int.reduceAdd,Int.reduceSub,Int.reduceMul,Int.reduceTDiv,Int.reduceTMod,Int.reduceMod,Int.reduceDiv,Nat.reduceLT,Nat.reduceEqDiff,Int.reduceLE,Int.reduceLT,Int.reduceToNat,Int.reduceNeg,Int.reduceEq,Nat.reduceLeDiff,Nat.reducePow,Int.reducePow,reduceIte,Nat.reduceSub,Nat.reduceAdd,Nat.reduceMul, *]))
  all_goals try simp only [Int.reduceLE,Int.reduceLT,Int.reduceEq,Sn] at *
  all_goals try (exfalso; omega)
  all_goals try (with_reducible refine Fin_mk (Heap.Le.refl _) (K_int h ?_))
  all_goals with_reducible first
    | refine (congrArg raw (rnd_upN ?_ ?_ ?_ ?_ (by assumption))).trans ?_
    | refine (congrArg raw (rnd_loN ?_ ?_ ?_ ?_ (by assumption))).trans ?_
    | refine (congrArg raw (rnd_up ?_ ?_ ?_ ?_ (by assumption))).trans ?_
    | refine (congrArg raw (rnd_lo ?_ ?_ ?_ ?_ (by assumption))).trans ?_
    | skip
  all_goals try omega
  all_goals unfold fdiv
  all_goals ((repeat' split) <;> first | rfl | (exfalso; omega) | (rw [show a = 0 by omega]; simp [rnd]; rw [Int.ediv_eq_zero_of_lt (by omega) (by omega)]; rfl))

theorem fst_eq {n : Int} {g g' : Nat → Int} (h : ∀ i : Nat, (i : Int) < n → g i = g' i) : fst n g = fst n g' := by
  funext i; unfold fst; split
  · exact h i (by assumption)
  · rfl
theorem fst_at {n : Int} {g : Nat → Int} {i : Nat} (h : (i : Int) < n) : fst n g i = g i := if_pos h
/- paintboxref03 Two -/
def M64 : MC :=
  .seq (.reg [oX 6 (.mv (.const (.int .i32 0)))])
 (.seq (.seq (.reg [vX 7 0,
 oX 8 (bK .eql 7 0)])
 (.cond (.tmp 8)
 (.seq (.reg [vX 9 1,
 vX 10 2,
 oX 11 (.call 110 [(.tmp 9),(.tmp 10)]),
 vX 6 11])
 (.ret))
 (.skip)))
 (.seq (.seq (.reg [vX 12 0,
 oX 13 (bK .eql 12 1)])
 (.cond (.tmp 13)
 (.seq (.reg [vX 14 1,
 vX 15 2,
 oX 16 (.call 114 [(.tmp 14),(.tmp 15)]),
 vX 6 16])
 (.ret))
 (.skip)))
 (.seq (.seq (.reg [vX 17 0,
 oX 18 (bK .eql 17 2)])
 (.cond (.tmp 18)
 (.seq (.reg [vX 19 1,
 vX 20 2,
 oX 21 (.call 115 [(.tmp 19),(.tmp 20)]),
 vX 6 21])
 (.ret))
 (.skip)))
 (.seq (.seq (.reg [vX 22 0,
 oX 23 (bK .eql 22 3)])
 (.cond (.tmp 23)
 (.seq (.reg [vX 24 1,
 vX 25 2,
 oX 26 (.call 108 [(.tmp 24),(.tmp 25)]),
 vX 6 26])
 (.ret))
 (.skip)))
 (.seq (.seq (.reg [vX 27 0,
 oX 28 (bK .eql 27 4),
 vX 29 28,
 ⟨(some 30),.mv (.tmp 1),(some (29,true))⟩,
 ⟨(some 31),.mv (.tmp 2),(some (29,true))⟩,
 ⟨(some 32),bX .lss 30 31,(some (29,true))⟩,
 oX 33 (.pick (.tmp 29) (.tmp 32) (.const (.bool false))),
 vX 34 33,
 ⟨(some 35),.mv (.tmp 0),(some (34,false))⟩,
 ⟨(some 36),bK .eql 35 5,(some (34,false))⟩,
 ⟨(some 37),.mv (.tmp 36),(some (34,false))⟩,
 ⟨(some 38),.mv (.tmp 1),(some (37,true))⟩,
 ⟨(some 39),.mv (.tmp 2),(some (37,true))⟩,
 ⟨(some 40),bX .gtr 38 39,(some (37,true))⟩,
 ⟨(some 41),.pick (.tmp 37) (.tmp 40) (.const (.bool false)),(some (34,false))⟩,
 oX 42 (.pick (.tmp 34) (.const (.bool true)) (.tmp 41))])
 (.cond (.tmp 42)
 (.seq (.reg [vX 43 1,
 vX 6 43])
 (.ret))
 (.skip)))
 (.seq (.seq (.reg [vX 44 0,
 oX 45 (bK .eql 44 4),
 vX 46 45,
 ⟨(some 47),.mv (.tmp 0),(some (46,false))⟩,
 ⟨(some 48),bK .eql 47 5,(some (46,false))⟩,
 oX 49 (.pick (.tmp 46) (.const (.bool true)) (.tmp 48))])
 (.cond (.tmp 49)
 (.seq (.reg [vX 50 2,
 vX 6 50])
 (.ret))
 (.skip)))
 (.seq (.seq (.reg [vX 51 0,
 oX 52 (bK .eql 51 6)])
 (.cond (.tmp 52)
 (.seq (.reg [vX 53 1,
 vX 54 2,
 vX 55 1,
 vX 56 2,
 oX 57 (.call 108 [(.tmp 55),(.tmp 56)]),
 oX 58 (.call 116 [(.tmp 57)]),
 oX 59 (.call 115 [(.tmp 54),(.tmp 58)]),
 oX 60 (.call 114 [(.tmp 53),(.tmp 59)]),
 vX 6 60])
 (.ret))
 (.skip)))
 (.seq (.seq (.reg [vX 61 2,
 vX 62 1,
 oX 63 (bX .lss 61 62)])
 (.cond (.tmp 63)
 (.seq (.reg [oX 6 (.mv (.const (.int .i32 0)))])
 (.ret))
 (.skip)))
 (.seq (.reg [oX 6 (.mv (.const (.int .i32 65536)))])
 (.ret))))))))))
theorem k64 : fnOk Tryz.prog 64 = some (M64, [.t 6], 64) := by kernel_rfl

theorem r_Two (op a b : Int) (ho : 0 ≤ op ∧ op ≤ 7) (ha : I32 a) (hb : I32 b) (h : K (.int .i32 (vtwo op a b)) H) : HCalls Tryz.prog w0 64 [.int .i64 op, .int .i32 a, .int .i32 b] H K := by
  have key : ∀ x, x = vtwo op a b → HL.Fin K (.int .i32 x) H := fun x hx => by subst hx; exact Fin_mk (Heap.Le.refl _) h
  refine HL.hc k64 999 ?_; unfold M64
  (all_goals (try simp only [S0,putAt,List.replicate,Int.reduceAdd,Int.reduceSub,Int.reduceMul,Int.reduceTDiv,Int.reduceTMod,Int.reduceMod,Int.reduceDiv,Nat.reduceLT,Nat.reduceEqDiff,Int.reduceLE,Int.reduceLT,Int.reduceToNat,Int.reduceNeg,Int.reduceEq,Nat.reduceLeDiff,Nat.reducePow,Int.reducePow,reduceIte,Nat.reduceSub,Nat.reduceAdd,Nat.reduceMul, *])); repeat' ((first | (with_reducible refine fun _ : True => ?_) | refine r_Add _ _ ha hb ?_ | refine r_Sub _ _ ha hb ?_ | refine r_Mul _ _ ha hb ?_ | refine r_Div _ _ ha hb ?_ | refine r_Floor _ fdiv_I32 ?_ | refine r_Mul _ _ hb (ffloor_I32 fdiv_I32) ?_ | refine r_Sub _ _ ha (raw_I32 _) ?_ | (with_reducible refine any_h ?_) | ((first | refine AllocQ_i ?_ | refine AllocO_i ?_); intro bk hb0 hbk; try simp only [set_none'] at hbk) | ((first | refine condS_i ?_ ?_ | refine pick_i ?_ ?_ | refine gS_it ?_ ?_ | refine gS_if ?_ ?_ | refine gP_it ?_ ?_ | refine gP_if ?_ ?_) <;> (intro hc; try simp only [Int.reduceLE,Int.reduceLT,Int.reduceEq,Sn] at hc)) | (with_reducible refine KP_i ?_ ?_; · exact aE) | (with_reducible refine And.intro ?_ ?_)) <;> (try simp only [S0,putAt,List.replicate,Int.reduceAdd,Int.reduceSub,Int.reduceMul,Int.reduceTDiv,Int.reduceTMod,Int.reduceMod,Int.reduceDiv,Nat.reduceLT,Nat.reduceEqDiff,Int.reduceLE,Int.reduceLT,Int.reduceToNat,Int.reduceNeg,Int.reduceEq,Nat.reduceLeDiff,Nat.reducePow,Int.reducePow,reduceIte,Nat.reduceSub,Nat.reduceAdd,Nat.reduceMul, *]))
  all_goals (refine key _ ?_)
  all_goals (unfold vtwo fmin fmax; (repeat' split) <;> first | rfl | (exfalso; omega) | omega)
/- paintboxref03 One -/
def M123 : MC :=
  .seq (.reg [oX 4 (.mv (.const (.int .i32 0)))])
 (.seq (.seq (.reg [vX 5 0,
 oX 6 (bK .eql 5 0)])
 (.cond (.tmp 6)
 (.seq (.reg [vX 7 1,
 oX 8 (.call 65 [(.tmp 7)]),
 vX 4 8])
 (.ret))
 (.skip)))
 (.seq (.seq (.reg [vX 9 0,
 oX 10 (bK .eql 9 1)])
 (.cond (.tmp 10)
 (.seq (.reg [vX 11 1,
 oX 12 (.call 153 [(.tmp 11)]),
 vX 4 12])
 (.ret))
 (.skip)))
 (.seq (.seq (.reg [vX 13 0,
 oX 14 (bK .eql 13 3)])
 (.cond (.tmp 14)
 (.seq (.reg [vX 15 1,
 oX 16 (.call 116 [(.tmp 15)]),
 vX 4 16])
 (.ret))
 (.skip)))
 (.seq (.seq (.reg [vX 17 0,
 oX 18 (bK .eql 17 4)])
 (.cond (.tmp 18)
 (.seq (.reg [vX 19 1,
 oX 20 (.call 154 [(.tmp 19)]),
 vX 4 20])
 (.ret))
 (.skip)))
 (.seq (.seq (.reg [vX 21 1,
 oX 22 (.bin .gtr (.tmp 21) (.const (.int .i32 0)))])
 (.cond (.tmp 22)
 (.seq (.reg [oX 4 (.mv (.const (.int .i32 65536)))])
 (.ret))
 (.skip)))
 (.seq (.seq (.reg [vX 23 1,
 oX 24 (.bin .lss (.tmp 23) (.const (.int .i32 0)))])
 (.cond (.tmp 24)
 (.seq (.reg [oX 4 (.mv (.const (.int .i32 (-65536))))])
 (.ret))
 (.skip)))
 (.seq (.reg [oX 4 (.mv (.const (.int .i32 0)))])
 (.ret))))))))
theorem k123 : fnOk Tryz.prog 123 = some (M123, [.t 4], 25) := by kernel_rfl

theorem r_One (op a : Int) (ho : 0 ≤ op ∧ op ≤ 4) (ha : I32 a) (h : K (.int .i32 (vone op a)) H) : HCalls Tryz.prog w0 123 [.int .i64 op, .int .i32 a] H K := by
  have key : ∀ x, x = vone op a → HL.Fin K (.int .i32 x) H := fun x hx => by subst hx; exact Fin_mk (Heap.Le.refl _) h
  refine HL.hc k123 999 ?_; unfold M123
  (all_goals (try simp only [S0,putAt,List.replicate,Int.reduceAdd,Int.reduceSub,Int.reduceMul,Int.reduceTDiv,Int.reduceTMod,Int.reduceMod,Int.reduceDiv,Nat.reduceLT,Nat.reduceEqDiff,Int.reduceLE,Int.reduceLT,Int.reduceToNat,Int.reduceNeg,Int.reduceEq,Nat.reduceLeDiff,Nat.reducePow,Int.reducePow,reduceIte,Nat.reduceSub,Nat.reduceAdd,Nat.reduceMul, *])); repeat' ((first | (with_reducible refine fun _ : True => ?_) | refine r_Neg _ ha ?_ | refine r_Abs _ ha ?_ | refine r_Floor _ ha ?_ | refine r_Fract _ ha ?_ | (with_reducible refine any_h ?_) | ((first | refine AllocQ_i ?_ | refine AllocO_i ?_); intro bk hb0 hbk; try simp only [set_none'] at hbk) | ((first | refine condS_i ?_ ?_ | refine pick_i ?_ ?_ | refine gS_it ?_ ?_ | refine gS_if ?_ ?_ | refine gP_it ?_ ?_ | refine gP_if ?_ ?_) <;> (intro hc; try simp only [Int.reduceLE,Int.reduceLT,Int.reduceEq,Sn] at hc)) | (with_reducible refine KP_i ?_ ?_; · exact aE) | (with_reducible refine And.intro ?_ ?_)) <;> (try simp only [S0,putAt,List.replicate,Int.reduceAdd,Int.reduceSub,Int.reduceMul,Int.reduceTDiv,Int.reduceTMod,Int.reduceMod,Int.reduceDiv,Nat.reduceLT,Nat.reduceEqDiff,Int.reduceLE,Int.reduceLT,Int.reduceToNat,Int.reduceNeg,Int.reduceEq,Nat.reduceLeDiff,Nat.reducePow,Int.reducePow,reduceIte,Nat.reduceSub,Nat.reduceAdd,Nat.reduceMul, *]))
  all_goals (refine key _ ?_)
  all_goals (unfold vone; (repeat' split) <;> first | rfl | (exfalso; omega) | (unfold fsign; (repeat' split) <;> omega))
/- paintboxref03 Twos -/
def M109 : MC :=
  .seq (.reg [oX 6 (.box 28 (.tmp 2)),
 oX 7 (.box 28 (.tmp 3)),
 oX 8 (.alloc 28 [(.int .i32 0),(.int .i32 0),(.int .i32 0),(.int .i32 0)])])
 (.seq (.reg [oX 9 (.alloc 28 [(.int .i32 0),(.int .i32 0),(.int .i32 0),(.int .i32 0)])])
 (.seq (.seq (.reg [oX 10 (.mv (kX 0))])
 (.block 0 (.loop (.seq (.seq (.reg [vX 11 10,
 vX 12 1,
 oX 13 (bX .lss 11 12)])
 (.cond (.tmp 13)
 (.skip)
 (.exit 0)))
 (.seq (.block 1 (.any [(true,0,[],vX 16 10),
 (true,1,[],vX 17 0),
 (true,2,[],vX 18 10),
 (true,3,[],oX 19 (.ia 4 1 (.tmp 6) (.tmp 18))),
 (true,4,[],oX 20 (.ld1 (.tmp 19))),
 (false,5,[0,1,2,3,4],vX 21 10),
 (false,6,[0,1,2,3,4],oX 22 (.ia 4 1 (.tmp 7) (.tmp 21))),
 (false,7,[0,1,2,3,4],oX 23 (.ld1 (.tmp 22))),
 (false,8,[0],oX 24 (.call 64 [(.tmp 17),(.tmp 20),(.tmp 23)])),
 (false,9,[],oX 25 (.ia 4 1 (.tmp 9) (.tmp 16))),
 (false,10,[],⟨none,.st1 (.tmp 25) (.tmp 24),none⟩)]))
 (.reg [vX 14 10,
 oX 15 (bK .add 14 1),
 vX 10 15]))))))
 (.seq (.reg [oX 26 (.ldn 4 (.tmp 9)),
 ⟨none,.stn 4 (.tmp 8) (.tmp 26),none⟩])
 (.ret))))
theorem k109 : fnOk Tryz.prog 109 = some (M109, [.cn 4 8], 27) := by kernel_rfl

theorem r_Twos (op n : Int) (a b : Nat → Int) (ho : 0 ≤ op ∧ op ≤ 7) (hn : 1 ≤ n ∧ n ≤ 4) (ha : ∀ i, I32 (a i)) (hb : ∀ i, I32 (b i)) (h : K (VV (fst n fun i => vtwo op (a i) (b i))) H) :
    HCalls Tryz.prog w0 109 [.int .i64 op, .int .i64 n, VV a, VV b] H K := by
  have hn' : n = 1 ∨ n = 2 ∨ n = 3 ∨ n = 4 := by omega
  rcases hn' with rfl | rfl | rfl | rfl
  all_goals (refine HL.hc k109 999 ?_; unfold M109)
  all_goals ((all_goals (try simp only [S0,putAt,List.replicate,Int.reduceAdd,Int.reduceSub,Int.reduceMul,Int.reduceTDiv,Int.reduceTMod,Int.reduceMod,Int.reduceDiv,Nat.reduceLT,Nat.reduceEqDiff,Int.reduceLE,Int.reduceLT,Int.reduceToNat,Int.reduceNeg,Int.reduceEq,Nat.reduceLeDiff,Nat.reducePow,Int.reducePow,reduceIte,Nat.reduceSub,Nat.reduceAdd,Nat.reduceMul, *])); repeat' ((first | (with_reducible refine fun _ : True => ?_) | refine r_Two _ _ _ ho (ha _) (hb _) ?_ | (with_reducible refine any_h ?_) | ((first | refine AllocQ_i ?_ | refine AllocO_i ?_); intro bk hb0 hbk; try simp only [set_none'] at hbk) | ((first | refine condS_i ?_ ?_ | refine pick_i ?_ ?_ | refine gS_it ?_ ?_ | refine gS_if ?_ ?_ | refine gP_it ?_ ?_ | refine gP_if ?_ ?_) <;> (intro hc; try simp only [Int.reduceLE,Int.reduceLT,Int.reduceEq,Sn] at hc)) | (with_reducible refine KP_i ?_ ?_; · exact aE) | (with_reducible refine loop_u ?_) | (with_reducible refine And.intro ?_ ?_)) <;> (try simp only [S0,putAt,List.replicate,Int.reduceAdd,Int.reduceSub,Int.reduceMul,Int.reduceTDiv,Int.reduceTMod,Int.reduceMod,Int.reduceDiv,Nat.reduceLT,Nat.reduceEqDiff,Int.reduceLE,Int.reduceLT,Int.reduceToNat,Int.reduceNeg,Int.reduceEq,Nat.reduceLeDiff,Nat.reducePow,Int.reducePow,reduceIte,Nat.reduceSub,Nat.reduceAdd,Nat.reduceMul, *])))
  all_goals exact Fin_mk aE h
/- paintboxref03 Dot -/
def M60 : MC :=
  .seq (.reg [oX 4 (.box 28 (.tmp 1)),
 oX 5 (.box 28 (.tmp 2)),
 oX 6 (.mv (.const (.int .i32 0)))])
 (.seq (.reg [vX 10 0,
 oX 11 (.ldn 4 (.tmp 4)),
 oX 12 (.ldn 4 (.tmp 5)),
 oX 13 (.call 109 [(kX 2),(.tmp 10),(.tmp 11),(.tmp 12)]),
 oX 7 (.alloc 28 [(.int .i32 0),(.int .i32 0),(.int .i32 0),(.int .i32 0)]),
 ⟨none,.stn 4 (.tmp 7) (.tmp 13),none⟩])
 (.seq (.reg [oX 14 (.ia 4 1 (.tmp 7) (kX 0)),
 oX 15 (.ld1 (.tmp 14)),
 vX 8 15])
 (.seq (.seq (.reg [oX 9 (.mv (kX 1))])
 (.block 0 (.loop (.seq (.seq (.reg [vX 16 9,
 vX 17 0,
 oX 18 (bX .lss 16 17)])
 (.cond (.tmp 18)
 (.skip)
 (.exit 0)))
 (.seq (.block 1 (.reg [vX 21 8,
 vX 22 9,
 oX 23 (.ia 4 1 (.tmp 7) (.tmp 22)),
 oX 24 (.ld1 (.tmp 23)),
 oX 25 (.call 110 [(.tmp 21),(.tmp 24)]),
 vX 8 25]))
 (.reg [vX 19 9,
 oX 20 (bK .add 19 1),
 vX 9 20]))))))
 (.seq (.reg [vX 26 8,
 vX 6 26])
 (.ret)))))
theorem k60 : fnOk Tryz.prog 60 = some (M60, [.t 6], 27) := by kernel_rfl

theorem r_Dot (n : Int) (a b : Nat → Int) (hn : 1 ≤ n ∧ n ≤ 4) (ha : ∀ i, I32 (a i)) (hb : ∀ i, I32 (b i)) (h : K (.int .i32 (vsum n fun i => fmul (a i) (b i))) H) :
    HCalls Tryz.prog w0 60 [.int .i64 n, VV a, VV b] H K := by
  have hn' : n = 1 ∨ n = 2 ∨ n = 3 ∨ n = 4 := by omega
  have hv : ∀ i, I32 (fst n (fun i => vtwo 2 (a i) (b i)) i) := fst_I32 fun i => vtwo_I32 (ha i) (hb i)
  rcases hn' with rfl | rfl | rfl | rfl
  all_goals (refine HL.hc k60 999 ?_; unfold M60)
  all_goals ((all_goals (try simp only [S0,putAt,List.replicate,Int.reduceAdd,Int.reduceSub,Int.reduceMul,Int.reduceTDiv,Int.reduceTMod,Int.reduceMod,Int.reduceDiv,Nat.reduceLT,Nat.reduceEqDiff,Int.reduceLE,Int.reduceLT,Int.reduceToNat,Int.reduceNeg,Int.reduceEq,Nat.reduceLeDiff,Nat.reducePow,Int.reducePow,reduceIte,Nat.reduceSub,Nat.reduceAdd,Nat.reduceMul, *])); repeat' ((first | (with_reducible refine fun _ : True => ?_) | refine r_Twos 2 _ a b (by decide) hn ha hb ?_ | refine r_Add _ _ (hv _) (hv _) ?_ | refine r_Add _ _ (raw_I32 _) (hv _) ?_ | (with_reducible refine any_h ?_) | ((first | refine AllocQ_i ?_ | refine AllocO_i ?_); intro bk hb0 hbk; try simp only [set_none'] at hbk) | ((first | refine condS_i ?_ ?_ | refine pick_i ?_ ?_ | refine gS_it ?_ ?_ | refine gS_if ?_ ?_ | refine gP_it ?_ ?_ | refine gP_if ?_ ?_) <;> (intro hc; try simp only [Int.reduceLE,Int.reduceLT,Int.reduceEq,Sn] at hc)) | (with_reducible refine KP_i ?_ ?_; · exact aE) | (with_reducible refine loop_u ?_) | (with_reducible refine And.intro ?_ ?_)) <;> (try simp only [S0,putAt,List.replicate,Int.reduceAdd,Int.reduceSub,Int.reduceMul,Int.reduceTDiv,Int.reduceTMod,Int.reduceMod,Int.reduceDiv,Nat.reduceLT,Nat.reduceEqDiff,Int.reduceLE,Int.reduceLT,Int.reduceToNat,Int.reduceNeg,Int.reduceEq,Nat.reduceLeDiff,Nat.reducePow,Int.reducePow,reduceIte,Nat.reduceSub,Nat.reduceAdd,Nat.reduceMul, *])))
  all_goals exact Fin_mk aE h
/- paintboxref03 less -/
def M112 : MC :=
  .seq (.reg [oX 8 (.mv (.const (.int .i32 0)))])
 (.seq (.reg [vX 9 0,
 vX 10 1,
 oX 11 (.call 115 [(.tmp 9),(.tmp 10)]),
 vX 12 2,
 vX 13 3,
 oX 14 (.call 115 [(.tmp 12),(.tmp 13)]),
 oX 15 (.call 114 [(.tmp 11),(.tmp 14)]),
 vX 8 15])
 (.ret))
theorem k112 : fnOk Tryz.prog 112 = some (M112, [.t 8], 16) := by kernel_rfl

theorem r_less (a b c d : Int) (ha : I32 a) (hb : I32 b) (hc : I32 c) (hd : I32 d) (h : K (.int .i32 (fsub (fmul a b) (fmul c d))) H) :
    HCalls Tryz.prog w0 112 [.int .i32 a, .int .i32 b, .int .i32 c, .int .i32 d] H K := by
  refine HL.hc k112 999 ?_; unfold M112
  (all_goals (try simp only [S0,putAt,List.replicate,Int.reduceAdd,Int.reduceSub,Int.reduceMul,Int.reduceTDiv,Int.reduceTMod,Int.reduceMod,Int.reduceDiv,Nat.reduceLT,Nat.reduceEqDiff,Int.reduceLE,Int.reduceLT,Int.reduceToNat,Int.reduceNeg,Int.reduceEq,Nat.reduceLeDiff,Nat.reducePow,Int.reducePow,reduceIte,Nat.reduceSub,Nat.reduceAdd,Nat.reduceMul, *])); repeat' ((first | (with_reducible refine fun _ : True => ?_) | refine r_Mul _ _ ha hb ?_ | refine r_Mul _ _ hc hd ?_ | refine r_Sub _ _ (raw_I32 _) (raw_I32 _) ?_ | (with_reducible refine any_h ?_) | ((first | refine AllocQ_i ?_ | refine AllocO_i ?_); intro bk hb0 hbk; try simp only [set_none'] at hbk) | ((first | refine condS_i ?_ ?_ | refine pick_i ?_ ?_ | refine gS_it ?_ ?_ | refine gS_if ?_ ?_ | refine gP_it ?_ ?_ | refine gP_if ?_ ?_) <;> (intro hc; try simp only [Int.reduceLE,Int.reduceLT,Int.reduceEq,Sn] at hc)) | (with_reducible refine KP_i ?_ ?_; · exact aE) | (with_reducible refine And.intro ?_ ?_)) <;> (try simp only [S0,putAt,List.replicate,Int.reduceAdd,Int.reduceSub,Int.reduceMul,Int.reduceTDiv,Int.reduceTMod,Int.reduceMod,Int.reduceDiv,Nat.reduceLT,Nat.reduceEqDiff,Int.reduceLE,Int.reduceLT,Int.reduceToNat,Int.reduceNeg,Int.reduceEq,Nat.reduceLeDiff,Nat.reducePow,Int.reducePow,reduceIte,Nat.reduceSub,Nat.reduceAdd,Nat.reduceMul, *]))
  all_goals exact Fin_mk aE h
/- paintboxref03 Cross -/
def M62 : MC :=
  .seq (.reg [oX 2 (.box 28 (.tmp 0)),
 oX 3 (.box 28 (.tmp 1)),
 oX 4 (.alloc 28 [(.int .i32 0),(.int .i32 0),(.int .i32 0),(.int .i32 0)])])
 (.seq (.any [(true,0,[],oX 5 (.ia 4 1 (.tmp 2) (kX 1))),
 (true,1,[],oX 6 (.ld1 (.tmp 5))),
 (true,2,[],oX 7 (.ia 4 1 (.tmp 3) (kX 2))),
 (true,3,[],oX 8 (.ld1 (.tmp 7))),
 (true,4,[],oX 9 (.ia 4 1 (.tmp 2) (kX 2))),
 (true,5,[],oX 10 (.ld1 (.tmp 9))),
 (true,6,[],oX 11 (.ia 4 1 (.tmp 3) (kX 1))),
 (true,7,[],oX 12 (.ld1 (.tmp 11))),
 (true,9,[],oX 14 (.ia 4 1 (.tmp 2) (kX 2))),
 (true,10,[],oX 15 (.ld1 (.tmp 14))),
 (true,11,[],oX 16 (.ia 4 1 (.tmp 3) (kX 0))),
 (true,12,[],oX 17 (.ld1 (.tmp 16))),
 (true,13,[],oX 18 (.ia 4 1 (.tmp 2) (kX 0))),
 (true,14,[],oX 19 (.ld1 (.tmp 18))),
 (true,15,[],oX 20 (.ia 4 1 (.tmp 3) (kX 2))),
 (true,16,[],oX 21 (.ld1 (.tmp 20))),
 (true,18,[],oX 23 (.ia 4 1 (.tmp 2) (kX 0))),
 (true,19,[],oX 24 (.ld1 (.tmp 23))),
 (true,20,[],oX 25 (.ia 4 1 (.tmp 3) (kX 1))),
 (true,21,[],oX 26 (.ld1 (.tmp 25))),
 (true,22,[],oX 27 (.ia 4 1 (.tmp 2) (kX 1))),
 (true,23,[],oX 28 (.ld1 (.tmp 27))),
 (true,24,[],oX 29 (.ia 4 1 (.tmp 3) (kX 0))),
 (true,25,[],oX 30 (.ld1 (.tmp 29))),
 (false,8,[9,10,11,12,13,14,15,16,18,19,20,21,22,23,24,25],oX 13 (.call 112 [(.tmp 6),(.tmp 8),(.tmp 10),(.tmp 12)])),
 (false,17,[18,19,20,21,22,23,24,25],oX 22 (.call 112 [(.tmp 15),(.tmp 17),(.tmp 19),(.tmp 21)])),
 (false,26,[],oX 31 (.call 112 [(.tmp 24),(.tmp 26),(.tmp 28),(.tmp 30)])),
 (false,27,[],oX 32 (.build [(.int .i32 0),(.int .i32 0),(.int .i32 0),(.int .i32 0)] [(0,1,(.tmp 13)),(1,1,(.tmp 22)),(2,1,(.tmp 31))])),
 (false,28,[],⟨none,.stn 4 (.tmp 4) (.tmp 32),none⟩)])
 (.ret))
theorem k62 : fnOk Tryz.prog 62 = some (M62, [.cn 4 4], 33) := by kernel_rfl

theorem r_Cross (a b : Nat → Int) (ha : ∀ i, I32 (a i)) (hb : ∀ i, I32 (b i)) (h : K (VV (vcross a b)) H) :
    HCalls Tryz.prog w0 62 [VV a, VV b] H K := by
  refine HL.hc k62 999 ?_; unfold M62
  (all_goals (try simp only [S0,putAt,List.replicate,Int.reduceAdd,Int.reduceSub,Int.reduceMul,Int.reduceTDiv,Int.reduceTMod,Int.reduceMod,Int.reduceDiv,Nat.reduceLT,Nat.reduceEqDiff,Int.reduceLE,Int.reduceLT,Int.reduceToNat,Int.reduceNeg,Int.reduceEq,Nat.reduceLeDiff,Nat.reducePow,Int.reducePow,reduceIte,Nat.reduceSub,Nat.reduceAdd,Nat.reduceMul, *])); repeat' ((first | (with_reducible refine fun _ : True => ?_) | refine r_less _ _ _ _ (ha _) (hb _) (ha _) (hb _) ?_ | (with_reducible refine any_h ?_) | ((first | refine AllocQ_i ?_ | refine AllocO_i ?_); intro bk hb0 hbk; try simp only [set_none'] at hbk) | ((first | refine condS_i ?_ ?_ | refine pick_i ?_ ?_ | refine gS_it ?_ ?_ | refine gS_if ?_ ?_ | refine gP_it ?_ ?_ | refine gP_if ?_ ?_) <;> (intro hc; try simp only [Int.reduceLE,Int.reduceLT,Int.reduceEq,Sn] at hc)) | (with_reducible refine KP_i ?_ ?_; · exact aE) | (with_reducible refine And.intro ?_ ?_)) <;> (try simp only [S0,putAt,List.replicate,Int.reduceAdd,Int.reduceSub,Int.reduceMul,Int.reduceTDiv,Int.reduceTMod,Int.reduceMod,Int.reduceDiv,Nat.reduceLT,Nat.reduceEqDiff,Int.reduceLE,Int.reduceLT,Int.reduceToNat,Int.reduceNeg,Int.reduceEq,Nat.reduceLeDiff,Nat.reducePow,Int.reducePow,reduceIte,Nat.reduceSub,Nat.reduceAdd,Nat.reduceMul, *]))
  all_goals exact Fin_mk aE h
/- paintboxref03 Mix -/
def M58 : MC :=
  .seq (.reg [oX 5 (.box 28 (.tmp 1)),
 oX 6 (.box 28 (.tmp 2)),
 oX 7 (.box 28 (.tmp 3)),
 oX 8 (.alloc 28 [(.int .i32 0),(.int .i32 0),(.int .i32 0),(.int .i32 0)])])
 (.seq (.any [(true,0,[],vX 9 0),
 (true,1,[],oX 10 (.ldn 4 (.tmp 5))),
 (true,2,[],vX 11 0),
 (true,3,[],vX 12 0),
 (true,4,[],oX 13 (.ldn 4 (.tmp 6))),
 (true,5,[],oX 14 (.ldn 4 (.tmp 5))),
 (true,7,[],oX 16 (.ldn 4 (.tmp 7))),
 (false,6,[0,1,2,7],oX 15 (.call 109 [(kX 1),(.tmp 12),(.tmp 13),(.tmp 14)])),
 (false,8,[0,1],oX 17 (.call 109 [(kX 2),(.tmp 11),(.tmp 15),(.tmp 16)])),
 (false,9,[],oX 18 (.call 109 [(kX 0),(.tmp 9),(.tmp 10),(.tmp 17)])),
 (false,10,[],⟨none,.stn 4 (.tmp 8) (.tmp 18),none⟩)])
 (.ret))
theorem k58 : fnOk Tryz.prog 58 = some (M58, [.cn 4 8], 19) := by kernel_rfl

theorem r_Mix (n : Int) (a b t : Nat → Int) (hn : 1 ≤ n ∧ n ≤ 4) (ha : ∀ i, I32 (a i)) (hb : ∀ i, I32 (b i)) (ht : ∀ i, I32 (t i)) (h : K (VV (fst n (vmix a b t))) H) :
    HCalls Tryz.prog w0 58 [.int .i64 n, VV a, VV b, VV t] H K := by
  have h1 : ∀ i, I32 (fst n (fun i => vtwo 1 (b i) (a i)) i) := fst_I32 fun i => vtwo_I32 (hb i) (ha i)
  have h2 : ∀ i, I32 (fst n (fun i => vtwo 2 (fst n (fun i => vtwo 1 (b i) (a i)) i) (t i)) i) := fst_I32 fun i => vtwo_I32 (h1 i) (ht i)
  have e : fst n (vmix a b t) = fst n (fun i => vtwo 0 (a i) (fst n (fun i => vtwo 2 (fst n (fun i => vtwo 1 (b i) (a i)) i) (t i)) i)) := fst_eq fun i hi => by
    simp only [fst_at hi]; rfl
  rw [e] at h
  refine HL.hc k58 999 ?_; unfold M58
  (all_goals (try simp only [S0,putAt,List.replicate,Int.reduceAdd,Int.reduceSub,Int.reduceMul,Int.reduceTDiv,Int.reduceTMod,Int.reduceMod,Int.reduceDiv,Nat.reduceLT,Nat.reduceEqDiff,Int.reduceLE,Int.reduceLT,Int.reduceToNat,Int.reduceNeg,Int.reduceEq,Nat.reduceLeDiff,Nat.reducePow,Int.reducePow,reduceIte,Nat.reduceSub,Nat.reduceAdd,Nat.reduceMul, *])); repeat' ((first | (with_reducible refine fun _ : True => ?_) | refine r_Twos 1 n b a (by decide) hn hb ha ?_ | refine r_Twos 2 n (fst n fun i => vtwo 1 (b i) (a i)) t (by decide) hn h1 ht ?_ | refine r_Twos 0 n a (fst n fun i => vtwo 2 (fst n (fun i => vtwo 1 (b i) (a i)) i) (t i)) (by decide) hn ha h2 ?_ | (with_reducible refine any_h ?_) | ((first | refine AllocQ_i ?_ | refine AllocO_i ?_); intro bk hb0 hbk; try simp only [set_none'] at hbk) | ((first | refine condS_i ?_ ?_ | refine pick_i ?_ ?_ | refine gS_it ?_ ?_ | refine gS_if ?_ ?_ | refine gP_it ?_ ?_ | refine gP_if ?_ ?_) <;> (intro hc; try simp only [Int.reduceLE,Int.reduceLT,Int.reduceEq,Sn] at hc)) | (with_reducible refine KP_i ?_ ?_; · exact aE) | (with_reducible refine And.intro ?_ ?_)) <;> (try simp only [S0,putAt,List.replicate,Int.reduceAdd,Int.reduceSub,Int.reduceMul,Int.reduceTDiv,Int.reduceTMod,Int.reduceMod,Int.reduceDiv,Nat.reduceLT,Nat.reduceEqDiff,Int.reduceLE,Int.reduceLT,Int.reduceToNat,Int.reduceNeg,Int.reduceEq,Nat.reduceLeDiff,Nat.reducePow,Int.reducePow,reduceIte,Nat.reduceSub,Nat.reduceAdd,Nat.reduceMul, *]))
  all_goals exact Fin_mk aE h
/- paintboxref03 Clamp -/
def M59 : MC :=
  .seq (.reg [oX 5 (.box 28 (.tmp 1)),
 oX 6 (.box 28 (.tmp 2)),
 oX 7 (.box 28 (.tmp 3)),
 oX 8 (.alloc 28 [(.int .i32 0),(.int .i32 0),(.int .i32 0),(.int .i32 0)])])
 (.seq (.any [(true,0,[],vX 9 0),
 (true,1,[],vX 10 0),
 (true,2,[],oX 11 (.ldn 4 (.tmp 5))),
 (true,3,[],oX 12 (.ldn 4 (.tmp 6))),
 (true,5,[],oX 14 (.ldn 4 (.tmp 7))),
 (false,4,[0,5],oX 13 (.call 109 [(kX 5),(.tmp 10),(.tmp 11),(.tmp 12)])),
 (false,6,[],oX 15 (.call 109 [(kX 4),(.tmp 9),(.tmp 13),(.tmp 14)])),
 (false,7,[],⟨none,.stn 4 (.tmp 8) (.tmp 15),none⟩)])
 (.ret))
theorem k59 : fnOk Tryz.prog 59 = some (M59, [.cn 4 8], 16) := by kernel_rfl

theorem r_Clamp (n : Int) (a b t : Nat → Int) (hn : 1 ≤ n ∧ n ≤ 4) (ha : ∀ i, I32 (a i)) (hb : ∀ i, I32 (b i)) (ht : ∀ i, I32 (t i)) (h : K (VV (fst n (vclamp a b t))) H) :
    HCalls Tryz.prog w0 59 [.int .i64 n, VV a, VV b, VV t] H K := by
  have h1 : ∀ i, I32 (fst n (fun i => vtwo 5 (a i) (b i)) i) := fst_I32 fun i => vtwo_I32 (ha i) (hb i)
  have e : fst n (vclamp a b t) = fst n (fun i => vtwo 4 (fst n (fun i => vtwo 5 (a i) (b i)) i) (t i)) := fst_eq fun i hi => by
    simp only [fst_at hi]; rfl
  rw [e] at h
  refine HL.hc k59 999 ?_; unfold M59
  (all_goals (try simp only [S0,putAt,List.replicate,Int.reduceAdd,Int.reduceSub,Int.reduceMul,Int.reduceTDiv,Int.reduceTMod,Int.reduceMod,Int.reduceDiv,Nat.reduceLT,Nat.reduceEqDiff,Int.reduceLE,Int.reduceLT,Int.reduceToNat,Int.reduceNeg,Int.reduceEq,Nat.reduceLeDiff,Nat.reducePow,Int.reducePow,reduceIte,Nat.reduceSub,Nat.reduceAdd,Nat.reduceMul, *])); repeat' ((first | (with_reducible refine fun _ : True => ?_) | refine r_Twos 5 n a b (by decide) hn ha hb ?_ | refine r_Twos 4 n (fst n fun i => vtwo 5 (a i) (b i)) t (by decide) hn h1 ht ?_ | (with_reducible refine any_h ?_) | ((first | refine AllocQ_i ?_ | refine AllocO_i ?_); intro bk hb0 hbk; try simp only [set_none'] at hbk) | ((first | refine condS_i ?_ ?_ | refine pick_i ?_ ?_ | refine gS_it ?_ ?_ | refine gS_if ?_ ?_ | refine gP_it ?_ ?_ | refine gP_if ?_ ?_) <;> (intro hc; try simp only [Int.reduceLE,Int.reduceLT,Int.reduceEq,Sn] at hc)) | (with_reducible refine KP_i ?_ ?_; · exact aE) | (with_reducible refine And.intro ?_ ?_)) <;> (try simp only [S0,putAt,List.replicate,Int.reduceAdd,Int.reduceSub,Int.reduceMul,Int.reduceTDiv,Int.reduceTMod,Int.reduceMod,Int.reduceDiv,Nat.reduceLT,Nat.reduceEqDiff,Int.reduceLE,Int.reduceLT,Int.reduceToNat,Int.reduceNeg,Int.reduceEq,Nat.reduceLeDiff,Nat.reducePow,Int.reducePow,reduceIte,Nat.reduceSub,Nat.reduceAdd,Nat.reduceMul, *]))
  all_goals exact Fin_mk aE h
end Go.Proofs.YtdmnfaefakceiaaGreat
