/- What the functions of layers 2 and 3 return, for layer 18. -/
import Derived.Test.YtdmnfaefakceiaaGreatPa
import Derived.Test.YtdmnfaefakceiaaGreatPd
import Derived.Test.YtdmnfaefakceiaaGreatHlu
import Derived.Test.YtdmnfaefakceiaaGreatProg
set_option linter.unusedSimpArgs false
set_option linter.unusedVariables false
set_option maxRecDepth 100000
set_option maxHeartbeats 4000000
namespace Go.Proofs.YtdmnfaefakceiaaGreat
open Go.HL Go.RowKit Pb
variable {w0 : World} {t1 t2 t3 : TypeId} {H : Heap} {K : Value → Heap → Prop}
theorem aF {P Q : Prop} (k : Q) (h : Q → P := by (intro kk; ((all_goals (try simp only [S0,putAt,List.replicate,Int.reduceAdd,Int.reduceSub,Int.reduceMul,Int.reduceTDiv,Int.reduceTMod,Int.reduceMod,Int.reduceDiv,Nat.reduceLT,Nat.reduceEqDiff,Int.reduceLE,Int.reduceLT,Int.reduceToNat,Int.reduceNeg,Int.reduceEq,Nat.reduceLeDiff,Nat.reducePow,Int.reducePow,reduceIte,Nat.reduceSub,Nat.reduceAdd,Nat.reduceMul, *])); repeat' ((first | (with_reducible refine fun _ : True => ?_) | refine c_cut _ _ _ ?_ | refine c_Raw _ ?_ | refine c_Neg _ ha ?_ | refine c_Max _ _ ?_ | refine c_Div _ _ ha hb ?_ | refine c_Floor _ fdiv_I32 ?_ | refine c_Mul _ _ hb (ffloor_I32 fdiv_I32) ?_ | refine c_Sub _ _ ha (raw_I32 _) ?_ | refine c_two _ _ _ (ha _) (hb _) ?_ | refine c_one _ _ (ha _) ?_ | refine c_Sub _ _ (hb _) (ha _) ?_ | refine c_Mul _ _ (raw_I32 _) (ht _) ?_ | refine c_Add _ _ (ha _) (raw_I32 _) ?_ | refine c_Mul _ _ (ha _) (hb _) ?_ | refine c_Sub _ _ (raw_I32 _) (raw_I32 _) ?_ | (with_reducible refine any_h ?_) | ((first | refine AllocQ_i ?_ | refine AllocO_i ?_); intro bk hb0 hbk; try simp only [set_none'] at hbk) | ((first | refine condS_i ?_ ?_ | refine pick_i ?_ ?_ | refine gS_it ?_ ?_ | refine gS_if ?_ ?_ | refine gP_it ?_ ?_ | refine gP_if ?_ ?_) <;> (intro hc; try simp only [Int.reduceLE,Int.reduceLT,Int.reduceEq,Sn] at hc)) | (with_reducible refine KP_i ?_ ?_; · exact aE) | (with_reducible refine And.intro ?_ ?_)) <;> (try simp only [S0,putAt,List.replicate,Int.reduceAdd,Int.reduceSub,Int.reduceMul,Int.reduceTDiv,Int.reduceTMod,Int.reduceMod,Int.reduceDiv,Nat.reduceLT,Nat.reduceEqDiff,Int.reduceLE,Int.reduceLT,Int.reduceToNat,Int.reduceNeg,Int.reduceEq,Nat.reduceLeDiff,Nat.reducePow,Int.reducePow,reduceIte,Nat.reduceSub,Nat.reduceAdd,Nat.reduceMul, *]))); exact kk)) : P := h k

/- fix cut[int64] -/
def M124 : MC :=
  .seq (.reg [oX 6 (.mv (kX 0))])
 (.seq (.reg [vX 7 0,
 vX 8 1,
 oX 9 (.mx (.tmp 7) (.tmp 8)),
 vX 10 2,
 oX 11 (.mn (.tmp 9) (.tmp 10)),
 vX 6 11])
 (.ret))
theorem k124 : fnOk Tryz.prog 124 = some (M124, [.t 6], 12) := by kernel_rfl

theorem c_cut (a b c : Int) (h : K (.int .i64 (cut a b c)) H) : HCalls Tryz.prog w0 124 [.int .i64 a, .int .i64 b, .int .i64 c] H K := by
  refine HL.hc k124 999 ?_; unfold M124
  exact Fin_mk (Heap.Le.refl _) h
/- fix Raw -/
def M69 : MC :=
  .seq (.reg [oX 2 (.mv (.const (.int .i32 0)))])
 (.seq (.reg [vX 3 0,
 oX 4 (.call 124 [(.tmp 3),(kX (-2147483648)),(kX 2147483647)]),
 oX 5 (.conv .i32 (.tmp 4)),
 vX 2 5])
 (.ret))
theorem k69 : fnOk Tryz.prog 69 = some (M69, [.t 2], 6) := by kernel_rfl

theorem c_Raw (n : Int) (h : K (.int .i32 (raw n)) H) : HCalls Tryz.prog w0 69 [.int .i64 n] H K := by
  refine HL.hc k69 999 ?_; unfold M69
  rw [← w32_cut] at h
  refine aF ?_
  exact Fin_mk (Heap.Le.refl _) h
/- fix Mul -/
def M130 : MC :=
  .seq (.reg [oX 4 (.mv (.const (.int .i32 0)))])
 (.seq (.reg [vX 5 0,
 oX 6 (.conv .i64 (.tmp 5)),
 vX 7 1,
 oX 8 (.conv .i64 (.tmp 7)),
 oX 9 (bX .mul 6 8),
 oX 10 (bK .add 9 32768),
 oX 11 (.bin .shr (.tmp 10) (.const (.int .u64 16))),
 oX 12 (.call 69 [(.tmp 11)]),
 vX 4 12])
 (.ret))
theorem k130 : fnOk Tryz.prog 130 = some (M130, [.t 4], 13) := by kernel_rfl

theorem c_Mul (a b : Int) (ha : I32 a) (hb : I32 b) (h : K (.int .i32 (fmul a b)) H) : HCalls Tryz.prog w0 130 [.int .i32 a, .int .i32 b] H K := by
  refine HL.hc k130 999 ?_; unfold M130
  refine aF ?_
  exact Fin_mk (Heap.Le.refl _) (K_int h (fmul_eq ha hb))
/- fix Add -/
def M128 : MC :=
  .seq (.reg [oX 4 (.mv (.const (.int .i32 0)))])
 (.seq (.reg [vX 5 0,
 oX 6 (.conv .i64 (.tmp 5)),
 vX 7 1,
 oX 8 (.conv .i64 (.tmp 7)),
 oX 9 (bX .add 6 8),
 oX 10 (.call 69 [(.tmp 9)]),
 vX 4 10])
 (.ret))
theorem k128 : fnOk Tryz.prog 128 = some (M128, [.t 4], 11) := by kernel_rfl

theorem c_Add (a b : Int) (ha : I32 a) (hb : I32 b) (h : K (.int .i32 (fadd a b)) H) : HCalls Tryz.prog w0 128 [.int .i32 a, .int .i32 b] H K := by
  refine HL.hc k128 999 ?_; unfold M128
  refine aF ?_
  exact Fin_mk (Heap.Le.refl _) (K_int h (fadd_eq ha hb))
/- fix Sub -/
def M129 : MC :=
  .seq (.reg [oX 4 (.mv (.const (.int .i32 0)))])
 (.seq (.reg [vX 5 0,
 oX 6 (.conv .i64 (.tmp 5)),
 vX 7 1,
 oX 8 (.conv .i64 (.tmp 7)),
 oX 9 (bX .sub 6 8),
 oX 10 (.call 69 [(.tmp 9)]),
 vX 4 10])
 (.ret))
theorem k129 : fnOk Tryz.prog 129 = some (M129, [.t 4], 11) := by kernel_rfl

theorem c_Sub (a b : Int) (ha : I32 a) (hb : I32 b) (h : K (.int .i32 (fsub a b)) H) : HCalls Tryz.prog w0 129 [.int .i32 a, .int .i32 b] H K := by
  refine HL.hc k129 999 ?_; unfold M129
  refine aF ?_
  exact Fin_mk (Heap.Le.refl _) (K_int h (fsub_eq ha hb))
/- fix Neg -/
def M161 : MC :=
  .seq (.reg [oX 2 (.mv (.const (.int .i32 0)))])
 (.seq (.reg [vX 3 0,
 oX 4 (.conv .i64 (.tmp 3)),
 oX 5 (.un .neg (.tmp 4)),
 oX 6 (.call 69 [(.tmp 5)]),
 vX 2 6])
 (.ret))
theorem k161 : fnOk Tryz.prog 161 = some (M161, [.t 2], 7) := by kernel_rfl

theorem c_Neg (a : Int) (ha : I32 a) (h : K (.int .i32 (fneg a)) H) : HCalls Tryz.prog w0 161 [.int .i32 a] H K := by
  refine HL.hc k161 999 ?_; unfold M161
  refine aF ?_
  exact Fin_mk (Heap.Le.refl _) (K_int h (fneg_eq ha))
/- fix Div -/
def M131 : MC :=
  .seq (.reg [oX 4 (.mv (.const (.int .i32 0)))])
 (.seq (.reg [vX 7 0,
 oX 8 (.conv .i64 (.tmp 7)),
 oX 9 (.bin .shl (.tmp 8) (.const (.int .u64 16))),
 vX 10 1,
 oX 11 (.conv .i64 (.tmp 10)),
 vX 5 9,
 vX 6 11])
 (.seq (.seq (.reg [vX 12 6,
 oX 13 (bK .lss 12 0)])
 (.cond (.tmp 13)
 (.reg [vX 14 5,
 oX 15 (.un .neg (.tmp 14)),
 vX 16 6,
 oX 17 (.un .neg (.tmp 16)),
 vX 5 15,
 vX 6 17])
 (.skip)))
 (.seq (.block 0 (.seq (.reg [vX 19 6,
 oX 20 (bK .eql 19 0),
 vX 21 20,
 ⟨(some 22),.mv (.tmp 5),(some (21,true))⟩,
 ⟨(some 23),bK .gtr 22 0,(some (21,true))⟩,
 oX 24 (.pick (.tmp 21) (.tmp 23) (.const (.bool false))),
 vX 18 24])
 (.cond (.tmp 18)
 (.seq (.reg [oX 4 (.mv (.const (.int .i32 2147483647)))])
 (.ret))
 (.seq (.reg [vX 26 6,
 oX 27 (bK .eql 26 0),
 vX 28 27,
 ⟨(some 29),.mv (.tmp 5),(some (28,true))⟩,
 ⟨(some 30),bK .lss 29 0,(some (28,true))⟩,
 oX 31 (.pick (.tmp 28) (.tmp 30) (.const (.bool false))),
 vX 25 31])
 (.cond (.tmp 25)
 (.seq (.reg [oX 4 (.mv (.const (.int .i32 (-2147483648))))])
 (.ret))
 (.seq (.reg [vX 33 6,
 oX 34 (bK .eql 33 0),
 vX 32 34])
 (.cond (.tmp 32)
 (.seq (.reg [oX 4 (.mv (.const (.int .i32 0)))])
 (.ret))
 (.seq (.reg [vX 36 5,
 oX 37 (bK .lss 36 0),
 vX 35 37])
 (.cond (.tmp 35)
 (.seq (.reg [vX 38 5,
 oX 39 (.bin .mul (kX (-2)) (.tmp 38)),
 vX 40 6,
 oX 41 (bX .add 39 40),
 vX 42 6,
 oX 43 (.bin .mul (kX 2) (.tmp 42)),
 oX 44 (bX .quo 41 43),
 oX 45 (.un .neg (.tmp 44)),
 oX 46 (.call 69 [(.tmp 45)]),
 vX 4 46])
 (.ret))
 (.skip))))))))))
 (.seq (.reg [vX 47 5,
 oX 48 (.bin .mul (kX 2) (.tmp 47)),
 vX 49 6,
 oX 50 (bX .add 48 49),
 vX 51 6,
 oX 52 (.bin .mul (kX 2) (.tmp 51)),
 oX 53 (bX .quo 50 52),
 oX 54 (.call 69 [(.tmp 53)]),
 vX 4 54])
 (.ret)))))
theorem k131 : fnOk Tryz.prog 131 = some (M131, [.t 4], 55) := by kernel_rfl

theorem c_Div (a b : Int) (ha : I32 a) (hb : I32 b) (h : K (.int .i32 (fdiv a b)) H) : HCalls Tryz.prog w0 131 [.int .i32 a, .int .i32 b] H K := by
  refine HL.hc k131 999 ?_; unfold M131
  unfold I32 at ha hb
  have e1 : IntKind.i64.wrap a = a := w64_in (by omega) (by omega)
  have e2 : IntKind.i64.wrap b = b := w64_in (by omega) (by omega)
  have e3 : IntKind.i64.wrap (a * 65536) = a * 65536 := w64_in (by omega) (by omega)
  have e4 : IntKind.i64.wrap (0 - a * 65536) = -(a * 65536) := by rw [Int.zero_sub]; exact w64_in (by omega) (by omega)
  have e5 : IntKind.i64.wrap (0 - b) = -b := by rw [Int.zero_sub]; exact w64_in (by omega) (by omega)
  (all_goals (try simp only [S0,putAt,List.replicate,Int.reduceAdd,Int.reduceSub,Int.reduceMul,Int.reduceTDiv,Int.reduceTMod,Int.reduceMod,Int.reduceDiv,Nat.reduceLT,Nat.reduceEqDiff,Int.reduceLE,Int.reduceLT,Int.reduceToNat,Int.reduceNeg,Int.reduceEq,Nat.reduceLeDiff,Nat.reducePow,Int.reducePow,reduceIte,Nat.reduceSub,Nat.reduceAdd,Nat.reduceMul, *])); repeat' ((first | (with_reducible refine fun _ : True => ?_) | refine c_Raw _ ?_ | (with_reducible refine any_h ?_) | ((first | refine AllocQ_i ?_ | refine AllocO_i ?_); intro bk hb0 hbk; try simp only [set_none'] at hbk) | ((first | refine condS_i ?_ ?_ | refine pick_i ?_ ?_ | refine gS_it ?_ ?_ | refine gS_if ?_ ?_ | refine gP_it ?_ ?_ | refine gP_if ?_ ?_) <;> (intro hc; try simp only [Int.reduceLE,Int.reduceLT,Int.reduceEq,Sn] at hc)) | (with_reducible refine KP_i ?_ ?_; · exact aE) | (with_reducible refine And.intro ?_ ?_)) <;> (try simp only [S0,putAt,List.replicate,Int.reduceAdd,Int.reduceSub,Int.reduceMul,Int.reduceTDiv,Int.reduceTMod,Int.reduceMod,Int.reduceDiv,Nat.reduceLT,Nat.reduceEqDiff,Int.reduceLE,Int.reduceLT,Int.reduceToNat,Int.reduceNeg,Int.reduceEq,Nat.reduceLeDiff,Nat.reducePow,Int.reducePow,reduceIte,Nat.reduceSub,Nat.reduceAdd,Nat.reduceMul, *]))

  all_goals try simp only [Int.reduceLE,Int.reduceLT,Int.reduceEq,Sn] at *
  all_goals try (exfalso; omega)
  all_goals with_reducible first | (refine Fin_mk (Heap.Le.refl _) (K_int h ?_)) | (refine div_ne ?_ ?_ <;> omega)
  all_goals with_reducible first
    | refine (congrArg raw (div_neg ?_ ?_ ?_ ?_)).trans ?_
    | refine (congrArg raw (div_pos ?_ ?_ ?_ ?_)).trans ?_
    | skip
  all_goals try omega
  all_goals unfold fdiv
  all_goals ((try rw [Int.neg_neg]); (repeat' split) <;> first | rfl | (exfalso; omega))
/- fix Floor -/
def M160 : MC :=
  .seq (.reg [oX 2 (.mv (.const (.int .i32 0)))])
 (.seq (.reg [vX 3 0,
 oX 4 (.bin .shr (.tmp 3) (.const (.int .u64 16))),
 oX 5 (.bin .shl (.tmp 4) (.const (.int .u64 16))),
 vX 2 5])
 (.ret))
theorem k160 : fnOk Tryz.prog 160 = some (M160, [.t 2], 6) := by kernel_rfl

theorem c_Floor (a : Int) (ha : I32 a) (h : K (.int .i32 (ffloor a)) H) : HCalls Tryz.prog w0 160 [.int .i32 a] H K := by
  refine HL.hc k160 999 ?_; unfold M160
  refine aF ?_
  exact Fin_mk (Heap.Le.refl _) (K_int h (ffloor_eq ha))
/- fix Fract -/
def M164 : MC :=
  .seq (.reg [oX 2 (.mv (.const (.int .i32 0)))])
 (.seq (.reg [vX 3 0,
 oX 4 (.bin .and (.tmp 3) (.const (.int .i32 65535))),
 vX 2 4])
 (.ret))
theorem k164 : fnOk Tryz.prog 164 = some (M164, [.t 2], 5) := by kernel_rfl

theorem c_Fract (a : Int) (h : K (.int .i32 (ffract a)) H) : HCalls Tryz.prog w0 164 [.int .i32 a] H K := by
  refine HL.hc k164 999 ?_; unfold M164
  refine aF ?_
  exact Fin_mk (Heap.Le.refl _) (K_int h (and_lo a))
/- fix Max -/
def M174 : MC :=
  .seq (.reg [oX 4 (.mv (.const (.int .i32 0)))])
 (.seq (.reg [vX 5 0,
 vX 6 1,
 oX 7 (.mx (.tmp 5) (.tmp 6)),
 vX 4 7])
 (.ret))
theorem k174 : fnOk Tryz.prog 174 = some (M174, [.t 4], 8) := by kernel_rfl

theorem c_Max (a b : Int) (h : K (.int .i32 (fmax a b)) H) : HCalls Tryz.prog w0 174 [.int .i32 a, .int .i32 b] H K := by
  refine HL.hc k174 999 ?_; unfold M174
  exact Fin_mk (Heap.Le.refl _) h
/- fix Sign -/
def M163 : MC :=
  .seq (.reg [oX 2 (.mv (.const (.int .i32 0)))])
 (.seq (.block 0 (.seq (.reg [vX 4 0,
 oX 5 (.bin .gtr (.tmp 4) (.const (.int .i32 0))),
 vX 3 5])
 (.cond (.tmp 3)
 (.seq (.reg [oX 2 (.mv (.const (.int .i32 65536)))])
 (.ret))
 (.seq (.reg [vX 7 0,
 oX 8 (.bin .lss (.tmp 7) (.const (.int .i32 0))),
 vX 6 8])
 (.cond (.tmp 6)
 (.seq (.reg [oX 2 (.mv (.const (.int .i32 (-65536))))])
 (.ret))
 (.skip))))))
 (.seq (.reg [oX 2 (.mv (.const (.int .i32 0)))])
 (.ret)))
theorem k163 : fnOk Tryz.prog 163 = some (M163, [.t 2], 9) := by kernel_rfl

theorem c_Sign (a : Int) (h : K (.int .i32 (fsign a)) H) : HCalls Tryz.prog w0 163 [.int .i32 a] H K := by
  refine HL.hc k163 999 ?_; unfold M163
  (all_goals (try simp only [S0,putAt,List.replicate,Int.reduceAdd,Int.reduceSub,Int.reduceMul,Int.reduceTDiv,Int.reduceTMod,Int.reduceMod,Int.reduceDiv,Nat.reduceLT,Nat.reduceEqDiff,Int.reduceLE,Int.reduceLT,Int.reduceToNat,Int.reduceNeg,Int.reduceEq,Nat.reduceLeDiff,Nat.reducePow,Int.reducePow,reduceIte,Nat.reduceSub,Nat.reduceAdd,Nat.reduceMul, *])); repeat' ((first | (with_reducible refine fun _ : True => ?_) | (with_reducible refine any_h ?_) | ((first | refine AllocQ_i ?_ | refine AllocO_i ?_); intro bk hb0 hbk; try simp only [set_none'] at hbk) | ((first | refine condS_i ?_ ?_ | refine pick_i ?_ ?_ | refine gS_it ?_ ?_ | refine gS_if ?_ ?_ | refine gP_it ?_ ?_ | refine gP_if ?_ ?_) <;> (intro hc; try simp only [Int.reduceLE,Int.reduceLT,Int.reduceEq,Sn] at hc)) | (with_reducible refine KP_i ?_ ?_; · exact aE) | (with_reducible refine And.intro ?_ ?_)) <;> (try simp only [S0,putAt,List.replicate,Int.reduceAdd,Int.reduceSub,Int.reduceMul,Int.reduceTDiv,Int.reduceTMod,Int.reduceMod,Int.reduceDiv,Nat.reduceLT,Nat.reduceEqDiff,Int.reduceLE,Int.reduceLT,Int.reduceToNat,Int.reduceNeg,Int.reduceEq,Nat.reduceLeDiff,Nat.reducePow,Int.reducePow,reduceIte,Nat.reduceSub,Nat.reduceAdd,Nat.reduceMul, *]))
  all_goals try simp only [Int.reduceLE,Int.reduceLT,Int.reduceEq,Sn] at *
  all_goals (refine Fin_mk (Heap.Le.refl _) (K_int h ?_); unfold fsign; (repeat' split) <;> omega)
/- fix Abs -/
def M162 : MC :=
  .seq (.reg [oX 2 (.mv (.const (.int .i32 0)))])
 (.seq (.reg [vX 3 0,
 vX 4 0,
 oX 5 (.call 161 [(.tmp 4)]),
 oX 6 (.call 174 [(.tmp 3),(.tmp 5)]),
 vX 2 6])
 (.ret))
theorem k162 : fnOk Tryz.prog 162 = some (M162, [.t 2], 7) := by kernel_rfl

theorem c_Abs (a : Int) (ha : I32 a) (h : K (.int .i32 (fabs a)) H) : HCalls Tryz.prog w0 162 [.int .i32 a] H K := by
  refine HL.hc k162 999 ?_; unfold M162
  refine aF ?_
  exact Fin_mk (Heap.Le.refl _) h
/- fix Mod -/
def M132 : MC :=
  .seq (.reg [oX 4 (.mv (.const (.int .i32 0)))])
 (.seq (.reg [vX 5 0,
 vX 6 1,
 vX 7 0,
 vX 8 1,
 oX 9 (.call 131 [(.tmp 7),(.tmp 8)]),
 oX 10 (.call 160 [(.tmp 9)]),
 oX 11 (.call 130 [(.tmp 6),(.tmp 10)]),
 oX 12 (.call 129 [(.tmp 5),(.tmp 11)]),
 vX 4 12])
 (.ret))
theorem k132 : fnOk Tryz.prog 132 = some (M132, [.t 4], 13) := by kernel_rfl

theorem c_Mod (a b : Int) (ha : I32 a) (hb : I32 b) (h : K (.int .i32 (fmod a b)) H) : HCalls Tryz.prog w0 132 [.int .i32 a, .int .i32 b] H K := by
  refine HL.hc k132 999 ?_; unfold M132
  refine aF ?_
  exact Fin_mk (Heap.Le.refl _) h

abbrev VC (a : Nat → Int) : List Value := [.int .i32 (a 0), .int .i32 (a 1), .int .i32 (a 2), .int .i32 (a 3)]
abbrev VV (a : Nat → Int) : Value := .agg #[.int .i32 (a 0), .int .i32 (a 1), .int .i32 (a 2), .int .i32 (a 3)]
def fst (n : Int) (g : Nat → Int) (i : Nat) : Int := if (i : Int) < n then g i else 0

/- vec sized -/
def M83 : MC :=
  .seq (.reg [oX 2 (.mv (.const (.bool false)))])
 (.seq (.reg [vX 3 0,
 oX 4 (bK .geq 3 1),
 vX 5 4,
 ⟨(some 6),.mv (.tmp 0),(some (5,true))⟩,
 ⟨(some 7),bK .leq 6 4,(some (5,true))⟩,
 oX 8 (.pick (.tmp 5) (.tmp 7) (.const (.bool false))),
 vX 2 8])
 (.ret))
theorem k83 : fnOk Tryz.prog 83 = some (M83, [.t 2], 9) := by kernel_rfl

theorem c_sized (n : Int) (h : K (.bool (decide (1 ≤ n ∧ n ≤ 4))) H) : HCalls Tryz.prog w0 83 [.int .i64 n] H K := by
  refine HL.hc k83 999 ?_; unfold M83
  (all_goals (try simp only [S0,putAt,List.replicate,Int.reduceAdd,Int.reduceSub,Int.reduceMul,Int.reduceTDiv,Int.reduceTMod,Int.reduceMod,Int.reduceDiv,Nat.reduceLT,Nat.reduceEqDiff,Int.reduceLE,Int.reduceLT,Int.reduceToNat,Int.reduceNeg,Int.reduceEq,Nat.reduceLeDiff,Nat.reducePow,Int.reducePow,reduceIte,Nat.reduceSub,Nat.reduceAdd,Nat.reduceMul, *])); repeat' ((first | (with_reducible refine fun _ : True => ?_) | (with_reducible refine any_h ?_) | ((first | refine AllocQ_i ?_ | refine AllocO_i ?_); intro bk hb0 hbk; try simp only [set_none'] at hbk) | ((first | refine condS_i ?_ ?_ | refine pick_i ?_ ?_ | refine gS_it ?_ ?_ | refine gS_if ?_ ?_ | refine gP_it ?_ ?_ | refine gP_if ?_ ?_) <;> (intro hc; try simp only [Int.reduceLE,Int.reduceLT,Int.reduceEq,Sn] at hc)) | (with_reducible refine KP_i ?_ ?_; · exact aE) | (with_reducible refine And.intro ?_ ?_)) <;> (try simp only [S0,putAt,List.replicate,Int.reduceAdd,Int.reduceSub,Int.reduceMul,Int.reduceTDiv,Int.reduceTMod,Int.reduceMod,Int.reduceDiv,Nat.reduceLT,Nat.reduceEqDiff,Int.reduceLE,Int.reduceLT,Int.reduceToNat,Int.reduceNeg,Int.reduceEq,Nat.reduceLeDiff,Nat.reducePow,Int.reducePow,reduceIte,Nat.reduceSub,Nat.reduceAdd,Nat.reduceMul, *]))
  all_goals (refine Fin_mk (Heap.Le.refl _) (K_bool h ?_))
  all_goals try simp only [Int.reduceLE,Int.reduceLT,Int.reduceEq,Sn] at *
  · by_cases h4 : n ≤ 4 <;> simp [h4] <;> omega
  · simp; omega
/- vec each -/
def M84 : MC :=
  .seq (.reg [oX 4 (.alloc 28 [(.int .i32 0),(.int .i32 0),(.int .i32 0),(.int .i32 0)])])
 (.seq (.reg [oX 5 (.alloc 28 [(.int .i32 0),(.int .i32 0),(.int .i32 0),(.int .i32 0)])])
 (.seq (.seq (.reg [vX 7 0,
 oX 8 (.mv (kX 0))])
 (.block 0 (.loop (.seq (.reg [oX 9 (bX .lss 8 7)])
 (.seq (.cond (.tmp 9)
 (.skip)
 (.exit 0))
 (.seq (.block 1 (.seq (.reg [vX 10 8,
 vX 6 10])
 (.reg [vX 11 6,
 vX 12 1,
 vX 13 6,
 oX 14 (.yv (.tmp 12) [(.tmp 13)]),
 oX 15 (.ia 4 1 (.tmp 5) (.tmp 11)),
 ⟨none,.st1 (.tmp 15) (.tmp 14),none⟩])))
 (.reg [oX 16 (bK .add 8 1),
 vX 8 16])))))))
 (.seq (.reg [oX 17 (.ldn 4 (.tmp 5)),
 ⟨none,.stn 4 (.tmp 4) (.tmp 17),none⟩])
 (.ret))))
theorem k84 : fnOk Tryz.prog 84 = some (M84, [.cn 4 4], 18) := by kernel_rfl

theorem c_each (n : Int) (f : FuncId) (fs cs : Array Value) (g : Nat → Int) (hn : 1 ≤ n ∧ n ≤ 4)
    (hf : ∀ (i : Nat) (H' : Heap) (K' : Value → Heap → Prop), (i : Int) < n → i < 4 → Heap.Le H H' → K' (.int .i32 (g i)) H' → HCalls Tryz.prog w0 f (fs.toList ++ [.int .i64 i] ++ cs.toList) H' K')
    (h : K (VV (fst n g)) H) : HCalls Tryz.prog w0 84 [.int .i64 n, .func (.func f) fs cs] H K := by
  have hn' : n = 1 ∨ n = 2 ∨ n = 3 ∨ n = 4 := by omega
  rcases hn' with rfl | rfl | rfl | rfl
  · refine HL.hc k84 999 ?_; unfold M84
    (all_goals (try simp only [S0,putAt,List.replicate,Int.reduceAdd,Int.reduceSub,Int.reduceMul,Int.reduceTDiv,Int.reduceTMod,Int.reduceMod,Int.reduceDiv,Nat.reduceLT,Nat.reduceEqDiff,Int.reduceLE,Int.reduceLT,Int.reduceToNat,Int.reduceNeg,Int.reduceEq,Nat.reduceLeDiff,Nat.reducePow,Int.reducePow,reduceIte,Nat.reduceSub,Nat.reduceAdd,Nat.reduceMul, *])); repeat' ((first | (with_reducible refine fun _ : True => ?_) | refine hf 0 _ _ (by decide) (by decide) aE ?_ | (with_reducible refine any_h ?_) | ((first | refine AllocQ_i ?_ | refine AllocO_i ?_); intro bk hb0 hbk; try simp only [set_none'] at hbk) | ((first | refine condS_i ?_ ?_ | refine pick_i ?_ ?_ | refine gS_it ?_ ?_ | refine gS_if ?_ ?_ | refine gP_it ?_ ?_ | refine gP_if ?_ ?_) <;> (intro hc; try simp only [Int.reduceLE,Int.reduceLT,Int.reduceEq,Sn] at hc)) | (with_reducible refine KP_i ?_ ?_; · exact aE) | (with_reducible refine loop_u ?_) | (with_reducible refine And.intro ?_ ?_)) <;> (try simp only [S0,putAt,List.replicate,Int.reduceAdd,Int.reduceSub,Int.reduceMul,Int.reduceTDiv,Int.reduceTMod,Int.reduceMod,Int.reduceDiv,Nat.reduceLT,Nat.reduceEqDiff,Int.reduceLE,Int.reduceLT,Int.reduceToNat,Int.reduceNeg,Int.reduceEq,Nat.reduceLeDiff,Nat.reducePow,Int.reducePow,reduceIte,Nat.reduceSub,Nat.reduceAdd,Nat.reduceMul, *]))
    exact Fin_mk aE h
  · refine HL.hc k84 999 ?_; unfold M84
    (all_goals (try simp only [S0,putAt,List.replicate,Int.reduceAdd,Int.reduceSub,Int.reduceMul,Int.reduceTDiv,Int.reduceTMod,Int.reduceMod,Int.reduceDiv,Nat.reduceLT,Nat.reduceEqDiff,Int.reduceLE,Int.reduceLT,Int.reduceToNat,Int.reduceNeg,Int.reduceEq,Nat.reduceLeDiff,Nat.reducePow,Int.reducePow,reduceIte,Nat.reduceSub,Nat.reduceAdd,Nat.reduceMul, *])); repeat' ((first | (with_reducible refine fun _ : True => ?_) | refine hf 0 _ _ (by decide) (by decide) aE ?_ | refine hf 1 _ _ (by decide) (by decide) aE ?_ | (with_reducible refine any_h ?_) | ((first | refine AllocQ_i ?_ | refine AllocO_i ?_); intro bk hb0 hbk; try simp only [set_none'] at hbk) | ((first | refine condS_i ?_ ?_ | refine pick_i ?_ ?_ | refine gS_it ?_ ?_ | refine gS_if ?_ ?_ | refine gP_it ?_ ?_ | refine gP_if ?_ ?_) <;> (intro hc; try simp only [Int.reduceLE,Int.reduceLT,Int.reduceEq,Sn] at hc)) | (with_reducible refine KP_i ?_ ?_; · exact aE) | (with_reducible refine loop_u ?_) | (with_reducible refine And.intro ?_ ?_)) <;> (try simp only [S0,putAt,List.replicate,Int.reduceAdd,Int.reduceSub,Int.reduceMul,Int.reduceTDiv,Int.reduceTMod,Int.reduceMod,Int.reduceDiv,Nat.reduceLT,Nat.reduceEqDiff,Int.reduceLE,Int.reduceLT,Int.reduceToNat,Int.reduceNeg,Int.reduceEq,Nat.reduceLeDiff,Nat.reducePow,Int.reducePow,reduceIte,Nat.reduceSub,Nat.reduceAdd,Nat.reduceMul, *]))
    exact Fin_mk aE h
  · refine HL.hc k84 999 ?_; unfold M84
    (all_goals (try simp only [S0,putAt,List.replicate,Int.reduceAdd,Int.reduceSub,Int.reduceMul,Int.reduceTDiv,Int.reduceTMod,Int.reduceMod,Int.reduceDiv,Nat.reduceLT,Nat.reduceEqDiff,Int.reduceLE,Int.reduceLT,Int.reduceToNat,Int.reduceNeg,Int.reduceEq,Nat.reduceLeDiff,Nat.reducePow,Int.reducePow,reduceIte,Nat.reduceSub,Nat.reduceAdd,Nat.reduceMul, *])); repeat' ((first | (with_reducible refine fun _ : True => ?_) | refine hf 0 _ _ (by decide) (by decide) aE ?_ | refine hf 1 _ _ (by decide) (by decide) aE ?_ | refine hf 2 _ _ (by decide) (by decide) aE ?_ | (with_reducible refine any_h ?_) | ((first | refine AllocQ_i ?_ | refine AllocO_i ?_); intro bk hb0 hbk; try simp only [set_none'] at hbk) | ((first | refine condS_i ?_ ?_ | refine pick_i ?_ ?_ | refine gS_it ?_ ?_ | refine gS_if ?_ ?_ | refine gP_it ?_ ?_ | refine gP_if ?_ ?_) <;> (intro hc; try simp only [Int.reduceLE,Int.reduceLT,Int.reduceEq,Sn] at hc)) | (with_reducible refine KP_i ?_ ?_; · exact aE) | (with_reducible refine loop_u ?_) | (with_reducible refine And.intro ?_ ?_)) <;> (try simp only [S0,putAt,List.replicate,Int.reduceAdd,Int.reduceSub,Int.reduceMul,Int.reduceTDiv,Int.reduceTMod,Int.reduceMod,Int.reduceDiv,Nat.reduceLT,Nat.reduceEqDiff,Int.reduceLE,Int.reduceLT,Int.reduceToNat,Int.reduceNeg,Int.reduceEq,Nat.reduceLeDiff,Nat.reducePow,Int.reducePow,reduceIte,Nat.reduceSub,Nat.reduceAdd,Nat.reduceMul, *]))
    exact Fin_mk aE h
  · refine HL.hc k84 999 ?_; unfold M84
    (all_goals (try simp only [S0,putAt,List.replicate,Int.reduceAdd,Int.reduceSub,Int.reduceMul,Int.reduceTDiv,Int.reduceTMod,Int.reduceMod,Int.reduceDiv,Nat.reduceLT,Nat.reduceEqDiff,Int.reduceLE,Int.reduceLT,Int.reduceToNat,Int.reduceNeg,Int.reduceEq,Nat.reduceLeDiff,Nat.reducePow,Int.reducePow,reduceIte,Nat.reduceSub,Nat.reduceAdd,Nat.reduceMul, *])); repeat' ((first | (with_reducible refine fun _ : True => ?_) | refine hf 0 _ _ (by decide) (by decide) aE ?_ | refine hf 1 _ _ (by decide) (by decide) aE ?_ | refine hf 2 _ _ (by decide) (by decide) aE ?_ | refine hf 3 _ _ (by decide) (by decide) aE ?_ | (with_reducible refine any_h ?_) | ((first | refine AllocQ_i ?_ | refine AllocO_i ?_); intro bk hb0 hbk; try simp only [set_none'] at hbk) | ((first | refine condS_i ?_ ?_ | refine pick_i ?_ ?_ | refine gS_it ?_ ?_ | refine gS_if ?_ ?_ | refine gP_it ?_ ?_ | refine gP_if ?_ ?_) <;> (intro hc; try simp only [Int.reduceLE,Int.reduceLT,Int.reduceEq,Sn] at hc)) | (with_reducible refine KP_i ?_ ?_; · exact aE) | (with_reducible refine loop_u ?_) | (with_reducible refine And.intro ?_ ?_)) <;> (try simp only [S0,putAt,List.replicate,Int.reduceAdd,Int.reduceSub,Int.reduceMul,Int.reduceTDiv,Int.reduceTMod,Int.reduceMod,Int.reduceDiv,Nat.reduceLT,Nat.reduceEqDiff,Int.reduceLE,Int.reduceLT,Int.reduceToNat,Int.reduceNeg,Int.reduceEq,Nat.reduceLeDiff,Nat.reducePow,Int.reducePow,reduceIte,Nat.reduceSub,Nat.reduceAdd,Nat.reduceMul, *]))
    exact Fin_mk aE h
theorem fst_I32 {n : Int} {g : Nat → Int} (h : ∀ i, I32 (g i)) (i : Nat) : I32 (fst n g i) := by
  unfold fst; split
  · exact h i
  · unfold I32; omega
/- vec two -/
def M82 : MC :=
  .seq (.reg [oX 6 (.mv (.const (.int .i32 0))),
 oX 7 (.mv (.const (.bool false)))])
 (.seq (.seq (.reg [vX 8 0])
 (.block 0 (.seq (.reg [oX 10 (bK .eql 8 0),
 vX 9 10])
 (.cond (.tmp 9)
 (.seq (.reg [vX 11 1,
 vX 12 2,
 oX 13 (.call 128 [(.tmp 11),(.tmp 12)]),
 vX 6 13,
 oX 7 (.mv (.const (.bool true)))])
 (.ret))
 (.seq (.reg [oX 15 (bK .eql 8 1),
 vX 14 15])
 (.cond (.tmp 14)
 (.seq (.reg [vX 16 1,
 vX 17 2,
 oX 18 (.call 129 [(.tmp 16),(.tmp 17)]),
 vX 6 18,
 oX 7 (.mv (.const (.bool true)))])
 (.ret))
 (.seq (.reg [oX 20 (bK .eql 8 2),
 vX 19 20])
 (.cond (.tmp 19)
 (.seq (.reg [vX 21 1,
 vX 22 2,
 oX 23 (.call 130 [(.tmp 21),(.tmp 22)]),
 vX 6 23,
 oX 7 (.mv (.const (.bool true)))])
 (.ret))
 (.seq (.reg [oX 25 (bK .eql 8 3),
 vX 24 25])
 (.cond (.tmp 24)
 (.seq (.reg [vX 26 1,
 vX 27 2,
 oX 28 (.call 131 [(.tmp 26),(.tmp 27)]),
 vX 6 28,
 oX 7 (.mv (.const (.bool true)))])
 (.ret))
 (.seq (.reg [oX 30 (bK .eql 8 4),
 vX 29 30])
 (.cond (.tmp 29)
 (.seq (.reg [vX 31 1,
 vX 32 2,
 oX 33 (.mn (.tmp 31) (.tmp 32)),
 vX 6 33,
 oX 7 (.mv (.const (.bool true)))])
 (.ret))
 (.seq (.reg [oX 35 (bK .eql 8 5),
 vX 34 35])
 (.cond (.tmp 34)
 (.seq (.reg [vX 36 1,
 vX 37 2,
 oX 38 (.mx (.tmp 36) (.tmp 37)),
 vX 6 38,
 oX 7 (.mv (.const (.bool true)))])
 (.ret))
 (.seq (.reg [oX 40 (bK .eql 8 6),
 vX 39 40])
 (.cond (.tmp 39)
 (.seq (.reg [vX 41 1,
 vX 42 2,
 oX 43 (.call 132 [(.tmp 41),(.tmp 42)]),
 vX 6 43,
 oX 7 (.mv (.const (.bool true)))])
 (.ret))
 (.seq (.reg [oX 45 (bK .eql 8 7),
 vX 44 45])
 (.cond (.tmp 44)
 (.seq (.seq (.reg [vX 46 2,
 vX 47 1,
 oX 48 (bX .geq 46 47)])
 (.cond (.tmp 48)
 (.seq (.reg [oX 6 (.mv (.const (.int .i32 65536))),
 oX 7 (.mv (.const (.bool true)))])
 (.ret))
 (.skip)))
 (.seq (.reg [oX 6 (.mv (.const (.int .i32 0))),
 oX 7 (.mv (.const (.bool true)))])
 (.ret)))
 (.skip)))))))))))))))))))
 (.seq (.reg [oX 6 (.mv (.const (.int .i32 0))),
 oX 7 (.mv (.const (.bool false)))])
 (.ret)))
theorem k82 : fnOk Tryz.prog 82 = some (M82, [.t 6, .t 7], 49) := by kernel_rfl

theorem c_two (op a b : Int) (ha : I32 a) (hb : I32 b) (h : K (.tuple #[.int .i32 (vtwo op a b), .bool (decide (0 ≤ op ∧ op ≤ 7))]) H) : HCalls Tryz.prog w0 82 [.int .i64 op, .int .i32 a, .int .i32 b] H K := by
  have key : ∀ x y, x = vtwo op a b → y = decide (0 ≤ op ∧ op ≤ 7) → HL.Fin K (.tuple #[.int .i32 x, .bool y]) H := fun x y hx hy => by subst hx hy; exact Fin_mk (Heap.Le.refl _) h
  refine HL.hc k82 999 ?_; unfold M82
  (all_goals (try simp only [S0,putAt,List.replicate,Int.reduceAdd,Int.reduceSub,Int.reduceMul,Int.reduceTDiv,Int.reduceTMod,Int.reduceMod,Int.reduceDiv,Nat.reduceLT,Nat.reduceEqDiff,Int.reduceLE,Int.reduceLT,Int.reduceToNat,Int.reduceNeg,Int.reduceEq,Nat.reduceLeDiff,Nat.reducePow,Int.reducePow,reduceIte,Nat.reduceSub,Nat.reduceAdd,Nat.reduceMul, *])); repeat' ((first | (with_reducible refine fun _ : True => ?_) | refine c_Add _ _ ha hb ?_ | refine c_Sub _ _ ha hb ?_ | refine c_Mul _ _ ha hb ?_ | refine c_Div _ _ ha hb ?_ | refine c_Mod _ _ ha hb ?_ | (with_reducible refine any_h ?_) | ((first | refine AllocQ_i ?_ | refine AllocO_i ?_); intro bk hb0 hbk; try simp only [set_none'] at hbk) | ((first | refine condS_i ?_ ?_ | refine pick_i ?_ ?_ | refine gS_it ?_ ?_ | refine gS_if ?_ ?_ | refine gP_it ?_ ?_ | refine gP_if ?_ ?_) <;> (intro hc; try simp only [Int.reduceLE,Int.reduceLT,Int.reduceEq,Sn] at hc)) | (with_reducible refine KP_i ?_ ?_; · exact aE) | (with_reducible refine And.intro ?_ ?_)) <;> (try simp only [S0,putAt,List.replicate,Int.reduceAdd,Int.reduceSub,Int.reduceMul,Int.reduceTDiv,Int.reduceTMod,Int.reduceMod,Int.reduceDiv,Nat.reduceLT,Nat.reduceEqDiff,Int.reduceLE,Int.reduceLT,Int.reduceToNat,Int.reduceNeg,Int.reduceEq,Nat.reduceLeDiff,Nat.reducePow,Int.reducePow,reduceIte,Nat.reduceSub,Nat.reduceAdd,Nat.reduceMul, *]))
  all_goals try simp only [Int.reduceLE,Int.reduceLT,Int.reduceEq,Sn] at *
  all_goals (refine key _ _ ?_ ?_)
  all_goals first | (unfold vtwo fmin fmax; (repeat' split) <;> first | rfl | (exfalso; omega)) | (simp; omega) | skip
/- vec one -/
def M133 : MC :=
  .seq (.reg [oX 4 (.mv (.const (.int .i32 0))),
 oX 5 (.mv (.const (.bool false)))])
 (.seq (.seq (.reg [vX 6 0])
 (.block 0 (.seq (.reg [oX 8 (bK .eql 6 0),
 vX 7 8])
 (.cond (.tmp 7)
 (.seq (.reg [vX 9 1,
 oX 10 (.call 161 [(.tmp 9)]),
 vX 4 10,
 oX 5 (.mv (.const (.bool true)))])
 (.ret))
 (.seq (.reg [oX 12 (bK .eql 6 1),
 vX 11 12])
 (.cond (.tmp 11)
 (.seq (.reg [vX 13 1,
 oX 14 (.call 162 [(.tmp 13)]),
 vX 4 14,
 oX 5 (.mv (.const (.bool true)))])
 (.ret))
 (.seq (.reg [oX 16 (bK .eql 6 2),
 vX 15 16])
 (.cond (.tmp 15)
 (.seq (.reg [vX 17 1,
 oX 18 (.call 163 [(.tmp 17)]),
 vX 4 18,
 oX 5 (.mv (.const (.bool true)))])
 (.ret))
 (.seq (.reg [oX 20 (bK .eql 6 3),
 vX 19 20])
 (.cond (.tmp 19)
 (.seq (.reg [vX 21 1,
 oX 22 (.call 160 [(.tmp 21)]),
 vX 4 22,
 oX 5 (.mv (.const (.bool true)))])
 (.ret))
 (.seq (.reg [oX 24 (bK .eql 6 4),
 vX 23 24])
 (.cond (.tmp 23)
 (.seq (.reg [vX 25 1,
 oX 26 (.call 164 [(.tmp 25)]),
 vX 4 26,
 oX 5 (.mv (.const (.bool true)))])
 (.ret))
 (.skip)))))))))))))
 (.seq (.reg [oX 4 (.mv (.const (.int .i32 0))),
 oX 5 (.mv (.const (.bool false)))])
 (.ret)))
theorem k133 : fnOk Tryz.prog 133 = some (M133, [.t 4, .t 5], 27) := by kernel_rfl

theorem c_one (op a : Int) (ha : I32 a) (h : K (.tuple #[.int .i32 (vone op a), .bool (decide (0 ≤ op ∧ op ≤ 4))]) H) : HCalls Tryz.prog w0 133 [.int .i64 op, .int .i32 a] H K := by
  have key : ∀ x y, x = vone op a → y = decide (0 ≤ op ∧ op ≤ 4) → HL.Fin K (.tuple #[.int .i32 x, .bool y]) H := fun x y hx hy => by subst hx hy; exact Fin_mk (Heap.Le.refl _) h
  refine HL.hc k133 999 ?_; unfold M133
  (all_goals (try simp only [S0,putAt,List.replicate,Int.reduceAdd,Int.reduceSub,Int.reduceMul,Int.reduceTDiv,Int.reduceTMod,Int.reduceMod,Int.reduceDiv,Nat.reduceLT,Nat.reduceEqDiff,Int.reduceLE,Int.reduceLT,Int.reduceToNat,Int.reduceNeg,Int.reduceEq,Nat.reduceLeDiff,Nat.reducePow,Int.reducePow,reduceIte,Nat.reduceSub,Nat.reduceAdd,Nat.reduceMul, *])); repeat' ((first | (with_reducible refine fun _ : True => ?_) | refine c_Neg _ ha ?_ | refine c_Abs _ ha ?_ | refine c_Sign _ ?_ | refine c_Floor _ ha ?_ | refine c_Fract _ ?_ | (with_reducible refine any_h ?_) | ((first | refine AllocQ_i ?_ | refine AllocO_i ?_); intro bk hb0 hbk; try simp only [set_none'] at hbk) | ((first | refine condS_i ?_ ?_ | refine pick_i ?_ ?_ | refine gS_it ?_ ?_ | refine gS_if ?_ ?_ | refine gP_it ?_ ?_ | refine gP_if ?_ ?_) <;> (intro hc; try simp only [Int.reduceLE,Int.reduceLT,Int.reduceEq,Sn] at hc)) | (with_reducible refine KP_i ?_ ?_; · exact aE) | (with_reducible refine And.intro ?_ ?_)) <;> (try simp only [S0,putAt,List.replicate,Int.reduceAdd,Int.reduceSub,Int.reduceMul,Int.reduceTDiv,Int.reduceTMod,Int.reduceMod,Int.reduceDiv,Nat.reduceLT,Nat.reduceEqDiff,Int.reduceLE,Int.reduceLT,Int.reduceToNat,Int.reduceNeg,Int.reduceEq,Nat.reduceLeDiff,Nat.reducePow,Int.reducePow,reduceIte,Nat.reduceSub,Nat.reduceAdd,Nat.reduceMul, *]))
  all_goals try simp only [Int.reduceLE,Int.reduceLT,Int.reduceEq,Sn] at *
  all_goals (refine key _ _ ?_ ?_)
  all_goals first | (unfold vone; (repeat' split) <;> first | rfl | (exfalso; omega)) | (simp; omega) | skip
/- vec Two 1 -/
def M85 : MC :=
  .seq (.reg [oX 5 (.mv (.const (.int .i32 0)))])
 (.seq (.any [(true,0,[],oX 9 (.ld1 (.tmp 1))),
 (true,1,[],vX 10 0),
 (true,2,[],oX 11 (.ia 4 1 (.tmp 2) (.tmp 10))),
 (true,3,[],oX 12 (.ld1 (.tmp 11))),
 (false,4,[0,1,2,3,9,10],vX 13 0),
 (false,5,[0,1,2,3,9,10],oX 14 (.ia 4 1 (.tmp 3) (.tmp 13))),
 (false,6,[0,1,2,3,9,10],oX 15 (.ld1 (.tmp 14))),
 (false,7,[9,10],oX 16 (.call 82 [(.tmp 9),(.tmp 12),(.tmp 15)])),
 (false,8,[9,10],vX 8 16),
 (true,9,[],oX 17 (.ext 0 (.tmp 8))),
 (true,10,[],oX 18 (.ext 1 (.tmp 8))),
 (false,11,[10],vX 6 17),
 (false,12,[],vX 7 18)])
 (.seq (.reg [vX 19 6,
 vX 5 19])
 (.ret)))
theorem k85 : fnOk Tryz.prog 85 = some (M85, [.t 5], 20) := by kernel_rfl

theorem c_Two1 (i : Nat) (hi : i < 4) (op : Int) (a b : Nat → Int) (b1 b2 b3 : Nat) (ha : ∀ i, I32 (a i)) (hb : ∀ i, I32 (b i)) (h1 : H b1 = some ⟨t1, [.int .i64 op]⟩) (h2 : H b2 = some ⟨t2, VC a⟩) (h3 : H b3 = some ⟨t3, VC b⟩)
    (h : K (.int .i32 (vtwo op (a i) (b i))) H) : HCalls Tryz.prog w0 85 [.int .i64 i, ptrV b1, ptrV b2, ptrV b3] H K := by
  have r1 : rd1 w0 H b1 0 = some (.int .i64 op) := by simp [rd1, h1]
  have r2 : ∀ j, j < 4 → rd1 w0 H b2 j = some (.int .i32 (a j)) := fun j hj => by
    rcases (by omega : j = 0 ∨ j = 1 ∨ j = 2 ∨ j = 3) with rfl | rfl | rfl | rfl <;> simp [rd1, h2]
  have r3 : ∀ j, j < 4 → rd1 w0 H b3 j = some (.int .i32 (b j)) := fun j hj => by
    rcases (by omega : j = 0 ∨ j = 1 ∨ j = 2 ∨ j = 3) with rfl | rfl | rfl | rfl <;> simp [rd1, h3]
  have hi' : (0 : Int) ≤ i ∧ (i : Int) < 4 := by omega
  refine HL.hc k85 999 ?_; unfold M85
  refine aF ?_
  exact Fin_mk (Heap.Le.refl _) h
/- vec One 1 -/
def M134 : MC :=
  .seq (.reg [oX 4 (.mv (.const (.int .i32 0)))])
 (.seq (.any [(true,0,[],oX 8 (.ld1 (.tmp 1))),
 (false,1,[0,6,7],vX 9 0),
 (false,2,[0,6,7],oX 10 (.ia 4 1 (.tmp 2) (.tmp 9))),
 (false,3,[0,6,7],oX 11 (.ld1 (.tmp 10))),
 (false,4,[6,7],oX 12 (.call 133 [(.tmp 8),(.tmp 11)])),
 (false,5,[6,7],vX 7 12),
 (true,6,[],oX 13 (.ext 0 (.tmp 7))),
 (true,7,[],oX 14 (.ext 1 (.tmp 7))),
 (false,8,[7],vX 5 13),
 (false,9,[],vX 6 14)])
 (.seq (.reg [vX 15 5,
 vX 4 15])
 (.ret)))
theorem k134 : fnOk Tryz.prog 134 = some (M134, [.t 4], 16) := by kernel_rfl

theorem c_One1 (i : Nat) (hi : i < 4) (op : Int) (a : Nat → Int) (b1 b2 : Nat) (ha : ∀ i, I32 (a i)) (h1 : H b1 = some ⟨t1, [.int .i64 op]⟩) (h2 : H b2 = some ⟨t2, VC a⟩)
    (h : K (.int .i32 (vone op (a i))) H) : HCalls Tryz.prog w0 134 [.int .i64 i, ptrV b1, ptrV b2] H K := by
  have r1 : rd1 w0 H b1 0 = some (.int .i64 op) := by simp [rd1, h1]
  have r2 : ∀ j, j < 4 → rd1 w0 H b2 j = some (.int .i32 (a j)) := fun j hj => by
    rcases (by omega : j = 0 ∨ j = 1 ∨ j = 2 ∨ j = 3) with rfl | rfl | rfl | rfl <;> simp [rd1, h2]
  have hi' : (0 : Int) ≤ i ∧ (i : Int) < 4 := by omega
  refine HL.hc k134 999 ?_; unfold M134
  refine aF ?_
  exact Fin_mk (Heap.Le.refl _) h
/- vec Mix 1 -/
def M140 : MC :=
  .seq (.reg [oX 5 (.mv (.const (.int .i32 0)))])
 (.seq (.any [(true,0,[],vX 6 0),
 (true,1,[],oX 7 (.ia 4 1 (.tmp 1) (.tmp 6))),
 (true,2,[],oX 8 (.ld1 (.tmp 7))),
 (true,3,[],vX 9 0),
 (true,4,[],oX 10 (.ia 4 1 (.tmp 2) (.tmp 9))),
 (true,5,[],oX 11 (.ld1 (.tmp 10))),
 (true,6,[],vX 12 0),
 (true,7,[],oX 13 (.ia 4 1 (.tmp 1) (.tmp 12))),
 (true,8,[],oX 14 (.ld1 (.tmp 13))),
 (true,10,[],vX 16 0),
 (true,11,[],oX 17 (.ia 4 1 (.tmp 3) (.tmp 16))),
 (true,12,[],oX 18 (.ld1 (.tmp 17))),
 (false,9,[0,1,2,10,11,12],oX 15 (.call 129 [(.tmp 11),(.tmp 14)])),
 (false,13,[0,1,2],oX 19 (.call 130 [(.tmp 15),(.tmp 18)])),
 (false,14,[],oX 20 (.call 128 [(.tmp 8),(.tmp 19)])),
 (false,15,[],vX 5 20)])
 (.ret))
theorem k140 : fnOk Tryz.prog 140 = some (M140, [.t 5], 21) := by kernel_rfl

theorem c_Mix1 (i : Nat) (hi : i < 4) (a b t : Nat → Int) (b1 b2 b3 : Nat) (ha : ∀ i, I32 (a i)) (hb : ∀ i, I32 (b i)) (ht : ∀ i, I32 (t i)) (h1 : H b1 = some ⟨t1, VC a⟩) (h2 : H b2 = some ⟨t2, VC b⟩) (h3 : H b3 = some ⟨t3, VC t⟩)
    (h : K (.int .i32 (vmix a b t i)) H) : HCalls Tryz.prog w0 140 [.int .i64 i, ptrV b1, ptrV b2, ptrV b3] H K := by
  have r2 : ∀ j, j < 4 → rd1 w0 H b1 j = some (.int .i32 (a j)) := fun j hj => by
    rcases (by omega : j = 0 ∨ j = 1 ∨ j = 2 ∨ j = 3) with rfl | rfl | rfl | rfl <;> simp [rd1, h1]
  have r3 : ∀ j, j < 4 → rd1 w0 H b2 j = some (.int .i32 (b j)) := fun j hj => by
    rcases (by omega : j = 0 ∨ j = 1 ∨ j = 2 ∨ j = 3) with rfl | rfl | rfl | rfl <;> simp [rd1, h2]
  have r4 : ∀ j, j < 4 → rd1 w0 H b3 j = some (.int .i32 (t j)) := fun j hj => by
    rcases (by omega : j = 0 ∨ j = 1 ∨ j = 2 ∨ j = 3) with rfl | rfl | rfl | rfl <;> simp [rd1, h3]
  have hi' : (0 : Int) ≤ i ∧ (i : Int) < 4 := by omega
  refine HL.hc k140 999 ?_; unfold M140
  refine aF ?_
  exact Fin_mk (Heap.Le.refl _) h
/- vec Clamp 1 -/
def M141 : MC :=
  .seq (.reg [oX 5 (.mv (.const (.int .i32 0)))])
 (.seq (.any [(true,0,[],vX 6 0),
 (true,1,[],oX 7 (.ia 4 1 (.tmp 1) (.tmp 6))),
 (true,2,[],oX 8 (.ld1 (.tmp 7))),
 (true,3,[],vX 9 0),
 (true,4,[],oX 10 (.ia 4 1 (.tmp 2) (.tmp 9))),
 (true,5,[],oX 11 (.ld1 (.tmp 10))),
 (true,6,[],oX 12 (.mx (.tmp 8) (.tmp 11))),
 (false,7,[0,1,2,3,4,5,6],vX 13 0),
 (false,8,[0,1,2,3,4,5,6],oX 14 (.ia 4 1 (.tmp 3) (.tmp 13))),
 (false,9,[0,1,2,3,4,5,6],oX 15 (.ld1 (.tmp 14))),
 (false,10,[],oX 16 (.mn (.tmp 12) (.tmp 15))),
 (false,11,[],vX 5 16)])
 (.ret))
theorem k141 : fnOk Tryz.prog 141 = some (M141, [.t 5], 17) := by kernel_rfl

theorem c_Clamp1 (i : Nat) (hi : i < 4) (a b t : Nat → Int) (b1 b2 b3 : Nat) (h1 : H b1 = some ⟨t1, VC a⟩) (h2 : H b2 = some ⟨t2, VC b⟩) (h3 : H b3 = some ⟨t3, VC t⟩)
    (h : K (.int .i32 (vclamp a b t i)) H) : HCalls Tryz.prog w0 141 [.int .i64 i, ptrV b1, ptrV b2, ptrV b3] H K := by
  have r2 : ∀ j, j < 4 → rd1 w0 H b1 j = some (.int .i32 (a j)) := fun j hj => by
    rcases (by omega : j = 0 ∨ j = 1 ∨ j = 2 ∨ j = 3) with rfl | rfl | rfl | rfl <;> simp [rd1, h1]
  have r3 : ∀ j, j < 4 → rd1 w0 H b2 j = some (.int .i32 (b j)) := fun j hj => by
    rcases (by omega : j = 0 ∨ j = 1 ∨ j = 2 ∨ j = 3) with rfl | rfl | rfl | rfl <;> simp [rd1, h2]
  have r4 : ∀ j, j < 4 → rd1 w0 H b3 j = some (.int .i32 (t j)) := fun j hj => by
    rcases (by omega : j = 0 ∨ j = 1 ∨ j = 2 ∨ j = 3) with rfl | rfl | rfl | rfl <;> simp [rd1, h3]
  have hi' : (0 : Int) ≤ i ∧ (i : Int) < 4 := by omega
  refine HL.hc k141 999 ?_; unfold M141
  refine aF ?_
  exact Fin_mk (Heap.Le.refl _) h
/- vec Cross 1 -/
def M144 : MC :=
  .seq (.reg [oX 4 (.mv (.const (.int .i32 0)))])
 (.seq (.reg [vX 7 0,
 oX 8 (bK .add 7 1),
 oX 9 (bK .rem 8 3),
 vX 10 0,
 oX 11 (bK .add 10 2),
 oX 12 (bK .rem 11 3),
 vX 5 9,
 vX 6 12])
 (.seq (.any [(true,0,[],vX 13 5),
 (true,1,[],oX 14 (.ia 4 1 (.tmp 1) (.tmp 13))),
 (true,2,[],oX 15 (.ld1 (.tmp 14))),
 (true,3,[],vX 16 6),
 (true,4,[],oX 17 (.ia 4 1 (.tmp 2) (.tmp 16))),
 (true,5,[],oX 18 (.ld1 (.tmp 17))),
 (true,7,[],vX 20 6),
 (true,8,[],oX 21 (.ia 4 1 (.tmp 1) (.tmp 20))),
 (true,9,[],oX 22 (.ld1 (.tmp 21))),
 (true,10,[],vX 23 5),
 (true,11,[],oX 24 (.ia 4 1 (.tmp 2) (.tmp 23))),
 (true,12,[],oX 25 (.ld1 (.tmp 24))),
 (false,6,[7,8,9,10,11,12],oX 19 (.call 130 [(.tmp 15),(.tmp 18)])),
 (false,13,[],oX 26 (.call 130 [(.tmp 22),(.tmp 25)])),
 (false,14,[],oX 27 (.call 129 [(.tmp 19),(.tmp 26)])),
 (false,15,[],vX 4 27)])
 (.ret)))
theorem k144 : fnOk Tryz.prog 144 = some (M144, [.t 4], 28) := by kernel_rfl

theorem c_Cross1 (i : Nat) (hi : i < 3) (a b : Nat → Int) (b1 b2 : Nat) (ha : ∀ i, I32 (a i)) (hb : ∀ i, I32 (b i)) (h1 : H b1 = some ⟨t1, VC a⟩) (h2 : H b2 = some ⟨t2, VC b⟩)
    (h : K (.int .i32 (vcross a b i)) H) : HCalls Tryz.prog w0 144 [.int .i64 i, ptrV b1, ptrV b2] H K := by
  have r2 : ∀ j, j < 4 → rd1 w0 H b1 j = some (.int .i32 (a j)) := fun j hj => by
    rcases (by omega : j = 0 ∨ j = 1 ∨ j = 2 ∨ j = 3) with rfl | rfl | rfl | rfl <;> simp [rd1, h1]
  have r3 : ∀ j, j < 4 → rd1 w0 H b2 j = some (.int .i32 (b j)) := fun j hj => by
    rcases (by omega : j = 0 ∨ j = 1 ∨ j = 2 ∨ j = 3) with rfl | rfl | rfl | rfl <;> simp [rd1, h2]
  rcases (by omega : i = 0 ∨ i = 1 ∨ i = 2) with rfl | rfl | rfl
  all_goals (refine HL.hc k144 999 ?_; unfold M144)
  all_goals (refine aF ?_)
  all_goals exact Fin_mk (Heap.Le.refl _) h
/- vec Two -/
def M47 : MC :=
  .seq (.reg [oX 4 (.box 3 (.tmp 0)),
 oX 6 (.box 28 (.tmp 2)),
 oX 7 (.box 28 (.tmp 3)),
 oX 8 (.alloc 28 [(.int .i32 0),(.int .i32 0),(.int .i32 0),(.int .i32 0)]),
 oX 9 (.mv (kX 0))])
 (.seq (.seq (.reg [oX 13 (.ld1 (.tmp 4)),
 oX 14 (.call 82 [(.tmp 13),(.const (.int .i32 0)),(.const (.int .i32 0))]),
 vX 12 14,
 oX 15 (.ext 0 (.tmp 12)),
 oX 16 (.ext 1 (.tmp 12)),
 vX 10 15,
 vX 11 16])
 (.seq (.reg [vX 17 11,
 oX 18 (.un .not (.tmp 17)),
 vX 19 18,
 ⟨(some 20),.mv (.tmp 1),(some (19,false))⟩,
 ⟨(some 21),.call 83 [(.tmp 20)],(some (19,false))⟩,
 ⟨(some 22),.un .not (.tmp 21),(some (19,false))⟩,
 oX 23 (.pick (.tmp 19) (.const (.bool true)) (.tmp 22))])
 (.cond (.tmp 23)
 (.seq (.reg [oX 24 (.build [(.int .i32 0),(.int .i32 0),(.int .i32 0),(.int .i32 0)] []),
 ⟨none,.stn 4 (.tmp 8) (.tmp 24),none⟩,
 oX 9 (.mv (kX 2))])
 (.ret))
 (.skip))))
 (.seq (.reg [vX 25 1,
 oX 26 (.fn 85 [(.tmp 4),(.tmp 6),(.tmp 7)]),
 oX 27 (.call 84 [(.tmp 25),(.tmp 26)]),
 ⟨none,.stn 4 (.tmp 8) (.tmp 27),none⟩,
 oX 9 (.mv (kX 0))])
 (.ret)))
theorem k47 : fnOk Tryz.prog 47 = some (M47, [.cn 4 8, .t 9], 28) := by kernel_rfl

theorem c_Two (op n : Int) (a b : Nat → Int) (ha : ∀ i, I32 (a i)) (hb : ∀ i, I32 (b i))
    (hy : 0 ≤ op ∧ op ≤ 7 ∧ 1 ≤ n ∧ n ≤ 4 → K (.tuple #[VV (fst n fun i => vtwo op (a i) (b i)), .int .i64 0]) H) (hn : ¬ (0 ≤ op ∧ op ≤ 7 ∧ 1 ≤ n ∧ n ≤ 4) → K (.tuple #[VV fun _ => 0, .int .i64 2]) H) :
    HCalls Tryz.prog w0 47 [.int .i64 op, .int .i64 n, VV a, VV b] H K := by
  refine HL.hc k47 999 ?_; unfold M47
  (all_goals (try simp only [S0,putAt,List.replicate,Int.reduceAdd,Int.reduceSub,Int.reduceMul,Int.reduceTDiv,Int.reduceTMod,Int.reduceMod,Int.reduceDiv,Nat.reduceLT,Nat.reduceEqDiff,Int.reduceLE,Int.reduceLT,Int.reduceToNat,Int.reduceNeg,Int.reduceEq,Nat.reduceLeDiff,Nat.reducePow,Int.reducePow,reduceIte,Nat.reduceSub,Nat.reduceAdd,Nat.reduceMul, *])); repeat' ((first | (with_reducible refine fun _ : True => ?_) | refine c_two _ _ _ (i32_of rfl) (i32_of rfl) ?_ | refine c_sized _ ?_ | (with_reducible refine any_h ?_) | ((first | refine AllocQ_i ?_ | refine AllocO_i ?_); intro bk hb0 hbk; try simp only [set_none'] at hbk) | ((first | refine condS_i ?_ ?_ | refine pick_i ?_ ?_ | refine gS_it ?_ ?_ | refine gS_if ?_ ?_ | refine gP_it ?_ ?_ | refine gP_if ?_ ?_) <;> (intro hc; try simp only [Int.reduceLE,Int.reduceLT,Int.reduceEq,Sn] at hc)) | (with_reducible refine KP_i ?_ ?_; · exact aE) | (with_reducible refine And.intro ?_ ?_)) <;> (try simp only [S0,putAt,List.replicate,Int.reduceAdd,Int.reduceSub,Int.reduceMul,Int.reduceTDiv,Int.reduceTMod,Int.reduceMod,Int.reduceDiv,Nat.reduceLT,Nat.reduceEqDiff,Int.reduceLE,Int.reduceLT,Int.reduceToNat,Int.reduceNeg,Int.reduceEq,Nat.reduceLeDiff,Nat.reducePow,Int.reducePow,reduceIte,Nat.reduceSub,Nat.reduceAdd,Nat.reduceMul, *]))
  all_goals try simp only [Int.reduceLE,Int.reduceLT,Int.reduceEq,Sn] at *
  all_goals try (with_reducible refine Fin_mk aE (hn ?_); omega)
  refine c_each _ _ _ _ (fun i => vtwo op (a i) (b i)) (by omega) (fun i H' K' hi hi4 hl hk => ?_) ?_
  · exact c_Two1 i hi4 op a b _ _ _ ha hb (hl _ _ aA) (hl _ _ aA) (hl _ _ aA) hk
  · simp only [S0,putAt,List.replicate,Int.reduceAdd,Int.reduceSub,Int.reduceMul,Int.reduceTDiv,Int.reduceTMod,Int.reduceMod,Int.reduceDiv,Nat.reduceLT,Nat.reduceEqDiff,Int.reduceLE,Int.reduceLT,Int.reduceToNat,Int.reduceNeg,Int.reduceEq,Nat.reduceLeDiff,Nat.reducePow,Int.reducePow,reduceIte,Nat.reduceSub,Nat.reduceAdd,Nat.reduceMul, *]
    exact Fin_mk aE (hy (by omega))
/- vec One -/
def M86 : MC :=
  .seq (.reg [oX 3 (.box 3 (.tmp 0)),
 oX 5 (.box 28 (.tmp 2)),
 oX 6 (.alloc 28 [(.int .i32 0),(.int .i32 0),(.int .i32 0),(.int .i32 0)]),
 oX 7 (.mv (kX 0))])
 (.seq (.seq (.reg [oX 11 (.ld1 (.tmp 3)),
 oX 12 (.call 133 [(.tmp 11),(.const (.int .i32 0))]),
 vX 10 12,
 oX 13 (.ext 0 (.tmp 10)),
 oX 14 (.ext 1 (.tmp 10)),
 vX 8 13,
 vX 9 14])
 (.seq (.reg [vX 15 9,
 oX 16 (.un .not (.tmp 15)),
 vX 17 16,
 ⟨(some 18),.mv (.tmp 1),(some (17,false))⟩,
 ⟨(some 19),.call 83 [(.tmp 18)],(some (17,false))⟩,
 ⟨(some 20),.un .not (.tmp 19),(some (17,false))⟩,
 oX 21 (.pick (.tmp 17) (.const (.bool true)) (.tmp 20))])
 (.cond (.tmp 21)
 (.seq (.reg [oX 22 (.build [(.int .i32 0),(.int .i32 0),(.int .i32 0),(.int .i32 0)] []),
 ⟨none,.stn 4 (.tmp 6) (.tmp 22),none⟩,
 oX 7 (.mv (kX 2))])
 (.ret))
 (.skip))))
 (.seq (.reg [vX 23 1,
 oX 24 (.fn 134 [(.tmp 3),(.tmp 5)]),
 oX 25 (.call 84 [(.tmp 23),(.tmp 24)]),
 ⟨none,.stn 4 (.tmp 6) (.tmp 25),none⟩,
 oX 7 (.mv (kX 0))])
 (.ret)))
theorem k86 : fnOk Tryz.prog 86 = some (M86, [.cn 4 6, .t 7], 26) := by kernel_rfl

theorem c_One (op n : Int) (a : Nat → Int) (ha : ∀ i, I32 (a i))
    (hy : 0 ≤ op ∧ op ≤ 4 ∧ 1 ≤ n ∧ n ≤ 4 → K (.tuple #[VV (fst n fun i => vone op (a i)), .int .i64 0]) H) (hn : ¬ (0 ≤ op ∧ op ≤ 4 ∧ 1 ≤ n ∧ n ≤ 4) → K (.tuple #[VV fun _ => 0, .int .i64 2]) H) :
    HCalls Tryz.prog w0 86 [.int .i64 op, .int .i64 n, VV a] H K := by
  refine HL.hc k86 999 ?_; unfold M86
  (all_goals (try simp only [S0,putAt,List.replicate,Int.reduceAdd,Int.reduceSub,Int.reduceMul,Int.reduceTDiv,Int.reduceTMod,Int.reduceMod,Int.reduceDiv,Nat.reduceLT,Nat.reduceEqDiff,Int.reduceLE,Int.reduceLT,Int.reduceToNat,Int.reduceNeg,Int.reduceEq,Nat.reduceLeDiff,Nat.reducePow,Int.reducePow,reduceIte,Nat.reduceSub,Nat.reduceAdd,Nat.reduceMul, *])); repeat' ((first | (with_reducible refine fun _ : True => ?_) | refine c_one _ _ (i32_of rfl) ?_ | refine c_sized _ ?_ | (with_reducible refine any_h ?_) | ((first | refine AllocQ_i ?_ | refine AllocO_i ?_); intro bk hb0 hbk; try simp only [set_none'] at hbk) | ((first | refine condS_i ?_ ?_ | refine pick_i ?_ ?_ | refine gS_it ?_ ?_ | refine gS_if ?_ ?_ | refine gP_it ?_ ?_ | refine gP_if ?_ ?_) <;> (intro hc; try simp only [Int.reduceLE,Int.reduceLT,Int.reduceEq,Sn] at hc)) | (with_reducible refine KP_i ?_ ?_; · exact aE) | (with_reducible refine And.intro ?_ ?_)) <;> (try simp only [S0,putAt,List.replicate,Int.reduceAdd,Int.reduceSub,Int.reduceMul,Int.reduceTDiv,Int.reduceTMod,Int.reduceMod,Int.reduceDiv,Nat.reduceLT,Nat.reduceEqDiff,Int.reduceLE,Int.reduceLT,Int.reduceToNat,Int.reduceNeg,Int.reduceEq,Nat.reduceLeDiff,Nat.reducePow,Int.reducePow,reduceIte,Nat.reduceSub,Nat.reduceAdd,Nat.reduceMul, *]))
  all_goals try simp only [Int.reduceLE,Int.reduceLT,Int.reduceEq,Sn] at *
  all_goals try (with_reducible refine Fin_mk aE (hn ?_); omega)
  refine c_each _ _ _ _ (fun i => vone op (a i)) (by omega) (fun i H' K' hi hi4 hl hk => ?_) ?_
  · exact c_One1 i hi4 op a _ _ ha (hl _ _ aA) (hl _ _ aA) hk
  · simp only [S0,putAt,List.replicate,Int.reduceAdd,Int.reduceSub,Int.reduceMul,Int.reduceTDiv,Int.reduceTMod,Int.reduceMod,Int.reduceDiv,Nat.reduceLT,Nat.reduceEqDiff,Int.reduceLE,Int.reduceLT,Int.reduceToNat,Int.reduceNeg,Int.reduceEq,Nat.reduceLeDiff,Nat.reducePow,Int.reducePow,reduceIte,Nat.reduceSub,Nat.reduceAdd,Nat.reduceMul, *]
    exact Fin_mk aE (hy (by omega))
/- vec Mix -/
def M95 : MC :=
  .seq (.reg [oX 5 (.box 28 (.tmp 1)),
 oX 6 (.box 28 (.tmp 2)),
 oX 7 (.box 28 (.tmp 3)),
 oX 8 (.alloc 28 [(.int .i32 0),(.int .i32 0),(.int .i32 0),(.int .i32 0)]),
 oX 9 (.mv (kX 0))])
 (.seq (.seq (.reg [vX 10 0,
 oX 11 (.call 83 [(.tmp 10)]),
 oX 12 (.un .not (.tmp 11))])
 (.cond (.tmp 12)
 (.seq (.reg [oX 13 (.build [(.int .i32 0),(.int .i32 0),(.int .i32 0),(.int .i32 0)] []),
 ⟨none,.stn 4 (.tmp 8) (.tmp 13),none⟩,
 oX 9 (.mv (kX 2))])
 (.ret))
 (.skip)))
 (.seq (.reg [vX 14 0,
 oX 15 (.fn 140 [(.tmp 5),(.tmp 6),(.tmp 7)]),
 oX 16 (.call 84 [(.tmp 14),(.tmp 15)]),
 ⟨none,.stn 4 (.tmp 8) (.tmp 16),none⟩,
 oX 9 (.mv (kX 0))])
 (.ret)))
theorem k95 : fnOk Tryz.prog 95 = some (M95, [.cn 4 8, .t 9], 17) := by kernel_rfl

theorem c_Mix (n : Int) (a b t : Nat → Int) (ha : ∀ i, I32 (a i)) (hb : ∀ i, I32 (b i)) (ht : ∀ i, I32 (t i))
    (hy : 1 ≤ n ∧ n ≤ 4 → K (.tuple #[VV (fst n (vmix a b t)), .int .i64 0]) H) (hn : ¬ (1 ≤ n ∧ n ≤ 4) → K (.tuple #[VV fun _ => 0, .int .i64 2]) H) :
    HCalls Tryz.prog w0 95 [.int .i64 n, VV a, VV b, VV t] H K := by
  refine HL.hc k95 999 ?_; unfold M95
  (all_goals (try simp only [S0,putAt,List.replicate,Int.reduceAdd,Int.reduceSub,Int.reduceMul,Int.reduceTDiv,Int.reduceTMod,Int.reduceMod,Int.reduceDiv,Nat.reduceLT,Nat.reduceEqDiff,Int.reduceLE,Int.reduceLT,Int.reduceToNat,Int.reduceNeg,Int.reduceEq,Nat.reduceLeDiff,Nat.reducePow,Int.reducePow,reduceIte,Nat.reduceSub,Nat.reduceAdd,Nat.reduceMul, *])); repeat' ((first | (with_reducible refine fun _ : True => ?_) | refine c_sized _ ?_ | (with_reducible refine any_h ?_) | ((first | refine AllocQ_i ?_ | refine AllocO_i ?_); intro bk hb0 hbk; try simp only [set_none'] at hbk) | ((first | refine condS_i ?_ ?_ | refine pick_i ?_ ?_ | refine gS_it ?_ ?_ | refine gS_if ?_ ?_ | refine gP_it ?_ ?_ | refine gP_if ?_ ?_) <;> (intro hc; try simp only [Int.reduceLE,Int.reduceLT,Int.reduceEq,Sn] at hc)) | (with_reducible refine KP_i ?_ ?_; · exact aE) | (with_reducible refine And.intro ?_ ?_)) <;> (try simp only [S0,putAt,List.replicate,Int.reduceAdd,Int.reduceSub,Int.reduceMul,Int.reduceTDiv,Int.reduceTMod,Int.reduceMod,Int.reduceDiv,Nat.reduceLT,Nat.reduceEqDiff,Int.reduceLE,Int.reduceLT,Int.reduceToNat,Int.reduceNeg,Int.reduceEq,Nat.reduceLeDiff,Nat.reducePow,Int.reducePow,reduceIte,Nat.reduceSub,Nat.reduceAdd,Nat.reduceMul, *]))
  all_goals try simp only [Int.reduceLE,Int.reduceLT,Int.reduceEq,Sn] at *
  all_goals try (with_reducible refine Fin_mk aE (hn ?_); omega)
  refine c_each _ _ _ _ (fun i => vmix a b t i) (by omega) (fun i H' K' hi hi4 hl hk => ?_) ?_
  · exact c_Mix1 i hi4 a b t _ _ _ ha hb ht (hl _ _ aA) (hl _ _ aA) (hl _ _ aA) hk
  · simp only [S0,putAt,List.replicate,Int.reduceAdd,Int.reduceSub,Int.reduceMul,Int.reduceTDiv,Int.reduceTMod,Int.reduceMod,Int.reduceDiv,Nat.reduceLT,Nat.reduceEqDiff,Int.reduceLE,Int.reduceLT,Int.reduceToNat,Int.reduceNeg,Int.reduceEq,Nat.reduceLeDiff,Nat.reducePow,Int.reducePow,reduceIte,Nat.reduceSub,Nat.reduceAdd,Nat.reduceMul, *]
    exact Fin_mk aE (hy (by omega))
/- vec Clamp -/
def M96 : MC :=
  .seq (.reg [oX 5 (.box 28 (.tmp 1)),
 oX 6 (.box 28 (.tmp 2)),
 oX 7 (.box 28 (.tmp 3)),
 oX 8 (.alloc 28 [(.int .i32 0),(.int .i32 0),(.int .i32 0),(.int .i32 0)]),
 oX 9 (.mv (kX 0))])
 (.seq (.seq (.reg [vX 10 0,
 oX 11 (.call 83 [(.tmp 10)]),
 oX 12 (.un .not (.tmp 11))])
 (.cond (.tmp 12)
 (.seq (.reg [oX 13 (.build [(.int .i32 0),(.int .i32 0),(.int .i32 0),(.int .i32 0)] []),
 ⟨none,.stn 4 (.tmp 8) (.tmp 13),none⟩,
 oX 9 (.mv (kX 2))])
 (.ret))
 (.skip)))
 (.seq (.reg [vX 14 0,
 oX 15 (.fn 141 [(.tmp 5),(.tmp 6),(.tmp 7)]),
 oX 16 (.call 84 [(.tmp 14),(.tmp 15)]),
 ⟨none,.stn 4 (.tmp 8) (.tmp 16),none⟩,
 oX 9 (.mv (kX 0))])
 (.ret)))
theorem k96 : fnOk Tryz.prog 96 = some (M96, [.cn 4 8, .t 9], 17) := by kernel_rfl

theorem c_Clamp (n : Int) (a b t : Nat → Int) 
    (hy : 1 ≤ n ∧ n ≤ 4 → K (.tuple #[VV (fst n (vclamp a b t)), .int .i64 0]) H) (hn : ¬ (1 ≤ n ∧ n ≤ 4) → K (.tuple #[VV fun _ => 0, .int .i64 2]) H) :
    HCalls Tryz.prog w0 96 [.int .i64 n, VV a, VV b, VV t] H K := by
  refine HL.hc k96 999 ?_; unfold M96
  (all_goals (try simp only [S0,putAt,List.replicate,Int.reduceAdd,Int.reduceSub,Int.reduceMul,Int.reduceTDiv,Int.reduceTMod,Int.reduceMod,Int.reduceDiv,Nat.reduceLT,Nat.reduceEqDiff,Int.reduceLE,Int.reduceLT,Int.reduceToNat,Int.reduceNeg,Int.reduceEq,Nat.reduceLeDiff,Nat.reducePow,Int.reducePow,reduceIte,Nat.reduceSub,Nat.reduceAdd,Nat.reduceMul, *])); repeat' ((first | (with_reducible refine fun _ : True => ?_) | refine c_sized _ ?_ | (with_reducible refine any_h ?_) | ((first | refine AllocQ_i ?_ | refine AllocO_i ?_); intro bk hb0 hbk; try simp only [set_none'] at hbk) | ((first | refine condS_i ?_ ?_ | refine pick_i ?_ ?_ | refine gS_it ?_ ?_ | refine gS_if ?_ ?_ | refine gP_it ?_ ?_ | refine gP_if ?_ ?_) <;> (intro hc; try simp only [Int.reduceLE,Int.reduceLT,Int.reduceEq,Sn] at hc)) | (with_reducible refine KP_i ?_ ?_; · exact aE) | (with_reducible refine And.intro ?_ ?_)) <;> (try simp only [S0,putAt,List.replicate,Int.reduceAdd,Int.reduceSub,Int.reduceMul,Int.reduceTDiv,Int.reduceTMod,Int.reduceMod,Int.reduceDiv,Nat.reduceLT,Nat.reduceEqDiff,Int.reduceLE,Int.reduceLT,Int.reduceToNat,Int.reduceNeg,Int.reduceEq,Nat.reduceLeDiff,Nat.reducePow,Int.reducePow,reduceIte,Nat.reduceSub,Nat.reduceAdd,Nat.reduceMul, *]))
  all_goals try simp only [Int.reduceLE,Int.reduceLT,Int.reduceEq,Sn] at *
  all_goals try (with_reducible refine Fin_mk aE (hn ?_); omega)
  refine c_each _ _ _ _ (fun i => vclamp a b t i) (by omega) (fun i H' K' hi hi4 hl hk => ?_) ?_
  · exact c_Clamp1 i hi4 a b t _ _ _ (hl _ _ aA) (hl _ _ aA) (hl _ _ aA) hk
  · simp only [S0,putAt,List.replicate,Int.reduceAdd,Int.reduceSub,Int.reduceMul,Int.reduceTDiv,Int.reduceTMod,Int.reduceMod,Int.reduceDiv,Nat.reduceLT,Nat.reduceEqDiff,Int.reduceLE,Int.reduceLT,Int.reduceToNat,Int.reduceNeg,Int.reduceEq,Nat.reduceLeDiff,Nat.reducePow,Int.reducePow,reduceIte,Nat.reduceSub,Nat.reduceAdd,Nat.reduceMul, *]
    exact Fin_mk aE (hy (by omega))
/- vec Cross -/
def M99 : MC :=
  .seq (.reg [oX 2 (.box 28 (.tmp 0)),
 oX 3 (.box 28 (.tmp 1)),
 oX 4 (.alloc 28 [(.int .i32 0),(.int .i32 0),(.int .i32 0),(.int .i32 0)])])
 (.seq (.reg [oX 5 (.fn 144 [(.tmp 2),(.tmp 3)]),
 oX 6 (.call 84 [(kX 3),(.tmp 5)]),
 ⟨none,.stn 4 (.tmp 4) (.tmp 6),none⟩])
 (.ret))
theorem k99 : fnOk Tryz.prog 99 = some (M99, [.cn 4 4], 7) := by kernel_rfl

theorem c_Cross (a b : Nat → Int) (ha : ∀ i, I32 (a i)) (hb : ∀ i, I32 (b i)) (h : K (VV (vcross a b)) H) : HCalls Tryz.prog w0 99 [VV a, VV b] H K := by
  refine HL.hc k99 999 ?_; unfold M99
  (all_goals (try simp only [S0,putAt,List.replicate,Int.reduceAdd,Int.reduceSub,Int.reduceMul,Int.reduceTDiv,Int.reduceTMod,Int.reduceMod,Int.reduceDiv,Nat.reduceLT,Nat.reduceEqDiff,Int.reduceLE,Int.reduceLT,Int.reduceToNat,Int.reduceNeg,Int.reduceEq,Nat.reduceLeDiff,Nat.reducePow,Int.reducePow,reduceIte,Nat.reduceSub,Nat.reduceAdd,Nat.reduceMul, *])); repeat' ((first | (with_reducible refine fun _ : True => ?_) | (with_reducible refine any_h ?_) | ((first | refine AllocQ_i ?_ | refine AllocO_i ?_); intro bk hb0 hbk; try simp only [set_none'] at hbk) | ((first | refine condS_i ?_ ?_ | refine pick_i ?_ ?_ | refine gS_it ?_ ?_ | refine gS_if ?_ ?_ | refine gP_it ?_ ?_ | refine gP_if ?_ ?_) <;> (intro hc; try simp only [Int.reduceLE,Int.reduceLT,Int.reduceEq,Sn] at hc)) | (with_reducible refine KP_i ?_ ?_; · exact aE) | (with_reducible refine And.intro ?_ ?_)) <;> (try simp only [S0,putAt,List.replicate,Int.reduceAdd,Int.reduceSub,Int.reduceMul,Int.reduceTDiv,Int.reduceTMod,Int.reduceMod,Int.reduceDiv,Nat.reduceLT,Nat.reduceEqDiff,Int.reduceLE,Int.reduceLT,Int.reduceToNat,Int.reduceNeg,Int.reduceEq,Nat.reduceLeDiff,Nat.reducePow,Int.reducePow,reduceIte,Nat.reduceSub,Nat.reduceAdd,Nat.reduceMul, *]))
  refine c_each _ _ _ _ (vcross a b) (by omega) (fun i H' K' hi hi4 hl hk => ?_) ?_
  · exact c_Cross1 i (by omega) a b _ _ ha hb (hl _ _ aA) (hl _ _ aA) hk
  · simp only [S0,putAt,List.replicate,Int.reduceAdd,Int.reduceSub,Int.reduceMul,Int.reduceTDiv,Int.reduceTMod,Int.reduceMod,Int.reduceDiv,Nat.reduceLT,Nat.reduceEqDiff,Int.reduceLE,Int.reduceLT,Int.reduceToNat,Int.reduceNeg,Int.reduceEq,Nat.reduceLeDiff,Nat.reducePow,Int.reducePow,reduceIte,Nat.reduceSub,Nat.reduceAdd,Nat.reduceMul, *]
    exact Fin_mk aE h
/- vec Dot -/
def M97 : MC :=
  .seq (.reg [oX 4 (.box 28 (.tmp 1)),
 oX 5 (.box 28 (.tmp 2)),
 oX 6 (.mv (.const (.int .i32 0))),
 oX 7 (.mv (kX 0))])
 (.seq (.seq (.reg [vX 10 0,
 oX 11 (.call 83 [(.tmp 10)]),
 oX 12 (.un .not (.tmp 11))])
 (.cond (.tmp 12)
 (.seq (.reg [oX 6 (.mv (.const (.int .i32 0))),
 oX 7 (.mv (kX 2))])
 (.ret))
 (.skip)))
 (.seq (.reg [oX 13 (.ia 4 1 (.tmp 4) (kX 0)),
 oX 14 (.ld1 (.tmp 13)),
 oX 15 (.ia 4 1 (.tmp 5) (kX 0)),
 oX 16 (.ld1 (.tmp 15)),
 oX 17 (.call 130 [(.tmp 14),(.tmp 16)]),
 vX 8 17])
 (.seq (.seq (.reg [oX 9 (.mv (kX 1))])
 (.block 0 (.loop (.seq (.seq (.reg [vX 18 9,
 vX 19 0,
 oX 20 (bX .lss 18 19)])
 (.cond (.tmp 20)
 (.skip)
 (.exit 0)))
 (.seq (.block 1 (.any [(true,0,[],vX 23 8),
 (true,1,[],vX 24 9),
 (true,2,[],oX 25 (.ia 4 1 (.tmp 4) (.tmp 24))),
 (true,3,[],oX 26 (.ld1 (.tmp 25))),
 (false,4,[0,1,2,3],vX 27 9),
 (false,5,[0,1,2,3],oX 28 (.ia 4 1 (.tmp 5) (.tmp 27))),
 (false,6,[0,1,2,3],oX 29 (.ld1 (.tmp 28))),
 (false,7,[0],oX 30 (.call 130 [(.tmp 26),(.tmp 29)])),
 (false,8,[],oX 31 (.call 128 [(.tmp 23),(.tmp 30)])),
 (false,9,[],vX 8 31)]))
 (.reg [vX 21 9,
 oX 22 (bK .add 21 1),
 vX 9 22]))))))
 (.seq (.reg [vX 32 8,
 vX 6 32,
 oX 7 (.mv (kX 0))])
 (.ret)))))
theorem k97 : fnOk Tryz.prog 97 = some (M97, [.t 6, .t 7], 33) := by kernel_rfl

theorem c_Dot (n : Int) (a b : Nat → Int) (ha : ∀ i, I32 (a i)) (hb : ∀ i, I32 (b i))
    (hy : 1 ≤ n ∧ n ≤ 4 → K (.tuple #[.int .i32 (vsum n fun i => fmul (a i) (b i)), .int .i64 0]) H) (hn : ¬ (1 ≤ n ∧ n ≤ 4) → K (.tuple #[.int .i32 0, .int .i64 2]) H) :
    HCalls Tryz.prog w0 97 [.int .i64 n, VV a, VV b] H K := by
  by_cases hv : 1 ≤ n ∧ n ≤ 4
  · have hn' : n = 1 ∨ n = 2 ∨ n = 3 ∨ n = 4 := by omega
    have h := hy hv
    clear hy hn
    rcases hn' with rfl | rfl | rfl | rfl
    all_goals (refine HL.hc k97 999 ?_; unfold M97)
    all_goals ((all_goals (try simp only [S0,putAt,List.replicate,Int.reduceAdd,Int.reduceSub,Int.reduceMul,Int.reduceTDiv,Int.reduceTMod,Int.reduceMod,Int.reduceDiv,Nat.reduceLT,Nat.reduceEqDiff,Int.reduceLE,Int.reduceLT,Int.reduceToNat,Int.reduceNeg,Int.reduceEq,Nat.reduceLeDiff,Nat.reducePow,Int.reducePow,reduceIte,Nat.reduceSub,Nat.reduceAdd,Nat.reduceMul, *])); repeat' ((first | (with_reducible refine fun _ : True => ?_) | refine c_sized _ ?_ | refine c_Mul _ _ (ha _) (hb _) ?_ | refine c_Add _ _ (raw_I32 _) (raw_I32 _) ?_ | (with_reducible refine any_h ?_) | ((first | refine AllocQ_i ?_ | refine AllocO_i ?_); intro bk hb0 hbk; try simp only [set_none'] at hbk) | ((first | refine condS_i ?_ ?_ | refine pick_i ?_ ?_ | refine gS_it ?_ ?_ | refine gS_if ?_ ?_ | refine gP_it ?_ ?_ | refine gP_if ?_ ?_) <;> (intro hc; try simp only [Int.reduceLE,Int.reduceLT,Int.reduceEq,Sn] at hc)) | (with_reducible refine KP_i ?_ ?_; · exact aE) | (with_reducible refine loop_u ?_) | (with_reducible refine And.intro ?_ ?_)) <;> (try simp only [S0,putAt,List.replicate,Int.reduceAdd,Int.reduceSub,Int.reduceMul,Int.reduceTDiv,Int.reduceTMod,Int.reduceMod,Int.reduceDiv,Nat.reduceLT,Nat.reduceEqDiff,Int.reduceLE,Int.reduceLT,Int.reduceToNat,Int.reduceNeg,Int.reduceEq,Nat.reduceLeDiff,Nat.reducePow,Int.reducePow,reduceIte,Nat.reduceSub,Nat.reduceAdd,Nat.reduceMul, *])))
    all_goals try simp only [Int.reduceLE,Int.reduceLT,Int.reduceEq,Sn] at *
    all_goals exact Fin_mk aE h
  · refine HL.hc k97 999 ?_; unfold M97
    (all_goals (try simp only [S0,putAt,List.replicate,Int.reduceAdd,Int.reduceSub,Int.reduceMul,Int.reduceTDiv,Int.reduceTMod,Int.reduceMod,Int.reduceDiv,Nat.reduceLT,Nat.reduceEqDiff,Int.reduceLE,Int.reduceLT,Int.reduceToNat,Int.reduceNeg,Int.reduceEq,Nat.reduceLeDiff,Nat.reducePow,Int.reducePow,reduceIte,Nat.reduceSub,Nat.reduceAdd,Nat.reduceMul, *])); repeat' ((first | (with_reducible refine fun _ : True => ?_) | refine c_sized _ ?_ | (with_reducible refine any_h ?_) | ((first | refine AllocQ_i ?_ | refine AllocO_i ?_); intro bk hb0 hbk; try simp only [set_none'] at hbk) | ((first | refine condS_i ?_ ?_ | refine pick_i ?_ ?_ | refine gS_it ?_ ?_ | refine gS_if ?_ ?_ | refine gP_it ?_ ?_ | refine gP_if ?_ ?_) <;> (intro hc; try simp only [Int.reduceLE,Int.reduceLT,Int.reduceEq,Sn] at hc)) | (with_reducible refine KP_i ?_ ?_; · exact aE) | (with_reducible refine And.intro ?_ ?_)) <;> (try simp only [S0,putAt,List.replicate,Int.reduceAdd,Int.reduceSub,Int.reduceMul,Int.reduceTDiv,Int.reduceTMod,Int.reduceMod,Int.reduceDiv,Nat.reduceLT,Nat.reduceEqDiff,Int.reduceLE,Int.reduceLT,Int.reduceToNat,Int.reduceNeg,Int.reduceEq,Nat.reduceLeDiff,Nat.reducePow,Int.reducePow,reduceIte,Nat.reduceSub,Nat.reduceAdd,Nat.reduceMul, *]))
    all_goals try simp only [Int.reduceLE,Int.reduceLT,Int.reduceEq,Sn] at *
    all_goals first | exact absurd (by assumption) hv | exact Fin_mk aE (hn hv)
end Go.Proofs.YtdmnfaefakceiaaGreat
