/- Roots, powers and logarithms, by the document. -/
import Derived.Test.YtdmnfaefakceiaaGreatDmb
import Derived.Test.YtdmnfaefakceiaaGreatDra
set_option linter.unusedSimpArgs false
set_option linter.unusedVariables false
set_option maxRecDepth 100000
set_option maxHeartbeats 4000000
namespace Go.Proofs.YtdmnfaefakceiaaGreat
open Go.HL Go.RowKit Pb
variable {w0 : World} {t1 t2 t3 : TypeId} {H : Heap} {K : Value → Heap → Prop}
theorem aS {P Q : Prop} (k : Q) (h : Q → P := by (intro kk; ((all_goals (try simp only [S0,putAt,List.replicate,Int.reduceAdd,Int.reduceSub,Int.reduceMul,Int.reduceTDiv,Int.reduceTMod,Int.reduceMod,Int.reduceDiv,Nat.reduceLT,Nat.reduceEqDiff,Int.reduceLE,Int.reduceLT,Int.reduceToNat,Int.reduceNeg,Int.reduceEq,Nat.reduceLeDiff,Nat.reducePow,Int.reducePow,reduceIte,Nat.reduceSub,Nat.reduceAdd,Nat.reduceMul, *])); repeat' ((first | (with_reducible refine fun _ : True => ?_) | (with_reducible refine any_h ?_) | ((first | refine AllocQ_i ?_ | refine AllocO_i ?_); intro bk hb0 hbk; try simp only [set_none'] at hbk) | ((first | refine condS_i ?_ ?_ | refine pick_i ?_ ?_ | refine gS_it ?_ ?_ | refine gS_if ?_ ?_ | refine gP_it ?_ ?_ | refine gP_if ?_ ?_) <;> (intro hc; try simp only [Int.reduceLE,Int.reduceLT,Int.reduceEq,Sn] at hc)) | (with_reducible refine KP_i ?_ ?_; · exact aE) | (with_reducible refine And.intro ?_ ?_)) <;> (try simp only [S0,putAt,List.replicate,Int.reduceAdd,Int.reduceSub,Int.reduceMul,Int.reduceTDiv,Int.reduceTMod,Int.reduceMod,Int.reduceDiv,Nat.reduceLT,Nat.reduceEqDiff,Int.reduceLE,Int.reduceLT,Int.reduceToNat,Int.reduceNeg,Int.reduceEq,Nat.reduceLeDiff,Nat.reducePow,Int.reducePow,reduceIte,Nat.reduceSub,Nat.reduceAdd,Nat.reduceMul, *]))); exact kk)) : P := h k
/- paintboxref04 Root -/
def M111 : MC :=
  .seq (.reg [oX 2 (.mv (.const (.int .u64 0)))])
 (.seq (.reg [oX 3 (.mv (.const (.int .u64 0))),
 oX 4 (.mv (.const (.int .u64 4294967296)))])
 (.seq (.block 0 (.loop (.seq (.seq (.reg [vX 6 4,
 vX 7 3,
 oX 8 (bX .sub 6 7),
 oX 9 (.bin .gtr (.tmp 8) (.const (.int .u64 1)))])
 (.cond (.tmp 9)
 (.skip)
 (.exit 0)))
 (.block 1 (.seq (.reg [vX 10 3,
 vX 11 4,
 oX 12 (bX .add 10 11),
 oX 13 (.bin .quo (.tmp 12) (.const (.int .u64 2))),
 vX 5 13])
 (.seq (.reg [vX 14 5,
 vX 15 5,
 oX 16 (bX .mul 14 15),
 vX 17 0,
 oX 18 (bX .leq 16 17)])
 (.cond (.tmp 18)
 (.reg [vX 19 5,
 vX 3 19])
 (.reg [vX 20 5,
 vX 4 20]))))))))
 (.seq (.reg [vX 21 3,
 vX 2 21])
 (.ret))))
theorem k111 : fnOk Tryz.prog 111 = some (M111, [.t 2], 22) := by kernel_rfl

theorem r_Root (n : Int) (hn : U64 n) (h : K (.int .u64 (isq n)) H) : HCalls Tryz.prog w0 111 [.int .u64 n] H K := by
  refine HL.hc k111 999 ?_; unfold M111
  refine loop_g 5 (fun s : Int × Int => [(3, .int .u64 s.1), (4, .int .u64 s.2)]) (fun _ => H) (fun s => 0 ≤ s.1 ∧ s.1 < s.2 ∧ s.2 ≤ 4294967296 ∧ s.1 * s.1 ≤ n ∧ n < s.2 * s.2) (fun s => (s.2 - s.1).toNat) (0, 4294967296) ?_ (Heap.Le.refl _) rfl ?_
  · unfold U64 at hn; simp; omega
  intro ⟨a, b⟩ f ⟨h0, h1, h2, h3, h4⟩
  simp only at h0 h1 h2 h3 h4
  have e1 : IntKind.u64.wrap (b - a) = b - a := Bu.1 _ (by omega) (by omega)
  have e2 : IntKind.u64.wrap (a + b) = a + b := Bu.1 _ (by omega) (by omega)
  obtain ⟨m, hm⟩ : ∃ m : Int, Keep (m = (a + b) / 2) := ⟨_, rfl⟩
  have hm' : m = (a + b) / 2 := hm
  have e3 : IntKind.u64.wrap ((a + b).tdiv 2) = m := by rw [Int.tdiv_eq_ediv_of_nonneg (by omega), ← hm']; exact Bu.1 _ (by omega) (by omega)
  have hs := sq_mono (a := m) (b := 4294967295) (by omega) (by omega)
  have hs0 := Int.mul_nonneg (a := m) (b := m) (by omega) (by omega)
  have e4 : IntKind.u64.wrap (m * m) = m * m := Bu.1 _ (by omega) (by omega)
  clear hm'
  (all_goals (try simp only [S0,putAt,List.replicate,Int.reduceAdd,Int.reduceSub,Int.reduceMul,Int.reduceTDiv,Int.reduceTMod,Int.reduceMod,Int.reduceDiv,Nat.reduceLT,Nat.reduceEqDiff,Int.reduceLE,Int.reduceLT,Int.reduceToNat,Int.reduceNeg,Int.reduceEq,Nat.reduceLeDiff,Nat.reducePow,Int.reducePow,reduceIte,Nat.reduceSub,Nat.reduceAdd,Nat.reduceMul, *])); repeat' ((first | (with_reducible refine fun _ : True => ?_) | (with_reducible refine any_h ?_) | ((first | refine AllocQ_i ?_ | refine AllocO_i ?_); intro bk hb0 hbk; try simp only [set_none'] at hbk) | ((first | refine condS_i ?_ ?_ | refine pick_i ?_ ?_ | refine gS_it ?_ ?_ | refine gS_if ?_ ?_ | refine gP_it ?_ ?_ | refine gP_if ?_ ?_) <;> (intro hc; try simp only [Int.reduceLE,Int.reduceLT,Int.reduceEq,Sn] at hc)) | (with_reducible refine KP_i ?_ ?_; · exact aE) | (with_reducible refine And.intro ?_ ?_)) <;> (try simp only [S0,putAt,List.replicate,Int.reduceAdd,Int.reduceSub,Int.reduceMul,Int.reduceTDiv,Int.reduceTMod,Int.reduceMod,Int.reduceDiv,Nat.reduceLT,Nat.reduceEqDiff,Int.reduceLE,Int.reduceLT,Int.reduceToNat,Int.reduceNeg,Int.reduceEq,Nat.reduceLeDiff,Nat.reducePow,Int.reducePow,reduceIte,Nat.reduceSub,Nat.reduceAdd,Nat.reduceMul, *]))
  all_goals have hm' : m = (a + b) / 2 := hm
  · exact Round_mk (m, b) ⟨by simp only; omega, by simp only; omega, by simp only; omega, hc, h4⟩ (by simp only; omega) (Heap.Le.refl _) rfl rfl
  · exact Round_mk (a, m) ⟨by simp only; omega, by simp only; omega, by simp only; omega, h3, by simp only; omega⟩ (by simp only; omega) (Heap.Le.refl _) rfl rfl
  · refine Fin_mk (Heap.Le.refl _) (K_int h ?_)
    exact (isq_uniq (by omega) (by omega) (by rw [show a + 1 = b by omega]; exact h4)).symm
/- paintboxref04 Sqrt -/
def M119 : MC :=
  .seq (.reg [oX 2 (.mv (.const (.int .i32 0)))])
 (.seq (.seq (.reg [vX 3 0,
 oX 4 (.bin .leq (.tmp 3) (.const (.int .i32 0)))])
 (.cond (.tmp 4)
 (.seq (.reg [oX 2 (.mv (.const (.int .i32 0)))])
 (.ret))
 (.skip)))
 (.seq (.reg [vX 5 0,
 oX 6 (.conv .u64 (.tmp 5)),
 oX 7 (.bin .mul (.tmp 6) (.const (.int .u64 65536))),
 oX 8 (.call 111 [(.tmp 7)]),
 oX 9 (.conv .i32 (.tmp 8)),
 vX 2 9])
 (.ret)))
theorem k119 : fnOk Tryz.prog 119 = some (M119, [.t 2], 10) := by kernel_rfl

theorem r_Sqrt (x : Int) (hx : I32 x) (h : K (.int .i32 (fsqrt x)) H) : HCalls Tryz.prog w0 119 [.int .i32 x] H K := by
  refine HL.hc k119 999 ?_; unfold M119
  have hq := fsqrt_lt hx
  have hx' := hx
  unfold I32 at hx'
  simp only [S0,putAt,List.replicate,Int.reduceAdd,Int.reduceSub,Int.reduceMul,Int.reduceTDiv,Int.reduceTMod,Int.reduceMod,Int.reduceDiv,Nat.reduceLT,Nat.reduceEqDiff,Int.reduceLE,Int.reduceLT,Int.reduceToNat,Int.reduceNeg,Int.reduceEq,Nat.reduceLeDiff,Nat.reducePow,Int.reducePow,reduceIte,Nat.reduceSub,Nat.reduceAdd,Nat.reduceMul, *]
  refine condS_i ?_ ?_ <;> (intro hc; simp only [decide_eq_true_eq, decide_eq_false_iff_not] at hc)
  · simp only [S0,putAt,List.replicate,Int.reduceAdd,Int.reduceSub,Int.reduceMul,Int.reduceTDiv,Int.reduceTMod,Int.reduceMod,Int.reduceDiv,Nat.reduceLT,Nat.reduceEqDiff,Int.reduceLE,Int.reduceLT,Int.reduceToNat,Int.reduceNeg,Int.reduceEq,Nat.reduceLeDiff,Nat.reducePow,Int.reducePow,reduceIte,Nat.reduceSub,Nat.reduceAdd,Nat.reduceMul, *]
    exact Fin_mk (Heap.Le.refl _) (K_int h (by unfold fsqrt; rw [if_pos hc]))
  · have e1 : IntKind.u64.wrap x = x := Bu.1 _ (by omega) (by omega)
    have e2 : IntKind.u64.wrap (x * 65536) = x * 65536 := Bu.1 _ (by omega) (by omega)
    have e5 : fsqrt x = isq (x * 65536) := by unfold fsqrt; rw [if_neg hc]
    have e3 : IntKind.i32.wrap (isq (x * 65536)) = isq (x * 65536) := Bw.2 _ (by omega) (by omega)
    clear hq
    (all_goals (try simp only [S0,putAt,List.replicate,Int.reduceAdd,Int.reduceSub,Int.reduceMul,Int.reduceTDiv,Int.reduceTMod,Int.reduceMod,Int.reduceDiv,Nat.reduceLT,Nat.reduceEqDiff,Int.reduceLE,Int.reduceLT,Int.reduceToNat,Int.reduceNeg,Int.reduceEq,Nat.reduceLeDiff,Nat.reducePow,Int.reducePow,reduceIte,Nat.reduceSub,Nat.reduceAdd,Nat.reduceMul, *])); repeat' ((first | (with_reducible refine fun _ : True => ?_) | refine r_Root _ (u64_of (by omega)) ?_ | (with_reducible refine any_h ?_) | ((first | refine AllocQ_i ?_ | refine AllocO_i ?_); intro bk hb0 hbk; try simp only [set_none'] at hbk) | ((first | refine condS_i ?_ ?_ | refine pick_i ?_ ?_ | refine gS_it ?_ ?_ | refine gS_if ?_ ?_ | refine gP_it ?_ ?_ | refine gP_if ?_ ?_) <;> (intro hc; try simp only [Int.reduceLE,Int.reduceLT,Int.reduceEq,Sn] at hc)) | (with_reducible refine KP_i ?_ ?_; · exact aE) | (with_reducible refine And.intro ?_ ?_)) <;> (try simp only [S0,putAt,List.replicate,Int.reduceAdd,Int.reduceSub,Int.reduceMul,Int.reduceTDiv,Int.reduceTMod,Int.reduceMod,Int.reduceDiv,Nat.reduceLT,Nat.reduceEqDiff,Int.reduceLE,Int.reduceLT,Int.reduceToNat,Int.reduceNeg,Int.reduceEq,Nat.reduceLeDiff,Nat.reducePow,Int.reducePow,reduceIte,Nat.reduceSub,Nat.reduceAdd,Nat.reduceMul, *]))
    exact Fin_mk (Heap.Le.refl _) (K_int h e5.symm)
/- paintboxref04 InvSqrt -/
def M120 : MC :=
  .seq (.reg [oX 2 (.mv (.const (.int .i32 0)))])
 (.seq (.seq (.reg [vX 3 0,
 oX 4 (.bin .leq (.tmp 3) (.const (.int .i32 0)))])
 (.cond (.tmp 4)
 (.seq (.reg [oX 2 (.mv (.const (.int .i32 2147483647)))])
 (.ret))
 (.skip)))
 (.seq (.reg [vX 5 0,
 oX 6 (.conv .u64 (.tmp 5)),
 oX 7 (.bin .quo (.const (.int .u64 281474976710656)) (.tmp 6)),
 oX 8 (.call 111 [(.tmp 7)]),
 oX 9 (.conv .i64 (.tmp 8)),
 oX 10 (.call 71 [(.tmp 9)]),
 vX 2 10])
 (.ret)))
theorem k120 : fnOk Tryz.prog 120 = some (M120, [.t 2], 11) := by kernel_rfl

theorem r_InvSqrt (x : Int) (hx : I32 x) (h : K (.int .i32 (finv x)) H) : HCalls Tryz.prog w0 120 [.int .i32 x] H K := by
  refine HL.hc k120 999 ?_; unfold M120
  simp only [S0,putAt,List.replicate,Int.reduceAdd,Int.reduceSub,Int.reduceMul,Int.reduceTDiv,Int.reduceTMod,Int.reduceMod,Int.reduceDiv,Nat.reduceLT,Nat.reduceEqDiff,Int.reduceLE,Int.reduceLT,Int.reduceToNat,Int.reduceNeg,Int.reduceEq,Nat.reduceLeDiff,Nat.reducePow,Int.reducePow,reduceIte,Nat.reduceSub,Nat.reduceAdd,Nat.reduceMul, *]
  refine condS_i ?_ ?_ <;> (intro hc; simp only [decide_eq_true_eq, decide_eq_false_iff_not] at hc)
  · simp only [S0,putAt,List.replicate,Int.reduceAdd,Int.reduceSub,Int.reduceMul,Int.reduceTDiv,Int.reduceTMod,Int.reduceMod,Int.reduceDiv,Nat.reduceLT,Nat.reduceEqDiff,Int.reduceLE,Int.reduceLT,Int.reduceToNat,Int.reduceNeg,Int.reduceEq,Nat.reduceLeDiff,Nat.reducePow,Int.reducePow,reduceIte,Nat.reduceSub,Nat.reduceAdd,Nat.reduceMul, *]
    exact Fin_mk (Heap.Le.refl _) (K_int h (by unfold finv; rw [if_pos hc]))
  · obtain ⟨e1, e2, e3, e4, e5⟩ := inv_fact hx hc
    have e6 : ¬ x = 0 := by omega
    (all_goals (try simp only [S0,putAt,List.replicate,Int.reduceAdd,Int.reduceSub,Int.reduceMul,Int.reduceTDiv,Int.reduceTMod,Int.reduceMod,Int.reduceDiv,Nat.reduceLT,Nat.reduceEqDiff,Int.reduceLE,Int.reduceLT,Int.reduceToNat,Int.reduceNeg,Int.reduceEq,Nat.reduceLeDiff,Nat.reducePow,Int.reducePow,reduceIte,Nat.reduceSub,Nat.reduceAdd,Nat.reduceMul, *])); repeat' ((first | (with_reducible refine fun _ : True => ?_) | refine r_Root _ e3 ?_ | refine r_Raw _ ?_ | (with_reducible refine any_h ?_) | ((first | refine AllocQ_i ?_ | refine AllocO_i ?_); intro bk hb0 hbk; try simp only [set_none'] at hbk) | ((first | refine condS_i ?_ ?_ | refine pick_i ?_ ?_ | refine gS_it ?_ ?_ | refine gS_if ?_ ?_ | refine gP_it ?_ ?_ | refine gP_if ?_ ?_) <;> (intro hc; try simp only [Int.reduceLE,Int.reduceLT,Int.reduceEq,Sn] at hc)) | (with_reducible refine KP_i ?_ ?_; · exact aE) | (with_reducible refine And.intro ?_ ?_)) <;> (try simp only [S0,putAt,List.replicate,Int.reduceAdd,Int.reduceSub,Int.reduceMul,Int.reduceTDiv,Int.reduceTMod,Int.reduceMod,Int.reduceDiv,Nat.reduceLT,Nat.reduceEqDiff,Int.reduceLE,Int.reduceLT,Int.reduceToNat,Int.reduceNeg,Int.reduceEq,Nat.reduceLeDiff,Nat.reducePow,Int.reducePow,reduceIte,Nat.reduceSub,Nat.reduceAdd,Nat.reduceMul, *]))
    exact Fin_mk (Heap.Le.refl _) (K_int h e5.symm)
/- paintboxref04 table -/
def M150 : MC :=
  .seq (.reg [oX 0 (.alloc 139 [(.int .i64 0),(.int .i64 0),(.int .i64 0),(.int .i64 0),(.int .i64 0),(.int .i64 0),(.int .i64 0),(.int .i64 0),(.int .i64 0),(.int .i64 0),(.int .i64 0),(.int .i64 0),(.int .i64 0),(.int .i64 0),(.int .i64 0),(.int .i64 0)])])
 (.seq (.reg [oX 1 (.build [(.int .i64 0),(.int .i64 0),(.int .i64 0),(.int .i64 0),(.int .i64 0),(.int .i64 0),(.int .i64 0),(.int .i64 0),(.int .i64 0),(.int .i64 0),(.int .i64 0),(.int .i64 0),(.int .i64 0),(.int .i64 0),(.int .i64 0),(.int .i64 0)] [(0,1,(kX 1518500250)),(1,1,(kX 1276901417)),(2,1,(kX 1170923762)),(3,1,(kX 1121280436)),(4,1,(kX 1097253708)),(5,1,(kX 1085434106)),(6,1,(kX 1079572136)),(7,1,(kX 1076653033)),(8,1,(kX 1075196443)),(9,1,(kX 1074468888)),(10,1,(kX 1074105294)),(11,1,(kX 1073923544)),(12,1,(kX 1073832680)),(13,1,(kX 1073787251)),(14,1,(kX 1073764537)),(15,1,(kX 1073753181))]),
 ⟨none,.stn 16 (.tmp 0) (.tmp 1),none⟩])
 (.ret))
theorem k150 : fnOk Tryz.prog 150 = some (M150, [.cn 16 0], 2) := by kernel_rfl

theorem r_table (h : K tabV H) : HCalls Tryz.prog w0 150 [] H K := by
  refine HL.hc k150 999 ?_; unfold M150
  (all_goals (try simp only [S0,putAt,List.replicate,Int.reduceAdd,Int.reduceSub,Int.reduceMul,Int.reduceTDiv,Int.reduceTMod,Int.reduceMod,Int.reduceDiv,Nat.reduceLT,Nat.reduceEqDiff,Int.reduceLE,Int.reduceLT,Int.reduceToNat,Int.reduceNeg,Int.reduceEq,Nat.reduceLeDiff,Nat.reducePow,Int.reducePow,reduceIte,Nat.reduceSub,Nat.reduceAdd,Nat.reduceMul, *])); repeat' ((first | (with_reducible refine fun _ : True => ?_) | (with_reducible refine any_h ?_) | ((first | refine AllocQ_i ?_ | refine AllocO_i ?_); intro bk hb0 hbk; try simp only [set_none'] at hbk) | ((first | refine condS_i ?_ ?_ | refine pick_i ?_ ?_ | refine gS_it ?_ ?_ | refine gS_if ?_ ?_ | refine gP_it ?_ ?_ | refine gP_if ?_ ?_) <;> (intro hc; try simp only [Int.reduceLE,Int.reduceLT,Int.reduceEq,Sn] at hc)) | (with_reducible refine KP_i ?_ ?_; · exact aE) | (with_reducible refine And.intro ?_ ?_)) <;> (try simp only [S0,putAt,List.replicate,Int.reduceAdd,Int.reduceSub,Int.reduceMul,Int.reduceTDiv,Int.reduceTMod,Int.reduceMod,Int.reduceDiv,Nat.reduceLT,Nat.reduceEqDiff,Int.reduceLE,Int.reduceLT,Int.reduceToNat,Int.reduceNeg,Int.reduceEq,Nat.reduceLeDiff,Nat.reducePow,Int.reducePow,reduceIte,Nat.reduceSub,Nat.reduceAdd,Nat.reduceMul, *]))
  exact Fin_mk aE h
/- paintboxref04 down -/
def M149 : MC :=
  .seq (.reg [oX 4 (.mv (kX 0))])
 (.seq (.reg [vX 7 1,
 oX 8 (.bin .shl (kX 1) (.tmp 7)),
 vX 5 8])
 (.seq (.reg [vX 9 0,
 vX 10 5,
 oX 11 (bX .quo 9 10),
 vX 6 11])
 (.seq (.seq (.reg [vX 12 0,
 vX 13 5,
 oX 14 (bX .rem 12 13),
 oX 15 (bK .lss 14 0)])
 (.cond (.tmp 15)
 (.reg [vX 16 6,
 oX 17 (bK .sub 16 1),
 vX 6 17])
 (.skip)))
 (.seq (.reg [vX 18 6,
 vX 4 18])
 (.ret)))))
theorem k149 : fnOk Tryz.prog 149 = some (M149, [.t 4], 19) := by kernel_rfl

theorem r_dn (n : Int) (k : Nat) (d : Int) (hd : (2 : Int) ^ k = d) (hk : k ≤ 60) (hn : -4611686018427500000 ≤ n ∧ n ≤ 4611686018427500000) (h : K (.int .i64 (n / d)) H) : HCalls Tryz.prog w0 149 [.int .i64 n, .int .i64 (k : Int)] H K := by
  have hp : (0 : Int) < 2 ^ k := Int.pow_pos (by omega)
  have hle : (2 : Int) ^ k ≤ 1152921504606846976 := by
    have e2 : ((2 : Int) ^ k) = ((2 ^ k : Nat) : Int) := by simp
    have := Nat.pow_le_pow_right (n := 2) (by omega) hk
    rw [e2]; omega
  rw [hd] at hp hle
  have e1 : k ≤ 64 := by omega
  have e2 : IntKind.i64.wrap ((2 : Int) ^ k) = d := by rw [hd]; exact Bw.1 _ (by omega) (by omega)
  have e3 : ¬ d = 0 := by omega
  have hd' : Keep ((2 : Int) ^ k = d) := hd
  clear hd
  refine HL.hc k149 999 ?_; unfold M149
  (all_goals (try simp only [S0,putAt,List.replicate,Int.reduceAdd,Int.reduceSub,Int.reduceMul,Int.reduceTDiv,Int.reduceTMod,Int.reduceMod,Int.reduceDiv,Nat.reduceLT,Nat.reduceEqDiff,Int.reduceLE,Int.reduceLT,Int.reduceToNat,Int.reduceNeg,Int.reduceEq,Nat.reduceLeDiff,Nat.reducePow,Int.reducePow,reduceIte,Nat.reduceSub,Nat.reduceAdd,Nat.reduceMul, *])); repeat' ((first | (with_reducible refine fun _ : True => ?_) | (with_reducible refine any_h ?_) | ((first | refine AllocQ_i ?_ | refine AllocO_i ?_); intro bk hb0 hbk; try simp only [set_none'] at hbk) | ((first | refine condS_i ?_ ?_ | refine pick_i ?_ ?_ | refine gS_it ?_ ?_ | refine gS_if ?_ ?_ | refine gP_it ?_ ?_ | refine gP_if ?_ ?_) <;> (intro hc; try simp only [Int.reduceLE,Int.reduceLT,Int.reduceEq,Sn] at hc)) | (with_reducible refine KP_i ?_ ?_; · exact aE) | (with_reducible refine And.intro ?_ ?_)) <;> (try simp only [S0,putAt,List.replicate,Int.reduceAdd,Int.reduceSub,Int.reduceMul,Int.reduceTDiv,Int.reduceTMod,Int.reduceMod,Int.reduceDiv,Nat.reduceLT,Nat.reduceEqDiff,Int.reduceLE,Int.reduceLT,Int.reduceToNat,Int.reduceNeg,Int.reduceEq,Nat.reduceLeDiff,Nat.reducePow,Int.reducePow,reduceIte,Nat.reduceSub,Nat.reduceAdd,Nat.reduceMul, *]))
  all_goals refine Fin_mk (Heap.Le.refl _) (K_int h ?_)
  · exact down_neg hn ⟨by omega, by omega⟩ hc
  · exact down_pos hn ⟨by omega, by omega⟩ hc
theorem r_dn30 (n : Int) (hn : -4611686018427500000 ≤ n ∧ n ≤ 4611686018427500000) (h : K (.int .i64 (n / 1073741824)) H) : HCalls Tryz.prog w0 149 [.int .i64 n, .int .i64 30] H K := r_dn n 30 _ rfl (by omega) hn h
theorem r_dn16 (n : Int) (hn : -4611686018427500000 ≤ n ∧ n ≤ 4611686018427500000) (h : K (.int .i64 (n / 65536)) H) : HCalls Tryz.prog w0 149 [.int .i64 n, .int .i64 16] H K := r_dn n 16 _ rfl (by omega) hn h
theorem r_dn14 (n : Int) (hn : -4611686018427500000 ≤ n ∧ n ≤ 4611686018427500000) (h : K (.int .i64 (n / 16384)) H) : HCalls Tryz.prog w0 149 [.int .i64 n, .int .i64 14] H K := r_dn n 14 _ rfl (by omega) hn h
/- paintboxref04 Exp2 -/
def M117 : MC :=
  .seq (.reg [oX 2 (.mv (.const (.int .i32 0)))])
 (.seq (.reg [vX 8 0,
 oX 9 (.conv .i64 (.tmp 8)),
 oX 10 (.call 149 [(.tmp 9),(kX 16)]),
 vX 3 10])
 (.seq (.reg [vX 11 0,
 oX 12 (.conv .i64 (.tmp 11)),
 vX 13 3,
 oX 14 (bK .mul 13 65536),
 oX 15 (bX .sub 12 14),
 vX 4 15])
 (.seq (.reg [oX 5 (.mv (kX 1073741824))])
 (.seq (.seq (.reg [oX 16 (.call 150 []),
 oX 17 (.mv (kX 0))])
 (.block 0 (.loop (.seq (.reg [oX 18 (bK .lss 17 16)])
 (.seq (.cond (.tmp 18)
 (.skip)
 (.exit 0))
 (.seq (.block 1 (.seq (.reg [vX 19 17,
 oX 20 (.ix 16 (.tmp 16) (.tmp 17)),
 vX 6 19,
 vX 7 20])
 (.seq (.reg [vX 21 4,
 vX 22 6,
 oX 23 (.bin .sub (kX 15) (.tmp 22)),
 oX 24 (.bin .shl (kX 1) (.tmp 23)),
 oX 25 (bX .quo 21 24),
 oX 26 (bK .rem 25 2),
 oX 27 (bK .eql 26 1)])
 (.cond (.tmp 27)
 (.reg [vX 28 5,
 vX 29 7,
 oX 30 (bX .mul 28 29),
 oX 31 (bK .quo 30 1073741824),
 vX 5 31])
 (.skip)))))
 (.reg [oX 32 (bK .add 17 1),
 vX 17 32])))))))
 (.seq (.seq (.reg [vX 33 3,
 oX 34 (bK .geq 33 15)])
 (.cond (.tmp 34)
 (.seq (.reg [oX 2 (.mv (.const (.int .i32 2147483647)))])
 (.ret))
 (.skip)))
 (.seq (.seq (.reg [vX 35 3,
 oX 36 (.bin .lss (.tmp 35) (kX (-30)))])
 (.cond (.tmp 36)
 (.seq (.reg [oX 2 (.mv (.const (.int .i32 0)))])
 (.ret))
 (.skip)))
 (.seq (.reg [vX 37 5,
 vX 38 3,
 oX 39 (.bin .sub (kX 14) (.tmp 38)),
 oX 40 (.bin .shl (kX 1) (.tmp 39)),
 oX 41 (bX .quo 37 40),
 oX 42 (.conv .i32 (.tmp 41)),
 vX 2 42])
 (.ret))))))))
theorem k117 : fnOk Tryz.prog 117 = some (M117, [.t 2], 43) := by kernel_rfl

theorem r_Exp2 (x : Int) (hx : I32 x) (h : K (.int .i32 (expo x)) H) : HCalls Tryz.prog w0 117 [.int .i32 x] H K := by
  have hx' := hx
  unfold I32 at hx'
  have e1 : IntKind.i64.wrap x = x := Bw.1 _ (by omega) (by omega)
  have e2 : IntKind.i64.wrap (x / 65536 * 65536) = x / 65536 * 65536 := Bw.1 _ (by omega) (by omega)
  obtain ⟨y, hy⟩ : ∃ y : Int, Keep (y = x - x / 65536 * 65536) := ⟨_, rfl⟩
  have hy' : y = x - x / 65536 * 65536 := hy
  have e3 : IntKind.i64.wrap (x - x / 65536 * 65536) = y := by rw [← hy']; exact Bw.1 _ (by omega) (by omega)
  have y0 : 0 ≤ y ∧ y < 65536 := by omega
  clear hy'
  refine HL.hc k117 999 ?_; unfold M117
  (all_goals (try simp only [S0,putAt,List.replicate,Int.reduceAdd,Int.reduceSub,Int.reduceMul,Int.reduceTDiv,Int.reduceTMod,Int.reduceMod,Int.reduceDiv,Nat.reduceLT,Nat.reduceEqDiff,Int.reduceLE,Int.reduceLT,Int.reduceToNat,Int.reduceNeg,Int.reduceEq,Nat.reduceLeDiff,Nat.reducePow,Int.reducePow,reduceIte,Nat.reduceSub,Nat.reduceAdd,Nat.reduceMul, *])); repeat' ((first | (with_reducible refine fun _ : True => ?_) | refine r_table ?_ | refine r_dn16 _ (by omega) ?_ | (with_reducible refine any_h ?_) | ((first | refine AllocQ_i ?_ | refine AllocO_i ?_); intro bk hb0 hbk; try simp only [set_none'] at hbk) | ((first | refine condS_i ?_ ?_ | refine pick_i ?_ ?_ | refine gS_it ?_ ?_ | refine gS_if ?_ ?_ | refine gP_it ?_ ?_ | refine gP_if ?_ ?_) <;> (intro hc; try simp only [Int.reduceLE,Int.reduceLT,Int.reduceEq,Sn] at hc)) | (with_reducible refine KP_i ?_ ?_; · exact aE) | (with_reducible refine And.intro ?_ ?_)) <;> (try simp only [S0,putAt,List.replicate,Int.reduceAdd,Int.reduceSub,Int.reduceMul,Int.reduceTDiv,Int.reduceTMod,Int.reduceMod,Int.reduceDiv,Nat.reduceLT,Nat.reduceEqDiff,Int.reduceLE,Int.reduceLT,Int.reduceToNat,Int.reduceNeg,Int.reduceEq,Nat.reduceLeDiff,Nat.reducePow,Int.reducePow,reduceIte,Nat.reduceSub,Nat.reduceAdd,Nat.reduceMul, *]))
  refine loop_g 18 (fun s : Nat × Int × Value × Value => [(5, .int .i64 s.2.1), (6, s.2.2.1), (7, s.2.2.2), (17, .int .i64 (s.1 : Nat))]) (fun _ => H) (fun s => s.1 ≤ 16 ∧ 0 ≤ s.2.1 ∧ s.2.1 ≤ tb s.1 ∧ Keep (exF x (16 - s.1) s.1 s.2.1 = exF x 16 0 1073741824)) (fun s => 16 - s.1) (0, 1073741824, undef, undef) ⟨by decide, by decide, by decide, rfl⟩ (Heap.Le.refl _) rfl ?_
  intro ⟨k, r, u, v⟩ f ⟨hk, h0, h1, hE⟩
  simp only at hk h0 h1 hE
  rcases Nat.lt_or_ge k 16 with hk' | hk'
  · obtain ⟨⟨g1, g2⟩, g3, g4, g5, g6⟩ := t_fact k hk'
    obtain ⟨⟨d1, d2⟩, -⟩ := t_td k hk'
    obtain ⟨s1, s2, s3, s4, s5⟩ := ex_step (x := x) hk' ⟨h0, h1⟩
    have t1 : (k : Int) < 16 := by omega
    have t2 := tab_at k hk'
    have t3 : IntKind.i64.wrap (15 - (k : Int)) = 15 - k := Bw.1 _ (by omega) (by omega)
    have t4 : (0 : Int) ≤ 15 - k := by omega
    have t5 : (15 - (k : Int)).toNat ≤ 64 := by omega
    have t6 : IntKind.i64.wrap ((2 : Int) ^ (15 - (k : Int)).toNat) = td k := by rw [show (15 - (k : Int)).toNat = 15 - k by omega, ← g3]; exact Bw.1 _ (by omega) (by omega)
    have q0 : 0 ≤ y / td k := Int.ediv_nonneg y0.1 (by omega)
    have q1 : y / td k ≤ y := Int.ediv_le_self _ y0.1
    have t7 : IntKind.i64.wrap (y.tdiv (td k)) = y / td k := by rw [Int.tdiv_eq_ediv_of_nonneg y0.1]; exact Bw.1 _ (by omega) (by omega)
    have t70 : ¬ td k = 0 := by omega
    have t71 : (y / td k).tmod 2 = x / td k % 2 := by rw [Int.tmod_eq_emod_of_nonneg q0, show y = x - x / 65536 * 65536 from hy]; exact ex_bit x k hk'
    have t8 : IntKind.i64.wrap (r * tt k) = r * tt k := Bw.1 _ (by omega) (by omega)
    have t9 : IntKind.i64.wrap ((k : Int) + 1) = (k : Int) + 1 := Bw.1 _ (by omega) (by omega)
    have t10 : IntKind.i64.wrap ((r * tt k).tdiv 1073741824) = r * tt k / 1073741824 := by rw [Int.tdiv_eq_ediv_of_nonneg s4]; exact Bw.1 _ (by omega) (by omega)
    have hE' : Keep (exF x (16 - (k + 1)) (k + 1) (if x / td k % 2 = 1 then r * tt k / 1073741824 else r) = exF x 16 0 1073741824) := by
      rw [show 16 - k = (16 - (k + 1)) + 1 by omega] at hE; exact hE
    clear g1 g2 g3 g4 g5 g6 hE
    (all_goals (try simp only [S0,putAt,List.replicate,Int.reduceAdd,Int.reduceSub,Int.reduceMul,Int.reduceTDiv,Int.reduceTMod,Int.reduceMod,Int.reduceDiv,Nat.reduceLT,Nat.reduceEqDiff,Int.reduceLE,Int.reduceLT,Int.reduceToNat,Int.reduceNeg,Int.reduceEq,Nat.reduceLeDiff,Nat.reducePow,Int.reducePow,reduceIte,Nat.reduceSub,Nat.reduceAdd,Nat.reduceMul, *])); repeat' ((first | (with_reducible refine fun _ : True => ?_) | (with_reducible refine any_h ?_) | ((first | refine AllocQ_i ?_ | refine AllocO_i ?_); intro bk hb0 hbk; try simp only [set_none'] at hbk) | ((first | refine condS_i ?_ ?_ | refine pick_i ?_ ?_ | refine gS_it ?_ ?_ | refine gS_if ?_ ?_ | refine gP_it ?_ ?_ | refine gP_if ?_ ?_) <;> (intro hc; try simp only [Int.reduceLE,Int.reduceLT,Int.reduceEq,Sn] at hc)) | (with_reducible refine KP_i ?_ ?_; · exact aE) | (with_reducible refine And.intro ?_ ?_)) <;> (try simp only [S0,putAt,List.replicate,Int.reduceAdd,Int.reduceSub,Int.reduceMul,Int.reduceTDiv,Int.reduceTMod,Int.reduceMod,Int.reduceDiv,Nat.reduceLT,Nat.reduceEqDiff,Int.reduceLE,Int.reduceLT,Int.reduceToNat,Int.reduceNeg,Int.reduceEq,Nat.reduceLeDiff,Nat.reducePow,Int.reducePow,reduceIte,Nat.reduceSub,Nat.reduceAdd,Nat.reduceMul, *]))
    · exact Round_mk (k + 1, r * tt k / 1073741824, _, _) ⟨by omega, s1, s2, by rw [if_pos hc] at hE'; exact hE'⟩ (by simp only; omega) (Heap.Le.refl _) rfl rfl
    · exact Round_mk (k + 1, r, _, _) ⟨by omega, h0, s3, by rw [if_neg hc] at hE'; exact hE'⟩ (by simp only; omega) (Heap.Le.refl _) rfl rfl
  · obtain rfl : k = 16 := by omega
    have hr : Keep (r = exF x 16 0 1073741824) := hE
    have hb : tb 16 ≤ 2147483647 := by decide
    by_cases n1 : 15 ≤ x / 65536
    · (all_goals (try simp only [S0,putAt,List.replicate,Int.reduceAdd,Int.reduceSub,Int.reduceMul,Int.reduceTDiv,Int.reduceTMod,Int.reduceMod,Int.reduceDiv,Nat.reduceLT,Nat.reduceEqDiff,Int.reduceLE,Int.reduceLT,Int.reduceToNat,Int.reduceNeg,Int.reduceEq,Nat.reduceLeDiff,Nat.reducePow,Int.reducePow,reduceIte,Nat.reduceSub,Nat.reduceAdd,Nat.reduceMul, *])); repeat' ((first | (with_reducible refine fun _ : True => ?_) | (with_reducible refine any_h ?_) | ((first | refine AllocQ_i ?_ | refine AllocO_i ?_); intro bk hb0 hbk; try simp only [set_none'] at hbk) | ((first | refine condS_i ?_ ?_ | refine pick_i ?_ ?_ | refine gS_it ?_ ?_ | refine gS_if ?_ ?_ | refine gP_it ?_ ?_ | refine gP_if ?_ ?_) <;> (intro hc; try simp only [Int.reduceLE,Int.reduceLT,Int.reduceEq,Sn] at hc)) | (with_reducible refine KP_i ?_ ?_; · exact aE) | (with_reducible refine And.intro ?_ ?_)) <;> (try simp only [S0,putAt,List.replicate,Int.reduceAdd,Int.reduceSub,Int.reduceMul,Int.reduceTDiv,Int.reduceTMod,Int.reduceMod,Int.reduceDiv,Nat.reduceLT,Nat.reduceEqDiff,Int.reduceLE,Int.reduceLT,Int.reduceToNat,Int.reduceNeg,Int.reduceEq,Nat.reduceLeDiff,Nat.reducePow,Int.reducePow,reduceIte,Nat.reduceSub,Nat.reduceAdd,Nat.reduceMul, *]))
      exact Fin_mk (Heap.Le.refl _) (K_int h (by unfold expo; rw [if_pos n1]))
    by_cases n2 : x / 65536 < -30
    · (all_goals (try simp only [S0,putAt,List.replicate,Int.reduceAdd,Int.reduceSub,Int.reduceMul,Int.reduceTDiv,Int.reduceTMod,Int.reduceMod,Int.reduceDiv,Nat.reduceLT,Nat.reduceEqDiff,Int.reduceLE,Int.reduceLT,Int.reduceToNat,Int.reduceNeg,Int.reduceEq,Nat.reduceLeDiff,Nat.reducePow,Int.reducePow,reduceIte,Nat.reduceSub,Nat.reduceAdd,Nat.reduceMul, *])); repeat' ((first | (with_reducible refine fun _ : True => ?_) | (with_reducible refine any_h ?_) | ((first | refine AllocQ_i ?_ | refine AllocO_i ?_); intro bk hb0 hbk; try simp only [set_none'] at hbk) | ((first | refine condS_i ?_ ?_ | refine pick_i ?_ ?_ | refine gS_it ?_ ?_ | refine gS_if ?_ ?_ | refine gP_it ?_ ?_ | refine gP_if ?_ ?_) <;> (intro hc; try simp only [Int.reduceLE,Int.reduceLT,Int.reduceEq,Sn] at hc)) | (with_reducible refine KP_i ?_ ?_; · exact aE) | (with_reducible refine And.intro ?_ ?_)) <;> (try simp only [S0,putAt,List.replicate,Int.reduceAdd,Int.reduceSub,Int.reduceMul,Int.reduceTDiv,Int.reduceTMod,Int.reduceMod,Int.reduceDiv,Nat.reduceLT,Nat.reduceEqDiff,Int.reduceLE,Int.reduceLT,Int.reduceToNat,Int.reduceNeg,Int.reduceEq,Nat.reduceLeDiff,Nat.reducePow,Int.reducePow,reduceIte,Nat.reduceSub,Nat.reduceAdd,Nat.reduceMul, *]))
      exact Fin_mk (Heap.Le.refl _) (K_int h (by unfold expo; rw [if_neg n1, if_pos n2]))
    have t1 : IntKind.i64.wrap (14 - x / 65536) = 14 - x / 65536 := Bw.1 _ (by omega) (by omega)
    have t2 : 0 ≤ 14 - x / 65536 := by omega
    have t3 : (14 - x / 65536).toNat ≤ 64 := by omega
    obtain ⟨d, hd⟩ : ∃ d : Int, Keep (d = 2 ^ (14 - x / 65536).toNat) := ⟨_, rfl⟩
    have hd' : d = 2 ^ (14 - x / 65536).toNat := hd
    have d0 : 0 < d := by rw [hd']; exact Int.pow_pos (by omega)
    have d1 : d ≤ 17592186044416 := by
      rw [hd']
      have e2 : ((2 : Int) ^ (14 - x / 65536).toNat) = ((2 ^ (14 - x / 65536).toNat : Nat) : Int) := by simp
      have := Nat.pow_le_pow_right (n := 2) (by omega) (show (14 - x / 65536).toNat ≤ 44 by omega)
      rw [e2]; omega
    have t4 : IntKind.i64.wrap (2 ^ (14 - x / 65536).toNat) = d := by rw [← hd']; exact Bw.1 _ (by omega) (by omega)
    have q1 : 0 ≤ r / d := Int.ediv_nonneg h0 (by omega)
    have q2 : r / d ≤ r := Int.ediv_le_self _ h0
    have t5 : IntKind.i64.wrap (r.tdiv d) = r / d := by rw [Int.tdiv_eq_ediv_of_nonneg h0]; exact Bw.1 _ (by omega) (by omega)
    have t6 : IntKind.i32.wrap (r / d) = r / d := Bw.2 _ (by omega) (by omega)
    have t7 : ¬ d = 0 := by omega
    have hfin : Keep (r / d = expo x) := by show r / d = expo x; unfold expo; rw [if_neg n1, if_neg n2, hd', ← show r = exF x 16 0 1073741824 from hr]
    clear hd'
    (all_goals (try simp only [S0,putAt,List.replicate,Int.reduceAdd,Int.reduceSub,Int.reduceMul,Int.reduceTDiv,Int.reduceTMod,Int.reduceMod,Int.reduceDiv,Nat.reduceLT,Nat.reduceEqDiff,Int.reduceLE,Int.reduceLT,Int.reduceToNat,Int.reduceNeg,Int.reduceEq,Nat.reduceLeDiff,Nat.reducePow,Int.reducePow,reduceIte,Nat.reduceSub,Nat.reduceAdd,Nat.reduceMul, *])); repeat' ((first | (with_reducible refine fun _ : True => ?_) | (with_reducible refine any_h ?_) | ((first | refine AllocQ_i ?_ | refine AllocO_i ?_); intro bk hb0 hbk; try simp only [set_none'] at hbk) | ((first | refine condS_i ?_ ?_ | refine pick_i ?_ ?_ | refine gS_it ?_ ?_ | refine gS_if ?_ ?_ | refine gP_it ?_ ?_ | refine gP_if ?_ ?_) <;> (intro hc; try simp only [Int.reduceLE,Int.reduceLT,Int.reduceEq,Sn] at hc)) | (with_reducible refine KP_i ?_ ?_; · exact aE) | (with_reducible refine And.intro ?_ ?_)) <;> (try simp only [S0,putAt,List.replicate,Int.reduceAdd,Int.reduceSub,Int.reduceMul,Int.reduceTDiv,Int.reduceTMod,Int.reduceMod,Int.reduceDiv,Nat.reduceLT,Nat.reduceEqDiff,Int.reduceLE,Int.reduceLT,Int.reduceToNat,Int.reduceNeg,Int.reduceEq,Nat.reduceLeDiff,Nat.reducePow,Int.reducePow,reduceIte,Nat.reduceSub,Nat.reduceAdd,Nat.reduceMul, *]))
    exact Fin_mk (Heap.Le.refl _) (K_int h hfin)
/- paintboxref04 Log2 -/
def M118 : MC :=
  .seq (.reg [oX 2 (.mv (.const (.int .i32 0)))])
 (.seq (.seq (.reg [vX 6 0,
 oX 7 (.bin .leq (.tmp 6) (.const (.int .i32 0)))])
 (.cond (.tmp 7)
 (.seq (.reg [oX 2 (.mv (.const (.int .i32 (-2147483648))))])
 (.ret))
 (.skip)))
 (.seq (.reg [oX 3 (.mv (kX 0))])
 (.seq (.block 0 (.loop (.seq (.seq (.reg [vX 8 0,
 oX 9 (.conv .i64 (.tmp 8)),
 vX 10 3,
 oX 11 (bK .add 10 1),
 oX 12 (.bin .shl (kX 1) (.tmp 11)),
 oX 13 (bX .geq 9 12)])
 (.cond (.tmp 13)
 (.skip)
 (.exit 0)))
 (.block 1 (.reg [vX 14 3,
 oX 15 (bK .add 14 1),
 vX 3 15])))))
 (.seq (.reg [vX 16 0,
 oX 17 (.conv .i64 (.tmp 16)),
 vX 18 3,
 oX 19 (.bin .sub (kX 30) (.tmp 18)),
 oX 20 (bX .shl 17 19),
 vX 4 20])
 (.seq (.reg [oX 5 (.mv (kX 0))])
 (.seq (.seq (.reg [oX 21 (.mv (kX 0))])
 (.block 2 (.loop (.seq (.reg [oX 22 (bK .lss 21 16)])
 (.seq (.cond (.tmp 22)
 (.skip)
 (.exit 2))
 (.seq (.block 3 (.seq (.reg [vX 23 4,
 vX 24 4,
 oX 25 (bX .mul 23 24),
 oX 26 (bK .quo 25 1073741824),
 vX 4 26])
 (.seq (.reg [vX 27 5,
 oX 28 (bK .mul 27 2),
 vX 5 28])
 (.seq (.reg [vX 29 4,
 oX 30 (bK .geq 29 2147483648)])
 (.cond (.tmp 30)
 (.seq (.reg [vX 31 4,
 oX 32 (bK .quo 31 2),
 vX 4 32])
 (.reg [vX 33 5,
 oX 34 (bK .add 33 1),
 vX 5 34]))
 (.skip))))))
 (.reg [oX 35 (bK .add 21 1),
 vX 21 35])))))))
 (.seq (.reg [vX 36 3,
 oX 37 (bK .sub 36 16),
 oX 38 (bK .mul 37 65536),
 vX 39 5,
 oX 40 (bX .add 38 39),
 oX 41 (.conv .i32 (.tmp 40)),
 vX 2 41])
 (.ret))))))))
theorem k118 : fnOk Tryz.prog 118 = some (M118, [.t 2], 42) := by kernel_rfl

theorem r_Log2 (x : Int) (hx : I32 x) (h : K (.int .i32 (flog x)) H) : HCalls Tryz.prog w0 118 [.int .i32 x] H K := by
  have hx' := hx
  unfold I32 at hx'
  by_cases hp : x ≤ 0
  · refine HL.hc k118 999 ?_; unfold M118
    (all_goals (try simp only [S0,putAt,List.replicate,Int.reduceAdd,Int.reduceSub,Int.reduceMul,Int.reduceTDiv,Int.reduceTMod,Int.reduceMod,Int.reduceDiv,Nat.reduceLT,Nat.reduceEqDiff,Int.reduceLE,Int.reduceLT,Int.reduceToNat,Int.reduceNeg,Int.reduceEq,Nat.reduceLeDiff,Nat.reducePow,Int.reducePow,reduceIte,Nat.reduceSub,Nat.reduceAdd,Nat.reduceMul, *])); repeat' ((first | (with_reducible refine fun _ : True => ?_) | (with_reducible refine any_h ?_) | ((first | refine AllocQ_i ?_ | refine AllocO_i ?_); intro bk hb0 hbk; try simp only [set_none'] at hbk) | ((first | refine condS_i ?_ ?_ | refine pick_i ?_ ?_ | refine gS_it ?_ ?_ | refine gS_if ?_ ?_ | refine gP_it ?_ ?_ | refine gP_if ?_ ?_) <;> (intro hc; try simp only [Int.reduceLE,Int.reduceLT,Int.reduceEq,Sn] at hc)) | (with_reducible refine KP_i ?_ ?_; · exact aE) | (with_reducible refine And.intro ?_ ?_)) <;> (try simp only [S0,putAt,List.replicate,Int.reduceAdd,Int.reduceSub,Int.reduceMul,Int.reduceTDiv,Int.reduceTMod,Int.reduceMod,Int.reduceDiv,Nat.reduceLT,Nat.reduceEqDiff,Int.reduceLE,Int.reduceLT,Int.reduceToNat,Int.reduceNeg,Int.reduceEq,Nat.reduceLeDiff,Nat.reducePow,Int.reducePow,reduceIte,Nat.reduceSub,Nat.reduceAdd,Nat.reduceMul, *]))
    exact Fin_mk (Heap.Le.refl _) (K_int h (by unfold flog; rw [if_pos hp]))
  have he := elog_lt (x := x) (by omega) (by omega)
  obtain ⟨m0, m1⟩ := lg_m (x := x) (by omega) (by omega)
  obtain ⟨E, hEe⟩ : ∃ E : Nat, Keep (E = elog x) := ⟨_, rfl⟩
  have hE1 : E = elog x := hEe
  rw [← hE1] at he m0 m1
  obtain ⟨p0, p1⟩ := elog_spec (x := x) (by omega)
  rw [← hE1] at p0 p1
  have e2 : IntKind.i64.wrap x = x := Bw.1 _ (by omega) (by omega)
  obtain ⟨M, hM⟩ : ∃ M : Int, Keep (M = x * 2 ^ (30 - E)) := ⟨_, rfl⟩
  have hM' : M = x * 2 ^ (30 - E) := hM
  have hfin : Keep (((E : Int) - 16) * 65536 + lg 16 M 0 = flog x) := by
    show _ = _; unfold flog; rw [if_neg hp, ← hE1, ← hM', lg_shift 16 M ((E : Int) - 16)]; rfl
  rw [← hM'] at m0 m1
  clear hM' hE1
  refine HL.hc k118 999 ?_; unfold M118
  (all_goals (try simp only [S0,putAt,List.replicate,Int.reduceAdd,Int.reduceSub,Int.reduceMul,Int.reduceTDiv,Int.reduceTMod,Int.reduceMod,Int.reduceDiv,Nat.reduceLT,Nat.reduceEqDiff,Int.reduceLE,Int.reduceLT,Int.reduceToNat,Int.reduceNeg,Int.reduceEq,Nat.reduceLeDiff,Nat.reducePow,Int.reducePow,reduceIte,Nat.reduceSub,Nat.reduceAdd,Nat.reduceMul, *])); repeat' ((first | (with_reducible refine fun _ : True => ?_) | (with_reducible refine any_h ?_) | ((first | refine AllocQ_i ?_ | refine AllocO_i ?_); intro bk hb0 hbk; try simp only [set_none'] at hbk) | ((first | refine condS_i ?_ ?_ | refine pick_i ?_ ?_ | refine gS_it ?_ ?_ | refine gS_if ?_ ?_ | refine gP_it ?_ ?_ | refine gP_if ?_ ?_) <;> (intro hc; try simp only [Int.reduceLE,Int.reduceLT,Int.reduceEq,Sn] at hc)) | (with_reducible refine KP_i ?_ ?_; · exact aE) | (with_reducible refine And.intro ?_ ?_)) <;> (try simp only [S0,putAt,List.replicate,Int.reduceAdd,Int.reduceSub,Int.reduceMul,Int.reduceTDiv,Int.reduceTMod,Int.reduceMod,Int.reduceDiv,Nat.reduceLT,Nat.reduceEqDiff,Int.reduceLE,Int.reduceLT,Int.reduceToNat,Int.reduceNeg,Int.reduceEq,Nat.reduceLeDiff,Nat.reducePow,Int.reducePow,reduceIte,Nat.reduceSub,Nat.reduceAdd,Nat.reduceMul, *]))
  refine loop_g 4 (fun s : Nat => [(3, .int .i64 (s : Int))]) (fun _ => H) (fun s => s ≤ E) (fun s => E - s) 0 (by omega) (Heap.Le.refl _) rfl ?_
  intro e f hee
  have t1 : IntKind.i64.wrap ((e : Int) + 1) = (e : Int) + 1 := Bw.1 _ (by omega) (by omega)
  have t2 : (0 : Int) ≤ (e : Int) + 1 := by omega
  have t3 : ((e : Int) + 1).toNat ≤ 64 := by omega
  obtain ⟨q, hq⟩ : ∃ q : Int, Keep (q = 2 ^ (e + 1)) := ⟨_, rfl⟩
  have hq' : q = 2 ^ (e + 1) := hq
  have q1 : q ≤ 2147483648 := by
    have e2 : ((2 : Int) ^ (e + 1)) = ((2 ^ (e + 1) : Nat) : Int) := by simp
    have := Nat.pow_le_pow_right (n := 2) (by omega) (show e + 1 ≤ 31 by omega)
    rw [hq', e2]; omega
  have q0 : 0 ≤ q := by rw [hq']; exact Int.le_of_lt (Int.pow_pos (by omega))
  have t4 : IntKind.i64.wrap (2 ^ ((e : Int) + 1).toNat) = q := by rw [show ((e : Int) + 1).toNat = e + 1 by omega, ← hq']; exact Bw.1 _ (by omega) (by omega)
  rcases Nat.lt_or_ge e E with hlt | hge
  · have t5 : q ≤ x := by
      rw [hq']
      have a1 : ((2 : Int) ^ (e + 1)) = ((2 ^ (e + 1) : Nat) : Int) := by simp
      have a2 : ((2 : Int) ^ E) = ((2 ^ E : Nat) : Int) := by simp
      have := Nat.pow_le_pow_right (n := 2) (by omega) (show e + 1 ≤ E by omega)
      rw [a2] at p0
      rw [a1]; omega
    clear hq' p0 p1
    (all_goals (try simp only [S0,putAt,List.replicate,Int.reduceAdd,Int.reduceSub,Int.reduceMul,Int.reduceTDiv,Int.reduceTMod,Int.reduceMod,Int.reduceDiv,Nat.reduceLT,Nat.reduceEqDiff,Int.reduceLE,Int.reduceLT,Int.reduceToNat,Int.reduceNeg,Int.reduceEq,Nat.reduceLeDiff,Nat.reducePow,Int.reducePow,reduceIte,Nat.reduceSub,Nat.reduceAdd,Nat.reduceMul, *])); repeat' ((first | (with_reducible refine fun _ : True => ?_) | (with_reducible refine any_h ?_) | ((first | refine AllocQ_i ?_ | refine AllocO_i ?_); intro bk hb0 hbk; try simp only [set_none'] at hbk) | ((first | refine condS_i ?_ ?_ | refine pick_i ?_ ?_ | refine gS_it ?_ ?_ | refine gS_if ?_ ?_ | refine gP_it ?_ ?_ | refine gP_if ?_ ?_) <;> (intro hc; try simp only [Int.reduceLE,Int.reduceLT,Int.reduceEq,Sn] at hc)) | (with_reducible refine KP_i ?_ ?_; · exact aE) | (with_reducible refine And.intro ?_ ?_)) <;> (try simp only [S0,putAt,List.replicate,Int.reduceAdd,Int.reduceSub,Int.reduceMul,Int.reduceTDiv,Int.reduceTMod,Int.reduceMod,Int.reduceDiv,Nat.reduceLT,Nat.reduceEqDiff,Int.reduceLE,Int.reduceLT,Int.reduceToNat,Int.reduceNeg,Int.reduceEq,Nat.reduceLeDiff,Nat.reducePow,Int.reducePow,reduceIte,Nat.reduceSub,Nat.reduceAdd,Nat.reduceMul, *]))
    exact Round_mk (e + 1) (by omega) (by omega) (Heap.Le.refl _) rfl rfl
  · obtain rfl : e = E := by omega
    have t5 : ¬ q ≤ x := by rw [hq']; omega
    have e4 : IntKind.i64.wrap (30 - (e : Int)) = 30 - (e : Int) := Bw.1 _ (by omega) (by omega)
    have e5 : 0 ≤ 30 - (e : Int) := by omega
    have e6 : (30 - (e : Int)).toNat ≤ 64 := by omega
    have e7 : IntKind.i64.wrap (x * 2 ^ (30 - (e : Int)).toNat) = M := by rw [show (30 - (e : Int)).toNat = 30 - e by omega, ← show M = x * 2 ^ (30 - e) from hM]; exact Bw.1 _ (by omega) (by omega)
    have e8 : IntKind.i64.wrap ((e : Int) - 16) = (e : Int) - 16 := Bw.1 _ (by omega) (by omega)
    have e9 : IntKind.i64.wrap (((e : Int) - 16) * 65536) = ((e : Int) - 16) * 65536 := Bw.1 _ (by omega) (by omega)
    clear hq' p0 p1
    (all_goals (try simp only [S0,putAt,List.replicate,Int.reduceAdd,Int.reduceSub,Int.reduceMul,Int.reduceTDiv,Int.reduceTMod,Int.reduceMod,Int.reduceDiv,Nat.reduceLT,Nat.reduceEqDiff,Int.reduceLE,Int.reduceLT,Int.reduceToNat,Int.reduceNeg,Int.reduceEq,Nat.reduceLeDiff,Nat.reducePow,Int.reducePow,reduceIte,Nat.reduceSub,Nat.reduceAdd,Nat.reduceMul, *])); repeat' ((first | (with_reducible refine fun _ : True => ?_) | (with_reducible refine any_h ?_) | ((first | refine AllocQ_i ?_ | refine AllocO_i ?_); intro bk hb0 hbk; try simp only [set_none'] at hbk) | ((first | refine condS_i ?_ ?_ | refine pick_i ?_ ?_ | refine gS_it ?_ ?_ | refine gS_if ?_ ?_ | refine gP_it ?_ ?_ | refine gP_if ?_ ?_) <;> (intro hc; try simp only [Int.reduceLE,Int.reduceLT,Int.reduceEq,Sn] at hc)) | (with_reducible refine KP_i ?_ ?_; · exact aE) | (with_reducible refine And.intro ?_ ?_)) <;> (try simp only [S0,putAt,List.replicate,Int.reduceAdd,Int.reduceSub,Int.reduceMul,Int.reduceTDiv,Int.reduceTMod,Int.reduceMod,Int.reduceDiv,Nat.reduceLT,Nat.reduceEqDiff,Int.reduceLE,Int.reduceLT,Int.reduceToNat,Int.reduceNeg,Int.reduceEq,Nat.reduceLeDiff,Nat.reducePow,Int.reducePow,reduceIte,Nat.reduceSub,Nat.reduceAdd,Nat.reduceMul, *]))
    refine loop_g 22 (fun s : Nat × Int × Int × Int => [(4, .int .i64 s.2.2.1), (5, .int .i64 s.2.2.2), (21, .int .i64 (16 - s.1 : Int))]) (fun _ => H)
      (fun s => s.1 ≤ 16 ∧ (1073741824 ≤ s.2.2.1 ∧ s.2.2.1 < 2147483648) ∧ (1 ≤ s.2.1 ∧ 0 ≤ s.2.2.2 ∧ s.2.2.2 < s.2.1) ∧ Keep (s.2.1 * 2 ^ s.1 = 65536) ∧ Keep (((e : Int) - 16) * 65536 + lg s.1 s.2.2.1 s.2.2.2 = flog x)) (fun s => s.1) (16, 1, M, 0)
      ⟨Nat.le_refl _, ⟨m0, m1⟩, ⟨show (1 : Int) ≤ 1 by decide, show (0 : Int) ≤ 0 by decide, show (0 : Int) < 1 by decide⟩, show (1 : Int) * 2 ^ 16 = 65536 by decide, hfin⟩ (Heap.Le.refl _) rfl ?_
    intro ⟨n, B, m, d⟩ f ⟨hk, hm, hd, hB, hE⟩
    simp only at hk hm hd hB hE
    have hBl := B_le hB hd.1
    rcases n with _ | n
    · have t1 : Keep (((e : Int) - 16) * 65536 + d = flog x) := hE
      have t2 : IntKind.i64.wrap (((e : Int) - 16) * 65536 + d) = ((e : Int) - 16) * 65536 + d := Bw.1 _ (by omega) (by omega)
      have t3 : IntKind.i32.wrap (((e : Int) - 16) * 65536 + d) = ((e : Int) - 16) * 65536 + d := Bw.2 _ (by omega) (by omega)
      have t4 : (16 : Int) - ((0 : Nat) : Int) = 16 := rfl
      (all_goals (try simp only [S0,putAt,List.replicate,Int.reduceAdd,Int.reduceSub,Int.reduceMul,Int.reduceTDiv,Int.reduceTMod,Int.reduceMod,Int.reduceDiv,Nat.reduceLT,Nat.reduceEqDiff,Int.reduceLE,Int.reduceLT,Int.reduceToNat,Int.reduceNeg,Int.reduceEq,Nat.reduceLeDiff,Nat.reducePow,Int.reducePow,reduceIte,Nat.reduceSub,Nat.reduceAdd,Nat.reduceMul, *])); repeat' ((first | (with_reducible refine fun _ : True => ?_) | (with_reducible refine any_h ?_) | ((first | refine AllocQ_i ?_ | refine AllocO_i ?_); intro bk hb0 hbk; try simp only [set_none'] at hbk) | ((first | refine condS_i ?_ ?_ | refine pick_i ?_ ?_ | refine gS_it ?_ ?_ | refine gS_if ?_ ?_ | refine gP_it ?_ ?_ | refine gP_if ?_ ?_) <;> (intro hc; try simp only [Int.reduceLE,Int.reduceLT,Int.reduceEq,Sn] at hc)) | (with_reducible refine KP_i ?_ ?_; · exact aE) | (with_reducible refine And.intro ?_ ?_)) <;> (try simp only [S0,putAt,List.replicate,Int.reduceAdd,Int.reduceSub,Int.reduceMul,Int.reduceTDiv,Int.reduceTMod,Int.reduceMod,Int.reduceDiv,Nat.reduceLT,Nat.reduceEqDiff,Int.reduceLE,Int.reduceLT,Int.reduceToNat,Int.reduceNeg,Int.reduceEq,Nat.reduceLeDiff,Nat.reducePow,Int.reducePow,reduceIte,Nat.reduceSub,Nat.reduceAdd,Nat.reduceMul, *]))
      exact Fin_mk (Heap.Le.refl _) (K_int h t1)
    · obtain ⟨s1, s2⟩ := lg_step hm
      have t0 : (16 : Int) - ((n + 1 : Nat) : Int) < 16 := by omega
      obtain ⟨c, hc0⟩ : ∃ c : Int, Keep ((16 : Int) - ((n + 1 : Nat) : Int) = c) := ⟨_, rfl⟩
      have hc1 : (16 : Int) - ((n + 1 : Nat) : Int) = c := hc0
      rw [hc1] at t0 ⊢
      have t1 : IntKind.i64.wrap (m * m) = m * m := Bw.1 _ (by omega) (by omega)
      have t10 : IntKind.i64.wrap ((m * m).tdiv 1073741824) = m * m / 1073741824 := by rw [Int.tdiv_eq_ediv_of_nonneg (by omega)]; exact Bw.1 _ (by omega) (by omega)
      have t11 : IntKind.i64.wrap ((m * m / 1073741824).tdiv 2) = m * m / 1073741824 / 2 := by rw [Int.tdiv_eq_ediv_of_nonneg (by omega)]; exact Bw.1 _ (by omega) (by omega)
      have t2 : IntKind.i64.wrap (d * 2) = 2 * d := by rw [Int.mul_comm]; exact Bw.1 _ (by omega) (by omega)
      have t3 : IntKind.i64.wrap (2 * d + 1) = 2 * d + 1 := Bw.1 _ (by omega) (by omega)
      have t4 : IntKind.i64.wrap (c + 1) = c + 1 := Bw.1 _ (by omega) (by omega)
      have hE' : Keep (((e : Int) - 16) * 65536 + (if 2147483648 ≤ m * m / 1073741824 then lg n (m * m / 1073741824 / 2) (2 * d + 1) else lg n (m * m / 1073741824) (2 * d)) = flog x) := hE
      have hB' : Keep (2 * B * 2 ^ n = 65536) := by show 2 * B * 2 ^ n = 65536; rw [← (show B * 2 ^ (n + 1) = 65536 from hB), Int.pow_succ, Int.mul_comm 2 B, Int.mul_assoc, Int.mul_comm 2]
      clear hc1 hE
      (all_goals (try simp only [S0,putAt,List.replicate,Int.reduceAdd,Int.reduceSub,Int.reduceMul,Int.reduceTDiv,Int.reduceTMod,Int.reduceMod,Int.reduceDiv,Nat.reduceLT,Nat.reduceEqDiff,Int.reduceLE,Int.reduceLT,Int.reduceToNat,Int.reduceNeg,Int.reduceEq,Nat.reduceLeDiff,Nat.reducePow,Int.reducePow,reduceIte,Nat.reduceSub,Nat.reduceAdd,Nat.reduceMul, *])); repeat' ((first | (with_reducible refine fun _ : True => ?_) | (with_reducible refine any_h ?_) | ((first | refine AllocQ_i ?_ | refine AllocO_i ?_); intro bk hb0 hbk; try simp only [set_none'] at hbk) | ((first | refine condS_i ?_ ?_ | refine pick_i ?_ ?_ | refine gS_it ?_ ?_ | refine gS_if ?_ ?_ | refine gP_it ?_ ?_ | refine gP_if ?_ ?_) <;> (intro hc; try simp only [Int.reduceLE,Int.reduceLT,Int.reduceEq,Sn] at hc)) | (with_reducible refine KP_i ?_ ?_; · exact aE) | (with_reducible refine And.intro ?_ ?_)) <;> (try simp only [S0,putAt,List.replicate,Int.reduceAdd,Int.reduceSub,Int.reduceMul,Int.reduceTDiv,Int.reduceTMod,Int.reduceMod,Int.reduceDiv,Nat.reduceLT,Nat.reduceEqDiff,Int.reduceLE,Int.reduceLT,Int.reduceToNat,Int.reduceNeg,Int.reduceEq,Nat.reduceLeDiff,Nat.reducePow,Int.reducePow,reduceIte,Nat.reduceSub,Nat.reduceAdd,Nat.reduceMul, *]))
      all_goals have hc1 : (16 : Int) - ((n + 1 : Nat) : Int) = c := hc0
      · refine Round_mk (n, 2 * B, m * m / 1073741824 / 2, 2 * d + 1) ⟨by omega, ⟨by simp only; omega, by simp only; omega⟩, ⟨by simp only; omega, by simp only; omega, by simp only; omega⟩, hB', by rw [if_pos hc] at hE'; exact hE'⟩ (by simp only; omega) (Heap.Le.refl _) ?_ rfl
        rw [show c + 1 = 16 - (n : Int) by omega]; rfl
      · refine Round_mk (n, 2 * B, m * m / 1073741824, 2 * d) ⟨by omega, ⟨by simp only; omega, by simp only; omega⟩, ⟨by simp only; omega, by simp only; omega, by simp only; omega⟩, hB', by rw [if_neg hc] at hE'; exact hE'⟩ (by simp only; omega) (Heap.Le.refl _) ?_ rfl
        rw [show c + 1 = 16 - (n : Int) by omega]; rfl
end Go.Proofs.YtdmnfaefakceiaaGreat
