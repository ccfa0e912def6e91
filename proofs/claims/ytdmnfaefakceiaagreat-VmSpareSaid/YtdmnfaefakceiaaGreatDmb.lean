/- Roots, powers and logarithms, by the program. -/
import Derived.Test.YtdmnfaefakceiaaGreatDma
set_option linter.unusedSimpArgs false
set_option linter.unusedVariables false
set_option maxRecDepth 100000
set_option maxHeartbeats 4000000
namespace Go.Proofs.YtdmnfaefakceiaaGreat
open Go.HL Go.RowKit Pb
variable {w0 : World} {t1 t2 t3 : TypeId} {H : Heap} {K : Value → Heap → Prop}
theorem aM {P Q : Prop} (k : Q) (h : Q → P := by (intro kk; ((all_goals (try simp only [S0,putAt,List.replicate,Int.reduceAdd,Int.reduceSub,Int.reduceMul,Int.reduceTDiv,Int.reduceTMod,Int.reduceMod,Int.reduceDiv,Nat.reduceLT,Nat.reduceEqDiff,Int.reduceLE,Int.reduceLT,Int.reduceToNat,Int.reduceNeg,Int.reduceEq,Nat.reduceLeDiff,Nat.reducePow,Int.reducePow,reduceIte,Nat.reduceSub,Nat.reduceAdd,Nat.reduceMul, *])); repeat' ((first | (with_reducible refine fun _ : True => ?_) | (with_reducible refine any_h ?_) | ((first | refine AllocQ_i ?_ | refine AllocO_i ?_); intro bk hb0 hbk; try simp only [set_none'] at hbk) | ((first | refine condS_i ?_ ?_ | refine pick_i ?_ ?_ | refine gS_it ?_ ?_ | refine gS_if ?_ ?_ | refine gP_it ?_ ?_ | refine gP_if ?_ ?_) <;> (intro hc; try simp only [Int.reduceLE,Int.reduceLT,Int.reduceEq,Sn] at hc)) | (with_reducible refine KP_i ?_ ?_; · exact aE) | (with_reducible refine And.intro ?_ ?_)) <;> (try simp only [S0,putAt,List.replicate,Int.reduceAdd,Int.reduceSub,Int.reduceMul,Int.reduceTDiv,Int.reduceTMod,Int.reduceMod,Int.reduceDiv,Nat.reduceLT,Nat.reduceEqDiff,Int.reduceLE,Int.reduceLT,Int.reduceToNat,Int.reduceNeg,Int.reduceEq,Nat.reduceLeDiff,Nat.reducePow,Int.reducePow,reduceIte,Nat.reduceSub,Nat.reduceAdd,Nat.reduceMul, *]))); exact kk)) : P := h k

def U64 (n : Int) : Prop := 0 ≤ n ∧ n < 18446744073709551616
theorem u64_of {n : Int} (h : 0 ≤ n ∧ n < 18446744073709551616) : U64 n := h
/- maths Root -/
def M135 : MC :=
  .seq (.reg [oX 2 (.mv (.const (.int .u32 0)))])
 (.scope (.seq (.reg [oX 3 (.mv (.const (.int .u32 0)))])
 (.seq (.reg [oX 4 (.mv (.const (.int .u32 2147483648)))])
 (.seq (.skip)
 (.seq (.block 0 (.loop (.block 1 (.seq (.seq (.reg [vX 6 3,
 vX 7 4,
 oX 8 (bX .or 6 7),
 oX 9 (.conv .u64 (.tmp 8)),
 vX 5 9])
 (.seq (.reg [vX 10 5,
 vX 11 5,
 oX 12 (bX .mul 10 11),
 vX 13 0,
 oX 14 (bX .leq 12 13)])
 (.cond (.tmp 14)
 (.reg [vX 15 3,
 vX 16 4,
 oX 17 (bX .or 15 16),
 vX 3 17])
 (.skip))))
 (.seq (.reg [vX 18 4,
 oX 19 (.bin .shr (.tmp 18) (.const (.int .u64 1))),
 vX 4 19])
 (.seq (.reg [vX 20 4,
 oX 21 (.bin .eql (.tmp 20) (.const (.int .u32 0)))])
 (.cond (.tmp 21)
 (.exit 0)
 (.skip))))))))
 (.seq (.reg [vX 22 3,
 vX 2 22])
 (.ret)))))))
theorem k135 : fnOk Tryz.prog 135 = some (M135, [.t 2], 23) := by kernel_rfl

theorem c_Root (n : Int) (hn : U64 n) (h : K (.int .u32 (isq n)) H) : HCalls Tryz.prog w0 135 [.int .u64 n] H K := by
  refine HL.hc k135 999 ?_; unfold M135
  refine loop_g 5 (fun s : Nat × Int => [(3, .int .u32 s.2), (4, .int .u32 (2 ^ s.1))]) (fun _ => H) (fun s => s.1 ≤ 31 ∧ 0 ≤ s.2 ∧ s.2 + 2 ^ (s.1 + 1) ≤ 4294967296 ∧ s.2 % 2 ^ (s.1 + 1) = 0 ∧ s.2 * s.2 ≤ n ∧ n < (s.2 + 2 ^ (s.1 + 1)) * (s.2 + 2 ^ (s.1 + 1))) (fun s => s.1) (31, 0) ?_ (Heap.Le.refl _) rfl ?_
  · unfold U64 at hn; simp; omega
  intro ⟨k, r⟩ f ⟨hk, h0, h1, h2, h3, h4⟩
  simp only at hk h0 h1 h2 h3 h4
  have hp : (0 : Int) < 2 ^ k := Int.pow_pos (by omega)
  have hp2 : (2 : Int) ^ (k + 1) = 2 * 2 ^ k := by rw [Int.pow_succ]; omega
  have e1 : bitsI .or .u32 r (2 ^ k) = r + 2 ^ k := or_pow r k h0 h2 (by omega)
  have hh : Keep (r % (2 * 2 ^ k) = 0) := by rw [hp2] at h2; exact h2
  obtain ⟨B, hB⟩ : ∃ B : Int, Keep (2 ^ k = B) := ⟨_, rfl⟩
  have hB' : (2 : Int) ^ k = B := hB
  simp only [hp2, hB'] at hp e1 hh h1 h4
  rw [hB']
  clear h2 hp2 hB'
  have e2 : IntKind.u64.wrap (r + B) = r + B := Bu.1 _ (by omega) (by omega)
  have hs := sq_mono (a := r + B) (b := 4294967295) (by omega) (by omega)
  have hs0 := Int.mul_nonneg (a := r + B) (b := r + B) (by omega) (by omega)
  have e3 : IntKind.u64.wrap ((r + B) * (r + B)) = (r + B) * (r + B) := Bu.1 _ (by omega) (by omega)
  rcases k with _ | k
  · have e4 : B.fdiv 2 = 0 := by rw [← (show (1 : Int) = B from hB)]; decide
    (all_goals (try simp only [S0,putAt,List.replicate,Int.reduceAdd,Int.reduceSub,Int.reduceMul,Int.reduceTDiv,Int.reduceTMod,Int.reduceMod,Int.reduceDiv,Nat.reduceLT,Nat.reduceEqDiff,Int.reduceLE,Int.reduceLT,Int.reduceToNat,Int.reduceNeg,Int.reduceEq,Nat.reduceLeDiff,Nat.reducePow,Int.reducePow,reduceIte,Nat.reduceSub,Nat.reduceAdd,Nat.reduceMul, *])); repeat' ((first | (with_reducible refine fun _ : True => ?_) | (with_reducible refine any_h ?_) | ((first | refine AllocQ_i ?_ | refine AllocO_i ?_); intro bk hb0 hbk; try simp only [set_none'] at hbk) | ((first | refine condS_i ?_ ?_ | refine pick_i ?_ ?_ | refine gS_it ?_ ?_ | refine gS_if ?_ ?_ | refine gP_it ?_ ?_ | refine gP_if ?_ ?_) <;> (intro hc; try simp only [Int.reduceLE,Int.reduceLT,Int.reduceEq,Sn] at hc)) | (with_reducible refine KP_i ?_ ?_; · exact aE) | (with_reducible refine And.intro ?_ ?_)) <;> (try simp only [S0,putAt,List.replicate,Int.reduceAdd,Int.reduceSub,Int.reduceMul,Int.reduceTDiv,Int.reduceTMod,Int.reduceMod,Int.reduceDiv,Nat.reduceLT,Nat.reduceEqDiff,Int.reduceLE,Int.reduceLT,Int.reduceToNat,Int.reduceNeg,Int.reduceEq,Nat.reduceLeDiff,Nat.reducePow,Int.reducePow,reduceIte,Nat.reduceSub,Nat.reduceAdd,Nat.reduceMul, *]))
    all_goals refine Fin_mk (Heap.Le.refl _) (K_int h ?_)
    all_goals have hB' : (1 : Int) = B := hB
    · exact (isq_uniq (by omega) (by omega) (by rw [show r + B + 1 = r + 2 * B by omega]; omega)).symm
    · exact (isq_uniq (by omega) (by omega) (by rw [show r + 1 = r + B by omega]; omega)).symm
  · obtain ⟨C, hC⟩ : ∃ C : Int, Keep (2 ^ k = C) := ⟨_, rfl⟩
    have hq : (0 : Int) < C := by have : (0 : Int) < 2 ^ k := Int.pow_pos (by omega); have hC' : (2 : Int) ^ k = C := hC; omega
    have hBC : Keep (B = 2 * C) := by show B = 2 * C; rw [← (show (2 : Int) ^ (k + 1) = B from hB), ← (show (2 : Int) ^ k = C from hC), Int.pow_succ]; omega
    have e4 : B.fdiv 2 = C := by rw [Int.fdiv_eq_ediv_of_nonneg _ (by omega), show B = 2 * C from hBC]; omega
    have e5 : ¬ (C = 0) := by omega
    have h2' : Keep (r % B = 0) := by show r % B = 0; rw [← Int.emod_emod_of_dvd r (show B ∣ 2 * B from ⟨2, by omega⟩), show r % (2 * B) = 0 from hh]; rfl
    (all_goals (try simp only [S0,putAt,List.replicate,Int.reduceAdd,Int.reduceSub,Int.reduceMul,Int.reduceTDiv,Int.reduceTMod,Int.reduceMod,Int.reduceDiv,Nat.reduceLT,Nat.reduceEqDiff,Int.reduceLE,Int.reduceLT,Int.reduceToNat,Int.reduceNeg,Int.reduceEq,Nat.reduceLeDiff,Nat.reducePow,Int.reducePow,reduceIte,Nat.reduceSub,Nat.reduceAdd,Nat.reduceMul, *])); repeat' ((first | (with_reducible refine fun _ : True => ?_) | (with_reducible refine any_h ?_) | ((first | refine AllocQ_i ?_ | refine AllocO_i ?_); intro bk hb0 hbk; try simp only [set_none'] at hbk) | ((first | refine condS_i ?_ ?_ | refine pick_i ?_ ?_ | refine gS_it ?_ ?_ | refine gS_if ?_ ?_ | refine gP_it ?_ ?_ | refine gP_if ?_ ?_) <;> (intro hc; try simp only [Int.reduceLE,Int.reduceLT,Int.reduceEq,Sn] at hc)) | (with_reducible refine KP_i ?_ ?_; · exact aE) | (with_reducible refine And.intro ?_ ?_)) <;> (try simp only [S0,putAt,List.replicate,Int.reduceAdd,Int.reduceSub,Int.reduceMul,Int.reduceTDiv,Int.reduceTMod,Int.reduceMod,Int.reduceDiv,Nat.reduceLT,Nat.reduceEqDiff,Int.reduceLE,Int.reduceLT,Int.reduceToNat,Int.reduceNeg,Int.reduceEq,Nat.reduceLeDiff,Nat.reducePow,Int.reducePow,reduceIte,Nat.reduceSub,Nat.reduceAdd,Nat.reduceMul, *]))
    · have hC' : (2 : Int) ^ k = C := hC
      have hB' : (2 : Int) ^ (k + 1) = B := hB
      refine Round_mk (k, r + B) (by simp only [hB']; exact ⟨by omega, by omega, by omega, by have h2'' : r % B = 0 := h2'; simpa using h2'', hc, by rw [show r + B + B = r + 2 * B by omega]; exact h4⟩) (by simp) (Heap.Le.refl _) (by simp only [hC', S0,putAt,List.replicate,Int.reduceAdd,Int.reduceSub,Int.reduceMul,Int.reduceTDiv,Int.reduceTMod,Int.reduceMod,Int.reduceDiv,Nat.reduceLT,Nat.reduceEqDiff,Int.reduceLE,Int.reduceLT,Int.reduceToNat,Int.reduceNeg,Int.reduceEq,Nat.reduceLeDiff,Nat.reducePow,Int.reducePow,reduceIte,Nat.reduceSub,Nat.reduceAdd,Nat.reduceMul]) rfl
    · have hC' : (2 : Int) ^ k = C := hC
      have hB' : (2 : Int) ^ (k + 1) = B := hB
      refine Round_mk (k, r) (by simp only [hB']; exact ⟨by omega, by omega, by omega, h2', h3, by omega⟩) (by simp) (Heap.Le.refl _) (by simp only [hC', S0,putAt,List.replicate,Int.reduceAdd,Int.reduceSub,Int.reduceMul,Int.reduceTDiv,Int.reduceTMod,Int.reduceMod,Int.reduceDiv,Nat.reduceLT,Nat.reduceEqDiff,Int.reduceLE,Int.reduceLT,Int.reduceToNat,Int.reduceNeg,Int.reduceEq,Nat.reduceLeDiff,Nat.reducePow,Int.reducePow,reduceIte,Nat.reduceSub,Nat.reduceAdd,Nat.reduceMul]) rfl
/-- The root of a number, and one over it. -/
def fsqrt (x : Int) : Int := if x ≤ 0 then 0 else isq (x * 65536)
def finv (x : Int) : Int := if x ≤ 0 then 2147483647 else raw (isq (281474976710656 / x))
theorem fsqrt_lt {x : Int} (hx : I32 x) : 0 ≤ fsqrt x ∧ fsqrt x < 16777216 := by
  unfold fsqrt I32 at *
  split
  · omega
  · exact ⟨(isq_spec (by omega)).1, isq_lt (by omega) (by omega) (by omega)⟩
/- maths Sqrt -/
def M87 : MC :=
  .seq (.reg [oX 2 (.mv (.const (.int .i32 0)))])
 (.seq (.seq (.reg [vX 3 0,
 oX 4 (.bin .leq (.tmp 3) (.const (.int .i32 0)))])
 (.cond (.tmp 4)
 (.seq (.reg [oX 2 (.mv (.const (.int .i32 0)))])
 (.ret))
 (.skip)))
 (.seq (.reg [vX 5 0,
 oX 6 (.conv .u64 (.tmp 5)),
 oX 7 (.bin .shl (.tmp 6) (.const (.int .u64 16))),
 oX 8 (.call 135 [(.tmp 7)]),
 oX 9 (.conv .i32 (.tmp 8)),
 vX 2 9])
 (.ret)))
theorem k87 : fnOk Tryz.prog 87 = some (M87, [.t 2], 10) := by kernel_rfl

theorem c_Sqrt (x : Int) (hx : I32 x) (h : K (.int .i32 (fsqrt x)) H) : HCalls Tryz.prog w0 87 [.int .i32 x] H K := by
  refine HL.hc k87 999 ?_; unfold M87
  have hq := fsqrt_lt hx
  have hx' := hx
  unfold I32 at hx'
  simp only [S0,putAt,List.replicate,Int.reduceAdd,Int.reduceSub,Int.reduceMul,Int.reduceTDiv,Int.reduceTMod,Int.reduceMod,Int.reduceDiv,Nat.reduceLT,Nat.reduceEqDiff,Int.reduceLE,Int.reduceLT,Int.reduceToNat,Int.reduceNeg,Int.reduceEq,Nat.reduceLeDiff,Nat.reducePow,Int.reducePow,reduceIte,Nat.reduceSub,Nat.reduceAdd,Nat.reduceMul, *]
  refine condS_i ?_ ?_ <;> (intro hc; simp only [decide_eq_true_eq, decide_eq_false_iff_not] at hc)
  · simp only [S0,putAt,List.replicate,Int.reduceAdd,Int.reduceSub,Int.reduceMul,Int.reduceTDiv,Int.reduceTMod,Int.reduceMod,Int.reduceDiv,Nat.reduceLT,Nat.reduceEqDiff,Int.reduceLE,Int.reduceLT,Int.reduceToNat,Int.reduceNeg,Int.reduceEq,Nat.reduceLeDiff,Nat.reducePow,Int.reducePow,reduceIte,Nat.reduceSub,Nat.reduceAdd,Nat.reduceMul, *]
    exact Fin_mk (Heap.Le.refl _) (K_int h (by unfold fsqrt; rw [if_pos hc]))
  · have e1 : IntKind.u64.wrap x = x := Bu.1 _ (by omega) (by omega)
    have e2 : IntKind.u64.wrap (x * 65536) = x * 65536 := Bu.1 _ (by omega) (by omega)
    have e5 : fsqrt x = isq (x * 65536) := by unfold fsqrt; rw [if_neg hc]
    have e3 : IntKind.i32.wrap (isq (x * 65536)) = isq (x * 65536) := Bw.2 _ (by omega) (by omega)
    clear hq
    (all_goals (try simp only [S0,putAt,List.replicate,Int.reduceAdd,Int.reduceSub,Int.reduceMul,Int.reduceTDiv,Int.reduceTMod,Int.reduceMod,Int.reduceDiv,Nat.reduceLT,Nat.reduceEqDiff,Int.reduceLE,Int.reduceLT,Int.reduceToNat,Int.reduceNeg,Int.reduceEq,Nat.reduceLeDiff,Nat.reducePow,Int.reducePow,reduceIte,Nat.reduceSub,Nat.reduceAdd,Nat.reduceMul, *])); repeat' ((first | (with_reducible refine fun _ : True => ?_) | refine c_Root _ (u64_of (by omega)) ?_ | (with_reducible refine any_h ?_) | ((first | refine AllocQ_i ?_ | refine AllocO_i ?_); intro bk hb0 hbk; try simp only [set_none'] at hbk) | ((first | refine condS_i ?_ ?_ | refine pick_i ?_ ?_ | refine gS_it ?_ ?_ | refine gS_if ?_ ?_ | refine gP_it ?_ ?_ | refine gP_if ?_ ?_) <;> (intro hc; try simp only [Int.reduceLE,Int.reduceLT,Int.reduceEq,Sn] at hc)) | (with_reducible refine KP_i ?_ ?_; · exact aE) | (with_reducible refine And.intro ?_ ?_)) <;> (try simp only [S0,putAt,List.replicate,Int.reduceAdd,Int.reduceSub,Int.reduceMul,Int.reduceTDiv,Int.reduceTMod,Int.reduceMod,Int.reduceDiv,Nat.reduceLT,Nat.reduceEqDiff,Int.reduceLE,Int.reduceLT,Int.reduceToNat,Int.reduceNeg,Int.reduceEq,Nat.reduceLeDiff,Nat.reducePow,Int.reducePow,reduceIte,Nat.reduceSub,Nat.reduceAdd,Nat.reduceMul, *]))
    exact Fin_mk (Heap.Le.refl _) (K_int h e5.symm)
theorem inv_fact {x : Int} (hx : I32 x) (hc : ¬ x ≤ 0) : IntKind.u64.wrap x = x ∧ IntKind.u64.wrap (Int.tdiv 281474976710656 x) = 281474976710656 / x ∧ U64 (281474976710656 / x) ∧ IntKind.i64.wrap (isq (281474976710656 / x)) = isq (281474976710656 / x) ∧ finv x = raw (isq (281474976710656 / x)) := by
  unfold I32 at hx
  have h1 : 0 ≤ 281474976710656 / x := Int.ediv_nonneg (by omega) (by omega)
  have h2 : 281474976710656 / x ≤ 281474976710656 := Int.ediv_le_self _ (by omega)
  have h3 := isq_lt (n := 281474976710656 / x) (k := 16777217) h1 (by omega) (by omega)
  have h4 := (isq_spec h1).1
  refine ⟨Bu.1 _ (by omega) (by omega), ?_, by unfold U64; omega, Bw.1 _ (by omega) (by omega), ?_⟩
  · rw [Int.tdiv_eq_ediv_of_nonneg (by omega)]; exact Bu.1 _ (by omega) (by omega)
  · unfold finv; rw [if_neg hc]
/- maths InvSqrt -/
def M88 : MC :=
  .seq (.reg [oX 2 (.mv (.const (.int .i32 0)))])
 (.seq (.seq (.reg [vX 3 0,
 oX 4 (.bin .leq (.tmp 3) (.const (.int .i32 0)))])
 (.cond (.tmp 4)
 (.seq (.reg [oX 2 (.mv (.const (.int .i32 2147483647)))])
 (.ret))
 (.skip)))
 (.seq (.reg [vX 5 0,
 oX 6 (.conv .u64 (.tmp 5)),
 oX 7 (.bin .quo (.const (.int .u64 281474976710656)) (.tmp 6)),
 oX 8 (.call 135 [(.tmp 7)]),
 oX 9 (.conv .i64 (.tmp 8)),
 oX 10 (.call 69 [(.tmp 9)]),
 vX 2 10])
 (.ret)))
theorem k88 : fnOk Tryz.prog 88 = some (M88, [.t 2], 11) := by kernel_rfl

theorem c_InvSqrt (x : Int) (hx : I32 x) (h : K (.int .i32 (finv x)) H) : HCalls Tryz.prog w0 88 [.int .i32 x] H K := by
  refine HL.hc k88 999 ?_; unfold M88
  simp only [S0,putAt,List.replicate,Int.reduceAdd,Int.reduceSub,Int.reduceMul,Int.reduceTDiv,Int.reduceTMod,Int.reduceMod,Int.reduceDiv,Nat.reduceLT,Nat.reduceEqDiff,Int.reduceLE,Int.reduceLT,Int.reduceToNat,Int.reduceNeg,Int.reduceEq,Nat.reduceLeDiff,Nat.reducePow,Int.reducePow,reduceIte,Nat.reduceSub,Nat.reduceAdd,Nat.reduceMul, *]
  refine condS_i ?_ ?_ <;> (intro hc; simp only [decide_eq_true_eq, decide_eq_false_iff_not] at hc)
  · simp only [S0,putAt,List.replicate,Int.reduceAdd,Int.reduceSub,Int.reduceMul,Int.reduceTDiv,Int.reduceTMod,Int.reduceMod,Int.reduceDiv,Nat.reduceLT,Nat.reduceEqDiff,Int.reduceLE,Int.reduceLT,Int.reduceToNat,Int.reduceNeg,Int.reduceEq,Nat.reduceLeDiff,Nat.reducePow,Int.reducePow,reduceIte,Nat.reduceSub,Nat.reduceAdd,Nat.reduceMul, *]
    exact Fin_mk (Heap.Le.refl _) (K_int h (by unfold finv; rw [if_pos hc]))
  · obtain ⟨e1, e2, e3, e4, e5⟩ := inv_fact hx hc
    have e6 : ¬ x = 0 := by omega
    (all_goals (try simp only [S0,putAt,List.replicate,Int.reduceAdd,Int.reduceSub,Int.reduceMul,Int.reduceTDiv,Int.reduceTMod,Int.reduceMod,Int.reduceDiv,Nat.reduceLT,Nat.reduceEqDiff,Int.reduceLE,Int.reduceLT,Int.reduceToNat,Int.reduceNeg,Int.reduceEq,Nat.reduceLeDiff,Nat.reducePow,Int.reducePow,reduceIte,Nat.reduceSub,Nat.reduceAdd,Nat.reduceMul, *])); repeat' ((first | (with_reducible refine fun _ : True => ?_) | refine c_Root _ e3 ?_ | refine c_Raw _ ?_ | (with_reducible refine any_h ?_) | ((first | refine AllocQ_i ?_ | refine AllocO_i ?_); intro bk hb0 hbk; try simp only [set_none'] at hbk) | ((first | refine condS_i ?_ ?_ | refine pick_i ?_ ?_ | refine gS_it ?_ ?_ | refine gS_if ?_ ?_ | refine gP_it ?_ ?_ | refine gP_if ?_ ?_) <;> (intro hc; try simp only [Int.reduceLE,Int.reduceLT,Int.reduceEq,Sn] at hc)) | (with_reducible refine KP_i ?_ ?_; · exact aE) | (with_reducible refine And.intro ?_ ?_)) <;> (try simp only [S0,putAt,List.replicate,Int.reduceAdd,Int.reduceSub,Int.reduceMul,Int.reduceTDiv,Int.reduceTMod,Int.reduceMod,Int.reduceDiv,Nat.reduceLT,Nat.reduceEqDiff,Int.reduceLE,Int.reduceLT,Int.reduceToNat,Int.reduceNeg,Int.reduceEq,Nat.reduceLeDiff,Nat.reducePow,Int.reducePow,reduceIte,Nat.reduceSub,Nat.reduceAdd,Nat.reduceMul, *]))
    exact Fin_mk (Heap.Le.refl _) (K_int h e5.symm)

abbrev tabV : Value := .agg #[.int .i64 1518500250, .int .i64 1276901417, .int .i64 1170923762, .int .i64 1121280436, .int .i64 1097253708, .int .i64 1085434106, .int .i64 1079572136, .int .i64 1076653033, .int .i64 1075196443, .int .i64 1074468888, .int .i64 1074105294, .int .i64 1073923544, .int .i64 1073832680, .int .i64 1073787251, .int .i64 1073764537, .int .i64 1073753181]
/- maths table -/
def M136 : MC :=
  .seq (.reg [oX 0 (.alloc 139 [(.int .i64 0),(.int .i64 0),(.int .i64 0),(.int .i64 0),(.int .i64 0),(.int .i64 0),(.int .i64 0),(.int .i64 0),(.int .i64 0),(.int .i64 0),(.int .i64 0),(.int .i64 0),(.int .i64 0),(.int .i64 0),(.int .i64 0),(.int .i64 0)])])
 (.seq (.reg [oX 1 (.build [(.int .i64 0),(.int .i64 0),(.int .i64 0),(.int .i64 0),(.int .i64 0),(.int .i64 0),(.int .i64 0),(.int .i64 0),(.int .i64 0),(.int .i64 0),(.int .i64 0),(.int .i64 0),(.int .i64 0),(.int .i64 0),(.int .i64 0),(.int .i64 0)] [(0,1,(kX 1518500250)),(1,1,(kX 1276901417)),(2,1,(kX 1170923762)),(3,1,(kX 1121280436)),(4,1,(kX 1097253708)),(5,1,(kX 1085434106)),(6,1,(kX 1079572136)),(7,1,(kX 1076653033)),(8,1,(kX 1075196443)),(9,1,(kX 1074468888)),(10,1,(kX 1074105294)),(11,1,(kX 1073923544)),(12,1,(kX 1073832680)),(13,1,(kX 1073787251)),(14,1,(kX 1073764537)),(15,1,(kX 1073753181))]),
 ⟨none,.stn 16 (.tmp 0) (.tmp 1),none⟩])
 (.ret))
theorem k136 : fnOk Tryz.prog 136 = some (M136, [.cn 16 0], 2) := by kernel_rfl

theorem c_table (h : K tabV H) : HCalls Tryz.prog w0 136 [] H K := by
  refine HL.hc k136 999 ?_; unfold M136
  (all_goals (try simp only [S0,putAt,List.replicate,Int.reduceAdd,Int.reduceSub,Int.reduceMul,Int.reduceTDiv,Int.reduceTMod,Int.reduceMod,Int.reduceDiv,Nat.reduceLT,Nat.reduceEqDiff,Int.reduceLE,Int.reduceLT,Int.reduceToNat,Int.reduceNeg,Int.reduceEq,Nat.reduceLeDiff,Nat.reducePow,Int.reducePow,reduceIte,Nat.reduceSub,Nat.reduceAdd,Nat.reduceMul, *])); repeat' ((first | (with_reducible refine fun _ : True => ?_) | (with_reducible refine any_h ?_) | ((first | refine AllocQ_i ?_ | refine AllocO_i ?_); intro bk hb0 hbk; try simp only [set_none'] at hbk) | ((first | refine condS_i ?_ ?_ | refine pick_i ?_ ?_ | refine gS_it ?_ ?_ | refine gS_if ?_ ?_ | refine gP_it ?_ ?_ | refine gP_if ?_ ?_) <;> (intro hc; try simp only [Int.reduceLE,Int.reduceLT,Int.reduceEq,Sn] at hc)) | (with_reducible refine KP_i ?_ ?_; · exact aE) | (with_reducible refine And.intro ?_ ?_)) <;> (try simp only [S0,putAt,List.replicate,Int.reduceAdd,Int.reduceSub,Int.reduceMul,Int.reduceTDiv,Int.reduceTMod,Int.reduceMod,Int.reduceDiv,Nat.reduceLT,Nat.reduceEqDiff,Int.reduceLE,Int.reduceLT,Int.reduceToNat,Int.reduceNeg,Int.reduceEq,Nat.reduceLeDiff,Nat.reducePow,Int.reducePow,reduceIte,Nat.reduceSub,Nat.reduceAdd,Nat.reduceMul, *]))
  exact Fin_mk aE h
theorem tab_at : ∀ k : Nat, k < 16 → ([.int .i64 1518500250, .int .i64 1276901417, .int .i64 1170923762, .int .i64 1121280436, .int .i64 1097253708, .int .i64 1085434106, .int .i64 1079572136, .int .i64 1076653033, .int .i64 1075196443, .int .i64 1074468888, .int .i64 1074105294, .int .i64 1073923544, .int .i64 1073832680, .int .i64 1073787251, .int .i64 1073764537, .int .i64 1073753181] : List Value)[k]? = some (.int .i64 (tt k)) := by
  intro k hk
  rcases (by omega : k = 0 ∨ k = 1 ∨ k = 2 ∨ k = 3 ∨ k = 4 ∨ k = 5 ∨ k = 6 ∨ k = 7 ∨ k = 8 ∨ k = 9 ∨ k = 10 ∨ k = 11 ∨ k = 12 ∨ k = 13 ∨ k = 14 ∨ k = 15) with rfl | rfl | rfl | rfl | rfl | rfl | rfl | rfl | rfl | rfl | rfl | rfl | rfl | rfl | rfl | rfl <;> rfl
theorem optQ_of {α : Type} {o : Option α} {v : α} {φ : α → Prop} (h : o = some v) (hv : φ v) : optQ o φ := by rw [h]; exact hv
theorem expo_I32 {x : Int} (hx : I32 x) : I32 (expo x) := by
  unfold expo
  split
  · unfold I32; omega
  · split
    · unfold I32; omega
    · have h1 := exF_le x 16 0 1073741824 rfl (by omega) (by decide)
      have h2 : tb 16 ≤ 2147483647 := by decide
      have h3 := Int.ediv_nonneg (a := exF x 16 0 1073741824) (b := 2 ^ (14 - x / 65536).toNat) h1.1 (Int.le_of_lt (Int.pow_pos (by omega)))
      have h4 := Int.ediv_le_self (a := exF x 16 0 1073741824) (2 ^ (14 - x / 65536).toNat) h1.1
      unfold I32; omega
/- maths Exp2 -/
def M89 : MC :=
  .seq (.reg [oX 2 (.mv (.const (.int .i32 0)))])
 (.seq (.reg [vX 7 0,
 oX 8 (.bin .shr (.tmp 7) (.const (.int .u64 16))),
 oX 9 (.conv .i64 (.tmp 8)),
 vX 3 9])
 (.seq (.block 0 (.seq (.reg [vX 11 3,
 oX 12 (bK .geq 11 15),
 vX 10 12])
 (.cond (.tmp 10)
 (.seq (.reg [oX 2 (.mv (.const (.int .i32 2147483647)))])
 (.ret))
 (.seq (.reg [vX 14 3,
 oX 15 (.bin .lss (.tmp 14) (kX (-30))),
 vX 13 15])
 (.cond (.tmp 13)
 (.seq (.reg [oX 2 (.mv (.const (.int .i32 0)))])
 (.ret))
 (.skip))))))
 (.seq (.reg [oX 4 (.mv (kX 1073741824))])
 (.seq (.seq (.reg [oX 16 (.call 136 []),
 oX 17 (.mv (kX 0))])
 (.block 1 (.loop (.seq (.reg [oX 18 (bK .lss 17 16)])
 (.seq (.cond (.tmp 18)
 (.skip)
 (.exit 1))
 (.seq (.block 2 (.seq (.reg [vX 19 17,
 oX 20 (.ix 16 (.tmp 16) (.tmp 17)),
 vX 5 19,
 vX 6 20])
 (.seq (.reg [vX 21 0,
 vX 22 5,
 oX 23 (.bin .sub (kX 15) (.tmp 22)),
 oX 24 (bX .shr 21 23),
 oX 25 (.bin .and (.tmp 24) (.const (.int .i32 1))),
 oX 26 (.bin .eql (.tmp 25) (.const (.int .i32 1)))])
 (.cond (.tmp 26)
 (.reg [vX 27 4,
 vX 28 6,
 oX 29 (bX .mul 27 28),
 oX 30 (.bin .shr (.tmp 29) (.const (.int .u64 30))),
 vX 4 30])
 (.skip)))))
 (.reg [oX 31 (bK .add 17 1),
 vX 17 31])))))))
 (.seq (.reg [vX 32 4,
 vX 33 3,
 oX 34 (.bin .sub (kX 14) (.tmp 33)),
 oX 35 (bX .shr 32 34),
 oX 36 (.conv .i32 (.tmp 35)),
 vX 2 36])
 (.ret))))))
theorem k89 : fnOk Tryz.prog 89 = some (M89, [.t 2], 37) := by kernel_rfl

theorem c_Exp2 (x : Int) (hx : I32 x) (h : K (.int .i32 (expo x)) H) : HCalls Tryz.prog w0 89 [.int .i32 x] H K := by
  have hx' := hx
  unfold I32 at hx'
  have e0 : ∀ a : Int, a.fdiv 65536 = a / 65536 := fun a => Int.fdiv_eq_ediv_of_nonneg a (by omega)
  have e1 : IntKind.i64.wrap (x / 65536) = x / 65536 := Bw.1 _ (by omega) (by omega)
  refine HL.hc k89 999 ?_; unfold M89
  (all_goals (try simp only [S0,putAt,List.replicate,Int.reduceAdd,Int.reduceSub,Int.reduceMul,Int.reduceTDiv,Int.reduceTMod,Int.reduceMod,Int.reduceDiv,Nat.reduceLT,Nat.reduceEqDiff,Int.reduceLE,Int.reduceLT,Int.reduceToNat,Int.reduceNeg,Int.reduceEq,Nat.reduceLeDiff,Nat.reducePow,Int.reducePow,reduceIte,Nat.reduceSub,Nat.reduceAdd,Nat.reduceMul, *])); repeat' ((first | (with_reducible refine fun _ : True => ?_) | refine c_table ?_ | (with_reducible refine any_h ?_) | ((first | refine AllocQ_i ?_ | refine AllocO_i ?_); intro bk hb0 hbk; try simp only [set_none'] at hbk) | ((first | refine condS_i ?_ ?_ | refine pick_i ?_ ?_ | refine gS_it ?_ ?_ | refine gS_if ?_ ?_ | refine gP_it ?_ ?_ | refine gP_if ?_ ?_) <;> (intro hc; try simp only [Int.reduceLE,Int.reduceLT,Int.reduceEq,Sn] at hc)) | (with_reducible refine KP_i ?_ ?_; · exact aE) | (with_reducible refine And.intro ?_ ?_)) <;> (try simp only [S0,putAt,List.replicate,Int.reduceAdd,Int.reduceSub,Int.reduceMul,Int.reduceTDiv,Int.reduceTMod,Int.reduceMod,Int.reduceDiv,Nat.reduceLT,Nat.reduceEqDiff,Int.reduceLE,Int.reduceLT,Int.reduceToNat,Int.reduceNeg,Int.reduceEq,Nat.reduceLeDiff,Nat.reducePow,Int.reducePow,reduceIte,Nat.reduceSub,Nat.reduceAdd,Nat.reduceMul, *]))
  · exact Fin_mk (Heap.Le.refl _) (K_int h (by unfold expo; rw [if_pos (by omega)]))
  · exact Fin_mk (Heap.Le.refl _) (K_int h (by unfold expo; rw [if_neg (by omega), if_pos (by omega)]))
  rename_i hc1
  refine loop_g 18 (fun s : Nat × Int × Value × Value => [(4, .int .i64 s.2.1), (5, s.2.2.1), (6, s.2.2.2), (17, .int .i64 (s.1 : Nat))]) (fun _ => H) (fun s => s.1 ≤ 16 ∧ 0 ≤ s.2.1 ∧ s.2.1 ≤ tb s.1 ∧ Keep (exF x (16 - s.1) s.1 s.2.1 = exF x 16 0 1073741824)) (fun s => 16 - s.1) (0, 1073741824, undef, undef) ⟨by decide, by decide, by decide, rfl⟩ (Heap.Le.refl _) rfl ?_
  intro ⟨k, r, u, v⟩ f ⟨hk, h0, h1, hE⟩
  simp only at hk h0 h1 hE
  have e2 : ∀ a : Int, a.fdiv 1073741824 = a / 1073741824 := fun a => Int.fdiv_eq_ediv_of_nonneg a (by omega)
  rcases Nat.lt_or_ge k 16 with hk' | hk'
  · obtain ⟨⟨g1, g2⟩, g3, g4, g5, g6⟩ := t_fact k hk'
    obtain ⟨s1, s2, s3, s4, s5⟩ := ex_step (x := x) hk' ⟨h0, h1⟩
    have t1 : (k : Int) < 16 := by omega
    have t2 := tab_at k hk'
    have t3 : IntKind.i64.wrap (15 - (k : Int)) = 15 - k := Bw.1 _ (by omega) (by omega)
    have t4 : (0 : Int) ≤ 15 - k := by omega
    have t5 : (15 - (k : Int)).toNat ≤ 32 := by omega
    have t6 : x.fdiv (2 ^ (15 - (k : Int)).toNat) = x / td k := by rw [Int.fdiv_eq_ediv_of_nonneg _ (Int.le_of_lt (Int.pow_pos (by omega))), g3, show (15 - (k : Int)).toNat = 15 - k by omega]
    have t7 : bitsI .and .i32 (x / td k) 1 = x / td k % 2 := and_one _ _ (.inl rfl)
    have t8 : IntKind.i64.wrap (r * tt k) = r * tt k := Bw.1 _ (by omega) (by omega)
    have t9 : IntKind.i64.wrap ((k : Int) + 1) = (k : Int) + 1 := Bw.1 _ (by omega) (by omega)
    have hE' : Keep (exF x (16 - (k + 1)) (k + 1) (if x / td k % 2 = 1 then r * tt k / 1073741824 else r) = exF x 16 0 1073741824) := by
      rw [show 16 - k = (16 - (k + 1)) + 1 by omega] at hE; exact hE
    clear g1 g2 g3 g4 g5 g6 hE
    (all_goals (try simp only [S0,putAt,List.replicate,Int.reduceAdd,Int.reduceSub,Int.reduceMul,Int.reduceTDiv,Int.reduceTMod,Int.reduceMod,Int.reduceDiv,Nat.reduceLT,Nat.reduceEqDiff,Int.reduceLE,Int.reduceLT,Int.reduceToNat,Int.reduceNeg,Int.reduceEq,Nat.reduceLeDiff,Nat.reducePow,Int.reducePow,reduceIte,Nat.reduceSub,Nat.reduceAdd,Nat.reduceMul, *])); repeat' ((first | (with_reducible refine fun _ : True => ?_) | (with_reducible refine any_h ?_) | ((first | refine AllocQ_i ?_ | refine AllocO_i ?_); intro bk hb0 hbk; try simp only [set_none'] at hbk) | ((first | refine condS_i ?_ ?_ | refine pick_i ?_ ?_ | refine gS_it ?_ ?_ | refine gS_if ?_ ?_ | refine gP_it ?_ ?_ | refine gP_if ?_ ?_) <;> (intro hc; try simp only [Int.reduceLE,Int.reduceLT,Int.reduceEq,Sn] at hc)) | (with_reducible refine KP_i ?_ ?_; · exact aE) | (with_reducible refine And.intro ?_ ?_)) <;> (try simp only [S0,putAt,List.replicate,Int.reduceAdd,Int.reduceSub,Int.reduceMul,Int.reduceTDiv,Int.reduceTMod,Int.reduceMod,Int.reduceDiv,Nat.reduceLT,Nat.reduceEqDiff,Int.reduceLE,Int.reduceLT,Int.reduceToNat,Int.reduceNeg,Int.reduceEq,Nat.reduceLeDiff,Nat.reducePow,Int.reducePow,reduceIte,Nat.reduceSub,Nat.reduceAdd,Nat.reduceMul, *]))
    · exact Round_mk (k + 1, r * tt k / 1073741824, _, _) ⟨by omega, s1, s2, by rw [if_pos hc] at hE'; exact hE'⟩ (by simp only; omega) (Heap.Le.refl _) rfl rfl
    · exact Round_mk (k + 1, r, _, _) ⟨by omega, h0, s3, by rw [if_neg hc] at hE'; exact hE'⟩ (by simp only; omega) (Heap.Le.refl _) rfl rfl
  · obtain rfl : k = 16 := by omega
    have hr : r = exF x 16 0 1073741824 := hE
    have t1 : IntKind.i64.wrap (14 - x / 65536) = 14 - x / 65536 := Bw.1 _ (by omega) (by omega)
    have t2 : 0 ≤ 14 - x / 65536 := by omega
    have t3 : (14 - x / 65536).toNat ≤ 64 := by omega
    have hb : tb 16 ≤ 2147483647 := by decide
    obtain ⟨q, hq⟩ : ∃ q : Int, Keep (q = r / 2 ^ (14 - x / 65536).toNat) := ⟨_, rfl⟩
    have hq' : q = r / 2 ^ (14 - x / 65536).toNat := hq
    have t4 : r.fdiv (2 ^ (14 - x / 65536).toNat) = q := by rw [Int.fdiv_eq_ediv_of_nonneg _ (Int.le_of_lt (Int.pow_pos (by omega))), hq']
    have q1 : 0 ≤ q := by rw [hq']; exact Int.ediv_nonneg h0 (Int.le_of_lt (Int.pow_pos (by omega)))
    have q2 : q ≤ r := by rw [hq']; exact Int.ediv_le_self _ h0
    have t5 : IntKind.i32.wrap q = q := Bw.2 _ (by omega) (by omega)
    have hfin : Keep (q = expo x) := by show q = expo x; unfold expo; rw [if_neg (by omega), if_neg (by omega), ← hr]; exact hq
    clear hr hq'
    (all_goals (try simp only [S0,putAt,List.replicate,Int.reduceAdd,Int.reduceSub,Int.reduceMul,Int.reduceTDiv,Int.reduceTMod,Int.reduceMod,Int.reduceDiv,Nat.reduceLT,Nat.reduceEqDiff,Int.reduceLE,Int.reduceLT,Int.reduceToNat,Int.reduceNeg,Int.reduceEq,Nat.reduceLeDiff,Nat.reducePow,Int.reducePow,reduceIte,Nat.reduceSub,Nat.reduceAdd,Nat.reduceMul, *])); repeat' ((first | (with_reducible refine fun _ : True => ?_) | (with_reducible refine any_h ?_) | ((first | refine AllocQ_i ?_ | refine AllocO_i ?_); intro bk hb0 hbk; try simp only [set_none'] at hbk) | ((first | refine condS_i ?_ ?_ | refine pick_i ?_ ?_ | refine gS_it ?_ ?_ | refine gS_if ?_ ?_ | refine gP_it ?_ ?_ | refine gP_if ?_ ?_) <;> (intro hc; try simp only [Int.reduceLE,Int.reduceLT,Int.reduceEq,Sn] at hc)) | (with_reducible refine KP_i ?_ ?_; · exact aE) | (with_reducible refine And.intro ?_ ?_)) <;> (try simp only [S0,putAt,List.replicate,Int.reduceAdd,Int.reduceSub,Int.reduceMul,Int.reduceTDiv,Int.reduceTMod,Int.reduceMod,Int.reduceDiv,Nat.reduceLT,Nat.reduceEqDiff,Int.reduceLE,Int.reduceLT,Int.reduceToNat,Int.reduceNeg,Int.reduceEq,Nat.reduceLeDiff,Nat.reducePow,Int.reducePow,reduceIte,Nat.reduceSub,Nat.reduceAdd,Nat.reduceMul, *]))
    exact Fin_mk (Heap.Le.refl _) (K_int h hfin)

/- math/bits Len32 -/
def M137 : MC :=
  .seq (.reg [oX 2 (.mv (kX 0))])
 (.seq (.seq (.reg [vX 3 0,
 oX 4 (.bin .geq (.tmp 3) (.const (.int .u32 65536)))])
 (.cond (.tmp 4)
 (.seq (.reg [vX 5 0,
 oX 6 (.bin .shr (.tmp 5) (.const (.int .u64 16))),
 vX 0 6])
 (.reg [oX 2 (.mv (kX 16))]))
 (.skip)))
 (.seq (.seq (.reg [vX 7 0,
 oX 8 (.bin .geq (.tmp 7) (.const (.int .u32 256)))])
 (.cond (.tmp 8)
 (.seq (.reg [vX 9 0,
 oX 10 (.bin .shr (.tmp 9) (.const (.int .u64 8))),
 vX 0 10])
 (.reg [vX 11 2,
 oX 12 (bK .add 11 8),
 vX 2 12]))
 (.skip)))
 (.seq (.reg [vX 13 2,
 vX 14 0,
 oX 15 (.conv .u8 (.tmp 14)),
 ⟨(some 16),.ixs (.const (.string ⟨⟨[0,1,2,2,3,3,3,3,4,4,4,4,4,4,4,4,5,5,5,5,5,5,5,5,5,5,5,5,5,5,5,5,6,6,6,6,6,6,6,6,6,6,6,6,6,6,6,6,6,6,6,6,6,6,6,6,6,6,6,6,6,6,6,6,7,7,7,7,7,7,7,7,7,7,7,7,7,7,7,7,7,7,7,7,7,7,7,7,7,7,7,7,7,7,7,7,7,7,7,7,7,7,7,7,7,7,7,7,7,7,7,7,7,7,7,7,7,7,7,7,7,7,7,7,7,7,7,7,8,8,8,8,8,8,8,8,8,8,8,8,8,8,8,8,8,8,8,8,8,8,8,8,8,8,8,8,8,8,8,8,8,8,8,8,8,8,8,8,8,8,8,8,8,8,8,8,8,8,8,8,8,8,8,8,8,8,8,8,8,8,8,8,8,8,8,8,8,8,8,8,8,8,8,8,8,8,8,8,8,8,8,8,8,8,8,8,8,8,8,8,8,8,8,8,8,8,8,8,8,8,8,8,8,8,8,8,8,8,8,8,8,8,8,8,8,8,8,8,8,8,8,8,8,8,8,8]⟩⟩)) (.tmp 15),none⟩,
 oX 17 (.conv .i64 (.tmp 16)),
 oX 18 (bX .add 13 17),
 vX 2 18])
 (.ret))))
theorem k137 : fnOk Tryz.prog 137 = some (M137, [.t 2], 19) := by kernel_rfl

theorem c_Len32 (x : Int) (h0 : 0 < x) (h1 : x ≤ 2147483647) (h : K (.int .i64 (elog x + 1)) H) : HCalls Tryz.prog w0 137 [.int .u32 x] H K := by
  have a1 : ∀ a : Int, a.fdiv 65536 = a / 65536 := fun a => Int.fdiv_eq_ediv_of_nonneg a (by omega)
  have a2 : ∀ a : Int, a.fdiv 256 = a / 256 := fun a => Int.fdiv_eq_ediv_of_nonneg a (by omega)
  have nn : ∀ z : Int, 0 ≤ IntKind.u8.wrap z := fun z => by simp [IntKind.wrap, IntKind.bits, IntKind.signed]; omega
  have fin : ∀ (n : Nat) (z m : Int), m = n → 0 < z → z < 256 → (2 : Int) ^ n * z ≤ x ∧ x < 2 ^ n * (z + 1) → n ≤ 24 → ∀ φ : UInt8 → Prop, (∀ v : UInt8, IntKind.i64.wrap (m + IntKind.i64.wrap (v.toNat : Int)) = elog x + 1 → φ v) → optQ (lenL[(IntKind.u8.wrap z).toNat]?) φ := by
    intro n z m hm y0 y1 hy hn φ hφ
    obtain ⟨y, rfl⟩ := Int.eq_ofNat_of_zero_le (Int.le_of_lt y0)
    subst hm
    have e1 : (IntKind.u8.wrap (y : Int)).toNat = y := by rw [Bu.2.2 _ (by omega) (by omega)]; rfl
    rw [e1]
    refine optQ_of (len_tab y (by omega)) (hφ _ ?_)
    have := len_le y (by omega)
    have e2 : ((UInt8.ofNat (len8 y)).toNat : Int) = len8 y := by rw [UInt8.toNat_ofNat']; omega
    rw [e2, Bw.1 (len8 y : Int) (by omega) (by omega), Bw.1 _ (by omega) (by omega)]
    exact len_hi n y (by omega) hy
  refine HL.hc k137 999 ?_; unfold M137
  (all_goals (try simp only [S0,putAt,List.replicate,Int.reduceAdd,Int.reduceSub,Int.reduceMul,Int.reduceTDiv,Int.reduceTMod,Int.reduceMod,Int.reduceDiv,Nat.reduceLT,Nat.reduceEqDiff,Int.reduceLE,Int.reduceLT,Int.reduceToNat,Int.reduceNeg,Int.reduceEq,Nat.reduceLeDiff,Nat.reducePow,Int.reducePow,reduceIte,Nat.reduceSub,Nat.reduceAdd,Nat.reduceMul, *])); repeat' ((first | (with_reducible refine fun _ : True => ?_) | (with_reducible refine any_h ?_) | ((first | refine AllocQ_i ?_ | refine AllocO_i ?_); intro bk hb0 hbk; try simp only [set_none'] at hbk) | ((first | refine condS_i ?_ ?_ | refine pick_i ?_ ?_ | refine gS_it ?_ ?_ | refine gS_if ?_ ?_ | refine gP_it ?_ ?_ | refine gP_if ?_ ?_) <;> (intro hc; try simp only [Int.reduceLE,Int.reduceLT,Int.reduceEq,Sn] at hc)) | (with_reducible refine KP_i ?_ ?_; · exact aE) | (with_reducible refine And.intro ?_ ?_)) <;> (try simp only [S0,putAt,List.replicate,Int.reduceAdd,Int.reduceSub,Int.reduceMul,Int.reduceTDiv,Int.reduceTMod,Int.reduceMod,Int.reduceDiv,Nat.reduceLT,Nat.reduceEqDiff,Int.reduceLE,Int.reduceLT,Int.reduceToNat,Int.reduceNeg,Int.reduceEq,Nat.reduceLeDiff,Nat.reducePow,Int.reducePow,reduceIte,Nat.reduceSub,Nat.reduceAdd,Nat.reduceMul, *]))
  all_goals first
    | exact nn _
    | exact fin 24 _ _ rfl (by omega) (by omega) (by omega) (by omega) _ fun v hv => Fin_mk (Heap.Le.refl _) (K_int h hv)
    | exact fin 16 _ _ rfl (by omega) (by omega) (by omega) (by omega) _ fun v hv => Fin_mk (Heap.Le.refl _) (K_int h hv)
    | exact fin 8 _ _ rfl (by omega) (by omega) (by omega) (by omega) _ fun v hv => Fin_mk (Heap.Le.refl _) (K_int h hv)
    | exact fin 0 _ _ rfl (by omega) (by omega) (by omega) (by omega) _ fun v hv => Fin_mk (Heap.Le.refl _) (K_int h hv)

theorem lg_step {m : Int} (h : 1073741824 ≤ m ∧ m < 2147483648) : 1152921504606846976 ≤ m * m ∧ m * m < 4611686018427387904 := by
  have h1 := sq_mono (a := 1073741824) (b := m) (by omega) h.1
  have h2 := sq_mono (a := m) (b := 2147483647) (by omega) (by omega)
  omega
theorem flog_in {x : Int} (h0 : 0 < x) (h1 : x ≤ 2147483647) : ∀ (n : Nat) (B m d : Int), B * 2 ^ n = 65536 → 1 ≤ B → -16 * B ≤ d → d < 16 * B → -1048576 ≤ lg n m d ∧ lg n m d < 1048576
  | 0, B, m, d, hB, _, hd, hd' => by
    simp at hB
    simp only [lg]; omega
  | n + 1, B, m, d, hB, h1, hd, hd' => by
    have hB' : 2 * B * 2 ^ n = 65536 := by rw [← hB, Int.pow_succ, Int.mul_comm 2 B, Int.mul_assoc, Int.mul_comm 2]
    unfold lg
    split
    · exact flog_in h0 ‹_› n (2 * B) _ _ hB' (by omega) (by omega) (by omega)
    · exact flog_in h0 ‹_› n (2 * B) _ _ hB' (by omega) (by omega) (by omega)
theorem B_le {B : Int} {n : Nat} (h : B * 2 ^ n = 65536) (h1 : 1 ≤ B) : B ≤ 65536 := by
  have hp : (0 : Int) < 2 ^ n := Int.pow_pos (by omega)
  have h2 : B * 1 ≤ B * 2 ^ n := Int.mul_le_mul_of_nonneg_left (by omega) (by omega)
  omega
theorem flog_I32 {x : Int} (hx : I32 x) : I32 (flog x) := by
  unfold flog
  split
  · unfold I32; omega
  · unfold I32 at hx
    have he := elog_lt (x := x) (by omega) (by omega)
    have := flog_in (x := x) (by omega) (by omega) 16 1 (x * 2 ^ (30 - elog x)) ((elog x : Int) - 16) (by decide) (by omega) (by omega) (by omega)
    unfold I32; omega
/- maths Log2 -/
def M90 : MC :=
  .seq (.reg [oX 2 (.mv (.const (.int .i32 0)))])
 (.seq (.seq (.reg [vX 6 0,
 oX 7 (.bin .leq (.tmp 6) (.const (.int .i32 0)))])
 (.cond (.tmp 7)
 (.seq (.reg [oX 2 (.mv (.const (.int .i32 (-2147483648))))])
 (.ret))
 (.skip)))
 (.seq (.reg [vX 8 0,
 oX 9 (.conv .u32 (.tmp 8)),
 oX 10 (.call 137 [(.tmp 9)]),
 oX 11 (bK .sub 10 1),
 vX 3 11])
 (.seq (.reg [vX 12 0,
 oX 13 (.conv .i64 (.tmp 12)),
 vX 14 3,
 oX 15 (.bin .sub (kX 30) (.tmp 14)),
 oX 16 (bX .shl 13 15),
 vX 4 16])
 (.seq (.reg [vX 17 3,
 oX 18 (bK .sub 17 16),
 vX 5 18])
 (.seq (.seq (.reg [oX 19 (.mv (kX 0))])
 (.block 0 (.loop (.seq (.reg [oX 20 (bK .lss 19 16)])
 (.seq (.cond (.tmp 20)
 (.skip)
 (.exit 0))
 (.seq (.block 1 (.seq (.reg [vX 21 4,
 vX 22 4,
 oX 23 (bX .mul 21 22),
 oX 24 (.bin .shr (.tmp 23) (.const (.int .u64 30))),
 vX 4 24])
 (.seq (.reg [vX 25 5,
 oX 26 (.bin .shl (.tmp 25) (.const (.int .u64 1))),
 vX 5 26])
 (.seq (.reg [vX 27 4,
 oX 28 (bK .geq 27 2147483648)])
 (.cond (.tmp 28)
 (.seq (.reg [vX 29 4,
 oX 30 (.bin .shr (.tmp 29) (.const (.int .u64 1))),
 vX 4 30])
 (.reg [vX 31 5,
 oX 32 (bK .or 31 1),
 vX 5 32]))
 (.skip))))))
 (.reg [oX 33 (bK .add 19 1),
 vX 19 33])))))))
 (.seq (.reg [vX 34 5,
 oX 35 (.conv .i32 (.tmp 34)),
 vX 2 35])
 (.ret)))))))
theorem k90 : fnOk Tryz.prog 90 = some (M90, [.t 2], 36) := by kernel_rfl

theorem c_Log2 (x : Int) (hx : I32 x) (h : K (.int .i32 (flog x)) H) : HCalls Tryz.prog w0 90 [.int .i32 x] H K := by
  have hx' := hx
  unfold I32 at hx'
  by_cases hp : x ≤ 0
  · refine HL.hc k90 999 ?_; unfold M90
    (all_goals (try simp only [S0,putAt,List.replicate,Int.reduceAdd,Int.reduceSub,Int.reduceMul,Int.reduceTDiv,Int.reduceTMod,Int.reduceMod,Int.reduceDiv,Nat.reduceLT,Nat.reduceEqDiff,Int.reduceLE,Int.reduceLT,Int.reduceToNat,Int.reduceNeg,Int.reduceEq,Nat.reduceLeDiff,Nat.reducePow,Int.reducePow,reduceIte,Nat.reduceSub,Nat.reduceAdd,Nat.reduceMul, *])); repeat' ((first | (with_reducible refine fun _ : True => ?_) | (with_reducible refine any_h ?_) | ((first | refine AllocQ_i ?_ | refine AllocO_i ?_); intro bk hb0 hbk; try simp only [set_none'] at hbk) | ((first | refine condS_i ?_ ?_ | refine pick_i ?_ ?_ | refine gS_it ?_ ?_ | refine gS_if ?_ ?_ | refine gP_it ?_ ?_ | refine gP_if ?_ ?_) <;> (intro hc; try simp only [Int.reduceLE,Int.reduceLT,Int.reduceEq,Sn] at hc)) | (with_reducible refine KP_i ?_ ?_; · exact aE) | (with_reducible refine And.intro ?_ ?_)) <;> (try simp only [S0,putAt,List.replicate,Int.reduceAdd,Int.reduceSub,Int.reduceMul,Int.reduceTDiv,Int.reduceTMod,Int.reduceMod,Int.reduceDiv,Nat.reduceLT,Nat.reduceEqDiff,Int.reduceLE,Int.reduceLT,Int.reduceToNat,Int.reduceNeg,Int.reduceEq,Nat.reduceLeDiff,Nat.reducePow,Int.reducePow,reduceIte,Nat.reduceSub,Nat.reduceAdd,Nat.reduceMul, *]))
    exact Fin_mk (Heap.Le.refl _) (K_int h (by unfold flog; rw [if_pos hp]))
  have he := elog_lt (x := x) (by omega) (by omega)
  obtain ⟨m0, m1⟩ := lg_m (x := x) (by omega) (by omega)
  have e1 : IntKind.u32.wrap x = x := Bu.2.1 _ (by omega) (by omega)
  have e2 : IntKind.i64.wrap x = x := Bw.1 _ (by omega) (by omega)
  have e3 : IntKind.i64.wrap ((elog x : Int) + 1 - 1) = (elog x : Int) := by rw [Int.add_sub_cancel]; exact Bw.1 _ (by omega) (by omega)
  have e4 : IntKind.i64.wrap (30 - (elog x : Int)) = 30 - (elog x : Int) := Bw.1 _ (by omega) (by omega)
  have e5 : 0 ≤ 30 - (elog x : Int) := by omega
  have e6 : (30 - (elog x : Int)).toNat ≤ 64 := by omega
  obtain ⟨M, hM⟩ : ∃ M : Int, Keep (M = x * 2 ^ (30 - elog x)) := ⟨_, rfl⟩
  have hM' : M = x * 2 ^ (30 - elog x) := hM
  have e7 : IntKind.i64.wrap (x * 2 ^ (30 - (elog x : Int)).toNat) = M := by rw [show (30 - (elog x : Int)).toNat = 30 - elog x by omega, ← hM']; exact Bw.1 _ (by omega) (by omega)
  have e8 : IntKind.i64.wrap ((elog x : Int) - 16) = (elog x : Int) - 16 := Bw.1 _ (by omega) (by omega)
  have hfin : Keep (lg 16 M ((elog x : Int) - 16) = flog x) := by show _ = _; unfold flog; rw [if_neg hp, hM']
  rw [← hM'] at m0 m1
  clear hM'
  have a1 : ∀ a : Int, a.fdiv 1073741824 = a / 1073741824 := fun a => Int.fdiv_eq_ediv_of_nonneg a (by omega)
  have a2 : ∀ a : Int, a.fdiv 2 = a / 2 := fun a => Int.fdiv_eq_ediv_of_nonneg a (by omega)
  have e9 : (0 : Int) < x := by omega
  refine HL.hc k90 999 ?_; unfold M90
  (all_goals (try simp only [S0,putAt,List.replicate,Int.reduceAdd,Int.reduceSub,Int.reduceMul,Int.reduceTDiv,Int.reduceTMod,Int.reduceMod,Int.reduceDiv,Nat.reduceLT,Nat.reduceEqDiff,Int.reduceLE,Int.reduceLT,Int.reduceToNat,Int.reduceNeg,Int.reduceEq,Nat.reduceLeDiff,Nat.reducePow,Int.reducePow,reduceIte,Nat.reduceSub,Nat.reduceAdd,Nat.reduceMul, *])); repeat' ((first | (with_reducible refine fun _ : True => ?_) | refine c_Len32 _ e9 (by omega) ?_ | (with_reducible refine any_h ?_) | ((first | refine AllocQ_i ?_ | refine AllocO_i ?_); intro bk hb0 hbk; try simp only [set_none'] at hbk) | ((first | refine condS_i ?_ ?_ | refine pick_i ?_ ?_ | refine gS_it ?_ ?_ | refine gS_if ?_ ?_ | refine gP_it ?_ ?_ | refine gP_if ?_ ?_) <;> (intro hc; try simp only [Int.reduceLE,Int.reduceLT,Int.reduceEq,Sn] at hc)) | (with_reducible refine KP_i ?_ ?_; · exact aE) | (with_reducible refine And.intro ?_ ?_)) <;> (try simp only [S0,putAt,List.replicate,Int.reduceAdd,Int.reduceSub,Int.reduceMul,Int.reduceTDiv,Int.reduceTMod,Int.reduceMod,Int.reduceDiv,Nat.reduceLT,Nat.reduceEqDiff,Int.reduceLE,Int.reduceLT,Int.reduceToNat,Int.reduceNeg,Int.reduceEq,Nat.reduceLeDiff,Nat.reducePow,Int.reducePow,reduceIte,Nat.reduceSub,Nat.reduceAdd,Nat.reduceMul, *]))
  refine loop_g 20 (fun s : Nat × Int × Int × Int => [(4, .int .i64 s.2.2.1), (5, .int .i64 s.2.2.2), (19, .int .i64 (16 - s.1 : Int))]) (fun _ => H)
    (fun s => s.1 ≤ 16 ∧ (1073741824 ≤ s.2.2.1 ∧ s.2.2.1 < 2147483648) ∧ (1 ≤ s.2.1 ∧ -16 * s.2.1 ≤ s.2.2.2 ∧ s.2.2.2 < 16 * s.2.1) ∧ Keep (s.2.1 * 2 ^ s.1 = 65536) ∧ Keep (lg s.1 s.2.2.1 s.2.2.2 = flog x)) (fun s => s.1) (16, 1, M, (elog x : Int) - 16)
    ⟨Nat.le_refl _, ⟨m0, m1⟩, ⟨show (1 : Int) ≤ 1 by decide, by simp only; omega, by simp only; omega⟩, show (1 : Int) * 2 ^ 16 = 65536 by decide, hfin⟩ (Heap.Le.refl _) rfl ?_
  intro ⟨n, B, m, d⟩ f ⟨hk, hm, hd, hB, hE⟩
  simp only at hk hm hd hB hE
  have hBl := B_le hB hd.1
  rcases n with _ | n
  · have t1 : Keep (d = flog x) := hE
    have t2 : IntKind.i32.wrap d = d := Bw.2 _ (by omega) (by omega)
    have t3 : (16 : Int) - ((0 : Nat) : Int) = 16 := rfl
    (all_goals (try simp only [S0,putAt,List.replicate,Int.reduceAdd,Int.reduceSub,Int.reduceMul,Int.reduceTDiv,Int.reduceTMod,Int.reduceMod,Int.reduceDiv,Nat.reduceLT,Nat.reduceEqDiff,Int.reduceLE,Int.reduceLT,Int.reduceToNat,Int.reduceNeg,Int.reduceEq,Nat.reduceLeDiff,Nat.reducePow,Int.reducePow,reduceIte,Nat.reduceSub,Nat.reduceAdd,Nat.reduceMul, *])); repeat' ((first | (with_reducible refine fun _ : True => ?_) | (with_reducible refine any_h ?_) | ((first | refine AllocQ_i ?_ | refine AllocO_i ?_); intro bk hb0 hbk; try simp only [set_none'] at hbk) | ((first | refine condS_i ?_ ?_ | refine pick_i ?_ ?_ | refine gS_it ?_ ?_ | refine gS_if ?_ ?_ | refine gP_it ?_ ?_ | refine gP_if ?_ ?_) <;> (intro hc; try simp only [Int.reduceLE,Int.reduceLT,Int.reduceEq,Sn] at hc)) | (with_reducible refine KP_i ?_ ?_; · exact aE) | (with_reducible refine And.intro ?_ ?_)) <;> (try simp only [S0,putAt,List.replicate,Int.reduceAdd,Int.reduceSub,Int.reduceMul,Int.reduceTDiv,Int.reduceTMod,Int.reduceMod,Int.reduceDiv,Nat.reduceLT,Nat.reduceEqDiff,Int.reduceLE,Int.reduceLT,Int.reduceToNat,Int.reduceNeg,Int.reduceEq,Nat.reduceLeDiff,Nat.reducePow,Int.reducePow,reduceIte,Nat.reduceSub,Nat.reduceAdd,Nat.reduceMul, *]))
    exact Fin_mk (Heap.Le.refl _) (K_int h t1)
  · obtain ⟨s1, s2⟩ := lg_step hm
    have t0 : (16 : Int) - ((n + 1 : Nat) : Int) < 16 := by omega
    obtain ⟨c, hc0⟩ : ∃ c : Int, Keep ((16 : Int) - ((n + 1 : Nat) : Int) = c) := ⟨_, rfl⟩
    have hc1 : (16 : Int) - ((n + 1 : Nat) : Int) = c := hc0
    rw [hc1] at t0 ⊢
    have t1 : IntKind.i64.wrap (m * m) = m * m := Bw.1 _ (by omega) (by omega)
    have t2 : IntKind.i64.wrap (d * 2) = 2 * d := by rw [Int.mul_comm]; exact Bw.1 _ (by omega) (by omega)
    have t3 : bitsI .or .i64 (2 * d) 1 = 2 * d + 1 := or_one d ⟨by omega, by omega⟩
    have t4 : IntKind.i64.wrap (c + 1) = c + 1 := Bw.1 _ (by omega) (by omega)
    have hE' : Keep ((if 2147483648 ≤ m * m / 1073741824 then lg n (m * m / 1073741824 / 2) (2 * d + 1) else lg n (m * m / 1073741824) (2 * d)) = flog x) := hE
    have hB' : Keep (2 * B * 2 ^ n = 65536) := by show 2 * B * 2 ^ n = 65536; rw [← (show B * 2 ^ (n + 1) = 65536 from hB), Int.pow_succ, Int.mul_comm 2 B, Int.mul_assoc, Int.mul_comm 2]
    clear hc1 hE
    (all_goals (try simp only [S0,putAt,List.replicate,Int.reduceAdd,Int.reduceSub,Int.reduceMul,Int.reduceTDiv,Int.reduceTMod,Int.reduceMod,Int.reduceDiv,Nat.reduceLT,Nat.reduceEqDiff,Int.reduceLE,Int.reduceLT,Int.reduceToNat,Int.reduceNeg,Int.reduceEq,Nat.reduceLeDiff,Nat.reducePow,Int.reducePow,reduceIte,Nat.reduceSub,Nat.reduceAdd,Nat.reduceMul, *])); repeat' ((first | (with_reducible refine fun _ : True => ?_) | (with_reducible refine any_h ?_) | ((first | refine AllocQ_i ?_ | refine AllocO_i ?_); intro bk hb0 hbk; try simp only [set_none'] at hbk) | ((first | refine condS_i ?_ ?_ | refine pick_i ?_ ?_ | refine gS_it ?_ ?_ | refine gS_if ?_ ?_ | refine gP_it ?_ ?_ | refine gP_if ?_ ?_) <;> (intro hc; try simp only [Int.reduceLE,Int.reduceLT,Int.reduceEq,Sn] at hc)) | (with_reducible refine KP_i ?_ ?_; · exact aE) | (with_reducible refine And.intro ?_ ?_)) <;> (try simp only [S0,putAt,List.replicate,Int.reduceAdd,Int.reduceSub,Int.reduceMul,Int.reduceTDiv,Int.reduceTMod,Int.reduceMod,Int.reduceDiv,Nat.reduceLT,Nat.reduceEqDiff,Int.reduceLE,Int.reduceLT,Int.reduceToNat,Int.reduceNeg,Int.reduceEq,Nat.reduceLeDiff,Nat.reducePow,Int.reducePow,reduceIte,Nat.reduceSub,Nat.reduceAdd,Nat.reduceMul, *]))
    all_goals have hc1 : (16 : Int) - ((n + 1 : Nat) : Int) = c := hc0
    · refine Round_mk (n, 2 * B, m * m / 1073741824 / 2, 2 * d + 1) ⟨by omega, ⟨by simp only; omega, by simp only; omega⟩, ⟨by simp only; omega, by simp only; omega, by simp only; omega⟩, hB', by rw [if_pos hc] at hE'; exact hE'⟩ (by simp only; omega) (Heap.Le.refl _) ?_ rfl
      rw [show c + 1 = 16 - (n : Int) by omega]; rfl
    · refine Round_mk (n, 2 * B, m * m / 1073741824, 2 * d) ⟨by omega, ⟨by simp only; omega, by simp only; omega⟩, ⟨by simp only; omega, by simp only; omega, by simp only; omega⟩, hB', by rw [if_neg hc] at hE'; exact hE'⟩ (by simp only; omega) (Heap.Le.refl _) ?_ rfl
      rw [show c + 1 = 16 - (n : Int) by omega]; rfl
end Go.Proofs.YtdmnfaefakceiaaGreat
