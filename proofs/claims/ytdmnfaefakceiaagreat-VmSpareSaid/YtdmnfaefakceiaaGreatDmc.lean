/- Sines and lengths, by the program. -/
import Derived.Test.YtdmnfaefakceiaaGreatDmb
set_option linter.unusedSimpArgs false
set_option linter.unusedVariables false
set_option maxRecDepth 100000
set_option maxHeartbeats 4000000
namespace Go.Proofs.YtdmnfaefakceiaaGreat
open Go.HL Go.RowKit Pb
variable {w0 : World} {t1 t2 t3 : TypeId} {H : Heap} {K : Value → Heap → Prop}
theorem aQ {P Q : Prop} (k : Q) (h : Q → P := by (intro kk; ((all_goals (try simp only [S0,putAt,List.replicate,Int.reduceAdd,Int.reduceSub,Int.reduceMul,Int.reduceTDiv,Int.reduceTMod,Int.reduceMod,Int.reduceDiv,Nat.reduceLT,Nat.reduceEqDiff,Int.reduceLE,Int.reduceLT,Int.reduceToNat,Int.reduceNeg,Int.reduceEq,Nat.reduceLeDiff,Nat.reducePow,Int.reducePow,reduceIte,Nat.reduceSub,Nat.reduceAdd,Nat.reduceMul, *])); repeat' ((first | (with_reducible refine fun _ : True => ?_) | (with_reducible refine any_h ?_) | ((first | refine AllocQ_i ?_ | refine AllocO_i ?_); intro bk hb0 hbk; try simp only [set_none'] at hbk) | ((first | refine condS_i ?_ ?_ | refine pick_i ?_ ?_ | refine gS_it ?_ ?_ | refine gS_if ?_ ?_ | refine gP_it ?_ ?_ | refine gP_if ?_ ?_) <;> (intro hc; try simp only [Int.reduceLE,Int.reduceLT,Int.reduceEq,Sn] at hc)) | (with_reducible refine KP_i ?_ ?_; · exact aE) | (with_reducible refine And.intro ?_ ?_)) <;> (try simp only [S0,putAt,List.replicate,Int.reduceAdd,Int.reduceSub,Int.reduceMul,Int.reduceTDiv,Int.reduceTMod,Int.reduceMod,Int.reduceDiv,Nat.reduceLT,Nat.reduceEqDiff,Int.reduceLE,Int.reduceLT,Int.reduceToNat,Int.reduceNeg,Int.reduceEq,Nat.reduceLeDiff,Nat.reducePow,Int.reducePow,reduceIte,Nat.reduceSub,Nat.reduceAdd,Nat.reduceMul, *]))); exact kk)) : P := h k

theorem sinF_I32 (p : Int) : I32 (sinF p) := by
  have := sinZ_b (sinR_b p)
  unfold sinF I32; split <;> omega
/- maths sine -/
def M138 : MC :=
  .seq (.reg [oX 2 (.mv (.const (.int .i32 0)))])
 (.seq (.reg [vX 10 0,
 oX 11 (.bin .shr (.tmp 10) (.const (.int .u64 30))),
 vX 12 0,
 oX 13 (.bin .and (.tmp 12) (.const (.int .u32 1073741823))),
 oX 14 (.conv .i64 (.tmp 13)),
 vX 3 11,
 vX 4 14])
 (.seq (.seq (.reg [vX 15 3,
 oX 16 (.bin .and (.tmp 15) (.const (.int .u32 1))),
 oX 17 (.bin .eql (.tmp 16) (.const (.int .u32 1)))])
 (.cond (.tmp 17)
 (.reg [vX 18 4,
 oX 19 (.bin .sub (kX 1073741824) (.tmp 18)),
 vX 4 19])
 (.skip)))
 (.seq (.reg [vX 20 4,
 vX 21 4,
 oX 22 (bX .mul 20 21),
 oX 23 (.bin .shr (.tmp 22) (.const (.int .u64 30))),
 vX 5 23])
 (.seq (.reg [oX 6 (.mv (kX 172272))])
 (.seq (.seq (.reg [oX 24 (.build [(.int .i64 0),(.int .i64 0),(.int .i64 0),(.int .i64 0)] [(0,1,(kX 5026995)),(1,1,(kX 85569306)),(2,1,(kX 693598668)),(3,1,(kX 1686629713))]),
 oX 25 (.mv (kX 0))])
 (.block 0 (.loop (.seq (.reg [oX 26 (bK .lss 25 4)])
 (.seq (.cond (.tmp 26)
 (.skip)
 (.exit 0))
 (.seq (.block 1 (.seq (.reg [oX 27 (.ix 4 (.tmp 24) (.tmp 25)),
 vX 8 27])
 (.reg [vX 28 8,
 vX 29 6,
 vX 30 5,
 oX 31 (bX .mul 29 30),
 oX 32 (.bin .shr (.tmp 31) (.const (.int .u64 30))),
 oX 33 (bX .sub 28 32),
 vX 6 33])))
 (.reg [oX 34 (bK .add 25 1),
 vX 25 34])))))))
 (.seq (.reg [vX 35 6,
 vX 36 4,
 oX 37 (bX .mul 35 36),
 oX 38 (.bin .shr (.tmp 37) (.const (.int .u64 30))),
 oX 39 (bK .add 38 8192),
 oX 40 (.bin .shr (.tmp 39) (.const (.int .u64 14))),
 oX 41 (.mn (.tmp 40) (kX 65536)),
 vX 9 41])
 (.seq (.seq (.reg [vX 42 3,
 oX 43 (.bin .gtr (.tmp 42) (.const (.int .u32 1)))])
 (.cond (.tmp 43)
 (.reg [vX 44 9,
 oX 45 (.un .neg (.tmp 44)),
 vX 9 45])
 (.skip)))
 (.seq (.reg [vX 46 9,
 oX 47 (.conv .i32 (.tmp 46)),
 vX 2 47])
 (.ret)))))))))
theorem k138 : fnOk Tryz.prog 138 = some (M138, [.t 2], 48) := by kernel_rfl

theorem c_sine (p : Int) (hp : 0 ≤ p ∧ p < 4294967296) (h : K (.int .i32 (sinF p)) H) : HCalls Tryz.prog w0 138 [.int .u32 p] H K := by
  have a1 : ∀ a : Int, a.fdiv 1073741824 = a / 1073741824 := fun a => Int.fdiv_eq_ediv_of_nonneg a (by omega)
  have a2 : ∀ a : Int, a.fdiv 16384 = a / 16384 := fun a => Int.fdiv_eq_ediv_of_nonneg a (by omega)
  have hb := sinR_b p
  obtain ⟨r, hr⟩ : ∃ r : Int, Keep (r = sinR p) := ⟨_, rfl⟩
  have hr' : r = sinR p := hr
  rw [← hr'] at hb
  obtain ⟨⟨f1, f2, f3, f4, f5, f6, f7, f8, f9, f10, f11, f12, f13⟩, -⟩ := sin_facts hb
  have hz := sinZ_b hb
  have e1 : bitsI .and .u32 p 1073741823 = p % 1073741824 := and_30 p hp.1 hp.2
  have e2 : bitsI .and .u32 (p / 1073741824) 1 = p / 1073741824 % 2 := and_one _ _ (.inr (.inr (.inl rfl)))
  have e3 : IntKind.i64.wrap (p % 1073741824) = p % 1073741824 := Bw.1 _ (by omega) (by omega)
  have e4 : IntKind.i64.wrap (1073741824 - p % 1073741824) = 1073741824 - p % 1073741824 := Bw.1 _ (by omega) (by omega)
  have e5 : IntKind.i64.wrap r = r := Bw.1 _ (by omega) (by omega)
  have core : ∀ z : Int, Keep (z = sinZ r) → (IntKind.i32.wrap z = z) ∧ IntKind.i64.wrap (0 - z) = -z ∧ IntKind.i32.wrap (-z) = -z := by
    intro z hz'
    have : z = sinZ r := hz'
    exact ⟨Bw.2 _ (by omega) (by omega), by rw [Int.zero_sub]; exact Bw.1 _ (by omega) (by omega), Bw.2 _ (by omega) (by omega)⟩
  have fin1 : ∀ z : Int, Keep (z = sinZ r) → ¬ 1 < p / 1073741824 → Keep (z = sinF p) := fun z h1 h2 => by show z = sinF p; unfold sinF; rw [if_neg h2, ← hr']; exact h1
  have fin2 : ∀ z : Int, Keep (z = sinZ r) → 1 < p / 1073741824 → Keep (-z = sinF p) := fun z h1 h2 => by show -z = sinF p; unfold sinF; rw [if_pos h2, ← hr', show z = sinZ r from h1]
  clear hz
  by_cases hq : p / 1073741824 % 2 = 1
  · have g1 : 1073741824 - p % 1073741824 = r := by rw [hr']; unfold sinR; rw [if_pos hq]
    clear hr'
    by_cases hm : 65536 < sz r
    · have hzz : Keep ((65536 : Int) = sinZ r) := by show _ = _; unfold sinZ; rw [if_pos hm]
      refine HL.hc k138 999 ?_; unfold M138
      (all_goals (try simp only [S0,putAt,List.replicate,Int.reduceAdd,Int.reduceSub,Int.reduceMul,Int.reduceTDiv,Int.reduceTMod,Int.reduceMod,Int.reduceDiv,Nat.reduceLT,Nat.reduceEqDiff,Int.reduceLE,Int.reduceLT,Int.reduceToNat,Int.reduceNeg,Int.reduceEq,Nat.reduceLeDiff,Nat.reducePow,Int.reducePow,reduceIte,Nat.reduceSub,Nat.reduceAdd,Nat.reduceMul, *])); repeat' ((first | (with_reducible refine fun _ : True => ?_) | (with_reducible refine any_h ?_) | ((first | refine AllocQ_i ?_ | refine AllocO_i ?_); intro bk hb0 hbk; try simp only [set_none'] at hbk) | ((first | refine condS_i ?_ ?_ | refine pick_i ?_ ?_ | refine gS_it ?_ ?_ | refine gS_if ?_ ?_ | refine gP_it ?_ ?_ | refine gP_if ?_ ?_) <;> (intro hc; try simp only [Int.reduceLE,Int.reduceLT,Int.reduceEq,Sn] at hc)) | (with_reducible refine KP_i ?_ ?_; · exact aE) | (with_reducible refine loop_u ?_) | (with_reducible refine And.intro ?_ ?_)) <;> (try simp only [S0,putAt,List.replicate,Int.reduceAdd,Int.reduceSub,Int.reduceMul,Int.reduceTDiv,Int.reduceTMod,Int.reduceMod,Int.reduceDiv,Nat.reduceLT,Nat.reduceEqDiff,Int.reduceLE,Int.reduceLT,Int.reduceToNat,Int.reduceNeg,Int.reduceEq,Nat.reduceLeDiff,Nat.reducePow,Int.reducePow,reduceIte,Nat.reduceSub,Nat.reduceAdd,Nat.reduceMul, *]))
      · exact Fin_mk (Heap.Le.refl _) (K_int h (fin2 _ hzz hc))
      · exact Fin_mk (Heap.Le.refl _) (K_int h (fin1 _ hzz hc))
    · have hzz : Keep (sz r = sinZ r) := by show _ = _; unfold sinZ; rw [if_neg hm]
      obtain ⟨y1, y2, y3⟩ := core _ hzz
      refine HL.hc k138 999 ?_; unfold M138
      (all_goals (try simp only [S0,putAt,List.replicate,Int.reduceAdd,Int.reduceSub,Int.reduceMul,Int.reduceTDiv,Int.reduceTMod,Int.reduceMod,Int.reduceDiv,Nat.reduceLT,Nat.reduceEqDiff,Int.reduceLE,Int.reduceLT,Int.reduceToNat,Int.reduceNeg,Int.reduceEq,Nat.reduceLeDiff,Nat.reducePow,Int.reducePow,reduceIte,Nat.reduceSub,Nat.reduceAdd,Nat.reduceMul, *])); repeat' ((first | (with_reducible refine fun _ : True => ?_) | (with_reducible refine any_h ?_) | ((first | refine AllocQ_i ?_ | refine AllocO_i ?_); intro bk hb0 hbk; try simp only [set_none'] at hbk) | ((first | refine condS_i ?_ ?_ | refine pick_i ?_ ?_ | refine gS_it ?_ ?_ | refine gS_if ?_ ?_ | refine gP_it ?_ ?_ | refine gP_if ?_ ?_) <;> (intro hc; try simp only [Int.reduceLE,Int.reduceLT,Int.reduceEq,Sn] at hc)) | (with_reducible refine KP_i ?_ ?_; · exact aE) | (with_reducible refine loop_u ?_) | (with_reducible refine And.intro ?_ ?_)) <;> (try simp only [S0,putAt,List.replicate,Int.reduceAdd,Int.reduceSub,Int.reduceMul,Int.reduceTDiv,Int.reduceTMod,Int.reduceMod,Int.reduceDiv,Nat.reduceLT,Nat.reduceEqDiff,Int.reduceLE,Int.reduceLT,Int.reduceToNat,Int.reduceNeg,Int.reduceEq,Nat.reduceLeDiff,Nat.reducePow,Int.reducePow,reduceIte,Nat.reduceSub,Nat.reduceAdd,Nat.reduceMul, *]))
      · exact Fin_mk (Heap.Le.refl _) (K_int h (fin2 _ hzz hc))
      · exact Fin_mk (Heap.Le.refl _) (K_int h (fin1 _ hzz hc))
  · have g1 : p % 1073741824 = r := by rw [hr']; unfold sinR; rw [if_neg hq]
    clear hr'
    rw [g1] at e1 e3
    by_cases hm : 65536 < sz r
    · have hzz : Keep ((65536 : Int) = sinZ r) := by show _ = _; unfold sinZ; rw [if_pos hm]
      refine HL.hc k138 999 ?_; unfold M138
      (all_goals (try simp only [S0,putAt,List.replicate,Int.reduceAdd,Int.reduceSub,Int.reduceMul,Int.reduceTDiv,Int.reduceTMod,Int.reduceMod,Int.reduceDiv,Nat.reduceLT,Nat.reduceEqDiff,Int.reduceLE,Int.reduceLT,Int.reduceToNat,Int.reduceNeg,Int.reduceEq,Nat.reduceLeDiff,Nat.reducePow,Int.reducePow,reduceIte,Nat.reduceSub,Nat.reduceAdd,Nat.reduceMul, *])); repeat' ((first | (with_reducible refine fun _ : True => ?_) | (with_reducible refine any_h ?_) | ((first | refine AllocQ_i ?_ | refine AllocO_i ?_); intro bk hb0 hbk; try simp only [set_none'] at hbk) | ((first | refine condS_i ?_ ?_ | refine pick_i ?_ ?_ | refine gS_it ?_ ?_ | refine gS_if ?_ ?_ | refine gP_it ?_ ?_ | refine gP_if ?_ ?_) <;> (intro hc; try simp only [Int.reduceLE,Int.reduceLT,Int.reduceEq,Sn] at hc)) | (with_reducible refine KP_i ?_ ?_; · exact aE) | (with_reducible refine loop_u ?_) | (with_reducible refine And.intro ?_ ?_)) <;> (try simp only [S0,putAt,List.replicate,Int.reduceAdd,Int.reduceSub,Int.reduceMul,Int.reduceTDiv,Int.reduceTMod,Int.reduceMod,Int.reduceDiv,Nat.reduceLT,Nat.reduceEqDiff,Int.reduceLE,Int.reduceLT,Int.reduceToNat,Int.reduceNeg,Int.reduceEq,Nat.reduceLeDiff,Nat.reducePow,Int.reducePow,reduceIte,Nat.reduceSub,Nat.reduceAdd,Nat.reduceMul, *]))
      · exact Fin_mk (Heap.Le.refl _) (K_int h (fin2 _ hzz hc))
      · exact Fin_mk (Heap.Le.refl _) (K_int h (fin1 _ hzz hc))
    · have hzz : Keep (sz r = sinZ r) := by show _ = _; unfold sinZ; rw [if_neg hm]
      obtain ⟨y1, y2, y3⟩ := core _ hzz
      refine HL.hc k138 999 ?_; unfold M138
      (all_goals (try simp only [S0,putAt,List.replicate,Int.reduceAdd,Int.reduceSub,Int.reduceMul,Int.reduceTDiv,Int.reduceTMod,Int.reduceMod,Int.reduceDiv,Nat.reduceLT,Nat.reduceEqDiff,Int.reduceLE,Int.reduceLT,Int.reduceToNat,Int.reduceNeg,Int.reduceEq,Nat.reduceLeDiff,Nat.reducePow,Int.reducePow,reduceIte,Nat.reduceSub,Nat.reduceAdd,Nat.reduceMul, *])); repeat' ((first | (with_reducible refine fun _ : True => ?_) | (with_reducible refine any_h ?_) | ((first | refine AllocQ_i ?_ | refine AllocO_i ?_); intro bk hb0 hbk; try simp only [set_none'] at hbk) | ((first | refine condS_i ?_ ?_ | refine pick_i ?_ ?_ | refine gS_it ?_ ?_ | refine gS_if ?_ ?_ | refine gP_it ?_ ?_ | refine gP_if ?_ ?_) <;> (intro hc; try simp only [Int.reduceLE,Int.reduceLT,Int.reduceEq,Sn] at hc)) | (with_reducible refine KP_i ?_ ?_; · exact aE) | (with_reducible refine loop_u ?_) | (with_reducible refine And.intro ?_ ?_)) <;> (try simp only [S0,putAt,List.replicate,Int.reduceAdd,Int.reduceSub,Int.reduceMul,Int.reduceTDiv,Int.reduceTMod,Int.reduceMod,Int.reduceDiv,Nat.reduceLT,Nat.reduceEqDiff,Int.reduceLE,Int.reduceLT,Int.reduceToNat,Int.reduceNeg,Int.reduceEq,Nat.reduceLeDiff,Nat.reducePow,Int.reducePow,reduceIte,Nat.reduceSub,Nat.reduceAdd,Nat.reduceMul, *]))
      · exact Fin_mk (Heap.Le.refl _) (K_int h (fin2 _ hzz hc))
      · exact Fin_mk (Heap.Le.refl _) (K_int h (fin1 _ hzz hc))
/- maths phase -/
def M139 : MC :=
  .seq (.reg [oX 2 (.mv (.const (.int .u32 0)))])
 (.seq (.reg [vX 3 0,
 oX 4 (.conv .i64 (.tmp 3)),
 oX 5 (bK .mul 4 683565276),
 oX 6 (.bin .shr (.tmp 5) (.const (.int .u64 16))),
 oX 7 (.conv .u32 (.tmp 6)),
 vX 2 7])
 (.ret))
theorem k139 : fnOk Tryz.prog 139 = some (M139, [.t 2], 8) := by kernel_rfl

theorem c_phase (x : Int) (hx : I32 x) (h : K (.int .u32 (sphase x)) H) : HCalls Tryz.prog w0 139 [.int .i32 x] H K := by
  unfold I32 at hx
  have a1 : ∀ a : Int, a.fdiv 65536 = a / 65536 := fun a => Int.fdiv_eq_ediv_of_nonneg a (by omega)
  have e1 : IntKind.i64.wrap x = x := Bw.1 _ (by omega) (by omega)
  have e2 : IntKind.i64.wrap (x * 683565276) = x * 683565276 := Bw.1 _ (by omega) (by omega)
  have e3 : ∀ a : Int, IntKind.u32.wrap a = a % 4294967296 := fun a => by simp [IntKind.wrap, IntKind.bits, IntKind.signed]
  refine HL.hc k139 999 ?_; unfold M139
  simp only [S0,putAt,List.replicate,Int.reduceAdd,Int.reduceSub,Int.reduceMul,Int.reduceTDiv,Int.reduceTMod,Int.reduceMod,Int.reduceDiv,Nat.reduceLT,Nat.reduceEqDiff,Int.reduceLE,Int.reduceLT,Int.reduceToNat,Int.reduceNeg,Int.reduceEq,Nat.reduceLeDiff,Nat.reducePow,Int.reducePow,reduceIte,Nat.reduceSub,Nat.reduceAdd,Nat.reduceMul, *]
  exact Fin_mk (Heap.Le.refl _) h
theorem sphase_b (x : Int) : 0 ≤ sphase x ∧ sphase x < 4294967296 := by unfold sphase; omega
/- maths Sin -/
def M91 : MC :=
  .seq (.reg [oX 2 (.mv (.const (.int .i32 0)))])
 (.seq (.reg [vX 3 0,
 oX 4 (.call 139 [(.tmp 3)]),
 oX 5 (.call 138 [(.tmp 4)]),
 vX 2 5])
 (.ret))
theorem k91 : fnOk Tryz.prog 91 = some (M91, [.t 2], 6) := by kernel_rfl

theorem c_Sin (x : Int) (hx : I32 x) (h : K (.int .i32 (fsin x)) H) : HCalls Tryz.prog w0 91 [.int .i32 x] H K := by
  refine HL.hc k91 999 ?_; unfold M91
  (all_goals (try simp only [S0,putAt,List.replicate,Int.reduceAdd,Int.reduceSub,Int.reduceMul,Int.reduceTDiv,Int.reduceTMod,Int.reduceMod,Int.reduceDiv,Nat.reduceLT,Nat.reduceEqDiff,Int.reduceLE,Int.reduceLT,Int.reduceToNat,Int.reduceNeg,Int.reduceEq,Nat.reduceLeDiff,Nat.reducePow,Int.reducePow,reduceIte,Nat.reduceSub,Nat.reduceAdd,Nat.reduceMul, *])); repeat' ((first | (with_reducible refine fun _ : True => ?_) | refine c_phase _ hx ?_ | refine c_sine _ (sphase_b x) ?_ | (with_reducible refine any_h ?_) | ((first | refine AllocQ_i ?_ | refine AllocO_i ?_); intro bk hb0 hbk; try simp only [set_none'] at hbk) | ((first | refine condS_i ?_ ?_ | refine pick_i ?_ ?_ | refine gS_it ?_ ?_ | refine gS_if ?_ ?_ | refine gP_it ?_ ?_ | refine gP_if ?_ ?_) <;> (intro hc; try simp only [Int.reduceLE,Int.reduceLT,Int.reduceEq,Sn] at hc)) | (with_reducible refine KP_i ?_ ?_; · exact aE) | (with_reducible refine And.intro ?_ ?_)) <;> (try simp only [S0,putAt,List.replicate,Int.reduceAdd,Int.reduceSub,Int.reduceMul,Int.reduceTDiv,Int.reduceTMod,Int.reduceMod,Int.reduceDiv,Nat.reduceLT,Nat.reduceEqDiff,Int.reduceLE,Int.reduceLT,Int.reduceToNat,Int.reduceNeg,Int.reduceEq,Nat.reduceLeDiff,Nat.reducePow,Int.reducePow,reduceIte,Nat.reduceSub,Nat.reduceAdd,Nat.reduceMul, *]))
  exact Fin_mk (Heap.Le.refl _) h
/- maths Cos -/
def M92 : MC :=
  .seq (.reg [oX 2 (.mv (.const (.int .i32 0)))])
 (.seq (.reg [vX 3 0,
 oX 4 (.call 139 [(.tmp 3)]),
 oX 5 (.bin .add (.tmp 4) (.const (.int .u32 1073741824))),
 oX 6 (.call 138 [(.tmp 5)]),
 vX 2 6])
 (.ret))
theorem k92 : fnOk Tryz.prog 92 = some (M92, [.t 2], 7) := by kernel_rfl

theorem c_Cos (x : Int) (hx : I32 x) (h : K (.int .i32 (fcos x)) H) : HCalls Tryz.prog w0 92 [.int .i32 x] H K := by
  have e3 : ∀ a : Int, IntKind.u32.wrap a = a % 4294967296 := fun a => by simp [IntKind.wrap, IntKind.bits, IntKind.signed]
  refine HL.hc k92 999 ?_; unfold M92
  (all_goals (try simp only [S0,putAt,List.replicate,Int.reduceAdd,Int.reduceSub,Int.reduceMul,Int.reduceTDiv,Int.reduceTMod,Int.reduceMod,Int.reduceDiv,Nat.reduceLT,Nat.reduceEqDiff,Int.reduceLE,Int.reduceLT,Int.reduceToNat,Int.reduceNeg,Int.reduceEq,Nat.reduceLeDiff,Nat.reducePow,Int.reducePow,reduceIte,Nat.reduceSub,Nat.reduceAdd,Nat.reduceMul, *])); repeat' ((first | (with_reducible refine fun _ : True => ?_) | refine c_phase _ hx ?_ | refine c_sine _ ⟨Int.emod_nonneg _ (by omega), Int.emod_lt_of_pos _ (by omega)⟩ ?_ | (with_reducible refine any_h ?_) | ((first | refine AllocQ_i ?_ | refine AllocO_i ?_); intro bk hb0 hbk; try simp only [set_none'] at hbk) | ((first | refine condS_i ?_ ?_ | refine pick_i ?_ ?_ | refine gS_it ?_ ?_ | refine gS_if ?_ ?_ | refine gP_it ?_ ?_ | refine gP_if ?_ ?_) <;> (intro hc; try simp only [Int.reduceLE,Int.reduceLT,Int.reduceEq,Sn] at hc)) | (with_reducible refine KP_i ?_ ?_; · exact aE) | (with_reducible refine And.intro ?_ ?_)) <;> (try simp only [S0,putAt,List.replicate,Int.reduceAdd,Int.reduceSub,Int.reduceMul,Int.reduceTDiv,Int.reduceTMod,Int.reduceMod,Int.reduceDiv,Nat.reduceLT,Nat.reduceEqDiff,Int.reduceLE,Int.reduceLT,Int.reduceToNat,Int.reduceNeg,Int.reduceEq,Nat.reduceLeDiff,Nat.reducePow,Int.reducePow,reduceIte,Nat.reduceSub,Nat.reduceAdd,Nat.reduceMul, *]))
  exact Fin_mk (Heap.Le.refl _) h
/- maths Pow -/
def M94 : MC :=
  .seq (.reg [oX 4 (.mv (.const (.int .i32 0)))])
 (.seq (.seq (.reg [vX 5 0,
 oX 6 (.bin .leq (.tmp 5) (.const (.int .i32 0)))])
 (.cond (.tmp 6)
 (.seq (.reg [oX 4 (.mv (.const (.int .i32 0)))])
 (.ret))
 (.skip)))
 (.seq (.reg [vX 7 1,
 vX 8 0,
 oX 9 (.call 90 [(.tmp 8)]),
 oX 10 (.call 130 [(.tmp 7),(.tmp 9)]),
 oX 11 (.call 89 [(.tmp 10)]),
 vX 4 11])
 (.ret)))
theorem k94 : fnOk Tryz.prog 94 = some (M94, [.t 4], 12) := by kernel_rfl

theorem c_Pow (x y : Int) (hx : I32 x) (hy : I32 y) (h : K (.int .i32 (if x ≤ 0 then 0 else expo (fmul y (flog x)))) H) : HCalls Tryz.prog w0 94 [.int .i32 x, .int .i32 y] H K := by
  refine HL.hc k94 999 ?_; unfold M94
  (all_goals (try simp only [S0,putAt,List.replicate,Int.reduceAdd,Int.reduceSub,Int.reduceMul,Int.reduceTDiv,Int.reduceTMod,Int.reduceMod,Int.reduceDiv,Nat.reduceLT,Nat.reduceEqDiff,Int.reduceLE,Int.reduceLT,Int.reduceToNat,Int.reduceNeg,Int.reduceEq,Nat.reduceLeDiff,Nat.reducePow,Int.reducePow,reduceIte,Nat.reduceSub,Nat.reduceAdd,Nat.reduceMul, *])); repeat' ((first | (with_reducible refine fun _ : True => ?_) | refine c_Log2 _ hx ?_ | refine c_Mul _ _ hy (flog_I32 hx) ?_ | refine c_Exp2 _ (raw_I32 _) ?_ | (with_reducible refine any_h ?_) | ((first | refine AllocQ_i ?_ | refine AllocO_i ?_); intro bk hb0 hbk; try simp only [set_none'] at hbk) | ((first | refine condS_i ?_ ?_ | refine pick_i ?_ ?_ | refine gS_it ?_ ?_ | refine gS_if ?_ ?_ | refine gP_it ?_ ?_ | refine gP_if ?_ ?_) <;> (intro hc; try simp only [Int.reduceLE,Int.reduceLT,Int.reduceEq,Sn] at hc)) | (with_reducible refine KP_i ?_ ?_; · exact aE) | (with_reducible refine And.intro ?_ ?_)) <;> (try simp only [S0,putAt,List.replicate,Int.reduceAdd,Int.reduceSub,Int.reduceMul,Int.reduceTDiv,Int.reduceTMod,Int.reduceMod,Int.reduceDiv,Nat.reduceLT,Nat.reduceEqDiff,Int.reduceLE,Int.reduceLT,Int.reduceToNat,Int.reduceNeg,Int.reduceEq,Nat.reduceLeDiff,Nat.reducePow,Int.reducePow,reduceIte,Nat.reduceSub,Nat.reduceAdd,Nat.reduceMul, *]))
  · exact Fin_mk (Heap.Le.refl _) (K_int h (by rw [if_pos hc]))
  · exact Fin_mk (Heap.Le.refl _) (K_int h (by rw [if_neg hc]))
/- maths Length 1 -/
def M142 : MC :=
  .seq (.reg [oX 4 (.mv (.const (.int .u64 0)))])
 (.seq (.reg [oX 6 (.ld1 (.tmp 1)),
 vX 7 0,
 oX 8 (.conv .i64 (.tmp 7)),
 vX 9 0,
 oX 10 (.conv .i64 (.tmp 9)),
 oX 11 (bX .mul 8 10),
 oX 12 (.conv .u64 (.tmp 11)),
 oX 13 (.add64 (.tmp 6) (.tmp 12) (.const (.int .u64 0))),
 vX 5 13,
 oX 14 (.ext 0 (.tmp 5)),
 oX 15 (.ext 1 (.tmp 5)),
 ⟨none,.st1 (.tmp 1) (.tmp 14),none⟩,
 vX 4 15])
 (.reg [oX 16 (.ld1 (.tmp 2)),
 vX 17 4,
 oX 18 (bX .add 16 17),
 ⟨none,.st1 (.tmp 2) (.tmp 18),none⟩]))
theorem k142 : fnOk Tryz.prog 142 = some (M142, [], 19) := by kernel_rfl

theorem c_add {t1 t2 : TypeId} (v : Nat → Int) (k : Nat) (b1 b2 : Nat) (hv : ∀ i, I32 (v i)) (hk : k < 4) (hne : b1 ≠ b2) (h1 : H b1 = some ⟨t1, [.int .u64 (ssq v k % 18446744073709551616)]⟩) (h2 : H b2 = some ⟨t2, [.int .u64 (ssq v k / 18446744073709551616)]⟩)
    (h : K (.tuple #[]) ((H.set b1 ⟨t1, [.int .u64 (ssq v (k + 1) % 18446744073709551616)]⟩).set b2 ⟨t2, [.int .u64 (ssq v (k + 1) / 18446744073709551616)]⟩)) :
    HCalls Tryz.prog w0 142 [.int .i32 (v k), ptrV b1, ptrV b2] H K := by
  have s0 := ssq_b hv k
  have hx := hv k
  have q0 := sq_b hx
  have es : ssq v (k + 1) = ssq v k + v k * v k := rfl
  rw [es] at h
  unfold I32 at hx
  have e1 : IntKind.i64.wrap (v k) = v k := Bw.1 _ (by omega) (by omega)
  have e2 : IntKind.i64.wrap (v k * v k) = v k * v k := Bw.1 _ (by omega) (by omega)
  have e3 : IntKind.u64.wrap (v k * v k) = v k * v k := Bu.1 _ (by omega) (by omega)
  have e4 : (ssq v k % 18446744073709551616 + v k * v k + 0) % 18446744073709551616 = (ssq v k + v k * v k) % 18446744073709551616 := by omega
  have e5 : IntKind.u64.wrap (ssq v k / 18446744073709551616 + (ssq v k % 18446744073709551616 + v k * v k + 0) / 18446744073709551616) = (ssq v k + v k * v k) / 18446744073709551616 := by
    rw [Bu.1 _ (by omega) (by omega)]; omega
  have r1 : rd1 w0 H b1 0 = some (.int .u64 (ssq v k % 18446744073709551616)) := by simp [rd1, h1]
  have r2 : rd1 w0 H b2 0 = some (.int .u64 (ssq v k / 18446744073709551616)) := by simp [rd1, h2]
  have n1 : 0 ≤ ssq v k % 18446744073709551616 := by omega
  have hne' : b2 ≠ b1 := Ne.symm hne
  clear s0
  refine HL.hc k142 999 ?_; unfold M142
  refine aQ ?_
  exact Fin_mk (Heap.Le.refl _) h

theorem vv_at (v : Nat → Int) (k : Nat) (hk : k < 4) : ([.int .i32 (v 0), .int .i32 (v 1), .int .i32 (v 2), .int .i32 (v 3)] : List Value)[k]? = some (.int .i32 (v k)) := by
  rcases (by omega : k = 0 ∨ k = 1 ∨ k = 2 ∨ k = 3) with rfl | rfl | rfl | rfl <;> rfl
theorem len_fact {v : Nat → Int} (hv : ∀ i, I32 (v i)) (n : Int) :
    (0 < ssq v (cnt n) / 18446744073709551616 → (2147483647 : Int) = flen v n) ∧ (¬ 0 < ssq v (cnt n) / 18446744073709551616 → U64 (ssq v (cnt n) % 18446744073709551616) ∧ Keep (ssq v (cnt n) % 18446744073709551616 = ssq v (cnt n)) ∧
      IntKind.i64.wrap (isq (ssq v (cnt n) % 18446744073709551616)) = isq (ssq v (cnt n) % 18446744073709551616) ∧ Keep (raw (isq (ssq v (cnt n) % 18446744073709551616)) = flen v n)) := by
  have h0 := ssq_b hv (cnt n)
  have := cnt_le n
  refine ⟨fun h => by unfold flen; rw [if_pos (by omega)], fun h => ?_⟩
  have e : ssq v (cnt n) % 18446744073709551616 = ssq v (cnt n) := by omega
  rw [e]
  have h1 := isq_spec h0.1
  have h2 := isq_lt (n := ssq v (cnt n)) (k := 4294967296) h0.1 (by omega) (by omega)
  exact ⟨⟨h0.1, by omega⟩, rfl, Bw.1 _ (by omega) (by omega), flen_raw hv n⟩
/- maths Length -/
def M98 : MC :=
  .seq (.reg [oX 2 (.box 28 (.tmp 0)),
 oX 4 (.mv (.const (.int .i32 0)))])
 (.seq (.reg [oX 5 (.alloc 126 [(.int .u64 0)]),
 oX 6 (.alloc 126 [(.int .u64 0)]),
 ⟨none,.st1 (.tmp 5) (.const (.int .u64 0)),none⟩,
 ⟨none,.st1 (.tmp 6) (.const (.int .u64 0)),none⟩])
 (.seq (.reg [oX 10 (.fn 142 [(.tmp 5),(.tmp 6)]),
 vX 7 10])
 (.seq (.seq (.reg [vX 11 1,
 oX 12 (.mx (.tmp 11) (kX 0)),
 oX 13 (.mn (.tmp 12) (kX 4)),
 oX 14 (.sla 4 1 (.tmp 2) none (some (.tmp 13))),
 oX 15 (.len (.tmp 14)),
 oX 16 (.mv (kX 0))])
 (.block 0 (.loop (.seq (.reg [oX 17 (bX .lss 16 15)])
 (.seq (.cond (.tmp 17)
 (.skip)
 (.exit 0))
 (.seq (.block 1 (.seq (.reg [oX 18 (.is 1 (.tmp 14) (.tmp 16)),
 oX 19 (.ld1 (.tmp 18)),
 vX 9 19])
 (.reg [vX 20 7,
 vX 21 9,
 oX 22 (.yv (.tmp 20) [(.tmp 21)])])))
 (.reg [oX 23 (bK .add 16 1),
 vX 16 23])))))))
 (.seq (.seq (.reg [oX 24 (.ld1 (.tmp 6)),
 oX 25 (.bin .gtr (.tmp 24) (.const (.int .u64 0)))])
 (.cond (.tmp 25)
 (.seq (.reg [oX 4 (.mv (.const (.int .i32 2147483647)))])
 (.ret))
 (.skip)))
 (.seq (.reg [oX 26 (.ld1 (.tmp 5)),
 oX 27 (.call 135 [(.tmp 26)]),
 oX 28 (.conv .i64 (.tmp 27)),
 oX 29 (.call 69 [(.tmp 28)]),
 vX 4 29])
 (.ret))))))
theorem k98 : fnOk Tryz.prog 98 = some (M98, [.t 4], 30) := by kernel_rfl

theorem c_Length (v : Nat → Int) (n : Int) (hv : ∀ i, I32 (v i)) (h : K (.int .i32 (flen v n)) H) : HCalls Tryz.prog w0 98 [VV v, .int .i64 n] H K := by
  obtain ⟨L1, L2⟩ := len_fact hv n
  have hcnt := cnt_le n
  rcases (by omega : n < 0 ∨ (¬ n < 0 ∧ ¬ 4 < n) ∨ (¬ n < 0 ∧ 4 < n)) with hn | ⟨hn, hn4⟩ | ⟨hn, hn4⟩
  · have hc : Keep (cnt n = 0) := by show cnt n = 0; unfold cnt; rw [if_pos hn]
    clear L1 L2
    refine HL.hc k98 999 ?_; unfold M98
    (all_goals (try simp only [S0,putAt,List.replicate,Int.reduceAdd,Int.reduceSub,Int.reduceMul,Int.reduceTDiv,Int.reduceTMod,Int.reduceMod,Int.reduceDiv,Nat.reduceLT,Nat.reduceEqDiff,Int.reduceLE,Int.reduceLT,Int.reduceToNat,Int.reduceNeg,Int.reduceEq,Nat.reduceLeDiff,Nat.reducePow,Int.reducePow,reduceIte,Nat.reduceSub,Nat.reduceAdd,Nat.reduceMul, *])); repeat' ((first | (with_reducible refine fun _ : True => ?_) | (with_reducible refine any_h ?_) | ((first | refine AllocQ_i ?_ | refine AllocO_i ?_); intro bk hb0 hbk; try simp only [set_none'] at hbk) | ((first | refine condS_i ?_ ?_ | refine pick_i ?_ ?_ | refine gS_it ?_ ?_ | refine gS_if ?_ ?_ | refine gP_it ?_ ?_ | refine gP_if ?_ ?_) <;> (intro hc; try simp only [Int.reduceLE,Int.reduceLT,Int.reduceEq,Sn] at hc)) | (with_reducible refine KP_i ?_ ?_; · exact aE) | (with_reducible refine And.intro ?_ ?_)) <;> (try simp only [S0,putAt,List.replicate,Int.reduceAdd,Int.reduceSub,Int.reduceMul,Int.reduceTDiv,Int.reduceTMod,Int.reduceMod,Int.reduceDiv,Nat.reduceLT,Nat.reduceEqDiff,Int.reduceLE,Int.reduceLT,Int.reduceToNat,Int.reduceNeg,Int.reduceEq,Nat.reduceLeDiff,Nat.reducePow,Int.reducePow,reduceIte,Nat.reduceSub,Nat.reduceAdd,Nat.reduceMul, *]))
    refine loop_u ?_
    (all_goals (try simp only [S0,putAt,List.replicate,Int.reduceAdd,Int.reduceSub,Int.reduceMul,Int.reduceTDiv,Int.reduceTMod,Int.reduceMod,Int.reduceDiv,Nat.reduceLT,Nat.reduceEqDiff,Int.reduceLE,Int.reduceLT,Int.reduceToNat,Int.reduceNeg,Int.reduceEq,Nat.reduceLeDiff,Nat.reducePow,Int.reducePow,reduceIte,Nat.reduceSub,Nat.reduceAdd,Nat.reduceMul, *])); repeat' ((first | (with_reducible refine fun _ : True => ?_) | refine c_Root _ (u64_of (by decide)) ?_ | refine c_Raw _ ?_ | (with_reducible refine any_h ?_) | ((first | refine AllocQ_i ?_ | refine AllocO_i ?_); intro bk hb0 hbk; try simp only [set_none'] at hbk) | ((first | refine condS_i ?_ ?_ | refine pick_i ?_ ?_ | refine gS_it ?_ ?_ | refine gS_if ?_ ?_ | refine gP_it ?_ ?_ | refine gP_if ?_ ?_) <;> (intro hc; try simp only [Int.reduceLE,Int.reduceLT,Int.reduceEq,Sn] at hc)) | (with_reducible refine KP_i ?_ ?_; · exact aE) | (with_reducible refine And.intro ?_ ?_)) <;> (try simp only [S0,putAt,List.replicate,Int.reduceAdd,Int.reduceSub,Int.reduceMul,Int.reduceTDiv,Int.reduceTMod,Int.reduceMod,Int.reduceDiv,Nat.reduceLT,Nat.reduceEqDiff,Int.reduceLE,Int.reduceLT,Int.reduceToNat,Int.reduceNeg,Int.reduceEq,Nat.reduceLeDiff,Nat.reducePow,Int.reducePow,reduceIte,Nat.reduceSub,Nat.reduceAdd,Nat.reduceMul, *]))
    exact Fin_mk aE (K_int h (by unfold flen; rw [show cnt n = 0 from hc]; rfl))
  · obtain ⟨c, rfl⟩ := Int.eq_ofNat_of_zero_le (show 0 ≤ n by omega)
    have hc : Keep (cnt (c : Int) = c) := by show cnt (c : Int) = c; unfold cnt; rw [if_neg hn, if_neg hn4]; rfl
    have h4 : (c : Int) ≤ 4 := by omega
    refine HL.hc k98 999 ?_; unfold M98
    (all_goals (try simp only [S0,putAt,List.replicate,Int.reduceAdd,Int.reduceSub,Int.reduceMul,Int.reduceTDiv,Int.reduceTMod,Int.reduceMod,Int.reduceDiv,Nat.reduceLT,Nat.reduceEqDiff,Int.reduceLE,Int.reduceLT,Int.reduceToNat,Int.reduceNeg,Int.reduceEq,Nat.reduceLeDiff,Nat.reducePow,Int.reducePow,reduceIte,Nat.reduceSub,Nat.reduceAdd,Nat.reduceMul, *])); repeat' ((first | (with_reducible refine fun _ : True => ?_) | (with_reducible refine any_h ?_) | ((first | refine AllocQ_i ?_ | refine AllocO_i ?_); intro bk hb0 hbk; try simp only [set_none'] at hbk) | ((first | refine condS_i ?_ ?_ | refine pick_i ?_ ?_ | refine gS_it ?_ ?_ | refine gS_if ?_ ?_ | refine gP_it ?_ ?_ | refine gP_if ?_ ?_) <;> (intro hc; try simp only [Int.reduceLE,Int.reduceLT,Int.reduceEq,Sn] at hc)) | (with_reducible refine KP_i ?_ ?_; · exact aE) | (with_reducible refine And.intro ?_ ?_)) <;> (try simp only [S0,putAt,List.replicate,Int.reduceAdd,Int.reduceSub,Int.reduceMul,Int.reduceTDiv,Int.reduceTMod,Int.reduceMod,Int.reduceDiv,Nat.reduceLT,Nat.reduceEqDiff,Int.reduceLE,Int.reduceLT,Int.reduceToNat,Int.reduceNeg,Int.reduceEq,Nat.reduceLeDiff,Nat.reducePow,Int.reducePow,reduceIte,Nat.reduceSub,Nat.reduceAdd,Nat.reduceMul, *]))
    rename_i b0 g0 k0 b1 g1 k1
    refine loop_g 17 (fun s : Nat × Value => [(9, s.2), (16, .int .i64 (s.1 : Nat))]) (fun s => ((H.set b0 _).set b1 ⟨_, [.int .u64 (ssq v s.1 % 18446744073709551616)]⟩).set bk ⟨_, [.int .u64 (ssq v s.1 / 18446744073709551616)]⟩) (fun s => s.1 ≤ c) (fun s => c - s.1) (0, undef) (by simp) (Heap.Le.refl _) rfl ?_
    intro ⟨k, u⟩ f hk
    simp only at hk
    rcases Nat.lt_or_ge k c with hlt | hge
    · have t1 : (k : Int) < (c : Int) := by omega
      have t2 := vv_at v k (by omega)
      have t3 : IntKind.i64.wrap ((k : Int) + 1) = (k : Int) + 1 := Bw.1 _ (by omega) (by omega)
      have t4 : b1 ≠ bk := hbk.1.2
      (all_goals (try simp only [S0,putAt,List.replicate,Int.reduceAdd,Int.reduceSub,Int.reduceMul,Int.reduceTDiv,Int.reduceTMod,Int.reduceMod,Int.reduceDiv,Nat.reduceLT,Nat.reduceEqDiff,Int.reduceLE,Int.reduceLT,Int.reduceToNat,Int.reduceNeg,Int.reduceEq,Nat.reduceLeDiff,Nat.reducePow,Int.reducePow,reduceIte,Nat.reduceSub,Nat.reduceAdd,Nat.reduceMul, *])); repeat' ((first | (with_reducible refine fun _ : True => ?_) | refine c_add v k b1 bk hv (by omega) t4 aA aA ?_ | (with_reducible refine any_h ?_) | ((first | refine AllocQ_i ?_ | refine AllocO_i ?_); intro bk hb0 hbk; try simp only [set_none'] at hbk) | ((first | refine condS_i ?_ ?_ | refine pick_i ?_ ?_ | refine gS_it ?_ ?_ | refine gS_if ?_ ?_ | refine gP_it ?_ ?_ | refine gP_if ?_ ?_) <;> (intro hc; try simp only [Int.reduceLE,Int.reduceLT,Int.reduceEq,Sn] at hc)) | (with_reducible refine KP_i ?_ ?_; · exact aE) | (with_reducible refine And.intro ?_ ?_)) <;> (try simp only [S0,putAt,List.replicate,Int.reduceAdd,Int.reduceSub,Int.reduceMul,Int.reduceTDiv,Int.reduceTMod,Int.reduceMod,Int.reduceDiv,Nat.reduceLT,Nat.reduceEqDiff,Int.reduceLE,Int.reduceLT,Int.reduceToNat,Int.reduceNeg,Int.reduceEq,Nat.reduceLeDiff,Nat.reducePow,Int.reducePow,reduceIte,Nat.reduceSub,Nat.reduceAdd,Nat.reduceMul, *]))
      exact Round_mk (k + 1, _) (by simp only; omega) (by simp only; omega) (Heap.Le.refl _) rfl rfl
    · obtain rfl : c = k := by omega
      have t1 : ¬ ((c : Nat) : Int) < (c : Int) := by omega
      rw [show cnt (c : Int) = c from hc] at L1 L2
      by_cases hz : 0 < ssq v c / 18446744073709551616
      · have L1' : Keep ((2147483647 : Int) = flen v (c : Int)) := L1 hz
        clear L1 L2
        (all_goals (try simp only [S0,putAt,List.replicate,Int.reduceAdd,Int.reduceSub,Int.reduceMul,Int.reduceTDiv,Int.reduceTMod,Int.reduceMod,Int.reduceDiv,Nat.reduceLT,Nat.reduceEqDiff,Int.reduceLE,Int.reduceLT,Int.reduceToNat,Int.reduceNeg,Int.reduceEq,Nat.reduceLeDiff,Nat.reducePow,Int.reducePow,reduceIte,Nat.reduceSub,Nat.reduceAdd,Nat.reduceMul, *])); repeat' ((first | (with_reducible refine fun _ : True => ?_) | (with_reducible refine any_h ?_) | ((first | refine AllocQ_i ?_ | refine AllocO_i ?_); intro bk hb0 hbk; try simp only [set_none'] at hbk) | ((first | refine condS_i ?_ ?_ | refine pick_i ?_ ?_ | refine gS_it ?_ ?_ | refine gS_if ?_ ?_ | refine gP_it ?_ ?_ | refine gP_if ?_ ?_) <;> (intro hc; try simp only [Int.reduceLE,Int.reduceLT,Int.reduceEq,Sn] at hc)) | (with_reducible refine KP_i ?_ ?_; · exact aE) | (with_reducible refine And.intro ?_ ?_)) <;> (try simp only [S0,putAt,List.replicate,Int.reduceAdd,Int.reduceSub,Int.reduceMul,Int.reduceTDiv,Int.reduceTMod,Int.reduceMod,Int.reduceDiv,Nat.reduceLT,Nat.reduceEqDiff,Int.reduceLE,Int.reduceLT,Int.reduceToNat,Int.reduceNeg,Int.reduceEq,Nat.reduceLeDiff,Nat.reducePow,Int.reducePow,reduceIte,Nat.reduceSub,Nat.reduceAdd,Nat.reduceMul, *]))
        exact Fin_mk aE (K_int h L1')
      · obtain ⟨M1, M2, M3, M4⟩ := L2 hz
        clear L1 L2
        (all_goals (try simp only [S0,putAt,List.replicate,Int.reduceAdd,Int.reduceSub,Int.reduceMul,Int.reduceTDiv,Int.reduceTMod,Int.reduceMod,Int.reduceDiv,Nat.reduceLT,Nat.reduceEqDiff,Int.reduceLE,Int.reduceLT,Int.reduceToNat,Int.reduceNeg,Int.reduceEq,Nat.reduceLeDiff,Nat.reducePow,Int.reducePow,reduceIte,Nat.reduceSub,Nat.reduceAdd,Nat.reduceMul, *])); repeat' ((first | (with_reducible refine fun _ : True => ?_) | refine c_Root _ M1 ?_ | refine c_Raw _ ?_ | (with_reducible refine any_h ?_) | ((first | refine AllocQ_i ?_ | refine AllocO_i ?_); intro bk hb0 hbk; try simp only [set_none'] at hbk) | ((first | refine condS_i ?_ ?_ | refine pick_i ?_ ?_ | refine gS_it ?_ ?_ | refine gS_if ?_ ?_ | refine gP_it ?_ ?_ | refine gP_if ?_ ?_) <;> (intro hc; try simp only [Int.reduceLE,Int.reduceLT,Int.reduceEq,Sn] at hc)) | (with_reducible refine KP_i ?_ ?_; · exact aE) | (with_reducible refine And.intro ?_ ?_)) <;> (try simp only [S0,putAt,List.replicate,Int.reduceAdd,Int.reduceSub,Int.reduceMul,Int.reduceTDiv,Int.reduceTMod,Int.reduceMod,Int.reduceDiv,Nat.reduceLT,Nat.reduceEqDiff,Int.reduceLE,Int.reduceLT,Int.reduceToNat,Int.reduceNeg,Int.reduceEq,Nat.reduceLeDiff,Nat.reducePow,Int.reducePow,reduceIte,Nat.reduceSub,Nat.reduceAdd,Nat.reduceMul, *]))
        exact Fin_mk aE (K_int h M4)
  · have hc : Keep (cnt n = 4) := by show cnt n = 4; unfold cnt; rw [if_neg hn, if_pos hn4]
    refine HL.hc k98 999 ?_; unfold M98
    (all_goals (try simp only [S0,putAt,List.replicate,Int.reduceAdd,Int.reduceSub,Int.reduceMul,Int.reduceTDiv,Int.reduceTMod,Int.reduceMod,Int.reduceDiv,Nat.reduceLT,Nat.reduceEqDiff,Int.reduceLE,Int.reduceLT,Int.reduceToNat,Int.reduceNeg,Int.reduceEq,Nat.reduceLeDiff,Nat.reducePow,Int.reducePow,reduceIte,Nat.reduceSub,Nat.reduceAdd,Nat.reduceMul, *])); repeat' ((first | (with_reducible refine fun _ : True => ?_) | (with_reducible refine any_h ?_) | ((first | refine AllocQ_i ?_ | refine AllocO_i ?_); intro bk hb0 hbk; try simp only [set_none'] at hbk) | ((first | refine condS_i ?_ ?_ | refine pick_i ?_ ?_ | refine gS_it ?_ ?_ | refine gS_if ?_ ?_ | refine gP_it ?_ ?_ | refine gP_if ?_ ?_) <;> (intro hc; try simp only [Int.reduceLE,Int.reduceLT,Int.reduceEq,Sn] at hc)) | (with_reducible refine KP_i ?_ ?_; · exact aE) | (with_reducible refine And.intro ?_ ?_)) <;> (try simp only [S0,putAt,List.replicate,Int.reduceAdd,Int.reduceSub,Int.reduceMul,Int.reduceTDiv,Int.reduceTMod,Int.reduceMod,Int.reduceDiv,Nat.reduceLT,Nat.reduceEqDiff,Int.reduceLE,Int.reduceLT,Int.reduceToNat,Int.reduceNeg,Int.reduceEq,Nat.reduceLeDiff,Nat.reducePow,Int.reducePow,reduceIte,Nat.reduceSub,Nat.reduceAdd,Nat.reduceMul, *]))
    rename_i b0 g0 k0 b1 g1 k1
    refine loop_g 17 (fun s : Nat × Value => [(9, s.2), (16, .int .i64 (s.1 : Nat))]) (fun s => ((H.set b0 _).set b1 ⟨_, [.int .u64 (ssq v s.1 % 18446744073709551616)]⟩).set bk ⟨_, [.int .u64 (ssq v s.1 / 18446744073709551616)]⟩) (fun s => s.1 ≤ 4) (fun s => 4 - s.1) (0, undef) (by simp) (Heap.Le.refl _) rfl ?_
    intro ⟨k, u⟩ f hk
    simp only at hk
    rcases Nat.lt_or_ge k 4 with hlt | hge
    · have t1 : (k : Int) < 4 := by omega
      have t2 := vv_at v k (by omega)
      have t3 : IntKind.i64.wrap ((k : Int) + 1) = (k : Int) + 1 := Bw.1 _ (by omega) (by omega)
      have t4 : b1 ≠ bk := hbk.1.2
      (all_goals (try simp only [S0,putAt,List.replicate,Int.reduceAdd,Int.reduceSub,Int.reduceMul,Int.reduceTDiv,Int.reduceTMod,Int.reduceMod,Int.reduceDiv,Nat.reduceLT,Nat.reduceEqDiff,Int.reduceLE,Int.reduceLT,Int.reduceToNat,Int.reduceNeg,Int.reduceEq,Nat.reduceLeDiff,Nat.reducePow,Int.reducePow,reduceIte,Nat.reduceSub,Nat.reduceAdd,Nat.reduceMul, *])); repeat' ((first | (with_reducible refine fun _ : True => ?_) | refine c_add v k b1 bk hv (by omega) t4 aA aA ?_ | (with_reducible refine any_h ?_) | ((first | refine AllocQ_i ?_ | refine AllocO_i ?_); intro bk hb0 hbk; try simp only [set_none'] at hbk) | ((first | refine condS_i ?_ ?_ | refine pick_i ?_ ?_ | refine gS_it ?_ ?_ | refine gS_if ?_ ?_ | refine gP_it ?_ ?_ | refine gP_if ?_ ?_) <;> (intro hc; try simp only [Int.reduceLE,Int.reduceLT,Int.reduceEq,Sn] at hc)) | (with_reducible refine KP_i ?_ ?_; · exact aE) | (with_reducible refine And.intro ?_ ?_)) <;> (try simp only [S0,putAt,List.replicate,Int.reduceAdd,Int.reduceSub,Int.reduceMul,Int.reduceTDiv,Int.reduceTMod,Int.reduceMod,Int.reduceDiv,Nat.reduceLT,Nat.reduceEqDiff,Int.reduceLE,Int.reduceLT,Int.reduceToNat,Int.reduceNeg,Int.reduceEq,Nat.reduceLeDiff,Nat.reducePow,Int.reducePow,reduceIte,Nat.reduceSub,Nat.reduceAdd,Nat.reduceMul, *]))
      exact Round_mk (k + 1, _) (by simp only; omega) (by simp only; omega) (Heap.Le.refl _) rfl rfl
    · obtain rfl : 4 = k := by omega
      have t1 : ¬ ((4 : Nat) : Int) < 4 := by omega
      rw [show cnt n = 4 from hc] at L1 L2
      by_cases hz : 0 < ssq v 4 / 18446744073709551616
      · have L1' : Keep ((2147483647 : Int) = flen v n) := L1 hz
        clear L1 L2
        (all_goals (try simp only [S0,putAt,List.replicate,Int.reduceAdd,Int.reduceSub,Int.reduceMul,Int.reduceTDiv,Int.reduceTMod,Int.reduceMod,Int.reduceDiv,Nat.reduceLT,Nat.reduceEqDiff,Int.reduceLE,Int.reduceLT,Int.reduceToNat,Int.reduceNeg,Int.reduceEq,Nat.reduceLeDiff,Nat.reducePow,Int.reducePow,reduceIte,Nat.reduceSub,Nat.reduceAdd,Nat.reduceMul, *])); repeat' ((first | (with_reducible refine fun _ : True => ?_) | (with_reducible refine any_h ?_) | ((first | refine AllocQ_i ?_ | refine AllocO_i ?_); intro bk hb0 hbk; try simp only [set_none'] at hbk) | ((first | refine condS_i ?_ ?_ | refine pick_i ?_ ?_ | refine gS_it ?_ ?_ | refine gS_if ?_ ?_ | refine gP_it ?_ ?_ | refine gP_if ?_ ?_) <;> (intro hc; try simp only [Int.reduceLE,Int.reduceLT,Int.reduceEq,Sn] at hc)) | (with_reducible refine KP_i ?_ ?_; · exact aE) | (with_reducible refine And.intro ?_ ?_)) <;> (try simp only [S0,putAt,List.replicate,Int.reduceAdd,Int.reduceSub,Int.reduceMul,Int.reduceTDiv,Int.reduceTMod,Int.reduceMod,Int.reduceDiv,Nat.reduceLT,Nat.reduceEqDiff,Int.reduceLE,Int.reduceLT,Int.reduceToNat,Int.reduceNeg,Int.reduceEq,Nat.reduceLeDiff,Nat.reducePow,Int.reducePow,reduceIte,Nat.reduceSub,Nat.reduceAdd,Nat.reduceMul, *]))
        exact Fin_mk aE (K_int h L1')
      · obtain ⟨M1, M2, M3, M4⟩ := L2 hz
        clear L1 L2
        (all_goals (try simp only [S0,putAt,List.replicate,Int.reduceAdd,Int.reduceSub,Int.reduceMul,Int.reduceTDiv,Int.reduceTMod,Int.reduceMod,Int.reduceDiv,Nat.reduceLT,Nat.reduceEqDiff,Int.reduceLE,Int.reduceLT,Int.reduceToNat,Int.reduceNeg,Int.reduceEq,Nat.reduceLeDiff,Nat.reducePow,Int.reducePow,reduceIte,Nat.reduceSub,Nat.reduceAdd,Nat.reduceMul, *])); repeat' ((first | (with_reducible refine fun _ : True => ?_) | refine c_Root _ M1 ?_ | refine c_Raw _ ?_ | (with_reducible refine any_h ?_) | ((first | refine AllocQ_i ?_ | refine AllocO_i ?_); intro bk hb0 hbk; try simp only [set_none'] at hbk) | ((first | refine condS_i ?_ ?_ | refine pick_i ?_ ?_ | refine gS_it ?_ ?_ | refine gS_if ?_ ?_ | refine gP_it ?_ ?_ | refine gP_if ?_ ?_) <;> (intro hc; try simp only [Int.reduceLE,Int.reduceLT,Int.reduceEq,Sn] at hc)) | (with_reducible refine KP_i ?_ ?_; · exact aE) | (with_reducible refine And.intro ?_ ?_)) <;> (try simp only [S0,putAt,List.replicate,Int.reduceAdd,Int.reduceSub,Int.reduceMul,Int.reduceTDiv,Int.reduceTMod,Int.reduceMod,Int.reduceDiv,Nat.reduceLT,Nat.reduceEqDiff,Int.reduceLE,Int.reduceLT,Int.reduceToNat,Int.reduceNeg,Int.reduceEq,Nat.reduceLeDiff,Nat.reducePow,Int.reducePow,reduceIte,Nat.reduceSub,Nat.reduceAdd,Nat.reduceMul, *]))
        exact Fin_mk aE (K_int h M4)

theorem tmod_fact (a : Int) : (a.tmod 4294967296 < 0 → a.tmod 4294967296 + 4294967296 = a % 4294967296) ∧ (¬ a.tmod 4294967296 < 0 → a.tmod 4294967296 = a % 4294967296) := by
  rcases Int.le_total 0 a with h | h
  · rw [Int.tmod_eq_emod_of_nonneg h]; omega
  · obtain ⟨b, rfl⟩ : ∃ b : Int, a = -b := ⟨-a, by omega⟩
    rw [Int.neg_tmod, Int.tmod_eq_emod_of_nonneg (by omega)]; omega

theorem K_vv {f : Nat → Int} {a b c d : Int} (h : K (VV f) H) (e0 : a = f 0) (e1 : b = f 1) (e2 : c = f 2) (e3 : d = f 3) : K (.agg #[.int .i32 a, .int .i32 b, .int .i32 c, .int .i32 d]) H := by
  rw [e0, e1, e2, e3]; exact h
/- maths Normalize -/
def M93 : MC :=
  .seq (.reg [oX 2 (.box 28 (.tmp 0)),
 oX 4 (.alloc 28 [(.int .i32 0),(.int .i32 0),(.int .i32 0),(.int .i32 0)])])
 (.seq (.reg [oX 5 (.alloc 28 [(.int .i32 0),(.int .i32 0),(.int .i32 0),(.int .i32 0)])])
 (.seq (.reg [oX 8 (.ldn 4 (.tmp 2)),
 vX 9 1,
 oX 10 (.call 98 [(.tmp 8),(.tmp 9)]),
 vX 6 10])
 (.seq (.seq (.reg [vX 11 6,
 oX 12 (.bin .eql (.tmp 11) (.const (.int .i32 0)))])
 (.cond (.tmp 12)
 (.seq (.reg [oX 13 (.ldn 4 (.tmp 5)),
 ⟨none,.stn 4 (.tmp 4) (.tmp 13),none⟩])
 (.ret))
 (.skip)))
 (.seq (.seq (.reg [vX 14 1,
 oX 15 (.mx (.tmp 14) (kX 0)),
 oX 16 (.mn (.tmp 15) (kX 4)),
 oX 17 (.mv (kX 0))])
 (.block 0 (.loop (.seq (.reg [oX 18 (bX .lss 17 16)])
 (.seq (.cond (.tmp 18)
 (.skip)
 (.exit 0))
 (.seq (.block 1 (.seq (.reg [vX 19 17,
 vX 7 19])
 (.reg [vX 20 7,
 vX 21 7,
 oX 22 (.ia 4 1 (.tmp 2) (.tmp 21)),
 oX 23 (.ld1 (.tmp 22)),
 vX 24 6,
 oX 25 (.call 131 [(.tmp 23),(.tmp 24)]),
 oX 26 (.ia 4 1 (.tmp 5) (.tmp 20)),
 ⟨none,.st1 (.tmp 26) (.tmp 25),none⟩])))
 (.reg [oX 27 (bK .add 17 1),
 vX 17 27])))))))
 (.seq (.reg [oX 28 (.ldn 4 (.tmp 5)),
 ⟨none,.stn 4 (.tmp 4) (.tmp 28),none⟩])
 (.ret))))))
theorem k93 : fnOk Tryz.prog 93 = some (M93, [.cn 4 4], 29) := by kernel_rfl

theorem c_Normalize (v : Nat → Int) (n : Int) (hv : ∀ i, I32 (v i)) (h : K (VV (fnorm v n)) H) : HCalls Tryz.prog w0 93 [VV v, .int .i64 n] H K := by
  have hl := flen_I32 hv n
  obtain ⟨L, hL⟩ : ∃ L : Int, Keep (flen v n = L) := ⟨_, rfl⟩
  have hL' : flen v n = L := hL
  have len : ∀ {H : Heap} {K : Value → Heap → Prop}, K (.int .i32 L) H → HCalls Tryz.prog w0 98 [VV v, .int .i64 n] H K := fun h => c_Length v n hv (by rw [hL']; exact h)
  rw [hL'] at hl
  have fz : ∀ i : Nat, L = 0 → (0 : Int) = fnorm v n i := fun i h0 => by unfold fnorm; rw [hL', if_pos h0]; split <;> rfl
  have fo : ∀ i : Nat, cnt n ≤ i → (0 : Int) = fnorm v n i := fun i h0 => by unfold fnorm; rw [if_neg (by omega)]
  have fi : ∀ i : Nat, i < cnt n → ¬ L = 0 → fdiv (v i) L = fnorm v n i := fun i h0 h1 => by unfold fnorm; rw [if_pos h0, hL', if_neg h1]
  clear hL'
  have hcs : (n < 0 ∨ n = 0) ∨ n = 1 ∨ n = 2 ∨ n = 3 ∨ n = 4 ∨ 4 < n := by omega
  by_cases hz : L = 0
  · have fz' : Keep (∀ i : Nat, (0 : Int) = fnorm v n i) := fun i => fz i hz
    clear fz fo fi
    subst hz
    refine HL.hc k93 999 ?_; unfold M93
    (all_goals (try simp only [S0,putAt,List.replicate,Int.reduceAdd,Int.reduceSub,Int.reduceMul,Int.reduceTDiv,Int.reduceTMod,Int.reduceMod,Int.reduceDiv,Nat.reduceLT,Nat.reduceEqDiff,Int.reduceLE,Int.reduceLT,Int.reduceToNat,Int.reduceNeg,Int.reduceEq,Nat.reduceLeDiff,Nat.reducePow,Int.reducePow,reduceIte,Nat.reduceSub,Nat.reduceAdd,Nat.reduceMul, *])); repeat' ((first | (with_reducible refine fun _ : True => ?_) | refine len ?_ | refine c_Div _ _ (hv _) hl ?_ | (with_reducible refine any_h ?_) | ((first | refine AllocQ_i ?_ | refine AllocO_i ?_); intro bk hb0 hbk; try simp only [set_none'] at hbk) | ((first | refine condS_i ?_ ?_ | refine pick_i ?_ ?_ | refine gS_it ?_ ?_ | refine gS_if ?_ ?_ | refine gP_it ?_ ?_ | refine gP_if ?_ ?_) <;> (intro hc; try simp only [Int.reduceLE,Int.reduceLT,Int.reduceEq,Sn] at hc)) | (with_reducible refine KP_i ?_ ?_; · exact aE) | (with_reducible refine And.intro ?_ ?_)) <;> (try simp only [S0,putAt,List.replicate,Int.reduceAdd,Int.reduceSub,Int.reduceMul,Int.reduceTDiv,Int.reduceTMod,Int.reduceMod,Int.reduceDiv,Nat.reduceLT,Nat.reduceEqDiff,Int.reduceLE,Int.reduceLT,Int.reduceToNat,Int.reduceNeg,Int.reduceEq,Nat.reduceLeDiff,Nat.reducePow,Int.reducePow,reduceIte,Nat.reduceSub,Nat.reduceAdd,Nat.reduceMul, *]))
    all_goals first | exact Fin_mk aE (K_vv h (fz' 0) (fz' 1) (fz' 2) (fz' 3)) | skip
  rcases hcs with (hn | rfl) | rfl | rfl | rfl | rfl | hn
  · have hcn : cnt n = 0 := by unfold cnt; rw [if_pos hn]
    have g0 : Keep (∀ x : Int, x = 0 → x = fnorm v n 0) := fun x hx => by rw [hx]; exact fo 0 (by rw [hcn]; decide)
    have g1 : Keep (∀ x : Int, x = 0 → x = fnorm v n 1) := fun x hx => by rw [hx]; exact fo 1 (by rw [hcn]; decide)
    have g2 : Keep (∀ x : Int, x = 0 → x = fnorm v n 2) := fun x hx => by rw [hx]; exact fo 2 (by rw [hcn]; decide)
    have g3 : Keep (∀ x : Int, x = 0 → x = fnorm v n 3) := fun x hx => by rw [hx]; exact fo 3 (by rw [hcn]; decide)
    clear fz fo fi hcn
    have hn1 : ¬ 4 < n := by omega
    have hn2 : n < 4 := by omega
    have hn3 : ¬ 0 < n := by omega
    refine HL.hc k93 999 ?_; unfold M93
    (all_goals (try simp only [S0,putAt,List.replicate,Int.reduceAdd,Int.reduceSub,Int.reduceMul,Int.reduceTDiv,Int.reduceTMod,Int.reduceMod,Int.reduceDiv,Nat.reduceLT,Nat.reduceEqDiff,Int.reduceLE,Int.reduceLT,Int.reduceToNat,Int.reduceNeg,Int.reduceEq,Nat.reduceLeDiff,Nat.reducePow,Int.reducePow,reduceIte,Nat.reduceSub,Nat.reduceAdd,Nat.reduceMul, *])); repeat' ((first | (with_reducible refine fun _ : True => ?_) | refine len ?_ | refine c_Div _ _ (hv _) hl ?_ | (with_reducible refine any_h ?_) | ((first | refine AllocQ_i ?_ | refine AllocO_i ?_); intro bk hb0 hbk; try simp only [set_none'] at hbk) | ((first | refine condS_i ?_ ?_ | refine pick_i ?_ ?_ | refine gS_it ?_ ?_ | refine gS_if ?_ ?_ | refine gP_it ?_ ?_ | refine gP_if ?_ ?_) <;> (intro hc; try simp only [Int.reduceLE,Int.reduceLT,Int.reduceEq,Sn] at hc)) | (with_reducible refine KP_i ?_ ?_; · exact aE) | (with_reducible refine loop_u ?_) | (with_reducible refine And.intro ?_ ?_)) <;> (try simp only [S0,putAt,List.replicate,Int.reduceAdd,Int.reduceSub,Int.reduceMul,Int.reduceTDiv,Int.reduceTMod,Int.reduceMod,Int.reduceDiv,Nat.reduceLT,Nat.reduceEqDiff,Int.reduceLE,Int.reduceLT,Int.reduceToNat,Int.reduceNeg,Int.reduceEq,Nat.reduceLeDiff,Nat.reducePow,Int.reducePow,reduceIte,Nat.reduceSub,Nat.reduceAdd,Nat.reduceMul, *]))
    all_goals exact Fin_mk aE (K_vv h (g0 _ rfl) (g1 _ rfl) (g2 _ rfl) (g3 _ rfl))
  · have hcn : cnt 0 = 0 := by rfl
    have g0 : Keep (∀ x : Int, x = 0 → x = fnorm v 0 0) := fun x hx => by rw [hx]; exact fo 0 (by rw [hcn]; decide)
    have g1 : Keep (∀ x : Int, x = 0 → x = fnorm v 0 1) := fun x hx => by rw [hx]; exact fo 1 (by rw [hcn]; decide)
    have g2 : Keep (∀ x : Int, x = 0 → x = fnorm v 0 2) := fun x hx => by rw [hx]; exact fo 2 (by rw [hcn]; decide)
    have g3 : Keep (∀ x : Int, x = 0 → x = fnorm v 0 3) := fun x hx => by rw [hx]; exact fo 3 (by rw [hcn]; decide)
    clear fz fo fi hcn
    refine HL.hc k93 999 ?_; unfold M93
    (all_goals (try simp only [S0,putAt,List.replicate,Int.reduceAdd,Int.reduceSub,Int.reduceMul,Int.reduceTDiv,Int.reduceTMod,Int.reduceMod,Int.reduceDiv,Nat.reduceLT,Nat.reduceEqDiff,Int.reduceLE,Int.reduceLT,Int.reduceToNat,Int.reduceNeg,Int.reduceEq,Nat.reduceLeDiff,Nat.reducePow,Int.reducePow,reduceIte,Nat.reduceSub,Nat.reduceAdd,Nat.reduceMul, *])); repeat' ((first | (with_reducible refine fun _ : True => ?_) | refine len ?_ | refine c_Div _ _ (hv _) hl ?_ | (with_reducible refine any_h ?_) | ((first | refine AllocQ_i ?_ | refine AllocO_i ?_); intro bk hb0 hbk; try simp only [set_none'] at hbk) | ((first | refine condS_i ?_ ?_ | refine pick_i ?_ ?_ | refine gS_it ?_ ?_ | refine gS_if ?_ ?_ | refine gP_it ?_ ?_ | refine gP_if ?_ ?_) <;> (intro hc; try simp only [Int.reduceLE,Int.reduceLT,Int.reduceEq,Sn] at hc)) | (with_reducible refine KP_i ?_ ?_; · exact aE) | (with_reducible refine loop_u ?_) | (with_reducible refine And.intro ?_ ?_)) <;> (try simp only [S0,putAt,List.replicate,Int.reduceAdd,Int.reduceSub,Int.reduceMul,Int.reduceTDiv,Int.reduceTMod,Int.reduceMod,Int.reduceDiv,Nat.reduceLT,Nat.reduceEqDiff,Int.reduceLE,Int.reduceLT,Int.reduceToNat,Int.reduceNeg,Int.reduceEq,Nat.reduceLeDiff,Nat.reducePow,Int.reducePow,reduceIte,Nat.reduceSub,Nat.reduceAdd,Nat.reduceMul, *]))
    all_goals exact Fin_mk aE (K_vv h (g0 _ rfl) (g1 _ rfl) (g2 _ rfl) (g3 _ rfl))
  · have hcn : cnt 1 = 1 := by rfl
    have g0 : Keep (∀ x : Int, x = fdiv (v 0) L → x = fnorm v 1 0) := fun x hx => by rw [hx]; exact fi 0 (by rw [hcn]; decide) hz
    have g1 : Keep (∀ x : Int, x = 0 → x = fnorm v 1 1) := fun x hx => by rw [hx]; exact fo 1 (by rw [hcn]; decide)
    have g2 : Keep (∀ x : Int, x = 0 → x = fnorm v 1 2) := fun x hx => by rw [hx]; exact fo 2 (by rw [hcn]; decide)
    have g3 : Keep (∀ x : Int, x = 0 → x = fnorm v 1 3) := fun x hx => by rw [hx]; exact fo 3 (by rw [hcn]; decide)
    clear fz fo fi hcn
    refine HL.hc k93 999 ?_; unfold M93
    (all_goals (try simp only [S0,putAt,List.replicate,Int.reduceAdd,Int.reduceSub,Int.reduceMul,Int.reduceTDiv,Int.reduceTMod,Int.reduceMod,Int.reduceDiv,Nat.reduceLT,Nat.reduceEqDiff,Int.reduceLE,Int.reduceLT,Int.reduceToNat,Int.reduceNeg,Int.reduceEq,Nat.reduceLeDiff,Nat.reducePow,Int.reducePow,reduceIte,Nat.reduceSub,Nat.reduceAdd,Nat.reduceMul, *])); repeat' ((first | (with_reducible refine fun _ : True => ?_) | refine len ?_ | refine c_Div _ _ (hv _) hl ?_ | (with_reducible refine any_h ?_) | ((first | refine AllocQ_i ?_ | refine AllocO_i ?_); intro bk hb0 hbk; try simp only [set_none'] at hbk) | ((first | refine condS_i ?_ ?_ | refine pick_i ?_ ?_ | refine gS_it ?_ ?_ | refine gS_if ?_ ?_ | refine gP_it ?_ ?_ | refine gP_if ?_ ?_) <;> (intro hc; try simp only [Int.reduceLE,Int.reduceLT,Int.reduceEq,Sn] at hc)) | (with_reducible refine KP_i ?_ ?_; · exact aE) | (with_reducible refine loop_u ?_) | (with_reducible refine And.intro ?_ ?_)) <;> (try simp only [S0,putAt,List.replicate,Int.reduceAdd,Int.reduceSub,Int.reduceMul,Int.reduceTDiv,Int.reduceTMod,Int.reduceMod,Int.reduceDiv,Nat.reduceLT,Nat.reduceEqDiff,Int.reduceLE,Int.reduceLT,Int.reduceToNat,Int.reduceNeg,Int.reduceEq,Nat.reduceLeDiff,Nat.reducePow,Int.reducePow,reduceIte,Nat.reduceSub,Nat.reduceAdd,Nat.reduceMul, *]))
    all_goals exact Fin_mk aE (K_vv h (g0 _ rfl) (g1 _ rfl) (g2 _ rfl) (g3 _ rfl))
  · have hcn : cnt 2 = 2 := by rfl
    have g0 : Keep (∀ x : Int, x = fdiv (v 0) L → x = fnorm v 2 0) := fun x hx => by rw [hx]; exact fi 0 (by rw [hcn]; decide) hz
    have g1 : Keep (∀ x : Int, x = fdiv (v 1) L → x = fnorm v 2 1) := fun x hx => by rw [hx]; exact fi 1 (by rw [hcn]; decide) hz
    have g2 : Keep (∀ x : Int, x = 0 → x = fnorm v 2 2) := fun x hx => by rw [hx]; exact fo 2 (by rw [hcn]; decide)
    have g3 : Keep (∀ x : Int, x = 0 → x = fnorm v 2 3) := fun x hx => by rw [hx]; exact fo 3 (by rw [hcn]; decide)
    clear fz fo fi hcn
    refine HL.hc k93 999 ?_; unfold M93
    (all_goals (try simp only [S0,putAt,List.replicate,Int.reduceAdd,Int.reduceSub,Int.reduceMul,Int.reduceTDiv,Int.reduceTMod,Int.reduceMod,Int.reduceDiv,Nat.reduceLT,Nat.reduceEqDiff,Int.reduceLE,Int.reduceLT,Int.reduceToNat,Int.reduceNeg,Int.reduceEq,Nat.reduceLeDiff,Nat.reducePow,Int.reducePow,reduceIte,Nat.reduceSub,Nat.reduceAdd,Nat.reduceMul, *])); repeat' ((first | (with_reducible refine fun _ : True => ?_) | refine len ?_ | refine c_Div _ _ (hv _) hl ?_ | (with_reducible refine any_h ?_) | ((first | refine AllocQ_i ?_ | refine AllocO_i ?_); intro bk hb0 hbk; try simp only [set_none'] at hbk) | ((first | refine condS_i ?_ ?_ | refine pick_i ?_ ?_ | refine gS_it ?_ ?_ | refine gS_if ?_ ?_ | refine gP_it ?_ ?_ | refine gP_if ?_ ?_) <;> (intro hc; try simp only [Int.reduceLE,Int.reduceLT,Int.reduceEq,Sn] at hc)) | (with_reducible refine KP_i ?_ ?_; · exact aE) | (with_reducible refine loop_u ?_) | (with_reducible refine And.intro ?_ ?_)) <;> (try simp only [S0,putAt,List.replicate,Int.reduceAdd,Int.reduceSub,Int.reduceMul,Int.reduceTDiv,Int.reduceTMod,Int.reduceMod,Int.reduceDiv,Nat.reduceLT,Nat.reduceEqDiff,Int.reduceLE,Int.reduceLT,Int.reduceToNat,Int.reduceNeg,Int.reduceEq,Nat.reduceLeDiff,Nat.reducePow,Int.reducePow,reduceIte,Nat.reduceSub,Nat.reduceAdd,Nat.reduceMul, *]))
    all_goals exact Fin_mk aE (K_vv h (g0 _ rfl) (g1 _ rfl) (g2 _ rfl) (g3 _ rfl))
  · have hcn : cnt 3 = 3 := by rfl
    have g0 : Keep (∀ x : Int, x = fdiv (v 0) L → x = fnorm v 3 0) := fun x hx => by rw [hx]; exact fi 0 (by rw [hcn]; decide) hz
    have g1 : Keep (∀ x : Int, x = fdiv (v 1) L → x = fnorm v 3 1) := fun x hx => by rw [hx]; exact fi 1 (by rw [hcn]; decide) hz
    have g2 : Keep (∀ x : Int, x = fdiv (v 2) L → x = fnorm v 3 2) := fun x hx => by rw [hx]; exact fi 2 (by rw [hcn]; decide) hz
    have g3 : Keep (∀ x : Int, x = 0 → x = fnorm v 3 3) := fun x hx => by rw [hx]; exact fo 3 (by rw [hcn]; decide)
    clear fz fo fi hcn
    refine HL.hc k93 999 ?_; unfold M93
    (all_goals (try simp only [S0,putAt,List.replicate,Int.reduceAdd,Int.reduceSub,Int.reduceMul,Int.reduceTDiv,Int.reduceTMod,Int.reduceMod,Int.reduceDiv,Nat.reduceLT,Nat.reduceEqDiff,Int.reduceLE,Int.reduceLT,Int.reduceToNat,Int.reduceNeg,Int.reduceEq,Nat.reduceLeDiff,Nat.reducePow,Int.reducePow,reduceIte,Nat.reduceSub,Nat.reduceAdd,Nat.reduceMul, *])); repeat' ((first | (with_reducible refine fun _ : True => ?_) | refine len ?_ | refine c_Div _ _ (hv _) hl ?_ | (with_reducible refine any_h ?_) | ((first | refine AllocQ_i ?_ | refine AllocO_i ?_); intro bk hb0 hbk; try simp only [set_none'] at hbk) | ((first | refine condS_i ?_ ?_ | refine pick_i ?_ ?_ | refine gS_it ?_ ?_ | refine gS_if ?_ ?_ | refine gP_it ?_ ?_ | refine gP_if ?_ ?_) <;> (intro hc; try simp only [Int.reduceLE,Int.reduceLT,Int.reduceEq,Sn] at hc)) | (with_reducible refine KP_i ?_ ?_; · exact aE) | (with_reducible refine loop_u ?_) | (with_reducible refine And.intro ?_ ?_)) <;> (try simp only [S0,putAt,List.replicate,Int.reduceAdd,Int.reduceSub,Int.reduceMul,Int.reduceTDiv,Int.reduceTMod,Int.reduceMod,Int.reduceDiv,Nat.reduceLT,Nat.reduceEqDiff,Int.reduceLE,Int.reduceLT,Int.reduceToNat,Int.reduceNeg,Int.reduceEq,Nat.reduceLeDiff,Nat.reducePow,Int.reducePow,reduceIte,Nat.reduceSub,Nat.reduceAdd,Nat.reduceMul, *]))
    all_goals exact Fin_mk aE (K_vv h (g0 _ rfl) (g1 _ rfl) (g2 _ rfl) (g3 _ rfl))
  · have hcn : cnt 4 = 4 := by rfl
    have g0 : Keep (∀ x : Int, x = fdiv (v 0) L → x = fnorm v 4 0) := fun x hx => by rw [hx]; exact fi 0 (by rw [hcn]; decide) hz
    have g1 : Keep (∀ x : Int, x = fdiv (v 1) L → x = fnorm v 4 1) := fun x hx => by rw [hx]; exact fi 1 (by rw [hcn]; decide) hz
    have g2 : Keep (∀ x : Int, x = fdiv (v 2) L → x = fnorm v 4 2) := fun x hx => by rw [hx]; exact fi 2 (by rw [hcn]; decide) hz
    have g3 : Keep (∀ x : Int, x = fdiv (v 3) L → x = fnorm v 4 3) := fun x hx => by rw [hx]; exact fi 3 (by rw [hcn]; decide) hz
    clear fz fo fi hcn
    refine HL.hc k93 999 ?_; unfold M93
    (all_goals (try simp only [S0,putAt,List.replicate,Int.reduceAdd,Int.reduceSub,Int.reduceMul,Int.reduceTDiv,Int.reduceTMod,Int.reduceMod,Int.reduceDiv,Nat.reduceLT,Nat.reduceEqDiff,Int.reduceLE,Int.reduceLT,Int.reduceToNat,Int.reduceNeg,Int.reduceEq,Nat.reduceLeDiff,Nat.reducePow,Int.reducePow,reduceIte,Nat.reduceSub,Nat.reduceAdd,Nat.reduceMul, *])); repeat' ((first | (with_reducible refine fun _ : True => ?_) | refine len ?_ | refine c_Div _ _ (hv _) hl ?_ | (with_reducible refine any_h ?_) | ((first | refine AllocQ_i ?_ | refine AllocO_i ?_); intro bk hb0 hbk; try simp only [set_none'] at hbk) | ((first | refine condS_i ?_ ?_ | refine pick_i ?_ ?_ | refine gS_it ?_ ?_ | refine gS_if ?_ ?_ | refine gP_it ?_ ?_ | refine gP_if ?_ ?_) <;> (intro hc; try simp only [Int.reduceLE,Int.reduceLT,Int.reduceEq,Sn] at hc)) | (with_reducible refine KP_i ?_ ?_; · exact aE) | (with_reducible refine loop_u ?_) | (with_reducible refine And.intro ?_ ?_)) <;> (try simp only [S0,putAt,List.replicate,Int.reduceAdd,Int.reduceSub,Int.reduceMul,Int.reduceTDiv,Int.reduceTMod,Int.reduceMod,Int.reduceDiv,Nat.reduceLT,Nat.reduceEqDiff,Int.reduceLE,Int.reduceLT,Int.reduceToNat,Int.reduceNeg,Int.reduceEq,Nat.reduceLeDiff,Nat.reducePow,Int.reducePow,reduceIte,Nat.reduceSub,Nat.reduceAdd,Nat.reduceMul, *]))
    all_goals exact Fin_mk aE (K_vv h (g0 _ rfl) (g1 _ rfl) (g2 _ rfl) (g3 _ rfl))
  · have hcn : cnt n = 4 := by unfold cnt; rw [if_neg (by omega), if_pos hn]
    have g0 : Keep (∀ x : Int, x = fdiv (v 0) L → x = fnorm v n 0) := fun x hx => by rw [hx]; exact fi 0 (by rw [hcn]; decide) hz
    have g1 : Keep (∀ x : Int, x = fdiv (v 1) L → x = fnorm v n 1) := fun x hx => by rw [hx]; exact fi 1 (by rw [hcn]; decide) hz
    have g2 : Keep (∀ x : Int, x = fdiv (v 2) L → x = fnorm v n 2) := fun x hx => by rw [hx]; exact fi 2 (by rw [hcn]; decide) hz
    have g3 : Keep (∀ x : Int, x = fdiv (v 3) L → x = fnorm v n 3) := fun x hx => by rw [hx]; exact fi 3 (by rw [hcn]; decide) hz
    clear fz fo fi hcn
    have hn1 : ¬ n < 0 := by omega
    refine HL.hc k93 999 ?_; unfold M93
    (all_goals (try simp only [S0,putAt,List.replicate,Int.reduceAdd,Int.reduceSub,Int.reduceMul,Int.reduceTDiv,Int.reduceTMod,Int.reduceMod,Int.reduceDiv,Nat.reduceLT,Nat.reduceEqDiff,Int.reduceLE,Int.reduceLT,Int.reduceToNat,Int.reduceNeg,Int.reduceEq,Nat.reduceLeDiff,Nat.reducePow,Int.reducePow,reduceIte,Nat.reduceSub,Nat.reduceAdd,Nat.reduceMul, *])); repeat' ((first | (with_reducible refine fun _ : True => ?_) | refine len ?_ | refine c_Div _ _ (hv _) hl ?_ | (with_reducible refine any_h ?_) | ((first | refine AllocQ_i ?_ | refine AllocO_i ?_); intro bk hb0 hbk; try simp only [set_none'] at hbk) | ((first | refine condS_i ?_ ?_ | refine pick_i ?_ ?_ | refine gS_it ?_ ?_ | refine gS_if ?_ ?_ | refine gP_it ?_ ?_ | refine gP_if ?_ ?_) <;> (intro hc; try simp only [Int.reduceLE,Int.reduceLT,Int.reduceEq,Sn] at hc)) | (with_reducible refine KP_i ?_ ?_; · exact aE) | (with_reducible refine loop_u ?_) | (with_reducible refine And.intro ?_ ?_)) <;> (try simp only [S0,putAt,List.replicate,Int.reduceAdd,Int.reduceSub,Int.reduceMul,Int.reduceTDiv,Int.reduceTMod,Int.reduceMod,Int.reduceDiv,Nat.reduceLT,Nat.reduceEqDiff,Int.reduceLE,Int.reduceLT,Int.reduceToNat,Int.reduceNeg,Int.reduceEq,Nat.reduceLeDiff,Nat.reducePow,Int.reducePow,reduceIte,Nat.reduceSub,Nat.reduceAdd,Nat.reduceMul, *]))
    all_goals exact Fin_mk aE (K_vv h (g0 _ rfl) (g1 _ rfl) (g2 _ rfl) (g3 _ rfl))
end Go.Proofs.YtdmnfaefakceiaaGreat
