/- Sines and lengths, by the document. -/
import Derived.Test.YtdmnfaefakceiaaGreatDmc
import Derived.Test.YtdmnfaefakceiaaGreatDrb
set_option linter.unusedSimpArgs false
set_option linter.unusedVariables false
set_option maxRecDepth 100000
set_option maxHeartbeats 4000000
namespace Go.Proofs.YtdmnfaefakceiaaGreat
open Go.HL Go.RowKit Pb
variable {w0 : World} {t1 t2 t3 : TypeId} {H : Heap} {K : Value → Heap → Prop}
theorem aT {P Q : Prop} (k : Q) (h : Q → P := by (intro kk; ((all_goals (try simp only [S0,putAt,List.replicate,Int.reduceAdd,Int.reduceSub,Int.reduceMul,Int.reduceTDiv,Int.reduceTMod,Int.reduceMod,Int.reduceDiv,Nat.reduceLT,Nat.reduceEqDiff,Int.reduceLE,Int.reduceLT,Int.reduceToNat,Int.reduceNeg,Int.reduceEq,Nat.reduceLeDiff,Nat.reducePow,Int.reducePow,reduceIte,Nat.reduceSub,Nat.reduceAdd,Nat.reduceMul, *])); repeat' ((first | (with_reducible refine fun _ : True => ?_) | (with_reducible refine any_h ?_) | ((first | refine AllocQ_i ?_ | refine AllocO_i ?_); intro bk hb0 hbk; try simp only [set_none'] at hbk) | ((first | refine condS_i ?_ ?_ | refine pick_i ?_ ?_ | refine gS_it ?_ ?_ | refine gS_if ?_ ?_ | refine gP_it ?_ ?_ | refine gP_if ?_ ?_) <;> (intro hc; try simp only [Int.reduceLE,Int.reduceLT,Int.reduceEq,Sn] at hc)) | (with_reducible refine KP_i ?_ ?_; · exact aE) | (with_reducible refine And.intro ?_ ?_)) <;> (try simp only [S0,putAt,List.replicate,Int.reduceAdd,Int.reduceSub,Int.reduceMul,Int.reduceTDiv,Int.reduceTMod,Int.reduceMod,Int.reduceDiv,Nat.reduceLT,Nat.reduceEqDiff,Int.reduceLE,Int.reduceLT,Int.reduceToNat,Int.reduceNeg,Int.reduceEq,Nat.reduceLeDiff,Nat.reducePow,Int.reducePow,reduceIte,Nat.reduceSub,Nat.reduceAdd,Nat.reduceMul, *]))); exact kk)) : P := h k
/- paintboxref04 sine -/
def M151 : MC :=
  .seq (.reg [oX 2 (.mv (.const (.int .i32 0)))])
 (.seq (.reg [vX 10 0,
 oX 11 (bK .quo 10 1073741824),
 vX 12 0,
 oX 13 (bK .rem 12 1073741824),
 vX 3 11,
 vX 4 13])
 (.seq (.seq (.reg [vX 14 3,
 oX 15 (bK .rem 14 2),
 oX 16 (bK .eql 15 1)])
 (.cond (.tmp 16)
 (.reg [vX 17 4,
 oX 18 (.bin .sub (kX 1073741824) (.tmp 17)),
 vX 4 18])
 (.skip)))
 (.seq (.reg [vX 19 4,
 vX 20 4,
 oX 21 (bX .mul 19 20),
 oX 22 (.call 149 [(.tmp 21),(kX 30)]),
 vX 5 22])
 (.seq (.reg [oX 6 (.mv (kX 172272))])
 (.seq (.seq (.reg [oX 23 (.build [(.int .i64 0),(.int .i64 0),(.int .i64 0),(.int .i64 0)] [(0,1,(kX 5026995)),(1,1,(kX 85569306)),(2,1,(kX 693598668)),(3,1,(kX 1686629713))]),
 oX 24 (.mv (kX 0))])
 (.block 0 (.loop (.seq (.reg [oX 25 (bK .lss 24 4)])
 (.seq (.cond (.tmp 25)
 (.skip)
 (.exit 0))
 (.seq (.block 1 (.seq (.reg [oX 26 (.ix 4 (.tmp 23) (.tmp 24)),
 vX 8 26])
 (.reg [vX 27 8,
 vX 28 6,
 vX 29 5,
 oX 30 (bX .mul 28 29),
 oX 31 (.call 149 [(.tmp 30),(kX 30)]),
 oX 32 (bX .sub 27 31),
 vX 6 32])))
 (.reg [oX 33 (bK .add 24 1),
 vX 24 33])))))))
 (.seq (.reg [vX 34 6,
 vX 35 4,
 oX 36 (bX .mul 34 35),
 oX 37 (.call 149 [(.tmp 36),(kX 30)]),
 oX 38 (bK .add 37 8192),
 oX 39 (.call 149 [(.tmp 38),(kX 14)]),
 oX 40 (.mn (.tmp 39) (kX 65536)),
 vX 9 40])
 (.seq (.seq (.reg [vX 41 3,
 oX 42 (bK .geq 41 2)])
 (.cond (.tmp 42)
 (.reg [vX 43 9,
 oX 44 (.un .neg (.tmp 43)),
 vX 9 44])
 (.skip)))
 (.seq (.reg [vX 45 9,
 oX 46 (.conv .i32 (.tmp 45)),
 vX 2 46])
 (.ret)))))))))
theorem k151 : fnOk Tryz.prog 151 = some (M151, [.t 2], 47) := by kernel_rfl

theorem r_sine (p : Int) (hp : 0 ≤ p ∧ p < 4294967296) (h : K (.int .i32 (sinF p)) H) : HCalls Tryz.prog w0 151 [.int .i64 p] H K := by
  have hb := sinR_b p
  obtain ⟨r, hr⟩ : ∃ r : Int, Keep (r = sinR p) := ⟨_, rfl⟩
  have hr' : r = sinR p := hr
  rw [← hr'] at hb
  obtain ⟨⟨f1, f2, f3, f4, f5, f6, f7, f8, f9, f10, f11, f12, f13⟩, b1, b2, b3, b4, b5, b6, b7⟩ := sin_facts hb
  have hz := sinZ_b hb
  have a1 : p.tdiv 1073741824 = p / 1073741824 := Int.tdiv_eq_ediv_of_nonneg hp.1
  have a2 : p.tmod 1073741824 = p % 1073741824 := Int.tmod_eq_emod_of_nonneg hp.1
  have a3 : IntKind.i64.wrap (p / 1073741824) = p / 1073741824 := Bw.1 _ (by omega) (by omega)
  have a4 : (p / 1073741824).tmod 2 = p / 1073741824 % 2 := Int.tmod_eq_emod_of_nonneg (by omega)
  have e4 : IntKind.i64.wrap (1073741824 - p % 1073741824) = 1073741824 - p % 1073741824 := Bw.1 _ (by omega) (by omega)
  have e5 : IntKind.i64.wrap r = r := Bw.1 _ (by omega) (by omega)
  have core : ∀ z : Int, Keep (z = sinZ r) → (IntKind.i32.wrap z = z) ∧ IntKind.i64.wrap (0 - z) = -z ∧ IntKind.i32.wrap (-z) = -z := by
    intro z hz'
    have : z = sinZ r := hz'
    exact ⟨Bw.2 _ (by omega) (by omega), by rw [Int.zero_sub]; exact Bw.1 _ (by omega) (by omega), Bw.2 _ (by omega) (by omega)⟩
  have fin1 : ∀ z : Int, Keep (z = sinZ r) → ¬ 2 ≤ p / 1073741824 → Keep (z = sinF p) := fun z h1 h2 => by show z = sinF p; unfold sinF; rw [if_neg (by omega), ← hr']; exact h1
  have fin2 : ∀ z : Int, Keep (z = sinZ r) → 2 ≤ p / 1073741824 → Keep (-z = sinF p) := fun z h1 h2 => by show -z = sinF p; unfold sinF; rw [if_pos (by omega), ← hr', show z = sinZ r from h1]
  clear hz
  by_cases hq : p / 1073741824 % 2 = 1
  · have g1 : 1073741824 - p % 1073741824 = r := by rw [hr']; unfold sinR; rw [if_pos hq]
    clear hr'
    by_cases hm : 65536 < sz r
    · have hzz : Keep ((65536 : Int) = sinZ r) := by show _ = _; unfold sinZ; rw [if_pos hm]
      obtain ⟨y1, y2, y3⟩ := core _ hzz
      refine HL.hc k151 999 ?_; unfold M151
      (all_goals (try simp only [S0,putAt,List.replicate,Int.reduceAdd,Int.reduceSub,Int.reduceMul,Int.reduceTDiv,Int.reduceTMod,Int.reduceMod,Int.reduceDiv,Nat.reduceLT,Nat.reduceEqDiff,Int.reduceLE,Int.reduceLT,Int.reduceToNat,Int.reduceNeg,Int.reduceEq,Nat.reduceLeDiff,Nat.reducePow,Int.reducePow,reduceIte,Nat.reduceSub,Nat.reduceAdd,Nat.reduceMul, *])); repeat' ((first | (with_reducible refine fun _ : True => ?_) | refine r_dn30 _ (by omega) ?_ | refine r_dn14 _ (by omega) ?_ | (with_reducible refine any_h ?_) | ((first | refine AllocQ_i ?_ | refine AllocO_i ?_); intro bk hb0 hbk; try simp only [set_none'] at hbk) | ((first | refine condS_i ?_ ?_ | refine pick_i ?_ ?_ | refine gS_it ?_ ?_ | refine gS_if ?_ ?_ | refine gP_it ?_ ?_ | refine gP_if ?_ ?_) <;> (intro hc; try simp only [Int.reduceLE,Int.reduceLT,Int.reduceEq,Sn] at hc)) | (with_reducible refine KP_i ?_ ?_; · exact aE) | (with_reducible refine loop_u ?_) | (with_reducible refine And.intro ?_ ?_)) <;> (try simp only [S0,putAt,List.replicate,Int.reduceAdd,Int.reduceSub,Int.reduceMul,Int.reduceTDiv,Int.reduceTMod,Int.reduceMod,Int.reduceDiv,Nat.reduceLT,Nat.reduceEqDiff,Int.reduceLE,Int.reduceLT,Int.reduceToNat,Int.reduceNeg,Int.reduceEq,Nat.reduceLeDiff,Nat.reducePow,Int.reducePow,reduceIte,Nat.reduceSub,Nat.reduceAdd,Nat.reduceMul, *]))
      · exact Fin_mk (Heap.Le.refl _) (K_int h (fin2 _ hzz hc))
      · exact Fin_mk (Heap.Le.refl _) (K_int h (fin1 _ hzz hc))
    · have hzz : Keep (sz r = sinZ r) := by show _ = _; unfold sinZ; rw [if_neg hm]
      obtain ⟨y1, y2, y3⟩ := core _ hzz
      refine HL.hc k151 999 ?_; unfold M151
      (all_goals (try simp only [S0,putAt,List.replicate,Int.reduceAdd,Int.reduceSub,Int.reduceMul,Int.reduceTDiv,Int.reduceTMod,Int.reduceMod,Int.reduceDiv,Nat.reduceLT,Nat.reduceEqDiff,Int.reduceLE,Int.reduceLT,Int.reduceToNat,Int.reduceNeg,Int.reduceEq,Nat.reduceLeDiff,Nat.reducePow,Int.reducePow,reduceIte,Nat.reduceSub,Nat.reduceAdd,Nat.reduceMul, *])); repeat' ((first | (with_reducible refine fun _ : True => ?_) | refine r_dn30 _ (by omega) ?_ | refine r_dn14 _ (by omega) ?_ | (with_reducible refine any_h ?_) | ((first | refine AllocQ_i ?_ | refine AllocO_i ?_); intro bk hb0 hbk; try simp only [set_none'] at hbk) | ((first | refine condS_i ?_ ?_ | refine pick_i ?_ ?_ | refine gS_it ?_ ?_ | refine gS_if ?_ ?_ | refine gP_it ?_ ?_ | refine gP_if ?_ ?_) <;> (intro hc; try simp only [Int.reduceLE,Int.reduceLT,Int.reduceEq,Sn] at hc)) | (with_reducible refine KP_i ?_ ?_; · exact aE) | (with_reducible refine loop_u ?_) | (with_reducible refine And.intro ?_ ?_)) <;> (try simp only [S0,putAt,List.replicate,Int.reduceAdd,Int.reduceSub,Int.reduceMul,Int.reduceTDiv,Int.reduceTMod,Int.reduceMod,Int.reduceDiv,Nat.reduceLT,Nat.reduceEqDiff,Int.reduceLE,Int.reduceLT,Int.reduceToNat,Int.reduceNeg,Int.reduceEq,Nat.reduceLeDiff,Nat.reducePow,Int.reducePow,reduceIte,Nat.reduceSub,Nat.reduceAdd,Nat.reduceMul, *]))
      · exact Fin_mk (Heap.Le.refl _) (K_int h (fin2 _ hzz hc))
      · exact Fin_mk (Heap.Le.refl _) (K_int h (fin1 _ hzz hc))
  · have g1 : p % 1073741824 = r := by rw [hr']; unfold sinR; rw [if_neg hq]
    clear hr'
    by_cases hm : 65536 < sz r
    · have hzz : Keep ((65536 : Int) = sinZ r) := by show _ = _; unfold sinZ; rw [if_pos hm]
      obtain ⟨y1, y2, y3⟩ := core _ hzz
      refine HL.hc k151 999 ?_; unfold M151
      (all_goals (try simp only [S0,putAt,List.replicate,Int.reduceAdd,Int.reduceSub,Int.reduceMul,Int.reduceTDiv,Int.reduceTMod,Int.reduceMod,Int.reduceDiv,Nat.reduceLT,Nat.reduceEqDiff,Int.reduceLE,Int.reduceLT,Int.reduceToNat,Int.reduceNeg,Int.reduceEq,Nat.reduceLeDiff,Nat.reducePow,Int.reducePow,reduceIte,Nat.reduceSub,Nat.reduceAdd,Nat.reduceMul, *])); repeat' ((first | (with_reducible refine fun _ : True => ?_) | refine r_dn30 _ (by omega) ?_ | refine r_dn14 _ (by omega) ?_ | (with_reducible refine any_h ?_) | ((first | refine AllocQ_i ?_ | refine AllocO_i ?_); intro bk hb0 hbk; try simp only [set_none'] at hbk) | ((first | refine condS_i ?_ ?_ | refine pick_i ?_ ?_ | refine gS_it ?_ ?_ | refine gS_if ?_ ?_ | refine gP_it ?_ ?_ | refine gP_if ?_ ?_) <;> (intro hc; try simp only [Int.reduceLE,Int.reduceLT,Int.reduceEq,Sn] at hc)) | (with_reducible refine KP_i ?_ ?_; · exact aE) | (with_reducible refine loop_u ?_) | (with_reducible refine And.intro ?_ ?_)) <;> (try simp only [S0,putAt,List.replicate,Int.reduceAdd,Int.reduceSub,Int.reduceMul,Int.reduceTDiv,Int.reduceTMod,Int.reduceMod,Int.reduceDiv,Nat.reduceLT,Nat.reduceEqDiff,Int.reduceLE,Int.reduceLT,Int.reduceToNat,Int.reduceNeg,Int.reduceEq,Nat.reduceLeDiff,Nat.reducePow,Int.reducePow,reduceIte,Nat.reduceSub,Nat.reduceAdd,Nat.reduceMul, *]))
      · exact Fin_mk (Heap.Le.refl _) (K_int h (fin2 _ hzz hc))
      · exact Fin_mk (Heap.Le.refl _) (K_int h (fin1 _ hzz hc))
    · have hzz : Keep (sz r = sinZ r) := by show _ = _; unfold sinZ; rw [if_neg hm]
      obtain ⟨y1, y2, y3⟩ := core _ hzz
      refine HL.hc k151 999 ?_; unfold M151
      (all_goals (try simp only [S0,putAt,List.replicate,Int.reduceAdd,Int.reduceSub,Int.reduceMul,Int.reduceTDiv,Int.reduceTMod,Int.reduceMod,Int.reduceDiv,Nat.reduceLT,Nat.reduceEqDiff,Int.reduceLE,Int.reduceLT,Int.reduceToNat,Int.reduceNeg,Int.reduceEq,Nat.reduceLeDiff,Nat.reducePow,Int.reducePow,reduceIte,Nat.reduceSub,Nat.reduceAdd,Nat.reduceMul, *])); repeat' ((first | (with_reducible refine fun _ : True => ?_) | refine r_dn30 _ (by omega) ?_ | refine r_dn14 _ (by omega) ?_ | (with_reducible refine any_h ?_) | ((first | refine AllocQ_i ?_ | refine AllocO_i ?_); intro bk hb0 hbk; try simp only [set_none'] at hbk) | ((first | refine condS_i ?_ ?_ | refine pick_i ?_ ?_ | refine gS_it ?_ ?_ | refine gS_if ?_ ?_ | refine gP_it ?_ ?_ | refine gP_if ?_ ?_) <;> (intro hc; try simp only [Int.reduceLE,Int.reduceLT,Int.reduceEq,Sn] at hc)) | (with_reducible refine KP_i ?_ ?_; · exact aE) | (with_reducible refine loop_u ?_) | (with_reducible refine And.intro ?_ ?_)) <;> (try simp only [S0,putAt,List.replicate,Int.reduceAdd,Int.reduceSub,Int.reduceMul,Int.reduceTDiv,Int.reduceTMod,Int.reduceMod,Int.reduceDiv,Nat.reduceLT,Nat.reduceEqDiff,Int.reduceLE,Int.reduceLT,Int.reduceToNat,Int.reduceNeg,Int.reduceEq,Nat.reduceLeDiff,Nat.reducePow,Int.reducePow,reduceIte,Nat.reduceSub,Nat.reduceAdd,Nat.reduceMul, *]))
      · exact Fin_mk (Heap.Le.refl _) (K_int h (fin2 _ hzz hc))
      · exact Fin_mk (Heap.Le.refl _) (K_int h (fin1 _ hzz hc))
/- paintboxref04 phase -/
def M152 : MC :=
  .seq (.reg [oX 2 (.mv (kX 0))])
 (.seq (.reg [vX 4 0,
 oX 5 (.conv .i64 (.tmp 4)),
 oX 6 (bK .mul 5 683565276),
 oX 7 (.call 149 [(.tmp 6),(kX 16)]),
 oX 8 (bK .rem 7 4294967296),
 vX 3 8])
 (.seq (.seq (.reg [vX 9 3,
 oX 10 (bK .lss 9 0)])
 (.cond (.tmp 10)
 (.reg [vX 11 3,
 oX 12 (bK .add 11 4294967296),
 vX 3 12])
 (.skip)))
 (.seq (.reg [vX 13 3,
 vX 2 13])
 (.ret))))
theorem k152 : fnOk Tryz.prog 152 = some (M152, [.t 2], 14) := by kernel_rfl

theorem r_phase (x : Int) (hx : I32 x) (h : K (.int .i64 (sphase x)) H) : HCalls Tryz.prog w0 152 [.int .i32 x] H K := by
  unfold I32 at hx
  have e1 : IntKind.i64.wrap x = x := Bw.1 _ (by omega) (by omega)
  have e2 : IntKind.i64.wrap (x * 683565276) = x * 683565276 := Bw.1 _ (by omega) (by omega)
  obtain ⟨t1, t2⟩ := tmod_fact (x * 683565276 / 65536)
  by_cases hc : (x * 683565276 / 65536).tmod 4294967296 < 0
  · have t3 := t1 hc
    have e3 : IntKind.i64.wrap ((x * 683565276 / 65536).tmod 4294967296 + 4294967296) = sphase x := by rw [t3]; exact Bw.1 _ (by omega) (by omega)
    clear t1 t2 t3
    refine HL.hc k152 999 ?_; unfold M152
    (all_goals (try simp only [S0,putAt,List.replicate,Int.reduceAdd,Int.reduceSub,Int.reduceMul,Int.reduceTDiv,Int.reduceTMod,Int.reduceMod,Int.reduceDiv,Nat.reduceLT,Nat.reduceEqDiff,Int.reduceLE,Int.reduceLT,Int.reduceToNat,Int.reduceNeg,Int.reduceEq,Nat.reduceLeDiff,Nat.reducePow,Int.reducePow,reduceIte,Nat.reduceSub,Nat.reduceAdd,Nat.reduceMul, *])); repeat' ((first | (with_reducible refine fun _ : True => ?_) | refine r_dn16 _ (by omega) ?_ | (with_reducible refine any_h ?_) | ((first | refine AllocQ_i ?_ | refine AllocO_i ?_); intro bk hb0 hbk; try simp only [set_none'] at hbk) | ((first | refine condS_i ?_ ?_ | refine pick_i ?_ ?_ | refine gS_it ?_ ?_ | refine gS_if ?_ ?_ | refine gP_it ?_ ?_ | refine gP_if ?_ ?_) <;> (intro hc; try simp only [Int.reduceLE,Int.reduceLT,Int.reduceEq,Sn] at hc)) | (with_reducible refine KP_i ?_ ?_; · exact aE) | (with_reducible refine And.intro ?_ ?_)) <;> (try simp only [S0,putAt,List.replicate,Int.reduceAdd,Int.reduceSub,Int.reduceMul,Int.reduceTDiv,Int.reduceTMod,Int.reduceMod,Int.reduceDiv,Nat.reduceLT,Nat.reduceEqDiff,Int.reduceLE,Int.reduceLT,Int.reduceToNat,Int.reduceNeg,Int.reduceEq,Nat.reduceLeDiff,Nat.reducePow,Int.reducePow,reduceIte,Nat.reduceSub,Nat.reduceAdd,Nat.reduceMul, *]))
    exact Fin_mk (Heap.Le.refl _) h
  · have t3 : Keep ((x * 683565276 / 65536).tmod 4294967296 = sphase x) := t2 hc
    clear t1 t2
    refine HL.hc k152 999 ?_; unfold M152
    (all_goals (try simp only [S0,putAt,List.replicate,Int.reduceAdd,Int.reduceSub,Int.reduceMul,Int.reduceTDiv,Int.reduceTMod,Int.reduceMod,Int.reduceDiv,Nat.reduceLT,Nat.reduceEqDiff,Int.reduceLE,Int.reduceLT,Int.reduceToNat,Int.reduceNeg,Int.reduceEq,Nat.reduceLeDiff,Nat.reducePow,Int.reducePow,reduceIte,Nat.reduceSub,Nat.reduceAdd,Nat.reduceMul, *])); repeat' ((first | (with_reducible refine fun _ : True => ?_) | refine r_dn16 _ (by omega) ?_ | (with_reducible refine any_h ?_) | ((first | refine AllocQ_i ?_ | refine AllocO_i ?_); intro bk hb0 hbk; try simp only [set_none'] at hbk) | ((first | refine condS_i ?_ ?_ | refine pick_i ?_ ?_ | refine gS_it ?_ ?_ | refine gS_if ?_ ?_ | refine gP_it ?_ ?_ | refine gP_if ?_ ?_) <;> (intro hc; try simp only [Int.reduceLE,Int.reduceLT,Int.reduceEq,Sn] at hc)) | (with_reducible refine KP_i ?_ ?_; · exact aE) | (with_reducible refine And.intro ?_ ?_)) <;> (try simp only [S0,putAt,List.replicate,Int.reduceAdd,Int.reduceSub,Int.reduceMul,Int.reduceTDiv,Int.reduceTMod,Int.reduceMod,Int.reduceDiv,Nat.reduceLT,Nat.reduceEqDiff,Int.reduceLE,Int.reduceLT,Int.reduceToNat,Int.reduceNeg,Int.reduceEq,Nat.reduceLeDiff,Nat.reducePow,Int.reducePow,reduceIte,Nat.reduceSub,Nat.reduceAdd,Nat.reduceMul, *]))
    exact Fin_mk (Heap.Le.refl _) (K_int h t3)
/- paintboxref04 Sin -/
def M121 : MC :=
  .seq (.reg [oX 2 (.mv (.const (.int .i32 0)))])
 (.seq (.reg [vX 3 0,
 oX 4 (.call 152 [(.tmp 3)]),
 oX 5 (.call 151 [(.tmp 4)]),
 vX 2 5])
 (.ret))
theorem k121 : fnOk Tryz.prog 121 = some (M121, [.t 2], 6) := by kernel_rfl

theorem r_Sin (x : Int) (hx : I32 x) (h : K (.int .i32 (fsin x)) H) : HCalls Tryz.prog w0 121 [.int .i32 x] H K := by
  refine HL.hc k121 999 ?_; unfold M121
  (all_goals (try simp only [S0,putAt,List.replicate,Int.reduceAdd,Int.reduceSub,Int.reduceMul,Int.reduceTDiv,Int.reduceTMod,Int.reduceMod,Int.reduceDiv,Nat.reduceLT,Nat.reduceEqDiff,Int.reduceLE,Int.reduceLT,Int.reduceToNat,Int.reduceNeg,Int.reduceEq,Nat.reduceLeDiff,Nat.reducePow,Int.reducePow,reduceIte,Nat.reduceSub,Nat.reduceAdd,Nat.reduceMul, *])); repeat' ((first | (with_reducible refine fun _ : True => ?_) | refine r_phase _ hx ?_ | refine r_sine _ (sphase_b x) ?_ | (with_reducible refine any_h ?_) | ((first | refine AllocQ_i ?_ | refine AllocO_i ?_); intro bk hb0 hbk; try simp only [set_none'] at hbk) | ((first | refine condS_i ?_ ?_ | refine pick_i ?_ ?_ | refine gS_it ?_ ?_ | refine gS_if ?_ ?_ | refine gP_it ?_ ?_ | refine gP_if ?_ ?_) <;> (intro hc; try simp only [Int.reduceLE,Int.reduceLT,Int.reduceEq,Sn] at hc)) | (with_reducible refine KP_i ?_ ?_; · exact aE) | (with_reducible refine And.intro ?_ ?_)) <;> (try simp only [S0,putAt,List.replicate,Int.reduceAdd,Int.reduceSub,Int.reduceMul,Int.reduceTDiv,Int.reduceTMod,Int.reduceMod,Int.reduceDiv,Nat.reduceLT,Nat.reduceEqDiff,Int.reduceLE,Int.reduceLT,Int.reduceToNat,Int.reduceNeg,Int.reduceEq,Nat.reduceLeDiff,Nat.reducePow,Int.reducePow,reduceIte,Nat.reduceSub,Nat.reduceAdd,Nat.reduceMul, *]))
  exact Fin_mk (Heap.Le.refl _) h
/- paintboxref04 Cos -/
def M122 : MC :=
  .seq (.reg [oX 2 (.mv (.const (.int .i32 0)))])
 (.seq (.reg [vX 3 0,
 oX 4 (.call 152 [(.tmp 3)]),
 oX 5 (bK .add 4 1073741824),
 oX 6 (bK .rem 5 4294967296),
 oX 7 (.call 151 [(.tmp 6)]),
 vX 2 7])
 (.ret))
theorem k122 : fnOk Tryz.prog 122 = some (M122, [.t 2], 8) := by kernel_rfl

theorem r_Cos (x : Int) (hx : I32 x) (h : K (.int .i32 (fcos x)) H) : HCalls Tryz.prog w0 122 [.int .i32 x] H K := by
  have hs := sphase_b x
  have e1 : IntKind.i64.wrap (sphase x + 1073741824) = sphase x + 1073741824 := Bw.1 _ (by omega) (by omega)
  have e2 : (sphase x + 1073741824).tmod 4294967296 = (sphase x + 1073741824) % 4294967296 := Int.tmod_eq_emod_of_nonneg (by omega)
  refine HL.hc k122 999 ?_; unfold M122
  (all_goals (try simp only [S0,putAt,List.replicate,Int.reduceAdd,Int.reduceSub,Int.reduceMul,Int.reduceTDiv,Int.reduceTMod,Int.reduceMod,Int.reduceDiv,Nat.reduceLT,Nat.reduceEqDiff,Int.reduceLE,Int.reduceLT,Int.reduceToNat,Int.reduceNeg,Int.reduceEq,Nat.reduceLeDiff,Nat.reducePow,Int.reducePow,reduceIte,Nat.reduceSub,Nat.reduceAdd,Nat.reduceMul, *])); repeat' ((first | (with_reducible refine fun _ : True => ?_) | refine r_phase _ hx ?_ | refine r_sine _ ⟨Int.emod_nonneg _ (by omega), Int.emod_lt_of_pos _ (by omega)⟩ ?_ | (with_reducible refine any_h ?_) | ((first | refine AllocQ_i ?_ | refine AllocO_i ?_); intro bk hb0 hbk; try simp only [set_none'] at hbk) | ((first | refine condS_i ?_ ?_ | refine pick_i ?_ ?_ | refine gS_it ?_ ?_ | refine gS_if ?_ ?_ | refine gP_it ?_ ?_ | refine gP_if ?_ ?_) <;> (intro hc; try simp only [Int.reduceLE,Int.reduceLT,Int.reduceEq,Sn] at hc)) | (with_reducible refine KP_i ?_ ?_; · exact aE) | (with_reducible refine And.intro ?_ ?_)) <;> (try simp only [S0,putAt,List.replicate,Int.reduceAdd,Int.reduceSub,Int.reduceMul,Int.reduceTDiv,Int.reduceTMod,Int.reduceMod,Int.reduceDiv,Nat.reduceLT,Nat.reduceEqDiff,Int.reduceLE,Int.reduceLT,Int.reduceToNat,Int.reduceNeg,Int.reduceEq,Nat.reduceLeDiff,Nat.reducePow,Int.reducePow,reduceIte,Nat.reduceSub,Nat.reduceAdd,Nat.reduceMul, *]))
  exact Fin_mk (Heap.Le.refl _) h
/- paintboxref04 Pow -/
def M66 : MC :=
  .seq (.reg [oX 4 (.mv (.const (.int .i32 0)))])
 (.seq (.seq (.reg [vX 5 0,
 oX 6 (.bin .leq (.tmp 5) (.const (.int .i32 0)))])
 (.cond (.tmp 6)
 (.seq (.reg [oX 4 (.mv (.const (.int .i32 0)))])
 (.ret))
 (.skip)))
 (.seq (.reg [vX 7 1,
 vX 8 0,
 oX 9 (.call 118 [(.tmp 8)]),
 oX 10 (.call 115 [(.tmp 7),(.tmp 9)]),
 oX 11 (.call 117 [(.tmp 10)]),
 vX 4 11])
 (.ret)))
theorem k66 : fnOk Tryz.prog 66 = some (M66, [.t 4], 12) := by kernel_rfl

theorem r_Pow (x y : Int) (hx : I32 x) (hy : I32 y) (h : K (.int .i32 (if x ≤ 0 then 0 else expo (fmul y (flog x)))) H) : HCalls Tryz.prog w0 66 [.int .i32 x, .int .i32 y] H K := by
  refine HL.hc k66 999 ?_; unfold M66
  (all_goals (try simp only [S0,putAt,List.replicate,Int.reduceAdd,Int.reduceSub,Int.reduceMul,Int.reduceTDiv,Int.reduceTMod,Int.reduceMod,Int.reduceDiv,Nat.reduceLT,Nat.reduceEqDiff,Int.reduceLE,Int.reduceLT,Int.reduceToNat,Int.reduceNeg,Int.reduceEq,Nat.reduceLeDiff,Nat.reducePow,Int.reducePow,reduceIte,Nat.reduceSub,Nat.reduceAdd,Nat.reduceMul, *])); repeat' ((first | (with_reducible refine fun _ : True => ?_) | refine r_Log2 _ hx ?_ | refine r_Mul _ _ hy (flog_I32 hx) ?_ | refine r_Exp2 _ (raw_I32 _) ?_ | (with_reducible refine any_h ?_) | ((first | refine AllocQ_i ?_ | refine AllocO_i ?_); intro bk hb0 hbk; try simp only [set_none'] at hbk) | ((first | refine condS_i ?_ ?_ | refine pick_i ?_ ?_ | refine gS_it ?_ ?_ | refine gS_if ?_ ?_ | refine gP_it ?_ ?_ | refine gP_if ?_ ?_) <;> (intro hc; try simp only [Int.reduceLE,Int.reduceLT,Int.reduceEq,Sn] at hc)) | (with_reducible refine KP_i ?_ ?_; · exact aE) | (with_reducible refine And.intro ?_ ?_)) <;> (try simp only [S0,putAt,List.replicate,Int.reduceAdd,Int.reduceSub,Int.reduceMul,Int.reduceTDiv,Int.reduceTMod,Int.reduceMod,Int.reduceDiv,Nat.reduceLT,Nat.reduceEqDiff,Int.reduceLE,Int.reduceLT,Int.reduceToNat,Int.reduceNeg,Int.reduceEq,Nat.reduceLeDiff,Nat.reducePow,Int.reducePow,reduceIte,Nat.reduceSub,Nat.reduceAdd,Nat.reduceMul, *]))
  · exact Fin_mk (Heap.Le.refl _) (K_int h (by rw [if_pos hc]))
  · exact Fin_mk (Heap.Le.refl _) (K_int h (by rw [if_neg hc]))
/- paintboxref04 Length -/
def M61 : MC :=
  .seq (.reg [oX 2 (.box 28 (.tmp 0)),
 oX 4 (.mv (.const (.int .i32 0)))])
 (.seq (.reg [oX 5 (.mv (.const (.int .u64 0)))])
 (.seq (.seq (.reg [oX 6 (.mv (kX 0))])
 (.block 0 (.loop (.seq (.seq (.reg [vX 8 6,
 vX 9 1,
 oX 10 (.mn (.tmp 9) (kX 4)),
 oX 11 (bX .lss 8 10)])
 (.cond (.tmp 11)
 (.skip)
 (.exit 0)))
 (.seq (.block 1 (.seq (.reg [vX 14 6,
 oX 15 (.ia 4 1 (.tmp 2) (.tmp 14)),
 oX 16 (.ld1 (.tmp 15)),
 oX 17 (.conv .i64 (.tmp 16)),
 vX 7 17])
 (.seq (.reg [vX 18 5,
 vX 19 7,
 vX 20 7,
 oX 21 (bX .mul 19 20),
 oX 22 (.conv .u64 (.tmp 21)),
 oX 23 (bX .add 18 22),
 vX 5 23])
 (.seq (.reg [vX 24 5,
 oX 25 (.bin .geq (.tmp 24) (.const (.int .u64 4611686018427387904)))])
 (.cond (.tmp 25)
 (.seq (.reg [oX 4 (.mv (.const (.int .i32 2147483647)))])
 (.ret))
 (.skip))))))
 (.reg [vX 12 6,
 oX 13 (bK .add 12 1),
 vX 6 13]))))))
 (.seq (.reg [vX 26 5,
 oX 27 (.call 111 [(.tmp 26)]),
 oX 28 (.conv .i64 (.tmp 27)),
 oX 29 (.call 71 [(.tmp 28)]),
 vX 4 29])
 (.ret))))
theorem k61 : fnOk Tryz.prog 61 = some (M61, [.t 4], 30) := by kernel_rfl

theorem r_Length (v : Nat → Int) (n : Int) (hv : ∀ i, I32 (v i)) (h : K (.int .i32 (flen v n)) H) : HCalls Tryz.prog w0 61 [VV v, .int .i64 n] H K := by
  have hcnt := cnt_le n
  have big : ∀ k : Nat, k ≤ cnt n → 4611686018427387904 ≤ ssq v k → Keep ((2147483647 : Int) = flen v n) := fun k hk hb => by
    show _ = _
    have := ssq_mono hv hk
    unfold flen; rw [if_pos (by omega)]
  by_cases h4 : 4 < n
  · have hcn : Keep (cnt n = 4) := by show cnt n = 4; unfold cnt; rw [if_neg (by omega), if_pos h4]
    refine HL.hc k61 999 ?_; unfold M61
    (all_goals (try simp only [S0,putAt,List.replicate,Int.reduceAdd,Int.reduceSub,Int.reduceMul,Int.reduceTDiv,Int.reduceTMod,Int.reduceMod,Int.reduceDiv,Nat.reduceLT,Nat.reduceEqDiff,Int.reduceLE,Int.reduceLT,Int.reduceToNat,Int.reduceNeg,Int.reduceEq,Nat.reduceLeDiff,Nat.reducePow,Int.reducePow,reduceIte,Nat.reduceSub,Nat.reduceAdd,Nat.reduceMul, *])); repeat' ((first | (with_reducible refine fun _ : True => ?_) | (with_reducible refine any_h ?_) | ((first | refine AllocQ_i ?_ | refine AllocO_i ?_); intro bk hb0 hbk; try simp only [set_none'] at hbk) | ((first | refine condS_i ?_ ?_ | refine pick_i ?_ ?_ | refine gS_it ?_ ?_ | refine gS_if ?_ ?_ | refine gP_it ?_ ?_ | refine gP_if ?_ ?_) <;> (intro hc; try simp only [Int.reduceLE,Int.reduceLT,Int.reduceEq,Sn] at hc)) | (with_reducible refine KP_i ?_ ?_; · exact aE) | (with_reducible refine And.intro ?_ ?_)) <;> (try simp only [S0,putAt,List.replicate,Int.reduceAdd,Int.reduceSub,Int.reduceMul,Int.reduceTDiv,Int.reduceTMod,Int.reduceMod,Int.reduceDiv,Nat.reduceLT,Nat.reduceEqDiff,Int.reduceLE,Int.reduceLT,Int.reduceToNat,Int.reduceNeg,Int.reduceEq,Nat.reduceLeDiff,Nat.reducePow,Int.reducePow,reduceIte,Nat.reduceSub,Nat.reduceAdd,Nat.reduceMul, *]))
    refine loop_g 8 (fun s : Nat × Value => [(5, .int .u64 (ssq v s.1)), (6, .int .i64 (s.1 : Nat)), (7, s.2)]) (fun s => H.set bk _) (fun s => s.1 ≤ cnt n ∧ ssq v s.1 < 4611686018427387904) (fun s => cnt n - s.1) (0, undef) ⟨by simp, show (0 : Int) < 4611686018427387904 by decide⟩ (Heap.Le.refl _) rfl ?_
    intro ⟨k, u⟩ f ⟨hk, hs⟩
    simp only at hk hs
    have s0 := ssq_b hv k
    rcases Nat.lt_or_ge k (cnt n) with hlt | hge
    · have t1 : (k : Int) < 4 := by have : cnt n = 4 := hcn; omega
      have t2 := vv_at v k (by omega)
      have t3 : IntKind.i64.wrap ((k : Int) + 1) = (k : Int) + 1 := Bw.1 _ (by omega) (by omega)
      have t30 : (k : Int) < 4 := by omega
      have hx := hv k
      have q0 := sq_b hx
      unfold I32 at hx
      have e1 : IntKind.i64.wrap (v k) = v k := Bw.1 _ (by omega) (by omega)
      have e2 : IntKind.i64.wrap (v k * v k) = v k * v k := Bw.1 _ (by omega) (by omega)
      have e3 : IntKind.u64.wrap (v k * v k) = v k * v k := Bu.1 _ (by omega) (by omega)
      have e4 : IntKind.u64.wrap (ssq v k + v k * v k) = ssq v k + v k * v k := Bu.1 _ (by omega) (by omega)
      clear s0 q0
      (all_goals (try simp only [S0,putAt,List.replicate,Int.reduceAdd,Int.reduceSub,Int.reduceMul,Int.reduceTDiv,Int.reduceTMod,Int.reduceMod,Int.reduceDiv,Nat.reduceLT,Nat.reduceEqDiff,Int.reduceLE,Int.reduceLT,Int.reduceToNat,Int.reduceNeg,Int.reduceEq,Nat.reduceLeDiff,Nat.reducePow,Int.reducePow,reduceIte,Nat.reduceSub,Nat.reduceAdd,Nat.reduceMul, *])); repeat' ((first | (with_reducible refine fun _ : True => ?_) | (with_reducible refine any_h ?_) | ((first | refine AllocQ_i ?_ | refine AllocO_i ?_); intro bk hb0 hbk; try simp only [set_none'] at hbk) | ((first | refine condS_i ?_ ?_ | refine pick_i ?_ ?_ | refine gS_it ?_ ?_ | refine gS_if ?_ ?_ | refine gP_it ?_ ?_ | refine gP_if ?_ ?_) <;> (intro hc; try simp only [Int.reduceLE,Int.reduceLT,Int.reduceEq,Sn] at hc)) | (with_reducible refine KP_i ?_ ?_; · exact aE) | (with_reducible refine And.intro ?_ ?_)) <;> (try simp only [S0,putAt,List.replicate,Int.reduceAdd,Int.reduceSub,Int.reduceMul,Int.reduceTDiv,Int.reduceTMod,Int.reduceMod,Int.reduceDiv,Nat.reduceLT,Nat.reduceEqDiff,Int.reduceLE,Int.reduceLT,Int.reduceToNat,Int.reduceNeg,Int.reduceEq,Nat.reduceLeDiff,Nat.reducePow,Int.reducePow,reduceIte,Nat.reduceSub,Nat.reduceAdd,Nat.reduceMul, *]))
      · exact Fin_mk aE (K_int h (big (k + 1) hlt hc))
      · exact Round_mk (k + 1, _) ⟨hlt, by simp only [ssq]; omega⟩ (by simp only; omega) (Heap.Le.refl _) rfl rfl
    · have hkk : k = cnt n := by omega
      have t1 : ¬ (k : Int) < 4 := by have : cnt n = 4 := hcn; omega
      have e0 : U64 (ssq v k) := ⟨by omega, by omega⟩
      have i1 := isq_spec (n := ssq v k) (by omega)
      have i2 := isq_lt (n := ssq v k) (k := 4294967296) (by omega) (by omega) (by omega)
      have e1 : IntKind.i64.wrap (isq (ssq v k)) = isq (ssq v k) := Bw.1 _ (by omega) (by omega)
      have e2 : Keep (raw (isq (ssq v k)) = flen v n) := by show _ = _; rw [hkk]; exact flen_raw hv n
      clear hkk i1 i2 s0
      (all_goals (try simp only [S0,putAt,List.replicate,Int.reduceAdd,Int.reduceSub,Int.reduceMul,Int.reduceTDiv,Int.reduceTMod,Int.reduceMod,Int.reduceDiv,Nat.reduceLT,Nat.reduceEqDiff,Int.reduceLE,Int.reduceLT,Int.reduceToNat,Int.reduceNeg,Int.reduceEq,Nat.reduceLeDiff,Nat.reducePow,Int.reducePow,reduceIte,Nat.reduceSub,Nat.reduceAdd,Nat.reduceMul, *])); repeat' ((first | (with_reducible refine fun _ : True => ?_) | refine r_Root _ e0 ?_ | refine r_Raw _ ?_ | (with_reducible refine any_h ?_) | ((first | refine AllocQ_i ?_ | refine AllocO_i ?_); intro bk hb0 hbk; try simp only [set_none'] at hbk) | ((first | refine condS_i ?_ ?_ | refine pick_i ?_ ?_ | refine gS_it ?_ ?_ | refine gS_if ?_ ?_ | refine gP_it ?_ ?_ | refine gP_if ?_ ?_) <;> (intro hc; try simp only [Int.reduceLE,Int.reduceLT,Int.reduceEq,Sn] at hc)) | (with_reducible refine KP_i ?_ ?_; · exact aE) | (with_reducible refine And.intro ?_ ?_)) <;> (try simp only [S0,putAt,List.replicate,Int.reduceAdd,Int.reduceSub,Int.reduceMul,Int.reduceTDiv,Int.reduceTMod,Int.reduceMod,Int.reduceDiv,Nat.reduceLT,Nat.reduceEqDiff,Int.reduceLE,Int.reduceLT,Int.reduceToNat,Int.reduceNeg,Int.reduceEq,Nat.reduceLeDiff,Nat.reducePow,Int.reducePow,reduceIte,Nat.reduceSub,Nat.reduceAdd,Nat.reduceMul, *]))
      exact Fin_mk aE (K_int h e2)
  · have hcn : Keep ((cnt n : Int) = if n < 0 then 0 else n) := by show _ = _; unfold cnt; split <;> simp_all <;> omega
    refine HL.hc k61 999 ?_; unfold M61
    (all_goals (try simp only [S0,putAt,List.replicate,Int.reduceAdd,Int.reduceSub,Int.reduceMul,Int.reduceTDiv,Int.reduceTMod,Int.reduceMod,Int.reduceDiv,Nat.reduceLT,Nat.reduceEqDiff,Int.reduceLE,Int.reduceLT,Int.reduceToNat,Int.reduceNeg,Int.reduceEq,Nat.reduceLeDiff,Nat.reducePow,Int.reducePow,reduceIte,Nat.reduceSub,Nat.reduceAdd,Nat.reduceMul, *])); repeat' ((first | (with_reducible refine fun _ : True => ?_) | (with_reducible refine any_h ?_) | ((first | refine AllocQ_i ?_ | refine AllocO_i ?_); intro bk hb0 hbk; try simp only [set_none'] at hbk) | ((first | refine condS_i ?_ ?_ | refine pick_i ?_ ?_ | refine gS_it ?_ ?_ | refine gS_if ?_ ?_ | refine gP_it ?_ ?_ | refine gP_if ?_ ?_) <;> (intro hc; try simp only [Int.reduceLE,Int.reduceLT,Int.reduceEq,Sn] at hc)) | (with_reducible refine KP_i ?_ ?_; · exact aE) | (with_reducible refine And.intro ?_ ?_)) <;> (try simp only [S0,putAt,List.replicate,Int.reduceAdd,Int.reduceSub,Int.reduceMul,Int.reduceTDiv,Int.reduceTMod,Int.reduceMod,Int.reduceDiv,Nat.reduceLT,Nat.reduceEqDiff,Int.reduceLE,Int.reduceLT,Int.reduceToNat,Int.reduceNeg,Int.reduceEq,Nat.reduceLeDiff,Nat.reducePow,Int.reducePow,reduceIte,Nat.reduceSub,Nat.reduceAdd,Nat.reduceMul, *]))
    refine loop_g 8 (fun s : Nat × Value => [(5, .int .u64 (ssq v s.1)), (6, .int .i64 (s.1 : Nat)), (7, s.2)]) (fun s => H.set bk _) (fun s => s.1 ≤ cnt n ∧ ssq v s.1 < 4611686018427387904) (fun s => cnt n - s.1) (0, undef) ⟨by simp, show (0 : Int) < 4611686018427387904 by decide⟩ (Heap.Le.refl _) rfl ?_
    intro ⟨k, u⟩ f ⟨hk, hs⟩
    simp only at hk hs
    have s0 := ssq_b hv k
    rcases Nat.lt_or_ge k (cnt n) with hlt | hge
    · have t1 : (k : Int) < n := by have : (cnt n : Int) = if n < 0 then 0 else n := hcn; split at this <;> omega
      have t2 := vv_at v k (by omega)
      have t3 : IntKind.i64.wrap ((k : Int) + 1) = (k : Int) + 1 := Bw.1 _ (by omega) (by omega)
      have t30 : (k : Int) < 4 := by omega
      have hx := hv k
      have q0 := sq_b hx
      unfold I32 at hx
      have e1 : IntKind.i64.wrap (v k) = v k := Bw.1 _ (by omega) (by omega)
      have e2 : IntKind.i64.wrap (v k * v k) = v k * v k := Bw.1 _ (by omega) (by omega)
      have e3 : IntKind.u64.wrap (v k * v k) = v k * v k := Bu.1 _ (by omega) (by omega)
      have e4 : IntKind.u64.wrap (ssq v k + v k * v k) = ssq v k + v k * v k := Bu.1 _ (by omega) (by omega)
      clear s0 q0
      (all_goals (try simp only [S0,putAt,List.replicate,Int.reduceAdd,Int.reduceSub,Int.reduceMul,Int.reduceTDiv,Int.reduceTMod,Int.reduceMod,Int.reduceDiv,Nat.reduceLT,Nat.reduceEqDiff,Int.reduceLE,Int.reduceLT,Int.reduceToNat,Int.reduceNeg,Int.reduceEq,Nat.reduceLeDiff,Nat.reducePow,Int.reducePow,reduceIte,Nat.reduceSub,Nat.reduceAdd,Nat.reduceMul, *])); repeat' ((first | (with_reducible refine fun _ : True => ?_) | (with_reducible refine any_h ?_) | ((first | refine AllocQ_i ?_ | refine AllocO_i ?_); intro bk hb0 hbk; try simp only [set_none'] at hbk) | ((first | refine condS_i ?_ ?_ | refine pick_i ?_ ?_ | refine gS_it ?_ ?_ | refine gS_if ?_ ?_ | refine gP_it ?_ ?_ | refine gP_if ?_ ?_) <;> (intro hc; try simp only [Int.reduceLE,Int.reduceLT,Int.reduceEq,Sn] at hc)) | (with_reducible refine KP_i ?_ ?_; · exact aE) | (with_reducible refine And.intro ?_ ?_)) <;> (try simp only [S0,putAt,List.replicate,Int.reduceAdd,Int.reduceSub,Int.reduceMul,Int.reduceTDiv,Int.reduceTMod,Int.reduceMod,Int.reduceDiv,Nat.reduceLT,Nat.reduceEqDiff,Int.reduceLE,Int.reduceLT,Int.reduceToNat,Int.reduceNeg,Int.reduceEq,Nat.reduceLeDiff,Nat.reducePow,Int.reducePow,reduceIte,Nat.reduceSub,Nat.reduceAdd,Nat.reduceMul, *]))
      · exact Fin_mk aE (K_int h (big (k + 1) hlt hc))
      · exact Round_mk (k + 1, _) ⟨hlt, by simp only [ssq]; omega⟩ (by simp only; omega) (Heap.Le.refl _) rfl rfl
    · have hkk : k = cnt n := by omega
      have t1 : ¬ (k : Int) < n := by have : (cnt n : Int) = if n < 0 then 0 else n := hcn; split at this <;> omega
      have e0 : U64 (ssq v k) := ⟨by omega, by omega⟩
      have i1 := isq_spec (n := ssq v k) (by omega)
      have i2 := isq_lt (n := ssq v k) (k := 4294967296) (by omega) (by omega) (by omega)
      have e1 : IntKind.i64.wrap (isq (ssq v k)) = isq (ssq v k) := Bw.1 _ (by omega) (by omega)
      have e2 : Keep (raw (isq (ssq v k)) = flen v n) := by show _ = _; rw [hkk]; exact flen_raw hv n
      clear hkk i1 i2 s0
      (all_goals (try simp only [S0,putAt,List.replicate,Int.reduceAdd,Int.reduceSub,Int.reduceMul,Int.reduceTDiv,Int.reduceTMod,Int.reduceMod,Int.reduceDiv,Nat.reduceLT,Nat.reduceEqDiff,Int.reduceLE,Int.reduceLT,Int.reduceToNat,Int.reduceNeg,Int.reduceEq,Nat.reduceLeDiff,Nat.reducePow,Int.reducePow,reduceIte,Nat.reduceSub,Nat.reduceAdd,Nat.reduceMul, *])); repeat' ((first | (with_reducible refine fun _ : True => ?_) | refine r_Root _ e0 ?_ | refine r_Raw _ ?_ | (with_reducible refine any_h ?_) | ((first | refine AllocQ_i ?_ | refine AllocO_i ?_); intro bk hb0 hbk; try simp only [set_none'] at hbk) | ((first | refine condS_i ?_ ?_ | refine pick_i ?_ ?_ | refine gS_it ?_ ?_ | refine gS_if ?_ ?_ | refine gP_it ?_ ?_ | refine gP_if ?_ ?_) <;> (intro hc; try simp only [Int.reduceLE,Int.reduceLT,Int.reduceEq,Sn] at hc)) | (with_reducible refine KP_i ?_ ?_; · exact aE) | (with_reducible refine And.intro ?_ ?_)) <;> (try simp only [S0,putAt,List.replicate,Int.reduceAdd,Int.reduceSub,Int.reduceMul,Int.reduceTDiv,Int.reduceTMod,Int.reduceMod,Int.reduceDiv,Nat.reduceLT,Nat.reduceEqDiff,Int.reduceLE,Int.reduceLT,Int.reduceToNat,Int.reduceNeg,Int.reduceEq,Nat.reduceLeDiff,Nat.reducePow,Int.reducePow,reduceIte,Nat.reduceSub,Nat.reduceAdd,Nat.reduceMul, *]))
      exact Fin_mk aE (K_int h e2)
/- paintboxref04 Normalize -/
def M57 : MC :=
  .seq (.reg [oX 2 (.box 28 (.tmp 0)),
 oX 4 (.alloc 28 [(.int .i32 0),(.int .i32 0),(.int .i32 0),(.int .i32 0)])])
 (.seq (.reg [oX 5 (.alloc 28 [(.int .i32 0),(.int .i32 0),(.int .i32 0),(.int .i32 0)])])
 (.seq (.reg [oX 8 (.ldn 4 (.tmp 2)),
 vX 9 1,
 oX 10 (.call 61 [(.tmp 8),(.tmp 9)]),
 vX 6 10])
 (.seq (.seq (.reg [oX 7 (.mv (kX 0))])
 (.block 0 (.loop (.seq (.seq (.reg [vX 11 7,
 vX 12 1,
 oX 13 (.mn (.tmp 12) (kX 4)),
 oX 14 (bX .lss 11 13),
 vX 15 14,
 ⟨(some 16),.mv (.tmp 6),(some (15,true))⟩,
 ⟨(some 17),.bin .neq (.tmp 16) (.const (.int .i32 0)),(some (15,true))⟩,
 oX 18 (.pick (.tmp 15) (.tmp 17) (.const (.bool false)))])
 (.cond (.tmp 18)
 (.skip)
 (.exit 0)))
 (.seq (.block 1 (.reg [vX 21 7,
 vX 22 7,
 oX 23 (.ia 4 1 (.tmp 2) (.tmp 22)),
 oX 24 (.ld1 (.tmp 23)),
 vX 25 6,
 oX 26 (.call 108 [(.tmp 24),(.tmp 25)]),
 oX 27 (.ia 4 1 (.tmp 5) (.tmp 21)),
 ⟨none,.st1 (.tmp 27) (.tmp 26),none⟩]))
 (.reg [vX 19 7,
 oX 20 (bK .add 19 1),
 vX 7 20]))))))
 (.seq (.reg [oX 28 (.ldn 4 (.tmp 5)),
 ⟨none,.stn 4 (.tmp 4) (.tmp 28),none⟩])
 (.ret)))))
theorem k57 : fnOk Tryz.prog 57 = some (M57, [.cn 4 4], 29) := by kernel_rfl

theorem r_Normalize (v : Nat → Int) (n : Int) (hv : ∀ i, I32 (v i)) (h : K (VV (fnorm v n)) H) : HCalls Tryz.prog w0 57 [VV v, .int .i64 n] H K := by
  have hl := flen_I32 hv n
  obtain ⟨L, hL⟩ : ∃ L : Int, Keep (flen v n = L) := ⟨_, rfl⟩
  have hL' : flen v n = L := hL
  have len : ∀ {H : Heap} {K : Value → Heap → Prop}, K (.int .i32 L) H → HCalls Tryz.prog w0 61 [VV v, .int .i64 n] H K := fun h => r_Length v n hv (by rw [hL']; exact h)
  rw [hL'] at hl
  have fz : ∀ i : Nat, L = 0 → (0 : Int) = fnorm v n i := fun i h0 => by unfold fnorm; rw [hL', if_pos h0]; split <;> rfl
  have fo : ∀ i : Nat, cnt n ≤ i → (0 : Int) = fnorm v n i := fun i h0 => by unfold fnorm; rw [if_neg (by omega)]
  have fi : ∀ i : Nat, i < cnt n → ¬ L = 0 → fdiv (v i) L = fnorm v n i := fun i h0 h1 => by unfold fnorm; rw [if_pos h0, hL', if_neg h1]
  clear hL'
  have hcs : (n < 0 ∨ n = 0) ∨ n = 1 ∨ n = 2 ∨ n = 3 ∨ n = 4 ∨ 4 < n := by omega
  by_cases hz : L = 0
  · have fz' : Keep (∀ i : Nat, (0 : Int) = fnorm v n i) := fun i => fz i hz
    clear fz fo fi
    subst hz
    refine HL.hc k57 999 ?_; unfold M57
    (all_goals (try simp only [S0,putAt,List.replicate,Int.reduceAdd,Int.reduceSub,Int.reduceMul,Int.reduceTDiv,Int.reduceTMod,Int.reduceMod,Int.reduceDiv,Nat.reduceLT,Nat.reduceEqDiff,Int.reduceLE,Int.reduceLT,Int.reduceToNat,Int.reduceNeg,Int.reduceEq,Nat.reduceLeDiff,Nat.reducePow,Int.reducePow,reduceIte,Nat.reduceSub,Nat.reduceAdd,Nat.reduceMul, *])); repeat' ((first | (with_reducible refine fun _ : True => ?_) | refine len ?_ | refine r_Div _ _ (hv _) hl ?_ | (with_reducible refine any_h ?_) | ((first | refine AllocQ_i ?_ | refine AllocO_i ?_); intro bk hb0 hbk; try simp only [set_none'] at hbk) | ((first | refine condS_i ?_ ?_ | refine pick_i ?_ ?_ | refine gS_it ?_ ?_ | refine gS_if ?_ ?_ | refine gP_it ?_ ?_ | refine gP_if ?_ ?_) <;> (intro hc; try simp only [Int.reduceLE,Int.reduceLT,Int.reduceEq,Sn] at hc)) | (with_reducible refine KP_i ?_ ?_; · exact aE) | (with_reducible refine And.intro ?_ ?_)) <;> (try simp only [S0,putAt,List.replicate,Int.reduceAdd,Int.reduceSub,Int.reduceMul,Int.reduceTDiv,Int.reduceTMod,Int.reduceMod,Int.reduceDiv,Nat.reduceLT,Nat.reduceEqDiff,Int.reduceLE,Int.reduceLT,Int.reduceToNat,Int.reduceNeg,Int.reduceEq,Nat.reduceLeDiff,Nat.reducePow,Int.reducePow,reduceIte,Nat.reduceSub,Nat.reduceAdd,Nat.reduceMul, *]))
    all_goals first | exact Fin_mk aE (K_vv h (fz' 0) (fz' 1) (fz' 2) (fz' 3)) | skip
    all_goals (refine loop_u ?_; ((all_goals (try simp only [S0,putAt,List.replicate,Int.reduceAdd,Int.reduceSub,Int.reduceMul,Int.reduceTDiv,Int.reduceTMod,Int.reduceMod,Int.reduceDiv,Nat.reduceLT,Nat.reduceEqDiff,Int.reduceLE,Int.reduceLT,Int.reduceToNat,Int.reduceNeg,Int.reduceEq,Nat.reduceLeDiff,Nat.reducePow,Int.reducePow,reduceIte,Nat.reduceSub,Nat.reduceAdd,Nat.reduceMul, *])); repeat' ((first | (with_reducible refine fun _ : True => ?_) | (with_reducible refine any_h ?_) | ((first | refine AllocQ_i ?_ | refine AllocO_i ?_); intro bk hb0 hbk; try simp only [set_none'] at hbk) | ((first | refine condS_i ?_ ?_ | refine pick_i ?_ ?_ | refine gS_it ?_ ?_ | refine gS_if ?_ ?_ | refine gP_it ?_ ?_ | refine gP_if ?_ ?_) <;> (intro hc; try simp only [Int.reduceLE,Int.reduceLT,Int.reduceEq,Sn] at hc)) | (with_reducible refine KP_i ?_ ?_; · exact aE) | (with_reducible refine And.intro ?_ ?_)) <;> (try simp only [S0,putAt,List.replicate,Int.reduceAdd,Int.reduceSub,Int.reduceMul,Int.reduceTDiv,Int.reduceTMod,Int.reduceMod,Int.reduceDiv,Nat.reduceLT,Nat.reduceEqDiff,Int.reduceLE,Int.reduceLT,Int.reduceToNat,Int.reduceNeg,Int.reduceEq,Nat.reduceLeDiff,Nat.reducePow,Int.reducePow,reduceIte,Nat.reduceSub,Nat.reduceAdd,Nat.reduceMul, *]))); all_goals exact Fin_mk aE (K_vv h (fz' 0) (fz' 1) (fz' 2) (fz' 3)))
  rcases hcs with (hn | rfl) | rfl | rfl | rfl | rfl | hn
  · have hcn : cnt n = 0 := by unfold cnt; rw [if_pos hn]
    have g0 : Keep (∀ x : Int, x = 0 → x = fnorm v n 0) := fun x hx => by rw [hx]; exact fo 0 (by rw [hcn]; decide)
    have g1 : Keep (∀ x : Int, x = 0 → x = fnorm v n 1) := fun x hx => by rw [hx]; exact fo 1 (by rw [hcn]; decide)
    have g2 : Keep (∀ x : Int, x = 0 → x = fnorm v n 2) := fun x hx => by rw [hx]; exact fo 2 (by rw [hcn]; decide)
    have g3 : Keep (∀ x : Int, x = 0 → x = fnorm v n 3) := fun x hx => by rw [hx]; exact fo 3 (by rw [hcn]; decide)
    clear fz fo fi hcn
    have hn1 : ¬ 4 < n := by omega
    have hn2 : n < 4 := by omega
    have hn3 : ¬ 0 < n := by omega
    refine HL.hc k57 999 ?_; unfold M57
    (all_goals (try simp only [S0,putAt,List.replicate,Int.reduceAdd,Int.reduceSub,Int.reduceMul,Int.reduceTDiv,Int.reduceTMod,Int.reduceMod,Int.reduceDiv,Nat.reduceLT,Nat.reduceEqDiff,Int.reduceLE,Int.reduceLT,Int.reduceToNat,Int.reduceNeg,Int.reduceEq,Nat.reduceLeDiff,Nat.reducePow,Int.reducePow,reduceIte,Nat.reduceSub,Nat.reduceAdd,Nat.reduceMul, *])); repeat' ((first | (with_reducible refine fun _ : True => ?_) | refine len ?_ | refine r_Div _ _ (hv _) hl ?_ | (with_reducible refine any_h ?_) | ((first | refine AllocQ_i ?_ | refine AllocO_i ?_); intro bk hb0 hbk; try simp only [set_none'] at hbk) | ((first | refine condS_i ?_ ?_ | refine pick_i ?_ ?_ | refine gS_it ?_ ?_ | refine gS_if ?_ ?_ | refine gP_it ?_ ?_ | refine gP_if ?_ ?_) <;> (intro hc; try simp only [Int.reduceLE,Int.reduceLT,Int.reduceEq,Sn] at hc)) | (with_reducible refine KP_i ?_ ?_; · exact aE) | (with_reducible refine loop_u ?_) | (with_reducible refine And.intro ?_ ?_)) <;> (try simp only [S0,putAt,List.replicate,Int.reduceAdd,Int.reduceSub,Int.reduceMul,Int.reduceTDiv,Int.reduceTMod,Int.reduceMod,Int.reduceDiv,Nat.reduceLT,Nat.reduceEqDiff,Int.reduceLE,Int.reduceLT,Int.reduceToNat,Int.reduceNeg,Int.reduceEq,Nat.reduceLeDiff,Nat.reducePow,Int.reducePow,reduceIte,Nat.reduceSub,Nat.reduceAdd,Nat.reduceMul, *]))
    all_goals exact Fin_mk aE (K_vv h (g0 _ rfl) (g1 _ rfl) (g2 _ rfl) (g3 _ rfl))
  · have hcn : cnt 0 = 0 := by rfl
    have g0 : Keep (∀ x : Int, x = 0 → x = fnorm v 0 0) := fun x hx => by rw [hx]; exact fo 0 (by rw [hcn]; decide)
    have g1 : Keep (∀ x : Int, x = 0 → x = fnorm v 0 1) := fun x hx => by rw [hx]; exact fo 1 (by rw [hcn]; decide)
    have g2 : Keep (∀ x : Int, x = 0 → x = fnorm v 0 2) := fun x hx => by rw [hx]; exact fo 2 (by rw [hcn]; decide)
    have g3 : Keep (∀ x : Int, x = 0 → x = fnorm v 0 3) := fun x hx => by rw [hx]; exact fo 3 (by rw [hcn]; decide)
    clear fz fo fi hcn
    refine HL.hc k57 999 ?_; unfold M57
    (all_goals (try simp only [S0,putAt,List.replicate,Int.reduceAdd,Int.reduceSub,Int.reduceMul,Int.reduceTDiv,Int.reduceTMod,Int.reduceMod,Int.reduceDiv,Nat.reduceLT,Nat.reduceEqDiff,Int.reduceLE,Int.reduceLT,Int.reduceToNat,Int.reduceNeg,Int.reduceEq,Nat.reduceLeDiff,Nat.reducePow,Int.reducePow,reduceIte,Nat.reduceSub,Nat.reduceAdd,Nat.reduceMul, *])); repeat' ((first | (with_reducible refine fun _ : True => ?_) | refine len ?_ | refine r_Div _ _ (hv _) hl ?_ | (with_reducible refine any_h ?_) | ((first | refine AllocQ_i ?_ | refine AllocO_i ?_); intro bk hb0 hbk; try simp only [set_none'] at hbk) | ((first | refine condS_i ?_ ?_ | refine pick_i ?_ ?_ | refine gS_it ?_ ?_ | refine gS_if ?_ ?_ | refine gP_it ?_ ?_ | refine gP_if ?_ ?_) <;> (intro hc; try simp only [Int.reduceLE,Int.reduceLT,Int.reduceEq,Sn] at hc)) | (with_reducible refine KP_i ?_ ?_; · exact aE) | (with_reducible refine loop_u ?_) | (with_reducible refine And.intro ?_ ?_)) <;> (try simp only [S0,putAt,List.replicate,Int.reduceAdd,Int.reduceSub,Int.reduceMul,Int.reduceTDiv,Int.reduceTMod,Int.reduceMod,Int.reduceDiv,Nat.reduceLT,Nat.reduceEqDiff,Int.reduceLE,Int.reduceLT,Int.reduceToNat,Int.reduceNeg,Int.reduceEq,Nat.reduceLeDiff,Nat.reducePow,Int.reducePow,reduceIte,Nat.reduceSub,Nat.reduceAdd,Nat.reduceMul, *]))
    all_goals exact Fin_mk aE (K_vv h (g0 _ rfl) (g1 _ rfl) (g2 _ rfl) (g3 _ rfl))
  · have hcn : cnt 1 = 1 := by rfl
    have g0 : Keep (∀ x : Int, x = fdiv (v 0) L → x = fnorm v 1 0) := fun x hx => by rw [hx]; exact fi 0 (by rw [hcn]; decide) hz
    have g1 : Keep (∀ x : Int, x = 0 → x = fnorm v 1 1) := fun x hx => by rw [hx]; exact fo 1 (by rw [hcn]; decide)
    have g2 : Keep (∀ x : Int, x = 0 → x = fnorm v 1 2) := fun x hx => by rw [hx]; exact fo 2 (by rw [hcn]; decide)
    have g3 : Keep (∀ x : Int, x = 0 → x = fnorm v 1 3) := fun x hx => by rw [hx]; exact fo 3 (by rw [hcn]; decide)
    clear fz fo fi hcn
    refine HL.hc k57 999 ?_; unfold M57
    (all_goals (try simp only [S0,putAt,List.replicate,Int.reduceAdd,Int.reduceSub,Int.reduceMul,Int.reduceTDiv,Int.reduceTMod,Int.reduceMod,Int.reduceDiv,Nat.reduceLT,Nat.reduceEqDiff,Int.reduceLE,Int.reduceLT,Int.reduceToNat,Int.reduceNeg,Int.reduceEq,Nat.reduceLeDiff,Nat.reducePow,Int.reducePow,reduceIte,Nat.reduceSub,Nat.reduceAdd,Nat.reduceMul, *])); repeat' ((first | (with_reducible refine fun _ : True => ?_) | refine len ?_ | refine r_Div _ _ (hv _) hl ?_ | (with_reducible refine any_h ?_) | ((first | refine AllocQ_i ?_ | refine AllocO_i ?_); intro bk hb0 hbk; try simp only [set_none'] at hbk) | ((first | refine condS_i ?_ ?_ | refine pick_i ?_ ?_ | refine gS_it ?_ ?_ | refine gS_if ?_ ?_ | refine gP_it ?_ ?_ | refine gP_if ?_ ?_) <;> (intro hc; try simp only [Int.reduceLE,Int.reduceLT,Int.reduceEq,Sn] at hc)) | (with_reducible refine KP_i ?_ ?_; · exact aE) | (with_reducible refine loop_u ?_) | (with_reducible refine And.intro ?_ ?_)) <;> (try simp only [S0,putAt,List.replicate,Int.reduceAdd,Int.reduceSub,Int.reduceMul,Int.reduceTDiv,Int.reduceTMod,Int.reduceMod,Int.reduceDiv,Nat.reduceLT,Nat.reduceEqDiff,Int.reduceLE,Int.reduceLT,Int.reduceToNat,Int.reduceNeg,Int.reduceEq,Nat.reduceLeDiff,Nat.reducePow,Int.reducePow,reduceIte,Nat.reduceSub,Nat.reduceAdd,Nat.reduceMul, *]))
    all_goals exact Fin_mk aE (K_vv h (g0 _ rfl) (g1 _ rfl) (g2 _ rfl) (g3 _ rfl))
  · have hcn : cnt 2 = 2 := by rfl
    have g0 : Keep (∀ x : Int, x = fdiv (v 0) L → x = fnorm v 2 0) := fun x hx => by rw [hx]; exact fi 0 (by rw [hcn]; decide) hz
    have g1 : Keep (∀ x : Int, x = fdiv (v 1) L → x = fnorm v 2 1) := fun x hx => by rw [hx]; exact fi 1 (by rw [hcn]; decide) hz
    have g2 : Keep (∀ x : Int, x = 0 → x = fnorm v 2 2) := fun x hx => by rw [hx]; exact fo 2 (by rw [hcn]; decide)
    have g3 : Keep (∀ x : Int, x = 0 → x = fnorm v 2 3) := fun x hx => by rw [hx]; exact fo 3 (by rw [hcn]; decide)
    clear fz fo fi hcn
    refine HL.hc k57 999 ?_; unfold M57
    (all_goals (try simp only [S0,putAt,List.replicate,Int.reduceAdd,Int.reduceSub,Int.reduceMul,Int.reduceTDiv,Int.reduceTMod,Int.reduceMod,Int.reduceDiv,Nat.reduceLT,Nat.reduceEqDiff,Int.reduceLE,Int.reduceLT,Int.reduceToNat,Int.reduceNeg,Int.reduceEq,Nat.reduceLeDiff,Nat.reducePow,Int.reducePow,reduceIte,Nat.reduceSub,Nat.reduceAdd,Nat.reduceMul, *])); repeat' ((first | (with_reducible refine fun _ : True => ?_) | refine len ?_ | refine r_Div _ _ (hv _) hl ?_ | (with_reducible refine any_h ?_) | ((first | refine AllocQ_i ?_ | refine AllocO_i ?_); intro bk hb0 hbk; try simp only [set_none'] at hbk) | ((first | refine condS_i ?_ ?_ | refine pick_i ?_ ?_ | refine gS_it ?_ ?_ | refine gS_if ?_ ?_ | refine gP_it ?_ ?_ | refine gP_if ?_ ?_) <;> (intro hc; try simp only [Int.reduceLE,Int.reduceLT,Int.reduceEq,Sn] at hc)) | (with_reducible refine KP_i ?_ ?_; · exact aE) | (with_reducible refine loop_u ?_) | (with_reducible refine And.intro ?_ ?_)) <;> (try simp only [S0,putAt,List.replicate,Int.reduceAdd,Int.reduceSub,Int.reduceMul,Int.reduceTDiv,Int.reduceTMod,Int.reduceMod,Int.reduceDiv,Nat.reduceLT,Nat.reduceEqDiff,Int.reduceLE,Int.reduceLT,Int.reduceToNat,Int.reduceNeg,Int.reduceEq,Nat.reduceLeDiff,Nat.reducePow,Int.reducePow,reduceIte,Nat.reduceSub,Nat.reduceAdd,Nat.reduceMul, *]))
    all_goals exact Fin_mk aE (K_vv h (g0 _ rfl) (g1 _ rfl) (g2 _ rfl) (g3 _ rfl))
  · have hcn : cnt 3 = 3 := by rfl
    have g0 : Keep (∀ x : Int, x = fdiv (v 0) L → x = fnorm v 3 0) := fun x hx => by rw [hx]; exact fi 0 (by rw [hcn]; decide) hz
    have g1 : Keep (∀ x : Int, x = fdiv (v 1) L → x = fnorm v 3 1) := fun x hx => by rw [hx]; exact fi 1 (by rw [hcn]; decide) hz
    have g2 : Keep (∀ x : Int, x = fdiv (v 2) L → x = fnorm v 3 2) := fun x hx => by rw [hx]; exact fi 2 (by rw [hcn]; decide) hz
    have g3 : Keep (∀ x : Int, x = 0 → x = fnorm v 3 3) := fun x hx => by rw [hx]; exact fo 3 (by rw [hcn]; decide)
    clear fz fo fi hcn
    refine HL.hc k57 999 ?_; unfold M57
    (all_goals (try simp only [S0,putAt,List.replicate,Int.reduceAdd,Int.reduceSub,Int.reduceMul,Int.reduceTDiv,Int.reduceTMod,Int.reduceMod,Int.reduceDiv,Nat.reduceLT,Nat.reduceEqDiff,Int.reduceLE,Int.reduceLT,Int.reduceToNat,Int.reduceNeg,Int.reduceEq,Nat.reduceLeDiff,Nat.reducePow,Int.reducePow,reduceIte,Nat.reduceSub,Nat.reduceAdd,Nat.reduceMul, *])); repeat' ((first | (with_reducible refine fun _ : True => ?_) | refine len ?_ | refine r_Div _ _ (hv _) hl ?_ | (with_reducible refine any_h ?_) | ((first | refine AllocQ_i ?_ | refine AllocO_i ?_); intro bk hb0 hbk; try simp only [set_none'] at hbk) | ((first | refine condS_i ?_ ?_ | refine pick_i ?_ ?_ | refine gS_it ?_ ?_ | refine gS_if ?_ ?_ | refine gP_it ?_ ?_ | refine gP_if ?_ ?_) <;> (intro hc; try simp only [Int.reduceLE,Int.reduceLT,Int.reduceEq,Sn] at hc)) | (with_reducible refine KP_i ?_ ?_; · exact aE) | (with_reducible refine loop_u ?_) | (with_reducible refine And.intro ?_ ?_)) <;> (try simp only [S0,putAt,List.replicate,Int.reduceAdd,Int.reduceSub,Int.reduceMul,Int.reduceTDiv,Int.reduceTMod,Int.reduceMod,Int.reduceDiv,Nat.reduceLT,Nat.reduceEqDiff,Int.reduceLE,Int.reduceLT,Int.reduceToNat,Int.reduceNeg,Int.reduceEq,Nat.reduceLeDiff,Nat.reducePow,Int.reducePow,reduceIte,Nat.reduceSub,Nat.reduceAdd,Nat.reduceMul, *]))
    all_goals exact Fin_mk aE (K_vv h (g0 _ rfl) (g1 _ rfl) (g2 _ rfl) (g3 _ rfl))
  · have hcn : cnt 4 = 4 := by rfl
    have g0 : Keep (∀ x : Int, x = fdiv (v 0) L → x = fnorm v 4 0) := fun x hx => by rw [hx]; exact fi 0 (by rw [hcn]; decide) hz
    have g1 : Keep (∀ x : Int, x = fdiv (v 1) L → x = fnorm v 4 1) := fun x hx => by rw [hx]; exact fi 1 (by rw [hcn]; decide) hz
    have g2 : Keep (∀ x : Int, x = fdiv (v 2) L → x = fnorm v 4 2) := fun x hx => by rw [hx]; exact fi 2 (by rw [hcn]; decide) hz
    have g3 : Keep (∀ x : Int, x = fdiv (v 3) L → x = fnorm v 4 3) := fun x hx => by rw [hx]; exact fi 3 (by rw [hcn]; decide) hz
    clear fz fo fi hcn
    refine HL.hc k57 999 ?_; unfold M57
    (all_goals (try simp only [S0,putAt,List.replicate,Int.reduceAdd,Int.reduceSub,Int.reduceMul,Int.reduceTDiv,Int.reduceTMod,Int.reduceMod,Int.reduceDiv,Nat.reduceLT,Nat.reduceEqDiff,Int.reduceLE,Int.reduceLT,Int.reduceToNat,Int.reduceNeg,Int.reduceEq,Nat.reduceLeDiff,Nat.reducePow,Int.reducePow,reduceIte,Nat.reduceSub,Nat.reduceAdd,Nat.reduceMul, *])); repeat' ((first | (with_reducible refine fun _ : True => ?_) | refine len ?_ | refine r_Div _ _ (hv _) hl ?_ | (with_reducible refine any_h ?_) | ((first | refine AllocQ_i ?_ | refine AllocO_i ?_); intro bk hb0 hbk; try simp only [set_none'] at hbk) | ((first | refine condS_i ?_ ?_ | refine pick_i ?_ ?_ | refine gS_it ?_ ?_ | refine gS_if ?_ ?_ | refine gP_it ?_ ?_ | refine gP_if ?_ ?_) <;> (intro hc; try simp only [Int.reduceLE,Int.reduceLT,Int.reduceEq,Sn] at hc)) | (with_reducible refine KP_i ?_ ?_; · exact aE) | (with_reducible refine loop_u ?_) | (with_reducible refine And.intro ?_ ?_)) <;> (try simp only [S0,putAt,List.replicate,Int.reduceAdd,Int.reduceSub,Int.reduceMul,Int.reduceTDiv,Int.reduceTMod,Int.reduceMod,Int.reduceDiv,Nat.reduceLT,Nat.reduceEqDiff,Int.reduceLE,Int.reduceLT,Int.reduceToNat,Int.reduceNeg,Int.reduceEq,Nat.reduceLeDiff,Nat.reducePow,Int.reducePow,reduceIte,Nat.reduceSub,Nat.reduceAdd,Nat.reduceMul, *]))
    all_goals exact Fin_mk aE (K_vv h (g0 _ rfl) (g1 _ rfl) (g2 _ rfl) (g3 _ rfl))
  · have hcn : cnt n = 4 := by unfold cnt; rw [if_neg (by omega), if_pos hn]
    have g0 : Keep (∀ x : Int, x = fdiv (v 0) L → x = fnorm v n 0) := fun x hx => by rw [hx]; exact fi 0 (by rw [hcn]; decide) hz
    have g1 : Keep (∀ x : Int, x = fdiv (v 1) L → x = fnorm v n 1) := fun x hx => by rw [hx]; exact fi 1 (by rw [hcn]; decide) hz
    have g2 : Keep (∀ x : Int, x = fdiv (v 2) L → x = fnorm v n 2) := fun x hx => by rw [hx]; exact fi 2 (by rw [hcn]; decide) hz
    have g3 : Keep (∀ x : Int, x = fdiv (v 3) L → x = fnorm v n 3) := fun x hx => by rw [hx]; exact fi 3 (by rw [hcn]; decide) hz
    clear fz fo fi hcn
    have hn1 : ¬ n < 0 := by omega
    refine HL.hc k57 999 ?_; unfold M57
    (all_goals (try simp only [S0,putAt,List.replicate,Int.reduceAdd,Int.reduceSub,Int.reduceMul,Int.reduceTDiv,Int.reduceTMod,Int.reduceMod,Int.reduceDiv,Nat.reduceLT,Nat.reduceEqDiff,Int.reduceLE,Int.reduceLT,Int.reduceToNat,Int.reduceNeg,Int.reduceEq,Nat.reduceLeDiff,Nat.reducePow,Int.reducePow,reduceIte,Nat.reduceSub,Nat.reduceAdd,Nat.reduceMul, *])); repeat' ((first | (with_reducible refine fun _ : True => ?_) | refine len ?_ | refine r_Div _ _ (hv _) hl ?_ | (with_reducible refine any_h ?_) | ((first | refine AllocQ_i ?_ | refine AllocO_i ?_); intro bk hb0 hbk; try simp only [set_none'] at hbk) | ((first | refine condS_i ?_ ?_ | refine pick_i ?_ ?_ | refine gS_it ?_ ?_ | refine gS_if ?_ ?_ | refine gP_it ?_ ?_ | refine gP_if ?_ ?_) <;> (intro hc; try simp only [Int.reduceLE,Int.reduceLT,Int.reduceEq,Sn] at hc)) | (with_reducible refine KP_i ?_ ?_; · exact aE) | (with_reducible refine loop_u ?_) | (with_reducible refine And.intro ?_ ?_)) <;> (try simp only [S0,putAt,List.replicate,Int.reduceAdd,Int.reduceSub,Int.reduceMul,Int.reduceTDiv,Int.reduceTMod,Int.reduceMod,Int.reduceDiv,Nat.reduceLT,Nat.reduceEqDiff,Int.reduceLE,Int.reduceLT,Int.reduceToNat,Int.reduceNeg,Int.reduceEq,Nat.reduceLeDiff,Nat.reducePow,Int.reducePow,reduceIte,Nat.reduceSub,Nat.reduceAdd,Nat.reduceMul, *]))
    all_goals exact Fin_mk aE (K_vv h (g0 _ rfl) (g1 _ rfl) (g2 _ rfl) (g3 _ rfl))
end Go.Proofs.YtdmnfaefakceiaaGreat
