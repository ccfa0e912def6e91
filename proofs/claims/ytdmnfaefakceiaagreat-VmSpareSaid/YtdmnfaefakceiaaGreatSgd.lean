/- Swp Sww Swx Smt -/
import Derived.Test.YtdmnfaefakceiaaGreatSga
import Derived.Test.YtdmnfaefakceiaaGreatPd
import Derived.Test.YtdmnfaefakceiaaGreatHlt
import Derived.Test.YtdmnfaefakceiaaGreatSgc
section
/- Powers of two (layer 18). -/
set_option linter.unusedSimpArgs false
set_option linter.unusedVariables false
set_option maxRecDepth 100000
set_option maxHeartbeats 4000000
namespace Go.Proofs.YtdmnfaefakceiaaGreat.Sm
open Go.HL Go.RowKit Pb
variable {w0 : World} {H : Heap} {K : Value → Heap → Prop}

def powP (n : Int) : Prop := n = 1 ∨ n = 2 ∨ n = 4 ∨ n = 8 ∨ n = 16 ∨ n = 32 ∨ n = 64
theorem pow_tab : ∀ n : Nat, n < 65 → 1 ≤ n → ((bitsI .and .i64 n ((n : Int) - 1) = 0) ↔ (n = 1 ∨ n = 2 ∨ n = 4 ∨ n = 8 ∨ n = 16 ∨ n = 32 ∨ n = 64)) := by decide
/- image power -/
def M171 : MC :=
  .seq (.reg [oX 2 (.mv (.const (.bool false)))])
 (.seq (.reg [vX 3 0,
 oX 4 (bK .gtr 3 0),
 vX 5 4,
 ⟨(some 6),.mv (.tmp 0),(some (5,true))⟩,
 ⟨(some 7),.mv (.tmp 0),(some (5,true))⟩,
 ⟨(some 8),bK .sub 7 1,(some (5,true))⟩,
 ⟨(some 9),bX .and 6 8,(some (5,true))⟩,
 ⟨(some 10),bK .eql 9 0,(some (5,true))⟩,
 oX 11 (.pick (.tmp 5) (.tmp 10) (.const (.bool false))),
 vX 2 11])
 (.ret))
theorem k171 : fnOk Tryz.prog 171 = some (M171, [.t 2], 12) := by kernel_rfl

theorem c_power (n : Int) (hn : 1 ≤ n ∧ n ≤ 64) (h1 : powP n → K (.bool true) H) (h2 : ¬ powP n → K (.bool false) H) : HCalls Tryz.prog w0 171 [.int .i64 n] H K := by
  obtain ⟨m, rfl⟩ := Int.eq_ofNat_of_zero_le (show 0 ≤ n by omega)
  have ht := pow_tab m (by omega) (by omega)
  have e0 : 0 < (m : Int) := by omega
  have e1 : IntKind.i64.wrap ((m : Int) - 1) = (m : Int) - 1 := Bw.1 _ (by omega) (by omega)
  by_cases hp : powP m
  · have h1 := h1 hp
    have e2 : bitsI .and .i64 m ((m : Int) - 1) = 0 := ht.2 (by unfold powP at hp; omega)
    clear ht hp h2 hn
    refine HL.hc k171 999 ?_; unfold M171
    (all_goals (try simp only [S0,putAt,List.replicate,Int.reduceAdd,Int.reduceSub,Int.reduceMul,Int.reduceTDiv,Int.reduceTMod,Int.reduceMod,Int.reduceDiv,Nat.reduceLT,Nat.reduceEqDiff,Int.reduceLE,Int.reduceLT,Int.reduceToNat,Int.reduceNeg,Int.reduceEq,Nat.reduceLeDiff,Nat.reducePow,Int.reducePow,reduceIte,Nat.reduceSub,Nat.reduceAdd,Nat.reduceMul, *])); repeat' ((first | (with_reducible refine fun _ : True => ?_) | (with_reducible refine any_h ?_) | ((first | refine AllocQ_i ?_ | refine AllocO_i ?_); intro bk hb0 hbk; try simp only [set_none'] at hbk) | ((first | refine condS_i ?_ ?_ | refine pick_i ?_ ?_ | refine gS_it ?_ ?_ | refine gS_if ?_ ?_ | refine gP_it ?_ ?_ | refine gP_if ?_ ?_) <;> (intro hc; try simp only [Int.reduceLE,Int.reduceLT,Int.reduceEq,Sn] at hc)) | (with_reducible refine KP_i ?_ ?_; · exact aE) | (with_reducible refine And.intro ?_ ?_)) <;> (try simp only [S0,putAt,List.replicate,Int.reduceAdd,Int.reduceSub,Int.reduceMul,Int.reduceTDiv,Int.reduceTMod,Int.reduceMod,Int.reduceDiv,Nat.reduceLT,Nat.reduceEqDiff,Int.reduceLE,Int.reduceLT,Int.reduceToNat,Int.reduceNeg,Int.reduceEq,Nat.reduceLeDiff,Nat.reducePow,Int.reducePow,reduceIte,Nat.reduceSub,Nat.reduceAdd,Nat.reduceMul, *]))
    exact Fin_mk (Heap.Le.refl _) h1
  · have h2 := h2 hp
    have e2 : ¬ bitsI .and .i64 m ((m : Int) - 1) = 0 := fun e => hp (by have := ht.1 e; unfold powP; omega)
    clear ht hp h1 hn
    refine HL.hc k171 999 ?_; unfold M171
    (all_goals (try simp only [S0,putAt,List.replicate,Int.reduceAdd,Int.reduceSub,Int.reduceMul,Int.reduceTDiv,Int.reduceTMod,Int.reduceMod,Int.reduceDiv,Nat.reduceLT,Nat.reduceEqDiff,Int.reduceLE,Int.reduceLT,Int.reduceToNat,Int.reduceNeg,Int.reduceEq,Nat.reduceLeDiff,Nat.reducePow,Int.reducePow,reduceIte,Nat.reduceSub,Nat.reduceAdd,Nat.reduceMul, *])); repeat' ((first | (with_reducible refine fun _ : True => ?_) | (with_reducible refine any_h ?_) | ((first | refine AllocQ_i ?_ | refine AllocO_i ?_); intro bk hb0 hbk; try simp only [set_none'] at hbk) | ((first | refine condS_i ?_ ?_ | refine pick_i ?_ ?_ | refine gS_it ?_ ?_ | refine gS_if ?_ ?_ | refine gP_it ?_ ?_ | refine gP_if ?_ ?_) <;> (intro hc; try simp only [Int.reduceLE,Int.reduceLT,Int.reduceEq,Sn] at hc)) | (with_reducible refine KP_i ?_ ?_; · exact aE) | (with_reducible refine And.intro ?_ ?_)) <;> (try simp only [S0,putAt,List.replicate,Int.reduceAdd,Int.reduceSub,Int.reduceMul,Int.reduceTDiv,Int.reduceTMod,Int.reduceMod,Int.reduceDiv,Nat.reduceLT,Nat.reduceEqDiff,Int.reduceLE,Int.reduceLT,Int.reduceToNat,Int.reduceNeg,Int.reduceEq,Nat.reduceLeDiff,Nat.reducePow,Int.reducePow,reduceIte,Nat.reduceSub,Nat.reduceAdd,Nat.reduceMul, *]))
    exact Fin_mk (Heap.Le.refl _) h2

end Go.Proofs.YtdmnfaefakceiaaGreat.Sm
end
section
/- How many levels sides have (layer 18). -/
set_option linter.unusedSimpArgs false
set_option linter.unusedVariables false
set_option maxRecDepth 100000
set_option maxHeartbeats 4000000
namespace Go.Proofs.YtdmnfaefakceiaaGreat.Sm
open Go.HL Go.RowKit Pb
variable {w0 : World} {H : Heap} {K : Value → Heap → Prop}

def lg (s : Int) : Int := if s ≤ 1 then 0 else if s ≤ 3 then 1 else if s ≤ 7 then 2 else if s ≤ 15 then 3 else if s ≤ 31 then 4 else if s ≤ 63 then 5 else 6
theorem lg_half {s : Int} (h : 1 < s ∧ s ≤ 64) : lg (s / 2) = lg s - 1 := by
  unfold lg
  have h2 : 2 * (s / 2) ≤ s ∧ s < 2 * (s / 2) + 2 := by omega
  (repeat' split) <;> omega
theorem lg_le {s : Int} : 0 ≤ lg s ∧ lg s ≤ 6 := by unfold lg; (repeat' split) <;> omega
theorem lg_one {s : Int} (h : 1 < s) : 1 ≤ lg s := by unfold lg; (repeat' split) <;> omega
theorem lg_zero {s : Int} (h : s ≤ 1) : lg s = 0 := by unfold lg; rw [if_pos h]
def cntI (w h : Int) : Int := if 1 ≤ w ∧ w ≤ 64 ∧ 1 ≤ h ∧ h ≤ 64 then 1 + lg (if w < h then h else w) else 0
/- image Count -/
def M157 : MC :=
  .seq (.reg [oX 4 (.mv (kX 0))])
 (.seq (.seq (.reg [vX 7 0,
 oX 8 (.call 168 [(.tmp 7)]),
 oX 9 (.un .not (.tmp 8)),
 vX 10 9,
 ⟨(some 11),.mv (.tmp 1),(some (10,false))⟩,
 ⟨(some 12),.call 168 [(.tmp 11)],(some (10,false))⟩,
 ⟨(some 13),.un .not (.tmp 12),(some (10,false))⟩,
 oX 14 (.pick (.tmp 10) (.const (.bool true)) (.tmp 13))])
 (.cond (.tmp 14)
 (.seq (.reg [oX 4 (.mv (kX 0))])
 (.ret))
 (.skip)))
 (.seq (.reg [oX 5 (.mv (kX 1))])
 (.seq (.seq (.reg [vX 15 0,
 vX 16 1,
 oX 17 (.mx (.tmp 15) (.tmp 16)),
 vX 6 17])
 (.block 0 (.loop (.seq (.seq (.reg [vX 18 6,
 oX 19 (bK .gtr 18 1)])
 (.cond (.tmp 19)
 (.skip)
 (.exit 0)))
 (.seq (.block 1 (.reg [vX 22 5,
 oX 23 (bK .add 22 1),
 vX 5 23]))
 (.reg [vX 20 6,
 oX 21 (.bin .shr (.tmp 20) (.const (.int .u64 1))),
 vX 6 21]))))))
 (.seq (.reg [vX 24 5,
 vX 4 24])
 (.ret)))))
theorem k157 : fnOk Tryz.prog 157 = some (M157, [.t 4], 25) := by kernel_rfl

theorem c_Count (w h : Int) (hK : K (.int .i64 (cntI w h)) H) : HCalls Tryz.prog w0 157 [.int .i64 w, .int .i64 h] H K := by
  by_cases hb : 1 ≤ w ∧ w ≤ 64 ∧ 1 ≤ h ∧ h ≤ 64
  · have hc : cntI w h = 1 + lg (if w < h then h else w) := by unfold cntI; rw [if_pos hb]
    have d1 : decide (sideP w) = true := by rw [decide_eq_true_eq]; unfold sideP; omega
    have d2 : decide (sideP h) = true := by rw [decide_eq_true_eq]; unfold sideP; omega
    have hm : ∃ m : Int, (if w < h then h else w) = m ∧ 1 ≤ m ∧ m ≤ 64 := ⟨_, rfl, by split <;> omega, by split <;> omega⟩
    obtain ⟨m, em, hm1, hm2⟩ := hm
    rw [em] at hc
    rw [hc] at hK
    clear hc hb
    refine HL.hc k157 999 ?_; unfold M157
    (all_goals (try simp only [S0,putAt,List.replicate,Int.reduceAdd,Int.reduceSub,Int.reduceMul,Int.reduceTDiv,Int.reduceTMod,Int.reduceMod,Int.reduceDiv,Nat.reduceLT,Nat.reduceEqDiff,Int.reduceLE,Int.reduceLT,Int.reduceToNat,Int.reduceNeg,Int.reduceEq,Nat.reduceLeDiff,Nat.reducePow,Int.reducePow,reduceIte,Nat.reduceSub,Nat.reduceAdd,Nat.reduceMul, *])); repeat' ((first | (with_reducible refine fun _ : True => ?_) | refine c_side _ ?_ | refine c_side _ ?_ | (with_reducible refine any_h ?_) | ((first | refine AllocQ_i ?_ | refine AllocO_i ?_); intro bk hb0 hbk; try simp only [set_none'] at hbk) | ((first | refine condS_i ?_ ?_ | refine pick_i ?_ ?_ | refine gS_it ?_ ?_ | refine gS_if ?_ ?_ | refine gP_it ?_ ?_ | refine gP_if ?_ ?_) <;> (intro hc; try simp only [Int.reduceLE,Int.reduceLT,Int.reduceEq,Sn] at hc)) | (with_reducible refine KP_i ?_ ?_; · exact aE) | (with_reducible refine And.intro ?_ ?_)) <;> (try simp only [S0,putAt,List.replicate,Int.reduceAdd,Int.reduceSub,Int.reduceMul,Int.reduceTDiv,Int.reduceTMod,Int.reduceMod,Int.reduceDiv,Nat.reduceLT,Nat.reduceEqDiff,Int.reduceLE,Int.reduceLT,Int.reduceToNat,Int.reduceNeg,Int.reduceEq,Nat.reduceLeDiff,Nat.reducePow,Int.reducePow,reduceIte,Nat.reduceSub,Nat.reduceAdd,Nat.reduceMul, *]))
    refine loop_g 18 (fun s : Int × Int => [(5, .int .i64 s.1), (6, .int .i64 s.2)]) (fun _ => H) (fun s => 1 ≤ s.2 ∧ s.2 ≤ 64 ∧ s.1 + lg s.2 = 1 + lg m ∧ 1 ≤ s.1 ∧ s.1 ≤ 7) (fun s => s.2.toNat) (1, m) ⟨hm1, hm2, rfl, by simp, by simp⟩ (Heap.Le.refl _) rfl ?_
    intro ⟨n, s⟩ f ⟨h0, h1, h2, h3, h4⟩
    simp only at h0 h1 h2 h3 h4
    have g1 := lg_half (s := s)
    have g2 := lg_le (s := m)
    have g3 := lg_one (s := s)
    have g4 := lg_zero (s := s)
    have e1 : IntKind.i64.wrap (n + 1) = n + 1 := Bw.1 _ (by omega) (by omega)
    have e2 : s.fdiv 2 = s / 2 := Int.fdiv_eq_ediv_of_nonneg _ (by omega)
    have e3 : IntKind.i64.wrap (s / 2) = s / 2 := Bw.1 _ (by omega) (by omega)
    clear d1 d2 em
    (all_goals (try simp only [S0,putAt,List.replicate,Int.reduceAdd,Int.reduceSub,Int.reduceMul,Int.reduceTDiv,Int.reduceTMod,Int.reduceMod,Int.reduceDiv,Nat.reduceLT,Nat.reduceEqDiff,Int.reduceLE,Int.reduceLT,Int.reduceToNat,Int.reduceNeg,Int.reduceEq,Nat.reduceLeDiff,Nat.reducePow,Int.reducePow,reduceIte,Nat.reduceSub,Nat.reduceAdd,Nat.reduceMul, *])); repeat' ((first | (with_reducible refine fun _ : True => ?_) | (with_reducible refine any_h ?_) | ((first | refine AllocQ_i ?_ | refine AllocO_i ?_); intro bk hb0 hbk; try simp only [set_none'] at hbk) | ((first | refine condS_i ?_ ?_ | refine pick_i ?_ ?_ | refine gS_it ?_ ?_ | refine gS_if ?_ ?_ | refine gP_it ?_ ?_ | refine gP_if ?_ ?_) <;> (intro hc; try simp only [Int.reduceLE,Int.reduceLT,Int.reduceEq,Sn] at hc)) | (with_reducible refine KP_i ?_ ?_; · exact aE) | (with_reducible refine And.intro ?_ ?_)) <;> (try simp only [S0,putAt,List.replicate,Int.reduceAdd,Int.reduceSub,Int.reduceMul,Int.reduceTDiv,Int.reduceTMod,Int.reduceMod,Int.reduceDiv,Nat.reduceLT,Nat.reduceEqDiff,Int.reduceLE,Int.reduceLT,Int.reduceToNat,Int.reduceNeg,Int.reduceEq,Nat.reduceLeDiff,Nat.reducePow,Int.reducePow,reduceIte,Nat.reduceSub,Nat.reduceAdd,Nat.reduceMul, *]))
    · have g1 := g1 ⟨hc, h1⟩
      have g3 := g3 hc
      exact Round_mk (n + 1, s / 2) ⟨by simp only; omega, by simp only; omega, by simp only; omega, by simp only; omega, by simp only; omega⟩ (by simp only; omega) (Heap.Le.refl _) rfl rfl
    · refine Fin_mk (Heap.Le.refl _) (K_int hK ?_)
      have g4 := g4 (by omega)
      omega
  · have hc : cntI w h = 0 := by unfold cntI; rw [if_neg hb]
    rw [hc] at hK
    by_cases hw : 1 ≤ w ∧ w ≤ 64
    · have d1 : decide (sideP w) = true := by rw [decide_eq_true_eq]; unfold sideP; omega
      have d2 : decide (sideP h) = false := by rw [decide_eq_false_iff_not]; unfold sideP; omega
      clear hb hw hc
      refine HL.hc k157 999 ?_; unfold M157
      (all_goals (try simp only [S0,putAt,List.replicate,Int.reduceAdd,Int.reduceSub,Int.reduceMul,Int.reduceTDiv,Int.reduceTMod,Int.reduceMod,Int.reduceDiv,Nat.reduceLT,Nat.reduceEqDiff,Int.reduceLE,Int.reduceLT,Int.reduceToNat,Int.reduceNeg,Int.reduceEq,Nat.reduceLeDiff,Nat.reducePow,Int.reducePow,reduceIte,Nat.reduceSub,Nat.reduceAdd,Nat.reduceMul, *])); repeat' ((first | (with_reducible refine fun _ : True => ?_) | refine c_side _ ?_ | refine c_side _ ?_ | (with_reducible refine any_h ?_) | ((first | refine AllocQ_i ?_ | refine AllocO_i ?_); intro bk hb0 hbk; try simp only [set_none'] at hbk) | ((first | refine condS_i ?_ ?_ | refine pick_i ?_ ?_ | refine gS_it ?_ ?_ | refine gS_if ?_ ?_ | refine gP_it ?_ ?_ | refine gP_if ?_ ?_) <;> (intro hc; try simp only [Int.reduceLE,Int.reduceLT,Int.reduceEq,Sn] at hc)) | (with_reducible refine KP_i ?_ ?_; · exact aE) | (with_reducible refine And.intro ?_ ?_)) <;> (try simp only [S0,putAt,List.replicate,Int.reduceAdd,Int.reduceSub,Int.reduceMul,Int.reduceTDiv,Int.reduceTMod,Int.reduceMod,Int.reduceDiv,Nat.reduceLT,Nat.reduceEqDiff,Int.reduceLE,Int.reduceLT,Int.reduceToNat,Int.reduceNeg,Int.reduceEq,Nat.reduceLeDiff,Nat.reducePow,Int.reducePow,reduceIte,Nat.reduceSub,Nat.reduceAdd,Nat.reduceMul, *]))
      exact Fin_mk (Heap.Le.refl _) hK
    · have d1 : decide (sideP w) = false := by rw [decide_eq_false_iff_not]; unfold sideP; omega
      clear hb hw hc
      refine HL.hc k157 999 ?_; unfold M157
      (all_goals (try simp only [S0,putAt,List.replicate,Int.reduceAdd,Int.reduceSub,Int.reduceMul,Int.reduceTDiv,Int.reduceTMod,Int.reduceMod,Int.reduceDiv,Nat.reduceLT,Nat.reduceEqDiff,Int.reduceLE,Int.reduceLT,Int.reduceToNat,Int.reduceNeg,Int.reduceEq,Nat.reduceLeDiff,Nat.reducePow,Int.reducePow,reduceIte,Nat.reduceSub,Nat.reduceAdd,Nat.reduceMul, *])); repeat' ((first | (with_reducible refine fun _ : True => ?_) | refine c_side _ ?_ | refine c_side _ ?_ | (with_reducible refine any_h ?_) | ((first | refine AllocQ_i ?_ | refine AllocO_i ?_); intro bk hb0 hbk; try simp only [set_none'] at hbk) | ((first | refine condS_i ?_ ?_ | refine pick_i ?_ ?_ | refine gS_it ?_ ?_ | refine gS_if ?_ ?_ | refine gP_it ?_ ?_ | refine gP_if ?_ ?_) <;> (intro hc; try simp only [Int.reduceLE,Int.reduceLT,Int.reduceEq,Sn] at hc)) | (with_reducible refine KP_i ?_ ?_; · exact aE) | (with_reducible refine And.intro ?_ ?_)) <;> (try simp only [S0,putAt,List.replicate,Int.reduceAdd,Int.reduceSub,Int.reduceMul,Int.reduceTDiv,Int.reduceTMod,Int.reduceMod,Int.reduceDiv,Nat.reduceLT,Nat.reduceEqDiff,Int.reduceLE,Int.reduceLT,Int.reduceToNat,Int.reduceNeg,Int.reduceEq,Nat.reduceLeDiff,Nat.reducePow,Int.reducePow,reduceIte,Nat.reduceSub,Nat.reduceAdd,Nat.reduceMul, *]))
      exact Fin_mk (Heap.Le.refl _) hK
theorem lg_max {w h : Int} (hw : 1 < w ∨ 1 < h) (h1 : w ≤ 64 ∧ h ≤ 64) : lg (if w / 2 < h / 2 then h / 2 else w / 2) = lg (if w < h then h else w) - 1 := by
  rw [← lg_half (by split <;> omega)]
  congr 1
  (repeat' split) <;> omega

end Go.Proofs.YtdmnfaefakceiaaGreat.Sm
end
section
/- Complete (layer 18). -/
set_option linter.unusedSimpArgs false
set_option linter.unusedVariables false
set_option maxRecDepth 100000
set_option maxHeartbeats 4000000
namespace Go.Proofs.YtdmnfaefakceiaaGreat.Sm
open Go.HL Go.RowKit Pb
variable {w0 : World} {H : Heap} {K : Value → Heap → Prop}

/-- A side of the level k, of a side of the first one. -/
def lvS (w : Int) (k : Nat) : Int := if w.fdiv (2 ^ k) < 1 then 1 else w.fdiv (2 ^ k)
def Im.mip (x : Im) : Prop := x.mn = 3 ∨ x.mn = 4
def Im.lvls (x : Im) (y : LvR) : Prop := ∀ k : Nat, (k : Int) < cntI y.w y.h → ∃ z, x.ls[k]? = some z ∧ z.w = lvS y.w k ∧ z.h = lvS y.h k
def Im.compl (x : Im) : Prop := x.right ∧ ∃ y, x.ls[0]? = some y ∧ ¬ y.nil ∧
  ((powP y.w ∧ powP y.h ∧ (x.mip → x.lvls y)) ∨ (¬ (powP y.w ∧ powP y.h) ∧ x.s = 2 ∧ x.t = 2 ∧ ¬ x.mip))
theorem cntI_le {w h : Int} (hw : sideP w) (hh : sideP h) : 1 ≤ cntI w h ∧ cntI w h ≤ 7 := by
  unfold cntI sideP at *
  rw [if_pos (by omega)]
  have := lg_le (s := if w < h then h else w)
  omega
theorem lvS_zero {w : Int} (hw : sideP w) : lvS w 0 = w := by
  unfold lvS sideP at *
  rw [show w.fdiv (2 ^ 0) = w by rw [Int.fdiv_eq_ediv_of_nonneg _ (by decide)]; omega, if_neg (by omega)]
/-- What is known of the first level, where it is there. -/
structure Fst (W : World) (H : Heap) (x : Im) (y : LvR) : Prop where
  right : x.right
  get : x.ls[0]? = some y
  nn : ¬ y.nil
  w : sideP y.w
  h : sideP y.h
  pos : 0 < x.ls.length
  le : x.ls.length ≤ 7
theorem fst_of {x : Im} (hr : x.right) {y : LvR} (h : x.ls[0]? = some y) (hn : ¬ y.nil) : Fst w0 H x y := by
  have hp := (List.getElem?_eq_some_iff.1 h).1
  rcases hr.2.2.2.1 y (List.mem_of_getElem? h) with h' | ⟨h1, h2, h3⟩
  · exact (hn h').elim
  · exact ⟨hr, h, hn, h1, h2, hp, hr.1⟩
theorem Fst.compl {x : Im} {y : LvR} (F : Fst w0 H x y) : x.compl ↔ ((powP y.w ∧ powP y.h ∧ (x.mip → x.lvls y)) ∨ (¬ (powP y.w ∧ powP y.h) ∧ x.s = 2 ∧ x.t = 2 ∧ ¬ x.mip)) := by
  constructor
  · rintro ⟨-, z, hz, -, h⟩
    rw [F.get] at hz
    cases hz
    exact h
  · exact fun h => ⟨F.right, y, F.get, F.nn, h⟩
theorem compl_not {x : Im} (h : ¬ x.right ∨ x.ls.length = 0 ∨ ∃ y, x.ls[0]? = some y ∧ y.nil) : ¬ x.compl := by
  rintro ⟨hr, y, hy, hn, -⟩
  rcases h with h | h | ⟨z, hz, h⟩
  · exact h hr
  · have := (List.getElem?_eq_some_iff.1 hy).1; omega
  · rw [hy] at hz; cases hz; exact hn h
theorem at0 {b o : Nat} {x : Im} (hx : ImOk w0 H x) {y : LvR} (h : x.ls[0]? = some y) : ∃ b o, x.a = some ⟨b, o, none⟩ ∧ rdn w0 H b o 3 = some [.int .i64 y.w, .int .i64 y.h, .slice y.a y.l.length y.cap] ∧ (∀ c, w0.heap.size ≤ c → H c = none → c ≠ b) := by
  obtain ⟨b, o, e, h1, h2⟩ := im_row hx h
  exact ⟨b, o, e, by simpa using h1, h2⟩
/- image Complete -/
def M156 : MC :=
  .seq (.reg [oX 1 (.box 134 (.tmp 0)),
 oX 2 (.mv (.const (.bool false)))])
 (.seq (.seq (.reg [oX 9 (.ldn 6 (.tmp 1)),
 oX 10 (.call 155 [(.tmp 9)]),
 oX 11 (bK .neq 10 0),
 vX 12 11,
 ⟨(some 13),.fa 1 (.tmp 1),(some (12,false))⟩,
 ⟨(some 14),.ld1 (.tmp 13),(some (12,false))⟩,
 ⟨(some 15),.len (.tmp 14),(some (12,false))⟩,
 ⟨(some 16),bK .eql 15 0,(some (12,false))⟩,
 oX 17 (.pick (.tmp 12) (.const (.bool true)) (.tmp 16)),
 vX 18 17,
 ⟨(some 19),.fa 1 (.tmp 1),(some (18,false))⟩,
 ⟨(some 20),.ld1 (.tmp 19),(some (18,false))⟩,
 ⟨(some 21),.is 3 (.tmp 20) (kX 0),(some (18,false))⟩,
 ⟨(some 22),.ldn 3 (.tmp 21),(some (18,false))⟩,
 ⟨(some 23),.call 167 [(.tmp 22)],(some (18,false))⟩,
 oX 24 (.pick (.tmp 18) (.const (.bool true)) (.tmp 23))])
 (.cond (.tmp 24)
 (.seq (.reg [oX 2 (.mv (.const (.bool false)))])
 (.ret))
 (.skip)))
 (.seq (.any [(true,0,[],oX 25 (.fa 1 (.tmp 1))),
 (true,1,[],oX 26 (.ld1 (.tmp 25))),
 (true,2,[],oX 27 (.is 3 (.tmp 26) (kX 0))),
 (true,3,[],oX 28 (.fa 0 (.tmp 27))),
 (true,4,[],oX 29 (.ld1 (.tmp 28))),
 (true,5,[],oX 30 (.fa 1 (.tmp 1))),
 (true,6,[],oX 31 (.ld1 (.tmp 30))),
 (true,7,[],oX 32 (.is 3 (.tmp 31) (kX 0))),
 (true,8,[],oX 33 (.fa 1 (.tmp 32))),
 (true,9,[],oX 34 (.ld1 (.tmp 33))),
 (false,10,[5,6,7,8,9],vX 3 29),
 (false,11,[],vX 4 34)])
 (.seq (.reg [oX 35 (.fa 4 (.tmp 1)),
 oX 36 (.ld1 (.tmp 35)),
 oX 37 (bK .eql 36 3),
 vX 38 37,
 ⟨(some 39),.fa 4 (.tmp 1),(some (38,false))⟩,
 ⟨(some 40),.ld1 (.tmp 39),(some (38,false))⟩,
 ⟨(some 41),bK .eql 40 4,(some (38,false))⟩,
 oX 42 (.pick (.tmp 38) (.const (.bool true)) (.tmp 41)),
 vX 5 42])
 (.seq (.seq (.reg [vX 43 3,
 oX 44 (.call 171 [(.tmp 43)]),
 oX 45 (.un .not (.tmp 44)),
 vX 46 45,
 ⟨(some 47),.mv (.tmp 4),(some (46,false))⟩,
 ⟨(some 48),.call 171 [(.tmp 47)],(some (46,false))⟩,
 ⟨(some 49),.un .not (.tmp 48),(some (46,false))⟩,
 oX 50 (.pick (.tmp 46) (.const (.bool true)) (.tmp 49))])
 (.cond (.tmp 50)
 (.seq (.reg [oX 51 (.fa 2 (.tmp 1)),
 oX 52 (.ld1 (.tmp 51)),
 oX 53 (bK .eql 52 2),
 vX 54 53,
 ⟨(some 55),.fa 3 (.tmp 1),(some (54,true))⟩,
 ⟨(some 56),.ld1 (.tmp 55),(some (54,true))⟩,
 ⟨(some 57),bK .eql 56 2,(some (54,true))⟩,
 oX 58 (.pick (.tmp 54) (.tmp 57) (.const (.bool false))),
 vX 59 58,
 ⟨(some 60),.mv (.tmp 5),(some (59,true))⟩,
 ⟨(some 61),.un .not (.tmp 60),(some (59,true))⟩,
 oX 62 (.pick (.tmp 59) (.tmp 61) (.const (.bool false))),
 vX 2 62])
 (.ret))
 (.skip)))
 (.seq (.seq (.reg [vX 63 5,
 oX 64 (.un .not (.tmp 63))])
 (.cond (.tmp 64)
 (.seq (.reg [oX 2 (.mv (.const (.bool true)))])
 (.ret))
 (.skip)))
 (.seq (.reg [vX 65 3,
 vX 66 4,
 oX 67 (.call 157 [(.tmp 65),(.tmp 66)]),
 vX 6 67])
 (.seq (.seq (.reg [oX 68 (.fa 1 (.tmp 1)),
 oX 69 (.ld1 (.tmp 68)),
 oX 70 (.len (.tmp 69)),
 vX 71 6,
 oX 72 (bX .lss 70 71)])
 (.cond (.tmp 72)
 (.seq (.reg [oX 2 (.mv (.const (.bool false)))])
 (.ret))
 (.skip)))
 (.seq (.seq (.reg [oX 73 (.fa 1 (.tmp 1)),
 oX 74 (.ld1 (.tmp 73)),
 vX 75 6,
 oX 76 (.slc 3 (.tmp 74) none (some (.tmp 75))),
 oX 77 (.len (.tmp 76)),
 oX 78 (.mv (kX 0))])
 (.block 0 (.loop (.seq (.reg [oX 79 (bX .lss 78 77)])
 (.seq (.cond (.tmp 79)
 (.skip)
 (.exit 0))
 (.seq (.block 1 (.seq (.reg [vX 80 78,
 oX 81 (.is 3 (.tmp 76) (.tmp 78)),
 oX 82 (.ldn 3 (.tmp 81)),
 oX 8 (.alloc 156 [(.int .i64 0),(.int .i64 0),(.slice none 0 0)]),
 vX 7 80,
 ⟨none,.stn 3 (.tmp 8) (.tmp 82),none⟩])
 (.seq (.any [(true,0,[],oX 83 (.fa 0 (.tmp 8))),
 (true,1,[],oX 84 (.ld1 (.tmp 83))),
 (true,2,[],vX 85 3),
 (false,3,[0,1,2,8,9,10],vX 86 7),
 (false,4,[0,1,8,9,10],oX 87 (bX .shr 85 86)),
 (false,5,[0,1,8,9,10],oX 88 (.mx (.tmp 87) (kX 1))),
 (false,6,[8,9,10],oX 89 (bX .neq 84 88)),
 (false,7,[8,9,10],vX 90 89),
 (true,8,[],⟨(some 91),.fa 1 (.tmp 8),(some (90,false))⟩),
 (true,9,[],⟨(some 92),.ld1 (.tmp 91),(some (90,false))⟩),
 (true,10,[],⟨(some 93),.mv (.tmp 4),(some (90,false))⟩),
 (false,11,[8,9,10],⟨(some 94),.mv (.tmp 7),(some (90,false))⟩),
 (false,12,[8,9],⟨(some 95),bX .shr 93 94,(some (90,false))⟩),
 (false,13,[8,9],⟨(some 96),.mx (.tmp 95) (kX 1),(some (90,false))⟩),
 (false,14,[],⟨(some 97),bX .neq 92 96,(some (90,false))⟩),
 (false,15,[],oX 98 (.pick (.tmp 90) (.const (.bool true)) (.tmp 97)))])
 (.cond (.tmp 98)
 (.seq (.reg [oX 2 (.mv (.const (.bool false)))])
 (.ret))
 (.skip)))))
 (.reg [oX 99 (bK .add 78 1),
 vX 78 99])))))))
 (.seq (.reg [oX 2 (.mv (.const (.bool true)))])
 (.ret))))))))))
theorem k156 : fnOk Tryz.prog 156 = some (M156, [.t 2], 100) := by kernel_rfl

theorem c_Complete (x : Im) (hx : ImOk w0 H x) (h1 : x.compl → K (.bool true) H) (h2 : ¬ x.compl → K (.bool false) H) : HCalls Tryz.prog w0 156 [x.v] H K := by
  have cC : ∀ (G : Heap) (K : Value → Heap → Prop), Grow w0 H G → K (.int .i64 (if x.right then 0 else 180)) G → HCalls Tryz.prog w0 155 [x.v] G K := fun G K g hk => c_Check x (hx.grow g) hk
  by_cases hr : x.right
  · simp only [if_pos hr] at cC
    by_cases hl : x.ls.length = 0
    · have h2 := h2 (compl_not (.inr (.inl hl)))
      clear hr hx
      unfold Im.v at cC ⊢
      rw [hl] at cC ⊢
      refine HL.hc k156 999 ?_; unfold M156
      (all_goals (try simp only [S0,putAt,List.replicate,Int.reduceAdd,Int.reduceSub,Int.reduceMul,Int.reduceTDiv,Int.reduceTMod,Int.reduceMod,Int.reduceDiv,Nat.reduceLT,Nat.reduceEqDiff,Int.reduceLE,Int.reduceLT,Int.reduceToNat,Int.reduceNeg,Int.reduceEq,Nat.reduceLeDiff,Nat.reducePow,Int.reducePow,reduceIte,Nat.reduceSub,Nat.reduceAdd,Nat.reduceMul, *])); repeat' ((first | (with_reducible refine fun _ : True => ?_) | refine cC _ _ aG ?_ | (with_reducible refine any_h ?_) | ((first | refine AllocQ_i ?_ | refine AllocO_i ?_); intro bk hb0 hbk; (try simp only [set_none'] at hbk); (try have hbn := aNn); (try simp only [set_none'] at hbn); (try have hbm := aNm); (try simp only [set_none'] at hbm)) | ((first | refine condS_i ?_ ?_ | refine pick_i ?_ ?_ | refine gS_it ?_ ?_ | refine gS_if ?_ ?_ | refine gP_it ?_ ?_ | refine gP_if ?_ ?_) <;> (intro hc; try simp only [Int.reduceLE,Int.reduceLT,Int.reduceEq,Sn] at hc)) | (with_reducible refine KP_i ?_ ?_; · exact aL) | (with_reducible refine And.intro ?_ ?_)) <;> (try simp only [S0,putAt,List.replicate,Int.reduceAdd,Int.reduceSub,Int.reduceMul,Int.reduceTDiv,Int.reduceTMod,Int.reduceMod,Int.reduceDiv,Nat.reduceLT,Nat.reduceEqDiff,Int.reduceLE,Int.reduceLT,Int.reduceToNat,Int.reduceNeg,Int.reduceEq,Nat.reduceLeDiff,Nat.reducePow,Int.reducePow,reduceIte,Nat.reduceSub,Nat.reduceAdd,Nat.reduceMul, *]))
      all_goals exact Fin_mk aL h2
    · obtain ⟨y, ey⟩ : ∃ y, x.ls[0]? = some y := ⟨_, List.getElem?_eq_getElem (by omega)⟩
      obtain ⟨b, o, ea, hrd, hf⟩ := at0 (b := 0) (o := 0) hx ey
      obtain ⟨r0, -⟩ := rd1_of_rdn (i := 0) hrd (by decide)
      obtain ⟨r1, -⟩ := rd1_of_rdn (i := 1) hrd (by decide)
      simp only [Nat.add_zero, List.getElem?_cons_zero, List.getElem?_cons_succ] at r0 r1
      have hp : (0 : Int) < (x.ls.length : Int) := by omega
      have hl' : ¬ (x.ls.length : Int) = 0 := by omega
      by_cases hn : y.nil
      · have h2 := h2 (compl_not (.inr (.inr ⟨y, ey, hn⟩)))
        have cn : ∀ (G : Heap) (K : Value → Heap → Prop), K (.bool true) G → HCalls Tryz.prog w0 167 [.agg #[.int .i64 y.w, .int .i64 y.h, .slice y.a y.l.length y.cap]] G K := fun G K hk => c_inone y (by rw [decide_eq_true hn]; exact hk)
        clear hr hx hn ey h1
        unfold Im.v at cC ⊢
        rw [ea] at cC ⊢
        refine HL.hc k156 999 ?_; unfold M156
        (all_goals (try simp only [S0,putAt,List.replicate,Int.reduceAdd,Int.reduceSub,Int.reduceMul,Int.reduceTDiv,Int.reduceTMod,Int.reduceMod,Int.reduceDiv,Nat.reduceLT,Nat.reduceEqDiff,Int.reduceLE,Int.reduceLT,Int.reduceToNat,Int.reduceNeg,Int.reduceEq,Nat.reduceLeDiff,Nat.reducePow,Int.reducePow,reduceIte,Nat.reduceSub,Nat.reduceAdd,Nat.reduceMul, *])); repeat' ((first | (with_reducible refine fun _ : True => ?_) | refine cC _ _ aG ?_ | refine cn _ _ ?_ | (with_reducible refine any_h ?_) | ((first | refine AllocQ_i ?_ | refine AllocO_i ?_); intro bk hb0 hbk; (try simp only [set_none'] at hbk); (try have hbn := aNn); (try simp only [set_none'] at hbn); (try have hbm := aNm); (try simp only [set_none'] at hbm)) | ((first | refine condS_i ?_ ?_ | refine pick_i ?_ ?_ | refine gS_it ?_ ?_ | refine gS_if ?_ ?_ | refine gP_it ?_ ?_ | refine gP_if ?_ ?_) <;> (intro hc; try simp only [Int.reduceLE,Int.reduceLT,Int.reduceEq,Sn] at hc)) | (with_reducible refine KP_i ?_ ?_; · exact aL) | (with_reducible refine And.intro ?_ ?_)) <;> (try simp only [S0,putAt,List.replicate,Int.reduceAdd,Int.reduceSub,Int.reduceMul,Int.reduceTDiv,Int.reduceTMod,Int.reduceMod,Int.reduceDiv,Nat.reduceLT,Nat.reduceEqDiff,Int.reduceLE,Int.reduceLT,Int.reduceToNat,Int.reduceNeg,Int.reduceEq,Nat.reduceLeDiff,Nat.reducePow,Int.reducePow,reduceIte,Nat.reduceSub,Nat.reduceAdd,Nat.reduceMul, *]))
        all_goals exact Fin_mk aL h2
      · have F : Fst w0 H x y := fst_of hr ey hn
        have cn : ∀ (G : Heap) (K : Value → Heap → Prop), K (.bool false) G → HCalls Tryz.prog w0 167 [.agg #[.int .i64 y.w, .int .i64 y.h, .slice y.a y.l.length y.cap]] G K := fun G K hk => c_inone y (by rw [decide_eq_false hn]; exact hk)
        have key : ∀ (v : Bool) (G : Heap), Heap.Le H G → (v = true ↔ ((powP y.w ∧ powP y.h ∧ (x.mip → x.lvls y)) ∨ (¬ (powP y.w ∧ powP y.h) ∧ x.s = 2 ∧ x.t = 2 ∧ ¬ x.mip))) → HL.Fin K (.bool v) G := fun v G hle hv => by
          rw [← F.compl] at hv
          cases v with
          | true => exact Fin_mk hle (h1 (hv.1 rfl))
          | false => exact Fin_mk hle (h2 (fun hc => by simpa using hv.2 hc))
        have hw := F.w
        have hh := F.h
        have hcn := cntI_le hw hh
        have hle7 := F.le
        have hcap := hx.lc
        obtain ⟨N, eN⟩ := Int.eq_ofNat_of_zero_le (show 0 ≤ cntI y.w y.h by omega)
        rw [eN] at hcn
        have hlv : x.lvls y ↔ ∀ k : Nat, (k : Int) < N → ∃ z, x.ls[k]? = some z ∧ z.w = lvS y.w k ∧ z.h = lvS y.h k := by unfold Im.lvls; rw [eN]
        have cN : ∀ (G : Heap) (K : Value → Heap → Prop), K (.int .i64 (N : Nat)) G → HCalls Tryz.prog w0 157 [.int .i64 y.w, .int .i64 y.h] G K := fun G K hk => c_Count _ _ (by rw [eN]; exact hk)
        have hlong : (x.ls.length : Int) < N → ¬ x.lvls y := fun h1 h2 => by
          obtain ⟨z, hz, -⟩ := hlv.1 h2 _ h1
          rw [List.getElem?_eq_none (Nat.le_refl _)] at hz
          cases hz
        have hxr : ∀ (k : Nat) (z : LvR), x.ls[k]? = some z → rdn w0 H b (o + k * 3) 3 = some [.int .i64 z.w, .int .i64 z.h, .slice z.a z.l.length z.cap] := fun k z hz => by
          obtain ⟨b', o', e', h1, -⟩ := im_row hx hz
          rw [ea] at e'
          cases e'
          exact h1
        clear hr hx hn h1 h2 F
        unfold Im.mip at key
        unfold sideP at hw hh
        unfold Im.v at cC ⊢
        rw [ea] at cC ⊢
        refine HL.hc k156 999 ?_; unfold M156
        (all_goals (try simp only [S0,putAt,List.replicate,Int.reduceAdd,Int.reduceSub,Int.reduceMul,Int.reduceTDiv,Int.reduceTMod,Int.reduceMod,Int.reduceDiv,Nat.reduceLT,Nat.reduceEqDiff,Int.reduceLE,Int.reduceLT,Int.reduceToNat,Int.reduceNeg,Int.reduceEq,Nat.reduceLeDiff,Nat.reducePow,Int.reducePow,reduceIte,Nat.reduceSub,Nat.reduceAdd,Nat.reduceMul, *])); repeat' ((first | (with_reducible refine fun _ : True => ?_) | refine cC _ _ aG ?_ | refine cn _ _ ?_ | (refine c_power _ hw  ?_ ?_ <;> (intro hc; try simp only [Int.reduceLE,Int.reduceLT,Int.reduceEq,Sn] at hc)) | (refine c_power _ hh  ?_ ?_ <;> (intro hc; try simp only [Int.reduceLE,Int.reduceLT,Int.reduceEq,Sn] at hc)) | refine cN _ _ ?_ | (with_reducible refine any_h ?_) | ((first | refine AllocQ_i ?_ | refine AllocO_i ?_); intro bk hb0 hbk; (try simp only [set_none'] at hbk); (try have hbn := aNn); (try simp only [set_none'] at hbn); (try have hbm := aNm); (try simp only [set_none'] at hbm)) | ((first | refine condS_i ?_ ?_ | refine pick_i ?_ ?_ | refine gS_it ?_ ?_ | refine gS_if ?_ ?_ | refine gP_it ?_ ?_ | refine gP_if ?_ ?_) <;> (intro hc; try simp only [Int.reduceLE,Int.reduceLT,Int.reduceEq,Sn] at hc)) | (with_reducible refine KP_i ?_ ?_; · exact aL) | (with_reducible refine And.intro ?_ ?_)) <;> (try simp only [S0,putAt,List.replicate,Int.reduceAdd,Int.reduceSub,Int.reduceMul,Int.reduceTDiv,Int.reduceTMod,Int.reduceMod,Int.reduceDiv,Nat.reduceLT,Nat.reduceEqDiff,Int.reduceLE,Int.reduceLT,Int.reduceToNat,Int.reduceNeg,Int.reduceEq,Nat.reduceLeDiff,Nat.reducePow,Int.reducePow,reduceIte,Nat.reduceSub,Nat.reduceAdd,Nat.reduceMul, *]))
        all_goals first
          | exact key _ _ aL (by clear hlv; simp [*])
          | omega
          | skip
        all_goals
          have hpw : powP y.w := by assumption
          have hph : powP y.h := by assumption
          have hmip : x.mn = 3 ∨ x.mn = 4 := by simp [*]
          have kt : (∀ k : Nat, (k : Int) < N → ∃ z, x.ls[k]? = some z ∧ z.w = lvS y.w k ∧ z.h = lvS y.h k) → ∀ G, Heap.Le H G → HL.Fin K (.bool true) G := fun h G hle => key true G hle ⟨fun _ => .inl ⟨hpw, hph, fun _ => hlv.2 h⟩, fun _ => rfl⟩
          have kf : ∀ (k : Nat) (z : LvR), (k : Int) < N → x.ls[k]? = some z → (z.w ≠ lvS y.w k ∨ z.h ≠ lvS y.h k) → ∀ G, Heap.Le H G → HL.Fin K (.bool false) G := fun k z hk hz hne G hle => key false G hle ⟨fun h => (by cases h), fun h => by
            exfalso
            rcases h with ⟨-, -, h⟩ | ⟨h, -⟩
            · obtain ⟨z', hz', e1, e2⟩ := hlv.1 (h hmip) k hk
              rw [hz] at hz'
              cases hz'
              rcases hne with hne | hne
              · exact hne e1
              · exact hne e2
            · exact h ⟨hpw, hph⟩⟩
          clear key hlong cn cC cN hlv
          refine loop_g 79 (fun s : Nat × Value × Value => [(7, s.2.1), (8, s.2.2), (78, .int .i64 (s.1 : Nat))]) (fun _ => _) (fun s => s.1 ≤ N ∧ ∀ k, k < s.1 → ∃ z, x.ls[k]? = some z ∧ z.w = lvS y.w k ∧ z.h = lvS y.h k) (fun s => N - s.1) (0, undef, undef) ⟨Nat.zero_le _, fun k hk => by simp at hk⟩ (Heap.Le.refl _) rfl ?_
          intro ⟨k, u, v⟩ g ⟨hk, hall⟩
          simp only at hk hall
          rcases Nat.lt_or_ge k N with hlt | hge
          · obtain ⟨z, ez⟩ : ∃ z, x.ls[k]? = some z := ⟨_, List.getElem?_eq_getElem (by omega)⟩
            have hz := hxr k z ez
            have kf := kf k z (by omega) ez
            have t0 : (k : Int) < (N : Int) := by omega
            have t6 : IntKind.i64.wrap ((k : Int) + 1) = (k : Int) + 1 := Bw.1 _ (by omega) (by omega)
            have t7 : k ≤ 64 := by omega
            have eW : (if y.w.fdiv (2 ^ k) < 1 then 1 else y.w.fdiv (2 ^ k)) = lvS y.w k := rfl
            have eH : (if y.h.fdiv (2 ^ k) < 1 then 1 else y.h.fdiv (2 ^ k)) = lvS y.h k := rfl
            have nxt : z.w = lvS y.w k → z.h = lvS y.h k → ∀ j, j < k + 1 → ∃ z, x.ls[j]? = some z ∧ z.w = lvS y.w j ∧ z.h = lvS y.h j := fun h1 h2 j hj => by
              rcases Nat.lt_or_ge j k with h' | h'
              · exact hall j h'
              · obtain rfl : j = k := by omega
                exact ⟨z, ez, h1, h2⟩
            clear hall hxr kt
            (all_goals (try simp only [S0,putAt,List.replicate,Int.reduceAdd,Int.reduceSub,Int.reduceMul,Int.reduceTDiv,Int.reduceTMod,Int.reduceMod,Int.reduceDiv,Nat.reduceLT,Nat.reduceEqDiff,Int.reduceLE,Int.reduceLT,Int.reduceToNat,Int.reduceNeg,Int.reduceEq,Nat.reduceLeDiff,Nat.reducePow,Int.reducePow,reduceIte,Nat.reduceSub,Nat.reduceAdd,Nat.reduceMul, *])); repeat' ((first | (with_reducible refine fun _ : True => ?_) | (with_reducible refine any_h ?_) | ((first | refine AllocQ_i ?_ | refine AllocO_i ?_); intro bk hb0 hbk; (try simp only [set_none'] at hbk); (try have hbn := aNn); (try simp only [set_none'] at hbn); (try have hbm := aNm); (try simp only [set_none'] at hbm)) | ((first | refine condS_i ?_ ?_ | refine pick_i ?_ ?_ | refine gS_it ?_ ?_ | refine gS_if ?_ ?_ | refine gP_it ?_ ?_ | refine gP_if ?_ ?_) <;> (intro hc; try simp only [Int.reduceLE,Int.reduceLT,Int.reduceEq,Sn] at hc)) | (with_reducible refine KP_i ?_ ?_; · exact aL) | (with_reducible refine And.intro ?_ ?_)) <;> (try simp only [S0,putAt,List.replicate,Int.reduceAdd,Int.reduceSub,Int.reduceMul,Int.reduceTDiv,Int.reduceTMod,Int.reduceMod,Int.reduceDiv,Nat.reduceLT,Nat.reduceEqDiff,Int.reduceLE,Int.reduceLT,Int.reduceToNat,Int.reduceNeg,Int.reduceEq,Nat.reduceLeDiff,Nat.reducePow,Int.reducePow,reduceIte,Nat.reduceSub,Nat.reduceAdd,Nat.reduceMul, *]))
            all_goals first
              | exact kf (.inl (by assumption)) _ aL
              | exact kf (.inr (by assumption)) _ aL
              | exact Round_mk (k + 1, _, _) ⟨hlt, nxt (by assumption) (by assumption)⟩ (by simp only; omega) aL rfl rfl
          · obtain rfl : N = k := by omega
            have t0 : ¬ ((N : Nat) : Int) < ((N : Nat) : Int) := by omega
            have kt := kt (fun k hk => hall k (by omega))
            clear kf hall hxr
            (all_goals (try simp only [S0,putAt,List.replicate,Int.reduceAdd,Int.reduceSub,Int.reduceMul,Int.reduceTDiv,Int.reduceTMod,Int.reduceMod,Int.reduceDiv,Nat.reduceLT,Nat.reduceEqDiff,Int.reduceLE,Int.reduceLT,Int.reduceToNat,Int.reduceNeg,Int.reduceEq,Nat.reduceLeDiff,Nat.reducePow,Int.reducePow,reduceIte,Nat.reduceSub,Nat.reduceAdd,Nat.reduceMul, *])); repeat' ((first | (with_reducible refine fun _ : True => ?_) | (with_reducible refine any_h ?_) | ((first | refine AllocQ_i ?_ | refine AllocO_i ?_); intro bk hb0 hbk; (try simp only [set_none'] at hbk); (try have hbn := aNn); (try simp only [set_none'] at hbn); (try have hbm := aNm); (try simp only [set_none'] at hbm)) | ((first | refine condS_i ?_ ?_ | refine pick_i ?_ ?_ | refine gS_it ?_ ?_ | refine gS_if ?_ ?_ | refine gP_it ?_ ?_ | refine gP_if ?_ ?_) <;> (intro hc; try simp only [Int.reduceLE,Int.reduceLT,Int.reduceEq,Sn] at hc)) | (with_reducible refine KP_i ?_ ?_; · exact aL) | (with_reducible refine And.intro ?_ ?_)) <;> (try simp only [S0,putAt,List.replicate,Int.reduceAdd,Int.reduceSub,Int.reduceMul,Int.reduceTDiv,Int.reduceTMod,Int.reduceMod,Int.reduceDiv,Nat.reduceLT,Nat.reduceEqDiff,Int.reduceLE,Int.reduceLT,Int.reduceToNat,Int.reduceNeg,Int.reduceEq,Nat.reduceLeDiff,Nat.reducePow,Int.reducePow,reduceIte,Nat.reduceSub,Nat.reduceAdd,Nat.reduceMul, *]))
            exact kt _ aL
  · simp only [if_neg hr] at cC
    have h2 := h2 (compl_not (.inl hr))
    clear hr hx
    unfold Im.v at cC ⊢
    refine HL.hc k156 999 ?_; unfold M156
    (all_goals (try simp only [S0,putAt,List.replicate,Int.reduceAdd,Int.reduceSub,Int.reduceMul,Int.reduceTDiv,Int.reduceTMod,Int.reduceMod,Int.reduceDiv,Nat.reduceLT,Nat.reduceEqDiff,Int.reduceLE,Int.reduceLT,Int.reduceToNat,Int.reduceNeg,Int.reduceEq,Nat.reduceLeDiff,Nat.reducePow,Int.reducePow,reduceIte,Nat.reduceSub,Nat.reduceAdd,Nat.reduceMul, *])); repeat' ((first | (with_reducible refine fun _ : True => ?_) | refine cC _ _ aG ?_ | (with_reducible refine any_h ?_) | ((first | refine AllocQ_i ?_ | refine AllocO_i ?_); intro bk hb0 hbk; (try simp only [set_none'] at hbk); (try have hbn := aNn); (try simp only [set_none'] at hbn); (try have hbm := aNm); (try simp only [set_none'] at hbm)) | ((first | refine condS_i ?_ ?_ | refine pick_i ?_ ?_ | refine gS_it ?_ ?_ | refine gS_if ?_ ?_ | refine gP_it ?_ ?_ | refine gP_if ?_ ?_) <;> (intro hc; try simp only [Int.reduceLE,Int.reduceLT,Int.reduceEq,Sn] at hc)) | (with_reducible refine KP_i ?_ ?_; · exact aL) | (with_reducible refine And.intro ?_ ?_)) <;> (try simp only [S0,putAt,List.replicate,Int.reduceAdd,Int.reduceSub,Int.reduceMul,Int.reduceTDiv,Int.reduceTMod,Int.reduceMod,Int.reduceDiv,Nat.reduceLT,Nat.reduceEqDiff,Int.reduceLE,Int.reduceLT,Int.reduceToNat,Int.reduceNeg,Int.reduceEq,Nat.reduceLeDiff,Nat.reducePow,Int.reducePow,reduceIte,Nat.reduceSub,Nat.reduceAdd,Nat.reduceMul, *]))
    all_goals exact Fin_mk aL h2
end Go.Proofs.YtdmnfaefakceiaaGreat.Sm
end
section
/- At (layer 18). -/
set_option linter.unusedSimpArgs false
set_option linter.unusedVariables false
set_option maxRecDepth 100000
set_option maxHeartbeats 8000000
namespace Go.Proofs.YtdmnfaefakceiaaGreat.Sm
open Go.HL Go.RowKit Pb
variable {w0 : World} {H H' : Heap} {K : Value → Heap → Prop}

theorem lvS_pos (w : Int) (k : Nat) : 1 ≤ lvS w k := by unfold lvS; split <;> omega
def nearV (x : Im) (y : LvR) (u v : Int) : Nat → Int := colI x y (nearP y.w u) (nearP y.h v)
/-- The colour at a place: y is the first level, z the one of the lod. -/
def atV (x : Im) (y z : LvR) (u v lod : Int) : Nat → Int :=
  if 0 < lod then (if x.mn = 1 then nearV x y u v else if x.mn = 2 then linI x y u v else if x.mn = 3 then nearV x z u v else linI x z u v) else if x.mg = 1 then nearV x y u v else linI x y u v
/-- Which level a lod means. -/
def lodN (N lod : Int) : Int := if N - 1 < (lod + 32768) / 65536 then N - 1 else (lod + 32768) / 65536
structure AtF (W : World) (H : Heap) (x : Im) (y z : LvR) (n : Nat) (lod : Int) : Prop where
  c : x.compl
  ey : x.ls[0]? = some y
  ly : Lvl W H x y
  ez : 0 < lod → x.mip → x.ls[n]? = some z ∧ Lvl W H x z ∧ (n : Int) = lodN (cntI y.w y.h) lod
theorem at_of_compl {x : Im} (hx : ImOk w0 H x) (hc : x.compl) (lod : Int) : ∃ y z n, AtF w0 H x y z n lod := by
  have hr := hc.1
  obtain ⟨-, y, ey, hn, hcase⟩ := id hc
  have F := fst_of (w0 := w0) (H := H) hr ey hn
  have hw := F.w
  have hh := F.h
  have ly := lvl_of hr hx ey (by unfold sideP at hw; omega)
  have hcn := cntI_le hw hh
  by_cases hm : 0 < lod ∧ x.mip
  · have hl : x.lvls y := by
      rcases hcase with ⟨-, -, h⟩ | ⟨-, -, -, h⟩
      · exact h hm.2
      · exact (h hm.2).elim
    have hle : 0 ≤ lodN (cntI y.w y.h) lod ∧ lodN (cntI y.w y.h) lod < cntI y.w y.h := by unfold lodN; split <;> omega
    obtain ⟨n, en⟩ := Int.eq_ofNat_of_zero_le hle.1
    obtain ⟨z, ez, h1, h2⟩ := hl n (by omega)
    have := lvS_pos y.w n
    exact ⟨y, z, n, hc, ey, ly, fun _ _ => ⟨ez, lvl_of hr hx ez (by omega), en.symm⟩⟩
  · exact ⟨y, y, 0, hc, ey, ly, fun h1 h2 => (hm ⟨h1, h2⟩).elim⟩
theorem right_vals2 {x : Im} (h : x.right) : (1 ≤ x.mn ∧ x.mn ≤ 4) ∧ (1 ≤ x.mg ∧ x.mg ≤ 2) := ⟨h.2.2.2.2.2.2.1, h.2.2.2.2.2.2.2⟩
/- sample At -/
def M127 : MC :=
  .seq (.reg [oX 4 (.box 134 (.tmp 0)),
 oX 8 (.alloc 28 [(.int .i32 0),(.int .i32 0),(.int .i32 0),(.int .i32 0)]),
 oX 9 (.mv (kX 0))])
 (.seq (.seq (.reg [oX 13 (.ldn 6 (.tmp 4)),
 oX 14 (.call 155 [(.tmp 13)]),
 vX 10 14])
 (.seq (.reg [vX 15 10,
 oX 16 (bK .neq 15 0)])
 (.cond (.tmp 16)
 (.seq (.reg [oX 17 (.build [(.int .i32 0),(.int .i32 0),(.int .i32 0),(.int .i32 0)] []),
 vX 18 10,
 ⟨none,.stn 4 (.tmp 8) (.tmp 17),none⟩,
 vX 9 18])
 (.ret))
 (.skip))))
 (.seq (.seq (.reg [oX 19 (.ldn 6 (.tmp 4)),
 oX 20 (.call 156 [(.tmp 19)]),
 oX 21 (.un .not (.tmp 20))])
 (.cond (.tmp 21)
 (.seq (.reg [oX 22 (.build [(.int .i32 0),(.int .i32 0),(.int .i32 0),(.int .i32 0)] [(0,1,(.const (.int .i32 0))),(1,1,(.const (.int .i32 0))),(2,1,(.const (.int .i32 0))),(3,1,(.const (.int .i32 65536)))]),
 ⟨none,.stn 4 (.tmp 8) (.tmp 22),none⟩,
 oX 9 (.mv (kX 0))])
 (.ret))
 (.skip)))
 (.seq (.reg [oX 23 (.fa 5 (.tmp 4)),
 oX 24 (.ld1 (.tmp 23)),
 vX 11 24,
 oX 12 (.mv (kX 0))])
 (.seq (.seq (.reg [vX 25 3,
 oX 26 (.bin .gtr (.tmp 25) (.const (.int .i32 0)))])
 (.cond (.tmp 26)
 (.seq (.reg [oX 27 (.fa 4 (.tmp 4)),
 oX 28 (.ld1 (.tmp 27)),
 vX 11 28])
 (.seq (.reg [vX 29 11,
 oX 30 (bK .eql 29 3),
 vX 31 30,
 ⟨(some 32),.mv (.tmp 11),(some (31,false))⟩,
 ⟨(some 33),bK .eql 32 4,(some (31,false))⟩,
 oX 34 (.pick (.tmp 31) (.const (.bool true)) (.tmp 33))])
 (.cond (.tmp 34)
 (.any [(true,0,[],vX 35 3),
 (true,1,[],oX 36 (.conv .i64 (.tmp 35))),
 (true,2,[],oX 37 (bK .add 36 32768)),
 (true,3,[],oX 38 (.bin .shr (.tmp 37) (.const (.int .u64 16)))),
 (true,4,[],oX 39 (.fa 1 (.tmp 4))),
 (true,5,[],oX 40 (.ld1 (.tmp 39))),
 (true,6,[],oX 41 (.is 3 (.tmp 40) (kX 0))),
 (true,7,[],oX 42 (.fa 0 (.tmp 41))),
 (true,8,[],oX 43 (.ld1 (.tmp 42))),
 (false,9,[0,1,2,3,4,5,6,7,8],oX 44 (.fa 1 (.tmp 4))),
 (false,10,[0,1,2,3,4,5,6,7,8],oX 45 (.ld1 (.tmp 44))),
 (false,11,[0,1,2,3,4,5,6,7,8],oX 46 (.is 3 (.tmp 45) (kX 0))),
 (false,12,[0,1,2,3,4,5,6,7,8],oX 47 (.fa 1 (.tmp 46))),
 (false,13,[0,1,2,3,4,5,6,7,8],oX 48 (.ld1 (.tmp 47))),
 (false,14,[0,1,2,3],oX 49 (.call 157 [(.tmp 43),(.tmp 48)])),
 (false,15,[0,1,2,3],oX 50 (bK .sub 49 1)),
 (false,16,[],oX 51 (.mn (.tmp 38) (.tmp 50))),
 (false,17,[],vX 12 51)])
 (.skip))))
 (.skip)))
 (.seq (.seq (.reg [vX 52 11,
 oX 53 (bK .eql 52 1),
 vX 54 53,
 ⟨(some 55),.mv (.tmp 11),(some (54,false))⟩,
 ⟨(some 56),bK .eql 55 3,(some (54,false))⟩,
 oX 57 (.pick (.tmp 54) (.const (.bool true)) (.tmp 56))])
 (.cond (.tmp 57)
 (.seq (.any [(true,0,[],oX 58 (.ldn 6 (.tmp 4))),
 (true,1,[],oX 59 (.fa 1 (.tmp 4))),
 (true,2,[],oX 60 (.ld1 (.tmp 59))),
 (true,3,[],vX 61 12),
 (true,4,[],oX 62 (.is 3 (.tmp 60) (.tmp 61))),
 (true,5,[],oX 63 (.ldn 3 (.tmp 62))),
 (true,6,[],vX 64 1),
 (false,7,[0,1,2,3,4,5,6],vX 65 2),
 (false,8,[],oX 66 (.call 158 [(.tmp 58),(.tmp 63),(.tmp 64),(.tmp 65)])),
 (false,9,[],⟨none,.stn 4 (.tmp 8) (.tmp 66),none⟩),
 (false,10,[],oX 9 (.mv (kX 0)))])
 (.ret))
 (.skip)))
 (.seq (.any [(true,0,[],oX 67 (.ldn 6 (.tmp 4))),
 (true,1,[],oX 68 (.fa 1 (.tmp 4))),
 (true,2,[],oX 69 (.ld1 (.tmp 68))),
 (true,3,[],vX 70 12),
 (true,4,[],oX 71 (.is 3 (.tmp 69) (.tmp 70))),
 (true,5,[],oX 72 (.ldn 3 (.tmp 71))),
 (true,6,[],vX 73 1),
 (false,7,[0,1,2,3,4,5,6],vX 74 2),
 (false,8,[],oX 75 (.call 159 [(.tmp 67),(.tmp 72),(.tmp 73),(.tmp 74)])),
 (false,9,[],⟨none,.stn 4 (.tmp 8) (.tmp 75),none⟩),
 (false,10,[],oX 9 (.mv (kX 0)))])
 (.ret)))))))
theorem k127 : fnOk Tryz.prog 127 = some (M127, [.cn 4 8, .t 9], 76) := by kernel_rfl

theorem c_At_bad (x : Im) (hx : ImOk w0 H x) (u v lod : Int) (hr : ¬ x.right) (h : K (.tuple #[z4, .int .i64 180]) H) : HCalls Tryz.prog w0 127 [x.v, .int .i32 u, .int .i32 v, .int .i32 lod] H K := by
  have cC : ∀ (G : Heap) (K : Value → Heap → Prop), Grow w0 H G → K (.int .i64 180) G → HCalls Tryz.prog w0 155 [x.v] G K := fun G K g hk => c_Check1 x (hx.grow g) hr hk
  clear hr hx
  unfold Im.v at cC ⊢
  refine HL.hc k127 999 ?_; unfold M127
  (all_goals (try simp only [S0,putAt,List.replicate,Int.reduceAdd,Int.reduceSub,Int.reduceMul,Int.reduceTDiv,Int.reduceTMod,Int.reduceMod,Int.reduceDiv,Nat.reduceLT,Nat.reduceEqDiff,Int.reduceLE,Int.reduceLT,Int.reduceToNat,Int.reduceNeg,Int.reduceEq,Nat.reduceLeDiff,Nat.reducePow,Int.reducePow,reduceIte,Nat.reduceSub,Nat.reduceAdd,Nat.reduceMul, *])); repeat' ((first | (with_reducible refine fun _ : True => ?_) | refine cC _ _ aG ?_ | (with_reducible refine any_h ?_) | ((first | refine AllocQ_i ?_ | refine AllocO_i ?_); intro bk hb0 hbk; (try simp only [set_none'] at hbk); (try have hbn := aNn); (try simp only [set_none'] at hbn); (try have hbm := aNm); (try simp only [set_none'] at hbm)) | ((first | refine condS_i ?_ ?_ | refine pick_i ?_ ?_ | refine gS_it ?_ ?_ | refine gS_if ?_ ?_ | refine gP_it ?_ ?_ | refine gP_if ?_ ?_) <;> (intro hc; try simp only [Int.reduceLE,Int.reduceLT,Int.reduceEq,Sn] at hc)) | (with_reducible refine KP_i ?_ ?_; · exact aL) | (with_reducible refine And.intro ?_ ?_)) <;> (try simp only [S0,putAt,List.replicate,Int.reduceAdd,Int.reduceSub,Int.reduceMul,Int.reduceTDiv,Int.reduceTMod,Int.reduceMod,Int.reduceDiv,Nat.reduceLT,Nat.reduceEqDiff,Int.reduceLE,Int.reduceLT,Int.reduceToNat,Int.reduceNeg,Int.reduceEq,Nat.reduceLeDiff,Nat.reducePow,Int.reducePow,reduceIte,Nat.reduceSub,Nat.reduceAdd,Nat.reduceMul, *]))
  all_goals exact Fin_mk aL h
theorem c_At_not (x : Im) (hx : ImOk w0 H x) (u v lod : Int) (hr : x.right) (hc : ¬ x.compl) (h : K (.tuple #[.agg #[.int .i32 0, .int .i32 0, .int .i32 0, .int .i32 65536], .int .i64 0]) H) : HCalls Tryz.prog w0 127 [x.v, .int .i32 u, .int .i32 v, .int .i32 lod] H K := by
  have cC : ∀ (G : Heap) (K : Value → Heap → Prop), Grow w0 H G → K (.int .i64 0) G → HCalls Tryz.prog w0 155 [x.v] G K := fun G K g hk => c_Check0 x (hx.grow g) hr hk
  have cK : ∀ (G : Heap) (K : Value → Heap → Prop), Grow w0 H G → K (.bool false) G → HCalls Tryz.prog w0 156 [x.v] G K := fun G K g hk => c_Complete x (hx.grow g) (fun h => (hc h).elim) (fun _ => hk)
  clear hr hx hc
  unfold Im.v at cC cK ⊢
  refine HL.hc k127 999 ?_; unfold M127
  (all_goals (try simp only [S0,putAt,List.replicate,Int.reduceAdd,Int.reduceSub,Int.reduceMul,Int.reduceTDiv,Int.reduceTMod,Int.reduceMod,Int.reduceDiv,Nat.reduceLT,Nat.reduceEqDiff,Int.reduceLE,Int.reduceLT,Int.reduceToNat,Int.reduceNeg,Int.reduceEq,Nat.reduceLeDiff,Nat.reducePow,Int.reducePow,reduceIte,Nat.reduceSub,Nat.reduceAdd,Nat.reduceMul, *])); repeat' ((first | (with_reducible refine fun _ : True => ?_) | refine cC _ _ aG ?_ | refine cK _ _ aG ?_ | (with_reducible refine any_h ?_) | ((first | refine AllocQ_i ?_ | refine AllocO_i ?_); intro bk hb0 hbk; (try simp only [set_none'] at hbk); (try have hbn := aNn); (try simp only [set_none'] at hbn); (try have hbm := aNm); (try simp only [set_none'] at hbm)) | ((first | refine condS_i ?_ ?_ | refine pick_i ?_ ?_ | refine gS_it ?_ ?_ | refine gS_if ?_ ?_ | refine gP_it ?_ ?_ | refine gP_if ?_ ?_) <;> (intro hc; try simp only [Int.reduceLE,Int.reduceLT,Int.reduceEq,Sn] at hc)) | (with_reducible refine KP_i ?_ ?_; · exact aL) | (with_reducible refine And.intro ?_ ?_)) <;> (try simp only [S0,putAt,List.replicate,Int.reduceAdd,Int.reduceSub,Int.reduceMul,Int.reduceTDiv,Int.reduceTMod,Int.reduceMod,Int.reduceDiv,Nat.reduceLT,Nat.reduceEqDiff,Int.reduceLE,Int.reduceLT,Int.reduceToNat,Int.reduceNeg,Int.reduceEq,Nat.reduceLeDiff,Nat.reducePow,Int.reducePow,reduceIte,Nat.reduceSub,Nat.reduceAdd,Nat.reduceMul, *]))
  all_goals exact Fin_mk aL h
theorem c_At_ok (x : Im) (hx : ImOk w0 H x) (y z : LvR) (n : Nat) (u v lod : Int) (hu : I32 u) (hv : I32 v) (hl : I32 lod) (F : AtF w0 H x y z n lod) (h : K (.tuple #[V4 (atV x y z u v lod), .int .i64 0]) H) : HCalls Tryz.prog w0 127 [x.v, .int .i32 u, .int .i32 v, .int .i32 lod] H K := by
  have hr := F.c.1
  have hvals := right_vals2 hr
  have cC : ∀ (G : Heap) (K : Value → Heap → Prop), Grow w0 H G → K (.int .i64 0) G → HCalls Tryz.prog w0 155 [x.v] G K := fun G K g hk => c_Check0 x (hx.grow g) hr hk
  have cK : ∀ (G : Heap) (K : Value → Heap → Prop), Grow w0 H G → K (.bool true) G → HCalls Tryz.prog w0 156 [x.v] G K := fun G K g hk => c_Complete x (hx.grow g) (fun _ => hk) (fun h => (h F.c).elim)
  have ly := F.ly
  have ny : ∀ (G : Heap) (K : Value → Heap → Prop), Grow w0 H G → K (V4 (nearV x y u v)) G → HCalls Tryz.prog w0 158 [x.v, y.v, .int .i32 u, .int .i32 v] G K := fun G K g hk => c_near x y u v (ly.grow g) hu hv hk
  have gy : ∀ (G : Heap) (K : Value → Heap → Prop), Grow w0 H G → K (V4 (linI x y u v)) G → HCalls Tryz.prog w0 159 [x.v, y.v, .int .i32 u, .int .i32 v] G K := fun G K g hk => c_linear x y u v (ly.grow g) hu hv hk
  obtain ⟨b, o, ea, hrd, hf⟩ := at0 (b := 0) (o := 0) hx F.ey
  obtain ⟨r0, -⟩ := rd1_of_rdn (i := 0) hrd (by decide)
  obtain ⟨r1, -⟩ := rd1_of_rdn (i := 1) hrd (by decide)
  simp only [Nat.add_zero, List.getElem?_cons_zero, List.getElem?_cons_succ] at r0 r1
  have hp : (0 : Int) < (x.ls.length : Int) := by have := (List.getElem?_eq_some_iff.1 F.ey).1; omega
  unfold I32 at hl
  by_cases hlod : 0 < lod
  · have ez := F.ez hlod
    unfold atV at h
    rw [if_pos hlod] at h
    rcases (by omega : x.mn = 1 ∨ x.mn = 2 ∨ x.mn = 3 ∨ x.mn = 4) with hm | hm | hm | hm
    · simp only [hm, if_true] at h
      clear ez hx F hr hvals hu hv ly
      unfold Im.v LvR.v at ny
      unfold Im.v at cC cK ⊢
      rw [ea] at ny cC cK ⊢
      simp only [hm] at ny cC cK ⊢
      generalize nearV x y u v = V at *
      refine HL.hc k127 999 ?_; unfold M127
      (all_goals (try simp only [S0,putAt,List.replicate,Int.reduceAdd,Int.reduceSub,Int.reduceMul,Int.reduceTDiv,Int.reduceTMod,Int.reduceMod,Int.reduceDiv,Nat.reduceLT,Nat.reduceEqDiff,Int.reduceLE,Int.reduceLT,Int.reduceToNat,Int.reduceNeg,Int.reduceEq,Nat.reduceLeDiff,Nat.reducePow,Int.reducePow,reduceIte,Nat.reduceSub,Nat.reduceAdd,Nat.reduceMul, *])); repeat' ((first | (with_reducible refine fun _ : True => ?_) | refine cC _ _ aG ?_ | refine cK _ _ aG ?_ | refine ny _ _ aG ?_ | (with_reducible refine any_h ?_) | ((first | refine AllocQ_i ?_ | refine AllocO_i ?_); intro bk hb0 hbk; (try simp only [set_none'] at hbk); (try have hbn := aNn); (try simp only [set_none'] at hbn); (try have hbm := aNm); (try simp only [set_none'] at hbm)) | ((first | refine condS_i ?_ ?_ | refine pick_i ?_ ?_ | refine gS_it ?_ ?_ | refine gS_if ?_ ?_ | refine gP_it ?_ ?_ | refine gP_if ?_ ?_) <;> (intro hc; try simp only [Int.reduceLE,Int.reduceLT,Int.reduceEq,Sn] at hc)) | (with_reducible refine KP_i ?_ ?_; · exact aL) | (with_reducible refine And.intro ?_ ?_)) <;> (try simp only [S0,putAt,List.replicate,Int.reduceAdd,Int.reduceSub,Int.reduceMul,Int.reduceTDiv,Int.reduceTMod,Int.reduceMod,Int.reduceDiv,Nat.reduceLT,Nat.reduceEqDiff,Int.reduceLE,Int.reduceLT,Int.reduceToNat,Int.reduceNeg,Int.reduceEq,Nat.reduceLeDiff,Nat.reducePow,Int.reducePow,reduceIte,Nat.reduceSub,Nat.reduceAdd,Nat.reduceMul, *]))
      all_goals exact Fin_mk aL h
    · simp only [hm] at h
      clear ez hx F hr hvals hu hv ly
      unfold Im.v LvR.v at gy
      unfold Im.v at cC cK ⊢
      rw [ea] at gy cC cK ⊢
      simp only [hm] at gy cC cK ⊢
      generalize linI x y u v = V at *
      refine HL.hc k127 999 ?_; unfold M127
      (all_goals (try simp only [S0,putAt,List.replicate,Int.reduceAdd,Int.reduceSub,Int.reduceMul,Int.reduceTDiv,Int.reduceTMod,Int.reduceMod,Int.reduceDiv,Nat.reduceLT,Nat.reduceEqDiff,Int.reduceLE,Int.reduceLT,Int.reduceToNat,Int.reduceNeg,Int.reduceEq,Nat.reduceLeDiff,Nat.reducePow,Int.reducePow,reduceIte,Nat.reduceSub,Nat.reduceAdd,Nat.reduceMul, *])); repeat' ((first | (with_reducible refine fun _ : True => ?_) | refine cC _ _ aG ?_ | refine cK _ _ aG ?_ | refine gy _ _ aG ?_ | (with_reducible refine any_h ?_) | ((first | refine AllocQ_i ?_ | refine AllocO_i ?_); intro bk hb0 hbk; (try simp only [set_none'] at hbk); (try have hbn := aNn); (try simp only [set_none'] at hbn); (try have hbm := aNm); (try simp only [set_none'] at hbm)) | ((first | refine condS_i ?_ ?_ | refine pick_i ?_ ?_ | refine gS_it ?_ ?_ | refine gS_if ?_ ?_ | refine gP_it ?_ ?_ | refine gP_if ?_ ?_) <;> (intro hc; try simp only [Int.reduceLE,Int.reduceLT,Int.reduceEq,Sn] at hc)) | (with_reducible refine KP_i ?_ ?_; · exact aL) | (with_reducible refine And.intro ?_ ?_)) <;> (try simp only [S0,putAt,List.replicate,Int.reduceAdd,Int.reduceSub,Int.reduceMul,Int.reduceTDiv,Int.reduceTMod,Int.reduceMod,Int.reduceDiv,Nat.reduceLT,Nat.reduceEqDiff,Int.reduceLE,Int.reduceLT,Int.reduceToNat,Int.reduceNeg,Int.reduceEq,Nat.reduceLeDiff,Nat.reducePow,Int.reducePow,reduceIte,Nat.reduceSub,Nat.reduceAdd,Nat.reduceMul, *]))
      all_goals exact Fin_mk aL h
    all_goals
      obtain ⟨hz, lz, en⟩ := ez (by unfold Im.mip; omega)
      obtain ⟨b', o', e', hrz, -⟩ := im_row hx hz
      rw [ea] at e'
      cases e'
      have nz : ∀ (G : Heap) (K : Value → Heap → Prop), Grow w0 H G → K (V4 (nearV x z u v)) G → HCalls Tryz.prog w0 158 [x.v, z.v, .int .i32 u, .int .i32 v] G K := fun G K g hk => c_near x z u v (lz.grow g) hu hv hk
      have gz : ∀ (G : Heap) (K : Value → Heap → Prop), Grow w0 H G → K (V4 (linI x z u v)) G → HCalls Tryz.prog w0 159 [x.v, z.v, .int .i32 u, .int .i32 v] G K := fun G K g hk => c_linear x z u v (lz.grow g) hu hv hk
      have hcn := cntI_le ly.w ly.h
      have cN : ∀ (G : Heap) (K : Value → Heap → Prop), K (.int .i64 (cntI y.w y.h)) G → HCalls Tryz.prog w0 157 [.int .i64 y.w, .int .i64 y.h] G K := fun G K hk => c_Count _ _ hk
      unfold lodN at en
      generalize cntI y.w y.h = N at *
      have w1 : IntKind.i64.wrap lod = lod := Bw.1 _ (by omega) (by omega)
      have w2 : IntKind.i64.wrap (lod + 32768) = lod + 32768 := Bw.1 _ (by omega) (by omega)
      have w3 : IntKind.i64.wrap (N - 1) = N - 1 := Bw.1 _ (by omega) (by omega)
      have fd : ∀ a : Int, a.fdiv 65536 = a / 65536 := fun a => Int.fdiv_eq_ediv_of_nonneg _ (by decide)
      have en' := en.symm
      have hnl : (n : Int) < (x.ls.length : Int) := by have := (List.getElem?_eq_some_iff.1 hz).1; omega
      simp only [hm] at h
      clear ez hx F hr hvals hu hv ly lz hz en hcn
      unfold Im.v LvR.v at nz gz
      unfold Im.v at cC cK ⊢
      rw [ea] at nz gz cC cK ⊢
      simp only [hm] at nz gz cC cK ⊢
    · have h : K (.tuple #[V4 (nearV x z u v), .int .i64 0]) H := h
      generalize nearV x z u v = V at *
      refine HL.hc k127 999 ?_; unfold M127
      (all_goals (try simp only [S0,putAt,List.replicate,Int.reduceAdd,Int.reduceSub,Int.reduceMul,Int.reduceTDiv,Int.reduceTMod,Int.reduceMod,Int.reduceDiv,Nat.reduceLT,Nat.reduceEqDiff,Int.reduceLE,Int.reduceLT,Int.reduceToNat,Int.reduceNeg,Int.reduceEq,Nat.reduceLeDiff,Nat.reducePow,Int.reducePow,reduceIte,Nat.reduceSub,Nat.reduceAdd,Nat.reduceMul, *])); repeat' ((first | (with_reducible refine fun _ : True => ?_) | refine cC _ _ aG ?_ | refine cK _ _ aG ?_ | refine cN _ _ ?_ | refine nz _ _ aG ?_ | (with_reducible refine any_h ?_) | ((first | refine AllocQ_i ?_ | refine AllocO_i ?_); intro bk hb0 hbk; (try simp only [set_none'] at hbk); (try have hbn := aNn); (try simp only [set_none'] at hbn); (try have hbm := aNm); (try simp only [set_none'] at hbm)) | ((first | refine condS_i ?_ ?_ | refine pick_i ?_ ?_ | refine gS_it ?_ ?_ | refine gS_if ?_ ?_ | refine gP_it ?_ ?_ | refine gP_if ?_ ?_) <;> (intro hc; try simp only [Int.reduceLE,Int.reduceLT,Int.reduceEq,Sn] at hc)) | (with_reducible refine KP_i ?_ ?_; · exact aL) | (with_reducible refine And.intro ?_ ?_)) <;> (try simp only [S0,putAt,List.replicate,Int.reduceAdd,Int.reduceSub,Int.reduceMul,Int.reduceTDiv,Int.reduceTMod,Int.reduceMod,Int.reduceDiv,Nat.reduceLT,Nat.reduceEqDiff,Int.reduceLE,Int.reduceLT,Int.reduceToNat,Int.reduceNeg,Int.reduceEq,Nat.reduceLeDiff,Nat.reducePow,Int.reducePow,reduceIte,Nat.reduceSub,Nat.reduceAdd,Nat.reduceMul, *]))
      all_goals exact Fin_mk aL h
    · have h : K (.tuple #[V4 (linI x z u v), .int .i64 0]) H := h
      generalize linI x z u v = V at *
      refine HL.hc k127 999 ?_; unfold M127
      (all_goals (try simp only [S0,putAt,List.replicate,Int.reduceAdd,Int.reduceSub,Int.reduceMul,Int.reduceTDiv,Int.reduceTMod,Int.reduceMod,Int.reduceDiv,Nat.reduceLT,Nat.reduceEqDiff,Int.reduceLE,Int.reduceLT,Int.reduceToNat,Int.reduceNeg,Int.reduceEq,Nat.reduceLeDiff,Nat.reducePow,Int.reducePow,reduceIte,Nat.reduceSub,Nat.reduceAdd,Nat.reduceMul, *])); repeat' ((first | (with_reducible refine fun _ : True => ?_) | refine cC _ _ aG ?_ | refine cK _ _ aG ?_ | refine cN _ _ ?_ | refine gz _ _ aG ?_ | (with_reducible refine any_h ?_) | ((first | refine AllocQ_i ?_ | refine AllocO_i ?_); intro bk hb0 hbk; (try simp only [set_none'] at hbk); (try have hbn := aNn); (try simp only [set_none'] at hbn); (try have hbm := aNm); (try simp only [set_none'] at hbm)) | ((first | refine condS_i ?_ ?_ | refine pick_i ?_ ?_ | refine gS_it ?_ ?_ | refine gS_if ?_ ?_ | refine gP_it ?_ ?_ | refine gP_if ?_ ?_) <;> (intro hc; try simp only [Int.reduceLE,Int.reduceLT,Int.reduceEq,Sn] at hc)) | (with_reducible refine KP_i ?_ ?_; · exact aL) | (with_reducible refine And.intro ?_ ?_)) <;> (try simp only [S0,putAt,List.replicate,Int.reduceAdd,Int.reduceSub,Int.reduceMul,Int.reduceTDiv,Int.reduceTMod,Int.reduceMod,Int.reduceDiv,Nat.reduceLT,Nat.reduceEqDiff,Int.reduceLE,Int.reduceLT,Int.reduceToNat,Int.reduceNeg,Int.reduceEq,Nat.reduceLeDiff,Nat.reducePow,Int.reducePow,reduceIte,Nat.reduceSub,Nat.reduceAdd,Nat.reduceMul, *]))
      all_goals exact Fin_mk aL h
  · unfold atV at h
    rw [if_neg hlod] at h
    rcases (by omega : x.mg = 1 ∨ x.mg = 2) with hm | hm
    · simp only [hm, if_true] at h
      clear hx F hr hvals hu hv ly
      unfold Im.v LvR.v at ny
      unfold Im.v at cC cK ⊢
      rw [ea] at ny cC cK ⊢
      simp only [hm] at ny cC cK ⊢
      generalize nearV x y u v = V at *
      refine HL.hc k127 999 ?_; unfold M127
      (all_goals (try simp only [S0,putAt,List.replicate,Int.reduceAdd,Int.reduceSub,Int.reduceMul,Int.reduceTDiv,Int.reduceTMod,Int.reduceMod,Int.reduceDiv,Nat.reduceLT,Nat.reduceEqDiff,Int.reduceLE,Int.reduceLT,Int.reduceToNat,Int.reduceNeg,Int.reduceEq,Nat.reduceLeDiff,Nat.reducePow,Int.reducePow,reduceIte,Nat.reduceSub,Nat.reduceAdd,Nat.reduceMul, *])); repeat' ((first | (with_reducible refine fun _ : True => ?_) | refine cC _ _ aG ?_ | refine cK _ _ aG ?_ | refine ny _ _ aG ?_ | (with_reducible refine any_h ?_) | ((first | refine AllocQ_i ?_ | refine AllocO_i ?_); intro bk hb0 hbk; (try simp only [set_none'] at hbk); (try have hbn := aNn); (try simp only [set_none'] at hbn); (try have hbm := aNm); (try simp only [set_none'] at hbm)) | ((first | refine condS_i ?_ ?_ | refine pick_i ?_ ?_ | refine gS_it ?_ ?_ | refine gS_if ?_ ?_ | refine gP_it ?_ ?_ | refine gP_if ?_ ?_) <;> (intro hc; try simp only [Int.reduceLE,Int.reduceLT,Int.reduceEq,Sn] at hc)) | (with_reducible refine KP_i ?_ ?_; · exact aL) | (with_reducible refine And.intro ?_ ?_)) <;> (try simp only [S0,putAt,List.replicate,Int.reduceAdd,Int.reduceSub,Int.reduceMul,Int.reduceTDiv,Int.reduceTMod,Int.reduceMod,Int.reduceDiv,Nat.reduceLT,Nat.reduceEqDiff,Int.reduceLE,Int.reduceLT,Int.reduceToNat,Int.reduceNeg,Int.reduceEq,Nat.reduceLeDiff,Nat.reducePow,Int.reducePow,reduceIte,Nat.reduceSub,Nat.reduceAdd,Nat.reduceMul, *]))
      all_goals exact Fin_mk aL h
    · simp only [hm] at h
      clear hx F hr hvals hu hv ly
      unfold Im.v LvR.v at gy
      unfold Im.v at cC cK ⊢
      rw [ea] at gy cC cK ⊢
      simp only [hm] at gy cC cK ⊢
      generalize linI x y u v = V at *
      refine HL.hc k127 999 ?_; unfold M127
      (all_goals (try simp only [S0,putAt,List.replicate,Int.reduceAdd,Int.reduceSub,Int.reduceMul,Int.reduceTDiv,Int.reduceTMod,Int.reduceMod,Int.reduceDiv,Nat.reduceLT,Nat.reduceEqDiff,Int.reduceLE,Int.reduceLT,Int.reduceToNat,Int.reduceNeg,Int.reduceEq,Nat.reduceLeDiff,Nat.reducePow,Int.reducePow,reduceIte,Nat.reduceSub,Nat.reduceAdd,Nat.reduceMul, *])); repeat' ((first | (with_reducible refine fun _ : True => ?_) | refine cC _ _ aG ?_ | refine cK _ _ aG ?_ | refine gy _ _ aG ?_ | (with_reducible refine any_h ?_) | ((first | refine AllocQ_i ?_ | refine AllocO_i ?_); intro bk hb0 hbk; (try simp only [set_none'] at hbk); (try have hbn := aNn); (try simp only [set_none'] at hbn); (try have hbm := aNm); (try simp only [set_none'] at hbm)) | ((first | refine condS_i ?_ ?_ | refine pick_i ?_ ?_ | refine gS_it ?_ ?_ | refine gS_if ?_ ?_ | refine gP_it ?_ ?_ | refine gP_if ?_ ?_) <;> (intro hc; try simp only [Int.reduceLE,Int.reduceLT,Int.reduceEq,Sn] at hc)) | (with_reducible refine KP_i ?_ ?_; · exact aL) | (with_reducible refine And.intro ?_ ?_)) <;> (try simp only [S0,putAt,List.replicate,Int.reduceAdd,Int.reduceSub,Int.reduceMul,Int.reduceTDiv,Int.reduceTMod,Int.reduceMod,Int.reduceDiv,Nat.reduceLT,Nat.reduceEqDiff,Int.reduceLE,Int.reduceLT,Int.reduceToNat,Int.reduceNeg,Int.reduceEq,Nat.reduceLeDiff,Nat.reducePow,Int.reducePow,reduceIte,Nat.reduceSub,Nat.reduceAdd,Nat.reduceMul, *]))
      all_goals exact Fin_mk aL h
end Go.Proofs.YtdmnfaefakceiaaGreat.Sm
end
