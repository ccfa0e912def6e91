/- How many levels sides have, and which images are complete, by both (layer 8). -/
import Derived.Test.YtdaipgnhconfnaaImwp
import Derived.Test.YtdaipgnhconfnaaPd
import Derived.Test.YtdaipgnhconfnaaHlt
set_option linter.unusedSimpArgs false
set_option linter.unusedVariables false
set_option maxRecDepth 100000
set_option maxHeartbeats 4000000
namespace Go.Proofs.Ytdaipgnhconfnaa
open Go.HL Go.RowKit Pb
variable {w0 : World} {H : Heap} {K : Value → Heap → Prop}

def lg (s : Int) : Int := if s ≤ 1 then 0 else if s ≤ 3 then 1 else if s ≤ 7 then 2 else if s ≤ 15 then 3 else if s ≤ 31 then 4 else if s ≤ 63 then 5 else 6
theorem lg_half {s : Int} (h : 1 < s ∧ s ≤ 64) : lg (s / 2) = lg s - 1 := by
  unfold lg
  have h2 : 2 * (s / 2) ≤ s ∧ s < 2 * (s / 2) + 2 := by omega
  (repeat' split) <;> omega
theorem lg_le {s : Int} : 0 ≤ lg s ∧ lg s ≤ 6 := by unfold lg; (repeat' split) <;> omega
theorem lg_one {s : Int} (h : 1 < s) : 1 ≤ lg s := by unfold lg; (repeat' split) <;> omega
theorem lg_zero {s : Int} (h : s ≤ 1) : lg s = 0 := by unfold lg; rw [if_pos h]
def cntI (w h : Int) : Int := if 1 ≤ w ∧ w ≤ 64 ∧ 1 ≤ h ∧ h ≤ 64 then 1 + lg (if w < h then h else w) else 0
/- image Count -/
def M20 : MC :=
  .seq (.reg [⟨(some 4), .mv (.const (.int .i64 0)), none⟩])
 (.seq (.seq (.reg [⟨(some 7), .mv (.tmp 0), none⟩,
 ⟨(some 8), .call 50 [(.tmp 7)], none⟩,
 ⟨(some 9), .un .not (.tmp 8), none⟩,
 ⟨(some 10), .mv (.tmp 9), none⟩,
 ⟨(some 11), .mv (.tmp 1), (some (10, false))⟩,
 ⟨(some 12), .call 50 [(.tmp 11)], (some (10, false))⟩,
 ⟨(some 13), .un .not (.tmp 12), (some (10, false))⟩,
 ⟨(some 14), .pick (.tmp 10) (.const (.bool true)) (.tmp 13), none⟩])
 (.cond (.tmp 14)
 (.seq (.reg [⟨(some 4), .mv (.const (.int .i64 0)), none⟩])
 (.ret))
 (.skip)))
 (.seq (.reg [⟨(some 5), .mv (.const (.int .i64 1)), none⟩])
 (.seq (.seq (.reg [⟨(some 15), .mv (.tmp 0), none⟩,
 ⟨(some 16), .mv (.tmp 1), none⟩,
 ⟨(some 17), .mx (.tmp 15) (.tmp 16), none⟩,
 ⟨(some 6), .mv (.tmp 17), none⟩])
 (.block 0 (.loop (.seq (.seq (.reg [⟨(some 18), .mv (.tmp 6), none⟩,
 ⟨(some 19), .bin .gtr (.tmp 18) (.const (.int .i64 1)), none⟩])
 (.cond (.tmp 19)
 (.skip)
 (.exit 0)))
 (.seq (.block 1 (.reg [⟨(some 22), .mv (.tmp 5), none⟩,
 ⟨(some 23), .bin .add (.tmp 22) (.const (.int .i64 1)), none⟩,
 ⟨(some 5), .mv (.tmp 23), none⟩]))
 (.reg [⟨(some 20), .mv (.tmp 6), none⟩,
 ⟨(some 21), .bin .shr (.tmp 20) (.const (.int .u64 1)), none⟩,
 ⟨(some 6), .mv (.tmp 21), none⟩]))))))
 (.seq (.reg [⟨(some 24), .mv (.tmp 5), none⟩,
 ⟨(some 4), .mv (.tmp 24), none⟩])
 (.ret)))))
theorem k20 : fnOk Try.prog 20 = some (M20, [.t 4], 25) := by kernel_rfl

theorem c_Count (w h : Int) (hK : K (.int .i64 (cntI w h)) H) : HCalls Try.prog w0 20 [.int .i64 w, .int .i64 h] H K := by
  by_cases hb : 1 ≤ w ∧ w ≤ 64 ∧ 1 ≤ h ∧ h ≤ 64
  · have hc : cntI w h = 1 + lg (if w < h then h else w) := by unfold cntI; rw [if_pos hb]
    have d1 : decide (sideP w) = true := by rw [decide_eq_true_eq]; unfold sideP; omega
    have d2 : decide (sideP h) = true := by rw [decide_eq_true_eq]; unfold sideP; omega
    have hm : ∃ m : Int, (if w < h then h else w) = m ∧ 1 ≤ m ∧ m ≤ 64 := ⟨_, rfl, by split <;> omega, by split <;> omega⟩
    obtain ⟨m, em, hm1, hm2⟩ := hm
    rw [em] at hc
    rw [hc] at hK
    clear hc hb
    refine HL.hc k20 999 ?_; unfold M20
    (all_goals (try simp only [Sq,Sr,Sh,Si,Sl,Bu,Bb,Bd,Bc,Bw,Bn,Int.reduceAdd,Int.reduceSub,Int.reduceMul,Int.reduceTDiv,Int.reduceTMod,Int.reduceMod,Int.reduceDiv,Nat.reduceLT,Nat.reduceEqDiff,Sa,Sb,Sc,Sd,Se,Sf,Sg,Int.reduceLE,Int.reduceLT,Int.reduceToNat,Int.reduceNeg,Int.reduceEq,Nat.reduceLeDiff,Nat.reducePow,Int.reducePow,reduceIte,Nat.reduceSub,Nat.reduceAdd,Nat.reduceMul,putAt,ceq,List.replicate, *])); repeat' ((first | (with_reducible refine fun _ : True => ?_) | refine c_side _ ?_ | refine c_side _ ?_ | (with_reducible refine any_h ?_) | ((first | refine AllocQ_i ?_ | refine AllocO_i ?_); intro bk hb0 hbk; try simp only [set_none'] at hbk) | ((first | refine condS_i ?_ ?_ | refine pick_i ?_ ?_ | refine gS_it ?_ ?_ | refine gS_if ?_ ?_ | refine gP_it ?_ ?_ | refine gP_if ?_ ?_) <;> (intro hc; try simp only [Int.reduceLE,Int.reduceLT,Int.reduceEq,Sn] at hc)) | (refine KP_i (by (repeat' (first | exact Heap.Le.refl _ | (refine Le_fresh (by first | exact (by simp only [*]) | exact (by simp [set_none', *])) ?_) | (refine Heap.Le.trans ?_ (Grow.le (by assumption)))))) ?_) | (with_reducible refine And.intro ?_ ?_)) <;> (try simp only [Sq,Sr,Sh,Si,Sl,Bu,Bb,Bd,Bc,Bw,Bn,Int.reduceAdd,Int.reduceSub,Int.reduceMul,Int.reduceTDiv,Int.reduceTMod,Int.reduceMod,Int.reduceDiv,Nat.reduceLT,Nat.reduceEqDiff,Sa,Sb,Sc,Sd,Se,Sf,Sg,Int.reduceLE,Int.reduceLT,Int.reduceToNat,Int.reduceNeg,Int.reduceEq,Nat.reduceLeDiff,Nat.reducePow,Int.reducePow,reduceIte,Nat.reduceSub,Nat.reduceAdd,Nat.reduceMul,putAt,ceq,List.replicate, *]))
    refine loop_g 18 (fun s : Int × Int => [(5, .int .i64 s.1), (6, .int .i64 s.2)]) (fun _ => H) (fun s => 1 ≤ s.2 ∧ s.2 ≤ 64 ∧ s.1 + lg s.2 = 1 + lg m ∧ 1 ≤ s.1 ∧ s.1 ≤ 7) (fun s => s.2.toNat) (1, m) ⟨hm1, hm2, rfl, by simp, by simp⟩ (Heap.Le.refl _) rfl ?_
    intro ⟨n, s⟩ f ⟨h0, h1, h2, h3, h4⟩
    simp only at h0 h1 h2 h3 h4
    have g1 := lg_half (s := s)
    have g2 := lg_le (s := m)
    have g3 := lg_one (s := s)
    have g4 := lg_zero (s := s)
    have e1 : IntKind.i64.wrap (n + 1) = n + 1 := Bw.1 _ (by omega) (by omega)
    have e2 : s.fdiv 2 = s / 2 := Int.fdiv_eq_ediv_of_nonneg _ (by omega)
    have e3 : IntKind.i64.wrap (s / 2) = s / 2 := Bw.1 _ (by omega) (by omega)
    clear d1 d2 em
    (all_goals (try simp only [Sq,Sr,Sh,Si,Sl,Bu,Bb,Bd,Bc,Bw,Bn,Int.reduceAdd,Int.reduceSub,Int.reduceMul,Int.reduceTDiv,Int.reduceTMod,Int.reduceMod,Int.reduceDiv,Nat.reduceLT,Nat.reduceEqDiff,Sa,Sb,Sc,Sd,Se,Sf,Sg,Int.reduceLE,Int.reduceLT,Int.reduceToNat,Int.reduceNeg,Int.reduceEq,Nat.reduceLeDiff,Nat.reducePow,Int.reducePow,reduceIte,Nat.reduceSub,Nat.reduceAdd,Nat.reduceMul,putAt,ceq,List.replicate, *])); repeat' ((first | (with_reducible refine fun _ : True => ?_) | (with_reducible refine any_h ?_) | ((first | refine AllocQ_i ?_ | refine AllocO_i ?_); intro bk hb0 hbk; try simp only [set_none'] at hbk) | ((first | refine condS_i ?_ ?_ | refine pick_i ?_ ?_ | refine gS_it ?_ ?_ | refine gS_if ?_ ?_ | refine gP_it ?_ ?_ | refine gP_if ?_ ?_) <;> (intro hc; try simp only [Int.reduceLE,Int.reduceLT,Int.reduceEq,Sn] at hc)) | (refine KP_i (by (repeat' (first | exact Heap.Le.refl _ | (refine Le_fresh (by first | exact (by simp only [*]) | exact (by simp [set_none', *])) ?_) | (refine Heap.Le.trans ?_ (Grow.le (by assumption)))))) ?_) | (with_reducible refine And.intro ?_ ?_)) <;> (try simp only [Sq,Sr,Sh,Si,Sl,Bu,Bb,Bd,Bc,Bw,Bn,Int.reduceAdd,Int.reduceSub,Int.reduceMul,Int.reduceTDiv,Int.reduceTMod,Int.reduceMod,Int.reduceDiv,Nat.reduceLT,Nat.reduceEqDiff,Sa,Sb,Sc,Sd,Se,Sf,Sg,Int.reduceLE,Int.reduceLT,Int.reduceToNat,Int.reduceNeg,Int.reduceEq,Nat.reduceLeDiff,Nat.reducePow,Int.reducePow,reduceIte,Nat.reduceSub,Nat.reduceAdd,Nat.reduceMul,putAt,ceq,List.replicate, *]))
    · have g1 := g1 ⟨hc, h1⟩
      have g3 := g3 hc
      exact Round_mk (n + 1, s / 2) ⟨by simp only; omega, by simp only; omega, by simp only; omega, by simp only; omega, by simp only; omega⟩ (by simp only; omega) (Heap.Le.refl _) rfl rfl
    · refine Fin_mk (Heap.Le.refl _) (K_int hK ?_)
      have g4 := g4 (by omega)
      omega
  · have hc : cntI w h = 0 := by unfold cntI; rw [if_neg hb]
    rw [hc] at hK
    by_cases hw : 1 ≤ w ∧ w ≤ 64
    · have d1 : decide (sideP w) = true := by rw [decide_eq_true_eq]; unfold sideP; omega
      have d2 : decide (sideP h) = false := by rw [decide_eq_false_iff_not]; unfold sideP; omega
      clear hb hw hc
      refine HL.hc k20 999 ?_; unfold M20
      (all_goals (try simp only [Sq,Sr,Sh,Si,Sl,Bu,Bb,Bd,Bc,Bw,Bn,Int.reduceAdd,Int.reduceSub,Int.reduceMul,Int.reduceTDiv,Int.reduceTMod,Int.reduceMod,Int.reduceDiv,Nat.reduceLT,Nat.reduceEqDiff,Sa,Sb,Sc,Sd,Se,Sf,Sg,Int.reduceLE,Int.reduceLT,Int.reduceToNat,Int.reduceNeg,Int.reduceEq,Nat.reduceLeDiff,Nat.reducePow,Int.reducePow,reduceIte,Nat.reduceSub,Nat.reduceAdd,Nat.reduceMul,putAt,ceq,List.replicate, *])); repeat' ((first | (with_reducible refine fun _ : True => ?_) | refine c_side _ ?_ | refine c_side _ ?_ | (with_reducible refine any_h ?_) | ((first | refine AllocQ_i ?_ | refine AllocO_i ?_); intro bk hb0 hbk; try simp only [set_none'] at hbk) | ((first | refine condS_i ?_ ?_ | refine pick_i ?_ ?_ | refine gS_it ?_ ?_ | refine gS_if ?_ ?_ | refine gP_it ?_ ?_ | refine gP_if ?_ ?_) <;> (intro hc; try simp only [Int.reduceLE,Int.reduceLT,Int.reduceEq,Sn] at hc)) | (refine KP_i (by (repeat' (first | exact Heap.Le.refl _ | (refine Le_fresh (by first | exact (by simp only [*]) | exact (by simp [set_none', *])) ?_) | (refine Heap.Le.trans ?_ (Grow.le (by assumption)))))) ?_) | (with_reducible refine And.intro ?_ ?_)) <;> (try simp only [Sq,Sr,Sh,Si,Sl,Bu,Bb,Bd,Bc,Bw,Bn,Int.reduceAdd,Int.reduceSub,Int.reduceMul,Int.reduceTDiv,Int.reduceTMod,Int.reduceMod,Int.reduceDiv,Nat.reduceLT,Nat.reduceEqDiff,Sa,Sb,Sc,Sd,Se,Sf,Sg,Int.reduceLE,Int.reduceLT,Int.reduceToNat,Int.reduceNeg,Int.reduceEq,Nat.reduceLeDiff,Nat.reducePow,Int.reducePow,reduceIte,Nat.reduceSub,Nat.reduceAdd,Nat.reduceMul,putAt,ceq,List.replicate, *]))
      exact Fin_mk (Heap.Le.refl _) hK
    · have d1 : decide (sideP w) = false := by rw [decide_eq_false_iff_not]; unfold sideP; omega
      clear hb hw hc
      refine HL.hc k20 999 ?_; unfold M20
      (all_goals (try simp only [Sq,Sr,Sh,Si,Sl,Bu,Bb,Bd,Bc,Bw,Bn,Int.reduceAdd,Int.reduceSub,Int.reduceMul,Int.reduceTDiv,Int.reduceTMod,Int.reduceMod,Int.reduceDiv,Nat.reduceLT,Nat.reduceEqDiff,Sa,Sb,Sc,Sd,Se,Sf,Sg,Int.reduceLE,Int.reduceLT,Int.reduceToNat,Int.reduceNeg,Int.reduceEq,Nat.reduceLeDiff,Nat.reducePow,Int.reducePow,reduceIte,Nat.reduceSub,Nat.reduceAdd,Nat.reduceMul,putAt,ceq,List.replicate, *])); repeat' ((first | (with_reducible refine fun _ : True => ?_) | refine c_side _ ?_ | refine c_side _ ?_ | (with_reducible refine any_h ?_) | ((first | refine AllocQ_i ?_ | refine AllocO_i ?_); intro bk hb0 hbk; try simp only [set_none'] at hbk) | ((first | refine condS_i ?_ ?_ | refine pick_i ?_ ?_ | refine gS_it ?_ ?_ | refine gS_if ?_ ?_ | refine gP_it ?_ ?_ | refine gP_if ?_ ?_) <;> (intro hc; try simp only [Int.reduceLE,Int.reduceLT,Int.reduceEq,Sn] at hc)) | (refine KP_i (by (repeat' (first | exact Heap.Le.refl _ | (refine Le_fresh (by first | exact (by simp only [*]) | exact (by simp [set_none', *])) ?_) | (refine Heap.Le.trans ?_ (Grow.le (by assumption)))))) ?_) | (with_reducible refine And.intro ?_ ?_)) <;> (try simp only [Sq,Sr,Sh,Si,Sl,Bu,Bb,Bd,Bc,Bw,Bn,Int.reduceAdd,Int.reduceSub,Int.reduceMul,Int.reduceTDiv,Int.reduceTMod,Int.reduceMod,Int.reduceDiv,Nat.reduceLT,Nat.reduceEqDiff,Sa,Sb,Sc,Sd,Se,Sf,Sg,Int.reduceLE,Int.reduceLT,Int.reduceToNat,Int.reduceNeg,Int.reduceEq,Nat.reduceLeDiff,Nat.reducePow,Int.reducePow,reduceIte,Nat.reduceSub,Nat.reduceAdd,Nat.reduceMul,putAt,ceq,List.replicate, *]))
      exact Fin_mk (Heap.Le.refl _) hK
theorem lg_max {w h : Int} (hw : 1 < w ∨ 1 < h) (h1 : w ≤ 64 ∧ h ≤ 64) : lg (if w / 2 < h / 2 then h / 2 else w / 2) = lg (if w < h then h else w) - 1 := by
  rw [← lg_half (by split <;> omega)]
  congr 1
  (repeat' split) <;> omega
/- paintboxref08 Count -/
def M21 : MC :=
  .seq (.reg [⟨(some 4), .mv (.const (.int .i64 0)), none⟩])
 (.seq (.seq (.reg [⟨(some 6), .mv (.tmp 0), none⟩,
 ⟨(some 7), .call 53 [(.tmp 6)], none⟩,
 ⟨(some 8), .un .not (.tmp 7), none⟩,
 ⟨(some 9), .mv (.tmp 8), none⟩,
 ⟨(some 10), .mv (.tmp 1), (some (9, false))⟩,
 ⟨(some 11), .call 53 [(.tmp 10)], (some (9, false))⟩,
 ⟨(some 12), .un .not (.tmp 11), (some (9, false))⟩,
 ⟨(some 13), .pick (.tmp 9) (.const (.bool true)) (.tmp 12), none⟩])
 (.cond (.tmp 13)
 (.seq (.reg [⟨(some 4), .mv (.const (.int .i64 0)), none⟩])
 (.ret))
 (.skip)))
 (.seq (.reg [⟨(some 5), .mv (.const (.int .i64 1)), none⟩])
 (.seq (.block 0 (.loop (.seq (.seq (.reg [⟨(some 14), .mv (.tmp 0), none⟩,
 ⟨(some 15), .bin .gtr (.tmp 14) (.const (.int .i64 1)), none⟩,
 ⟨(some 16), .mv (.tmp 15), none⟩,
 ⟨(some 17), .mv (.tmp 1), (some (16, false))⟩,
 ⟨(some 18), .bin .gtr (.tmp 17) (.const (.int .i64 1)), (some (16, false))⟩,
 ⟨(some 19), .pick (.tmp 16) (.const (.bool true)) (.tmp 18), none⟩])
 (.cond (.tmp 19)
 (.skip)
 (.exit 0)))
 (.seq (.block 1 (.reg [⟨(some 22), .mv (.tmp 0), none⟩,
 ⟨(some 23), .bin .quo (.tmp 22) (.const (.int .i64 2)), none⟩,
 ⟨(some 24), .mv (.tmp 1), none⟩,
 ⟨(some 25), .bin .quo (.tmp 24) (.const (.int .i64 2)), none⟩,
 ⟨(some 0), .mv (.tmp 23), none⟩,
 ⟨(some 1), .mv (.tmp 25), none⟩]))
 (.reg [⟨(some 20), .mv (.tmp 5), none⟩,
 ⟨(some 21), .bin .add (.tmp 20) (.const (.int .i64 1)), none⟩,
 ⟨(some 5), .mv (.tmp 21), none⟩])))))
 (.seq (.reg [⟨(some 26), .mv (.tmp 5), none⟩,
 ⟨(some 4), .mv (.tmp 26), none⟩])
 (.ret)))))
theorem k21 : fnOk Try.prog 21 = some (M21, [.t 4], 27) := by kernel_rfl

theorem r_Count (w h : Int) (hK : K (.int .i64 (cntI w h)) H) : HCalls Try.prog w0 21 [.int .i64 w, .int .i64 h] H K := by
  by_cases hb : 1 ≤ w ∧ w ≤ 64 ∧ 1 ≤ h ∧ h ≤ 64
  · have hc : cntI w h = 1 + lg (if w < h then h else w) := by unfold cntI; rw [if_pos hb]
    have d1 : decide (sideP w) = true := by rw [decide_eq_true_eq]; unfold sideP; omega
    have d2 : decide (sideP h) = true := by rw [decide_eq_true_eq]; unfold sideP; omega
    rw [hc] at hK
    clear hc
    obtain ⟨m, em⟩ : ∃ m : Int, m = lg (if w < h then h else w) := ⟨_, rfl⟩
    rw [← em] at hK
    have hm := lg_le (s := if w < h then h else w)
    rw [← em] at hm
    refine HL.hc k21 999 ?_; unfold M21
    (all_goals (try simp only [Sq,Sr,Sh,Si,Sl,Bu,Bb,Bd,Bc,Bw,Bn,Int.reduceAdd,Int.reduceSub,Int.reduceMul,Int.reduceTDiv,Int.reduceTMod,Int.reduceMod,Int.reduceDiv,Nat.reduceLT,Nat.reduceEqDiff,Sa,Sb,Sc,Sd,Se,Sf,Sg,Int.reduceLE,Int.reduceLT,Int.reduceToNat,Int.reduceNeg,Int.reduceEq,Nat.reduceLeDiff,Nat.reducePow,Int.reducePow,reduceIte,Nat.reduceSub,Nat.reduceAdd,Nat.reduceMul,putAt,ceq,List.replicate, *])); repeat' ((first | (with_reducible refine fun _ : True => ?_) | refine r_side _ ?_ | refine r_side _ ?_ | (with_reducible refine any_h ?_) | ((first | refine AllocQ_i ?_ | refine AllocO_i ?_); intro bk hb0 hbk; try simp only [set_none'] at hbk) | ((first | refine condS_i ?_ ?_ | refine pick_i ?_ ?_ | refine gS_it ?_ ?_ | refine gS_if ?_ ?_ | refine gP_it ?_ ?_ | refine gP_if ?_ ?_) <;> (intro hc; try simp only [Int.reduceLE,Int.reduceLT,Int.reduceEq,Sn] at hc)) | (refine KP_i (by (repeat' (first | exact Heap.Le.refl _ | (refine Le_fresh (by first | exact (by simp only [*]) | exact (by simp [set_none', *])) ?_) | (refine Heap.Le.trans ?_ (Grow.le (by assumption)))))) ?_) | (with_reducible refine And.intro ?_ ?_)) <;> (try simp only [Sq,Sr,Sh,Si,Sl,Bu,Bb,Bd,Bc,Bw,Bn,Int.reduceAdd,Int.reduceSub,Int.reduceMul,Int.reduceTDiv,Int.reduceTMod,Int.reduceMod,Int.reduceDiv,Nat.reduceLT,Nat.reduceEqDiff,Sa,Sb,Sc,Sd,Se,Sf,Sg,Int.reduceLE,Int.reduceLT,Int.reduceToNat,Int.reduceNeg,Int.reduceEq,Nat.reduceLeDiff,Nat.reducePow,Int.reducePow,reduceIte,Nat.reduceSub,Nat.reduceAdd,Nat.reduceMul,putAt,ceq,List.replicate, *]))
    refine loop_g 14 (fun s : Int × Int × Int => [(0, .int .i64 s.2.1), (1, .int .i64 s.2.2), (5, .int .i64 s.1)]) (fun _ => H) (fun s => 0 ≤ s.2.1 ∧ s.2.1 ≤ 64 ∧ 0 ≤ s.2.2 ∧ s.2.2 ≤ 64 ∧ Keep (s.1 + lg (if s.2.1 < s.2.2 then s.2.2 else s.2.1) = 1 + m)) (fun s => (s.2.1 + s.2.2).toNat) (1, w, h) ⟨by simp only; omega, by simp only; omega, by simp only; omega, by simp only; omega, by rw [em]; rfl⟩ (Heap.Le.refl _) rfl ?_
    intro ⟨n, a, b⟩ f ⟨h0, h1, h2, h3, h4⟩
    simp only at h0 h1 h2 h3 h4
    have g2 := lg_le (s := if a < b then b else a)
    have h4' : n + lg (if a < b then b else a) = 1 + m := h4
    have e1 : IntKind.i64.wrap (n + 1) = n + 1 := Bw.1 _ (by omega) (by omega)
    have e2 : IntKind.i64.wrap (a.tdiv 2) = a / 2 := by rw [Int.tdiv_eq_ediv_of_nonneg h0]; exact Bw.1 _ (by omega) (by omega)
    have e3 : IntKind.i64.wrap (b.tdiv 2) = b / 2 := by rw [Int.tdiv_eq_ediv_of_nonneg h2]; exact Bw.1 _ (by omega) (by omega)
    have key1 : 1 < a ∨ 1 < b → Keep (n + 1 + lg (if a / 2 < b / 2 then b / 2 else a / 2) = 1 + m) := fun hx => by
      show n + 1 + lg (if a / 2 < b / 2 then b / 2 else a / 2) = 1 + m
      rw [lg_max hx ⟨h1, h3⟩]; omega
    have key2 : ¬ (1 < a ∨ 1 < b) → n = 1 + m := fun hx => by
      rw [lg_zero (by split <;> omega)] at h4'; omega
    clear d1 d2 em hb hm h4' g2
    (all_goals (try simp only [Sq,Sr,Sh,Si,Sl,Bu,Bb,Bd,Bc,Bw,Bn,Int.reduceAdd,Int.reduceSub,Int.reduceMul,Int.reduceTDiv,Int.reduceTMod,Int.reduceMod,Int.reduceDiv,Nat.reduceLT,Nat.reduceEqDiff,Sa,Sb,Sc,Sd,Se,Sf,Sg,Int.reduceLE,Int.reduceLT,Int.reduceToNat,Int.reduceNeg,Int.reduceEq,Nat.reduceLeDiff,Nat.reducePow,Int.reducePow,reduceIte,Nat.reduceSub,Nat.reduceAdd,Nat.reduceMul,putAt,ceq,List.replicate, *])); repeat' ((first | (with_reducible refine fun _ : True => ?_) | (with_reducible refine any_h ?_) | ((first | refine AllocQ_i ?_ | refine AllocO_i ?_); intro bk hb0 hbk; try simp only [set_none'] at hbk) | ((first | refine condS_i ?_ ?_ | refine pick_i ?_ ?_ | refine gS_it ?_ ?_ | refine gS_if ?_ ?_ | refine gP_it ?_ ?_ | refine gP_if ?_ ?_) <;> (intro hc; try simp only [Int.reduceLE,Int.reduceLT,Int.reduceEq,Sn] at hc)) | (refine KP_i (by (repeat' (first | exact Heap.Le.refl _ | (refine Le_fresh (by first | exact (by simp only [*]) | exact (by simp [set_none', *])) ?_) | (refine Heap.Le.trans ?_ (Grow.le (by assumption)))))) ?_) | (with_reducible refine And.intro ?_ ?_)) <;> (try simp only [Sq,Sr,Sh,Si,Sl,Bu,Bb,Bd,Bc,Bw,Bn,Int.reduceAdd,Int.reduceSub,Int.reduceMul,Int.reduceTDiv,Int.reduceTMod,Int.reduceMod,Int.reduceDiv,Nat.reduceLT,Nat.reduceEqDiff,Sa,Sb,Sc,Sd,Se,Sf,Sg,Int.reduceLE,Int.reduceLT,Int.reduceToNat,Int.reduceNeg,Int.reduceEq,Nat.reduceLeDiff,Nat.reducePow,Int.reducePow,reduceIte,Nat.reduceSub,Nat.reduceAdd,Nat.reduceMul,putAt,ceq,List.replicate, *]))
    all_goals first
      | exact Round_mk (n + 1, a / 2, b / 2) ⟨by simp only; omega, by simp only; omega, by simp only; omega, by simp only; omega, key1 (by omega)⟩ (by simp only; omega) (Heap.Le.refl _) rfl rfl
      | exact Fin_mk (Heap.Le.refl _) (K_int hK (key2 (by omega)))
  · have hc : cntI w h = 0 := by unfold cntI; rw [if_neg hb]
    rw [hc] at hK
    by_cases hw : 1 ≤ w ∧ w ≤ 64
    · have d1 : decide (sideP w) = true := by rw [decide_eq_true_eq]; unfold sideP; omega
      have d2 : decide (sideP h) = false := by rw [decide_eq_false_iff_not]; unfold sideP; omega
      clear hb hw hc
      refine HL.hc k21 999 ?_; unfold M21
      (all_goals (try simp only [Sq,Sr,Sh,Si,Sl,Bu,Bb,Bd,Bc,Bw,Bn,Int.reduceAdd,Int.reduceSub,Int.reduceMul,Int.reduceTDiv,Int.reduceTMod,Int.reduceMod,Int.reduceDiv,Nat.reduceLT,Nat.reduceEqDiff,Sa,Sb,Sc,Sd,Se,Sf,Sg,Int.reduceLE,Int.reduceLT,Int.reduceToNat,Int.reduceNeg,Int.reduceEq,Nat.reduceLeDiff,Nat.reducePow,Int.reducePow,reduceIte,Nat.reduceSub,Nat.reduceAdd,Nat.reduceMul,putAt,ceq,List.replicate, *])); repeat' ((first | (with_reducible refine fun _ : True => ?_) | refine r_side _ ?_ | refine r_side _ ?_ | (with_reducible refine any_h ?_) | ((first | refine AllocQ_i ?_ | refine AllocO_i ?_); intro bk hb0 hbk; try simp only [set_none'] at hbk) | ((first | refine condS_i ?_ ?_ | refine pick_i ?_ ?_ | refine gS_it ?_ ?_ | refine gS_if ?_ ?_ | refine gP_it ?_ ?_ | refine gP_if ?_ ?_) <;> (intro hc; try simp only [Int.reduceLE,Int.reduceLT,Int.reduceEq,Sn] at hc)) | (refine KP_i (by (repeat' (first | exact Heap.Le.refl _ | (refine Le_fresh (by first | exact (by simp only [*]) | exact (by simp [set_none', *])) ?_) | (refine Heap.Le.trans ?_ (Grow.le (by assumption)))))) ?_) | (with_reducible refine And.intro ?_ ?_)) <;> (try simp only [Sq,Sr,Sh,Si,Sl,Bu,Bb,Bd,Bc,Bw,Bn,Int.reduceAdd,Int.reduceSub,Int.reduceMul,Int.reduceTDiv,Int.reduceTMod,Int.reduceMod,Int.reduceDiv,Nat.reduceLT,Nat.reduceEqDiff,Sa,Sb,Sc,Sd,Se,Sf,Sg,Int.reduceLE,Int.reduceLT,Int.reduceToNat,Int.reduceNeg,Int.reduceEq,Nat.reduceLeDiff,Nat.reducePow,Int.reducePow,reduceIte,Nat.reduceSub,Nat.reduceAdd,Nat.reduceMul,putAt,ceq,List.replicate, *]))
      exact Fin_mk (Heap.Le.refl _) hK
    · have d1 : decide (sideP w) = false := by rw [decide_eq_false_iff_not]; unfold sideP; omega
      clear hb hw hc
      refine HL.hc k21 999 ?_; unfold M21
      (all_goals (try simp only [Sq,Sr,Sh,Si,Sl,Bu,Bb,Bd,Bc,Bw,Bn,Int.reduceAdd,Int.reduceSub,Int.reduceMul,Int.reduceTDiv,Int.reduceTMod,Int.reduceMod,Int.reduceDiv,Nat.reduceLT,Nat.reduceEqDiff,Sa,Sb,Sc,Sd,Se,Sf,Sg,Int.reduceLE,Int.reduceLT,Int.reduceToNat,Int.reduceNeg,Int.reduceEq,Nat.reduceLeDiff,Nat.reducePow,Int.reducePow,reduceIte,Nat.reduceSub,Nat.reduceAdd,Nat.reduceMul,putAt,ceq,List.replicate, *])); repeat' ((first | (with_reducible refine fun _ : True => ?_) | refine r_side _ ?_ | refine r_side _ ?_ | (with_reducible refine any_h ?_) | ((first | refine AllocQ_i ?_ | refine AllocO_i ?_); intro bk hb0 hbk; try simp only [set_none'] at hbk) | ((first | refine condS_i ?_ ?_ | refine pick_i ?_ ?_ | refine gS_it ?_ ?_ | refine gS_if ?_ ?_ | refine gP_it ?_ ?_ | refine gP_if ?_ ?_) <;> (intro hc; try simp only [Int.reduceLE,Int.reduceLT,Int.reduceEq,Sn] at hc)) | (refine KP_i (by (repeat' (first | exact Heap.Le.refl _ | (refine Le_fresh (by first | exact (by simp only [*]) | exact (by simp [set_none', *])) ?_) | (refine Heap.Le.trans ?_ (Grow.le (by assumption)))))) ?_) | (with_reducible refine And.intro ?_ ?_)) <;> (try simp only [Sq,Sr,Sh,Si,Sl,Bu,Bb,Bd,Bc,Bw,Bn,Int.reduceAdd,Int.reduceSub,Int.reduceMul,Int.reduceTDiv,Int.reduceTMod,Int.reduceMod,Int.reduceDiv,Nat.reduceLT,Nat.reduceEqDiff,Sa,Sb,Sc,Sd,Se,Sf,Sg,Int.reduceLE,Int.reduceLT,Int.reduceToNat,Int.reduceNeg,Int.reduceEq,Nat.reduceLeDiff,Nat.reducePow,Int.reducePow,reduceIte,Nat.reduceSub,Nat.reduceAdd,Nat.reduceMul,putAt,ceq,List.replicate, *]))
      exact Fin_mk (Heap.Le.refl _) hK
end Go.Proofs.Ytdaipgnhconfnaa
