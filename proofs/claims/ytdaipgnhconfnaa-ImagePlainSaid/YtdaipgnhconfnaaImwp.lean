/- Powers of two, by both (layer 8). -/
import Derived.Test.YtdaipgnhconfnaaImc
import Derived.Test.YtdaipgnhconfnaaPd
import Derived.Test.YtdaipgnhconfnaaHlt
set_option linter.unusedSimpArgs false
set_option linter.unusedVariables false
set_option maxRecDepth 100000
set_option maxHeartbeats 4000000
namespace Go.Proofs.Ytdaipgnhconfnaa
open Go.HL Go.RowKit Pb
variable {w0 : World} {H : Heap} {K : Value → Heap → Prop}

def powP (n : Int) : Prop := n = 1 ∨ n = 2 ∨ n = 4 ∨ n = 8 ∨ n = 16 ∨ n = 32 ∨ n = 64
theorem pow_tab : ∀ n : Nat, n < 65 → 1 ≤ n → ((bitsI .and .i64 n ((n : Int) - 1) = 0) ↔ (n = 1 ∨ n = 2 ∨ n = 4 ∨ n = 8 ∨ n = 16 ∨ n = 32 ∨ n = 64)) := by decide
/- image power -/
def M40 : MC :=
  .seq (.reg [⟨(some 2), .mv (.const (.bool false)), none⟩])
 (.seq (.reg [⟨(some 3), .mv (.tmp 0), none⟩,
 ⟨(some 4), .bin .gtr (.tmp 3) (.const (.int .i64 0)), none⟩,
 ⟨(some 5), .mv (.tmp 4), none⟩,
 ⟨(some 6), .mv (.tmp 0), (some (5, true))⟩,
 ⟨(some 7), .mv (.tmp 0), (some (5, true))⟩,
 ⟨(some 8), .bin .sub (.tmp 7) (.const (.int .i64 1)), (some (5, true))⟩,
 ⟨(some 9), .bin .and (.tmp 6) (.tmp 8), (some (5, true))⟩,
 ⟨(some 10), .bin .eql (.tmp 9) (.const (.int .i64 0)), (some (5, true))⟩,
 ⟨(some 11), .pick (.tmp 5) (.tmp 10) (.const (.bool false)), none⟩,
 ⟨(some 2), .mv (.tmp 11), none⟩])
 (.ret))
theorem k40 : fnOk Try.prog 40 = some (M40, [.t 2], 12) := by kernel_rfl

theorem c_power (n : Int) (hn : 1 ≤ n ∧ n ≤ 64) (h1 : powP n → K (.bool true) H) (h2 : ¬ powP n → K (.bool false) H) : HCalls Try.prog w0 40 [.int .i64 n] H K := by
  obtain ⟨m, rfl⟩ := Int.eq_ofNat_of_zero_le (show 0 ≤ n by omega)
  have ht := pow_tab m (by omega) (by omega)
  have e0 : 0 < (m : Int) := by omega
  have e1 : IntKind.i64.wrap ((m : Int) - 1) = (m : Int) - 1 := Bw.1 _ (by omega) (by omega)
  by_cases hp : powP m
  · have h1 := h1 hp
    have e2 : bitsI .and .i64 m ((m : Int) - 1) = 0 := ht.2 (by unfold powP at hp; omega)
    clear ht hp h2 hn
    refine HL.hc k40 999 ?_; unfold M40
    (all_goals (try simp only [Sq,Sr,Sh,Si,Sl,Bu,Bb,Bd,Bc,Bw,Bn,Int.reduceAdd,Int.reduceSub,Int.reduceMul,Int.reduceTDiv,Int.reduceTMod,Int.reduceMod,Int.reduceDiv,Nat.reduceLT,Nat.reduceEqDiff,Sa,Sb,Sc,Sd,Se,Sf,Sg,Int.reduceLE,Int.reduceLT,Int.reduceToNat,Int.reduceNeg,Int.reduceEq,Nat.reduceLeDiff,Nat.reducePow,Int.reducePow,reduceIte,Nat.reduceSub,Nat.reduceAdd,Nat.reduceMul,putAt,ceq,List.replicate, *])); repeat' ((first | (with_reducible refine fun _ : True => ?_) | (with_reducible refine any_h ?_) | ((first | refine AllocQ_i ?_ | refine AllocO_i ?_); intro bk hb0 hbk; try simp only [set_none'] at hbk) | ((first | refine condS_i ?_ ?_ | refine pick_i ?_ ?_ | refine gS_it ?_ ?_ | refine gS_if ?_ ?_ | refine gP_it ?_ ?_ | refine gP_if ?_ ?_) <;> (intro hc; try simp only [Int.reduceLE,Int.reduceLT,Int.reduceEq,Sn] at hc)) | (refine KP_i (by (repeat' (first | exact Heap.Le.refl _ | (refine Le_fresh (by first | exact (by simp only [*]) | exact (by simp [set_none', *])) ?_) | (refine Heap.Le.trans ?_ (Grow.le (by assumption)))))) ?_) | (with_reducible refine And.intro ?_ ?_)) <;> (try simp only [Sq,Sr,Sh,Si,Sl,Bu,Bb,Bd,Bc,Bw,Bn,Int.reduceAdd,Int.reduceSub,Int.reduceMul,Int.reduceTDiv,Int.reduceTMod,Int.reduceMod,Int.reduceDiv,Nat.reduceLT,Nat.reduceEqDiff,Sa,Sb,Sc,Sd,Se,Sf,Sg,Int.reduceLE,Int.reduceLT,Int.reduceToNat,Int.reduceNeg,Int.reduceEq,Nat.reduceLeDiff,Nat.reducePow,Int.reducePow,reduceIte,Nat.reduceSub,Nat.reduceAdd,Nat.reduceMul,putAt,ceq,List.replicate, *]))
    exact Fin_mk (Heap.Le.refl _) h1
  · have h2 := h2 hp
    have e2 : ¬ bitsI .and .i64 m ((m : Int) - 1) = 0 := fun e => hp (by have := ht.1 e; unfold powP; omega)
    clear ht hp h1 hn
    refine HL.hc k40 999 ?_; unfold M40
    (all_goals (try simp only [Sq,Sr,Sh,Si,Sl,Bu,Bb,Bd,Bc,Bw,Bn,Int.reduceAdd,Int.reduceSub,Int.reduceMul,Int.reduceTDiv,Int.reduceTMod,Int.reduceMod,Int.reduceDiv,Nat.reduceLT,Nat.reduceEqDiff,Sa,Sb,Sc,Sd,Se,Sf,Sg,Int.reduceLE,Int.reduceLT,Int.reduceToNat,Int.reduceNeg,Int.reduceEq,Nat.reduceLeDiff,Nat.reducePow,Int.reducePow,reduceIte,Nat.reduceSub,Nat.reduceAdd,Nat.reduceMul,putAt,ceq,List.replicate, *])); repeat' ((first | (with_reducible refine fun _ : True => ?_) | (with_reducible refine any_h ?_) | ((first | refine AllocQ_i ?_ | refine AllocO_i ?_); intro bk hb0 hbk; try simp only [set_none'] at hbk) | ((first | refine condS_i ?_ ?_ | refine pick_i ?_ ?_ | refine gS_it ?_ ?_ | refine gS_if ?_ ?_ | refine gP_it ?_ ?_ | refine gP_if ?_ ?_) <;> (intro hc; try simp only [Int.reduceLE,Int.reduceLT,Int.reduceEq,Sn] at hc)) | (refine KP_i (by (repeat' (first | exact Heap.Le.refl _ | (refine Le_fresh (by first | exact (by simp only [*]) | exact (by simp [set_none', *])) ?_) | (refine Heap.Le.trans ?_ (Grow.le (by assumption)))))) ?_) | (with_reducible refine And.intro ?_ ?_)) <;> (try simp only [Sq,Sr,Sh,Si,Sl,Bu,Bb,Bd,Bc,Bw,Bn,Int.reduceAdd,Int.reduceSub,Int.reduceMul,Int.reduceTDiv,Int.reduceTMod,Int.reduceMod,Int.reduceDiv,Nat.reduceLT,Nat.reduceEqDiff,Sa,Sb,Sc,Sd,Se,Sf,Sg,Int.reduceLE,Int.reduceLT,Int.reduceToNat,Int.reduceNeg,Int.reduceEq,Nat.reduceLeDiff,Nat.reducePow,Int.reducePow,reduceIte,Nat.reduceSub,Nat.reduceAdd,Nat.reduceMul,putAt,ceq,List.replicate, *]))
    exact Fin_mk (Heap.Le.refl _) h2
/- paintboxref08 power -/
def M44 : MC :=
  .seq (.reg [⟨(some 2), .mv (.const (.bool false)), none⟩])
 (.seq (.block 0 (.loop (.seq (.seq (.reg [⟨(some 3), .mv (.tmp 0), none⟩,
 ⟨(some 4), .bin .gtr (.tmp 3) (.const (.int .i64 1)), none⟩,
 ⟨(some 5), .mv (.tmp 4), none⟩,
 ⟨(some 6), .mv (.tmp 0), (some (5, true))⟩,
 ⟨(some 7), .bin .rem (.tmp 6) (.const (.int .i64 2)), (some (5, true))⟩,
 ⟨(some 8), .bin .eql (.tmp 7) (.const (.int .i64 0)), (some (5, true))⟩,
 ⟨(some 9), .pick (.tmp 5) (.tmp 8) (.const (.bool false)), none⟩])
 (.cond (.tmp 9)
 (.skip)
 (.exit 0)))
 (.block 1 (.reg [⟨(some 10), .mv (.tmp 0), none⟩,
 ⟨(some 11), .bin .quo (.tmp 10) (.const (.int .i64 2)), none⟩,
 ⟨(some 0), .mv (.tmp 11), none⟩])))))
 (.seq (.reg [⟨(some 12), .mv (.tmp 0), none⟩,
 ⟨(some 13), .bin .eql (.tmp 12) (.const (.int .i64 1)), none⟩,
 ⟨(some 2), .mv (.tmp 13), none⟩])
 (.ret)))
theorem k44 : fnOk Try.prog 44 = some (M44, [.t 2], 14) := by kernel_rfl

theorem r_power (n : Int) (hn : 1 ≤ n ∧ n ≤ 64) (h1 : powP n → K (.bool true) H) (h2 : ¬ powP n → K (.bool false) H) : HCalls Try.prog w0 44 [.int .i64 n] H K := by
  refine HL.hc k44 999 ?_; unfold M44
  (all_goals (try simp only [Sq,Sr,Sh,Si,Sl,Bu,Bb,Bd,Bc,Bw,Bn,Int.reduceAdd,Int.reduceSub,Int.reduceMul,Int.reduceTDiv,Int.reduceTMod,Int.reduceMod,Int.reduceDiv,Nat.reduceLT,Nat.reduceEqDiff,Sa,Sb,Sc,Sd,Se,Sf,Sg,Int.reduceLE,Int.reduceLT,Int.reduceToNat,Int.reduceNeg,Int.reduceEq,Nat.reduceLeDiff,Nat.reducePow,Int.reducePow,reduceIte,Nat.reduceSub,Nat.reduceAdd,Nat.reduceMul,putAt,ceq,List.replicate, *])); repeat' ((first | (with_reducible refine fun _ : True => ?_) | (with_reducible refine any_h ?_) | ((first | refine AllocQ_i ?_ | refine AllocO_i ?_); intro bk hb0 hbk; try simp only [set_none'] at hbk) | ((first | refine condS_i ?_ ?_ | refine pick_i ?_ ?_ | refine gS_it ?_ ?_ | refine gS_if ?_ ?_ | refine gP_it ?_ ?_ | refine gP_if ?_ ?_) <;> (intro hc; try simp only [Int.reduceLE,Int.reduceLT,Int.reduceEq,Sn] at hc)) | (refine KP_i (by (repeat' (first | exact Heap.Le.refl _ | (refine Le_fresh (by first | exact (by simp only [*]) | exact (by simp [set_none', *])) ?_) | (refine Heap.Le.trans ?_ (Grow.le (by assumption)))))) ?_) | (with_reducible refine And.intro ?_ ?_)) <;> (try simp only [Sq,Sr,Sh,Si,Sl,Bu,Bb,Bd,Bc,Bw,Bn,Int.reduceAdd,Int.reduceSub,Int.reduceMul,Int.reduceTDiv,Int.reduceTMod,Int.reduceMod,Int.reduceDiv,Nat.reduceLT,Nat.reduceEqDiff,Sa,Sb,Sc,Sd,Se,Sf,Sg,Int.reduceLE,Int.reduceLT,Int.reduceToNat,Int.reduceNeg,Int.reduceEq,Nat.reduceLeDiff,Nat.reducePow,Int.reducePow,reduceIte,Nat.reduceSub,Nat.reduceAdd,Nat.reduceMul,putAt,ceq,List.replicate, *]))
  refine loop_g 2 (fun s : Int => [(0, .int .i64 s)]) (fun _ => H) (fun s => (1 ≤ s ∧ s ≤ 64) ∧ Keep (powP s ↔ powP n)) (fun s => s.toNat) n ⟨hn, Iff.rfl⟩ (Heap.Le.refl _) rfl ?_
  intro s f ⟨hs, hk⟩
  have e1 : IntKind.i64.wrap (s.tdiv 2) = s / 2 := by rw [Int.tdiv_eq_ediv_of_nonneg (by omega)]; exact Bw.1 _ (by omega) (by omega)
  have e2 : s.tmod 2 = s % 2 := Int.tmod_eq_emod_of_nonneg (by omega)
  have k1 : 1 < s → s % 2 = 0 → Keep (powP (s / 2) ↔ powP n) := fun a b => (Iff.trans (by unfold powP; omega) hk : powP (s / 2) ↔ powP n)
  have k2 : ¬ (1 < s ∧ s % 2 = 0) → s = 1 → powP n := fun a b => (show powP s ↔ powP n from hk).1 (by unfold powP; omega)
  have k3 : ¬ (1 < s ∧ s % 2 = 0) → ¬ s = 1 → ¬ powP n := fun a b c => absurd ((show powP s ↔ powP n from hk).2 c) (by unfold powP; omega)
  have key : ¬ (1 < s ∧ s % 2 = 0) → K (.bool (decide (s = 1))) H := fun a => by
    by_cases b : s = 1
    · rw [decide_eq_true b]; exact h1 (k2 a b)
    · rw [decide_eq_false b]; exact h2 (k3 a b)
  clear k2 k3 h1 h2 hk
  (all_goals (try simp only [Sq,Sr,Sh,Si,Sl,Bu,Bb,Bd,Bc,Bw,Bn,Int.reduceAdd,Int.reduceSub,Int.reduceMul,Int.reduceTDiv,Int.reduceTMod,Int.reduceMod,Int.reduceDiv,Nat.reduceLT,Nat.reduceEqDiff,Sa,Sb,Sc,Sd,Se,Sf,Sg,Int.reduceLE,Int.reduceLT,Int.reduceToNat,Int.reduceNeg,Int.reduceEq,Nat.reduceLeDiff,Nat.reducePow,Int.reducePow,reduceIte,Nat.reduceSub,Nat.reduceAdd,Nat.reduceMul,putAt,ceq,List.replicate, *])); repeat' ((first | (with_reducible refine fun _ : True => ?_) | (with_reducible refine any_h ?_) | ((first | refine AllocQ_i ?_ | refine AllocO_i ?_); intro bk hb0 hbk; try simp only [set_none'] at hbk) | ((first | refine condS_i ?_ ?_ | refine pick_i ?_ ?_ | refine gS_it ?_ ?_ | refine gS_if ?_ ?_ | refine gP_it ?_ ?_ | refine gP_if ?_ ?_) <;> (intro hc; try simp only [Int.reduceLE,Int.reduceLT,Int.reduceEq,Sn] at hc)) | (refine KP_i (by (repeat' (first | exact Heap.Le.refl _ | (refine Le_fresh (by first | exact (by simp only [*]) | exact (by simp [set_none', *])) ?_) | (refine Heap.Le.trans ?_ (Grow.le (by assumption)))))) ?_) | (with_reducible refine And.intro ?_ ?_)) <;> (try simp only [Sq,Sr,Sh,Si,Sl,Bu,Bb,Bd,Bc,Bw,Bn,Int.reduceAdd,Int.reduceSub,Int.reduceMul,Int.reduceTDiv,Int.reduceTMod,Int.reduceMod,Int.reduceDiv,Nat.reduceLT,Nat.reduceEqDiff,Sa,Sb,Sc,Sd,Se,Sf,Sg,Int.reduceLE,Int.reduceLT,Int.reduceToNat,Int.reduceNeg,Int.reduceEq,Nat.reduceLeDiff,Nat.reducePow,Int.reducePow,reduceIte,Nat.reduceSub,Nat.reduceAdd,Nat.reduceMul,putAt,ceq,List.replicate, *]))
  all_goals first
    | exact Round_mk (s / 2) ⟨by omega, k1 (by omega) (by omega)⟩ (by omega) (Heap.Le.refl _) rfl rfl
    | exact Fin_mk (Heap.Le.refl _) (key (by omega))
end Go.Proofs.Ytdaipgnhconfnaa
