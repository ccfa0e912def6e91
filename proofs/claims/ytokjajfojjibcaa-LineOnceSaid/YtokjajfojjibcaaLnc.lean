/- The nearest number between two, by the program (layer 23). -/
import Derived.Test.YtokjajfojjibcaaLnb
set_option linter.unusedSimpArgs false
set_option linter.unusedVariables false
set_option maxRecDepth 100000
set_option maxHeartbeats 8000000
namespace Go.Proofs.Ytokjajfojjibcaa
open Go.HL Go.RowKit Pb
variable {w0 : World} {H : Heap} {K : Value → Heap → Prop}

/- line nearest -/
def M37 : MC :=
  .seq (.reg [⟨(some 8), .mv (.const (.int .i64 0)), none⟩])
  (.seq (.reg [⟨(some 16), .mv (.tmp 1), none⟩,
      ⟨(some 17), .mv (.tmp 0), none⟩,
      ⟨(some 18), .bin .lss (.tmp 16) (.tmp 17), none⟩,
      ⟨(some 9), .mv (.tmp 18), none⟩])
   (.seq (.reg [⟨(some 19), .mv (.tmp 1), none⟩,
       ⟨(some 20), .mv (.tmp 0), none⟩,
       ⟨(some 21), .bin .sub (.tmp 19) (.tmp 20), none⟩,
       ⟨(some 22), .conv .u64 (.tmp 21), none⟩,
       ⟨(some 10), .mv (.tmp 22), none⟩])
    (.seq (.seq (.reg [⟨(some 23), .mv (.tmp 9), none⟩])
      (.cond (.tmp 23)
       (.reg [⟨(some 24), .mv (.tmp 0), none⟩,
          ⟨(some 25), .mv (.tmp 1), none⟩,
          ⟨(some 26), .bin .sub (.tmp 24) (.tmp 25), none⟩,
          ⟨(some 27), .conv .u64 (.tmp 26), none⟩,
          ⟨(some 10), .mv (.tmp 27), none⟩])
       (.skip)))
     (.seq (.reg [⟨(some 29), .mv (.tmp 2), none⟩,
         ⟨(some 30), .mv (.tmp 10), none⟩,
         ⟨(some 31), .call 44 [(.tmp 29), (.tmp 30)], none⟩,
         ⟨(some 28), .mv (.tmp 31), none⟩,
         ⟨(some 32), .ext 0 (.tmp 28), none⟩,
         ⟨(some 33), .ext 1 (.tmp 28), none⟩,
         ⟨(some 11), .mv (.tmp 32), none⟩,
         ⟨(some 12), .mv (.tmp 33), none⟩])
      (.seq (.reg [⟨(some 35), .mv (.tmp 11), none⟩,
          ⟨(some 36), .mv (.tmp 12), none⟩,
          ⟨(some 37), .mv (.tmp 3), none⟩,
          ⟨(some 38), .call 45 [(.tmp 35), (.tmp 36), (.tmp 37)], none⟩,
          ⟨(some 34), .mv (.tmp 38), none⟩,
          ⟨(some 39), .ext 0 (.tmp 34), none⟩,
          ⟨(some 40), .ext 1 (.tmp 34), none⟩,
          ⟨(some 13), .mv (.tmp 39), none⟩,
          ⟨(some 14), .mv (.tmp 40), none⟩])
       (.seq (.reg [⟨(some 41), .mv (.tmp 0), none⟩,
           ⟨(some 42), .mv (.tmp 13), none⟩,
           ⟨(some 43), .conv .i64 (.tmp 42), none⟩,
           ⟨(some 44), .bin .add (.tmp 41) (.tmp 43), none⟩,
           ⟨(some 15), .mv (.tmp 44), none⟩])
        (.seq (.seq (.reg [⟨(some 45), .mv (.tmp 9), none⟩])
          (.cond (.tmp 45)
           (.seq (.reg [⟨(some 46), .mv (.tmp 0), none⟩,
               ⟨(some 47), .mv (.tmp 13), none⟩,
               ⟨(some 48), .conv .i64 (.tmp 47), none⟩,
               ⟨(some 49), .bin .sub (.tmp 46) (.tmp 48), none⟩,
               ⟨(some 15), .mv (.tmp 49), none⟩])
            (.seq (.reg [⟨(some 50), .mv (.tmp 14), none⟩,
                ⟨(some 51), .bin .gtr (.tmp 50) (.const (.int .u64 0)), none⟩])
             (.cond (.tmp 51)
              (.reg [⟨(some 52), .mv (.tmp 15), none⟩,
                 ⟨(some 53), .bin .sub (.tmp 52) (.const (.int .i64 1)), none⟩,
                 ⟨(some 54), .mv (.tmp 3), none⟩,
                 ⟨(some 55), .mv (.tmp 14), none⟩,
                 ⟨(some 56), .bin .sub (.tmp 54) (.tmp 55), none⟩,
                 ⟨(some 15), .mv (.tmp 53), none⟩,
                 ⟨(some 14), .mv (.tmp 56), none⟩])
              (.skip))))
           (.skip)))
         (.seq (.seq (.reg [⟨(some 57), .mv (.tmp 14), none⟩,
              ⟨(some 58), .mv (.tmp 3), none⟩,
              ⟨(some 59), .mv (.tmp 14), none⟩,
              ⟨(some 60), .bin .sub (.tmp 58) (.tmp 59), none⟩,
              ⟨(some 61), .bin .gtr (.tmp 57) (.tmp 60), none⟩,
              ⟨(some 62), .mv (.tmp 61), none⟩,
              ⟨(some 63), .mv (.tmp 14), (some (62, false))⟩,
              ⟨(some 64), .mv (.tmp 3), (some (62, false))⟩,
              ⟨(some 65), .mv (.tmp 14), (some (62, false))⟩,
              ⟨(some 66), .bin .sub (.tmp 64) (.tmp 65), (some (62, false))⟩,
              ⟨(some 67), .bin .eql (.tmp 63) (.tmp 66), (some (62, false))⟩,
              ⟨(some 68), .mv (.tmp 67), (some (62, false))⟩,
              ⟨(some 69), .mv (.tmp 15), (some (68, true))⟩,
              ⟨(some 70), .bin .geq (.tmp 69) (.const (.int .i64 0)), (some (68, true))⟩,
              ⟨(some 71), .pick (.tmp 68) (.tmp 70) (.const (.bool false)), (some (62, false))⟩,
              ⟨(some 72), .pick (.tmp 62) (.const (.bool true)) (.tmp 71), none⟩])
           (.cond (.tmp 72)
            (.reg [⟨(some 73), .mv (.tmp 15), none⟩,
               ⟨(some 74), .bin .add (.tmp 73) (.const (.int .i64 1)), none⟩,
               ⟨(some 15), .mv (.tmp 74), none⟩])
            (.skip)))
          (.seq (.reg [⟨(some 75), .mv (.tmp 15), none⟩,
              ⟨(some 8), .mv (.tmp 75), none⟩])
           (.ret))))))))))
theorem k37 : fnOk Try.prog 37 = some (M37, [.t 8], 76) := by kernel_rfl

theorem c_nearest (v1 v2 q d : Int) (h1 : I32 v1) (h2 : I32 v2) (hq : 0 ≤ q ∧ q ≤ d) (hd : 0 < d ∧ d ≤ 9223372036854775807) (h : K (.int .i64 (nearI v1 v2 q d)) H) : HCalls Try.prog w0 37 [.int .i64 v1, .int .i64 v2, .int .u64 q, .int .u64 d] H K := by
  have key : ∀ (G : Heap) (y : Int), Heap.Le H G → y = nearI v1 v2 q d → HL.Fin K (.int .i64 y) G := fun G y g e => by subst e; exact Fin_mk g h
  clear h
  unfold I32 at h1 h2
  obtain ⟨m, em⟩ : ∃ m, (if v2 < v1 then v1 - v2 else v2 - v1) = m := ⟨_, rfl⟩
  have hm : 0 ≤ m ∧ m ≤ 4294967295 := by split at em <;> omega
  have hqm0 : 0 ≤ q * m := Int.mul_nonneg hq.1 hm.1
  have hqm1 : q * m ≤ d * 4294967295 := Int.mul_le_mul hq.2 hm.2 hm.1 (by omega)
  have hqm2 : q * m ≤ d * m := Int.mul_le_mul_of_nonneg_right hq.2 hm.1
  obtain ⟨X, eX⟩ : ∃ X, q * m = X := ⟨_, rfl⟩
  have cM : ∀ (G : Heap) (K : Value → Heap → Prop), K (.tuple #[.int .u64 (X / 18446744073709551616), .int .u64 (X % 18446744073709551616)]) G → HCalls Try.prog w0 44 [.int .u64 q, .int .u64 m] G K := fun G K hk => c_Mul64 q m (by omega) (by omega) (by rw [eX]; exact hk)
  rw [eX] at hqm0 hqm1 hqm2
  have cD : ∀ (G : Heap) (K : Value → Heap → Prop), K (.tuple #[.int .u64 (X / d), .int .u64 (X % d)]) G → HCalls Try.prog w0 45 [.int .u64 (X / 18446744073709551616), .int .u64 (X % 18446744073709551616), .int .u64 d] G K := fun G K hk => c_Div64 _ _ d (by omega) (by omega) (by omega) (by rw [show X / 18446744073709551616 * 18446744073709551616 + X % 18446744073709551616 = X by omega]; exact hk)
  have e1 := Int.mul_ediv_add_emod X d
  have e2 := Int.emod_nonneg X (show d ≠ 0 by omega)
  have e3 := Int.emod_lt_of_pos X hd.1
  have e0 : 0 ≤ X / d := Int.ediv_nonneg hqm0 (by omega)
  have e4 : X / d ≤ m := by
    have := Int.ediv_le_ediv hd.1 hqm2
    rwa [Int.mul_ediv_cancel_left _ (by omega)] at this
  rw [Int.mul_comm d] at e1
  generalize X / d = n at *
  generalize X % d = r at *
  have w1 : IntKind.i64.wrap n = n := Bw.1 _ (by omega) (by omega)
  have w2 : IntKind.i64.wrap (v1 + n) = v1 + n := Bw.1 _ (by omega) (by omega)
  have w3 : IntKind.i64.wrap (v1 - n) = v1 - n := Bw.1 _ (by omega) (by omega)
  have w4 : IntKind.u64.wrap (d - r) = d - r := Bu.1 _ (by omega) (by omega)
  have w5 : IntKind.i64.wrap (v1 - n - 1) = v1 - n - 1 := Bw.1 _ (by omega) (by omega)
  have w6 : IntKind.i64.wrap (v1 + n + 1) = v1 + n + 1 := Bw.1 _ (by omega) (by omega)
  have w7 : IntKind.i64.wrap (v1 - n + 1) = v1 - n + 1 := Bw.1 _ (by omega) (by omega)
  have w8 : IntKind.i64.wrap (v1 - n - 1 + 1) = v1 - n := by rw [show v1 - n - 1 + 1 = v1 - n by omega]; exact w3
  have w9 : IntKind.i64.wrap (v2 - v1) = v2 - v1 := Bw.1 _ (by omega) (by omega)
  have w10 : IntKind.i64.wrap (v1 - v2) = v1 - v2 := Bw.1 _ (by omega) (by omega)
  have hmq : m * q = n * d + r := by rw [Int.mul_comm, eX]; omega
  have w13 : IntKind.u64.wrap r = r := Bu.1 _ (by omega) (by omega)
  have nr : ¬ r < r := by omega
  replace cM : Keep _ := cM
  replace cD : Keep _ := cD
  by_cases hv : v2 < v1
  · rw [if_pos hv] at em
    have w11 : IntKind.u64.wrap (v1 - v2) = m := by rw [Bu.1 _ (by omega) (by omega)]; exact em
    have ev : v2 = v1 - m := by omega
    by_cases hr : 0 < r
    · have hk := near_dn (v1 := v1) hmq hr e3
      have w12 : IntKind.u64.wrap (d - (d - r)) = r := by rw [Bu.1 _ (by omega) (by omega)]; omega
      rw [← ev] at hk
      rw [hk] at key
      clear hk hmq ev em eX e1 hqm0 hqm1 hqm2
      replace key : Keep _ := key
      rcases (by omega : (d - r < r ∧ ¬ r < d - r ∧ ¬ d - r = r) ∨ d - r = r ∨ (r < d - r ∧ ¬ d - r < r ∧ ¬ d - r = r)) with ⟨k1, k2, k3⟩ | k1 | ⟨k1, k2, k3⟩
      all_goals (refine HL.hc k37 999 ?_; unfold M37)
      all_goals ((all_goals (try simp only [Sq,Sr,Sh,Si,Sl,Bu,Bb,Bd,Bc,Bw,Bn,Int.reduceAdd,Int.reduceSub,Int.reduceMul,Int.reduceTDiv,Int.reduceTMod,Int.reduceMod,Int.reduceDiv,Nat.reduceLT,Nat.reduceEqDiff,Sa,Sb,Sc,Sd,Se,Sf,Sg,Int.reduceLE,Int.reduceLT,Int.reduceToNat,Int.reduceNeg,Int.reduceEq,Nat.reduceLeDiff,Nat.reducePow,Int.reducePow,reduceIte,Nat.reduceSub,Nat.reduceAdd,Nat.reduceMul,putAt,ceq,List.replicate, *])); repeat' ((first | (with_reducible refine fun _ : True => ?_) | refine cM _ _ ?_ | refine cD _ _ ?_ | (with_reducible refine any_h ?_) | ((first | refine AllocQ_i ?_ | refine AllocO_i ?_); intro bk hb0 hbk; try simp only [set_none'] at hbk) | ((first | refine condS_i ?_ ?_ | refine pick_i ?_ ?_ | refine gS_it ?_ ?_ | refine gS_if ?_ ?_ | refine gP_it ?_ ?_ | refine gP_if ?_ ?_) <;> (intro hc; try simp only [Int.reduceLE,Int.reduceLT,Int.reduceEq,Sn] at hc)) | (with_reducible refine KP_i ?_ ?_; · (repeat' (first | exact Heap.Le.refl _ | (refine Le_fresh (by first | exact (by simp only [*]) | exact (by simp [set_none', *])) ?_) | (refine Heap.Le.trans ?_ (Grow.le (by assumption)))))) | (with_reducible refine And.intro ?_ ?_)) <;> (try simp only [Sq,Sr,Sh,Si,Sl,Bu,Bb,Bd,Bc,Bw,Bn,Int.reduceAdd,Int.reduceSub,Int.reduceMul,Int.reduceTDiv,Int.reduceTMod,Int.reduceMod,Int.reduceDiv,Nat.reduceLT,Nat.reduceEqDiff,Sa,Sb,Sc,Sd,Se,Sf,Sg,Int.reduceLE,Int.reduceLT,Int.reduceToNat,Int.reduceNeg,Int.reduceEq,Nat.reduceLeDiff,Nat.reducePow,Int.reducePow,reduceIte,Nat.reduceSub,Nat.reduceAdd,Nat.reduceMul,putAt,ceq,List.replicate, *])))
      all_goals (refine key _ _ (Heap.Le.refl _) ?_; split <;> omega)
    · have hr0 : r = 0 := by omega
      subst hr0
      have hk := near_dn0 (v1 := v1) (show m * q = n * d by omega) hd.1
      rw [← ev] at hk
      rw [hk] at key
      clear hk hmq ev em eX e1 hqm0 hqm1 hqm2
      replace key : Keep _ := key
      have k1 : ¬ d - 0 < 0 := by omega
      have k2 : ¬ 0 = d - 0 := by omega
      refine HL.hc k37 999 ?_; unfold M37
      (all_goals (try simp only [Sq,Sr,Sh,Si,Sl,Bu,Bb,Bd,Bc,Bw,Bn,Int.reduceAdd,Int.reduceSub,Int.reduceMul,Int.reduceTDiv,Int.reduceTMod,Int.reduceMod,Int.reduceDiv,Nat.reduceLT,Nat.reduceEqDiff,Sa,Sb,Sc,Sd,Se,Sf,Sg,Int.reduceLE,Int.reduceLT,Int.reduceToNat,Int.reduceNeg,Int.reduceEq,Nat.reduceLeDiff,Nat.reducePow,Int.reducePow,reduceIte,Nat.reduceSub,Nat.reduceAdd,Nat.reduceMul,putAt,ceq,List.replicate, *])); repeat' ((first | (with_reducible refine fun _ : True => ?_) | refine cM _ _ ?_ | refine cD _ _ ?_ | (with_reducible refine any_h ?_) | ((first | refine AllocQ_i ?_ | refine AllocO_i ?_); intro bk hb0 hbk; try simp only [set_none'] at hbk) | ((first | refine condS_i ?_ ?_ | refine pick_i ?_ ?_ | refine gS_it ?_ ?_ | refine gS_if ?_ ?_ | refine gP_it ?_ ?_ | refine gP_if ?_ ?_) <;> (intro hc; try simp only [Int.reduceLE,Int.reduceLT,Int.reduceEq,Sn] at hc)) | (with_reducible refine KP_i ?_ ?_; · (repeat' (first | exact Heap.Le.refl _ | (refine Le_fresh (by first | exact (by simp only [*]) | exact (by simp [set_none', *])) ?_) | (refine Heap.Le.trans ?_ (Grow.le (by assumption)))))) | (with_reducible refine And.intro ?_ ?_)) <;> (try simp only [Sq,Sr,Sh,Si,Sl,Bu,Bb,Bd,Bc,Bw,Bn,Int.reduceAdd,Int.reduceSub,Int.reduceMul,Int.reduceTDiv,Int.reduceTMod,Int.reduceMod,Int.reduceDiv,Nat.reduceLT,Nat.reduceEqDiff,Sa,Sb,Sc,Sd,Se,Sf,Sg,Int.reduceLE,Int.reduceLT,Int.reduceToNat,Int.reduceNeg,Int.reduceEq,Nat.reduceLeDiff,Nat.reducePow,Int.reducePow,reduceIte,Nat.reduceSub,Nat.reduceAdd,Nat.reduceMul,putAt,ceq,List.replicate, *]))
      all_goals (first | exact key _ _ (Heap.Le.refl _) rfl | (exfalso; omega))
  · rw [if_neg hv] at em
    have w11 : IntKind.u64.wrap (v2 - v1) = m := by rw [Bu.1 _ (by omega) (by omega)]; exact em
    have ev : v2 = v1 + m := by omega
    have hk := near_up (v1 := v1) hmq e2 e3
    rw [← ev] at hk
    rw [hk] at key
    clear hk hmq ev em eX e1 hqm0 hqm1 hqm2
    replace key : Keep _ := key
    rcases (by omega : (d - r < r ∧ ¬ r < d - r ∧ ¬ r = d - r) ∨ d - r = r ∨ (r < d - r ∧ ¬ d - r < r ∧ ¬ r = d - r)) with ⟨k1, k2, k3⟩ | k1 | ⟨k1, k2, k3⟩
    all_goals (refine HL.hc k37 999 ?_; unfold M37)
    all_goals ((all_goals (try simp only [Sq,Sr,Sh,Si,Sl,Bu,Bb,Bd,Bc,Bw,Bn,Int.reduceAdd,Int.reduceSub,Int.reduceMul,Int.reduceTDiv,Int.reduceTMod,Int.reduceMod,Int.reduceDiv,Nat.reduceLT,Nat.reduceEqDiff,Sa,Sb,Sc,Sd,Se,Sf,Sg,Int.reduceLE,Int.reduceLT,Int.reduceToNat,Int.reduceNeg,Int.reduceEq,Nat.reduceLeDiff,Nat.reducePow,Int.reducePow,reduceIte,Nat.reduceSub,Nat.reduceAdd,Nat.reduceMul,putAt,ceq,List.replicate, *])); repeat' ((first | (with_reducible refine fun _ : True => ?_) | refine cM _ _ ?_ | refine cD _ _ ?_ | (with_reducible refine any_h ?_) | ((first | refine AllocQ_i ?_ | refine AllocO_i ?_); intro bk hb0 hbk; try simp only [set_none'] at hbk) | ((first | refine condS_i ?_ ?_ | refine pick_i ?_ ?_ | refine gS_it ?_ ?_ | refine gS_if ?_ ?_ | refine gP_it ?_ ?_ | refine gP_if ?_ ?_) <;> (intro hc; try simp only [Int.reduceLE,Int.reduceLT,Int.reduceEq,Sn] at hc)) | (with_reducible refine KP_i ?_ ?_; · (repeat' (first | exact Heap.Le.refl _ | (refine Le_fresh (by first | exact (by simp only [*]) | exact (by simp [set_none', *])) ?_) | (refine Heap.Le.trans ?_ (Grow.le (by assumption)))))) | (with_reducible refine And.intro ?_ ?_)) <;> (try simp only [Sq,Sr,Sh,Si,Sl,Bu,Bb,Bd,Bc,Bw,Bn,Int.reduceAdd,Int.reduceSub,Int.reduceMul,Int.reduceTDiv,Int.reduceTMod,Int.reduceMod,Int.reduceDiv,Nat.reduceLT,Nat.reduceEqDiff,Sa,Sb,Sc,Sd,Se,Sf,Sg,Int.reduceLE,Int.reduceLT,Int.reduceToNat,Int.reduceNeg,Int.reduceEq,Nat.reduceLeDiff,Nat.reducePow,Int.reducePow,reduceIte,Nat.reduceSub,Nat.reduceAdd,Nat.reduceMul,putAt,ceq,List.replicate, *])))
    all_goals (refine key _ _ (Heap.Le.refl _) ?_; split <;> omega)
end Go.Proofs.Ytokjajfojjibcaa
