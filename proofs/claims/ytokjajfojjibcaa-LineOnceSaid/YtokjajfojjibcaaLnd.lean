/- The nearest number between two, by the document (layer 23). -/
import Derived.Test.YtokjajfojjibcaaLnb
set_option linter.unusedSimpArgs false
set_option linter.unusedVariables false
set_option maxRecDepth 100000
set_option maxHeartbeats 8000000
namespace Go.Proofs.Ytokjajfojjibcaa
open Go.HL Go.RowKit Pb
variable {w0 : World} {H : Heap} {K : Value → Heap → Prop}

def pw : Nat → Int
  | 0 => 0
  | k + 1 => 2 ^ k
theorem pw_half (k : Nat) : (pw (k + 1)).tdiv 2 = pw k := by
  cases k with
  | zero => rfl
  | succ k =>
    show ((2 : Int) ^ (k + 1)).tdiv 2 = 2 ^ k
    rw [Int.pow_succ, Int.mul_tdiv_cancel _ (by omega)]
theorem pw_le {k : Nat} (h : k ≤ 34) : 0 ≤ pw k ∧ pw k ≤ 8589934592 := by
  cases k with
  | zero => exact ⟨Int.le_refl _, by decide⟩
  | succ k =>
    show 0 ≤ (2 : Int) ^ k ∧ (2 : Int) ^ k ≤ 8589934592
    have h1 : (2 : Int) ^ k = ((2 ^ k : Nat) : Int) := pow_int k
    have h2 : 2 ^ k ≤ 2 ^ 33 := Nat.pow_le_pow_right (by omega) (by omega)
    have h3 : (2 : Nat) ^ 33 = 8589934592 := rfl
    rw [h1]
    exact ⟨Int.natCast_nonneg _, by omega⟩
theorem pw_pos (k : Nat) : 0 < pw (k + 1) := by
  show (0 : Int) < 2 ^ k
  exact Int.pow_pos (by omega)
theorem pw_div (m : Int) (k : Nat) : m / 2 ^ k = 2 * (m / 2 ^ (k + 1)) + m / 2 ^ k % 2 := by
  have : m / 2 ^ (k + 1) = m / 2 ^ k / 2 := by
    rw [Int.pow_succ, Int.ediv_ediv_of_nonneg (Int.le_of_lt (Int.pow_pos (by omega)))]
  rw [this]; omega
/- paintboxref23 Nearest -/
def M38 : MC :=
  .seq (.reg [⟨(some 8), .mv (.const (.int .i32 0)), none⟩])
  (.seq (.reg [⟨(some 15), .mv (.tmp 1), none⟩,
      ⟨(some 16), .conv .i64 (.tmp 15), none⟩,
      ⟨(some 17), .mv (.tmp 0), none⟩,
      ⟨(some 18), .conv .i64 (.tmp 17), none⟩,
      ⟨(some 19), .bin .sub (.tmp 16) (.tmp 18), none⟩,
      ⟨(some 9), .mv (.tmp 19), none⟩])
   (.seq (.reg [⟨(some 20), .mv (.tmp 9), none⟩,
       ⟨(some 21), .bin .lss (.tmp 20) (.const (.int .i64 0)), none⟩,
       ⟨(some 10), .mv (.tmp 21), none⟩])
    (.seq (.seq (.reg [⟨(some 22), .mv (.tmp 10), none⟩])
      (.cond (.tmp 22)
       (.reg [⟨(some 23), .mv (.tmp 9), none⟩,
          ⟨(some 24), .un .neg (.tmp 23), none⟩,
          ⟨(some 9), .mv (.tmp 24), none⟩])
       (.skip)))
     (.seq (.reg [⟨(some 11), .mv (.const (.int .i64 0)), none⟩,
         ⟨(some 12), .mv (.const (.int .i64 0)), none⟩])
      (.seq (.seq (.reg [⟨(some 13), .mv (.const (.int .i64 8589934592)), none⟩])
        (.block 0 (.loop (.seq (.seq (.reg [⟨(some 25), .mv (.tmp 13), none⟩,
               ⟨(some 26), .bin .gtr (.tmp 25) (.const (.int .i64 0)), none⟩])
            (.cond (.tmp 26)
             (.skip)
             (.exit 0)))
           (.seq (.block 1 (.seq (.reg [⟨(some 29), .mv (.tmp 11), none⟩,
                 ⟨(some 30), .bin .mul (.const (.int .i64 2)) (.tmp 29), none⟩,
                 ⟨(some 11), .mv (.tmp 30), none⟩])
              (.seq (.reg [⟨(some 31), .mv (.tmp 12), none⟩,
                  ⟨(some 32), .bin .mul (.const (.int .i64 2)) (.tmp 31), none⟩,
                  ⟨(some 12), .mv (.tmp 32), none⟩])
               (.seq (.seq (.reg [⟨(some 33), .mv (.tmp 9), none⟩,
                    ⟨(some 34), .mv (.tmp 13), none⟩,
                    ⟨(some 35), .bin .quo (.tmp 33) (.tmp 34), none⟩,
                    ⟨(some 36), .bin .rem (.tmp 35) (.const (.int .i64 2)), none⟩,
                    ⟨(some 37), .bin .eql (.tmp 36) (.const (.int .i64 1)), none⟩])
                 (.cond (.tmp 37)
                  (.reg [⟨(some 38), .mv (.tmp 12), none⟩,
                     ⟨(some 39), .mv (.tmp 2), none⟩,
                     ⟨(some 40), .bin .add (.tmp 38) (.tmp 39), none⟩,
                     ⟨(some 12), .mv (.tmp 40), none⟩])
                  (.skip)))
                (.block 2 (.loop (.seq (.seq (.reg [⟨(some 41), .mv (.tmp 12), none⟩,
                       ⟨(some 42), .mv (.tmp 3), none⟩,
                       ⟨(some 43), .bin .geq (.tmp 41) (.tmp 42), none⟩])
                    (.cond (.tmp 43)
                     (.skip)
                     (.exit 2)))
                   (.block 3 (.seq (.reg [⟨(some 44), .mv (.tmp 12), none⟩,
                        ⟨(some 45), .mv (.tmp 3), none⟩,
                        ⟨(some 46), .bin .sub (.tmp 44) (.tmp 45), none⟩,
                        ⟨(some 12), .mv (.tmp 46), none⟩])
                     (.reg [⟨(some 47), .mv (.tmp 11), none⟩,
                        ⟨(some 48), .bin .add (.tmp 47) (.const (.int .i64 1)), none⟩,
                        ⟨(some 11), .mv (.tmp 48), none⟩]))))))))))
            (.reg [⟨(some 27), .mv (.tmp 13), none⟩,
               ⟨(some 28), .bin .quo (.tmp 27) (.const (.int .i64 2)), none⟩,
               ⟨(some 13), .mv (.tmp 28), none⟩]))))))
       (.seq (.reg [⟨(some 49), .mv (.tmp 0), none⟩,
           ⟨(some 50), .conv .i64 (.tmp 49), none⟩,
           ⟨(some 51), .mv (.tmp 11), none⟩,
           ⟨(some 52), .bin .add (.tmp 50) (.tmp 51), none⟩,
           ⟨(some 14), .mv (.tmp 52), none⟩])
        (.seq (.seq (.reg [⟨(some 53), .mv (.tmp 10), none⟩])
          (.cond (.tmp 53)
           (.seq (.reg [⟨(some 54), .mv (.tmp 0), none⟩,
               ⟨(some 55), .conv .i64 (.tmp 54), none⟩,
               ⟨(some 56), .mv (.tmp 11), none⟩,
               ⟨(some 57), .bin .sub (.tmp 55) (.tmp 56), none⟩,
               ⟨(some 14), .mv (.tmp 57), none⟩])
            (.seq (.reg [⟨(some 58), .mv (.tmp 12), none⟩,
                ⟨(some 59), .bin .gtr (.tmp 58) (.const (.int .i64 0)), none⟩])
             (.cond (.tmp 59)
              (.seq (.reg [⟨(some 60), .mv (.tmp 14), none⟩,
                  ⟨(some 61), .bin .sub (.tmp 60) (.const (.int .i64 1)), none⟩,
                  ⟨(some 14), .mv (.tmp 61), none⟩])
               (.reg [⟨(some 62), .mv (.tmp 3), none⟩,
                  ⟨(some 63), .mv (.tmp 12), none⟩,
                  ⟨(some 64), .bin .sub (.tmp 62) (.tmp 63), none⟩,
                  ⟨(some 12), .mv (.tmp 64), none⟩]))
              (.skip))))
           (.skip)))
         (.seq (.seq (.reg [⟨(some 65), .mv (.tmp 12), none⟩,
              ⟨(some 66), .bin .mul (.const (.int .i64 2)) (.tmp 65), none⟩,
              ⟨(some 67), .mv (.tmp 3), none⟩,
              ⟨(some 68), .bin .gtr (.tmp 66) (.tmp 67), none⟩,
              ⟨(some 69), .mv (.tmp 68), none⟩,
              ⟨(some 70), .mv (.tmp 12), (some (69, false))⟩,
              ⟨(some 71), .bin .mul (.const (.int .i64 2)) (.tmp 70), (some (69, false))⟩,
              ⟨(some 72), .mv (.tmp 3), (some (69, false))⟩,
              ⟨(some 73), .bin .eql (.tmp 71) (.tmp 72), (some (69, false))⟩,
              ⟨(some 74), .mv (.tmp 73), (some (69, false))⟩,
              ⟨(some 75), .mv (.tmp 14), (some (74, true))⟩,
              ⟨(some 76), .bin .geq (.tmp 75) (.const (.int .i64 0)), (some (74, true))⟩,
              ⟨(some 77), .pick (.tmp 74) (.tmp 76) (.const (.bool false)), (some (69, false))⟩,
              ⟨(some 78), .pick (.tmp 69) (.const (.bool true)) (.tmp 77), none⟩])
           (.cond (.tmp 78)
            (.reg [⟨(some 79), .mv (.tmp 14), none⟩,
               ⟨(some 80), .bin .add (.tmp 79) (.const (.int .i64 1)), none⟩,
               ⟨(some 14), .mv (.tmp 80), none⟩])
            (.skip)))
          (.seq (.reg [⟨(some 81), .mv (.tmp 14), none⟩,
              ⟨(some 82), .call 42 [(.tmp 81)], none⟩,
              ⟨(some 8), .mv (.tmp 82), none⟩])
           (.ret))))))))))
theorem k38 : fnOk Try.prog 38 = some (M38, [.t 8], 83) := by kernel_rfl

theorem r_Nearest (v1 v2 q d : Int) (h1 : I32 v1) (h2 : I32 v2) (hq : 0 ≤ q ∧ q ≤ d) (hd : 0 < d ∧ d ≤ 1152921504606846976) (h : K (.int .i32 (raw (nearI v1 v2 q d))) H) : HCalls Try.prog w0 38 [.int .i32 v1, .int .i32 v2, .int .i64 q, .int .i64 d] H K := by
  have key : ∀ (G : Heap) (y : Int), Heap.Le H G → y = raw (nearI v1 v2 q d) → HL.Fin K (.int .i32 y) G := fun G y g e => by subst e; exact Fin_mk g h
  clear h
  unfold I32 at h1 h2
  obtain ⟨m, em⟩ : ∃ m, (if v2 < v1 then v1 - v2 else v2 - v1) = m := ⟨_, rfl⟩
  have hm : 0 ≤ m ∧ m ≤ 4294967295 := by split at em <;> omega
  have x1 : IntKind.i64.wrap v1 = v1 := Bw.1 _ (by omega) (by omega)
  have x2 : IntKind.i64.wrap v2 = v2 := Bw.1 _ (by omega) (by omega)
  have x3 : IntKind.i64.wrap (v2 - v1) = v2 - v1 := Bw.1 _ (by omega) (by omega)
  have x4 : v2 < v1 → IntKind.i64.wrap (0 - (v2 - v1)) = m := fun hh => by rw [Bw.1 _ (by omega) (by omega)]; rw [if_pos hh] at em; omega
  have hqm0 : 0 ≤ m * q := Int.mul_nonneg hm.1 hq.1
  have hqm2 : m * q ≤ m * d := Int.mul_le_mul_of_nonneg_left hq.2 hm.1
  have e1 := Int.mul_ediv_add_emod (m * q) d
  have e2 := Int.emod_nonneg (m * q) (show d ≠ 0 by omega)
  have e3 := Int.emod_lt_of_pos (m * q) hd.1
  have e0 : 0 ≤ m * q / d := Int.ediv_nonneg hqm0 (by omega)
  have e4 : m * q / d ≤ m := by
    have := Int.ediv_le_ediv hd.1 hqm2
    rwa [Int.mul_ediv_cancel _ (by omega)] at this
  rw [Int.mul_comm d] at e1
  have fin : ∀ n r : Int, m * q = n * d + r → 0 ≤ r → r < d → n = m * q / d ∧ r = m * q % d := fun n r h h0 h1 => by obtain ⟨a, b⟩ := dm_uniq h h0 h1; exact ⟨a.symm, b.symm⟩
  generalize m * q / d = n at *
  generalize m * q % d = r at *
  have lp : ∀ (P : Program) (fin' : List Value → Heap → Prop) (T : List Value) , True := fun _ _ _ => trivial
  have w2 : IntKind.i64.wrap (v1 + n) = v1 + n := Bw.1 _ (by omega) (by omega)
  have w3 : IntKind.i64.wrap (v1 - n) = v1 - n := Bw.1 _ (by omega) (by omega)
  have w4 : IntKind.i64.wrap (d - r) = d - r := Bw.1 _ (by omega) (by omega)
  have w5 : IntKind.i64.wrap (v1 - n - 1) = v1 - n - 1 := Bw.1 _ (by omega) (by omega)
  have w6 : IntKind.i64.wrap (v1 + n + 1) = v1 + n + 1 := Bw.1 _ (by omega) (by omega)
  have w7 : IntKind.i64.wrap (v1 - n + 1) = v1 - n + 1 := Bw.1 _ (by omega) (by omega)
  have w8 : IntKind.i64.wrap (v1 - n - 1 + 1) = v1 - n := by rw [show v1 - n - 1 + 1 = v1 - n by omega]; exact w3
  have w9 : IntKind.i64.wrap (2 * r) = 2 * r := Bw.1 _ (by omega) (by omega)
  have w10 : IntKind.i64.wrap (2 * (d - r)) = 2 * (d - r) := Bw.1 _ (by omega) (by omega)
  replace e1 : Keep _ := e1
  replace key : Keep _ := key
  replace fin : Keep _ := fin
  by_cases hv : v2 < v1
  · have x5 := x4 hv
    have x6 : v2 - v1 < 0 := by omega
    rw [if_pos hv] at em
    have ev : Keep (v2 = v1 - m) := by unfold Keep; omega
    clear x4 em lp
    refine HL.hc k38 1500 ?_; unfold M38
    (all_goals (try simp only [Sq,Sr,Sh,Si,Sl,Bu,Bb,Bd,Bc,Bw,Bn,Int.reduceAdd,Int.reduceSub,Int.reduceMul,Int.reduceTDiv,Int.reduceTMod,Int.reduceMod,Int.reduceDiv,Nat.reduceLT,Nat.reduceEqDiff,Sa,Sb,Sc,Sd,Se,Sf,Sg,Int.reduceLE,Int.reduceLT,Int.reduceToNat,Int.reduceNeg,Int.reduceEq,Nat.reduceLeDiff,Nat.reducePow,Int.reducePow,reduceIte,Nat.reduceSub,Nat.reduceAdd,Nat.reduceMul,putAt,ceq,List.replicate, *])); repeat' ((first | (with_reducible refine fun _ : True => ?_) | (with_reducible refine any_h ?_) | ((first | refine AllocQ_i ?_ | refine AllocO_i ?_); intro bk hb0 hbk; try simp only [set_none'] at hbk) | ((first | refine condS_i ?_ ?_ | refine pick_i ?_ ?_ | refine gS_it ?_ ?_ | refine gS_if ?_ ?_ | refine gP_it ?_ ?_ | refine gP_if ?_ ?_) <;> (intro hc; try simp only [Int.reduceLE,Int.reduceLT,Int.reduceEq,Sn] at hc)) | (with_reducible refine KP_i ?_ ?_; · (repeat' (first | exact Heap.Le.refl _ | (refine Le_fresh (by first | exact (by simp only [*]) | exact (by simp [set_none', *])) ?_) | (refine Heap.Le.trans ?_ (Grow.le (by assumption)))))) | (with_reducible refine And.intro ?_ ?_)) <;> (try simp only [Sq,Sr,Sh,Si,Sl,Bu,Bb,Bd,Bc,Bw,Bn,Int.reduceAdd,Int.reduceSub,Int.reduceMul,Int.reduceTDiv,Int.reduceTMod,Int.reduceMod,Int.reduceDiv,Nat.reduceLT,Nat.reduceEqDiff,Sa,Sb,Sc,Sd,Se,Sf,Sg,Int.reduceLE,Int.reduceLT,Int.reduceToNat,Int.reduceNeg,Int.reduceEq,Nat.reduceLeDiff,Nat.reducePow,Int.reducePow,reduceIte,Nat.reduceSub,Nat.reduceAdd,Nat.reduceMul,putAt,ceq,List.replicate, *]))
    refine cut_loop (S := Unit) 14 (fun s => [(11, .int .i64 n), (12, .int .i64 r), (13, .int .i64 0)]) (fun _ => H) (fun _ => True) 700 400 ?_ ?_ (by decide)
    · refine loop_g 14 (fun s : Nat × Int × Int => [(11, .int .i64 s.2.1), (12, .int .i64 s.2.2), (13, .int .i64 (pw s.1))]) (fun _ => H) (fun s => s.1 ≤ 34 ∧ (m / 2 ^ s.1) * q = s.2.1 * d + s.2.2 ∧ 0 ≤ s.2.2 ∧ s.2.2 < d ∧ 0 ≤ s.2.1) (fun s => s.1) (34, 0, 0) ⟨Nat.le_refl _, by simp only; rw [show m / 2 ^ 34 = 0 from Int.ediv_eq_zero_of_lt hm.1 (by have : (2 : Int) ^ 34 = 17179869184 := rfl; omega)]; simp, by simp, hd.1, by simp⟩ (Heap.Le.refl _) rfl ?_
      rintro ⟨k, n1, r1⟩ g ⟨c1, c2, c3, c4, c5⟩
      simp only at c1 c2 c3 c4 c5
      obtain ⟨c6, c7⟩ := pw_le c1
      cases k with
      | zero =>
        obtain ⟨f1, f2⟩ := fin n1 r1 (by simpa using c2) c3 c4
        have t0 : ¬ (0 : Int) < pw 0 := by decide
        have t1 : pw 0 = 0 := rfl
        clear c2
        rw [t1]
        (all_goals (try simp only [Sq,Sr,Sh,Si,Sl,Bu,Bb,Bd,Bc,Bw,Bn,Int.reduceAdd,Int.reduceSub,Int.reduceMul,Int.reduceTDiv,Int.reduceTMod,Int.reduceMod,Int.reduceDiv,Nat.reduceLT,Nat.reduceEqDiff,Sa,Sb,Sc,Sd,Se,Sf,Sg,Int.reduceLE,Int.reduceLT,Int.reduceToNat,Int.reduceNeg,Int.reduceEq,Nat.reduceLeDiff,Nat.reducePow,Int.reducePow,reduceIte,Nat.reduceSub,Nat.reduceAdd,Nat.reduceMul,putAt,ceq,List.replicate, *])); repeat' ((first | (with_reducible refine fun _ : True => ?_) | (with_reducible refine any_h ?_) | ((first | refine AllocQ_i ?_ | refine AllocO_i ?_); intro bk hb0 hbk; try simp only [set_none'] at hbk) | ((first | refine condS_i ?_ ?_ | refine pick_i ?_ ?_ | refine gS_it ?_ ?_ | refine gS_if ?_ ?_ | refine gP_it ?_ ?_ | refine gP_if ?_ ?_) <;> (intro hc; try simp only [Int.reduceLE,Int.reduceLT,Int.reduceEq,Sn] at hc)) | (with_reducible refine KP_i ?_ ?_; · (repeat' (first | exact Heap.Le.refl _ | (refine Le_fresh (by first | exact (by simp only [*]) | exact (by simp [set_none', *])) ?_) | (refine Heap.Le.trans ?_ (Grow.le (by assumption)))))) | (with_reducible refine And.intro ?_ ?_)) <;> (try simp only [Sq,Sr,Sh,Si,Sl,Bu,Bb,Bd,Bc,Bw,Bn,Int.reduceAdd,Int.reduceSub,Int.reduceMul,Int.reduceTDiv,Int.reduceTMod,Int.reduceMod,Int.reduceDiv,Nat.reduceLT,Nat.reduceEqDiff,Sa,Sb,Sc,Sd,Se,Sf,Sg,Int.reduceLE,Int.reduceLT,Int.reduceToNat,Int.reduceNeg,Int.reduceEq,Nat.reduceLeDiff,Nat.reducePow,Int.reducePow,reduceIte,Nat.reduceSub,Nat.reduceAdd,Nat.reduceMul,putAt,ceq,List.replicate, *]))
        subst f1 f2
        exact ⟨(), rfl, rfl, rfl, trivial⟩
      | succ k =>
        have t0 := pw_pos k
        have t1 : m.tdiv (pw (k + 1)) = m / 2 ^ k := Int.tdiv_eq_ediv_of_nonneg hm.1
        have t2 := pw_half k
        have t3 := pw_div m k
        have t4 : ¬ pw (k + 1) = 0 := by omega
        obtain ⟨c8, c9⟩ := pw_le (show k ≤ 34 by omega)
        have t5 : IntKind.i64.wrap (pw k) = pw k := Bw.1 _ (by omega) (by omega)
        have s0 : 0 ≤ m / 2 ^ k := Int.ediv_nonneg hm.1 (Int.le_of_lt (Int.pow_pos (by omega)))
        have s1 : m / 2 ^ k ≤ m := Int.ediv_le_self _ hm.1
        obtain ⟨sv, es⟩ : ∃ sv, m / 2 ^ k = sv := ⟨_, rfl⟩
        obtain ⟨su, eu⟩ : ∃ su, m / 2 ^ (k + 1) = su := ⟨_, rfl⟩
        rw [es] at t1 t3 s0 s1
        rw [eu] at t3 c2
        have hsq : sv * q = 2 * (n1 * d + r1) + sv % 2 * q := by
          rw [← c2]
          have : sv * q = (2 * su + sv % 2) * q := by rw [← t3]
          rw [this, Int.add_mul, Int.mul_assoc]
        have hsd : sv * q ≤ sv * d := Int.mul_le_mul_of_nonneg_left hq.2 s0
        have bnd : ∀ n2 r2 : Int, n2 * d + r2 = sv * q → 0 ≤ r2 → n2 ≤ 4294967296 := fun n2 r2 h0 h1 => by
          rcases (by omega : n2 ≤ 4294967296 ∨ 4294967297 ≤ n2) with h | h
          · exact h
          · have := Int.mul_le_mul_of_nonneg_right h (Int.le_of_lt hd.1)
            have h6 : sv * d ≤ 4294967295 * d := Int.mul_le_mul_of_nonneg_right (by omega) (Int.le_of_lt hd.1)
            omega
        have bn1 : n1 ≤ 4294967296 := by
          have h7 : su * q ≤ su * d := Int.mul_le_mul_of_nonneg_left hq.2 (by omega)
          have h6 : su * d ≤ 4294967295 * d := Int.mul_le_mul_of_nonneg_right (by omega) (Int.le_of_lt hd.1)
          rcases (by omega : n1 ≤ 4294967296 ∨ 4294967297 ≤ n1) with h | h
          · exact h
          · have := Int.mul_le_mul_of_nonneg_right h (Int.le_of_lt hd.1)
            omega
        have t6 : IntKind.i64.wrap sv = sv := Bw.1 _ (by omega) (by omega)
        have t7 : sv.tmod 2 = sv % 2 := Int.tmod_eq_emod_of_nonneg s0
        have t8 : IntKind.i64.wrap (2 * n1) = 2 * n1 := Bw.1 _ (by omega) (by omega)
        have t9 : IntKind.i64.wrap (2 * r1) = 2 * r1 := Bw.1 _ (by omega) (by omega)
        have t10 : IntKind.i64.wrap (2 * r1 + q) = 2 * r1 + q := Bw.1 _ (by omega) (by omega)
        replace bnd : Keep _ := bnd
        replace hsq : Keep _ := hsq
        have hC0 : Keep (2 * n1 * d + 2 * r1 = 2 * (n1 * d + r1)) := by unfold Keep; rw [Int.mul_add, Int.mul_assoc]
        have es2 : Keep (m / 2 ^ k = sv) := es
        clear t3 c2 eu es hsd key e1 fin
        rcases (by omega : sv % 2 = 0 ∨ sv % 2 = 1) with he | he
        all_goals (have t11 : IntKind.i64.wrap (sv % 2) = sv % 2 := Bw.1 _ (by omega) (by omega))
        all_goals (unfold Keep at hsq hC0; rw [he] at hsq t7)
        all_goals clear t11
        all_goals (have t12 : IntKind.i64.wrap 0 = 0 := rfl)
        all_goals (have t13 : IntKind.i64.wrap 1 = 1 := rfl)
        all_goals ((all_goals (try simp only [Sq,Sr,Sh,Si,Sl,Bu,Bb,Bd,Bc,Bw,Bn,Int.reduceAdd,Int.reduceSub,Int.reduceMul,Int.reduceTDiv,Int.reduceTMod,Int.reduceMod,Int.reduceDiv,Nat.reduceLT,Nat.reduceEqDiff,Sa,Sb,Sc,Sd,Se,Sf,Sg,Int.reduceLE,Int.reduceLT,Int.reduceToNat,Int.reduceNeg,Int.reduceEq,Nat.reduceLeDiff,Nat.reducePow,Int.reducePow,reduceIte,Nat.reduceSub,Nat.reduceAdd,Nat.reduceMul,putAt,ceq,List.replicate, *])); repeat' ((first | (with_reducible refine fun _ : True => ?_) | (with_reducible refine any_h ?_) | ((first | refine AllocQ_i ?_ | refine AllocO_i ?_); intro bk hb0 hbk; try simp only [set_none'] at hbk) | ((first | refine condS_i ?_ ?_ | refine pick_i ?_ ?_ | refine gS_it ?_ ?_ | refine gS_if ?_ ?_ | refine gP_it ?_ ?_ | refine gP_if ?_ ?_) <;> (intro hc; try simp only [Int.reduceLE,Int.reduceLT,Int.reduceEq,Sn] at hc)) | (with_reducible refine KP_i ?_ ?_; · (repeat' (first | exact Heap.Le.refl _ | (refine Le_fresh (by first | exact (by simp only [*]) | exact (by simp [set_none', *])) ?_) | (refine Heap.Le.trans ?_ (Grow.le (by assumption)))))) | (with_reducible refine And.intro ?_ ?_)) <;> (try simp only [Sq,Sr,Sh,Si,Sl,Bu,Bb,Bd,Bc,Bw,Bn,Int.reduceAdd,Int.reduceSub,Int.reduceMul,Int.reduceTDiv,Int.reduceTMod,Int.reduceMod,Int.reduceDiv,Nat.reduceLT,Nat.reduceEqDiff,Sa,Sb,Sc,Sd,Se,Sf,Sg,Int.reduceLE,Int.reduceLT,Int.reduceToNat,Int.reduceNeg,Int.reduceEq,Nat.reduceLeDiff,Nat.reducePow,Int.reducePow,reduceIte,Nat.reduceSub,Nat.reduceAdd,Nat.reduceMul,putAt,ceq,List.replicate, *])))
        all_goals refine loop_g 14 (fun s : Int × Int => [(11, .int .i64 s.1), (12, .int .i64 s.2)]) (fun _ => H) (fun s => s.1 * d + s.2 = sv * q ∧ 0 ≤ s.2 ∧ s.2 ≤ 3 * d ∧ 0 ≤ s.1) (fun s => s.2.toNat) (2 * n1, _) ⟨?_, ?_, ?_, ?_⟩ (Heap.Le.refl _) rfl ?_
        all_goals try (simp only; omega)
        all_goals (rintro ⟨n2, r2⟩ g2 ⟨b1, b2, b3, b4⟩; simp only at b1 b2 b3 b4)
        all_goals (have b5 := bnd n2 r2 b1 b2)
        all_goals (have b6 : IntKind.i64.wrap (r2 - d) = r2 - d := Bw.1 _ (by omega) (by omega))
        all_goals (have b7 : IntKind.i64.wrap (n2 + 1) = n2 + 1 := Bw.1 _ (by omega) (by omega))
        all_goals (have b8 : (n2 + 1) * d + (r2 - d) = sv * q := by rw [Int.add_mul, Int.one_mul]; omega)
        all_goals (replace b1 : Keep _ := b1; replace b8 : Keep _ := b8; replace hsq : Keep _ := hsq; clear hC0)
        all_goals by_cases b9 : d ≤ r2
        all_goals ((all_goals (try simp only [Sq,Sr,Sh,Si,Sl,Bu,Bb,Bd,Bc,Bw,Bn,Int.reduceAdd,Int.reduceSub,Int.reduceMul,Int.reduceTDiv,Int.reduceTMod,Int.reduceMod,Int.reduceDiv,Nat.reduceLT,Nat.reduceEqDiff,Sa,Sb,Sc,Sd,Se,Sf,Sg,Int.reduceLE,Int.reduceLT,Int.reduceToNat,Int.reduceNeg,Int.reduceEq,Nat.reduceLeDiff,Nat.reducePow,Int.reducePow,reduceIte,Nat.reduceSub,Nat.reduceAdd,Nat.reduceMul,putAt,ceq,List.replicate, *])); repeat' ((first | (with_reducible refine fun _ : True => ?_) | (with_reducible refine any_h ?_) | ((first | refine AllocQ_i ?_ | refine AllocO_i ?_); intro bk hb0 hbk; try simp only [set_none'] at hbk) | ((first | refine condS_i ?_ ?_ | refine pick_i ?_ ?_ | refine gS_it ?_ ?_ | refine gS_if ?_ ?_ | refine gP_it ?_ ?_ | refine gP_if ?_ ?_) <;> (intro hc; try simp only [Int.reduceLE,Int.reduceLT,Int.reduceEq,Sn] at hc)) | (with_reducible refine KP_i ?_ ?_; · (repeat' (first | exact Heap.Le.refl _ | (refine Le_fresh (by first | exact (by simp only [*]) | exact (by simp [set_none', *])) ?_) | (refine Heap.Le.trans ?_ (Grow.le (by assumption)))))) | (with_reducible refine And.intro ?_ ?_)) <;> (try simp only [Sq,Sr,Sh,Si,Sl,Bu,Bb,Bd,Bc,Bw,Bn,Int.reduceAdd,Int.reduceSub,Int.reduceMul,Int.reduceTDiv,Int.reduceTMod,Int.reduceMod,Int.reduceDiv,Nat.reduceLT,Nat.reduceEqDiff,Sa,Sb,Sc,Sd,Se,Sf,Sg,Int.reduceLE,Int.reduceLT,Int.reduceToNat,Int.reduceNeg,Int.reduceEq,Nat.reduceLeDiff,Nat.reducePow,Int.reducePow,reduceIte,Nat.reduceSub,Nat.reduceAdd,Nat.reduceMul,putAt,ceq,List.replicate, *])))
        all_goals first
          | exact Round_mk (n2 + 1, r2 - d) ⟨b8, by simp only; omega, by simp only; omega, by simp only; omega⟩ (by simp only; omega) (Heap.Le.refl _) rfl rfl
          | exact Round_mk (k, n2, r2) ⟨by simp only; omega, (by simp only; rw [es2]; exact b1.symm), b2, by simp only; omega, b4⟩ (by simp only; omega) (Heap.Le.refl _) rfl rfl
          | trace_state
    · rintro s f -
      have hmq : m * q = n * d + r := e1.symm
      by_cases hr : 0 < r
      · have hk := near_dn (v1 := v1) hmq hr e3
        rw [← (show v2 = v1 - m from ev)] at hk
        unfold Keep at key
        rw [hk] at key
        replace key : Keep _ := key
        clear hk hmq ev e1
        (all_goals (try simp only [Sq,Sr,Sh,Si,Sl,Bu,Bb,Bd,Bc,Bw,Bn,Int.reduceAdd,Int.reduceSub,Int.reduceMul,Int.reduceTDiv,Int.reduceTMod,Int.reduceMod,Int.reduceDiv,Nat.reduceLT,Nat.reduceEqDiff,Sa,Sb,Sc,Sd,Se,Sf,Sg,Int.reduceLE,Int.reduceLT,Int.reduceToNat,Int.reduceNeg,Int.reduceEq,Nat.reduceLeDiff,Nat.reducePow,Int.reducePow,reduceIte,Nat.reduceSub,Nat.reduceAdd,Nat.reduceMul,putAt,ceq,List.replicate, *])); repeat' ((first | (with_reducible refine fun _ : True => ?_) | refine r_Raw _ ?_ | (with_reducible refine any_h ?_) | ((first | refine AllocQ_i ?_ | refine AllocO_i ?_); intro bk hb0 hbk; try simp only [set_none'] at hbk) | ((first | refine condS_i ?_ ?_ | refine pick_i ?_ ?_ | refine gS_it ?_ ?_ | refine gS_if ?_ ?_ | refine gP_it ?_ ?_ | refine gP_if ?_ ?_) <;> (intro hc; try simp only [Int.reduceLE,Int.reduceLT,Int.reduceEq,Sn] at hc)) | (with_reducible refine KP_i ?_ ?_; · (repeat' (first | exact Heap.Le.refl _ | (refine Le_fresh (by first | exact (by simp only [*]) | exact (by simp [set_none', *])) ?_) | (refine Heap.Le.trans ?_ (Grow.le (by assumption)))))) | (with_reducible refine And.intro ?_ ?_)) <;> (try simp only [Sq,Sr,Sh,Si,Sl,Bu,Bb,Bd,Bc,Bw,Bn,Int.reduceAdd,Int.reduceSub,Int.reduceMul,Int.reduceTDiv,Int.reduceTMod,Int.reduceMod,Int.reduceDiv,Nat.reduceLT,Nat.reduceEqDiff,Sa,Sb,Sc,Sd,Se,Sf,Sg,Int.reduceLE,Int.reduceLT,Int.reduceToNat,Int.reduceNeg,Int.reduceEq,Nat.reduceLeDiff,Nat.reducePow,Int.reducePow,reduceIte,Nat.reduceSub,Nat.reduceAdd,Nat.reduceMul,putAt,ceq,List.replicate, *]))
        all_goals (refine key _ _ (Heap.Le.refl _) ?_; congr 1; split <;> omega)
      · have hr0 : r = 0 := by omega
        subst hr0
        have hk := near_dn0 (v1 := v1) (show m * q = n * d by omega) hd.1
        rw [← (show v2 = v1 - m from ev)] at hk
        unfold Keep at key
        rw [hk] at key
        replace key : Keep _ := key
        clear hk hmq ev e1
        (all_goals (try simp only [Sq,Sr,Sh,Si,Sl,Bu,Bb,Bd,Bc,Bw,Bn,Int.reduceAdd,Int.reduceSub,Int.reduceMul,Int.reduceTDiv,Int.reduceTMod,Int.reduceMod,Int.reduceDiv,Nat.reduceLT,Nat.reduceEqDiff,Sa,Sb,Sc,Sd,Se,Sf,Sg,Int.reduceLE,Int.reduceLT,Int.reduceToNat,Int.reduceNeg,Int.reduceEq,Nat.reduceLeDiff,Nat.reducePow,Int.reducePow,reduceIte,Nat.reduceSub,Nat.reduceAdd,Nat.reduceMul,putAt,ceq,List.replicate, *])); repeat' ((first | (with_reducible refine fun _ : True => ?_) | refine r_Raw _ ?_ | (with_reducible refine any_h ?_) | ((first | refine AllocQ_i ?_ | refine AllocO_i ?_); intro bk hb0 hbk; try simp only [set_none'] at hbk) | ((first | refine condS_i ?_ ?_ | refine pick_i ?_ ?_ | refine gS_it ?_ ?_ | refine gS_if ?_ ?_ | refine gP_it ?_ ?_ | refine gP_if ?_ ?_) <;> (intro hc; try simp only [Int.reduceLE,Int.reduceLT,Int.reduceEq,Sn] at hc)) | (with_reducible refine KP_i ?_ ?_; · (repeat' (first | exact Heap.Le.refl _ | (refine Le_fresh (by first | exact (by simp only [*]) | exact (by simp [set_none', *])) ?_) | (refine Heap.Le.trans ?_ (Grow.le (by assumption)))))) | (with_reducible refine And.intro ?_ ?_)) <;> (try simp only [Sq,Sr,Sh,Si,Sl,Bu,Bb,Bd,Bc,Bw,Bn,Int.reduceAdd,Int.reduceSub,Int.reduceMul,Int.reduceTDiv,Int.reduceTMod,Int.reduceMod,Int.reduceDiv,Nat.reduceLT,Nat.reduceEqDiff,Sa,Sb,Sc,Sd,Se,Sf,Sg,Int.reduceLE,Int.reduceLT,Int.reduceToNat,Int.reduceNeg,Int.reduceEq,Nat.reduceLeDiff,Nat.reducePow,Int.reducePow,reduceIte,Nat.reduceSub,Nat.reduceAdd,Nat.reduceMul,putAt,ceq,List.replicate, *]))
        all_goals (first | exact key _ _ (Heap.Le.refl _) rfl | (exfalso; omega))
  · have x6 : ¬ v2 - v1 < 0 := by omega
    rw [if_neg hv] at em
    have ev : Keep (v2 = v1 + m) := by unfold Keep; omega
    have x7 : IntKind.i64.wrap (v2 - v1) = m := x3.trans em
    clear x4 x3 lp
    subst em
    refine HL.hc k38 1500 ?_; unfold M38
    (all_goals (try simp only [Sq,Sr,Sh,Si,Sl,Bu,Bb,Bd,Bc,Bw,Bn,Int.reduceAdd,Int.reduceSub,Int.reduceMul,Int.reduceTDiv,Int.reduceTMod,Int.reduceMod,Int.reduceDiv,Nat.reduceLT,Nat.reduceEqDiff,Sa,Sb,Sc,Sd,Se,Sf,Sg,Int.reduceLE,Int.reduceLT,Int.reduceToNat,Int.reduceNeg,Int.reduceEq,Nat.reduceLeDiff,Nat.reducePow,Int.reducePow,reduceIte,Nat.reduceSub,Nat.reduceAdd,Nat.reduceMul,putAt,ceq,List.replicate, *])); repeat' ((first | (with_reducible refine fun _ : True => ?_) | (with_reducible refine any_h ?_) | ((first | refine AllocQ_i ?_ | refine AllocO_i ?_); intro bk hb0 hbk; try simp only [set_none'] at hbk) | ((first | refine condS_i ?_ ?_ | refine pick_i ?_ ?_ | refine gS_it ?_ ?_ | refine gS_if ?_ ?_ | refine gP_it ?_ ?_ | refine gP_if ?_ ?_) <;> (intro hc; try simp only [Int.reduceLE,Int.reduceLT,Int.reduceEq,Sn] at hc)) | (with_reducible refine KP_i ?_ ?_; · (repeat' (first | exact Heap.Le.refl _ | (refine Le_fresh (by first | exact (by simp only [*]) | exact (by simp [set_none', *])) ?_) | (refine Heap.Le.trans ?_ (Grow.le (by assumption)))))) | (with_reducible refine And.intro ?_ ?_)) <;> (try simp only [Sq,Sr,Sh,Si,Sl,Bu,Bb,Bd,Bc,Bw,Bn,Int.reduceAdd,Int.reduceSub,Int.reduceMul,Int.reduceTDiv,Int.reduceTMod,Int.reduceMod,Int.reduceDiv,Nat.reduceLT,Nat.reduceEqDiff,Sa,Sb,Sc,Sd,Se,Sf,Sg,Int.reduceLE,Int.reduceLT,Int.reduceToNat,Int.reduceNeg,Int.reduceEq,Nat.reduceLeDiff,Nat.reducePow,Int.reducePow,reduceIte,Nat.reduceSub,Nat.reduceAdd,Nat.reduceMul,putAt,ceq,List.replicate, *]))
    refine cut_loop (S := Unit) 14 (fun s => [(11, .int .i64 n), (12, .int .i64 r), (13, .int .i64 0)]) (fun _ => H) (fun _ => True) 700 400 ?_ ?_ (by decide)
    · refine loop_g 14 (fun s : Nat × Int × Int => [(11, .int .i64 s.2.1), (12, .int .i64 s.2.2), (13, .int .i64 (pw s.1))]) (fun _ => H) (fun s => s.1 ≤ 34 ∧ ((v2 - v1) / 2 ^ s.1) * q = s.2.1 * d + s.2.2 ∧ 0 ≤ s.2.2 ∧ s.2.2 < d ∧ 0 ≤ s.2.1) (fun s => s.1) (34, 0, 0) ⟨Nat.le_refl _, by simp only; rw [show (v2 - v1) / 2 ^ 34 = 0 from Int.ediv_eq_zero_of_lt hm.1 (by have : (2 : Int) ^ 34 = 17179869184 := rfl; omega)]; simp, by simp, hd.1, by simp⟩ (Heap.Le.refl _) rfl ?_
      rintro ⟨k, n1, r1⟩ g ⟨c1, c2, c3, c4, c5⟩
      simp only at c1 c2 c3 c4 c5
      obtain ⟨c6, c7⟩ := pw_le c1
      cases k with
      | zero =>
        obtain ⟨f1, f2⟩ := fin n1 r1 (by simpa using c2) c3 c4
        have t0 : ¬ (0 : Int) < pw 0 := by decide
        have t1 : pw 0 = 0 := rfl
        clear c2
        rw [t1]
        (all_goals (try simp only [Sq,Sr,Sh,Si,Sl,Bu,Bb,Bd,Bc,Bw,Bn,Int.reduceAdd,Int.reduceSub,Int.reduceMul,Int.reduceTDiv,Int.reduceTMod,Int.reduceMod,Int.reduceDiv,Nat.reduceLT,Nat.reduceEqDiff,Sa,Sb,Sc,Sd,Se,Sf,Sg,Int.reduceLE,Int.reduceLT,Int.reduceToNat,Int.reduceNeg,Int.reduceEq,Nat.reduceLeDiff,Nat.reducePow,Int.reducePow,reduceIte,Nat.reduceSub,Nat.reduceAdd,Nat.reduceMul,putAt,ceq,List.replicate, *])); repeat' ((first | (with_reducible refine fun _ : True => ?_) | (with_reducible refine any_h ?_) | ((first | refine AllocQ_i ?_ | refine AllocO_i ?_); intro bk hb0 hbk; try simp only [set_none'] at hbk) | ((first | refine condS_i ?_ ?_ | refine pick_i ?_ ?_ | refine gS_it ?_ ?_ | refine gS_if ?_ ?_ | refine gP_it ?_ ?_ | refine gP_if ?_ ?_) <;> (intro hc; try simp only [Int.reduceLE,Int.reduceLT,Int.reduceEq,Sn] at hc)) | (with_reducible refine KP_i ?_ ?_; · (repeat' (first | exact Heap.Le.refl _ | (refine Le_fresh (by first | exact (by simp only [*]) | exact (by simp [set_none', *])) ?_) | (refine Heap.Le.trans ?_ (Grow.le (by assumption)))))) | (with_reducible refine And.intro ?_ ?_)) <;> (try simp only [Sq,Sr,Sh,Si,Sl,Bu,Bb,Bd,Bc,Bw,Bn,Int.reduceAdd,Int.reduceSub,Int.reduceMul,Int.reduceTDiv,Int.reduceTMod,Int.reduceMod,Int.reduceDiv,Nat.reduceLT,Nat.reduceEqDiff,Sa,Sb,Sc,Sd,Se,Sf,Sg,Int.reduceLE,Int.reduceLT,Int.reduceToNat,Int.reduceNeg,Int.reduceEq,Nat.reduceLeDiff,Nat.reducePow,Int.reducePow,reduceIte,Nat.reduceSub,Nat.reduceAdd,Nat.reduceMul,putAt,ceq,List.replicate, *]))
        subst f1 f2
        exact ⟨(), rfl, rfl, rfl, trivial⟩
      | succ k =>
        have t0 := pw_pos k
        have t1 : (v2 - v1).tdiv (pw (k + 1)) = (v2 - v1) / 2 ^ k := Int.tdiv_eq_ediv_of_nonneg hm.1
        have t2 := pw_half k
        have t3 := pw_div (v2 - v1) k
        have t4 : ¬ pw (k + 1) = 0 := by omega
        obtain ⟨c8, c9⟩ := pw_le (show k ≤ 34 by omega)
        have t5 : IntKind.i64.wrap (pw k) = pw k := Bw.1 _ (by omega) (by omega)
        have s0 : 0 ≤ (v2 - v1) / 2 ^ k := Int.ediv_nonneg hm.1 (Int.le_of_lt (Int.pow_pos (by omega)))
        have s1 : (v2 - v1) / 2 ^ k ≤ (v2 - v1) := Int.ediv_le_self _ hm.1
        obtain ⟨sv, es⟩ : ∃ sv, (v2 - v1) / 2 ^ k = sv := ⟨_, rfl⟩
        obtain ⟨su, eu⟩ : ∃ su, (v2 - v1) / 2 ^ (k + 1) = su := ⟨_, rfl⟩
        rw [es] at t1 t3 s0 s1
        rw [eu] at t3 c2
        have hsq : sv * q = 2 * (n1 * d + r1) + sv % 2 * q := by
          rw [← c2]
          have : sv * q = (2 * su + sv % 2) * q := by rw [← t3]
          rw [this, Int.add_mul, Int.mul_assoc]
        have hsd : sv * q ≤ sv * d := Int.mul_le_mul_of_nonneg_left hq.2 s0
        have bnd : ∀ n2 r2 : Int, n2 * d + r2 = sv * q → 0 ≤ r2 → n2 ≤ 4294967296 := fun n2 r2 h0 h1 => by
          rcases (by omega : n2 ≤ 4294967296 ∨ 4294967297 ≤ n2) with h | h
          · exact h
          · have := Int.mul_le_mul_of_nonneg_right h (Int.le_of_lt hd.1)
            have h6 : sv * d ≤ 4294967295 * d := Int.mul_le_mul_of_nonneg_right (by omega) (Int.le_of_lt hd.1)
            omega
        have bn1 : n1 ≤ 4294967296 := by
          have h7 : su * q ≤ su * d := Int.mul_le_mul_of_nonneg_left hq.2 (by omega)
          have h6 : su * d ≤ 4294967295 * d := Int.mul_le_mul_of_nonneg_right (by omega) (Int.le_of_lt hd.1)
          rcases (by omega : n1 ≤ 4294967296 ∨ 4294967297 ≤ n1) with h | h
          · exact h
          · have := Int.mul_le_mul_of_nonneg_right h (Int.le_of_lt hd.1)
            omega
        have t6 : IntKind.i64.wrap sv = sv := Bw.1 _ (by omega) (by omega)
        have t7 : sv.tmod 2 = sv % 2 := Int.tmod_eq_emod_of_nonneg s0
        have t8 : IntKind.i64.wrap (2 * n1) = 2 * n1 := Bw.1 _ (by omega) (by omega)
        have t9 : IntKind.i64.wrap (2 * r1) = 2 * r1 := Bw.1 _ (by omega) (by omega)
        have t10 : IntKind.i64.wrap (2 * r1 + q) = 2 * r1 + q := Bw.1 _ (by omega) (by omega)
        replace bnd : Keep _ := bnd
        replace hsq : Keep _ := hsq
        have hC0 : Keep (2 * n1 * d + 2 * r1 = 2 * (n1 * d + r1)) := by unfold Keep; rw [Int.mul_add, Int.mul_assoc]
        have es2 : Keep ((v2 - v1) / 2 ^ k = sv) := es
        clear t3 c2 eu es hsd key e1 fin
        rcases (by omega : sv % 2 = 0 ∨ sv % 2 = 1) with he | he
        all_goals (have t11 : IntKind.i64.wrap (sv % 2) = sv % 2 := Bw.1 _ (by omega) (by omega))
        all_goals (unfold Keep at hsq hC0; rw [he] at hsq t7)
        all_goals clear t11
        all_goals (have t12 : IntKind.i64.wrap 0 = 0 := rfl)
        all_goals (have t13 : IntKind.i64.wrap 1 = 1 := rfl)
        all_goals ((all_goals (try simp only [Sq,Sr,Sh,Si,Sl,Bu,Bb,Bd,Bc,Bw,Bn,Int.reduceAdd,Int.reduceSub,Int.reduceMul,Int.reduceTDiv,Int.reduceTMod,Int.reduceMod,Int.reduceDiv,Nat.reduceLT,Nat.reduceEqDiff,Sa,Sb,Sc,Sd,Se,Sf,Sg,Int.reduceLE,Int.reduceLT,Int.reduceToNat,Int.reduceNeg,Int.reduceEq,Nat.reduceLeDiff,Nat.reducePow,Int.reducePow,reduceIte,Nat.reduceSub,Nat.reduceAdd,Nat.reduceMul,putAt,ceq,List.replicate, *])); repeat' ((first | (with_reducible refine fun _ : True => ?_) | (with_reducible refine any_h ?_) | ((first | refine AllocQ_i ?_ | refine AllocO_i ?_); intro bk hb0 hbk; try simp only [set_none'] at hbk) | ((first | refine condS_i ?_ ?_ | refine pick_i ?_ ?_ | refine gS_it ?_ ?_ | refine gS_if ?_ ?_ | refine gP_it ?_ ?_ | refine gP_if ?_ ?_) <;> (intro hc; try simp only [Int.reduceLE,Int.reduceLT,Int.reduceEq,Sn] at hc)) | (with_reducible refine KP_i ?_ ?_; · (repeat' (first | exact Heap.Le.refl _ | (refine Le_fresh (by first | exact (by simp only [*]) | exact (by simp [set_none', *])) ?_) | (refine Heap.Le.trans ?_ (Grow.le (by assumption)))))) | (with_reducible refine And.intro ?_ ?_)) <;> (try simp only [Sq,Sr,Sh,Si,Sl,Bu,Bb,Bd,Bc,Bw,Bn,Int.reduceAdd,Int.reduceSub,Int.reduceMul,Int.reduceTDiv,Int.reduceTMod,Int.reduceMod,Int.reduceDiv,Nat.reduceLT,Nat.reduceEqDiff,Sa,Sb,Sc,Sd,Se,Sf,Sg,Int.reduceLE,Int.reduceLT,Int.reduceToNat,Int.reduceNeg,Int.reduceEq,Nat.reduceLeDiff,Nat.reducePow,Int.reducePow,reduceIte,Nat.reduceSub,Nat.reduceAdd,Nat.reduceMul,putAt,ceq,List.replicate, *])))
        all_goals refine loop_g 14 (fun s : Int × Int => [(11, .int .i64 s.1), (12, .int .i64 s.2)]) (fun _ => H) (fun s => s.1 * d + s.2 = sv * q ∧ 0 ≤ s.2 ∧ s.2 ≤ 3 * d ∧ 0 ≤ s.1) (fun s => s.2.toNat) (2 * n1, _) ⟨?_, ?_, ?_, ?_⟩ (Heap.Le.refl _) rfl ?_
        all_goals try (simp only; omega)
        all_goals (rintro ⟨n2, r2⟩ g2 ⟨b1, b2, b3, b4⟩; simp only at b1 b2 b3 b4)
        all_goals (have b5 := bnd n2 r2 b1 b2)
        all_goals (have b6 : IntKind.i64.wrap (r2 - d) = r2 - d := Bw.1 _ (by omega) (by omega))
        all_goals (have b7 : IntKind.i64.wrap (n2 + 1) = n2 + 1 := Bw.1 _ (by omega) (by omega))
        all_goals (have b8 : (n2 + 1) * d + (r2 - d) = sv * q := by rw [Int.add_mul, Int.one_mul]; omega)
        all_goals (replace b1 : Keep _ := b1; replace b8 : Keep _ := b8; replace hsq : Keep _ := hsq; clear hC0)
        all_goals by_cases b9 : d ≤ r2
        all_goals ((all_goals (try simp only [Sq,Sr,Sh,Si,Sl,Bu,Bb,Bd,Bc,Bw,Bn,Int.reduceAdd,Int.reduceSub,Int.reduceMul,Int.reduceTDiv,Int.reduceTMod,Int.reduceMod,Int.reduceDiv,Nat.reduceLT,Nat.reduceEqDiff,Sa,Sb,Sc,Sd,Se,Sf,Sg,Int.reduceLE,Int.reduceLT,Int.reduceToNat,Int.reduceNeg,Int.reduceEq,Nat.reduceLeDiff,Nat.reducePow,Int.reducePow,reduceIte,Nat.reduceSub,Nat.reduceAdd,Nat.reduceMul,putAt,ceq,List.replicate, *])); repeat' ((first | (with_reducible refine fun _ : True => ?_) | (with_reducible refine any_h ?_) | ((first | refine AllocQ_i ?_ | refine AllocO_i ?_); intro bk hb0 hbk; try simp only [set_none'] at hbk) | ((first | refine condS_i ?_ ?_ | refine pick_i ?_ ?_ | refine gS_it ?_ ?_ | refine gS_if ?_ ?_ | refine gP_it ?_ ?_ | refine gP_if ?_ ?_) <;> (intro hc; try simp only [Int.reduceLE,Int.reduceLT,Int.reduceEq,Sn] at hc)) | (with_reducible refine KP_i ?_ ?_; · (repeat' (first | exact Heap.Le.refl _ | (refine Le_fresh (by first | exact (by simp only [*]) | exact (by simp [set_none', *])) ?_) | (refine Heap.Le.trans ?_ (Grow.le (by assumption)))))) | (with_reducible refine And.intro ?_ ?_)) <;> (try simp only [Sq,Sr,Sh,Si,Sl,Bu,Bb,Bd,Bc,Bw,Bn,Int.reduceAdd,Int.reduceSub,Int.reduceMul,Int.reduceTDiv,Int.reduceTMod,Int.reduceMod,Int.reduceDiv,Nat.reduceLT,Nat.reduceEqDiff,Sa,Sb,Sc,Sd,Se,Sf,Sg,Int.reduceLE,Int.reduceLT,Int.reduceToNat,Int.reduceNeg,Int.reduceEq,Nat.reduceLeDiff,Nat.reducePow,Int.reducePow,reduceIte,Nat.reduceSub,Nat.reduceAdd,Nat.reduceMul,putAt,ceq,List.replicate, *])))
        all_goals first
          | exact Round_mk (n2 + 1, r2 - d) ⟨b8, by simp only; omega, by simp only; omega, by simp only; omega⟩ (by simp only; omega) (Heap.Le.refl _) rfl rfl
          | exact Round_mk (k, n2, r2) ⟨by simp only; omega, (by simp only; rw [es2]; exact b1.symm), b2, by simp only; omega, b4⟩ (by simp only; omega) (Heap.Le.refl _) rfl rfl
          | trace_state
    · rintro s f -
      have hmq : (v2 - v1) * q = n * d + r := e1.symm
      have hk := near_up (v1 := v1) hmq e2 e3
      rw [show v1 + (v2 - v1) = v2 by omega] at hk
      unfold Keep at key
      rw [hk] at key
      replace key : Keep _ := key
      clear hk hmq ev e1
      (all_goals (try simp only [Sq,Sr,Sh,Si,Sl,Bu,Bb,Bd,Bc,Bw,Bn,Int.reduceAdd,Int.reduceSub,Int.reduceMul,Int.reduceTDiv,Int.reduceTMod,Int.reduceMod,Int.reduceDiv,Nat.reduceLT,Nat.reduceEqDiff,Sa,Sb,Sc,Sd,Se,Sf,Sg,Int.reduceLE,Int.reduceLT,Int.reduceToNat,Int.reduceNeg,Int.reduceEq,Nat.reduceLeDiff,Nat.reducePow,Int.reducePow,reduceIte,Nat.reduceSub,Nat.reduceAdd,Nat.reduceMul,putAt,ceq,List.replicate, *])); repeat' ((first | (with_reducible refine fun _ : True => ?_) | refine r_Raw _ ?_ | (with_reducible refine any_h ?_) | ((first | refine AllocQ_i ?_ | refine AllocO_i ?_); intro bk hb0 hbk; try simp only [set_none'] at hbk) | ((first | refine condS_i ?_ ?_ | refine pick_i ?_ ?_ | refine gS_it ?_ ?_ | refine gS_if ?_ ?_ | refine gP_it ?_ ?_ | refine gP_if ?_ ?_) <;> (intro hc; try simp only [Int.reduceLE,Int.reduceLT,Int.reduceEq,Sn] at hc)) | (with_reducible refine KP_i ?_ ?_; · (repeat' (first | exact Heap.Le.refl _ | (refine Le_fresh (by first | exact (by simp only [*]) | exact (by simp [set_none', *])) ?_) | (refine Heap.Le.trans ?_ (Grow.le (by assumption)))))) | (with_reducible refine And.intro ?_ ?_)) <;> (try simp only [Sq,Sr,Sh,Si,Sl,Bu,Bb,Bd,Bc,Bw,Bn,Int.reduceAdd,Int.reduceSub,Int.reduceMul,Int.reduceTDiv,Int.reduceTMod,Int.reduceMod,Int.reduceDiv,Nat.reduceLT,Nat.reduceEqDiff,Sa,Sb,Sc,Sd,Se,Sf,Sg,Int.reduceLE,Int.reduceLT,Int.reduceToNat,Int.reduceNeg,Int.reduceEq,Nat.reduceLeDiff,Nat.reducePow,Int.reducePow,reduceIte,Nat.reduceSub,Nat.reduceAdd,Nat.reduceMul,putAt,ceq,List.replicate, *]))
      all_goals (refine key _ _ (Heap.Le.refl _) ?_; congr 1; split <;> omega)
end Go.Proofs.Ytokjajfojjibcaa
