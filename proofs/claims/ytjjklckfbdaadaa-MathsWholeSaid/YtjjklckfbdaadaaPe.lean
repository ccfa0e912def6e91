/- Plain laws for layer 4: what rises, whole powers, units. No program is in sight. -/
import Derived.Test.YtjjklckfbdaadaaPd
set_option linter.unusedSimpArgs false
set_option linter.unusedVariables false
set_option maxRecDepth 10000
namespace Pb
open Go HL

/-! ### Whole powers -/
theorem whole_fact : ∀ m : Nat, m < 31 → expo (((m : Int) - 16) * 65536) = 2 ^ m ∧ flog (2 ^ m) = ((m : Int) - 16) * 65536 := by decide +kernel

/-! ### What rises -/
theorem raw_mono {a b : Int} (h : a ≤ b) : raw a ≤ raw b := by unfold raw; (repeat' split) <;> omega
theorem ediv_anti {n a b : Int} (hn : 0 ≤ n) (ha : 0 < a) (h : a ≤ b) : n / b ≤ n / a := by
  have hb : 0 < b := by omega
  have h0 : 0 ≤ n / b := Int.ediv_nonneg hn (by omega)
  rw [Int.le_ediv_iff_mul_le ha]
  have h1 : n / b * b ≤ n := Int.ediv_mul_le _ (by omega)
  have h2 : n / b * a ≤ n / b * b := Int.mul_le_mul_of_nonneg_left h h0
  omega
theorem lg_between : ∀ (n : Nat) (m d : Int), d * 2 ^ n ≤ lg n m d ∧ lg n m d < (d + 1) * 2 ^ n
  | 0, m, d => by simp [lg]; omega
  | n + 1, m, d => by
    have hp : (0 : Int) < 2 ^ n := Int.pow_pos (by omega)
    have e : ∀ x : Int, x * 2 ^ (n + 1) = 2 * x * 2 ^ n := fun x => by rw [Int.pow_succ, Int.mul_comm (2 ^ n) 2, ← Int.mul_assoc, Int.mul_comm x 2]
    rw [e, e]
    unfold lg
    split
    · have := lg_between n (m * m / 1073741824 / 2) (2 * d + 1)
      rw [show 2 * d + 1 + 1 = 2 * (d + 1) by omega] at this
      have h2 : 2 * d * 2 ^ n ≤ (2 * d + 1) * 2 ^ n := Int.mul_le_mul_of_nonneg_right (by omega) (by omega)
      omega
    · have := lg_between n (m * m / 1073741824) (2 * d)
      have h2 : (2 * d + 1) * 2 ^ n ≤ 2 * (d + 1) * 2 ^ n := Int.mul_le_mul_of_nonneg_right (by omega) (by omega)
      omega
theorem lg_mono : ∀ (n : Nat) (m m' d : Int), 0 ≤ m → m ≤ m' → lg n m d ≤ lg n m' d
  | 0, m, m', d, _, _ => by simp [lg]
  | n + 1, m, m', d, h0, h => by
    have h1 := sq_mono h0 h
    have h2 := Int.mul_nonneg h0 h0
    unfold lg
    split
    · rw [if_pos (by omega)]
      exact lg_mono n _ _ _ (by omega) (by omega)
    · split
      · have a := lg_between n (m * m / 1073741824) (2 * d)
        have b := lg_between n (m' * m' / 1073741824 / 2) (2 * d + 1)
        omega
      · exact lg_mono n _ _ _ (by omega) (by omega)
theorem flog_mono {a b : Int} (hb : b ≤ 2147483647) (h : a ≤ b) : flog a ≤ flog b := by
  by_cases ha : a ≤ 0
  · by_cases hb' : b ≤ 0
    · unfold flog; rw [if_pos ha, if_pos hb']; omega
    · have hlt := elog_lt (x := b) (by omega) hb
      have k := lg_between 16 (b * 2 ^ (30 - elog b)) ((elog b : Int) - 16)
      unfold flog; rw [if_pos ha, if_neg hb']; omega
  · have hb' : ¬ b ≤ 0 := by omega
    unfold flog; rw [if_neg ha, if_neg hb']
    obtain ⟨a1, a2⟩ := elog_spec (x := a) (by omega)
    obtain ⟨b1, b2⟩ := elog_spec (x := b) (by omega)
    have k1 := lg_between 16 (a * 2 ^ (30 - elog a)) ((elog a : Int) - 16)
    have k2 := lg_between 16 (b * 2 ^ (30 - elog b)) ((elog b : Int) - 16)
    have hle : elog a ≤ elog b := by
      rcases Nat.lt_or_ge (elog b) (elog a) with hl | hl
      · have : (2 : Int) ^ (elog b + 1) ≤ 2 ^ elog a := by
          have e1 : ((2 : Int) ^ (elog b + 1)) = ((2 ^ (elog b + 1) : Nat) : Int) := by simp
          have e2 : ((2 : Int) ^ elog a) = ((2 ^ elog a : Nat) : Int) := by simp
          have := Nat.pow_le_pow_right (n := 2) (by omega) (show elog b + 1 ≤ elog a by omega)
          rw [e1, e2]; omega
        omega
      · exact hl
    rcases Nat.lt_or_ge (elog a) (elog b) with hl | hl
    · have : ((elog a : Int) - 16 + 1) ≤ (elog b : Int) - 16 := by omega
      have := Int.mul_le_mul_of_nonneg_right this (show (0 : Int) ≤ 2 ^ 16 by decide)
      omega
    · rw [show elog b = elog a by omega]
      have hp : (0 : Int) < 2 ^ (30 - elog a) := Int.pow_pos (by omega)
      exact lg_mono 16 _ _ _ (Int.mul_nonneg (by omega) (by omega)) (Int.mul_le_mul_of_nonneg_right h (by omega))
/-- Bounds from above of the products of the powers that are left. -/
def tu : Nat → Int := fun k => [2147460950, 1518484200, 1276887920, 1170911385, 1121268583, 1097242109, 1085422631, 1079560722, 1076641650, 1075185075, 1074457526, 1074093936, 1073912187, 1073821324, 1073775895, 1073753181, 1073741824].getD k 0
theorem tu_fact : ∀ k : Nat, k < 16 → tt k * tu (k + 1) ≤ tu k * 1073741824 ∧ tu (k + 1) + 1 ≤ tt k ∧ 1073741824 ≤ tu (k + 1) ∧ tu (k + 1) ≤ tu k := by decide
theorem exF_up (x : Int) : ∀ (n k : Nat) (r : Int), n + k = 16 → 0 ≤ r → exF x n k r * 1073741824 ≤ r * tu k
  | 0, k, r, h, h0 => by
    obtain rfl : k = 16 := by omega
    simp only [exF]; exact Int.le_of_eq rfl
  | n + 1, k, r, h, h0 => by
    obtain ⟨t1, t2, t3, t4⟩ := tu_fact k (by omega)
    have ht := (t_fact k (by omega)).1.1
    unfold exF
    split
    · have p0 : 0 ≤ r * tt k := Int.mul_nonneg h0 (by omega)
      have ih := exF_up x n (k + 1) (r * tt k / 1073741824) (by omega) (by omega)
      have a1 : r * tt k / 1073741824 * tu (k + 1) * 1073741824 ≤ r * tt k * tu (k + 1) := by
        rw [Int.mul_assoc, Int.mul_comm (tu (k + 1)) 1073741824, ← Int.mul_assoc]
        exact Int.mul_le_mul_of_nonneg_right (by omega) (by omega)
      have a2 : r * tt k * tu (k + 1) ≤ r * (tu k * 1073741824) := by rw [Int.mul_assoc]; exact Int.mul_le_mul_of_nonneg_left t1 h0
      have a3 : r * (tu k * 1073741824) = r * tu k * 1073741824 := by rw [Int.mul_assoc]
      omega
    · have ih := exF_up x n (k + 1) r (by omega) h0
      have := Int.mul_le_mul_of_nonneg_left t4 h0
      omega
theorem exF_ge (x : Int) : ∀ (n k : Nat) (r : Int), n + k = 16 → 0 ≤ r → r ≤ exF x n k r
  | 0, k, r, h, h0 => by simp [exF]
  | n + 1, k, r, h, h0 => by
    have ht := (t_fact k (by omega)).1.1
    have := Int.mul_le_mul_of_nonneg_left ht h0
    unfold exF
    split
    · have := exF_ge x n (k + 1) (r * tt k / 1073741824) (by omega) (by omega); omega
    · exact exF_ge x n (k + 1) r (by omega) h0
theorem td_bits (x y : Int) (k : Nat) (hk : k < 16) (h : x % (2 * td k) ≤ y % (2 * td k)) : (x / td k % 2 = y / td k % 2 ∧ x % td k ≤ y % td k) ∨ (x / td k % 2 = 0 ∧ y / td k % 2 = 1) := by
  rcases tdk_cases k hk with h' | h' | h' | h' | h' | h' | h' | h' | h' | h' | h' | h' | h' | h' | h' | h' <;> rw [h'] at h ⊢ <;> omega
theorem td_next : ∀ k : Nat, k < 15 → td k = 2 * td (k + 1) := by decide
theorem exF_mono (x y : Int) : ∀ (n k : Nat) (r : Int), n + k = 16 → 1073741824 ≤ r → (k < 16 → x % (2 * td k) ≤ y % (2 * td k)) → exF x n k r ≤ exF y n k r
  | 0, k, r, h, h0, hb => by simp [exF]
  | n + 1, k, r, h, h0, hb => by
    obtain ⟨t1, t2, t3, t4⟩ := tu_fact k (by omega)
    have ht := (t_fact k (by omega)).1.1
    have next : x % td k ≤ y % td k → (k + 1 < 16 → x % (2 * td (k + 1)) ≤ y % (2 * td (k + 1))) := fun h1 h2 => by rw [td_next k (by omega)] at h1; exact h1
    have p0 := Int.mul_le_mul_of_nonneg_left ht (show 0 ≤ r by omega)
    unfold exF
    rcases td_bits x y k (by omega) (hb (by omega)) with ⟨h1, h2⟩ | ⟨h1, h2⟩
    · rw [h1]
      split
      · exact exF_mono x y n (k + 1) _ (by omega) (by omega) (next h2)
      · exact exF_mono x y n (k + 1) _ (by omega) h0 (next h2)
    · rw [if_neg (by omega), if_pos h2]
      have a1 := exF_up x n (k + 1) r (by omega) (by omega)
      have a2 := exF_ge y n (k + 1) (r * tt k / 1073741824) (by omega) (by omega)
      have a3 := Int.mul_le_mul_of_nonneg_left t2 (show 0 ≤ r by omega)
      rw [Int.mul_add, Int.mul_one] at a3
      omega
theorem expo_mono {x y : Int} (hx : -2147483648 ≤ x) (hy : y ≤ 2147483647) (h : x ≤ y) : expo x ≤ expo y := by
  have bx := exF_le x 16 0 1073741824 rfl (by omega) (by decide)
  have by' := exF_le y 16 0 1073741824 rfl (by omega) (by decide)
  have gx := exF_ge x 16 0 1073741824 rfl (by omega)
  have gy := exF_ge y 16 0 1073741824 rfl (by omega)
  have hb : tb 16 ≤ 2147483647 := by decide
  unfold expo
  split
  · rw [if_pos (by omega)]; omega
  rename_i n1
  split
  · split
    · omega
    · split
      · omega
      · exact Int.ediv_nonneg by'.1 (Int.le_of_lt (Int.pow_pos (by omega)))
  rename_i n2
  have self := Int.ediv_le_self (a := exF x 16 0 1073741824) (2 ^ (14 - x / 65536).toNat) bx.1
  split
  · omega
  rename_i n3
  rw [if_neg (by omega)]
  have hq : (0 : Int) < 2 ^ (14 - y / 65536).toNat := Int.pow_pos (by omega)
  by_cases hn : x / 65536 = y / 65536
  · rw [hn]
    exact Int.ediv_le_ediv hq (exF_mono x y 16 0 _ rfl (by omega) (fun _ => by show x % 65536 ≤ y % 65536; omega))
  · obtain ⟨j, hj⟩ : ∃ j : Nat, (14 - x / 65536).toNat = 1 + ((14 - y / 65536).toNat + j) := ⟨(14 - x / 65536).toNat - (14 - y / 65536).toNat - 1, by omega⟩
    have hj2 : (0 : Int) < 2 ^ j := Int.pow_pos (by omega)
    rw [hj, Int.pow_add, Int.pow_add, ← Int.ediv_ediv_of_nonneg (by omega), ← Int.ediv_ediv_of_nonneg (by omega)]
    have c1 : exF x 16 0 1073741824 / 2 ^ 1 ≤ exF y 16 0 1073741824 := by show _ / 2 ≤ _; omega
    have c2 := Int.ediv_le_ediv hq c1
    have c3 : 0 ≤ exF x 16 0 1073741824 / 2 ^ 1 / 2 ^ (14 - y / 65536).toNat := Int.ediv_nonneg (by show 0 ≤ _ / 2; omega) (by omega)
    have c4 := Int.ediv_le_self (a := exF x 16 0 1073741824 / 2 ^ 1 / 2 ^ (14 - y / 65536).toNat) (2 ^ j) c3
    omega

/-! ### Units -/
theorem rnd_unit {a l : Int} (ha : 0 ≤ a) (hl : 0 < l) (h : 131072 * a < 131073 * l) : 0 ≤ rnd (a * 65536) l ∧ rnd (a * 65536) l ≤ 65536 := by
  unfold rnd
  refine ⟨Int.ediv_nonneg (by omega) (by omega), ?_⟩
  have : (2 * (a * 65536) + l) / (2 * l) < 65537 := Int.ediv_lt_of_lt_mul (by omega) (by omega)
  omega
theorem ssq_at {v : Nat → Int} (hv : ∀ i, I32 (v i)) {i k : Nat} (h : i < k) : v i * v i ≤ ssq v k := by
  have h1 := ssq_mono hv (show i + 1 ≤ k by omega)
  have h2 := ssq_b hv i
  simp only [ssq] at h1; omega
theorem flen_abs {v : Nat → Int} (hv : ∀ i, I32 (v i)) (n : Int) {i : Nat} (h : i < cnt n) : 131072 * v i < 131073 * flen v n ∨ flen v n = 0 := by
  have h0 := ssq_b hv (cnt n)
  have h1 := ssq_at hv h
  have hx := hv i
  unfold I32 at hx
  unfold flen
  split
  · left; omega
  · obtain ⟨g0, g1, g2⟩ := isq_spec h0.1
    by_cases hz : isq (ssq v (cnt n)) = 0
    · right; exact hz
    · left
      have : v i ≤ isq (ssq v (cnt n)) := by
        rcases Int.le_total (v i) 0 with h' | h'
        · omega
        · have := isq_ge (n := ssq v (cnt n)) h0.1 h' h1; omega
      omega
theorem flen_neg {v : Nat → Int} (n : Int) : flen (fun i => -v i) n = flen v n := by
  have : ∀ k, ssq (fun i => -v i) k = ssq v k := by
    intro k; induction k with
    | zero => rfl
    | succ k ih => simp only [ssq, ih, Int.neg_mul_neg]
  unfold flen; rw [this]
theorem unit_fact {v : Nat → Int} (hv : ∀ i, I32 (v i)) (n : Int) (i : Nat) : (-65536 ≤ fnorm v n i ∧ fnorm v n i ≤ 65536) ∧ (n ≤ i → fnorm v n i = 0) ∧ (0 < v i → 0 ≤ fnorm v n i) ∧ (v i < 0 → fnorm v n i ≤ 0) ∧ (flen v n = 0 → fnorm v n i = 0) := by
  unfold fnorm
  split
  · rename_i hi
    have hin : (i : Int) < n := by unfold cnt at hi; (repeat' split at hi) <;> omega
    split
    · rename_i hz; omega
    · rename_i hz
      have hnn := flen_nn hv n
      have hx := hv i
      unfold I32 at hx
      have key : (-65536 ≤ fdiv (v i) (flen v n) ∧ fdiv (v i) (flen v n) ≤ 65536) ∧ (0 < v i → 0 ≤ fdiv (v i) (flen v n)) ∧ (v i < 0 → fdiv (v i) (flen v n) ≤ 0) := by
        unfold fdiv
        rw [if_neg hz, if_neg (by omega)]
        split
        · rename_i hneg
          -- the bound for what lies below 0
          have hb : 131072 * -v i < 131073 * flen v n := by
            have h0 := ssq_b hv (cnt n)
            have h1 := ssq_at hv hi
            rw [← Int.neg_mul_neg] at h1
            unfold flen at hz ⊢
            split
            · omega
            · rename_i hc
              rw [if_neg hc] at hz
              have := isq_ge (n := ssq v (cnt n)) (k := -v i) h0.1 (by omega) h1
              have := (isq_spec h0.1).1
              omega
          have := rnd_unit (a := -v i) (l := flen v n) (by omega) (by omega) hb
          rw [show -(v i * 65536) = -v i * 65536 by omega]
          unfold raw; (repeat' split) <;> omega
        · rcases flen_abs hv n hi with hb | hb
          · have := rnd_unit (a := v i) (l := flen v n) (by omega) (by omega) hb
            unfold raw; (repeat' split) <;> omega
          · exact absurd hb hz
      omega
  · omega
end Pb
