/- Plain laws for layer 23: the school's division of two words by one, in whole numbers. No program is in sight. -/
import Derived.Test.YtokjajfojjibcaaPn
import Derived.Test.YtokjajfojjibcaaPd
set_option linter.unusedSimpArgs false
set_option linter.unusedVariables false
set_option maxRecDepth 10000
namespace Pb
open Go HL

theorem dig_hi {u Y b un yn1 yn0 q r : Int} (hY : Y = yn1 * b + yn0) (h : q * yn1 + r = u) (hb : 0 < b) (hY0 : 0 < Y) (hc : b ≤ q ∨ b * r + un < q * yn0) (hu : u < Y) (hun : un < b) : (u * b + un) / Y < q := by
  rw [Int.ediv_lt_iff_lt_mul hY0]
  rcases hc with hc | hc
  · have h1 : (u + 1) * b ≤ Y * b := Int.mul_le_mul_of_nonneg_right (by omega) (by omega)
    have h2 : b * Y ≤ q * Y := Int.mul_le_mul_of_nonneg_right hc (by omega)
    rw [Int.add_mul, Int.one_mul] at h1
    rw [Int.mul_comm b Y] at h2
    omega
  · subst hY h
    have e1 : (q * yn1 + r) * b = q * (yn1 * b) + b * r := by rw [Int.add_mul, Int.mul_assoc, Int.mul_comm r b]
    have e2 : q * (yn1 * b + yn0) = q * (yn1 * b) + q * yn0 := Int.mul_add _ _ _
    rw [e1, e2]; omega
theorem dig_lo {u Y b un yn1 yn0 q r : Int} (hY : Y = yn1 * b + yn0) (h : q * yn1 + r = u) (hY0 : 0 < Y) (hc : q * yn0 ≤ b * r + un) : q ≤ (u * b + un) / Y := by
  rw [Int.le_ediv_iff_mul_le hY0]
  subst hY h
  have e1 : (q * yn1 + r) * b = q * (yn1 * b) + b * r := by rw [Int.add_mul, Int.mul_assoc, Int.mul_comm r b]
  have e2 : q * (yn1 * b + yn0) = q * (yn1 * b) + q * yn0 := Int.mul_add _ _ _
  rw [e1, e2]; omega
/-- What a digit's loop begins with. -/
theorem dig_init {u Y un yn1 yn0 : Int} (hY : Y = yn1 * 4294967296 + yn0) (h1 : 2147483648 ≤ yn1) (h2 : yn1 < 4294967296) (h3 : 0 ≤ yn0) (h4 : yn0 < 4294967296) (hu0 : 0 ≤ u) (hu : u < Y) (hn : 0 ≤ un) (hn' : un < 4294967296) :
    0 ≤ u / yn1 ∧ u / yn1 ≤ 4294967297 ∧ (u * 4294967296 + un) / Y ≤ u / yn1 ∧ 0 ≤ u - u / yn1 * yn1 ∧ u - u / yn1 * yn1 < 4294967296 ∧ 0 ≤ u / yn1 * yn1 ∧ u / yn1 * yn1 ≤ u := by
  have e1 := Int.mul_ediv_add_emod u yn1
  have e2 := Int.emod_nonneg u (show yn1 ≠ 0 by omega)
  have e3 := Int.emod_lt_of_pos u (show 0 < yn1 by omega)
  have e0 : 0 ≤ u / yn1 := Int.ediv_nonneg hu0 (by omega)
  rw [Int.mul_comm] at e1
  generalize u / yn1 = q at *
  generalize u % yn1 = r at *
  have e4 : 0 ≤ q * yn1 := Int.mul_nonneg e0 (by omega)
  refine ⟨e0, ?_, ?_, by omega, by omega, e4, by omega⟩
  · rcases Int.lt_or_le 4294967297 q with hq | hq
    · have := Int.mul_le_mul_of_nonneg_right (show (4294967298 : Int) ≤ q from hq) (show 0 ≤ yn1 by omega)
      omega
    · exact hq
  · have h5 : (u * 4294967296 + un) / Y < q + 1 := by
      rw [Int.ediv_lt_iff_lt_mul (by omega)]
      have h6 : (u + 1) * 4294967296 ≤ (q * yn1 + yn1) * 4294967296 := Int.mul_le_mul_of_nonneg_right (by omega) (by omega)
      have h7 : (q + 1) * Y = (q * yn1 + yn1) * 4294967296 + (q + 1) * yn0 := by
        rw [hY, Int.mul_add, ← Int.mul_assoc, Int.add_mul q 1 yn1, Int.one_mul]
      have h8 : 0 ≤ (q + 1) * yn0 := Int.mul_nonneg (by omega) h3
      omega
    omega
/-- A digit, and what is left. -/
theorem dig_rest {u Y un : Int} (hY : 0 < Y) (hu0 : 0 ≤ u) (hu : u < Y) (hn : 0 ≤ un) (hn' : un < 4294967296) :
    0 ≤ (u * 4294967296 + un) / Y ∧ (u * 4294967296 + un) / Y < 4294967296 ∧ 0 ≤ u * 4294967296 + un - (u * 4294967296 + un) / Y * Y ∧ u * 4294967296 + un - (u * 4294967296 + un) / Y * Y < Y ∧
    (u * 4294967296 + un) % Y = u * 4294967296 + un - (u * 4294967296 + un) / Y * Y := by
  have e1 := Int.mul_ediv_add_emod (u * 4294967296 + un) Y
  have e2 := Int.emod_nonneg (u * 4294967296 + un) (show Y ≠ 0 by omega)
  have e3 := Int.emod_lt_of_pos (u * 4294967296 + un) hY
  have e0 : 0 ≤ (u * 4294967296 + un) / Y := Int.ediv_nonneg (by omega) (by omega)
  have e4 : (u * 4294967296 + un) / Y < 4294967296 := by rw [Int.ediv_lt_iff_lt_mul hY]; omega
  rw [Int.mul_comm] at e1
  exact ⟨e0, e4, by omega, by omega, by omega⟩
theorem div_normI {hi lo y P R : Int} (hPR : P * R = 18446744073709551616) (hP : 0 < P) (hR : 0 < R) (hlo0 : 0 ≤ lo) (hlo : lo < 18446744073709551616) (hhi : hi < y) :
    0 ≤ lo / R ∧ lo / R < P ∧ hi * P + lo / R < y * P ∧ (hi * P + lo / R) * 18446744073709551616 + lo * P % 18446744073709551616 = (hi * 18446744073709551616 + lo) * P := by
  have h1 : lo / R < P := by rw [Int.ediv_lt_iff_lt_mul hR, hPR]; exact hlo
  have h2 : (hi + 1) * P ≤ y * P := Int.mul_le_mul_of_nonneg_right (by omega) (by omega)
  rw [Int.add_mul, Int.one_mul] at h2
  refine ⟨Int.ediv_nonneg hlo0 (by omega), h1, by omega, ?_⟩
  have h3 : lo * P / 18446744073709551616 = lo / R := by rw [← hPR, Int.mul_comm lo P]; exact Int.mul_ediv_mul_of_pos _ _ hP
  have h4 := Int.mul_ediv_add_emod (lo * P) 18446744073709551616
  rw [h3] at h4
  rw [Int.add_mul, Int.add_mul (hi * 18446744073709551616), Int.mul_right_comm hi P]
  omega
theorem div_finI {X y P un32 un1 un0 : Int} (hy : 0 < y) (hP : 0 < P) (h : (un32 * 4294967296 + un1) * 4294967296 + un0 = X * P) {q1 q0 u r : Int}
    (h1 : un32 * 4294967296 + un1 = q1 * (y * P) + u) (h2 : u * 4294967296 + un0 = q0 * (y * P) + r) (h3 : 0 ≤ r) (h4 : r < y * P) : X / y = q1 * 4294967296 + q0 ∧ X % y = r / P := by
  have hY : 0 < y * P := Int.mul_pos hy hP
  have key : X * P = (q1 * 4294967296 + q0) * (y * P) + r := by
    rw [← h, h1, Int.add_mul, Int.add_mul, Int.mul_right_comm q1 (y * P)]
    omega
  have e1 := Int.mul_ediv_add_emod X y
  have e2 := Int.emod_nonneg X (show y ≠ 0 by omega)
  have e3 := Int.emod_lt_of_pos X hy
  have key' : X * P = X / y * (y * P) + X % y * P := by
    rw [← Int.mul_assoc, ← Int.add_mul, Int.mul_comm (X / y) y, e1]
  have b0 : 0 ≤ X % y * P := Int.mul_nonneg e2 (by omega)
  have b1 : X % y * P < y * P := Int.mul_lt_mul_of_pos_right e3 hP
  obtain ⟨g1, g2⟩ := dm_uniq key h3 h4
  obtain ⟨g3, g4⟩ := dm_uniq key' b0 b1
  refine ⟨by rw [← g3, g1], ?_⟩
  rw [← g2, g4, Int.mul_ediv_cancel _ (by omega)]
theorem pow_int (n : Nat) : ((2 : Int) ^ n) = ((2 ^ n : Nat) : Int) := by simp
theorem elog_le63 {y : Int} (h0 : 0 < y) (h1 : y < 18446744073709551616) : elog y ≤ 63 := by
  obtain ⟨g1, g2⟩ := elog_spec h0
  rcases Nat.lt_or_ge 63 (elog y) with h | h
  · have := Nat.pow_le_pow_right (n := 2) (by omega) h
    rw [pow_int] at g1
    have e : (2 : Nat) ^ (63 + 1) = 18446744073709551616 := rfl
    omega
  · exact h
theorem norm_facts {y : Int} (h0 : 0 < y) (h1 : y < 18446744073709551616) (s : Nat) (hs : s = 63 - elog y) : ∃ P R : Int, (2 : Int) ^ s = P ∧ (2 : Int) ^ (64 - s) = R ∧ 0 < P ∧ 0 < R ∧ P * R = 18446744073709551616 ∧ 9223372036854775808 ≤ y * P ∧ y * P < 18446744073709551616 := by
  have hl := elog_le63 h0 h1
  obtain ⟨g1, g2⟩ := elog_spec h0
  have hP : (0 : Int) < 2 ^ s := Int.pow_pos (by omega)
  refine ⟨_, _, rfl, rfl, hP, Int.pow_pos (by omega), ?_, ?_, ?_⟩
  · rw [← Int.pow_add, show s + (64 - s) = 64 by omega]; rfl
  · have := Int.mul_le_mul_of_nonneg_right g1 (show (0 : Int) ≤ 2 ^ s by omega)
    rw [← Int.pow_add, show elog y + s = 63 by omega] at this
    exact this
  · have := Int.mul_lt_mul_of_pos_right g2 hP
    rw [← Int.pow_add, show elog y + 1 + s = 64 by omega] at this
    exact this
end Pb
