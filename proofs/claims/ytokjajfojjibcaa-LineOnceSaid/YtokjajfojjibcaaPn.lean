/- Plain laws for layer 23: the nearest number between two, and the school's division of two digits by one. No program is in sight. -/
import Derived.Test.YtokjajfojjibcaaPa
set_option linter.unusedSimpArgs false
set_option linter.unusedVariables false
set_option maxRecDepth 10000
namespace Pb
open Go HL

theorem dm_uniq {N d k r : Int} (h : N = k * d + r) (h0 : 0 ≤ r) (h1 : r < d) : N / d = k ∧ N % d = r := by
  have hd : 0 < d := by omega
  have e : N / d = k := by
    rw [h, Int.add_comm, Int.add_mul_ediv_right _ _ (by omega), Int.ediv_eq_zero_of_lt h0 h1]; omega
  refine ⟨e, ?_⟩
  have := Int.mul_ediv_add_emod N d
  rw [e, Int.mul_comm] at this
  omega

/-- The nearest number to v1 and q over d of what v2 is more; halves away from 0. -/
def rndI (N d : Int) : Int := if 2 * (N % d) > d ∨ (2 * (N % d) = d ∧ 0 ≤ N / d) then N / d + 1 else N / d
def nearI (v1 v2 q d : Int) : Int := rndI (v1 * d + (v2 - v1) * q) d

theorem near_up {v1 m q d n r : Int} (h : m * q = n * d + r) (h0 : 0 ≤ r) (h1 : r < d) : nearI v1 (v1 + m) q d = if 2 * r > d ∨ (2 * r = d ∧ 0 ≤ v1 + n) then v1 + n + 1 else v1 + n := by
  have e : v1 * d + (v1 + m - v1) * q = (v1 + n) * d + r := by
    rw [show v1 + m - v1 = m by omega, h, Int.add_mul]; omega
  obtain ⟨e1, e2⟩ := dm_uniq e h0 h1
  unfold nearI rndI
  rw [e1, e2]
theorem near_dn0 {v1 m q d n : Int} (h : m * q = n * d) (hd : 0 < d) : nearI v1 (v1 - m) q d = v1 - n := by
  have e : v1 * d + (v1 - m - v1) * q = (v1 - n) * d + 0 := by
    rw [show v1 - m - v1 = -m by omega, Int.neg_mul, h, Int.sub_mul]; omega
  obtain ⟨e1, e2⟩ := dm_uniq e (Int.le_refl 0) hd
  unfold nearI rndI
  rw [e1, e2, if_neg (by omega)]
theorem near_dn {v1 m q d n r : Int} (h : m * q = n * d + r) (h0 : 0 < r) (h1 : r < d) : nearI v1 (v1 - m) q d = if 2 * (d - r) > d ∨ (2 * (d - r) = d ∧ 0 ≤ v1 - n - 1) then v1 - n else v1 - n - 1 := by
  have e : v1 * d + (v1 - m - v1) * q = (v1 - n - 1) * d + (d - r) := by
    rw [show v1 - m - v1 = -m by omega, Int.neg_mul, h, Int.sub_mul, Int.sub_mul]; omega
  obtain ⟨e1, e2⟩ := dm_uniq e (by omega) (by omega)
  unfold nearI rndI
  rw [e1, e2]
  split <;> omega

theorem near_between {v1 v2 q d : Int} (hd : 0 < d) (h0 : 0 ≤ q) (h1 : q ≤ d) : (if v2 < v1 then v2 else v1) ≤ nearI v1 v2 q d ∧ nearI v1 v2 q d ≤ (if v2 > v1 then v2 else v1) := by
  have hN : ∀ m : Int, 0 ≤ m → 0 ≤ m * q ∧ m * q ≤ m * d := fun m hm => ⟨Int.mul_nonneg hm h0, Int.mul_le_mul_of_nonneg_left h1 hm⟩
  unfold nearI rndI
  generalize eN : v1 * d + (v2 - v1) * q = N
  have e1 := Int.mul_ediv_add_emod N d
  have e2 := Int.emod_nonneg N (show d ≠ 0 by omega)
  have e3 := Int.emod_lt_of_pos N hd
  generalize N / d = k at *
  generalize N % d = r at *
  have lo : (if v2 < v1 then v2 else v1) * d ≤ N := by
    split
    · have := hN (v1 - v2) (by omega)
      have x : (v2 - v1) * q = -((v1 - v2) * q) := by rw [← Int.neg_mul]; congr 1; omega
      have y : (v1 - v2) * d = v1 * d - v2 * d := Int.sub_mul _ _ _
      omega
    · have := hN (v2 - v1) (by omega); omega
  have hi : N ≤ (if v2 > v1 then v2 else v1) * d := by
    split
    · have := hN (v2 - v1) (by omega)
      have y : (v2 - v1) * d = v2 * d - v1 * d := Int.sub_mul _ _ _
      omega
    · have := hN (v1 - v2) (by omega)
      have x : (v2 - v1) * q = -((v1 - v2) * q) := by rw [← Int.neg_mul]; congr 1; omega
      omega
  generalize (if v2 < v1 then v2 else v1) = L at *
  generalize (if v2 > v1 then v2 else v1) = M at *
  have hL : L ≤ k := by
    rcases Int.lt_or_le k L with h | h
    · have := Int.mul_le_mul_of_nonneg_left (show k + 1 ≤ L by omega) (show 0 ≤ d by omega)
      rw [Int.mul_add, Int.mul_one, Int.mul_comm d L] at this; omega
    · exact h
  have hM : k ≤ M ∧ (k = M → r = 0) := by
    have h3 : k ≤ M := by
      rcases Int.lt_or_le M k with h | h
      · have := Int.mul_le_mul_of_nonneg_left (show M + 1 ≤ k by omega) (show 0 ≤ d by omega)
        rw [Int.mul_add, Int.mul_one, Int.mul_comm d M] at this; omega
      · exact h
    refine ⟨h3, fun e => ?_⟩
    subst e
    rw [Int.mul_comm d k] at e1; omega
  refine ⟨by split <;> omega, ?_⟩
  split
  · rename_i h
    rcases Int.lt_or_le k M with h' | h'
    · omega
    · have : k = M := by omega
      have := hM.2 this
      omega
  · exact hM.1

/-! ### The school's division -/
/-- One digit: what the loop stands at is not below the digit, and at its ends is it. -/
theorem digit_hi {u Y b un yn1 yn0 q r : Nat} (hY : Y = yn1 * b + yn0) (h : q * yn1 + r = u) (hc : b ≤ q ∨ b * r + un < q * yn0) (hu : u < Y) (hun : un < b) : (u * b + un) / Y < q := by
  have hY0 : 0 < Y := by omega
  rw [Nat.div_lt_iff_lt_mul hY0]
  rcases hc with hc | hc
  · have h1 : (u + 1) * b ≤ Y * b := Nat.mul_le_mul_right _ hu
    have h2 : b * Y ≤ q * Y := Nat.mul_le_mul_right _ hc
    rw [Nat.add_mul, Nat.one_mul] at h1
    rw [Nat.mul_comm b Y] at h2
    omega
  · subst hY h
    rw [Nat.mul_add, Nat.add_mul, ← Nat.mul_assoc, Nat.mul_comm b r] at *
    omega
theorem digit_lo {u Y b un yn1 yn0 q r : Nat} (hY : Y = yn1 * b + yn0) (h : q * yn1 + r = u) (hc : q * yn0 ≤ b * r + un) (hY0 : 0 < Y) : q ≤ (u * b + un) / Y := by
  rw [Nat.le_div_iff_mul_le hY0]
  subst hY h
  rw [Nat.mul_add, Nat.add_mul, ← Nat.mul_assoc, Nat.mul_comm b r] at *
  omega
theorem wrap_sub {a b : Int} (h : 0 ≤ a - b) (h' : a - b < 18446744073709551616) : IntKind.u64.wrap (IntKind.u64.wrap a - IntKind.u64.wrap b) = a - b := by
  simp only [IntKind.wrap_u64]; omega
theorem div_norm {hi lo y P R : Nat} (hPR : P * R = 18446744073709551616) (hlo : lo < 18446744073709551616) (hhi : hi < y) :
    lo / R < P ∧ hi * P + lo / R < y * P ∧ (hi * P + lo / R) * 18446744073709551616 + lo * P % 18446744073709551616 = (hi * 18446744073709551616 + lo) * P := by
  have hR : 0 < R := by rcases Nat.eq_zero_or_pos R with e | e; (subst e; omega); exact e
  have hP : 0 < P := by rcases Nat.eq_zero_or_pos P with e | e; (subst e; omega); exact e
  have h1 : lo / R < P := by rw [Nat.div_lt_iff_lt_mul hR, hPR]; exact hlo
  have h2 : (hi + 1) * P ≤ y * P := Nat.mul_le_mul_right _ hhi
  rw [Nat.add_mul, Nat.one_mul] at h2
  refine ⟨h1, by omega, ?_⟩
  have h3 : lo * P / 18446744073709551616 = lo / R := by rw [← hPR, Nat.mul_comm lo P]; exact Nat.mul_div_mul_left _ _ hP
  have h4 := Nat.div_add_mod (lo * P) 18446744073709551616
  rw [h3] at h4
  rw [Nat.add_mul, Nat.add_mul (hi * 18446744073709551616), Nat.mul_right_comm hi P]
  omega
theorem div_fin {X y P b un32 un1 un0 : Nat} (hy : 0 < y) (hP : 0 < P) (h : (un32 * b + un1) * b + un0 = X * P) :
    X / y = (un32 * b + un1) / (y * P) * b + ((un32 * b + un1) % (y * P) * b + un0) / (y * P) ∧ X % y = ((un32 * b + un1) % (y * P) * b + un0) % (y * P) / P := by
  have hY : 0 < y * P := Nat.mul_pos hy hP
  generalize hA : un32 * b + un1 = A at *
  have e1 := Nat.div_add_mod A (y * P)
  generalize hu : A % (y * P) = u at *
  generalize hq : A / (y * P) = q1 at *
  have e2 := Nat.div_add_mod (u * b + un0) (y * P)
  have e3 := Nat.mod_lt (u * b + un0) hY
  generalize hq0 : (u * b + un0) / (y * P) = q0 at *
  generalize hr : (u * b + un0) % (y * P) = r at *
  have key : X * P = (q1 * b + q0) * (y * P) + r := by
    rw [← h, ← e1, Nat.add_mul, Nat.add_mul, Nat.mul_comm (y * P) q1, Nat.mul_right_comm q1 (y * P) b, Nat.mul_comm q0]
    omega
  have k1 : X * P / (y * P) = q1 * b + q0 := by
    rw [key, Nat.mul_comm, Nat.add_comm, Nat.add_mul_div_left _ _ hY, Nat.div_eq_of_lt e3, Nat.zero_add]
  have k2 : X * P % (y * P) = r := by
    rw [key, Nat.mul_comm, Nat.add_comm, Nat.add_mul_mod_self_left, Nat.mod_eq_of_lt e3]
  rw [Nat.mul_div_mul_right _ _ hP] at k1
  rw [Nat.mul_mod_mul_right] at k2
  exact ⟨k1, by rw [← k2, Nat.mul_div_cancel _ hP]⟩
end Pb
