/- Plain laws for layer 4: roots, bits, powers of 2. No program is in sight. -/
import Derived.Test.YtdmnfaefakceiaaGreatPa
set_option linter.unusedSimpArgs false
set_option linter.unusedVariables false
set_option maxRecDepth 10000
namespace Pb
open Go HL
/-- Kept from the simplifier. -/
def Keep (p : Prop) : Prop := p

def isqN : Nat → Nat
  | 0 => 0
  | n + 1 => if (isqN n + 1) * (isqN n + 1) ≤ n + 1 then isqN n + 1 else isqN n
theorem isqN_spec : ∀ n, isqN n * isqN n ≤ n ∧ n < (isqN n + 1) * (isqN n + 1)
  | 0 => by simp [isqN]
  | n + 1 => by
    have ih := isqN_spec n
    unfold isqN
    generalize isqN n = r at ih
    have e : (r + 1 + 1) * (r + 1 + 1) = (r + 1) * (r + 1) + 2 * r + 3 := by simp only [Nat.add_mul, Nat.mul_add]; omega
    split <;> omega
/-- The greatest number whose square is not above. -/
def isq (n : Int) : Int := isqN n.toNat
theorem isq_spec {n : Int} (h : 0 ≤ n) : 0 ≤ isq n ∧ isq n * isq n ≤ n ∧ n < (isq n + 1) * (isq n + 1) := by
  obtain ⟨h1, h2⟩ := isqN_spec n.toNat
  have e1 : isq n * isq n = ((isqN n.toNat * isqN n.toNat : Nat) : Int) := by unfold isq; rw [Int.natCast_mul]
  have e2 : (isq n + 1) * (isq n + 1) = (((isqN n.toNat + 1) * (isqN n.toNat + 1) : Nat) : Int) := by unfold isq; rw [Int.natCast_mul, Int.natCast_add]; rfl
  have e3 : 0 ≤ isq n := by unfold isq; omega
  rw [e1, e2]
  omega
theorem sq_mono {a b : Int} (ha : 0 ≤ a) (h : a ≤ b) : a * a ≤ b * b := Int.mul_le_mul h h ha (by omega)
theorem isq_uniq {n r : Int} (hr : 0 ≤ r) (h1 : r * r ≤ n) (h2 : n < (r + 1) * (r + 1)) : isq n = r := by
  have hn : 0 ≤ n := by have := Int.mul_nonneg hr hr; omega
  obtain ⟨g0, g1, g2⟩ := isq_spec hn
  rcases Int.lt_trichotomy (isq n) r with h | h | h
  · have := sq_mono (a := isq n + 1) (b := r) (by omega) (by omega); omega
  · exact h
  · have := sq_mono (a := r + 1) (b := isq n) (by omega) (by omega); omega
theorem isq_lt {n k : Int} (hn : 0 ≤ n) (hk : 0 ≤ k) (h : n < k * k) : isq n < k := by
  obtain ⟨g0, g1, g2⟩ := isq_spec hn
  rcases Int.lt_or_le (isq n) k with h' | h'
  · exact h'
  · have := sq_mono hk h'; omega
theorem isq_ge {n k : Int} (hn : 0 ≤ n) (hk : 0 ≤ k) (h : k * k ≤ n) : k ≤ isq n := by
  obtain ⟨g0, g1, g2⟩ := isq_spec hn
  rcases Int.lt_or_le (isq n) k with h' | h'
  · have := sq_mono (a := isq n + 1) (b := k) (by omega) (by omega); omega
  · exact h'
theorem isq_mono {a b : Int} (ha : 0 ≤ a) (h : a ≤ b) : isq a ≤ isq b := by
  obtain ⟨g0, g1, g2⟩ := isq_spec ha
  exact isq_ge (by omega) g0 (by omega)

/-! ### Bits -/
theorem ofInt_nat (w n : Nat) (h : n < 2 ^ w) : (BitVec.ofInt w (n : Int)).toNat = n := by
  rw [BitVec.toNat_ofInt]
  rw [show ((n : Int) % (2 ^ w : Nat)).toNat = n % 2 ^ w by rw [← Int.natCast_emod]; rfl]
  exact Nat.mod_eq_of_lt h
theorem or_u32 (a b : Nat) (ha : a < 4294967296) (hb : b < 4294967296) : bitsI .or .u32 (a : Int) (b : Int) = ((a ||| b : Nat) : Int) := by
  show IntKind.u32.wrap ((BitVec.ofInt 32 a ||| BitVec.ofInt 32 b).toNat : Int) = _
  rw [BitVec.toNat_or, ofInt_nat 32 a ha, ofInt_nat 32 b hb]
  have : a ||| b < 2 ^ 32 := Nat.or_lt_two_pow ha hb
  exact Bu.2.1 _ (by omega) (by omega)
theorem or_pow (r : Int) (k : Nat) (h0 : 0 ≤ r) (h1 : r % 2 ^ (k + 1) = 0) (h2 : r + 2 ^ k < 4294967296) : bitsI .or .u32 r (2 ^ k) = r + 2 ^ k := by
  obtain ⟨n, rfl⟩ := Int.eq_ofNat_of_zero_le h0
  have e : ((2 : Int) ^ k) = ((2 ^ k : Nat) : Int) := by simp
  have e' : ((2 : Int) ^ (k + 1)) = ((2 ^ (k + 1) : Nat) : Int) := by simp
  have hp : 0 < 2 ^ k := Nat.two_pow_pos k
  rw [e] at h2 ⊢
  rw [e'] at h1
  rw [or_u32 n (2 ^ k) (by omega) (by omega)]
  have h3 : n % 2 ^ (k + 1) = 0 := by omega
  have h4 : n = 2 ^ (k + 1) * (n / 2 ^ (k + 1)) := by have := Nat.mod_add_div n (2 ^ (k + 1)); omega
  have h5 := Nat.two_pow_add_eq_or_of_lt (b := 2 ^ k) (i := k + 1) (Nat.pow_lt_pow_right (by omega) (by omega)) (n / 2 ^ (k + 1))
  rw [← h4] at h5
  rw [← h5]
  omega
theorem and_one (k : IntKind) (a : Int) (hk : k = .i32 ∨ k = .i64 ∨ k = .u32 ∨ k = .u64) : bitsI .and k a 1 = a % 2 := by
  have key : ∀ w : Nat, 0 < w → ((BitVec.ofInt w a &&& BitVec.ofInt w 1).toNat : Int) = a % 2 := by
    intro w hw
    have e1 : (BitVec.ofInt w 1).toNat = 1 := by
      have := ofInt_nat w 1 (Nat.one_lt_two_pow (by omega)); simpa using this
    rw [BitVec.toNat_and, e1, Nat.and_one_is_mod, BitVec.toNat_ofInt]
    have hp : (0 : Int) < ((2 ^ w : Nat) : Int) := by have := Nat.two_pow_pos w; omega
    have h1 := Int.emod_nonneg a (b := ((2 ^ w : Nat) : Int)) (by omega)
    have h2 : (((a % ((2 ^ w : Nat) : Int)).toNat % 2 : Nat) : Int) = (a % ((2 ^ w : Nat) : Int)) % 2 := by omega
    rw [h2]
    apply Int.emod_emod_of_dvd
    obtain ⟨v, rfl⟩ : ∃ v, w = v + 1 := ⟨w - 1, by omega⟩
    exact ⟨((2 ^ v : Nat) : Int), by rw [Nat.pow_succ]; simp [Int.mul_comm]⟩
  have hr : 0 ≤ a % 2 ∧ a % 2 < 2 := ⟨Int.emod_nonneg _ (by omega), Int.emod_lt_of_pos _ (by omega)⟩
  rcases hk with rfl | rfl | rfl | rfl
  · show IntKind.i32.wrap _ = _; rw [show ((BitVec.ofInt IntKind.i32.bits a &&& BitVec.ofInt IntKind.i32.bits 1).toNat : Int) = a % 2 from key 32 (by omega)]; exact Bw.2 _ (by omega) (by omega)
  · show IntKind.i64.wrap _ = _; rw [show ((BitVec.ofInt IntKind.i64.bits a &&& BitVec.ofInt IntKind.i64.bits 1).toNat : Int) = a % 2 from key 64 (by omega)]; exact Bw.1 _ (by omega) (by omega)
  · show IntKind.u32.wrap _ = _; rw [show ((BitVec.ofInt IntKind.u32.bits a &&& BitVec.ofInt IntKind.u32.bits 1).toNat : Int) = a % 2 from key 32 (by omega)]; exact Bu.2.1 _ (by omega) (by omega)
  · show IntKind.u64.wrap _ = _; rw [show ((BitVec.ofInt IntKind.u64.bits a &&& BitVec.ofInt IntKind.u64.bits 1).toNat : Int) = a % 2 from key 64 (by omega)]; exact Bu.1 _ (by omega) (by omega)
theorem and_30 (a : Int) (h0 : 0 ≤ a) (h1 : a < 4294967296) : bitsI .and .u32 a 1073741823 = a % 1073741824 := by
  obtain ⟨n, rfl⟩ := Int.eq_ofNat_of_zero_le h0
  show IntKind.u32.wrap ((BitVec.ofInt 32 (n : Int) &&& BitVec.ofInt 32 1073741823).toNat : Int) = _
  rw [BitVec.toNat_and, ofInt_nat 32 n (by omega), show (BitVec.ofInt 32 1073741823).toNat = 2 ^ 30 - 1 by decide, Nat.and_two_pow_sub_one_eq_mod]
  rw [Bu.2.1 _ (by omega) (by omega)]
  omega
theorem or_one (a : Int) (h : -4611686018427387904 ≤ a ∧ a < 4611686018427387904) : bitsI .or .i64 (2 * a) 1 = 2 * a + 1 := by
  show IntKind.i64.wrap ((BitVec.ofInt 64 (2 * a) ||| BitVec.ofInt 64 1).toNat : Int) = _
  have e1 : (BitVec.ofInt 64 1).toNat = 1 := by decide
  have e0 : (BitVec.ofInt 64 (2 * a)).toNat = 2 * (a % 9223372036854775808).toNat := by
    rw [BitVec.toNat_ofInt]; simp; omega
  have e2 := Nat.two_pow_add_eq_or_of_lt (b := 1) (i := 1) (by omega) (a % 9223372036854775808).toNat
  rw [BitVec.toNat_or, e0, e1, show 2 * (a % 9223372036854775808).toNat ||| 1 = 2 * (a % 9223372036854775808).toNat + 1 by simpa using e2.symm]
  simp only [IntKind.wrap, IntKind.bits, IntKind.signed]
  simp
  omega

/-! ### Powers of 2 -/
def tt : Nat → Int := fun k => [1518500250, 1276901417, 1170923762, 1121280436, 1097253708, 1085434106, 1079572136, 1076653033, 1075196443, 1074468888, 1074105294, 1073923544, 1073832680, 1073787251, 1073764537, 1073753181].getD k 0
def td : Nat → Int := fun k => [32768, 16384, 8192, 4096, 2048, 1024, 512, 256, 128, 64, 32, 16, 8, 4, 2, 1].getD k 0
def tb : Nat → Int := fun k => [1073741824, 1518500250, 1805811301, 1969251187, 2056437385, 2101467499, 2124350979, 2135885994, 2141676967, 2144578338, 2146030498, 2146756946, 2147120263, 2147301944, 2147392790, 2147438214, 2147460927].getD k 0
theorem t_fact : ∀ k : Nat, k < 16 → (1073741824 ≤ tt k ∧ tt k ≤ 1518500250) ∧ td k = 2 ^ (15 - k) ∧ tb k * tt k / 1073741824 = tb (k + 1) ∧ tb k ≤ 2147483647 ∧ 1073741824 ≤ tb k := by decide
theorem t_td : ∀ k : Nat, k < 16 → (1 ≤ td k ∧ td k ≤ 32768) ∧ 65536 / td k % 2 = 0 ∧ 65536 % td k = 0 := by decide
/-- The power's digits from number k on, n of them. -/
def exF (x : Int) : Nat → Nat → Int → Int
  | 0, _, r => r
  | n + 1, k, r => exF x n (k + 1) (if x / td k % 2 = 1 then r * tt k / 1073741824 else r)
def expo (x : Int) : Int := if 15 ≤ x / 65536 then 2147483647 else if x / 65536 < -30 then 0 else exF x 16 0 1073741824 / 2 ^ (14 - x / 65536).toNat
theorem ex_step {x r : Int} {k : Nat} (hk : k < 16) (h : 0 ≤ r ∧ r ≤ tb k) : 0 ≤ r * tt k / 1073741824 ∧ r * tt k / 1073741824 ≤ tb (k + 1) ∧ r ≤ tb (k + 1) ∧ 0 ≤ r * tt k ∧ r * tt k ≤ 4611686018427387904 := by
  obtain ⟨⟨h1, h2⟩, h3, h4, h5, h6⟩ := t_fact k hk
  have a1 : 0 ≤ r * tt k := Int.mul_nonneg h.1 (by omega)
  have a2 : r * tt k ≤ tb k * tt k := Int.mul_le_mul_of_nonneg_right h.2 (by omega)
  have a3 : tb k * tt k ≤ 2147483647 * 1518500250 := Int.mul_le_mul h5 h2 (by omega) (by omega)
  have a4 : tb k * 1073741824 ≤ tb k * tt k := Int.mul_le_mul_of_nonneg_left h1 (by omega)
  omega
theorem exF_le (x : Int) : ∀ (n k : Nat) (r : Int), n + k = 16 → 0 ≤ r → r ≤ tb k → 0 ≤ exF x n k r ∧ exF x n k r ≤ tb 16
  | 0, k, r, h, h0, h1 => by
    obtain rfl : k = 16 := by omega
    exact ⟨h0, h1⟩
  | n + 1, k, r, h, h0, h1 => by
    have := ex_step (x := x) (k := k) (by omega) ⟨h0, h1⟩
    unfold exF
    split
    · exact exF_le x n (k + 1) _ (by omega) (by omega) (by omega)
    · exact exF_le x n (k + 1) _ (by omega) (by omega) (by omega)
theorem tdk_cases (k : Nat) (hk : k < 16) : td k = 32768 ∨ td k = 16384 ∨ td k = 8192 ∨ td k = 4096 ∨ td k = 2048 ∨ td k = 1024 ∨ td k = 512 ∨ td k = 256 ∨ td k = 128 ∨ td k = 64 ∨ td k = 32 ∨ td k = 16 ∨ td k = 8 ∨ td k = 4 ∨ td k = 2 ∨ td k = 1 := by
  revert k; decide
theorem ex_bit (x : Int) (k : Nat) (hk : k < 16) : (x - x / 65536 * 65536) / td k % 2 = x / td k % 2 := by
  rcases tdk_cases k hk with h | h | h | h | h | h | h | h | h | h | h | h | h | h | h | h <;> rw [h] <;> omega

/-! ### Logarithms -/
def lg : Nat → Int → Int → Int
  | 0, _, d => d
  | n + 1, m, d => if 2147483648 ≤ m * m / 1073741824 then lg n (m * m / 1073741824 / 2) (2 * d + 1) else lg n (m * m / 1073741824) (2 * d)
theorem lg_shift : ∀ (n : Nat) (m d : Int), lg n m d = d * 2 ^ n + lg n m 0
  | 0, m, d => by simp [lg]
  | n + 1, m, d => by
    unfold lg
    split
    · rw [lg_shift n _ (2 * d + 1), lg_shift n _ (2 * 0 + 1), Int.pow_succ, Int.add_mul]
      rw [show d * (2 ^ n * 2) = 2 * d * 2 ^ n by rw [Int.mul_comm (2 ^ n) 2, ← Int.mul_assoc, Int.mul_comm d 2]]
      simp; omega
    · rw [lg_shift n _ (2 * d), lg_shift n _ (2 * 0), Int.pow_succ]
      rw [show d * (2 ^ n * 2) = 2 * d * 2 ^ n by rw [Int.mul_comm (2 ^ n) 2, ← Int.mul_assoc, Int.mul_comm d 2]]
      simp
def elog (x : Int) : Nat := x.toNat.log2
theorem elog_spec {x : Int} (h : 0 < x) : 2 ^ elog x ≤ x ∧ x < 2 ^ (elog x + 1) := by
  have h1 := Nat.log2_self_le (n := x.toNat) (by omega)
  have h2 := Nat.lt_log2_self (n := x.toNat)
  have e1 : ((2 : Int) ^ elog x) = ((2 ^ x.toNat.log2 : Nat) : Int) := by simp [elog]
  have e2 : ((2 : Int) ^ (elog x + 1)) = ((2 ^ (x.toNat.log2 + 1) : Nat) : Int) := by simp [elog]
  rw [e1, e2]; omega
theorem elog_uniq {x : Int} {a : Nat} (h1 : 2 ^ a ≤ x) (h2 : x < 2 ^ (a + 1)) : elog x = a := by
  have hp : (0 : Int) < 2 ^ a := Int.pow_pos (by omega)
  obtain ⟨g1, g2⟩ := elog_spec (x := x) (by omega)
  have key : ∀ a b : Nat, (2 : Int) ^ a < 2 ^ b → a < b := fun a b h => by
    have e1 : ((2 : Int) ^ a) = ((2 ^ a : Nat) : Int) := by simp
    have e2 : ((2 : Int) ^ b) = ((2 ^ b : Nat) : Int) := by simp
    rw [e1, e2] at h
    exact (Nat.pow_lt_pow_iff_right (a := 2) (by omega)).1 (by omega)
  have h3 := key a (elog x + 1) (by omega)
  have h4 := key (elog x) (a + 1) (by omega)
  omega
def flog (x : Int) : Int := if x ≤ 0 then -2147483648 else lg 16 (x * 2 ^ (30 - elog x)) ((elog x : Int) - 16)
theorem elog_lt {x : Int} (h : 0 < x) (h' : x ≤ 2147483647) : elog x ≤ 30 := by
  obtain ⟨g1, g2⟩ := elog_spec (x := x) (by omega)
  rcases Nat.lt_or_ge (elog x) 31 with h1 | h1
  · omega
  · have : (2 : Int) ^ 31 ≤ 2 ^ elog x := by
      have e2 : ((2 : Int) ^ elog x) = ((2 ^ elog x : Nat) : Int) := by simp
      have := Nat.pow_le_pow_right (n := 2) (by omega) h1
      rw [e2]; omega
    omega
theorem lg_m {x : Int} (h : 0 < x) (h' : x ≤ 2147483647) : 1073741824 ≤ x * 2 ^ (30 - elog x) ∧ x * 2 ^ (30 - elog x) < 2147483648 := by
  obtain ⟨g1, g2⟩ := elog_spec (x := x) (by omega)
  have he := elog_lt h h'
  have hp : (0 : Int) < 2 ^ (30 - elog x) := Int.pow_pos (by omega)
  have a1 : (2 : Int) ^ elog x * 2 ^ (30 - elog x) = 1073741824 := by rw [← Int.pow_add, show elog x + (30 - elog x) = 30 by omega]; rfl
  have a2 : (2 : Int) ^ (elog x + 1) * 2 ^ (30 - elog x) = 2147483648 := by rw [← Int.pow_add, show elog x + 1 + (30 - elog x) = 31 by omega]; rfl
  exact ⟨by rw [← a1]; exact Int.mul_le_mul_of_nonneg_right g1 (by omega), by rw [← a2]; exact Int.mul_lt_mul_of_pos_right g2 hp⟩
def lenL : List UInt8 := [0, 1, 2, 2, 3, 3, 3, 3, 4, 4, 4, 4, 4, 4, 4, 4, 5, 5, 5, 5, 5, 5, 5, 5, 5, 5, 5, 5, 5, 5, 5, 5, 6, 6, 6, 6, 6, 6, 6, 6, 6, 6, 6, 6, 6, 6, 6, 6, 6, 6, 6, 6, 6, 6, 6, 6, 6, 6, 6, 6, 6, 6, 6, 6, 7, 7, 7, 7, 7, 7, 7, 7, 7, 7, 7, 7, 7, 7, 7, 7, 7, 7, 7, 7, 7, 7, 7, 7, 7, 7, 7, 7, 7, 7, 7, 7, 7, 7, 7, 7, 7, 7, 7, 7, 7, 7, 7, 7, 7, 7, 7, 7, 7, 7, 7, 7, 7, 7, 7, 7, 7, 7, 7, 7, 7, 7, 7, 7, 8, 8, 8, 8, 8, 8, 8, 8, 8, 8, 8, 8, 8, 8, 8, 8, 8, 8, 8, 8, 8, 8, 8, 8, 8, 8, 8, 8, 8, 8, 8, 8, 8, 8, 8, 8, 8, 8, 8, 8, 8, 8, 8, 8, 8, 8, 8, 8, 8, 8, 8, 8, 8, 8, 8, 8, 8, 8, 8, 8, 8, 8, 8, 8, 8, 8, 8, 8, 8, 8, 8, 8, 8, 8, 8, 8, 8, 8, 8, 8, 8, 8, 8, 8, 8, 8, 8, 8, 8, 8, 8, 8, 8, 8, 8, 8, 8, 8, 8, 8, 8, 8, 8, 8, 8, 8, 8, 8, 8, 8, 8, 8, 8, 8, 8, 8, 8, 8, 8, 8, 8, 8, 8, 8, 8, 8, 8, 8]
def len8 (y : Nat) : Nat := if y = 0 then 0 else y.log2 + 1
theorem len_tab : ∀ y : Nat, y < 256 → lenL[y]? = some (UInt8.ofNat (len8 y)) := by decide +kernel
theorem len_le : ∀ y : Nat, y < 256 → len8 y ≤ 8 := by decide +kernel
theorem len_hi {x : Int} (n y : Nat) (hy : 0 < y) (h : (2 : Int) ^ n * y ≤ x ∧ x < 2 ^ n * (y + 1)) : (n : Int) + len8 y = elog x + 1 := by
  have h1 := Nat.log2_self_le (n := y) (by omega)
  have h2 := Nat.lt_log2_self (n := y)
  have hp : (0 : Int) < 2 ^ n := Int.pow_pos (by omega)
  have e1 : ((2 ^ y.log2 : Nat) : Int) ≤ y := by omega
  have e2 : (y : Int) + 1 ≤ ((2 ^ (y.log2 + 1) : Nat) : Int) := by omega
  simp at e1 e2
  have : elog x = n + y.log2 := by
    apply elog_uniq
    · rw [Int.pow_add]; exact Int.le_trans (Int.mul_le_mul_of_nonneg_left e1 (by omega)) h.1
    · rw [Nat.add_assoc, Int.pow_add]; exact Int.lt_of_lt_of_le h.2 (Int.mul_le_mul_of_nonneg_left e2 (by omega))
  rw [this, show len8 y = y.log2 + 1 by unfold len8; rw [if_neg (by omega)]]
  omega

/-! ### Sines -/
def sd (r : Int) : Int := r * r / 1073741824
def sy1 (s : Int) : Int := 5026995 - 172272 * s / 1073741824
def sy2 (s : Int) : Int := 85569306 - sy1 s * s / 1073741824
def sy3 (s : Int) : Int := 693598668 - sy2 s * s / 1073741824
def sy4 (s : Int) : Int := 1686629713 - sy3 s * s / 1073741824
def sz (r : Int) : Int := (sy4 (sd r) * r / 1073741824 + 8192) / 16384
def sinZ (r : Int) : Int := if 65536 < sz r then 65536 else sz r
def sinR (p : Int) : Int := if p / 1073741824 % 2 = 1 then 1073741824 - p % 1073741824 else p % 1073741824
def sinF (p : Int) : Int := if 1 < p / 1073741824 then -sinZ (sinR p) else sinZ (sinR p)
def sphase (x : Int) : Int := x * 683565276 / 65536 % 4294967296
def fsin (x : Int) : Int := sinF (sphase x)
def fcos (x : Int) : Int := sinF ((sphase x + 1073741824) % 4294967296)
theorem prod_b {y s Y : Int} (hy : 0 ≤ y ∧ y ≤ Y) (hs : 0 ≤ s ∧ s ≤ 1073741824) : 0 ≤ y * s ∧ y * s ≤ Y * 1073741824 ∧ 0 ≤ y * s / 1073741824 ∧ y * s / 1073741824 ≤ Y := by
  have a1 := Int.mul_nonneg hy.1 hs.1
  have a2 : y * s ≤ Y * 1073741824 := Int.mul_le_mul hy.2 hs.2 hs.1 (by omega)
  omega
theorem sy_b {s : Int} (hs : 0 ≤ s ∧ s ≤ 1073741824) : (4854723 ≤ sy1 s ∧ sy1 s ≤ 5026995) ∧ (80542311 ≤ sy2 s ∧ sy2 s ≤ 85569306) ∧ (608029362 ≤ sy3 s ∧ sy3 s ≤ 693598668) ∧ (993031045 ≤ sy4 s ∧ sy4 s ≤ 1686629713) := by
  have b0 := prod_b (y := 172272) (Y := 172272) ⟨by omega, by omega⟩ hs
  have h1 : 4854723 ≤ sy1 s ∧ sy1 s ≤ 5026995 := by unfold sy1; omega
  have b1 := prod_b (y := sy1 s) (Y := 5026995) ⟨by omega, by omega⟩ hs
  have h2 : 80542311 ≤ sy2 s ∧ sy2 s ≤ 85569306 := by unfold sy2; omega
  have b2 := prod_b (y := sy2 s) (Y := 85569306) ⟨by omega, by omega⟩ hs
  have h3 : 608029362 ≤ sy3 s ∧ sy3 s ≤ 693598668 := by unfold sy3; omega
  have b3 := prod_b (y := sy3 s) (Y := 693598668) ⟨by omega, by omega⟩ hs
  have h4 : 993031045 ≤ sy4 s ∧ sy4 s ≤ 1686629713 := by unfold sy4; omega
  exact ⟨h1, h2, h3, h4⟩
theorem sd_b {r : Int} (hr : 0 ≤ r ∧ r ≤ 1073741824) : 0 ≤ sd r ∧ sd r ≤ 1073741824 := by
  have := prod_b (y := r) (s := r) (Y := 1073741824) hr hr
  unfold sd; omega
theorem sinR_b (p : Int) : 0 ≤ sinR p ∧ sinR p ≤ 1073741824 := by unfold sinR; split <;> omega
theorem sinZ_b {r : Int} (hr : 0 ≤ r ∧ r ≤ 1073741824) : 0 ≤ sinZ r ∧ sinZ r ≤ 65536 := by
  have h4 := (sy_b (sd_b hr)).2.2.2
  have := prod_b (y := sy4 (sd r)) (s := r) (Y := 1686629713) ⟨by omega, by omega⟩ hr
  unfold sinZ sz; split <;> omega
/-- What the walk through the sine asks. -/
theorem sin_facts {r : Int} (hr : 0 ≤ r ∧ r ≤ 1073741824) :
    (IntKind.i64.wrap (r * r) = r * r ∧ r * r / 1073741824 = sd r ∧ IntKind.i64.wrap (172272 * sd r) = 172272 * sd r ∧ IntKind.i64.wrap (5026995 - 172272 * sd r / 1073741824) = sy1 (sd r) ∧
    IntKind.i64.wrap (sy1 (sd r) * sd r) = sy1 (sd r) * sd r ∧ IntKind.i64.wrap (85569306 - sy1 (sd r) * sd r / 1073741824) = sy2 (sd r) ∧
    IntKind.i64.wrap (sy2 (sd r) * sd r) = sy2 (sd r) * sd r ∧ IntKind.i64.wrap (693598668 - sy2 (sd r) * sd r / 1073741824) = sy3 (sd r) ∧
    IntKind.i64.wrap (sy3 (sd r) * sd r) = sy3 (sd r) * sd r ∧ IntKind.i64.wrap (1686629713 - sy3 (sd r) * sd r / 1073741824) = sy4 (sd r) ∧
    IntKind.i64.wrap (sy4 (sd r) * r) = sy4 (sd r) * r ∧ IntKind.i64.wrap (sy4 (sd r) * r / 1073741824 + 8192) = sy4 (sd r) * r / 1073741824 + 8192 ∧ (sy4 (sd r) * r / 1073741824 + 8192) / 16384 = sz r) ∧
    ((0 ≤ r * r ∧ r * r ≤ 1152921504606846976) ∧ (0 ≤ 172272 * sd r ∧ 172272 * sd r ≤ 1152921504606846976) ∧ (0 ≤ sy1 (sd r) * sd r ∧ sy1 (sd r) * sd r ≤ 1152921504606846976) ∧ (0 ≤ sy2 (sd r) * sd r ∧ sy2 (sd r) * sd r ≤ 1152921504606846976) ∧
    (0 ≤ sy3 (sd r) * sd r ∧ sy3 (sd r) * sd r ≤ 1152921504606846976) ∧ (0 ≤ sy4 (sd r) * r ∧ sy4 (sd r) * r ≤ 2305843009213693952) ∧ (0 ≤ sy4 (sd r) * r / 1073741824 ∧ sy4 (sd r) * r / 1073741824 ≤ 2147483648)) := by
  have hs := sd_b hr
  obtain ⟨h1, h2, h3, h4⟩ := sy_b hs
  have br := prod_b (y := r) (s := r) (Y := 1073741824) hr hr
  have b0 := prod_b (y := 172272) (Y := 172272) ⟨by omega, by omega⟩ hs
  have b1 := prod_b (y := sy1 (sd r)) (Y := 5026995) ⟨by omega, by omega⟩ hs
  have b2 := prod_b (y := sy2 (sd r)) (Y := 85569306) ⟨by omega, by omega⟩ hs
  have b3 := prod_b (y := sy3 (sd r)) (Y := 693598668) ⟨by omega, by omega⟩ hs
  have b4 := prod_b (y := sy4 (sd r)) (s := r) (Y := 1686629713) ⟨by omega, by omega⟩ hr
  refine ⟨⟨Bw.1 _ (by omega) (by omega), rfl, Bw.1 _ (by omega) (by omega), Bw.1 _ (by omega) (by omega), Bw.1 _ (by omega) (by omega), Bw.1 _ (by omega) (by omega), Bw.1 _ (by omega) (by omega), Bw.1 _ (by omega) (by omega), Bw.1 _ (by omega) (by omega), Bw.1 _ (by omega) (by omega), Bw.1 _ (by omega) (by omega), Bw.1 _ (by omega) (by omega), rfl⟩, ?_⟩
  omega

/-! ### Lengths -/
def ssq (v : Nat → Int) : Nat → Int
  | 0 => 0
  | k + 1 => ssq v k + v k * v k
def cnt (n : Int) : Nat := if n < 0 then 0 else if 4 < n then 4 else n.toNat
def flen (v : Nat → Int) (n : Int) : Int := if 4611686018427387904 ≤ ssq v (cnt n) then 2147483647 else isq (ssq v (cnt n))
def fnorm (v : Nat → Int) (n : Int) (i : Nat) : Int := if i < cnt n then (if flen v n = 0 then 0 else fdiv (v i) (flen v n)) else 0
theorem sq_b {x : Int} (hx : I32 x) : 0 ≤ x * x ∧ x * x ≤ 4611686018427387904 := by
  have h := hx.mul hx
  have : 0 ≤ x * x := by
    rcases Int.le_total 0 x with h' | h'
    · exact Int.mul_nonneg h' h'
    · exact Int.mul_nonneg_of_nonpos_of_nonpos h' h'
  omega
theorem ssq_b {v : Nat → Int} (hv : ∀ i, I32 (v i)) : ∀ k : Nat, 0 ≤ ssq v k ∧ ssq v k ≤ 4611686018427387904 * k
  | 0 => by simp [ssq]
  | k + 1 => by
    have := ssq_b hv k
    have := sq_b (hv k)
    simp only [ssq]; omega
theorem ssq_mono {v : Nat → Int} (hv : ∀ i, I32 (v i)) : ∀ {j k : Nat}, j ≤ k → ssq v j ≤ ssq v k := by
  intro j k h
  induction h with
  | refl => omega
  | step _ ih => have := sq_b (hv ‹Nat›); simp only [ssq]; rename_i m _; have := sq_b (hv m); omega
theorem flen_raw {v : Nat → Int} (hv : ∀ i, I32 (v i)) (n : Int) : raw (isq (ssq v (cnt n))) = flen v n := by
  have h0 := ssq_b hv (cnt n)
  have h1 := (isq_spec h0.1).1
  unfold flen
  split
  · rename_i h
    have := isq_ge (n := ssq v (cnt n)) (k := 2147483648) h0.1 (by omega) (by omega)
    unfold raw; (repeat' split) <;> omega
  · have := isq_lt (n := ssq v (cnt n)) (k := 2147483648) h0.1 (by omega) (by omega)
    unfold raw; (repeat' split) <;> omega
theorem flen_I32 {v : Nat → Int} (hv : ∀ i, I32 (v i)) (n : Int) : I32 (flen v n) := by rw [← flen_raw hv]; exact raw_I32 _
theorem flen_nn {v : Nat → Int} (hv : ∀ i, I32 (v i)) (n : Int) : 0 ≤ flen v n := by
  have h0 := ssq_b hv (cnt n)
  have h1 := (isq_spec h0.1).1
  unfold flen; split <;> omega
theorem cnt_le (n : Int) : cnt n ≤ 4 := by unfold cnt; (repeat' split) <;> omega
end Pb
