/- The mean of pixels, as numbers and as bytes (layer 8): the plain law. -/
import Derived.Test.YtdaipgnhconfnaaImb
set_option linter.unusedSimpArgs false
set_option linter.unusedVariables false
set_option maxRecDepth 100000
namespace Go.Proofs.Ytdaipgnhconfnaa
open Go Go.HL Go.RowKit Pb

/-- The bits of a format's channels, from the lowest on. -/
def chs (f : Int) : List Nat := if f = 1 then [8, 8, 8, 8] else if f = 2 then [5, 6, 5] else if f = 3 then [4, 4, 4, 4] else if f = 4 then [1, 5, 5, 5] else if f = 7 then [8, 8] else [8]
/-- The number that bytes are, the lowest first. -/
def num : List Int → Int
  | [] => 0
  | b :: t => b + 256 * num t
def digs : Nat → Int → List Int
  | 0, _ => []
  | n + 1, v => v % 256 :: digs n (v / 256)
def atP (ks : List Nat) (j : Nat) : Nat := (ks.take j).sum
def fld (a k : Nat) (n : Int) : Int := n / 2 ^ a % 2 ^ k
def sumF (a k : Nat) : List Int → Int
  | [] => 0
  | n :: t => fld a k n + sumF a k t
def chM (ns : List Int) (a k : Nat) : Int := (sumF a k ns + (ns.length : Int) / 2) / (ns.length : Int)
def mP (ks : List Nat) (ns : List Int) : Nat → Int
  | 0 => 0
  | j + 1 => mP ks ns j + chM ns (atP ks j) (ks.getD j 0) * 2 ^ (atP ks j)
def meanB (f : Int) (ns : List Int) : List Int := digs (sizeI f).toNat (mP (chs f) ns (chs f).length)

theorem num_snoc (b : Int) : ∀ l : List Int, num (l ++ [b]) = num l + b * 256 ^ l.length
  | [] => by simp [num]
  | c :: l => by
    rw [List.cons_append, num, num_snoc b l, num, List.length_cons, Int.pow_succ, Int.mul_add, Int.add_assoc]
    congr 2
    rw [Int.mul_left_comm, Int.mul_comm (256 ^ l.length) 256]
theorem num_b : ∀ l : List Int, (∀ b ∈ l, 0 ≤ b ∧ b ≤ 255) → 0 ≤ num l ∧ num l < 256 ^ l.length
  | [], _ => by simp [num]
  | c :: l, h => by
    have h1 := h c (by simp)
    have h2 := num_b l fun b hb => h b (by simp [hb])
    rw [num, List.length_cons, Int.pow_succ]
    omega
theorem p2 (k : Nat) : (0 : Int) < 2 ^ k := Int.pow_pos (by decide)
theorem fld_b (a k : Nat) (n : Int) : 0 ≤ fld a k n ∧ fld a k n < 2 ^ k := ⟨Int.emod_nonneg _ (by have := p2 k; omega), Int.emod_lt_of_pos _ (p2 k)⟩
theorem sumF_b (a k : Nat) : ∀ ns : List Int, 0 ≤ sumF a k ns ∧ sumF a k ns ≤ (ns.length : Int) * (2 ^ k - 1)
  | [] => by simp [sumF]
  | n :: t => by
    have h1 := fld_b a k n
    have h2 := sumF_b a k t
    have e : ((t.length + 1 : Nat) : Int) * (2 ^ k - 1) = (t.length : Int) * (2 ^ k - 1) + (2 ^ k - 1) := by rw [Int.natCast_add, Int.add_mul]; simp
    rw [sumF, List.length_cons, e]
    omega
theorem sumF_snoc (a k : Nat) (n : Int) : ∀ ns : List Int, sumF a k (ns ++ [n]) = sumF a k ns + fld a k n
  | [] => by simp [sumF]
  | m :: t => by rw [List.cons_append, sumF, sumF_snoc a k n t, sumF, Int.add_assoc]
theorem chM_b (ns : List Int) (a k : Nat) (h : 0 < ns.length) : 0 ≤ chM ns a k ∧ chM ns a k < 2 ^ k := by
  have h1 := sumF_b a k ns
  have h0 : (0 : Int) < (ns.length : Int) := by omega
  unfold chM
  refine ⟨Int.ediv_nonneg (by omega) (by omega), Int.ediv_lt_of_lt_mul h0 ?_⟩
  have e : (ns.length : Int) * (2 ^ k - 1) = 2 ^ k * (ns.length : Int) - (ns.length : Int) := by rw [Int.mul_sub, Int.mul_one, Int.mul_comm]
  omega
theorem atP_succ (ks : List Nat) {j : Nat} (h : j < ks.length) : atP ks (j + 1) = atP ks j + ks.getD j 0 := by
  unfold atP
  rw [← List.take_append_getElem h, List.sum_append]
  simp [List.getD, h]
theorem mP_b (ks : List Nat) (ns : List Int) (hn : 0 < ns.length) : ∀ j, j ≤ ks.length → 0 ≤ mP ks ns j ∧ mP ks ns j < 2 ^ (atP ks j)
  | 0, _ => by simp [mP, atP]
  | j + 1, h => by
    have h1 := mP_b ks ns hn j (by omega)
    have h2 := chM_b ns (atP ks j) (ks.getD j 0) hn
    rw [mP, atP_succ ks (by omega), Int.pow_add]
    have h3 := p2 (atP ks j)
    have h4 : 0 ≤ chM ns (atP ks j) (ks.getD j 0) * 2 ^ (atP ks j) := Int.mul_nonneg h2.1 (by omega)
    have h5 : (chM ns (atP ks j) (ks.getD j 0) + 1) * 2 ^ (atP ks j) ≤ 2 ^ (ks.getD j 0) * 2 ^ (atP ks j) := Int.mul_le_mul_of_nonneg_right (by omega) (by omega)
    rw [Int.add_mul] at h5
    rw [Int.mul_comm (2 ^ atP ks j) _]
    omega
theorem digs_len : ∀ (n : Nat) (v : Int), (digs n v).length = n
  | 0, _ => rfl
  | n + 1, v => by rw [digs, List.length_cons, digs_len n]
theorem digs_b : ∀ (n : Nat) (v : Int), ∀ b ∈ digs n v, 0 ≤ b ∧ b ≤ 255
  | 0, _, b, h => by simp [digs] at h
  | n + 1, v, b, h => by
    rw [digs] at h
    rcases List.mem_cons.1 h with rfl | h
    · omega
    · exact digs_b n _ b h
theorem digs_get : ∀ (n k : Nat) (v : Int), k < n → (digs n v)[k]? = some (v / 256 ^ k % 256)
  | 0, _, _, h => by omega
  | n + 1, 0, v, _ => by simp [digs]
  | n + 1, k + 1, v, h => by
    rw [digs, List.getElem?_cons_succ, digs_get n k _ (by omega), Int.pow_succ, Int.mul_comm, Int.ediv_ediv_of_nonneg (by decide)]
theorem digs_zero : ∀ n, digs n 0 = List.replicate n 0
  | 0 => rfl
  | n + 1 => by rw [digs, show (0 : Int) % 256 = 0 by decide, show (0 : Int) / 256 = 0 by decide, digs_zero n]; rfl
/-- A bit above all that are there is added in one byte. -/
theorem digs_bit : ∀ (S p : Nat) (v : Int), 0 ≤ v → v < 2 ^ p → p / 8 < S → ∃ d : Int, (digs S v)[p / 8]? = some d ∧ 0 ≤ d ∧ d + 2 ^ (p % 8) ≤ 255 ∧ digs S (v + 2 ^ p) = (digs S v).set (p / 8) (d + 2 ^ (p % 8))
  | 0, p, v, _, _, h => by omega
  | S + 1, p, v, h0, h1, h => by
    rcases Nat.lt_or_ge p 8 with hp | hp
    · have e : p / 8 = 0 := by omega
      have e2 : p % 8 = p := by omega
      have b : (2 : Int) ^ p + 2 ^ p ≤ 256 := by
        rcases (show p = 0 ∨ p = 1 ∨ p = 2 ∨ p = 3 ∨ p = 4 ∨ p = 5 ∨ p = 6 ∨ p = 7 by omega) with rfl | rfl | rfl | rfl | rfl | rfl | rfl | rfl <;> decide
      refine ⟨v, ?_, h0, by rw [e2]; omega, ?_⟩
      · rw [e, digs, List.getElem?_cons_zero]; congr 1; omega
      · rw [e, e2, digs, digs, List.set_cons_zero]
        have q1 : (v + 2 ^ p) % 256 = v + 2 ^ p := by omega
        have q2 : (v + 2 ^ p) / 256 = 0 := by omega
        have q3 : v / 256 = 0 := by omega
        rw [q1, q2, q3]
    · obtain ⟨q, rfl⟩ : ∃ q, p = q + 8 := ⟨p - 8, by omega⟩
      have e : (q + 8) / 8 = q / 8 + 1 := by omega
      have e2 : (q + 8) % 8 = q % 8 := by omega
      have e3 : (2 : Int) ^ (q + 8) = 256 * 2 ^ q := by rw [Int.pow_add, Int.mul_comm]; rfl
      rw [e3] at h1 ⊢
      obtain ⟨d, a1, a2, a3, a4⟩ := digs_bit S q (v / 256) (by omega) (by omega) (by omega)
      refine ⟨d, by rw [e, digs, List.getElem?_cons_succ]; exact a1, a2, by rw [e2]; exact a3, ?_⟩
      rw [e, e2, digs, digs, List.set_cons_succ, ← a4]
      rw [show (v + 256 * 2 ^ q) % 256 = v % 256 by omega, show (v + 256 * 2 ^ q) / 256 = v / 256 + 2 ^ q by omega]
theorem mod_succ (m : Int) (i : Nat) : m % 2 ^ (i + 1) = m % 2 ^ i + (m / 2 ^ i % 2) * 2 ^ i := by
  have h := p2 i
  rw [Int.pow_succ]
  have e1 := Int.emod_def m (2 ^ i * 2)
  have e2 := Int.emod_def m (2 ^ i)
  have e3 := Int.emod_def (m / 2 ^ i) 2
  have e4 : m / (2 ^ i * 2) = m / 2 ^ i / 2 := (Int.ediv_ediv_of_nonneg (by omega)).symm
  rw [e1, e2, e3, e4, Int.sub_mul, Int.mul_comm (2 ^ i) (m / 2 ^ i), Int.mul_assoc, Int.mul_left_comm]
  have : 2 ^ i * (2 * (m / 2 ^ i / 2)) = 2 * (m / 2 ^ i / 2) * 2 ^ i := Int.mul_comm _ _
  have : 2 * (2 ^ i * (m / 2 ^ i / 2)) = 2 * (m / 2 ^ i / 2) * 2 ^ i := by rw [Int.mul_assoc, Int.mul_comm (2 ^ i)]
  omega
theorem or_shl (a c : Int) (k : Nat) (h0 : 0 ≤ a) (h1 : a < 2 ^ k) (h2 : 0 ≤ c) (h3 : a + c * 2 ^ k < 4294967296) : bitsI .or .u32 a (c * 2 ^ k) = a + c * 2 ^ k := by
  obtain ⟨m, rfl⟩ := Int.eq_ofNat_of_zero_le h0
  obtain ⟨n, rfl⟩ := Int.eq_ofNat_of_zero_le h2
  have e : ((n : Int) * 2 ^ k) = ((2 ^ k * n : Nat) : Int) := by rw [Int.natCast_mul, Int.natCast_pow, Int.mul_comm]; rfl
  rw [e] at h3 ⊢
  have h4 : m < 2 ^ k := by
    have : ((2 ^ k : Nat) : Int) = (2 : Int) ^ k := by simp
    omega
  rw [or_u32 m (2 ^ k * n) (by omega) (by omega), Nat.or_comm, ← Nat.two_pow_add_eq_or_of_lt h4]
  omega
theorem and_msk (a : Int) (k : Nat) (h0 : 0 ≤ a) (h1 : a < 4294967296) (hk : k ≤ 32) : bitsI .and .u32 a (2 ^ k - 1) = a % 2 ^ k := by
  obtain ⟨m, rfl⟩ := Int.eq_ofNat_of_zero_le h0
  have hp : 0 < 2 ^ k := Nat.two_pow_pos k
  have e : ((2 : Int) ^ k - 1) = ((2 ^ k - 1 : Nat) : Int) := by rw [Int.natCast_sub hp]; simp
  have e2 : ((2 : Int) ^ k) = ((2 ^ k : Nat) : Int) := by simp
  have hk2 : 2 ^ k ≤ 4294967296 := Nat.pow_le_pow_right (n := 2) (by omega) hk
  rw [e, e2]
  show IntKind.u32.wrap ((BitVec.ofInt 32 m &&& BitVec.ofInt 32 ((2 ^ k - 1 : Nat) : Int)).toNat : Int) = _
  rw [BitVec.toNat_and, ofInt_nat 32 m (by omega), ofInt_nat 32 _ (by omega), Nat.and_two_pow_sub_one_eq_mod]
  have := Nat.mod_lt m hp
  rw [Bu.2.1 _ (by omega) (by omega)]
  omega
theorem chs_at (f : Int) : ∀ j, j < (chs f).length → atP (chs f) j + (chs f).getD j 0 ≤ 32 ∧ (chs f).getD j 0 ≤ 8 ∧ 1 ≤ (chs f).getD j 0 := by
  unfold chs
  (repeat' split) <;> decide
theorem chs_all (f : Int) : (chs f).length ≤ 4 ∧ (∀ j, j ≤ (chs f).length → atP (chs f) j ≤ 32) := by
  unfold chs
  (repeat' split) <;> decide
theorem chs_size {f : Int} (h : sizeI f ≠ 0) : atP (chs f) (chs f).length = 8 * (sizeI f).toNat := by
  have : f = 1 ∨ f = 2 ∨ f = 3 ∨ f = 4 ∨ f = 5 ∨ f = 6 ∨ f = 7 := by
    by_cases c : f < 1 ∨ 8 ≤ f
    · exact absurd (sizeI_none c) h
    · omega
  rcases this with rfl | rfl | rfl | rfl | rfl | rfl | rfl <;> decide
theorem size_cases {f : Int} (h : sizeI f ≠ 0) : sizeI f = 1 ∨ sizeI f = 2 ∨ sizeI f = 4 := by
  unfold sizeI at h ⊢
  (repeat' split) <;> simp_all
end Go.Proofs.Ytdaipgnhconfnaa
