/- Plain laws for layer 4: a sine turns with its number's sign. No program is in sight. -/
import Derived.Test.YtjjklckfbdaadaaPf
set_option linter.unusedSimpArgs false
set_option linter.unusedVariables false
set_option maxRecDepth 10000
namespace Pb
open Go HL

theorem dmul {d s e U : Int} (h : -e ≤ d ∧ d ≤ e) (hs : 0 ≤ s ∧ s ≤ U) : -(e * U) ≤ d * s ∧ d * s ≤ e * U := by
  have he : 0 ≤ e := by omega
  have a1 : d * s ≤ e * s := Int.mul_le_mul_of_nonneg_right h.2 hs.1
  have a2 : e * s ≤ e * U := Int.mul_le_mul_of_nonneg_left hs.2 he
  have a3 : -e * s ≤ d * s := Int.mul_le_mul_of_nonneg_right h.1 hs.1
  rw [Int.neg_mul] at a3
  omega
theorem dprod {y y' s s' e Y : Int} (h : -e ≤ y' - y ∧ y' - y ≤ e) (hs : 0 ≤ s' ∧ s' ≤ 1073741824) (hy : 0 ≤ y ∧ y ≤ Y) (hd : 0 ≤ s' - s ∧ s' - s ≤ 3) : -(e * 1073741824 + Y * 3) ≤ y' * s' - y * s ∧ y' * s' - y * s ≤ e * 1073741824 + Y * 3 := by
  have a := dmul h hs
  have b1 : y * (s' - s) ≤ Y * 3 := Int.mul_le_mul hy.2 hd.2 hd.1 (by omega)
  have b0 : 0 ≤ y * (s' - s) := Int.mul_nonneg hy.1 hd.1
  have e1 : y' * s' - y * s = (y' - y) * s' + y * (s' - s) := by rw [Int.sub_mul, Int.mul_sub]; omega
  omega
theorem sinZ_next {r : Int} (h0 : 0 ≤ r) (h1 : r + 1 ≤ 1073741824) : -2 ≤ sinZ (r + 1) - sinZ r ∧ sinZ (r + 1) - sinZ r ≤ 2 := by
  have hr : 0 ≤ r ∧ r ≤ 1073741824 := by omega
  have hr' : 0 ≤ r + 1 ∧ r + 1 ≤ 1073741824 := by omega
  have hs := sd_b hr
  have hs' := sd_b hr'
  have e : (r + 1) * (r + 1) = r * r + 2 * r + 1 := by rw [Int.mul_add, Int.add_mul]; omega
  have hd : 0 ≤ sd (r + 1) - sd r ∧ sd (r + 1) - sd r ≤ 3 := by unfold sd; rw [e]; omega
  obtain ⟨b1, b2, b3, b4⟩ := sy_b hs
  generalize hS : sd r = S at *
  generalize hS' : sd (r + 1) = S' at *
  have d1 : -2 ≤ sy1 S' - sy1 S ∧ sy1 S' - sy1 S ≤ 2 := by unfold sy1; omega
  have p1 := dprod d1 hs' (y := sy1 S) (Y := 5026995) ⟨by omega, by omega⟩ hd
  have d2 : -4 ≤ sy2 S' - sy2 S ∧ sy2 S' - sy2 S ≤ 4 := by unfold sy2; omega
  have p2 := dprod d2 hs' (y := sy2 S) (Y := 85569306) ⟨by omega, by omega⟩ hd
  have d3 : -6 ≤ sy3 S' - sy3 S ∧ sy3 S' - sy3 S ≤ 6 := by unfold sy3; omega
  have p3 := dprod d3 hs' (y := sy3 S) (Y := 693598668) ⟨by omega, by omega⟩ hd
  have d4 : -9 ≤ sy4 S' - sy4 S ∧ sy4 S' - sy4 S ≤ 9 := by unfold sy4; omega
  have p4 := dprod d4 hr' (y := sy4 S) (Y := 1686629713) ⟨by omega, by omega⟩ (s := r) ⟨by omega, by omega⟩
  unfold sinZ sz
  rw [hS, hS']
  (repeat' split) <;> omega
theorem sinZ_lip {a b : Int} (ha : 0 ≤ a ∧ a ≤ 1073741824) (hb : 0 ≤ b ∧ b ≤ 1073741824) (h : -1 ≤ a - b ∧ a - b ≤ 1) : -2 ≤ sinZ a - sinZ b ∧ sinZ a - sinZ b ≤ 2 := by
  rcases (by omega : a = b ∨ a = b + 1 ∨ b = a + 1) with h' | h' | h'
  · rw [h']; omega
  · have := sinZ_next (r := b) hb.1 (by omega); rw [h']; omega
  · have := sinZ_next (r := a) ha.1 (by omega); rw [h']; omega
theorem sinZ_zero : sinZ 0 = 0 := by decide
theorem sinF_q {p : Int} (q : Int) (h : p / 1073741824 = q) : (q = 0 → sinF p = sinZ (p % 1073741824)) ∧ (q = 1 → sinF p = sinZ (1073741824 - p % 1073741824)) ∧ (q = 2 → sinF p = -sinZ (p % 1073741824)) ∧ (q = 3 → sinF p = -sinZ (1073741824 - p % 1073741824)) := by
  unfold sinF sinR
  rw [h]
  refine ⟨fun e => ?_, fun e => ?_, fun e => ?_, fun e => ?_⟩ <;> subst e <;> simp
theorem turn_core {p p' e : Int} (hp : 0 ≤ p ∧ p < 4294967296) (hp' : 0 ≤ p' ∧ p' < 4294967296) (he : e = 0 ∨ e = 1) (h : p + p' + e = 4294967296 ∨ (p = 0 ∧ p' = 0)) : -2 ≤ sinF p + sinF p' ∧ sinF p + sinF p' ≤ 2 := by
  have z0 := sinZ_zero
  have hq : p / 1073741824 = 0 ∨ p / 1073741824 = 1 ∨ p / 1073741824 = 2 ∨ p / 1073741824 = 3 := by omega
  have hq' : p' / 1073741824 = 0 ∨ p' / 1073741824 = 1 ∨ p' / 1073741824 = 2 ∨ p' / 1073741824 = 3 := by omega
  rcases hq with q | q | q | q <;> rcases hq' with q' | q' | q' | q' <;> (try (exfalso; omega))
  · rw [(sinF_q 0 q).1 rfl, (sinF_q 0 q').1 rfl, show p % 1073741824 = 0 by omega, show p' % 1073741824 = 0 by omega]; omega
  · rw [(sinF_q 0 q).1 rfl, (sinF_q 3 q').2.2.2 rfl]
    have := sinZ_lip (a := p % 1073741824) (b := 1073741824 - p' % 1073741824) (by omega) (by omega) (by omega); omega
  · rw [(sinF_q 1 q).2.1 rfl, (sinF_q 2 q').2.2.1 rfl]
    have := sinZ_lip (a := 1073741824 - p % 1073741824) (b := p' % 1073741824) (by omega) (by omega) (by omega); omega
  · rw [(sinF_q 1 q).2.1 rfl, (sinF_q 3 q').2.2.2 rfl]
    have := sinZ_lip (a := 1073741824 - p % 1073741824) (b := 1073741824 - p' % 1073741824) (by omega) (by omega) (by omega); omega
  · rw [(sinF_q 2 q).2.2.1 rfl, (sinF_q 1 q').2.1 rfl]
    have := sinZ_lip (a := p % 1073741824) (b := 1073741824 - p' % 1073741824) (by omega) (by omega) (by omega); omega
  · rw [(sinF_q 2 q).2.2.1 rfl, (sinF_q 2 q').2.2.1 rfl, show p % 1073741824 = 0 by omega, show p' % 1073741824 = 0 by omega]; omega
  · rw [(sinF_q 3 q).2.2.2 rfl, (sinF_q 0 q').1 rfl]
    have := sinZ_lip (a := 1073741824 - p % 1073741824) (b := p' % 1073741824) (by omega) (by omega) (by omega); omega
  · rw [(sinF_q 3 q).2.2.2 rfl, (sinF_q 1 q').2.1 rfl]
    have := sinZ_lip (a := 1073741824 - p % 1073741824) (b := 1073741824 - p' % 1073741824) (by omega) (by omega) (by omega); omega
theorem turn {x : Int} (hx : I32 x) : -2 ≤ fsin x + fsin (-x) ∧ fsin x + fsin (-x) ≤ 2 := by
  unfold fsin sphase
  rw [Int.neg_mul]
  generalize x * 683565276 = X
  have hA : ∃ A e : Int, X / 65536 = A ∧ -X / 65536 = -A - e ∧ (e = 0 ∨ e = 1) := ⟨X / 65536, -(-X / 65536) - X / 65536, rfl, by omega, by omega⟩
  obtain ⟨A, e, h1, h2, h3⟩ := hA
  rw [h1, h2]
  have m1 : ∀ a : Int, 0 ≤ a % 4294967296 ∧ a % 4294967296 < 4294967296 := fun a => by omega
  exact turn_core (e := e) (m1 A) (m1 (-A - e)) h3 (by omega)
theorem circle_x (x : Int) : 4294443008 ≤ fsin x * fsin x + fcos x * fcos x ∧ fsin x * fsin x + fcos x * fcos x < 4295557120 := by
  have hp : 0 ≤ sphase x ∧ sphase x < 4294967296 := by unfold sphase; omega
  have hR : sinR ((sphase x + 1073741824) % 4294967296) = 1073741824 - sinR (sphase x) := by unfold sinR; (repeat' split) <;> omega
  have sq : ∀ p : Int, sinF p * sinF p = sinZ (sinR p) * sinZ (sinR p) := fun p => by unfold sinF; split <;> simp [Int.neg_mul_neg]
  unfold fsin fcos
  rw [sq, sq, hR]
  exact circle (sinR_b _).1 (sinR_b _).2
theorem sinF_b (p : Int) : -65536 ≤ sinF p ∧ sinF p ≤ 65536 := by
  have := sinZ_b (sinR_b p)
  unfold sinF; split <;> omega
end Pb
