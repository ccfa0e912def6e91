/- Plain laws for layer 4: sines turn with their number's sign, and lie on the circle, nearly. No program is in sight. -/
import Derived.Test.YtjjklckfbdaadaaPd
import Derived.KernelRfl
set_option linter.unusedSimpArgs false
set_option linter.unusedVariables false
set_option maxRecDepth 10000
namespace Pb
open Go HL

/-! Bounds of the sine between two numbers, in whole numbers not below 0. -/
def ivU : Nat := 1073741824
def ivS (a : Nat) : Nat := a * a / 1073741824
def iv4 (p q : Nat) (sl sh : Nat) : Nat × Nat := (p, q)
/-- For s between sl and sh: the last factor lies between the two. -/
def ivY (sl sh : Nat) : Nat × Nat :=
  let y1l := 5026995 - 172272 * sh / 1073741824
  let y1h := 5026995 - 172272 * sl / 1073741824
  let y2l := 85569306 - y1h * sh / 1073741824
  let y2h := 85569306 - y1l * sl / 1073741824
  let y3l := 693598668 - y2h * sh / 1073741824
  let y3h := 693598668 - y2l * sl / 1073741824
  (1686629713 - y3h * sh / 1073741824, 1686629713 - y3l * sl / 1073741824)
def ivZ (y a : Nat) : Nat := Nat.min ((y * a / 1073741824 + 8192) / 16384) 65536
def ivOk (a b : Nat) : Bool :=
  let y := ivY (a * a / 1073741824) (b * b / 1073741824)
  let a' := 1073741824 - b
  let b' := 1073741824 - a
  let y' := ivY (a' * a' / 1073741824) (b' * b' / 1073741824)
  let zl := ivZ y.1 a
  let zh := ivZ y.2 b
  let cl := ivZ y'.1 a'
  let ch := ivZ y'.2 b'
  Nat.ble 4294443008 (zl * zl + cl * cl) && Nat.blt (zh * zh + ch * ch) 4295557120
/-- All pieces of width 32768 from number i on, 2^n of them. -/
def ivAll : Nat → Nat → Bool
  | 0, i => ivOk (i * 32768) (i * 32768 + 32768)
  | n + 1, i => ivAll n (2 * i) && ivAll n (2 * i + 1)
theorem ivAll_at : ∀ (n i j : Nat), ivAll n i = true → i * 2 ^ n ≤ j → j < (i + 1) * 2 ^ n → ivOk (j * 32768) (j * 32768 + 32768) = true
  | 0, i, j, h, h1, h2 => by
    obtain rfl : j = i := by omega
    exact h
  | n + 1, i, j, h, h1, h2 => by
    unfold ivAll at h
    simp only [Bool.and_eq_true] at h
    have e : ∀ k : Nat, 2 * k * 2 ^ n = k * 2 ^ (n + 1) := fun k => by rw [Nat.pow_succ, Nat.mul_comm (2 ^ n) 2, ← Nat.mul_assoc, Nat.mul_comm k 2]
    have e1 := e i
    have e2 := e (i + 1)
    rcases Nat.lt_or_ge j ((2 * i + 1) * 2 ^ n) with hl | hl
    · exact ivAll_at n (2 * i) j h.1 (by omega) hl
    · exact ivAll_at n (2 * i + 1) j h.2 hl (by rw [show 2 * i + 1 + 1 = 2 * (i + 1) by omega]; omega)

theorem mulle {a b c d : Int} (ha : 0 ≤ a) (hc : 0 ≤ c) (h1 : a ≤ b) (h2 : c ≤ d) : a * c / 1073741824 ≤ b * d / 1073741824 :=
  Int.ediv_le_ediv (by omega) (Int.mul_le_mul h1 h2 hc (by omega))
theorem natdiv (a b : Nat) : ((a * b / 1073741824 : Nat) : Int) = (a : Int) * b / 1073741824 := by simp
theorem ivY_sound {s : Int} {sl sh : Nat} (h1 : (sl : Int) ≤ s) (h2 : s ≤ sh) (h3 : sh ≤ 1073741824) : ((ivY sl sh).1 : Int) ≤ sy4 s ∧ sy4 s ≤ ((ivY sl sh).2 : Int) := by
  have hs : 0 ≤ s ∧ s ≤ 1073741824 := ⟨by omega, by omega⟩
  obtain ⟨b1, b2, b3, b4⟩ := sy_b hs
  have hl : 0 ≤ (sl : Int) ∧ (sl : Int) ≤ 1073741824 := ⟨by omega, by omega⟩
  have hh : 0 ≤ (sh : Int) ∧ (sh : Int) ≤ 1073741824 := ⟨by omega, by omega⟩
  obtain ⟨y1l, hy1l⟩ : ∃ y, y = 5026995 - 172272 * sh / 1073741824 := ⟨_, rfl⟩
  obtain ⟨y1h, hy1h⟩ : ∃ y, y = 5026995 - 172272 * sl / 1073741824 := ⟨_, rfl⟩
  obtain ⟨y2l, hy2l⟩ : ∃ y, y = 85569306 - y1h * sh / 1073741824 := ⟨_, rfl⟩
  obtain ⟨y2h, hy2h⟩ : ∃ y, y = 85569306 - y1l * sl / 1073741824 := ⟨_, rfl⟩
  obtain ⟨y3l, hy3l⟩ : ∃ y, y = 693598668 - y2h * sh / 1073741824 := ⟨_, rfl⟩
  obtain ⟨y3h, hy3h⟩ : ∃ y, y = 693598668 - y2l * sl / 1073741824 := ⟨_, rfl⟩
  have e : ivY sl sh = (1686629713 - y3h * sh / 1073741824, 1686629713 - y3l * sl / 1073741824) := by
    subst hy3h hy3l hy2h hy2l hy1h hy1l; rfl
  rw [e]
  have p0l := prod_b (y := 172272) (Y := 172272) ⟨by omega, by omega⟩ hl
  have p0h := prod_b (y := 172272) (Y := 172272) ⟨by omega, by omega⟩ hh
  have m0l := mulle (a := 172272) (b := 172272) (c := sl) (d := s) (by omega) (by omega) (by omega) h1
  have m0h := mulle (a := 172272) (b := 172272) (c := s) (d := sh) (by omega) (by omega) (by omega) h2
  have d1l := natdiv 172272 sh
  have d1h := natdiv 172272 sl
  have k1 : (y1l : Int) ≤ sy1 s ∧ sy1 s ≤ y1h ∧ 4854723 ≤ y1l ∧ y1h ≤ 5026995 := by unfold sy1; omega
  have m1l := mulle (a := y1l) (b := sy1 s) (c := sl) (d := s) (by omega) (by omega) k1.1 h1
  have m1h := mulle (a := sy1 s) (b := y1h) (c := s) (d := sh) (by omega) (by omega) k1.2.1 h2
  have p1h := prod_b (y := (y1h : Int)) (s := sh) (Y := 5026995) ⟨by omega, by omega⟩ hh
  have p1l := prod_b (y := (y1l : Int)) (s := sl) (Y := 5026995) ⟨by omega, by omega⟩ hl
  have d2l := natdiv y1h sh
  have d2h := natdiv y1l sl
  have k2 : (y2l : Int) ≤ sy2 s ∧ sy2 s ≤ y2h ∧ 80542311 ≤ y2l ∧ y2h ≤ 85569306 := by unfold sy2; omega
  have m2l := mulle (a := y2l) (b := sy2 s) (c := sl) (d := s) (by omega) (by omega) k2.1 h1
  have m2h := mulle (a := sy2 s) (b := y2h) (c := s) (d := sh) (by omega) (by omega) k2.2.1 h2
  have p2h := prod_b (y := (y2h : Int)) (s := sh) (Y := 85569306) ⟨by omega, by omega⟩ hh
  have p2l := prod_b (y := (y2l : Int)) (s := sl) (Y := 85569306) ⟨by omega, by omega⟩ hl
  have d3l := natdiv y2h sh
  have d3h := natdiv y2l sl
  have k3 : (y3l : Int) ≤ sy3 s ∧ sy3 s ≤ y3h ∧ 608029362 ≤ y3l ∧ y3h ≤ 693598668 := by unfold sy3; omega
  have m3l := mulle (a := y3l) (b := sy3 s) (c := sl) (d := s) (by omega) (by omega) k3.1 h1
  have m3h := mulle (a := sy3 s) (b := y3h) (c := s) (d := sh) (by omega) (by omega) k3.2.1 h2
  have p3h := prod_b (y := (y3h : Int)) (s := sh) (Y := 693598668) ⟨by omega, by omega⟩ hh
  have p3l := prod_b (y := (y3l : Int)) (s := sl) (Y := 693598668) ⟨by omega, by omega⟩ hl
  have d4l := natdiv y3h sh
  have d4h := natdiv y3l sl
  unfold sy4
  simp only
  omega
theorem ivZ_sound {r y : Int} {a b yl yh : Nat} (h1 : (a : Int) ≤ r) (h2 : r ≤ b) (g1 : (yl : Int) ≤ y) (g2 : y ≤ yh) : ∀ z : Int, z = (y * r / 1073741824 + 8192) / 16384 → ((ivZ yl a : Nat) : Int) ≤ (if 65536 < z then 65536 else z) ∧ (if 65536 < z then 65536 else z) ≤ ((ivZ yh b : Nat) : Int) := by
  intro z hz
  have m1 := mulle (a := yl) (b := y) (c := a) (d := r) (by omega) (by omega) g1 h1
  have m2 := mulle (a := y) (b := yh) (c := r) (d := b) (by omega) (by omega) g2 h2
  have d1 := natdiv yl a
  have d2 := natdiv yh b
  unfold ivZ
  simp only [Nat.min_def]
  (repeat' split) <;> omega
theorem sd_bounds {r : Int} {a b : Nat} (h1 : (a : Int) ≤ r) (h2 : r ≤ b) : ((a * a / 1073741824 : Nat) : Int) ≤ sd r ∧ sd r ≤ ((b * b / 1073741824 : Nat) : Int) := by
  rw [natdiv, natdiv]
  unfold sd
  exact ⟨mulle (by omega) (by omega) h1 h1, mulle (by omega) (by omega) h2 h2⟩
theorem sinZ_iv {r : Int} {a b : Nat} (h1 : (a : Int) ≤ r) (h2 : r ≤ b) (hb : b ≤ 1073741824) :
    ((ivZ (ivY (a * a / 1073741824) (b * b / 1073741824)).1 a : Nat) : Int) ≤ sinZ r ∧ sinZ r ≤ ((ivZ (ivY (a * a / 1073741824) (b * b / 1073741824)).2 b : Nat) : Int) := by
  obtain ⟨s1, s2⟩ := sd_bounds h1 h2
  have hbb := prod_b (y := (b : Int)) (s := b) (Y := 1073741824) ⟨by omega, by omega⟩ ⟨by omega, by omega⟩
  have hd := natdiv b b
  obtain ⟨y1, y2⟩ := ivY_sound s1 s2 (by omega)
  exact ivZ_sound h1 h2 y1 y2 _ rfl
theorem circle_half {r : Int} (h0 : 0 ≤ r) (h1 : r ≤ 536870912) (hall : ∀ j : Nat, j < 16384 → ivOk (j * 32768) (j * 32768 + 32768) = true) : 4294443008 ≤ sinZ r * sinZ r + sinZ (1073741824 - r) * sinZ (1073741824 - r) ∧ sinZ r * sinZ r + sinZ (1073741824 - r) * sinZ (1073741824 - r) < 4295557120 := by
  obtain ⟨j, hj, hj1, hj2⟩ : ∃ j : Nat, j < 16384 ∧ ((j * 32768 : Nat) : Int) ≤ r ∧ r ≤ ((j * 32768 + 32768 : Nat) : Int) := by
    by_cases he : r = 536870912
    · exact ⟨16383, by omega, by omega, by omega⟩
    · exact ⟨(r / 32768).toNat, by omega, by omega, by omega⟩
  have hok := hall j hj
  generalize ha : j * 32768 = a at hok hj1 hj2
  have hb : a + 32768 ≤ 1073741824 := by omega
  obtain ⟨z1, z2⟩ := sinZ_iv hj1 hj2 hb
  obtain ⟨c1, c2⟩ := sinZ_iv (r := 1073741824 - r) (a := 1073741824 - (a + 32768)) (b := 1073741824 - a) (by omega) (by omega) (by omega)
  unfold ivOk at hok
  simp only [Bool.and_eq_true] at hok
  obtain ⟨k1, k2⟩ := hok
  have k1' := Nat.le_of_ble_eq_true k1
  have k2' := Nat.lt_of_lt_of_le (Nat.lt_succ_self _) (Nat.le_of_ble_eq_true k2)
  revert z1 z2 c1 c2 k1' k2'
  generalize ivZ (ivY (a * a / 1073741824) ((a + 32768) * (a + 32768) / 1073741824)).1 a = zl
  generalize ivZ (ivY (a * a / 1073741824) ((a + 32768) * (a + 32768) / 1073741824)).2 (a + 32768) = zh
  generalize ivZ (ivY ((1073741824 - (a + 32768)) * (1073741824 - (a + 32768)) / 1073741824) ((1073741824 - a) * (1073741824 - a) / 1073741824)).1 (1073741824 - (a + 32768)) = cl
  generalize ivZ (ivY ((1073741824 - (a + 32768)) * (1073741824 - (a + 32768)) / 1073741824) ((1073741824 - a) * (1073741824 - a) / 1073741824)).2 (1073741824 - a) = ch
  intro z1 z2 c1 c2 k1' k2'
  have q1 := sq_mono (a := zl) (b := sinZ r) (by omega) z1
  have q2 := sq_mono (a := sinZ r) (b := zh) (by omega) z2
  have q3 := sq_mono (a := cl) (b := sinZ (1073741824 - r)) (by omega) c1
  have q4 := sq_mono (a := sinZ (1073741824 - r)) (b := ch) (by omega) c2
  have n1 : ((zl * zl : Nat) : Int) = (zl : Int) * zl := by simp
  have n2 : ((zh * zh : Nat) : Int) = (zh : Int) * zh := by simp
  have n3 : ((cl * cl : Nat) : Int) = (cl : Int) * cl := by simp
  have n4 : ((ch * ch : Nat) : Int) = (ch : Int) * ch := by simp
  omega
set_option maxRecDepth 100000 in
theorem iv_all : ivAll 14 0 = true := by kernel_rfl
theorem circle {r : Int} (h0 : 0 ≤ r) (h1 : r ≤ 1073741824) : 4294443008 ≤ sinZ r * sinZ r + sinZ (1073741824 - r) * sinZ (1073741824 - r) ∧ sinZ r * sinZ r + sinZ (1073741824 - r) * sinZ (1073741824 - r) < 4295557120 := by
  have hall : ∀ j : Nat, j < 16384 → ivOk (j * 32768) (j * 32768 + 32768) = true := fun j hj => ivAll_at 14 0 j iv_all (by rw [Nat.zero_mul]; exact Nat.zero_le _) (by rw [show (0 + 1) * 2 ^ 14 = 16384 from by decide]; exact hj)
  rcases Int.le_total r 536870912 with h | h
  · exact circle_half h0 h hall
  · have := circle_half (r := 1073741824 - r) (by omega) (by omega) hall
    rw [show 1073741824 - (1073741824 - r) = r by omega] at this
    omega
end Pb
