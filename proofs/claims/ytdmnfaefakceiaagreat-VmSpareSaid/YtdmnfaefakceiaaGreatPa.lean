/- Plain laws for layers 2 and 3: fixed-point numbers. No program is in sight. -/
import Derived.Test.YtdmnfaefakceiaaGreatHll
set_option linter.unusedSimpArgs false
set_option linter.unusedVariables false
namespace Pb
open Go

def I32 (x : Int) : Prop := -2147483648 ≤ x ∧ x ≤ 2147483647
theorem i32_of {n : Int} (h : decide (-2147483648 ≤ n ∧ n ≤ 2147483647) = true) : I32 n := by unfold I32; exact of_decide_eq_true h
abbrev w64 (n : Int) : Int := IntKind.i64.wrap n
abbrev w32 (n : Int) : Int := IntKind.i32.wrap n

def cut (n lo hi : Int) : Int := if hi < (if lo > n then lo else n) then hi else (if lo > n then lo else n)
def raw (n : Int) : Int := if n < -2147483648 then -2147483648 else if n > 2147483647 then 2147483647 else n

theorem raw_I32 (n : Int) : I32 (raw n) := by unfold I32 raw; (repeat' split) <;> omega
theorem raw_in {n : Int} (h : I32 n) : raw n = n := by unfold I32 at h; unfold raw; (repeat' split) <;> omega
theorem w32_cut (n : Int) : w32 (cut n (-2147483648) 2147483647) = raw n := by
  have h : I32 (cut n (-2147483648) 2147483647) := by unfold I32 cut; (repeat' split) <;> omega
  unfold w32
  rw [IntWalk.i32_in _ h]
  unfold cut raw; (repeat' split) <;> omega

def fadd (a b : Int) : Int := raw (a + b)
def fsub (a b : Int) : Int := raw (a - b)
def fneg (a : Int) : Int := raw (-a)
def fmul (a b : Int) : Int := raw ((a * b + 32768) / 65536)
def ffloor (a : Int) : Int := a / 65536 * 65536
def ffract (a : Int) : Int := a % 65536
def fmax (a b : Int) : Int := if b > a then b else a
def fmin (a b : Int) : Int := if b < a then b else a
def fabs (a : Int) : Int := fmax a (fneg a)
def fsign (a : Int) : Int := if a > 0 then 65536 else if a < 0 then -65536 else 0
/-- The quotient of two numbers not below 0, to the nearest, halves up. -/
def rnd (n d : Int) : Int := (2 * n + d) / (2 * d)
def fdiv (a b : Int) : Int :=
  if b = 0 then (if a > 0 then 2147483647 else if a < 0 then -2147483648 else 0)
  else if b < 0 then (if a > 0 then raw (-rnd (a * 65536) (-b)) else raw (rnd (-(a * 65536)) (-b)))
  else (if a < 0 then raw (-rnd (-(a * 65536)) b) else raw (rnd (a * 65536) b))
def fmod (a b : Int) : Int := fsub a (fmul b (ffloor (fdiv a b)))

theorem w64_in {n : Int} (h : -9223372036854775808 ≤ n) (h' : n ≤ 9223372036854775807) : w64 n = n := IntWalk.i64_in n ⟨h, h'⟩
theorem w32_in {n : Int} (h : I32 n) : w32 n = n := IntWalk.i32_in n h
theorem I32.w64 {a : Int} (h : I32 a) : w64 a = a := by unfold I32 at h; exact w64_in (by omega) (by omega)
theorem I32.mul {a b : Int} (ha : I32 a) (hb : I32 b) : -4611686018427387904 ≤ a * b ∧ a * b ≤ 4611686018427387904 := by
  unfold I32 at ha hb
  have h := Int.natAbs_mul a b
  have h1 : a.natAbs ≤ 2147483648 := by omega
  have h2 : b.natAbs ≤ 2147483648 := by omega
  have h3 : a.natAbs * b.natAbs ≤ 2147483648 * 2147483648 := Nat.mul_le_mul h1 h2
  omega

theorem fadd_eq {a b : Int} (ha : I32 a) (hb : I32 b) : raw (w64 (w64 a + w64 b)) = fadd a b := by
  unfold fadd; rw [ha.w64, hb.w64, w64_in] <;> (unfold I32 at ha hb; omega)
theorem fsub_eq {a b : Int} (ha : I32 a) (hb : I32 b) : raw (w64 (w64 a - w64 b)) = fsub a b := by
  unfold fsub; rw [ha.w64, hb.w64, w64_in] <;> (unfold I32 at ha hb; omega)
theorem fneg_eq {a : Int} (ha : I32 a) : raw (w64 (0 - w64 a)) = fneg a := by
  unfold fneg; rw [ha.w64, w64_in, Int.zero_sub] <;> (unfold I32 at ha; omega)
theorem fmul_eq {a b : Int} (ha : I32 a) (hb : I32 b) : raw ((w64 (w64 (w64 a * w64 b) + 32768)).fdiv 65536) = fmul a b := by
  have := ha.mul hb
  unfold fmul
  rw [ha.w64, hb.w64, w64_in (n := a * b) (by omega) (by omega), w64_in (by omega) (by omega), Int.fdiv_eq_ediv_of_nonneg _ (by omega)]
theorem ffloor_I32 {a : Int} (ha : I32 a) : I32 (ffloor a) := by unfold I32 at *; unfold ffloor; omega
theorem ffloor_eq {a : Int} (ha : I32 a) : w32 (a.fdiv 65536 * 65536) = ffloor a := by
  rw [Int.fdiv_eq_ediv_of_nonneg _ (by omega)]
  exact w32_in (ffloor_I32 ha)
theorem ffract_I32 {a : Int} : I32 (ffract a) := by unfold I32 ffract; omega
theorem fsign_I32 {a : Int} : I32 (fsign a) := by unfold I32 fsign; (repeat' split) <;> omega
theorem fmax_I32 {a b : Int} (ha : I32 a) (hb : I32 b) : I32 (fmax a b) := by unfold fmax; split <;> assumption
theorem fmin_I32 {a b : Int} (ha : I32 a) (hb : I32 b) : I32 (fmin a b) := by unfold fmin; split <;> assumption
theorem fdiv_I32 {a b : Int} : I32 (fdiv a b) := by
  unfold fdiv; (repeat' split) <;> first | exact raw_I32 _ | (unfold I32; omega)

theorem and_lo (a : Int) : HL.bitsI .and .i32 a 65535 = ffract a := by
  show IntKind.i32.wrap ((BitVec.ofInt 32 a &&& BitVec.ofInt 32 65535).toNat : Int) = a % 65536
  have e : (BitVec.ofInt 32 a &&& BitVec.ofInt 32 65535).toNat = (BitVec.ofInt 32 a).toNat % 65536 := by
    rw [BitVec.toNat_and]
    rw [show (BitVec.ofInt 32 65535).toNat = 2 ^ 16 - 1 by decide]
    exact Nat.and_two_pow_sub_one_eq_mod _ 16
  rw [e]
  have e2 : ((BitVec.ofInt 32 a).toNat : Int) = a % 4294967296 := by
    rw [BitVec.toNat_ofInt]; simp; omega
  rw [show (((BitVec.ofInt 32 a).toNat % 65536 : Nat) : Int) = ((BitVec.ofInt 32 a).toNat : Int) % 65536 by omega, e2]
  rw [IntWalk.i32_in _ (by omega)]
  omega

theorem rnd_le {n d : Int} (hn : 0 ≤ n) (hn' : n ≤ 1000000000000000) (hd : 0 < d) (hd' : d ≤ 4294967296) : 0 ≤ rnd n d ∧ rnd n d ≤ 4000000000000000 := by
  unfold rnd
  have h1 : 0 ≤ (2 * n + d) / (2 * d) := Int.ediv_nonneg (by omega) (by omega)
  have h2 : (2 * n + d) / (2 * d) ≤ 2 * n + d := Int.ediv_le_self _ (by omega)
  omega
theorem div_ne {d : Int} (hd : 0 < d) (hd' : d ≤ 4294967296) : ¬ w64 (2 * d) = 0 := by rw [w64_in (by omega) (by omega)]; omega
theorem div_pos {n d : Int} (hn : 0 ≤ n) (hn' : n ≤ 1000000000000000) (hd : 0 < d) (hd' : d ≤ 4294967296) : w64 ((w64 (w64 (2 * n) + d)).tdiv (w64 (2 * d))) = rnd n d := by
  have h := rnd_le hn hn' hd hd'
  rw [w64_in (n := 2 * n) (by omega) (by omega), w64_in (n := 2 * n + d) (by omega) (by omega), w64_in (n := 2 * d) (by omega) (by omega), Int.tdiv_eq_ediv_of_nonneg (by omega)]
  exact w64_in (by unfold rnd at h; omega) (by unfold rnd at h; omega)
theorem div_neg {n d : Int} (hn : n ≤ 0) (hn' : -1000000000000000 ≤ n) (hd : 0 < d) (hd' : d ≤ 4294967296) : w64 (0 - w64 ((w64 (w64 (-2 * n) + d)).tdiv (w64 (2 * d)))) = -rnd (-n) d := by
  have h := rnd_le (n := -n) (by omega) (by omega) hd hd'
  have e := div_pos (n := -n) (by omega) (by omega) hd hd'
  rw [show 2 * -n = -2 * n by omega] at e
  rw [e, Int.zero_sub]
  exact w64_in (by omega) (by omega)

theorem tdiv_le {n d : Int} (hn : -4611686018427500000 ≤ n ∧ n ≤ 4611686018427500000) (hd : 1 ≤ d) : -4611686018427500000 ≤ n.tdiv d ∧ n.tdiv d ≤ 4611686018427500000 := by
  have h : (n.tdiv d).natAbs ≤ n.natAbs := by rw [Int.natAbs_tdiv]; exact Nat.div_le_self _ _
  omega
theorem tparts (n d : Int) (hd : 1 ≤ d) : d * n.tdiv d + n.tmod d = n ∧ (n.tmod d).natAbs < d.natAbs := by
  refine ⟨Int.mul_tdiv_add_tmod n d, ?_⟩
  rw [Int.natAbs_tmod]; exact Nat.mod_lt _ (by omega)
theorem down_neg {n d : Int} (hn : -4611686018427500000 ≤ n ∧ n ≤ 4611686018427500000) (hd : 1 ≤ d ∧ d ≤ 4611686018427500000) (h : n.tmod d < 0) : w64 (w64 (n.tdiv d) - 1) = n / d := by
  have h1 := tdiv_le hn hd.1
  rw [w64_in (n := n.tdiv d) (by omega) (by omega), w64_in (by omega) (by omega)]
  obtain ⟨h2, h3⟩ := tparts n d hd.1
  symm
  rw [Int.ediv_eq_iff_of_pos (by omega), Int.sub_mul, Int.one_mul, Int.mul_comm (n.tdiv d) d]
  constructor <;> omega
theorem down_pos {n d : Int} (hn : -4611686018427500000 ≤ n ∧ n ≤ 4611686018427500000) (hd : 1 ≤ d ∧ d ≤ 4611686018427500000) (h : ¬ n.tmod d < 0) : w64 (n.tdiv d) = n / d := by
  have h1 := tdiv_le hn hd.1
  rw [w64_in (n := n.tdiv d) (by omega) (by omega)]
  obtain ⟨h2, h3⟩ := tparts n d hd.1
  symm
  rw [Int.ediv_eq_iff_of_pos (by omega), Int.mul_comm (n.tdiv d) d]
  constructor <;> omega

theorem rnd_parts {n d : Int} (hn : 0 ≤ n) (hn' : n ≤ 1000000000000000) (hd : 0 < d) (hd' : d ≤ 4294967296) :
    0 ≤ n.tdiv d ∧ n.tdiv d ≤ n ∧ 0 ≤ n.tmod d ∧ n.tmod d < d ∧ rnd n d = if d ≤ 2 * n.tmod d then n.tdiv d + 1 else n.tdiv d := by
  rw [Int.tdiv_eq_ediv_of_nonneg hn, Int.tmod_eq_emod_of_nonneg hn]
  have h1 : 0 ≤ n % d := Int.emod_nonneg _ (by omega)
  have h2 : n % d < d := Int.emod_lt_of_pos _ hd
  have h3 := Int.mul_ediv_add_emod n d
  refine ⟨Int.ediv_nonneg hn (by omega), Int.ediv_le_self _ hn, h1, h2, ?_⟩
  unfold rnd
  generalize n / d = q at *
  generalize n % d = r at *
  have e : ∀ x : Int, x * (2 * d) = 2 * (d * x) := fun x => by rw [Int.mul_comm x, Int.mul_assoc]
  have e1 : d * (q + 1) = d * q + d := by rw [Int.mul_add, Int.mul_one]
  have e2 : d * (q + 1 + 1) = d * q + d + d := by rw [Int.mul_add, e1, Int.mul_one]
  split <;> (rw [Int.ediv_eq_iff_of_pos (by omega)]; (try simp only [e, e1, e2]); omega)
theorem rnd_up {n d : Int} (hn : 0 ≤ n) (hn' : n ≤ 1000000000000000) (hd : 0 < d) (hd' : d ≤ 4294967296) (h : d ≤ w64 (2 * n.tmod d)) : w64 (w64 (n.tdiv d) + 1) = rnd n d := by
  have hp := rnd_parts hn hn' hd hd'
  rw [w64_in (by omega) (by omega)] at h
  rw [w64_in (n := n.tdiv d) (by omega) (by omega), w64_in (by omega) (by omega), hp.2.2.2.2, if_pos h]
theorem rnd_lo {n d : Int} (hn : 0 ≤ n) (hn' : n ≤ 1000000000000000) (hd : 0 < d) (hd' : d ≤ 4294967296) (h : ¬ d ≤ w64 (2 * n.tmod d)) : w64 (n.tdiv d) = rnd n d := by
  have hp := rnd_parts hn hn' hd hd'
  rw [w64_in (n := 2 * _) (by omega) (by omega)] at h
  rw [w64_in (n := n.tdiv d) (by omega) (by omega), hp.2.2.2.2, if_neg h]
theorem rnd_upN {n d : Int} (hn : 0 ≤ n) (hn' : n ≤ 1000000000000000) (hd : 0 < d) (hd' : d ≤ 4294967296) (h : d ≤ w64 (2 * n.tmod d)) : w64 (0 - w64 (w64 (n.tdiv d) + 1)) = -rnd n d := by
  have := rnd_le hn hn' hd hd'
  rw [rnd_up hn hn' hd hd' h, Int.zero_sub, w64_in (by omega) (by omega)]
theorem rnd_loN {n d : Int} (hn : 0 ≤ n) (hn' : n ≤ 1000000000000000) (hd : 0 < d) (hd' : d ≤ 4294967296) (h : ¬ d ≤ w64 (2 * n.tmod d)) : w64 (0 - w64 (n.tdiv d)) = -rnd n d := by
  have := rnd_le hn hn' hd hd'
  rw [rnd_lo hn hn' hd hd' h, Int.zero_sub, w64_in (by omega) (by omega)]

/-- An operation of two numbers, and of one. -/
def vtwo (op a b : Int) : Int := if op = 0 then fadd a b else if op = 1 then fsub a b else if op = 2 then fmul a b else if op = 3 then fdiv a b else if op = 4 then fmin a b else if op = 5 then fmax a b else if op = 6 then fmod a b else if op = 7 then (if a ≤ b then 65536 else 0) else 0
def vone (op a : Int) : Int := if op = 0 then fneg a else if op = 1 then fabs a else if op = 2 then fsign a else if op = 3 then ffloor a else if op = 4 then ffract a else 0
theorem vtwo_I32 {op a b : Int} (ha : I32 a) (hb : I32 b) : I32 (vtwo op a b) := by
  unfold vtwo
  (repeat' split) <;> first | exact raw_I32 _ | exact fdiv_I32 | exact fmin_I32 ha hb | exact fmax_I32 ha hb | (unfold I32; omega)
theorem vone_I32 {op a : Int} (ha : I32 a) : I32 (vone op a) := by
  unfold vone
  (repeat' split) <;> first | exact raw_I32 _ | exact fmax_I32 ha (raw_I32 _) | exact fsign_I32 | exact ffloor_I32 ha | exact ffract_I32 | (unfold I32; omega)
/-- A sum. -/
def vsum (n : Int) (m : Nat → Int) : Int := if n = 1 then m 0 else if n = 2 then fadd (m 0) (m 1) else if n = 3 then fadd (fadd (m 0) (m 1)) (m 2) else fadd (fadd (fadd (m 0) (m 1)) (m 2)) (m 3)
/-- A vector of four numbers. -/
def vf (a b c d : Int) : Nat → Int
  | 0 => a
  | 1 => b
  | 2 => c
  | 3 => d
  | _ => 0
theorem vf_I32 {a b c d : Int} (ha : I32 a) (hb : I32 b) (hc : I32 c) (hd : I32 d) : ∀ i, I32 (vf a b c d i)
  | 0 => ha
  | 1 => hb
  | 2 => hc
  | 3 => hd
  | _ + 4 => by show I32 0; unfold I32; omega
/-- What stands upright on both. -/
def vcross (a b : Nat → Int) : Nat → Int := vf (fsub (fmul (a 1) (b 2)) (fmul (a 2) (b 1))) (fsub (fmul (a 2) (b 0)) (fmul (a 0) (b 2))) (fsub (fmul (a 0) (b 1)) (fmul (a 1) (b 0))) 0
def vmix (a b t : Nat → Int) (i : Nat) : Int := fadd (a i) (fmul (fsub (b i) (a i)) (t i))
def vclamp (x l h : Nat → Int) (i : Nat) : Int := fmin (fmax (x i) (l i)) (h i)
/-- A vector. -/
def V32 (v : Nat → Int) : Prop := ∀ i, I32 (v i)
theorem V32.at {v : Nat → Int} (h : V32 v) (i : Nat) : I32 (v i) := h i
end Pb
