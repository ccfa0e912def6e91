/- Plain laws for layer 21: distances, windows, corners between two. No program is in sight. -/
import Derived.Test.YtofgiimfempcjaaPa
set_option linter.unusedSimpArgs false
set_option linter.unusedVariables false
set_option maxRecDepth 10000
namespace Pb
open Go HL

/-- A corner's distance. -/
def dist (p : Nat → Int) (n : Int) : Int :=
  if n = 0 then fsub (p 3) 1 else if n = 1 then fadd (p 3) (p 0) else if n = 2 then fsub (p 3) (p 0) else if n = 3 then fadd (p 3) (p 1) else if n = 4 then fsub (p 3) (p 1) else if n = 5 then fadd (p 3) (p 2) else fsub (p 3) (p 2)
theorem dist_I32 (p : Nat → Int) (n : Int) : I32 (dist p n) := by unfold dist; (repeat' split) <;> exact raw_I32 _
/-- A window. -/
structure Vw where
  x : Int
  y : Int
  w : Int
  h : Int
  n : Int
  f : Int
def Vw.right (v : Vw) : Prop := (0 ≤ v.x ∧ v.x ≤ 64) ∧ (0 ≤ v.y ∧ v.y ≤ 64) ∧ (0 ≤ v.w ∧ v.w ≤ 64) ∧ (0 ≤ v.h ∧ v.h ≤ 64) ∧ v.x + v.w ≤ 64 ∧ v.y + v.h ≤ 64 ∧ (0 ≤ v.n ∧ v.n ≤ 65536) ∧ (0 ≤ v.f ∧ v.f ≤ 65536)
instance (v : Vw) : Decidable v.right := by unfold Vw.right; infer_instance
def Vw.v (v : Vw) : Value := .agg #[.int .i64 v.x, .int .i64 v.y, .int .i64 v.w, .int .i64 v.h, .int .i32 v.n, .int .i32 v.f]
/-- A number over w, from 0 to twice One. -/
def wpart (x w : Int) : Int := (if (if fdiv x w < -65536 then -65536 else fdiv x w) > 65536 then 65536 else (if fdiv x w < -65536 then -65536 else fdiv x w)) + 65536
theorem wpart_le (x w : Int) : 0 ≤ wpart x w ∧ wpart x w ≤ 131072 := by unfold wpart; (repeat' split) <;> omega
def winX (x w p : Int) : Int := 256 * x + p * w / 512
def winZ (n f p : Int) : Int := fadd n (fmul (fsub f n) (p / 2))
theorem winX_le {x w p : Int} (hx : 0 ≤ x ∧ x ≤ 64) (hw : 0 ≤ w ∧ w ≤ 64) (hp : 0 ≤ p ∧ p ≤ 131072) : 256 * x ≤ winX x w p ∧ winX x w p ≤ 256 * (x + w) ∧ 0 ≤ p * w ∧ p * w ≤ 8388608 := by
  have h0 : 0 ≤ p * w := Int.mul_nonneg hp.1 hw.1
  have h1 : p * w ≤ 131072 * w := Int.mul_le_mul_of_nonneg_right hp.2 hw.1
  unfold winX
  omega
theorem winZ_I32 (n f p : Int) : I32 (winZ n f p) := raw_I32 _
end Pb
