/- The statement that colours lie within those of the level, as a call (layer 9). -/
import Derived.Test.YtfokghepfcfbjaaJmk
set_option linter.unusedSimpArgs false
set_option linter.unusedVariables false
set_option maxRecDepth 100000
set_option maxHeartbeats 8000000
namespace Go.Proofs.Ytfokghepfcfbjaa
open Go.HL Go.RowKit Pb
variable {w0 : World} {H H' : Heap} {K : Value → Heap → Prop}

theorem fwrap_idem {m i n : Int} (hm : 1 ≤ m ∧ m ≤ 3) (hn : 1 ≤ n ∧ n ≤ 64) : fwrap m (fwrap m i n) n = fwrap m i n := by
  have h := fwrap_lt (mode := m) (i := i) hn
  generalize fwrap m i n = r at *
  unfold fwrap
  have hn' : ¬ (n < 1 ∨ 64 < n) := by omega
  simp only [hn', if_false]
  rcases (by omega : m = 1 ∨ m = 2 ∨ m = 3) with rfl | rfl | rfl
  · simp only [if_true]; exact Int.emod_eq_of_lt h.1 h.2
  · rw [if_neg (by decide), if_pos rfl, if_neg (by omega), if_neg (by omega)]
  · rw [if_neg (by decide), if_neg (by decide), if_pos rfl, Int.emod_eq_of_lt h.1 (by omega), if_pos h.2]
theorem col_wrap {x : Im} {y : LvR} {W : World} {G : Heap} (hl : Lvl W G x y) (i j : Int) : colI x y i j = colI x y (fwrap x.s i y.w) (fwrap x.t j y.h) := by
  unfold colI
  rw [fwrap_idem hl.s hl.w, fwrap_idem hl.t hl.h]
theorem lin4_lo {a b c d f g m : Int} (hf : 0 ≤ f ∧ f ≤ 65536) (hg : 0 ≤ g ∧ g ≤ 65536) (ha : m ≤ a) (hb : m ≤ b) (hc : m ≤ c) (hd : m ≤ d) : m ≤ lin4 a b c d f g := by
  unfold lin4
  have A : 0 ≤ 65536 - f := by omega
  have B : 0 ≤ 65536 - g := by omega
  have k1 : m * (65536 - f) * (65536 - g) ≤ a * (65536 - f) * (65536 - g) := Int.mul_le_mul_of_nonneg_right (Int.mul_le_mul_of_nonneg_right ha A) B
  have k2 : m * f * (65536 - g) ≤ b * f * (65536 - g) := Int.mul_le_mul_of_nonneg_right (Int.mul_le_mul_of_nonneg_right hb hf.1) B
  have k3 : m * (65536 - f) * g ≤ c * (65536 - f) * g := Int.mul_le_mul_of_nonneg_right (Int.mul_le_mul_of_nonneg_right hc A) hg.1
  have k4 : m * f * g ≤ d * f * g := Int.mul_le_mul_of_nonneg_right (Int.mul_le_mul_of_nonneg_right hd hf.1) hg.1
  have e1 : m * (65536 - f) * (65536 - g) + m * f * (65536 - g) = m * 65536 * (65536 - g) := by rw [← Int.add_mul, ← Int.mul_add]; congr 2; omega
  have e2 : m * (65536 - f) * g + m * f * g = m * 65536 * g := by rw [← Int.add_mul, ← Int.mul_add]; congr 2; omega
  have e3 : m * 65536 * (65536 - g) + m * 65536 * g = m * 65536 * 65536 := by rw [← Int.mul_add]; congr 1; omega
  omega
theorem lin4_hi {a b c d f g m : Int} (hf : 0 ≤ f ∧ f ≤ 65536) (hg : 0 ≤ g ∧ g ≤ 65536) (ha : a ≤ m) (hb : b ≤ m) (hc : c ≤ m) (hd : d ≤ m) : lin4 a b c d f g ≤ m := by
  unfold lin4
  have A : 0 ≤ 65536 - f := by omega
  have B : 0 ≤ 65536 - g := by omega
  have k1 : a * (65536 - f) * (65536 - g) ≤ m * (65536 - f) * (65536 - g) := Int.mul_le_mul_of_nonneg_right (Int.mul_le_mul_of_nonneg_right ha A) B
  have k2 : b * f * (65536 - g) ≤ m * f * (65536 - g) := Int.mul_le_mul_of_nonneg_right (Int.mul_le_mul_of_nonneg_right hb hf.1) B
  have k3 : c * (65536 - f) * g ≤ m * (65536 - f) * g := Int.mul_le_mul_of_nonneg_right (Int.mul_le_mul_of_nonneg_right hc A) hg.1
  have k4 : d * f * g ≤ m * f * g := Int.mul_le_mul_of_nonneg_right (Int.mul_le_mul_of_nonneg_right hd hf.1) hg.1
  have e1 : m * (65536 - f) * (65536 - g) + m * f * (65536 - g) = m * 65536 * (65536 - g) := by rw [← Int.add_mul, ← Int.mul_add]; congr 2; omega
  have e2 : m * (65536 - f) * g + m * f * g = m * 65536 * g := by rw [← Int.add_mul, ← Int.mul_add]; congr 2; omega
  have e3 : m * 65536 * (65536 - g) + m * 65536 * g = m * 65536 * 65536 := by rw [← Int.mul_add]; congr 1; omega
  omega
/-- All colours of a level lie between two. -/
def Lies (x : Im) (y : LvR) (lo hi : Nat → Int) : Prop := ∀ a b : Int, 0 ≤ a → a < y.w → 0 ≤ b → b < y.h → ∀ k, lo k ≤ colI x y a b k ∧ colI x y a b k ≤ hi k
theorem lies_col {x : Im} {y : LvR} {W : World} {G : Heap} (hl : Lvl W G x y) {lo hi : Nat → Int} (h : Lies x y lo hi) (i j : Int) (k : Nat) : lo k ≤ colI x y i j k ∧ colI x y i j k ≤ hi k := by
  rw [col_wrap hl]
  have h1 := fwrap_lt (mode := x.s) (i := i) hl.w
  have h2 := fwrap_lt (mode := x.t) (i := j) hl.h
  exact h _ _ h1.1 h1.2 h2.1 h2.2 k
theorem lies_lin {x : Im} {y : LvR} {W : World} {G : Heap} (hl : Lvl W G x y) {lo hi : Nat → Int} (h : Lies x y lo hi) (u v : Int) (k : Nat) : lo k ≤ linI x y u v k ∧ linI x y u v k ≤ hi k := by
  unfold linI
  have c := fun i j => lies_col hl h i j k
  exact ⟨lin4_lo (plcF_le _ _) (plcF_le _ _) (c _ _).1 (c _ _).1 (c _ _).1 (c _ _).1, lin4_hi (plcF_le _ _) (plcF_le _ _) (c _ _).2 (c _ _).2 (c _ _).2 (c _ _).2⟩
abbrev C4 (v : Nat → Int) : List Value := [.int .i32 (v 0), .int .i32 (v 1), .int .i32 (v 2), .int .i32 (v 3)]
/-- What has been gone through: the rows before j, and in row j the places before i. -/
def Thru (x : Im) (y : LvR) (c : Nat → Int) (i j : Int) (th : Bool) (lo hi : Nat → Int) : Prop := ∀ a b : Int, 0 ≤ a → a < y.w → 0 ≤ b → (b < j ∨ b = j ∧ a < i) →
  (∀ k, lo k ≤ colI x y a b k ∧ colI x y a b k ≤ hi k) ∧ (colI x y a b 0 = c 0 ∧ colI x y a b 1 = c 1 ∧ colI x y a b 2 = c 2 ∧ colI x y a b 3 = c 3 → th = true)
def mnF (lo c : Nat → Int) : Nat → Int := fun k => if c k < lo k then c k else lo k
def mxF (hi c : Nat → Int) : Nat → Int := fun k => if hi k < c k then c k else hi k
theorem thru_step {x : Im} {y : LvR} {c : Nat → Int} {i j : Int} {th th' : Bool} {lo hi : Nat → Int} (h : Thru x y c i j th lo hi) (ht : th = true → th' = true) (ht2 : (colI x y i j 0 = c 0 ∧ colI x y i j 1 = c 1 ∧ colI x y i j 2 = c 2 ∧ colI x y i j 3 = c 3) → th' = true) :
    Thru x y c (i + 1) j th' (mnF lo (colI x y i j)) (mxF hi (colI x y i j)) := fun a b ha ha2 hb hab => by
  by_cases hq : b < j ∨ b = j ∧ a < i
  · obtain ⟨h1, h2⟩ := h a b ha ha2 hb hq
    refine ⟨fun k => ?_, fun e => ht (h2 e)⟩
    have := h1 k
    unfold mnF mxF
    constructor <;> split <;> omega
  · obtain rfl : b = j := by omega
    obtain rfl : a = i := by omega
    refine ⟨fun k => ?_, ht2⟩
    unfold mnF mxF
    constructor <;> split <;> omega
theorem thru_row {x : Im} {y : LvR} {c : Nat → Int} {j : Int} {th : Bool} {lo hi : Nat → Int} (h : Thru x y c y.w j th lo hi) : Thru x y c 0 (j + 1) th lo hi := fun a b ha ha2 hb hab => h a b ha ha2 hb (by omega)
end Go.Proofs.Ytfokghepfcfbjaa
