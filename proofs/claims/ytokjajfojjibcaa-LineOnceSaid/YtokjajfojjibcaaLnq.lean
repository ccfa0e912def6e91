/- Lines as the document says them: plain laws (layer 23). -/
import Derived.Test.YtokjajfojjibcaaLno
set_option linter.unusedSimpArgs false
set_option linter.unusedVariables false
set_option maxRecDepth 100000
set_option maxHeartbeats 4000000
namespace Go.Proofs.Ytokjajfojjibcaa
open Go Go.HL Go.RowKit Pb

/-- A vector between two. -/
def btV (l d x y : Int) (u v : Nat → Int) : Nat → Int := vf (btwI (u 0) (v 0) l d x y) (btwI (u 1) (v 1) l d x y) (btwI (u 2) (v 2) l d x y) (btwI (u 3) (v 3) l d x y)
def btVs (l d x y : Int) (us vs : List (Nat → Int)) : List (Nat → Int) := List.zipWith (btV l d x y) us vs
/-- The cell across. -/
def kA (p q s t c : Int) : Int := if q < p then (s * (p - q) + (t - s) * (p - c)) / (256 * (p - q)) else (s * (q - p) + (t - s) * (c - p)) / (256 * (q - p))
def lfA (p q c : Int) : Int := if q < p then c - q else q - c
def dnA (p q c : Int) : Int := if q < p then p - c else c - p
/-- The fragment at a centre, and whether it is there. -/
def frA (a b : Wn) (wide : Bool) (p q s t i : Int) : Fr :=
  ⟨if wide then i else kA p q s t (256 * i + 128), if wide then kA p q s t (256 * i + 128) else i,
   nearI a.z b.z (dnA p q (256 * i + 128)) (lfA p q (256 * i + 128) + dnA p q (256 * i + 128)),
   nearI (fdiv 65536 a.w) (fdiv 65536 b.w) (dnA p q (256 * i + 128)) (lfA p q (256 * i + 128) + dnA p q (256 * i + 128)), true, vf 0 0 0 0,
   btVs (lfA p q (256 * i + 128)) (dnA p q (256 * i + 128)) a.w b.w a.l b.l⟩
def inA (p q c : Int) : Prop := p < q ∧ p ≤ c ∧ c < q ∨ q < p ∧ c ≤ p ∧ q < c
instance (p q c : Int) : Decidable (inA p q c) := by unfold inA; infer_instance
def atC (a b : Wn) (wide : Bool) (p q s t i : Int) : Option Fr :=
  if inA p q (256 * i + 128) ∧ 0 ≤ kA p q s t (256 * i + 128) ∧ kA p q s t (256 * i + 128) ≤ 63 then some (frA a b wide p q s t i) else none
def lineC (a b : Wn) (wide : Bool) (p q s t : Int) (n : Nat) : List Fr := (List.range n).filterMap fun (j : Nat) => atC a b wide p q s t (if q < p then 63 - (j : Int) else (j : Int))
def wideA (a b : Wn) : Prop := (if a.y ≤ b.y then b.y - a.y else a.y - b.y) ≤ (if a.x ≤ b.x then b.x - a.x else a.x - b.x)
instance (a b : Wn) : Decidable (wideA a b) := by unfold wideA; infer_instance
def lineA (a b : Wn) : List Fr := if wideA a b then lineC a b true a.x b.x a.y b.y 64 else lineC a b false a.y b.y a.x b.x 64
section
variable {a b : Wn} {wide : Bool} {p q s t : Int}
theorem lineC_succ (n : Nat) : lineC a b wide p q s t (n + 1) = lineC a b wide p q s t n ++ (atC a b wide p q s t (if q < p then 63 - (n : Int) else (n : Int))).toList := by
  unfold lineC
  rw [List.range_succ, List.filterMap_append]
  cases h : atC a b wide p q s t (if q < p then 63 - (n : Int) else (n : Int)) <;> simp [h]
theorem lineC_len (n : Nat) : (lineC a b wide p q s t n).length ≤ n := by
  have := List.length_filterMap_le (fun (j : Nat) => atC a b wide p q s t (if q < p then 63 - (j : Int) else (j : Int))) (List.range n)
  rw [List.length_range] at this
  exact this
theorem lineC_up (h : ¬ q < p) (n : Nat) : lineC a b wide p q s t (n + 1) = lineC a b wide p q s t n ++ (atC a b wide p q s t (n : Int)).toList := by rw [lineC_succ, if_neg h]
theorem lineC_dn (h : q < p) (n : Nat) : lineC a b wide p q s t (n + 1) = lineC a b wide p q s t n ++ (atC a b wide p q s t (63 - (n : Int))).toList := by rw [lineC_succ, if_pos h]
theorem atC_none {i : Int} (h : ¬ inA p q (256 * i + 128)) : atC a b wide p q s t i = none := by unfold atC; rw [if_neg (fun hh => h hh.1)]
theorem atC_out {i : Int} (h : ¬ (0 ≤ kA p q s t (256 * i + 128) ∧ kA p q s t (256 * i + 128) ≤ 63)) : atC a b wide p q s t i = none := by unfold atC; rw [if_neg (fun hh => h hh.2)]
theorem atC_in {i : Int} (h : inA p q (256 * i + 128)) (h2 : 0 ≤ kA p q s t (256 * i + 128)) (h3 : kA p q s t (256 * i + 128) ≤ 63) : atC a b wide p q s t i = some (frA a b wide p q s t i) := by unfold atC; rw [if_pos ⟨h, h2, h3⟩]
theorem lineC_tail {m : Nat} (hm : m ≤ 64) (h : ∀ j : Nat, m ≤ j → j < 64 → ¬ inA p q (256 * (if q < p then 63 - (j : Int) else (j : Int)) + 128)) : lineC a b wide p q s t 64 = lineC a b wide p q s t m := by
  have : ∀ k, m + k ≤ 64 → lineC a b wide p q s t (m + k) = lineC a b wide p q s t m := fun k => by
    induction k with
    | zero => intro _; rfl
    | succ k ih =>
      intro hk
      rw [← Nat.add_assoc, lineC_succ, ih (by omega), atC_none (h (m + k) (by omega) (by omega))]
      simp
  have := this (64 - m) (by omega)
  rwa [show m + (64 - m) = 64 by omega] at this
theorem lineC_head {m : Nat} (h : ∀ j : Nat, j < m → ¬ inA p q (256 * (if q < p then 63 - (j : Int) else (j : Int)) + 128)) : lineC a b wide p q s t m = [] := by
  induction m with
  | zero => rfl
  | succ k ih => rw [lineC_succ, ih (fun j hj => h j (by omega)), atC_none (h k (by omega))]; rfl
theorem btVs_len {l d x y : Int} {us vs : List (Nat → Int)} (h : us.length = vs.length) : (btVs l d x y us vs).length = us.length := by unfold btVs; rw [List.length_zipWith]; omega
theorem btVs_succ {l d x y : Int} {us vs : List (Nat → Int)} {m : Nat} {u v : Nat → Int} (e : us[m]? = some u) (e' : vs[m]? = some v) : (btVs l d x y us vs).take (m + 1) = (btVs l d x y us vs).take m ++ [btV l d x y u v] := by
  have hg : (btVs l d x y us vs)[m]? = some (btV l d x y u v) := by unfold btVs; rw [List.getElem?_zipWith, e, e']
  rw [List.take_add_one, hg]; rfl
theorem btV_ok {l d x y : Int} {u v : Nat → Int} (hu : V32 u) (hv : V32 v) (h : BtOk l d x y) (hl : l ≤ 2147483647) (hd : d ≤ 2147483647) (hx : x ≤ 2147483647) (hy : y ≤ 2147483647) : V32 (btV l d x y u v) := by
  have key : ∀ i, I32 (btwI (u i) (v i) l d x y) := fun i => by
    have := bt_between (a := u i) (b := v i) h hl hd hx hy
    have h1 := hu i
    have h2 := hv i
    unfold I32 at *
    split at this <;> split at this <;> omega
  exact vf_I32 (key 0) (key 1) (key 2) (key 3)
theorem kA_up (h : ¬ q < p) (c : Int) : kA p q s t c = (s * (q - p) + (t - s) * (c - p)) / (256 * (q - p)) := by unfold kA; rw [if_neg h]
theorem kA_dn (h : q < p) (c : Int) : kA p q s t c = (s * (p - q) + (t - s) * (p - c)) / (256 * (p - q)) := by unfold kA; rw [if_pos h]
end
end Go.Proofs.Ytokjajfojjibcaa
