/- Plain laws for layer 3: places. No program is in sight. -/
import Derived.Test.YtdaejnakkingbaaPd
set_option linter.unusedSimpArgs false
set_option linter.unusedVariables false
namespace Pb
open Go HL

/-- May these be places? -/
def rightB (once : Bool) (l : List Int) : Bool := decide (1 ≤ l.length) && decide (l.length ≤ 4) && (decide (∀ x ∈ l, 0 ≤ x ∧ x ≤ 3) && (!once || decide l.Nodup))
def sn (l : List Int) (k i : Nat) : Bool := decide ((i : Int) ∈ l.take k)
theorem take_next {l : List Int} {k : Nat} (h : k < l.length) : l.take (k + 1) = l.take k ++ [l.getD k 0] := by
  rw [List.take_add_one, List.getElem?_eq_getElem h]; simp [List.getD, h]
theorem getD_mem {l : List Int} {k : Nat} (h : k < l.length) : l.getD k 0 ∈ l := by simp [List.getD, h]
theorem sn_next {l : List Int} {k : Nat} (h : k < l.length) (i : Nat) : sn l (k + 1) i = (sn l k i || decide ((i : Int) = l.getD k 0)) := by
  unfold sn; rw [take_next h]; simp [List.mem_append]
theorem rightB_bad {once : Bool} {l : List Int} {x : Int} (h : x ∈ l) (hx : ¬ (0 ≤ x ∧ x ≤ 3)) : false = rightB once l := by
  have : decide (∀ x ∈ l, 0 ≤ x ∧ x ≤ 3) = false := by simp only [decide_eq_false_iff_not]; intro h'; exact hx (h' x h)
  unfold rightB; rw [this]; simp
theorem rightB_dup {l : List Int} {k j : Nat} (h : k < l.length) (hj : l.getD k 0 = j) (hs : sn l k j = true) : false = rightB true l := by
  have hn : ¬ l.Nodup := by
    intro hnd
    have h1 : (l.take (k + 1)).Nodup := hnd.sublist (List.take_sublist _ _)
    rw [take_next h, List.nodup_append] at h1
    have h2 : (j : Int) ∈ l.take k := of_decide_eq_true hs
    exact h1.2.2 _ h2 _ (List.mem_singleton.2 hj.symm) rfl
  have : decide l.Nodup = false := by simp [hn]
  unfold rightB; rw [this]; simp
theorem rightB_end {once : Bool} {l : List Int} (h : ∀ x ∈ l.take l.length, 0 ≤ x ∧ x ≤ 3) (hn : once = true → (l.take l.length).Nodup) : (decide (1 ≤ l.length) && decide (l.length ≤ 4)) = rightB once l := by
  rw [List.take_length] at h hn
  have h1 : decide (∀ x ∈ l, 0 ≤ x ∧ x ≤ 3) = true := by simpa using h
  have h2 : (!once || decide l.Nodup) = true := by cases once <;> simp at hn ⊢; exact hn
  unfold rightB; rw [h1, h2]; simp
theorem rightB_mem {once : Bool} {l : List Int} (h : rightB once l = true) : (1 ≤ l.length ∧ l.length ≤ 4) ∧ (∀ x ∈ l, 0 ≤ x ∧ x ≤ 3) ∧ (once = true → l.Nodup) := by
  unfold rightB at h
  simp only [Bool.and_eq_true, decide_eq_true_eq, Bool.or_eq_true, Bool.not_eq_true'] at h
  exact ⟨h.1, h.2.1, fun ho => by rcases h.2.2 with h' | h'; rw [ho] at h'; cases h'; exact h'⟩
theorem rightB_once {l : List Int} (h : rightB true l = true) : rightB false l = true := by
  have := rightB_mem h
  unfold rightB
  simp [this.1.1, this.1.2]
  exact this.2.1
/-- What is taken from places, and what comes of numbers laid at them. -/
def pickV (v : Nat → Int) (l : List Int) (i : Nat) : Int := v (l.getD i 0).toNat
def putV (v f : Nat → Int) (l : List Int) : Nat → Nat → Int
  | 0, i => v i
  | k + 1, i => if (i : Int) = l.getD k 0 then f k else putV v f l k i
theorem pickV_I32 {v : Nat → Int} (hv : ∀ i, I32 (v i)) (l : List Int) (i : Nat) : I32 (pickV v l i) := hv _
theorem putV_I32 {v f : Nat → Int} (hv : ∀ i, I32 (v i)) (hf : ∀ i, I32 (f i)) (l : List Int) : ∀ k i, I32 (putV v f l k i)
  | 0, i => hv i
  | k + 1, i => by unfold putV; split; exact hf k; exact putV_I32 hv hf l k i
theorem putV_out {v f : Nat → Int} {l : List Int} {i : Nat} : ∀ k, k ≤ l.length → (i : Int) ∉ l.take k → putV v f l k i = v i
  | 0, _, _ => rfl
  | k + 1, hk, h => by
    rw [take_next (by omega)] at h
    simp only [List.mem_append, List.mem_singleton, not_or] at h
    unfold putV
    rw [if_neg h.2, putV_out k (by omega) h.1]
theorem putV_in {v f : Nat → Int} {l : List Int} (hn : l.Nodup) (hp : ∀ x ∈ l, 0 ≤ x ∧ x ≤ 3) {i : Nat} : ∀ k, k ≤ l.length → i < k → putV v f l k (l.getD i 0).toNat = f i
  | 0, _, h => by omega
  | k + 1, hk, h => by
    have hx := hp _ (getD_mem (show i < l.length by omega))
    unfold putV
    by_cases e : i = k
    · subst e; rw [if_pos (by omega)]
    · rw [if_neg, putV_in hn hp k (by omega) (by omega)]
      intro h'
      have h2 : l.getD i 0 = l.getD k 0 := by omega
      have h3 : l[i]'(by omega) = l[k]'(by omega) := by simpa [List.getD, show i < l.length by omega, show k < l.length by omega] using h2
      exact (List.pairwise_iff_getElem.1 hn) i k (by omega) (by omega) (by omega) h3
end Pb
