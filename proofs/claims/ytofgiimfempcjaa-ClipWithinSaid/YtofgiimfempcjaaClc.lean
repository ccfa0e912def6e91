/- Plain laws of cutting (layer 21). -/
import Derived.Test.YtofgiimfempcjaaCla
import Derived.Test.YtofgiimfempcjaaClp
set_option linter.unusedSimpArgs false
set_option linter.unusedVariables false
namespace Go.Proofs.Ytofgiimfempcjaa
open Go Go.HL Go.RowKit Pb

/-- How far the corner between two lies from the first, and one vector of it. -/
def btT (p q : Nat → Int) (n : Int) : Int := fdiv (dist p n) (fsub (dist p n) (dist q n))
def bvec (t : Int) (a b : Nat → Int) : Nat → Int := fst 4 (vmix a b fun _ => t)
theorem btT_I32 (p q : Nat → Int) (n : Int) : I32 (btT p q n) := fdiv_I32
theorem bvec_V32 (t : Int) (a b : Nat → Int) : V32 (bvec t a b) := fst_I32 fun _ => raw_I32 _
/-- The corner between two, p within. -/
def betw (p q : Vt) (n : Int) : Vt :=
  ⟨bvec (btT p.p q.p n) p.p q.p, vmix (vf p.s 0 0 0) (vf q.s 0 0 0) (fun _ => btT p.p q.p n) 0, List.zipWith (bvec (btT p.p q.p n)) p.l q.l⟩
theorem betw_s_I32 (p q : Vt) (n : Int) : I32 (betw p q n).s := raw_I32 _
theorem betw_len {p q : Vt} {n : Int} {m : Nat} (h1 : p.l.length = m) (h2 : q.l.length = m) : (betw p q n).l.length = m := by
  simp [betw, h1, h2]
theorem betw_V32 {p q : Vt} {n : Int} : ∀ y ∈ (betw p q n).l, V32 y := by
  intro y hy
  obtain ⟨i, hi⟩ := List.mem_iff_getElem?.1 hy
  simp only [betw, List.getElem?_zipWith] at hi
  split at hi
  · cases hi; exact bvec_V32 _ _ _
  · cases hi
/-- What a side comes to. -/
def piece (n : Int) (p q : Vt) : List Vt :=
  if 0 ≤ dist p.p n then (if 0 ≤ dist q.p n then [q] else [betw p q n]) else (if 0 ≤ dist q.p n then [betw q p n, q] else [])
def cutF (n : Int) : Vt → List Vt → List Vt
  | _, [] => []
  | p, q :: r => piece n p q ++ cutF n q r
def cutA (l : List Vt) (n : Int) : List Vt := match l.getLast? with | none => [] | some p => cutF n p l
theorem cutF_take {n : Int} : ∀ (l : List Vt) (p : Vt) (k : Nat) (a b : Vt), (p :: l)[k]? = some a → l[k]? = some b → cutF n p (l.take (k + 1)) = cutF n p (l.take k) ++ piece n a b
  | [], _, _, _, _, _, h => by simp at h
  | q :: r, p, 0, a, b, h1, h2 => by
    simp at h1 h2
    subst h1 h2
    simp [cutF]
  | q :: r, p, k + 1, a, b, h1, h2 => by
    simp only [List.getElem?_cons_succ] at h1 h2
    simp only [List.take_succ_cons, cutF, List.append_assoc]
    rw [cutF_take r q k a b h1 h2]
theorem piece_le (n : Int) (p q : Vt) : (piece n p q).length ≤ 2 := by unfold piece; (repeat' split) <;> simp
theorem cutF_le {n : Int} : ∀ (l : List Vt) (p : Vt), (cutF n p l).length ≤ 2 * l.length
  | [], _ => by simp [cutF]
  | q :: r, p => by
    have := cutF_le r q (n := n)
    have := piece_le n p q
    simp only [cutF, List.length_append, List.length_cons]
    omega
theorem cutA_le (l : List Vt) (n : Int) : (cutA l n).length ≤ 2 * l.length := by
  unfold cutA
  split
  · simp
  · exact cutF_le _ _
/-- Corners within: how many. -/
def ins (n : Int) : List Vt → Nat
  | [] => 0
  | q :: r => (if 0 ≤ dist q.p n then 1 else 0) + ins n r
def isin (n : Int) (p : Vt) : Nat := if 0 ≤ dist p.p n then 1 else 0
theorem isin_le (n : Int) (p : Vt) : isin n p ≤ 1 := by unfold isin; split <;> omega
theorem ins_le (n : Int) : ∀ l : List Vt, ins n l ≤ l.length
  | [] => Nat.le_refl _
  | q :: r => by
    have := ins_le n r
    simp only [ins, List.length_cons]
    split <;> omega
theorem cutF_count {n : Int} : ∀ (l : List Vt) (p : Vt), ∃ a b, (cutF n p l).length = ins n l + a + b ∧ a ≤ ins n l ∧ b + ins n l ≤ l.length ∧ a + isin n p = b + isin n ((p :: l).getLast (by simp))
  | [], p => ⟨0, 0, by simp [cutF, ins]⟩
  | q :: r, p => by
    obtain ⟨a, b, h1, h2, h3, h4⟩ := cutF_count r q (n := n)
    have hl : (p :: q :: r).getLast (by simp) = (q :: r).getLast (by simp) := List.getLast_cons _
    rw [hl]
    simp only [cutF, List.length_append, ins, List.length_cons, h1]
    by_cases hp : 0 ≤ dist p.p n <;> by_cases hq : 0 ≤ dist q.p n
    · refine ⟨a, b, ?_⟩
      simp only [piece, isin, hp, hq, if_true, List.length_cons, List.length_nil] at h4 ⊢
      omega
    · refine ⟨a, b + 1, ?_⟩
      simp only [piece, isin, hp, hq, if_true, if_false, List.length_cons, List.length_nil] at h4 ⊢
      omega
    · refine ⟨a + 1, b, ?_⟩
      simp only [piece, isin, hp, hq, if_true, if_false, List.length_cons, List.length_nil] at h4 ⊢
      omega
    · refine ⟨a, b, ?_⟩
      simp only [piece, isin, hp, hq, if_false, List.length_nil] at h4 ⊢
      omega
theorem cutA_count (l : List Vt) (n : Int) : 2 * (cutA l n).length ≤ 3 * l.length := by
  unfold cutA
  cases hl : l.getLast? with
  | none => simp
  | some p =>
    obtain ⟨a, b, h1, h2, h3, h4⟩ := cutF_count l p (n := n)
    have hp : (p :: l).getLast (by simp) = p := by
      cases l with
      | nil => rfl
      | cons q r =>
        refine (List.getLast_cons (by simp)).trans ?_
        exact Option.some.inj ((List.getLast?_eq_some_getLast (by simp)).symm.trans hl)
    rw [hp] at h4
    simp only
    omega
/-- Corners alike. -/
def Ali (m : Nat) (l : List Vt) : Prop := m ≤ 4 ∧ ∀ y ∈ l, y.l.length = m
theorem piece_mem {n : Int} {p q y : Vt} (h : y ∈ piece n p q) : y = q ∨ y = betw p q n ∨ y = betw q p n := by
  unfold piece at h
  split at h <;> split at h <;> simp only [List.mem_cons, List.not_mem_nil, or_false] at h
  · exact .inl h
  · exact .inr (.inl h)
  · rcases h with h | h
    · exact .inr (.inr h)
    · exact .inl h
theorem cutF_ali {n : Int} {m : Nat} : ∀ (l : List Vt) (p : Vt), p.l.length = m → (∀ y ∈ l, y.l.length = m) → ∀ y ∈ cutF n p l, y.l.length = m
  | [], _, _, _, y, h => by simp [cutF] at h
  | q :: r, p, hp, hl, y, h => by
    have hq := hl q (by simp)
    simp only [cutF, List.mem_append] at h
    rcases h with h | h
    · rcases piece_mem h with e | e | e
      · rw [e]; exact hq
      · rw [e]; exact betw_len hp hq
      · rw [e]; exact betw_len hq hp
    · exact cutF_ali r q hq (fun y hy => hl y (by simp [hy])) y h
theorem cutA_ali {l : List Vt} {n : Int} {m : Nat} (h : Ali m l) : Ali m (cutA l n) := by
  refine ⟨h.1, fun y hy => ?_⟩
  unfold cutA at hy
  split at hy
  · simp at hy
  · rename_i p hp
    exact cutF_ali l p (h.2 p (List.mem_of_getLast? hp)) h.2 y hy
end Go.Proofs.Ytofgiimfempcjaa
