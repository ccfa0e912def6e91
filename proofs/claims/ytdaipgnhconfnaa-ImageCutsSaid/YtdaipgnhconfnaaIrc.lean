/- The bytes of a piece: the plain law (layer 8). -/
import Derived.Test.YtdaipgnhconfnaaIrb
set_option linter.unusedSimpArgs false
set_option linter.unusedVariables false
set_option maxRecDepth 100000
namespace Go.Proofs.Ytdaipgnhconfnaa
open Go Go.HL Go.RowKit Pb

/-- The bytes of the first rows of a piece. -/
def pieceB (l : List Int) (S W X Y P : Nat) : Nat → List Int
  | 0 => []
  | j + 1 => pieceB l S W X Y P j ++ (l.drop (segA S W X Y j)).take (P * S)
/-- Bytes laid over others. -/
def putSeg (l : List Int) (a : Nat) (s : List Int) : List Int := l.take a ++ s ++ l.drop (a + s.length)
/-- The first rows of a piece laid. -/
def subB (l b : List Int) (S W X Y P : Nat) : Nat → List Int
  | 0 => l
  | j + 1 => putSeg (subB l b S W X Y P j) (segA S W X Y j) ((b.drop (j * (P * S))).take (P * S))
theorem putSeg_len {l s : List Int} {a : Nat} (h : a + s.length ≤ l.length) : (putSeg l a s).length = l.length := by
  unfold putSeg
  simp
  omega
theorem putSeg_get {l s : List Int} {a i : Nat} (h : a + s.length ≤ l.length) : (putSeg l a s)[i]? = if a ≤ i ∧ i < a + s.length then s[i - a]? else l[i]? := by
  unfold putSeg
  by_cases h1 : i < a
  · rw [List.append_assoc, List.getElem?_append_left (by rw [List.length_take]; omega), List.getElem?_take, if_pos h1, if_neg (by omega)]
  · rw [List.append_assoc, List.getElem?_append_right (by rw [List.length_take]; omega), List.length_take, Nat.min_eq_left (by omega)]
    by_cases h2 : i < a + s.length
    · rw [if_pos ⟨by omega, h2⟩, List.getElem?_append_left (by omega)]
    · rw [if_neg (by omega), List.getElem?_append_right (by omega), List.getElem?_drop]
      congr 1
      omega
theorem segA_step (S W X Y : Nat) {i j : Nat} (h : i < j) : segA S W X Y i + W * S ≤ segA S W X Y j := by
  unfold segA
  rw [← Nat.add_mul]
  refine Nat.mul_le_mul_right _ ?_
  have : (Y + i + 1) * W ≤ (Y + j) * W := Nat.mul_le_mul_right _ (by omega)
  rw [Nat.succ_mul] at this
  omega
theorem pieceB_len {l : List Int} {S W X Y P : Nat} : ∀ n, (∀ j, j < n → segA S W X Y j + P * S ≤ l.length) → (pieceB l S W X Y P n).length = n * (P * S)
  | 0, _ => by simp [pieceB]
  | n + 1, h => by
    have := h n (by omega)
    rw [pieceB, List.length_append, pieceB_len n fun j hj => h j (by omega), List.length_take, List.length_drop, Nat.min_eq_left (by omega), Nat.succ_mul]
theorem pieceB_get {l : List Int} {S W X Y P : Nat} : ∀ n, (∀ j, j < n → segA S W X Y j + P * S ≤ l.length) → ∀ j t, j < n → t < P * S → (pieceB l S W X Y P n)[j * (P * S) + t]? = l[segA S W X Y j + t]?
  | 0, _, j, t, h, _ => by omega
  | n + 1, h, j, t, hj, ht => by
    have hl := pieceB_len (l := l) (S := S) (W := W) (X := X) (Y := Y) (P := P) n fun j hj => h j (by omega)
    rw [pieceB]
    by_cases e : j < n
    · have : (j + 1) * (P * S) ≤ n * (P * S) := Nat.mul_le_mul_right _ e
      rw [Nat.succ_mul] at this
      rw [List.getElem?_append_left (by omega)]
      exact pieceB_get n (fun j hj => h j (by omega)) j t e ht
    · obtain rfl : j = n := by omega
      rw [List.getElem?_append_right (by omega), hl, Nat.add_sub_cancel_left, List.getElem?_take, if_pos ht, List.getElem?_drop]
theorem seg_len {b : List Int} {P S Q j : Nat} (hb : b.length = Q * (P * S)) (hj : j < Q) : ((b.drop (j * (P * S))).take (P * S)).length = P * S := by
  have : (j + 1) * (P * S) ≤ Q * (P * S) := Nat.mul_le_mul_right _ hj
  rw [Nat.succ_mul] at this
  rw [List.length_take, List.length_drop]
  omega
theorem subB_len {l b : List Int} {S W X Y P Q : Nat} (hb : b.length = Q * (P * S)) (h : ∀ j, j < Q → segA S W X Y j + P * S ≤ l.length) : ∀ n, n ≤ Q → (subB l b S W X Y P n).length = l.length
  | 0, _ => rfl
  | n + 1, hn => by
    have ih := subB_len hb h n (by omega)
    rw [subB, putSeg_len (by rw [seg_len hb hn, ih]; exact h n hn), ih]
theorem subB_in {l b : List Int} {S W X Y P Q : Nat} (hW : P ≤ W) (hb : b.length = Q * (P * S)) (h : ∀ j, j < Q → segA S W X Y j + P * S ≤ l.length) : ∀ n, n ≤ Q → ∀ j t, j < n → t < P * S → (subB l b S W X Y P n)[segA S W X Y j + t]? = b[j * (P * S) + t]?
  | 0, _, j, t, hj, _ => by omega
  | n + 1, hn, j, t, hj, ht => by
    have sl := seg_len hb hn
    rw [subB, putSeg_get (by rw [sl, subB_len hb h n (by omega)]; exact h n hn), sl]
    by_cases e : j < n
    · have h1 := segA_step S W X Y e
      have h2 : P * S ≤ W * S := Nat.mul_le_mul_right _ hW
      rw [if_neg (by omega)]
      exact subB_in hW hb h n (by omega) j t e ht
    · obtain rfl : j = n := by omega
      rw [if_pos (by omega), Nat.add_sub_cancel_left, List.getElem?_take, if_pos ht, List.getElem?_drop]
theorem subB_out {l b : List Int} {S W X Y P Q : Nat} (hb : b.length = Q * (P * S)) (h : ∀ j, j < Q → segA S W X Y j + P * S ≤ l.length) {i : Nat} : ∀ n, n ≤ Q → (∀ j, j < n → ¬ (segA S W X Y j ≤ i ∧ i < segA S W X Y j + P * S)) → (subB l b S W X Y P n)[i]? = l[i]?
  | 0, _, _ => rfl
  | n + 1, hn, hi => by
    have sl := seg_len hb hn
    rw [subB, putSeg_get (by rw [sl, subB_len hb h n (by omega)]; exact h n hn), sl, if_neg (hi n (by omega))]
    exact subB_out hb h n (by omega) fun j hj => hi j (by omega)
/-- What was put is got. -/
theorem get_sub {l b : List Int} {S W X Y P Q : Nat} (hW : P ≤ W) (hb : b.length = Q * (P * S)) (h : ∀ j, j < Q → segA S W X Y j + P * S ≤ l.length) : pieceB (subB l b S W X Y P Q) S W X Y P Q = b := by
  have hl := subB_len hb h Q (Nat.le_refl _)
  have h' : ∀ j, j < Q → segA S W X Y j + P * S ≤ (subB l b S W X Y P Q).length := by rw [hl]; exact h
  have pl := pieceB_len (S := S) (W := W) (X := X) (Y := Y) (P := P) Q h'
  apply List.ext_getElem?
  intro i
  rcases Nat.lt_or_ge i (Q * (P * S)) with hi | hi
  · have hPS : 0 < P * S := by
      rcases Nat.eq_zero_or_pos (P * S) with e | e
      · rw [e] at hi; omega
      · exact e
    have hj : i / (P * S) < Q := by rw [Nat.div_lt_iff_lt_mul hPS]; exact hi
    have ht := Nat.mod_lt i hPS
    have e : i / (P * S) * (P * S) + i % (P * S) = i := by rw [Nat.mul_comm]; exact Nat.div_add_mod i (P * S)
    have a1 := pieceB_get (S := S) (W := W) (X := X) (Y := Y) (P := P) Q h' _ _ hj ht
    have a2 := subB_in hW hb h Q (Nat.le_refl _) _ _ hj ht
    rw [e] at a1 a2
    rw [a1, a2]
  · rw [List.getElem?_eq_none (by omega), List.getElem?_eq_none (by omega)]
/-- What was there, put back. -/
theorem sub_back {l b : List Int} {S W X Y P Q : Nat} (hW : P ≤ W) (hb : b.length = Q * (P * S)) (h : ∀ j, j < Q → segA S W X Y j + P * S ≤ l.length) : subB (subB l b S W X Y P Q) (pieceB l S W X Y P Q) S W X Y P Q = l := by
  have hl := subB_len hb h Q (Nat.le_refl _)
  have h' : ∀ j, j < Q → segA S W X Y j + P * S ≤ (subB l b S W X Y P Q).length := by rw [hl]; exact h
  have pl := pieceB_len (S := S) (W := W) (X := X) (Y := Y) (P := P) Q h
  apply List.ext_getElem?
  intro i
  by_cases e : ∃ j, j < Q ∧ segA S W X Y j ≤ i ∧ i < segA S W X Y j + P * S
  · obtain ⟨j, hj, h1, h2⟩ := e
    obtain ⟨t, rfl⟩ : ∃ t, i = segA S W X Y j + t := ⟨i - segA S W X Y j, by omega⟩
    rw [subB_in hW pl h' Q (Nat.le_refl _) j t hj (by omega), pieceB_get (S := S) (W := W) (X := X) (Y := Y) (P := P) Q h j t hj (by omega)]
  · have hno : ∀ j, j < Q → ¬ (segA S W X Y j ≤ i ∧ i < segA S W X Y j + P * S) := fun j hj hh => e ⟨j, hj, hh⟩
    rw [subB_out pl h' Q (Nat.le_refl _) hno, subB_out hb h Q (Nat.le_refl _) hno]
theorem subB_by {l b : List Int} (hl : ∀ v ∈ l, 0 ≤ v ∧ v ≤ 255) (hb : ∀ v ∈ b, 0 ≤ v ∧ v ≤ 255) (S W X Y P : Nat) : ∀ n, ∀ v ∈ subB l b S W X Y P n, 0 ≤ v ∧ v ≤ 255
  | 0 => hl
  | n + 1 => fun v hv => by
    rw [subB] at hv
    unfold putSeg at hv
    rcases List.mem_append.1 hv with hv | hv
    · rcases List.mem_append.1 hv with hv | hv
      · exact subB_by hl hb S W X Y P n v (List.mem_of_mem_take hv)
      · exact hb v (List.mem_of_mem_drop (List.mem_of_mem_take hv))
    · exact subB_by hl hb S W X Y P n v (List.mem_of_mem_drop hv)
theorem pieceB_by {l : List Int} (hl : ∀ v ∈ l, 0 ≤ v ∧ v ≤ 255) (S W X Y P : Nat) : ∀ n, ∀ v ∈ pieceB l S W X Y P n, 0 ≤ v ∧ v ≤ 255
  | 0 => fun v hv => by simp [pieceB] at hv
  | n + 1 => fun v hv => by
    rw [pieceB] at hv
    rcases List.mem_append.1 hv with hv | hv
    · exact pieceB_by hl S W X Y P n v hv
    · exact hl v (List.mem_of_mem_drop (List.mem_of_mem_take hv))
end Go.Proofs.Ytdaipgnhconfnaa
