/- Plain laws of what lies within (layer 21). -/
import Derived.Test.YtofgiimfempcjaaClt
import Derived.Test.YtofgiimfempcjaaCll
set_option linter.unusedSimpArgs false
set_option linter.unusedVariables false
set_option maxRecDepth 100000
set_option maxHeartbeats 8000000
namespace Go.Proofs.Ytofgiimfempcjaa
open Go Go.HL Go.RowKit Pb
variable {w0 : World} {H : Heap} {K : Value → Heap → Prop}

theorem raw_pos {n : Int} (h : 0 ≤ raw n) : 0 ≤ n := by unfold raw at h; split at h <;> (try split at h) <;> omega
theorem w_pos {p : Nat → Int} (h : 0 ≤ dist p 0) : 1 ≤ p 3 := by
  have h : 0 ≤ fsub (p 3) 1 := h
  unfold fsub at h
  have := raw_pos h
  omega
theorem cutF_whole {n : Int} : ∀ (l : List Vt) (p : Vt), 0 ≤ dist p.p n → (∀ y ∈ l, 0 ≤ dist y.p n) → cutF n p l = l
  | [], _, _, _ => rfl
  | q :: r, p, hp, hl => by
    have hq := hl q (by simp)
    simp only [cutF, piece, hp, hq, if_true]
    rw [cutF_whole r q hq fun y hy => hl y (by simp [hy])]
    rfl
theorem cutA_whole {n : Int} {l : List Vt} (hl : ∀ y ∈ l, 0 ≤ dist y.p n) : cutA l n = l := by
  unfold cutA
  cases e : l.getLast? with
  | none => simp only; exact (List.getLast?_eq_none_iff.1 e).symm
  | some p => simp only; exact cutF_whole l p (hl p (List.mem_of_getLast? e)) hl
/-- A corner that lies within. -/
def Wth (p : Vt) : Prop := ∀ n : Nat, n < 7 → 0 ≤ dist p.p n
theorem cutN_whole {l : List Vt} (hl : ∀ y ∈ l, Wth y) : ∀ k, k ≤ 7 → cutN k l = l
  | 0, _ => rfl
  | k + 1, hk => by
    simp only [cutN]
    rw [cutN_whole hl k (by omega)]
    exact cutA_whole fun y hy => hl y hy k (by omega)
theorem triA_whole (v : Vw) {a b c : Vt} (ha : Wth a) (hb : Wth b) (hc : Wth c) : triA v [a, b, c] = [(winA v a, winA v b, winA v c)] := by
  have hall : ∀ y ∈ [a, b, c], Wth y := fun y hy => by
    simp only [List.mem_cons, List.not_mem_nil, or_false] at hy
    rcases hy with rfl | rfl | rfl <;> assumption
  unfold triA
  rw [cutN_whole hall 7 (by omega), if_pos (show ∀ y ∈ [a, b, c], 0 ≤ dist y.p 0 from fun y hy => hall y hy 0 (by omega))]
  rfl
/-- Corners that lie in the window. -/
def InW (v : Vw) (w : Wn) : Prop := (256 * v.x ≤ w.x ∧ w.x ≤ 256 * (v.x + v.w)) ∧ (256 * v.y ≤ w.y ∧ w.y ≤ 256 * (v.y + v.h)) ∧ 1 ≤ w.w ∧ (if v.f < v.n then v.f else v.n) ≤ w.z ∧ w.z ≤ (if v.f > v.n then v.f else v.n)
theorem inW {v : Vw} {p : Vt} (hv : v.right) (hp : 0 ≤ dist p.p 0) : InW v (winA v p) := by
  obtain ⟨h1, h2⟩ := winA_le hv p
  obtain ⟨-, -, -, -, -, -, hn, hf⟩ := hv
  refine ⟨h1, h2, w_pos hp, ?_⟩
  show (if v.f < v.n then v.f else v.n) ≤ winZ v.n v.f (wpart (p.p 2) (p.p 3)) ∧ winZ v.n v.f (wpart (p.p 2) (p.p 3)) ≤ (if v.f > v.n then v.f else v.n)
  obtain ⟨q1, q2⟩ := wpart_le (p.p 2) (p.p 3)
  unfold winZ
  generalize wpart (p.p 2) (p.p 3) = q at *
  obtain ⟨h, eh⟩ : ∃ h, q / 2 = h := ⟨_, rfl⟩
  have hh : 0 ≤ h ∧ h ≤ 65536 := by omega
  rw [eh]
  have e1 : fsub v.f v.n = v.f - v.n := by unfold fsub; exact raw_in (by unfold I32; omega)
  rw [e1]
  obtain ⟨d, ed⟩ : ∃ d, v.f - v.n = d := ⟨_, rfl⟩
  rw [ed]
  have hd : -65536 ≤ d ∧ d ≤ 65536 := by omega
  have key : (0 ≤ d → 0 ≤ (d * h + 32768) / 65536 ∧ (d * h + 32768) / 65536 ≤ d) ∧ (d < 0 → d ≤ (d * h + 32768) / 65536 ∧ (d * h + 32768) / 65536 ≤ 0) := by
    refine ⟨fun h0 => ?_, fun h0 => ?_⟩
    · have a1 : 0 ≤ d * h := Int.mul_nonneg h0 hh.1
      have a2 : d * h ≤ d * 65536 := Int.mul_le_mul_of_nonneg_left hh.2 h0
      omega
    · have a1 : d * h ≤ 0 := Int.mul_nonpos_of_nonpos_of_nonneg (by omega) hh.1
      have a2 : d * 65536 ≤ d * h := Int.mul_le_mul_of_nonpos_left (by omega) hh.2
      omega
  have e2 : fmul d h = (d * h + 32768) / 65536 := by
    unfold fmul
    refine raw_in ?_
    unfold I32
    rcases (by omega : d < 0 ∨ 0 ≤ d) with h' | h'
    · have := key.2 h'; omega
    · have := key.1 h'; omega
  rw [e2]
  generalize (d * h + 32768) / 65536 = m at *
  have e3 : fadd v.n m = v.n + m := by
    unfold fadd
    refine raw_in ?_
    unfold I32
    rcases (by omega : d < 0 ∨ 0 ≤ d) with h' | h'
    · have := key.2 h'; omega
    · have := key.1 h'; omega
  rw [e3]
  rcases (by omega : d < 0 ∨ 0 ≤ d) with h' | h'
  · have := key.2 h'
    constructor <;> split <;> omega
  · have := key.1 h'
    constructor <;> split <;> omega
theorem fan_in {v : Vw} {l : List Wn} (hl : ∀ w ∈ l, InW v w) : ∀ t ∈ fanK l (l.length - 2), InW v t.1 ∧ InW v t.2.1 ∧ InW v t.2.2 := by
  intro t ht
  unfold fanK at ht
  obtain ⟨i, hi, rfl⟩ := List.mem_map.1 ht
  rw [List.mem_range] at hi
  have g : ∀ j, j < l.length → InW v (l.getD j Wnz) := fun j hj => by
    rw [List.getD_eq_getElem?_getD, List.getElem?_eq_getElem hj]
    exact hl _ (List.getElem_mem _)
  exact ⟨g 0 (by omega), g (i + 1) (by omega), g (i + 2) (by omega)⟩
theorem tri_in {v : Vw} (hv : v.right) (l : List Vt) : ∀ t ∈ triA v l, InW v t.1 ∧ InW v t.2.1 ∧ InW v t.2.2 := by
  unfold triA
  split
  · rename_i h
    have := fan_in (v := v) (l := (cutN 7 l).map (winA v)) fun w hw => by
      obtain ⟨p, hp, rfl⟩ := List.mem_map.1 hw
      exact inW hv (h p hp)
    rw [List.length_map] at this
    exact this
  · intro t ht; simp at ht
theorem line_in {v : Vw} (hv : v.right) (p q : Vt) : ∀ w ∈ lineA v p q, InW v w := by
  unfold lineA
  split
  · intro w hw; simp at hw
  · rename_i p' q' h
    split
    · intro w hw; simp at hw
    · rename_i hn
      have h1 : 0 ≤ dist p'.p 0 := by omega
      have h2 : 0 ≤ dist q'.p 0 := by omega
      intro w hw
      simp only [List.mem_cons, List.not_mem_nil, or_false] at hw
      rcases hw with rfl | rfl
      · exact inW hv h1
      · exact inW hv h2
theorem line_len (v : Vw) (p q : Vt) : (lineA v p q).length = 0 ∨ (lineA v p q).length = 2 := by
  unfold lineA
  split
  · exact .inl rfl
  · split
    · exact .inl rfl
    · exact .inr rfl
theorem tri_len (v : Vw) {a b c : Vt} : (triA v [a, b, c]).length ≤ 40 := by
  have h0 := cutA_count [a, b, c] 0
  have h1 := cutA_count (cutA [a, b, c] 0) 1
  have h2 := cutA_count (cutA (cutA [a, b, c] 0) 1) 2
  have h3 := cutA_count (cutA (cutA (cutA [a, b, c] 0) 1) 2) 3
  have h4 := cutA_count (cutA (cutA (cutA (cutA [a, b, c] 0) 1) 2) 3) 4
  have h5 := cutA_count (cutA (cutA (cutA (cutA (cutA [a, b, c] 0) 1) 2) 3) 4) 5
  have h6 := cutA_count (cutA (cutA (cutA (cutA (cutA (cutA [a, b, c] 0) 1) 2) 3) 4) 5) 6
  have e : cutN 7 [a, b, c] = cutA (cutA (cutA (cutA (cutA (cutA (cutA [a, b, c] 0) 1) 2) 3) 4) 5) 6 := rfl
  simp only [List.length_cons, List.length_nil] at h0
  unfold triA
  split
  · rw [fanK_len, e]; omega
  · simp
end Go.Proofs.Ytofgiimfempcjaa
