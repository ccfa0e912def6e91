/- The cells of a point of side n (layer 23): a plain law. -/
import Derived.Test.YtokjajfojjibcaaLni
set_option linter.unusedSimpArgs false
set_option linter.unusedVariables false
namespace Go.Proofs.Ytokjajfojjibcaa
open Go Go.HL Go.RowKit Pb

def Fr.key (f : Fr) : Int × Int := (f.x, f.y)
theorem dots_fact (x : Wn) (j : Nat) : ∀ m : Nat, ((dotsA x j m).map Fr.key).Nodup ∧ ∀ f ∈ dotsA x j m, f.y = (j : Int) ∧ 0 ≤ f.x ∧ f.x < (m : Int) ∧ (0 ≤ f.p 0 ∧ f.p 0 < 65536) ∧ 0 ≤ f.p 1 ∧ f.p 1 < 65536
  | 0 => ⟨by simp [dotsA], by simp [dotsA]⟩
  | m + 1 => by
    obtain ⟨h1, h2⟩ := dots_fact x j m
    rw [dotsA_succ]
    cases e : dotA x j m with
    | none => simp only [Option.toList, List.append_nil]; exact ⟨h1, fun f hf => by have := h2 f hf; refine ⟨this.1, this.2.1, by omega, this.2.2.2⟩⟩
    | some F =>
      obtain ⟨s1, s2⟩ := sideA_b x
      unfold dotA dotF at e
      split at e <;> cases e
      rename_i hc
      obtain ⟨⟨c1, c2⟩, c3, c4⟩ := hc
      have hd : ∀ u : Int, 0 ≤ u → u < 256 * sideA x → 0 ≤ 65536 * u / (256 * sideA x) ∧ 65536 * u / (256 * sideA x) < 65536 := fun u h0 h1 =>
        ⟨Int.ediv_nonneg (by omega) (by omega), Int.ediv_lt_of_lt_mul (by omega) (by omega)⟩
      simp only [Option.toList]
      refine ⟨?_, fun f hf => ?_⟩
      · rw [List.map_append, List.nodup_append]
        refine ⟨h1, by simp, fun a ha b hb => ?_⟩
        obtain ⟨f, hf, rfl⟩ := List.mem_map.1 ha
        have := h2 f hf
        simp only [List.map_cons, List.map_nil, List.mem_singleton] at hb
        subst hb
        intro e
        have e1 := congrArg Prod.fst e
        simp only [Fr.key] at e1
        omega
      · rcases List.mem_append.1 hf with hf | hf
        · have := h2 f hf
          exact ⟨this.1, this.2.1, by omega, this.2.2.2⟩
        · rw [List.mem_singleton] at hf
          subst hf
          exact ⟨rfl, by simp only; omega, by simp only; omega, hd _ c1 c2, hd _ c3 c4⟩
theorem point_fact (x : Wn) : ∀ m : Nat, ((pointA x m).map Fr.key).Nodup ∧ ∀ f ∈ pointA x m, (0 ≤ f.y ∧ f.y < (m : Int)) ∧ (0 ≤ f.x ∧ f.x < 64) ∧ (0 ≤ f.p 0 ∧ f.p 0 < 65536) ∧ 0 ≤ f.p 1 ∧ f.p 1 < 65536
  | 0 => ⟨by simp [pointA], by simp [pointA]⟩
  | m + 1 => by
    obtain ⟨h1, h2⟩ := point_fact x m
    obtain ⟨g1, g2⟩ := dots_fact x m 64
    rw [pointA_succ]
    refine ⟨?_, fun f hf => ?_⟩
    · rw [List.map_append, List.nodup_append]
      refine ⟨h1, g1, fun a ha b hb => ?_⟩
      obtain ⟨f, hf, rfl⟩ := List.mem_map.1 ha
      obtain ⟨k, hk, rfl⟩ := List.mem_map.1 hb
      have := h2 f hf
      have := g2 k hk
      intro e
      have e1 := congrArg Prod.snd e
      simp only [Fr.key] at e1
      omega
    · rcases List.mem_append.1 hf with hf | hf
      · have := h2 f hf
        exact ⟨by omega, this.2⟩
      · have := g2 f hf
        exact ⟨by omega, by omega, this.2.2.2⟩
section
variable {x : Wn} {n i0 j0 : Nat} (hI : ∀ i : Nat, (0 ≤ 256 * (i : Int) + 128 - (x.x - 128 * sideA x) ∧ 256 * (i : Int) + 128 - (x.x - 128 * sideA x) < 256 * sideA x) ↔ (i0 ≤ i ∧ i < i0 + n))
  (hJ : ∀ j : Nat, (0 ≤ 256 * (j : Int) + 128 - (x.y - 128 * sideA x) ∧ 256 * (j : Int) + 128 - (x.y - 128 * sideA x) < 256 * sideA x) ↔ (j0 ≤ j ∧ j < j0 + n))
include hI hJ
theorem dots_count (j : Nat) : ∀ m : Nat, (dotsA x j m).length = if j0 ≤ j ∧ j < j0 + n then min m (i0 + n) - min m i0 else 0
  | 0 => by simp [dotsA]
  | m + 1 => by
    have ih := dots_count j m
    rw [dotsA_succ, List.length_append, ih]
    have e : (dotA x j m).toList.length = if (i0 ≤ m ∧ m < i0 + n) ∧ j0 ≤ j ∧ j < j0 + n then 1 else 0 := by
      unfold dotA dotF
      by_cases h : (i0 ≤ m ∧ m < i0 + n) ∧ j0 ≤ j ∧ j < j0 + n
      · rw [if_pos h, if_pos ⟨(hI m).2 h.1, (hJ j).2 h.2⟩]; rfl
      · rw [if_neg h, if_neg (fun h' => h ⟨(hI m).1 h'.1, (hJ j).1 h'.2⟩)]; rfl
    rw [e]
    by_cases hj : j0 ≤ j ∧ j < j0 + n
    · rw [if_pos hj, if_pos hj]
      split <;> omega
    · rw [if_neg hj, if_neg hj, if_neg (fun h => hj h.2)]
theorem point_count (h64 : i0 + n ≤ 64) : ∀ m : Nat, (pointA x m).length = n * (min m (j0 + n) - min m j0)
  | 0 => by simp [pointA]
  | m + 1 => by
    have ih := point_count h64 m
    rw [pointA_succ, List.length_append, ih, dots_count hI hJ m 64]
    have e : min 64 (i0 + n) - min 64 i0 = n := by omega
    rw [e]
    by_cases hj : j0 ≤ m ∧ m < j0 + n
    · rw [if_pos hj]
      have : min (m + 1) (j0 + n) - min (m + 1) j0 = (min m (j0 + n) - min m j0) + 1 := by omega
      rw [this, Nat.mul_add, Nat.mul_one]
    · rw [if_neg hj]
      have : min (m + 1) (j0 + n) - min (m + 1) j0 = min m (j0 + n) - min m j0 := by omega
      rw [this, Nat.add_zero]
end
/-- A point of side n that lies within the view. -/
theorem square_law (x : Wn) (n : Nat) (hn : 1 ≤ n ∧ n ≤ 20) (hs : x.s = (n : Int) * 65536) (hx : 128 * (n : Int) ≤ x.x ∧ x.x < 16384 - 128 * (n : Int)) (hy : 128 * (n : Int) ≤ x.y ∧ x.y < 16384 - 128 * (n : Int)) :
    (pointA x 64).length = n * n ∧ ((pointA x 64).map Fr.key).Nodup ∧ ∀ f ∈ pointA x 64, (0 ≤ f.y ∧ f.y < 64) ∧ (0 ≤ f.x ∧ f.x < 64) ∧ (0 ≤ f.p 0 ∧ f.p 0 < 65536) ∧ 0 ≤ f.p 1 ∧ f.p 1 < 65536 := by
  have hsd : sideA x = n := by
    unfold sideA fadd
    rw [hs, raw_in (by unfold I32; omega)]
    omega
  obtain ⟨f1, f2⟩ := point_fact x 64
  refine ⟨?_, f1, f2⟩
  obtain ⟨i0, hi0⟩ : ∃ i0 : Nat, (i0 : Int) = (x.x - 128 * n + 127) / 256 := ⟨((x.x - 128 * n + 127) / 256).toNat, by omega⟩
  obtain ⟨j0, hj0⟩ : ∃ j0 : Nat, (j0 : Int) = (x.y - 128 * n + 127) / 256 := ⟨((x.y - 128 * n + 127) / 256).toNat, by omega⟩
  have h := point_count (x := x) (n := n) (i0 := i0) (j0 := j0) (fun i => by rw [hsd]; constructor <;> intro h <;> omega) (fun j => by rw [hsd]; constructor <;> intro h <;> omega) (by omega) 64
  rw [h, show min 64 (j0 + n) - min 64 j0 = n by omega]
end Go.Proofs.Ytokjajfojjibcaa
