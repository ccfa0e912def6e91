/- No cell of a line is met twice (layer 23): a plain law. -/
import Derived.Test.YtokjajfojjibcaaLnq
import Derived.Test.YtokjajfojjibcaaLmy
set_option linter.unusedSimpArgs false
set_option linter.unusedVariables false
namespace Go.Proofs.Ytokjajfojjibcaa
open Go Go.HL Go.RowKit Pb

/-- The number along a line. -/
def alongF (wide : Bool) (f : Fr) : Int := if wide then f.x else f.y
section
variable {a b : Wn} {wide : Bool} {p q s t : Int}
theorem line_fact : ∀ n : Nat, n ≤ 64 → ((lineC a b wide p q s t n).map Fr.key).Nodup ∧ ∀ f ∈ lineC a b wide p q s t n, (∃ j : Nat, j < n ∧ alongF wide f = (if q < p then 63 - (j : Int) else (j : Int))) ∧ inA p q (256 * alongF wide f + 128) ∧ (0 ≤ f.x ∧ f.x < 64) ∧ 0 ≤ f.y ∧ f.y < 64
  | 0, _ => ⟨by simp [lineC], by simp [lineC]⟩
  | n + 1, hn => by
    obtain ⟨h1, h2⟩ := line_fact n (by omega)
    obtain ⟨i, ei⟩ : ∃ i : Int, (if q < p then 63 - (n : Int) else (n : Int)) = i := ⟨_, rfl⟩
    have hi : 0 ≤ i ∧ i < 64 := by rw [← ei]; split <;> omega
    rw [lineC_succ, ei]
    cases e : atC a b wide p q s t i with
    | none => simp only [Option.toList, List.append_nil]; exact ⟨h1, fun f hf => by obtain ⟨⟨j, hj, e1⟩, h3⟩ := h2 f hf; exact ⟨⟨j, by omega, e1⟩, h3⟩⟩
    | some F =>
      have hF : F = frA a b wide p q s t i ∧ inA p q (256 * i + 128) ∧ 0 ≤ kA p q s t (256 * i + 128) ∧ kA p q s t (256 * i + 128) ≤ 63 := by
        unfold atC at e
        split at e <;> cases e
        rename_i hc
        exact ⟨rfl, hc⟩
      obtain ⟨rfl, g1, g2, g3⟩ := hF
      have ha : alongF wide (frA a b wide p q s t i) = i := by unfold alongF frA; cases wide <;> rfl
      have hb : (0 ≤ (frA a b wide p q s t i).x ∧ (frA a b wide p q s t i).x < 64) ∧ 0 ≤ (frA a b wide p q s t i).y ∧ (frA a b wide p q s t i).y < 64 := by
        unfold frA; cases wide <;> simp only <;> (refine ⟨⟨?_, ?_⟩, ?_, ?_⟩ <;> first | omega | (simp; omega))
      simp only [Option.toList]
      refine ⟨?_, fun f hf => ?_⟩
      · rw [List.map_append, List.nodup_append]
        refine ⟨h1, by simp, fun u hu v hv => ?_⟩
        obtain ⟨f, hf, rfl⟩ := List.mem_map.1 hu
        obtain ⟨⟨j, hj, e1⟩, -⟩ := h2 f hf
        simp only [List.map_cons, List.map_nil, List.mem_singleton] at hv
        subst hv
        intro e2
        have e3 : alongF wide f = alongF wide (frA a b wide p q s t i) := by
          have x1 := congrArg Prod.fst e2
          have x2 := congrArg Prod.snd e2
          simp only [Fr.key] at x1 x2
          unfold alongF; cases wide <;> simp [x1, x2]
        rw [ha, e1, ← ei] at e3
        split at e3 <;> omega
      · rcases List.mem_append.1 hf with hf | hf
        · obtain ⟨⟨j, hj, e1⟩, h3⟩ := h2 f hf
          exact ⟨⟨j, by omega, e1⟩, h3⟩
        · rw [List.mem_singleton] at hf
          subst hf
          exact ⟨⟨n, by omega, by rw [ha, ei]⟩, by rw [ha]; exact g1, hb⟩
end
end Go.Proofs.Ytokjajfojjibcaa
