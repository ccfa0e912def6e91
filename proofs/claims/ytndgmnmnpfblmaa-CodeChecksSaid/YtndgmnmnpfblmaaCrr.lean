/- Whether an instruction may be at its place, by the document, joined (layer 16). -/
import Derived.Test.YtndgmnmnpfblmaaCrqa
import Derived.Test.YtndgmnmnpfblmaaCrqb
import Derived.Test.YtndgmnmnpfblmaaCrqc
set_option linter.unusedSimpArgs false
set_option linter.unusedVariables false
set_option maxRecDepth 100000
set_option maxHeartbeats 4000000
namespace Go.Proofs.Ytndgmnmnpfblmaa
open Go.HL Go.RowKit Pb
variable {w0 : World} {H : Heap} {K : Value → Heap → Prop}

theorem r_Right (c : Cd) (k : Nat) (i : Ins) (hc : CdAt w0 H c) (hk : c.is[k]? = some i) (h : K (.bool (rightB c k i)) H) : HCalls Try.prog w0 52 [c.v, .int .i64 k] H K := by
  replace h : ∀ v, rightB c k i = v → HL.Fin K (.bool v) H := fun v e => Fin_mk (Heap.Le.refl _) (by rw [e] at h; exact h)
  obtain ⟨b, o, ea, hr, hf⟩ := hc.row hk
  obtain ⟨st, adr, cap, is, rg, ab, un, va⟩ := c
  obtain ⟨op, fn, bs, n, dst, a, bb, cc, m0, m1, m2, m3, p0, p1, p2, p3⟩ := i
  simp only at ea hk
  subst ea
  have t0 : (k : Int) < (is.length : Int) := by have := (List.getElem?_eq_some_iff.1 hk).1; omega
  unfold Cd.v
  simp only
  rcases (show op = 1 ∨ op = 2 ∨ op = 3 ∨ op = 4 ∨ op = 5 ∨ op = 6 ∨ op = 7 ∨ op = 8 ∨ op = 9 ∨ op = 10 ∨ op = 11 ∨ op = 12 ∨ (op < 1 ∨ 12 < op) by omega) with rfl | rfl | rfl | rfl | rfl | rfl | rfl | rfl | rfl | rfl | rfl | rfl | ho
  · exact right_1 hr hf rfl t0 h
  · exact right_2 hr hf rfl t0 h
  · exact right_3 hr hf rfl t0 h
  · exact right_4 hr hf rfl t0 h
  · have hna := args_le fn bs
    rcases (show args fn bs = 0 ∨ args fn bs = 1 ∨ args fn bs = 2 ∨ args fn bs = 3 by omega) with e | e | e | e
    · exact right_5_0 e hr hf rfl t0 h
    · exact right_5_1 e hr hf rfl t0 h
    · exact right_5_2 e hr hf rfl t0 h
    · exact right_5_3 e hr hf rfl t0 h
  · exact right_6 hr hf rfl t0 h
  · exact right_7 hr hf rfl t0 h
  · exact right_8 hr hf rfl t0 h
  · exact right_9 hr hf rfl t0 h
  · exact right_10 hr hf rfl t0 h
  · exact right_11 hr hf rfl t0 h
  · exact right_12 hr hf rfl t0 h
  · exact right_e ho hr hf rfl t0 h
end Go.Proofs.Ytndgmnmnpfblmaa
