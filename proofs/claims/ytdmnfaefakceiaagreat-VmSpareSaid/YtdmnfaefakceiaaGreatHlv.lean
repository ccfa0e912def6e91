/- The heap logic, part v: arguments of cells of several kinds; heaps that grew, set forth. -/
import Derived.Test.YtdmnfaefakceiaaGreatHls
set_option linter.unusedSimpArgs false
set_option linter.unusedVariables false
namespace Go.HL
open Go.RowKit Go.ChangeShapes Go.WideShapes Go.ChangeAt
variable {w0 : World} {H G G' : Heap}
theorem cell_int {k : IntKind} {ks : List CK} {cs : List Value} (h : CellsOk (.int k :: ks) cs) : ∃ n c, cs = .int k n :: c ∧ (Lit.int k n).wf = true ∧ CellsOk ks c := by
  match cs, h with
  | v :: c, ⟨⟨n, hv, hw⟩, h⟩ => exact ⟨n, c, by rw [hv], hw, h⟩
theorem cell_bool {ks : List CK} {cs : List Value} (h : CellsOk (.bool :: ks) cs) : ∃ n c, cs = .bool n :: c ∧ CellsOk ks c := by
  match cs, h with
  | v :: c, ⟨⟨n, hv⟩, h⟩ => exact ⟨n, c, by rw [hv], h⟩
theorem cell_nil {cs : List Value} (h : CellsOk [] cs) : cs = [] := by
  match cs, h with
  | [], _ => rfl
theorem up1 {b : Nat} {x : Blk} (g : Grow w0 (H.set b x) G) : G = G.set b x := root1 (g.some (Heap.set_same _ _ _))
theorem up2 {b c : Nat} {x y : Blk} (g : Grow w0 ((H.set b x).set c y) G) (e : ((H.set b x).set c y) b = some x) : G = (G.set b x).set c y := by
  rw [Heap.set_id G b x (g.some e), Heap.set_id G c y (g.some (Heap.set_same _ _ _))]
theorem up3 {b c d : Nat} {x y z : Blk} (g : Grow w0 (((H.set b x).set c y).set d z) G) (e : (((H.set b x).set c y).set d z) b = some x) (e2 : (((H.set b x).set c y).set d z) c = some y) : G = ((G.set b x).set c y).set d z := by
  rw [Heap.set_id G b x (g.some e), Heap.set_id G c y (g.some e2), Heap.set_id G d z (g.some (Heap.set_same _ _ _))]
theorem up4 {b c d f : Nat} {x y z u : Blk} (g : Grow w0 ((((H.set b x).set c y).set d z).set f u) G) (e : ((((H.set b x).set c y).set d z).set f u) b = some x) (e2 : ((((H.set b x).set c y).set d z).set f u) c = some y) (e3 : ((((H.set b x).set c y).set d z).set f u) d = some z) : G = (((G.set b x).set c y).set d z).set f u := by
  rw [Heap.set_id G b x (g.some e), Heap.set_id G c y (g.some e2), Heap.set_id G d z (g.some e3), Heap.set_id G f u (g.some (Heap.set_same _ _ _))]
theorem Le_set2 {A B : Heap} {b : Nat} {x : Blk} (h : Heap.Le A B) : Heap.Le (A.set b x) (B.set b x) := fun c y hc => by
  by_cases hb : c = b
  · subst hb; rw [Heap.set_same] at hc ⊢; exact hc
  · rw [Heap.set_other _ _ hb] at hc ⊢; exact h c y hc
theorem Le_known {A B : Heap} {b : Nat} {x : Blk} (e : A b = some x) (h : Heap.Le A B) : Heap.Le A (B.set b x) := fun c y hc => by
  by_cases hb : c = b
  · subst hb; rw [e] at hc; cases hc; exact Heap.set_same _ _ _
  · rw [Heap.set_other _ _ hb]; exact h c y hc
theorem Grow_known {A B : Heap} {b : Nat} {x : Blk} (e : A b = some x) (h : Grow w0 A B) : Grow w0 A (B.set b x) := fun c => by
  by_cases hb : c = b
  · subst hb; exact .inl (by rw [e, Heap.set_same])
  · rw [Heap.set_other _ _ hb]; exact h c
end Go.HL
