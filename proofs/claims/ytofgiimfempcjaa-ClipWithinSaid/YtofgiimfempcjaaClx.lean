/- The arguments of the layer's statements (layer 21). -/
import Derived.Test.YtofgiimfempcjaaClf
set_option linter.unusedSimpArgs false
set_option linter.unusedVariables false
set_option maxRecDepth 100000
namespace Go.Proofs.Ytofgiimfempcjaa
open Go.HL Go.RowKit Go.ChangeShapes Go.WideShapes Pb
section
variable {W : World}
def threeV (A B C : VtR) : Value := .agg #[.int .i32 (A.p 0), .int .i32 (A.p 1), .int .i32 (A.p 2), .int .i32 (A.p 3), .int .i32 A.s, .slice A.a A.l.length A.cap, .int .i32 (B.p 0), .int .i32 (B.p 1), .int .i32 (B.p 2), .int .i32 (B.p 3), .int .i32 B.s, .slice B.a B.l.length B.cap,
  .int .i32 (C.p 0), .int .i32 (C.p 1), .int .i32 (C.p 2), .int .i32 (C.p 3), .int .i32 C.s, .slice C.a C.l.length C.cap]
theorem len18 {l : List Value} (h : l.length = 18) : ∃ a b c, l = a ++ b ++ c ∧ (l.drop 0).take 6 = a ∧ (l.drop 6).take 6 = b ∧ (l.drop 12).take 6 = c := by
  refine ⟨_, _, _, ?_, rfl, rfl, rfl⟩
  rw [List.drop_zero]
  have e1 : l = l.take 6 ++ l.drop 6 := (List.take_append_drop 6 l).symm
  have e2 : l.drop 6 = (l.drop 6).take 6 ++ (l.drop 6).drop 6 := (List.take_append_drop 6 _).symm
  have e3 : (l.drop 12).take 6 = l.drop 12 := List.take_of_length_le (by rw [List.length_drop, h]; omega)
  rw [e3, List.append_assoc]
  rw [List.drop_drop] at e2
  rw [← e2]
  exact e1
theorem open_three {r : Reach} {b : Nat} {v : Value} (hv : Value.okWide Try.prog W r b 31 v) (h : Arg Try.prog W 8 31 v.cells.toList) : ∃ x : VtR × VtR × VtR, v = threeV x.1 x.2.1 x.2.2 ∧ VtOk W (fun _ => none) x.1 ∧ VtOk W (fun _ => none) x.2.1 ∧ VtOk W (fun _ => none) x.2.2 := by
  obtain ⟨cs, rfl⟩ := okWide_agg (by kernel_rfl) hv
  rw [cells_agg] at h
  have hl := arg_len (n := 18) h 0 (by kernel_rfl) (by kernel_rfl)
  have f0 := arg_fld (ft := 29) h (i := 0) (off := 0) (n := 6) (by kernel_rfl) (by kernel_rfl)
  have f1 := arg_fld (ft := 29) h (i := 1) (off := 6) (n := 6) (by kernel_rfl) (by kernel_rfl)
  have f2 := arg_fld (ft := 29) h (i := 2) (off := 12) (n := 6) (by kernel_rfl) (by kernel_rfl)
  obtain ⟨a, b', c, e, e0, e1, e2⟩ := len18 hl
  obtain ⟨x, hx, ox⟩ := open_row (D := 3) f0
  obtain ⟨y, hy, oy⟩ := open_row (D := 3) f1
  obtain ⟨z, hz, oz⟩ := open_row (D := 3) f2
  rw [e0] at hx
  rw [e1] at hy
  rw [e2] at hz
  subst hx hy hz
  have e : cs = x.row ++ y.row ++ z.row := by simpa using e
  subst e
  exact ⟨(x, y, z), rfl, ox, oy, oz⟩
end
end Go.Proofs.Ytofgiimfempcjaa
