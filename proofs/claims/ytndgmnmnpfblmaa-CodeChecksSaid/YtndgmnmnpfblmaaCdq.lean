/- Codes as arguments: what stands in memory for one (layer 16). -/
import Derived.Test.YtndgmnmnpfblmaaHlt
import Derived.Test.YtndgmnmnpfblmaaPd
import Derived.Test.YtndgmnmnpfblmaaCde
set_option linter.unusedSimpArgs false
set_option linter.unusedVariables false
set_option maxRecDepth 100000
namespace Go.Proofs.Ytndgmnmnpfblmaa
open Go.HL Go.RowKit Go.ChangeShapes Go.WideShapes Pb

def I64 (x : Int) : Prop := -9223372036854775808 ≤ x ∧ x ≤ 9223372036854775807
theorem i64_wf {n : Int} (h : (Lit.int .i64 n).wf = true) : I64 n := bounds_i64 h
/-- The raws of an instruction have 32 bits. -/
def InsW (i : Ins) : Prop := I32 i.m0 ∧ I32 i.m1 ∧ I32 i.m2 ∧ I32 i.m3
theorem len4c {l : List Value} (h : l.length = 4) : ∃ a b c d, l = [a, b, c, d] := by
  match l, h with
  | [a, b, c, d], _ => exact ⟨a, b, c, d, rfl⟩
theorem len6c {l : List Value} (h : l.length = 6) : ∃ a b c d e f, l = [a, b, c, d, e, f] := by
  match l, h with
  | [a, b, c, d, e, f], _ => exact ⟨a, b, c, d, e, f, rfl⟩
theorem len16c {l : List Value} (h : l.length = 16) : ∃ a0 a1 a2 a3 a4 a5 a6 a7 a8 a9 b0 b1 b2 b3 b4 b5, l = [a0, a1, a2, a3, a4, a5, a6, a7, a8, a9, b0, b1, b2, b3, b4, b5] := by
  match l, h with
  | [a0, a1, a2, a3, a4, a5, a6, a7, a8, a9, b0, b1, b2, b3, b4, b5], _ => exact ⟨_, _, _, _, _, _, _, _, _, _, _, _, _, _, _, _, rfl⟩
section
variable {W : World}
theorem open_arr4 {k : IntKind} {D : Nat} {t e : TypeId} {cs : List Value} (hu : Try.prog.underlying t = some (.array 4 e)) (hc : Try.prog.cellsOf t = 4) (he : Try.prog.cellsOf e = 1) (hi : Try.prog.underlying e = some (.int k)) (h : Arg Try.prog W (D + 2) t cs) : ∃ a b c d, cs = [.int k a, .int k b, .int k c, .int k d] ∧
    (Lit.int k a).wf = true ∧ (Lit.int k b).wf = true ∧ (Lit.int k c).wf = true ∧ (Lit.int k d).wf = true := by
  obtain ⟨hl, hh⟩ := arg_arr h hu he
  rw [hc] at hl
  obtain ⟨c0, c1, c2, c3, rfl⟩ := len4c hl
  obtain ⟨n0, e0, q0⟩ := arg_int (hh 0 (by omega)) hi
  obtain ⟨n1, e1, q1⟩ := arg_int (hh 1 (by omega)) hi
  obtain ⟨n2, e2, q2⟩ := arg_int (hh 2 (by omega)) hi
  obtain ⟨n3, e3, q3⟩ := arg_int (hh 3 (by omega)) hi
  simp at e0 e1 e2 e3
  subst e0 e1 e2 e3
  exact ⟨n0, n1, n2, n3, rfl, q0, q1, q2, q3⟩
theorem open_ins {D : Nat} {cs : List Value} (h : Arg Try.prog W (D + 4) 30 cs) : ∃ x : Ins, cs = x.row ∧ InsW x := by
  have hl := arg_len (n := 16) h 0 (by kernel_rfl) (by kernel_rfl)
  obtain ⟨a0, a1, a2, a3, a4, a5, a6, a7, a8, a9, b0, b1, b2, b3, b4, b5, rfl⟩ := len16c hl
  have f0 := arg_fld (ft := 3) h (i := 0) (off := 0) (n := 1) (by kernel_rfl) (by kernel_rfl); obtain ⟨n0, e0, q0⟩ := arg_int (k := .i64) f0 (by kernel_rfl); have f1 := arg_fld (ft := 3) h (i := 1) (off := 1) (n := 1) (by kernel_rfl) (by kernel_rfl); obtain ⟨n1, e1, q1⟩ := arg_int (k := .i64) f1 (by kernel_rfl); have f2 := arg_fld (ft := 3) h (i := 2) (off := 2) (n := 1) (by kernel_rfl) (by kernel_rfl); obtain ⟨n2, e2, q2⟩ := arg_int (k := .i64) f2 (by kernel_rfl); have f3 := arg_fld (ft := 3) h (i := 3) (off := 3) (n := 1) (by kernel_rfl) (by kernel_rfl); obtain ⟨n3, e3, q3⟩ := arg_int (k := .i64) f3 (by kernel_rfl); have f4 := arg_fld (ft := 3) h (i := 4) (off := 4) (n := 1) (by kernel_rfl) (by kernel_rfl); obtain ⟨n4, e4, q4⟩ := arg_int (k := .i64) f4 (by kernel_rfl); have f5 := arg_fld (ft := 3) h (i := 5) (off := 5) (n := 1) (by kernel_rfl) (by kernel_rfl); obtain ⟨n5, e5, q5⟩ := arg_int (k := .i64) f5 (by kernel_rfl); have f6 := arg_fld (ft := 3) h (i := 6) (off := 6) (n := 1) (by kernel_rfl) (by kernel_rfl); obtain ⟨n6, e6, q6⟩ := arg_int (k := .i64) f6 (by kernel_rfl); have f7 := arg_fld (ft := 3) h (i := 7) (off := 7) (n := 1) (by kernel_rfl) (by kernel_rfl); obtain ⟨n7, e7, q7⟩ := arg_int (k := .i64) f7 (by kernel_rfl); have f8 := arg_fld (ft := 27) h (i := 8) (off := 8) (n := 4) (by kernel_rfl) (by kernel_rfl); have f9 := arg_fld (ft := 28) h (i := 9) (off := 12) (n := 4) (by kernel_rfl) (by kernel_rfl)
  obtain ⟨i0, i1, i2, i3, eI, w0, w1, w2, w3⟩ := open_arr4 (k := .i32) (e := 25) (by kernel_rfl) (by kernel_rfl) (by kernel_rfl) (by kernel_rfl) f8
  obtain ⟨p0, p1, p2, p3, eP, -, -, -, -⟩ := open_arr4 (k := .i64) (e := 3) (by kernel_rfl) (by kernel_rfl) (by kernel_rfl) (by kernel_rfl) f9
  simp at e0 e1 e2 e3 e4 e5 e6 e7 eI eP
  obtain ⟨rfl, rfl, rfl, rfl⟩ := eI
  obtain ⟨rfl, rfl, rfl, rfl⟩ := eP
  subst e0 e1 e2 e3 e4 e5 e6 e7
  exact ⟨⟨n0, n1, n2, n3, n4, n5, n6, n7, i0, i1, i2, i3, p0, p1, p2, p3⟩, rfl, bounds_i32 w0, bounds_i32 w1, bounds_i32 w2, bounds_i32 w3⟩
/-- A code that an argument gives. -/
structure CdOk (W : World) (H : Heap) (c : Cd) : Prop where
  at_ : CdAt W H c
  w : ∀ i ∈ c.is, InsW i
theorem CdOk.grow {H G : Heap} {c : Cd} (h : CdOk W H c) (g : Grow W H G) : CdOk W G c := ⟨h.at_.grow g, h.w⟩
theorem open_code {r : Reach} {b : Nat} {v : Value} (hv : Value.okWide Try.prog W r b 34 v) (h : Arg Try.prog W 8 34 v.cells.toList) : ∃ x : Cd, v = x.v ∧ CdOk W (fun _ => none) x := by
  obtain ⟨cs, rfl⟩ := okWide_agg (by kernel_rfl) hv
  rw [cells_agg] at h
  have hl := arg_len (n := 6) h 0 (by kernel_rfl) (by kernel_rfl)
  obtain ⟨c0, c1, c2, c3, c4, c5, rfl⟩ := len6c hl
  have f0 := arg_fld (ft := 3) h (i := 0) (off := 0) (n := 1) (by kernel_rfl) (by kernel_rfl); obtain ⟨n0, e0, q0⟩ := arg_int (k := .i64) f0 (by kernel_rfl); have f1 := arg_fld (ft := 22) h (i := 1) (off := 1) (n := 1) (by kernel_rfl) (by kernel_rfl); obtain ⟨a1, cap1, rows1, e1, lc1, lm1, lb1, ln1, lr1, ls1⟩ := open_rows (e := 30) (sz := 16) (by kernel_rfl) (by kernel_rfl) (by decide) f1; have f2 := arg_fld (ft := 3) h (i := 2) (off := 2) (n := 1) (by kernel_rfl) (by kernel_rfl); obtain ⟨n2, e2, q2⟩ := arg_int (k := .i64) f2 (by kernel_rfl); have f3 := arg_fld (ft := 3) h (i := 3) (off := 3) (n := 1) (by kernel_rfl) (by kernel_rfl); obtain ⟨n3, e3, q3⟩ := arg_int (k := .i64) f3 (by kernel_rfl); have f4 := arg_fld (ft := 3) h (i := 4) (off := 4) (n := 1) (by kernel_rfl) (by kernel_rfl); obtain ⟨n4, e4, q4⟩ := arg_int (k := .i64) f4 (by kernel_rfl); have f5 := arg_fld (ft := 3) h (i := 5) (off := 5) (n := 1) (by kernel_rfl) (by kernel_rfl); obtain ⟨n5, e5, q5⟩ := arg_int (k := .i64) f5 (by kernel_rfl)
  obtain ⟨ls, rfl, hls⟩ := map_of (f := Ins.row) (q := InsW) rows1 fun y hy => open_ins (D := 2) (lr1 y hy).2
  simp at e0 e1 e2 e3 e4 e5
  subst e0 e2 e3 e4 e5
  exact ⟨⟨n0, a1, cap1, ls, n2, n3, n4, n5⟩, by rw [e1]; rfl, ⟨ls1, by simpa using lm1, by simpa using lc1⟩, hls⟩
end
end Go.Proofs.Ytndgmnmnpfblmaa
