/- Images as arguments: what stands in memory for one (layers 8 and 9). -/
import Derived.Test.YtdaipgnhconfnaaHls
import Derived.Test.YtdaipgnhconfnaaPd
import Derived.Test.YtdaipgnhconfnaaProg
import Derived.Test.YtdaipgnhconfnaaHlu
set_option linter.unusedSimpArgs false
set_option linter.unusedVariables false
set_option maxRecDepth 100000
namespace Go.Proofs.Ytdaipgnhconfnaa
open Go.HL Go.RowKit Go.ChangeShapes Go.WideShapes Pb

def I64 (x : Int) : Prop := -9223372036854775808 ≤ x ∧ x ≤ 9223372036854775807
theorem i64_wf {n : Int} (h : (Lit.int .i64 n).wf = true) : I64 n := bounds_i64 h
theorem u8_wf {n : Int} (h : (Lit.int .u8 n).wf = true) : 0 ≤ n ∧ n ≤ 255 := bounds_u8 h
/-- A level. -/
structure LvR where
  w : Int
  h : Int
  a : Option Addr
  cap : Nat
  l : List Int
def LvR.row (x : LvR) : List Value := [.int .i64 x.w, .int .i64 x.h, .slice x.a x.l.length x.cap]
def LvR.v (x : LvR) : Value := .agg #[.int .i64 x.w, .int .i64 x.h, .slice x.a x.l.length x.cap]
structure LvOk (W : World) (H : Heap) (x : LvR) : Prop where
  at_ : IntsAt W H .u8 x.a x.l
  lc : x.l.length ≤ x.cap
  lm : x.l.length ≤ maxLen
  lr : x.l.length ≤ 140737488355328
  w : I64 x.w
  h : I64 x.h
  by_ : ∀ b ∈ x.l, 0 ≤ b ∧ b ≤ 255
theorem LvOk.grow {W : World} {H G : Heap} {x : LvR} (h : LvOk W H x) (g : Grow W H G) : LvOk W G x := ⟨h.at_.grow g, h.lc, h.lm, h.lr, h.w, h.h, h.by_⟩
structure Im where
  f : Int
  a : Option Addr
  cap : Nat
  ls : List LvR
  s : Int
  t : Int
  mn : Int
  mg : Int
def Im.v (x : Im) : Value := .agg #[.int .i64 x.f, .slice x.a x.ls.length x.cap, .int .i64 x.s, .int .i64 x.t, .int .i64 x.mn, .int .i64 x.mg]
structure ImOk (W : World) (H : Heap) (x : Im) : Prop where
  at_ : SlAt W H x.a (x.ls.map LvR.row).flatten
  lv : ∀ y ∈ x.ls, LvOk W H y
  lc : x.ls.length ≤ x.cap
  lm : x.ls.length ≤ maxLen
  lr : x.ls.length * 40 ≤ 140737488355328
  f : I64 x.f
  s : I64 x.s
  t : I64 x.t
  mn : I64 x.mn
  mg : I64 x.mg
theorem ImOk.grow {W : World} {H G : Heap} {x : Im} (h : ImOk W H x) (g : Grow W H G) : ImOk W G x := ⟨h.at_.grow g, fun y hy => (h.lv y hy).grow g, h.lc, h.lm, h.lr, h.f, h.s, h.t, h.mn, h.mg⟩

theorem len3 {l : List Value} (h : l.length = 3) : ∃ a b c, l = [a, b, c] := by
  match l, h with
  | [a, b, c], _ => exact ⟨a, b, c, rfl⟩
theorem len6 {l : List Value} (h : l.length = 6) : ∃ a b c d e f, l = [a, b, c, d, e, f] := by
  match l, h with
  | [a, b, c, d, e, f], _ => exact ⟨a, b, c, d, e, f, rfl⟩
section
variable {W : World}
theorem open_lv {D : Nat} {cs : List Value} (h : Arg Try.prog W (D + 3) 38 cs) : ∃ x : LvR, cs = x.row ∧ LvOk W (fun _ => none) x := by
  have hl := arg_len (n := 3) h 0 (by kernel_rfl) (by kernel_rfl)
  obtain ⟨c0, c1, c2, rfl⟩ := len3 hl
  have f0 := arg_fld (ft := 3) h (i := 0) (off := 0) (n := 1) (by kernel_rfl) (by kernel_rfl); obtain ⟨n0, e0, q0⟩ := arg_int (k := .i64) f0 (by kernel_rfl); have f1 := arg_fld (ft := 3) h (i := 1) (off := 1) (n := 1) (by kernel_rfl) (by kernel_rfl); obtain ⟨n1, e1, q1⟩ := arg_int (k := .i64) f1 (by kernel_rfl); have f2 := arg_fld (ft := 36) h (i := 2) (off := 2) (n := 1) (by kernel_rfl) (by kernel_rfl); obtain ⟨a2, len2, cap2, l2, e2, hl2, lc2, lb2, lm2, lw2, li2, ln2⟩ := open_intslice (e := 5) (k := .u8) (by kernel_rfl) (by kernel_rfl) (by kernel_rfl) f2
  simp at e0 e1 e2
  subst e0 e1 e2 hl2
  have hlr : l2.length ≤ 140737488355328 := by rw [show Try.prog.bytesOf 5 = 1 by kernel_rfl] at lb2; exact Nat.le_trans (by omega) (Nat.le_trans lb2 (by decide))
  exact ⟨⟨n0, n1, a2, cap2, l2⟩, rfl, ⟨li2, lc2, lm2, hlr, i64_wf q0, i64_wf q1, fun b hb => u8_wf (lw2 b hb)⟩⟩
theorem open_image {r : Reach} {b : Nat} {v : Value} (hv : Value.okWide Try.prog W r b 24 v) (h : Arg Try.prog W 8 24 v.cells.toList) : ∃ x : Im, v = x.v ∧ ImOk W (fun _ => none) x := by
  obtain ⟨cs, rfl⟩ := okWide_agg (by kernel_rfl) hv
  rw [cells_agg] at h
  have hl := arg_len (n := 6) h 0 (by kernel_rfl) (by kernel_rfl)
  obtain ⟨c0, c1, c2, c3, c4, c5, rfl⟩ := len6 hl
  have f0 := arg_fld (ft := 3) h (i := 0) (off := 0) (n := 1) (by kernel_rfl) (by kernel_rfl); obtain ⟨n0, e0, q0⟩ := arg_int (k := .i64) f0 (by kernel_rfl); have f1 := arg_fld (ft := 22) h (i := 1) (off := 1) (n := 1) (by kernel_rfl) (by kernel_rfl); obtain ⟨a1, cap1, rows1, e1, lc1, lm1, lb1, ln1, lr1, ls1⟩ := open_rows (e := 38) (sz := 3) (by kernel_rfl) (by kernel_rfl) (by decide) f1; have f2 := arg_fld (ft := 3) h (i := 2) (off := 2) (n := 1) (by kernel_rfl) (by kernel_rfl); obtain ⟨n2, e2, q2⟩ := arg_int (k := .i64) f2 (by kernel_rfl); have f3 := arg_fld (ft := 3) h (i := 3) (off := 3) (n := 1) (by kernel_rfl) (by kernel_rfl); obtain ⟨n3, e3, q3⟩ := arg_int (k := .i64) f3 (by kernel_rfl); have f4 := arg_fld (ft := 3) h (i := 4) (off := 4) (n := 1) (by kernel_rfl) (by kernel_rfl); obtain ⟨n4, e4, q4⟩ := arg_int (k := .i64) f4 (by kernel_rfl); have f5 := arg_fld (ft := 3) h (i := 5) (off := 5) (n := 1) (by kernel_rfl) (by kernel_rfl); obtain ⟨n5, e5, q5⟩ := arg_int (k := .i64) f5 (by kernel_rfl)
  obtain ⟨ls, rfl, hls⟩ := map_of (f := LvR.row) (q := LvOk W (fun _ => none)) rows1 fun y hy => open_lv (D := 3) (lr1 y hy).2
  have hlr : ls.length * 40 ≤ 140737488355328 := by rw [show Try.prog.bytesOf 38 = 40 by kernel_rfl, List.length_map] at lb1; exact Nat.le_trans lb1 (by decide)
  simp at e0 e1 e2 e3 e4 e5
  subst e0 e2 e3 e4 e5
  refine ⟨⟨n0, a1, cap1, ls, n2, n3, n4, n5⟩, by rw [e1]; rfl, ⟨ls1, hls, by simpa using lc1, by simpa using lm1, hlr, i64_wf q0, i64_wf q2, i64_wf q3, i64_wf q4, i64_wf q5⟩⟩
end
end Go.Proofs.Ytdaipgnhconfnaa
