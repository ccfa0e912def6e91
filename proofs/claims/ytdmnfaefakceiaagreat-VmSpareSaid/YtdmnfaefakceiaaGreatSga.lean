/- Sma Smz Smb Smc Smd -/
import Derived.Test.YtdmnfaefakceiaaGreatHls
import Derived.Test.YtdmnfaefakceiaaGreatPd
import Derived.Test.YtdmnfaefakceiaaGreatProg
import Derived.Test.YtdmnfaefakceiaaGreatHlu
section
/- Images as values (layer 18). -/
set_option linter.unusedSimpArgs false
set_option linter.unusedVariables false
set_option maxRecDepth 100000
namespace Go.Proofs.YtdmnfaefakceiaaGreat.Sm
open Go.HL Go.RowKit Go.ChangeShapes Go.WideShapes Pb

def I64 (x : Int) : Prop := -9223372036854775808 ≤ x ∧ x ≤ 9223372036854775807
theorem i64_wf {n : Int} (h : (Lit.int .i64 n).wf = true) : I64 n := bounds_i64 h
theorem u8_wf {n : Int} (h : (Lit.int .u8 n).wf = true) : 0 ≤ n ∧ n ≤ 255 := bounds_u8 h
/-- A level. -/
structure LvR where
  w : Int
  h : Int
  a : Option Addr
  cap : Nat
  l : List Int
def LvR.row (x : LvR) : List Value := [.int .i64 x.w, .int .i64 x.h, .slice x.a x.l.length x.cap]
def LvR.v (x : LvR) : Value := .agg #[.int .i64 x.w, .int .i64 x.h, .slice x.a x.l.length x.cap]
structure LvOk (W : World) (H : Heap) (x : LvR) : Prop where
  at_ : IntsAt W H .u8 x.a x.l
  lc : x.l.length ≤ x.cap
  lm : x.l.length ≤ maxLen
  lr : x.l.length ≤ 140737488355328
  w : I64 x.w
  h : I64 x.h
  by_ : ∀ b ∈ x.l, 0 ≤ b ∧ b ≤ 255
theorem LvOk.grow {W : World} {H G : Heap} {x : LvR} (h : LvOk W H x) (g : Grow W H G) : LvOk W G x := ⟨h.at_.grow g, h.lc, h.lm, h.lr, h.w, h.h, h.by_⟩
structure Im where
  f : Int
  a : Option Addr
  cap : Nat
  ls : List LvR
  s : Int
  t : Int
  mn : Int
  mg : Int
def Im.v (x : Im) : Value := .agg #[.int .i64 x.f, .slice x.a x.ls.length x.cap, .int .i64 x.s, .int .i64 x.t, .int .i64 x.mn, .int .i64 x.mg]
structure ImOk (W : World) (H : Heap) (x : Im) : Prop where
  at_ : SlAt W H x.a (x.ls.map LvR.row).flatten
  lv : ∀ y ∈ x.ls, LvOk W H y
  lc : x.ls.length ≤ x.cap
  lm : x.ls.length ≤ maxLen
  lr : x.ls.length * 40 ≤ 140737488355328
  f : I64 x.f
  s : I64 x.s
  t : I64 x.t
  mn : I64 x.mn
  mg : I64 x.mg
theorem ImOk.grow {W : World} {H G : Heap} {x : Im} (h : ImOk W H x) (g : Grow W H G) : ImOk W G x := ⟨h.at_.grow g, fun y hy => (h.lv y hy).grow g, h.lc, h.lm, h.lr, h.f, h.s, h.t, h.mn, h.mg⟩

theorem len3 {l : List Value} (h : l.length = 3) : ∃ a b c, l = [a, b, c] := by
  match l, h with
  | [a, b, c], _ => exact ⟨a, b, c, rfl⟩
theorem len6 {l : List Value} (h : l.length = 6) : ∃ a b c d e f, l = [a, b, c, d, e, f] := by
  match l, h with
  | [a, b, c, d, e, f], _ => exact ⟨a, b, c, d, e, f, rfl⟩
section
variable {W : World}
theorem open_lv {D : Nat} {cs : List Value} (h : Arg Tryz.prog W (D + 3) 156 cs) : ∃ x : LvR, cs = x.row ∧ LvOk W (fun _ => none) x := by
  have hl := arg_len (n := 3) h 0 (by kernel_rfl) (by kernel_rfl)
  obtain ⟨c0, c1, c2, rfl⟩ := len3 hl
  have f0 := arg_fld (ft := 3) h (i := 0) (off := 0) (n := 1) (by kernel_rfl) (by kernel_rfl); obtain ⟨n0, e0, q0⟩ := arg_int (k := .i64) f0 (by kernel_rfl); have f1 := arg_fld (ft := 3) h (i := 1) (off := 1) (n := 1) (by kernel_rfl) (by kernel_rfl); obtain ⟨n1, e1, q1⟩ := arg_int (k := .i64) f1 (by kernel_rfl); have f2 := arg_fld (ft := 154) h (i := 2) (off := 2) (n := 1) (by kernel_rfl) (by kernel_rfl); obtain ⟨a2, len2, cap2, l2, e2, hl2, lc2, lb2, lm2, lw2, li2, ln2⟩ := open_intslice (e := 5) (k := .u8) (by kernel_rfl) (by kernel_rfl) (by kernel_rfl) f2
  simp at e0 e1 e2
  subst e0 e1 e2 hl2
  have hlr : l2.length ≤ 140737488355328 := by rw [show Tryz.prog.bytesOf 5 = 1 by kernel_rfl] at lb2; exact Nat.le_trans (by omega) (Nat.le_trans lb2 (by decide))
  exact ⟨⟨n0, n1, a2, cap2, l2⟩, rfl, ⟨li2, lc2, lm2, hlr, i64_wf q0, i64_wf q1, fun b hb => u8_wf (lw2 b hb)⟩⟩
theorem open_image {r : Reach} {b : Nat} {v : Value} (hv : Value.okWide Tryz.prog W r b 134 v) (h : Arg Tryz.prog W 8 134 v.cells.toList) : ∃ x : Im, v = x.v ∧ ImOk W (fun _ => none) x := by
  obtain ⟨cs, rfl⟩ := okWide_agg (by kernel_rfl) hv
  rw [cells_agg] at h
  have hl := arg_len (n := 6) h 0 (by kernel_rfl) (by kernel_rfl)
  obtain ⟨c0, c1, c2, c3, c4, c5, rfl⟩ := len6 hl
  have f0 := arg_fld (ft := 3) h (i := 0) (off := 0) (n := 1) (by kernel_rfl) (by kernel_rfl); obtain ⟨n0, e0, q0⟩ := arg_int (k := .i64) f0 (by kernel_rfl); have f1 := arg_fld (ft := 132) h (i := 1) (off := 1) (n := 1) (by kernel_rfl) (by kernel_rfl); obtain ⟨a1, cap1, rows1, e1, lc1, lm1, lb1, ln1, lr1, ls1⟩ := open_rows (e := 156) (sz := 3) (by kernel_rfl) (by kernel_rfl) (by decide) f1; have f2 := arg_fld (ft := 3) h (i := 2) (off := 2) (n := 1) (by kernel_rfl) (by kernel_rfl); obtain ⟨n2, e2, q2⟩ := arg_int (k := .i64) f2 (by kernel_rfl); have f3 := arg_fld (ft := 3) h (i := 3) (off := 3) (n := 1) (by kernel_rfl) (by kernel_rfl); obtain ⟨n3, e3, q3⟩ := arg_int (k := .i64) f3 (by kernel_rfl); have f4 := arg_fld (ft := 3) h (i := 4) (off := 4) (n := 1) (by kernel_rfl) (by kernel_rfl); obtain ⟨n4, e4, q4⟩ := arg_int (k := .i64) f4 (by kernel_rfl); have f5 := arg_fld (ft := 3) h (i := 5) (off := 5) (n := 1) (by kernel_rfl) (by kernel_rfl); obtain ⟨n5, e5, q5⟩ := arg_int (k := .i64) f5 (by kernel_rfl)
  obtain ⟨ls, rfl, hls⟩ := map_of (f := LvR.row) (q := LvOk W (fun _ => none)) rows1 fun y hy => open_lv (D := 3) (lr1 y hy).2
  have hlr : ls.length * 40 ≤ 140737488355328 := by rw [show Tryz.prog.bytesOf 156 = 40 by kernel_rfl, List.length_map] at lb1; exact Nat.le_trans lb1 (by decide)
  simp at e0 e1 e2 e3 e4 e5
  subst e0 e2 e3 e4 e5
  refine ⟨⟨n0, a1, cap1, ls, n2, n3, n4, n5⟩, by rw [e1]; rfl, ⟨ls1, hls, by simpa using lc1, by simpa using lm1, hlr, i64_wf q0, i64_wf q2, i64_wf q3, i64_wf q4, i64_wf q5⟩⟩
end
end Go.Proofs.YtdmnfaefakceiaaGreat.Sm
end
section
/- Sizes of pixels (layer 18). -/
set_option linter.unusedSimpArgs false
set_option linter.unusedVariables false
set_option maxRecDepth 100000
set_option maxHeartbeats 4000000
namespace Go.Proofs.YtdmnfaefakceiaaGreat.Sm
open Go.HL Go.RowKit Pb
variable {w0 : World} {H : Heap} {K : Value → Heap → Prop}

/- pixel formats -/
def M179 : MC :=
  .seq (.reg [oX 0 (.mv (.const (.slice none 0 0)))])
 (.seq (.reg [oX 2 (.build [(.int .i32 0),(.int .i32 0),(.int .i32 0),(.int .i32 0)] [(0,1,(.const (.int .i32 0))),(1,1,(.const (.int .i32 0))),(2,1,(.const (.int .i32 0))),(3,1,(.const (.int .i32 65536)))]),
 oX 1 (.alloc 28 [(.int .i32 0),(.int .i32 0),(.int .i32 0),(.int .i32 0)]),
 ⟨none,.stn 4 (.tmp 1) (.tmp 2),none⟩])
 (.seq (.reg [oX 3 (.build [(.int .i64 0),(.slice none 0 0),(.int .i32 0),(.int .i32 0),(.int .i32 0),(.int .i32 0)] []),
 oX 4 (.build [(.int .i64 0),(.int .i64 0),(.int .i64 0)] [(0,1,(kX 0)),(1,1,(kX 8)),(2,1,(kX 0))]),
 oX 5 (.build [(.int .i64 0),(.int .i64 0),(.int .i64 0)] [(0,1,(kX 1)),(1,1,(kX 8)),(2,1,(kX 8))]),
 oX 6 (.build [(.int .i64 0),(.int .i64 0),(.int .i64 0)] [(0,1,(kX 2)),(1,1,(kX 8)),(2,1,(kX 16))]),
 oX 7 (.build [(.int .i64 0),(.int .i64 0),(.int .i64 0)] [(0,1,(kX 3)),(1,1,(kX 8)),(2,1,(kX 24))]),
 oX 8 (.bslice 175 4 [(.int .i64 0),(.int .i64 0),(.int .i64 0),(.int .i64 0),(.int .i64 0),(.int .i64 0),(.int .i64 0),(.int .i64 0),(.int .i64 0),(.int .i64 0),(.int .i64 0),(.int .i64 0)] [(0,3,(.tmp 4)),(3,3,(.tmp 5)),(6,3,(.tmp 6)),(9,3,(.tmp 7))]),
 oX 9 (.build [(.int .i32 0),(.int .i32 0),(.int .i32 0),(.int .i32 0)] []),
 oX 10 (.build [(.int .i64 0),(.slice none 0 0),(.int .i32 0),(.int .i32 0),(.int .i32 0),(.int .i32 0)] [(0,1,(kX 4)),(1,1,(.tmp 8)),(2,4,(.tmp 9))]),
 oX 11 (.build [(.int .i64 0),(.int .i64 0),(.int .i64 0)] [(0,1,(kX 0)),(1,1,(kX 5)),(2,1,(kX 11))]),
 oX 12 (.build [(.int .i64 0),(.int .i64 0),(.int .i64 0)] [(0,1,(kX 1)),(1,1,(kX 6)),(2,1,(kX 5))]),
 oX 13 (.build [(.int .i64 0),(.int .i64 0),(.int .i64 0)] [(0,1,(kX 2)),(1,1,(kX 5)),(2,1,(kX 0))]),
 oX 14 (.bslice 175 3 [(.int .i64 0),(.int .i64 0),(.int .i64 0),(.int .i64 0),(.int .i64 0),(.int .i64 0),(.int .i64 0),(.int .i64 0),(.int .i64 0)] [(0,3,(.tmp 11)),(3,3,(.tmp 12)),(6,3,(.tmp 13))]),
 oX 15 (.ldn 4 (.tmp 1)),
 oX 16 (.build [(.int .i64 0),(.slice none 0 0),(.int .i32 0),(.int .i32 0),(.int .i32 0),(.int .i32 0)] [(0,1,(kX 2)),(1,1,(.tmp 14)),(2,4,(.tmp 15))]),
 oX 17 (.build [(.int .i64 0),(.int .i64 0),(.int .i64 0)] [(0,1,(kX 0)),(1,1,(kX 4)),(2,1,(kX 12))]),
 oX 18 (.build [(.int .i64 0),(.int .i64 0),(.int .i64 0)] [(0,1,(kX 1)),(1,1,(kX 4)),(2,1,(kX 8))]),
 oX 19 (.build [(.int .i64 0),(.int .i64 0),(.int .i64 0)] [(0,1,(kX 2)),(1,1,(kX 4)),(2,1,(kX 4))]),
 oX 20 (.build [(.int .i64 0),(.int .i64 0),(.int .i64 0)] [(0,1,(kX 3)),(1,1,(kX 4)),(2,1,(kX 0))]),
 oX 21 (.bslice 175 4 [(.int .i64 0),(.int .i64 0),(.int .i64 0),(.int .i64 0),(.int .i64 0),(.int .i64 0),(.int .i64 0),(.int .i64 0),(.int .i64 0),(.int .i64 0),(.int .i64 0),(.int .i64 0)] [(0,3,(.tmp 17)),(3,3,(.tmp 18)),(6,3,(.tmp 19)),(9,3,(.tmp 20))]),
 oX 22 (.build [(.int .i32 0),(.int .i32 0),(.int .i32 0),(.int .i32 0)] []),
 oX 23 (.build [(.int .i64 0),(.slice none 0 0),(.int .i32 0),(.int .i32 0),(.int .i32 0),(.int .i32 0)] [(0,1,(kX 2)),(1,1,(.tmp 21)),(2,4,(.tmp 22))]),
 oX 24 (.build [(.int .i64 0),(.int .i64 0),(.int .i64 0)] [(0,1,(kX 0)),(1,1,(kX 5)),(2,1,(kX 11))]),
 oX 25 (.build [(.int .i64 0),(.int .i64 0),(.int .i64 0)] [(0,1,(kX 1)),(1,1,(kX 5)),(2,1,(kX 6))]),
 oX 26 (.build [(.int .i64 0),(.int .i64 0),(.int .i64 0)] [(0,1,(kX 2)),(1,1,(kX 5)),(2,1,(kX 1))]),
 oX 27 (.build [(.int .i64 0),(.int .i64 0),(.int .i64 0)] [(0,1,(kX 3)),(1,1,(kX 1)),(2,1,(kX 0))]),
 oX 28 (.bslice 175 4 [(.int .i64 0),(.int .i64 0),(.int .i64 0),(.int .i64 0),(.int .i64 0),(.int .i64 0),(.int .i64 0),(.int .i64 0),(.int .i64 0),(.int .i64 0),(.int .i64 0),(.int .i64 0)] [(0,3,(.tmp 24)),(3,3,(.tmp 25)),(6,3,(.tmp 26)),(9,3,(.tmp 27))]),
 oX 29 (.build [(.int .i32 0),(.int .i32 0),(.int .i32 0),(.int .i32 0)] []),
 oX 30 (.build [(.int .i64 0),(.slice none 0 0),(.int .i32 0),(.int .i32 0),(.int .i32 0),(.int .i32 0)] [(0,1,(kX 2)),(1,1,(.tmp 28)),(2,4,(.tmp 29))]),
 oX 31 (.build [(.int .i64 0),(.int .i64 0),(.int .i64 0)] [(0,1,(kX 0)),(1,1,(kX 8)),(2,1,(kX 0))]),
 oX 32 (.bslice 175 1 [(.int .i64 0),(.int .i64 0),(.int .i64 0)] [(0,3,(.tmp 31))]),
 oX 33 (.ldn 4 (.tmp 1)),
 oX 34 (.build [(.int .i64 0),(.slice none 0 0),(.int .i32 0),(.int .i32 0),(.int .i32 0),(.int .i32 0)] [(0,1,(kX 1)),(1,1,(.tmp 32)),(2,4,(.tmp 33))]),
 oX 35 (.build [(.int .i64 0),(.int .i64 0),(.int .i64 0)] [(0,1,(kX 3)),(1,1,(kX 8)),(2,1,(kX 0))]),
 oX 36 (.bslice 175 1 [(.int .i64 0),(.int .i64 0),(.int .i64 0)] [(0,3,(.tmp 35))]),
 oX 37 (.build [(.int .i32 0),(.int .i32 0),(.int .i32 0),(.int .i32 0)] []),
 oX 38 (.build [(.int .i64 0),(.slice none 0 0),(.int .i32 0),(.int .i32 0),(.int .i32 0),(.int .i32 0)] [(0,1,(kX 1)),(1,1,(.tmp 36)),(2,4,(.tmp 37))]),
 oX 39 (.build [(.int .i64 0),(.int .i64 0),(.int .i64 0)] [(0,1,(kX 0)),(1,1,(kX 8)),(2,1,(kX 0))]),
 oX 40 (.build [(.int .i64 0),(.int .i64 0),(.int .i64 0)] [(0,1,(kX 3)),(1,1,(kX 8)),(2,1,(kX 8))]),
 oX 41 (.bslice 175 2 [(.int .i64 0),(.int .i64 0),(.int .i64 0),(.int .i64 0),(.int .i64 0),(.int .i64 0)] [(0,3,(.tmp 39)),(3,3,(.tmp 40))]),
 oX 42 (.build [(.int .i32 0),(.int .i32 0),(.int .i32 0),(.int .i32 0)] []),
 oX 43 (.build [(.int .i64 0),(.slice none 0 0),(.int .i32 0),(.int .i32 0),(.int .i32 0),(.int .i32 0)] [(0,1,(kX 2)),(1,1,(.tmp 41)),(2,4,(.tmp 42))]),
 oX 44 (.bslice 167 8 [(.int .i64 0),(.slice none 0 0),(.int .i32 0),(.int .i32 0),(.int .i32 0),(.int .i32 0),(.int .i64 0),(.slice none 0 0),(.int .i32 0),(.int .i32 0),(.int .i32 0),(.int .i32 0),(.int .i64 0),(.slice none 0 0),(.int .i32 0),(.int .i32 0),(.int .i32 0),(.int .i32 0),(.int .i64 0),(.slice none 0 0),(.int .i32 0),(.int .i32 0),(.int .i32 0),(.int .i32 0),(.int .i64 0),(.slice none 0 0),(.int .i32 0),(.int .i32 0),(.int .i32 0),(.int .i32 0),(.int .i64 0),(.slice none 0 0),(.int .i32 0),(.int .i32 0),(.int .i32 0),(.int .i32 0),(.int .i64 0),(.slice none 0 0),(.int .i32 0),(.int .i32 0),(.int .i32 0),(.int .i32 0),(.int .i64 0),(.slice none 0 0),(.int .i32 0),(.int .i32 0),(.int .i32 0),(.int .i32 0)] [(0,6,(.tmp 3)),(6,6,(.tmp 10)),(12,6,(.tmp 16)),(18,6,(.tmp 23)),(24,6,(.tmp 30)),(30,6,(.tmp 34)),(36,6,(.tmp 38)),(42,6,(.tmp 43))]),
 vX 0 44])
 (.ret)))
theorem k179 : fnOk Tryz.prog 179 = some (M179, [.t 0], 45) := by kernel_rfl
/- pixel find -/
def M175 : MC :=
  .seq (.reg [oX 2 (.alloc 167 [(.int .i64 0),(.slice none 0 0),(.int .i32 0),(.int .i32 0),(.int .i32 0),(.int .i32 0)]),
 oX 3 (.mv (.const (.bool false)))])
 (.seq (.reg [oX 5 (.call 179 []),
 vX 4 5])
 (.seq (.seq (.reg [vX 6 0,
 oX 7 (bK .lss 6 1),
 vX 8 7,
 ⟨(some 9),.mv (.tmp 0),(some (8,false))⟩,
 ⟨(some 10),.mv (.tmp 4),(some (8,false))⟩,
 ⟨(some 11),.len (.tmp 10),(some (8,false))⟩,
 ⟨(some 12),bX .geq 9 11,(some (8,false))⟩,
 oX 13 (.pick (.tmp 8) (.const (.bool true)) (.tmp 12))])
 (.cond (.tmp 13)
 (.seq (.reg [oX 14 (.build [(.int .i64 0),(.slice none 0 0),(.int .i32 0),(.int .i32 0),(.int .i32 0),(.int .i32 0)] []),
 ⟨none,.stn 6 (.tmp 2) (.tmp 14),none⟩,
 oX 3 (.mv (.const (.bool false)))])
 (.ret))
 (.skip)))
 (.seq (.reg [vX 15 4,
 vX 16 0,
 oX 17 (.is 6 (.tmp 15) (.tmp 16)),
 oX 18 (.ldn 6 (.tmp 17)),
 ⟨none,.stn 6 (.tmp 2) (.tmp 18),none⟩,
 oX 3 (.mv (.const (.bool true)))])
 (.ret))))
theorem k175 : fnOk Tryz.prog 175 = some (M175, [.cn 6 2, .t 3], 19) := by kernel_rfl
/- pixel Size -/
def M165 : MC :=
  .seq (.reg [oX 2 (.mv (kX 0))])
 (.seq (.reg [vX 6 0,
 oX 7 (.call 175 [(.tmp 6)]),
 vX 5 7,
 oX 8 (.ext 0 (.tmp 5)),
 oX 9 (.ext 1 (.tmp 5)),
 oX 3 (.alloc 167 [(.int .i64 0),(.slice none 0 0),(.int .i32 0),(.int .i32 0),(.int .i32 0),(.int .i32 0)]),
 ⟨none,.stn 6 (.tmp 3) (.tmp 8),none⟩,
 vX 4 9])
 (.seq (.reg [oX 10 (.fa 0 (.tmp 3)),
 oX 11 (.ld1 (.tmp 10)),
 vX 2 11])
 (.ret)))
theorem k165 : fnOk Tryz.prog 165 = some (M165, [.t 2], 12) := by kernel_rfl

/-- The row of a format. -/
structure FmtR (w0 : World) (G : Heap) (b : Nat) (n : Nat) (s : Int) : Prop where
  r : ∃ a l c r0 r1 r2 r3, rdn w0 G b (n * 6) 6 = some [.int .i64 s, .slice a l c, .int .i32 r0, .int .i32 r1, .int .i32 r2, .int .i32 r3]
theorem c_formatsR (h : ∀ b G, Grow w0 H G → FmtR w0 G b 1 4 → FmtR w0 G b 2 2 → FmtR w0 G b 3 2 → FmtR w0 G b 4 2 → FmtR w0 G b 5 1 → FmtR w0 G b 6 1 → FmtR w0 G b 7 2 → K (.slice (some ⟨b, 0, none⟩) 8 8) G) : HCalls Tryz.prog w0 179 [] H K := by
  refine HL.hc k179 999 ?_; unfold M179
  (all_goals (try simp only [S0,putAt,List.replicate,Int.reduceAdd,Int.reduceSub,Int.reduceMul,Int.reduceTDiv,Int.reduceTMod,Int.reduceMod,Int.reduceDiv,Nat.reduceLT,Nat.reduceEqDiff,Int.reduceLE,Int.reduceLT,Int.reduceToNat,Int.reduceNeg,Int.reduceEq,Nat.reduceLeDiff,Nat.reducePow,Int.reducePow,reduceIte,Nat.reduceSub,Nat.reduceAdd,Nat.reduceMul, *])); repeat' ((first | (with_reducible refine fun _ : True => ?_) | (with_reducible refine any_h ?_) | ((first | refine AllocQ_i ?_ | refine AllocO_i ?_); intro bk hb0 hbk; (try simp only [set_none'] at hbk)) | ((first | refine condS_i ?_ ?_ | refine pick_i ?_ ?_ | refine gS_it ?_ ?_ | refine gS_if ?_ ?_ | refine gP_it ?_ ?_ | refine gP_if ?_ ?_) <;> (intro hc; try simp only [Int.reduceLE,Int.reduceLT,Int.reduceEq,Sn] at hc)) | (with_reducible refine KP_i ?_ ?_; · exact aL) | (with_reducible refine And.intro ?_ ?_)) <;> (try simp only [S0,putAt,List.replicate,Int.reduceAdd,Int.reduceSub,Int.reduceMul,Int.reduceTDiv,Int.reduceTMod,Int.reduceMod,Int.reduceDiv,Nat.reduceLT,Nat.reduceEqDiff,Int.reduceLE,Int.reduceLT,Int.reduceToNat,Int.reduceNeg,Int.reduceEq,Nat.reduceLeDiff,Nat.reducePow,Int.reducePow,reduceIte,Nat.reduceSub,Nat.reduceAdd,Nat.reduceMul, *]))
  refine Fin_mk (Heap.Le.refl _) (h _ _ aG ?_ ?_ ?_ ?_ ?_ ?_ ?_)
  all_goals exact ⟨_, _, _, _, _, _, _, by unfold rdn; rw [Heap.set_same]; rfl⟩
theorem c_findR {s : Int} (n : Nat) (hn : 1 ≤ n ∧ n ≤ 7) (hs : ∀ b G, FmtR w0 G b 1 4 → FmtR w0 G b 2 2 → FmtR w0 G b 3 2 → FmtR w0 G b 4 2 → FmtR w0 G b 5 1 → FmtR w0 G b 6 1 → FmtR w0 G b 7 2 → FmtR w0 G b n s)
    (h : ∀ a l c r0 r1 r2 r3 G, Grow w0 H G → K (.tuple #[.agg #[.int .i64 s, .slice a l c, .int .i32 r0, .int .i32 r1, .int .i32 r2, .int .i32 r3], .bool true]) G) : HCalls Tryz.prog w0 175 [.int .i64 (n : Nat)] H K := by
  have t0 : ¬ (n : Int) < 1 := by omega
  have t1 : (n : Int) < 8 := by omega
  have t4 : ¬ 8 ≤ (n : Int) := by omega
  have t2 : (0 : Int) ≤ (n : Int) := by omega
  have t3 : ((n : Nat) : Int).toNat = n := rfl
  replace h : Keep _ := h
  replace hs : Keep _ := hs
  clear hn
  refine HL.hc k175 999 ?_; unfold M175
  (all_goals (try simp only [S0,putAt,List.replicate,Int.reduceAdd,Int.reduceSub,Int.reduceMul,Int.reduceTDiv,Int.reduceTMod,Int.reduceMod,Int.reduceDiv,Nat.reduceLT,Nat.reduceEqDiff,Int.reduceLE,Int.reduceLT,Int.reduceToNat,Int.reduceNeg,Int.reduceEq,Nat.reduceLeDiff,Nat.reducePow,Int.reducePow,reduceIte,Nat.reduceSub,Nat.reduceAdd,Nat.reduceMul, *])); repeat' ((first | (with_reducible refine fun _ : True => ?_) | refine c_formatsR (fun b G g f1 f2 f3 f4 f5 f6 f7 => ?_)  | (with_reducible refine any_h ?_) | ((first | refine AllocQ_i ?_ | refine AllocO_i ?_); intro bk hb0 hbk; (try simp only [set_none'] at hbk)) | ((first | refine condS_i ?_ ?_ | refine pick_i ?_ ?_ | refine gS_it ?_ ?_ | refine gS_if ?_ ?_ | refine gP_it ?_ ?_ | refine gP_if ?_ ?_) <;> (intro hc; try simp only [Int.reduceLE,Int.reduceLT,Int.reduceEq,Sn] at hc)) | (with_reducible refine KP_i ?_ ?_; · exact aL) | (with_reducible refine And.intro ?_ ?_)) <;> (try simp only [S0,putAt,List.replicate,Int.reduceAdd,Int.reduceSub,Int.reduceMul,Int.reduceTDiv,Int.reduceTMod,Int.reduceMod,Int.reduceDiv,Nat.reduceLT,Nat.reduceEqDiff,Int.reduceLE,Int.reduceLT,Int.reduceToNat,Int.reduceNeg,Int.reduceEq,Nat.reduceLeDiff,Nat.reducePow,Int.reducePow,reduceIte,Nat.reduceSub,Nat.reduceAdd,Nat.reduceMul, *]))
  obtain ⟨a, l, c, r0, r1, r2, r3, hr⟩ := ((show ∀ (b : Nat) (G : Heap), _ from hs) b G f1 f2 f3 f4 f5 f6 f7).r
  have kb := g.some (b := bk) aA
  have g2 : Grow w0 H G := Grow.trans aG g
  clear f1 f2 f3 f4 f5 f6 f7 hs g
  have F := fun x => (show ∀ (a : Option Addr) (l c : Nat) (r0 r1 r2 r3 : Int) (G : Heap), _ from h) a l c r0 r1 r2 r3 (G.set bk x) (g2.set hb0 hbk)
  clear h g2 hbk
  replace F : Keep _ := F
  (all_goals (try simp only [S0,putAt,List.replicate,Int.reduceAdd,Int.reduceSub,Int.reduceMul,Int.reduceTDiv,Int.reduceTMod,Int.reduceMod,Int.reduceDiv,Nat.reduceLT,Nat.reduceEqDiff,Int.reduceLE,Int.reduceLT,Int.reduceToNat,Int.reduceNeg,Int.reduceEq,Nat.reduceLeDiff,Nat.reducePow,Int.reducePow,reduceIte,Nat.reduceSub,Nat.reduceAdd,Nat.reduceMul, *])); repeat' ((first | (with_reducible refine fun _ : True => ?_) | (with_reducible refine any_h ?_) | ((first | refine AllocQ_i ?_ | refine AllocO_i ?_); intro bk hb0 hbk; (try simp only [set_none'] at hbk)) | ((first | refine condS_i ?_ ?_ | refine pick_i ?_ ?_ | refine gS_it ?_ ?_ | refine gS_if ?_ ?_ | refine gP_it ?_ ?_ | refine gP_if ?_ ?_) <;> (intro hc; try simp only [Int.reduceLE,Int.reduceLT,Int.reduceEq,Sn] at hc)) | (with_reducible refine KP_i ?_ ?_; · exact aL) | (with_reducible refine And.intro ?_ ?_)) <;> (try simp only [S0,putAt,List.replicate,Int.reduceAdd,Int.reduceSub,Int.reduceMul,Int.reduceTDiv,Int.reduceTMod,Int.reduceMod,Int.reduceDiv,Nat.reduceLT,Nat.reduceEqDiff,Int.reduceLE,Int.reduceLT,Int.reduceToNat,Int.reduceNeg,Int.reduceEq,Nat.reduceLeDiff,Nat.reducePow,Int.reducePow,reduceIte,Nat.reduceSub,Nat.reduceAdd,Nat.reduceMul, *]))
  exact Fin_mk (Heap.Le.refl _) ((show ∀ x, K _ (G.set bk x) from F) _)
theorem x_Size {s : Int} (n : Nat) (hn : 1 ≤ n ∧ n ≤ 7) (hs : ∀ b G, FmtR w0 G b 1 4 → FmtR w0 G b 2 2 → FmtR w0 G b 3 2 → FmtR w0 G b 4 2 → FmtR w0 G b 5 1 → FmtR w0 G b 6 1 → FmtR w0 G b 7 2 → FmtR w0 G b n s) (h : K (.int .i64 s) H) : HCalls Tryz.prog w0 165 [.int .i64 (n : Nat)] H K := by
  replace h : Keep _ := h
  refine HL.hc k165 999 ?_; unfold M165
  (all_goals (try simp only [S0,putAt,List.replicate,Int.reduceAdd,Int.reduceSub,Int.reduceMul,Int.reduceTDiv,Int.reduceTMod,Int.reduceMod,Int.reduceDiv,Nat.reduceLT,Nat.reduceEqDiff,Int.reduceLE,Int.reduceLT,Int.reduceToNat,Int.reduceNeg,Int.reduceEq,Nat.reduceLeDiff,Nat.reducePow,Int.reducePow,reduceIte,Nat.reduceSub,Nat.reduceAdd,Nat.reduceMul, *])); repeat' ((first | (with_reducible refine fun _ : True => ?_) | refine c_findR (s := s) n hn hs (fun a l c r0 r1 r2 r3 G g => ?_)  | (with_reducible refine any_h ?_) | ((first | refine AllocQ_i ?_ | refine AllocO_i ?_); intro bk hb0 hbk; (try simp only [set_none'] at hbk)) | ((first | refine condS_i ?_ ?_ | refine pick_i ?_ ?_ | refine gS_it ?_ ?_ | refine gS_if ?_ ?_ | refine gP_it ?_ ?_ | refine gP_if ?_ ?_) <;> (intro hc; try simp only [Int.reduceLE,Int.reduceLT,Int.reduceEq,Sn] at hc)) | (with_reducible refine KP_i ?_ ?_; · exact aL) | (with_reducible refine And.intro ?_ ?_)) <;> (try simp only [S0,putAt,List.replicate,Int.reduceAdd,Int.reduceSub,Int.reduceMul,Int.reduceTDiv,Int.reduceTMod,Int.reduceMod,Int.reduceDiv,Nat.reduceLT,Nat.reduceEqDiff,Int.reduceLE,Int.reduceLT,Int.reduceToNat,Int.reduceNeg,Int.reduceEq,Nat.reduceLeDiff,Nat.reducePow,Int.reducePow,reduceIte,Nat.reduceSub,Nat.reduceAdd,Nat.reduceMul, *]))
  exact Fin_mk (g.set hb0 (g.none hbk)).le h
theorem x_Size1 (h : K (.int .i64 4) H) : HCalls Tryz.prog w0 165 [.int .i64 1] H K := x_Size (s := 4) 1 (by decide) (fun _ _ f1 f2 f3 f4 f5 f6 f7 => f1) h
theorem x_Size2 (h : K (.int .i64 2) H) : HCalls Tryz.prog w0 165 [.int .i64 2] H K := x_Size (s := 2) 2 (by decide) (fun _ _ f1 f2 f3 f4 f5 f6 f7 => f2) h
theorem x_Size3 (h : K (.int .i64 2) H) : HCalls Tryz.prog w0 165 [.int .i64 3] H K := x_Size (s := 2) 3 (by decide) (fun _ _ f1 f2 f3 f4 f5 f6 f7 => f3) h
theorem x_Size4 (h : K (.int .i64 2) H) : HCalls Tryz.prog w0 165 [.int .i64 4] H K := x_Size (s := 2) 4 (by decide) (fun _ _ f1 f2 f3 f4 f5 f6 f7 => f4) h
theorem x_Size5 (h : K (.int .i64 1) H) : HCalls Tryz.prog w0 165 [.int .i64 5] H K := x_Size (s := 1) 5 (by decide) (fun _ _ f1 f2 f3 f4 f5 f6 f7 => f5) h
theorem x_Size6 (h : K (.int .i64 1) H) : HCalls Tryz.prog w0 165 [.int .i64 6] H K := x_Size (s := 1) 6 (by decide) (fun _ _ f1 f2 f3 f4 f5 f6 f7 => f6) h
theorem x_Size7 (h : K (.int .i64 2) H) : HCalls Tryz.prog w0 165 [.int .i64 7] H K := x_Size (s := 2) 7 (by decide) (fun _ _ f1 f2 f3 f4 f5 f6 f7 => f7) h
end Go.Proofs.YtdmnfaefakceiaaGreat.Sm
end
section
/- Which images may be (layer 18). -/
set_option linter.unusedSimpArgs false
set_option linter.unusedVariables false
set_option maxRecDepth 100000
set_option maxHeartbeats 4000000
namespace Go.Proofs.YtdmnfaefakceiaaGreat.Sm
open Go.HL Go.RowKit Pb
variable {w0 : World} {H : Heap} {K : Value → Heap → Prop}

theorem K_dec {p : Prop} {d : Decidable p} (h : K (.bool (@decide p d)) H) {n : Bool} (e : n = true ↔ p) : K (.bool n) H := by
  have : n = @decide p d := by
    cases n
    · exact (decide_eq_false (fun hp => by simpa using e.2 hp)).symm
    · exact (decide_eq_true (e.1 rfl)).symm
  rw [this]; exact h
def sizeI (f : Int) : Int := if f = 1 then 4 else if f = 2 ∨ f = 3 ∨ f = 4 ∨ f = 7 then 2 else if f = 5 ∨ f = 6 then 1 else 0
theorem sizeI_le (f : Int) : 0 ≤ sizeI f ∧ sizeI f ≤ 4 := by unfold sizeI; (repeat' split) <;> omega
theorem sizeI_none {f : Int} (h : f < 1 ∨ 8 ≤ f) : sizeI f = 0 := by
  unfold sizeI
  rw [if_neg (by omega), if_neg (by omega), if_neg (by omega)]
def LvR.nil (x : LvR) : Prop := x.w = 0 ∧ x.h = 0 ∧ x.l.length = 0
instance (x : LvR) : Decidable x.nil := by unfold LvR.nil; infer_instance
def sideP (n : Int) : Prop := 1 ≤ n ∧ n ≤ 64
instance (n : Int) : Decidable (sideP n) := by unfold sideP; infer_instance
def LvR.good (f : Int) (x : LvR) : Prop := x.nil ∨ (sideP x.w ∧ sideP x.h ∧ (x.l.length : Int) = x.w * x.h * sizeI f)
instance (f : Int) (x : LvR) : Decidable (x.good f) := by unfold LvR.good; infer_instance
def Im.right (x : Im) : Prop :=
  x.ls.length ≤ 7 ∧ (x.ls.length = 0 → x.f = 0) ∧ (∀ y, x.ls[x.ls.length - 1]? = some y → sizeI x.f ≠ 0 ∧ ¬ y.nil) ∧ (∀ y ∈ x.ls, y.good x.f) ∧ (1 ≤ x.s ∧ x.s ≤ 3) ∧ (1 ≤ x.t ∧ x.t ≤ 3) ∧ (1 ≤ x.mn ∧ x.mn ≤ 4) ∧ (1 ≤ x.mg ∧ x.mg ≤ 2)
/-- What is read of a level. -/
theorem im_row {x : Im} (hx : ImOk w0 H x) {k : Nat} {y : LvR} (hy : x.ls[k]? = some y) :
    ∃ b o, x.a = some ⟨b, o, none⟩ ∧ rdn w0 H b (o + k * 3) 3 = some [.int .i64 y.w, .int .i64 y.h, .slice y.a y.l.length y.cap] ∧ (∀ c, w0.heap.size ≤ c → H c = none → c ≠ b) :=
  hx.at_.row (fun r hr => by obtain ⟨z, -, rfl⟩ := List.mem_map.1 hr; rfl) (by decide) (by rw [List.getElem?_map, hy]; rfl)
theorem c_formats8 (h : ∀ b H', Grow w0 H H' → K (.slice (some ⟨b, 0, none⟩) 8 8) H') : HCalls Tryz.prog w0 179 [] H K := by
  refine HL.hc k179 999 ?_; unfold M179
  (all_goals (try simp only [S0,putAt,List.replicate,Int.reduceAdd,Int.reduceSub,Int.reduceMul,Int.reduceTDiv,Int.reduceTMod,Int.reduceMod,Int.reduceDiv,Nat.reduceLT,Nat.reduceEqDiff,Int.reduceLE,Int.reduceLT,Int.reduceToNat,Int.reduceNeg,Int.reduceEq,Nat.reduceLeDiff,Nat.reducePow,Int.reducePow,reduceIte,Nat.reduceSub,Nat.reduceAdd,Nat.reduceMul, *])); repeat' ((first | (with_reducible refine fun _ : True => ?_) | (with_reducible refine any_h ?_) | ((first | refine AllocQ_i ?_ | refine AllocO_i ?_); intro bk hb0 hbk; try simp only [set_none'] at hbk) | ((first | refine condS_i ?_ ?_ | refine pick_i ?_ ?_ | refine gS_it ?_ ?_ | refine gS_if ?_ ?_ | refine gP_it ?_ ?_ | refine gP_if ?_ ?_) <;> (intro hc; try simp only [Int.reduceLE,Int.reduceLT,Int.reduceEq,Sn] at hc)) | (with_reducible refine KP_i ?_ ?_; · exact aE) | (with_reducible refine And.intro ?_ ?_)) <;> (try simp only [S0,putAt,List.replicate,Int.reduceAdd,Int.reduceSub,Int.reduceMul,Int.reduceTDiv,Int.reduceTMod,Int.reduceMod,Int.reduceDiv,Nat.reduceLT,Nat.reduceEqDiff,Int.reduceLE,Int.reduceLT,Int.reduceToNat,Int.reduceNeg,Int.reduceEq,Nat.reduceLeDiff,Nat.reducePow,Int.reducePow,reduceIte,Nat.reduceSub,Nat.reduceAdd,Nat.reduceMul, *]))
  exact Fin_mk (Heap.Le.refl _) (h _ _ aG)
theorem c_find0 (n : Int) (hn : n < 1 ∨ 8 ≤ n) (h : K (.tuple #[.agg #[.int .i64 0, .slice none 0 0, .int .i32 0, .int .i32 0, .int .i32 0, .int .i32 0], .bool false]) H) : HCalls Tryz.prog w0 175 [.int .i64 n] H K := by
  by_cases h1 : n < 1
  · refine HL.hc k175 999 ?_; unfold M175
    (all_goals (try simp only [S0,putAt,List.replicate,Int.reduceAdd,Int.reduceSub,Int.reduceMul,Int.reduceTDiv,Int.reduceTMod,Int.reduceMod,Int.reduceDiv,Nat.reduceLT,Nat.reduceEqDiff,Int.reduceLE,Int.reduceLT,Int.reduceToNat,Int.reduceNeg,Int.reduceEq,Nat.reduceLeDiff,Nat.reducePow,Int.reducePow,reduceIte,Nat.reduceSub,Nat.reduceAdd,Nat.reduceMul, *])); repeat' ((first | (with_reducible refine fun _ : True => ?_) | refine c_formats8 (fun b H' g => ?_)  | (with_reducible refine any_h ?_) | ((first | refine AllocQ_i ?_ | refine AllocO_i ?_); intro bk hb0 hbk; try simp only [set_none'] at hbk) | ((first | refine condS_i ?_ ?_ | refine pick_i ?_ ?_ | refine gS_it ?_ ?_ | refine gS_if ?_ ?_ | refine gP_it ?_ ?_ | refine gP_if ?_ ?_) <;> (intro hc; try simp only [Int.reduceLE,Int.reduceLT,Int.reduceEq,Sn] at hc)) | (with_reducible refine KP_i ?_ ?_; · exact aE) | (with_reducible refine And.intro ?_ ?_)) <;> (try simp only [S0,putAt,List.replicate,Int.reduceAdd,Int.reduceSub,Int.reduceMul,Int.reduceTDiv,Int.reduceTMod,Int.reduceMod,Int.reduceDiv,Nat.reduceLT,Nat.reduceEqDiff,Int.reduceLE,Int.reduceLT,Int.reduceToNat,Int.reduceNeg,Int.reduceEq,Nat.reduceLeDiff,Nat.reducePow,Int.reducePow,reduceIte,Nat.reduceSub,Nat.reduceAdd,Nat.reduceMul, *]))
    have kb := g.some (b := bk) aA
    rw [(Heap.set_id H' bk _ kb).symm]
    (all_goals (try simp only [S0,putAt,List.replicate,Int.reduceAdd,Int.reduceSub,Int.reduceMul,Int.reduceTDiv,Int.reduceTMod,Int.reduceMod,Int.reduceDiv,Nat.reduceLT,Nat.reduceEqDiff,Int.reduceLE,Int.reduceLT,Int.reduceToNat,Int.reduceNeg,Int.reduceEq,Nat.reduceLeDiff,Nat.reducePow,Int.reducePow,reduceIte,Nat.reduceSub,Nat.reduceAdd,Nat.reduceMul, *])); repeat' ((first | (with_reducible refine fun _ : True => ?_) | (with_reducible refine any_h ?_) | ((first | refine AllocQ_i ?_ | refine AllocO_i ?_); intro bk hb0 hbk; try simp only [set_none'] at hbk) | ((first | refine condS_i ?_ ?_ | refine pick_i ?_ ?_ | refine gS_it ?_ ?_ | refine gS_if ?_ ?_ | refine gP_it ?_ ?_ | refine gP_if ?_ ?_) <;> (intro hc; try simp only [Int.reduceLE,Int.reduceLT,Int.reduceEq,Sn] at hc)) | (with_reducible refine KP_i ?_ ?_; · exact aE) | (with_reducible refine And.intro ?_ ?_)) <;> (try simp only [S0,putAt,List.replicate,Int.reduceAdd,Int.reduceSub,Int.reduceMul,Int.reduceTDiv,Int.reduceTMod,Int.reduceMod,Int.reduceDiv,Nat.reduceLT,Nat.reduceEqDiff,Int.reduceLE,Int.reduceLT,Int.reduceToNat,Int.reduceNeg,Int.reduceEq,Nat.reduceLeDiff,Nat.reducePow,Int.reducePow,reduceIte,Nat.reduceSub,Nat.reduceAdd,Nat.reduceMul, *]))
    exact Fin_mk aE h
  · have h2 : 8 ≤ n := by omega
    refine HL.hc k175 999 ?_; unfold M175
    (all_goals (try simp only [S0,putAt,List.replicate,Int.reduceAdd,Int.reduceSub,Int.reduceMul,Int.reduceTDiv,Int.reduceTMod,Int.reduceMod,Int.reduceDiv,Nat.reduceLT,Nat.reduceEqDiff,Int.reduceLE,Int.reduceLT,Int.reduceToNat,Int.reduceNeg,Int.reduceEq,Nat.reduceLeDiff,Nat.reducePow,Int.reducePow,reduceIte,Nat.reduceSub,Nat.reduceAdd,Nat.reduceMul, *])); repeat' ((first | (with_reducible refine fun _ : True => ?_) | refine c_formats8 (fun b H' g => ?_)  | (with_reducible refine any_h ?_) | ((first | refine AllocQ_i ?_ | refine AllocO_i ?_); intro bk hb0 hbk; try simp only [set_none'] at hbk) | ((first | refine condS_i ?_ ?_ | refine pick_i ?_ ?_ | refine gS_it ?_ ?_ | refine gS_if ?_ ?_ | refine gP_it ?_ ?_ | refine gP_if ?_ ?_) <;> (intro hc; try simp only [Int.reduceLE,Int.reduceLT,Int.reduceEq,Sn] at hc)) | (with_reducible refine KP_i ?_ ?_; · exact aE) | (with_reducible refine And.intro ?_ ?_)) <;> (try simp only [S0,putAt,List.replicate,Int.reduceAdd,Int.reduceSub,Int.reduceMul,Int.reduceTDiv,Int.reduceTMod,Int.reduceMod,Int.reduceDiv,Nat.reduceLT,Nat.reduceEqDiff,Int.reduceLE,Int.reduceLT,Int.reduceToNat,Int.reduceNeg,Int.reduceEq,Nat.reduceLeDiff,Nat.reducePow,Int.reducePow,reduceIte,Nat.reduceSub,Nat.reduceAdd,Nat.reduceMul, *]))
    have kb := g.some (b := bk) aA
    rw [(Heap.set_id H' bk _ kb).symm]
    (all_goals (try simp only [S0,putAt,List.replicate,Int.reduceAdd,Int.reduceSub,Int.reduceMul,Int.reduceTDiv,Int.reduceTMod,Int.reduceMod,Int.reduceDiv,Nat.reduceLT,Nat.reduceEqDiff,Int.reduceLE,Int.reduceLT,Int.reduceToNat,Int.reduceNeg,Int.reduceEq,Nat.reduceLeDiff,Nat.reducePow,Int.reducePow,reduceIte,Nat.reduceSub,Nat.reduceAdd,Nat.reduceMul, *])); repeat' ((first | (with_reducible refine fun _ : True => ?_) | (with_reducible refine any_h ?_) | ((first | refine AllocQ_i ?_ | refine AllocO_i ?_); intro bk hb0 hbk; try simp only [set_none'] at hbk) | ((first | refine condS_i ?_ ?_ | refine pick_i ?_ ?_ | refine gS_it ?_ ?_ | refine gS_if ?_ ?_ | refine gP_it ?_ ?_ | refine gP_if ?_ ?_) <;> (intro hc; try simp only [Int.reduceLE,Int.reduceLT,Int.reduceEq,Sn] at hc)) | (with_reducible refine KP_i ?_ ?_; · exact aE) | (with_reducible refine And.intro ?_ ?_)) <;> (try simp only [S0,putAt,List.replicate,Int.reduceAdd,Int.reduceSub,Int.reduceMul,Int.reduceTDiv,Int.reduceTMod,Int.reduceMod,Int.reduceDiv,Nat.reduceLT,Nat.reduceEqDiff,Int.reduceLE,Int.reduceLT,Int.reduceToNat,Int.reduceNeg,Int.reduceEq,Nat.reduceLeDiff,Nat.reducePow,Int.reducePow,reduceIte,Nat.reduceSub,Nat.reduceAdd,Nat.reduceMul, *]))
    exact Fin_mk aE h
theorem c_pSize (f : Int) (h : K (.int .i64 (sizeI f)) H) : HCalls Tryz.prog w0 165 [.int .i64 f] H K := by
  by_cases hf : 1 ≤ f ∧ f ≤ 7
  · rcases (by omega : f = 1 ∨ f = 2 ∨ f = 3 ∨ f = 4 ∨ f = 5 ∨ f = 6 ∨ f = 7) with rfl | rfl | rfl | rfl | rfl | rfl | rfl
    · exact x_Size1 h
    · exact x_Size2 h
    · exact x_Size3 h
    · exact x_Size4 h
    · exact x_Size5 h
    · exact x_Size6 h
    · exact x_Size7 h
  · rw [sizeI_none (by omega)] at h
    have hn : f < 1 ∨ 8 ≤ f := by omega
    clear hf
    refine HL.hc k165 999 ?_; unfold M165
    (all_goals (try simp only [S0,putAt,List.replicate,Int.reduceAdd,Int.reduceSub,Int.reduceMul,Int.reduceTDiv,Int.reduceTMod,Int.reduceMod,Int.reduceDiv,Nat.reduceLT,Nat.reduceEqDiff,Int.reduceLE,Int.reduceLT,Int.reduceToNat,Int.reduceNeg,Int.reduceEq,Nat.reduceLeDiff,Nat.reducePow,Int.reducePow,reduceIte,Nat.reduceSub,Nat.reduceAdd,Nat.reduceMul, *])); repeat' ((first | (with_reducible refine fun _ : True => ?_) | refine c_find0 f hn ?_ | (with_reducible refine any_h ?_) | ((first | refine AllocQ_i ?_ | refine AllocO_i ?_); intro bk hb0 hbk; try simp only [set_none'] at hbk) | ((first | refine condS_i ?_ ?_ | refine pick_i ?_ ?_ | refine gS_it ?_ ?_ | refine gS_if ?_ ?_ | refine gP_it ?_ ?_ | refine gP_if ?_ ?_) <;> (intro hc; try simp only [Int.reduceLE,Int.reduceLT,Int.reduceEq,Sn] at hc)) | (with_reducible refine KP_i ?_ ?_; · exact aE) | (with_reducible refine And.intro ?_ ?_)) <;> (try simp only [S0,putAt,List.replicate,Int.reduceAdd,Int.reduceSub,Int.reduceMul,Int.reduceTDiv,Int.reduceTMod,Int.reduceMod,Int.reduceDiv,Nat.reduceLT,Nat.reduceEqDiff,Int.reduceLE,Int.reduceLT,Int.reduceToNat,Int.reduceNeg,Int.reduceEq,Nat.reduceLeDiff,Nat.reducePow,Int.reducePow,reduceIte,Nat.reduceSub,Nat.reduceAdd,Nat.reduceMul, *]))
    exact Fin_mk aE h

/- image none -/
def M167 : MC :=
  .seq (.reg [oX 1 (.box 156 (.tmp 0)),
 oX 2 (.mv (.const (.bool false)))])
 (.seq (.reg [oX 3 (.fa 0 (.tmp 1)),
 oX 4 (.ld1 (.tmp 3)),
 oX 5 (bK .eql 4 0),
 vX 6 5,
 ⟨(some 7),.fa 1 (.tmp 1),(some (6,true))⟩,
 ⟨(some 8),.ld1 (.tmp 7),(some (6,true))⟩,
 ⟨(some 9),bK .eql 8 0,(some (6,true))⟩,
 oX 10 (.pick (.tmp 6) (.tmp 9) (.const (.bool false))),
 vX 11 10,
 ⟨(some 12),.fa 2 (.tmp 1),(some (11,true))⟩,
 ⟨(some 13),.ld1 (.tmp 12),(some (11,true))⟩,
 ⟨(some 14),.len (.tmp 13),(some (11,true))⟩,
 ⟨(some 15),bK .eql 14 0,(some (11,true))⟩,
 oX 16 (.pick (.tmp 11) (.tmp 15) (.const (.bool false))),
 vX 2 16])
 (.ret))
theorem k167 : fnOk Tryz.prog 167 = some (M167, [.t 2], 17) := by kernel_rfl

theorem c_inone (x : LvR) (h : K (.bool (decide x.nil)) H) : HCalls Tryz.prog w0 167 [.agg #[.int .i64 x.w, .int .i64 x.h, .slice x.a x.l.length x.cap]] H K := by
  have key : ∀ n : Bool, n = decide x.nil → K (.bool n) H := fun n e => by subst e; exact h
  clear h
  refine HL.hc k167 999 ?_; unfold M167
  (all_goals (try simp only [S0,putAt,List.replicate,Int.reduceAdd,Int.reduceSub,Int.reduceMul,Int.reduceTDiv,Int.reduceTMod,Int.reduceMod,Int.reduceDiv,Nat.reduceLT,Nat.reduceEqDiff,Int.reduceLE,Int.reduceLT,Int.reduceToNat,Int.reduceNeg,Int.reduceEq,Nat.reduceLeDiff,Nat.reducePow,Int.reducePow,reduceIte,Nat.reduceSub,Nat.reduceAdd,Nat.reduceMul, *])); repeat' ((first | (with_reducible refine fun _ : True => ?_) | (with_reducible refine any_h ?_) | ((first | refine AllocQ_i ?_ | refine AllocO_i ?_); intro bk hb0 hbk; try simp only [set_none'] at hbk) | ((first | refine condS_i ?_ ?_ | refine pick_i ?_ ?_ | refine gS_it ?_ ?_ | refine gS_if ?_ ?_ | refine gP_it ?_ ?_ | refine gP_if ?_ ?_) <;> (intro hc; try simp only [Int.reduceLE,Int.reduceLT,Int.reduceEq,Sn] at hc)) | (with_reducible refine KP_i ?_ ?_; · exact aE) | (with_reducible refine And.intro ?_ ?_)) <;> (try simp only [S0,putAt,List.replicate,Int.reduceAdd,Int.reduceSub,Int.reduceMul,Int.reduceTDiv,Int.reduceTMod,Int.reduceMod,Int.reduceDiv,Nat.reduceLT,Nat.reduceEqDiff,Int.reduceLE,Int.reduceLT,Int.reduceToNat,Int.reduceNeg,Int.reduceEq,Nat.reduceLeDiff,Nat.reducePow,Int.reducePow,reduceIte,Nat.reduceSub,Nat.reduceAdd,Nat.reduceMul, *]))
  all_goals (refine Fin_mk aE (key _ ?_); unfold LvR.nil; simp [*])

/- image side -/
def M168 : MC :=
  .seq (.reg [oX 2 (.mv (.const (.bool false)))])
 (.seq (.reg [vX 3 0,
 oX 4 (bK .gtr 3 0),
 vX 5 4,
 ⟨(some 6),.mv (.tmp 0),(some (5,true))⟩,
 ⟨(some 7),bK .leq 6 64,(some (5,true))⟩,
 oX 8 (.pick (.tmp 5) (.tmp 7) (.const (.bool false))),
 vX 2 8])
 (.ret))
theorem k168 : fnOk Tryz.prog 168 = some (M168, [.t 2], 9) := by kernel_rfl

theorem c_side (n : Int) (h : K (.bool (decide (sideP n))) H) : HCalls Tryz.prog w0 168 [.int .i64 n] H K := by
  refine HL.hc k168 999 ?_; unfold M168
  (all_goals (try simp only [S0,putAt,List.replicate,Int.reduceAdd,Int.reduceSub,Int.reduceMul,Int.reduceTDiv,Int.reduceTMod,Int.reduceMod,Int.reduceDiv,Nat.reduceLT,Nat.reduceEqDiff,Int.reduceLE,Int.reduceLT,Int.reduceToNat,Int.reduceNeg,Int.reduceEq,Nat.reduceLeDiff,Nat.reducePow,Int.reducePow,reduceIte,Nat.reduceSub,Nat.reduceAdd,Nat.reduceMul, *])); repeat' ((first | (with_reducible refine fun _ : True => ?_) | (with_reducible refine any_h ?_) | ((first | refine AllocQ_i ?_ | refine AllocO_i ?_); intro bk hb0 hbk; try simp only [set_none'] at hbk) | ((first | refine condS_i ?_ ?_ | refine pick_i ?_ ?_ | refine gS_it ?_ ?_ | refine gS_if ?_ ?_ | refine gP_it ?_ ?_ | refine gP_if ?_ ?_) <;> (intro hc; try simp only [Int.reduceLE,Int.reduceLT,Int.reduceEq,Sn] at hc)) | (with_reducible refine KP_i ?_ ?_; · exact aE) | (with_reducible refine And.intro ?_ ?_)) <;> (try simp only [S0,putAt,List.replicate,Int.reduceAdd,Int.reduceSub,Int.reduceMul,Int.reduceTDiv,Int.reduceTMod,Int.reduceMod,Int.reduceDiv,Nat.reduceLT,Nat.reduceEqDiff,Int.reduceLE,Int.reduceLT,Int.reduceToNat,Int.reduceNeg,Int.reduceEq,Nat.reduceLeDiff,Nat.reducePow,Int.reducePow,reduceIte,Nat.reduceSub,Nat.reduceAdd,Nat.reduceMul, *]))
  all_goals (refine Fin_mk (Heap.Le.refl _) (K_dec h ?_); unfold sideP; first | (simp; done) | (simp; omega))

def valP (i n : Int) : Prop := 1 ≤ n ∧ n ≤ (if i = 1 ∨ i = 2 then 3 else if i = 3 then 4 else if i = 4 then 2 else 0)
instance (i n : Int) : Decidable (valP i n) := by unfold valP; infer_instance
/- image legal -/
def M170 : MC :=
  .seq (.reg [oX 4 (.mv (.const (.bool false)))])
 (.seq (.reg [oX 5 (.mv (kX 0))])
 (.seq (.seq (.reg [vX 6 0])
 (.block 0 (.seq (.seq (.reg [oX 8 (bK .eql 6 1),
 vX 7 8])
 (.cond (.tmp 7)
 (.skip)
 (.reg [oX 9 (bK .eql 6 2),
 vX 7 9])))
 (.cond (.tmp 7)
 (.reg [oX 5 (.mv (kX 3))])
 (.seq (.reg [oX 11 (bK .eql 6 3),
 vX 10 11])
 (.cond (.tmp 10)
 (.reg [oX 5 (.mv (kX 4))])
 (.seq (.reg [oX 13 (bK .eql 6 4),
 vX 12 13])
 (.cond (.tmp 12)
 (.reg [oX 5 (.mv (kX 2))])
 (.skip)))))))))
 (.seq (.reg [vX 14 1,
 oX 15 (bK .geq 14 1),
 vX 16 15,
 ⟨(some 17),.mv (.tmp 1),(some (16,true))⟩,
 ⟨(some 18),.mv (.tmp 5),(some (16,true))⟩,
 ⟨(some 19),bX .leq 17 18,(some (16,true))⟩,
 oX 20 (.pick (.tmp 16) (.tmp 19) (.const (.bool false))),
 vX 4 20])
 (.ret))))
theorem k170 : fnOk Tryz.prog 170 = some (M170, [.t 4], 21) := by kernel_rfl

theorem c_legal (i n : Int) (h : K (.bool (decide (valP i n))) H) : HCalls Tryz.prog w0 170 [.int .i64 i, .int .i64 n] H K := by
  refine HL.hc k170 999 ?_; unfold M170
  (all_goals (try simp only [S0,putAt,List.replicate,Int.reduceAdd,Int.reduceSub,Int.reduceMul,Int.reduceTDiv,Int.reduceTMod,Int.reduceMod,Int.reduceDiv,Nat.reduceLT,Nat.reduceEqDiff,Int.reduceLE,Int.reduceLT,Int.reduceToNat,Int.reduceNeg,Int.reduceEq,Nat.reduceLeDiff,Nat.reducePow,Int.reducePow,reduceIte,Nat.reduceSub,Nat.reduceAdd,Nat.reduceMul, *])); repeat' ((first | (with_reducible refine fun _ : True => ?_) | (with_reducible refine any_h ?_) | ((first | refine AllocQ_i ?_ | refine AllocO_i ?_); intro bk hb0 hbk; try simp only [set_none'] at hbk) | ((first | refine condS_i ?_ ?_ | refine pick_i ?_ ?_ | refine gS_it ?_ ?_ | refine gS_if ?_ ?_ | refine gP_it ?_ ?_ | refine gP_if ?_ ?_) <;> (intro hc; try simp only [Int.reduceLE,Int.reduceLT,Int.reduceEq,Sn] at hc)) | (with_reducible refine KP_i ?_ ?_; · exact aE) | (with_reducible refine And.intro ?_ ?_)) <;> (try simp only [S0,putAt,List.replicate,Int.reduceAdd,Int.reduceSub,Int.reduceMul,Int.reduceTDiv,Int.reduceTMod,Int.reduceMod,Int.reduceDiv,Nat.reduceLT,Nat.reduceEqDiff,Int.reduceLE,Int.reduceLT,Int.reduceToNat,Int.reduceNeg,Int.reduceEq,Nat.reduceLeDiff,Nat.reducePow,Int.reducePow,reduceIte,Nat.reduceSub,Nat.reduceAdd,Nat.reduceMul, *]))
  all_goals (refine Fin_mk (Heap.Le.refl _) (K_dec h ?_); unfold valP; (repeat' split) <;> first | (simp; done) | (simp; omega) | omega)

theorem nil_row (x : LvR) : ∃ v : Value, v = .agg #[.int .i64 x.w, .int .i64 x.h, .slice x.a x.l.length x.cap] := ⟨_, rfl⟩
/- image Check 1 -/
def M166 : MC :=
  .seq (.reg [oX 2 (.box 156 (.tmp 0)),
 oX 3 (.mv (.const (.bool false)))])
 (.seq (.reg [oX 4 (.ldn 3 (.tmp 2)),
 oX 5 (.call 167 [(.tmp 4)]),
 oX 6 (.un .not (.tmp 5)),
 vX 7 6,
 ⟨(some 8),.fa 0 (.tmp 2),(some (7,true))⟩,
 ⟨(some 9),.ld1 (.tmp 8),(some (7,true))⟩,
 ⟨(some 10),.call 168 [(.tmp 9)],(some (7,true))⟩,
 ⟨(some 11),.un .not (.tmp 10),(some (7,true))⟩,
 ⟨(some 12),.mv (.tmp 11),(some (7,true))⟩,
 ⟨(some 13),.fa 1 (.tmp 2),(some (12,false))⟩,
 ⟨(some 14),.ld1 (.tmp 13),(some (12,false))⟩,
 ⟨(some 15),.call 168 [(.tmp 14)],(some (12,false))⟩,
 ⟨(some 16),.un .not (.tmp 15),(some (12,false))⟩,
 ⟨(some 17),.pick (.tmp 12) (.const (.bool true)) (.tmp 16),(some (7,true))⟩,
 ⟨(some 18),.mv (.tmp 17),(some (7,true))⟩,
 ⟨(some 19),.fa 2 (.tmp 2),(some (18,false))⟩,
 ⟨(some 20),.ld1 (.tmp 19),(some (18,false))⟩,
 ⟨(some 21),.len (.tmp 20),(some (18,false))⟩,
 ⟨(some 22),.fa 0 (.tmp 2),(some (18,false))⟩,
 ⟨(some 23),.ld1 (.tmp 22),(some (18,false))⟩,
 ⟨(some 24),.fa 1 (.tmp 2),(some (18,false))⟩,
 ⟨(some 25),.ld1 (.tmp 24),(some (18,false))⟩,
 ⟨(some 26),bX .mul 23 25,(some (18,false))⟩,
 ⟨(some 27),.ld1 (.tmp 1),(some (18,false))⟩,
 ⟨(some 28),bX .mul 26 27,(some (18,false))⟩,
 ⟨(some 29),bX .neq 21 28,(some (18,false))⟩,
 ⟨(some 30),.pick (.tmp 18) (.const (.bool true)) (.tmp 29),(some (7,true))⟩,
 oX 31 (.pick (.tmp 7) (.tmp 30) (.const (.bool false))),
 vX 3 31])
 (.ret))
theorem k166 : fnOk Tryz.prog 166 = some (M166, [.t 3], 32) := by kernel_rfl

theorem c_wrong (p : Nat) (x : LvR) (f : Int) {ty : TypeId} (hp : H p = some ⟨ty, [.int .i64 (sizeI f)]⟩) (hx : LvOk w0 H x) (h : K (.bool (decide (¬ x.good f))) H) :
    HCalls Tryz.prog w0 166 [.agg #[.int .i64 x.w, .int .i64 x.h, .slice x.a x.l.length x.cap], .pointer (some ⟨p, 0, none⟩)] H K := by
  have key : ∀ n : Bool, (n = true ↔ ¬ x.good f) → K (.bool n) H := fun n e => K_dec h e
  clear h
  have hs := sizeI_le f
  have rp : rd1 w0 H p 0 = some (.int .i64 (sizeI f)) := by unfold rd1; rw [hp]; rfl
  have fp : ∀ c, w0.heap.size ≤ c → H c = none → c ≠ p := fun c h1 h2 => rd1_fresh rp h1 h2
  generalize hsz : sizeI f = S at *
  cases hn : decide x.nil
  · by_cases h1 : sideP x.w
    · by_cases h2 : sideP x.h
      · have d1 : decide (sideP x.w) = true := by simp [h1]
        have d2 : decide (sideP x.h) = true := by simp [h2]
        have hwh : 0 ≤ x.w * x.h ∧ x.w * x.h ≤ 4096 := by unfold sideP at h1 h2; exact ⟨Int.mul_nonneg (by omega) (by omega), by have := Int.mul_le_mul h1.2 h2.2 (by omega) (by omega); omega⟩
        have e1 : IntKind.i64.wrap (x.w * x.h) = x.w * x.h := Bw.1 _ (by omega) (by omega)
        have hws : 0 ≤ x.w * x.h * S ∧ x.w * x.h * S ≤ 16384 := ⟨Int.mul_nonneg hwh.1 hs.1, by have := Int.mul_le_mul hwh.2 hs.2 hs.1 (by omega); omega⟩
        have e2 : IntKind.i64.wrap (x.w * x.h * S) = x.w * x.h * S := Bw.1 _ (by omega) (by omega)
        have fin : x.good f ↔ (x.l.length : Int) = x.w * x.h * S := by
          unfold LvR.good
          rw [hsz]
          simp only [decide_eq_false_iff_not] at hn
          simp [hn, h1, h2]
        refine HL.hc k166 999 ?_; unfold M166
        (all_goals (try simp only [S0,putAt,List.replicate,Int.reduceAdd,Int.reduceSub,Int.reduceMul,Int.reduceTDiv,Int.reduceTMod,Int.reduceMod,Int.reduceDiv,Nat.reduceLT,Nat.reduceEqDiff,Int.reduceLE,Int.reduceLT,Int.reduceToNat,Int.reduceNeg,Int.reduceEq,Nat.reduceLeDiff,Nat.reducePow,Int.reducePow,reduceIte,Nat.reduceSub,Nat.reduceAdd,Nat.reduceMul, *])); repeat' ((first | (with_reducible refine fun _ : True => ?_) | refine c_inone x ?_ | refine c_side _ ?_ | (with_reducible refine any_h ?_) | ((first | refine AllocQ_i ?_ | refine AllocO_i ?_); intro bk hb0 hbk; try simp only [set_none'] at hbk) | ((first | refine condS_i ?_ ?_ | refine pick_i ?_ ?_ | refine gS_it ?_ ?_ | refine gS_if ?_ ?_ | refine gP_it ?_ ?_ | refine gP_if ?_ ?_) <;> (intro hc; try simp only [Int.reduceLE,Int.reduceLT,Int.reduceEq,Sn] at hc)) | (with_reducible refine KP_i ?_ ?_; · exact aE) | (with_reducible refine And.intro ?_ ?_)) <;> (try simp only [S0,putAt,List.replicate,Int.reduceAdd,Int.reduceSub,Int.reduceMul,Int.reduceTDiv,Int.reduceTMod,Int.reduceMod,Int.reduceDiv,Nat.reduceLT,Nat.reduceEqDiff,Int.reduceLE,Int.reduceLT,Int.reduceToNat,Int.reduceNeg,Int.reduceEq,Nat.reduceLeDiff,Nat.reducePow,Int.reducePow,reduceIte,Nat.reduceSub,Nat.reduceAdd,Nat.reduceMul, *]))
        all_goals (refine Fin_mk aE (key _ ?_); rw [fin]; simp)
      · have d1 : decide (sideP x.w) = true := by simp [h1]
        have d2 : decide (sideP x.h) = false := by simp [h2]
        have fin : ¬ x.good f := by
          unfold LvR.good
          simp only [decide_eq_false_iff_not] at hn
          simp [hn, h1, h2]
        refine HL.hc k166 999 ?_; unfold M166
        (all_goals (try simp only [S0,putAt,List.replicate,Int.reduceAdd,Int.reduceSub,Int.reduceMul,Int.reduceTDiv,Int.reduceTMod,Int.reduceMod,Int.reduceDiv,Nat.reduceLT,Nat.reduceEqDiff,Int.reduceLE,Int.reduceLT,Int.reduceToNat,Int.reduceNeg,Int.reduceEq,Nat.reduceLeDiff,Nat.reducePow,Int.reducePow,reduceIte,Nat.reduceSub,Nat.reduceAdd,Nat.reduceMul, *])); repeat' ((first | (with_reducible refine fun _ : True => ?_) | refine c_inone x ?_ | refine c_side _ ?_ | (with_reducible refine any_h ?_) | ((first | refine AllocQ_i ?_ | refine AllocO_i ?_); intro bk hb0 hbk; try simp only [set_none'] at hbk) | ((first | refine condS_i ?_ ?_ | refine pick_i ?_ ?_ | refine gS_it ?_ ?_ | refine gS_if ?_ ?_ | refine gP_it ?_ ?_ | refine gP_if ?_ ?_) <;> (intro hc; try simp only [Int.reduceLE,Int.reduceLT,Int.reduceEq,Sn] at hc)) | (with_reducible refine KP_i ?_ ?_; · exact aE) | (with_reducible refine And.intro ?_ ?_)) <;> (try simp only [S0,putAt,List.replicate,Int.reduceAdd,Int.reduceSub,Int.reduceMul,Int.reduceTDiv,Int.reduceTMod,Int.reduceMod,Int.reduceDiv,Nat.reduceLT,Nat.reduceEqDiff,Int.reduceLE,Int.reduceLT,Int.reduceToNat,Int.reduceNeg,Int.reduceEq,Nat.reduceLeDiff,Nat.reducePow,Int.reducePow,reduceIte,Nat.reduceSub,Nat.reduceAdd,Nat.reduceMul, *]))
        all_goals (refine Fin_mk aE (key _ ?_); simp [fin])
    · have d1 : decide (sideP x.w) = false := by simp [h1]
      have fin : ¬ x.good f := by
        unfold LvR.good
        simp only [decide_eq_false_iff_not] at hn
        simp [hn, h1]
      refine HL.hc k166 999 ?_; unfold M166
      (all_goals (try simp only [S0,putAt,List.replicate,Int.reduceAdd,Int.reduceSub,Int.reduceMul,Int.reduceTDiv,Int.reduceTMod,Int.reduceMod,Int.reduceDiv,Nat.reduceLT,Nat.reduceEqDiff,Int.reduceLE,Int.reduceLT,Int.reduceToNat,Int.reduceNeg,Int.reduceEq,Nat.reduceLeDiff,Nat.reducePow,Int.reducePow,reduceIte,Nat.reduceSub,Nat.reduceAdd,Nat.reduceMul, *])); repeat' ((first | (with_reducible refine fun _ : True => ?_) | refine c_inone x ?_ | refine c_side _ ?_ | (with_reducible refine any_h ?_) | ((first | refine AllocQ_i ?_ | refine AllocO_i ?_); intro bk hb0 hbk; try simp only [set_none'] at hbk) | ((first | refine condS_i ?_ ?_ | refine pick_i ?_ ?_ | refine gS_it ?_ ?_ | refine gS_if ?_ ?_ | refine gP_it ?_ ?_ | refine gP_if ?_ ?_) <;> (intro hc; try simp only [Int.reduceLE,Int.reduceLT,Int.reduceEq,Sn] at hc)) | (with_reducible refine KP_i ?_ ?_; · exact aE) | (with_reducible refine And.intro ?_ ?_)) <;> (try simp only [S0,putAt,List.replicate,Int.reduceAdd,Int.reduceSub,Int.reduceMul,Int.reduceTDiv,Int.reduceTMod,Int.reduceMod,Int.reduceDiv,Nat.reduceLT,Nat.reduceEqDiff,Int.reduceLE,Int.reduceLT,Int.reduceToNat,Int.reduceNeg,Int.reduceEq,Nat.reduceLeDiff,Nat.reducePow,Int.reducePow,reduceIte,Nat.reduceSub,Nat.reduceAdd,Nat.reduceMul, *]))
      all_goals (refine Fin_mk aE (key _ ?_); simp [fin])
  · have fin : x.good f := by
      unfold LvR.good
      exact .inl (by simpa using hn)
    refine HL.hc k166 999 ?_; unfold M166
    (all_goals (try simp only [S0,putAt,List.replicate,Int.reduceAdd,Int.reduceSub,Int.reduceMul,Int.reduceTDiv,Int.reduceTMod,Int.reduceMod,Int.reduceDiv,Nat.reduceLT,Nat.reduceEqDiff,Int.reduceLE,Int.reduceLT,Int.reduceToNat,Int.reduceNeg,Int.reduceEq,Nat.reduceLeDiff,Nat.reducePow,Int.reducePow,reduceIte,Nat.reduceSub,Nat.reduceAdd,Nat.reduceMul, *])); repeat' ((first | (with_reducible refine fun _ : True => ?_) | refine c_inone x ?_ | refine c_side _ ?_ | (with_reducible refine any_h ?_) | ((first | refine AllocQ_i ?_ | refine AllocO_i ?_); intro bk hb0 hbk; try simp only [set_none'] at hbk) | ((first | refine condS_i ?_ ?_ | refine pick_i ?_ ?_ | refine gS_it ?_ ?_ | refine gS_if ?_ ?_ | refine gP_it ?_ ?_ | refine gP_if ?_ ?_) <;> (intro hc; try simp only [Int.reduceLE,Int.reduceLT,Int.reduceEq,Sn] at hc)) | (with_reducible refine KP_i ?_ ?_; · exact aE) | (with_reducible refine And.intro ?_ ?_)) <;> (try simp only [S0,putAt,List.replicate,Int.reduceAdd,Int.reduceSub,Int.reduceMul,Int.reduceTDiv,Int.reduceTMod,Int.reduceMod,Int.reduceDiv,Nat.reduceLT,Nat.reduceEqDiff,Int.reduceLE,Int.reduceLT,Int.reduceToNat,Int.reduceNeg,Int.reduceEq,Nat.reduceLeDiff,Nat.reducePow,Int.reducePow,reduceIte,Nat.reduceSub,Nat.reduceAdd,Nat.reduceMul, *]))
    all_goals (refine Fin_mk aE (key _ ?_); simp [fin])
/-- The first of a list's levels that is not good. -/
/- slices IndexFunc[[]paintbox/api Level,paintbox/api Level] -/
def M176 : MC :=
  .seq (.reg [oX 4 (.mv (kX 0))])
 (.seq (.seq (.reg [vX 6 0,
 oX 7 (.len (.tmp 6)),
 oX 8 (.mv (kX 0))])
 (.block 0 (.loop (.seq (.reg [oX 9 (bX .lss 8 7)])
 (.seq (.cond (.tmp 9)
 (.skip)
 (.exit 0))
 (.seq (.block 1 (.seq (.reg [vX 10 8,
 vX 5 10])
 (.seq (.reg [vX 11 1,
 vX 12 0,
 vX 13 5,
 oX 14 (.is 3 (.tmp 12) (.tmp 13)),
 oX 15 (.ldn 3 (.tmp 14)),
 oX 16 (.yv (.tmp 11) [(.tmp 15)])])
 (.cond (.tmp 16)
 (.seq (.reg [vX 17 5,
 vX 4 17])
 (.ret))
 (.skip)))))
 (.reg [oX 18 (bK .add 8 1),
 vX 8 18])))))))
 (.seq (.reg [oX 4 (.mv (kX (-1)))])
 (.ret)))
theorem k176 : fnOk Tryz.prog 176 = some (M176, [.t 4], 19) := by kernel_rfl

theorem c_IndexW (p : Nat) (f : Int) (a : Option Addr) (cap : Nat) (ls : List LvR) {ty : TypeId} (hp : H p = some ⟨ty, [.int .i64 (sizeI f)]⟩) (hA : SlAt w0 H a (ls.map LvR.row).flatten) (hx : ∀ y ∈ ls, LvOk w0 H y) (hl : ls.length ≤ 7)
    (hy : (∀ y ∈ ls, y.good f) → K (.int .i64 (-1)) H) (hn : (¬ ∀ y ∈ ls, y.good f) → ∀ k : Nat, K (.int .i64 k) H) :
    HCalls Tryz.prog w0 176 [.slice a ls.length cap, .func (.func 166) #[] #[.pointer (some ⟨p, 0, none⟩)]] H K := by
  refine HL.hc k176 999 ?_; unfold M176
  (all_goals (try simp only [S0,putAt,List.replicate,Int.reduceAdd,Int.reduceSub,Int.reduceMul,Int.reduceTDiv,Int.reduceTMod,Int.reduceMod,Int.reduceDiv,Nat.reduceLT,Nat.reduceEqDiff,Int.reduceLE,Int.reduceLT,Int.reduceToNat,Int.reduceNeg,Int.reduceEq,Nat.reduceLeDiff,Nat.reducePow,Int.reducePow,reduceIte,Nat.reduceSub,Nat.reduceAdd,Nat.reduceMul, *])); repeat' ((first | (with_reducible refine fun _ : True => ?_) | (with_reducible refine any_h ?_) | ((first | refine AllocQ_i ?_ | refine AllocO_i ?_); intro bk hb0 hbk; try simp only [set_none'] at hbk) | ((first | refine condS_i ?_ ?_ | refine pick_i ?_ ?_ | refine gS_it ?_ ?_ | refine gS_if ?_ ?_ | refine gP_it ?_ ?_ | refine gP_if ?_ ?_) <;> (intro hc; try simp only [Int.reduceLE,Int.reduceLT,Int.reduceEq,Sn] at hc)) | (with_reducible refine KP_i ?_ ?_; · exact aE) | (with_reducible refine And.intro ?_ ?_)) <;> (try simp only [S0,putAt,List.replicate,Int.reduceAdd,Int.reduceSub,Int.reduceMul,Int.reduceTDiv,Int.reduceTMod,Int.reduceMod,Int.reduceDiv,Nat.reduceLT,Nat.reduceEqDiff,Int.reduceLE,Int.reduceLT,Int.reduceToNat,Int.reduceNeg,Int.reduceEq,Nat.reduceLeDiff,Nat.reducePow,Int.reducePow,reduceIte,Nat.reduceSub,Nat.reduceAdd,Nat.reduceMul, *]))
  refine loop_g 9 (fun s : Nat × Value => [(5, s.2), (8, .int .i64 (s.1 : Nat))]) (fun _ => H) (fun s => s.1 ≤ ls.length ∧ ∀ y ∈ ls.take s.1, y.good f) (fun s => ls.length - s.1) (0, undef) ⟨Nat.zero_le _, by simp⟩ (Heap.Le.refl _) rfl ?_
  intro ⟨k, u⟩ g ⟨hk, hg⟩
  simp only at hk hg
  rcases Nat.lt_or_ge k ls.length with hlt | hge
  · obtain ⟨y, ey⟩ : ∃ y, ls[k]? = some y := ⟨_, List.getElem?_eq_getElem hlt⟩
    have hm : y ∈ ls := List.mem_of_getElem? ey
    obtain ⟨b, o, rfl, hr, hf⟩ := hA.row (i := k) (sz := 3) (r := y.row) (fun r hr => by obtain ⟨z, -, rfl⟩ := List.mem_map.1 hr; rfl) (by decide) (by rw [List.getElem?_map, ey]; rfl)
    simp only [LvR.row] at hr
    have t0 : (k : Int) < (ls.length : Int) := by omega
    have t3 : IntKind.i64.wrap ((k : Int) + 1) = (k : Int) + 1 := Bw.1 _ (by omega) (by omega)
    have tk : ls.take (k + 1) = ls.take k ++ [y] := by rw [List.take_add_one, ey]; rfl
    by_cases hgood : y.good f
    · have e1 : decide (¬ y.good f) = false := by simp [hgood]
      have hg' : ∀ z ∈ ls.take (k + 1), z.good f := fun z hz => by
        rw [tk] at hz
        rcases List.mem_append.1 hz with h' | h'
        · exact hg z h'
        · rw [List.mem_singleton.1 h']; exact hgood
      (all_goals (try simp only [S0,putAt,List.replicate,Int.reduceAdd,Int.reduceSub,Int.reduceMul,Int.reduceTDiv,Int.reduceTMod,Int.reduceMod,Int.reduceDiv,Nat.reduceLT,Nat.reduceEqDiff,Int.reduceLE,Int.reduceLT,Int.reduceToNat,Int.reduceNeg,Int.reduceEq,Nat.reduceLeDiff,Nat.reducePow,Int.reducePow,reduceIte,Nat.reduceSub,Nat.reduceAdd,Nat.reduceMul, *])); repeat' ((first | (with_reducible refine fun _ : True => ?_) | refine c_wrong p y f hp (hx y hm) ?_ | (with_reducible refine any_h ?_) | ((first | refine AllocQ_i ?_ | refine AllocO_i ?_); intro bk hb0 hbk; try simp only [set_none'] at hbk) | ((first | refine condS_i ?_ ?_ | refine pick_i ?_ ?_ | refine gS_it ?_ ?_ | refine gS_if ?_ ?_ | refine gP_it ?_ ?_ | refine gP_if ?_ ?_) <;> (intro hc; try simp only [Int.reduceLE,Int.reduceLT,Int.reduceEq,Sn] at hc)) | (with_reducible refine KP_i ?_ ?_; · exact aE) | (with_reducible refine And.intro ?_ ?_)) <;> (try simp only [S0,putAt,List.replicate,Int.reduceAdd,Int.reduceSub,Int.reduceMul,Int.reduceTDiv,Int.reduceTMod,Int.reduceMod,Int.reduceDiv,Nat.reduceLT,Nat.reduceEqDiff,Int.reduceLE,Int.reduceLT,Int.reduceToNat,Int.reduceNeg,Int.reduceEq,Nat.reduceLeDiff,Nat.reducePow,Int.reducePow,reduceIte,Nat.reduceSub,Nat.reduceAdd,Nat.reduceMul, *]))
      refine Round_mk (k + 1, _) ⟨by omega, hg'⟩ (by simp only; omega) ?_ rfl rfl
      exact Heap.Le.refl _
    · have e1 : decide (¬ y.good f) = true := by simp [hgood]
      have hn' := hn (fun h => hgood (h y hm)) k
      (all_goals (try simp only [S0,putAt,List.replicate,Int.reduceAdd,Int.reduceSub,Int.reduceMul,Int.reduceTDiv,Int.reduceTMod,Int.reduceMod,Int.reduceDiv,Nat.reduceLT,Nat.reduceEqDiff,Int.reduceLE,Int.reduceLT,Int.reduceToNat,Int.reduceNeg,Int.reduceEq,Nat.reduceLeDiff,Nat.reducePow,Int.reducePow,reduceIte,Nat.reduceSub,Nat.reduceAdd,Nat.reduceMul, *])); repeat' ((first | (with_reducible refine fun _ : True => ?_) | refine c_wrong p y f hp (hx y hm) ?_ | (with_reducible refine any_h ?_) | ((first | refine AllocQ_i ?_ | refine AllocO_i ?_); intro bk hb0 hbk; try simp only [set_none'] at hbk) | ((first | refine condS_i ?_ ?_ | refine pick_i ?_ ?_ | refine gS_it ?_ ?_ | refine gS_if ?_ ?_ | refine gP_it ?_ ?_ | refine gP_if ?_ ?_) <;> (intro hc; try simp only [Int.reduceLE,Int.reduceLT,Int.reduceEq,Sn] at hc)) | (with_reducible refine KP_i ?_ ?_; · exact aE) | (with_reducible refine And.intro ?_ ?_)) <;> (try simp only [S0,putAt,List.replicate,Int.reduceAdd,Int.reduceSub,Int.reduceMul,Int.reduceTDiv,Int.reduceTMod,Int.reduceMod,Int.reduceDiv,Nat.reduceLT,Nat.reduceEqDiff,Int.reduceLE,Int.reduceLT,Int.reduceToNat,Int.reduceNeg,Int.reduceEq,Nat.reduceLeDiff,Nat.reducePow,Int.reducePow,reduceIte,Nat.reduceSub,Nat.reduceAdd,Nat.reduceMul, *]))
      exact Fin_mk aE hn'
  · obtain rfl : ls.length = k := by omega
    have t0 : ¬ ((ls.length : Nat) : Int) < ((ls.length : Nat) : Int) := by omega
    have hy' := hy (by simpa using hg)
    (all_goals (try simp only [S0,putAt,List.replicate,Int.reduceAdd,Int.reduceSub,Int.reduceMul,Int.reduceTDiv,Int.reduceTMod,Int.reduceMod,Int.reduceDiv,Nat.reduceLT,Nat.reduceEqDiff,Int.reduceLE,Int.reduceLT,Int.reduceToNat,Int.reduceNeg,Int.reduceEq,Nat.reduceLeDiff,Nat.reducePow,Int.reducePow,reduceIte,Nat.reduceSub,Nat.reduceAdd,Nat.reduceMul, *])); repeat' ((first | (with_reducible refine fun _ : True => ?_) | (with_reducible refine any_h ?_) | ((first | refine AllocQ_i ?_ | refine AllocO_i ?_); intro bk hb0 hbk; try simp only [set_none'] at hbk) | ((first | refine condS_i ?_ ?_ | refine pick_i ?_ ?_ | refine gS_it ?_ ?_ | refine gS_if ?_ ?_ | refine gP_it ?_ ?_ | refine gP_if ?_ ?_) <;> (intro hc; try simp only [Int.reduceLE,Int.reduceLT,Int.reduceEq,Sn] at hc)) | (with_reducible refine KP_i ?_ ?_; · exact aE) | (with_reducible refine And.intro ?_ ?_)) <;> (try simp only [S0,putAt,List.replicate,Int.reduceAdd,Int.reduceSub,Int.reduceMul,Int.reduceTDiv,Int.reduceTMod,Int.reduceMod,Int.reduceDiv,Nat.reduceLT,Nat.reduceEqDiff,Int.reduceLE,Int.reduceLT,Int.reduceToNat,Int.reduceNeg,Int.reduceEq,Nat.reduceLeDiff,Nat.reducePow,Int.reducePow,reduceIte,Nat.reduceSub,Nat.reduceAdd,Nat.reduceMul, *]))
    exact Fin_mk aE hy'
/- slices ContainsFunc[[]paintbox/api Level,paintbox/api Level] -/
def M169 : MC :=
  .seq (.reg [oX 4 (.mv (.const (.bool false)))])
 (.seq (.reg [vX 5 0,
 vX 6 1,
 oX 7 (.call 176 [(.tmp 5),(.tmp 6)]),
 oX 8 (bK .geq 7 0),
 vX 4 8])
 (.ret))
theorem k169 : fnOk Tryz.prog 169 = some (M169, [.t 4], 9) := by kernel_rfl

theorem c_ContainsW (p : Nat) (f : Int) (a : Option Addr) (cap : Nat) (ls : List LvR) {ty : TypeId} (hp : H p = some ⟨ty, [.int .i64 (sizeI f)]⟩) (hA : SlAt w0 H a (ls.map LvR.row).flatten) (hx : ∀ y ∈ ls, LvOk w0 H y) (hl : ls.length ≤ 7)
    (h : K (.bool (decide (¬ ∀ y ∈ ls, y.good f))) H) :
    HCalls Tryz.prog w0 169 [.slice a ls.length cap, .func (.func 166) #[] #[.pointer (some ⟨p, 0, none⟩)]] H K := by
  by_cases hg : ∀ y ∈ ls, y.good f
  · have h' : K (.bool false) H := K_bool h (by simpa using hg)
    refine HL.hc k169 999 ?_; unfold M169
    (all_goals (try simp only [S0,putAt,List.replicate,Int.reduceAdd,Int.reduceSub,Int.reduceMul,Int.reduceTDiv,Int.reduceTMod,Int.reduceMod,Int.reduceDiv,Nat.reduceLT,Nat.reduceEqDiff,Int.reduceLE,Int.reduceLT,Int.reduceToNat,Int.reduceNeg,Int.reduceEq,Nat.reduceLeDiff,Nat.reducePow,Int.reducePow,reduceIte,Nat.reduceSub,Nat.reduceAdd,Nat.reduceMul, *])); repeat' ((first | (with_reducible refine fun _ : True => ?_) | (with_reducible refine any_h ?_) | ((first | refine AllocQ_i ?_ | refine AllocO_i ?_); intro bk hb0 hbk; try simp only [set_none'] at hbk) | ((first | refine condS_i ?_ ?_ | refine pick_i ?_ ?_ | refine gS_it ?_ ?_ | refine gS_if ?_ ?_ | refine gP_it ?_ ?_ | refine gP_if ?_ ?_) <;> (intro hc; try simp only [Int.reduceLE,Int.reduceLT,Int.reduceEq,Sn] at hc)) | (with_reducible refine KP_i ?_ ?_; · exact aE) | (with_reducible refine And.intro ?_ ?_)) <;> (try simp only [S0,putAt,List.replicate,Int.reduceAdd,Int.reduceSub,Int.reduceMul,Int.reduceTDiv,Int.reduceTMod,Int.reduceMod,Int.reduceDiv,Nat.reduceLT,Nat.reduceEqDiff,Int.reduceLE,Int.reduceLT,Int.reduceToNat,Int.reduceNeg,Int.reduceEq,Nat.reduceLeDiff,Nat.reducePow,Int.reducePow,reduceIte,Nat.reduceSub,Nat.reduceAdd,Nat.reduceMul, *]))
    refine c_IndexW p f a cap ls hp hA hx hl (fun _ => ?_) (fun hn => (hn hg).elim)
    (all_goals (try simp only [S0,putAt,List.replicate,Int.reduceAdd,Int.reduceSub,Int.reduceMul,Int.reduceTDiv,Int.reduceTMod,Int.reduceMod,Int.reduceDiv,Nat.reduceLT,Nat.reduceEqDiff,Int.reduceLE,Int.reduceLT,Int.reduceToNat,Int.reduceNeg,Int.reduceEq,Nat.reduceLeDiff,Nat.reducePow,Int.reducePow,reduceIte,Nat.reduceSub,Nat.reduceAdd,Nat.reduceMul, *])); repeat' ((first | (with_reducible refine fun _ : True => ?_) | (with_reducible refine any_h ?_) | ((first | refine AllocQ_i ?_ | refine AllocO_i ?_); intro bk hb0 hbk; try simp only [set_none'] at hbk) | ((first | refine condS_i ?_ ?_ | refine pick_i ?_ ?_ | refine gS_it ?_ ?_ | refine gS_if ?_ ?_ | refine gP_it ?_ ?_ | refine gP_if ?_ ?_) <;> (intro hc; try simp only [Int.reduceLE,Int.reduceLT,Int.reduceEq,Sn] at hc)) | (with_reducible refine KP_i ?_ ?_; · exact aE) | (with_reducible refine And.intro ?_ ?_)) <;> (try simp only [S0,putAt,List.replicate,Int.reduceAdd,Int.reduceSub,Int.reduceMul,Int.reduceTDiv,Int.reduceTMod,Int.reduceMod,Int.reduceDiv,Nat.reduceLT,Nat.reduceEqDiff,Int.reduceLE,Int.reduceLT,Int.reduceToNat,Int.reduceNeg,Int.reduceEq,Nat.reduceLeDiff,Nat.reducePow,Int.reducePow,reduceIte,Nat.reduceSub,Nat.reduceAdd,Nat.reduceMul, *]))
    exact Fin_mk aE h'
  · have h' : K (.bool true) H := K_bool h (by simpa using hg)
    refine HL.hc k169 999 ?_; unfold M169
    (all_goals (try simp only [S0,putAt,List.replicate,Int.reduceAdd,Int.reduceSub,Int.reduceMul,Int.reduceTDiv,Int.reduceTMod,Int.reduceMod,Int.reduceDiv,Nat.reduceLT,Nat.reduceEqDiff,Int.reduceLE,Int.reduceLT,Int.reduceToNat,Int.reduceNeg,Int.reduceEq,Nat.reduceLeDiff,Nat.reducePow,Int.reducePow,reduceIte,Nat.reduceSub,Nat.reduceAdd,Nat.reduceMul, *])); repeat' ((first | (with_reducible refine fun _ : True => ?_) | (with_reducible refine any_h ?_) | ((first | refine AllocQ_i ?_ | refine AllocO_i ?_); intro bk hb0 hbk; try simp only [set_none'] at hbk) | ((first | refine condS_i ?_ ?_ | refine pick_i ?_ ?_ | refine gS_it ?_ ?_ | refine gS_if ?_ ?_ | refine gP_it ?_ ?_ | refine gP_if ?_ ?_) <;> (intro hc; try simp only [Int.reduceLE,Int.reduceLT,Int.reduceEq,Sn] at hc)) | (with_reducible refine KP_i ?_ ?_; · exact aE) | (with_reducible refine And.intro ?_ ?_)) <;> (try simp only [S0,putAt,List.replicate,Int.reduceAdd,Int.reduceSub,Int.reduceMul,Int.reduceTDiv,Int.reduceTMod,Int.reduceMod,Int.reduceDiv,Nat.reduceLT,Nat.reduceEqDiff,Int.reduceLE,Int.reduceLT,Int.reduceToNat,Int.reduceNeg,Int.reduceEq,Nat.reduceLeDiff,Nat.reducePow,Int.reducePow,reduceIte,Nat.reduceSub,Nat.reduceAdd,Nat.reduceMul, *]))
    refine c_IndexW p f a cap ls hp hA hx hl (fun hy => (hg hy).elim) (fun _ k => ?_)
    (all_goals (try simp only [S0,putAt,List.replicate,Int.reduceAdd,Int.reduceSub,Int.reduceMul,Int.reduceTDiv,Int.reduceTMod,Int.reduceMod,Int.reduceDiv,Nat.reduceLT,Nat.reduceEqDiff,Int.reduceLE,Int.reduceLT,Int.reduceToNat,Int.reduceNeg,Int.reduceEq,Nat.reduceLeDiff,Nat.reducePow,Int.reducePow,reduceIte,Nat.reduceSub,Nat.reduceAdd,Nat.reduceMul, *])); repeat' ((first | (with_reducible refine fun _ : True => ?_) | (with_reducible refine any_h ?_) | ((first | refine AllocQ_i ?_ | refine AllocO_i ?_); intro bk hb0 hbk; try simp only [set_none'] at hbk) | ((first | refine condS_i ?_ ?_ | refine pick_i ?_ ?_ | refine gS_it ?_ ?_ | refine gS_if ?_ ?_ | refine gP_it ?_ ?_ | refine gP_if ?_ ?_) <;> (intro hc; try simp only [Int.reduceLE,Int.reduceLT,Int.reduceEq,Sn] at hc)) | (with_reducible refine KP_i ?_ ?_; · exact aE) | (with_reducible refine And.intro ?_ ?_)) <;> (try simp only [S0,putAt,List.replicate,Int.reduceAdd,Int.reduceSub,Int.reduceMul,Int.reduceTDiv,Int.reduceTMod,Int.reduceMod,Int.reduceDiv,Nat.reduceLT,Nat.reduceEqDiff,Int.reduceLE,Int.reduceLT,Int.reduceToNat,Int.reduceNeg,Int.reduceEq,Nat.reduceLeDiff,Nat.reducePow,Int.reducePow,reduceIte,Nat.reduceSub,Nat.reduceAdd,Nat.reduceMul, *]))
    exact Fin_mk aE h'
end Go.Proofs.YtdmnfaefakceiaaGreat.Sm
end
section
/- Check of images (layer 18). -/
set_option linter.unusedSimpArgs false
set_option linter.unusedVariables false
set_option maxRecDepth 100000
set_option maxHeartbeats 4000000
namespace Go.Proofs.YtdmnfaefakceiaaGreat.Sm
open Go.HL Go.RowKit Pb
variable {w0 : World} {H : Heap} {K : Value → Heap → Prop}


instance (x : Im) : Decidable (∀ y, x.ls[x.ls.length - 1]? = some y → sizeI x.f ≠ 0 ∧ ¬ y.nil) := by
  cases h : x.ls[x.ls.length - 1]? with
  | none => exact isTrue (fun y hy => by cases hy)
  | some z => exact decidable_of_iff (sizeI x.f ≠ 0 ∧ ¬ z.nil) ⟨fun hz y hy => by cases hy; exact hz, fun hz => hz z rfl⟩
instance (x : Im) : Decidable x.right := by unfold Im.right; infer_instance
/-- What makes an image one that may not be, in the order of the tests. -/
theorem right_big {x : Im} (h : 7 < x.ls.length) : ¬ x.right := fun r => by have := r.1; omega
theorem right_fmt {x : Im} (h : x.ls.length = 0) (h2 : x.f ≠ 0) : ¬ x.right := fun r => h2 (r.2.1 h)
theorem right_last {x : Im} {y : LvR} (h : x.ls[x.ls.length - 1]? = some y) (h2 : sizeI x.f = 0 ∨ y.nil) : ¬ x.right := fun r => by
  have := r.2.2.1 y h
  rcases h2 with e | e
  · exact this.1 e
  · exact this.2 e
theorem right_bad {x : Im} (h : ¬ ∀ y ∈ x.ls, y.good x.f) : ¬ x.right := fun r => h r.2.2.2.1
theorem right_vals {x : Im} (h1 : x.ls.length ≤ 7) (h2 : x.ls.length = 0 → x.f = 0) (h3 : ∀ y, x.ls[x.ls.length - 1]? = some y → sizeI x.f ≠ 0 ∧ ¬ y.nil) (h4 : ∀ y ∈ x.ls, y.good x.f) : x.right ↔ valP 1 x.s ∧ valP 2 x.t ∧ valP 3 x.mn ∧ valP 4 x.mg := by
  unfold Im.right valP
  exact ⟨fun r => r.2.2.2.2, fun r => ⟨h1, h2, h3, h4, r⟩⟩
/- image Check -/
def M155 : MC :=
  .seq (.reg [oX 1 (.box 134 (.tmp 0)),
 oX 2 (.mv (kX 0))])
 (.seq (.reg [oX 6 (.fa 0 (.tmp 1)),
 oX 7 (.ld1 (.tmp 6)),
 oX 8 (.call 165 [(.tmp 7)]),
 oX 3 (.alloc 3 [(.int .i64 0)]),
 ⟨none,.st1 (.tmp 3) (.tmp 8),none⟩])
 (.seq (.reg [oX 9 (.fn 166 [(.tmp 3)]),
 vX 4 9])
 (.seq (.reg [oX 10 (.fa 1 (.tmp 1)),
 oX 11 (.ld1 (.tmp 10)),
 oX 12 (.len (.tmp 11)),
 vX 5 12])
 (.seq (.block 0 (.seq (.seq (.reg [vX 14 5,
 oX 15 (bK .gtr 14 7),
 vX 13 15])
 (.cond (.tmp 13)
 (.skip)
 (.seq (.reg [vX 16 5,
 oX 17 (bK .eql 16 0),
 vX 18 17,
 ⟨(some 19),.fa 0 (.tmp 1),(some (18,true))⟩,
 ⟨(some 20),.ld1 (.tmp 19),(some (18,true))⟩,
 ⟨(some 21),bK .neq 20 0,(some (18,true))⟩,
 oX 22 (.pick (.tmp 18) (.tmp 21) (.const (.bool false))),
 vX 13 22])
 (.cond (.tmp 13)
 (.skip)
 (.seq (.reg [vX 23 5,
 oX 24 (bK .gtr 23 0),
 vX 25 24,
 ⟨(some 26),.ld1 (.tmp 3),(some (25,true))⟩,
 ⟨(some 27),bK .eql 26 0,(some (25,true))⟩,
 ⟨(some 28),.mv (.tmp 27),(some (25,true))⟩,
 ⟨(some 29),.fa 1 (.tmp 1),(some (28,false))⟩,
 ⟨(some 30),.ld1 (.tmp 29),(some (28,false))⟩,
 ⟨(some 31),.mv (.tmp 5),(some (28,false))⟩,
 ⟨(some 32),bK .sub 31 1,(some (28,false))⟩,
 ⟨(some 33),.is 3 (.tmp 30) (.tmp 32),(some (28,false))⟩,
 ⟨(some 34),.ldn 3 (.tmp 33),(some (28,false))⟩,
 ⟨(some 35),.call 167 [(.tmp 34)],(some (28,false))⟩,
 ⟨(some 36),.pick (.tmp 28) (.const (.bool true)) (.tmp 35),(some (25,true))⟩,
 oX 37 (.pick (.tmp 25) (.tmp 36) (.const (.bool false))),
 vX 13 37])
 (.cond (.tmp 13)
 (.skip)
 (.reg [oX 38 (.fa 1 (.tmp 1)),
 oX 39 (.ld1 (.tmp 38)),
 vX 40 4,
 oX 41 (.call 169 [(.tmp 39),(.tmp 40)]),
 vX 13 41])))))))
 (.cond (.tmp 13)
 (.seq (.reg [oX 2 (.mv (kX 180))])
 (.ret))
 (.seq (.seq (.reg [oX 43 (.fa 2 (.tmp 1)),
 oX 44 (.ld1 (.tmp 43)),
 oX 45 (.call 170 [(kX 1),(.tmp 44)]),
 oX 46 (.un .not (.tmp 45)),
 vX 42 46])
 (.cond (.tmp 42)
 (.skip)
 (.seq (.reg [oX 47 (.fa 3 (.tmp 1)),
 oX 48 (.ld1 (.tmp 47)),
 oX 49 (.call 170 [(kX 2),(.tmp 48)]),
 oX 50 (.un .not (.tmp 49)),
 vX 42 50])
 (.cond (.tmp 42)
 (.skip)
 (.seq (.reg [oX 51 (.fa 4 (.tmp 1)),
 oX 52 (.ld1 (.tmp 51)),
 oX 53 (.call 170 [(kX 3),(.tmp 52)]),
 oX 54 (.un .not (.tmp 53)),
 vX 42 54])
 (.cond (.tmp 42)
 (.skip)
 (.reg [oX 55 (.fa 5 (.tmp 1)),
 oX 56 (.ld1 (.tmp 55)),
 oX 57 (.call 170 [(kX 4),(.tmp 56)]),
 oX 58 (.un .not (.tmp 57)),
 vX 42 58])))))))
 (.cond (.tmp 42)
 (.seq (.reg [oX 2 (.mv (kX 180))])
 (.ret))
 (.skip))))))
 (.seq (.reg [oX 2 (.mv (kX 0))])
 (.ret))))))
theorem k155 : fnOk Tryz.prog 155 = some (M155, [.t 2], 59) := by kernel_rfl

/-- The program's check, behind the tests of the levels' number. -/
theorem c_Check (x : Im) (hx : ImOk w0 H x) (h : K (.int .i64 (if x.right then 0 else 180)) H) : HCalls Tryz.prog w0 155 [x.v] H K := by
  have key1 : ¬ x.right → K (.int .i64 180) H := fun e => by rw [if_neg e] at h; exact h
  have key0 : x.right → K (.int .i64 0) H := fun e => by rw [if_pos e] at h; exact h
  clear h
  have hA := hx.at_
  unfold Im.v
  by_cases h1 : 7 < x.ls.length
  · have k := key1 (right_big h1)
    have t1 : (7 : Int) < (x.ls.length : Int) := by omega
    clear key0 key1
    refine HL.hc k155 999 ?_; unfold M155
    (all_goals (try simp only [S0,putAt,List.replicate,Int.reduceAdd,Int.reduceSub,Int.reduceMul,Int.reduceTDiv,Int.reduceTMod,Int.reduceMod,Int.reduceDiv,Nat.reduceLT,Nat.reduceEqDiff,Int.reduceLE,Int.reduceLT,Int.reduceToNat,Int.reduceNeg,Int.reduceEq,Nat.reduceLeDiff,Nat.reducePow,Int.reducePow,reduceIte,Nat.reduceSub,Nat.reduceAdd,Nat.reduceMul, *])); repeat' ((first | (with_reducible refine fun _ : True => ?_) | refine c_pSize x.f ?_ | (with_reducible refine any_h ?_) | ((first | refine AllocQ_i ?_ | refine AllocO_i ?_); intro bk hb0 hbk; try simp only [set_none'] at hbk) | ((first | refine condS_i ?_ ?_ | refine pick_i ?_ ?_ | refine gS_it ?_ ?_ | refine gS_if ?_ ?_ | refine gP_it ?_ ?_ | refine gP_if ?_ ?_) <;> (intro hc; try simp only [Int.reduceLE,Int.reduceLT,Int.reduceEq,Sn] at hc)) | (with_reducible refine KP_i ?_ ?_; · exact aE) | (with_reducible refine And.intro ?_ ?_)) <;> (try simp only [S0,putAt,List.replicate,Int.reduceAdd,Int.reduceSub,Int.reduceMul,Int.reduceTDiv,Int.reduceTMod,Int.reduceMod,Int.reduceDiv,Nat.reduceLT,Nat.reduceEqDiff,Int.reduceLE,Int.reduceLT,Int.reduceToNat,Int.reduceNeg,Int.reduceEq,Nat.reduceLeDiff,Nat.reducePow,Int.reducePow,reduceIte,Nat.reduceSub,Nat.reduceAdd,Nat.reduceMul, *]))
    exact Fin_mk aE k
  have t1 : ¬ (7 : Int) < (x.ls.length : Int) := by omega
  rcases Nat.eq_zero_or_pos x.ls.length with h2 | h2
  · have t2 : (x.ls.length : Int) = 0 := by omega
    have he : x.ls = [] := List.length_eq_zero_iff.1 h2
    by_cases h3 : x.f = 0
    · have good : ∀ y ∈ x.ls, y.good x.f := by rw [he]; simp
      have d0 : decide (¬ ∀ y ∈ x.ls, y.good x.f) = false := by simpa using good
      have hr := right_vals (x := x) (by omega) (fun _ => h3) (fun y hy => by rw [he] at hy; simp at hy) good
      have hlt : x.ls.length ≤ 7 := by omega
      have hxl := hx.lv
      have d3 : decide (x.f = 0) = true := by simpa using h3
      clear hx h1 good h2 h3 he
      refine HL.hc k155 999 ?_; unfold M155
      (all_goals (try simp only [S0,putAt,List.replicate,Int.reduceAdd,Int.reduceSub,Int.reduceMul,Int.reduceTDiv,Int.reduceTMod,Int.reduceMod,Int.reduceDiv,Nat.reduceLT,Nat.reduceEqDiff,Int.reduceLE,Int.reduceLT,Int.reduceToNat,Int.reduceNeg,Int.reduceEq,Nat.reduceLeDiff,Nat.reducePow,Int.reducePow,reduceIte,Nat.reduceSub,Nat.reduceAdd,Nat.reduceMul, *])); repeat' ((first | (with_reducible refine fun _ : True => ?_) | refine c_pSize x.f ?_ | refine c_ContainsW _ x.f x.a x.cap x.ls aA (SlAt.grow hA aG) (fun y hy => (hxl y hy).grow aG) hlt ?_ | refine c_legal _ _ ?_ | (with_reducible refine any_h ?_) | ((first | refine AllocQ_i ?_ | refine AllocO_i ?_); intro bk hb0 hbk; try simp only [set_none'] at hbk) | ((first | refine condS_i ?_ ?_ | refine pick_i ?_ ?_ | refine gS_it ?_ ?_ | refine gS_if ?_ ?_ | refine gP_it ?_ ?_ | refine gP_if ?_ ?_) <;> (intro hc; try simp only [Int.reduceLE,Int.reduceLT,Int.reduceEq,Sn] at hc)) | (with_reducible refine KP_i ?_ ?_; · exact aE) | (with_reducible refine And.intro ?_ ?_)) <;> (try simp only [S0,putAt,List.replicate,Int.reduceAdd,Int.reduceSub,Int.reduceMul,Int.reduceTDiv,Int.reduceTMod,Int.reduceMod,Int.reduceDiv,Nat.reduceLT,Nat.reduceEqDiff,Int.reduceLE,Int.reduceLT,Int.reduceToNat,Int.reduceNeg,Int.reduceEq,Nat.reduceLeDiff,Nat.reducePow,Int.reducePow,reduceIte,Nat.reduceSub,Nat.reduceAdd,Nat.reduceMul, *]))
      all_goals first
        | (refine Fin_mk aE (key1 (fun r => ?_)); exact absurd (hr.1 r) (by simp [*]); done)
        | (refine Fin_mk aE (key0 (hr.2 ?_)); simp [*]; done)
    · have k := key1 (right_fmt h2 h3)
      clear key0 key1
      refine HL.hc k155 999 ?_; unfold M155
      (all_goals (try simp only [S0,putAt,List.replicate,Int.reduceAdd,Int.reduceSub,Int.reduceMul,Int.reduceTDiv,Int.reduceTMod,Int.reduceMod,Int.reduceDiv,Nat.reduceLT,Nat.reduceEqDiff,Int.reduceLE,Int.reduceLT,Int.reduceToNat,Int.reduceNeg,Int.reduceEq,Nat.reduceLeDiff,Nat.reducePow,Int.reducePow,reduceIte,Nat.reduceSub,Nat.reduceAdd,Nat.reduceMul, *])); repeat' ((first | (with_reducible refine fun _ : True => ?_) | refine c_pSize x.f ?_ | (with_reducible refine any_h ?_) | ((first | refine AllocQ_i ?_ | refine AllocO_i ?_); intro bk hb0 hbk; try simp only [set_none'] at hbk) | ((first | refine condS_i ?_ ?_ | refine pick_i ?_ ?_ | refine gS_it ?_ ?_ | refine gS_if ?_ ?_ | refine gP_it ?_ ?_ | refine gP_if ?_ ?_) <;> (intro hc; try simp only [Int.reduceLE,Int.reduceLT,Int.reduceEq,Sn] at hc)) | (with_reducible refine KP_i ?_ ?_; · exact aE) | (with_reducible refine And.intro ?_ ?_)) <;> (try simp only [S0,putAt,List.replicate,Int.reduceAdd,Int.reduceSub,Int.reduceMul,Int.reduceTDiv,Int.reduceTMod,Int.reduceMod,Int.reduceDiv,Nat.reduceLT,Nat.reduceEqDiff,Int.reduceLE,Int.reduceLT,Int.reduceToNat,Int.reduceNeg,Int.reduceEq,Nat.reduceLeDiff,Nat.reducePow,Int.reducePow,reduceIte,Nat.reduceSub,Nat.reduceAdd,Nat.reduceMul, *]))
      exact Fin_mk aE k
  · have t2 : ¬ (x.ls.length : Int) = 0 := by omega
    have t3 : (0 : Int) < (x.ls.length : Int) := by omega
    obtain ⟨y, ey⟩ : ∃ y, x.ls[x.ls.length - 1]? = some y := ⟨_, List.getElem?_eq_getElem (by omega)⟩
    by_cases h4 : sizeI x.f = 0
    · have k := key1 (right_last ey (.inl h4))
      clear key0 key1
      refine HL.hc k155 999 ?_; unfold M155
      (all_goals (try simp only [S0,putAt,List.replicate,Int.reduceAdd,Int.reduceSub,Int.reduceMul,Int.reduceTDiv,Int.reduceTMod,Int.reduceMod,Int.reduceDiv,Nat.reduceLT,Nat.reduceEqDiff,Int.reduceLE,Int.reduceLT,Int.reduceToNat,Int.reduceNeg,Int.reduceEq,Nat.reduceLeDiff,Nat.reducePow,Int.reducePow,reduceIte,Nat.reduceSub,Nat.reduceAdd,Nat.reduceMul, *])); repeat' ((first | (with_reducible refine fun _ : True => ?_) | refine c_pSize x.f ?_ | (with_reducible refine any_h ?_) | ((first | refine AllocQ_i ?_ | refine AllocO_i ?_); intro bk hb0 hbk; try simp only [set_none'] at hbk) | ((first | refine condS_i ?_ ?_ | refine pick_i ?_ ?_ | refine gS_it ?_ ?_ | refine gS_if ?_ ?_ | refine gP_it ?_ ?_ | refine gP_if ?_ ?_) <;> (intro hc; try simp only [Int.reduceLE,Int.reduceLT,Int.reduceEq,Sn] at hc)) | (with_reducible refine KP_i ?_ ?_; · exact aE) | (with_reducible refine And.intro ?_ ?_)) <;> (try simp only [S0,putAt,List.replicate,Int.reduceAdd,Int.reduceSub,Int.reduceMul,Int.reduceTDiv,Int.reduceTMod,Int.reduceMod,Int.reduceDiv,Nat.reduceLT,Nat.reduceEqDiff,Int.reduceLE,Int.reduceLT,Int.reduceToNat,Int.reduceNeg,Int.reduceEq,Nat.reduceLeDiff,Nat.reducePow,Int.reducePow,reduceIte,Nat.reduceSub,Nat.reduceAdd,Nat.reduceMul, *]))
      exact Fin_mk aE k
    · obtain ⟨b, o, ea, hr, hf⟩ := im_row hx ey
      have t4 : IntKind.i64.wrap ((x.ls.length : Int) - 1) = ((x.ls.length - 1 : Nat) : Int) := by rw [Bw.1 _ (by omega) (by omega)]; omega
      have t5 : ((x.ls.length - 1 : Nat) : Int) < (x.ls.length : Int) := by omega
      by_cases h5 : y.nil
      · have k := key1 (right_last ey (.inr h5))
        have d5 : decide y.nil = true := by simpa using h5
        clear key0 key1
        rw [ea]
        refine HL.hc k155 999 ?_; unfold M155
        (all_goals (try simp only [S0,putAt,List.replicate,Int.reduceAdd,Int.reduceSub,Int.reduceMul,Int.reduceTDiv,Int.reduceTMod,Int.reduceMod,Int.reduceDiv,Nat.reduceLT,Nat.reduceEqDiff,Int.reduceLE,Int.reduceLT,Int.reduceToNat,Int.reduceNeg,Int.reduceEq,Nat.reduceLeDiff,Nat.reducePow,Int.reducePow,reduceIte,Nat.reduceSub,Nat.reduceAdd,Nat.reduceMul, *])); repeat' ((first | (with_reducible refine fun _ : True => ?_) | refine c_pSize x.f ?_ | refine c_inone y ?_ | (with_reducible refine any_h ?_) | ((first | refine AllocQ_i ?_ | refine AllocO_i ?_); intro bk hb0 hbk; try simp only [set_none'] at hbk) | ((first | refine condS_i ?_ ?_ | refine pick_i ?_ ?_ | refine gS_it ?_ ?_ | refine gS_if ?_ ?_ | refine gP_it ?_ ?_ | refine gP_if ?_ ?_) <;> (intro hc; try simp only [Int.reduceLE,Int.reduceLT,Int.reduceEq,Sn] at hc)) | (with_reducible refine KP_i ?_ ?_; · exact aE) | (with_reducible refine And.intro ?_ ?_)) <;> (try simp only [S0,putAt,List.replicate,Int.reduceAdd,Int.reduceSub,Int.reduceMul,Int.reduceTDiv,Int.reduceTMod,Int.reduceMod,Int.reduceDiv,Nat.reduceLT,Nat.reduceEqDiff,Int.reduceLE,Int.reduceLT,Int.reduceToNat,Int.reduceNeg,Int.reduceEq,Nat.reduceLeDiff,Nat.reducePow,Int.reducePow,reduceIte,Nat.reduceSub,Nat.reduceAdd,Nat.reduceMul, *]))
        exact Fin_mk aE k
      · have d5 : decide y.nil = false := by simpa using h5
        by_cases h6 : ∀ y ∈ x.ls, y.good x.f
        · have d0 : decide (¬ ∀ y ∈ x.ls, y.good x.f) = false := by simpa using h6
          have hr2 := right_vals (x := x) (by omega) (fun e => by omega) (fun z hz => by rw [ey] at hz; cases hz; exact ⟨h4, h5⟩) h6
          have hlt : x.ls.length ≤ 7 := by omega
          have hxl := hx.lv
          clear hx h1 h6
          rw [ea] at hA ⊢
          refine HL.hc k155 999 ?_; unfold M155
          (all_goals (try simp only [S0,putAt,List.replicate,Int.reduceAdd,Int.reduceSub,Int.reduceMul,Int.reduceTDiv,Int.reduceTMod,Int.reduceMod,Int.reduceDiv,Nat.reduceLT,Nat.reduceEqDiff,Int.reduceLE,Int.reduceLT,Int.reduceToNat,Int.reduceNeg,Int.reduceEq,Nat.reduceLeDiff,Nat.reducePow,Int.reducePow,reduceIte,Nat.reduceSub,Nat.reduceAdd,Nat.reduceMul, *])); repeat' ((first | (with_reducible refine fun _ : True => ?_) | refine c_pSize x.f ?_ | refine c_inone y ?_ | refine c_ContainsW _ x.f _ x.cap x.ls aA (SlAt.grow hA aG) (fun y hy => (hxl y hy).grow aG) hlt ?_ | refine c_legal _ _ ?_ | (with_reducible refine any_h ?_) | ((first | refine AllocQ_i ?_ | refine AllocO_i ?_); intro bk hb0 hbk; try simp only [set_none'] at hbk) | ((first | refine condS_i ?_ ?_ | refine pick_i ?_ ?_ | refine gS_it ?_ ?_ | refine gS_if ?_ ?_ | refine gP_it ?_ ?_ | refine gP_if ?_ ?_) <;> (intro hc; try simp only [Int.reduceLE,Int.reduceLT,Int.reduceEq,Sn] at hc)) | (with_reducible refine KP_i ?_ ?_; · exact aE) | (with_reducible refine And.intro ?_ ?_)) <;> (try simp only [S0,putAt,List.replicate,Int.reduceAdd,Int.reduceSub,Int.reduceMul,Int.reduceTDiv,Int.reduceTMod,Int.reduceMod,Int.reduceDiv,Nat.reduceLT,Nat.reduceEqDiff,Int.reduceLE,Int.reduceLT,Int.reduceToNat,Int.reduceNeg,Int.reduceEq,Nat.reduceLeDiff,Nat.reducePow,Int.reducePow,reduceIte,Nat.reduceSub,Nat.reduceAdd,Nat.reduceMul, *]))
          all_goals first
            | (refine Fin_mk aE (key1 (fun r => ?_)); exact absurd (hr2.1 r) (by simp [*]); done)
            | (refine Fin_mk aE (key0 (hr2.2 ?_)); simp [*]; done)
        · have d0 : decide (¬ ∀ y ∈ x.ls, y.good x.f) = true := by simpa using h6
          have k := key1 (right_bad h6)
          have hlt : x.ls.length ≤ 7 := by omega
          have hxl := hx.lv
          clear hx h1 h6 key0 key1
          rw [ea] at hA ⊢
          refine HL.hc k155 999 ?_; unfold M155
          (all_goals (try simp only [S0,putAt,List.replicate,Int.reduceAdd,Int.reduceSub,Int.reduceMul,Int.reduceTDiv,Int.reduceTMod,Int.reduceMod,Int.reduceDiv,Nat.reduceLT,Nat.reduceEqDiff,Int.reduceLE,Int.reduceLT,Int.reduceToNat,Int.reduceNeg,Int.reduceEq,Nat.reduceLeDiff,Nat.reducePow,Int.reducePow,reduceIte,Nat.reduceSub,Nat.reduceAdd,Nat.reduceMul, *])); repeat' ((first | (with_reducible refine fun _ : True => ?_) | refine c_pSize x.f ?_ | refine c_inone y ?_ | refine c_ContainsW _ x.f _ x.cap x.ls aA (SlAt.grow hA aG) (fun y hy => (hxl y hy).grow aG) hlt ?_ | refine c_legal _ _ ?_ | (with_reducible refine any_h ?_) | ((first | refine AllocQ_i ?_ | refine AllocO_i ?_); intro bk hb0 hbk; try simp only [set_none'] at hbk) | ((first | refine condS_i ?_ ?_ | refine pick_i ?_ ?_ | refine gS_it ?_ ?_ | refine gS_if ?_ ?_ | refine gP_it ?_ ?_ | refine gP_if ?_ ?_) <;> (intro hc; try simp only [Int.reduceLE,Int.reduceLT,Int.reduceEq,Sn] at hc)) | (with_reducible refine KP_i ?_ ?_; · exact aE) | (with_reducible refine And.intro ?_ ?_)) <;> (try simp only [S0,putAt,List.replicate,Int.reduceAdd,Int.reduceSub,Int.reduceMul,Int.reduceTDiv,Int.reduceTMod,Int.reduceMod,Int.reduceDiv,Nat.reduceLT,Nat.reduceEqDiff,Int.reduceLE,Int.reduceLT,Int.reduceToNat,Int.reduceNeg,Int.reduceEq,Nat.reduceLeDiff,Nat.reducePow,Int.reducePow,reduceIte,Nat.reduceSub,Nat.reduceAdd,Nat.reduceMul, *]))
          exact Fin_mk aE k
theorem K_right {x : Im} (h : K (.bool (decide x.right)) H) : (x.right → K (.bool true) H) ∧ (¬ x.right → K (.bool false) H) :=
  ⟨fun e => K_bool h (by simp [e]), fun e => K_bool h (by simp [e])⟩
/-- The tests of one level, when it is there. -/
theorem good_iff {y : LvR} {f : Int} (hn : ¬ y.nil) (h1 : sideP y.w) (h2 : sideP y.h) : y.good f ↔ (y.l.length : Int) = y.w * y.h * sizeI f := by
  unfold LvR.good; simp [hn, h1, h2]
theorem bad_side {y : LvR} {f : Int} (hn : ¬ y.nil) (h : ¬ sideP y.w ∨ ¬ sideP y.h) : ¬ y.good f := by
  unfold LvR.good; rintro (e | ⟨e1, e2, -⟩)
  · exact hn e
  · rcases h with h | h
    · exact h e1
    · exact h e2
theorem area {w h S : Int} (h1 : sideP w) (h2 : sideP h) (hs : 0 ≤ S ∧ S ≤ 4) : (IntKind.i64.wrap (w * h) = w * h) ∧ IntKind.i64.wrap (w * h * S) = w * h * S := by
  have hwh : 0 ≤ w * h ∧ w * h ≤ 4096 := by unfold sideP at h1 h2; exact ⟨Int.mul_nonneg (by omega) (by omega), by have := Int.mul_le_mul h1.2 h2.2 (by omega) (by omega); omega⟩
  have hws : 0 ≤ w * h * S ∧ w * h * S ≤ 16384 := ⟨Int.mul_nonneg hwh.1 hs.1, by have := Int.mul_le_mul hwh.2 hs.2 hs.1 (by omega); omega⟩
  exact ⟨Bw.1 _ (by omega) (by omega), Bw.1 _ (by omega) (by omega)⟩

end Go.Proofs.YtdmnfaefakceiaaGreat.Sm
end
section
/- What images are the same (layer 18). -/
set_option linter.unusedSimpArgs false
set_option linter.unusedVariables false
set_option maxRecDepth 100000
set_option maxHeartbeats 4000000
namespace Go.Proofs.YtdmnfaefakceiaaGreat.Sm
open Go.HL Go.RowKit Pb
variable {w0 : World} {H : Heap} {K : Value → Heap → Prop}

def LvR.core (x : LvR) : Int × Int × List Int := (x.w, x.h, x.l)
/-- The same image, in other memory. -/
structure Im.Eqv (x y : Im) : Prop where
  f : y.f = x.f
  s : y.s = x.s
  t : y.t = x.t
  mn : y.mn = x.mn
  mg : y.mg = x.mg
  ls : y.ls.map LvR.core = x.ls.map LvR.core
/-- A level in memory of the call's own. -/
structure LvC (W : World) (H G : Heap) (x : LvR) : Prop where
  bld : Bld W H G x.a x.cap 1 5 (x.l.map fun b => .int .u8 b)
  lm : x.l.length ≤ maxLen
  lr : x.l.length ≤ 140737488355328
  w : I64 x.w
  h : I64 x.h
  by_ : ∀ b ∈ x.l, 0 ≤ b ∧ b ≤ 255
theorem LvC.ok {W : World} {G : Heap} {x : LvR} (h : LvC W H G x) : LvOk W G x := ⟨SlAt.toInts h.bld.slAt, by have := h.bld.le; simpa using this, h.lm, h.lr, h.w, h.h, h.by_⟩
theorem LvC.turn {W : World} {H G : Heap} {x : LvR} (h : LvC W H G x) {b : Nat} {z y : Blk} (hb : G b = some y) (hne : 5 ≠ y.ty) : LvC W H (G.set b z) x := ⟨h.bld.turn hb hne, h.lm, h.lr, h.w, h.h, h.by_⟩
theorem LvC.base {W : World} {H0 H G : Heap} {x : LvR} (h : LvC W H G x) (g : Grow W H0 H) : LvC W H0 G x := ⟨h.bld.base g, h.lm, h.lr, h.w, h.h, h.by_⟩
/-- An image in memory of the call's own. -/
structure ImC (W : World) (H G : Heap) (x : Im) : Prop where
  bld : Bld W H G x.a x.cap 3 156 (x.ls.map LvR.row).flatten
  lv : ∀ y ∈ x.ls, LvC W H G y
  lm : x.ls.length ≤ maxLen
  lr : x.ls.length * 40 ≤ 140737488355328
  f : I64 x.f
  s : I64 x.s
  t : I64 x.t
  mn : I64 x.mn
  mg : I64 x.mg
theorem rows_len (ls : List LvR) : (ls.map LvR.row).flatten.length = ls.length * 3 := by
  rw [flat_len (sz := 3) _ (fun r hr => by obtain ⟨z, -, rfl⟩ := List.mem_map.1 hr; rfl), List.length_map]
theorem ImC.ok {W : World} {H G : Heap} {x : Im} (h : ImC W H G x) : ImOk W G x :=
  ⟨h.bld.slAt, fun y hy => (h.lv y hy).ok, by have := h.bld.le; rw [rows_len] at this; omega, h.lm, h.lr, h.f, h.s, h.t, h.mn, h.mg⟩

end Go.Proofs.YtdmnfaefakceiaaGreat.Sm
end
