/- Corners as arguments: what stands in memory for one (layer 21). -/
import Derived.Test.YtofgiimfempcjaaHls
import Derived.Test.YtofgiimfempcjaaHlt
import Derived.Test.YtofgiimfempcjaaPd
import Derived.Test.YtofgiimfempcjaaFb
set_option linter.unusedSimpArgs false
set_option linter.unusedVariables false
set_option maxRecDepth 100000
namespace Go.Proofs.Ytofgiimfempcjaa
open Go.HL Go.RowKit Go.ChangeShapes Go.WideShapes Pb

def I64 (x : Int) : Prop := -9223372036854775808 ≤ x ∧ x ≤ 9223372036854775807
theorem i64_wf {n : Int} (h : (Lit.int .i64 n).wf = true) : I64 n := bounds_i64 h
/-- A slice of vectors. -/
structure VsOk (W : World) (H : Heap) (a : Option Addr) (cap : Nat) (l : List (Nat → Int)) : Prop where
  at_ : SlAt W H a (l.map VC).flatten
  lc : l.length ≤ cap
  lm : l.length ≤ maxLen
  lr : l.length * 16 ≤ 140737488355328
  v : ∀ y ∈ l, V32 y
theorem VsOk.grow {W : World} {H G : Heap} {a : Option Addr} {cap : Nat} {l : List (Nat → Int)} (h : VsOk W H a cap l) (g : Grow W H G) : VsOk W G a cap l := ⟨h.at_.grow g, h.lc, h.lm, h.lr, h.v⟩
/-- A corner: what it is, and where its vectors lie. -/
structure Vt where
  p : Nat → Int
  s : Int
  l : List (Nat → Int)
structure VtR extends Vt where
  a : Option Addr
  cap : Nat
def VtR.row (x : VtR) : List Value := [.int .i32 (x.p 0), .int .i32 (x.p 1), .int .i32 (x.p 2), .int .i32 (x.p 3), .int .i32 x.s, .slice x.a x.l.length x.cap]
def VtR.v (x : VtR) : Value := .agg #[.int .i32 (x.p 0), .int .i32 (x.p 1), .int .i32 (x.p 2), .int .i32 (x.p 3), .int .i32 x.s, .slice x.a x.l.length x.cap]
structure VtOk (W : World) (H : Heap) (x : VtR) : Prop where
  vs : VsOk W H x.a x.cap x.l
  p : V32 x.p
  s : I32 x.s
theorem VtOk.grow {W : World} {H G : Heap} {x : VtR} (h : VtOk W H x) (g : Grow W H G) : VtOk W G x := ⟨h.vs.grow g, h.p, h.s⟩

theorem len1 {l : List Value} (h : l.length = 1) : ∃ a, l = [a] := by
  match l, h with
  | [a], _ => exact ⟨a, rfl⟩
theorem len4 {l : List Value} (h : l.length = 4) : ∃ a b c d, l = [a, b, c, d] := by
  match l, h with
  | [a, b, c, d], _ => exact ⟨a, b, c, d, rfl⟩
theorem len6 {l : List Value} (h : l.length = 6) : ∃ a b c d e f, l = [a, b, c, d, e, f] := by
  match l, h with
  | [a, b, c, d, e, f], _ => exact ⟨a, b, c, d, e, f, rfl⟩
section
variable {W : World}
theorem open_vec {D : Nat} {t e : TypeId} {cs : List Value} (hu : Try.prog.underlying t = some (.array 4 e)) (hc : Try.prog.cellsOf t = 4) (he : Try.prog.cellsOf e = 1) (hi : Try.prog.underlying e = some (.int .i32)) (h : Arg Try.prog W (D + 2) t cs) : ∃ v : Nat → Int, cs = VC v ∧ V32 v := by
  obtain ⟨hl, hh⟩ := arg_arr h hu he
  rw [hc] at hl
  obtain ⟨c0, c1, c2, c3, rfl⟩ := len4 hl
  obtain ⟨n0, e0, q0⟩ := arg_int (hh 0 (by omega)) hi
  obtain ⟨n1, e1, q1⟩ := arg_int (hh 1 (by omega)) hi
  obtain ⟨n2, e2, q2⟩ := arg_int (hh 2 (by omega)) hi
  obtain ⟨n3, e3, q3⟩ := arg_int (hh 3 (by omega)) hi
  simp at e0 e1 e2 e3
  subst e0 e1 e2 e3
  exact ⟨vf n0 n1 n2 n3, rfl, vf_I32 (bounds_i32 q0) (bounds_i32 q1) (bounds_i32 q2) (bounds_i32 q3)⟩
theorem open_vecs {D : Nat} {rows : List (List Value)} {a : Option Addr} {cap : Nat} {t e : TypeId} (hu : Try.prog.underlying t = some (.array 4 e)) (hc : Try.prog.cellsOf t = 4) (he : Try.prog.cellsOf e = 1) (hi : Try.prog.underlying e = some (.int .i32)) (hb : Try.prog.bytesOf t = 16)
    (h1 : rows.length ≤ cap) (h2 : rows.length ≤ maxLen) (h3 : rows.length * Try.prog.bytesOf t ≤ reachBytes) (h4 : ∀ r ∈ rows, r.length = 4 ∧ Arg Try.prog W (D + 2) t r) (h5 : SlAt W (fun _ => none) a rows.flatten) :
    ∃ l : List (Nat → Int), rows = l.map VC ∧ VsOk W (fun _ => none) a cap l := by
  obtain ⟨l, rfl, hl⟩ := map_of (f := VC) (q := V32) rows fun y hy => open_vec (D := D) hu hc he hi (h4 y hy).2
  rw [List.length_map] at h1 h2 h3
  rw [hb] at h3
  exact ⟨l, rfl, h5, h1, h2, Nat.le_trans h3 (by decide), hl⟩
theorem open_row {D : Nat} {cs : List Value} (h : Arg Try.prog W (D + 4) 29 cs) : ∃ x : VtR, cs = x.row ∧ VtOk W (fun _ => none) x := by
  have hl := arg_len (n := 6) h 0 (by kernel_rfl) (by kernel_rfl)
  obtain ⟨c0, c1, c2, c3, c4, c5, rfl⟩ := len6 hl
  have f0 := arg_fld (ft := 26) h (i := 0) (off := 0) (n := 4) (by kernel_rfl) (by kernel_rfl); have f1 := arg_fld (ft := 22) h (i := 1) (off := 4) (n := 1) (by kernel_rfl) (by kernel_rfl); obtain ⟨n1, e1, q1⟩ := arg_int (k := .i32) f1 (by kernel_rfl); have f2 := arg_fld (ft := 27) h (i := 2) (off := 5) (n := 1) (by kernel_rfl) (by kernel_rfl); obtain ⟨a2, cap2, rows2, e2, lc2, lm2, lb2, ln2, lr2, ls2⟩ := open_rows (e := 26) (sz := 4) (by kernel_rfl) (by kernel_rfl) (by decide) f2
  obtain ⟨p, ep, hp⟩ := open_vec (D := D + 1) (e := 22) (by kernel_rfl) (by kernel_rfl) (by kernel_rfl) (by kernel_rfl) f0
  obtain ⟨l, rfl, hv⟩ := open_vecs (D := D) (e := 22) (by kernel_rfl) (by kernel_rfl) (by kernel_rfl) (by kernel_rfl) (by kernel_rfl) lc2 lm2 lb2 lr2 ls2
  simp at e1 e2 ep
  obtain ⟨rfl, rfl, rfl, rfl⟩ := ep
  subst e1 e2
  exact ⟨⟨⟨p, n1, l⟩, a2, cap2⟩, rfl, ⟨hv, hp, bounds_i32 q1⟩⟩
theorem open_vert {r : Reach} {b : Nat} {v : Value} (hv : Value.okWide Try.prog W r b 29 v) (h : Arg Try.prog W 8 29 v.cells.toList) : ∃ x : VtR, v = x.v ∧ VtOk W (fun _ => none) x := by
  obtain ⟨cs, rfl⟩ := okWide_agg (by kernel_rfl) hv
  rw [cells_agg] at h
  obtain ⟨x, e, hx⟩ := open_row (D := 4) h
  refine ⟨x, ?_, hx⟩
  obtain rfl : cs = x.row := by simpa using e
  rfl
end
end Go.Proofs.Ytofgiimfempcjaa
