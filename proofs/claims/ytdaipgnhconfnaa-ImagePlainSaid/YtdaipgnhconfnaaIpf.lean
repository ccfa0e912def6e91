/- All levels of a first one: the plain law, and rows of levels that are built (layer 8). -/
import Derived.Test.YtdaipgnhconfnaaIpc
import Derived.Test.YtdaipgnhconfnaaImwp
set_option linter.unusedSimpArgs false
set_option linter.unusedVariables false
set_option maxRecDepth 100000
namespace Go.Proofs.Ytdaipgnhconfnaa
open Go Go.HL Go.RowKit Pb
variable {w0 : World} {H G : Heap} {K : Value → Heap → Prop}

abbrev Core := Int × Int × List Int
def wdO (w : Int) : Nat := if w = 1 then 1 else w.toNat / 2
def cwO (w : Int) : Nat := if w = 1 then 1 else 2
/-- The next level. -/
def nxt (f : Int) (c : Core) : Core := ((wdO c.1 : Nat), (wdO c.2.1 : Nat), outB c.2.2 f (sizeI f).toNat c.1.toNat (cwO c.1) (cwO c.1 * cwO c.2.1) (wdO c.1) (wdO c.1 * wdO c.2.1))
def genL (f : Int) : Nat → Core → List Core
  | 0, c => [c]
  | n + 1, c => if c.1 = 1 ∧ c.2.1 = 1 then [c] else c :: genL f n (nxt f c)
theorem genL_end (f : Int) (n : Nat) {c : Core} (h : c.1 = 1 ∧ c.2.1 = 1) : genL f n c = [c] := by
  cases n with
  | zero => rfl
  | succ n => rw [genL, if_pos h]
theorem pow_b {w : Int} (h : powP w) : 1 ≤ w ∧ w ≤ 64 := by unfold powP at h; omega
theorem wdO_pow {w : Int} (h : powP w) : powP (wdO w : Nat) ∧ ((w = 1 ∧ wdO w = 1 ∧ cwO w = 1) ∨ (¬ w = 1 ∧ 1 ≤ wdO w ∧ cwO w = 2 ∧ w.toNat = 2 * wdO w)) := by
  unfold powP at h
  rcases h with rfl | rfl | rfl | rfl | rfl | rfl | rfl <;> exact ⟨by unfold powP; decide, by decide⟩
structure LvG (f : Int) (c : Core) : Prop where
  w : powP c.1
  h : powP c.2.1
  len : (c.2.2.length : Int) = c.1 * c.2.1 * sizeI f
theorem size_nat {f : Int} (h : sizeI f ≠ 0) : sizeI f = ((sizeI f).toNat : Int) ∧ 1 ≤ (sizeI f).toNat ∧ (sizeI f).toNat ≤ 4 := by have := sizeI_le f; omega
theorem nxt_g {f : Int} (hs : sizeI f ≠ 0) {c : Core} (g : LvG f c) : LvG f (nxt f c) := by
  refine ⟨(wdO_pow g.w).1, (wdO_pow g.h).1, ?_⟩
  unfold nxt
  simp only
  have e := (size_nat hs).1
  rw [outB_len _ _ _ _ _ _ _ e]
  conv => rhs; rw [e]
  simp
theorem geo_of {f : Int} (hs : sizeI f ≠ 0) {z : LvR} (g : LvG f z.core) : Geo z f (sizeI f).toNat z.w.toNat z.h.toNat (cwO z.w) (cwO z.h) (wdO z.w) (wdO z.h) := by
  have hw := pow_b g.w
  have hh := pow_b g.h
  have e := size_nat hs
  have a := (wdO_pow g.w).2
  have b := (wdO_pow g.h).2
  have hl := g.len
  unfold LvR.core at hw hh hl a b
  simp only at hw hh hl a b
  refine ⟨by omega, by omega, e.1, e.2, ?_, by omega, by omega, by omega, by omega⟩
  have : (z.l.length : Int) = ((z.w.toNat * z.h.toNat * (sizeI f).toNat : Nat) : Int) := by
    rw [hl, Int.natCast_mul, Int.natCast_mul, ← e.1, Int.toNat_of_nonneg (by omega), Int.toNat_of_nonneg (by omega)]
  omega
/-- Levels in a builder. -/
structure LX (w0 : World) (H G : Heap) (a : Option Addr) (cap : Nat) (ls : List LvR) : Prop where
  bld : Bld w0 H G a cap 3 38 (ls.map LvR.row).flatten
  lv : ∀ z ∈ ls, LvC w0 H G z
theorem ImC.lx {y : Im} (h : ImC w0 H G y) : LX w0 H G y.a y.cap y.ls := ⟨h.bld, h.lv⟩
theorem LvC.growX {F : Heap} {z : LvR} (h : LvC w0 H G z) (g : Grow w0 G F) : LvC w0 H F z := ⟨h.bld.grow g, h.lm, h.lr, h.w, h.h, h.by_⟩
theorem LX.grow {F : Heap} {a : Option Addr} {cap : Nat} {ls : List LvR} (h : LX w0 H G a cap ls) (g : Grow w0 G F) : LX w0 H F a cap ls := ⟨h.bld.grow g, fun y hy => (h.lv y hy).growX g⟩
theorem LX.turn {a : Option Addr} {cap : Nat} {ls : List LvR} (h : LX w0 H G a cap ls) {b : Nat} {z : Blk} {cs : List Value} (hb : G b = some ⟨.t 24, cs⟩) : LX w0 H (G.set b z) a cap ls :=
  ⟨h.bld.turn hb (by simp), fun y hy => (h.lv y hy).turn hb (by simp)⟩
theorem bld_rx {H1 G' : Heap} {a : Option Addr} {cap sz : Nat} {ty : TypeId} {cs : List Value} (h : Bld w0 H1 G' a cap sz ty cs) (hn : ∀ b, H1 b = none → H b = none) : Bld w0 H G' a cap sz ty cs := by
  rcases h with ⟨b, z, rfl, h1, h2, h3, h4⟩ | h
  · exact .inl ⟨b, z, rfl, h1, hn _ h2, h3, h4⟩
  · exact .inr h
theorem LvC.rx {H1 : Heap} {z : LvR} (h : LvC w0 H1 G z) (hn : ∀ b, H1 b = none → H b = none) : LvC w0 H G z := ⟨bld_rx h.bld hn, h.lm, h.lr, h.w, h.h, h.by_⟩
theorem LX.rx {H1 : Heap} {a : Option Addr} {cap : Nat} {ls : List LvR} (h : LX w0 H1 G a cap ls) (hn : ∀ b, H1 b = none → H b = none) : LX w0 H G a cap ls := ⟨bld_rx h.bld hn, fun z hz => (h.lv z hz).rx hn⟩
theorem LvC.keepX {F : Heap} {z : LvR} (h : LvC w0 H G z) (hk : ∀ d x, G d = some x → x.ty = .t 5 → F d = some x) : LvC w0 H F z := by
  refine ⟨?_, h.lm, h.lr, h.w, h.h, h.by_⟩
  rcases h.bld with ⟨b, zz, e, h1, h2, h3, h4⟩ | h'
  · exact .inl ⟨b, zz, e, h1, h2, hk b _ h3 rfl, h4⟩
  · exact .inr h'
/-- A store to a block of rows that the builder does not know: the levels stay. -/
theorem LX.other {a : Option Addr} {cap : Nat} {ls : List LvR} (h : LX w0 H G a cap ls) {b : Nat} {z : Blk} (hb : H b ≠ none) : LX w0 H (G.set b z) a cap ls := by
  have key : ∀ {a : Option Addr} {cap sz : Nat} {ty : TypeId} {cs : List Value}, Bld w0 H G a cap sz ty cs → Bld w0 H (G.set b z) a cap sz ty cs := fun h => by
    rcases h with ⟨c, z, rfl, h1, h2, h3, h4⟩ | h
    · exact .inl ⟨c, z, rfl, h1, h2, by rw [Heap.set_other _ _ (fun e => by subst e; exact hb h2)]; exact h3, h4⟩
    · exact .inr h
  exact ⟨key h.bld, fun y hy => ⟨key (h.lv y hy).bld, (h.lv y hy).lm, (h.lv y hy).lr, (h.lv y hy).w, (h.lv y hy).h, (h.lv y hy).by_⟩⟩
theorem app_lx {a : Option Addr} {cap r c1 n : Nat} {ls : List LvR} {z' : LvR} (hn : ls.length = n) (h1 : 1 ≤ n) (hB : LX w0 H G a cap ls) (hz : LvC w0 H G z') (hg : Grow w0 H G) (hr : G r = some ⟨.t 38, z'.row⟩) (hl : n ≤ 1000)
    (h : ∀ a' cap' G', LX w0 H G' a' cap' (ls ++ [z']) → n + 1 ≤ cap' → Grow w0 H G' → (∀ d x, G d = some x → (x.ty ≠ .t 38 ∨ H d ≠ none) → G' d = some x) → K (.slice a' (n + 1) cap') G') :
    appQ w0 G K 38 3 40 [.int .i64 0, .int .i64 0, .slice none 0 0] (.slice a n cap) (.slice (some ⟨r, 0, none⟩) 1 c1) := by
  have old : ∀ {G' : Heap} {a0 : Option Addr} (hk : ∀ c x, G c = some x → (x.ty = .t 38 → a0 ≠ some ⟨c, 0, none⟩) → G' c = some x), ∀ z ∈ ls ++ [z'], LvC w0 H G' z := fun {G' a0} hk z hz' => by
    have hz : LvC w0 H G z := by
      rcases List.mem_append.1 hz' with h' | h'
      · exact hB.lv z h'
      · rw [List.mem_singleton.1 h']; exact hz
    exact ⟨hz.bld.stay (by simp) hk, hz.lm, hz.lr, hz.w, hz.h, hz.by_⟩
  have he : ((ls ++ [z']).map LvR.row).flatten = (ls.map LvR.row).flatten ++ z'.row := by rw [List.map_append, List.flatten_append]; simp
  subst hn
  refine app_bld (H := H) (n := ls.length) (m := 1) (cs := (ls.map LvR.row).flatten) (ns := z'.row) hB.bld (rows_len ls) rfl (srd_blk (n := 3) hr rfl) rfl hg ⟨by omega, by omega⟩ rfl (fun a' cap' G' hB' hg' hk' hc => ?_)
  refine h a' cap' G' ⟨by rw [he]; exact hB', old hk'⟩ hc hg' (fun d x hd hx => hk' d x hd (fun e => ?_))
  rcases hx with hx | hx
  · exact (hx e).elim
  · rcases hB.bld with ⟨b, z, e1, -, h2, -, -⟩ | ⟨-, h4⟩
    · rw [e1]; intro e3; cases e3; exact hx h2
    · have := congrArg List.length h4; rw [rows_len] at this; have h0 : ls.length * 3 = 0 := this; omega
/-- Which images have no levels made. -/
inductive GenE (x : Im) : Int → Prop
  | image : ¬ x.right → GenE x 180
  | empty : x.right → x.ls.length = 0 → GenE x 4
  | none (z : LvR) : x.right → x.ls[0]? = some z → z.nil → GenE x 4
  | arg (z : LvR) : x.right → x.ls[0]? = some z → ¬ z.nil → ¬ (powP z.w ∧ powP z.h) → GenE x 2
structure GenOk (x y : Im) : Prop where
  f : y.f = x.f
  s : y.s = x.s
  t : y.t = x.t
  mn : y.mn = x.mn
  mg : y.mg = x.mg
  ls : ∃ z, x.ls[0]? = some z ∧ y.ls.map LvR.core = genL x.f 6 z.core
theorem bound_next {w : Int} {n : Nat} (hp : powP w) (h : w ≤ 2 ^ (n + 1)) : ((wdO w : Nat) : Int) ≤ 2 ^ n := by
  have q := p2 n
  rw [Int.pow_succ] at h
  rcases (wdO_pow hp).2 with ⟨-, e, -⟩ | ⟨-, -, -, e⟩
  · rw [e]; omega
  · have := pow_b hp; omega
theorem grow_at {b : Nat} {x : Blk} (g : Grow w0 H G) (k : G b = some x) : Grow w0 (H.set b x) G := fun c => by
  by_cases e : c = b
  · subst e; rw [Heap.set_same, k]; exact .inl rfl
  · rw [Heap.set_other _ _ e]; exact g c
end Go.Proofs.Ytdaipgnhconfnaa
