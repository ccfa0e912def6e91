/- The heap logic, part a: known blocks, what a world owns, reading and writing cells. No program is in sight. -/
import Derived.WalkKit
set_option linter.unusedSimpArgs false
set_option linter.unusedVariables false
namespace Go.HL
open Go.RowKit

/-- What a block holds: cells of a type, or another object of the model (a map, a loop). -/
inductive Kd where
  | t (ty : TypeId)
  | o (ob : Obj)
instance : Coe Nat Kd := ⟨Kd.t⟩
instance {n : Nat} : OfNat Kd n := ⟨.t n⟩
theorem Kd.t_ne {a b : TypeId} (h : a ≠ b) : Kd.t a ≠ Kd.t b := fun e => h (by injection e)
theorem Kd.o_ne {a : TypeId} {o : Obj} : Kd.o o ≠ Kd.t a := fun e => by cases e
theorem Kd.t_inj {a b : TypeId} (h : Kd.t a = Kd.t b) : a = b := by injection h
@[simp] theorem Kd.lit (n : Nat) : (OfNat.ofNat n : Kd) = Kd.t n := rfl
@[simp] theorem Kd.t_eq (a b : TypeId) : (Kd.t a = Kd.t b) = (a = b) := by simp
/-- A block that the call itself made: its type and the cells that are known of it (a first part of all). -/
structure Blk where
  ty : Kd
  cells : List Value

def Obj.live : Obj → Prop
  | .deferred _ => False
  | .cells .. => False
  | _ => True
def Blk.In (x : Blk) (o : Option Obj) : Prop := match x.ty with
  | .t ty => ∃ rest, o = some (.cells (x.cells ++ rest).toArray ty (0, 0))
  | .o ob => x.cells = [] ∧ o = some ob ∧ Obj.live ob
theorem Blk.in_cells {x : Blk} {o : Option Obj} (h : x.In o) {off : Nat} (hl : off < x.cells.length) : ∃ ty rest, x.ty = .t ty ∧ o = some (.cells (x.cells ++ rest).toArray ty (0, 0)) := by
  unfold Blk.In at h
  split at h
  · rename_i ty ht
    obtain ⟨rest, e⟩ := h
    exact ⟨ty, rest, ht, e⟩
  · rw [h.1] at hl; simp at hl
theorem Blk.in_some {x : Blk} {o : Option Obj} (h : x.In o) : ∃ ob, o = some ob := by
  unfold Blk.In at h
  split at h
  · obtain ⟨rest, e⟩ := h; exact ⟨_, e⟩
  · exact ⟨_, h.2.1⟩

abbrev Heap := Nat → Option Blk

def Heap.set (H : Heap) (b : Nat) (x : Blk) : Heap := fun k => if k = b then some x else H k

@[simp] theorem Heap.set_same (H : Heap) (b : Nat) (x : Blk) : H.set b x b = some x := by simp [Heap.set]
theorem Heap.set_other (H : Heap) {b k : Nat} (x : Blk) (h : k ≠ b) : H.set b x k = H k := by simp [Heap.set, h]
theorem Heap.set_none {H : Heap} {b k : Nat} {x : Blk} : H.set b x k = none ↔ k ≠ b ∧ H k = none := by
  unfold Heap.set; by_cases h : k = b <;> simp [h]
theorem Heap.set_set (H : Heap) (b : Nat) (x y : Blk) : (H.set b x).set b y = H.set b y := by
  funext k; unfold Heap.set; by_cases h : k = b <;> simp [h]
theorem Heap.set_comm (H : Heap) {b c : Nat} (x y : Blk) (h : b ≠ c) : (H.set b x).set c y = (H.set c y).set b x := by
  funext k; unfold Heap.set
  by_cases h1 : k = b
  · subst h1; simp [h]
  · simp [h1]
theorem Heap.set_id (H : Heap) (b : Nat) (x : Blk) (h : H b = some x) : H.set b x = H := by
  funext k; unfold Heap.set; by_cases h1 : k = b
  · subst h1; simp [h]
  · simp [h1]

/-- The world has at its beginning what w0 had, and holds the blocks of H; the marks of the loops over functions that have not ended (F) stand. -/
structure Own (w0 : World) (F : Nat → Prop) (H : Heap) (w : World) : Prop where
  below : Below w0.heap.size w0 w
  blk : ∀ b x, H b = some x → w0.heap.size ≤ b ∧ x.In w.heap[b]?
  dfr : ∀ r, F r → w.heap[r]? = some (.deferred (some []))

def Heap.Le (H H' : Heap) : Prop := ∀ b x, H b = some x → H' b = some x
theorem Heap.Le.refl (H : Heap) : Heap.Le H H := fun _ _ h => h
theorem Heap.Le.trans {A B C : Heap} (h : Heap.Le A B) (k : Heap.Le B C) : Heap.Le A C := fun b x e => k b x (h b x e)
theorem Heap.Le.set {H : Heap} {b : Nat} {x : Blk} (h : H b = none) : Heap.Le H (H.set b x) := fun c y e => by
  rw [Heap.set_other _ _ (fun hc => by subst hc; simp [h] at e)]; exact e

theorem Own.mono {w0 w : World} {F : Nat → Prop} {H H' : Heap} (h : Own w0 F H w) (hh : Heap.Le H' H) : Own w0 F H' w :=
  ⟨h.below, fun b x e => h.blk b x (hh b x e), h.dfr⟩

theorem Own.drew {w0 w : World} {F : Nat → Prop} {H : Heap} (h : Own w0 F H w) : Own w0 F H w.drew := ⟨h.below.drew, h.blk, h.dfr⟩

/-- One cell, read. -/
def rd1 (w0 : World) (H : Heap) (b off : Nat) : Option Value :=
  match H b with
  | some x => x.cells[off]?
  | none => if b < w0.heap.size then w0.cell? ⟨b, off, none⟩ else none

/-- n cells of w0, read. -/
def ron (w0 : World) (b : Nat) : Nat → Nat → Option (List Value)
  | _, 0 => some []
  | off, n + 1 => match w0.cell? ⟨b, off, none⟩, ron w0 b (off + 1) n with
    | some v, some l => some (v :: l)
    | _, _ => none

/-- n cells, read. -/
def rdn (w0 : World) (H : Heap) (b off n : Nat) : Option (List Value) :=
  match H b with
  | some x => if off + n ≤ x.cells.length then some ((x.cells.drop off).take n) else none
  | none => if b < w0.heap.size then ron w0 b off n else none

theorem ron_length {w0 : World} {b : Nat} : ∀ (n off : Nat) {cs : List Value}, ron w0 b off n = some cs → cs.length = n
  | 0, _, cs, h => by simp [ron] at h; subst h; rfl
  | n + 1, off, cs, h => by
    unfold ron at h
    split at h
    · rename_i v l _ hl
      simp at h; subst h; simp [ron_length n _ hl]
    · simp at h

theorem ron_get {w0 : World} {b : Nat} : ∀ (n off : Nat) {cs : List Value}, ron w0 b off n = some cs → ∀ i, i < n → w0.cell? ⟨b, off + i, none⟩ = cs[i]?
  | 0, _, cs, h, i, hi => by omega
  | n + 1, off, cs, h, i, hi => by
    unfold ron at h
    split at h
    · rename_i v l hv hl
      simp at h; subst h
      cases i with
      | zero => simpa using hv
      | succ i =>
        have := ron_get n (off + 1) hl i (by omega)
        rw [show off + (i + 1) = off + 1 + i by omega, this]; simp
    · simp at h

theorem Own.cell_blk {w0 w : World} {F : Nat → Prop} {H : Heap} (h : Own w0 F H w) {b off : Nat} {x : Blk} {v : Value} (e : H b = some x) (hv : x.cells[off]? = some v) :
    w.cell? ⟨b, off, none⟩ = some v := by
  have hl : off < x.cells.length := by
    rcases Nat.lt_or_ge off x.cells.length with h' | h'
    · exact h'
    · rw [List.getElem?_eq_none h'] at hv; cases hv
  obtain ⟨_, rest, _, hw⟩ := Blk.in_cells (h.blk b x e).2 hl
  simp only [World.cell?, hw]
  simp [hl] at hv ⊢
  rw [List.getElem?_append_left hl, List.getElem?_eq_getElem hl, hv]

theorem Own.frozen_blk {w0 w : World} {F : Nat → Prop} {H : Heap} (h : Own w0 F H w) {b off : Nat} {x : Blk} (e : H b = some x) (hl : off < x.cells.length) : w.frozen? ⟨b, off, none⟩ = false := by
  obtain ⟨_, rest, _, hw⟩ := Blk.in_cells (h.blk b x e).2 hl
  simp [World.frozen?, hw]

theorem Own.rd1 {w0 w : World} {F : Nat → Prop} {H : Heap} (h : Own w0 F H w) {b off : Nat} {v : Value} (e : HL.rd1 w0 H b off = some v) : w.cell? ⟨b, off, none⟩ = some v := by
  unfold HL.rd1 at e
  split at e
  · rename_i x hx; exact h.cell_blk hx e
  · split at e
    · rename_i hb; rw [h.below.cell (p := ⟨b, off, none⟩) hb]; exact e
    · cases e

theorem Own.rdn {w0 w : World} {F : Nat → Prop} {H : Heap} (h : Own w0 F H w) {b off n : Nat} {cs : List Value} (e : HL.rdn w0 H b off n = some cs) :
    cs.length = n ∧ ∀ i, i < n → w.cell? ⟨b, off + i, none⟩ = cs[i]? := by
  unfold HL.rdn at e
  split at e
  · rename_i x hx
    split at e
    · rename_i hle
      simp at e; subst e
      refine ⟨by simp; omega, fun i hi => ?_⟩
      have hlt : off + i < x.cells.length := by omega
      rw [h.cell_blk hx (v := x.cells[off + i]) (by simp [hlt])]
      rw [List.getElem?_take, if_pos hi, List.getElem?_drop, List.getElem?_eq_getElem hlt]
    · cases e
  · split at e
    · rename_i hb
      refine ⟨ron_length n off e, fun i hi => ?_⟩
      rw [h.below.cell (p := ⟨b, off + i, none⟩) hb]
      exact ron_get n off e i hi
    · cases e

theorem Addr.add_mk (b off n : Nat) : (Addr.mk b off none).add n = ⟨b, off + n, none⟩ := by
  unfold Addr.add; split
  · rename_i h; subst h; rfl
  · rfl

theorem run_loadCellsFrom {P : Program} {w : World} {b off : Nat} : ∀ (n i : Nat) (cs : List Value) (acc : Array Value), cs.length = n → (∀ j, j < n → w.cell? ⟨b, off + (i + j), none⟩ = cs[j]?) →
    (loadCellsFrom ⟨b, off, none⟩ i n acc).run P w = .ok (acc ++ cs.toArray) w
  | 0, i, cs, acc, hl, _ => by
    have : cs = [] := by simpa using hl
    subst this; simp [loadCellsFrom]
  | n + 1, i, [], acc, hl, _ => by simp at hl
  | n + 1, i, c :: cs, acc, hl, hc => by
    have h0 := hc 0 (by omega)
    simp only [Nat.add_zero, List.getElem?_cons_zero] at h0
    simp only [loadCellsFrom, Sem.run_bind, run_load, Addr.add_mk, h0, Result.andThen_ok]
    rw [run_loadCellsFrom n (i + 1) cs (acc.push c) (by simpa using hl) (fun j hj => by
      have := hc (j + 1) (by omega)
      rw [show i + 1 + j = i + (j + 1) by omega, this]; simp)]
    simp

theorem run_loadCells {P : Program} {w : World} {b off n : Nat} {cs : List Value} (hl : cs.length = n) (hc : ∀ j, j < n → w.cell? ⟨b, off + j, none⟩ = cs[j]?) :
    (loadCells ⟨b, off, none⟩ n).run P w = .ok cs.toArray w := by
  unfold loadCells
  rw [run_loadCellsFrom n 0 cs #[] hl (fun j hj => by rw [Nat.zero_add]; exact hc j hj)]
  simp

/-- A list laid over another from a place on. -/
def putAt : List Value → Nat → List Value → List Value
  | cs, _, [] => cs
  | [], _, _ => []
  | _ :: cs, 0, v :: vs => v :: putAt cs 0 vs
  | c :: cs, n + 1, vs => c :: putAt cs n vs

theorem putAt_nil (cs : List Value) (n : Nat) : putAt cs n [] = cs := by cases cs <;> simp [putAt]
theorem putAt_length : ∀ (cs : List Value) (n : Nat) (vs : List Value), (putAt cs n vs).length = cs.length
  | cs, n, [] => by rw [putAt_nil]
  | [], n, v :: vs => by cases n <;> simp [putAt]
  | c :: cs, 0, v :: vs => by simp [putAt, putAt_length cs 0 vs]
  | c :: cs, n + 1, v :: vs => by simp [putAt, putAt_length cs n (v :: vs)]
theorem putAt_one : ∀ (cs : List Value) (n : Nat) (v : Value), putAt cs n [v] = cs.set n v
  | [], n, v => by cases n <;> simp [putAt]
  | c :: cs, 0, v => by simp [putAt, putAt_nil]
  | c :: cs, n + 1, v => by simp [putAt, putAt_one cs n v]
theorem putAt_cons : ∀ (cs : List Value) (n : Nat) (v : Value) (vs : List Value), putAt cs n (v :: vs) = putAt (cs.set n v) (n + 1) vs
  | [], n, v, vs => by cases n <;> cases vs <;> simp [putAt]
  | c :: cs, 0, v, vs => by cases vs <;> simp [putAt, putAt_nil]
  | c :: cs, n + 1, v, vs => by
    rw [List.set_cons_succ]
    cases vs with
    | nil => simp [putAt, putAt_one]
    | cons u us => simp only [putAt]; rw [putAt_cons cs n v (u :: us)]

theorem Own.setCell {w0 w : World} {F : Nat → Prop} {H : Heap} (h : Own w0 F H w) {b off : Nat} {x : Blk} (e : H b = some x) (ho : off < x.cells.length) (v : Value) :
    Own w0 F (H.set b ⟨x.ty, x.cells.set off v⟩) (w.setCell ⟨b, off, none⟩ v) := by
  obtain ⟨hb, hin⟩ := h.blk b x e
  obtain ⟨ty, rest, hty, hw⟩ := Blk.in_cells hin ho
  refine ⟨h.below.setCell hb v, fun c y hy => ?_, fun r hr => ?_⟩
  · by_cases hc : c = b
    · subst hc
      rw [Heap.set_same] at hy
      obtain rfl := Option.some.inj hy
      refine ⟨hb, ?_⟩
      simp only [Blk.In, hty]
      refine ⟨rest, ?_⟩
      simp only [World.setCell, Array.getElem?_modify, if_true, hw, Option.map_some]
      simp [List.set_append, ho]
    · rw [Heap.set_other _ _ hc] at hy
      obtain ⟨h1, h2⟩ := h.blk c y hy
      refine ⟨h1, ?_⟩
      rw [Below.heap_setCell _ _ _ _ hc]; exact h2
  · have hrb : r ≠ b := fun e' => by subst e'; rw [h.dfr r hr] at hw; cases hw
    rw [Below.heap_setCell _ _ _ _ hrb]; exact h.dfr r hr

theorem run_storeCells {P : Program} {w0 : World} {F : Nat → Prop} : ∀ (vs : List Value) (w : World) (H : Heap) (b off i : Nat) (x : Blk), Own w0 F H w → H b = some x → off + i + vs.length ≤ x.cells.length →
    (∀ v ∈ vs, v.oneCell' = true) → ∃ w', (storeCells ⟨b, off, none⟩ vs i).run P w = .ok () w' ∧ Own w0 F (H.set b ⟨x.ty, putAt x.cells (off + i) vs⟩) w'
  | [], w, H, b, off, i, x, h, e, _, _ => by
    refine ⟨w, by simp [storeCells], ?_⟩
    rw [putAt_nil, Heap.set_id _ _ _ e]; exact h
  | v :: vs, w, H, b, off, i, x, h, e, hl, ho => by
    have hlt : off + i < x.cells.length := by simp at hl; omega
    have hcell : w.cell? ⟨b, off + i, none⟩ = some x.cells[off + i] := h.cell_blk e (by simp [hlt])
    have hfr : w.frozen? ⟨b, off + i, none⟩ = false := h.frozen_blk e hlt
    have h1 := h.setCell e hlt v
    obtain ⟨w', hr, h2⟩ := run_storeCells (P := P) vs (w.setCell ⟨b, off + i, none⟩ v) _ b off (i + 1) ⟨x.ty, x.cells.set (off + i) v⟩ h1 (by simp) (by simp at hl ⊢; omega) (fun u hu => ho u (by simp [hu]))
    refine ⟨w', ?_, ?_⟩
    · simp only [storeCells, Sem.run_bind, Addr.add_mk]
      rw [run_store P w _ v .plain (ho v (by simp))]
      simp only [hcell, hfr]
      simpa using hr
    · rw [Heap.set_set] at h2
      rw [putAt_cons]
      exact h2

/-- A new block, whatever it holds. -/
theorem Own.allocK {w0 w : World} {F : Nat → Prop} {H : Heap} (h : Own w0 F H w) (o : Obj) (x : Blk) (hx : x.In (some o)) : w0.heap.size ≤ w.heap.size ∧ H w.heap.size = none ∧
    Own w0 F (H.set w.heap.size x) (w.alloc o) := by
  have hsz : w0.heap.size ≤ w.heap.size := h.below.size
  have hn : H w.heap.size = none := by
    cases he : H w.heap.size with
    | none => rfl
    | some x =>
      obtain ⟨_, hw⟩ := h.blk _ x he
      obtain ⟨ob, hob⟩ := Blk.in_some hw
      simp at hob
  have hlt : ∀ {c : Nat} {ob : Obj}, w.heap[c]? = some ob → c < w.heap.size := fun {c ob} e => by
    rcases Nat.lt_or_ge c w.heap.size with h' | h'
    · exact h'
    · simp [Array.getElem?_eq_none h'] at e
  refine ⟨hsz, hn, h.below.alloc hsz _, fun c y hy => ?_, fun r hr => ?_⟩
  · by_cases hc : c = w.heap.size
    · subst hc
      rw [Heap.set_same] at hy
      obtain rfl := Option.some.inj hy
      refine ⟨hsz, ?_⟩
      show x.In (w.heap.push _)[w.heap.size]?
      simpa using hx
    · rw [Heap.set_other _ _ hc] at hy
      obtain ⟨h1, h2⟩ := h.blk c y hy
      refine ⟨h1, ?_⟩
      obtain ⟨ob, hob⟩ := Blk.in_some h2
      rw [Below.heap_alloc _ _ _ (hlt hob)]; exact h2
  · rw [Below.heap_alloc _ _ _ (hlt (h.dfr r hr))]; exact h.dfr r hr

theorem Own.alloc {w0 w : World} {F : Nat → Prop} {H : Heap} (h : Own w0 F H w) (ty : TypeId) (cs : Array Value) : w0.heap.size ≤ w.heap.size ∧ H w.heap.size = none ∧
    Own w0 F (H.set w.heap.size ⟨ty, cs.toList⟩) (w.alloc (.cells cs ty)) := h.allocK _ _ ⟨[], by simp⟩

/-- Another object, turned. -/
theorem Own.setObj {w0 w : World} {F : Nat → Prop} {H : Heap} (h : Own w0 F H w) {b : Nat} {ob : Obj} (hH : H b = some ⟨.o ob, []⟩) (o' : Obj) (hl : Obj.live o') :
    w.heap[b]? = some ob ∧ Obj.live ob ∧ Own w0 F (H.set b ⟨.o o', []⟩) { w with heap := w.heap.setIfInBounds b o' } := by
  obtain ⟨hb, -, hob, hlv⟩ := h.blk b _ hH
  have hlt : b < w.heap.size := (Array.getElem?_eq_some_iff.1 hob).1
  refine ⟨hob, hlv, ?_, fun c y hy => ?_, fun r hr => ?_⟩
  · have hbl := h.below
    refine ⟨hbl.os, hbl.tape, hbl.output, by simpa using hbl.size, fun k hk => ?_⟩
    rw [← hbl.block k hk]
    show (w.heap.setIfInBounds b o')[k]? = _
    rw [Array.getElem?_setIfInBounds_ne (by omega)]
  · by_cases hc : c = b
    · subst hc
      rw [Heap.set_same] at hy
      obtain rfl := Option.some.inj hy
      refine ⟨hb, rfl, ?_, hl⟩
      show (w.heap.setIfInBounds c o')[c]? = _
      simp [hlt]
    · rw [Heap.set_other _ _ hc] at hy
      obtain ⟨h1, h2⟩ := h.blk c y hy
      refine ⟨h1, ?_⟩
      show y.In (w.heap.setIfInBounds b o')[c]?
      rw [Array.getElem?_setIfInBounds_ne (Ne.symm hc)]; exact h2
  · have hrb : r ≠ b := fun e' => by subst e'; rw [h.dfr r hr] at hob; cases hob; exact hlv
    show (w.heap.setIfInBounds b o')[r]? = _
    rw [Array.getElem?_setIfInBounds_ne (Ne.symm hrb)]; exact h.dfr r hr

end Go.HL
