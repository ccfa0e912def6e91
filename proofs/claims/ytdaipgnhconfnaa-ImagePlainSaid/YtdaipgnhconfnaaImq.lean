/- Images that are the same but for memory; copies in a heap of their own (layer 8). -/
import Derived.Test.YtdaipgnhconfnaaImd
import Derived.Test.YtdaipgnhconfnaaHlv
set_option linter.unusedSimpArgs false
set_option linter.unusedVariables false
set_option maxRecDepth 100000
set_option maxHeartbeats 4000000
namespace Go.Proofs.Ytdaipgnhconfnaa
open Go.HL Go.RowKit Pb
variable {w0 : World} {H H' : Heap} {K : Value → Heap → Prop}

theorem core_get {x y : Im} (h : Im.Eqv x y) {k : Nat} {z : LvR} (hz : y.ls[k]? = some z) : ∃ z', x.ls[k]? = some z' ∧ z'.core = z.core := by
  have := congrArg (fun l : List (Int × Int × List Int) => l[k]?) h.ls
  simp only [List.getElem?_map, hz, Option.map_some] at this
  cases hx : x.ls[k]? with
  | none => rw [hx] at this; cases this
  | some z' => rw [hx] at this; exact ⟨z', rfl, (Option.some.inj this).symm⟩
theorem Im.Eqv.symm {x y : Im} (h : Im.Eqv x y) : Im.Eqv y x := ⟨h.f.symm, h.s.symm, h.t.symm, h.mn.symm, h.mg.symm, h.ls.symm⟩
theorem Im.Eqv.refl (x : Im) : Im.Eqv x x := ⟨rfl, rfl, rfl, rfl, rfl, rfl⟩
theorem Im.Eqv.trans {x y z : Im} (h : Im.Eqv x y) (h' : Im.Eqv y z) : Im.Eqv x z := ⟨h'.f.trans h.f, h'.s.trans h.s, h'.t.trans h.t, h'.mn.trans h.mn, h'.mg.trans h.mg, h'.ls.trans h.ls⟩
theorem Im.Eqv.len {x y : Im} (h : Im.Eqv x y) : y.ls.length = x.ls.length := by have := congrArg List.length h.ls; simpa using this
theorem core_eq {a b : LvR} (h : a.core = b.core) : a.w = b.w ∧ a.h = b.h ∧ a.l = b.l := by
  unfold LvR.core at h
  simp only [Prod.mk.injEq] at h
  exact h
theorem good_core {a b : LvR} {f : Int} (h : a.core = b.core) : a.good f ↔ b.good f := by
  obtain ⟨h1, h2, h3⟩ := core_eq h
  unfold LvR.good LvR.nil
  rw [h1, h2, h3]
theorem nil_core {a b : LvR} (h : a.core = b.core) : a.nil ↔ b.nil := by
  obtain ⟨h1, h2, h3⟩ := core_eq h
  unfold LvR.nil
  rw [h1, h2, h3]
theorem right_eqv {x y : Im} (h : Im.Eqv x y) (r : x.right) : y.right := by
  obtain ⟨r1, r2, r3, r4, r5⟩ := r
  refine ⟨by rw [h.len]; exact r1, fun e => by rw [h.f]; exact r2 (by rw [← h.len]; exact e), fun z hz => ?_, fun z hz => ?_, by rw [h.s, h.t, h.mn, h.mg]; exact r5⟩
  · obtain ⟨z', e, ec⟩ := core_get h hz
    rw [h.len] at e
    have := r3 z' e
    rw [h.f, ← nil_core ec]; exact this
  · obtain ⟨k, hk⟩ := List.mem_iff_getElem?.1 hz
    obtain ⟨z', e, ec⟩ := core_get h hk
    rw [h.f, ← good_core ec]; exact r4 z' (List.mem_of_getElem? e)
theorem right_iff {x y : Im} (h : Im.Eqv x y) : y.right ↔ x.right := ⟨right_eqv h.symm, right_eqv h⟩
/-- What came behind H, without what the call knew. -/
def newHp (w0 : World) (H H' : Heap) : Heap := fun c => if w0.heap.size ≤ c ∧ (H c).isSome = true then none else H' c
theorem newHp_grow (g : Grow w0 H H') : Grow w0 (newHp w0 H H') H' := fun c => by
  unfold newHp
  by_cases h : w0.heap.size ≤ c ∧ (H c).isSome = true
  · rw [if_pos h]; exact .inr ⟨rfl, h.1⟩
  · rw [if_neg h]; exact .inl rfl
theorem Bld.newHp {a : Option Addr} {cap sz : Nat} {ty : TypeId} {cs : List Value} (h : Bld w0 H H' a cap sz ty cs) : Bld w0 H (newHp w0 H H') a cap sz ty cs := by
  rcases h with ⟨b, z, e, h1, h2, h3, h4⟩ | h
  · refine .inl ⟨b, z, e, h1, h2, ?_, h4⟩
    unfold Go.Proofs.Ytdaipgnhconfnaa.newHp
    rw [if_neg (by rw [h2]; simp)]; exact h3
  · exact .inr h
theorem ImC.newHp {H' : Heap} {x : Im} (h : ImC w0 H H' x) : ImC w0 H (newHp w0 H H') x :=
  ⟨Bld.newHp h.bld, fun y hy => ⟨Bld.newHp (h.lv y hy).bld, (h.lv y hy).lm, (h.lv y hy).lr, (h.lv y hy).w, (h.lv y hy).h, (h.lv y hy).by_⟩, h.lm, h.lr, h.f, h.s, h.t, h.mn, h.mg⟩
/-- An image's copy, in a heap of its own. -/
theorem cCopy {x : Im} (hx : ImOk w0 H x) (G : Heap) (K : Value → Heap → Prop) (g : Grow w0 H G)
    (h : ∀ y H' Hy, Im.Eqv x y → ImOk w0 Hy y → Grow w0 Hy H' → (∀ b, w0.heap.size ≤ b → (G b).isSome = true → Hy b = none) → (∀ b, H' b = none → Hy b = none) → Grow w0 H H' → Grow w0 G H' → K y.v H') :
    HCalls Try.prog w0 14 [x.v] G K :=
  r_Copy x (hx.grow g) fun y H' hE hC hg => h y H' (newHp w0 G H') hE hC.newHp.ok (newHp_grow hg) (fun b h1 h2 => by unfold newHp; rw [if_pos ⟨h1, h2⟩]) (fun b e => (newHp_grow hg).none e) (g.trans hg) hg
end Go.Proofs.Ytdaipgnhconfnaa
