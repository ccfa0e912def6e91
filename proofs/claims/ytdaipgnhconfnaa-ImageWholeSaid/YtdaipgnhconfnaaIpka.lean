/- What making the levels comes to, and by the program (layer 8). -/
import Derived.Test.YtdaipgnhconfnaaIph
import Derived.Test.YtdaipgnhconfnaaInk
set_option linter.unusedSimpArgs false
set_option linter.unusedVariables false
set_option maxRecDepth 100000
set_option maxHeartbeats 4000000
namespace Go.Proofs.Ytdaipgnhconfnaa
open Go Go.HL Go.RowKit Pb
variable {w0 : World} {H G : Heap} {K : Value → Heap → Prop}

theorem cShort {x : Im} (hx : ImOk w0 H x) (G : Heap) (K : Value → Heap → Prop) (g : Grow w0 H G)
    (h : ∀ y H' Hy, x.Short y → ImOk w0 Hy y → Grow w0 Hy H' → (∀ b, w0.heap.size ≤ b → (G b).isSome = true → Hy b = none) → (∀ b, H' b = none → Hy b = none) → Grow w0 H H' → Grow w0 G H' → K y.v H') :
    HCalls Try.prog w0 13 [x.v] G K :=
  l_short x (hx.grow g) fun y H' hE hC hg => h y H' (newHp w0 G H') hE hC.newHp.ok (newHp_grow hg) (fun b h1 h2 => by unfold newHp; rw [if_pos ⟨h1, h2⟩]) (fun b e => (newHp_grow hg).none e) (g.trans hg) hg
theorem ImC.grow {G F : Heap} {x : Im} (h : ImC w0 H G x) (g : Grow w0 G F) : ImC w0 H F x := ⟨h.bld.grow g, fun y hy => ⟨(h.lv y hy).bld.grow g, (h.lv y hy).lm, (h.lv y hy).lr, (h.lv y hy).w, (h.lv y hy).h, (h.lv y hy).by_⟩, h.lm, h.lr, h.f, h.s, h.t, h.mn, h.mg⟩
def Im0 : Im := ⟨0, none, 0, [], 0, 0, 0, 0⟩
theorem Im0_ok (w0 : World) (H G : Heap) : ImC w0 H G Im0 := ⟨Bld.none, fun y hy => by simp [Im0] at hy, Nat.zero_le _, Nat.zero_le _, by unfold I64 Im0; simp, by unfold I64 Im0; simp, by unfold I64 Im0; simp, by unfold I64 Im0; simp, by unfold I64 Im0; simp⟩
theorem hc_heap {f : FuncId} {args : List Value} (h : ∀ G, G = H → HCalls Try.prog w0 f args G K) : HCalls Try.prog w0 f args H K := h H rfl
def genP (x : Im) : Prop := x.right ∧ ∃ z, x.ls[0]? = some z ∧ ¬ z.nil ∧ powP z.w ∧ powP z.h
theorem GenE_eqv {x w : Im} {e : Int} (h : Im.Eqv x w) (he : GenE w e) : GenE x e := by
  have hr := right_iff h
  cases he with
  | image q => exact .image fun hh => q (hr.2 hh)
  | empty q q1 => exact .empty (hr.1 q) (by rw [← h.len]; exact q1)
  | none z q q1 q2 =>
    obtain ⟨z', a1, a2⟩ := core_get h q1
    exact .none z' (hr.1 q) a1 ((nil_core a2).2 q2)
  | arg z q q1 q2 q3 =>
    obtain ⟨z', a1, a2⟩ := core_get h q1
    obtain ⟨b1, b2, -⟩ := core_eq a2
    exact .arg z' (hr.1 q) a1 (fun hh => q2 ((nil_core a2).1 hh)) (by rw [b1, b2]; exact q3)
theorem GenE_not {x : Im} {e : Int} (he : GenE x e) (h : genP x) : False := by
  obtain ⟨p, z, p1, p2, p3, p4⟩ := h
  cases he with
  | image q => exact q p
  | empty q q1 => have := (List.getElem?_eq_some_iff.1 p1).1; omega
  | none z' q q1 q2 => rw [p1] at q1; cases q1; exact p2 q2
  | arg z' q q1 q2 q3 => rw [p1] at q1; cases q1; exact q3 ⟨p3, p4⟩
theorem GenE_one {x : Im} {e e' : Int} (h : GenE x e) (h' : GenE x e') : e' = e := by
  cases h with
  | image q => cases h' <;> first | rfl | contradiction
  | empty q q1 =>
    cases h' with
    | image r => contradiction
    | empty r r1 => rfl
    | none z r r1 r2 => rfl
    | arg z r r1 r2 r3 => have := (List.getElem?_eq_some_iff.1 r1).1; omega
  | none z q q1 q2 =>
    cases h' with
    | image r => contradiction
    | empty r r1 => rfl
    | none z r r1 r2 => rfl
    | arg z r r1 r2 r3 => rw [q1] at r1; cases r1; contradiction
  | arg z q q1 q2 q3 =>
    cases h' with
    | image r => contradiction
    | empty r r1 => have := (List.getElem?_eq_some_iff.1 q1).1; omega
    | none z r r1 r2 => rw [q1] at r1; cases r1; contradiction
    | arg z r r1 r2 r3 => rfl
theorem genP_eqv {x w : Im} (h : Im.Eqv x w) (hp : genP w) : genP x := by
  obtain ⟨p, z, p1, p2, p3, p4⟩ := hp
  obtain ⟨z', a1, a2⟩ := core_get h p1
  obtain ⟨b1, b2, -⟩ := core_eq a2
  exact ⟨(right_iff h).1 p, z', a1, fun hh => p2 ((nil_core a2).1 hh), by rw [b1]; exact p3, by rw [b2]; exact p4⟩
/-- What making the levels comes to. -/
def GRes (x y : Im) (e : Int) : Prop := (GenE x e ∧ y = Im0) ∨ (genP x ∧ e = 0 ∧ GenOk x y)
theorem GRes_eqv {x w y y' : Im} {e e' : Int} (h : Im.Eqv x w) (h1 : GRes x y e) (h2 : GRes w y' e') : e' = e ∧ Im.Eqv y y' := by
  rcases h1 with ⟨a, rfl⟩ | ⟨a, rfl, a1⟩ <;> rcases h2 with ⟨p, rfl⟩ | ⟨p, rfl, p1⟩
  · exact ⟨GenE_one a (GenE_eqv h p), .refl _⟩
  · exact (GenE_not a (genP_eqv h p)).elim
  · exact (GenE_not (GenE_eqv h p) a).elim
  · refine ⟨rfl, ?_⟩
    obtain ⟨z, z1, z2⟩ := a1.ls
    obtain ⟨u, u1, u2⟩ := p1.ls
    obtain ⟨v, v1, v2⟩ := core_get h u1
    rw [z1] at v1
    cases v1
    exact ⟨by rw [p1.f, a1.f, h.f], by rw [p1.s, a1.s, h.s], by rw [p1.t, a1.t, h.t], by rw [p1.mn, a1.mn, h.mn], by rw [p1.mg, a1.mg, h.mg], by rw [u2, z2, h.f, v2]⟩
theorem gen_cases (x : Im) : genP x ∨ ∃ e, GenE x e := by
  by_cases hr : x.right
  · rcases Nat.eq_zero_or_pos x.ls.length with h0 | h0
    · exact .inr ⟨_, .empty hr h0⟩
    · obtain ⟨z, ez⟩ : ∃ z, x.ls[0]? = some z := ⟨_, List.getElem?_eq_getElem h0⟩
      by_cases hn : z.nil
      · exact .inr ⟨_, .none z hr ez hn⟩
      · by_cases hp : powP z.w ∧ powP z.h
        · exact .inl ⟨hr, z, ez, hn, hp⟩
        · exact .inr ⟨_, .arg z hr ez hn hp⟩
  · exact .inr ⟨_, .image hr⟩
theorem c_GenT {x : Im} (hx : ImOk w0 H x) (h : ∀ y e H', GRes x y e → ImC w0 H H' y → Grow w0 H H' → K (.tuple #[y.v, .int .i64 e]) H') : HCalls Try.prog w0 15 [x.v] H K := by
  rcases gen_cases x with hp | ⟨e, he⟩
  · obtain ⟨hr, z, ez, hn, p1, p2⟩ := hp
    exact c_Gen_ok x hx z hr ez hn p1 p2 fun y H' a b c => h y 0 H' (.inr ⟨⟨hr, z, ez, hn, p1, p2⟩, rfl, a⟩) b c
  · exact c_Gen_err x hx e he (h Im0 e H (.inl ⟨he, rfl⟩) (Im0_ok _ _ _) (Grow.refl _))
end Go.Proofs.Ytdaipgnhconfnaa
