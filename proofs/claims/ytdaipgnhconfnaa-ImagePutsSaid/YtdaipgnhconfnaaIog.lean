/- What putting a level comes to, by both (layer 8). -/
import Derived.Test.YtdaipgnhconfnaaIof
set_option linter.unusedSimpArgs false
set_option linter.unusedVariables false
set_option maxRecDepth 100000
set_option maxHeartbeats 4000000
namespace Go.Proofs.Ytdaipgnhconfnaa
open Go Go.HL Go.RowKit Pb
variable {w0 : World} {H G : Heap} {K : Value → Heap → Prop}

/-- An image made short, in a heap of its own. -/
theorem cShort {x : Im} (hx : ImOk w0 H x) (G : Heap) (K : Value → Heap → Prop) (g : Grow w0 H G)
    (h : ∀ y H' Hy, x.Short y → ImOk w0 Hy y → Grow w0 Hy H' → (∀ b, w0.heap.size ≤ b → (G b).isSome = true → Hy b = none) → (∀ b, H' b = none → Hy b = none) → Grow w0 H H' → Grow w0 G H' → K y.v H') :
    HCalls Try.prog w0 13 [x.v] G K :=
  l_short x (hx.grow g) fun y H' hE hC hg => h y H' (newHp w0 G H') hE hC.newHp.ok (newHp_grow hg) (fun b h1 h2 => by unfold newHp; rw [if_pos ⟨h1, h2⟩]) (fun b e => (newHp_grow hg).none e) (g.trans hg) hg
theorem ImC.grow {G F : Heap} {x : Im} (h : ImC w0 H G x) (g : Grow w0 G F) : ImC w0 H F x := ⟨h.bld.grow g, fun y hy => ⟨(h.lv y hy).bld.grow g, (h.lv y hy).lm, (h.lv y hy).lr, (h.lv y hy).w, (h.lv y hy).h, (h.lv y hy).by_⟩, h.lm, h.lr, h.f, h.s, h.t, h.mn, h.mg⟩
def Im0 : Im := ⟨0, none, 0, [], 0, 0, 0, 0⟩
theorem Im0_ok (w0 : World) (H G : Heap) : ImC w0 H G Im0 := ⟨Bld.none, fun y hy => by simp [Im0] at hy, Nat.zero_le _, Nat.zero_le _, by unfold I64 Im0; simp, by unfold I64 Im0; simp, by unfold I64 Im0; simp, by unfold I64 Im0; simp, by unfold I64 Im0; simp⟩
theorem hc_heap {f : FuncId} {args : List Value} (h : ∀ G, G = H → HCalls Try.prog w0 f args G K) : HCalls Try.prog w0 f args H K := h H rfl
theorem argBad_core {lv f : Int} {z z' : LvR} (h : z'.core = z.core) : argBad lv f z' ↔ argBad lv f z := by
  obtain ⟨q1, q2, q3⟩ := core_eq h
  unfold argBad
  rw [q1, q2]
theorem lenBad_core {f : Int} {z z' : LvR} (h : z'.core = z.core) : lenBad f z' ↔ lenBad f z := by
  obtain ⟨q1, q2, q3⟩ := core_eq h
  unfold lenBad
  rw [q1, q2, q3]
theorem fmtBad_eqv {x w : Im} {lv f : Int} (h : Im.Eqv x w) : fmtBad w lv f ↔ fmtBad x lv f := by
  have hl : w.ls.length = x.ls.length := by have := congrArg List.length h.ls; simpa using this
  unfold fmtBad
  rw [hl, h.f]
theorem PutE_eqv {x w : Im} {lv f e : Int} {z z' : LvR} (h : Im.Eqv x w) (hz : z'.core = z.core) (he : PutE w lv f z' e) : PutE x lv f z e := by
  have hr := right_iff h
  cases he with
  | image q => exact .image fun hh => q (hr.2 hh)
  | arg q q1 => exact .arg (hr.1 q) ((argBad_core hz).1 q1)
  | len q q1 q2 => exact .len (hr.1 q) (fun hh => q1 ((argBad_core hz).2 hh)) ((lenBad_core hz).1 q2)
  | fmt q q1 q2 q3 => exact .fmt (hr.1 q) (fun hh => q1 ((argBad_core hz).2 hh)) (fun hh => q2 ((lenBad_core hz).2 hh)) ((fmtBad_eqv h).1 q3)
theorem PutE_one {x : Im} {lv f e e' : Int} {z : LvR} (h : PutE x lv f z e) (h' : PutE x lv f z e') : e' = e := by
  cases h <;> cases h' <;> first | rfl | contradiction
/-- What putting a level comes to. -/
def QRes (x : Im) (lv f : Int) (z : LvR) (y : Im) (e : Int) : Prop := (PutE x lv f z e ∧ y = Im0) ∨ (x.right ∧ ¬ argBad lv f z ∧ ¬ lenBad f z ∧ ¬ fmtBad x lv f ∧ e = 0 ∧ PutOk x lv.toNat f z y)
theorem QRes_eqv {x w y y' : Im} {lv f e e' : Int} {z z' : LvR} (h : Im.Eqv x w) (hz : z'.core = z.core) (h1 : QRes x lv f z y e) (h2 : QRes w lv f z' y' e') : e' = e ∧ Im.Eqv y y' := by
  rcases h1 with ⟨a, rfl⟩ | ⟨a1, a2, a3, a4, rfl, a5⟩ <;> rcases h2 with ⟨p, rfl⟩ | ⟨p1, p2, p3, p4, rfl, p5⟩
  · exact ⟨PutE_one a (PutE_eqv h hz p), .refl _⟩
  · have p1 := (right_iff h).1 p1
    have p2 : ¬ argBad lv f z := fun hh => p2 ((argBad_core hz).2 hh)
    have p3 : ¬ lenBad f z := fun hh => p3 ((lenBad_core hz).2 hh)
    have p4 : ¬ fmtBad x lv f := fun hh => p4 ((fmtBad_eqv h).2 hh)
    cases a <;> contradiction
  · have p := PutE_eqv h hz p
    cases p <;> contradiction
  · exact ⟨rfl, PutOk_eqv h hz a5 p5⟩
theorem c_PutT {x : Im} (hx : ImOk w0 H x) (lv f : Int) (hf : I64 f) {z : LvR} (hz : LvOk w0 H z) (h : ∀ y e H', QRes x lv f z y e → ImC w0 H H' y → Grow w0 H H' → K (.tuple #[y.v, .int .i64 e]) H') : HCalls Try.prog w0 22 [x.v, .int .i64 lv, .int .i64 f, z.v] H K := by
  have er : ∀ e, PutE x lv f z e → HCalls Try.prog w0 22 [x.v, .int .i64 lv, .int .i64 f, z.v] H K := fun e he => c_Put_err x hx lv f z e he (h Im0 e H (.inl ⟨he, rfl⟩) (Im0_ok _ _ _) (Grow.refl _))
  by_cases hr : x.right
  · by_cases h1 : argBad lv f z
    · exact er 2 (.arg hr h1)
    · by_cases h2 : lenBad f z
      · exact er 7 (.len hr h1 h2)
      · by_cases h3 : fmtBad x lv f
        · exact er 181 (.fmt hr h1 h2 h3)
        · exact c_Put_ok x hx lv f hf z hz hr h1 h2 h3 hr.1 fun y H' a b c => h y 0 H' (.inr ⟨hr, h1, h2, h3, rfl, a⟩) b c
  · exact er 180 (.image hr)
theorem r_PutT {x : Im} (hx : ImOk w0 H x) (lv f : Int) (hf : I64 f) {z : LvR} (hz : LvOk w0 H z) (h : ∀ y e H', QRes x lv f z y e → ImC w0 H H' y → Grow w0 H H' → K (.tuple #[y.v, .int .i64 e]) H') : HCalls Try.prog w0 23 [x.v, .int .i64 lv, .int .i64 f, z.v] H K := by
  have er : ∀ e, PutE x lv f z e → HCalls Try.prog w0 23 [x.v, .int .i64 lv, .int .i64 f, z.v] H K := fun e he => r_Put_err x hx lv f z e he (h Im0 e H (.inl ⟨he, rfl⟩) (Im0_ok _ _ _) (Grow.refl _))
  by_cases hr : x.right
  · by_cases h1 : argBad lv f z
    · exact er 2 (.arg hr h1)
    · by_cases h2 : lenBad f z
      · exact er 7 (.len hr h1 h2)
      · by_cases h3 : fmtBad x lv f
        · exact er 181 (.fmt hr h1 h2 h3)
        · exact r_Put_ok x hx lv f hf z hz hr h1 h2 h3 hr.1 fun y H' a b c => h y 0 H' (.inr ⟨hr, h1, h2, h3, rfl, a⟩) b c
  · exact er 180 (.image hr)
end Go.Proofs.Ytdaipgnhconfnaa
