/- What getting and putting a piece comes to, by both (layer 8). -/
import Derived.Test.YtdaipgnhconfnaaIse
import Derived.Test.YtdaipgnhconfnaaImq
set_option linter.unusedSimpArgs false
set_option linter.unusedVariables false
set_option maxRecDepth 100000
set_option maxHeartbeats 4000000
namespace Go.Proofs.Ytdaipgnhconfnaa
open Go Go.HL Go.RowKit Pb
variable {w0 : World} {H G : Heap} {K : Value → Heap → Prop}

theorem find_cases (x : Im) (lv : Int) (p : Pc) : (∃ e, FindE x lv p e) ∨ ∃ k z, FindOk x lv p k z := by
  by_cases hr : x.right
  · by_cases h1 : lv < 0
    · exact .inl ⟨_, .low hr h1⟩
    · by_cases h2 : (x.ls.length : Int) ≤ lv
      · exact .inl ⟨_, .high hr (by omega) h2⟩
      · have hk : lv = (lv.toNat : Int) := by omega
        obtain ⟨z, ez⟩ : ∃ z, x.ls[lv.toNat]? = some z := ⟨_, List.getElem?_eq_getElem (by omega)⟩
        by_cases hn : z.nil
        · exact .inl ⟨_, .none _ z hr hk ez hn⟩
        · by_cases hp : pcIn z p
          · exact .inr ⟨_, z, hr, hk, ez, hn, hp⟩
          · exact .inl ⟨_, .arg _ z hr hk ez hn hp⟩
  · exact .inl ⟨_, .image hr⟩
def Im0 : Im := ⟨0, none, 0, [], 0, 0, 0, 0⟩
theorem Im0_ok (w0 : World) (H G : Heap) : ImC w0 H G Im0 := ⟨Bld.none, fun y hy => by simp [Im0] at hy, Nat.zero_le _, Nat.zero_le _, by unfold I64 Im0; simp, by unfold I64 Im0; simp, by unfold I64 Im0; simp, by unfold I64 Im0; simp, by unfold I64 Im0; simp⟩
theorem FindE_eqv {x w : Im} {lv e : Int} {p : Pc} (h : Im.Eqv x w) (he : FindE w lv p e) : FindE x lv p e := by
  have hr := right_iff h
  have hl : w.ls.length = x.ls.length := by have := congrArg List.length h.ls; simpa using this
  cases he with
  | image q => exact .image fun hh => q (hr.2 hh)
  | low q q1 => exact .low (hr.1 q) q1
  | high q q1 q2 => exact .high (hr.1 q) q1 (by rw [← hl]; exact q2)
  | none k z q q1 q2 q3 =>
    obtain ⟨z', e', ec⟩ := core_get h q2
    exact .none k z' (hr.1 q) q1 e' ((nil_core ec).2 q3)
  | arg k z q q1 q2 q3 q4 =>
    obtain ⟨z', e', ec⟩ := core_get h q2
    obtain ⟨c1, c2, -⟩ := core_eq ec
    exact .arg k z' (hr.1 q) q1 e' (fun hh => q3 ((nil_core ec).1 hh)) (by unfold pcIn at q4 ⊢; rw [c1, c2]; exact q4)
theorem FindOk_eqv {x w : Im} {lv : Int} {p : Pc} {k : Nat} {z : LvR} (h : Im.Eqv x w) (f : FindOk w lv p k z) : ∃ z', FindOk x lv p k z' ∧ z'.core = z.core := by
  obtain ⟨z', e', ec⟩ := core_get h f.at_
  obtain ⟨c1, c2, -⟩ := core_eq ec
  exact ⟨z', ⟨(right_iff h).1 f.r, f.e, e', fun hh => f.nn ((nil_core ec).1 hh), by have := f.pc; unfold pcIn at this ⊢; rw [c1, c2]; exact this⟩, ec⟩
theorem Find_no {x : Im} {lv e : Int} {p : Pc} {k : Nat} {z : LvR} (he : FindE x lv p e) (f : FindOk x lv p k z) : False := by
  obtain ⟨f1, f2, f3, f4, f5⟩ := f
  cases he with
  | image q => exact q f1
  | low q q1 => omega
  | high q q1 q2 => have := (List.getElem?_eq_some_iff.1 f3).1; omega
  | none k' z' q q1 q2 q3 =>
    obtain rfl : k' = k := by omega
    rw [q2] at f3
    cases f3
    exact f4 q3
  | arg k' z' q q1 q2 q3 q4 =>
    obtain rfl : k' = k := by omega
    rw [q2] at f3
    cases f3
    exact q4 f5
theorem Find_one {x : Im} {lv e e' : Int} {p : Pc} (h : FindE x lv p e) (h' : FindE x lv p e') : e' = e := by
  cases h <;> cases h' <;> first
    | rfl
    | contradiction
    | omega
    | (rename_i k z a1 a2 a3 a4 k' z' b1 b2 b3 b4 b5
       obtain rfl : k = k' := by omega
       rw [a3] at b3
       cases b3
       contradiction)
    | (rename_i k z a1 a2 a3 a4 a5 k' z' b1 b2 b3 b4
       obtain rfl : k = k' := by omega
       rw [a3] at b3
       cases b3
       contradiction)
    | (exfalso
       rename_i a1 a2 a3 k z b1 b2 b3 b4
       have := (List.getElem?_eq_some_iff.1 b3).1
       omega)
    | (exfalso
       rename_i a1 a2 a3 k z b1 b2 b3 b4 b5
       have := (List.getElem?_eq_some_iff.1 b3).1
       omega)
    | (exfalso
       rename_i k z b1 b2 b3 b4 a1 a2 a3
       have := (List.getElem?_eq_some_iff.1 b3).1
       omega)
    | (exfalso
       rename_i k z b1 b2 b3 b4 b5 a1 a2 a3
       have := (List.getElem?_eq_some_iff.1 b3).1
       omega)
theorem FindOk_one {x : Im} {lv : Int} {p : Pc} {k k' : Nat} {z z' : LvR} (f : FindOk x lv p k z) (f' : FindOk x lv p k' z') : k' = k ∧ z' = z := by
  obtain rfl : k = k' := by have := f.e; have := f'.e; omega
  have := f.at_
  rw [f'.at_] at this
  cases this
  exact ⟨rfl, rfl⟩
theorem PG_one {z z' : LvR} {f f' : Int} {p : Pc} {S W V X Y P Q S' W' V' X' Y' P' Q' : Nat} (g : PG z f p S W V X Y P Q) (g' : PG z' f' p S' W' V' X' Y' P' Q') (hc : z'.core = z.core) (hf : f' = f) : S' = S ∧ W' = W ∧ X' = X ∧ Y' = Y ∧ P' = P ∧ Q' = Q := by
  obtain ⟨c1, c2, -⟩ := core_eq hc
  have a1 := g.s
  have a2 := g'.s
  have b1 := g.w
  have b2 := g'.w
  have d1 := g.px
  have d2 := g'.px
  have e1 := g.py
  have e2 := g'.py
  have f1 := g.pw
  have f2 := g'.pw
  have h1 := g.ph
  have h2 := g'.ph
  rw [hf] at a2
  refine ⟨by omega, by omega, by omega, by omega, by omega, by omega⟩
/-- What getting a piece comes to. -/
def GRs (x : Im) (lv : Int) (p : Pc) (l : List Int) (e : Int) : Prop := (FindE x lv p e ∧ l = []) ∨ (e = 0 ∧ ∃ k z S W V X Y P Q, FindOk x lv p k z ∧ PG z x.f p S W V X Y P Q ∧ l = pieceB z.l S W X Y P Q)
/-- What putting a piece comes to. -/
def SRs (x : Im) (lv : Int) (p : Pc) (b : List Int) (y : Im) (e : Int) : Prop := (FindE x lv p e ∧ y = Im0) ∨ ∃ k z S W V X Y P Q, FindOk x lv p k z ∧ PG z x.f p S W V X Y P Q ∧ ((b.length ≠ P * Q * S ∧ e = 7 ∧ y = Im0) ∨ (b.length = P * Q * S ∧ e = 0 ∧ SubOk x k z b S W X Y P Q y))
theorem GRs_eqv {x w : Im} {lv e e' : Int} {p : Pc} {l l' : List Int} (h : Im.Eqv x w) (h1 : GRs x lv p l e) (h2 : GRs w lv p l' e') : e' = e ∧ l' = l := by
  rcases h1 with ⟨a, rfl⟩ | ⟨rfl, k, z, S, W, V, X, Y, P, Q, f, g, rfl⟩ <;> rcases h2 with ⟨a', rfl⟩ | ⟨rfl, k', z', S', W', V', X', Y', P', Q', f', g', rfl⟩
  · exact ⟨Find_one a (FindE_eqv h a'), rfl⟩
  · obtain ⟨z2, f2, -⟩ := FindOk_eqv h f'
    exact (Find_no a f2).elim
  · exact (Find_no (FindE_eqv h a') f).elim
  · obtain ⟨z2, f2, ec⟩ := FindOk_eqv h f'
    obtain ⟨rfl, rfl⟩ := FindOk_one f f2
    obtain ⟨rfl, rfl, rfl, rfl, rfl, rfl⟩ := PG_one g g' ec.symm h.f
    exact ⟨rfl, by rw [(core_eq ec).2.2]⟩
theorem SRs_eqv {x w y y' : Im} {lv e e' : Int} {p : Pc} {b : List Int} (h : Im.Eqv x w) (h1 : SRs x lv p b y e) (h2 : SRs w lv p b y' e') : e' = e ∧ Im.Eqv y y' := by
  rcases h1 with ⟨a, rfl⟩ | ⟨k, z, S, W, V, X, Y, P, Q, f, g, hh⟩ <;> rcases h2 with ⟨a', rfl⟩ | ⟨k', z', S', W', V', X', Y', P', Q', f', g', hh'⟩
  · exact ⟨Find_one a (FindE_eqv h a'), .refl _⟩
  · obtain ⟨z2, f2, -⟩ := FindOk_eqv h f'
    exact (Find_no a f2).elim
  · exact (Find_no (FindE_eqv h a') f).elim
  · obtain ⟨z2, f2, ec⟩ := FindOk_eqv h f'
    obtain ⟨rfl, rfl⟩ := FindOk_one f f2
    obtain ⟨rfl, rfl, rfl, rfl, rfl, rfl⟩ := PG_one g g' ec.symm h.f
    rcases hh with ⟨q1, rfl, rfl⟩ | ⟨q1, rfl, s1⟩ <;> rcases hh' with ⟨r1, rfl, rfl⟩ | ⟨r1, rfl, s2⟩
    · exact ⟨rfl, .refl _⟩
    · exact (q1 r1).elim
    · exact (r1 q1).elim
    · refine ⟨rfl, s2.f.trans (h.f.trans s1.f.symm), s2.s.trans (h.s.trans s1.s.symm), s2.t.trans (h.t.trans s1.t.symm), s2.mn.trans (h.mn.trans s1.mn.symm), s2.mg.trans (h.mg.trans s1.mg.symm), ?_⟩
      obtain ⟨c1, c2, c3⟩ := core_eq ec
      rw [s1.ls, s2.ls, h.ls, c1, c2, c3]
theorem c_GetT {x : Im} (hx : ImOk w0 H x) (lv : Int) (p : Pc) (h : ∀ a c l e G, GRs x lv p l e → (∀ v ∈ l, 0 ≤ v ∧ v ≤ 255) → Bld w0 H G a c 1 5 (l.map (.int .u8)) → l.length ≤ 16384 → Grow w0 H G → K (.tuple #[.slice a l.length c, .int .i64 e]) G) : HCalls Try.prog w0 36 [x.v, .int .i64 lv, p.v] H K := by
  rcases find_cases x lv p with ⟨e, he⟩ | ⟨k, z, f⟩
  · exact c_Get_err x hx lv p e he (h none 0 [] e H (.inl ⟨he, rfl⟩) (by simp) Bld.none (by decide) (Grow.refl _))
  · obtain ⟨S, W, V, X, Y, P, Q, g⟩ := pg_of f
    refine c_Get_ok x hx lv p k z f g fun a c G hB _ hg => h a c _ 0 G (.inr ⟨rfl, k, z, S, W, V, X, Y, P, Q, f, g, rfl⟩) (pieceB_by (hx.lv z (List.mem_of_getElem? f.at_)).by_ _ _ _ _ _ _) hB ?_ hg
    rw [pieceB_len Q fun j hj => (seg_b g hj).1, ← Nat.mul_assoc, Nat.mul_comm Q P]
    exact (pg_area g).2.2
theorem r_GetT {x : Im} (hx : ImOk w0 H x) (lv : Int) (p : Pc) (h : ∀ a c l e G, GRs x lv p l e → (∀ v ∈ l, 0 ≤ v ∧ v ≤ 255) → Bld w0 H G a c 1 5 (l.map (.int .u8)) → Grow w0 H G → K (.tuple #[.slice a l.length c, .int .i64 e]) G) : HCalls Try.prog w0 37 [x.v, .int .i64 lv, p.v] H K := by
  rcases find_cases x lv p with ⟨e, he⟩ | ⟨k, z, f⟩
  · exact r_Get_err x hx lv p e he (h none 0 [] e H (.inl ⟨he, rfl⟩) (by simp) Bld.none (Grow.refl _))
  · obtain ⟨S, W, V, X, Y, P, Q, g⟩ := pg_of f
    exact r_Get_ok x hx lv p k z f g fun a c G hB hg => h a c _ 0 G (.inr ⟨rfl, k, z, S, W, V, X, Y, P, Q, f, g, rfl⟩) (pieceB_by (hx.lv z (List.mem_of_getElem? f.at_)).by_ _ _ _ _ _ _) hB hg
theorem c_SubT {x : Im} (hx : ImOk w0 H x) (lv : Int) (p : Pc) {ba : Option Addr} {bc : Nat} {b : List Int} (hb : BsOk w0 H ba bc b) (h : ∀ y e H', SRs x lv p b y e → ImC w0 H H' y → Grow w0 H H' → K (.tuple #[y.v, .int .i64 e]) H') : HCalls Try.prog w0 34 [x.v, .int .i64 lv, p.v, .slice ba b.length bc] H K := by
  rcases find_cases x lv p with ⟨e, he⟩ | ⟨k, z, f⟩
  · exact c_Sub_err x hx lv p ba _ bc e he (h Im0 e H (.inl ⟨he, rfl⟩) (Im0_ok _ _ _) (Grow.refl _))
  · obtain ⟨S, W, V, X, Y, P, Q, g⟩ := pg_of f
    by_cases hn : b.length = P * Q * S
    · exact c_Sub_ok x hx lv p k z f g ba bc b hb hn fun y H' s c g' => h y 0 H' (.inr ⟨k, z, S, W, V, X, Y, P, Q, f, g, .inr ⟨hn, rfl, s⟩⟩) c g'
    · exact c_Sub_short x hx lv p k z f g ba _ bc hn (h Im0 7 H (.inr ⟨k, z, S, W, V, X, Y, P, Q, f, g, .inl ⟨hn, rfl, rfl⟩⟩) (Im0_ok _ _ _) (Grow.refl _))
theorem r_SubT {x : Im} (hx : ImOk w0 H x) (lv : Int) (p : Pc) {ba : Option Addr} {bc : Nat} {b : List Int} (hb : BsOk w0 H ba bc b) (h : ∀ y e H', SRs x lv p b y e → ImC w0 H H' y → Grow w0 H H' → K (.tuple #[y.v, .int .i64 e]) H') : HCalls Try.prog w0 35 [x.v, .int .i64 lv, p.v, .slice ba b.length bc] H K := by
  rcases find_cases x lv p with ⟨e, he⟩ | ⟨k, z, f⟩
  · exact r_Sub_err x hx lv p ba _ bc e he (h Im0 e H (.inl ⟨he, rfl⟩) (Im0_ok _ _ _) (Grow.refl _))
  · obtain ⟨S, W, V, X, Y, P, Q, g⟩ := pg_of f
    by_cases hn : b.length = P * Q * S
    · exact r_Sub_ok x hx lv p k z f g ba bc b hb hn fun y H' s c g' => h y 0 H' (.inr ⟨k, z, S, W, V, X, Y, P, Q, f, g, .inr ⟨hn, rfl, s⟩⟩) c g'
    · exact r_Sub_short x hx lv p k z f g ba _ bc hn fun G gg => h Im0 7 G (.inr ⟨k, z, S, W, V, X, Y, P, Q, f, g, .inl ⟨hn, rfl, rfl⟩⟩) (Im0_ok _ _ _) gg
end Go.Proofs.Ytdaipgnhconfnaa
