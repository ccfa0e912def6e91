/- The heap logic, part u: a cut behind any code: what stands behind is proved once. -/
import Derived.Test.YtokjajfojjibcaaHlt
set_option linter.unusedSimpArgs false
set_option linter.unusedVariables false
namespace Go.HL
open Go.RowKit
variable {P : Program} {w0 : World} {fin : List Value → Heap → Prop}

theorem exit_cut {id : Nat} {Φ : List Value → Heap → Prop} {k : List It} : ∀ (its k1 : List It), exitIt id (its ++ [.chk Φ]) = some k1 → ∃ k2, k1 = k2 ++ [.chk Φ] ∧ exitIt id (its ++ k) = some (k2 ++ k)
  | [], k1, h => by simp [exitIt] at h
  | it :: its, k1, h => by
    have ih := exit_cut (id := id) (Φ := Φ) (k := k) its k1
    cases it <;> simp only [List.cons_append, exitIt] at h ⊢ <;> try exact ih h
    split at h
    · rename_i e
      cases h
      exact ⟨its, rfl, by rw [if_pos e]⟩
    · rename_i e
      rw [if_neg e]
      exact ih h
/-- Behind code: all of it comes to Φ, and from Φ it goes on. -/
theorem run_cut {Φ : List Value → Heap → Prop} {k : List It} {m : Nat} (hΦ : ∀ T H, Φ T H → ∀ n, m ≤ n → run P w0 fin n k T H) :
    ∀ (n : Nat) (its : List It) (T : List Value) (H : Heap), run P w0 fin n (its ++ [.chk Φ]) T H → ∀ n', n + m ≤ n' → run P w0 fin n' (its ++ k) T H
  | 0, _, _, _, h, _, _ => h.elim
  | n + 1, its, T, H, h, 0, hn => by omega
  | n + 1, its, T, H, h, n' + 1, hn => by
    have ih : ∀ (its : List It) (T : List Value) (H : Heap), run P w0 fin n (its ++ [.chk Φ]) T H → run P w0 fin n' (its ++ k) T H := fun its T H h => run_cut hΦ n its T H h n' (by omega)
    have lq : ∀ (c : MC) (its : List It) (T : List Value) (H : Heap), LoopQ (run P w0 fin n) c (its ++ [.chk Φ]) T H → LoopQ (run P w0 fin n') c (its ++ k) T H := fun c its T H h => by
      rcases h with ⟨I, h0, h1⟩ | h
      · exact .inl ⟨I, h0, fun z T H hi => ih (.code c :: .chk (fun T' H' => ∃ z' G, z' < z ∧ Heap.Le G H' ∧ I z' T' G) :: its) T H (h1 z T H hi)⟩
      · exact .inr (ih (.code c :: .lp c :: its) T H h)
    have kk : ∀ (st : List It) (T : List Value) (d : Option Tmp) (op : MO) (H : Heap), mwp P w0 op T H (KK (run P w0 fin n) (st ++ [.chk Φ]) T d) → mwp P w0 op T H (KK (run P w0 fin n') (st ++ k) T d) := fun st T d op H h => mwp_mono (fun v H h => ih st _ _ h) h
    have gs : ∀ (v : Value) (want : Bool) (o : MOp) (st : List It) (T : List Value) (H : Heap), gS P w0 (run P w0 fin n) v want o (st ++ [.chk Φ]) T H → gS P w0 (run P w0 fin n') v want o (st ++ k) T H := fun v want o st T H h => by
      unfold gS at h ⊢
      split
      · exact ⟨fun e => kk st T o.dst o.op H (h.1 e), fun e => ih st _ _ (h.2 e)⟩
      · rename_i hv
        cases v <;> first | exact ih st _ _ h | exact (hv _ rfl).elim
    show step P w0 fin (run P w0 fin n') (its ++ k) T H
    have h' : step P w0 fin (run P w0 fin n) (its ++ [.chk Φ]) T H := h
    cases its with
    | nil =>
      have h2 : Φ T H := h'
      exact hΦ T H h2 (n' + 1) (by omega)
    | cons it its =>
      simp only [List.cons_append] at h' ⊢
      cases it with
      | blk id => simp only [step] at h' ⊢; exact ih its T H h'
      | scp => simp only [step] at h' ⊢; exact ih its T H h'
      | chk Φ' => simp only [step] at h' ⊢; exact h'
      | lp c => simp only [step] at h' ⊢; exact lq c its T H h'
      | ops l =>
        cases l with
        | nil => simp only [step] at h' ⊢; exact ih its T H h'
        | cons o l =>
          obtain ⟨d, op, g⟩ := o
          cases g with
          | none => simp only [step] at h' ⊢; exact kk (.ops l :: its) T d op H h'
          | some g => simp only [step] at h' ⊢; exact gs _ _ _ (.ops l :: its) T H h'
      | pl H0 l =>
        cases l with
        | nil => simp only [step] at h' ⊢; exact ih its T H h'
        | cons o l =>
          obtain ⟨fl, hd, d, op, g⟩ := o
          cases g with
          | none => simp only [step] at h' ⊢; exact plQ_mono (fun T H h => ih (.pl H0 l :: its) T H h) h'
          | some g => simp only [step] at h' ⊢; exact gP_mono (fun T H h => ih (.pl H0 l :: its) T H h) h'
      | pt H0 t =>
        cases t with
        | nil => simp only [step] at h' ⊢; exact ih its T H h'
        | one fl hd o t =>
          obtain ⟨d, op, g⟩ := o
          cases g with
          | none => simp only [step] at h' ⊢; exact plQ_mono (fun T H h => ih (.pt H0 t :: its) T H h) h'
          | some g => simp only [step] at h' ⊢; exact gP_mono (fun T H h => ih (.pt H0 t :: its) T H h) h'
        | alt a b => simp only [step] at h' ⊢; exact ⟨ih (.pt H0 a :: its) T H h'.1, ih (.pt H0 b :: its) T H h'.2⟩
      | code c =>
        cases c with
        | skip => simp only [step] at h' ⊢; exact ih its T H h'
        | reg l => simp only [step] at h' ⊢; exact ih (.ops l :: its) T H h'
        | any l => simp only [step] at h' ⊢; exact ih (.pl H l :: its) T H h'
        | seq a b => simp only [step] at h' ⊢; exact ih (.code a :: .code b :: its) T H h'
        | cond c a b =>
          simp only [step] at h' ⊢
          unfold condS at h' ⊢
          split
          · rename_i b' hb
            rw [hb] at h'
            exact ⟨fun e => ih (.code a :: its) T H (h'.1 e), fun e => ih (.code b :: its) T H (h'.2 e)⟩
          · rename_i hv
            split at h'
            · rename_i b' hb; exact (hv _ hb).elim
            · exact h'
        | block id c => simp only [step] at h' ⊢; exact ih (.code c :: .blk id :: its) T H h'
        | loop c => simp only [step] at h' ⊢; exact lq c its T H h'
        | exit id =>
          simp only [step] at h' ⊢
          obtain ⟨k1, e1, h1⟩ := optQ_some h'
          obtain ⟨k2, rfl, e2⟩ := exit_cut (k := k) its k1 e1
          rw [e2]
          exact ih k2 T H h1
        | ret => simp only [step] at h' ⊢; exact h'
        | scope c => simp only [step] at h' ⊢; exact ih (.code c :: .scp :: its) T H h'
        | alts t => simp only [step] at h' ⊢; exact ih (.pt H t :: its) T H h'
/-- The same, where it meets in the first p values and a heap. -/
theorem cut_g {S : Type} (p : Nat) (w : S → List (Nat × Value)) (hp : S → Heap) (ok : S → Prop) (n m : Nat) {n' : Nat} (its : List It) {k : List It} {T : List Value} {H : Heap} (h : run P w0 fin n (its ++ [.chk (Meet T p w hp ok)]) T H)
    (body : ∀ s f, ok s → run P w0 fin m k ((sts T (w s)).take p ++ mkT f (T.drop p).length 0) (hp s)) (hn : n + m ≤ n') : run P w0 fin n' (its ++ k) T H := by
  refine run_cut (Φ := Meet T p w hp ok) (m := m) (fun T' H' ⟨s, he, hl, hH, hok⟩ n hn => run_le hn ?_) n its T H h n' hn
  subst hH
  obtain ⟨f, hf⟩ := mkT_ex (T'.drop p) 0
  have := body s f hok
  rw [← he, ← hl, ← hf, List.take_append_drop] at this
  exact this
theorem cut_loop {S : Type} (p : Nat) (w : S → List (Nat × Value)) (hp : S → Heap) (ok : S → Prop) (n m : Nat) {n' id : Nat} {c : MC} {k : List It} {T : List Value} {H : Heap} (h : LoopQ (run P w0 fin n) c [.blk id, .chk (Meet T p w hp ok)] T H)
    (body : ∀ s f, ok s → run P w0 fin m k ((sts T (w s)).take p ++ mkT f (T.drop p).length 0) (hp s)) (hn : n + m ≤ n') : LoopQ (run P w0 fin n') c (.blk id :: k) T H := by
  have := cut_g (P := P) (w0 := w0) (fin := fin) p w hp ok (n + 1) m (n' := n' + 1) [.lp c, .blk id] (k := k) (T := T) (H := H) h body (by omega)
  exact this
end Go.HL
