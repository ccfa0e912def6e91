/- The heap logic, part t: a cut behind drawn orders. -/
import Derived.Test.YtdmnfaefakceiaaGreatHlv
set_option linter.unusedSimpArgs false
set_option linter.unusedVariables false
namespace Go.HL
open Go.RowKit
variable {P : Program} {w0 : World}
theorem optQ_mono {α : Type} {o : Option α} {φ φ' : α → Prop} (hφ : ∀ v, φ v → φ' v) (h : optQ o φ) : optQ o φ' := by
  cases o with
  | none => exact h
  | some v => exact hφ _ h
section
variable {φ φ' : Value → Prop} (hφ : ∀ v, φ v → φ' v)
include hφ
theorem binQ_mono {op : BinOp} {x y : Value} : binQ op x y φ → binQ op x y φ' := by
  unfold binQ
  split <;> intro h <;> first | exact h.elim | exact ⟨h.1, hφ _ h.2⟩ | exact ⟨h.1, h.2.1, hφ _ h.2.2⟩
theorem pickQ_mono {v a b : Value} : PickQ v φ a b → PickQ v φ' a b := by
  unfold PickQ
  split <;> intro h <;> first | exact h.elim | exact ⟨fun e => hφ _ (h.1 e), fun e => hφ _ (h.2 e)⟩
theorem ld1Q_mono {H : Heap} {v : Value} : ld1Q w0 H φ v → ld1Q w0 H φ' v := by
  unfold ld1Q
  split <;> intro h <;> first | exact h.elim | exact optQ_mono hφ h
theorem ldnQ_mono {H : Heap} {n : Nat} {v : Value} : ldnQ w0 H φ n v → ldnQ w0 H φ' n v := by
  unfold ldnQ
  split <;> intro h <;> first | exact h.elim | exact optQ_mono (fun _ => hφ _) h
theorem qv_mono {mo : MO} {T : List Value} {H : Heap} : qv P w0 mo T H φ → qv P w0 mo T H φ' := by
  unfold qv
  cases mo <;> simp only <;> intro h
  all_goals first
    | exact h.elim
    | exact hφ _ h
    | exact binQ_mono hφ h
    | exact pickQ_mono hφ h
    | exact ld1Q_mono hφ h
    | exact ldnQ_mono hφ h
    | exact optQ_mono (fun _ => hφ _) h
    | (revert h; unfold nilQ; split <;> intro h <;> first | exact h.elim | exact hφ _ h)
    | (revert h; unfold eqbQ; split <;> intro h <;> first | exact h.elim | exact hφ _ h)
    | (revert h; unfold eqpQ; split <;> intro h <;> first | exact h.elim | exact hφ _ h)
    | (revert h; unfold eqsQ; split <;> intro h <;> first | exact h.elim | exact hφ _ h)
    | (revert h; unfold eqmQ; split <;> intro h <;> first | exact h.elim | exact hφ _ h)
    | (revert h; unfold eqaQ; split <;> intro h <;> first | exact h.elim | exact ⟨h.1, h.2.1, optQ_mono (fun _ => hφ _) h.2.2⟩)
    | (revert h; unfold unQ; split <;> intro h <;> first | exact h.elim | exact hφ _ h)
    | (revert h; unfold convQ; split <;> intro h <;> first | exact h.elim | exact hφ _ h)
    | (revert h; unfold faQ; split <;> intro h <;> first | exact h.elim | exact hφ _ h)
    | (revert h; unfold f1Q; split <;> intro h <;> first | exact h.elim | exact optQ_mono hφ h)
    | (revert h; unfold fmQ; split <;> intro h <;> first | exact h.elim | exact hφ _ h)
    | (revert h; unfold iaQ; split <;> intro h <;> first | exact h.elim | exact ⟨h.1, h.2.1, hφ _ h.2.2⟩)
    | (revert h; unfold isQ; split <;> intro h <;> first | exact h.elim | exact ⟨h.1, h.2.1, hφ _ h.2.2⟩)
    | (revert h; unfold ixQ; split <;> intro h <;> first | exact h.elim | exact ⟨h.1, h.2.1, optQ_mono hφ h.2.2⟩)
    | (revert h; unfold ixmQ; split <;> intro h <;> first | exact h.elim | exact ⟨h.1, h.2.1, hφ _ h.2.2⟩)
    | (revert h; unfold slcQ; split <;> intro h <;> first | exact h.elim | exact hφ _ h | exact ⟨h.1, h.2.1, hφ _ h.2.2⟩ | exact ⟨h.1, h.2.1, h.2.2.1, hφ _ h.2.2.2⟩)
    | (revert h; unfold slc3Q; split <;> intro h <;> first | exact h.elim | exact ⟨h.1, h.2.1, h.2.2.1, hφ _ h.2.2.2⟩)
    | (revert h; unfold slaQ; split <;> intro h <;> first | exact h.elim | exact hφ _ h | exact ⟨h.1, h.2.1, hφ _ h.2.2⟩ | exact ⟨h.1, h.2.1, h.2.2.1, hφ _ h.2.2.2⟩)
    | (revert h; unfold extQ; split <;> intro h <;> first | exact h.elim | exact optQ_mono hφ h)
    | (revert h; unfold lenQ; split <;> intro h <;> first | exact h.elim | exact hφ _ h)
    | (revert h; unfold lensQ; split <;> intro h <;> first | exact h.elim | exact hφ _ h)
    | (revert h; unfold bstrQ; split <;> intro h <;> first | exact h.elim | (split at h; (rw [if_pos (by assumption)]; exact hφ _ h); (rw [if_neg (by assumption)]; revert h; split <;> intro h <;> first | exact h.elim | exact optQ_mono (fun _ => optQ_mono (fun _ => hφ _)) h)))
    | (revert h; unfold eqstQ; split <;> intro h <;> first | exact h.elim | exact hφ _ h)
    | (revert h; unfold capQ; split <;> intro h <;> first | exact h.elim | exact hφ _ h)
    | (revert h; unfold mnQ; split <;> intro h <;> first | exact h.elim | exact hφ _ h)
    | (revert h; unfold mxQ; split <;> intro h <;> first | exact h.elim | exact hφ _ h)
    | (revert h; unfold ixsQ; split <;> intro h <;> first | exact h.elim | exact ⟨h.1, optQ_mono (fun _ => hφ _) h.2⟩)
    | (revert h; unfold add64Q; split <;> intro h <;> first | exact h.elim | exact ⟨h.1, h.2.1, h.2.2.1, h.2.2.2.1, hφ _ h.2.2.2.2⟩)
    | (revert h; unfold lkpQ; split <;> intro h <;> first | exact h.elim | exact ⟨h.1, hφ _ h.2⟩ | exact optQ_mono (fun _ h => ⟨h.1, fun e he hk => hφ _ (h.2.1 e he hk), fun hn => hφ _ (h.2.2 hn)⟩) h)
    | (revert h; unfold lenmQ; split <;> intro h <;> first | exact h.elim | exact hφ _ h | exact optQ_mono (fun _ h => hφ _ h) h)
end
section
variable {K K' : Value → Heap → Prop} (hK : ∀ v H, K v H → K' v H)
include hK
theorem alloc_mono {H : Heap} {v : Nat → Value} {ty : TypeId} {cs : List Value} (h : AllocQ w0 H K v ty cs) : AllocQ w0 H K' v ty cs := fun b h1 h2 => hK _ _ (h b h1 h2)
theorem lay_mono {H : Heap} {v : Value} {a : Option Addr} {off : Nat} {vs : List Value} : layQ H (K v) a off vs → layQ H (K' v) a off vs := by
  unfold layQ
  split
  · exact hK _ _
  · split <;> intro h
    · exact optQ_mono (fun _ h => ⟨h.1, h.2.1, hK _ _ h.2.2⟩) h
    · exact h.elim
theorem mwp_mono {mo : MO} {T : List Value} {H : Heap} (h : mwp P w0 mo T H K) : mwp P w0 mo T H K' := by
  have hq : qv P w0 mo T H (fun v => K v H) → qv P w0 mo T H (fun v => K' v H) := qv_mono (fun v => hK v H)
  revert h
  unfold mwp
  split <;> intro h
  all_goals first
    | exact alloc_mono hK h
    | exact optQ_mono (fun _ h => alloc_mono hK h) h
    | exact HCalls.mono h hK
    | exact hq h
    | (revert h; unfold st1Q; split <;> intro h <;> first | exact h.elim | exact optQ_mono (fun _ h => ⟨h.1, h.2.1, hK _ _ h.2.2⟩) h)
    | (revert h; unfold stnQ; split <;> intro h <;> first | exact h.elim | exact optQ_mono (fun _ h => ⟨h.1, h.2.1, h.2.2.1, hK _ _ h.2.2.2⟩) h)
    | (revert h; unfold callvQ; split <;> intro h <;> first | exact h.elim | exact HCalls.mono h hK)
    | (revert h; unfold appQ; split <;> intro h <;> first | exact h.elim | exact ⟨h.1, h.2.1, optQ_mono (fun _ h => ⟨fun e => lay_mono hK (h.1 e), fun e => optQ_mono (fun _ h c h1 h2 => alloc_mono hK (h c h1 h2)) (h.2 e)⟩) h.2.2⟩)
    | (revert h; unfold appzQ; split <;> intro h <;> first | exact h.elim | exact ⟨h.1, h.2.1, h.2.2.1, fun e => lay_mono hK (h.2.2.2.1 e), fun e => optQ_mono (fun _ h c h1 h2 => alloc_mono hK (h c h1 h2)) (h.2.2.2.2 e)⟩)
    | (revert h; unfold mksQ; split <;> intro h <;> first | exact h.elim | exact ⟨h.1, h.2.1, h.2.2.1, h.2.2.2.1, alloc_mono hK h.2.2.2.2⟩)
    | (revert h; unfold mnzQ; split <;> intro h <;> first | exact h.elim | exact ⟨h.1, h.2.1, fun cs h1 h2 => alloc_mono hK (h.2.2 cs h1 h2)⟩)
    | (revert h; unfold clrQ; split <;> intro h <;> first | exact h.elim | exact lay_mono hK h)
    | (revert h; unfold cpyQ; split <;> intro h <;> first | exact h.elim | exact optQ_mono (fun _ h => lay_mono hK h) h)
    | (revert h; unfold yvQ; split <;> intro h <;> first | exact h.elim | exact HCalls.mono h hK | exact HRound.mono h hK)
    | exact fun b h1 h2 => hK _ _ (h b h1 h2)
    | (revert h; unfold mupQ; split <;> intro h <;> first | exact h.elim | exact optQ_mono (fun _ h => ⟨h.1, fun j e h1 h2 => hK _ _ (h.2.1 j e h1 h2), fun hn => hK _ _ (h.2.2 hn)⟩) h)
    | (revert h; unfold delQ; split <;> intro h <;> first | exact h.elim | exact optQ_mono (fun _ h => ⟨h.1, fun j e h1 h2 => hK _ _ (h.2.1 j e h1 h2), fun hn => hK _ _ (h.2.2 hn)⟩) h)
    | (revert h; unfold rngQ; split <;> intro h <;> first | exact h.elim | exact fun b h1 h2 => hK _ _ (h b h1 h2) | exact optQ_mono (fun _ h b h1 h2 => hK _ _ (h b h1 h2)) h)
    | (revert h; unfold nxtQ; split <;> intro h <;> first | exact h.elim | (split at h <;> first | exact h.elim | exact hK _ _ h | (exact optQ_mono (fun _ h => ⟨h.1, h.2.1, fun e h1 h2 => hK _ _ (h.2.2.1 e h1 h2), fun hn => hK _ _ (h.2.2.2 hn)⟩) h)))
end
section
variable {fin : List Value → Heap → Prop} {rec rec' : List It → List Value → Heap → Prop}
theorem plQ_mono {fl : Bool} {i : Nat} {ds : List Nat} {Hs : Nat → Heap} {o : MOp} {k k' : List It} {T : List Value} {H : Heap} (hr : ∀ T H, rec k T H → rec' k' T H) (h : plQ P w0 rec fl i ds Hs o k T H) : plQ P w0 rec' fl i ds Hs o k' T H := by
  unfold plQ at h ⊢
  cases fl with
  | true => exact qv_mono (fun v h => hr _ _ h) h
  | false => exact mwp_mono (fun v H h => ⟨h.1, hr _ _ h.2⟩) h
theorem gP_mono {v : Value} {want fl : Bool} {i : Nat} {ds : List Nat} {Hs : Nat → Heap} {o : MOp} {k k' : List It} {T : List Value} {H : Heap} (hr : ∀ T H, rec k T H → rec' k' T H) (h : gP P w0 rec v want fl i ds Hs o k T H) : gP P w0 rec' v want fl i ds Hs o k' T H := by
  unfold gP at h ⊢
  split
  · exact ⟨fun e => plQ_mono hr (h.1 e), fun e => hr _ _ (h.2 e)⟩
  · rename_i hv
    cases v <;> first | exact hr _ _ h | exact (hv _ rfl).elim
/-- Behind drawn orders: all of them come to Φ, and from Φ it goes on. -/
theorem pt_cut {Φ : List Value → Heap → Prop} {k : List It} {m : Nat} (hΦ : ∀ T H, Φ T H → ∀ n, m ≤ n → run P w0 fin n k T H) :
    ∀ (n : Nat) (H0 : Nat → Heap) (t : PT) (T : List Value) (H : Heap), run P w0 fin n [.pt H0 t, .chk Φ] T H → ∀ n', n + m ≤ n' → run P w0 fin n' (.pt H0 t :: k) T H
  | 0, _, _, _, _, h, _, _ => h.elim
  | n + 1, H0, t, T, H, h, 0, hn => by omega
  | n + 1, H0, t, T, H, h, n' + 1, hn => by
    have ih := pt_cut hΦ n
    show step P w0 fin (run P w0 fin n') (.pt H0 t :: k) T H
    have h' : step P w0 fin (run P w0 fin n) [.pt H0 t, .chk Φ] T H := h
    cases t with
    | nil =>
      simp only [step] at h' ⊢
      cases n with
      | zero => exact h'.elim
      | succ n =>
        have h2 : Φ T H := h'
        exact hΦ T H h2 n' (by omega)
    | one fl i ds o t =>
      obtain ⟨d, op, g⟩ := o
      cases g with
      | none =>
        simp only [step] at h' ⊢
        exact plQ_mono (fun T H h => ih H0 t T H h n' (by omega)) h'
      | some g =>
        simp only [step] at h' ⊢
        exact gP_mono (fun T H h => ih H0 t T H h n' (by omega)) h'
    | alt a b =>
      simp only [step] at h' ⊢
      exact ⟨ih H0 a T H h'.1 n' (by omega), ih H0 b T H h'.2 n' (by omega)⟩
theorem cond_mono {v : Value} {ky kn : List It} {T : List Value} {H : Heap} (hr : ∀ k T H, rec k T H → rec' k T H) (h : condS rec v ky kn T H) : condS rec' v ky kn T H := by
  unfold condS at h ⊢
  split
  · exact ⟨fun e => hr _ _ _ (h.1 e), fun e => hr _ _ _ (h.2 e)⟩
  · rename_i hv
    cases v <;> first | exact h.elim | exact (hv _ rfl).elim
theorem gS_mono {v : Value} {want : Bool} {o : MOp} {k : List It} {T : List Value} {H : Heap} (hr : ∀ k T H, rec k T H → rec' k T H) (h : gS P w0 rec v want o k T H) : gS P w0 rec' v want o k T H := by
  unfold gS at h ⊢
  split
  · exact ⟨fun e => mwp_mono (fun v H h => hr _ _ _ h) (h.1 e), fun e => hr _ _ _ (h.2 e)⟩
  · rename_i hv
    cases v <;> first | exact hr _ _ _ h | exact (hv _ rfl).elim
theorem loop_mono {m : MC} {k : List It} {T : List Value} {H : Heap} (hr : ∀ k T H, rec k T H → rec' k T H) (h : LoopQ rec m k T H) : LoopQ rec' m k T H := by
  rcases h with ⟨I, h0, h1⟩ | h
  · exact .inl ⟨I, h0, fun z T H hi => hr _ _ _ (h1 z T H hi)⟩
  · exact .inr (hr _ _ _ h)
theorem any_mono {f : (Nat → Heap) → It} {k : List It} {T : List Value} {H : Heap} (hr : ∀ k T H, rec k T H → rec' k T H) (h : AnyQ rec f k T H) : AnyQ rec' f k T H := by
  obtain ⟨H0, h1, h2⟩ := h
  exact ⟨H0, h1, hr _ _ _ h2⟩
theorem rf_mono {f : Value} {ps : List Tmp} {ma mb : MC} {k k' : List It} {T : List Value} {H : Heap} (hr : ∀ T H, rec k T H → rec' k' T H) (h : rfQ P w0 rec f ps ma mb k T H) : rfQ P w0 rec' f ps ma mb k' T H := by
  unfold rfQ at h ⊢
  split
  · exact fun l L h1 h2 h3 => (h l L h1 h2 h3).mono fun v H' hk => ⟨hk.1, fun o => hr _ _ (hk.2 o)⟩
  · rename_i hv
    split at h
    · exact (hv _ _ _ rfl).elim
    · exact h
theorem step_mono {its : List It} {T : List Value} {H : Heap} (hr : ∀ k T H, rec k T H → rec' k T H) (h : step P w0 fin rec its T H) : step P w0 fin rec' its T H := by
  revert h
  unfold step
  split <;> intro h
  all_goals first
    | exact h
    | exact hr _ _ _ h
    | exact loop_mono hr h
    | exact mwp_mono (fun v H h => hr _ _ _ h) h
    | exact gS_mono hr h
    | exact plQ_mono (fun T H h => hr _ T H h) h
    | exact gP_mono (fun T H h => hr _ T H h) h
    | exact ⟨hr _ _ _ h.1, hr _ _ _ h.2⟩
    | exact cond_mono hr h
    | exact optQ_mono (fun _ h => hr _ _ _ h) h
    | exact rf_mono (fun T H => hr _ T H) h
    | exact any_mono hr h
    | exact ⟨h.1, h.2.1, hr _ _ _ h.2.2⟩
theorem run_more : ∀ (n : Nat) (k : List It) (T : List Value) (H : Heap), run P w0 fin n k T H → run P w0 fin (n + 1) k T H
  | 0, _, _, _, h => h.elim
  | n + 1, k, T, H, h => step_mono (rec := run P w0 fin n) (run_more n) h
theorem run_le {n m : Nat} (hn : n ≤ m) {k : List It} {T : List Value} {H : Heap} (h : run P w0 fin n k T H) : run P w0 fin m k T H := by
  induction hn with
  | refl => exact h
  | step _ ih => exact run_more _ _ _ _ ih
/-- Where drawn orders meet: the first p values, and what is known. -/
def Meet {S : Type} (T : List Value) (p : Nat) (w : S → List (Nat × Value)) (hp : S → Heap) (ok : S → Prop) (T' : List Value) (H' : Heap) : Prop :=
  ∃ s, T'.take p = (sts T (w s)).take p ∧ (T'.drop p).length = (T.drop p).length ∧ H' = hp s ∧ ok s
theorem Meet_mk {S : Type} {T : List Value} {p : Nat} {w : S → List (Nat × Value)} {hp : S → Heap} {ok : S → Prop} {T' : List Value} {H' : Heap} (s : S) (ho : ok s) (hH : H' = hp s) (e : T'.take p = (sts T (w s)).take p) (l : (T'.drop p).length = (T.drop p).length) :
    Meet T p w hp ok T' H' := ⟨s, e, l, hH, ho⟩
theorem Meet2_mk {T : List Value} {p : Nat} {w : Nat × Nat → List (Nat × Value)} {hp : Nat × Nat → Heap} {ok : Nat × Nat → Prop} {T' : List Value} {H' : Heap} {a b : Nat} (e : T'.take p = (sts T (w (a, b))).take p) (l : (T'.drop p).length = (T.drop p).length) (ho : ok (a, b)) (hH : H' = hp (a, b)) :
    Meet T p w hp ok T' H' := ⟨(a, b), e, l, hH, ho⟩
theorem alts_g {S : Type} (p : Nat) (w : S → List (Nat × Value)) (hp : S → Heap) (ok : S → Prop) (n m : Nat) {n' : Nat} {t : PT} {k : List It} {T : List Value} {H : Heap} {H0 : Nat → Heap} (h : run P w0 fin n [.pt H0 t, .chk (Meet T p w hp ok)] T H)
    (body : ∀ s f, ok s → run P w0 fin m k ((sts T (w s)).take p ++ mkT f (T.drop p).length 0) (hp s)) (hn : n + m ≤ n') : run P w0 fin n' (.pt H0 t :: k) T H := by
  refine pt_cut (Φ := Meet T p w hp ok) (m := m) (fun T' H' ⟨s, he, hl, hH, hok⟩ n hn => run_le hn ?_) n H0 t T H h n' hn
  subst hH
  obtain ⟨f, hf⟩ := mkT_ex (T'.drop p) 0
  have := body s f hok
  rw [← he, ← hl, ← hf, List.take_append_drop] at this
  exact this
theorem pt_heap {n : Nat} {t : PT} {k : List It} {T : List Value} {H : Heap} (h : ∀ H0, H0 = H → run P w0 fin (n + 1) (.pt (fun _ => H0) t :: k) T H0) : step P w0 fin (run P w0 fin n) (.pt (fun _ => H) t :: k) T H := h H rfl
theorem set_comm {H : Heap} {b c : Nat} {x y : Blk} (h : b ≠ c) : (H.set b x).set c y = (H.set c y).set b x := by
  funext d
  by_cases h1 : d = c
  · subst h1; rw [Heap.set_same, Heap.set_other _ _ (Ne.symm h), Heap.set_same]
  · rw [Heap.set_other _ _ h1]
    by_cases h2 : d = b
    · subst h2; rw [Heap.set_same, Heap.set_same]
    · rw [Heap.set_other _ _ h2, Heap.set_other _ _ h2, Heap.set_other _ _ h1]
end
end Go.HL
