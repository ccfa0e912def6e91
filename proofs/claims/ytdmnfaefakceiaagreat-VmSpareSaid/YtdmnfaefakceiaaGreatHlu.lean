/- The heap logic, part u: a cut behind any code: what stands behind is proved once. -/
import Derived.Test.YtdmnfaefakceiaaGreatHlt
set_option linter.unusedSimpArgs false
set_option linter.unusedVariables false
set_option maxRecDepth 100000
namespace Go.HL
open Go.RowKit
variable {P : Program} {w0 : World} {fin : List Value → Heap → Prop}

theorem exit_cut {id : Nat} {Φ : List Value → Heap → Prop} {k : List It} : ∀ (its k1 : List It), exitIt id (its ++ [.chk Φ]) = some k1 → ∃ k2, k1 = k2 ++ [.chk Φ] ∧ exitIt id (its ++ k) = some (k2 ++ k)
  | [], k1, h => by simp [exitIt] at h
  | it :: its, k1, h => by
    have ih := exit_cut (id := id) (Φ := Φ) (k := k) its k1
    cases it <;> simp only [List.cons_append, exitIt] at h ⊢ <;> try exact ih h
    split at h
    · rename_i e
      cases h
      exact ⟨its, rfl, by rw [if_pos e]⟩
    · rename_i e
      rw [if_neg e]
      exact ih h
/-- Behind code: all of it comes to Φ, and from Φ it goes on. -/
theorem run_cut {Φ : List Value → Heap → Prop} {k : List It} {m : Nat} (hΦ : ∀ T H, Φ T H → ∀ n, m ≤ n → run P w0 fin n k T H) :
    ∀ (n : Nat) (its : List It) (T : List Value) (H : Heap), run P w0 fin n (its ++ [.chk Φ]) T H → ∀ n', n + m ≤ n' → run P w0 fin n' (its ++ k) T H
  | 0, _, _, _, h, _, _ => h.elim
  | n + 1, its, T, H, h, 0, hn => by omega
  | n + 1, its, T, H, h, n' + 1, hn => by
    have ih : ∀ (its : List It) (T : List Value) (H : Heap), run P w0 fin n (its ++ [.chk Φ]) T H → run P w0 fin n' (its ++ k) T H := fun its T H h => run_cut hΦ n its T H h n' (by omega)
    have lq : ∀ (c : MC) (its : List It) (T : List Value) (H : Heap), LoopQ (run P w0 fin n) c (its ++ [.chk Φ]) T H → LoopQ (run P w0 fin n') c (its ++ k) T H := fun c its T H h => by
      rcases h with ⟨I, h0, h1⟩ | h
      · exact .inl ⟨I, h0, fun z T H hi => ih (.code c :: .chk (fun T' H' => ∃ z' G, z' < z ∧ Heap.Le G H' ∧ I z' T' G) :: its) T H (h1 z T H hi)⟩
      · exact .inr (ih (.code c :: .lp c :: its) T H h)
    have kk : ∀ (st : List It) (T : List Value) (d : Option Tmp) (op : MO) (H : Heap), mwp P w0 op T H (KK (run P w0 fin n) (st ++ [.chk Φ]) T d) → mwp P w0 op T H (KK (run P w0 fin n') (st ++ k) T d) := fun st T d op H h => mwp_mono (fun v H h => ih st _ _ h) h
    have gs : ∀ (v : Value) (want : Bool) (o : MOp) (st : List It) (T : List Value) (H : Heap), gS P w0 (run P w0 fin n) v want o (st ++ [.chk Φ]) T H → gS P w0 (run P w0 fin n') v want o (st ++ k) T H := fun v want o st T H h => by
      unfold gS at h ⊢
      split
      · exact ⟨fun e => kk st T o.dst o.op H (h.1 e), fun e => ih st _ _ (h.2 e)⟩
      · rename_i hv
        cases v <;> first | exact ih st _ _ h | exact (hv _ rfl).elim
    show step P w0 fin (run P w0 fin n') (its ++ k) T H
    have h' : step P w0 fin (run P w0 fin n) (its ++ [.chk Φ]) T H := h
    cases its with
    | nil =>
      have h2 : Φ T H := h'
      exact hΦ T H h2 (n' + 1) (by omega)
    | cons it its =>
      simp only [List.cons_append] at h' ⊢
      cases it with
      | blk id => simp only [step] at h' ⊢; exact ih its T H h'
      | scp => simp only [step] at h' ⊢; exact ih its T H h'
      | bgn l L => simp only [step] at h' ⊢; exact ⟨h'.1, h'.2.1, ih its T _ h'.2.2⟩
      | chk Φ' => simp only [step] at h' ⊢; exact h'
      | lp c => simp only [step] at h' ⊢; exact lq c its T H h'
      | ops l =>
        cases l with
        | nil => simp only [step] at h' ⊢; exact ih its T H h'
        | cons o l =>
          obtain ⟨d, op, g⟩ := o
          cases g with
          | none => simp only [step] at h' ⊢; exact kk (.ops l :: its) T d op H h'
          | some g => simp only [step] at h' ⊢; exact gs _ _ _ (.ops l :: its) T H h'
      | pl H0 l =>
        cases l with
        | nil => simp only [step] at h' ⊢; exact ih its T H h'
        | cons o l =>
          obtain ⟨fl, i, ds, d, op, g⟩ := o
          cases g with
          | none => simp only [step] at h' ⊢; exact plQ_mono (fun T H h => ih (.pl H0 l :: its) T H h) h'
          | some g => simp only [step] at h' ⊢; exact gP_mono (fun T H h => ih (.pl H0 l :: its) T H h) h'
      | pt H0 t =>
        cases t with
        | nil => simp only [step] at h' ⊢; exact ih its T H h'
        | one fl i ds o t =>
          obtain ⟨d, op, g⟩ := o
          cases g with
          | none => simp only [step] at h' ⊢; exact plQ_mono (fun T H h => ih (.pt H0 t :: its) T H h) h'
          | some g => simp only [step] at h' ⊢; exact gP_mono (fun T H h => ih (.pt H0 t :: its) T H h) h'
        | alt a b => simp only [step] at h' ⊢; exact ⟨ih (.pt H0 a :: its) T H h'.1, ih (.pt H0 b :: its) T H h'.2⟩
      | code c =>
        cases c with
        | skip => simp only [step] at h' ⊢; exact ih its T H h'
        | reg l => simp only [step] at h' ⊢; exact ih (.ops l :: its) T H h'
        | any l =>
          obtain ⟨H0, h1, h2⟩ := h'
          exact ⟨H0, h1, ih (.pl H0 l :: its) T H h2⟩
        | seq a b => simp only [step] at h' ⊢; exact ih (.code a :: .code b :: its) T H h'
        | cond c a b =>
          simp only [step] at h' ⊢
          unfold condS at h' ⊢
          split
          · rename_i b' hb
            rw [hb] at h'
            exact ⟨fun e => ih (.code a :: its) T H (h'.1 e), fun e => ih (.code b :: its) T H (h'.2 e)⟩
          · rename_i hv
            split at h'
            · rename_i b' hb; exact (hv _ hb).elim
            · exact h'
        | block id c => simp only [step] at h' ⊢; exact ih (.code c :: .blk id :: its) T H h'
        | loop c => simp only [step] at h' ⊢; exact lq c its T H h'
        | exit id =>
          simp only [step] at h' ⊢
          obtain ⟨k1, e1, h1⟩ := optQ_some h'
          obtain ⟨k2, rfl, e2⟩ := exit_cut (k := k) its k1 e1
          rw [e2]
          exact ih k2 T H h1
        | ret => simp only [step] at h' ⊢; exact h'
        | scope c => simp only [step] at h' ⊢; exact ih (.code c :: .scp :: its) T H h'
        | rangef f ps a b => simp only [step] at h' ⊢; exact rf_mono (fun T H h => ih its T H h) h'
        | alts t =>
          obtain ⟨H0, h1, h2⟩ := h'
          exact ⟨H0, h1, ih (.pt H0 t :: its) T H h2⟩
/-- The same, where it meets in the first p values and a heap. -/
theorem cut_g {S : Type} (p : Nat) (w : S → List (Nat × Value)) (hp : S → Heap) (ok : S → Prop) (n m : Nat) {n' : Nat} (its : List It) {k : List It} {T : List Value} {H : Heap} (h : run P w0 fin n (its ++ [.chk (Meet T p w hp ok)]) T H)
    (body : ∀ s f, ok s → run P w0 fin m k ((sts T (w s)).take p ++ mkT f (T.drop p).length 0) (hp s)) (hn : n + m ≤ n') : run P w0 fin n' (its ++ k) T H := by
  refine run_cut (Φ := Meet T p w hp ok) (m := m) (fun T' H' ⟨s, he, hl, hH, hok⟩ n hn => run_le hn ?_) n its T H h n' hn
  subst hH
  obtain ⟨f, hf⟩ := mkT_ex (T'.drop p) 0
  have := body s f hok
  rw [← he, ← hl, ← hf, List.take_append_drop] at this
  exact this
theorem cut_loop {S : Type} (p : Nat) (w : S → List (Nat × Value)) (hp : S → Heap) (ok : S → Prop) (n m : Nat) {n' id : Nat} {c : MC} {k : List It} {T : List Value} {H : Heap} (h : LoopQ (run P w0 fin n) c [.blk id, .chk (Meet T p w hp ok)] T H)
    (body : ∀ s f, ok s → run P w0 fin m k ((sts T (w s)).take p ++ mkT f (T.drop p).length 0) (hp s)) (hn : n + m ≤ n') : LoopQ (run P w0 fin n') c (.blk id :: k) T H := by
  have := cut_g (P := P) (w0 := w0) (fin := fin) p w hp ok (n + 1) m (n' := n' + 1) [.lp c, .blk id] (k := k) (T := T) (H := H) h body (by omega)
  exact this
section
open Go Go.RowKit
theorem Sn : (type_of% @and_self) ∧ (type_of% @not_true_eq_false) ∧ (type_of% @not_false_eq_true) ∧ (type_of% @and_true) ∧ (type_of% @true_and) ∧ (type_of% @false_and) ∧ (type_of% @and_false) ∧ (type_of% @true_or) ∧ (type_of% @or_true) ∧ (type_of% @false_or) ∧ (type_of% @or_false) ∧ (type_of% @decide_eq_true_eq) ∧ (type_of% @decide_eq_false_iff_not) ∧ (type_of% @beq_iff_eq.{0}) ∧ (type_of% @beq_eq_false_iff_ne.{0}) ∧ (type_of% @bne_iff_ne.{0}) ∧ (type_of% @ne_eq.{1}) ∧ (type_of% @gt_iff_lt.{0}) ∧ (type_of% @ge_iff_le.{0}) ∧ (type_of% @Bool.not_eq_true) ∧ (type_of% @Bool.not_eq_false) ∧ (type_of% @Bool.not_eq_true') ∧ (type_of% @Bool.not_eq_false') ∧ (type_of% @Bool.not_eq_eq_eq_not) ∧ (type_of% @Bool.not_true) ∧ (type_of% @Bool.not_false) :=
  ⟨@and_self, @not_true_eq_false, @not_false_eq_true, @and_true, @true_and, @false_and, @and_false, @true_or, @or_true, @false_or, @or_false, @decide_eq_true_eq, @decide_eq_false_iff_not, @beq_iff_eq.{0}, @beq_eq_false_iff_ne.{0}, @bne_iff_ne.{0}, @ne_eq.{1}, @gt_iff_lt.{0}, @ge_iff_le.{0}, @Bool.not_eq_true, @Bool.not_eq_false, @Bool.not_eq_true', @Bool.not_eq_false', @Bool.not_eq_eq_eq_not, @Bool.not_true, @Bool.not_false⟩
theorem Sq : (type_of% @decide_true) ∧ (type_of% @decide_false) ∧ (type_of% @true_and) ∧ (type_of% @and_true) ∧ (type_of% @and_self) ∧ (type_of% @eq_self.{1}) ∧ (type_of% @b_i64) ∧ (type_of% @b_i32) ∧ (type_of% @b_u64) ∧ (type_of% @b_u32) ∧ (type_of% @b_u8) ∧ (type_of% @Nat.min_def) ∧ (type_of% @KP_same) ∧ (type_of% @KP_f) ∧ (type_of% @condS_t) ∧ (type_of% @condS_f) ∧ (type_of% @pick_t) ∧ (type_of% @pick_f) ∧ (type_of% @gS_tt) ∧ (type_of% @gS_ff) ∧ (type_of% @gS_tf) ∧ (type_of% @gS_ft) ∧ (type_of% @gS_u) ∧ (type_of% @gP_tt) ∧ (type_of% @gP_ff) ∧ (type_of% @gP_tf) ∧ (type_of% @gP_ft) ∧ (type_of% @gP_u) ∧ (type_of% @ptrV_eq) ∧ (type_of% @slcV_eq) ∧ (type_of% @cells_agg) ∧ (type_of% @cells_int) ∧ (type_of% @cells_bool) ∧ (type_of% @cells_ptr) ∧ (type_of% @cells_slice) ∧ (type_of% @oc_int) ∧ (type_of% @oc_bool) ∧ (type_of% @oc_slice) ∧ (type_of% @oc_ptr) ∧ (type_of% @rd1_set) ∧ (type_of% @rd1_ne) ∧ (type_of% @rdn_set) ∧ (type_of% @rdn_ne) :=
  ⟨@decide_true, @decide_false, @true_and, @and_true, @and_self, @eq_self.{1}, @b_i64, @b_i32, @b_u64, @b_u32, @b_u8, @Nat.min_def, @KP_same, @KP_f, @condS_t, @condS_f, @pick_t, @pick_f, @gS_tt, @gS_ff, @gS_tf, @gS_ft, @gS_u, @gP_tt, @gP_ff, @gP_tf, @gP_ft, @gP_u, @ptrV_eq, @slcV_eq, @cells_agg, @cells_int, @cells_bool, @cells_ptr, @cells_slice, @oc_int, @oc_bool, @oc_slice, @oc_ptr, @rd1_set, @rd1_ne, @rdn_set, @rdn_ne⟩
theorem Sr : (type_of% @Heap.set_same) ∧ (type_of% @set_ne) ∧ (type_of% @Heap.set_set) ∧ (type_of% @set_up) ∧ (type_of% @set_up2) ∧ (type_of% @set_up3) ∧ (type_of% @List.map_cons.{0, 0}) ∧ (type_of% @List.map_nil.{0, 0}) ∧ (type_of% @List.length_cons.{0}) ∧ (type_of% @List.length_nil.{0}) ∧ (type_of% @List.length_set.{0}) ∧ (type_of% @List.cons_append.{0}) ∧ (type_of% @List.nil_append.{0}) ∧ (type_of% @List.append_nil.{0}) ∧ (type_of% @List.size_toArray.{0}) ∧ (type_of% @List.all_cons.{0}) ∧ (type_of% @List.all_nil.{0}) ∧ (type_of% @Bool.and_self) ∧ (type_of% @Bool.and_true) ∧ (type_of% @List.drop_zero.{0}) ∧ (type_of% @List.drop_succ_cons.{0}) ∧ (type_of% @List.take_succ_cons.{0}) ∧ (type_of% @List.take_zero.{0}) ∧ (type_of% @List.set_cons_zero.{0}) ∧ (type_of% @List.set_cons_succ.{0}) ∧ (type_of% @List.getElem?_cons_zero.{0}) ∧ (type_of% @List.getElem?_cons_succ.{0}) ∧ (type_of% @Option.map_some.{0, 0}) ∧ (type_of% @Option.map_none.{0, 0}) ∧ (type_of% @ne_eq.{1}) ∧ (type_of% @not_false_eq_true) ∧ (type_of% @not_true_eq_false) ∧ (type_of% @gt_iff_lt.{0}) ∧ (type_of% @ge_iff_le.{0}) ∧ (type_of% @Int.one_mul) ∧ (type_of% @Nat.zero_add) ∧ (type_of% @Nat.zero_mul) ∧ (type_of% @Bool.not_true) ∧ (type_of% @Bool.not_false) ∧ (type_of% @Bool.false_eq_true) ∧ (type_of% @Bool.and_false) ∧ (type_of% @Bool.false_and) ∧ (type_of% @Bool.true_and) :=
  ⟨@Heap.set_same, @set_ne, @Heap.set_set, @set_up, @set_up2, @set_up3, @List.map_cons.{0, 0}, @List.map_nil.{0, 0}, @List.length_cons.{0}, @List.length_nil.{0}, @List.length_set.{0}, @List.cons_append.{0}, @List.nil_append.{0}, @List.append_nil.{0}, @List.size_toArray.{0}, @List.all_cons.{0}, @List.all_nil.{0}, @Bool.and_self, @Bool.and_true, @List.drop_zero.{0}, @List.drop_succ_cons.{0}, @List.take_succ_cons.{0}, @List.take_zero.{0}, @List.set_cons_zero.{0}, @List.set_cons_succ.{0}, @List.getElem?_cons_zero.{0}, @List.getElem?_cons_succ.{0}, @Option.map_some.{0, 0}, @Option.map_none.{0, 0}, @ne_eq.{1}, @not_false_eq_true, @not_true_eq_false, @gt_iff_lt.{0}, @ge_iff_le.{0}, @Int.one_mul, @Nat.zero_add, @Nat.zero_mul, @Bool.not_true, @Bool.not_false, @Bool.false_eq_true, @Bool.and_false, @Bool.false_and, @Bool.true_and⟩
end
section
/-! ### Short names -/
def vX (d s : Nat) : MOp := ⟨some d, .mv (.tmp s), none⟩
def oX (d : Nat) (m : MO) : MOp := ⟨some d, m, none⟩
def bX (op : BinOp) (a b : Nat) : MO := .bin op (.tmp a) (.tmp b)
def bK (op : BinOp) (a : Nat) (n : Int) : MO := .bin op (.tmp a) (.const (.int .i64 n))
def kX (n : Int) : Operand := .const (.int .i64 n)
theorem So : (∀ d s, vX d s = ⟨some d, .mv (.tmp s), none⟩) ∧ (∀ d m, oX d m = ⟨some d, m, none⟩) ∧ (∀ op a b, bX op a b = .bin op (.tmp a) (.tmp b)) ∧ (∀ op a n, bK op a n = .bin op (.tmp a) (.const (.int .i64 n))) ∧ (∀ n, kX n = .const (.int .i64 n)) := ⟨fun _ _ => rfl, fun _ _ => rfl, fun _ _ _ => rfl, fun _ _ _ => rfl, fun _ => rfl⟩
open Go Go.RowKit
theorem S0 : (type_of% @So) ∧ (type_of% @Sq) ∧ (type_of% @Sr) ∧ (type_of% @Sh) ∧ (type_of% @Si) ∧ (type_of% @Sl) ∧ (type_of% @Bu) ∧ (type_of% @Bb) ∧ (type_of% @Bd) ∧ (type_of% @Bc) ∧ (type_of% @Bw) ∧ (type_of% @Bn) ∧ (type_of% @Sa) ∧ (type_of% @Sb) ∧ (type_of% @Sc) ∧ (type_of% @Sd) ∧ (type_of% @Se) ∧ (type_of% @Sf) ∧ (type_of% @Sg) :=
  ⟨@So, @Sq, @Sr, @Sh, @Si, @Sl, @Bu, @Bb, @Bd, @Bc, @Bw, @Bn, @Sa, @Sb, @Sc, @Sd, @Se, @Sf, @Sg⟩
variable {w0 : World} {A B : Heap} {b : Nat} {x : Blk}
theorem aL (h : Heap.Le A B := by (repeat' (first | exact Heap.Le.refl _ | (with_reducible refine Le_set2 ?_) | (refine Le_known (by first | (simp only [Heap.set_same, set_ne, ne_eq, not_false_eq_true, *] <;> rfl) | fail) ?_) | (refine Le_fresh (by first | (simp only [*] <;> done) | (simp [set_none', Heap.set_same, set_ne, noneH, *] <;> done) | fail) ?_) | (refine Heap.Le.trans ?_ (Grow.le (by assumption))) | exact Le_none | (refine Le_put ?_ (by first | (simp only [Heap.set_same, set_ne, ne_eq, not_false_eq_true, *] <;> rfl) | fail)) | fail))) : Heap.Le A B := h
theorem aE (h : Heap.Le A B := by (repeat' (first | exact Heap.Le.refl _ | (refine Le_fresh (by first | exact (by simp only [*]) | exact (by simp [set_none', *])) ?_) | (refine Heap.Le.trans ?_ (Grow.le (by assumption)))))) : Heap.Le A B := h
theorem aG (h : Grow w0 A B := by (repeat' (first | exact Grow.refl _ | assumption | (refine Grow_known (by first | (simp only [Heap.set_same, set_ne, ne_eq, not_false_eq_true, *] <;> rfl) | fail) ?_) | (refine Grow.set ?_ (by assumption) (by first | (simp only [*] <;> done) | (simp [set_none', Heap.set_same, set_ne, noneH, *] <;> done) | fail)) | (refine Grow.trans ?_ (by assumption))))) : Grow w0 A B := h
theorem aA (h : A b = some x := by simp only [Heap.set_same, set_ne, ne_eq, not_false_eq_true, *] <;> rfl) : A b = some x := h
theorem aN (h : A b = none := by first | (simp only [*] <;> done) | (simp [set_none', Heap.set_same, set_ne, noneH, *] <;> done) | fail) : A b = none := h
theorem aNn {H : Heap} (e : A b = none := by first | exact hbk | exact hbk.2 | exact hbk.2.2 | exact hbk.2.2.2 | exact hbk.2.2.2.2 | exact hbk.2.2.2.2.2 | exact hbk.2.2.2.2.2.2) (g : Grow w0 H A := by assumption) : H b = none := g.none e
theorem aNm {H : Heap} (e : A b = none := by first | exact hbn | exact hbn.2 | exact hbn.2.2 | exact hbn.2.2.2 | exact hbn.2.2.2.2 | exact hbn.2.2.2.2.2 | exact hbn.2.2.2.2.2.2) (g : Grow w0 H A := by assumption) : H b = none := g.none e
end
end Go.HL
