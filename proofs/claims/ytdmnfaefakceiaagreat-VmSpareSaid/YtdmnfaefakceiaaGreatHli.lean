/- The heap logic, part i: what the resolved code asks is enough for the loaded code. -/
import Derived.Test.YtdmnfaefakceiaaGreatHlh
import Derived.Scope
set_option linter.unusedSimpArgs false
set_option linter.unusedVariables false
namespace Go.HL
open Go.RowKit

section
variable {P : Program} {w0 : World} {fin : List Value → Heap → Prop} {F : Nat → Prop} {ds : List Deferred}

/-- What is still to be read by those that are taken first stands. -/
def PInv (ops : Array Oper) (FT : List Nat) (n : Nat) (Hs : Nat → Heap) (H : Heap) (listed : Array Bool) : Prop :=
  (HeadInv .any ops n listed ∧ ∀ f, AQ ops FT listed f → Heap.Le (Hs f) H) ∨ ∀ j, j < n → listed.getD j true = true

theorem getD_set_true' {listed : Array Bool} {i j : Nat} (h : listed.getD j true = true) : (listed.setIfInBounds i true).getD j true = true := by
  by_cases hij : i = j
  · subst hij
    rcases Nat.lt_or_ge i listed.size with h' | h'
    · simp [h']
    · simp [Array.getElem?_eq_none h']
  · rw [getD_set_ne true hij]; exact h

theorem put_defers' (a : Act) (d : Option Tmp) (v : Value) : (a.put d v).defers = a.defers := by cases d <;> rfl

/-- The list says what is not yet listed. -/
structure Rep (ops : Array Oper) (listed : Array Bool) (rem : List Nd) : Prop where
  mem : ∀ i o, (ops[i]? = some o ∧ listed.getD i true = false) ↔ ∃ d, (i, o, d) ∈ rem
  dep : ∀ i o d, (i, o, d) ∈ rem → ∀ j, j ∈ d ↔ ((∃ e ∈ o.after, Region.binds .any e = true ∧ e.on = j) ∧ listed.getD j false = false)

theorem mem_nodesL : ∀ (l : List Oper) (k : Nat) (x : Nd), x ∈ nodesL l k ↔ ∃ i o, l[i]? = some o ∧ x = (k + i, o, (o.after.toList.filter (Region.binds .any)).map (·.on))
  | [], k, x => by simp [nodesL]
  | o :: l, k, x => by
    simp only [nodesL, List.mem_cons, mem_nodesL l (k + 1) x]
    constructor
    · rintro (rfl | ⟨i, o', h, rfl⟩)
      · exact ⟨0, o, rfl, rfl⟩
      · exact ⟨i + 1, o', h, by rw [show k + 1 + i = k + (i + 1) by omega]⟩
    · rintro ⟨i, o', h, rfl⟩
      cases i with
      | zero => simp at h; subst h; exact .inl rfl
      | succ i => exact .inr ⟨i, o', by simpa using h, by rw [show k + 1 + i = k + (i + 1) by omega]⟩

theorem Rep.start (ops : Array Oper) : Rep ops (Array.replicate ops.size false) (nodesL ops.toList 0) := by
  constructor
  · intro i o
    constructor
    · rintro ⟨h, -⟩
      exact ⟨_, (mem_nodesL _ _ _).2 ⟨i, o, by simpa using h, by rw [Nat.zero_add]⟩⟩
    · rintro ⟨d, h⟩
      obtain ⟨i', o', h', e⟩ := (mem_nodesL _ _ _).1 h
      simp only [Prod.mk.injEq, Nat.zero_add] at e
      obtain ⟨rfl, rfl, -⟩ := e
      have h2 : ops[i]? = some o := by simpa using h'
      have := (Array.getElem?_eq_some_iff.1 h2).1
      exact ⟨h2, by simp [this]⟩
  · intro i o d h j
    obtain ⟨i', o', h', e⟩ := (mem_nodesL _ _ _).1 h
    simp only [Prod.mk.injEq] at e
    obtain ⟨-, rfl, rfl⟩ := e
    rw [show (Array.replicate ops.size false).getD j false = false from getD_replicate_false _ _]
    simp only [List.mem_map, List.mem_filter, Array.mem_toList_iff, and_true]
    constructor
    · rintro ⟨e, ⟨h1, h2⟩, h3⟩; exact ⟨e, h1, h2, h3⟩
    · rintro ⟨e, h1, h2, h3⟩; exact ⟨e, ⟨h1, h2⟩, h3⟩

theorem beq_false {i j : Nat} : (!Nat.beq i j) = true ↔ i ≠ j := by
  rw [Bool.not_eq_true']
  constructor
  · intro h e; subst e; simp at h
  · intro h; cases hb : Nat.beq i j with
    | true => exact absurd (Nat.eq_of_beq_eq_true hb) h
    | false => rfl

theorem Rep.drop {ops : Array Oper} {listed : Array Bool} {rem : List Nd} (h : Rep ops listed rem) {i : Nat} (hi : listed.getD i true = false) : Rep ops (listed.setIfInBounds i true) (dropN i rem) := by
  have hin : i < listed.size := by
    rcases Nat.lt_or_ge i listed.size with h' | h'
    · exact h'
    · rw [Array.getD_eq_getD_getElem?, Array.getElem?_eq_none h'] at hi; cases hi
  have self : ∀ b : Bool, (listed.setIfInBounds i true).getD i b = true := fun b => by simp [hin]
  have mem' : ∀ x : Nd, x ∈ dropN i rem ↔ ∃ d, (x.1, x.2.1, d) ∈ rem ∧ x.1 ≠ i ∧ x.2.2 = d.filter (fun j => !Nat.beq j i) := by
    intro x
    unfold dropN
    simp only [List.mem_map, List.mem_filter, beq_false]
    constructor
    · rintro ⟨y, ⟨h1, h2⟩, rfl⟩; exact ⟨y.2.2, h1, h2, rfl⟩
    · rintro ⟨d, h1, h2, h3⟩; exact ⟨(x.1, x.2.1, d), ⟨h1, h2⟩, by simp [← h3]⟩
  constructor
  · intro j o
    constructor
    · rintro ⟨h1, h2⟩
      have hne : j ≠ i := fun e => by subst e; rw [self] at h2; cases h2
      rw [getD_set_ne true (Ne.symm hne)] at h2
      obtain ⟨d, hd⟩ := (h.mem j o).1 ⟨h1, h2⟩
      exact ⟨_, (mem' _).2 ⟨d, hd, hne, rfl⟩⟩
    · rintro ⟨d, hd⟩
      obtain ⟨d', h1, h2, h3⟩ := (mem' _).1 hd
      obtain ⟨h4, h5⟩ := (h.mem j o).2 ⟨d', h1⟩
      exact ⟨h4, by rw [getD_set_ne true (Ne.symm h2)]; exact h5⟩
  · intro j o d hd k
    obtain ⟨d', h1, h2, h3⟩ := (mem' _).1 hd
    have h3' : d = d'.filter (fun j => !Nat.beq j i) := h3
    rw [h3', List.mem_filter, h.dep j o d' h1 k, beq_false]
    by_cases hk : k = i
    · subst hk
      rw [self]
      simp
    · rw [getD_set_ne false (Ne.symm hk)]
      simp [hk]

theorem Rep.ready {ops : Array Oper} {listed : Array Bool} {rem : List Nd} (h : Rep ops listed rem) (i : Nat) : i ∈ Region.ready .any ops listed ↔ ∃ x ∈ readyL rem, x.1 = i := by
  rw [mem_ready]
  unfold readyL
  simp only [List.mem_filter, List.isEmpty_iff]
  constructor
  · rintro ⟨hu, o, ho, hall⟩
    obtain ⟨d, hd⟩ := (h.mem i o).1 ⟨ho, hu⟩
    refine ⟨(i, o, d), ⟨hd, ?_⟩, rfl⟩
    refine List.eq_nil_iff_forall_not_mem.2 fun j hj => ?_
    obtain ⟨⟨e, he, hb, hon⟩, hl⟩ := (h.dep i o d hd j).1 hj
    have := hall e he hb
    rw [hon, hl] at this
    cases this
  · rintro ⟨⟨i', o, d⟩, ⟨hd, hn⟩, rfl⟩
    obtain ⟨ho, hu⟩ := (h.mem i' o).2 ⟨d, hd⟩
    refine ⟨hu, o, ho, fun e he hb => ?_⟩
    have hn' : d = [] := hn
    cases hl : listed.getD e.on false with
    | true => rfl
    | false =>
      have := (h.dep i' o d hd e.on).2 ⟨⟨e, he, hb, rfl⟩, hl⟩
      rw [hn'] at this
      cases this

theorem ready_nil {ops : Array Oper} {listed : Array Bool} {rem : List Nd} (h : Rep ops listed rem) (h0 : readyL rem = []) : Region.ready .any ops listed = [] :=
  List.eq_nil_iff_forall_not_mem.2 fun j hj => by
    obtain ⟨x, hx, -⟩ := (h.ready j).1 hj
    rw [h0] at hx; cases hx

theorem ready_one {ops : Array Oper} {listed : Array Bool} {rem : List Nd} {x : Nd} (h : Rep ops listed rem) (h0 : readyL rem = [x]) : Region.ready .any ops listed = [x.1] := by
  have hm : ∀ j, j ∈ Region.ready .any ops listed ↔ j = x.1 := fun j => by rw [h.ready j, h0]; simp [eq_comm]
  have hnd : (Region.ready .any ops listed).Nodup := List.Pairwise.filter _ List.nodup_range
  revert hm hnd
  generalize Region.ready .any ops listed = l
  intro hm hnd
  match l, hm, hnd with
  | [], hm, _ => exact absurd ((hm x.1).2 rfl) (by simp)
  | [y], hm, _ => rw [(hm y).1 (by simp)]
  | y :: z :: l, hm, hnd =>
    have h1 := (hm y).1 (by simp)
    have h2 := (hm z).1 (by simp)
    rw [h1, h2] at hnd
    simp at hnd

theorem free_spec' {ops : Array Oper} {listed : Array Bool} {rem : List Nd} {i : Nat} {o xo : Oper} {xd : List Nat} (h : Rep ops listed rem) (hx : (i, xo, xd) ∈ rem) (ho : ops[i]? = some o) (hf : freeL ops rem (i, xo, xd) = true) :
    ∀ j oj, ops[j]? = some oj → j ≠ i → listed.getD j true = false → (∀ e ∈ oj.after, Region.binds .any e = true → e.on ≠ i) → o.apart ops oj = true := by
  intro j oj hj hne hun hno
  obtain ⟨hxo, -⟩ := (h.mem i xo).2 ⟨xd, hx⟩
  obtain rfl : o = xo := Option.some.inj (ho.symm.trans hxo)
  obtain ⟨d, hd⟩ := (h.mem j oj).1 ⟨hj, hun⟩
  have := List.all_eq_true.1 hf _ hd
  simp only [Bool.or_eq_true] at this
  rcases this with (h1 | h1) | h1
  · exact absurd (Nat.eq_of_beq_eq_true h1) hne
  · obtain ⟨k, hk, hb⟩ := List.any_eq_true.1 h1
    obtain rfl : i = k := Nat.eq_of_beq_eq_true hb
    obtain ⟨⟨e, he, hbi, hon⟩, -⟩ := (h.dep j oj d hd i).1 hk
    exact absurd hon (hno e he hbi)
  · exact h1

theorem DQ_ds {ops : Array Oper} {FT done : List Nat} {n j f : Nat} {listed : Array Bool} (hdone : ∀ k ∈ done, listed.getD k false = true) (h : DQ ops FT n listed j f) : f ∈ dsOf (masks ops) FT done n j := by
  obtain ⟨hjn, ⟨hf, h2⟩, h1⟩ := h
  unfold dsOf
  rw [if_pos hjn]
  refine List.mem_filter.2 ⟨hf, ?_⟩
  simp only [Bool.and_eq_true, Bool.or_eq_true, Bool.not_eq_true', List.contains_iff_mem]
  refine ⟨?_, List.all_eq_true.2 fun k hk => ?_⟩
  · rcases h1 with h1 | h1
    · exact .inl h1
    · exact .inr h1
  · simp only [Bool.or_eq_true, Bool.not_eq_true', List.contains_iff_mem]
    rcases h2 k (hdone k hk) with h | h
    · exact .inl h
    · exact .inr h
theorem PInv.le {ops : Array Oper} {FT : List Nat} {n : Nat} {Hs : Nat → Heap} {H : Heap} {listed : Array Bool} {j : Nat} (h : PInv ops FT n Hs H listed) (hun : listed.getD j true = false) : ∀ f, DQ ops FT n listed j f → Heap.Le (Hs f) H := fun f hD => by
  rcases h with ⟨_, h⟩ | h
  · exact h f hD.2.1
  · rw [h j hD.1] at hun; cases hun
theorem PInv.next {ops : Array Oper} {FT : List Nat} {n : Nat} {Hs : Nat → Heap} {H H' : Heap} {listed : Array Bool} {i : Nat} (hk : headOk .any ops n = true) (h : PInv ops FT n Hs H listed) (hmem : i ∈ Region.ready .any ops listed) (hle : ∀ f, DQ ops FT n listed i f → Heap.Le (Hs f) H') : PInv ops FT n Hs H' (listed.setIfInBounds i true) := by
  have hun := (mem_ready.1 hmem).1
  rcases h with ⟨hI, _⟩ | hI
  · by_cases hi : i < n
    · exact .inl ⟨hI.set hmem hi, fun f hf => hle f ⟨hi, (hf.before hun).1, (hf.before hun).2⟩⟩
    · refine .inr fun j hj => getD_set_true' ?_
      cases hjl : listed.getD j true with
      | true => rfl
      | false => exact absurd hmem (noTail hk hI hj hjl i (by omega))
  · exact .inr fun j hj => getD_set_true' (hI j hj)
theorem PInv.first {ops : Array Oper} {FT : List Nat} {n : Nat} {Hs : Nat → Heap} {H : Heap} {listed : Array Bool} {i : Nat} (h : PInv ops FT n Hs H listed) (hun : listed.getD i true = false) (hin : i < n) : HeadInv .any ops n listed ∧ ∀ f, AQ ops FT listed f → Heap.Le (Hs f) H := by
  rcases h with h | h
  · exact h
  · rw [h i hin] at hun; cases hun
theorem done_next {done : List Nat} {listed : Array Bool} {i : Nat} (hun : listed.getD i true = false) (h : ∀ k ∈ done, listed.getD k false = true) : ∀ k ∈ i :: done, (listed.setIfInBounds i true).getD k false = true := fun k hk => by
  rcases List.mem_cons.1 hk with rfl | hk
  · exact set_self hun
  · exact getD_set_false' (h k hk)

theorem pl_sound {ops : Array Oper} {k : List It} {hn : Nat} {Hs : Nat → Heap} {FT : List Nat} (hsel : Region.noSelect ops = true) (hk : headOk .any ops hn = true) {N : Nat} :
    ∀ (fuel : Nat) (listed : Array Bool) (rem : List Nd) (pl : List (Nat × Bool)) (ms : List (Bool × Nat × List Nat × MOp)) (n : Nat) (T : List Value) (H : Heap), Rep ops listed rem → planGo P ops hn fuel rem = some pl → (∀ p ∈ pl, p.2 = true → p.1 ∈ FT) → ∀ done, (∀ k ∈ done, listed.getD k false = true) → trPlan P ops (masks ops) FT hn done pl = some ms →
    run P w0 fin n (.pl Hs ms :: k) T H → n ≤ N → PInv ops FT hn Hs H listed → ∀ a w, a.tmps = T.toArray → a.defers = ds → Own w0 F H w → wpAnyC P ops (Behind P w0 F ds fin N k) (fun f => Own w0 F (Hs f)) FT hn fuel listed a w := by
  intro fuel
  induction fuel with
  | zero =>
    intro listed rem pl ms n T H hrep hp hFT done hdone hm hr hN hI a w ha hd hO
    unfold planGo at hp
    split at hp <;> cases hp
    rename_i h0'
    have h0 := ready_nil hrep h0'
    simp [trPlan] at hm; subst hm
    cases n with
    | zero => exact hr.elim
    | succ n => exact ⟨h0, rfl, n, T, H, by omega, hr, ha, hd, hO⟩
  | succ fuel ih =>
    intro listed rem pl ms n T H hrep hp hFT done hdone hm hr hN hI a w ha hd hO
    unfold planGo at hp
    cases n with
    | zero => exact hr.elim
    | succ n =>
    split at hp
    · rename_i h0'
      have h0 := ready_nil hrep h0'
      cases hp
      simp [trPlan] at hm; subst hm
      exact wpAnyC_done h0 ⟨rfl, n, T, H, by omega, hr, ha, hd, hO⟩ _
    · rename_i x h0'
      have h0 := ready_one hrep h0'
      simp only [Option.map_eq_some_iff] at hp
      obtain ⟨pl', hp', rfl⟩ := hp
      obtain ⟨i, xo, xd⟩ := x
      simp only at h0 hp' hm
      unfold trPlan at hm
      split at hm <;> (try (cases hm; done))
      rename_i o ho
      split at hm <;> cases hm
      rename_i m ms' hm' hms
      have hmem : i ∈ Region.ready .any ops listed := by rw [h0]; simp
      have hun := (mem_ready.1 hmem).1
      obtain ⟨hdst, htr⟩ := trOper_dst hm'
      have hr' : guardQ T m.guard (mwp P w0 m.op T H (KP (run P w0 fin n) (.pl Hs ms' :: k) T m.dst Hs (dsOf (masks ops) FT done hn i))) (run P w0 fin n (.pl Hs ms' :: k) (put T m.dst undef) H) := by
        obtain ⟨d, op, g⟩ := m
        cases g with
        | none => exact hr
        | some g => exact hr
      have hle0 : ∀ f, DQ ops FT hn listed i f → Heap.Le (Hs f) H := hI.le hun
      have hFT' : ∀ p ∈ pl', p.2 = true → p.1 ∈ FT := fun p hp => hFT p (by simp [hp])
      refine wpAnyC_sole h0 (wpOp_guard ho hm' ha hr' (fun hy => ?_) (fun hno => ?_))
      · refine mop_sound htr ha hO hy (fun v H' w' hkk ho' => ⟨fun f hi => ho'.mono (hkk.1 f (DQ_ds hdone hi)), ?_⟩)
        exact ih _ _ pl' ms' n _ H' (hrep.drop hun) hp' hFT' (i :: done) (done_next hun hdone) hms hkk.2 (by omega) (hI.next hk hmem fun f hi => hkk.1 f (DQ_ds hdone hi)) _ _ (by rw [hdst]; exact put_eq ha _ _) (by rw [put_defers']; exact hd) ho'
      · refine ⟨fun f hi => hO.mono (hle0 f hi), ?_⟩
        exact ih _ _ pl' ms' n _ H (hrep.drop hun) hp' hFT' (i :: done) (done_next hun hdone) hms hno (by omega) (hI.next hk hmem hle0) _ _ (by rw [hdst]; exact put_eq ha _ _) (by rw [put_defers']; exact hd) hO
    · split at hp <;> (try (cases hp; done))
      rename_i x hf
      simp only [Option.map_eq_some_iff] at hp
      obtain ⟨pl', hp', rfl⟩ := hp
      have hmemL := List.mem_of_find?_eq_some hf
      have hcond := List.find?_some hf
      obtain ⟨i, xo, xd⟩ := x
      have hmem : i ∈ Region.ready .any ops listed := (hrep.ready i).2 ⟨_, hmemL, rfl⟩
      simp only [Bool.and_eq_true] at hcond
      obtain ⟨⟨hin', hfree⟩, hquiet⟩ := hcond
      have hin : i < hn := Nat.lt_of_lt_of_le (Nat.lt_succ_self i) (Nat.le_of_ble_eq_true hin')
      have hxin : (i, xo, xd) ∈ rem := (List.mem_filter.1 hmemL).1
      simp only at hp' hm hquiet
      unfold trPlan at hm
      split at hm <;> (try (cases hm; done))
      rename_i o ho
      split at hm <;> cases hm
      rename_i m ms' hm' hms
      have hun := (mem_ready.1 hmem).1
      obtain ⟨hdst, htr⟩ := trOper_dst hm'
      have hr' : guardQ T m.guard (qv P w0 m.op T (Hs i) (FK (run P w0 fin n) (.pl Hs ms' :: k) T m.dst H)) (run P w0 fin n (.pl Hs ms' :: k) (put T m.dst undef) H) := by
        obtain ⟨d, op, g⟩ := m
        cases g with
        | none => exact hr
        | some g => exact hr
      have hiF : i ∈ FT := hFT (i, true) (by simp) rfl
      have hFT' : ∀ p ∈ pl', p.2 = true → p.1 ∈ FT := fun p hp => hFT p (by simp [hp])
      have hI' : HeadInv .any ops hn listed ∧ ∀ f, AQ ops FT listed f → Heap.Le (Hs f) H := hI.first hun hin
      have hq : m.op.quiet = true := by
        unfold quietAt at hquiet
        rw [ho] at hquiet
        simp only [Option.bind_some, htr] at hquiet
        exact hquiet
      have go : ∀ v, YieldsIf P ops (Own w0 F (Hs i)) o v a → run P w0 fin n (.pl Hs ms' :: k) (put T m.dst v) H → wpAnyC P ops (Behind P w0 F ds fin N k) (fun f => Own w0 F (Hs f)) FT hn (fuel + 1) listed a w := by
        intro v hy hrun
        refine wpAnyC_first ho (Region.noSelect_spec hsel) (fun c a w h => by cases h.1) hk hin hiF fuel listed a w hI'.1 (free_spec' hrep hxin ho hfree) hmem hy (fun f hf => hO.mono (hI'.2 f hf)) ?_
        exact ih _ _ pl' ms' n _ H (hrep.drop hun) hp' hFT' (i :: done) (done_next hun hdone) hms hrun (by omega) (.inl ⟨hI'.1.set hmem hin, fun f hf => hI'.2 f (hf.before hun).1⟩) _ _ (by rw [hdst]; exact put_eq ha _ _) (by rw [put_defers']; exact hd) hO
      have hyes : qv P w0 m.op T (Hs i) (FK (run P w0 fin n) (.pl Hs ms' :: k) T m.dst H) → Region.wanted o (yielded ops a.tmps) = true → wpAnyC P ops (Behind P w0 F ds fin N k) (fun f => Own w0 F (Hs f)) FT hn (fuel + 1) listed a w := by
        intro hqv hw
        obtain ⟨v, hφ, hv⟩ := qv_sound htr hq hqv
        exact go v (.inl ⟨hw, fun w hw => by rw [ev_eq ha]; exact hv w hw⟩) hφ
      have hno : run P w0 fin n (.pl Hs ms' :: k) (put T m.dst undef) H → Region.wanted o (yielded ops a.tmps) = false → wpAnyC P ops (Behind P w0 F ds fin N k) (fun f => Own w0 F (Hs f)) FT hn (fuel + 1) listed a w :=
        fun h hw => go undef (.inr ⟨hw, rfl⟩) h
      have hw := wanted_eq hm' ha
      cases hg : m.guard with
      | none =>
        rw [hg] at hr' hw
        exact hyes hr' hw
      | some dw =>
        obtain ⟨d, want⟩ := dw
        rw [hg] at hr' hw
        simp only [guardQ] at hr'
        replace hw : Region.wanted o (yielded ops a.tmps) = (boolOf (lk T d) == some want) := hw
        generalize lk T d = u at hr' hw
        cases u <;> (try exact hno hr' hw)
        rename_i b
        by_cases hb : b = want
        · exact hyes (hr'.1 hb) (by rw [hw, hb]; simp [boolOf])
        · exact hno (hr'.2 hb) (by rw [hw]; simp [boolOf, hb])

/-- Each of the orders of a tree. -/
theorem altsP_run {k : List It} {hn : Nat} {ops : Array Oper} {Hs : Nat → Heap} {T : List Value} {H : Heap} {ms FT done : List Nat} {f : Nd → Option PI} : ∀ {rs : List Nd} {pt : PI} {t : PT} {n : Nat}, altsP f rs = some pt → trPT P ops ms FT hn done pt = some t → run P w0 fin n (.pt Hs t :: k) T H →
    ∀ x ∈ rs, ∃ p u m, m ≤ n ∧ f x = some p ∧ (∀ i ∈ ptFT p, i ∈ ptFT pt) ∧ trPT P ops ms FT hn done p = some u ∧ run P w0 fin m (.pt Hs u :: k) T H
  | [], pt, t, n, h, _, _ => by simp [altsP] at h
  | [x], pt, t, n, h, ht, hr => by
    intro y hy
    simp at hy; subst hy
    exact ⟨pt, t, n, Nat.le_refl _, h, fun _ h => h, ht, hr⟩
  | x :: y :: xs, pt, t, n, h, ht, hr => by
    intro z hz
    unfold altsP at h
    split at h <;> cases h
    rename_i a b ha hb
    unfold trPT at ht
    split at ht <;> cases ht
    rename_i u v hu hv
    cases n with
    | zero => exact hr.elim
    | succ n =>
      have hr' : run P w0 fin n (.pt Hs u :: k) T H ∧ run P w0 fin n (.pt Hs v :: k) T H := hr
      rcases List.mem_cons.1 hz with rfl | hz
      · exact ⟨a, u, n, Nat.le_succ _, ha, fun i hi => by simp [ptFT, hi], hu, hr'.1⟩
      · obtain ⟨p, w, m, h1, h2, h5, h3, h4⟩ := altsP_run hb hv hr'.2 z hz
        exact ⟨p, w, m, by omega, h2, fun i hi => by simp [ptFT, h5 i hi], h3, h4⟩
theorem pt_sound {ops : Array Oper} {k : List It} {hn : Nat} {Hs : Nat → Heap} {FT : List Nat} (hsel : Region.noSelect ops = true) (hk : headOk .any ops hn = true) {N : Nat} :
    ∀ (fuel : Nat) (listed : Array Bool) (rem : List Nd) (pl : PI) (ms : PT) (n : Nat) (T : List Value) (H : Heap), Rep ops listed rem → planT P ops hn fuel rem = some pl → (∀ f ∈ ptFT pl, f ∈ FT) → ∀ done, (∀ k ∈ done, listed.getD k false = true) → trPT P ops (masks ops) FT hn done pl = some ms →
    run P w0 fin n (.pt Hs ms :: k) T H → n ≤ N → PInv ops FT hn Hs H listed → ∀ a w, a.tmps = T.toArray → a.defers = ds → Own w0 F H w → wpAnyC P ops (Behind P w0 F ds fin N k) (fun f => Own w0 F (Hs f)) FT hn fuel listed a w := by
  intro fuel
  induction fuel with
  | zero =>
    intro listed rem pl ms n T H hrep hp hFT done hdone hm hr hN hI a w ha hd hO
    unfold planT at hp
    split at hp <;> cases hp
    rename_i h0'
    have h0 := ready_nil hrep h0'
    simp [trPT] at hm; subst hm
    cases n with
    | zero => exact hr.elim
    | succ n => exact ⟨h0, rfl, n, T, H, by omega, hr, ha, hd, hO⟩
  | succ fuel ih =>
    intro listed rem pl ms n T H hrep hp hFT done hdone hm hr hN hI a w ha hd hO
    have one : ∀ (i : Nat) (pl' : PI) (u : PT) (m0 : Nat), m0 ≤ N → i ∈ Region.ready .any ops listed → planT P ops hn fuel (dropN i rem) = some pl' → (∀ f ∈ ptFT pl', f ∈ FT) → trPT P ops (masks ops) FT hn done (.one i false pl') = some u → run P w0 fin m0 (.pt Hs u :: k) T H →
        wpOp P ops (Behind P w0 F ds fin N k) i (fun a' w' => (∀ f, DQ ops FT hn listed i f → Own w0 F (Hs f) w') ∧ wpAnyC P ops (Behind P w0 F ds fin N k) (fun f => Own w0 F (Hs f)) FT hn fuel (listed.setIfInBounds i true) a' w') a w := by
      intro i pl' u m0 hN hmem hp' hFT' hm hr
      cases m0 with
      | zero => exact hr.elim
      | succ n =>
        unfold trPT at hm
        split at hm <;> (try (cases hm; done))
        rename_i o ho
        split at hm <;> cases hm
        rename_i m ms' hm' hms
        have hun := (mem_ready.1 hmem).1
        obtain ⟨hdst, htr⟩ := trOper_dst hm'
        have hr' : guardQ T m.guard (mwp P w0 m.op T H (KP (run P w0 fin n) (.pt Hs ms' :: k) T m.dst Hs (dsOf (masks ops) FT done hn i))) (run P w0 fin n (.pt Hs ms' :: k) (put T m.dst undef) H) := by
          obtain ⟨d, op, g⟩ := m
          cases g with
          | none => exact hr
          | some g => exact hr
        have hle0 : ∀ f, DQ ops FT hn listed i f → Heap.Le (Hs f) H := hI.le hun
        refine wpOp_guard ho hm' ha hr' (fun hy => ?_) (fun hno => ?_)
        · refine mop_sound htr ha hO hy (fun v H' w' hkk ho' => ⟨fun f hi => ho'.mono (hkk.1 f (DQ_ds hdone hi)), ?_⟩)
          exact ih _ _ pl' ms' n _ H' (hrep.drop hun) hp' hFT' (i :: done) (done_next hun hdone) hms hkk.2 (by omega) (hI.next hk hmem fun f hi => hkk.1 f (DQ_ds hdone hi)) _ _ (by rw [hdst]; exact put_eq ha _ _) (by rw [put_defers']; exact hd) ho'
        · refine ⟨fun f hi => hO.mono (hle0 f hi), ?_⟩
          exact ih _ _ pl' ms' n _ H (hrep.drop hun) hp' hFT' (i :: done) (done_next hun hdone) hms hno (by omega) (hI.next hk hmem hle0) _ _ (by rw [hdst]; exact put_eq ha _ _) (by rw [put_defers']; exact hd) hO
    unfold planT at hp
    cases n with
    | zero => exact hr.elim
    | succ n =>
    split at hp
    · rename_i h0'
      have h0 := ready_nil hrep h0'
      cases hp
      simp [trPT] at hm; subst hm
      exact wpAnyC_done h0 ⟨rfl, n, T, H, by omega, hr, ha, hd, hO⟩ _
    · rename_i x h0'
      have h0 := ready_one hrep h0'
      simp only [Option.map_eq_some_iff] at hp
      obtain ⟨pl', hp', rfl⟩ := hp
      obtain ⟨i, xo, xd⟩ := x
      simp only at h0 hp' hm
      exact wpAnyC_sole h0 (one i pl' ms (n + 1) hN (by rw [h0]; simp) hp' (fun f hf => hFT f (by simpa [ptFT] using hf)) hm hr)
    · split at hp
      rotate_left
      · -- each of those that are ready
        split at hp <;> (try (cases hp; done))
        refine ⟨fun h0 => ?_, fun j hj => ?_⟩
        · exfalso
          cases hrl : readyL rem with
          | nil => exact absurd hrl (by assumption)
          | cons x xs =>
            have := (hrep.ready x.1).2 ⟨x, by rw [hrl]; simp, rfl⟩
            rw [h0] at this; cases this
        · obtain ⟨x, hx, rfl⟩ := (hrep.ready j).1 hj
          obtain ⟨p, u, m0, h1, h2, h5, h3, h4⟩ := altsP_run hp hm hr x hx
          simp only [Option.map_eq_some_iff] at h2
          obtain ⟨pl', hp', rfl⟩ := h2
          exact one x.1 pl' u m0 (by omega) hj hp' (fun f hf => hFT f (h5 f (by simpa [ptFT] using hf))) h3 h4
      rename_i x hf
      simp only [Option.map_eq_some_iff] at hp
      obtain ⟨pl', hp', rfl⟩ := hp
      have hmemL := List.mem_of_find?_eq_some hf
      have hcond := List.find?_some hf
      obtain ⟨i, xo, xd⟩ := x
      have hmem : i ∈ Region.ready .any ops listed := (hrep.ready i).2 ⟨_, hmemL, rfl⟩
      simp only [Bool.and_eq_true] at hcond
      obtain ⟨⟨hin', hfree⟩, hquiet⟩ := hcond
      have hin : i < hn := Nat.lt_of_lt_of_le (Nat.lt_succ_self i) (Nat.le_of_ble_eq_true hin')
      have hxin : (i, xo, xd) ∈ rem := (List.mem_filter.1 hmemL).1
      simp only at hp' hm hquiet
      unfold trPT at hm
      split at hm <;> (try (cases hm; done))
      rename_i o ho
      split at hm <;> cases hm
      rename_i m ms' hm' hms
      have hun := (mem_ready.1 hmem).1
      obtain ⟨hdst, htr⟩ := trOper_dst hm'
      have hr' : guardQ T m.guard (qv P w0 m.op T (Hs i) (FK (run P w0 fin n) (.pt Hs ms' :: k) T m.dst H)) (run P w0 fin n (.pt Hs ms' :: k) (put T m.dst undef) H) := by
        obtain ⟨d, op, g⟩ := m
        cases g with
        | none => exact hr
        | some g => exact hr
      have hiF : i ∈ FT := hFT i (by simp [ptFT])
      have hFT' : ∀ f ∈ ptFT pl', f ∈ FT := fun f hf => hFT f (by simp [ptFT, hf])
      have hI' : HeadInv .any ops hn listed ∧ ∀ f, AQ ops FT listed f → Heap.Le (Hs f) H := hI.first hun hin
      have hq : m.op.quiet = true := by
        unfold quietAt at hquiet
        rw [ho] at hquiet
        simp only [Option.bind_some, htr] at hquiet
        exact hquiet
      have go : ∀ v, YieldsIf P ops (Own w0 F (Hs i)) o v a → run P w0 fin n (.pt Hs ms' :: k) (put T m.dst v) H → wpAnyC P ops (Behind P w0 F ds fin N k) (fun f => Own w0 F (Hs f)) FT hn (fuel + 1) listed a w := by
        intro v hy hrun
        refine wpAnyC_first ho (Region.noSelect_spec hsel) (fun c a w h => by cases h.1) hk hin hiF fuel listed a w hI'.1 (free_spec' hrep hxin ho hfree) hmem hy (fun f hf => hO.mono (hI'.2 f hf)) ?_
        exact ih _ _ pl' ms' n _ H (hrep.drop hun) hp' hFT' (i :: done) (done_next hun hdone) hms hrun (by omega) (.inl ⟨hI'.1.set hmem hin, fun f hf => hI'.2 f (hf.before hun).1⟩) _ _ (by rw [hdst]; exact put_eq ha _ _) (by rw [put_defers']; exact hd) hO
      have hyes : qv P w0 m.op T (Hs i) (FK (run P w0 fin n) (.pt Hs ms' :: k) T m.dst H) → Region.wanted o (yielded ops a.tmps) = true → wpAnyC P ops (Behind P w0 F ds fin N k) (fun f => Own w0 F (Hs f)) FT hn (fuel + 1) listed a w := by
        intro hqv hw
        obtain ⟨v, hφ, hv⟩ := qv_sound htr hq hqv
        exact go v (.inl ⟨hw, fun w hw => by rw [ev_eq ha]; exact hv w hw⟩) hφ
      have hno : run P w0 fin n (.pt Hs ms' :: k) (put T m.dst undef) H → Region.wanted o (yielded ops a.tmps) = false → wpAnyC P ops (Behind P w0 F ds fin N k) (fun f => Own w0 F (Hs f)) FT hn (fuel + 1) listed a w :=
        fun h hw => go undef (.inr ⟨hw, rfl⟩) h
      have hw := wanted_eq hm' ha
      cases hg : m.guard with
      | none =>
        rw [hg] at hr' hw
        exact hyes hr' hw
      | some dw =>
        obtain ⟨d, want⟩ := dw
        rw [hg] at hr' hw
        simp only [guardQ] at hr'
        replace hw : Region.wanted o (yielded ops a.tmps) = (boolOf (lk T d) == some want) := hw
        generalize lk T d = u at hr' hw
        cases u <;> (try exact hno hr' hw)
        rename_i b
        by_cases hb : b = want
        · exact hyes (hr'.1 hb) (by rw [hw, hb]; simp [boolOf])
        · exact hno (hr'.2 hb) (by rw [hw]; simp [boolOf, hb])

/-! ### The machine -/

/-- How a frame comes to its end: under which callers, and where the machine stands then. -/
structure Xf where
  ok : List Frame → Prop
  fin : List Frame → Machine → Prop

/-- From here on the frame comes to its end. -/
def Good (P : Program) (b : Frame) (X : Xf) (todo : List Item) (a : Act) (w : World) : Prop :=
  ∀ cs, X.ok cs → ∃ m, X.fin cs m ∧ Steps P (lone (b.atR a todo) cs w) m

theorem Good.steps {b : Frame} {X : Xf} {todo todo' : List Item} {a a' : Act} {w w' : World} (hs : ∀ cs, Steps P (lone (b.atR a todo) cs w) (lone (b.atR a' todo') cs w')) (h : Good P b X todo' a' w') : Good P b X todo a w := by
  intro cs hcs
  obtain ⟨m, h1, h2⟩ := h cs hcs
  exact ⟨m, h1, (hs cs).trans h2⟩

theorem Good.region {b : Frame} (hb : b.roundOf = none) {X : Xf} {id : Nat} {ops : Array Oper} {d : Bool} {k : List Item} {a : Act} {w : World} {Q : Exit → Act → World → Prop} (h : (Code.region id ops d).wp P Q a w)
    (hq : ∀ e a' w', Q e a' w' → e = .normal ∧ Good P b X k a' w') : Good P b X (.code (.region id ops d) :: k) a w := by
  intro cs hcs
  obtain ⟨e, a', w', hQ, harr⟩ := h b k cs
  obtain ⟨rfl, hg⟩ := hq _ _ _ hQ
  obtain ⟨m, h1, h2⟩ := hg cs hcs
  rw [Frame.atR_of_none hb] at h2 ⊢
  exact ⟨m, h1, Steps.trans harr h2⟩

/-- The marks of a frame's loops over functions: they are its own, and stand. -/
def mkD (r : Nat) : Deferred := { target := .collected r, args := #[] }
structure Mk (F0 F : Nat → Prop) (rs : List Nat) : Prop where
  nd : rs.Nodup
  new : ∀ r ∈ rs, ¬ F0 r ∧ F r
  le : ∀ r, F0 r → F r
theorem Mk.refl (F : Nat → Prop) : Mk F F [] := ⟨List.nodup_nil, fun _ h => by simp at h, fun _ h => h⟩

theorem Own.weak {F F' : Nat → Prop} {H : Heap} {w : World} (h : Own w0 F H w) (hf : ∀ r, F' r → F r) : Own w0 F' H w := ⟨h.below, h.blk, fun r hr => h.dfr r (hf r hr)⟩

theorem Own.take {F : Nat → Prop} {H : Heap} {w : World} {r : Nat} (h : Own w0 F H w) (hr : F r) (hw : w0.heap.size ≤ r) :
    (Instr.takeDeferred r).run P w = .ok [] { w with heap := w.heap.setIfInBounds r (.deferred none) } ∧ Own w0 (fun x => F x ∧ x ≠ r) H { w with heap := w.heap.setIfInBounds r (.deferred none) } := by
  have hd := h.dfr r hr
  refine ⟨?_, ?_, fun b x hx => ?_, fun x hx => ?_⟩
  · simp [Instr.takeDeferred, Go.getObj, Go.setObj, Sem.run, hd]
  · have hbl := h.below
    refine ⟨hbl.os, hbl.tape, hbl.output, by simpa using hbl.size, fun k hk => ?_⟩
    rw [← hbl.block k hk]
    show (w.heap.setIfInBounds r (.deferred none))[k]? = _
    rw [Array.getElem?_setIfInBounds_ne (by omega)]
  · obtain ⟨h1, h2⟩ := h.blk b x hx
    refine ⟨h1, ?_⟩
    have hne : b ≠ r := fun e => by
      subst e
      rw [hd] at h2
      unfold Blk.In at h2
      split at h2
      · obtain ⟨_, e⟩ := h2; cases e
      · obtain ⟨-, e, hl⟩ := h2; cases e; exact hl
    show x.In (w.heap.setIfInBounds r (.deferred none))[b]?
    rw [Array.getElem?_setIfInBounds_ne (Ne.symm hne)]; exact h2
  · show (w.heap.setIfInBounds r (.deferred none))[x]? = _
    rw [Array.getElem?_setIfInBounds_ne (Ne.symm hx.2)]; exact h.dfr x hx.1

/-- At a frame's end the marks are taken. -/
theorem take_marks {F0 : Nat → Prop} {H : Heap} {fr : Frame} {cs : List Frame} (hm : fr.mode = .returning) : ∀ (rs : List Nat) (F : Nat → Prop) (w : World), Mk F0 F rs → (∀ r ∈ rs, w0.heap.size ≤ r) → Own w0 F H w → fr.defers = rs.map mkD →
    ∃ w', Steps P (lone fr cs w) (lone { fr with defers := [] } cs w') ∧ Own w0 F0 H w'
  | [], F, w, hk, _, hO, hd => by
    refine ⟨w, ?_, hO.weak hk.le⟩
    have : { fr with defers := [] } = fr := by cases fr; simp at hd; simp [hd]
    rw [this]; exact .refl _ _
  | r :: rs, F, w, hk, hge, hO, hd => by
    obtain ⟨h1, h2⟩ := hO.take (P := P) (hk.new r (by simp)).2 (hge r (by simp))
    have hnd := List.nodup_cons.1 hk.nd
    have hk' : Mk F0 (fun x => F x ∧ x ≠ r) rs := ⟨hnd.2, fun x hx => ⟨(hk.new x (by simp [hx])).1, (hk.new x (by simp [hx])).2, fun e => by subst e; exact hnd.1 hx⟩, fun x hx => ⟨hk.le x hx, fun e => by subst e; exact (hk.new x (by simp)).1 hx⟩⟩
    obtain ⟨w', hs, ho⟩ := take_marks (fr := { fr with defers := rs.map mkD }) (cs := cs) hm rs _ _ hk' (fun x hx => hge x (by simp [hx])) h2 rfl
    refine ⟨w', .head (step_lone_go ?_) hs, ho⟩
    have hd' : fr.defers = { target := .collected r, args := #[] } :: rs.map mkD := hd
    simp [stepG, unwind, hm, hd', Sem.runT_eq, h1, GStep.bare_after]

/-- The code of a function, or of a round. -/
def trR (ro : Option Nat) (P : Program) (c : Code) : Option MC := match ro with
  | none => trCode P c
  | some _ => trBody P c

/-- The stack of resolved code fits the machine's. -/
inductive Rel (P : Program) (w0 : World) (ro : Option Nat) (G : (Nat → Prop) → List Deferred → List Item → Act → World → Prop) : List It → List Item → Prop where
  | nil : Rel P w0 ro G [] []
  | code {c : Code} {m : MC} {k : List It} {k' : List Item} : trR ro P c = some m → Rel P w0 ro G k k' → Rel P w0 ro G (.code m :: k) (.code c :: k')
  | blk {id : Nat} {k : List It} {k' : List Item} : Rel P w0 ro G k k' → Rel P w0 ro G (.blk id :: k) (.inBlock id :: k')
  | chk {Φ : List Value → Heap → Prop} {c : Code} {k : List It} {k' : List Item} : (∀ F ds T H a w, Φ T H → a.tmps = T.toArray → a.defers = ds → Own w0 F H w → G F ds (.inLoop c :: k') a w) → Rel P w0 ro G k k' →
      Rel P w0 ro G (.chk Φ :: k) (.inLoop c :: k')
  | lp {m : MC} {c : Code} {k : List It} {k' : List Item} : trR ro P c = some m → Rel P w0 ro G k k' → Rel P w0 ro G (.lp m :: k) (.inLoop c :: k')
  | scp {c : Code} {k : List It} {k' : List Item} : Rel P w0 ro G k k' → Rel P w0 ro G (.scp :: k) (.inScope c :: k')
  | bgn {l : Nat} {L : Loop} {k : List It} {k' : List Item} : ro = some l → Rel P w0 ro G k k' → Rel P w0 ro G (.bgn l L :: k) (.beginRound :: k')

theorem Rel.exit {ro : Option Nat} {G : (Nat → Prop) → List Deferred → List Item → Act → World → Prop} {id : Nat} : ∀ {k : List It} {k' : List Item} {r : List It}, Rel P w0 ro G k k' → exitIt id k = some r → ∃ r', exitTo id k' = some r' ∧ Rel P w0 ro G r r'
  | _, _, r, .nil, h => by simp [exitIt] at h
  | _, _, r, .code _ hk, h => by
    simp only [exitIt] at h
    obtain ⟨r', h1, h2⟩ := hk.exit h
    exact ⟨r', by simpa [exitTo] using h1, h2⟩
  | _, _, r, .chk _ hk, h => by
    simp only [exitIt] at h
    obtain ⟨r', h1, h2⟩ := hk.exit h
    exact ⟨r', by simpa [exitTo] using h1, h2⟩
  | _, _, r, .lp _ hk, h => by
    simp only [exitIt] at h
    obtain ⟨r', h1, h2⟩ := hk.exit h
    exact ⟨r', by simpa [exitTo] using h1, h2⟩
  | _, _, r, .scp hk, h => by
    simp only [exitIt] at h
    obtain ⟨r', h1, h2⟩ := hk.exit h
    exact ⟨r', by simpa [exitTo] using h1, h2⟩
  | _, _, r, .bgn _ hk, h => by
    simp only [exitIt] at h
    obtain ⟨r', h1, h2⟩ := hk.exit h
    exact ⟨r', by simpa [exitTo] using h1, h2⟩
  | _, _, r, .blk (id := id') hk, h => by
    simp only [exitIt] at h
    split at h
    · rename_i he
      cases h
      exact ⟨_, by simp [exitTo, he], hk⟩
    · rename_i he
      obtain ⟨r', h1, h2⟩ := hk.exit h
      exact ⟨r', by simp only [exitTo]; rw [if_neg (by simpa using he)]; exact h1, h2⟩

theorem trOp_nodefer {o : Oper} {mo : MO} (h : trOp P o = some mo) (c : Call) : o.op ≠ .defer c := fun e => by
  obtain ⟨dst, op, ty, pos, after, guard⟩ := o
  have e' : op = .defer c := e
  subst e'
  simp [trOp] at h

theorem y_mwp {op : MO} {T : List Value} {H : Heap} {K : Value → Heap → Prop} (h : mwp P w0 op.y T H K) : (∃ x args, op = .callv x args ∧ yvQ P w0 H K (ev T x) (args.map (ev T))) ∨ mwp P w0 op T H K := by
  cases op <;> first | exact .inr h | exact .inl ⟨_, _, rfl, h⟩

/-- A region in its text's order. -/
theorem ops_good {b : Frame} {X : Xf} {ops : Array Oper} {k : List It} {todo : List Item} {N : Nat}
    (back : ∀ m T H, m < N → run P w0 fin m k T H → ∀ (a : Act) w, a.tmps = T.toArray → a.defers = ds → Own w0 F H w → Good P b X todo a w) :
    ∀ (n : Nat) (is : List Nat) (l : List MOp) (T : List Value) (H : Heap), trOps P ops is = some l → run P w0 fin n (.ops l :: k) T H → n ≤ N →
    ∀ (a : Act) w, a.tmps = T.toArray → a.defers = ds → Own w0 F H w → Good P b X (.inRegion ops is :: todo) a w
  | 0, _, _, _, _, _, h => h.elim
  | n + 1, [], l, T, H, hl, h => by
    intro hN a w ha hd hO
    simp [trOps] at hl; subst hl
    exact Good.steps (fun cs => .one stepR_region_end) (back n T H (by omega) h a w ha hd hO)
  | n + 1, i :: is, l, T, H, hl, h => by
    intro hN a w ha hd hO
    unfold trOps at hl
    split at hl <;> (try (cases hl; done))
    rename_i o ho
    split at hl <;> cases hl
    rename_i m ms hm hms
    have h' : guardQ T m.guard (mwp P w0 m.op.y T H (KK (run P w0 fin n) (.ops ms :: k) T m.dst)) (run P w0 fin n (.ops ms :: k) (put T m.dst undef) H) := by
      obtain ⟨d, op, g⟩ := m
      cases g with
      | none => exact h
      | some g => exact h
    obtain ⟨hdst, htr⟩ := trOper_dst hm
    have hnext : ∀ v H' w', run P w0 fin n (.ops ms :: k) (put T m.dst v) H' → Own w0 F H' w' → Good P b X (.inRegion ops is :: todo) (a.put o.dst v) w' := fun v H' w' hr ho' =>
      ops_good back n is ms (put T m.dst v) H' hms hr (by omega) _ _ (by rw [hdst]; exact put_eq ha _ _) (by rw [put_defers']; exact hd) ho'
    have hfin : ∀ v, (b.atR a (.inRegion ops (i :: is) :: todo)).finish v = b.atR (a.put o.dst v) (.inRegion ops is :: todo) := fun v => by rw [Frame.finish_atR, ho]; rfl
    have hw := wanted_eq hm ha
    have no : Region.wanted o (yielded ops a.tmps) = false → run P w0 fin n (.ops ms :: k) (put T m.dst undef) H → Good P b X (.inRegion ops (i :: is) :: todo) a w := fun hf hr => by
      refine Good.steps (fun cs => .one (stepR_op_skip (by rw [ho]; exact hf))) ?_
      rw [ho]
      exact hnext undef H w hr hO
    have yes : Region.wanted o (yielded ops a.tmps) = true → mwp P w0 m.op.y T H (KK (run P w0 fin n) (.ops ms :: k) T m.dst) → Good P b X (.inRegion ops (i :: is) :: todo) a w := fun ht hy => by
      have hg : ∀ cs w, stepG P true { frame := b.atR a (.inRegion ops (i :: is) :: todo), callers := cs, status := .running, dying := none } w = stepG.apply P true (b.atR a (.inRegion ops (i :: is) :: todo)) cs none (execOp (ev T) o) w := fun cs w => by
        rw [stepGR_op ho ht, Oper.semAt_eq _ _ _ (trOp_nodefer htr), ev_eq ha]
      have run' : ((∃ u H' w', ((execOp (ev T) o).run P w = .ok (.value u) w' ∨ (u = undef ∧ (execOp (ev T) o).run P w = .ok .skip w')) ∧ KK (run P w0 fin n) (.ops ms :: k) T m.dst u H' ∧ Own w0 F H' w') ∨
          (∃ f args, (execOp (ev T) o).run P w = .ok (.enter f args.toArray) w ∧ HCalls P w0 f args H (KK (run P w0 fin n) (.ops ms :: k) T m.dst))) → Good P b X (.inRegion ops (i :: is) :: todo) a w := by
        rintro (⟨u, H', w', hr, hk, ho'⟩ | ⟨f, args, hr, hc⟩)
        · refine Good.steps (fun cs => .one (step_lone_go ?_)) (hnext u H' w' hk ho')
          rw [hg, ← hfin]
          rcases hr with hr | ⟨rfl, hr⟩ <;> simp [stepG.apply, hr]
        · intro cs hcs
          obtain ⟨e, w', fr, ⟨v, H', he, hk, ho'⟩, hs, -, hlv⟩ := hc.2 w hO (b.atR a (.inRegion ops (i :: is) :: todo) :: cs)
          subst he
          obtain ⟨m', hm1, hm2⟩ := hnext v H' w' hk ho' cs hcs
          refine ⟨m', hm1, .head (m₁ := lone (Frame.enter P f args.toArray .normal) (b.atR a (.inRegion ops (i :: is) :: todo) :: cs) w) (step_lone_go ?_) (Steps.trans hs (.head (step_leave_returned hlv) ?_))⟩
          · rw [hg]; simp [stepG.apply, hr, Frame.atR]
          · rw [hfin]; exact hm2
      rcases y_mwp hy with ⟨x, args, hop, hyv⟩ | hmw
      · unfold yvQ at hyv
        split at hyv <;> (try exact hyv.elim)
        · rename_i f fs cs0 hx
          refine run' (mop_run htr hO ?_)
          rw [hop]
          show callvQ P w0 H _ (ev T x) (args.map (ev T))
          unfold callvQ
          rw [hx]; exact hyv
        · rename_i l fs cs0 hx
          obtain ⟨fn, tmps, assign, body, hyr, hst⟩ := hyv.1 w hO
          have hr : (execOp (ev T) o).run P w = .ok (.round l fn tmps assign body) w := by
            obtain ⟨dst, op, ty, pos, after, guard⟩ := o
            rw [hop] at htr
            have hcall : ∃ c : Call, op = .call c ∧ c.callee = .value x ∧ c.args.toList = args := by
              cases op
              case call c =>
                refine ⟨c, rfl, ?_⟩
                simp only [trOp, trCall] at htr
                split at htr <;> (try (cases htr; done))
                · (repeat' (split at htr)) <;> cases htr
                · rename_i x' _ hcal; cases htr; exact ⟨hcal, rfl⟩
                all_goals ((repeat' (split at htr)) <;> cases htr)
              case binOp op' t x' y' yt =>
                exfalso
                simp only [trOp, trBin] at htr
                have e0 : ∀ f : Bool → MO, (∀ b, ∀ x a, f b ≠ .callv x a) → trEq op' f = some (.callv x args) → False := fun f hf he => by
                  obtain ⟨neg, _, e⟩ := trEq_some he
                  exact hf neg _ _ e.symm
                have e1 : trEqa P op' t x' y' = some (.callv x args) → False := fun he => by
                  unfold trEqa at he
                  split at he <;> (try (cases he; done))
                  split at he <;> (try (cases he; done))
                  exact e0 _ (fun _ _ _ h => by cases h) he
                split at htr <;> first | (cases htr; done) | exact e1 htr | exact e0 _ (fun _ _ _ h => by cases h) htr
              case slice t' x' lo hi mx => exfalso; cases lo <;> cases hi <;> cases mx <;> simp only [trOp] at htr <;> (repeat' (split at htr)) <;> cases htr
              case makeFunc f' a' b' => exfalso; cases f' <;> simp only [trOp] at htr <;> (repeat' (split at htr)) <;> cases htr
              case makeMap t' r' => exfalso; cases r' <;> simp only [trOp] at htr <;> cases htr
              case next x' b' => exfalso; cases b' <;> simp only [trOp] at htr <;> cases htr
              all_goals (exfalso; simp only [trOp] at htr; (repeat' (split at htr)); all_goals cases htr)
            obtain ⟨c, rfl, hcal, hargs⟩ := hcall
            simp only [execOp, resolve, hcal, hx, Deferred.ofValue, Sem.run_bind, Sem.run_pure, Result.andThen_ok, invoke]
            have hA : fs ++ c.args.map (ev T) = (fs.toList ++ args.map (ev T)).toArray := by apply Array.ext'; simp [← hargs]
            rw [hA]; exact hyr
          intro cs hcs
          obtain ⟨v, H', w', hk, ho', hs⟩ := hst (b.atR a (.inRegion ops (i :: is) :: todo)) cs
          obtain ⟨m', hm1, hm2⟩ := hnext v H' w' hk ho' cs hcs
          refine ⟨m', hm1, .head (m₁ := lone (Frame.round l fn tmps assign body .normal) (b.atR a (.inRegion ops (i :: is) :: todo) :: cs) w) (step_lone_go ?_) (Steps.trans hs ?_)⟩
          · rw [hg]; simp [stepG.apply, hr, Frame.atR]
          · rw [hfin]; exact hm2
      · exact run' (mop_run htr hO hmw)
    cases hg : m.guard with
    | none =>
      rw [hg] at h' hw
      exact yes hw h'
    | some dw =>
      obtain ⟨d, want⟩ := dw
      rw [hg] at h' hw
      simp only [guardQ] at h'
      replace hw : Region.wanted o (yielded ops a.tmps) = (boolOf (lk T d) == some want) := hw
      generalize lk T d = u at h' hw
      cases u <;> (try exact no hw h')
      rename_i b'
      by_cases hb : b' = want
      · exact yes (by rw [hw, hb]; simp [boolOf]) (h'.1 hb)
      · exact no (by rw [hw]; simp [boolOf, hb]) (h'.2 hb)

theorem trR_seq {ro : Option Nat} {x y : Code} {m : MC} (h : trR ro P (.seq x y) = some m) : ∃ a b, m = .seq a b ∧ trR ro P x = some a ∧ trR ro P y = some b := by
  cases ro <;> simp only [trR, trCode, trBody] at h ⊢ <;> split at h <;> cases h <;> exact ⟨_, _, rfl, by assumption, by assumption⟩
theorem trR_cond {ro : Option Nat} {c : Operand} {x y : Code} {m : MC} (h : trR ro P (.cond c x y) = some m) : ∃ a b, m = .cond c a b ∧ trR ro P x = some a ∧ trR ro P y = some b := by
  cases ro <;> simp only [trR, trCode, trBody] at h ⊢ <;> split at h <;> cases h <;> exact ⟨_, _, rfl, by assumption, by assumption⟩
theorem trR_block {ro : Option Nat} {id : Nat} {x : Code} {m : MC} (h : trR ro P (.block id x) = some m) : ∃ a, m = .block id a ∧ trR ro P x = some a := by
  cases ro <;> simp only [trR, trCode, trBody] at h ⊢ <;> split at h <;> cases h <;> exact ⟨_, rfl, by assumption⟩
theorem trR_loop {ro : Option Nat} {x : Code} {m : MC} (h : trR ro P (.loop x) = some m) : ∃ a, m = .loop a ∧ trR ro P x = some a := by
  cases ro <;> simp only [trR, trCode, trBody] at h ⊢ <;> split at h <;> cases h <;> exact ⟨_, rfl, by assumption⟩
theorem trR_scope {ro : Option Nat} {x : Code} {m : MC} (h : trR ro P (.scope x) = some m) : ∃ a, m = .scope a ∧ trR ro P x = some a := by
  cases ro <;> simp only [trR, trCode, trBody] at h ⊢ <;> split at h <;> cases h <;> exact ⟨_, rfl, by assumption⟩
theorem trR_exit {ro : Option Nat} {id : Nat} {m : MC} (h : trR ro P (.exit id) = some m) : m = .exit id := by
  cases ro <;> simp only [trR, trCode, trBody] at h <;> cases h <;> rfl
theorem trR_skip {ro : Option Nat} {m : MC} (h : trR ro P .skip = some m) : m = .skip := by
  cases ro <;> simp only [trR, trCode, trBody] at h <;> cases h <;> rfl
theorem trR_label {ro : Option Nat} {l : Nat} {m : MC} (h : trR ro P (.label l) = some m) : m = .skip := by
  cases ro <;> simp only [trR, trCode, trBody] at h <;> cases h <;> rfl
theorem trR_ret {ro : Option Nat} {m : MC} (h : trR ro P .ret = some m) : m = .ret ∧ ro = none := by
  cases ro <;> simp only [trR, trCode, trBody] at h <;> cases h
  exact ⟨rfl, rfl⟩
theorem trR_rf {ro : Option Nat} {f : Operand} {ps : Array Tmp} {x y : Code} {m : MC} (h : trR ro P (.rangeFunc f ps x y) = some m) : ro = none ∧ ∃ a b, m = .rangef f ps.toList a b ∧ trBody P x = some a ∧ trBody P y = some b := by
  cases ro <;> simp only [trR, trCode, trBody] at h
  · split at h <;> cases h
    exact ⟨rfl, _, _, rfl, by assumption, by assumption⟩
  · cases h
theorem trR_region {ro : Option Nat} {id : Nat} {ops : Array Oper} {d : Bool} {m : MC} (h : trR ro P (.region id ops d) = some m) :
    (d = false ∧ ∃ l, m = .reg l ∧ trOps P ops (List.range ops.size) = some l) ∨ (d = true ∧ (ro = none ∨ noDefer ops = true) ∧ trAny P ops = some m) := by
  cases ro <;> cases d <;> simp only [trR, trCode, trBody] at h
  · split at h <;> cases h
    exact .inl ⟨rfl, _, rfl, by assumption⟩
  · exact .inr ⟨rfl, .inl rfl, h⟩
  · split at h <;> cases h
    exact .inl ⟨rfl, _, rfl, by assumption⟩
  · split at h
    · exact .inr ⟨rfl, .inr (by assumption), h⟩
    · cases h

/-- An order of a region, gone through in any frame. -/
theorem wpOps_good {b : Frame} {X : Xf} {ops : Array Oper} {todo : List Item} {Q : Exit → Act → World → Prop} (hnd : noDefer ops = true) (hq : ∀ e a w, Q e a w → e = .normal ∧ Good P b X todo a w) :
    ∀ (l : List Nat) (a : Act) (w : World), wpOps P ops Q l a w → Good P b X (.inRegion ops l :: todo) a w
  | [], a, w, h => Good.steps (fun cs => .one stepR_region_end) (hq _ _ _ h).2
  | i :: rest, a, w, h => by
    have ih := wpOps_good hnd hq rest
    have noOut : ¬ LetsOut Q := fun ⟨a, w, h⟩ => by cases (hq _ _ _ h).1
    have fin : ∀ v, (b.atR a (.inRegion ops (i :: rest) :: todo)).finish v = b.atR (a.put ((ops[i]?).bind (·.dst)) v) (.inRegion ops rest :: todo) := fun v => Frame.finish_atR b a ops i rest todo v
    simp only [wpOps] at h
    cases ho : ops[i]? with
    | none =>
      simp only [ho] at h
      refine Good.steps (fun cs => .one (stepR_op_skip (by simp [ho]))) ?_
      simp only [ho, Option.bind_none, Act.put]
      exact ih a w h
    | some o =>
      simp only [ho] at h
      by_cases hw : Region.wanted o (yielded ops a.tmps) = true
      · simp only [hw, if_true] at h
        have h := h.resolve_right fun h => noOut h.2
        simp only [Oper.wp, Oper.upon] at h
        have hnd' : ∀ c, o.op ≠ .defer c := fun c hc => by
          have hmem : o ∈ ops := Array.mem_of_getElem? ho
          have := (Array.all_eq_true'.1 hnd) o hmem
          rw [hc] at this; cases this
        have hg : ∀ cs w, stepG P true { frame := b.atR a (.inRegion ops (i :: rest) :: todo), callers := cs, status := .running, dying := none } w = stepG.apply P true (b.atR a (.inRegion ops (i :: rest) :: todo)) cs none (execOp a.eval o) w := fun cs w => by
          rw [stepGR_op ho hw, Oper.semAt_eq _ _ _ hnd']
        have fin' : ∀ v, (b.atR a (.inRegion ops (i :: rest) :: todo)).finish v = b.atR (a.put o.dst v) (.inRegion ops rest :: todo) := fun v => by rw [fin, ho]; rfl
        split at h
        · rename_i v w' hr
          refine Good.steps (fun cs => .one (step_lone_go ?_)) (ih _ _ h)
          rw [hg, ← fin']; simp [stepG.apply, hr]
        · rename_i w' hr
          refine Good.steps (fun cs => .one (step_lone_go ?_)) (ih _ _ h)
          rw [hg, ← fin']; simp [stepG.apply, hr]
        · rename_i d w' hr
          refine Good.steps (fun cs => .one (step_lone_go ?_)) (ih _ _ h)
          have : ({ b.atR a (.inRegion ops (i :: rest) :: todo) with defers := d :: a.defers } : Frame).finish undef = b.atR ({ a with defers := d :: a.defers }.put o.dst undef) (.inRegion ops rest :: todo) := by
            have := Frame.finish_atR b { a with defers := d :: a.defers } ops i rest todo undef
            rw [ho] at this; exact this
          rw [hg]; simp only [stepG.apply, Sem.runT_eq, hr, GStep.bare_after]
          exact congrArg (fun fr => GStep.go { frame := fr, callers := cs, status := .running, dying := none } w') this
        · rename_i f args w' hr
          intro cs hcs
          obtain ⟨e, w'', fr, hR, hs, -, hlv⟩ := h (b.atR a (.inRegion ops (i :: rest) :: todo) :: cs)
          have henter : ∀ cs, Go.step P (lone (b.atR a (.inRegion ops (i :: rest) :: todo)) cs w) = .next (lone (Frame.enter P f args .normal) (b.atR a (.inRegion ops (i :: rest) :: todo) :: cs) w') := fun cs =>
            step_lone_go (by rw [hg]; simp [stepG.apply, hr, Frame.atR])
          cases e with
          | returned v =>
            obtain ⟨m', hm1, hm2⟩ := ih _ _ hR cs hcs
            refine ⟨m', hm1, .head (henter cs) (Steps.trans hs (.head (step_leave_returned hlv) ?_))⟩
            rw [fin']; exact hm2
          | panicked chain => cases (hq _ _ _ hR).1
          | outgrown => exact (noOut hR).elim
        · rename_i row args w' hr
          intro cs hcs
          obtain ⟨v, w'', hR, hs⟩ := h (b.atR a (.inRegion ops (i :: rest) :: todo)) cs
          obtain ⟨m', hm1, hm2⟩ := ih _ _ hR cs hcs
          refine ⟨m', hm1, .head (m₁ := lone (Frame.ofRow P row args .normal) (b.atR a (.inRegion ops (i :: rest) :: todo) :: cs) w') (step_lone_go ?_) (Steps.trans hs ?_)⟩
          · rw [hg]; simp [stepG.apply, hr, Frame.atR]
          · rw [fin']; exact hm2
        · rename_i v w' hr
          cases (hq _ _ _ h).1
        · exact h.elim
      · simp only [hw] at h
        refine Good.steps (fun cs => .one (stepR_op_skip (by simpa [ho] using hw))) ?_
        rw [ho]
        exact ih _ w h

theorem Good.any {b : Frame} {X : Xf} {id : Nat} {ops : Array Oper} {k : List Item} {a : Act} {w : World} {Q : Exit → Act → World → Prop} (hb : b.roundOf = none ∨ noDefer ops = true) (hm : P.follows .mixedOrders = true)
    (h : wpAny P .any ops Q ops.size (Array.replicate ops.size false) a { w with drawn := w.drawn + 1 }) (hq : ∀ e a' w', Q e a' w' → e = .normal ∧ Good P b X k a' w') : Good P b X (.code (.region id ops true) :: k) a w := by
  rcases hb with hb | hb
  · exact Good.region hb (wp_region_any hm h) hq
  · refine Good.steps (fun cs => .one stepR_region_draw) ?_
    simp only [Region.schedule, hm, Bool.true_or, if_true]
    exact wpOps_good hb hq _ _ _ (wpAny_sound ops.size _ _ a _ h)

/-- The marks of a frame, and where they stand. -/
def Mks (w0 : World) (F0 F : Nat → Prop) (ds : List Deferred) : Prop := ∃ rs : List Nat, ds = rs.map mkD ∧ Mk F0 F rs ∧ ∀ r ∈ rs, w0.heap.size ≤ r

theorem size_alloc' (w : World) (o : Obj) : (w.alloc o).heap.size = w.heap.size + 1 := by show (w.heap.push o).size = _; simp
theorem run_enterLoop {fn : FuncId} {tmps : Array Value} {ps : Array Tmp} {x y : Code} (w : World) : (Instr.enterLoop fn tmps ps x y none).run P w =
    .ok (w.heap.size + 1, [mkD w.heap.size]) ((w.alloc (.deferred (some []))).alloc (.loop { state := .ready, pending := none, fn, tmps, params := ps, assign := x, body := y, defers := w.heap.size })) := by
  simp only [Instr.enterLoop, Sem.run_bind, run_newObj_alloc, Result.andThen_ok, Sem.run_pure, mkD, size_alloc']
theorem run_callFunc {f : FuncId} (hc : callable P f = true) (args : Array Value) (w : World) : (callFunc f args).run P w = .ok (.enter f args) w := by
  unfold callable at hc
  split at hc
  · rename_i fn hf
    simp only [Bool.and_eq_true, bne_iff_ne, ne_eq] at hc
    have h1 : ¬ fn.name = "runtime.NumGoroutine" := hc.1
    have h2 : ¬ fn.body = none := by cases hb : fn.body <;> simp_all
    simp [callFunc, hf, h1, h2]
  · cases hc
theorem stepR_scope' {b : Frame} {a : Act} {k : List Item} {cs : List Frame} {w : World} {c : Code} : Go.step P (lone (b.atR a (.code (.scope c) :: k)) cs w) = .next (lone (b.atR a (.code c :: .inScope c :: k)) cs w) :=
  step_lone_go (by simp [stepG, stepG.exec, Frame.atR])
theorem stepR_inScope' {b : Frame} {a : Act} {k : List Item} {cs : List Frame} {w : World} {c : Code} : Go.step P (lone (b.atR a (.inScope c :: k)) cs w) = .next (lone (b.atR a k) cs w) :=
  step_lone_go (by simp [stepG, stepG.exec, Frame.atR])
theorem enter_range {b : Frame} (hro : b.roundOf = none) {a : Act} {k : List Item} {cs : List Frame} {w : World} {f : Operand} {ps : Array Tmp} {x y : Code} {g : FuncId} {fs cs0 : Array Value} (hf : a.eval f = .func (.func g) fs cs0) (hc : callable P g = true) :
    Go.step P (lone (b.atR a (.code (.rangeFunc f ps x y) :: k)) cs w) =
      .next (lone (Frame.enter P g (fs.toList ++ [Value.func (.yield (w.heap.size + 1)) #[] #[]] ++ cs0.toList).toArray .normal) (b.atR { a with defers := [mkD w.heap.size] ++ a.defers } (.inRangeFunc (w.heap.size + 1) :: k) :: cs)
        ((w.alloc (.deferred (some []))).alloc (.loop { state := .ready, pending := none, fn := b.fn, tmps := a.tmps, params := ps, assign := x, body := y, defers := w.heap.size }))) := by
  refine stepR_rangeFunc (w₁' := (w.alloc (.deferred (some []))).alloc (.loop { state := .ready, pending := none, fn := b.fn, tmps := a.tmps, params := ps, assign := x, body := y, defers := w.heap.size })) (d := { target := .fn (.func g) cs0, args := fs ++ #[.func (.yield (w.heap.size + 1)) #[] #[]] }) (by rw [hro]; exact run_enterLoop w) ?_ ?_
  · have hm : Array.map a.eval #[Operand.const (Value.func (Fn.yield (w.heap.size + 1)) #[] #[])] = #[Value.func (.yield (w.heap.size + 1)) #[] #[]] := by simp [Act.eval]
    simp only [resolve, hf, Deferred.ofValue, Sem.run_pure, hm]
  · simp only [invoke]
    have : fs ++ #[Value.func (.yield (w.heap.size + 1)) #[] #[]] ++ cs0 = (fs.toList ++ [Value.func (.yield (w.heap.size + 1)) #[] #[]] ++ cs0.toList).toArray := by apply Array.ext'; simp
    rw [this]
    exact run_callFunc hc _ _

/-- The marks' block. -/
theorem Own.mark {F : Nat → Prop} {H : Heap} {w : World} (h : Own w0 F H w) : w0.heap.size ≤ w.heap.size ∧ ¬ F w.heap.size ∧ Own w0 (fun x => F x ∨ x = w.heap.size) H (w.alloc (.deferred (some []))) := by
  have hlt : ∀ {c : Nat} {ob : Obj}, w.heap[c]? = some ob → c < w.heap.size := fun {c ob} e => by
    rcases Nat.lt_or_ge c w.heap.size with h' | h'
    · exact h'
    · simp [Array.getElem?_eq_none h'] at e
  refine ⟨h.below.size, fun hf => absurd (hlt (h.dfr _ hf)) (Nat.lt_irrefl _), h.below.alloc h.below.size _, fun b x hx => ?_, fun r hr => ?_⟩
  · obtain ⟨h1, h2⟩ := h.blk b x hx
    obtain ⟨ob, hob⟩ := Blk.in_some h2
    exact ⟨h1, by rw [Below.heap_alloc _ _ _ (hlt hob)]; exact h2⟩
  · rcases hr with hr | rfl
    · rw [Below.heap_alloc _ _ _ (hlt (h.dfr r hr))]; exact h.dfr r hr
    · show (w.heap.push _)[w.heap.size]? = _
      simp

theorem run_sound {b : Frame} {X : Xf} {F0 : Nat → Prop}
    (hend : ∀ F ds T H (a : Act) w, fin T H → Mks w0 F0 F ds → a.tmps = T.toArray → a.defers = ds → Own w0 F H w → Good P b X [] a w ∧ (b.roundOf = none → ∀ k, Good P b X (.code .ret :: k) a w)) :
    ∀ (n : Nat) (st : List It) (todo : List Item), Rel P w0 b.roundOf (fun F ds todo a w => Mks w0 F0 F ds → Good P b X todo a w) st todo → ∀ F ds T H, Mks w0 F0 F ds → run P w0 fin n st T H → ∀ (a : Act) w, a.tmps = T.toArray → a.defers = ds → Own w0 F H w → Good P b X todo a w := by
  intro n
  induction n using Nat.strongRecOn with
  | _ n ih =>
    intro st todo hrel F ds T H hmk hr a w ha hd hO
    cases n with
    | zero => exact hr.elim
    | succ n =>
      have next : ∀ {st' : List It} {todo' : List Item} {T' : List Value}, Rel P w0 b.roundOf (fun F ds todo a w => Mks w0 F0 F ds → Good P b X todo a w) st' todo' → run P w0 fin n st' T' H → a.tmps = T'.toArray → Good P b X todo' a w := fun h1 h2 h3 => ih n (by omega) _ _ h1 F ds _ _ hmk h2 a w h3 hd hO
      have looping : ∀ {c : Code} {m : MC} {k : List It} {k' : List Item}, trR b.roundOf P c = some m → Rel P w0 b.roundOf (fun F ds todo a w => Mks w0 F0 F ds → Good P b X todo a w) k k' → LoopQ (run P w0 fin n) m k T H → Good P b X (.code c :: .inLoop c :: k') a w := by
        intro c m k k' hx hk hr
        rcases hr with ⟨I, ⟨z0, G0, hG0, h0⟩, hround⟩ | hr
        · have key : ∀ (z : Nat) F ds T H, Mks w0 F0 F ds → I z T H → ∀ (a : Act) w, a.tmps = T.toArray → a.defers = ds → Own w0 F H w → Good P b X (.code c :: .inLoop c :: k') a w := by
            intro z
            induction z using Nat.strongRecOn with
            | _ z ihz =>
              intro F ds T H hmk hI a w ha hd hO
              refine ih n (by omega) _ _ (.code hx (.chk (fun F' ds' T' H' a' w' hΦ ha' hd' hO' hmk' => ?_) hk)) F ds _ _ hmk (hround z T H hI) a w ha hd hO
              obtain ⟨z', G, hz', hG, hI'⟩ := hΦ
              exact Good.steps (fun cs => .one stepR_inLoop) (ihz z' hz' F' ds' T' G hmk' hI' a' w' ha' hd' (hO'.mono hG))
          exact key z0 F ds T G0 hmk h0 a w ha hd (hO.mono hG0)
        · exact next (.code hx (.lp hx hk)) hr ha
      cases hrel with
      | lp hx hk => exact Good.steps (fun cs => .one stepR_inLoop) (looping hx hk hr)
      | nil => exact (hend F ds T H a w hr hmk ha hd hO).1
      | blk hk => exact Good.steps (fun cs => .one stepR_inBlock) (next hk hr ha)
      | scp hk => exact Good.steps (fun cs => .one stepR_inScope') (next hk hr ha)
      | chk hc hk => exact hc F ds T H a w hr ha hd hO hmk
      | @bgn l L k k' hro hk =>
        obtain ⟨hH, hst, hr'⟩ := (show bgnQ (run P w0 fin n) l L k T H from hr)
        obtain ⟨h1, -, h2⟩ := hO.setObj hH (.loop { L with state := .busy }) trivial
        refine Good.steps (fun cs => .one (stepR_beginRound (w' := { w with heap := w.heap.setIfInBounds l (.loop { L with state := .busy }) }) hro ?_)) (ih n (by omega) _ _ hk F ds _ _ hmk hr' a _ ha hd h2)
        simp [Instr.beginRound, Instr.getLoop, Go.getObj, Go.setObj, Sem.run, h1, hst]
      | @code c m k k' hm hk =>
        cases c
        case label l => cases trR_label hm; exact Good.steps (fun cs => .one stepR_label) (next hk hr ha)
        case scope c =>
          obtain ⟨x', rfl, hx⟩ := trR_scope hm
          exact Good.steps (fun cs => .one stepR_scope') (next (.code hx (.scp hk)) hr ha)
        case skip => cases trR_skip hm; exact Good.steps (fun cs => .one stepR_skip) (next hk hr ha)
        case ret =>
          obtain ⟨rfl, hro⟩ := trR_ret hm
          exact (hend F ds T H a w hr hmk ha hd hO).2 hro k'
        case seq x y =>
          obtain ⟨x', y', rfl, hx, hy⟩ := trR_seq hm
          exact Good.steps (fun cs => .one stepR_seq) (next (.code hx (.code hy hk)) hr ha)
        case cond c x y =>
          obtain ⟨x', y', rfl, hx, hy⟩ := trR_cond hm
          have hr' : condS (run P w0 fin n) (ev T c) (.code x' :: k) (.code y' :: k) T H := hr
          unfold condS at hr'
          split at hr' <;> (try exact hr'.elim)
          rename_i t ht
          have he : a.eval c = .bool t := by rw [ev_eq ha]; exact ht
          refine Good.steps (fun cs => .one (stepR_cond he)) ?_
          cases t with
          | true => exact next (.code hx hk) (hr'.1 rfl) ha
          | false => exact next (.code hy hk) (hr'.2 rfl) ha
        case block id c =>
          obtain ⟨x', rfl, hx⟩ := trR_block hm
          exact Good.steps (fun cs => .one stepR_block) (next (.code hx (.blk hk)) hr ha)
        case exit id =>
          cases trR_exit hm
          obtain ⟨r, he, hr'⟩ := optQ_some (show optQ (exitIt id k) (fun k' => run P w0 fin n k' T H) from hr)
          obtain ⟨r', h1, h2⟩ := hk.exit he
          exact Good.steps (fun cs => .one (stepR_exit h1)) (next h2 hr' ha)
        case loop c =>
          obtain ⟨x', rfl, hx⟩ := trR_loop hm
          exact Good.steps (fun cs => .one stepR_loop) (looping hx hk hr)
        case goto l => exfalso; revert hm; cases b.roundOf <;> simp [trR, trCode, trBody]
        case refuse l => exfalso; revert hm; cases b.roundOf <;> simp [trR, trCode, trBody]
        case rangeFunc f ps x y =>
          obtain ⟨hro, x', y', rfl, hx, hy⟩ := trR_rf hm
          have hr' : rfQ P w0 (run P w0 fin n) (ev T f) ps.toList x' y' k T H := hr
          unfold rfQ at hr'
          split at hr' <;> (try exact hr'.elim)
          rename_i g fs cs0 hf
          obtain ⟨hge, hnF, hO1⟩ := hO.mark
          obtain ⟨hge2, hn2, hO2⟩ := hO1.allocK (.loop { state := .ready, pending := none, fn := b.fn, tmps := a.tmps, params := ps, assign := x, body := y, defers := w.heap.size }) ⟨.o (.loop { state := .ready, pending := none, fn := b.fn, tmps := a.tmps, params := ps, assign := x, body := y, defers := w.heap.size }), []⟩ ⟨rfl, rfl, trivial⟩
          rw [size_alloc'] at hge2 hn2 hO2
          have hcall := hr' (w.heap.size + 1) { state := .ready, pending := none, fn := b.fn, tmps := a.tmps, params := ps, assign := x, body := y, defers := w.heap.size } hge2 hn2 ⟨rfl, rfl, ha, rfl, hx, hy⟩
          obtain ⟨rs, rfl, hmk1, hmk2⟩ := hmk
          have hmk' : Mks w0 F0 (fun z => F z ∨ z = w.heap.size) (mkD w.heap.size :: rs.map mkD) := ⟨w.heap.size :: rs, rfl, ⟨List.nodup_cons.2 ⟨fun hin => hnF (hmk1.new _ hin).2, hmk1.nd⟩, fun r hr => by
            rcases List.mem_cons.1 hr with rfl | hr
            · exact ⟨fun h0 => hnF (hmk1.le _ h0), .inr rfl⟩
            · exact ⟨(hmk1.new r hr).1, .inl (hmk1.new r hr).2⟩, fun r hr => .inl (hmk1.le r hr)⟩, fun r hr => by
            rcases List.mem_cons.1 hr with rfl | hr
            · exact hge
            · exact hmk2 r hr⟩
          intro cs hcs
          obtain ⟨e, w', fr, ⟨v, H', he, ⟨hl', hk'⟩, ho'⟩, hs, -, hlv⟩ := hcall.2 _ hO2 (b.atR { a with defers := mkD w.heap.size :: rs.map mkD } (.inRangeFunc (w.heap.size + 1) :: k') :: cs)
          subst he
          obtain ⟨q1, -, q2⟩ := ho'.setObj hl' (.loop { state := .exhausted, pending := none, fn := b.fn, tmps := a.tmps, params := ps, assign := x, body := y, defers := w.heap.size }) trivial
          obtain ⟨m', hm1, hm2⟩ := ih n (by omega) _ _ hk _ _ _ _ hmk' (hk' _) { a with defers := mkD w.heap.size :: rs.map mkD } _ ha rfl q2 cs hcs
          have hend : (Instr.endLoop (w.heap.size + 1)).run P w' = .ok none { w' with heap := w'.heap.setIfInBounds (w.heap.size + 1) (.loop { state := .exhausted, pending := none, fn := b.fn, tmps := a.tmps, params := ps, assign := x, body := y, defers := w.heap.size }) } := by
            simp [Instr.endLoop, Instr.getLoop, Go.getObj, Go.setObj, Sem.run, q1]
          have hev : a.eval f = .func (.func g) fs cs0 := by rw [ev_eq ha]; exact hf
          have e1 := enter_range (P := P) (b := b) hro (a := a) (k := k') (cs := cs) (w := w) (ps := ps) (x := x) (y := y) hev hcall.1
          rw [hd] at e1
          refine ⟨m', hm1, .head e1 (Steps.trans hs (.head (step_leave_returned hlv) ?_))⟩
          rw [finish_atR_inRangeFunc]
          exact .head (stepR_endRangeFunc hend) hm2
        case region id ops d =>
          rcases trR_region hm with ⟨rfl, l, rfl, hl⟩ | ⟨rfl, hro, ht⟩
          · refine Good.steps (fun cs => .one stepR_region) ?_
            exact ops_good (F := F) (ds := ds) (N := n) (fun m T' H' hm' hr' a' w' ha' hd' hO' => ih m (by omega) _ _ hk F ds _ _ hmk hr' a' w' ha' hd' hO') n _ l T H hl hr (Nat.le_refl _) a w ha hd hO
          · have back : ∀ e a' w', Behind P w0 F ds fin n k e a' w' → e = .normal ∧ Good P b X k' a' w' := by
              intro e a' w' ⟨he, m, T', H', hm', hr', ha', hd', hO'⟩
              exact ⟨he, ih m (by omega) _ _ hk F ds _ _ hmk hr' a' w' ha' hd' hO'⟩
            simp only [trAny] at ht
            split at ht <;> (try (cases ht; done))
            rename_i hc
            simp only [Bool.and_eq_true] at hc
            split at ht
            · rename_i pl hpl
              split at ht <;> cases ht
              rename_i ms hms
              obtain ⟨Hs, hle, hr⟩ := (show AnyQ (run P w0 fin n) (fun Hs => .pl Hs ms) k T H from hr)
              refine Good.any hro (Q := Behind P w0 F ds fin n k) hc.1.1 (wpAny_of_c _ _ _ _ (pl_sound (Hs := Hs) (FT := planFT pl) hc.1.2 hc.2 _ _ _ pl ms n T H (Rep.start ops) hpl (fun p hp hp2 => List.mem_map.2 ⟨p, List.mem_filter.2 ⟨hp, hp2⟩, rfl⟩) [] (fun k hk => by simp at hk) hms hr (Nat.le_refl _) (.inl ⟨headInv_start, fun f _ => hle f⟩) a _ ha hd hO.drew)) back
            · split at ht <;> (try (cases ht; done))
              rename_i pt hpt
              split at ht <;> cases ht
              rename_i t ht
              obtain ⟨Hs, hle, hr⟩ := (show AnyQ (run P w0 fin n) (fun Hs => .pt Hs t) k T H from hr)
              refine Good.any hro (Q := Behind P w0 F ds fin n k) hc.1.1 (wpAny_of_c _ _ _ _ (pt_sound (Hs := Hs) (FT := ptFT pt) hc.1.2 hc.2 _ _ _ pt t n T H (Rep.start ops) hpt (fun f hf => hf) [] (fun k hk => by simp at hk) ht hr (Nat.le_refl _) (.inl ⟨headInv_start, fun f _ => hle f⟩) a _ ha hd hO.drew)) back

end
end Go.HL
