/- The heap logic, part i: what the resolved code asks is enough for the loaded code. -/
import Derived.Test.YtokjajfojjibcaaHlh
import Derived.Scope
set_option linter.unusedSimpArgs false
set_option linter.unusedVariables false
namespace Go.HL
open Go.RowKit

section
variable {P : Program} {w0 : World} {fin : List Value → Heap → Prop}

def PInv (ops : Array Oper) (n : Nat) (H0 H : Heap) (listed : Array Bool) : Prop :=
  (HeadInv .any ops n listed ∧ Heap.Le H0 H) ∨ ∀ j, j < n → listed.getD j true = true

theorem getD_set_true' {listed : Array Bool} {i j : Nat} (h : listed.getD j true = true) : (listed.setIfInBounds i true).getD j true = true := by
  by_cases hij : i = j
  · subst hij
    rcases Nat.lt_or_ge i listed.size with h' | h'
    · simp [h']
    · simp [Array.getElem?_eq_none h']
  · rw [getD_set_ne true hij]; exact h

theorem put_defers' (a : Act) (d : Option Tmp) (v : Value) : (a.put d v).defers = a.defers := by cases d <;> rfl

/-- The list says what is not yet listed. -/
structure Rep (ops : Array Oper) (listed : Array Bool) (rem : List Nd) : Prop where
  mem : ∀ i o, (ops[i]? = some o ∧ listed.getD i true = false) ↔ ∃ d, (i, o, d) ∈ rem
  dep : ∀ i o d, (i, o, d) ∈ rem → ∀ j, j ∈ d ↔ ((∃ e ∈ o.after, Region.binds .any e = true ∧ e.on = j) ∧ listed.getD j false = false)

theorem mem_nodesL : ∀ (l : List Oper) (k : Nat) (x : Nd), x ∈ nodesL l k ↔ ∃ i o, l[i]? = some o ∧ x = (k + i, o, (o.after.toList.filter (Region.binds .any)).map (·.on))
  | [], k, x => by simp [nodesL]
  | o :: l, k, x => by
    simp only [nodesL, List.mem_cons, mem_nodesL l (k + 1) x]
    constructor
    · rintro (rfl | ⟨i, o', h, rfl⟩)
      · exact ⟨0, o, rfl, rfl⟩
      · exact ⟨i + 1, o', h, by rw [show k + 1 + i = k + (i + 1) by omega]⟩
    · rintro ⟨i, o', h, rfl⟩
      cases i with
      | zero => simp at h; subst h; exact .inl rfl
      | succ i => exact .inr ⟨i, o', by simpa using h, by rw [show k + 1 + i = k + (i + 1) by omega]⟩

theorem Rep.start (ops : Array Oper) : Rep ops (Array.replicate ops.size false) (nodesL ops.toList 0) := by
  constructor
  · intro i o
    constructor
    · rintro ⟨h, -⟩
      exact ⟨_, (mem_nodesL _ _ _).2 ⟨i, o, by simpa using h, by rw [Nat.zero_add]⟩⟩
    · rintro ⟨d, h⟩
      obtain ⟨i', o', h', e⟩ := (mem_nodesL _ _ _).1 h
      simp only [Prod.mk.injEq, Nat.zero_add] at e
      obtain ⟨rfl, rfl, -⟩ := e
      have h2 : ops[i]? = some o := by simpa using h'
      have := (Array.getElem?_eq_some_iff.1 h2).1
      exact ⟨h2, by simp [this]⟩
  · intro i o d h j
    obtain ⟨i', o', h', e⟩ := (mem_nodesL _ _ _).1 h
    simp only [Prod.mk.injEq] at e
    obtain ⟨-, rfl, rfl⟩ := e
    rw [show (Array.replicate ops.size false).getD j false = false from getD_replicate_false _ _]
    simp only [List.mem_map, List.mem_filter, Array.mem_toList_iff, and_true]
    constructor
    · rintro ⟨e, ⟨h1, h2⟩, h3⟩; exact ⟨e, h1, h2, h3⟩
    · rintro ⟨e, h1, h2, h3⟩; exact ⟨e, ⟨h1, h2⟩, h3⟩

theorem beq_false {i j : Nat} : (!Nat.beq i j) = true ↔ i ≠ j := by
  rw [Bool.not_eq_true']
  constructor
  · intro h e; subst e; simp at h
  · intro h; cases hb : Nat.beq i j with
    | true => exact absurd (Nat.eq_of_beq_eq_true hb) h
    | false => rfl

theorem Rep.drop {ops : Array Oper} {listed : Array Bool} {rem : List Nd} (h : Rep ops listed rem) {i : Nat} (hi : listed.getD i true = false) : Rep ops (listed.setIfInBounds i true) (dropN i rem) := by
  have hin : i < listed.size := by
    rcases Nat.lt_or_ge i listed.size with h' | h'
    · exact h'
    · rw [Array.getD_eq_getD_getElem?, Array.getElem?_eq_none h'] at hi; cases hi
  have self : ∀ b : Bool, (listed.setIfInBounds i true).getD i b = true := fun b => by simp [hin]
  have mem' : ∀ x : Nd, x ∈ dropN i rem ↔ ∃ d, (x.1, x.2.1, d) ∈ rem ∧ x.1 ≠ i ∧ x.2.2 = d.filter (fun j => !Nat.beq j i) := by
    intro x
    unfold dropN
    simp only [List.mem_map, List.mem_filter, beq_false]
    constructor
    · rintro ⟨y, ⟨h1, h2⟩, rfl⟩; exact ⟨y.2.2, h1, h2, rfl⟩
    · rintro ⟨d, h1, h2, h3⟩; exact ⟨(x.1, x.2.1, d), ⟨h1, h2⟩, by simp [← h3]⟩
  constructor
  · intro j o
    constructor
    · rintro ⟨h1, h2⟩
      have hne : j ≠ i := fun e => by subst e; rw [self] at h2; cases h2
      rw [getD_set_ne true (Ne.symm hne)] at h2
      obtain ⟨d, hd⟩ := (h.mem j o).1 ⟨h1, h2⟩
      exact ⟨_, (mem' _).2 ⟨d, hd, hne, rfl⟩⟩
    · rintro ⟨d, hd⟩
      obtain ⟨d', h1, h2, h3⟩ := (mem' _).1 hd
      obtain ⟨h4, h5⟩ := (h.mem j o).2 ⟨d', h1⟩
      exact ⟨h4, by rw [getD_set_ne true (Ne.symm h2)]; exact h5⟩
  · intro j o d hd k
    obtain ⟨d', h1, h2, h3⟩ := (mem' _).1 hd
    have h3' : d = d'.filter (fun j => !Nat.beq j i) := h3
    rw [h3', List.mem_filter, h.dep j o d' h1 k, beq_false]
    by_cases hk : k = i
    · subst hk
      rw [self]
      simp
    · rw [getD_set_ne false (Ne.symm hk)]
      simp [hk]

theorem Rep.ready {ops : Array Oper} {listed : Array Bool} {rem : List Nd} (h : Rep ops listed rem) (i : Nat) : i ∈ Region.ready .any ops listed ↔ ∃ x ∈ readyL rem, x.1 = i := by
  rw [mem_ready]
  unfold readyL
  simp only [List.mem_filter, List.isEmpty_iff]
  constructor
  · rintro ⟨hu, o, ho, hall⟩
    obtain ⟨d, hd⟩ := (h.mem i o).1 ⟨ho, hu⟩
    refine ⟨(i, o, d), ⟨hd, ?_⟩, rfl⟩
    refine List.eq_nil_iff_forall_not_mem.2 fun j hj => ?_
    obtain ⟨⟨e, he, hb, hon⟩, hl⟩ := (h.dep i o d hd j).1 hj
    have := hall e he hb
    rw [hon, hl] at this
    cases this
  · rintro ⟨⟨i', o, d⟩, ⟨hd, hn⟩, rfl⟩
    obtain ⟨ho, hu⟩ := (h.mem i' o).2 ⟨d, hd⟩
    refine ⟨hu, o, ho, fun e he hb => ?_⟩
    have hn' : d = [] := hn
    cases hl : listed.getD e.on false with
    | true => rfl
    | false =>
      have := (h.dep i' o d hd e.on).2 ⟨⟨e, he, hb, rfl⟩, hl⟩
      rw [hn'] at this
      cases this

theorem ready_nil {ops : Array Oper} {listed : Array Bool} {rem : List Nd} (h : Rep ops listed rem) (h0 : readyL rem = []) : Region.ready .any ops listed = [] :=
  List.eq_nil_iff_forall_not_mem.2 fun j hj => by
    obtain ⟨x, hx, -⟩ := (h.ready j).1 hj
    rw [h0] at hx; cases hx

theorem ready_one {ops : Array Oper} {listed : Array Bool} {rem : List Nd} {x : Nd} (h : Rep ops listed rem) (h0 : readyL rem = [x]) : Region.ready .any ops listed = [x.1] := by
  have hm : ∀ j, j ∈ Region.ready .any ops listed ↔ j = x.1 := fun j => by rw [h.ready j, h0]; simp [eq_comm]
  have hnd : (Region.ready .any ops listed).Nodup := List.Pairwise.filter _ List.nodup_range
  revert hm hnd
  generalize Region.ready .any ops listed = l
  intro hm hnd
  match l, hm, hnd with
  | [], hm, _ => exact absurd ((hm x.1).2 rfl) (by simp)
  | [y], hm, _ => rw [(hm y).1 (by simp)]
  | y :: z :: l, hm, hnd =>
    have h1 := (hm y).1 (by simp)
    have h2 := (hm z).1 (by simp)
    rw [h1, h2] at hnd
    simp at hnd

theorem free_spec' {ops : Array Oper} {listed : Array Bool} {rem : List Nd} {i : Nat} {o xo : Oper} {xd : List Nat} (h : Rep ops listed rem) (hx : (i, xo, xd) ∈ rem) (ho : ops[i]? = some o) (hf : freeL ops rem (i, xo, xd) = true) :
    ∀ j oj, ops[j]? = some oj → j ≠ i → listed.getD j true = false → (∀ e ∈ oj.after, Region.binds .any e = true → e.on ≠ i) → o.apart ops oj = true := by
  intro j oj hj hne hun hno
  obtain ⟨hxo, -⟩ := (h.mem i xo).2 ⟨xd, hx⟩
  obtain rfl : o = xo := Option.some.inj (ho.symm.trans hxo)
  obtain ⟨d, hd⟩ := (h.mem j oj).1 ⟨hj, hun⟩
  have := List.all_eq_true.1 hf _ hd
  simp only [Bool.or_eq_true] at this
  rcases this with (h1 | h1) | h1
  · exact absurd (Nat.eq_of_beq_eq_true h1) hne
  · obtain ⟨k, hk, hb⟩ := List.any_eq_true.1 h1
    obtain rfl : i = k := Nat.eq_of_beq_eq_true hb
    obtain ⟨⟨e, he, hbi, hon⟩, -⟩ := (h.dep j oj d hd i).1 hk
    exact absurd hon (hno e he hbi)
  · exact h1

theorem pl_sound {ops : Array Oper} {k : List It} {hn : Nat} {H0 : Heap} (hsel : Region.noSelect ops = true) (hk : headOk .any ops hn = true) {N : Nat} :
    ∀ (fuel : Nat) (listed : Array Bool) (rem : List Nd) (pl : List (Nat × Bool)) (ms : List (Bool × Bool × MOp)) (n : Nat) (T : List Value) (H : Heap), Rep ops listed rem → planGo P ops hn fuel rem = some pl → trPlan P ops hn pl = some ms →
    run P w0 fin n (.pl H0 ms :: k) T H → n ≤ N → PInv ops hn H0 H listed → ∀ a w, a.tmps = T.toArray → a.defers = [] → Own w0 H w → wpAnyC P .any ops (Behind P w0 fin N k) (Own w0 H0) hn fuel listed a w := by
  intro fuel
  induction fuel with
  | zero =>
    intro listed rem pl ms n T H hrep hp hm hr hN hI a w ha hd hO
    unfold planGo at hp
    split at hp <;> cases hp
    rename_i h0'
    have h0 := ready_nil hrep h0'
    simp [trPlan] at hm; subst hm
    cases n with
    | zero => exact hr.elim
    | succ n => exact ⟨h0, rfl, n, T, H, by omega, hr, ha, hd, hO⟩
  | succ fuel ih =>
    intro listed rem pl ms n T H hrep hp hm hr hN hI a w ha hd hO
    unfold planGo at hp
    cases n with
    | zero => exact hr.elim
    | succ n =>
    split at hp
    · rename_i h0'
      have h0 := ready_nil hrep h0'
      cases hp
      simp [trPlan] at hm; subst hm
      exact wpAnyC_done h0 ⟨rfl, n, T, H, by omega, hr, ha, hd, hO⟩ _
    · rename_i x h0'
      have h0 := ready_one hrep h0'
      simp only [Option.map_eq_some_iff] at hp
      obtain ⟨pl', hp', rfl⟩ := hp
      obtain ⟨i, xo, xd⟩ := x
      simp only at h0 hp' hm
      unfold trPlan at hm
      split at hm <;> (try (cases hm; done))
      rename_i o ho
      split at hm <;> cases hm
      rename_i m ms' hm' hms
      have hmem : i ∈ Region.ready .any ops listed := by rw [h0]; simp
      have hun := (mem_ready.1 hmem).1
      obtain ⟨hdst, htr⟩ := trOper_dst hm'
      have hr' : guardQ T m.guard (mwp P w0 m.op T H (KP (run P w0 fin n) (.pl H0 ms' :: k) T m.dst H0 (decide (i < hn)))) (run P w0 fin n (.pl H0 ms' :: k) (put T m.dst undef) H) := by
        obtain ⟨d, op, g⟩ := m
        cases g with
        | none => exact hr
        | some g => exact hr
      have inv : ∀ H', (i < hn → Heap.Le H0 H') → PInv ops hn H0 H' (listed.setIfInBounds i true) := by
        intro H' hle
        rcases hI with ⟨hI, _⟩ | hI
        · by_cases hi : i < hn
          · exact .inl ⟨hI.set hmem hi, hle hi⟩
          · refine .inr fun j hj => getD_set_true' ?_
            cases hjl : listed.getD j true with
            | true => rfl
            | false => exact absurd hmem (noTail hk hI hj hjl i (by omega))
        · exact .inr fun j hj => getD_set_true' (hI j hj)
      have hle0 : i < hn → Heap.Le H0 H := by
        intro hi
        rcases hI with ⟨_, h⟩ | hI
        · exact h
        · rw [hI i hi] at hun; cases hun
      refine wpAnyC_sole h0 (wpOp_guard ho hm' ha hr' (fun hy => ?_) (fun hno => ?_))
      · refine mop_sound htr ha hO hy (fun v H' w' hkk ho' => ⟨fun hi => ho'.mono (hkk.1 (by simpa using hi)), ?_⟩)
        exact ih _ _ pl' ms' n _ H' (hrep.drop hun) hp' hms hkk.2 (by omega) (inv H' fun hi => hkk.1 (by simpa using hi)) _ _ (by rw [hdst]; exact put_eq ha _ _) (by rw [put_defers']; exact hd) ho'
      · refine ⟨fun hi => hO.mono (hle0 hi), ?_⟩
        exact ih _ _ pl' ms' n _ H (hrep.drop hun) hp' hms hno (by omega) (inv H hle0) _ _ (by rw [hdst]; exact put_eq ha _ _) (by rw [put_defers']; exact hd) hO
    · split at hp <;> (try (cases hp; done))
      rename_i x hf
      simp only [Option.map_eq_some_iff] at hp
      obtain ⟨pl', hp', rfl⟩ := hp
      have hmemL := List.mem_of_find?_eq_some hf
      have hcond := List.find?_some hf
      obtain ⟨i, xo, xd⟩ := x
      have hmem : i ∈ Region.ready .any ops listed := (hrep.ready i).2 ⟨_, hmemL, rfl⟩
      simp only [Bool.and_eq_true] at hcond
      obtain ⟨⟨hin', hfree⟩, hquiet⟩ := hcond
      have hin : i < hn := Nat.lt_of_lt_of_le (Nat.lt_succ_self i) (Nat.le_of_ble_eq_true hin')
      have hxin : (i, xo, xd) ∈ rem := (List.mem_filter.1 hmemL).1
      simp only at hp' hm hquiet
      unfold trPlan at hm
      split at hm <;> (try (cases hm; done))
      rename_i o ho
      split at hm <;> cases hm
      rename_i m ms' hm' hms
      have hun := (mem_ready.1 hmem).1
      obtain ⟨hdst, htr⟩ := trOper_dst hm'
      have hr' : guardQ T m.guard (qv w0 m.op T H0 (FK (run P w0 fin n) (.pl H0 ms' :: k) T m.dst H)) (run P w0 fin n (.pl H0 ms' :: k) (put T m.dst undef) H) := by
        obtain ⟨d, op, g⟩ := m
        cases g with
        | none => exact hr
        | some g => exact hr
      have hI' : HeadInv .any ops hn listed ∧ Heap.Le H0 H := by
        rcases hI with h | hI
        · exact h
        · rw [hI i hin] at hun; cases hun
      have hq : m.op.quiet = true := by
        unfold quietAt at hquiet
        rw [ho] at hquiet
        simp only [Option.bind_some, htr] at hquiet
        exact hquiet
      have go : ∀ v, YieldsIf P ops (Own w0 H0) o v a → run P w0 fin n (.pl H0 ms' :: k) (put T m.dst v) H → wpAnyC P .any ops (Behind P w0 fin N k) (Own w0 H0) hn (fuel + 1) listed a w := by
        intro v hy hrun
        refine wpAnyC_first ho (Region.noSelect_spec hsel) (fun c a w h => by cases h.1) hk hin fuel listed a w hI'.1 (free_spec' hrep hxin ho hfree) hmem hy (hO.mono hI'.2) ?_
        exact ih _ _ pl' ms' n _ H (hrep.drop hun) hp' hms hrun (by omega) (.inl ⟨hI'.1.set hmem hin, hI'.2⟩) _ _ (by rw [hdst]; exact put_eq ha _ _) (by rw [put_defers']; exact hd) hO
      have hyes : qv w0 m.op T H0 (FK (run P w0 fin n) (.pl H0 ms' :: k) T m.dst H) → Region.wanted o (yielded ops a.tmps) = true → wpAnyC P .any ops (Behind P w0 fin N k) (Own w0 H0) hn (fuel + 1) listed a w := by
        intro hqv hw
        obtain ⟨v, hφ, hv⟩ := qv_sound htr hq hqv
        exact go v (.inl ⟨hw, fun w hw => by rw [ev_eq ha]; exact hv w hw⟩) hφ
      have hno : run P w0 fin n (.pl H0 ms' :: k) (put T m.dst undef) H → Region.wanted o (yielded ops a.tmps) = false → wpAnyC P .any ops (Behind P w0 fin N k) (Own w0 H0) hn (fuel + 1) listed a w :=
        fun h hw => go undef (.inr ⟨hw, rfl⟩) h
      have hw := wanted_eq hm' ha
      cases hg : m.guard with
      | none =>
        rw [hg] at hr' hw
        exact hyes hr' hw
      | some dw =>
        obtain ⟨d, want⟩ := dw
        rw [hg] at hr' hw
        simp only [guardQ] at hr'
        replace hw : Region.wanted o (yielded ops a.tmps) = (boolOf (lk T d) == some want) := hw
        generalize lk T d = u at hr' hw
        cases u <;> (try exact hno hr' hw)
        rename_i b
        by_cases hb : b = want
        · exact hyes (hr'.1 hb) (by rw [hw, hb]; simp [boolOf])
        · exact hno (hr'.2 hb) (by rw [hw]; simp [boolOf, hb])

/-- Each of the orders of a tree. -/
theorem altsP_run {k : List It} {hn : Nat} {ops : Array Oper} {H0 : Heap} {T : List Value} {H : Heap} {f : Nd → Option PI} : ∀ {rs : List Nd} {pt : PI} {t : PT} {n : Nat}, altsP f rs = some pt → trPT P ops hn pt = some t → run P w0 fin n (.pt H0 t :: k) T H →
    ∀ x ∈ rs, ∃ p u m, m ≤ n ∧ f x = some p ∧ trPT P ops hn p = some u ∧ run P w0 fin m (.pt H0 u :: k) T H
  | [], pt, t, n, h, _, _ => by simp [altsP] at h
  | [x], pt, t, n, h, ht, hr => by
    intro y hy
    simp at hy; subst hy
    exact ⟨pt, t, n, Nat.le_refl _, h, ht, hr⟩
  | x :: y :: xs, pt, t, n, h, ht, hr => by
    intro z hz
    unfold altsP at h
    split at h <;> cases h
    rename_i a b ha hb
    unfold trPT at ht
    split at ht <;> cases ht
    rename_i u v hu hv
    cases n with
    | zero => exact hr.elim
    | succ n =>
      have hr' : run P w0 fin n (.pt H0 u :: k) T H ∧ run P w0 fin n (.pt H0 v :: k) T H := hr
      rcases List.mem_cons.1 hz with rfl | hz
      · exact ⟨a, u, n, Nat.le_succ _, ha, hu, hr'.1⟩
      · obtain ⟨p, w, m, h1, h2, h3, h4⟩ := altsP_run hb hv hr'.2 z hz
        exact ⟨p, w, m, by omega, h2, h3, h4⟩
theorem pt_sound {ops : Array Oper} {k : List It} {hn : Nat} {H0 : Heap} (hsel : Region.noSelect ops = true) (hk : headOk .any ops hn = true) {N : Nat} :
    ∀ (fuel : Nat) (listed : Array Bool) (rem : List Nd) (pl : PI) (ms : PT) (n : Nat) (T : List Value) (H : Heap), Rep ops listed rem → planT P ops hn fuel rem = some pl → trPT P ops hn pl = some ms →
    run P w0 fin n (.pt H0 ms :: k) T H → n ≤ N → PInv ops hn H0 H listed → ∀ a w, a.tmps = T.toArray → a.defers = [] → Own w0 H w → wpAnyC P .any ops (Behind P w0 fin N k) (Own w0 H0) hn fuel listed a w := by
  intro fuel
  induction fuel with
  | zero =>
    intro listed rem pl ms n T H hrep hp hm hr hN hI a w ha hd hO
    unfold planT at hp
    split at hp <;> cases hp
    rename_i h0'
    have h0 := ready_nil hrep h0'
    simp [trPT] at hm; subst hm
    cases n with
    | zero => exact hr.elim
    | succ n => exact ⟨h0, rfl, n, T, H, by omega, hr, ha, hd, hO⟩
  | succ fuel ih =>
    intro listed rem pl ms n T H hrep hp hm hr hN hI a w ha hd hO
    have one : ∀ (i : Nat) (pl' : PI) (u : PT) (m0 : Nat), m0 ≤ N → i ∈ Region.ready .any ops listed → planT P ops hn fuel (dropN i rem) = some pl' → trPT P ops hn (.one i false pl') = some u → run P w0 fin m0 (.pt H0 u :: k) T H →
        wpOp P ops (Behind P w0 fin N k) i (fun a' w' => (i < hn → Own w0 H0 w') ∧ wpAnyC P .any ops (Behind P w0 fin N k) (Own w0 H0) hn fuel (listed.setIfInBounds i true) a' w') a w := by
      intro i pl' u m0 hN hmem hp' hm hr
      cases m0 with
      | zero => exact hr.elim
      | succ n =>
        unfold trPT at hm
        split at hm <;> (try (cases hm; done))
        rename_i o ho
        split at hm <;> cases hm
        rename_i m ms' hm' hms
        have hun := (mem_ready.1 hmem).1
        obtain ⟨hdst, htr⟩ := trOper_dst hm'
        have hr' : guardQ T m.guard (mwp P w0 m.op T H (KP (run P w0 fin n) (.pt H0 ms' :: k) T m.dst H0 (decide (i < hn)))) (run P w0 fin n (.pt H0 ms' :: k) (put T m.dst undef) H) := by
          obtain ⟨d, op, g⟩ := m
          cases g with
          | none => exact hr
          | some g => exact hr
        have inv : ∀ H', (i < hn → Heap.Le H0 H') → PInv ops hn H0 H' (listed.setIfInBounds i true) := by
          intro H' hle
          rcases hI with ⟨hI, _⟩ | hI
          · by_cases hi : i < hn
            · exact .inl ⟨hI.set hmem hi, hle hi⟩
            · refine .inr fun j hj => getD_set_true' ?_
              cases hjl : listed.getD j true with
              | true => rfl
              | false => exact absurd hmem (noTail hk hI hj hjl i (by omega))
          · exact .inr fun j hj => getD_set_true' (hI j hj)
        have hle0 : i < hn → Heap.Le H0 H := by
          intro hi
          rcases hI with ⟨_, h⟩ | hI
          · exact h
          · rw [hI i hi] at hun; cases hun
        refine wpOp_guard ho hm' ha hr' (fun hy => ?_) (fun hno => ?_)
        · refine mop_sound htr ha hO hy (fun v H' w' hkk ho' => ⟨fun hi => ho'.mono (hkk.1 (by simpa using hi)), ?_⟩)
          exact ih _ _ pl' ms' n _ H' (hrep.drop hun) hp' hms hkk.2 (by omega) (inv H' fun hi => hkk.1 (by simpa using hi)) _ _ (by rw [hdst]; exact put_eq ha _ _) (by rw [put_defers']; exact hd) ho'
        · refine ⟨fun hi => hO.mono (hle0 hi), ?_⟩
          exact ih _ _ pl' ms' n _ H (hrep.drop hun) hp' hms hno (by omega) (inv H hle0) _ _ (by rw [hdst]; exact put_eq ha _ _) (by rw [put_defers']; exact hd) hO
    unfold planT at hp
    cases n with
    | zero => exact hr.elim
    | succ n =>
    split at hp
    · rename_i h0'
      have h0 := ready_nil hrep h0'
      cases hp
      simp [trPT] at hm; subst hm
      exact wpAnyC_done h0 ⟨rfl, n, T, H, by omega, hr, ha, hd, hO⟩ _
    · rename_i x h0'
      have h0 := ready_one hrep h0'
      simp only [Option.map_eq_some_iff] at hp
      obtain ⟨pl', hp', rfl⟩ := hp
      obtain ⟨i, xo, xd⟩ := x
      simp only at h0 hp' hm
      exact wpAnyC_sole h0 (one i pl' ms (n + 1) hN (by rw [h0]; simp) hp' hm hr)
    · split at hp
      rotate_left
      · -- each of those that are ready
        split at hp <;> (try (cases hp; done))
        refine ⟨fun h0 => ?_, fun j hj => ?_⟩
        · exfalso
          cases hrl : readyL rem with
          | nil => exact absurd hrl (by assumption)
          | cons x xs =>
            have := (hrep.ready x.1).2 ⟨x, by rw [hrl]; simp, rfl⟩
            rw [h0] at this; cases this
        · obtain ⟨x, hx, rfl⟩ := (hrep.ready j).1 hj
          obtain ⟨p, u, m0, h1, h2, h3, h4⟩ := altsP_run hp hm hr x hx
          simp only [Option.map_eq_some_iff] at h2
          obtain ⟨pl', hp', rfl⟩ := h2
          exact one x.1 pl' u m0 (by omega) hj hp' h3 h4
      rename_i x hf
      simp only [Option.map_eq_some_iff] at hp
      obtain ⟨pl', hp', rfl⟩ := hp
      have hmemL := List.mem_of_find?_eq_some hf
      have hcond := List.find?_some hf
      obtain ⟨i, xo, xd⟩ := x
      have hmem : i ∈ Region.ready .any ops listed := (hrep.ready i).2 ⟨_, hmemL, rfl⟩
      simp only [Bool.and_eq_true] at hcond
      obtain ⟨⟨hin', hfree⟩, hquiet⟩ := hcond
      have hin : i < hn := Nat.lt_of_lt_of_le (Nat.lt_succ_self i) (Nat.le_of_ble_eq_true hin')
      have hxin : (i, xo, xd) ∈ rem := (List.mem_filter.1 hmemL).1
      simp only at hp' hm hquiet
      unfold trPT at hm
      split at hm <;> (try (cases hm; done))
      rename_i o ho
      split at hm <;> cases hm
      rename_i m ms' hm' hms
      have hun := (mem_ready.1 hmem).1
      obtain ⟨hdst, htr⟩ := trOper_dst hm'
      have hr' : guardQ T m.guard (qv w0 m.op T H0 (FK (run P w0 fin n) (.pt H0 ms' :: k) T m.dst H)) (run P w0 fin n (.pt H0 ms' :: k) (put T m.dst undef) H) := by
        obtain ⟨d, op, g⟩ := m
        cases g with
        | none => exact hr
        | some g => exact hr
      have hI' : HeadInv .any ops hn listed ∧ Heap.Le H0 H := by
        rcases hI with h | hI
        · exact h
        · rw [hI i hin] at hun; cases hun
      have hq : m.op.quiet = true := by
        unfold quietAt at hquiet
        rw [ho] at hquiet
        simp only [Option.bind_some, htr] at hquiet
        exact hquiet
      have go : ∀ v, YieldsIf P ops (Own w0 H0) o v a → run P w0 fin n (.pt H0 ms' :: k) (put T m.dst v) H → wpAnyC P .any ops (Behind P w0 fin N k) (Own w0 H0) hn (fuel + 1) listed a w := by
        intro v hy hrun
        refine wpAnyC_first ho (Region.noSelect_spec hsel) (fun c a w h => by cases h.1) hk hin fuel listed a w hI'.1 (free_spec' hrep hxin ho hfree) hmem hy (hO.mono hI'.2) ?_
        exact ih _ _ pl' ms' n _ H (hrep.drop hun) hp' hms hrun (by omega) (.inl ⟨hI'.1.set hmem hin, hI'.2⟩) _ _ (by rw [hdst]; exact put_eq ha _ _) (by rw [put_defers']; exact hd) hO
      have hyes : qv w0 m.op T H0 (FK (run P w0 fin n) (.pt H0 ms' :: k) T m.dst H) → Region.wanted o (yielded ops a.tmps) = true → wpAnyC P .any ops (Behind P w0 fin N k) (Own w0 H0) hn (fuel + 1) listed a w := by
        intro hqv hw
        obtain ⟨v, hφ, hv⟩ := qv_sound htr hq hqv
        exact go v (.inl ⟨hw, fun w hw => by rw [ev_eq ha]; exact hv w hw⟩) hφ
      have hno : run P w0 fin n (.pt H0 ms' :: k) (put T m.dst undef) H → Region.wanted o (yielded ops a.tmps) = false → wpAnyC P .any ops (Behind P w0 fin N k) (Own w0 H0) hn (fuel + 1) listed a w :=
        fun h hw => go undef (.inr ⟨hw, rfl⟩) h
      have hw := wanted_eq hm' ha
      cases hg : m.guard with
      | none =>
        rw [hg] at hr' hw
        exact hyes hr' hw
      | some dw =>
        obtain ⟨d, want⟩ := dw
        rw [hg] at hr' hw
        simp only [guardQ] at hr'
        replace hw : Region.wanted o (yielded ops a.tmps) = (boolOf (lk T d) == some want) := hw
        generalize lk T d = u at hr' hw
        cases u <;> (try exact hno hr' hw)
        rename_i b
        by_cases hb : b = want
        · exact hyes (hr'.1 hb) (by rw [hw, hb]; simp [boolOf])
        · exact hno (hr'.2 hb) (by rw [hw]; simp [boolOf, hb])

/-! ### The machine -/

/-- From here on the frame comes to its end, and R holds. -/
def Good (P : Program) (b : Frame) (R : Ending → World → Prop) (todo : List Item) (a : Act) (w : World) : Prop :=
  ∀ cs, ∃ e w' fr, R e w' ∧ Comes P (lone (b.at a todo) cs w) (lone fr cs w') e ∧ fr.fn = b.fn ∧ fr.leaving P w' e

theorem Good.steps {b : Frame} {R : Ending → World → Prop} {todo todo' : List Item} {a a' : Act} {w w' : World} (hs : ∀ cs, Steps P (lone (b.at a todo) cs w) (lone (b.at a' todo') cs w')) (h : Good P b R todo' a' w') : Good P b R todo a w := by
  intro cs
  obtain ⟨e, w2, fr, hR, hc, hf, hl⟩ := h cs
  exact ⟨e, w2, fr, hR, Comes.of_steps (hs cs) hc, hf, hl⟩

theorem Good.region {b : Frame} {R : Ending → World → Prop} {id : Nat} {ops : Array Oper} {d : Bool} {k : List Item} {a : Act} {w : World} {Q : Exit → Act → World → Prop} (h : (Code.region id ops d).wp P Q a w)
    (hq : ∀ e a' w', Q e a' w' → e = .normal ∧ Good P b R k a' w') : Good P b R (.code (.region id ops d) :: k) a w := by
  intro cs
  obtain ⟨e, a', w', hQ, harr⟩ := h b k cs
  obtain ⟨rfl, hg⟩ := hq e a' w' hQ
  obtain ⟨e2, w2, fr, hR, hc, hf, hl⟩ := hg cs
  exact ⟨e2, w2, fr, hR, Comes.of_steps harr hc, hf, hl⟩

inductive Rel (P : Program) (w0 : World) (G : List Item → Act → World → Prop) : List It → List Item → Prop
  | nil : Rel P w0 G [] []
  | code {m : MC} {c : Code} {k : List It} {k' : List Item} : trCode P c = some m → Rel P w0 G k k' → Rel P w0 G (.code m :: k) (.code c :: k')
  | blk {id : Nat} {k : List It} {k' : List Item} : Rel P w0 G k k' → Rel P w0 G (.blk id :: k) (.inBlock id :: k')
  | chk {Φ : List Value → Heap → Prop} {c : Code} {k : List It} {k' : List Item} : (∀ T H a w, Φ T H → a.tmps = T.toArray → a.defers = [] → Own w0 H w → G (.inLoop c :: k') a w) → Rel P w0 G k k' →
      Rel P w0 G (.chk Φ :: k) (.inLoop c :: k')
  | lp {m : MC} {c : Code} {k : List It} {k' : List Item} : trCode P c = some m → Rel P w0 G k k' → Rel P w0 G (.lp m :: k) (.inLoop c :: k')
  | scp {c : Code} {k : List It} {k' : List Item} : Rel P w0 G k k' → Rel P w0 G (.scp :: k) (.inScope c :: k')

theorem Rel.exit {G : List Item → Act → World → Prop} {id : Nat} : ∀ {k : List It} {k' : List Item} {r : List It}, Rel P w0 G k k' → exitIt id k = some r → ∃ r', exitTo id k' = some r' ∧ Rel P w0 G r r'
  | _, _, r, .nil, h => by simp [exitIt] at h
  | _, _, r, .code _ hk, h => by
    simp only [exitIt] at h
    obtain ⟨r', h1, h2⟩ := hk.exit h
    exact ⟨r', by simpa [exitTo] using h1, h2⟩
  | _, _, r, .chk _ hk, h => by
    simp only [exitIt] at h
    obtain ⟨r', h1, h2⟩ := hk.exit h
    exact ⟨r', by simpa [exitTo] using h1, h2⟩
  | _, _, r, .lp _ hk, h => by
    simp only [exitIt] at h
    obtain ⟨r', h1, h2⟩ := hk.exit h
    exact ⟨r', by simpa [exitTo] using h1, h2⟩
  | _, _, r, .scp hk, h => by
    simp only [exitIt] at h
    obtain ⟨r', h1, h2⟩ := hk.exit h
    exact ⟨r', by simpa [exitTo] using h1, h2⟩
  | _, _, r, .blk (id := id') hk, h => by
    simp only [exitIt] at h
    split at h
    · rename_i he
      cases h
      exact ⟨_, by simp [exitTo, he], hk⟩
    · rename_i he
      obtain ⟨r', h1, h2⟩ := hk.exit h
      exact ⟨r', by simp only [exitTo]; rw [if_neg (by simpa using he)]; exact h1, h2⟩

theorem run_sound {b : Frame} {fn : Func} {R : Ending → World → Prop} (hb : b.kind = .normal) (hfn : P.funcs[b.fn]? = some fn)
    (hfin : ∀ T H (a : Act) w, fin T H → a.tmps = T.toArray → Own w0 H w → ∃ v, (results fn a.tmps).run P w = .ok v w ∧ R (.returned v) w) :
    ∀ (n : Nat) (st : List It) (todo : List Item), Rel P w0 (Good P b R) st todo → ∀ T H, run P w0 fin n st T H → ∀ (a : Act) w, a.tmps = T.toArray → a.defers = [] → Own w0 H w → Good P b R todo a w := by
  have ends : ∀ (todo : List Item) (hs : ∀ (a : Act) (w : World) cs, Go.step P (lone (b.at a todo) cs w) = Stepped.next (lone { b.at a todo with mode := .returning } cs w)) T H, fin T H → ∀ (a : Act) w, a.tmps = T.toArray → a.defers = [] → Own w0 H w → Good P b R todo a w := by
    intro todo hs T H hf a w ha hd hO cs
    obtain ⟨v, hr, hR⟩ := hfin T H a w hf ha hO
    refine ⟨.returned v, w, { b.at a todo with mode := .returning }, hR, Steps.one (hs a w cs), rfl, rfl, hd, hb, fn, hfn, hr⟩
  intro n
  induction n using Nat.strongRecOn with
  | _ n ih =>
    intro st todo hrel T H hr a w ha hd hO
    cases n with
    | zero => exact hr.elim
    | succ n =>
      have next : ∀ {st' : List It} {todo' : List Item} {T' : List Value}, Rel P w0 (Good P b R) st' todo' → run P w0 fin n st' T' H → a.tmps = T'.toArray → Good P b R todo' a w := fun h1 h2 h3 => ih n (by omega) _ _ h1 _ _ h2 a w h3 hd hO
      have looping : ∀ {c : Code} {m : MC} {k : List It} {k' : List Item}, trCode P c = some m → Rel P w0 (Good P b R) k k' → LoopQ (run P w0 fin n) m k T H → Good P b R (.code c :: .inLoop c :: k') a w := by
        intro c m k k' hx hk hr
        rcases hr with ⟨I, ⟨z0, G0, hG0, h0⟩, hround⟩ | hr
        · have key : ∀ (z : Nat) T H, I z T H → ∀ (a : Act) w, a.tmps = T.toArray → a.defers = [] → Own w0 H w → Good P b R (.code c :: .inLoop c :: k') a w := by
            intro z
            induction z using Nat.strongRecOn with
            | _ z ihz =>
              intro T H hI a w ha hd hO
              refine ih n (by omega) _ _ (.code hx (.chk (fun T' H' a' w' hΦ ha' hd' hO' => ?_) hk)) _ _ (hround z T H hI) a w ha hd hO
              obtain ⟨z', G, hz', hG, hI'⟩ := hΦ
              exact Good.steps (fun cs => .one step_inLoop) (ihz z' hz' T' G hI' a' w' ha' hd' (hO'.mono hG))
          exact key z0 T G0 h0 a w ha hd (hO.mono hG0)
        · exact next (.code hx (.lp hx hk)) hr ha
      cases hrel with
      | lp hx hk => exact Good.steps (fun cs => .one step_inLoop) (looping hx hk hr)
      | nil => exact ends [] (fun a w cs => step_end) T H hr a w ha hd hO
      | blk hk => exact Good.steps (fun cs => .one step_inBlock) (next hk hr ha)
      | scp hk => exact Good.steps (fun cs => .one step_inScope) (next hk hr ha)
      | chk hc hk => exact hc T H a w hr ha hd hO
      | @code m c k k' hm hk =>
        cases c <;> (try simp only [trCode] at hm) <;> (try (cases hm; done))
        case label l => cases hm; exact Good.steps (fun cs => .one step_label) (next hk hr ha)
        case scope c =>
          split at hm <;> cases hm
          rename_i x' hx
          exact Good.steps (fun cs => .one step_scope) (next (.code hx (.scp hk)) hr ha)
        case skip => cases hm; exact Good.steps (fun cs => .one step_skip) (next hk hr ha)
        case ret => cases hm; exact ends _ (fun a w cs => step_ret) T H hr a w ha hd hO
        case seq x y =>
          split at hm <;> cases hm
          rename_i x' y' hx hy
          exact Good.steps (fun cs => .one step_seq) (next (.code hx (.code hy hk)) hr ha)
        case cond c x y =>
          split at hm <;> cases hm
          rename_i x' y' hx hy
          have hr' : condS (run P w0 fin n) (ev T c) (.code x' :: k) (.code y' :: k) T H := hr
          unfold condS at hr'
          split at hr' <;> (try exact hr'.elim)
          rename_i t ht
          have he : a.eval c = .bool t := by rw [ev_eq ha]; exact ht
          refine Good.steps (fun cs => .one (step_cond he)) ?_
          cases t with
          | true => exact next (.code hx hk) (hr'.1 rfl) ha
          | false => exact next (.code hy hk) (hr'.2 rfl) ha
        case block id c =>
          split at hm <;> cases hm
          rename_i x' hx
          exact Good.steps (fun cs => .one step_block) (next (.code hx (.blk hk)) hr ha)
        case exit id =>
          cases hm
          obtain ⟨r, he, hr'⟩ := optQ_some (show optQ (exitIt id k) (fun k' => run P w0 fin n k' T H) from hr)
          obtain ⟨r', h1, h2⟩ := hk.exit he
          exact Good.steps (fun cs => .one (step_exit h1)) (next h2 hr' ha)
        case loop c =>
          split at hm <;> cases hm
          rename_i x' hx
          exact Good.steps (fun cs => .one step_loop) (looping hx hk hr)
        case region id ops d =>
          have back : ∀ e a' w', Behind P w0 fin n k e a' w' → e = .normal ∧ Good P b R k' a' w' := by
            intro e a' w' ⟨he, m, T', H', hm', hr', ha', hd', hO'⟩
            exact ⟨he, ih m (by omega) _ _ hk _ _ hr' a' w' ha' hd' hO'⟩
          cases d with
          | false =>
            simp only [trCode] at hm
            split at hm <;> cases hm
            rename_i l hl
            refine Good.region (Q := Behind P w0 fin n k) (wp_region ?_) back
            exact ops_sound n _ l T H hl hr n (Nat.le_refl _) a w ha hd hO
          | true =>
            simp only [trCode, trAny] at hm
            split at hm <;> (try (cases hm; done))
            rename_i hc
            simp only [Bool.and_eq_true] at hc
            split at hm
            · rename_i pl hpl
              split at hm <;> cases hm
              rename_i ms hms
              refine Good.region (Q := Behind P w0 fin n k) (wp_region_any hc.1.1 (wpAny_of_c _ _ _ _ (pl_sound (H0 := H) hc.1.2 hc.2 _ _ _ pl ms n T H (Rep.start ops) hpl hms hr (Nat.le_refl _) (.inl ⟨headInv_start, Heap.Le.refl _⟩) a _ ha hd hO.drew))) back
            · split at hm <;> (try (cases hm; done))
              rename_i pt hpt
              split at hm <;> cases hm
              rename_i t ht
              refine Good.region (Q := Behind P w0 fin n k) (wp_region_any hc.1.1 (wpAny_of_c _ _ _ _ (pt_sound (H0 := H) hc.1.2 hc.2 _ _ _ pt t n T H (Rep.start ops) hpt ht hr (Nat.le_refl _) (.inl ⟨headInv_start, Heap.Le.refl _⟩) a _ ha hd hO.drew))) back

end
end Go.HL
