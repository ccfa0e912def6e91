/- The heap logic, part i: what the resolved code asks is enough for the loaded code. -/
import Derived.Test.YtdaejnakkingbaaHlh
set_option linter.unusedSimpArgs false
set_option linter.unusedVariables false
namespace Go.HL
open Go.RowKit

section
variable {P : Program} {w0 : World} {fin : List Value → Heap → Prop}

def PInv (ops : Array Oper) (n : Nat) (H0 H : Heap) (listed : Array Bool) : Prop :=
  (HeadInv .any ops n listed ∧ Heap.Le H0 H) ∨ ∀ j, j < n → listed.getD j true = true

theorem getD_set_true' {listed : Array Bool} {i j : Nat} (h : listed.getD j true = true) : (listed.setIfInBounds i true).getD j true = true := by
  by_cases hij : i = j
  · subst hij
    rcases Nat.lt_or_ge i listed.size with h' | h'
    · simp [h']
    · simp [Array.getElem?_eq_none h']
  · rw [getD_set_ne true hij]; exact h

theorem put_defers' (a : Act) (d : Option Tmp) (v : Value) : (a.put d v).defers = a.defers := by cases d <;> rfl

theorem pl_sound {ops : Array Oper} {k : List It} {hn : Nat} {H0 : Heap} (hsel : Region.noSelect ops = true) (hk : headOk .any ops hn = true) {N : Nat} :
    ∀ (fuel : Nat) (listed : Array Bool) (pl : List (Nat × Bool)) (ms : List (Bool × Bool × MOp)) (n : Nat) (T : List Value) (H : Heap), planGo P ops hn fuel listed = some pl → trPlan P ops hn pl = some ms →
    run P w0 fin n (.pl H0 ms :: k) T H → n ≤ N → PInv ops hn H0 H listed → ∀ a w, a.tmps = T.toArray → a.defers = [] → Own w0 H w → wpAnyC P .any ops (Behind P w0 fin N k) (Own w0 H0) hn fuel listed a w := by
  intro fuel
  induction fuel with
  | zero =>
    intro listed pl ms n T H hp hm hr hN hI a w ha hd hO
    unfold planGo at hp
    split at hp <;> cases hp
    rename_i h0
    simp [trPlan] at hm; subst hm
    cases n with
    | zero => exact hr.elim
    | succ n => exact ⟨h0, rfl, n, T, H, by omega, hr, ha, hd, hO⟩
  | succ fuel ih =>
    intro listed pl ms n T H hp hm hr hN hI a w ha hd hO
    unfold planGo at hp
    cases n with
    | zero => exact hr.elim
    | succ n =>
    split at hp
    · rename_i h0
      cases hp
      simp [trPlan] at hm; subst hm
      exact wpAnyC_done h0 ⟨rfl, n, T, H, by omega, hr, ha, hd, hO⟩ _
    · rename_i i h0
      simp only [Option.map_eq_some_iff] at hp
      obtain ⟨pl', hp', rfl⟩ := hp
      unfold trPlan at hm
      split at hm <;> (try (cases hm; done))
      rename_i o ho
      split at hm <;> cases hm
      rename_i m ms' hm' hms
      have hmem : i ∈ Region.ready .any ops listed := by rw [h0]; simp
      have hun := (mem_ready.1 hmem).1
      obtain ⟨hdst, htr⟩ := trOper_dst hm'
      have hr' : guardQ T m.guard (mwp P w0 m.op T H (KP (run P w0 fin n) (.pl H0 ms' :: k) T m.dst H0 (decide (i < hn)))) (run P w0 fin n (.pl H0 ms' :: k) (put T m.dst undef) H) := by
        obtain ⟨d, op, g⟩ := m
        cases g with
        | none => exact hr
        | some g => exact hr
      have inv : ∀ H', (i < hn → Heap.Le H0 H') → PInv ops hn H0 H' (listed.setIfInBounds i true) := by
        intro H' hle
        rcases hI with ⟨hI, _⟩ | hI
        · by_cases hi : i < hn
          · exact .inl ⟨hI.set hmem hi, hle hi⟩
          · refine .inr fun j hj => getD_set_true' ?_
            cases hjl : listed.getD j true with
            | true => rfl
            | false => exact absurd hmem (noTail hk hI hj hjl i (by omega))
        · exact .inr fun j hj => getD_set_true' (hI j hj)
      have hle0 : i < hn → Heap.Le H0 H := by
        intro hi
        rcases hI with ⟨_, h⟩ | hI
        · exact h
        · rw [hI i hi] at hun; cases hun
      refine wpAnyC_sole h0 (wpOp_guard ho hm' ha hr' (fun hy => ?_) (fun hno => ?_))
      · refine mop_sound htr ha hO hy (fun v H' w' hkk ho' => ⟨fun hi => ho'.mono (hkk.1 (by simpa using hi)), ?_⟩)
        exact ih _ pl' ms' n _ H' hp' hms hkk.2 (by omega) (inv H' fun hi => hkk.1 (by simpa using hi)) _ _ (by rw [hdst]; exact put_eq ha _ _) (by rw [put_defers']; exact hd) ho'
      · refine ⟨fun hi => hO.mono (hle0 hi), ?_⟩
        exact ih _ pl' ms' n _ H hp' hms hno (by omega) (inv H hle0) _ _ (by rw [hdst]; exact put_eq ha _ _) (by rw [put_defers']; exact hd) hO
    · split at hp <;> (try (cases hp; done))
      rename_i i hf
      simp only [Option.map_eq_some_iff] at hp
      obtain ⟨pl', hp', rfl⟩ := hp
      have hmem : i ∈ Region.ready .any ops listed := List.mem_of_find?_eq_some hf
      have hcond := List.find?_some hf
      simp only [Bool.and_eq_true, decide_eq_true_eq] at hcond
      obtain ⟨⟨hin, hfree⟩, hquiet⟩ := hcond
      unfold trPlan at hm
      split at hm <;> (try (cases hm; done))
      rename_i o ho
      split at hm <;> cases hm
      rename_i m ms' hm' hms
      have hun := (mem_ready.1 hmem).1
      obtain ⟨hdst, htr⟩ := trOper_dst hm'
      have hr' : guardQ T m.guard (qv w0 m.op T H0 (FK (run P w0 fin n) (.pl H0 ms' :: k) T m.dst H)) (run P w0 fin n (.pl H0 ms' :: k) (put T m.dst undef) H) := by
        obtain ⟨d, op, g⟩ := m
        cases g with
        | none => exact hr
        | some g => exact hr
      have hI' : HeadInv .any ops hn listed ∧ Heap.Le H0 H := by
        rcases hI with h | hI
        · exact h
        · rw [hI i hin] at hun; cases hun
      have hq : m.op.quiet = true := by
        unfold quietAt at hquiet
        rw [ho] at hquiet
        simp only [Option.bind_some, htr] at hquiet
        exact hquiet
      have go : ∀ v, YieldsIf P ops (Own w0 H0) o v a → run P w0 fin n (.pl H0 ms' :: k) (put T m.dst v) H → wpAnyC P .any ops (Behind P w0 fin N k) (Own w0 H0) hn (fuel + 1) listed a w := by
        intro v hy hrun
        refine wpAnyC_first ho (Region.noSelect_spec hsel) (fun c a w h => by cases h.1) hk hin fuel listed a w hI'.1 (Region.free_spec ho hfree) hmem hy (hO.mono hI'.2) ?_
        exact ih _ pl' ms' n _ H hp' hms hrun (by omega) (.inl ⟨hI'.1.set hmem hin, hI'.2⟩) _ _ (by rw [hdst]; exact put_eq ha _ _) (by rw [put_defers']; exact hd) hO
      have hyes : qv w0 m.op T H0 (FK (run P w0 fin n) (.pl H0 ms' :: k) T m.dst H) → Region.wanted o (yielded ops a.tmps) = true → wpAnyC P .any ops (Behind P w0 fin N k) (Own w0 H0) hn (fuel + 1) listed a w := by
        intro hqv hw
        obtain ⟨v, hφ, hv⟩ := qv_sound htr hq hqv
        exact go v (.inl ⟨hw, fun w hw => by rw [ev_eq ha]; exact hv w hw⟩) hφ
      have hno : run P w0 fin n (.pl H0 ms' :: k) (put T m.dst undef) H → Region.wanted o (yielded ops a.tmps) = false → wpAnyC P .any ops (Behind P w0 fin N k) (Own w0 H0) hn (fuel + 1) listed a w :=
        fun h hw => go undef (.inr ⟨hw, rfl⟩) h
      have hw := wanted_eq hm' ha
      cases hg : m.guard with
      | none =>
        rw [hg] at hr' hw
        exact hyes hr' hw
      | some dw =>
        obtain ⟨d, want⟩ := dw
        rw [hg] at hr' hw
        simp only [guardQ] at hr'
        replace hw : Region.wanted o (yielded ops a.tmps) = (boolOf (lk T d) == some want) := hw
        generalize lk T d = u at hr' hw
        cases u <;> (try exact hno hr' hw)
        rename_i b
        by_cases hb : b = want
        · exact hyes (hr'.1 hb) (by rw [hw, hb]; simp [boolOf])
        · exact hno (hr'.2 hb) (by rw [hw]; simp [boolOf, hb])

/-! ### The machine -/

/-- From here on the frame comes to its end, and R holds. -/
def Good (P : Program) (b : Frame) (R : Ending → World → Prop) (todo : List Item) (a : Act) (w : World) : Prop :=
  ∀ cs, ∃ e w' fr, R e w' ∧ Comes P (lone (b.at a todo) cs w) (lone fr cs w') e ∧ fr.fn = b.fn ∧ fr.leaving P w' e

theorem Good.steps {b : Frame} {R : Ending → World → Prop} {todo todo' : List Item} {a a' : Act} {w w' : World} (hs : ∀ cs, Steps P (lone (b.at a todo) cs w) (lone (b.at a' todo') cs w')) (h : Good P b R todo' a' w') : Good P b R todo a w := by
  intro cs
  obtain ⟨e, w2, fr, hR, hc, hf, hl⟩ := h cs
  exact ⟨e, w2, fr, hR, Comes.of_steps (hs cs) hc, hf, hl⟩

theorem Good.region {b : Frame} {R : Ending → World → Prop} {id : Nat} {ops : Array Oper} {d : Bool} {k : List Item} {a : Act} {w : World} {Q : Exit → Act → World → Prop} (h : (Code.region id ops d).wp P Q a w)
    (hq : ∀ e a' w', Q e a' w' → e = .normal ∧ Good P b R k a' w') : Good P b R (.code (.region id ops d) :: k) a w := by
  intro cs
  obtain ⟨e, a', w', hQ, harr⟩ := h b k cs
  obtain ⟨rfl, hg⟩ := hq e a' w' hQ
  obtain ⟨e2, w2, fr, hR, hc, hf, hl⟩ := hg cs
  exact ⟨e2, w2, fr, hR, Comes.of_steps harr hc, hf, hl⟩

inductive Rel (P : Program) (w0 : World) (G : List Item → Act → World → Prop) : List It → List Item → Prop
  | nil : Rel P w0 G [] []
  | code {m : MC} {c : Code} {k : List It} {k' : List Item} : trCode P c = some m → Rel P w0 G k k' → Rel P w0 G (.code m :: k) (.code c :: k')
  | blk {id : Nat} {k : List It} {k' : List Item} : Rel P w0 G k k' → Rel P w0 G (.blk id :: k) (.inBlock id :: k')
  | chk {Φ : List Value → Heap → Prop} {c : Code} {k : List It} {k' : List Item} : (∀ T H a w, Φ T H → a.tmps = T.toArray → a.defers = [] → Own w0 H w → G (.inLoop c :: k') a w) → Rel P w0 G k k' →
      Rel P w0 G (.chk Φ :: k) (.inLoop c :: k')
  | lp {m : MC} {c : Code} {k : List It} {k' : List Item} : trCode P c = some m → Rel P w0 G k k' → Rel P w0 G (.lp m :: k) (.inLoop c :: k')

theorem Rel.exit {G : List Item → Act → World → Prop} {id : Nat} : ∀ {k : List It} {k' : List Item} {r : List It}, Rel P w0 G k k' → exitIt id k = some r → ∃ r', exitTo id k' = some r' ∧ Rel P w0 G r r'
  | _, _, r, .nil, h => by simp [exitIt] at h
  | _, _, r, .code _ hk, h => by
    simp only [exitIt] at h
    obtain ⟨r', h1, h2⟩ := hk.exit h
    exact ⟨r', by simpa [exitTo] using h1, h2⟩
  | _, _, r, .chk _ hk, h => by
    simp only [exitIt] at h
    obtain ⟨r', h1, h2⟩ := hk.exit h
    exact ⟨r', by simpa [exitTo] using h1, h2⟩
  | _, _, r, .lp _ hk, h => by
    simp only [exitIt] at h
    obtain ⟨r', h1, h2⟩ := hk.exit h
    exact ⟨r', by simpa [exitTo] using h1, h2⟩
  | _, _, r, .blk (id := id') hk, h => by
    simp only [exitIt] at h
    split at h
    · rename_i he
      cases h
      exact ⟨_, by simp [exitTo, he], hk⟩
    · rename_i he
      obtain ⟨r', h1, h2⟩ := hk.exit h
      exact ⟨r', by simp only [exitTo]; rw [if_neg (by simpa using he)]; exact h1, h2⟩

theorem run_sound {b : Frame} {fn : Func} {R : Ending → World → Prop} (hb : b.kind = .normal) (hfn : P.funcs[b.fn]? = some fn)
    (hfin : ∀ T H (a : Act) w, fin T H → a.tmps = T.toArray → Own w0 H w → ∃ v, (results fn a.tmps).run P w = .ok v w ∧ R (.returned v) w) :
    ∀ (n : Nat) (st : List It) (todo : List Item), Rel P w0 (Good P b R) st todo → ∀ T H, run P w0 fin n st T H → ∀ (a : Act) w, a.tmps = T.toArray → a.defers = [] → Own w0 H w → Good P b R todo a w := by
  have ends : ∀ (todo : List Item) (hs : ∀ (a : Act) (w : World) cs, Go.step P (lone (b.at a todo) cs w) = Stepped.next (lone { b.at a todo with mode := .returning } cs w)) T H, fin T H → ∀ (a : Act) w, a.tmps = T.toArray → a.defers = [] → Own w0 H w → Good P b R todo a w := by
    intro todo hs T H hf a w ha hd hO cs
    obtain ⟨v, hr, hR⟩ := hfin T H a w hf ha hO
    refine ⟨.returned v, w, { b.at a todo with mode := .returning }, hR, Steps.one (hs a w cs), rfl, rfl, hd, hb, fn, hfn, hr⟩
  intro n
  induction n using Nat.strongRecOn with
  | _ n ih =>
    intro st todo hrel T H hr a w ha hd hO
    cases n with
    | zero => exact hr.elim
    | succ n =>
      have next : ∀ {st' : List It} {todo' : List Item} {T' : List Value}, Rel P w0 (Good P b R) st' todo' → run P w0 fin n st' T' H → a.tmps = T'.toArray → Good P b R todo' a w := fun h1 h2 h3 => ih n (by omega) _ _ h1 _ _ h2 a w h3 hd hO
      have looping : ∀ {c : Code} {m : MC} {k : List It} {k' : List Item}, trCode P c = some m → Rel P w0 (Good P b R) k k' → LoopQ (run P w0 fin n) m k T H → Good P b R (.code c :: .inLoop c :: k') a w := by
        intro c m k k' hx hk hr
        rcases hr with ⟨I, μ, h0, hround⟩ | hr
        · have key : ∀ (z : Nat) T H, μ T H = z → I T H → ∀ (a : Act) w, a.tmps = T.toArray → a.defers = [] → Own w0 H w → Good P b R (.code c :: .inLoop c :: k') a w := by
            intro z
            induction z using Nat.strongRecOn with
            | _ z ihz =>
              intro T H hz hI a w ha hd hO
              refine ih n (by omega) _ _ (.code hx (.chk (fun T' H' a' w' hΦ ha' hd' hO' => ?_) hk)) _ _ (hround T H hI) a w ha hd hO
              exact Good.steps (fun cs => .one step_inLoop) (ihz _ (by rw [← hz]; exact hΦ.2) T' H' rfl hΦ.1 a' w' ha' hd' hO')
          exact key _ T H rfl h0 a w ha hd hO
        · exact next (.code hx (.lp hx hk)) hr ha
      cases hrel with
      | lp hx hk => exact Good.steps (fun cs => .one step_inLoop) (looping hx hk hr)
      | nil => exact ends [] (fun a w cs => step_end) T H hr a w ha hd hO
      | blk hk => exact Good.steps (fun cs => .one step_inBlock) (next hk hr ha)
      | chk hc hk => exact hc T H a w hr ha hd hO
      | @code m c k k' hm hk =>
        cases c <;> (try simp only [trCode] at hm) <;> (try (cases hm; done))
        case skip => cases hm; exact Good.steps (fun cs => .one step_skip) (next hk hr ha)
        case ret => cases hm; exact ends _ (fun a w cs => step_ret) T H hr a w ha hd hO
        case seq x y =>
          split at hm <;> cases hm
          rename_i x' y' hx hy
          exact Good.steps (fun cs => .one step_seq) (next (.code hx (.code hy hk)) hr ha)
        case cond c x y =>
          split at hm <;> cases hm
          rename_i x' y' hx hy
          have hr' : condS (run P w0 fin n) (ev T c) (.code x' :: k) (.code y' :: k) T H := hr
          unfold condS at hr'
          split at hr' <;> (try exact hr'.elim)
          rename_i t ht
          have he : a.eval c = .bool t := by rw [ev_eq ha]; exact ht
          refine Good.steps (fun cs => .one (step_cond he)) ?_
          cases t with
          | true => exact next (.code hx hk) (hr'.1 rfl) ha
          | false => exact next (.code hy hk) (hr'.2 rfl) ha
        case block id c =>
          split at hm <;> cases hm
          rename_i x' hx
          exact Good.steps (fun cs => .one step_block) (next (.code hx (.blk hk)) hr ha)
        case exit id =>
          cases hm
          obtain ⟨r, he, hr'⟩ := optQ_some (show optQ (exitIt id k) (fun k' => run P w0 fin n k' T H) from hr)
          obtain ⟨r', h1, h2⟩ := hk.exit he
          exact Good.steps (fun cs => .one (step_exit h1)) (next h2 hr' ha)
        case loop c =>
          split at hm <;> cases hm
          rename_i x' hx
          exact Good.steps (fun cs => .one step_loop) (looping hx hk hr)
        case region id ops d =>
          have back : ∀ e a' w', Behind P w0 fin n k e a' w' → e = .normal ∧ Good P b R k' a' w' := by
            intro e a' w' ⟨he, m, T', H', hm', hr', ha', hd', hO'⟩
            exact ⟨he, ih m (by omega) _ _ hk _ _ hr' a' w' ha' hd' hO'⟩
          cases d with
          | false =>
            simp only [trCode] at hm
            split at hm <;> cases hm
            rename_i l hl
            refine Good.region (Q := Behind P w0 fin n k) (wp_region ?_) back
            exact ops_sound n _ l T H hl hr n (Nat.le_refl _) a w ha hd hO
          | true =>
            simp only [trCode, trAny] at hm
            split at hm <;> (try (cases hm; done))
            rename_i hc
            simp only [Bool.and_eq_true] at hc
            split at hm <;> (try (cases hm; done))
            rename_i pl hpl
            split at hm <;> cases hm
            rename_i ms hms
            refine Good.region (Q := Behind P w0 fin n k) (wp_region_any hc.1.1 (wpAny_of_c _ _ _ _ (pl_sound (H0 := H) hc.1.2 hc.2 _ _ pl ms n T H hpl hms hr (Nat.le_refl _) (.inl ⟨headInv_start, Heap.Le.refl _⟩) a _ ha hd hO.drew))) back

end
end Go.HL
