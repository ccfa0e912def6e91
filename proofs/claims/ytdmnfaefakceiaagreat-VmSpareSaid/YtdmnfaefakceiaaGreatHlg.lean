/- The heap logic, part g: a region whose order Go leaves open: what only reads may be taken first, while nothing that it reads is written before the region's end. -/
import Derived.Test.YtdmnfaefakceiaaGreatHlf
import Derived.OrdersHeld
import Derived.StillTail
set_option linter.unusedSimpArgs false
set_option linter.unusedVariables false
namespace Go.HL
open Go.RowKit

/-! ### What an operation waits for -/
def edgeMask (o : Oper) (acc : List Nat) : Nat := o.after.toList.foldl (fun s e => if Region.binds .any e then s ||| (2 ^ e.on ||| acc.getD e.on 0) else s) 0
def maskGo : List Oper → List Nat → List Nat
  | [], acc => acc
  | o :: l, acc => maskGo l (acc ++ [edgeMask o acc])
/-- For each operation the numbers of those that it waits for, as bits. -/
def masks (ops : Array Oper) : List Nat := maskGo ops.toList []
def anc (ms : List Nat) (j f : Nat) : Bool := (ms.getD j 0).testBit f

theorem foldl_bit {acc : List Nat} {i : Nat} : ∀ (l : List Edge) (s : Nat), (l.foldl (fun s e => if Region.binds .any e then s ||| (2 ^ e.on ||| acc.getD e.on 0) else s) s).testBit i = true →
    s.testBit i = true ∨ ∃ e ∈ l, Region.binds .any e = true ∧ (e.on = i ∨ (acc.getD e.on 0).testBit i = true)
  | [], s, h => .inl h
  | e :: l, s, h => by
    rw [List.foldl_cons] at h
    rcases foldl_bit l _ h with h1 | ⟨e', h1, h2, h3⟩
    · split at h1
      · rename_i hb
        rw [Nat.testBit_or, Nat.testBit_or, Nat.testBit_two_pow] at h1
        simp only [Bool.or_eq_true, decide_eq_true_eq] at h1
        rcases h1 with h1 | h1
        · exact .inl h1
        · exact .inr ⟨e, by simp, hb, h1⟩
      · exact .inl h1
    · exact .inr ⟨e', by simp [h1], h2, h3⟩

section
variable {ops : Array Oper} {listed : Array Bool} {i : Nat}
/-- Where all that an operation waits for directly has come, all that it waits for has. -/
theorem maskGo_spec (hcl : ∀ j oj, ops[j]? = some oj → listed.getD j false = true → ∀ e ∈ oj.after, Region.binds .any e = true → listed.getD e.on false = true) :
    ∀ (l : List Oper) (acc : List Nat), (∀ k, l[k]? = ops[acc.length + k]?) →
    (∀ j oj, ops[j]? = some oj → (acc.getD j 0).testBit i = true → (∀ e ∈ oj.after, Region.binds .any e = true → listed.getD e.on false = true) → listed.getD i false = true) →
    ∀ j oj, ops[j]? = some oj → ((maskGo l acc).getD j 0).testBit i = true → (∀ e ∈ oj.after, Region.binds .any e = true → listed.getD e.on false = true) → listed.getD i false = true
  | [], acc, _, h => h
  | o :: l, acc, hl, h => by
    have ho : ops[acc.length]? = some o := by have := hl 0; simpa using this.symm
    refine maskGo_spec hcl l (acc ++ [edgeMask o acc]) (fun k => by have := hl (k + 1); simp only [List.getElem?_cons_succ] at this; rw [this]; simp only [List.length_append, List.length_cons, List.length_nil]; congr 1; omega) ?_
    intro j oj hj hb hdep
    rcases Nat.lt_trichotomy j acc.length with hlt | rfl | hgt
    · rw [List.getD_eq_getElem?_getD, List.getElem?_append_left hlt, ← List.getD_eq_getElem?_getD] at hb
      exact h j oj hj hb hdep
    · obtain rfl : o = oj := Option.some.inj (ho.symm.trans hj)
      have hb' : (edgeMask o acc).testBit i = true := by
        have : (acc ++ [edgeMask o acc]).getD acc.length 0 = edgeMask o acc := by simp [List.getD]
        rw [this] at hb; exact hb
      rcases foldl_bit _ _ hb' with h0 | ⟨e, he, hbi, hon⟩
      · simp at h0
      · have hle := hdep e (by simpa using he) hbi
        rcases hon with hon | hon
        · rw [← hon]; exact hle
        · cases hoe : ops[e.on]? with
          | none =>
            rcases Nat.lt_or_ge e.on acc.length with hlt | hge
            · exfalso
              have h1 : acc.length < ops.size := (Array.getElem?_eq_some_iff.1 ho).1
              rw [Array.getElem?_eq_none_iff] at hoe
              omega
            · simp [List.getD, List.getElem?_eq_none hge] at hon
          | some oe => exact h e.on oe hoe hon (hcl e.on oe hoe hle)
    · have : (acc ++ [edgeMask o acc]).getD j 0 = 0 := by simp [List.getD, List.getElem?_eq_none (show (acc ++ [edgeMask o acc]).length ≤ j by simp; omega)]
      rw [this] at hb; simp at hb

theorem anc_listed {n : Nat} (inv : HeadInv .any ops n listed) {j : Nat} {oj : Oper} (hj : ops[j]? = some oj) (ha : anc (masks ops) j i = true) (hdep : ∀ e ∈ oj.after, Region.binds .any e = true → listed.getD e.on false = true) : listed.getD i false = true :=
  maskGo_spec inv.closed ops.toList [] (fun k => by simp) (fun j oj _ hb => by simp [List.getD] at hb) j oj hj ha hdep
end

section
variable {ops : Array Oper} {listed : Array Bool} {n i : Nat}
theorem listed_lt (inv : HeadInv .any ops n listed) {k : Nat} (h : listed.getD k false = true) : ∃ o, ops[k]? = some o := by
  have hlt : k < ops.size := by
    rcases Nat.lt_or_ge k listed.size with h' | h'
    · rw [← inv.size]; exact h'
    · rw [Array.getD_eq_getD_getElem?, Array.getElem?_eq_none h'] at h; cases h
  exact ⟨ops[k], Array.getElem?_eq_getElem hlt⟩
theorem anc_of_listed (inv : HeadInv .any ops n listed) {k : Nat} (h : listed.getD k false = true) (ha : anc (masks ops) k i = true) : listed.getD i false = true := by
  obtain ⟨o, ho⟩ := listed_lt inv h
  exact anc_listed inv ho ha (inv.closed k o ho h)
theorem anc_of_ready (inv : HeadInv .any ops n listed) {k : Nat} (h : k ∈ Region.ready .any ops listed) (ha : anc (masks ops) k i = true) : listed.getD i false = true := by
  obtain ⟨-, o, ho, hall⟩ := mem_ready.1 h
  exact anc_listed inv ho ha hall
theorem not_both (h : listed.getD i true = false) (h' : listed.getD i false = true) : False := by rw [getD_both h] at h'; cases h'
theorem getD_set_false' {j : Nat} (h : listed.getD j false = true) : (listed.setIfInBounds i true).getD j false = true := by
  by_cases hij : i = j
  · subst hij
    rcases Nat.lt_or_ge i listed.size with h' | h'
    · simp [h']
    · rw [Array.getD_eq_getD_getElem?, Array.getElem?_eq_none h'] at h; cases h
  · rw [getD_set_ne false hij]; exact h
theorem set_self (h : listed.getD i true = false) : (listed.setIfInBounds i true).getD i false = true := by
  rcases Nat.lt_or_ge i listed.size with h' | h'
  · simp [h']
  · rw [Array.getD_eq_getD_getElem?, Array.getElem?_eq_none h'] at h; cases h
theorem getD_of_set {k : Nat} (h : (listed.setIfInBounds i true).getD k false = true) : k = i ∨ listed.getD k false = true := by
  by_cases hik : i = k
  · exact .inl hik.symm
  · rw [getD_set_ne false hik] at h; exact .inr h

/-- The one that is taken first, f, might still come: nothing that acts and waits for it has come. -/
def AQ (ops : Array Oper) (FT : List Nat) (listed : Array Bool) (f : Nat) : Prop := f ∈ FT ∧ ∀ k, listed.getD k false = true → k ∈ FT ∨ anc (masks ops) k f = false
/-- The one that is taken first, f, might still come behind operation j. -/
def DQ (ops : Array Oper) (FT : List Nat) (n : Nat) (listed : Array Bool) (j f : Nat) : Prop := j < n ∧ AQ ops FT listed f ∧ (j ∈ FT ∨ anc (masks ops) j f = false)
theorem AQ.self {FT : List Nat} (inv : HeadInv .any ops n listed) (hi : i ∈ FT) (hun : listed.getD i true = false) : AQ ops FT listed i := ⟨hi, fun k hk => by
  cases ha : anc (masks ops) k i with
  | false => exact .inr rfl
  | true => exact (not_both hun (anc_of_listed inv hk ha)).elim⟩
theorem AQ.first {FT : List Nat} {f : Nat} (hi : i ∈ FT) (h : AQ ops FT listed f) : AQ ops FT (listed.setIfInBounds i true) f := ⟨h.1, fun k hk => by
  rcases getD_of_set hk with rfl | hk
  · exact .inl hi
  · exact h.2 k hk⟩
theorem AQ.before {FT : List Nat} {f j : Nat} (hj : listed.getD j true = false) (h : AQ ops FT (listed.setIfInBounds j true) f) : AQ ops FT listed f ∧ (j ∈ FT ∨ anc (masks ops) j f = false) :=
  ⟨⟨h.1, fun k hk => h.2 k (getD_set_false' hk)⟩, h.2 j (set_self hj)⟩
end

section
variable {P : Program} {ops : Array Oper} {Q : Exit → Act → World → Prop} {S : Nat → World → Prop} {n : Nat} {FT : List Nat}

/-- Behind each operation behind which the one f that is taken first might still come, S f holds. -/
def wpAnyC (P : Program) (ops : Array Oper) (Q : Exit → Act → World → Prop) (S : Nat → World → Prop) (FT : List Nat) (n : Nat) : Nat → Array Bool → Act → World → Prop
  | 0, listed, a, w => Region.ready .any ops listed = [] ∧ Q .normal a w
  | fuel + 1, listed, a, w =>
    (Region.ready .any ops listed = [] → Q .normal a w) ∧
    ∀ i ∈ Region.ready .any ops listed, wpOp P ops Q i (fun a' w' => (∀ f, DQ ops FT n listed i f → S f w') ∧ wpAnyC P ops Q S FT n fuel (listed.setIfInBounds i true) a' w') a w

theorem wpAny_of_c : ∀ (fuel : Nat) (listed : Array Bool) (a : Act) (w : World), wpAnyC P ops Q S FT n fuel listed a w → wpAny P .any ops Q fuel listed a w
  | 0, _, _, _, h => h
  | fuel + 1, _, _, _, h => ⟨h.1, fun i hi => wpOp_mono (fun a' w' h' => wpAny_of_c fuel _ a' w' h'.2) (h.2 i hi)⟩

def headOk (md : Region.Mode) (ops : Array Oper) (n : Nat) : Bool :=
  decide (n = ops.size) || (decide (n < ops.size) && Region.sinkB md ops n && Region.chainB md ops n)

theorem noTail (hk : headOk .any ops n = true) {listed : Array Bool} (inv : HeadInv .any ops n listed) {i : Nat} (hi : i < n) (hun : listed.getD i true = false) :
    ∀ t, n ≤ t → t ∉ Region.ready .any ops listed := by
  unfold headOk at hk
  simp only [Bool.or_eq_true, decide_eq_true_eq, Bool.and_eq_true] at hk
  rcases hk with hk | ⟨⟨h1, h2⟩, h3⟩
  · intro t ht hr
    obtain ⟨_, o, ho, _⟩ := mem_ready.1 hr
    have := (Array.getElem?_eq_some_iff.1 ho).1
    omega
  · exact tail_waits h2 h3 h1 inv _ i rfl hi hun

theorem wpAnyC_first {i : Nat} {oi : Oper} {v : Value} (hi : ops[i]? = some oi) (hsel : ∀ (j : Nat) (o : Oper) cs b, ops[j]? = some o → o.op ≠ .select cs b)
    (hQ : ∀ c a w, Q (.panic c) (a.put oi.dst v) w → Q (.panic c) a w) (hk : headOk .any ops n = true) (hin : i < n) (hiF : i ∈ FT) :
    ∀ (fuel : Nat) (listed : Array Bool) (a : Act) (w : World), HeadInv .any ops n listed →
      (∀ j oj, ops[j]? = some oj → j ≠ i → listed.getD j true = false → (∀ e ∈ oj.after, Region.binds .any e = true → e.on ≠ i) → oi.apart ops oj = true) →
      i ∈ Region.ready .any ops listed → YieldsIf P ops (S i) oi v a → (∀ f, AQ ops FT listed f → S f w) →
      wpAnyC P ops Q S FT n fuel (listed.setIfInBounds i true) (a.put oi.dst v) w → wpAnyC P ops Q S FT n (fuel + 1) listed a w := by
  intro fuel
  induction fuel with
  | zero =>
    intro listed a w inv _ hr hy hS H
    have hun := (mem_ready.1 hr).1
    refine ⟨fun h => (by rw [h] at hr; cases hr), fun j hj => ?_⟩
    by_cases hji : j = i
    · subst hji; exact hy.wpOp hi (hS _ (.self inv hiF hun)) ⟨fun f hf => hS f hf.2.1, H⟩
    · have := ready_mono hj hji
      rw [H.1] at this
      cases this
  | succ fuel ih =>
    intro listed a w inv hfree hr hy hS H
    refine ⟨fun h => (by rw [h] at hr; cases hr), fun j hj => ?_⟩
    have hun := (mem_ready.1 hr).1
    have hjn : j < n := by
      rcases Nat.lt_or_ge j n with h | h
      · exact h
      · exact absurd hj (noTail hk inv hin hun j h)
    by_cases hji : j = i
    · subst hji; exact hy.wpOp hi (hS _ (.self inv hiF hun)) ⟨fun f hf => hS f hf.2.1, H⟩
    · have h1 := H.2 j (ready_mono hj hji)
      obtain ⟨hjun, oj, hoj, hall⟩ := mem_ready.1 hj
      have hnot : ∀ e ∈ oj.after, Region.binds .any e = true → e.on ≠ i := fun e he hb heq => by
        have h1 := hall e he hb
        rw [heq, getD_both hun] at h1
        cases h1
      have h2 := wpOp_putIf hoj (hfree j oj hoj hji hjun hnot) (fun cs b => hsel i oi cs b hi) (fun cs b => hsel j oj cs b hoj) hQ hy h1
      have hfree' : ∀ k ok, ops[k]? = some ok → k ≠ i → (listed.setIfInBounds j true).getD k true = false →
          (∀ e ∈ ok.after, Region.binds .any e = true → e.on ≠ i) → oi.apart ops ok = true := fun k ok hk hki hun hno => by
        refine hfree k ok hk hki ?_ hno
        by_cases hjk : j = k
        · subst hjk; exact hjun
        · rw [getD_set_ne true hjk] at hun; exact hun
      have up : ∀ f, DQ ops FT n listed j f → DQ ops FT n (listed.setIfInBounds i true) j f := fun f hf => ⟨hf.1, hf.2.1.first hiF, hf.2.2⟩
      refine wpOp_mono (fun a' w' h3 => ⟨fun f hf => h3.2.1 f (up f hf), ih (listed.setIfInBounds j true) a' w' (inv.set hj hjn) hfree' (ready_mono hr (Ne.symm hji)) h3.1 (fun f hf => h3.2.1 f (up f ⟨hjn, (hf.before hjun).1, (hf.before hjun).2⟩)) ?_⟩) h2
      rw [Array.setIfInBounds_comm _ _ hji]
      exact h3.2.2

theorem headInv_start : HeadInv .any ops n (Array.replicate ops.size false) :=
  ⟨by simp, fun j oj _ h => (by rw [getD_replicate_false] at h; cases h), fun t _ ht => by simp [ht]⟩

/-- One operation that alone may come up. -/
theorem wpAnyC_sole {i fuel : Nat} {listed : Array Bool} {a : Act} {w : World} (hr : Region.ready .any ops listed = [i])
    (h : wpOp P ops Q i (fun a' w' => (∀ f, DQ ops FT n listed i f → S f w') ∧ wpAnyC P ops Q S FT n fuel (listed.setIfInBounds i true) a' w') a w) : wpAnyC P ops Q S FT n (fuel + 1) listed a w :=
  ⟨fun h0 => (by rw [hr] at h0; cases h0), fun j hj => (by rw [hr] at hj; simp at hj; subst hj; exact h)⟩

theorem wpAnyC_done {listed : Array Bool} {a : Act} {w : World} (hr : Region.ready .any ops listed = []) (h : Q .normal a w) :
    ∀ fuel, wpAnyC P ops Q S FT n fuel listed a w
  | 0 => ⟨hr, h⟩
  | _ + 1 => ⟨fun _ => h, by rw [hr]; simp⟩

end
end Go.HL
