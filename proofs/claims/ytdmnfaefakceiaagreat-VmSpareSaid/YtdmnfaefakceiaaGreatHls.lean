/- The heap logic, part s: heaps that grow, slices of any cells, and slices that are built by append. -/
import Derived.Test.YtdmnfaefakceiaaGreatHly
set_option linter.unusedSimpArgs false
set_option linter.unusedVariables false
namespace Go.HL
open Go.RowKit Go.ChangeShapes Go.WideShapes Go.ChangeAt
variable {w0 : World} {H G G' : Heap}

/-- What was known stays; what is new lies behind the world's beginning. -/
def Grow (w0 : World) (H G : Heap) : Prop := ∀ c, G c = H c ∨ (H c = none ∧ w0.heap.size ≤ c)
theorem Grow.refl (H : Heap) : Grow w0 H H := fun _ => .inl rfl
theorem Grow.trans (h : Grow w0 H G) (h' : Grow w0 G G') : Grow w0 H G' := fun c => by
  rcases h c with e | ⟨e1, e2⟩
  · rcases h' c with e' | ⟨e1', e2'⟩
    · exact .inl (e'.trans e)
    · exact .inr ⟨by rw [← e]; exact e1', e2'⟩
  · exact .inr ⟨e1, e2⟩
theorem Grow.set {b : Nat} {x : Blk} (h : Grow w0 H G) (hb : w0.heap.size ≤ b) (hn : H b = none) : Grow w0 H (G.set b x) := fun c => by
  by_cases e : c = b
  · subst e; exact .inr ⟨hn, hb⟩
  · rw [Heap.set_other _ _ e]; exact h c
theorem Grow.some {b : Nat} {x : Blk} (h : Grow w0 H G) (e : H b = some x) : G b = some x := by
  rcases h b with e' | ⟨e1, _⟩
  · rw [e', e]
  · rw [e1] at e; cases e
theorem Grow.none {b : Nat} (h : Grow w0 H G) (e : G b = none) : H b = none := by
  rcases h b with e' | ⟨e1, _⟩
  · rw [← e', e]
  · exact e1
theorem Grow.le (h : Grow w0 H G) : Heap.Le H G := fun b x e => h.some e
theorem rd1_fresh {b off c : Nat} {v : Value} (h : rd1 w0 H b off = some v) (hc : w0.heap.size ≤ c) (hn : H c = none) : c ≠ b := fun e => by
  subst e
  unfold rd1 at h
  rw [hn] at h
  simp only at h
  rw [if_neg (by omega)] at h
  cases h
theorem Grow.rd1 {b off : Nat} {v : Value} (h : Grow w0 H G) (e : rd1 w0 H b off = .some v) : rd1 w0 G b off = .some v := by
  rcases h b with e' | ⟨e1, e2⟩
  · unfold HL.rd1 at e ⊢; rw [e']; exact e
  · exact (rd1_fresh e e2 e1 rfl).elim
theorem rd1_all {b : Nat} : ∀ (n o : Nat) (cs : List Value), cs.length = n → (∀ i, i < n → w0.cell? ⟨b, o + i, none⟩ = cs[i]?) → ron w0 b o n = some cs
  | 0, o, cs, hl, _ => by
    have : cs = [] := List.length_eq_zero_iff.1 hl
    subst this; rfl
  | n + 1, o, [], hl, _ => by simp at hl
  | n + 1, o, v :: cs, hl, h => by
    have h0 := h 0 (by omega)
    simp only [Nat.add_zero, List.getElem?_cons_zero] at h0
    have ih := rd1_all n (o + 1) cs (by simpa using hl) fun i hi => by
      have := h (i + 1) (by omega)
      rw [show o + 1 + i = o + (i + 1) by omega, this]; simp
    simp only [ron, h0, ih]
theorem rdn_of {b o : Nat} {cs : List Value} (hb : cs ≠ []) (h : ∀ i, i < cs.length → HL.rd1 w0 H b (o + i) = cs[i]?) : rdn w0 H b o cs.length = .some cs := by
  have hpos : 0 < cs.length := List.length_pos_iff.2 hb
  unfold rdn
  cases hH : H b with
  | some x =>
    have hr : ∀ i, i < cs.length → x.cells[o + i]? = cs[i]? := fun i hi => by
      have := h i hi
      simpa only [HL.rd1, hH] using this
    have hlast := hr (cs.length - 1) (by omega)
    rw [show cs[cs.length - 1]? = .some (cs[cs.length - 1]'(by omega)) from List.getElem?_eq_getElem (by omega)] at hlast
    have hlt := (List.getElem?_eq_some_iff.1 hlast).1
    simp only
    rw [if_pos (by omega)]
    congr 1
    apply List.ext_getElem?
    intro i
    rcases Nat.lt_or_ge i cs.length with hi | hi
    · rw [List.getElem?_take, if_pos hi, List.getElem?_drop, hr i hi]
    · rw [List.getElem?_take, if_neg (by omega), List.getElem?_eq_none hi]
  | none =>
    have hr : ∀ i, i < cs.length → b < w0.heap.size ∧ w0.cell? ⟨b, o + i, none⟩ = cs[i]? := fun i hi => by
      have := h i hi
      rw [List.getElem?_eq_getElem hi] at this ⊢
      simp only [HL.rd1, hH] at this
      split at this
      · rename_i hlt; exact ⟨hlt, this⟩
      · cases this
    simp only
    rw [if_pos (hr 0 hpos).1]
    exact rd1_all cs.length o cs rfl fun i hi => (hr i hi).2
theorem rd1_of_rdn {b o n i : Nat} {cs : List Value} (h : rdn w0 H b o n = .some cs) (hi : i < n) : HL.rd1 w0 H b (o + i) = cs[i]? ∧ cs.length = n := by
  unfold rdn at h
  unfold HL.rd1
  cases hH : H b with
  | some x =>
    rw [hH] at h
    simp only at h ⊢
    split at h
    · rename_i hle
      simp only [Option.some.injEq] at h
      subst h
      refine ⟨by rw [List.getElem?_take, if_pos hi, List.getElem?_drop], by simp; omega⟩
    · cases h
  | none =>
    rw [hH] at h
    simp only at h ⊢
    split at h
    · rename_i hlt
      rw [if_pos hlt]
      exact ⟨ron_get n o h i hi, ron_length n o h⟩
    · cases h
theorem rdn_fresh {b o n c : Nat} {cs : List Value} (h : rdn w0 H b o n = .some cs) (hp : 0 < n) (hc : w0.heap.size ≤ c) (hn : H c = none) : c ≠ b := by
  obtain ⟨h1, h2⟩ := rd1_of_rdn h hp
  rw [List.getElem?_eq_getElem (by omega)] at h1
  exact rd1_fresh h1 hc hn
theorem Grow.rdn {b o n : Nat} {cs : List Value} (h : Grow w0 H G) (e : rdn w0 H b o n = .some cs) (hp : 0 < n) : rdn w0 G b o n = .some cs := by
  rcases h b with e' | ⟨e1, e2⟩
  · unfold HL.rdn at e ⊢; rw [e']; exact e
  · exact (rdn_fresh e hp e2 e1 rfl).elim

/-- Cells side by side, where a slice begins. -/
def SlAt (w0 : World) (H : Heap) (a : Option Addr) (cs : List Value) : Prop :=
  cs ≠ [] → ∃ b o, a = some ⟨b, o, .none⟩ ∧ ∀ i, i < cs.length → rd1 w0 H b (o + i) = cs[i]?
theorem SlAt.nil {a : Option Addr} : SlAt w0 H a [] := fun h => (h rfl).elim
theorem SlAt.grow {a : Option Addr} {cs : List Value} (h : SlAt w0 H a cs) (g : Grow w0 H G) : SlAt w0 G a cs := fun hc => by
  obtain ⟨b, o, ha, hr⟩ := h hc
  refine ⟨b, o, ha, fun i hi => ?_⟩
  have := hr i hi
  rw [List.getElem?_eq_getElem hi] at this ⊢
  exact g.rd1 this
theorem SlAt.read {a : Option Addr} {cs : List Value} (h : SlAt w0 H a cs) (hc : 0 < cs.length) :
    ∃ b o, a = some ⟨b, o, .none⟩ ∧ (∀ i, i < cs.length → rd1 w0 H b (o + i) = cs[i]?) ∧ ∀ c, w0.heap.size ≤ c → H c = none → c ≠ b := by
  obtain ⟨b, o, ha, hr⟩ := h (List.length_pos_iff.1 hc)
  refine ⟨b, o, ha, hr, fun c h1 h2 => ?_⟩
  have := hr 0 hc
  rw [List.getElem?_eq_getElem hc] at this
  exact rd1_fresh this h1 h2
theorem SlAt.srd {a : Option Addr} {cs : List Value} (h : SlAt w0 H a cs) : srd w0 H a cs.length = some cs := by
  unfold HL.srd
  by_cases hc : cs = []
  · subst hc; simp
  · obtain ⟨b, o, rfl, hr⟩ := h hc
    rw [if_neg (by simpa using hc)]
    exact rdn_of hc hr
theorem SlAt.sub {a : Option Addr} {cs : List Value} (h : SlAt w0 H a cs) (i n : Nat) (hi : i + n ≤ cs.length) (hn : 0 < n) :
    ∃ b o, a = some ⟨b, o, .none⟩ ∧ rdn w0 H b (o + i) n = some ((cs.drop i).take n) ∧ ∀ c, w0.heap.size ≤ c → H c = none → c ≠ b := by
  obtain ⟨b, o, ha, hr, hf⟩ := h.read (by omega)
  refine ⟨b, o, ha, ?_, hf⟩
  have hl : ((cs.drop i).take n).length = n := by simp; omega
  have := rdn_of (w0 := w0) (H := H) (b := b) (o := o + i) (cs := (cs.drop i).take n) (by intro e; rw [e] at hl; simp at hl; omega) fun j hj => by
    rw [hl] at hj
    rw [List.getElem?_take, if_pos hj, List.getElem?_drop, ← hr (i + j) (by omega), Nat.add_assoc]
  rw [hl] at this
  exact this
theorem SlAt.ints {k : IntKind} {a : Option Addr} {l : List Int} (h : IntsAt w0 H k a l) : SlAt w0 H a (l.map fun x => .int k x) := fun hc => by
  obtain ⟨b, o, ha, hr, -⟩ := h (by simpa using hc)
  refine ⟨b, o, ha, fun i hi => ?_⟩
  have hi' : i < l.length := by simpa using hi
  rw [hr i hi', List.getElem?_map, List.getElem?_eq_getElem hi']
  simp [List.getD, hi']
theorem SlAt.toInts {k : IntKind} {a : Option Addr} {l : List Int} (h : SlAt w0 H a (l.map fun x => .int k x)) : IntsAt w0 H k a l := fun hc => by
  have hl : 0 < l.length := List.length_pos_iff.2 hc
  obtain ⟨b, o, ha, hr, hf⟩ := h.read (by simpa using hl)
  refine ⟨b, o, ha, fun i hi => ?_, hf⟩
  have := hr i (by simpa using hi)
  rw [this, List.getElem?_map, List.getElem?_eq_getElem hi]
  simp [List.getD, hi]
theorem IntsAt.grow {k : IntKind} {a : Option Addr} {l : List Int} (h : IntsAt w0 H k a l) (g : Grow w0 H G) : IntsAt w0 G k a l := ((SlAt.ints h).grow g).toInts
theorem SlAt.blk {b : Nat} {t : TypeId} {cs z : List Value} (h : H b = some ⟨t, cs ++ z⟩) : SlAt w0 H (some ⟨b, 0, .none⟩) cs := fun _ =>
  ⟨b, 0, rfl, fun i hi => by unfold HL.rd1; rw [h]; simp only [Nat.zero_add]; rw [List.getElem?_append_left hi]⟩

/-- A slice that is being built: its block is the call's own, and came behind H. -/
def Bld (w0 : World) (H G : Heap) (a : Option Addr) (cap sz : Nat) (ty : TypeId) (cs : List Value) : Prop :=
  (∃ b z, a = some ⟨b, 0, .none⟩ ∧ w0.heap.size ≤ b ∧ H b = none ∧ G b = some ⟨ty, cs ++ z⟩ ∧ cs.length + z.length = cap * sz) ∨ (cap = 0 ∧ cs = [])
theorem Bld.slAt {a : Option Addr} {cap sz : Nat} {ty : TypeId} {cs : List Value} (h : Bld w0 H G a cap sz ty cs) : SlAt w0 G a cs := by
  rcases h with ⟨b, z, rfl, -, -, h, -⟩ | ⟨-, rfl⟩
  · exact .blk h
  · exact .nil
theorem Bld.none {a : Option Addr} {sz : Nat} {ty : TypeId} : Bld w0 H G a 0 sz ty [] := .inr ⟨rfl, rfl⟩
theorem Bld.keep {a : Option Addr} {cap sz : Nat} {ty : TypeId} {cs : List Value} (h : Bld w0 H G a cap sz ty cs) (hk : ∀ b x, a = some ⟨b, 0, .none⟩ → G b = some x → G' b = some x) : Bld w0 H G' a cap sz ty cs := by
  rcases h with ⟨b, z, rfl, h1, h2, h3, h4⟩ | h
  · exact .inl ⟨b, z, rfl, h1, h2, hk b _ rfl h3, h4⟩
  · exact .inr h
theorem Bld.grow {a : Option Addr} {cap sz : Nat} {ty : TypeId} {cs : List Value} (h : Bld w0 H G a cap sz ty cs) (g : Grow w0 G G') : Bld w0 H G' a cap sz ty cs := h.keep fun _ _ _ e => g.some e

theorem Bld.base {a : Option Addr} {cap sz : Nat} {ty : TypeId} {cs : List Value} (h : Bld w0 G G' a cap sz ty cs) (g : Grow w0 H G) : Bld w0 H G' a cap sz ty cs := by
  rcases h with ⟨b, z, rfl, h1, h2, h3, h4⟩ | h
  · exact .inl ⟨b, z, rfl, h1, g.none h2, h3, h4⟩
  · exact .inr h
theorem Bld.le {a : Option Addr} {cap sz : Nat} {ty : TypeId} {cs : List Value} (h : Bld w0 H G a cap sz ty cs) : cs.length ≤ cap * sz := by
  rcases h with ⟨b, z, rfl, h1, h2, h3, h4⟩ | ⟨rfl, rfl⟩
  · omega
  · simp
theorem Bld.turn {a : Option Addr} {cap sz : Nat} {ty : TypeId} {cs : List Value} (h : Bld w0 H G a cap sz ty cs) {b : Nat} {x y : Blk} (hb : G b = some y) (hne : ty ≠ y.ty) : Bld w0 H (G.set b x) a cap sz ty cs := by
  rcases h with ⟨c, z, rfl, h1, h2, h3, h4⟩ | h
  · refine .inl ⟨c, z, rfl, h1, h2, ?_, h4⟩
    rw [Heap.set_other _ _ (fun e => by subst e; rw [h3] at hb; cases hb; exact hne rfl)]; exact h3
  · exact .inr h
/-- A block of another type stays where a builder grows. -/
theorem Bld.stay {a : Option Addr} {cap sz : Nat} {ty ty' : TypeId} {cs : List Value} (h : Bld w0 H G a cap sz ty cs) (hne : ty ≠ ty') {a' : Option Addr} (hk : ∀ c x, G c = some x → (x.ty = ty' → a' ≠ some ⟨c, 0, .none⟩) → G' c = some x) : Bld w0 H G' a cap sz ty cs := by
  rcases h with ⟨b, z, rfl, h1, h2, h3, h4⟩ | h
  · exact .inl ⟨b, z, rfl, h1, h2, hk b _ h3 (fun e => (hne (Kd.t_inj e)).elim), h4⟩
  · exact .inr h
theorem putAt_end (cs ns : List Value) : ∀ (z : List Value), ns.length ≤ z.length → putAt (cs ++ z) cs.length ns = cs ++ ns ++ z.drop ns.length := by
  induction cs with
  | nil =>
    intro z h
    simp only [List.nil_append, List.length_nil]
    induction ns generalizing z with
    | nil => rw [putAt_nil]; simp
    | cons n ns ih =>
      cases z with
      | nil => simp at h
      | cons u z => simp only [putAt, List.cons_append, List.length_cons, List.drop_succ_cons]; rw [ih z (by simpa using h)]
  | cons c cs ih =>
    intro z h
    cases ns with
    | nil => rw [putAt_nil]; simp
    | cons n ns => simp only [List.cons_append, List.length_cons, putAt]; rw [ih z h]; rfl
theorem zeroL_len {z : List Value} : ∀ n, (zeroL z n).length = n * z.length := by
  intro n
  unfold zeroL Builtin.zeroCells
  simp
theorem app_bld {K : Value → Heap → Prop} {a xa : Option Addr} {cap sz n m xc by_ : Nat} {ty : TypeId} {zero cs ns : List Value} (hB : Bld w0 H G a cap sz ty cs) (hn : cs.length = n * sz) (hz : zero.length = sz) (hx : srd w0 G xa (m * sz) = some ns) (hsz : ns.length = m * sz)
    (hg : Grow w0 H G) (hm : (n + m) * by_ ≤ 140737488355328 ∧ n + m ≤ 9223372036854775807) (ho : ns.all Value.oneCell' = true)
    (h : ∀ a' cap' G', Bld w0 H G' a' cap' sz ty (cs ++ ns) → Grow w0 H G' → (∀ c x, G c = some x → (x.ty = ty → a ≠ some ⟨c, 0, .none⟩) → G' c = some x) → n + m ≤ cap' → K (.slice a' (n + m) cap') G') :
    appQ w0 G K ty sz by_ zero (.slice a n cap) (.slice xa m xc) := by
  unfold appQ
  simp only [hx, optQ]
  refine ⟨hm.1, hm.2, fun hle => ?_, fun hlt => ?_⟩
  · unfold layQ
    by_cases he : ns = []
    · rw [if_pos he]
      refine h a cap G ?_ hg (fun c x e _ => e) hle
      rw [he, List.append_nil]; exact hB
    · rw [if_neg he]
      rcases hB with ⟨b, z, rfl, h1, h2, h3, h4⟩ | ⟨rfl, rfl⟩
      · have hl2 : n * sz + ns.length ≤ cap * sz := by rw [hsz, ← Nat.add_mul]; exact Nat.mul_le_mul_right _ hle
        simp only [h3, optQ]
        refine ⟨ho, by simp only [List.length_append]; omega, ?_⟩
        rw [Nat.zero_add, ← hn, putAt_end cs ns z (by omega)]
        refine h _ cap _ (.inl ⟨b, z.drop ns.length, rfl, h1, h2, Heap.set_same _ _ _, by simp; omega⟩) (hg.set h1 h2) (fun c x e hne => ?_) hle
        rw [Heap.set_other _ _ (fun e' => by subst e'; rw [h3] at e; cases e; exact hne rfl rfl)]; exact e
      · have : m = 0 := by omega
        subst this
        simp only [Nat.zero_mul, List.length_eq_zero_iff] at hsz
        exact (he hsz).elim
  · have hold : srd w0 G a (n * sz) = some cs := by rw [← hn]; exact hB.slAt.srd
    simp only [hold]
    intro c hc hc2 b hb hnb
    refine h _ c _ (.inl ⟨b, zeroL zero (c - (n + m)), rfl, hb, hg.none hnb, Heap.set_same _ _ _, ?_⟩) (hg.set hb (hg.none hnb)) (fun d x e hne => ?_) hc
    · rw [zeroL_len, hz, List.length_append, hn, hsz, ← Nat.add_mul, ← Nat.add_mul]; congr 1; omega
    · rw [Heap.set_other _ _ (fun e' => by subst e'; rw [hnb] at e; cases e)]; exact e

theorem app_clone {K : Value → Heap → Prop} {k : IntKind} {a0 xa : Option Addr} {l : List Int} {xc by_ : Nat} {e : TypeId} (hA : IntsAt w0 G k xa l) (hl : l.length * by_ ≤ 140737488355328 ∧ l.length ≤ 9223372036854775807)
    (h : ∀ a' cap' G', Bld w0 G G' a' cap' 1 e (l.map fun x => .int k x) → l.length ≤ cap' → Grow w0 G G' → K (.slice a' l.length cap') G') : appQ w0 G K e 1 by_ [.int k 0] (.slice a0 0 0) (.slice xa l.length xc) := by
  have hs := (SlAt.ints hA).srd
  rw [List.length_map] at hs
  refine app_bld (H := G) (cs := []) (ns := l.map fun x => .int k x) Bld.none (by simp) rfl (by rw [Nat.mul_one]; exact hs) (by simp) (Grow.refl _) (by simpa using hl) (by simp [Value.oneCell']) fun a' cap' G' hB hg _ hc => ?_
  rw [Nat.zero_add] at hc ⊢
  exact h a' cap' G' (by simpa using hB) hc hg
theorem srd_blk {b n : Nat} {t : TypeId} {cs : List Value} (h : G b = some ⟨t, cs⟩) (hl : cs.length = n) : srd w0 G (some ⟨b, 0, .none⟩) n = some cs := by
  subst hl
  exact (SlAt.blk (z := []) (by simpa using h)).srd
/-- What is known of a heap, set forth. -/
theorem root1 {b : Nat} {x : Blk} (h : G b = some x) : G = G.set b x := (Heap.set_id G b x h).symm
theorem root2 {b c : Nat} {x y : Blk} (hne : b ≠ c) (h : G b = some x) (h2 : G c = some y) : G = (G.set b x).set c y := by rw [Heap.set_id G b x h, Heap.set_id G c y h2]
theorem root3 {b c d : Nat} {x y z : Blk} (h : G b = some x) (h2 : G c = some y) (h3 : G d = some z) : G = ((G.set b x).set c y).set d z := by rw [Heap.set_id G b x h, Heap.set_id G c y h2, Heap.set_id G d z h3]
/-- The heap at a loop's head gets a name. -/
theorem loopq_heap {rec : List It → List Value → Heap → Prop} {m : MC} {k : List It} {T : List Value} (h : ∀ H0, H0 = H → LoopQ rec m k T H0) : LoopQ rec m k T H := h H rfl
theorem at_of {H0 : Heap} (e : H0 = H) {b : Nat} {x : Blk} (h : H b = .some x) : H0 b = .some x := by rw [e]; exact h
/-! ### Arguments that are slices of rows -/
theorem list_of {α : Type} {p : Nat → α → Prop} : ∀ n, (∀ i, i < n → ∃ x, p i x) → ∃ l : List α, l.length = n ∧ ∀ i x, l[i]? = some x → p i x
  | 0, _ => ⟨[], rfl, fun i x h => by simp at h⟩
  | n + 1, h => by
    obtain ⟨l, hl, hp⟩ := list_of n fun i hi => h i (by omega)
    obtain ⟨x, hx⟩ := h n (by omega)
    refine ⟨l ++ [x], by simp [hl], fun i y hy => ?_⟩
    rcases Nat.lt_or_ge i n with hi | hi
    · rw [List.getElem?_append_left (by omega)] at hy; exact hp i y hy
    · rw [List.getElem?_append_right (by omega), hl] at hy
      rcases Nat.eq_zero_or_pos (i - n) with e | e
      · rw [e] at hy
        simp at hy; subst hy
        obtain rfl : i = n := by omega
        exact hx
      · rw [List.getElem?_eq_none (by simp; omega)] at hy; cases hy
theorem map_of {α β : Type} {f : α → β} {q : α → Prop} : ∀ (l : List β), (∀ y ∈ l, ∃ x, y = f x ∧ q x) → ∃ xs : List α, l = xs.map f ∧ ∀ x ∈ xs, q x
  | [], _ => ⟨[], rfl, fun x h => by simp at h⟩
  | y :: l, h => by
    obtain ⟨xs, rfl, hq⟩ := map_of l fun z hz => h z (by simp [hz])
    obtain ⟨x, rfl, hx⟩ := h y (by simp)
    refine ⟨x :: xs, rfl, fun z hz => ?_⟩
    rcases List.mem_cons.1 hz with rfl | hz
    · exact hx
    · exact hq z hz
theorem flat_len {sz : Nat} : ∀ (rows : List (List Value)), (∀ r ∈ rows, r.length = sz) → rows.flatten.length = rows.length * sz
  | [], _ => by simp
  | r :: rows, h => by
    rw [List.flatten_cons, List.length_append, flat_len rows fun x hx => h x (by simp [hx]), h r (by simp), List.length_cons, Nat.succ_mul]; omega
theorem flat_sub {sz : Nat} : ∀ (rows : List (List Value)) (i : Nat), (∀ r ∈ rows, r.length = sz) → ∀ r, rows[i]? = some r → (rows.flatten.drop (i * sz)).take sz = r
  | [], i, _, r, h => by simp at h
  | x :: rows, 0, hl, r, h => by
    simp at h; subst h
    have := hl x (by simp)
    simp [← this]
  | x :: rows, i + 1, hl, r, h => by
    have hx := hl x (by simp)
    rw [List.flatten_cons, List.drop_append, List.drop_eq_nil_of_le (by rw [hx, Nat.succ_mul]; omega), List.nil_append, hx, show (i + 1) * sz - sz = i * sz by rw [Nat.succ_mul]; omega]
    exact flat_sub rows i (fun y hy => hl y (by simp [hy])) r (by simpa using h)
theorem SlAt.row {a : Option Addr} {rows : List (List Value)} {sz : Nat} (h : SlAt w0 H a rows.flatten) (hl : ∀ r ∈ rows, r.length = sz) (hs : 0 < sz) {i : Nat} {r : List Value} (hr : rows[i]? = some r) :
    ∃ b o, a = some ⟨b, o, .none⟩ ∧ rdn w0 H b (o + i * sz) sz = some r ∧ ∀ c, w0.heap.size ≤ c → H c = none → c ≠ b := by
  have hi : i < rows.length := (List.getElem?_eq_some_iff.1 hr).1
  have := h.sub (i * sz) sz (by rw [flat_len rows hl, ← Nat.succ_mul]; exact Nat.mul_le_mul_right _ hi) hs
  rw [flat_sub rows i hl r hr] at this
  exact this

theorem okWide_agg {P : Program} {W : World} {t : TypeId} {v : Value} (hs : structT P t = true) {r : Reach} {b : Nat} (hv : Value.okWide P W r b t v) : ∃ cs : List Value, v = .agg cs.toArray := by
  have hs' : ∃ fs, P.underlying t = some (.struct fs) := by
    unfold structT at hs
    split at hs <;> first | exact ⟨_, by assumption⟩ | cases hs
  obtain ⟨fs, hs⟩ := hs'
  obtain ⟨cs, rfl, -⟩ := okWide_struct hs hv
  exact ⟨cs.toList, by simp⟩
section
variable {P : Program} {w : World}
def fieldAt (P : Program) (t : TypeId) (i : Nat) : Option (TypeId × Nat) :=
  match P.underlying t with
  | some (.struct fs) => match fs[i]? with
    | some f => some (f.type, f.offset)
    | none => none
  | _ => none
theorem arg_fld {D : Nat} {t ft : TypeId} {i off n : Nat} {cs : List Value} (h : Arg P w (D + 1) t cs) (hf : fieldAt P t i = some (ft, off)) (hn : P.cellsOf ft = n) : Arg P w D ft ((cs.drop off).take n) := by
  unfold fieldAt at hf
  unfold Arg at h
  split at hf
  · rename_i fs hu
    rw [hu] at h
    split at hf
    · rename_i f hfi
      cases hf
      have := h.2 i f hfi
      rw [hn] at this; exact this
    · cases hf
  · cases hf
theorem arg_len {D n : Nat} {t : TypeId} {cs : List Value} (h : Arg P w (D + 1) t cs) (i : Nat) (hf : (fieldAt P t i).isSome = true) (hn : P.cellsOf t = n) : cs.length = n := by
  unfold fieldAt at hf
  unfold Arg at h
  split at hf
  · rename_i fs hu
    rw [hu] at h
    rw [← hn]; exact h.1
  · cases hf
theorem arg_int {D : Nat} {t : TypeId} {k : IntKind} {cs : List Value} (h : Arg P w (D + 1) t cs) (hu : P.underlying t = some (.int k)) : ∃ n, cs = [.int k n] ∧ (Lit.int k n).wf = true := by
  unfold Arg at h; rw [hu] at h; exact h
theorem arg_bool {D : Nat} {t : TypeId} {cs : List Value} (h : Arg P w (D + 1) t cs) (hu : P.underlying t = some .bool) : ∃ b, cs = [.bool b] := by
  unfold Arg at h; rw [hu] at h; exact h
theorem arg_arr {D : Nat} {t e : TypeId} {n m : Nat} {cs : List Value} (h : Arg P w (D + 1) t cs) (hu : P.underlying t = some (.array n e)) (he : P.cellsOf e = m) : cs.length = P.cellsOf t ∧ ∀ i, i < n → Arg P w D e ((cs.drop (i * m)).take m) := by
  unfold Arg at h; rw [hu] at h; subst he; exact h
theorem open_rows {D : Nat} {t e : TypeId} {sz : Nat} {cs : List Value} (hu : P.underlying t = some (.slice e)) (hc : P.cellsOf e = sz) (hs : 0 < sz) (h : Arg P w (D + 1) t cs) :
    ∃ a cap, ∃ rows : List (List Value), cs = [.slice a rows.length cap] ∧ rows.length ≤ cap ∧ rows.length ≤ maxLen ∧ rows.length * P.bytesOf e ≤ reachBytes ∧ (a = none → cap = 0) ∧
      (∀ r ∈ rows, r.length = sz ∧ Arg P w D e r) ∧ SlAt w (fun _ => none) a rows.flatten := by
  unfold Arg at h
  rw [hu] at h
  obtain ⟨a, len, cap, rfl, hn, hlc, hm, hr, hb, hel⟩ := h
  rw [hc] at hb hel
  obtain ⟨rows, hlen, hrows⟩ := list_of (p := fun i (cs' : List Value) => cs'.length = sz ∧ (∀ b o, a = some ⟨b, o, .none⟩ → ∀ j, j < sz → w.cell? ⟨b, o + (i * sz + j), .none⟩ = cs'[j]?) ∧ Arg P w D e cs') len hel
  have hmem : ∀ r ∈ rows, r.length = sz ∧ Arg P w D e r := fun r hr => by
    obtain ⟨i, hi⟩ := List.mem_iff_getElem?.1 hr
    have := hrows i r hi
    exact ⟨this.1, this.2.2⟩
  refine ⟨a, cap, rows, by rw [hlen], by omega, by omega, by rw [hlen]; exact hr, fun e => (hn e).2, hmem, fun hne => ?_⟩
  have hfl := flat_len rows fun r hr => (hmem r hr).1
  have h0 : 0 < len := by
    rcases Nat.eq_zero_or_pos len with e | e
    · rw [e] at hlen
      have : rows = [] := List.length_eq_zero_iff.1 hlen
      subst this; simp at hne
    · exact e
  obtain ⟨b, o, ha, hlt⟩ := hb h0 hs
  refine ⟨b, o, ha, fun j hj => ?_⟩
  rw [hfl, hlen] at hj
  have hdiv : j / sz < len := by rw [Nat.div_lt_iff_lt_mul hs]; exact hj
  have hj' : j = j / sz * sz + j % sz := by rw [Nat.mul_comm]; exact (Nat.div_add_mod j sz).symm
  have hri : rows[j / sz]? = some (rows[j / sz]'(by omega)) := List.getElem?_eq_getElem (by omega)
  obtain ⟨h1, h2, -⟩ := hrows _ _ hri
  have h3 := h2 b o ha (j % sz) (Nat.mod_lt _ hs)
  rw [← hj'] at h3
  unfold rd1
  simp only [hlt, if_true]
  rw [h3]
  have h4 := flat_sub rows (j / sz) (fun r hr => (hmem r hr).1) _ hri
  rw [← h4, List.getElem?_take, if_pos (Nat.mod_lt _ hs), List.getElem?_drop, ← hj']
end
end Go.HL
