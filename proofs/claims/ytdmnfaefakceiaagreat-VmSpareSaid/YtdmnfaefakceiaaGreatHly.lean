/- The heap logic, part y: arguments of any plain shape, opened: numbers, texts, structs, arrays, and slices of these. -/
import Derived.Test.YtdmnfaefakceiaaGreatHlz
import Derived.SizedLaws
set_option linter.unusedSimpArgs false
set_option linter.unusedVariables false
namespace Go.HL
open Go.RowKit Go.ChangeShapes Go.WideShapes

/-- The cells stand for a value of the type that can be read in the world, D deep. -/
def Arg (P : Program) (w : World) : Nat → TypeId → List Value → Prop
  | 0, _, _ => True
  | D + 1, t, cs => match P.underlying t with
    | some (.int k) => ∃ n, cs = [.int k n] ∧ (Lit.int k n).wf = true
    | some .bool => ∃ b, cs = [.bool b]
    | some .string => ∃ s : ByteArray, cs = [.string s] ∧ s.size ≤ maxLen
    | some (.array n e) => cs.length = P.cellsOf t ∧ ∀ i, i < n → Arg P w D e ((cs.drop (i * P.cellsOf e)).take (P.cellsOf e))
    | some (.struct fs) => cs.length = P.cellsOf t ∧ ∀ (i : Nat) (f : Field), fs[i]? = some f → Arg P w D f.type ((cs.drop f.offset).take (P.cellsOf f.type))
    | some (.slice e) => ∃ a len cap, cs = [.slice a len cap] ∧ (a = none → len = 0 ∧ cap = 0) ∧ len ≤ cap ∧ len ≤ maxLen ∧ len * P.bytesOf e ≤ reachBytes ∧
        (0 < len → 0 < P.cellsOf e → ∃ b o, a = some ⟨b, o, none⟩ ∧ b < w.heap.size) ∧
        ∀ i, i < len → ∃ cs' : List Value, cs'.length = P.cellsOf e ∧ (∀ b o, a = some ⟨b, o, none⟩ → ∀ j, j < P.cellsOf e → w.cell? ⟨b, o + (i * P.cellsOf e + j), none⟩ = cs'[j]?) ∧ Arg P w D e cs'
    | _ => True

section
variable {T : Type} {enc : TypeId × Value → T} {P : Program} {w : World} {base : Nat} {held : Bool}

theorem mem_weightsAll {e : TypeId} {n : Nat} {d : DataW T} : ∀ {l : List (DataW T)}, d ∈ l → n ∈ d.weights P e → n ∈ DataW.weightsAll P e l
  | x :: l, h, hn => by
    simp only [DataW.weightsAll, List.mem_append]
    rcases List.mem_cons.1 h with rfl | h
    · exact .inl hn
    · exact .inr (mem_weightsAll h hn)
theorem mem_weightsEach {t : TypeId} {n : Nat} {d : DataW T} : ∀ {ts : List TypeId} {ds : List (DataW T)} {j : Nat}, ts[j]? = some t → ds[j]? = some d → n ∈ d.weights P t → n ∈ DataW.weightsEach P ts ds
  | [], _, j, h, _, _ => by simp at h
  | _ :: _, [], j, _, h, _ => by simp at h
  | t' :: ts, d' :: ds, 0, h, h', hn => by
    simp at h h'; subst h h'
    simp only [DataW.weightsEach, List.mem_append]; exact .inl hn
  | t' :: ts, d' :: ds, j + 1, h, h', hn => by
    simp only [DataW.weightsEach, List.mem_append]
    exact .inr (mem_weightsEach (by simpa using h) (by simpa using h') hn)

theorem cell_some_addr {a : Addr} {v : Value} (h : w.cell? a = some v) : a.spot = none ∧ a.block < w.heap.size := by
  unfold World.cell? at h
  split at h
  · rename_i c _ _ hb
    split at h
    · cases h
    · rename_i hs
      refine ⟨by cases hsp : a.spot <;> simp_all, ?_⟩
      rcases Nat.lt_or_ge a.block w.heap.size with h' | h'
      · exact h'
      · rw [Array.getElem?_eq_none h'] at hb; cases hb
  · cases h

theorem trod_arg : ∀ (D : Nat) (t : TypeId) (fuel : Nat) (cs : List Value) (x : DataW T × List MemPlace), DataW.trod enc P w base (fun _ => true) held fuel t cs = some x →
    (∀ n ∈ x.1.weights P t, n ≤ reachBytes) → Arg P w D t cs
  | 0, _, _, _, _, _, _ => trivial
  | D + 1, t, fuel, cs, x, h, hw => by
    unfold Arg
    split
    · rename_i k hu
      obtain ⟨n, rfl, -, hwf⟩ := DataW.trod_int hu h
      exact ⟨n, rfl, hwf⟩
    · rename_i hu
      obtain ⟨b, rfl, -⟩ := DataW.trod_bool hu h
      exact ⟨b, rfl⟩
    · rename_i hu
      obtain ⟨s, rfl, -, hs⟩ := DataW.trod_string hu h
      exact ⟨s, rfl, hs⟩
    · rename_i n e hu
      obtain ⟨xs, m, -, rfl, hl, hx, hi⟩ := DataW.trod_array hu h
      refine ⟨hl, fun i hin => ?_⟩
      have := hi i hin
      rw [List.getElem?_eq_getElem (by omega)] at this
      refine trod_arg D e m _ _ this fun n hn => hw n ?_
      simp only [DataW.weights, hu]
      exact mem_weightsAll (d := xs[i].1) (List.mem_map.2 ⟨xs[i], List.getElem_mem _, rfl⟩) hn
    · rename_i fs hu
      obtain ⟨xs, m, -, rfl, hl, hx, hi⟩ := DataW.trod_struct hu h
      refine ⟨hl, fun i f hf => ?_⟩
      have hlt := (Array.getElem?_eq_some_iff.1 hf).1
      have := hi i f hf
      rw [List.getElem?_eq_getElem (by omega)] at this
      refine trod_arg D f.type m _ _ this fun n hn => hw n ?_
      simp only [DataW.weights, hu]
      refine mem_weightsEach (t := f.type) (d := xs[i].1) (j := i) ?_ ?_ hn
      · rw [List.getElem?_map, Array.getElem?_toList, hf]; rfl
      · rw [List.getElem?_map, List.getElem?_eq_getElem (by omega)]; rfl
    · rename_i e hu
      rcases DataW.trod_slice hu h with ⟨rfl, -⟩ | ⟨a, len, cap, elems, rest, n, -, rfl, rfl, hb, hlc, hcm, hlen, hel, hsp, -⟩
      · exact ⟨none, 0, 0, rfl, fun _ => ⟨rfl, rfl⟩, Nat.le_refl _, Nat.zero_le _, by simp, fun h => by omega, fun i hi => by omega⟩
      · have each : ∀ i, i < len → ∃ cs', w.cells? base (a.add (i * P.cellsOf e)) (P.cellsOf e) = some cs' ∧ DataW.trod enc P w base (fun _ => true) held n e cs' = elems[i]? := by
          intro i hi
          have := hel i hi
          have hi' : i < elems.length := by omega
          rw [List.getElem?_eq_getElem hi'] at this ⊢
          obtain ⟨cs', h1, h2⟩ := Option.bind_eq_some_iff.1 this
          exact ⟨cs', h1, h2⟩
        refine ⟨some a, len, cap, rfl, fun h => (by cases h), hlc, by omega, ?_, fun h0 h1 => ?_, fun i hi => ?_⟩
        · have := hw ((elems.length + rest.length) * P.bytesOf e) (by simp [DataW.weights, hu])
          rw [hlen] at this
          exact Nat.le_trans (Nat.mul_le_mul_right _ (by omega)) this
        · obtain ⟨cs', hc, -⟩ := each 0 h0
          obtain ⟨-, hl, hcell⟩ := World.cells?_some hc
          have h2 := hcell 0 h1
          have hcs : cs'[0]? = some (cs'[0]'(by omega)) := List.getElem?_eq_getElem (by omega)
          rw [hcs] at h2
          have h3 : w.cell? a = some (cs'[0]'(by omega)) := by simpa [Addr.add] using h2
          obtain ⟨h4, h5⟩ := cell_some_addr h3
          obtain ⟨b, o, s⟩ := a
          simp only at h4; subst h4
          exact ⟨b, o, rfl, h5⟩
        · obtain ⟨cs', hc, ht⟩ := each i hi
          obtain ⟨-, hl, hcell⟩ := World.cells?_some hc
          refine ⟨cs', hl, fun b o ha j hj => ?_, ?_⟩
          · cases ha
            have := hcell j hj
            rw [Addr.add_mk, Addr.add_mk, Nat.add_assoc] at this
            exact this
          · have hi' : i < elems.length := by omega
            rw [List.getElem?_eq_getElem hi'] at ht
            refine trod_arg D e n cs' _ ht fun m hm => hw m ?_
            simp only [DataW.weights, hu, List.mem_cons, List.mem_append]
            exact .inr (.inl (mem_weightsAll (d := elems[i].1) (List.mem_map.2 ⟨elems[i], List.getElem_mem _, rfl⟩) hm))
    · trivial

/-- Parameter j, opened. -/
theorem arg_of {ts : List TypeId} {ds : List (DataW T)} (hsz : (DataW.weightsEach P ts ds).all (· ≤ reachBytes) = true) {j : Nat} {t : TypeId} {d : DataW T} (ht : ts[j]? = some t) (hd : ds[j]? = some d) {v : Value} {p : List MemPlace}
    (h : DataW.Trod enc P w base (fun _ => true) held t v d p) (D : Nat) : Arg P w D t v.cells.toList := by
  obtain ⟨fuel, hf⟩ := h
  refine trod_arg D t fuel _ _ hf fun n hn => ?_
  have := List.all_eq_true.1 hsz n (mem_weightsEach ht hd hn)
  simpa using this

/-- Integers side by side. -/
def IntsAt (w0 : World) (H : Heap) (k : IntKind) (a : Option Addr) (l : List Int) : Prop :=
  l ≠ [] → ∃ b o, a = some ⟨b, o, none⟩ ∧ (∀ i, i < l.length → rd1 w0 H b (o + i) = some (.int k (l.getD i 0))) ∧ ∀ c, w0.heap.size ≤ c → H c = none → c ≠ b
theorem IntsAt.set {w0 : World} {H : Heap} {k : IntKind} {a : Option Addr} {l : List Int} (h : IntsAt w0 H k a l) {c : Nat} (hc : w0.heap.size ≤ c) (hn : H c = none) (x : Blk) : IntsAt w0 (H.set c x) k a l := by
  intro hl
  obtain ⟨b, o, ha, hr, hf⟩ := h hl
  refine ⟨b, o, ha, fun i hi => ?_, fun d hd hdn => hf d hd ?_⟩
  · have := hr i hi
    unfold rd1 at this ⊢
    rw [Heap.set_other _ _ (fun e => hf c hc hn e.symm)]
    exact this
  · exact (Heap.set_none.1 hdn).2
theorem IntsAt.nil {w0 : World} {H : Heap} {k : IntKind} {a : Option Addr} : IntsAt w0 H k a [] := fun h => (h rfl).elim
/-- An argument that is a slice of integers. -/
theorem open_intslice {t e : TypeId} {k : IntKind} (hu : P.underlying t = some (.slice e)) (he : P.underlying e = some (.int k)) (hc : P.cellsOf e = 1) {D : Nat} {cs : List Value} (h : Arg P w (D + 2) t cs) :
    ∃ a len cap, ∃ l : List Int, cs = [.slice a len cap] ∧ l.length = len ∧ len ≤ cap ∧ len * P.bytesOf e ≤ reachBytes ∧ len ≤ maxLen ∧ (∀ x ∈ l, (Lit.int k x).wf = true) ∧ IntsAt w (fun _ => none) k a l ∧ (a = none → cap = 0) := by
  unfold Arg at h
  rw [hu] at h
  obtain ⟨a, len, cap, rfl, hn, hlc, hm, hr, hb, hel⟩ := h
  rw [hc] at hb hel
  have key : ∀ i, i < len → ∃ n, (Lit.int k n).wf = true ∧ ∀ b o, a = some ⟨b, o, none⟩ → w.cell? ⟨b, o + i, none⟩ = some (.int k n) := by
    intro i hi
    obtain ⟨cs', hl, hcell, harg⟩ := hel i hi
    unfold Arg at harg
    rw [he] at harg
    obtain ⟨n, rfl, hwf⟩ := harg
    exact ⟨n, hwf, fun b o ha => by have := hcell b o ha 0 (by omega); simpa using this⟩
  have ch : ∃ f : Nat → Int, ∀ i, i < len → (Lit.int k (f i)).wf = true ∧ ∀ b o, a = some ⟨b, o, none⟩ → w.cell? ⟨b, o + i, none⟩ = some (.int k (f i)) := by
    have : ∀ m, m ≤ len → ∃ f : Nat → Int, ∀ i, i < m → (Lit.int k (f i)).wf = true ∧ ∀ b o, a = some ⟨b, o, none⟩ → w.cell? ⟨b, o + i, none⟩ = some (.int k (f i)) := by
      intro m
      induction m with
      | zero => intro _; exact ⟨fun _ => 0, fun i hi => by omega⟩
      | succ m ih =>
        intro hm
        obtain ⟨f, hf⟩ := ih (by omega)
        obtain ⟨n, hn⟩ := key m (by omega)
        refine ⟨fun i => if i = m then n else f i, fun i hi => ?_⟩
        by_cases e : i = m
        · subst e; simpa using hn
        · simp only [e, if_false]; exact hf i (by omega)
    exact this len (Nat.le_refl _)
  obtain ⟨f, hf⟩ := ch
  refine ⟨a, len, cap, (List.range len).map f, rfl, by simp, hlc, hr, hm, ?_, ?_, fun h => (hn h).2⟩
  · intro x hx
    obtain ⟨i, hi, rfl⟩ := List.mem_map.1 hx
    exact (hf i (by simpa using hi)).1
  · intro hl
    have h0 : 0 < len := by
      rcases Nat.eq_zero_or_pos len with e | e
      · subst e; simp at hl
      · exact e
    obtain ⟨b, o, ha, hlt⟩ := hb h0 (by omega)
    refine ⟨b, o, ha, fun i hi => ?_, fun c hc _ => by omega⟩
    have hi' : i < len := by simpa using hi
    unfold rd1
    simp only [hlt, if_true]
    rw [(hf i hi').2 b o ha]
    simp [List.getD, hi']
theorem slice_cells {t e : TypeId} (hu : P.underlying t = some (.slice e)) {W : World} {r : Reach} {b : Nat} {v : Value} (hv : Value.okWide P W r b t v) : v.cells.toList = [v] := by
  cases v <;> simp_all [Value.okWide, Cell.okWide, Cell.ok, Value.cells]
/-- A parameter that is a slice of integers. -/
theorem open_param_ints {t e : TypeId} {k : IntKind} (hu : P.underlying t = some (.slice e)) (he : P.underlying e = some (.int k)) (hc : P.cellsOf e = 1) {r : Reach} {b0 : Nat} {v : Value} (hv : Value.okWide P w r b0 t v) (h : Arg P w 2 t v.cells.toList) :
    ∃ a cap, ∃ l : List Int, v = .slice a l.length cap ∧ l.length ≤ cap ∧ l.length * P.bytesOf e ≤ reachBytes ∧ l.length ≤ maxLen ∧ (∀ x ∈ l, (Lit.int k x).wf = true) ∧ IntsAt w (fun _ => none) k a l ∧ (a = none → cap = 0) := by
  rw [slice_cells hu hv] at h
  obtain ⟨a, len, cap, l, h1, rfl, h3, h4, h5, h6, h7, h8⟩ := open_intslice (D := 0) hu he hc h
  exact ⟨a, cap, l, by simpa using h1, h3, h4, h5, h6, h7, h8⟩
end
end Go.HL
