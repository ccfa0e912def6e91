/- The heap logic, part z: from a call's contract to a given statement. -/
import Derived.Test.YtdmnfaefakceiaaGreatHll
import Derived.ProofKit
import Derived.OpenShut
set_option linter.unusedSimpArgs false
set_option linter.unusedVariables false
namespace Go.HL
open Go.ChangeShapes Go.WideShapes Go.ChangeAt Go.RowKit

section
variable {T : Type} {enc : TypeId × Value → T} {P : Program}

theorem args_stay (hl : laidOutB P = true) {W W' : World} {sp : Nat → Bool} (hb : Below W.heap.size W W') : ∀ (ts : List TypeId) (vs : List Value) (ds : List (DataW T)) (ps : List MemPlace),
    ts.all (fun t => P.readableRec t && decide (t < P.types.size)) = true → DataW.TrodAll enc P W 0 (fun _ => true) true ts vs ds ps → (∀ x ∈ ps, x.block < W.heap.size) → (∀ x ∈ ps, sp x.block = true) →
    DataW.TrodAll enc P W' 0 sp true ts vs ds ps
  | [], vs, ds, ps, _, h, _, _ => by
    obtain ⟨rfl, rfl, rfl⟩ := trodAll_nil h
    exact rfl
  | t :: ts, vs, ds, ps, ht, h, hlt, hs => by
    obtain ⟨v, vs1, d, ds1, a, b, rfl, rfl, rfl, h1, h2⟩ := trodAll_cons h
    simp only [List.all_cons, Bool.and_eq_true, decide_eq_true_eq] at ht
    refine ⟨a, b, WideElems.Trod_stays hl ht.1.1 ht.1.2 h1 (fun x hx => hb.same (hlt x (by simp [hx]))) (fun x hx => hs x (by simp [hx])), ?_, rfl⟩
    exact args_stay hl hb ts vs1 ds1 b ht.2 h2 (fun x hx => hlt x (by simp [hx])) (fun x hx => hs x (by simp [hx]))

/-- What stands behind a call that has turned nothing of what was there: of new blocks nothing is asked. -/
theorem post_of_below {f : Func} {s : ChangeSpec} {apart fresh handsOn again : Bool} {W W' : World} {args : Array Value} {v : Value} {ds gs : List (DataW T)} {before pa pv : List MemPlace}
    (hW : DataW.Whole enc P f.params.toList s.vars apart W args.toList ds gs before)
    (hres : ∀ (b : Nat) (sp : Nat → Bool) (hd : Bool), DataW.TrodAll enc P W' b sp hd f.resultTypes.toList (v.resultList f.resultTypes.size) (s.fn T (ds ++ gs)).results [])
    (hargs : ∀ sp : Nat → Bool, (∀ p ∈ before, sp p.block = true) → DataW.TrodAll enc P W' 0 sp true f.params.toList args.toList (s.fn T (ds ++ gs)).args pa)
    (hvars : ∀ sp : Nat → Bool, (∀ p ∈ before, sp p.block = true) → DataW.TrodVars enc P W' sp s.vars (s.fn T (ds ++ gs)).vars pv)
    (hps : before = pa ++ pv) (hB : Below W.heap.size W W')
    (hok : ∀ (j : Nat) (t : TypeId) (r : Value), f.resultTypes[j]? = some t → (v.resultList f.resultTypes.size)[j]? = some r → Value.okWide P W' .any 0 t r) :
    s.post enc P f apart fresh handsOn again W args v W' := by
  have hold : ∀ p ∈ before, (fun b => decide (b < W.heap.size)) p.block = true := fun p hp => by simpa using hW.lt p hp
  have hlt : ∀ p ∈ before, p.block < W.heap.size := fun p hp => hW.lt p hp
  refine ⟨ds, gs, before, [], pa, pv, hW, hres _ _ _, hargs _ hold, hvars _ hold, World.keptBut_mono (fun p hp => ⟨hp, ?_⟩) (hB.frame (· ∈ before)), fun _ => ?_⟩
  · rw [hps, List.mem_append] at hp
    exact Or.inr hp
  · obtain ⟨_, _, _, _, _, hz, hn⟩ := hW
    refine ⟨hok, _, _, ([] ++ pa) ++ pv, ⟨[] ++ pa, pv, trodAll_append (hargs _ (fun _ _ => rfl)) (hres _ _ _), hvars _ (fun _ _ => rfl), rfl, ?_, ?_⟩, ?_⟩
    · intro b off hp
      have hp' : MemPlace.cell b off ∈ before := by rw [hps]; simpa using hp
      rw [hB.frozen (p := ⟨b, off, none⟩) (hlt _ hp')]
      exact hz b off hp'
    · intro ha
      have := hn ha
      rw [hps] at this
      simpa using this
    · intro p hp _
      rw [hps]
      simpa using hp

/-- The law returned true, and its arguments read as they did. -/
theorem post_true {tb : TypeId} (hl : laidOutB P = true) {f : Func} {s : ChangeSpec} {W W' : World} {args : Array Value} {ds : List (DataW T)} {before : List MemPlace} (hr : f.resultTypes = #[tb]) (hb : P.underlying tb = some .bool)
    (hts : f.params.toList.all (fun t => P.readableRec t && decide (t < P.types.size)) = true) (hv : s.vars = []) (hs : s.fn T ds = { results := [.lit (.bool true)], args := ds })
    (hW : DataW.Whole enc P f.params.toList s.vars false W args.toList ds [] before) (hB : Below W.heap.size W W') : s.post enc P f false true false false W args (.bool true) W' := by
  have hW' := hW
  obtain ⟨p, q, hA, hV, rfl, hfz, hnd⟩ := hW
  rw [hv] at hV
  obtain ⟨-, rfl⟩ := trodVars_none hV
  simp only [List.append_nil] at hW'
  have hs' : s.fn T (ds ++ []) = { results := [.lit (.bool true)], args := ds } := by rw [List.append_nil]; exact hs
  refine post_of_below (pa := p) (pv := []) hW' (fun _ _ _ => ?_) (fun sp hsp => ?_) (fun _ _ => ?_) (by simp) hB (ok_one hr ?_ ?_)
  · rw [hs', hr]
    exact trodAll_cons_mk (shut_bool hb true) trodAll_mk0
  · rw [hs']
    exact args_stay hl hB _ _ _ _ hts hA (fun x hx => by simpa using hW'.lt x hx) hsp
  · rw [hs', hv]; exact rfl
  · rfl
  · exact okWide_bool_mk hb true

/-! ### Values of integers and truth values, opened -/

inductive CK where
  | int (k : IntKind)
  | bool
def CellOk : CK → Value → Prop
  | .int k, v => ∃ n, v = .int k n ∧ (Lit.int k n).wf = true
  | .bool, v => ∃ b, v = .bool b
def CellsOk : List CK → List Value → Prop
  | [], [] => True
  | c :: cs, v :: vs => CellOk c v ∧ CellsOk cs vs
  | _, _ => False
def fldsK (P : Program) (g : TypeId → Option (List CK)) : List Field → Nat → Option (List CK)
  | [], _ => some []
  | f :: fs, n => if f.offset ≠ n then none else match g f.type with
    | some ks => if P.cellsOf f.type = ks.length then (fldsK P g fs (n + ks.length)).map (ks ++ ·) else none
    | none => none
def kindsT (P : Program) : Nat → TypeId → Option (List CK)
  | 0, _ => none
  | d + 1, t => match P.underlying t with
    | some (.int k) => some [.int k]
    | some .bool => some [.bool]
    | some (.array n e) => match kindsT P d e with
      | some ks => if P.cellsOf e = ks.length ∧ P.cellsOf t = n * ks.length then some (List.replicate n ks).flatten else none
      | none => none
    | some (.struct fs) => match fldsK P (kindsT P d) fs.toList 0 with
      | some ks => if P.cellsOf t = ks.length then some ks else none
      | none => none
    | _ => none

theorem CellsOk.append : ∀ {ks ls : List CK} {vs ws : List Value}, CellsOk ks vs → CellsOk ls ws → CellsOk (ks ++ ls) (vs ++ ws)
  | [], _, [], _, _, h => h
  | _ :: _, _, _ :: _, _, h, h' => ⟨h.1, CellsOk.append h.2 h'⟩
  | [], _, _ :: _, _, h, _ => h.elim
  | _ :: _, _, [], _, h, _ => h.elim

theorem cells_rep {ks : List CK} : ∀ (n : Nat) (cs : List Value), cs.length = n * ks.length → (∀ i, i < n → CellsOk ks ((cs.drop (i * ks.length)).take ks.length)) → CellsOk (List.replicate n ks).flatten cs
  | 0, cs, hl, _ => by
    have : cs = [] := List.length_eq_zero_iff.1 (by simpa using hl)
    subst this; exact trivial
  | n + 1, cs, hl, h => by
    rw [List.replicate_succ, List.flatten_cons, ← List.take_append_drop ks.length cs]
    refine CellsOk.append (by simpa using h 0 (by omega)) (cells_rep n _ (by rw [List.length_drop, hl, Nat.succ_mul]; omega) fun i hi => ?_)
    have := h (i + 1) (by omega)
    rwa [List.drop_drop, show ks.length + i * ks.length = (i + 1) * ks.length by rw [Nat.succ_mul]; omega]

theorem trod_kinds {w : World} {base : Nat} {spare : Nat → Bool} {held : Bool} : ∀ (D : Nat) (t : TypeId) (ks : List CK), kindsT P D t = some ks → ∀ (fuel : Nat) (cs : List Value) (x : DataW T × List MemPlace),
    DataW.trod enc P w base spare held fuel t cs = some x → CellsOk ks cs
  | 0, t, ks, hk => by simp [kindsT] at hk
  | D + 1, t, ks, hk => by
    intro fuel cs x h
    unfold kindsT at hk
    split at hk <;> (try (cases hk; done))
    · rename_i k hu
      cases hk
      obtain ⟨n, rfl, -, hw⟩ := DataW.trod_int hu h
      exact ⟨⟨n, rfl, hw⟩, trivial⟩
    · rename_i hu
      cases hk
      obtain ⟨b, rfl, -⟩ := DataW.trod_bool hu h
      exact ⟨⟨b, rfl⟩, trivial⟩
    · rename_i n e hu
      split at hk <;> (try (cases hk; done))
      rename_i ks' hks
      split at hk <;> cases hk
      rename_i hc
      obtain ⟨xs, m, -, -, hl, hx, hi⟩ := DataW.trod_array hu h
      refine cells_rep n cs (by rw [hl, hc.2]) fun i hin => ?_
      have := hi i hin
      rw [List.getElem?_eq_getElem (by omega), hc.1] at this
      exact trod_kinds D e ks' hks _ _ _ this
    · rename_i fs hu
      split at hk <;> (try (cases hk; done))
      rename_i ks' hks
      split at hk <;> cases hk
      rename_i hc
      obtain ⟨xs, m, -, -, hl, hx, hi⟩ := DataW.trod_struct hu h
      have hi' : ∀ f ∈ fs.toList, ∃ y, DataW.trod enc P w base spare held m f.type ((cs.drop f.offset).take (P.cellsOf f.type)) = some y := by
        intro f hf
        obtain ⟨i, hil, he⟩ := List.mem_iff_getElem.1 hf
        have hil' : i < fs.size := by simpa using hil
        have := hi i f (by rw [Array.getElem?_eq_getElem hil', ← he]; simp)
        rw [List.getElem?_eq_getElem (by omega)] at this
        exact ⟨_, this⟩
      have go : ∀ (l : List Field) (n : Nat) (ls : List CK), fldsK P (kindsT P D) l n = some ls → (∀ f ∈ l, ∃ y, DataW.trod enc P w base spare held m f.type ((cs.drop f.offset).take (P.cellsOf f.type)) = some y) →
          cs.length = n + ls.length → CellsOk ls (cs.drop n) := by
        intro l
        induction l with
        | nil =>
          intro n ls hls _ hlen
          simp [fldsK] at hls; subst hls
          rw [List.drop_of_length_le (by simpa using Nat.le_of_eq hlen)]
          exact trivial
        | cons f l ih =>
          intro n ls hls hall hlen
          unfold fldsK at hls
          split at hls <;> (try (cases hls; done))
          rename_i ho
          split at hls <;> (try (cases hls; done))
          rename_i k1 hk1
          split at hls <;> (try (cases hls; done))
          rename_i hc1
          simp only [Option.map_eq_some_iff] at hls
          obtain ⟨k2, hk2, rfl⟩ := hls
          have ho' : f.offset = n := by simpa using ho
          obtain ⟨y, hy⟩ := hall f (by simp)
          rw [ho', hc1] at hy
          have h1 := trod_kinds D f.type k1 hk1 _ _ _ hy
          have h2 := ih (n + k1.length) k2 hk2 (fun g hg => hall g (by simp [hg])) (by rw [hlen, List.length_append]; omega)
          rw [← List.take_append_drop k1.length (cs.drop n), List.drop_drop]
          exact CellsOk.append h1 h2
      simpa using go _ 0 ks hks hi' (by rw [hl, hc]; omega)

def structT (P : Program) (t : TypeId) : Bool := match P.underlying t with | some (.struct _) => true | _ => false
/-- An argument whose cells are integers and truth values, by value. -/
theorem open_cells {W : World} {sp : Nat → Bool} {held : Bool} {t : TypeId} {v : Value} {d : DataW T} {p : List MemPlace} {ks : List CK} {D : Nat} (hs : structT P t = true) (hk : kindsT P D t = some ks)
    {r : Reach} {b : Nat} (hv : Value.okWide P W r b t v) (h : DataW.Trod enc P W 0 sp held t v d p) : ∃ cs : List Value, v = .agg cs.toArray ∧ CellsOk ks cs := by
  have hs' : ∃ fs, P.underlying t = some (.struct fs) := by
    unfold structT at hs
    split at hs <;> first | exact ⟨_, by assumption⟩ | cases hs
  obtain ⟨fs, hs⟩ := hs'
  obtain ⟨cs, rfl, -⟩ := okWide_struct hs hv
  obtain ⟨n, hn⟩ := h
  exact ⟨cs.toList, by simp, trod_kinds D t ks hk _ _ _ hn⟩
theorem open_cells_arr {W : World} {sp : Nat → Bool} {held : Bool} {t e : TypeId} {n : Nat} {v : Value} {d : DataW T} {p : List MemPlace} {ks : List CK} {D : Nat} (hs : P.underlying t = some (.array n e)) (hk : kindsT P D t = some ks)
    {r : Reach} {b : Nat} (hv : Value.okWide P W r b t v) (h : DataW.Trod enc P W 0 sp held t v d p) : ∃ cs : List Value, v = .agg cs.toArray ∧ CellsOk ks cs := by
  have : ∃ cs, v = .agg cs := by
    cases v <;> simp [Value.okWide, hs] at hv <;> simp
  obtain ⟨cs, rfl⟩ := this
  obtain ⟨m, hm⟩ := h
  exact ⟨cs.toList, by simp, trod_kinds D t ks hk _ _ _ hm⟩
theorem ints_of {k : IntKind} : ∀ (n : Nat) (cs : List Value), CellsOk (List.replicate n (.int k)) cs → ∃ g : Nat → Int, cs = (List.range n).map (fun i => .int k (g i)) ∧ ∀ i, (Lit.int k (g i)).wf = true
  | 0, [], _ => ⟨fun _ => 0, rfl, fun _ => by cases k <;> rfl⟩
  | n + 1, v :: cs, h => by
    obtain ⟨⟨x, rfl, hx⟩, h⟩ := h
    obtain ⟨g, rfl, hg⟩ := ints_of n cs h
    refine ⟨fun i => match i with | 0 => x | i + 1 => g i, ?_, fun i => ?_⟩
    · rw [List.range_succ_eq_map, List.map_cons, List.map_map]; rfl
    · cases i with
      | zero => exact hx
      | succ i => exact hg i
  | 0, _ :: _, h => h.elim
  | _ + 1, [], h => h.elim
end
end Go.HL
