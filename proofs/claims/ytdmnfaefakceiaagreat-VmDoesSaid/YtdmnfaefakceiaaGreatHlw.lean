/- The heap logic, part w: reckoning whole runs. -/
import Derived.Test.YtdmnfaefakceiaaGreatHlx
set_option linter.unusedSimpArgs false
set_option linter.unusedVariables false
namespace Go.HL
open Go.RowKit

/-! ### Memory that is made and written -/
theorem Nm.Le.refl (l : Nm) : Nm.Le l l := fun _ _ h => h
theorem Nm.Le.trans {a b c : Nm} (h : Nm.Le a b) (k : Nm.Le b c) : Nm.Le a c := fun r x e => k r x (h r x e)
theorem Nm.Le.snoc (l : Nm) (x) : Nm.Le l (l ++ [x]) := fun r y e => by
  have := (List.getElem?_eq_some_iff.1 e).1
  rw [List.getElem?_append_left this]; exact e
theorem getB_snoc {h : RH} {x : RB} {r : Nat} {y : RB} (e : getB (h ++ [some x]) r = some y) : getB h r = some y ∨ (r = h.length ∧ y = x) := by
  unfold getB at e ⊢
  rcases Nat.lt_trichotomy r h.length with hr | hr | hr
  · rw [List.getElem?_append_left hr] at e; exact .inl e
  · subst hr; simp at e; exact .inr ⟨rfl, e.symm⟩
  · rw [List.getElem?_eq_none (by simp; omega)] at e; cases e
theorem getB_lt {h : RH} {r : Nat} {y : RB} (e : getB h r = some y) : r < h.length := by
  unfold getB at e
  rcases Nat.lt_or_ge r h.length with hr | hr
  · exact hr
  · rw [List.getElem?_eq_none hr] at e; cases e
theorem getB_set {h : RH} {r r' : Nat} {x y : RB} (e : getB (h.set r (some x)) r' = some y) : (r' = r ∧ y = x) ∨ (r' ≠ r ∧ getB h r' = some y) := by
  have hlt := getB_lt e
  rw [List.length_set] at hlt
  unfold getB at e ⊢
  by_cases hr : r' = r
  · subst hr
    rw [List.getElem?_set_self hlt] at e
    exact .inl ⟨rfl, (Option.some.inj e).symm⟩
  · rw [List.getElem?_set_ne (fun h => hr h.symm)] at e
    exact .inr ⟨hr, e⟩
theorem getB_kill {h : RH} {r r' : Nat} {y : RB} (e : getB (h.set r none) r' = some y) : r' ≠ r ∧ getB h r' = some y := by
  have hlt := getB_lt e
  rw [List.length_set] at hlt
  unfold getB at e ⊢
  by_cases hr : r' = r
  · subst hr
    rw [List.getElem?_set_self hlt] at e
    cases e
  · rw [List.getElem?_set_ne (fun h => hr h.symm)] at e
    exact ⟨hr, e⟩

section
variable {w0 : World} {l : Nm} {h : RH} {H : Heap}

theorem HR.kill (hh : HR w0 l h H) (r : Nat) : HR w0 l (h.set r none) H :=
  ⟨⟨fun r' x e => hh.blk r' x (getB_kill e).2⟩, by rw [List.length_set]; exact hh.len, fun r1 r2 x1 x2 b g b' g' e1 e2 => hh.apart r1 r2 x1 x2 b g b' g' (getB_kill e1).2 (getB_kill e2).2⟩
/-- A new block of the reckoning, for a block of the world that no block of the reckoning stands for. -/
theorem HR.snoc {G : Heap} (hh : HR w0 l h H) {b : Nat} (hb : w0.heap.size ≤ b) (hn : ∀ r x b' g', getB h r = some x → l[r]? = some (b', g') → b' ≠ b) (hG : ∀ c, c ≠ b → G c = H c) {x : RB} {g : Option Nat} {cs ex : List Value}
    (hGb : G b = some ⟨x.ty, cs ++ ex⟩) (hv : VRs l x.cells cs) (h0 : x.grown = none → g = none ∧ ex = []) (h1 : ∀ sz, x.grown = some sz → ∃ C, g = some C ∧ (cs ++ ex).length = C * sz) : HR w0 (l ++ [(b, g)]) (h ++ [some x]) G := by
  have hle := Nm.Le.snoc l (b, g)
  have last : (l ++ [(b, g)])[h.length]? = some (b, g) := by rw [← hh.len]; simp
  refine ⟨⟨fun r y e => ?_⟩, by simp [hh.len], fun r1 r2 x1 x2 b1 g1 b2 g2 e1 e2 l1 l2 hbb => ?_⟩
  · rcases getB_snoc e with e' | ⟨rfl, rfl⟩
    · obtain ⟨b', g', cs', ex', k1, k2, k3, k4, k5, k6⟩ := hh.blk r y e'
      exact ⟨b', g', cs', ex', hle _ _ k1, k2, by rw [hG b' (hn r y b' g' e' k1)]; exact k3, k4.up hle, k5, k6⟩
    · exact ⟨b, g, cs, ex, last, hb, hGb, hv.up hle, h0, h1⟩
  · rcases getB_snoc e1 with e1' | ⟨rfl, rfl⟩ <;> rcases getB_snoc e2 with e2' | ⟨rfl, rfl⟩
    · obtain ⟨b', g', -, -, k1, -⟩ := hh.blk r1 x1 e1'
      obtain ⟨b'', g'', -, -, k2, -⟩ := hh.blk r2 x2 e2'
      have j1 := hle _ _ k1
      have j2 := hle _ _ k2
      rw [l1] at j1; rw [l2] at j2
      cases j1; cases j2
      exact hh.apart r1 r2 x1 x2 _ _ _ _ e1' e2' k1 k2 hbb
    · obtain ⟨b', g', -, -, k1, -⟩ := hh.blk r1 x1 e1'
      have j1 := hle _ _ k1
      rw [l1] at j1; cases j1
      rw [last] at l2; cases l2
      exact absurd hbb (hn r1 x1 _ _ e1' k1)
    · obtain ⟨b', g', -, -, k1, -⟩ := hh.blk r2 x2 e2'
      have j1 := hle _ _ k1
      rw [l2] at j1; cases j1
      rw [last] at l1; cases l1
      exact absurd hbb.symm (hn r2 x2 _ _ e2' k1)
    · rfl
theorem HR.fresh (hh : HR w0 l h H) {b : Nat} (hn : H b = none) : ∀ r x b' g', getB h r = some x → l[r]? = some (b', g') → b' ≠ b := fun r x b' g' e k hb => by
  obtain ⟨b2, g2, cs, ex, k1, k2, k3, -⟩ := hh.blk r x e
  rw [k] at k1; cases k1
  subst hb; rw [hn] at k3; cases k3
theorem HR.alloc (hh : HR w0 l h H) {b : Nat} (hb : w0.heap.size ≤ b) (hn : H b = none) {ty : TypeId} {cs cs' : List Value} (hv : VRs l cs cs') : HR w0 (l ++ [(b, none)]) (h ++ [some ⟨ty, cs, none, 0⟩]) (H.set b ⟨ty, cs'⟩) :=
  hh.snoc hb (hh.fresh hn) (fun c hc => Heap.set_other _ _ hc) (x := ⟨ty, cs, none, 0⟩) (ex := []) (by simp) hv (fun _ => ⟨rfl, rfl⟩) (fun sz e => by cases e)
theorem HR.set (hh : HR w0 l h H) {r b : Nat} {g : Option Nat} {x : RB} {cs ex cs2 cs2' : List Value} (e : getB h r = some x) (hl : l[r]? = some (b, g)) (hH : H b = some ⟨x.ty, cs ++ ex⟩) (hv : VRs l x.cells cs) (h0 : x.grown = none → g = none ∧ ex = [])
    (h1 : ∀ sz, x.grown = some sz → ∃ C, g = some C ∧ (cs ++ ex).length = C * sz) (hv2 : VRs l cs2 cs2') (hlen : cs2.length = x.cells.length) : HR w0 l (h.set r (some ⟨x.ty, cs2, x.grown, x.ver + 1⟩)) (H.set b ⟨x.ty, cs2' ++ ex⟩) := by
  have l1 := hv.length
  have l2 := hv2.length
  refine ⟨⟨fun r' y e' => ?_⟩, by rw [List.length_set]; exact hh.len, fun r1 r2 x1 x2 b1 g1 b2 g2 e1 e2 k1 k2 hbb => ?_⟩
  · rcases getB_set e' with ⟨rfl, rfl⟩ | ⟨hne, e'⟩
    · obtain ⟨b', g', -, -, k1, k2, -⟩ := hh.blk r' x e
      rw [hl] at k1; cases k1
      exact ⟨b, g, cs2', ex, hl, k2, by simp, hv2, h0, fun sz hs => by obtain ⟨C, c1, c2⟩ := h1 sz hs; exact ⟨C, c1, by rw [← c2]; simp; omega⟩⟩
    · obtain ⟨b', g', cs', ex', k1, k2, k3, k4, k5, k6⟩ := hh.blk r' y e'
      have hbne : b' ≠ b := fun hb => hne (hh.apart r' r y x b' g' b g e' e k1 hl hb)
      exact ⟨b', g', cs', ex', k1, k2, by rw [Heap.set_other _ _ hbne]; exact k3, k4, k5, k6⟩
  · have old : ∀ q x', getB (h.set r (some ⟨x.ty, cs2, x.grown, x.ver + 1⟩)) q = some x' → ∃ x'', getB h q = some x'' := fun q x' e' => by
      rcases getB_set e' with ⟨rfl, rfl⟩ | ⟨_, e'⟩
      · exact ⟨_, e⟩
      · exact ⟨_, e'⟩
    obtain ⟨y1, f1⟩ := old r1 x1 e1
    obtain ⟨y2, f2⟩ := old r2 x2 e2
    exact hh.apart r1 r2 y1 y2 b1 g1 b2 g2 f1 f2 k1 k2 hbb
end

/-- What is kept: a block whose living names have kept their version is what it was. -/
structure Pres (l : Nm) (h : RH) (H : Heap) (l2 : Nm) (h2 : RH) (H2 : Heap) : Prop where
  le : Nm.Le l l2
  ll : l.length = h.length
  ll2 : l2.length = h2.length
  len : h.length ≤ h2.length
  keep : ∀ b x, H b = some x → (∀ (r : Nat) y g, getB h r = some y → l[r]? = some (b, g) → ∃ z, getB h2 r = some z ∧ z.ver = y.ver) → H2 b = some x
  back : ∀ (r : Nat) z, r < h.length → getB h2 r = some z → ∃ y, getB h r = some y ∧ y.ver ≤ z.ver
  names : ∀ (r : Nat) b g, l.length ≤ r → l2[r]? = some (b, g) → H b = none ∨ ∃ (r' : Nat) (g' : Option Nat) (y : RB), l[r']? = some (b, g') ∧ getB h r' = some y ∧ getB h2 r' = none
  kn : ∀ (r : Nat) y b g, getB h2 r = some y → l2[r]? = some (b, g) → H2 b ≠ none
theorem HR.kn {w0 : World} {l : Nm} {h : RH} {H : Heap} (hh : HR w0 l h H) : ∀ (r : Nat) y b g, getB h r = some y → l[r]? = some (b, g) → H b ≠ none := fun r y b g e k => by
  obtain ⟨b2, g2, cs, ex, k1, k2, k3, -⟩ := hh.blk r y e
  rw [k] at k1; cases k1
  rw [k3]; exact fun e => by cases e
theorem nm_back {l l1 : Nm} (hl : Nm.Le l l1) {r : Nat} (hr : r < l.length) {x} (e : l1[r]? = some x) : l[r]? = some x := by
  have h := List.getElem?_eq_getElem hr
  have := hl r _ h
  rw [this] at e; rw [h, e]
theorem Pres.refl {w0 : World} {l : Nm} {h : RH} {H : Heap} (hh : HR w0 l h H) : Pres l h H l h H :=
  ⟨fun _ _ e => e, hh.len, hh.len, Nat.le_refl _, fun _ _ e _ => e, fun r z _ e => ⟨z, e, Nat.le_refl _⟩, fun r b g hr e => (by rw [List.getElem?_eq_none hr] at e; cases e), hh.kn⟩
theorem Pres.trans {l l1 l2 : Nm} {h h1 h2 : RH} {H H1 H2 : Heap} (p : Pres l h H l1 h1 H1) (q : Pres l1 h1 H1 l2 h2 H2) : Pres l h H l2 h2 H2 := by
  have dead : ∀ r, r < h1.length → getB h1 r = none → getB h2 r = none := fun r hr e => by
    cases hz : getB h2 r with
    | none => rfl
    | some z => obtain ⟨y, e2, -⟩ := q.back r z hr hz; rw [e] at e2; cases e2
  refine ⟨fun r x e => q.le r x (p.le r x e), p.ll, q.ll2, Nat.le_trans p.len q.len, fun b x e hn => ?_, fun r z hr e => ?_, fun r b g hr e => ?_, q.kn⟩
  · refine q.keep b x (p.keep b x e fun r y g hy hl => ?_) fun r y1 g hy1 hl1 => ?_
    · obtain ⟨z, hz, hv⟩ := hn r y g hy hl
      obtain ⟨y1, hy1, v1⟩ := q.back r z (Nat.lt_of_lt_of_le (getB_lt hy) p.len) hz
      obtain ⟨y', hy', v2⟩ := p.back r y1 (getB_lt hy) hy1
      rw [hy] at hy'; cases hy'
      exact ⟨y1, hy1, by omega⟩
    · rcases Nat.lt_or_ge r h.length with hr | hr
      · obtain ⟨y, hy, v1⟩ := p.back r y1 hr hy1
        obtain ⟨z, hz, hv⟩ := hn r y g hy (nm_back p.le (by rw [p.ll]; exact hr) hl1)
        obtain ⟨y1', hy1', v2⟩ := q.back r z (getB_lt hy1) hz
        rw [hy1] at hy1'; cases hy1'
        exact ⟨z, hz, by omega⟩
      · rcases p.names r b g (by rw [p.ll]; exact hr) hl1 with h' | ⟨r', g', y', k1, k2, k3⟩
        · rw [e] at h'; cases h'
        · obtain ⟨z, hz, -⟩ := hn r' y' g' k2 k1
          rw [dead r' (Nat.lt_of_lt_of_le (getB_lt k2) p.len) k3] at hz; cases hz
  · obtain ⟨y1, e1, v1⟩ := q.back r z (Nat.lt_of_lt_of_le hr p.len) e
    obtain ⟨y, e2, v2⟩ := p.back r y1 hr e1
    exact ⟨y, e2, by omega⟩
  · rcases Nat.lt_or_ge r l1.length with hr1 | hr1
    · rcases p.names r b g hr (nm_back q.le hr1 e) with h' | ⟨r', g', y', k1, k2, k3⟩
      · exact .inl h'
      · exact .inr ⟨r', g', y', k1, k2, dead r' (Nat.lt_of_lt_of_le (getB_lt k2) p.len) k3⟩
    · rcases q.names r b g hr1 e with h' | ⟨r', g', y', k1, k2, k3⟩
      · by_cases hb : H b = none
        · exact .inl hb
        · refine .inr ?_
          obtain ⟨x, hx⟩ := Option.ne_none_iff_exists'.1 hb
          by_cases hc : ∃ (r : Nat) (y : RB) (g : Option Nat), getB h r = some y ∧ l[r]? = some (b, g) ∧ getB h1 r = none
          · obtain ⟨r, y, g, c1, c2, c3⟩ := hc
            exact ⟨r, g, y, c2, c1, dead r (Nat.lt_of_lt_of_le (getB_lt c1) p.len) c3⟩
          · exfalso
            by_cases hd : ∃ (r : Nat) (y : RB) (g : Option Nat), getB h r = some y ∧ l[r]? = some (b, g)
            · obtain ⟨r, y, g, c1, c2⟩ := hd
              cases hz : getB h1 r with
              | none => exact hc ⟨r, y, g, c1, c2, hz⟩
              | some z => exact p.kn r z b g hz (p.le r _ c2) h'
            · have := p.keep b x hx fun r y g c1 c2 => absurd ⟨r, y, g, c1, c2⟩ hd
              rw [h'] at this; cases this
      · rcases Nat.lt_or_ge r' h.length with hr' | hr'
        · obtain ⟨y, e2, -⟩ := p.back r' y' hr' k2
          exact .inr ⟨r', g', y, nm_back p.le (by rw [p.ll]; exact hr') k1, e2, k3⟩
        · rcases p.names r' b g' (by rw [p.ll]; exact hr') k1 with h' | ⟨r2, g2, y2, c1, c2, c3⟩
          · exact .inl h'
          · exact .inr ⟨r2, g2, y2, c1, c2, dead r2 (Nat.lt_of_lt_of_le (getB_lt c2) p.len) c3⟩
theorem Pres.alloc {w0 : World} {l : Nm} {h h0 : RH} {H : Heap} {b : Nat} {g : Option Nat} {x : RB} {X : Blk} (hh : HR w0 l h H) (hh2 : HR w0 (l ++ [(b, g)]) (h0 ++ [some x]) (H.set b X)) (hn : H b = none) (hl0 : h0.length = h.length) (hs : ∀ r z, getB h0 r = some z → getB h r = some z) : Pres l h H (l ++ [(b, g)]) (h0 ++ [some x]) (H.set b X) := by
  refine ⟨Nm.Le.snoc l _, hh.len, hh2.len, by simp; omega, fun c y e _ => by rw [Heap.set_other _ _ (fun h => by subst h; rw [hn] at e; cases e)]; exact e, fun r z hr e => ?_, fun r c g' hr e => ?_, hh2.kn⟩
  · rcases getB_snoc e with e' | ⟨rfl, -⟩
    · exact ⟨z, hs r z e', Nat.le_refl _⟩
    · omega
  · rw [List.getElem?_append_right hr] at e
    rcases Nat.eq_zero_or_pos (r - l.length) with h0 | h0
    · rw [h0] at e; simp at e; rw [← e.1]; exact .inl hn
    · rw [List.getElem?_eq_none (by simp; omega)] at e; cases e
theorem Pres.set {w0 : World} {l : Nm} {h : RH} {H : Heap} {r b : Nat} {g : Option Nat} {y z : RB} {X : Blk} (hh : HR w0 l h H) (hh2 : HR w0 l (h.set r (some z)) (H.set b X)) (hl : l[r]? = some (b, g)) (e : getB h r = some y) (hz : z.ver = y.ver + 1) : Pres l h H l (h.set r (some z)) (H.set b X) := by
  refine ⟨fun _ _ e => e, hh.len, hh2.len, by simp, fun c x ex hn => ?_, fun r' z' hr e' => ?_, fun r b g hr e => (by rw [List.getElem?_eq_none hr] at e; cases e), hh2.kn⟩
  · refine (Heap.set_other _ _ fun hc => ?_).trans ex
    subst hc
    obtain ⟨z', hz', hv⟩ := hn r y g e hl
    rcases getB_set hz' with ⟨-, rfl⟩ | ⟨h, -⟩
    · omega
    · exact h rfl
  · rcases getB_set e' with ⟨rfl, rfl⟩ | ⟨-, h⟩
    · exact ⟨y, e, by omega⟩
    · exact ⟨z', h, Nat.le_refl _⟩
theorem Pres.regrow {w0 : World} {l : Nm} {h : RH} {H : Heap} {r b : Nat} {g C : Option Nat} {x y : RB} {X : Blk} (hh : HR w0 l h H) (hh2 : HR w0 (l ++ [(b, C)]) (h.set r none ++ [some x]) (H.set b X)) (hl : l[r]? = some (b, g)) (e : getB h r = some y) : Pres l h H (l ++ [(b, C)]) (h.set r none ++ [some x]) (H.set b X) := by
  have nr : getB (h.set r none ++ [some x]) r = none := by
    cases hz : getB (h.set r none ++ [some x]) r with
    | none => rfl
    | some z =>
      have := getB_lt e
      rcases getB_snoc hz with e' | ⟨h1, -⟩
      · exact absurd rfl (getB_kill e').1
      · simp at h1; omega
  refine ⟨Nm.Le.snoc l _, hh.len, hh2.len, by simp, fun c x' ex hn => ?_, fun r' z' hr e' => ?_, fun r' c g' hr e' => ?_, hh2.kn⟩
  · refine (Heap.set_other _ _ fun hc => ?_).trans ex
    subst hc
    obtain ⟨z', hz', hv⟩ := hn r y g e hl
    rw [nr] at hz'; cases hz'
  · rcases getB_snoc e' with e' | ⟨h1, -⟩
    · exact ⟨z', (getB_kill e').2, Nat.le_refl _⟩
    · simp at h1; omega
  · rw [List.getElem?_append_right hr] at e'
    rcases Nat.eq_zero_or_pos (r' - l.length) with h0 | h0
    · rw [h0] at e'; simp at e'; rw [← e'.1]; exact .inr ⟨r, g, y, hl, e, nr⟩
    · rw [List.getElem?_eq_none (by simp; omega)] at e'; cases e'

/-! ### Operations that make memory, write it or call -/
theorem zeroL_eq (z : List Value) (n : Nat) : zeroL z n = (List.replicate n z).flatten := by
  have key : ∀ n i : Nat, (List.replicate n z).flatten[i]? = if i < n * z.length then z[i % z.length]? else none := by
    intro n
    induction n with
    | zero => intro i; simp
    | succ n ih =>
      intro i
      rw [List.replicate_succ, List.flatten_cons]
      by_cases h : i < z.length
      · rw [List.getElem?_append_left h, if_pos (by rw [Nat.succ_mul]; omega), Nat.mod_eq_of_lt h]
      · rw [List.getElem?_append_right (by omega), ih]
        by_cases h2 : i - z.length < n * z.length
        · rw [if_pos h2, if_pos (by rw [Nat.succ_mul]; omega), Nat.mod_eq_sub_mod (a := i) (by omega)]
        · rw [if_neg h2, if_neg (by rw [Nat.succ_mul]; omega)]
  apply List.ext_getElem?
  intro i
  rw [key]
  simp only [zeroL, Builtin.zeroCells]
  simp
  split
  · rename_i h
    have hz : 0 < z.length := by
      rcases Nat.eq_zero_or_pos z.length with e | e
      · rw [e] at h; omega
      · exact e
    have hm := Nat.mod_lt i hz
    simp [h, hm]
  · rename_i h
    simp; omega
theorem flat_simp {z : List Value} (h : z.all simp0 = true) : ∀ n : Nat, ((List.replicate n z).flatten).all simp0 = true
  | 0 => by simp
  | n + 1 => by rw [List.replicate_succ, List.flatten_cons, List.all_append, h, flat_simp h n]; rfl
theorem putAt_parts : ∀ (L : List Value) (k : Nat) (vs : List Value), k + vs.length ≤ L.length → putAt L k vs = L.take k ++ vs ++ L.drop (k + vs.length)
  | L, k, [], _ => by rw [putAt_nil]; simp
  | [], k, v :: vs, h => by simp at h
  | c :: cs, 0, v :: vs, h => by
    simp only [putAt]
    rw [putAt_parts cs 0 vs (by simp at h ⊢; omega)]
    simp [Nat.add_comm]
  | c :: cs, k + 1, v :: vs, h => by
    simp only [putAt]
    rw [putAt_parts cs k (v :: vs) (by simp at h ⊢; omega), show k + 1 + (v :: vs).length = (k + (v :: vs).length) + 1 by omega, List.drop_succ_cons]
    simp
theorem putAt_pre {cs ex vs : List Value} {o : Nat} (h : o + vs.length ≤ cs.length) : putAt (cs ++ ex) o vs = putAt cs o vs ++ ex := by
  rw [putAt_parts _ _ _ (by simp; omega), putAt_parts _ _ _ h, List.take_append_of_le_length (by omega), List.drop_append_of_le_length h]
  simp
theorem VR.one {l : Nm} {v v' : Value} (h : VR l v v') : v'.oneCell' = v.oneCell' := by cases h <;> rfl
theorem VRs.ones {l : Nm} : ∀ {vs vs' : List Value}, VRs l vs vs' → vs'.all Value.oneCell' = vs.all Value.oneCell'
  | _, _, .nil => rfl
  | _, _, .cons a t => by simp only [List.all_cons, a.one, t.ones]
def AR (l : Nm) (a a' : Option Addr) : Prop := (a = none ∧ a' = none) ∨ ∃ r o b g, a = some ⟨r, o, none⟩ ∧ a' = some ⟨b, o, none⟩ ∧ l[r]? = some (b, g)
theorem inv_slice {l : Nm} {a : Option Addr} {n c : Nat} {v' : Value} (h : VR l (.slice a n c) v') : ∃ a' c', v' = .slice a' n c' ∧ AR l a a' ∧ c ≤ c' ∧ (a = none → c' = c) ∧
    (∀ r o b g, a = some ⟨r, o, none⟩ → l[r]? = some (b, g) → (g = none → c' = c) ∧ ∀ C, g = some C → o = 0 → c' = C) := by
  cases h
  · exact ⟨_, _, rfl, .inl ⟨rfl, rfl⟩, Nat.le_refl _, fun _ => rfl, fun r o b g e => (by cases e)⟩
  · rename_i h h1 hc h0
    refine ⟨_, _, rfl, .inr ⟨_, _, _, _, rfl, rfl, h⟩, hc, (fun e => by cases e), fun r o b g e hl => ?_⟩
    cases e
    rw [h] at hl; cases hl
    exact ⟨h0, h1⟩
def srdx (h : RH) (a : Option Addr) (k : Nat) : Option (List Value) :=
  if k = 0 then some [] else match a with
    | some ⟨r, o, none⟩ => rdnx h r o k
    | _ => none
theorem srdx_sound {w0 : World} {l : Nm} {h : RH} {H : Heap} (hh : HR w0 l h H) {a a' : Option Addr} {k : Nat} {vs : List Value} (e : srdx h a k = some vs) (ha : AR l a a') : ∃ vs', srd w0 H a' k = some vs' ∧ VRs l vs vs' := by
  unfold srdx at e
  unfold srd
  split at e
  · rename_i hk
    cases e
    exact ⟨[], by rw [if_pos hk], .nil⟩
  · rename_i hk
    rw [if_neg hk]
    rcases ha with ⟨rfl, rfl⟩ | ⟨r, o, b, g, rfl, rfl, hl⟩
    · cases e
    · exact rdnx_sound hh.toHB e hl
def layx (h : RH) (a : Option Addr) (off : Nat) (vs : List Value) : Option RH :=
  match vs with
  | [] => some h
  | v :: vs => match a with
    | some ⟨r, o, none⟩ => match getB h r with
      | some y => if (v :: vs).all Value.oneCell' = true ∧ o + off + (v :: vs).length ≤ y.cells.length then some (h.set r (some ⟨y.ty, putAt y.cells (o + off) (v :: vs), y.grown, y.ver + 1⟩)) else none
      | none => none
    | _ => none
theorem layx_sound {w0 : World} {l : Nm} {h h2 : RH} {H : Heap} (hh : HR w0 l h H) {a a' : Option Addr} {off : Nat} {vs vs' : List Value} (e : layx h a off vs = some h2) (ha : AR l a a') (hv : VRs l vs vs') {K : Heap → Prop} (hk : ∀ H2, HR w0 l h2 H2 → Pres l h H l h2 H2 → K H2) : layQ H K a' off vs' := by
  unfold layQ
  cases hv with
  | nil => simp [layx] at e; subst e; rw [if_pos rfl]; exact hk H hh (Pres.refl hh)
  | cons x t =>
    rw [if_neg (by simp)]
    unfold layx at e
    simp only at e
    rcases ha with ⟨rfl, rfl⟩ | ⟨r, o, b, g, rfl, rfl, hl⟩
    · cases e
    · simp only at e
      split at e <;> (try (cases e; done))
      rename_i y hy
      split at e <;> cases e
      rename_i hc
      obtain ⟨b', g', cs, ex, k1, k2, k3, k4, k5, k6⟩ := hh.blk r y hy
      rw [hl] at k1; cases k1
      have hvs := VRs.cons x t
      have hlen := hvs.length
      have hlen2 := k4.length
      simp only [k3, optQ]
      refine ⟨by rw [hvs.ones]; exact hc.1, by simp only [List.length_append]; omega, ?_⟩
      rw [putAt_pre (by omega)]
      have hR := hh.set hy hl k3 k4 k5 k6 (k4.putAt (o + off) hvs) (by rw [putAt_length])
      exact hk _ hR (Pres.set hh hR hl hy rfl)

/-- Forced: numbers, lists. -/
def natK {R : Type} (n : Nat) (k : Nat → R) : R := match n with | 0 => k 0 | m + 1 => k (m + 1)
def intK {R : Type} (n : Int) (k : Int → R) : R := match n with | .ofNat m => natK m fun m => k (.ofNat m) | .negSucc m => natK m fun m => k (.negSucc m)
def boolK {R : Type} (b : Bool) (k : Bool → R) : R := match b with | true => k true | false => k false
def lstK {R α : Type} : List α → (List α → R) → R
  | [], k => k []
  | x :: l, k => lstK l fun l' => k (x :: l')
def adrK {R : Type} (a : Option Addr) (k : Option Addr → R) : R := match a with
  | none => k none
  | some ⟨b, o, none⟩ => natK b fun b => natK o fun o => k (some ⟨b, o, none⟩)
  | a => k a
def val0K {R : Type} (v : Value) (k : Value → R) : R := match v with
  | .int kd n => intK n fun n => k (.int kd n)
  | .bool b => boolK b fun b => k (.bool b)
  | .pointer a => adrK a fun a => k (.pointer a)
  | .slice a n c => adrK a fun a => natK n fun n => natK c fun c => k (.slice a n c)
  | v => k v
def lv0K {R : Type} : List Value → (List Value → R) → R
  | [], k => k []
  | x :: l, k => val0K x fun x => lv0K l fun l' => k (x :: l')
def val1K {R : Type} (v : Value) (k : Value → R) : R := match v with
  | .agg ⟨l⟩ => lv0K l fun l => k (.agg ⟨l⟩)
  | .func f ⟨a⟩ ⟨b⟩ => lv0K a fun a => lv0K b fun b => k (.func f ⟨a⟩ ⟨b⟩)
  | v => val0K v k
def lv1K {R : Type} : List Value → (List Value → R) → R
  | [], k => k []
  | x :: l, k => val1K x fun x => lv1K l fun l' => k (x :: l')
def valK {R : Type} (v : Value) (k : Value → R) : R := match v with
  | .tuple ⟨l⟩ => lv1K l fun l => k (.tuple ⟨l⟩)
  | v => val1K v k
def rbK {R : Type} (x : Option RB) (k : Option RB → R) : R := match x with
  | none => k none
  | some ⟨ty, cs, none, v⟩ => lv0K cs fun cs => natK v fun v => k (some ⟨ty, cs, none, v⟩)
  | some ⟨ty, cs, some g, v⟩ => lv0K cs fun cs => natK g fun g => natK v fun v => k (some ⟨ty, cs, some g, v⟩)
def hK {R : Type} : RH → Nat → (RH → R) → R
  | [], _, k => k []
  | [x], _, k => rbK x fun x => k [x]
  | x :: y :: l, 0, k => rbK x fun x => hK (y :: l) (2 ^ 32) fun l => k (x :: l)
  | x :: y :: l, n + 1, k => hK (y :: l) n fun l => k (x :: l)
def putK {R : Type} (T : List Value) (d : Option Tmp) (v : Value) (k : List Value → R) : R :=
  match d with
  | none => k T
  | some d => stK T d v k
where stK {R : Type} : List Value → Nat → Value → (List Value → R) → R
  | [], _, _, k => k []
  | _ :: l, 0, v, k => k (v :: l)
  | u :: l, n + 1, v, k => stK l n v fun l' => k (u :: l')
theorem natK_eq {R : Type} (n : Nat) (k : Nat → R) : natK n k = k n := by cases n <;> rfl
theorem intK_eq {R : Type} (n : Int) (k : Int → R) : intK n k = k n := by cases n <;> simp [intK, natK_eq]
theorem boolK_eq {R : Type} (b : Bool) (k : Bool → R) : boolK b k = k b := by cases b <;> rfl
theorem adrK_eq {R : Type} (a : Option Addr) (k : Option Addr → R) : adrK a k = k a := by unfold adrK; split <;> simp [natK_eq]
theorem val0K_eq {R : Type} (v : Value) (k : Value → R) : val0K v k = k v := by unfold val0K; split <;> simp [natK_eq, intK_eq, boolK_eq, adrK_eq]
theorem lv0K_eq {R : Type} : ∀ (l : List Value) (k : List Value → R), lv0K l k = k l
  | [], _ => rfl
  | x :: l, k => by simp only [lv0K, val0K_eq, lv0K_eq l]
theorem val1K_eq {R : Type} (v : Value) (k : Value → R) : val1K v k = k v := by unfold val1K; split <;> simp [lv0K_eq, val0K_eq]
theorem lv1K_eq {R : Type} : ∀ (l : List Value) (k : List Value → R), lv1K l k = k l
  | [], _ => rfl
  | x :: l, k => by simp only [lv1K, val1K_eq, lv1K_eq l]
theorem valK_eq {R : Type} (v : Value) (k : Value → R) : valK v k = k v := by unfold valK; split <;> simp [lv1K_eq, val1K_eq]
theorem rbK_eq {R : Type} (x : Option RB) (k : Option RB → R) : rbK x k = k x := by unfold rbK; split <;> simp [lv0K_eq, natK_eq]
theorem hK_eq {R : Type} : ∀ (h : RH) (n : Nat) (k : RH → R), hK h n k = k h
  | [], _, _ => by simp [hK]
  | [x], _, _ => by simp [hK, rbK_eq]
  | x :: y :: l, 0, k => by simp only [hK, rbK_eq, hK_eq (y :: l)]
  | x :: y :: l, n + 1, k => by simp only [hK, hK_eq (y :: l)]
theorem stK_eq {R : Type} : ∀ (T : List Value) (n : Nat) (v : Value) (k : List Value → R), putK.stK T n v k = k (st T n v)
  | [], _, _, _ => rfl
  | _ :: _, 0, _, _ => rfl
  | u :: l, n + 1, v, k => by simp only [putK.stK, stK_eq l n v, st]
theorem putK_eq {R : Type} (T : List Value) (d : Option Tmp) (v : Value) (k : List Value → R) : putK T d v k = k (put T d v) := by cases d <;> simp [putK, put, stK_eq]
theorem lstK_eq {R α : Type} : ∀ (l : List α) (k : List α → R), lstK l k = k l
  | [], _ => rfl
  | x :: l, k => by simp only [lstK, lstK_eq l]

abbrev CX := FuncId → List Value → RH → (Value → RH → Bool) → Bool
def appX (e : TypeId) (size bytes : Nat) (zero : List Value) (h : RH) (s x : Value) : Option (Value × RH) :=
  match s, x with
  | .slice a n c, .slice xa m _ =>
    if (n + m) * bytes ≤ 140737488355328 ∧ n + m ≤ 9223372036854775807 then
      match srdx h xa (m * size) with
      | none => none
      | some news =>
        if n + m ≤ c then (match layx h a (n * size) news with | some h2 => some (.slice a (n + m) c, h2) | none => none)
        else match srdx h a (n * size) with
          | none => none
          | some olds =>
            if zero.length = size ∧ 0 < news.length then
              match a with
              | none => some (.slice (some ⟨h.length, 0, none⟩) (n + m) (n + m), h ++ [some ⟨e, olds ++ news, some size, 0⟩])
              | some ⟨r, o, none⟩ => match getB h r with
                | some ⟨ty, cells, none, _⟩ => some (.slice (some ⟨h.length, 0, none⟩) (n + m) (n + m), h ++ [some ⟨e, olds ++ news, some size, 0⟩])
                | some ⟨ty, cells, some sz, _⟩ => if (o = 0 ∧ sz = size ∧ ty = e) ∧ (news.all Value.oneCell' = true ∧ n * size ≤ cells.length) then some (.slice (some ⟨h.length, 0, none⟩) (n + m) (n + m), h.set r none ++ [some ⟨e, olds ++ news, some size, 0⟩]) else none
                | none => none
              | _ => none
            else none
    else none
  | _, _ => none
def mx (mo : MO) (T : List Value) (h : RH) : Option (Value × RH) :=
  match mo with
  | .alloc ty z => if z.all simp0 then some (.pointer (some ⟨h.length, 0, none⟩), h ++ [some ⟨ty, z, none, 0⟩]) else none
  | .box ty x => match evx T x with | some v => some (.pointer (some ⟨h.length, 0, none⟩), h ++ [some ⟨ty, v.cells.toList, none, 0⟩]) | none => none
  | .bslice ty len z ps => match z.all simp0, partsX T ps with | true, some qs => (match fillL z qs with | some cs => some (.slice (some ⟨h.length, 0, none⟩) len len, h ++ [some ⟨ty, cs, none, 0⟩]) | none => none) | _, _ => none
  | .st1 a x => match evx T a, evx T x with
    | some (.pointer (some ⟨r, o, none⟩)), some v => (match getB h r with | some y => if v.oneCell' = true ∧ o < y.cells.length then some (undef, h.set r (some ⟨y.ty, y.cells.set o v, y.grown, y.ver + 1⟩)) else none | none => none)
    | _, _ => none
  | .stn n a x => match evx T a, evx T x with
    | some (.pointer (some ⟨r, o, none⟩)), some (.agg cs) => (match getB h r with | some y => if cs.size = n ∧ cs.toList.all Value.oneCell' = true ∧ o + n ≤ y.cells.length then some (undef, h.set r (some ⟨y.ty, putAt y.cells o cs.toList, y.grown, y.ver + 1⟩)) else none | none => none)
    | _, _ => none
  | .call f args => none
  | .callv x args => none
  | .yv _ _ => none
  | .mkm => none
  | .appz _ _ _ _ _ _ => none
  | .mup _ _ _ _ => none
  | .del _ _ _ => none
  | .rng _ => none
  | .nxt _ => none
  | .mnz _ _ => none
  | .clr _ _ => none
  | .app e size bytes zero s x => match evx T s, evx T x with | some a, some b => appX e size bytes zero h a b | _, _ => none
  | .mks e bytes zero len cap => match evx T len, evx T cap with
    | some (.int _ l), some (.int _ c) => if (0 ≤ l ∧ l ≤ c ∧ c ≤ 9223372036854775807 ∧ bytes * c.toNat ≤ 281474976710656) ∧ zero.all simp0 = true then some (.slice (some ⟨h.length, 0, none⟩) l.toNat c.toNat, h ++ [some ⟨e, (List.replicate c.toNat zero).flatten, none, 0⟩]) else none
    | _, _ => none
  | .cpy size d x => match evx T d, evx T x with
    | some (.slice a n _), some (.slice xa m _) => (match srdx h xa (Nat.min m n * size) with | some vs => (match layx h a 0 vs with | some h2 => some (.int .i64 (Nat.min m n : Nat), h2) | none => none) | none => none)
    | _, _ => none
  | q => match qx q T h with | some v => some (v, h) | none => none
def tch (mo : MO) (T : List Value) : Nat :=
  match mo with
  | .st1 a _ => (match evx T a with | some (.pointer (some ⟨r, _, _⟩)) => r | _ => 0)
  | .stn _ a _ => (match evx T a with | some (.pointer (some ⟨r, _, _⟩)) => r | _ => 0)
  | .app _ _ _ _ s _ => (match evx T s with | some (.slice (some ⟨r, _, _⟩) _ _) => r | _ => 0)
  | .cpy _ d _ => (match evx T d with | some (.slice (some ⟨r, _, _⟩) _ _) => r | _ => 0)
  | _ => 0
def mxK (call : CX) (mo : MO) (T : List Value) (h : RH) (k : Value → RH → Bool) : Bool :=
  match mo with
  | .call f args => match evxs T args with | some vs => call f vs h k | none => false
  | .callv x args => match evx T x, evxs T args with | some (.func (.func f) fs cs), some vs => call f (fs.toList ++ vs ++ cs.toList) h k | _, _ => false
  | .yv x args => match evx T x, evxs T args with | some (.func (.func f) fs cs), some vs => call f (fs.toList ++ vs ++ cs.toList) h k | _, _ => false
  | q => match mx q T h with | some (v, h2) => (match q.quiet with | true => k v h2 | false => hK h2 (tch q T) fun h2 => k v h2) | none => false
def sameB : RH → RH → Bool
  | [], _ => true
  | none :: a, _ :: b => sameB a b
  | some y :: a, some z :: b => Nat.beq z.ver y.ver && sameB a b
  | _, _ => false
theorem sameB_sound : ∀ {a b : RH}, sameB a b = true → ∀ (r : Nat) y, getB a r = some y → ∃ z, getB b r = some z ∧ z.ver = y.ver
  | [], b, h, r, y, e => by simp [getB] at e
  | none :: a, [], h, r, y, e => by simp [sameB] at h
  | some x :: a, [], h, r, y, e => by simp [sameB] at h
  | some x :: a, none :: b, h, r, y, e => by simp [sameB] at h
  | none :: a, x :: b, h, r, y, e => by
    cases r with
    | zero => simp [getB] at e
    | succ r => exact sameB_sound (a := a) (b := b) (by simpa [sameB] using h) r y (by simpa [getB] using e)
  | some x :: a, some x' :: b, h, r, y, e => by
    simp only [sameB, Bool.and_eq_true] at h
    cases r with
    | zero => simp [getB] at e; subst e; exact ⟨x', by simp [getB], Nat.eq_of_beq_eq_true h.1⟩
    | succ r => exact sameB_sound (a := a) (b := b) h.2 r y (by simpa [getB] using e)
theorem sameB_le {l l2 : Nm} {h h2 : RH} {H H2 : Heap} (p : Pres l h H l2 h2 H2) (e : sameB h h2 = true) : Heap.Le H H2 := fun b x hb => p.keep b x hb fun r y g hy _ => sameB_sound e r y hy

/-- A part of a heap in which whole blocks are hidden. -/
structure SubR (l : Nm) (h0 : RH) (H0 : Heap) (h : RH) (H : Heap) : Prop where
  le : Heap.Le H0 H
  nm : ∀ b x, H0 b = some x → ∀ (r : Nat) y g, getB h r = some y → l[r]? = some (b, g) → getB h0 r = some y
theorem SubR.refl {l : Nm} {h : RH} {H : Heap} : SubR l h H h H := ⟨Heap.Le.refl _, fun _ _ _ _ _ _ e _ => e⟩
theorem sameB_le' {l l2 : Nm} {h0 h h2 : RH} {H0 H H2 : Heap} (s : SubR l h0 H0 h H) (p : Pres l h H l2 h2 H2) (e : sameB h0 h2 = true) : Heap.Le H0 H2 := fun b x hb => p.keep b x (s.le b x hb) fun r y g hy hl => sameB_sound e r y (s.nm b x hb r y g hy hl)
def hideX : List Nat → RH → RH
  | [], h => h
  | r :: rs, h => hideX rs (h.set r none)
theorem hide_get : ∀ (rs : List Nat) (h : RH) (r : Nat) y, getB (hideX rs h) r = some y → getB h r = some y
  | [], _, _, _, e => e
  | a :: rs, h, r, y, e => by
    have := hide_get rs (h.set a none) r y e
    unfold getB at this ⊢
    rw [List.getElem?_set] at this
    by_cases ha : a = r
    · rw [if_pos ha] at this
      by_cases hb : a < h.length <;> simp [hb] at this
    · rw [if_neg ha] at this; exact this
open Classical in
theorem hide_ok {w0 : World} {l : Nm} {h : RH} {H : Heap} (hh : HR w0 l h H) (rs : List Nat) : ∃ H0, HB w0 l (hideX rs h) H0 ∧ SubR l (hideX rs h) H0 h H := by
  refine ⟨fun b => if ∃ (r : Nat) (y : RB) (g : Option Nat), getB (hideX rs h) r = some y ∧ l[r]? = some (b, g) then H b else none, ⟨fun r x e => ?_⟩, ⟨fun b x e => ?_, fun b x e r y g hy hl => ?_⟩⟩
  · obtain ⟨b, g, cs, ex, h1, h2, h3, h4⟩ := hh.blk r x (hide_get _ _ _ _ e)
    exact ⟨b, g, cs, ex, h1, h2, by rw [if_pos ⟨r, x, g, e, h1⟩]; exact h3, h4⟩
  · split at e
    · exact e
    · cases e
  · split at e
    · rename_i hex
      obtain ⟨r', y', g', e1, e2⟩ := hex
      have e3 := hide_get _ _ _ _ e1
      have := hh.apart r r' y y' b g b g' hy e3 hl e2 rfl
      subst this
      rw [hy] at e3
      cases e3
      exact e1
    · cases e
def rootX (T : List Value) (x : Operand) : Option Nat := match evx T x with | some (.pointer (some ⟨r, _, _⟩)) => some r | _ => none
def baseX (T : List Value) (t : Nat) : List (Bool × Nat × List Nat × MOp) → Option Nat
  | [] => rootX T (.tmp t)
  | (_, _, _, o) :: l => match o.dst with
    | some d => (match Nat.beq d t with | true => (match o.op with | .fa _ x => rootX T x | .ia _ _ x _ => rootX T x | _ => none) | false => baseX T t l)
    | none => baseX T t l
/-- The blocks that a drawn region turns while others may still read. -/
def turnedX (T : List Value) (pl : List (Bool × Nat × List Nat × MOp)) : List (Bool × Nat × List Nat × MOp) → List Nat
  | [] => []
  | (_, _, [], _) :: l => turnedX T pl l
  | (_, _, _ :: _, o) :: l => match o.op with
    | .st1 (.tmp t) _ => (match baseX T t pl with | some r => r :: turnedX T pl l | none => turnedX T pl l)
    | .stn _ (.tmp t) _ => (match baseX T t pl with | some r => r :: turnedX T pl l | none => turnedX T pl l)
    | _ => turnedX T pl l

section
variable {P : Program} {w0 : World} {l : Nm} {h h2 : RH} {H : Heap} {T T' : List Value} {v : Value}
/-- A callee's reckoning tells what its call comes to. -/
def CallOk (P : Program) (w0 : World) (call : CX) : Prop := ∀ f vs h (k : Value → RH → Bool), call f vs h k = true → ∀ l H vs' (K : Value → Heap → Prop), VRs l vs vs' → HR w0 l h H →
  (∀ v h2 l2 v' H2, k v h2 = true → Nm.Le l l2 → VR l2 v v' → HR w0 l2 h2 H2 → Pres l h H l2 h2 H2 → K v' H2) → HCalls P w0 f vs' H K
theorem appX_sound (hh : HR w0 l h H) {e : TypeId} {size bytes : Nat} {zero : List Value} {s x s' x' : Value} (hs : VR l s s') (hx : VR l x x') (he : appX e size bytes zero h s x = some (v, h2)) {K : Value → Heap → Prop}
    (hk : ∀ l2 v' H2, Nm.Le l l2 → VR l2 v v' → HR w0 l2 h2 H2 → Pres l h H l2 h2 H2 → K v' H2) : appQ w0 H K e size bytes zero s' x' := by
  unfold appX at he
  split at he <;> (try (cases he; done))
  rename_i a n c xa m xc
  split at he <;> (try (cases he; done))
  rename_i hsz
  split at he <;> (try (cases he; done))
  rename_i news hnews
  obtain ⟨a', c', rfl, hAR, hcc, hnil, hgr⟩ := inv_slice hs
  obtain ⟨xa', xc', rfl, hXR, -⟩ := inv_slice hx
  obtain ⟨news', hn1, hn2⟩ := srdx_sound hh hnews hXR
  have hnl := hn2.length
  unfold appQ
  refine ⟨hsz.1, hsz.2, ?_⟩
  rw [hn1]
  simp only [optQ]
  split at he
  · rename_i hroom
    split at he <;> cases he
    rename_i hlay
    refine ⟨fun _ => layx_sound hh hlay hAR hn2 fun H2 hH2 hp => hk l _ H2 (Nm.Le.refl l) ?_ hH2 hp, fun hlt => by omega⟩
    rcases hAR with ⟨rfl, rfl⟩ | ⟨r, o, b, g, rfl, rfl, hl⟩
    · rw [hnil rfl]; exact .snil _ _
    · obtain ⟨g1, g2⟩ := hgr r o b g rfl hl
      exact .slc _ _ _ _ hl hcc g1 g2
  · rename_i hroom
    split at he <;> (try (cases he; done))
    rename_i olds holds
    split at he <;> (try (cases he; done))
    rename_i hz
    obtain ⟨olds', ho1, ho2⟩ := srdx_sound hh holds hAR
    have hol := ho2.length
    have hon := ho2.append hn2
    -- a new row
    have grow : ∀ (h0 : RH), HR w0 l h0 H → h0.length = h.length → (∀ r z, getB h0 r = some z → getB h r = some z) → v = .slice (some ⟨h.length, 0, none⟩) (n + m) (n + m) → h2 = h0 ++ [some ⟨e, olds ++ news, some size, 0⟩] → (olds'.length = n * size) → (news'.length = m * size) →
        ∀ C, n + m ≤ C → C ≤ 9223372036854775807 → AllocQ w0 H K (fun b => .slice (some ⟨b, 0, none⟩) (n + m) C) e (olds' ++ news' ++ zeroL zero (C - (n + m))) := by
      intro h0 hh0 hl0 hs0 hv hh2 q1 q2 C hC hC2 b hb hbn
      subst hv hh2
      have hR := hh0.snoc (G := H.set b ⟨e, olds' ++ news' ++ zeroL zero (C - (n + m))⟩) hb (hh0.fresh hbn) (fun c hc => Heap.set_other _ _ hc) (x := ⟨e, olds ++ news, some size, 0⟩) (g := some C) (cs := olds' ++ news') (ex := zeroL zero (C - (n + m)))
        (by simp) hon (fun e => by cases e) (fun sz hs => by
          cases hs
          refine ⟨C, rfl, ?_⟩
          have : (zeroL zero (C - (n + m))).length = (C - (n + m)) * size := by rw [zeroL_eq]; simp [hz.1]
          rw [List.length_append, List.length_append, this, q1, q2, ← Nat.add_mul, ← Nat.add_mul]
          congr 1; omega)
      refine hk _ _ _ (Nm.Le.snoc l (b, some C)) (.slc (g := some C) _ _ _ _ (by rw [← hl0, ← hh0.len]; simp) hC (fun e => by cases e) (fun C' e _ => by cases e; rfl)) hR (Pres.alloc hh hR hbn hl0 hs0)
    have q1 : olds'.length = n * size := by
      unfold srd at ho1
      split at ho1
      · rename_i h0; cases ho1; rw [h0]; rfl
      · split at ho1 <;> (try (cases ho1; done))
        unfold HL.rdn at ho1
        split at ho1
        · split at ho1 <;> cases ho1
          rename_i hle; simp; omega
        · split at ho1 <;> (try (cases ho1; done))
          exact ron_length _ _ ho1
    have q2 : news'.length = m * size := by
      unfold srd at hn1
      split at hn1
      · rename_i h0; cases hn1; rw [h0]; rfl
      · split at hn1 <;> (try (cases hn1; done))
        unfold HL.rdn at hn1
        split at hn1
        · split at hn1 <;> cases hn1
          rename_i hle; simp; omega
        · split at hn1 <;> (try (cases hn1; done))
          exact ron_length _ _ hn1
    rw [ho1]
    simp only [optQ]
    rcases hAR with ⟨rfl, rfl⟩ | ⟨r, o, b, g, rfl, rfl, hl⟩
    · cases he
      rw [hnil rfl]
      exact ⟨fun hr => absurd hr hroom, fun _ => grow h hh rfl (fun _ _ e => e) rfl rfl q1 q2⟩
    · obtain ⟨g1, g2⟩ := hgr r o b g rfl hl
      simp only at he
      split at he <;> (try (cases he; done))
      · rename_i ty cells vr hy
        cases he
        obtain ⟨b', g', cs, ex, k1, k2, k3, k4, k5, k6⟩ := hh.blk r _ hy
        rw [hl] at k1; cases k1
        rw [g1 (k5 rfl).1]
        exact ⟨fun hr => absurd hr hroom, fun _ => grow h hh rfl (fun _ _ e => e) rfl rfl q1 q2⟩
      · rename_i ty cells sz vr hy
        split at he <;> cases he
        rename_i hc
        obtain ⟨⟨rfl, rfl, rfl⟩, hones, hcl⟩ := hc
        refine ⟨fun hr => ?_, fun _ => grow (h.set r none) (hh.kill r) (by simp) (fun _ _ e => (getB_kill e).2) rfl rfl q1 q2⟩
        obtain ⟨b', g', cs, ex, k1, k2, k3, k4, k5, k6⟩ := hh.blk r _ hy
        rw [hl] at k1; cases k1
        obtain ⟨C, rfl, hC⟩ := k6 sz rfl
        have hcC := g2 C rfl rfl
        subst hcC
        have hcsl := k4.length
        simp only at hcsl
        have hle : (n + m) * sz ≤ c' * sz := Nat.mul_le_mul_right _ hr
        rw [Nat.add_mul] at hle
        unfold layQ
        rw [if_neg (by intro e; rw [e] at q2; simp at q2; rw [hnl] at hz; rw [e] at hz; simp at hz)]
        simp only [k3, optQ]
        refine ⟨by rw [hn2.ones]; exact hones, by rw [hC]; omega, ?_⟩
        have hput : putAt (cs ++ ex) (0 + n * sz) news' = (olds' ++ news') ++ (cs ++ ex).drop (n * sz + news'.length) := by
          rw [Nat.zero_add, putAt_parts _ _ _ (by rw [hC]; omega)]
          congr 2
          unfold srd at ho1
          split at ho1
          · rename_i h0; cases ho1; rw [h0]; rfl
          · unfold HL.rdn at ho1
            simp only [k3] at ho1
            split at ho1 <;> cases ho1
            simp
        rw [hput]
        have hR := (hh.kill r).snoc (G := H.set b ⟨ty, (olds' ++ news') ++ (cs ++ ex).drop (n * sz + news'.length)⟩) k2 (fun r2 y b2 g2 e2 l2 hb2 => by
            obtain ⟨hne, e3⟩ := getB_kill e2
            exact hne (hh.apart r2 r y _ b2 g2 b _ e3 hy l2 hl hb2)) (fun c hc => Heap.set_other _ _ hc) (x := ⟨ty, olds ++ news, some sz, 0⟩) (g := some c') (cs := olds' ++ news') (ex := (cs ++ ex).drop (n * sz + news'.length))
          (by simp) hon (fun e => by cases e) (fun sz' hs => by
            cases hs
            refine ⟨c', rfl, ?_⟩
            rw [List.length_append, List.length_append, List.length_drop, hC, q1, q2]
            omega)
        exact hk _ _ _ (Nm.Le.snoc l (b, some c')) (.slc (g := some c') _ _ _ _ (by rw [← hh.len]; simp) hr (fun e => by cases e) (fun C' e _ => by cases e; rfl)) hR (Pres.regrow hh hR hl hy)
theorem mx_sound (hT : VRs l T T') (hh : HR w0 l h H) {mo : MO} (e : mx mo T h = some (v, h2)) {K : Value → Heap → Prop}
    (hk : ∀ l2 v' H2, Nm.Le l l2 → VR l2 v v' → HR w0 l2 h2 H2 → Pres l h H l2 h2 H2 → K v' H2) : mwp P w0 mo T' H K := by
  have newb : ∀ {ty : TypeId} {cs cs' : List Value} {u : Value} {f : Nat → Value}, VRs l cs cs' → (∀ b, VR (l ++ [(b, none)]) u (f b)) → v = u → h2 = h ++ [some ⟨ty, cs, none, 0⟩] → AllocQ w0 H K f ty cs' := by
    intro ty cs cs' u f hv hu e1 e2 b hb hn
    subst e1 e2
    exact hk _ _ _ (Nm.Le.snoc l _) (hu b) (hh.alloc hb hn hv) (Pres.alloc hh (hh.alloc hb hn hv) hn rfl (fun _ _ e => e))
  have last : ∀ b, (l ++ [(b, (none : Option Nat))])[h.length]? = some (b, none) := fun b => by rw [← hh.len]; simp
  have quiet : ∀ (q : MO), q.quiet = true → mo = q → (match qx q T h with | some v => some (v, h) | none => none) = some (v, h2) → qv P w0 q T' H (fun v => K v H) := by
    intro q hq hmo e
    split at e <;> cases e
    rename_i hv
    obtain ⟨v', h1, h2⟩ := qx_sound hT hh.toHB hv
    exact h2 _ (hk l v' H (Nm.Le.refl l) h1 hh (Pres.refl hh))
  cases mo
  case alloc ty z =>
    simp only [mx] at e
    split at e <;> cases e
    rename_i hz
    exact newb (simps_vr hz) (fun b => .ptr 0 (last b)) rfl rfl
  case box ty x =>
    simp only [mx] at e
    split at e <;> cases e
    rename_i u hu
    exact newb (evx_vr hT hu).cells (fun b => .ptr 0 (last b)) rfl rfl
  case bslice ty len z ps =>
    simp only [mx] at e
    split at e <;> (try (cases e; done))
    rename_i qs hz hq
    split at e <;> cases e
    rename_i cs hf
    obtain ⟨cs', h1, h2⟩ := fill_vr hT hq (simps_vr hz) hf
    simp only [mwp, h1, optQ]
    exact newb h2 (fun b => .slc (g := none) 0 len len len (last b) (Nat.le_refl _) (fun _ => rfl) (fun C e => by cases e)) rfl rfl
  case st1 a x =>
    simp only [mx] at e
    split at e <;> (try (cases e; done))
    rename_i r o u ha hu
    split at e <;> (try (cases e; done))
    rename_i y hy
    split at e <;> cases e
    rename_i hc
    obtain ⟨b, g, hl, hv⟩ := inv_ptr hT ha
    have hvr := evx_vr hT hu
    obtain ⟨b', g', cs, ex, k1, k2, k3, k4, k5, k6⟩ := hh.blk r y hy
    rw [hl] at k1; cases k1
    have hlen := k4.length
    simp only [mwp, hv, st1Q, k3, optQ]
    refine ⟨by rw [hvr.one]; exact hc.1, by rw [List.length_append]; omega, ?_⟩
    rw [List.set_append, if_pos (by omega)]
    have hR := hh.set hy hl k3 k4 k5 k6 (k4.set hvr o) (by simp)
    exact hk l _ _ (Nm.Le.refl l) VR.undef hR (Pres.set hh hR hl hy rfl)
  case stn n a x =>
    simp only [mx] at e
    split at e <;> (try (cases e; done))
    rename_i r o us ha hu
    split at e <;> (try (cases e; done))
    rename_i y hy
    split at e <;> cases e
    rename_i hc
    obtain ⟨b, g, hl, hv⟩ := inv_ptr hT ha
    obtain ⟨ds, hd, hds⟩ := inv_agg hT hu
    obtain ⟨b', g', cs, ex, k1, k2, k3, k4, k5, k6⟩ := hh.blk r y hy
    rw [hl] at k1; cases k1
    have hlen := k4.length
    have hlen2 := hds.length
    have hcs : us.toList.length = n := by simpa using hc.1
    simp only [mwp, hv, hd, stnQ, k3, optQ]
    refine ⟨by simp; omega, by rw [hds.ones]; exact hc.2.1, by rw [List.length_append]; omega, ?_⟩
    rw [putAt_pre (by omega)]
    have hR := hh.set hy hl k3 k4 k5 k6 (k4.putAt o hds) (by rw [putAt_length])
    exact hk l _ _ (Nm.Le.refl l) VR.undef hR (Pres.set hh hR hl hy rfl)
  case call f args => simp [mx] at e
  case callv x args => simp [mx] at e
  case yv x args => simp [mx] at e
  case mkm => simp [mx] at e
  case appz => simp [mx] at e
  case mup => simp [mx] at e
  case del => simp [mx] at e
  case rng => simp [mx] at e
  case nxt => simp [mx] at e
  case mnz => simp [mx] at e
  case clr => simp [mx] at e
  case app e' size bytes zero s x =>
    simp only [mx] at e
    split at e <;> (try (cases e; done))
    rename_i a b ha hb
    exact appX_sound hh (evx_vr hT ha) (evx_vr hT hb) e hk
  case mks e' bytes zero len cap =>
    simp only [mx] at e
    split at e <;> (try (cases e; done))
    rename_i ll cc ha hb
    split at e <;> cases e
    rename_i hc
    simp only [mwp, inv_int hT ha, inv_int hT hb, mksQ, zeroL_eq]
    refine ⟨hc.1.1, hc.1.2.1, hc.1.2.2.1, hc.1.2.2.2, newb (simps_vr (flat_simp hc.2 _)) (fun b => .slc (g := none) 0 _ _ _ (last b) (Nat.le_refl _) (fun _ => rfl) (fun C e => by cases e)) rfl rfl⟩
  case cpy size d x =>
    simp only [mx] at e
    split at e <;> (try (cases e; done))
    rename_i a n _ xa m _ ha hb
    split at e <;> (try (cases e; done))
    rename_i vs hvs
    split at e <;> cases e
    rename_i hlay
    obtain ⟨a', c1, hv1, hA, -⟩ := inv_slice (evx_vr hT ha)
    obtain ⟨xa', c2, hv2, hX, -⟩ := inv_slice (evx_vr hT hb)
    obtain ⟨vs', h1, h2'⟩ := srdx_sound hh hvs hX
    simp only [mwp, hv1, hv2, cpyQ, h1, optQ]
    exact layx_sound hh hlay hA h2' fun H2 hH2 hp => hk l _ H2 (Nm.Le.refl l) (.int _ _) hH2 hp
  all_goals exact quiet _ rfl rfl e
theorem mxK_sound {call : CX} (hcall : CallOk P w0 call) (hT : VRs l T T') (hh : HR w0 l h H) {mo : MO} {k : Value → RH → Bool} (e : mxK call mo T h k = true) {K : Value → Heap → Prop}
    (hk : ∀ v h2 l2 v' H2, k v h2 = true → Nm.Le l l2 → VR l2 v v' → HR w0 l2 h2 H2 → Pres l h H l2 h2 H2 → K v' H2) : mwp P w0 mo T' H K := by
  have rest : ∀ (q : MO), mo = q → (match mx q T h with | some (v, h2) => (match q.quiet with | true => k v h2 | false => hK h2 (tch q T) fun h2 => k v h2) | none => false) = true → mwp P w0 q T' H K := by
    intro q hq e
    subst hq
    split at e <;> (try (cases e; done))
    rename_i v h2 hm
    have e : k v h2 = true := by
      split at e
      · exact e
      · rw [hK_eq] at e; exact e
    exact mx_sound hT hh hm fun l2 v' H2 a b c d => hk v h2 l2 v' H2 e a b c d
  cases mo
  case call f args =>
    simp only [mxK] at e
    split at e <;> (try (cases e; done))
    rename_i vs hvs
    exact hcall f vs h k e l H _ K (evxs_vr hT hvs) hh hk
  case callv x args =>
    simp only [mxK] at e
    split at e <;> (try (cases e; done))
    rename_i f fs cs vs hx hvs
    obtain ⟨ys, us, hv, v1, v2⟩ := inv_fn hT hx
    simp only [mwp, hv, callvQ]
    exact hcall f _ h k e l H _ K ((v1.append (evxs_vr hT hvs)).append v2) hh hk
  case yv x args =>
    simp only [mxK] at e
    split at e <;> (try (cases e; done))
    rename_i f fs cs vs hx hvs
    obtain ⟨ys, us, hv, v1, v2⟩ := inv_fn hT hx
    simp only [mwp, hv, yvQ]
    exact hcall f _ h k e l H _ K ((v1.append (evxs_vr hT hvs)).append v2) hh hk
  all_goals exact rest _ rfl e
end

/-! ### Whole runs -/
inductive EI where
  | code (m : MC)
  | ops (l : List MOp)
  | pl (h0 : RH) (l : List (Bool × Nat × List Nat × MOp))
  | pt (h0 : RH) (t : PT)
  | blk (id : Nat)
  | scp
  | lp (m : MC)
def exitX (id : Nat) : List EI → Option (List EI)
  | .blk id' :: k => if id' = id then some k else exitX id k
  | .code _ :: k => exitX id k
  | .ops _ :: k => exitX id k
  | .pl _ _ :: k => exitX id k
  | .pt _ _ :: k => exitX id k
  | .lp _ :: k => exitX id k
  | .scp :: k => exitX id k
  | [] => none
def resX (T : List Value) (h : RH) : List RV → Option (List Value)
  | [] => some []
  | .t t :: l => match resX T h l with | some r => some (lk T t :: r) | none => none
  | .c1 a :: l => match lk T a, resX T h l with
    | .pointer (some ⟨b, o, none⟩), some r => (match rd1x h b o with | some v => some (v :: r) | none => none)
    | _, _ => none
  | .cn n a :: l => match lk T a, resX T h l with
    | .pointer (some ⟨b, o, none⟩), some r => (match rdnx h b o n with | some cs => some (.agg ⟨cs⟩ :: r) | none => none)
    | _, _ => none
def finX (rv : List RV) (T : List Value) (h : RH) (k : Value → RH → Bool) : Bool := match resX T h rv with | some vs => k (tup vs) h | none => false
def guardX (T : List Value) : Option (Tmp × Bool) → Bool
  | none => true
  | some (d, want) => match lk T d with | .bool b => b == want | _ => false
/-! ### What nothing names any more is dropped -/
def leafLt (n : Nat) : Value → Bool
  | .int _ _ => true
  | .bool _ => true
  | .string _ => true
  | .pointer none => true
  | .pointer (some ⟨r, _, _⟩) => Nat.blt r n
  | .slice none _ _ => true
  | .slice (some ⟨r, _, _⟩) _ _ => Nat.blt r n
  | .map none => true
  | .nilFunc => true
  | .nilIface => true
  | _ => false
def v1Lt (n : Nat) : Value → Bool
  | .agg ⟨l⟩ => l.all (leafLt n)
  | .func _ ⟨a⟩ ⟨b⟩ => a.all (leafLt n) && b.all (leafLt n)
  | v => leafLt n v
def vLt (n : Nat) : Value → Bool
  | .tuple ⟨l⟩ => l.all (v1Lt n)
  | v => v1Lt n v
def hLt (m : Nat) : Nat → RH → Bool
  | 0, _ => true
  | _ + 1, [] => true
  | n + 1, none :: h => hLt m n h
  | n + 1, some x :: h => x.cells.all (leafLt m) && hLt m n h
def preK {R : Type} : Nat → RH → (RH → R) → R
  | 0, _, k => k []
  | _ + 1, [], k => k []
  | n + 1, x :: h, k => preK n h fun h => k (x :: h)
def gcK {R : Type} (n : Nat) (v : Value) (h : RH) (k : Value → RH → R) : R :=
  match vLt n v && hLt n n h with
  | true => preK n h fun h => k v h
  | false => k v h
theorem preK_eq {R : Type} : ∀ (n : Nat) (h : RH) (k : RH → R), preK n h k = k (h.take n)
  | 0, _, _ => by simp [preK]
  | _ + 1, [], _ => by simp [preK]
  | n + 1, x :: h, k => by simp only [preK, preK_eq n h, List.take_succ_cons]
theorem take_nm {l : Nm} {r n : Nat} {x} (h : l[r]? = some x) (hr : r < n) : (l.take n)[r]? = some x := by rw [List.getElem?_take, if_pos hr]; exact h
theorem leafLt_vr {l : Nm} {n : Nat} {v v' : Value} (h : leafLt n v = true) (hv : VR l v v') : VR (l.take n) v v' := by
  cases hv <;> first | (simp [leafLt] at h; done) | skip
  case int k m => exact .int k m
  case bool b => exact .bool b
  case str s => exact .str s
  case pnil => exact .pnil
  case ptr r b g o hl => exact .ptr o (take_nm hl (by simpa [leafLt, Nat.blt_eq] using h))
  case snil a c => exact .snil a c
  case slc r b g o a c c' hl hc h0 h1 => exact .slc o a c c' (take_nm hl (by simpa [leafLt, Nat.blt_eq] using h)) hc h0 h1
  case mnil => exact .mnil
  case fnil => exact .fnil
  case inil => exact .inil
theorem leafLts_vr {l : Nm} {n : Nat} : ∀ {vs vs' : List Value}, vs.all (leafLt n) = true → VRs l vs vs' → VRs (l.take n) vs vs'
  | _, _, _, .nil => .nil
  | _, _, h, .cons a t => by
    simp only [List.all_cons, Bool.and_eq_true] at h
    exact .cons (leafLt_vr h.1 a) (leafLts_vr h.2 t)
theorem v1Lt_vr {l : Nm} {n : Nat} {v v' : Value} (h : v1Lt n v = true) (hv : VR l v v') : VR (l.take n) v v' := by
  unfold v1Lt at h
  split at h
  · cases hv with
    | agg hs => exact .agg (leafLts_vr h hs)
  · cases hv with
    | fn f ha hb =>
      simp only [Bool.and_eq_true] at h
      exact .fn f (leafLts_vr h.1 ha) (leafLts_vr h.2 hb)
  · exact leafLt_vr h hv
theorem v1Lts_vr {l : Nm} {n : Nat} : ∀ {vs vs' : List Value}, vs.all (v1Lt n) = true → VRs l vs vs' → VRs (l.take n) vs vs'
  | _, _, _, .nil => .nil
  | _, _, h, .cons a t => by
    simp only [List.all_cons, Bool.and_eq_true] at h
    exact .cons (v1Lt_vr h.1 a) (v1Lts_vr h.2 t)
theorem vLt_vr {l : Nm} {n : Nat} {v v' : Value} (h : vLt n v = true) (hv : VR l v v') : VR (l.take n) v v' := by
  unfold vLt at h
  split at h
  · cases hv with
    | tup hs => exact .tup (v1Lts_vr h hs)
  · exact v1Lt_vr h hv
theorem hLt_get {m : Nat} : ∀ {n : Nat} {h : RH}, hLt m n h = true → ∀ r x, r < n → getB h r = some x → x.cells.all (leafLt m) = true
  | 0, _, _, r, x, hr, _ => by omega
  | n + 1, [], _, r, x, _, e => by simp [getB] at e
  | n + 1, none :: h, hh, r, x, hr, e => by
    cases r with
    | zero => simp [getB] at e
    | succ r => exact hLt_get (n := n) (h := h) (by simpa [hLt] using hh) r x (by omega) (by simpa [getB] using e)
  | n + 1, some y :: h, hh, r, x, hr, e => by
    simp only [hLt, Bool.and_eq_true] at hh
    cases r with
    | zero => simp [getB] at e; subst e; exact hh.1
    | succ r => exact hLt_get (n := n) (h := h) hh.2 r x (by omega) (by simpa [getB] using e)
theorem getB_take {h : RH} {n r : Nat} {x : RB} (e : getB (h.take n) r = some x) : r < n ∧ getB h r = some x := by
  unfold getB at e ⊢
  rw [List.getElem?_take] at e
  by_cases hr : r < n
  · rw [if_pos hr] at e; exact ⟨hr, e⟩
  · rw [if_neg hr] at e; cases e
theorem getB_take' {h : RH} {n r : Nat} {x : RB} (hr : r < n) (e : getB h r = some x) : getB (h.take n) r = some x := by
  unfold getB at e ⊢
  rw [List.getElem?_take, if_pos hr]; exact e
theorem HR.take {w0 : World} {l : Nm} {h : RH} {H : Heap} (hh : HR w0 l h H) {n : Nat} (e : hLt n n h = true) : HR w0 (l.take n) (h.take n) H := by
  have tk : ∀ {r x}, (l.take n)[r]? = some x → l[r]? = some x := fun {r x} h => by
    rw [List.getElem?_take] at h
    split at h
    · exact h
    · cases h
  refine ⟨⟨fun r x e' => ?_⟩, by simp [hh.len], fun r r' x x' b g b' g' e1 e2 k1 k2 hb => hh.apart r r' x x' b g b' g' (getB_take e1).2 (getB_take e2).2 (tk k1) (tk k2) hb⟩
  obtain ⟨hr, e2⟩ := getB_take e'
  obtain ⟨b, g, cs, ex, k1, k2, k3, k4, k5⟩ := hh.blk r x e2
  exact ⟨b, g, cs, ex, take_nm k1 hr, k2, k3, leafLts_vr (hLt_get e r x hr e2) k4, k5⟩
theorem Pres.take {w0 : World} {l l2 : Nm} {h h2 : RH} {H H2 : Heap} (p : Pres l h H l2 h2 H2) (hh : HR w0 (l2.take h.length) (h2.take h.length) H2) : Pres l h H (l2.take h.length) (h2.take h.length) H2 := by
  refine ⟨fun r x e => ?_, p.ll, hh.len, by rw [List.length_take]; have := p.len; omega, fun b x e hn => p.keep b x e fun r y g a c => ?_, fun r z hr e => p.back r z hr (getB_take e).2, fun r b g hr e => ?_, hh.kn⟩
  · exact take_nm (p.le r x e) (by rw [← p.ll]; exact (List.getElem?_eq_some_iff.1 e).1)
  · obtain ⟨z, hz, hv⟩ := hn r y g a c
    exact ⟨z, (getB_take hz).2, hv⟩
  · rw [List.getElem?_take, if_neg (by rw [← p.ll]; omega)] at e; cases e
/-- A call's end: what the caller cannot name is dropped. -/
theorem gcK_sound {w0 : World} {l l2 : Nm} {h h2 : RH} {H H2 : Heap} {v v' : Value} {k : Value → RH → Bool} (e : gcK h.length v h2 k = true) (hv : VR l2 v v') (hh : HR w0 l2 h2 H2) (hp : Pres l h H l2 h2 H2) : ∃ l3 h3, k v h3 = true ∧ Nm.Le l l3 ∧ VR l3 v v' ∧ HR w0 l3 h3 H2 ∧ Pres l h H l3 h3 H2 := by
  unfold gcK at e
  split at e
  · rename_i hc
    simp only [Bool.and_eq_true] at hc
    rw [preK_eq] at e
    have h1 := hh.take hc.2
    have h3 := hp.take h1
    exact ⟨_, _, e, h3.le, vLt_vr hc.1 hv, h1, h3⟩
  · exact ⟨l2, h2, e, hp.le, hv, hh, hp⟩

abbrev Tbl := FuncId → Option (MC × List RV × Nat)
def exec (tb : Tbl) : Nat → List RV → List EI → List Value → RH → (Value → RH → Bool) → Bool
  | 0, _, _, _, _, _ => false
  | n + 1, rv, st, T, h, K =>
    let call : CX := fun f vs h K => match tb f with | some (m, rv', nt) => natK h.length fun len => exec tb n rv' [.code m] (vs ++ List.replicate (nt - vs.length) undef) h (fun v h2 => valK v fun v => gcK len v h2 K) | none => false
    match st with
    | [] => finX rv T h K
    | .blk _ :: k => exec tb n rv k T h K
    | .scp :: k => exec tb n rv k T h K
    | .lp m :: k => exec tb n rv (.code m :: .lp m :: k) T h K
    | .ops [] :: k => exec tb n rv k T h K
    | .ops (o :: l) :: k => match guardX T o.guard with
      | true => mxK call o.op T h fun v h' => valK v fun v => putK T o.dst v fun T' => exec tb n rv (.ops l :: k) T' h' K
      | false => exec tb n rv (.ops l :: k) (put T o.dst undef) h K
    | .pl _ [] :: k => exec tb n rv k T h K
    | .pl h0 ((fl, _, ds, o) :: l) :: k => match guardX T o.guard with
      | true => match fl with
        | true => match qx o.op T h0 with
          | some v => valK v fun v => putK T o.dst v fun T' => exec tb n rv (.pl h0 l :: k) T' h K
          | none => false
        | false => mxK call o.op T h fun v h' => match ds.isEmpty || sameB h0 h' with
          | true => valK v fun v => putK T o.dst v fun T' => exec tb n rv (.pl h0 l :: k) T' h' K
          | false => false
      | false => exec tb n rv (.pl h0 l :: k) (put T o.dst undef) h K
    | .pt _ .nil :: k => boolK (exec tb n rv k T h K) id
    | .pt h0 (.alt a b) :: k => exec tb n rv (.pt h0 a :: k) T h K && exec tb n rv (.pt h0 b :: k) T h K
    | .pt h0 (.one fl _ ds o l) :: k => match guardX T o.guard with
      | true => match fl with
        | true => match qx o.op T h0 with
          | some v => valK v fun v => putK T o.dst v fun T' => exec tb n rv (.pt h0 l :: k) T' h K
          | none => false
        | false => mxK call o.op T h fun v h' => match ds.isEmpty || sameB h0 h' with
          | true => valK v fun v => putK T o.dst v fun T' => exec tb n rv (.pt h0 l :: k) T' h' K
          | false => false
      | false => exec tb n rv (.pt h0 l :: k) (put T o.dst undef) h K
    | .code .skip :: k => exec tb n rv k T h K
    | .code (.reg l) :: k => exec tb n rv (.ops l :: k) T h K
    | .code (.any pl) :: k => match turnedX T pl pl with
      | [] => exec tb n rv (.pl h pl :: k) T h K
      | rs => exec tb n rv (.pl (hideX rs h) pl :: k) T h K
    | .code (.alts t) :: k => exec tb n rv (.pt h t :: k) T h K
    | .code (.seq a b) :: k => exec tb n rv (.code a :: .code b :: k) T h K
    | .code (.cond c a b) :: k => match evx T c with
      | some (.bool true) => exec tb n rv (.code a :: k) T h K
      | some (.bool false) => exec tb n rv (.code b :: k) T h K
      | _ => false
    | .code (.block id m) :: k => exec tb n rv (.code m :: .blk id :: k) T h K
    | .code (.loop m) :: k => exec tb n rv (.code m :: .lp m :: k) T h K
    | .code (.exit id) :: k => match exitX id k with | some k' => exec tb n rv k' T h K | none => false
    | .code .ret :: _ => finX rv T h K
    | .code (.scope m) :: k => exec tb n rv (.code m :: .scp :: k) T h K
    | .code (.rangef _ _ _ _) :: _ => false

/-! ### It tells the truth -/
inductive ER0 : List EI → List It → Prop
  | nil : ER0 [] []
  | code (m : MC) {k : List EI} {k' : List It} : ER0 k k' → ER0 (.code m :: k) (.code m :: k')
  | ops (l : List MOp) {k : List EI} {k' : List It} : ER0 k k' → ER0 (.ops l :: k) (.ops l :: k')
  | blk (id : Nat) {k : List EI} {k' : List It} : ER0 k k' → ER0 (.blk id :: k) (.blk id :: k')
  | scp {k : List EI} {k' : List It} : ER0 k k' → ER0 (.scp :: k) (.scp :: k')
  | lp (m : MC) {k : List EI} {k' : List It} : ER0 k k' → ER0 (.lp m :: k) (.lp m :: k')
inductive ER (w0 : World) (l : Nm) (h : RH) (H : Heap) : List EI → List It → Prop
  | same {k : List EI} {k' : List It} : ER0 k k' → ER w0 l h H k k'
  | pl {l0 : Nm} {h0 hf : RH} {H0 Hf : Heap} {ps : List (Bool × Nat × List Nat × MOp)} {k : List EI} {k' : List It} : HB w0 l h0 H0 → (SubR l0 h0 H0 hf Hf ∧ Pres l0 hf Hf l h H) → ER0 k k' → ER w0 l h H (.pl h0 ps :: k) (.pl (fun _ => H0) ps :: k')
  | pt {l0 : Nm} {h0 : RH} {H0 : Heap} {ps : PT} {k : List EI} {k' : List It} : HB w0 l h0 H0 → Pres l0 h0 H0 l h H → ER0 k k' → ER w0 l h H (.pt h0 ps :: k) (.pt (fun _ => H0) ps :: k')
theorem ER0.exit {id : Nat} : ∀ {k : List EI} {k' : List It} {r : List EI}, ER0 k k' → exitX id k = some r → ∃ r', exitIt id k' = some r' ∧ ER0 r r'
  | _, _, r, .nil, h => by simp [exitX] at h
  | _, _, r, .code _ hk, h => hk.exit (id := id) (by simpa [exitX] using h)
  | _, _, r, .ops _ hk, h => hk.exit (id := id) (by simpa [exitX] using h)
  | _, _, r, .scp hk, h => hk.exit (id := id) (by simpa [exitX] using h)
  | _, _, r, .lp _ hk, h => hk.exit (id := id) (by simpa [exitX] using h)
  | _, _, r, .blk id' hk, h => by
    simp only [exitX] at h
    simp only [exitIt]
    split at h
    · rename_i he; cases h; exact ⟨_, by rw [if_pos he], hk⟩
    · rename_i he; rw [if_neg he]; exact hk.exit h
theorem VRs.put {l : Nm} {T T' : List Value} (hT : VRs l T T') {v v' : Value} (hv : VR l v v') (d : Option Tmp) : VRs l (put T d v) (put T' d v') := by
  cases d with
  | none => exact hT
  | some d => exact hT.st hv d
theorem resX_sound {w0 : World} {l : Nm} {h : RH} {H : Heap} {T T' : List Value} (hT : VRs l T T') (hh : HB w0 l h H) : ∀ {rv : List RV} {vs : List Value}, resX T h rv = some vs → ∃ vs', resV w0 T' H rv = some vs' ∧ VRs l vs vs'
  | [], vs, e => by simp [resX] at e; subst e; exact ⟨[], rfl, .nil⟩
  | .t t :: rv, vs, e => by
    simp only [resX] at e
    split at e <;> cases e
    rename_i r hr
    obtain ⟨vs', h1, h2⟩ := resX_sound hT hh hr
    exact ⟨_, by simp [resV, h1], .cons (hT.lk t) h2⟩
  | .c1 a :: rv, vs, e => by
    simp only [resX] at e
    split at e <;> (try (cases e; done))
    rename_i b o r hl hr
    split at e <;> cases e
    rename_i v hv
    obtain ⟨vs', h1, h2⟩ := resX_sound hT hh hr
    have := hT.lk a
    rw [hl] at this
    cases hx : HL.lk T' a <;> rw [hx] at this <;> cases this
    obtain ⟨v', h3, h4⟩ := rd1x_sound hh hv (by assumption)
    exact ⟨_, by simp [resV, hx, h1, h3], .cons h4 h2⟩
  | .cn n a :: rv, vs, e => by
    simp only [resX] at e
    split at e <;> (try (cases e; done))
    rename_i b o r hl hr
    split at e <;> cases e
    rename_i cs hcs
    obtain ⟨vs', h1, h2⟩ := resX_sound hT hh hr
    have := hT.lk a
    rw [hl] at this
    cases hx : HL.lk T' a <;> rw [hx] at this <;> cases this
    obtain ⟨cs', h3, h4⟩ := rdnx_sound hh hcs (by assumption)
    exact ⟨_, by simp [resV, hx, h1, h3], .cons (.agg h4) h2⟩
theorem tup_vr {l : Nm} {vs vs' : List Value} (h : VRs l vs vs') : VR l (tup vs) (tup vs') := by
  cases h with
  | nil => exact .tup .nil
  | cons a t => cases t with
    | nil => exact a
    | cons b t => exact .tup (.cons a (.cons b t))
theorem finX_sound {w0 : World} {l : Nm} {h : RH} {H : Heap} {T T' : List Value} (hT : VRs l T T') (hh : HR w0 l h H) {rv : List RV} {k : Value → RH → Bool} (e : finX rv T h k = true) {K : Value → Heap → Prop}
    (hk : ∀ v h2 l2 v' H2, k v h2 = true → Nm.Le l l2 → VR l2 v v' → HR w0 l2 h2 H2 → Pres l h H l2 h2 H2 → K v' H2) : finQ w0 rv K T' H := by
  unfold finX at e
  split at e <;> (try (cases e; done))
  rename_i vs hvs
  obtain ⟨vs', h1, h2⟩ := resX_sound hT hh.toHB hvs
  unfold finQ
  rw [h1]
  exact hk _ _ l _ H e (Nm.Le.refl l) (tup_vr h2) hh (Pres.refl hh)
theorem exec_sound {P : Program} {w0 : World} {tb : Tbl} (tbok : ∀ f x, tb f = some x → fnOk P f = some x) : ∀ (n : Nat) (rv : List RV) (st : List EI) (T : List Value) (h : RH) (kb : Value → RH → Bool), exec tb n rv st T h kb = true →
    ∀ (l : Nm) (H : Heap) (T' : List Value) (st' : List It) (K : Value → Heap → Prop), VRs l T T' → HR w0 l h H → ER w0 l h H st st' → (∀ v h2 l2 v' H2, kb v h2 = true → Nm.Le l l2 → VR l2 v v' → HR w0 l2 h2 H2 → Pres l h H l2 h2 H2 → K v' H2) → run P w0 (finQ w0 rv K) n st' T' H
  | 0, _, _, _, _, _, e => by simp [exec] at e
  | n + 1, rv, st, T, h, kb, e => by
    intro l H T' st' K hT hh hst hk
    have ih := exec_sound (P := P) (w0 := w0) tbok n
    have hcall : CallOk P w0 (fun f vs h k => match tb f with | some (m, rv', nt) => natK h.length fun len => exec tb n rv' [.code m] (vs ++ List.replicate (nt - vs.length) undef) h (fun v h2 => valK v fun v => gcK len v h2 k) | none => false) := by
      intro f vs h k e l H vs' K hv hh hk
      simp only at e
      split at e <;> (try (cases e; done))
      rename_i m rv' nt ht
      refine hcalls (tbok f _ ht) n ?_
      rw [← hv.length]
      rw [natK_eq] at e
      exact ih rv' _ _ h _ e l H _ _ K (hv.append (VRs.rep VR.undef _)) hh (.same (.code m .nil)) fun v h2 l2 v' H2 e _ b c d => by
        rw [valK_eq] at e
        obtain ⟨l3, h3, e3, a3, b3, c3, d3⟩ := gcK_sound e b c d
        exact hk v h3 l3 v' H2 e3 a3 b3 c3 d3
    have go : ∀ {st2 : List EI} {st2' : List It} {T2 T2' : List Value}, exec tb n rv st2 T2 h kb = true → VRs l T2 T2' → ER w0 l h H st2 st2' → run P w0 (finQ w0 rv K) n st2' T2' H := fun e2 hT2 hs => ih rv _ _ h kb e2 l H _ _ K hT2 hh hs hk
    show step P w0 (finQ w0 rv K) (run P w0 (finQ w0 rv K) n) st' T' H
    unfold exec at e
    cases hst with
    | pl hb hcl hk0 =>
      obtain ⟨hsub, hcl⟩ := hcl
      rename_i l0 h0 hf H0 Hf ps k k'
      cases ps with
      | nil => exact go e hT (.same hk0)
      | cons p ps =>
        obtain ⟨fl, i, ds, o⟩ := p
        simp only at e
        have yes : guardX T o.guard = true → plQ P w0 (run P w0 (finQ w0 rv K) n) fl i ds (fun _ => H0) o (.pl (fun _ => H0) ps :: k') T' H := by
          intro hg
          rw [hg] at e
          simp only at e
          cases fl with
          | true =>
            simp only at e
            split at e <;> (try (cases e; done))
            rename_i u hu
            rw [valK_eq, putK_eq] at e
            obtain ⟨u', h1, h3⟩ := qx_sound hT hb hu
            exact h3 _ (go e (hT.put h1 o.dst) (.pl hb ⟨hsub, hcl⟩ hk0))
          | false =>
            simp only at e
            refine mxK_sound hcall hT hh e fun u h' l2 u' H2 e hl hu' hh2 hp => ?_
            split at e <;> (try (cases e; done))
            rename_i hsame
            rw [valK_eq, putK_eq] at e
            refine ⟨fun f hf => ?_, ?_⟩
            · rw [show ds.isEmpty = false by cases ds <;> first | (simp at hf; done) | rfl] at hsame
              exact sameB_le' hsub (hcl.trans hp) (by simpa using hsame)
            · exact ih rv _ _ h' kb e l2 H2 _ _ K ((hT.up hl).put hu' o.dst) hh2 (.pl (hb.up hl) ⟨hsub, hcl.trans hp⟩ hk0) fun v h3 l3 v' H3 g a b c d => hk v h3 l3 v' H3 g (hl.trans a) b c (hp.trans d)
        have no : guardX T o.guard = false → run P w0 (finQ w0 rv K) n (.pl (fun _ => H0) ps :: k') (put T' o.dst undef) H := by
          intro hg
          rw [hg] at e
          exact go e (hT.put VR.undef o.dst) (.pl hb ⟨hsub, hcl⟩ hk0)
        obtain ⟨d, op, g⟩ := o
        cases g with
        | none => exact yes rfl
        | some g =>
          obtain ⟨d', want⟩ := g
          have hg := hT.lk d'
          show gP P w0 (run P w0 (finQ w0 rv K) n) (HL.lk T' d') want fl i ds (fun _ => H0) ⟨d, op, some (d', want)⟩ (.pl (fun _ => H0) ps :: k') T' H
          unfold gP
          simp only [guardX] at yes no
          split
          · rename_i b hb'
            rw [hb'] at hg
            cases hx : HL.lk T d' <;> rw [hx] at hg <;> cases hg
            rw [hx] at yes no
            exact ⟨fun e => yes (by simp [e]), fun e => no (by simp [e])⟩
          · rename_i hn
            refine no ?_
            split
            · rename_i b hb'
              rw [hb'] at hg
              cases hx : HL.lk T' d' <;> rw [hx] at hg <;> cases hg
              exact absurd hx (hn _)
            · rfl
    | pt hb hcl hk0 =>
      rename_i l0 h0 H0 ps k k'
      cases ps with
      | nil =>
        have e2 := (boolK_eq _ _).symm.trans e
        exact go e2 hT (.same hk0)
      | alt a b =>
        simp only [Bool.and_eq_true] at e
        exact ⟨go e.1 hT (.pt hb hcl hk0), go e.2 hT (.pt hb hcl hk0)⟩
      | one fl i ds o ps =>
        simp only at e
        have yes : guardX T o.guard = true → plQ P w0 (run P w0 (finQ w0 rv K) n) fl i ds (fun _ => H0) o (.pt (fun _ => H0) ps :: k') T' H := by
          intro hg
          rw [hg] at e
          simp only at e
          cases fl with
          | true =>
            simp only at e
            split at e <;> (try (cases e; done))
            rename_i u hu
            rw [valK_eq, putK_eq] at e
            obtain ⟨u', h1, h3⟩ := qx_sound hT hb hu
            exact h3 _ (go e (hT.put h1 o.dst) (.pt hb hcl hk0))
          | false =>
            simp only at e
            refine mxK_sound hcall hT hh e fun u h' l2 u' H2 e hl hu' hh2 hp => ?_
            split at e <;> (try (cases e; done))
            rename_i hsame
            rw [valK_eq, putK_eq] at e
            refine ⟨fun f hf => ?_, ?_⟩
            · rw [show ds.isEmpty = false by cases ds <;> first | (simp at hf; done) | rfl] at hsame
              exact sameB_le (hcl.trans hp) (by simpa using hsame)
            · exact ih rv _ _ h' kb e l2 H2 _ _ K ((hT.up hl).put hu' o.dst) hh2 (.pt (hb.up hl) (hcl.trans hp) hk0) fun v h3 l3 v' H3 g a b c d => hk v h3 l3 v' H3 g (hl.trans a) b c (hp.trans d)
        have no : guardX T o.guard = false → run P w0 (finQ w0 rv K) n (.pt (fun _ => H0) ps :: k') (put T' o.dst undef) H := by
          intro hg
          rw [hg] at e
          exact go e (hT.put VR.undef o.dst) (.pt hb hcl hk0)
        obtain ⟨d, op, g⟩ := o
        cases g with
        | none => exact yes rfl
        | some g =>
          obtain ⟨d', want⟩ := g
          have hg := hT.lk d'
          show gP P w0 (run P w0 (finQ w0 rv K) n) (HL.lk T' d') want fl i ds (fun _ => H0) ⟨d, op, some (d', want)⟩ (.pt (fun _ => H0) ps :: k') T' H
          unfold gP
          simp only [guardX] at yes no
          split
          · rename_i b hb'
            rw [hb'] at hg
            cases hx : HL.lk T d' <;> rw [hx] at hg <;> cases hg
            rw [hx] at yes no
            exact ⟨fun e => yes (by simp [e]), fun e => no (by simp [e])⟩
          · rename_i hn
            refine no ?_
            split
            · rename_i b hb'
              rw [hb'] at hg
              cases hx : HL.lk T' d' <;> rw [hx] at hg <;> cases hg
              exact absurd hx (hn _)
            · rfl
    | same h0 =>
      cases h0 with
      | nil => exact finX_sound hT hh e hk
      | blk id hk0 => exact go e hT (.same hk0)
      | scp hk0 => exact go e hT (.same hk0)
      | lp m hk0 => exact .inr (go e hT (.same (.code m (.lp m hk0))))
      | ops ps hk0 =>
        rename_i k k'
        cases ps with
        | nil => exact go e hT (.same hk0)
        | cons o ps =>
          simp only at e
          have yes : guardX T o.guard = true → mwp P w0 o.op T' H (KK (run P w0 (finQ w0 rv K) n) (.ops ps :: k') T' o.dst) := by
            intro hg
            rw [hg] at e
            simp only at e
            refine mxK_sound hcall hT hh e fun u h' l2 u' H2 e hl hu' hh2 hp => ?_
            rw [valK_eq, putK_eq] at e
            exact ih rv _ _ h' kb e l2 H2 _ _ K ((hT.up hl).put hu' o.dst) hh2 (.same (.ops ps hk0)) fun v h3 l3 v' H3 g a b c d => hk v h3 l3 v' H3 g (hl.trans a) b c (hp.trans d)
          have no : guardX T o.guard = false → run P w0 (finQ w0 rv K) n (.ops ps :: k') (put T' o.dst undef) H := by
            intro hg
            rw [hg] at e
            exact go e (hT.put VR.undef o.dst) (.same (.ops ps hk0))
          obtain ⟨d, op, g⟩ := o
          cases g with
          | none => exact yes rfl
          | some g =>
            obtain ⟨d', want⟩ := g
            have hg := hT.lk d'
            show gS P w0 (run P w0 (finQ w0 rv K) n) (HL.lk T' d') want ⟨d, op, some (d', want)⟩ (.ops ps :: k') T' H
            unfold gS
            simp only [guardX] at yes no
            split
            · rename_i b hb'
              rw [hb'] at hg
              cases hx : HL.lk T d' <;> rw [hx] at hg <;> cases hg
              rw [hx] at yes no
              exact ⟨fun e => yes (by simp [e]), fun e => no (by simp [e])⟩
            · rename_i hn
              refine no ?_
              split
              · rename_i b hb'
                rw [hb'] at hg
                cases hx : HL.lk T' d' <;> rw [hx] at hg <;> cases hg
                exact absurd hx (hn _)
              · rfl
      | code m hk0 =>
        cases m with
        | skip => exact go e hT (.same hk0)
        | reg ps => exact go e hT (.same (.ops ps hk0))
        | any ps =>
          simp only at e
          split at e
          · exact any_h (go e hT (.pl hh.toHB ⟨SubR.refl, Pres.refl hh⟩ hk0))
          · obtain ⟨H0, hb0, hs0⟩ := hide_ok hh (turnedX T ps ps)
            exact any_sub H0 hs0.le (go e hT (.pl hb0 ⟨hs0, Pres.refl hh⟩ hk0))
        | alts t => exact any_h (go e hT (.pt hh.toHB (Pres.refl hh) hk0))
        | seq a b => exact go e hT (.same (.code a (.code b hk0)))
        | cond c a b =>
          simp only at e
          show condS (run P w0 (finQ w0 rv K) n) (ev T' c) _ _ T' H
          split at e <;> (try (cases e; done))
          · rename_i hc
            rw [inv_bool hT hc]
            exact ⟨fun _ => go e hT (.same (.code a hk0)), fun h => (by cases h)⟩
          · rename_i hc
            rw [inv_bool hT hc]
            exact ⟨fun h => (by cases h), fun _ => go e hT (.same (.code b hk0))⟩
        | block id m => exact go e hT (.same (.code m (.blk id hk0)))
        | rangef f ps a b => cases e
        | loop m => exact .inr (go e hT (.same (.code m (.lp m hk0))))
        | exit id =>
          simp only at e
          split at e <;> (try (cases e; done))
          rename_i k2 hk2
          obtain ⟨r', h1, h3⟩ := hk0.exit hk2
          show optQ (exitIt id _) _
          rw [h1]
          exact go e hT (.same h3)
        | ret => exact finX_sound hT hh e hk
        | scope m => exact go e hT (.same (.code m (.scp hk0)))

def eqS0 : Value → Value → Bool
  | .int k a, .int k' b => decide (k = k') && (match a, b with | .ofNat a, .ofNat b => Nat.beq a b | .negSucc a, .negSucc b => Nat.beq a b | _, _ => false)
  | .bool a, .bool b => a == b
  | .pointer none, .pointer none => true
  | .slice none n c, .slice none n' c' => Nat.beq n n' && Nat.beq c c'
  | _, _ => false
def eqSs : List Value → List Value → Bool
  | [], [] => true
  | x :: xs, y :: ys => eqS0 x y && eqSs xs ys
  | _, _ => false
def eqS : Value → Value → Bool
  | .agg xs, .agg ys => eqSs xs.toList ys.toList
  | x, y => eqS0 x y
theorem eqS0_eq {x y : Value} (h : eqS0 x y = true) : x = y := by
  unfold eqS0 at h
  split at h <;> (try (cases h; done))
  · simp only [Bool.and_eq_true, decide_eq_true_eq] at h
    obtain ⟨rfl, h⟩ := h
    split at h <;> (try (cases h; done))
    · rw [Nat.eq_of_beq_eq_true h]
    · rw [Nat.eq_of_beq_eq_true h]
  · simp at h; rw [h]
  · rfl
  · simp only [Bool.and_eq_true] at h
    rw [Nat.eq_of_beq_eq_true h.1, Nat.eq_of_beq_eq_true h.2]
theorem eqSs_eq : ∀ {xs ys : List Value}, eqSs xs ys = true → xs = ys
  | [], [], _ => rfl
  | x :: xs, y :: ys, h => by
    simp only [eqSs, Bool.and_eq_true] at h
    rw [eqS0_eq h.1, eqSs_eq h.2]
  | [], _ :: _, h => by simp [eqSs] at h
  | _ :: _, [], h => by simp [eqSs] at h
theorem eqS_eq {x y : Value} (h : eqS x y = true) : x = y := by
  unfold eqS at h
  split at h
  · rename_i xs ys
    obtain ⟨xs⟩ := xs
    obtain ⟨ys⟩ := ys
    have : xs = ys := eqSs_eq h
    rw [this]
  · exact eqS0_eq h
/-- A call whose arguments are known, reckoned: what it returns is known, and what was known stays. -/
theorem hc_exec {P : Program} {w0 : World} {H : Heap} {K : Value → Heap → Prop} {f : FuncId} {m : MC} {rv : List RV} {nt : Nat} (hf : fnOk P f = some (m, rv, nt)) {tb : Tbl} (tbok : ∀ f x, tb f = some x → fnOk P f = some x) (args : List Value) (ha : args.all simpV = true) (n : Nat) {v : Value} (hs : simpV v = true)
    (e : exec tb n rv [.code m] (args ++ List.replicate (nt - args.length) undef) [] (fun u _ => eqS u v) = true) (h : K v H) : HCalls P w0 f args H K := by
  have hargs : VRs [] args args := by
    clear e
    induction args with
    | nil => exact .nil
    | cons x l ih =>
      simp only [List.all_cons, Bool.and_eq_true] at ha
      exact .cons (simpV_vr ha.1) (ih ha.2)
  have uniq0 : ∀ (l2 : Nm) (v u : Value), simp0 v = true → VR l2 v u → u = v := fun l2 v u hs hu => by
    unfold simp0 at hs
    split at hs <;> (first | (cases hs; done) | (cases hu; rfl))
  have uniqs : ∀ (l2 : Nm) (vs us : List Value), vs.all simp0 = true → VRs l2 vs us → us = vs := fun l2 vs => by
    induction vs with
    | nil => intro us _ h; cases h; rfl
    | cons x vs ih =>
      intro us hs h
      simp only [List.all_cons, Bool.and_eq_true] at hs
      cases h with
      | cons a t => rw [uniq0 _ _ _ hs.1 a, ih _ hs.2 t]
  refine hc hf n ?_
  exact exec_sound (P := P) (w0 := w0) tbok n rv _ _ _ _ e [] H (args ++ List.replicate (nt - args.length) undef) [.code m] (Fin K) (hargs.append (VRs.rep VR.undef _)) ⟨⟨fun r x e => by simp [getB] at e⟩, rfl, fun r r' x x' b g b' g' e => by simp [getB] at e⟩ (.same (.code m .nil)) fun v1 h2 l2 u H2 ev _ hu _ hp => by
    have ev' := eqS_eq ev
    subst ev'
    have : u = v1 := by
      unfold simpV at hs
      split at hs
      · rename_i cs
        obtain ⟨cs⟩ := cs
        cases hu with
        | agg h => rw [uniqs _ _ _ hs h]
      · exact uniq0 _ _ _ hs hu
    rw [this]; exact Fin_mk (fun b x e => hp.keep b x e (fun r y g e => by simp [getB] at e)) h
def AllOk (P : Program) : List (FuncId × (MC × List RV × Nat)) → Prop
  | [] => True
  | p :: l => fnOk P p.1 = some p.2 ∧ AllOk P l
def tblOf (l : List (FuncId × (MC × List RV × Nat))) : Tbl := fun f => match l with
  | [] => none
  | p :: l => match Nat.beq p.1 f with | true => some p.2 | false => tblOf l f
theorem tblOf_ok {P : Program} : ∀ {l : List (FuncId × (MC × List RV × Nat))}, AllOk P l → ∀ f x, tblOf l f = some x → fnOk P f = some x
  | [], _, f, x, h => by simp [tblOf] at h
  | p :: l, hl, f, x, h => by
    unfold tblOf at h
    split at h
    · rename_i hb
      cases h
      rw [← Nat.eq_of_beq_eq_true hb]; exact hl.1
    · exact tblOf_ok hl.2 f x h
end Go.HL
