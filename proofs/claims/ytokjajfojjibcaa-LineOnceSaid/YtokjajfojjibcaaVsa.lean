/- Slices of vectors, and rows of any elements that hold such slices: what stands in memory. -/
import Derived.Test.YtokjajfojjibcaaHlu
import Derived.Test.YtokjajfojjibcaaPd
import Derived.Test.YtokjajfojjibcaaFa
set_option linter.unusedSimpArgs false
set_option linter.unusedVariables false
set_option maxRecDepth 100000
set_option maxHeartbeats 4000000
namespace Go.Proofs.Ytokjajfojjibcaa
open Go Go.HL Go.RowKit Go.ChangeShapes Go.WideShapes Pb
variable {w0 : World} {H : Heap} {K : Value → Heap → Prop}

/-- The cells of a vector, and a vector. -/
abbrev VC (a : Nat → Int) : List Value := [.int .i32 (a 0), .int .i32 (a 1), .int .i32 (a 2), .int .i32 (a 3)]
abbrev VV (a : Nat → Int) : Value := .agg #[.int .i32 (a 0), .int .i32 (a 1), .int .i32 (a 2), .int .i32 (a 3)]
def I64 (x : Int) : Prop := -9223372036854775808 ≤ x ∧ x ≤ 9223372036854775807
theorem i64_wf {n : Int} (h : (Lit.int .i64 n).wf = true) : I64 n := bounds_i64 h
/-- A slice of vectors. -/
structure VsOk (W : World) (H : Heap) (a : Option Addr) (cap : Nat) (l : List (Nat → Int)) : Prop where
  at_ : SlAt W H a (l.map VC).flatten
  lc : l.length ≤ cap
  lm : l.length ≤ maxLen
  lr : l.length * 16 ≤ 140737488355328
  v : ∀ y ∈ l, V32 y
theorem VsOk.grow {W : World} {H G : Heap} {a : Option Addr} {cap : Nat} {l : List (Nat → Int)} (h : VsOk W H a cap l) (g : Grow W H G) : VsOk W G a cap l := ⟨h.at_.grow g, h.lc, h.lm, h.lr, h.v⟩
theorem len1 {l : List Value} (h : l.length = 1) : ∃ a, l = [a] := by
  match l, h with
  | [a], _ => exact ⟨a, rfl⟩
theorem len4 {l : List Value} (h : l.length = 4) : ∃ a b c d, l = [a, b, c, d] := by
  match l, h with
  | [a, b, c, d], _ => exact ⟨a, b, c, d, rfl⟩
theorem len6 {l : List Value} (h : l.length = 6) : ∃ a b c d e f, l = [a, b, c, d, e, f] := by
  match l, h with
  | [a, b, c, d, e, f], _ => exact ⟨a, b, c, d, e, f, rfl⟩
section
variable {W : World}
theorem open_vec {D : Nat} {t e : TypeId} {cs : List Value} (hu : Try.prog.underlying t = some (.array 4 e)) (hc : Try.prog.cellsOf t = 4) (he : Try.prog.cellsOf e = 1) (hi : Try.prog.underlying e = some (.int .i32)) (h : Arg Try.prog W (D + 2) t cs) : ∃ v : Nat → Int, cs = VC v ∧ V32 v := by
  obtain ⟨hl, hh⟩ := arg_arr h hu he
  rw [hc] at hl
  obtain ⟨c0, c1, c2, c3, rfl⟩ := len4 hl
  obtain ⟨n0, e0, q0⟩ := arg_int (hh 0 (by omega)) hi
  obtain ⟨n1, e1, q1⟩ := arg_int (hh 1 (by omega)) hi
  obtain ⟨n2, e2, q2⟩ := arg_int (hh 2 (by omega)) hi
  obtain ⟨n3, e3, q3⟩ := arg_int (hh 3 (by omega)) hi
  simp at e0 e1 e2 e3
  subst e0 e1 e2 e3
  exact ⟨vf n0 n1 n2 n3, rfl, vf_I32 (bounds_i32 q0) (bounds_i32 q1) (bounds_i32 q2) (bounds_i32 q3)⟩
theorem open_vecs {D : Nat} {rows : List (List Value)} {a : Option Addr} {cap : Nat} {t e : TypeId} (hu : Try.prog.underlying t = some (.array 4 e)) (hc : Try.prog.cellsOf t = 4) (he : Try.prog.cellsOf e = 1) (hi : Try.prog.underlying e = some (.int .i32)) (hb : Try.prog.bytesOf t = 16)
    (h1 : rows.length ≤ cap) (h2 : rows.length ≤ maxLen) (h3 : rows.length * Try.prog.bytesOf t ≤ reachBytes) (h4 : ∀ r ∈ rows, r.length = 4 ∧ Arg Try.prog W (D + 2) t r) (h5 : SlAt W (fun _ => none) a rows.flatten) :
    ∃ l : List (Nat → Int), rows = l.map VC ∧ VsOk W (fun _ => none) a cap l := by
  obtain ⟨l, rfl, hl⟩ := map_of (f := VC) (q := V32) rows fun y hy => open_vec (D := D) hu hc he hi (h4 y hy).2
  rw [List.length_map] at h1 h2 h3
  rw [hb] at h3
  exact ⟨l, rfl, h5, h1, h2, Nat.le_trans h3 (by decide), hl⟩
end
theorem vcs_len (l : List (Nat → Int)) : (l.map VC).flatten.length = l.length * 4 := by
  rw [flat_len (sz := 4) _ fun r hr => by obtain ⟨z, -, rfl⟩ := List.mem_map.1 hr; rfl, List.length_map]
theorem vcs_one (l : List (Nat → Int)) : ((l.map VC).flatten).all Value.oneCell' = true := by
  rw [List.all_eq_true]
  intro v hv
  obtain ⟨r, hr, hv⟩ := List.mem_flatten.1 hv
  obtain ⟨z, -, rfl⟩ := List.mem_map.1 hr
  simp at hv
  rcases hv with rfl | rfl | rfl | rfl <;> rfl
/-- A slice of vectors that was there already, or that is the call's own. -/
structure VsAt (w0 : World) (H G : Heap) (a : Option Addr) (cap : Nat) (l : List (Nat → Int)) : Prop where
  at_ : SlAt w0 H a (l.map VC).flatten ∨ Bld w0 H G a cap 4 38 (l.map VC).flatten
  lc : l.length ≤ cap
  lm : l.length ≤ maxLen
  lr : l.length * 16 ≤ 140737488355328
  v : ∀ y ∈ l, V32 y
section
variable {G G' : Heap} {a : Option Addr} {cap : Nat} {l : List (Nat → Int)}
theorem VsAt.ok (h : VsAt w0 H G a cap l) (g : Grow w0 H G) : VsOk w0 G a cap l := ⟨by rcases h.at_ with e | e; exact e.grow g; exact e.slAt, h.lc, h.lm, h.lr, h.v⟩
theorem VsOk.old (h : VsOk w0 H a cap l) : VsAt w0 H G a cap l := ⟨.inl h.at_, h.lc, h.lm, h.lr, h.v⟩
theorem VsAt.next (h : VsAt w0 H G a cap l) (hk : ∀ c x, G c = some x → x.ty = 38 → G' c = some x) : VsAt w0 H G' a cap l := by
  refine ⟨?_, h.lc, h.lm, h.lr, h.v⟩
  rcases h.at_ with e | e
  · exact .inl e
  · rcases e with ⟨b, z, rfl, h1, h2, h3, h4⟩ | e
    · exact .inr (.inl ⟨b, z, rfl, h1, h2, hk b _ h3 rfl, h4⟩)
    · exact .inr (.inr e)
theorem VsAt.grow (h : VsAt w0 H G a cap l) (g : Grow w0 G G') : VsAt w0 H G' a cap l := h.next fun _ _ e _ => g.some e
end
/-- What is known of blocks of a type stays. -/
def KeepT (ty : TypeId) (G G' : Heap) : Prop := ∀ c x, G c = some x → x.ty = ty → G' c = some x
section
variable {G G' G2 : Heap} {ty : TypeId} {b : Nat} {y z : Blk}
theorem KeepT.refl : KeepT ty G G := fun _ _ e _ => e
theorem KeepT.trans (h : KeepT ty G G') (h' : KeepT ty G' G2) : KeepT ty G G2 := fun c x e t => h' c x (h c x e t) t
theorem KeepT.of (g : Grow w0 G G') : KeepT ty G G' := fun _ _ e _ => g.some e
theorem KeepT.set (h : KeepT ty G G') (hb : G' b = some y) (hy : y.ty ≠ ty) : KeepT ty G (G'.set b z) := fun c x e t => by
  have e' := h c x e t
  by_cases hc : c = b
  · subst hc; rw [hb] at e'; cases e'; exact (hy t).elim
  · rw [Heap.set_other _ _ hc]; exact e'
theorem KeepT.fresh (h : KeepT ty G G') (hb : G' b = none) : KeepT ty G (G'.set b z) := fun c x e t => by
  have e' := h c x e t
  by_cases hc : c = b
  · subst hc; rw [hb] at e'; cases e'
  · rw [Heap.set_other _ _ hc]; exact e'
theorem KeepT.app {a : Option Addr} {ty' : TypeId} (hk : ∀ c x, G c = some x → (x.ty = ty' → a ≠ some ⟨c, 0, none⟩) → G' c = some x) (hne : ty ≠ ty') : KeepT ty G G' := fun c x e t => hk c x e fun e' => (hne (Kd.t.inj (t.symm.trans e'))).elim
end
/-- A slice of vectors that is the call's own. -/
structure VsNew (w0 : World) (H G : Heap) (a : Option Addr) (cap : Nat) (l : List (Nat → Int)) : Prop where
  bld : Bld w0 H G a cap 4 38 (l.map VC).flatten
  lc : l.length ≤ cap
  lm : l.length ≤ maxLen
  lr : l.length * 16 ≤ 140737488355328
  v : ∀ y ∈ l, V32 y
section
variable {G G' H0 : Heap} {a : Option Addr} {cap : Nat} {l : List (Nat → Int)}
theorem VsAt.keep (h : VsAt w0 H G a cap l) (hk : KeepT 38 G G') : VsAt w0 H G' a cap l := h.next hk
theorem VsNew.keep (h : VsNew w0 H G a cap l) (hk : KeepT 38 G G') : VsNew w0 H G' a cap l := by
  refine ⟨?_, h.lc, h.lm, h.lr, h.v⟩
  rcases h.bld with ⟨b, z, rfl, h1, h2, h3, h4⟩ | e
  · exact .inl ⟨b, z, rfl, h1, h2, hk b _ h3 rfl, h4⟩
  · exact .inr e
theorem VsNew.base (h : VsNew w0 H G a cap l) (g : Grow w0 H0 H) : VsNew w0 H0 G a cap l := ⟨h.bld.base g, h.lc, h.lm, h.lr, h.v⟩
theorem VsNew.at (h : VsNew w0 H G a cap l) : VsAt w0 H G a cap l := ⟨.inr h.bld, h.lc, h.lm, h.lr, h.v⟩
theorem VsNew.ok (h : VsNew w0 H G a cap l) : VsOk w0 G a cap l := ⟨h.bld.slAt, h.lc, h.lm, h.lr, h.v⟩
end
/- slices Clone[[]paintbox/api Vec,paintbox/api Vec] -/
def M32 : MC :=
  .seq (.reg [⟨(some 2), .mv (.const (.slice none 0 0)), none⟩])
  (.seq (.seq (.reg [⟨(some 3), .mv (.tmp 0), none⟩,
       ⟨(some 4), .eqs false (.tmp 3) (.const (.slice none 0 0)), none⟩])
    (.cond (.tmp 4)
     (.seq (.reg [⟨(some 2), .mv (.const (.slice none 0 0)), none⟩])
      (.ret))
     (.skip)))
   (.seq (.reg [⟨(some 5), .bslice 38 0 [] [], none⟩,
       ⟨(some 6), .mv (.tmp 0), none⟩,
       ⟨(some 7), .app 38 4 16 [(.int .i32 0), (.int .i32 0), (.int .i32 0), (.int .i32 0)] (.tmp 5) (.tmp 6), none⟩,
       ⟨(some 2), .mv (.tmp 7), none⟩])
    (.ret)))
theorem k32 : fnOk Try.prog 32 = some (M32, [.t 2], 8) := by kernel_rfl

theorem c_cloneV (a : Option Addr) (c : Nat) (l : List (Nat → Int)) (hA : VsOk w0 H a c l)
    (h : ∀ a' cap' H', VsNew w0 H H' a' cap' l → Grow w0 H H' → K (.slice a' l.length cap') H') :
    HCalls Try.prog w0 32 [.slice a l.length c] H K := by
  have hlm := hA.lm
  have hlr := hA.lr
  have hv := hA.v
  have hA := hA.at_
  cases a with
  | none =>
    have e : l = [] := Classical.byContradiction fun hl => by
      obtain ⟨b, o, e, -⟩ := hA (by
        intro e
        have := congrArg List.length e
        rw [vcs_len] at this
        have h3 : l.length * 4 = 0 := by simpa only [List.length_nil] using this
        exact hl (List.length_eq_zero_iff.1 (by omega)))
      cases e
    subst e
    have h := h none 0 H ⟨Bld.none, Nat.le_refl _, by decide, by decide, by simp⟩ (Grow.refl _)
    clear hA
    refine HL.hc k32 999 ?_; unfold M32
    (all_goals (try simp only [Sq,Sr,Sh,Si,Sl,Bu,Bb,Bd,Bc,Bw,Bn,Int.reduceAdd,Int.reduceSub,Int.reduceMul,Int.reduceTDiv,Int.reduceTMod,Int.reduceMod,Int.reduceDiv,Nat.reduceLT,Nat.reduceEqDiff,Sa,Sb,Sc,Sd,Se,Sf,Sg,Int.reduceLE,Int.reduceLT,Int.reduceToNat,Int.reduceNeg,Int.reduceEq,Nat.reduceLeDiff,Nat.reducePow,Int.reducePow,reduceIte,Nat.reduceSub,Nat.reduceAdd,Nat.reduceMul,putAt,ceq,List.replicate, *])); repeat' ((first | (with_reducible refine fun _ : True => ?_) | (with_reducible refine any_h ?_) | ((first | refine AllocQ_i ?_ | refine AllocO_i ?_); intro bk hb0 hbk; (try simp only [set_none'] at hbk); (try (first | have hbn := Grow.none (by assumption) hbk | have hbn := Grow.none (by assumption) hbk.2 | have hbn := Grow.none (by assumption) hbk.2.2 | have hbn := Grow.none (by assumption) hbk.2.2.2 | have hbn := Grow.none (by assumption) hbk.2.2.2.2 | have hbn := Grow.none (by assumption) hbk.2.2.2.2.2)); (try simp only [set_none'] at hbn); (try (first | have hbm := Grow.none (by assumption) hbn | have hbm := Grow.none (by assumption) hbn.2 | have hbm := Grow.none (by assumption) hbn.2.2 | have hbm := Grow.none (by assumption) hbn.2.2.2 | have hbm := Grow.none (by assumption) hbn.2.2.2.2 | have hbm := Grow.none (by assumption) hbn.2.2.2.2.2)); (try simp only [set_none'] at hbm)) | ((first | refine condS_i ?_ ?_ | refine pick_i ?_ ?_ | refine gS_it ?_ ?_ | refine gS_if ?_ ?_ | refine gP_it ?_ ?_ | refine gP_if ?_ ?_) <;> (intro hc; try simp only [Int.reduceLE,Int.reduceLT,Int.reduceEq,Sn] at hc)) | (with_reducible refine KP_i ?_ ?_; · (repeat' (first | exact Heap.Le.refl _ | (with_reducible refine Le_set2 ?_) | (refine Le_known (by first | (simp only [Heap.set_same, set_ne, ne_eq, not_false_eq_true, *] <;> rfl) | fail) ?_) | (refine Le_fresh (by first | (simp only [*] <;> done) | (simp [set_none', Heap.set_same, set_ne, noneH, *] <;> done) | fail) ?_) | (refine Heap.Le.trans ?_ (Grow.le (by assumption))) | exact Le_none | (refine Le_put ?_ (by first | (simp only [Heap.set_same, set_ne, ne_eq, not_false_eq_true, *] <;> rfl) | fail)) | fail))) | (with_reducible refine And.intro ?_ ?_)) <;> (try simp only [Sq,Sr,Sh,Si,Sl,Bu,Bb,Bd,Bc,Bw,Bn,Int.reduceAdd,Int.reduceSub,Int.reduceMul,Int.reduceTDiv,Int.reduceTMod,Int.reduceMod,Int.reduceDiv,Nat.reduceLT,Nat.reduceEqDiff,Sa,Sb,Sc,Sd,Se,Sf,Sg,Int.reduceLE,Int.reduceLT,Int.reduceToNat,Int.reduceNeg,Int.reduceEq,Nat.reduceLeDiff,Nat.reducePow,Int.reducePow,reduceIte,Nat.reduceSub,Nat.reduceAdd,Nat.reduceMul,putAt,ceq,List.replicate, *]))
    all_goals first
      | exact Fin_mk (Heap.Le.refl _) h
      | (exact absurd hc (by decide))
  | some ad =>
    refine HL.hc k32 999 ?_; unfold M32
    (all_goals (try simp only [Sq,Sr,Sh,Si,Sl,Bu,Bb,Bd,Bc,Bw,Bn,Int.reduceAdd,Int.reduceSub,Int.reduceMul,Int.reduceTDiv,Int.reduceTMod,Int.reduceMod,Int.reduceDiv,Nat.reduceLT,Nat.reduceEqDiff,Sa,Sb,Sc,Sd,Se,Sf,Sg,Int.reduceLE,Int.reduceLT,Int.reduceToNat,Int.reduceNeg,Int.reduceEq,Nat.reduceLeDiff,Nat.reducePow,Int.reducePow,reduceIte,Nat.reduceSub,Nat.reduceAdd,Nat.reduceMul,putAt,ceq,List.replicate, *])); repeat' ((first | (with_reducible refine fun _ : True => ?_) | (with_reducible refine any_h ?_) | ((first | refine AllocQ_i ?_ | refine AllocO_i ?_); intro bk hb0 hbk; (try simp only [set_none'] at hbk); (try (first | have hbn := Grow.none (by assumption) hbk | have hbn := Grow.none (by assumption) hbk.2 | have hbn := Grow.none (by assumption) hbk.2.2 | have hbn := Grow.none (by assumption) hbk.2.2.2 | have hbn := Grow.none (by assumption) hbk.2.2.2.2 | have hbn := Grow.none (by assumption) hbk.2.2.2.2.2)); (try simp only [set_none'] at hbn); (try (first | have hbm := Grow.none (by assumption) hbn | have hbm := Grow.none (by assumption) hbn.2 | have hbm := Grow.none (by assumption) hbn.2.2 | have hbm := Grow.none (by assumption) hbn.2.2.2 | have hbm := Grow.none (by assumption) hbn.2.2.2.2 | have hbm := Grow.none (by assumption) hbn.2.2.2.2.2)); (try simp only [set_none'] at hbm)) | ((first | refine condS_i ?_ ?_ | refine pick_i ?_ ?_ | refine gS_it ?_ ?_ | refine gS_if ?_ ?_ | refine gP_it ?_ ?_ | refine gP_if ?_ ?_) <;> (intro hc; try simp only [Int.reduceLE,Int.reduceLT,Int.reduceEq,Sn] at hc)) | (with_reducible refine KP_i ?_ ?_; · (repeat' (first | exact Heap.Le.refl _ | (with_reducible refine Le_set2 ?_) | (refine Le_known (by first | (simp only [Heap.set_same, set_ne, ne_eq, not_false_eq_true, *] <;> rfl) | fail) ?_) | (refine Le_fresh (by first | (simp only [*] <;> done) | (simp [set_none', Heap.set_same, set_ne, noneH, *] <;> done) | fail) ?_) | (refine Heap.Le.trans ?_ (Grow.le (by assumption))) | exact Le_none | (refine Le_put ?_ (by first | (simp only [Heap.set_same, set_ne, ne_eq, not_false_eq_true, *] <;> rfl) | fail)) | fail))) | (with_reducible refine And.intro ?_ ?_)) <;> (try simp only [Sq,Sr,Sh,Si,Sl,Bu,Bb,Bd,Bc,Bw,Bn,Int.reduceAdd,Int.reduceSub,Int.reduceMul,Int.reduceTDiv,Int.reduceTMod,Int.reduceMod,Int.reduceDiv,Nat.reduceLT,Nat.reduceEqDiff,Sa,Sb,Sc,Sd,Se,Sf,Sg,Int.reduceLE,Int.reduceLT,Int.reduceToNat,Int.reduceNeg,Int.reduceEq,Nat.reduceLeDiff,Nat.reducePow,Int.reducePow,reduceIte,Nat.reduceSub,Nat.reduceAdd,Nat.reduceMul,putAt,ceq,List.replicate, *]))
    have hg0 : Grow w0 H (H.set bk ⟨.t 38, []⟩) := (by (repeat' (first | exact Grow.refl _ | assumption | (refine Grow_known (by first | (simp only [Heap.set_same, set_ne, ne_eq, not_false_eq_true, *] <;> rfl) | fail) ?_) | (refine Grow.set ?_ (by assumption) (by first | (simp only [*] <;> done) | (simp [set_none', Heap.set_same, set_ne, noneH, *] <;> done) | fail)) | (refine Grow.trans ?_ (by assumption)))))
    refine app_bld (H := H.set bk ⟨.t 38, []⟩) (n := 0) (m := l.length) (cs := []) (ns := (l.map VC).flatten) Bld.none rfl rfl (by have := (hA.grow hg0).srd; rw [vcs_len] at this; exact this) (vcs_len l) (Grow.refl _) ⟨by omega, by unfold maxLen at hlm; omega⟩ (vcs_one l) (fun a' cap' G' hB hg' hk' hc' => ?_)
    rw [Nat.zero_add] at hc' ⊢
    have gF : Grow w0 H G' := hg0.trans hg'
    have hB' : Bld w0 H G' a' cap' 4 38 (l.map VC).flatten := (by simpa using hB : Bld w0 _ G' a' cap' 4 _ (l.map VC).flatten).base hg0
    have h := h a' cap' G' ⟨hB', hc', hlm, hlr, hv⟩ gF
    (all_goals (try simp only [Sq,Sr,Sh,Si,Sl,Bu,Bb,Bd,Bc,Bw,Bn,Int.reduceAdd,Int.reduceSub,Int.reduceMul,Int.reduceTDiv,Int.reduceTMod,Int.reduceMod,Int.reduceDiv,Nat.reduceLT,Nat.reduceEqDiff,Sa,Sb,Sc,Sd,Se,Sf,Sg,Int.reduceLE,Int.reduceLT,Int.reduceToNat,Int.reduceNeg,Int.reduceEq,Nat.reduceLeDiff,Nat.reducePow,Int.reducePow,reduceIte,Nat.reduceSub,Nat.reduceAdd,Nat.reduceMul,putAt,ceq,List.replicate, *])); repeat' ((first | (with_reducible refine fun _ : True => ?_) | (with_reducible refine any_h ?_) | ((first | refine AllocQ_i ?_ | refine AllocO_i ?_); intro bk hb0 hbk; (try simp only [set_none'] at hbk); (try (first | have hbn := Grow.none (by assumption) hbk | have hbn := Grow.none (by assumption) hbk.2 | have hbn := Grow.none (by assumption) hbk.2.2 | have hbn := Grow.none (by assumption) hbk.2.2.2 | have hbn := Grow.none (by assumption) hbk.2.2.2.2 | have hbn := Grow.none (by assumption) hbk.2.2.2.2.2)); (try simp only [set_none'] at hbn); (try (first | have hbm := Grow.none (by assumption) hbn | have hbm := Grow.none (by assumption) hbn.2 | have hbm := Grow.none (by assumption) hbn.2.2 | have hbm := Grow.none (by assumption) hbn.2.2.2 | have hbm := Grow.none (by assumption) hbn.2.2.2.2 | have hbm := Grow.none (by assumption) hbn.2.2.2.2.2)); (try simp only [set_none'] at hbm)) | ((first | refine condS_i ?_ ?_ | refine pick_i ?_ ?_ | refine gS_it ?_ ?_ | refine gS_if ?_ ?_ | refine gP_it ?_ ?_ | refine gP_if ?_ ?_) <;> (intro hc; try simp only [Int.reduceLE,Int.reduceLT,Int.reduceEq,Sn] at hc)) | (with_reducible refine KP_i ?_ ?_; · (repeat' (first | exact Heap.Le.refl _ | (with_reducible refine Le_set2 ?_) | (refine Le_known (by first | (simp only [Heap.set_same, set_ne, ne_eq, not_false_eq_true, *] <;> rfl) | fail) ?_) | (refine Le_fresh (by first | (simp only [*] <;> done) | (simp [set_none', Heap.set_same, set_ne, noneH, *] <;> done) | fail) ?_) | (refine Heap.Le.trans ?_ (Grow.le (by assumption))) | exact Le_none | (refine Le_put ?_ (by first | (simp only [Heap.set_same, set_ne, ne_eq, not_false_eq_true, *] <;> rfl) | fail)) | fail))) | (with_reducible refine And.intro ?_ ?_)) <;> (try simp only [Sq,Sr,Sh,Si,Sl,Bu,Bb,Bd,Bc,Bw,Bn,Int.reduceAdd,Int.reduceSub,Int.reduceMul,Int.reduceTDiv,Int.reduceTMod,Int.reduceMod,Int.reduceDiv,Nat.reduceLT,Nat.reduceEqDiff,Sa,Sb,Sc,Sd,Se,Sf,Sg,Int.reduceLE,Int.reduceLT,Int.reduceToNat,Int.reduceNeg,Int.reduceEq,Nat.reduceLeDiff,Nat.reducePow,Int.reducePow,reduceIte,Nat.reduceSub,Nat.reduceAdd,Nat.reduceMul,putAt,ceq,List.replicate, *]))
    exact Fin_mk (Heap.Le.refl _) h
theorem root4 {G : Heap} {b c d f : Nat} {x y z u : Blk} (h : G b = some x) (h2 : G c = some y) (h3 : G d = some z) (h4 : G f = some u) : G = (((G.set b x).set c y).set d z).set f u := by rw [Heap.set_id G b x h, Heap.set_id G c y h2, Heap.set_id G d z h3, Heap.set_id G f u h4]
theorem root5 {G : Heap} {b c d f g : Nat} {x y z u v : Blk} (h : G b = some x) (h2 : G c = some y) (h3 : G d = some z) (h4 : G f = some u) (h5 : G g = some v) : G = ((((G.set b x).set c y).set d z).set f u).set g v := by rw [Heap.set_id G b x h, Heap.set_id G c y h2, Heap.set_id G d z h3, Heap.set_id G f u h4, Heap.set_id G g v h5]
theorem KeepT.known {G G' : Heap} {ty : TypeId} {b : Nat} {z : Blk} (e : G b = some z) (h : KeepT ty G G') : KeepT ty G (G'.set b z) := fun c x e' t => by
  by_cases hc : c = b
  · subst hc; rw [e] at e'; cases e'; exact Heap.set_same _ _ _
  · rw [Heap.set_other _ _ hc]; exact h c x e' t
theorem at1 {G : Heap} {b : Nat} {x : Blk} : (G.set b x) b = some x := Heap.set_same _ _ _
theorem rows_vs {l : List (Nat → Int)} {a : Option Addr} {cap : Nat} (h : VsOk w0 H a cap l) {k : Nat} {v : Nat → Int} (e : l[k]? = some v) :
    ∃ b o, a = some ⟨b, o, none⟩ ∧ rdn w0 H b (o + k * 4) 4 = some (VC v) ∧ ∀ c, w0.heap.size ≤ c → H c = none → c ≠ b :=
  h.at_.row (rows := l.map VC) (fun r hr => by obtain ⟨z, -, rfl⟩ := List.mem_map.1 hr; rfl) (by decide) (by rw [List.getElem?_map, e]; rfl)
theorem Round_p {A : Type} {T : List Value} {p : Nat} {w : A × Heap → List (Nat × Value)} {ok : A × Heap → Prop} {μ : A × Heap → Nat} {z : Nat} {T' : List Value} {H' : Heap} (a : A) (ok' : ok (a, H')) (lt : μ (a, H') < z)
    (e : T'.take p = (sts T (w (a, H'))).take p) (l : (T'.drop p).length = (T.drop p).length) : Round T p w (fun s => s.2) ok μ z T' H' := Round_mk (a, H') ok' lt (Heap.Le.refl _) e l
theorem Meet_p {A : Type} {T : List Value} {p : Nat} {w : A × Heap → List (Nat × Value)} {ok : A × Heap → Prop} {T' : List Value} {H' : Heap} (a : A) (ok' : ok (a, H'))
    (e : T'.take p = (sts T (w (a, H'))).take p) (l : (T'.drop p).length = (T.drop p).length) : Meet T p w (fun s => s.2) ok T' H' := ⟨(a, H'), e, l, rfl, ok'⟩
theorem app_bld2 {G : Heap} {K : Value → Heap → Prop} {a xa : Option Addr} {cap sz n m xc by_ : Nat} {ty : TypeId} {zero cs ns : List Value} (hB : Bld w0 H G a cap sz ty cs) (hn : cs.length = n * sz) (hz : zero.length = sz) (hx : srd w0 G xa (m * sz) = some ns) (hsz : ns.length = m * sz)
    (hg : Grow w0 H G) (hm : (n + m) * by_ ≤ 140737488355328 ∧ n + m ≤ 9223372036854775807) (ho : ns.all Value.oneCell' = true)
    (h : ∀ a' cap' G', Bld w0 H G' a' cap' sz ty (cs ++ ns) → Grow w0 H G' → (∀ c x, G c = some x → (x.ty = ty → a ≠ some ⟨c, 0, .none⟩) → G' c = some x) → n + m ≤ cap' → (a' = a ∨ ∃ b, a' = some ⟨b, 0, .none⟩ ∧ G b = none) → K (.slice a' (n + m) cap') G') :
    appQ w0 G K ty sz by_ zero (.slice a n cap) (.slice xa m xc) := by
  unfold appQ
  simp only [hx, optQ]
  refine ⟨hm.1, hm.2, fun hle => ?_, fun hlt => ?_⟩
  · unfold layQ
    by_cases he : ns = []
    · rw [if_pos he]
      refine h a cap G ?_ hg (fun c x e _ => e) hle (.inl rfl)
      rw [he, List.append_nil]; exact hB
    · rw [if_neg he]
      rcases hB with ⟨b, z, rfl, h1, h2, h3, h4⟩ | ⟨rfl, rfl⟩
      · have hl2 : n * sz + ns.length ≤ cap * sz := by rw [hsz, ← Nat.add_mul]; exact Nat.mul_le_mul_right _ hle
        simp only [h3, optQ]
        refine ⟨ho, by simp only [List.length_append]; omega, ?_⟩
        rw [Nat.zero_add, ← hn, putAt_end cs ns z (by omega)]
        refine h _ cap _ (.inl ⟨b, z.drop ns.length, rfl, h1, h2, Heap.set_same _ _ _, by simp; omega⟩) (hg.set h1 h2) (fun c x e hne => ?_) hle (.inl rfl)
        rw [Heap.set_other _ _ (fun e' => by subst e'; rw [h3] at e; cases e; exact hne rfl rfl)]; exact e
      · have : m = 0 := by omega
        subst this
        simp only [Nat.zero_mul, List.length_eq_zero_iff] at hsz
        exact (he hsz).elim
  · have hold : srd w0 G a (n * sz) = some cs := by rw [← hn]; exact hB.slAt.srd
    simp only [hold]
    intro c hc hc2 b hb hnb
    refine h _ c _ (.inl ⟨b, zeroL zero (c - (n + m)), rfl, hb, hg.none hnb, Heap.set_same _ _ _, ?_⟩) (hg.set hb (hg.none hnb)) (fun d x e hne => ?_) hc (.inr ⟨_, rfl, hnb⟩)
    · rw [zeroL_len, hz, List.length_append, hn, hsz, ← Nat.add_mul, ← Nat.add_mul]; congr 1; omega
    · rw [Heap.set_other _ _ (fun e' => by subst e'; rw [hnb] at e; cases e)]; exact e

/-- Vectors so far, of a row that is being built. -/
structure VsB (w0 : World) (H G : Heap) (a : Option Addr) (cap : Nat) (l : List (Nat → Int)) : Prop where
  bld : Bld w0 H G a cap 4 38 (l.map VC).flatten
  lc : l.length ≤ cap
theorem bld_keep {G G' : Heap} {a : Option Addr} {cap sz : Nat} {ty : TypeId} {cs : List Value} (h : Bld w0 H G a cap sz ty cs) (hk : KeepT ty G G') : Bld w0 H G' a cap sz ty cs := by
  rcases h with ⟨b, z, rfl, h1, h2, h3, h4⟩ | h
  · exact .inl ⟨b, z, rfl, h1, h2, hk b _ h3 rfl, h4⟩
  · exact .inr h
theorem VsAt.base {G G' : Heap} {a : Option Addr} {cap : Nat} {H0 : Heap} {l : List (Nat → Int)} (h : VsNew w0 H G a cap l) (g : Grow w0 H0 H) (hk : KeepT 38 G G') : VsAt w0 H0 G' a cap l := ((h.base g).at).keep hk
/-- Elements, as they lie in a row. -/
structure RowT where
  E : Type
  sz : Nat
  ty : TypeId
  row : E → List Value
  vs : E → List (Option Addr × Nat × List (Nat → Int))
  hsz : ∀ e, (row e).length = sz
  one : ∀ e, (row e).all Value.oneCell' = true
  pos : 0 < sz
  hty : (38 : TypeId) ≠ ty
/-- Elements so far, of a row that is being built. -/
structure RB (R : RowT) (w0 : World) (H G : Heap) (a : Option Addr) (cap : Nat) (os : List R.E) : Prop where
  bld : Bld w0 H G a cap R.sz R.ty (os.map R.row).flatten
  lc : os.length ≤ cap
  ok : ∀ y ∈ os, ∀ v ∈ R.vs y, VsAt w0 H G v.1 v.2.1 v.2.2
/-- A slice of elements. -/
structure RO (R : RowT) (w0 : World) (H : Heap) (a : Option Addr) (cap : Nat) (os : List R.E) : Prop where
  at_ : SlAt w0 H a (os.map R.row).flatten
  lc : os.length ≤ cap
  ok : ∀ y ∈ os, ∀ v ∈ R.vs y, VsOk w0 H v.1 v.2.1 v.2.2
section
variable {R : RowT} {G G' : Heap} {a : Option Addr} {cap : Nat} {os : List R.E}
theorem RowT.flat (R : RowT) (os : List R.E) : (os.map R.row).flatten.length = os.length * R.sz := by
  rw [flat_len (sz := R.sz) _ fun r hr => by obtain ⟨z, -, rfl⟩ := List.mem_map.1 hr; exact R.hsz z, List.length_map]
theorem RowT.ones (R : RowT) (os : List R.E) : ((os.map R.row).flatten).all Value.oneCell' = true := by
  rw [List.all_eq_true]
  intro v hv
  obtain ⟨r, hr, hv⟩ := List.mem_flatten.1 hv
  obtain ⟨z, -, rfl⟩ := List.mem_map.1 hr
  exact List.all_eq_true.1 (R.one z) v hv
theorem RB.grow (h : RB R w0 H G a cap os) (g : Grow w0 G G') : RB R w0 H G' a cap os := ⟨h.bld.grow g, h.lc, fun y hy v hv => (h.ok y hy v hv).grow g⟩
theorem VsAt.base2 {H0 : Heap} {l : List (Nat → Int)} (h : VsAt w0 H G a cap l) (g : Grow w0 H0 H) (hg : Grow w0 H G) : VsOk w0 G a cap l := h.ok hg
theorem RB.ro (h : RB R w0 H G a cap os) (g : Grow w0 H G) : RO R w0 G a cap os := ⟨h.bld.slAt, h.lc, fun y hy v hv => (h.ok y hy v hv).ok g⟩
theorem RB.nil : RB R w0 H G .none 0 [] := ⟨Bld.none, Nat.le_refl _, fun y hy => by simp at hy⟩
theorem RO.nil : RO R w0 G .none 0 [] := ⟨SlAt.nil, Nat.le_refl _, fun y hy => by simp at hy⟩
theorem RO.grow (h : RO R w0 G a cap os) (g : Grow w0 G G') : RO R w0 G' a cap os := ⟨h.at_.grow g, h.lc, fun y hy v hv => (h.ok y hy v hv).grow g⟩
theorem RO.row (h : RO R w0 G a cap os) {k : Nat} {y : R.E} (e : os[k]? = some y) :
    ∃ b o, a = some ⟨b, o, .none⟩ ∧ rdn w0 G b (o + k * R.sz) R.sz = some (R.row y) ∧ ∀ c, w0.heap.size ≤ c → G c = none → c ≠ b :=
  h.at_.row (rows := os.map R.row) (fun r hr => by obtain ⟨z, -, rfl⟩ := List.mem_map.1 hr; exact R.hsz z) R.pos (by rw [List.getElem?_map, e]; rfl)
theorem app_rb {K : Value → Heap → Prop} {ns : List R.E} {xa : Option Addr} {xc by_ : Nat} {zero : List Value} (hB : RB R w0 H G a cap os) (hz : zero.length = R.sz) (hx : srd w0 G xa (ns.length * R.sz) = some (ns.map R.row).flatten)
    (hns : ∀ y ∈ ns, ∀ v ∈ R.vs y, VsAt w0 H G v.1 v.2.1 v.2.2) (hg : Grow w0 H G) (hm : os.length + ns.length ≤ 1000000) (hb : by_ ≤ 1000)
    (h : ∀ a' cap' os' G', os' = os ++ ns → RB R w0 H G' a' cap' os' → Grow w0 H G' → K (.slice a' os'.length cap') G') : appQ w0 G K R.ty R.sz by_ zero (.slice a os.length cap) (.slice xa ns.length xc) := by
  have hmul : (os.length + ns.length) * by_ ≤ 1000000 * 1000 := Nat.mul_le_mul hm hb
  refine app_bld (H := H) (n := os.length) (m := ns.length) (cs := (os.map R.row).flatten) (ns := (ns.map R.row).flatten) hB.bld (R.flat os) hz hx (R.flat ns) hg ⟨by omega, by omega⟩ (R.ones ns) (fun a2 cap2 G2 hB2 hg2 hk2 hc2 => ?_)
  have hkt : KeepT 38 G G2 := KeepT.app hk2 R.hty
  have h := h a2 cap2 (os ++ ns) G2 rfl ⟨by rw [List.map_append, List.flatten_append]; exact hB2, by rw [List.length_append]; exact hc2, fun y hy v hv => by
    rcases List.mem_append.1 hy with h' | h'
    · exact (hB.ok y h' v hv).keep hkt
    · exact (hns y h' v hv).keep hkt⟩ hg2
  rw [List.length_append] at h
  exact h
end
theorem slat_of {b o n : Nat} {cs : List Value} (h : rdn w0 H b o n = some cs) : SlAt w0 H (some ⟨b, o, none⟩) cs := fun hc => ⟨b, o, rfl, fun i hi => by
  have hl : cs.length = n := by
    have hp : 0 < cs.length := List.length_pos_iff.2 hc
    rcases Nat.eq_zero_or_pos n with e | e
    · subst e
      unfold rdn at h
      split at h
      · split at h <;> simp at h; exact (hc h).elim
      · split at h <;> simp [ron] at h; exact (hc h).elim
    · exact (rd1_of_rdn h e).2
  exact (rd1_of_rdn h (by omega)).1⟩
end Go.Proofs.Ytokjajfojjibcaa
