/- The program's copy of an image (layer 8). -/
import Derived.Test.YtdaipgnhconfnaaInd
set_option linter.unusedSimpArgs false
set_option linter.unusedVariables false
set_option maxRecDepth 100000
set_option maxHeartbeats 4000000
namespace Go.Proofs.Ytdaipgnhconfnaa
open Go Go.HL Go.RowKit Pb
variable {w0 : World} {H : Heap} {K : Value → Heap → Prop}

def plainA (a : Option Addr) : Prop := a = none ∨ ∃ b, a = some ⟨b, 0, none⟩
/- slices Clone[[]byte,byte] -/
def M65 : MC :=
  .seq (.reg [⟨(some 2), .mv (.const (.slice none 0 0)), none⟩])
 (.seq (.seq (.reg [⟨(some 3), .mv (.tmp 0), none⟩,
 ⟨(some 4), .eqs false (.tmp 3) (.const (.slice none 0 0)), none⟩])
 (.cond (.tmp 4)
 (.seq (.reg [⟨(some 2), .mv (.const (.slice none 0 0)), none⟩])
 (.ret))
 (.skip)))
 (.seq (.reg [⟨(some 5), .bslice 5 0 [] [], none⟩,
 ⟨(some 6), .mv (.tmp 0), none⟩,
 ⟨(some 7), .app 5 1 1 [(.int .u8 0)] (.tmp 5) (.tmp 6), none⟩,
 ⟨(some 2), .mv (.tmp 7), none⟩])
 (.ret)))
theorem k65 : fnOk Try.prog 65 = some (M65, [.t 2], 8) := by kernel_rfl

theorem c_cloneB (a : Option Addr) (c : Nat) (l : List Int) (hA : IntsAt w0 H .u8 a l) (hl : l.length ≤ 140737488355328 ∧ l.length ≤ 9223372036854775807)
    (h : ∀ a' cap' H', Bld w0 H H' a' cap' 1 5 (l.map fun x => .int .u8 x) → l.length ≤ cap' → Grow w0 H H' → plainA a' → K (.slice a' l.length cap') H') :
    HCalls Try.prog w0 65 [.slice a l.length c] H K := by
  cases a with
  | none =>
    have e : l = [] := Classical.byContradiction fun hl => by
      obtain ⟨b, o, e, -⟩ := hA hl
      cases e
    subst e
    have h := h none 0 H Bld.none (Nat.le_refl _) (Grow.refl _) (.inl rfl)
    clear hA
    refine HL.hc k65 999 ?_; unfold M65
    (all_goals (try simp only [Sq,Sr,Sh,Si,Sl,Bu,Bb,Bd,Bc,Bw,Bn,Int.reduceAdd,Int.reduceSub,Int.reduceMul,Int.reduceTDiv,Int.reduceTMod,Int.reduceMod,Int.reduceDiv,Nat.reduceLT,Nat.reduceEqDiff,Sa,Sb,Sc,Sd,Se,Sf,Sg,Int.reduceLE,Int.reduceLT,Int.reduceToNat,Int.reduceNeg,Int.reduceEq,Nat.reduceLeDiff,Nat.reducePow,Int.reducePow,reduceIte,Nat.reduceSub,Nat.reduceAdd,Nat.reduceMul,putAt,ceq,List.replicate, *])); repeat' ((first | (with_reducible refine fun _ : True => ?_) | (with_reducible refine any_h ?_) | ((first | refine AllocQ_i ?_ | refine AllocO_i ?_); intro bk hb0 hbk; (try simp only [set_none'] at hbk); (try (first | have hbn := Grow.none (by assumption) hbk | have hbn := Grow.none (by assumption) hbk.2 | have hbn := Grow.none (by assumption) hbk.2.2 | have hbn := Grow.none (by assumption) hbk.2.2.2 | have hbn := Grow.none (by assumption) hbk.2.2.2.2 | have hbn := Grow.none (by assumption) hbk.2.2.2.2.2)); (try simp only [set_none'] at hbn); (try (first | have hbm := Grow.none (by assumption) hbn | have hbm := Grow.none (by assumption) hbn.2 | have hbm := Grow.none (by assumption) hbn.2.2 | have hbm := Grow.none (by assumption) hbn.2.2.2 | have hbm := Grow.none (by assumption) hbn.2.2.2.2 | have hbm := Grow.none (by assumption) hbn.2.2.2.2.2)); (try simp only [set_none'] at hbm)) | ((first | refine condS_i ?_ ?_ | refine pick_i ?_ ?_ | refine gS_it ?_ ?_ | refine gS_if ?_ ?_ | refine gP_it ?_ ?_ | refine gP_if ?_ ?_) <;> (intro hc; try simp only [Int.reduceLE,Int.reduceLT,Int.reduceEq,Sn] at hc)) | (with_reducible refine KP_i ?_ ?_; · (repeat' (first | exact Heap.Le.refl _ | (with_reducible refine Le_set2 ?_) | (refine Le_known (by first | (simp only [Heap.set_same, set_ne, ne_eq, not_false_eq_true, *] <;> rfl) | fail) ?_) | (refine Le_fresh (by first | (simp only [*] <;> done) | (simp [set_none', Heap.set_same, set_ne, noneH, *] <;> done) | fail) ?_) | (refine Heap.Le.trans ?_ (Grow.le (by assumption))) | exact Le_none | (refine Le_put ?_ (by first | (simp only [Heap.set_same, set_ne, ne_eq, not_false_eq_true, *] <;> rfl) | fail)) | fail))) | (with_reducible refine And.intro ?_ ?_)) <;> (try simp only [Sq,Sr,Sh,Si,Sl,Bu,Bb,Bd,Bc,Bw,Bn,Int.reduceAdd,Int.reduceSub,Int.reduceMul,Int.reduceTDiv,Int.reduceTMod,Int.reduceMod,Int.reduceDiv,Nat.reduceLT,Nat.reduceEqDiff,Sa,Sb,Sc,Sd,Se,Sf,Sg,Int.reduceLE,Int.reduceLT,Int.reduceToNat,Int.reduceNeg,Int.reduceEq,Nat.reduceLeDiff,Nat.reducePow,Int.reducePow,reduceIte,Nat.reduceSub,Nat.reduceAdd,Nat.reduceMul,putAt,ceq,List.replicate, *]))
    all_goals first
      | exact Fin_mk (Heap.Le.refl _) h
      | (exact absurd hc (by decide))
  | some ad =>
    refine HL.hc k65 999 ?_; unfold M65
    (all_goals (try simp only [Sq,Sr,Sh,Si,Sl,Bu,Bb,Bd,Bc,Bw,Bn,Int.reduceAdd,Int.reduceSub,Int.reduceMul,Int.reduceTDiv,Int.reduceTMod,Int.reduceMod,Int.reduceDiv,Nat.reduceLT,Nat.reduceEqDiff,Sa,Sb,Sc,Sd,Se,Sf,Sg,Int.reduceLE,Int.reduceLT,Int.reduceToNat,Int.reduceNeg,Int.reduceEq,Nat.reduceLeDiff,Nat.reducePow,Int.reducePow,reduceIte,Nat.reduceSub,Nat.reduceAdd,Nat.reduceMul,putAt,ceq,List.replicate, *])); repeat' ((first | (with_reducible refine fun _ : True => ?_) | (with_reducible refine any_h ?_) | ((first | refine AllocQ_i ?_ | refine AllocO_i ?_); intro bk hb0 hbk; (try simp only [set_none'] at hbk); (try (first | have hbn := Grow.none (by assumption) hbk | have hbn := Grow.none (by assumption) hbk.2 | have hbn := Grow.none (by assumption) hbk.2.2 | have hbn := Grow.none (by assumption) hbk.2.2.2 | have hbn := Grow.none (by assumption) hbk.2.2.2.2 | have hbn := Grow.none (by assumption) hbk.2.2.2.2.2)); (try simp only [set_none'] at hbn); (try (first | have hbm := Grow.none (by assumption) hbn | have hbm := Grow.none (by assumption) hbn.2 | have hbm := Grow.none (by assumption) hbn.2.2 | have hbm := Grow.none (by assumption) hbn.2.2.2 | have hbm := Grow.none (by assumption) hbn.2.2.2.2 | have hbm := Grow.none (by assumption) hbn.2.2.2.2.2)); (try simp only [set_none'] at hbm)) | ((first | refine condS_i ?_ ?_ | refine pick_i ?_ ?_ | refine gS_it ?_ ?_ | refine gS_if ?_ ?_ | refine gP_it ?_ ?_ | refine gP_if ?_ ?_) <;> (intro hc; try simp only [Int.reduceLE,Int.reduceLT,Int.reduceEq,Sn] at hc)) | (with_reducible refine KP_i ?_ ?_; · (repeat' (first | exact Heap.Le.refl _ | (with_reducible refine Le_set2 ?_) | (refine Le_known (by first | (simp only [Heap.set_same, set_ne, ne_eq, not_false_eq_true, *] <;> rfl) | fail) ?_) | (refine Le_fresh (by first | (simp only [*] <;> done) | (simp [set_none', Heap.set_same, set_ne, noneH, *] <;> done) | fail) ?_) | (refine Heap.Le.trans ?_ (Grow.le (by assumption))) | exact Le_none | (refine Le_put ?_ (by first | (simp only [Heap.set_same, set_ne, ne_eq, not_false_eq_true, *] <;> rfl) | fail)) | fail))) | (with_reducible refine And.intro ?_ ?_)) <;> (try simp only [Sq,Sr,Sh,Si,Sl,Bu,Bb,Bd,Bc,Bw,Bn,Int.reduceAdd,Int.reduceSub,Int.reduceMul,Int.reduceTDiv,Int.reduceTMod,Int.reduceMod,Int.reduceDiv,Nat.reduceLT,Nat.reduceEqDiff,Sa,Sb,Sc,Sd,Se,Sf,Sg,Int.reduceLE,Int.reduceLT,Int.reduceToNat,Int.reduceNeg,Int.reduceEq,Nat.reduceLeDiff,Nat.reducePow,Int.reducePow,reduceIte,Nat.reduceSub,Nat.reduceAdd,Nat.reduceMul,putAt,ceq,List.replicate, *]))
    refine app_clone2 (IntsAt.grow hA (by (repeat' (first | exact Grow.refl _ | assumption | (refine Grow_known (by first | (simp only [Heap.set_same, set_ne, ne_eq, not_false_eq_true, *] <;> rfl) | fail) ?_) | (refine Grow.set ?_ (by assumption) (by first | (simp only [*] <;> done) | (simp [set_none', Heap.set_same, set_ne, noneH, *] <;> done) | fail)) | (refine Grow.trans ?_ (by assumption)))))) ⟨by omega, by omega⟩ (fun a' cap' G' hI hlc hg' hS' => ?_)
    have gF : Grow w0 H G' := Grow.trans (by (repeat' (first | exact Grow.refl _ | assumption | (refine Grow_known (by first | (simp only [Heap.set_same, set_ne, ne_eq, not_false_eq_true, *] <;> rfl) | fail) ?_) | (refine Grow.set ?_ (by assumption) (by first | (simp only [*] <;> done) | (simp [set_none', Heap.set_same, set_ne, noneH, *] <;> done) | fail)) | (refine Grow.trans ?_ (by assumption))))) hg'
    have h := h a' cap' G' (hI.base (by (repeat' (first | exact Grow.refl _ | assumption | (refine Grow_known (by first | (simp only [Heap.set_same, set_ne, ne_eq, not_false_eq_true, *] <;> rfl) | fail) ?_) | (refine Grow.set ?_ (by assumption) (by first | (simp only [*] <;> done) | (simp [set_none', Heap.set_same, set_ne, noneH, *] <;> done) | fail)) | (refine Grow.trans ?_ (by assumption)))))) hlc gF (.inr hS')
    (all_goals (try simp only [Sq,Sr,Sh,Si,Sl,Bu,Bb,Bd,Bc,Bw,Bn,Int.reduceAdd,Int.reduceSub,Int.reduceMul,Int.reduceTDiv,Int.reduceTMod,Int.reduceMod,Int.reduceDiv,Nat.reduceLT,Nat.reduceEqDiff,Sa,Sb,Sc,Sd,Se,Sf,Sg,Int.reduceLE,Int.reduceLT,Int.reduceToNat,Int.reduceNeg,Int.reduceEq,Nat.reduceLeDiff,Nat.reducePow,Int.reducePow,reduceIte,Nat.reduceSub,Nat.reduceAdd,Nat.reduceMul,putAt,ceq,List.replicate, *])); repeat' ((first | (with_reducible refine fun _ : True => ?_) | (with_reducible refine any_h ?_) | ((first | refine AllocQ_i ?_ | refine AllocO_i ?_); intro bk hb0 hbk; (try simp only [set_none'] at hbk); (try (first | have hbn := Grow.none (by assumption) hbk | have hbn := Grow.none (by assumption) hbk.2 | have hbn := Grow.none (by assumption) hbk.2.2 | have hbn := Grow.none (by assumption) hbk.2.2.2 | have hbn := Grow.none (by assumption) hbk.2.2.2.2 | have hbn := Grow.none (by assumption) hbk.2.2.2.2.2)); (try simp only [set_none'] at hbn); (try (first | have hbm := Grow.none (by assumption) hbn | have hbm := Grow.none (by assumption) hbn.2 | have hbm := Grow.none (by assumption) hbn.2.2 | have hbm := Grow.none (by assumption) hbn.2.2.2 | have hbm := Grow.none (by assumption) hbn.2.2.2.2 | have hbm := Grow.none (by assumption) hbn.2.2.2.2.2)); (try simp only [set_none'] at hbm)) | ((first | refine condS_i ?_ ?_ | refine pick_i ?_ ?_ | refine gS_it ?_ ?_ | refine gS_if ?_ ?_ | refine gP_it ?_ ?_ | refine gP_if ?_ ?_) <;> (intro hc; try simp only [Int.reduceLE,Int.reduceLT,Int.reduceEq,Sn] at hc)) | (with_reducible refine KP_i ?_ ?_; · (repeat' (first | exact Heap.Le.refl _ | (with_reducible refine Le_set2 ?_) | (refine Le_known (by first | (simp only [Heap.set_same, set_ne, ne_eq, not_false_eq_true, *] <;> rfl) | fail) ?_) | (refine Le_fresh (by first | (simp only [*] <;> done) | (simp [set_none', Heap.set_same, set_ne, noneH, *] <;> done) | fail) ?_) | (refine Heap.Le.trans ?_ (Grow.le (by assumption))) | exact Le_none | (refine Le_put ?_ (by first | (simp only [Heap.set_same, set_ne, ne_eq, not_false_eq_true, *] <;> rfl) | fail)) | fail))) | (with_reducible refine And.intro ?_ ?_)) <;> (try simp only [Sq,Sr,Sh,Si,Sl,Bu,Bb,Bd,Bc,Bw,Bn,Int.reduceAdd,Int.reduceSub,Int.reduceMul,Int.reduceTDiv,Int.reduceTMod,Int.reduceMod,Int.reduceDiv,Nat.reduceLT,Nat.reduceEqDiff,Sa,Sb,Sc,Sd,Se,Sf,Sg,Int.reduceLE,Int.reduceLT,Int.reduceToNat,Int.reduceNeg,Int.reduceEq,Nat.reduceLeDiff,Nat.reducePow,Int.reducePow,reduceIte,Nat.reduceSub,Nat.reduceAdd,Nat.reduceMul,putAt,ceq,List.replicate, *]))
    exact Fin_mk (Heap.Le.refl _) h
/-- Rows are copied: the bytes stay where they are. -/
theorem srd_rows {G : Heap} {a : Option Addr} {ls : List LvR} (h : SlAt w0 G a (ls.map LvR.row).flatten) : srd w0 G a (ls.length * 3) = some (ls.map LvR.row).flatten := by
  have := h.srd
  rw [rows_len] at this
  exact this
theorem rows_one (ls : List LvR) : ((ls.map LvR.row).flatten).all Value.oneCell' = true := by
  rw [List.all_eq_true]
  intro v hv
  obtain ⟨r, hr, hv⟩ := List.mem_flatten.1 hv
  obtain ⟨z, -, rfl⟩ := List.mem_map.1 hr
  simp [LvR.row] at hv
  rcases hv with rfl | rfl | rfl <;> rfl
/- slices Clone[[]paintbox/api Level,paintbox/api Level] -/
def M64 : MC :=
  .seq (.reg [⟨(some 2), .mv (.const (.slice none 0 0)), none⟩])
 (.seq (.seq (.reg [⟨(some 3), .mv (.tmp 0), none⟩,
 ⟨(some 4), .eqs false (.tmp 3) (.const (.slice none 0 0)), none⟩])
 (.cond (.tmp 4)
 (.seq (.reg [⟨(some 2), .mv (.const (.slice none 0 0)), none⟩])
 (.ret))
 (.skip)))
 (.seq (.reg [⟨(some 5), .bslice 38 0 [] [], none⟩,
 ⟨(some 6), .mv (.tmp 0), none⟩,
 ⟨(some 7), .app 38 3 40 [(.int .i64 0), (.int .i64 0), (.slice none 0 0)] (.tmp 5) (.tmp 6), none⟩,
 ⟨(some 2), .mv (.tmp 7), none⟩])
 (.ret)))
theorem k64 : fnOk Try.prog 64 = some (M64, [.t 2], 8) := by kernel_rfl

theorem c_cloneR (a : Option Addr) (c : Nat) (ls : List LvR) (hA : SlAt w0 H a (ls.map LvR.row).flatten) (hl : ls.length * 40 ≤ 140737488355328 ∧ ls.length ≤ maxLen)
    (h : ∀ a' cap' H', Bld w0 H H' a' cap' 3 38 (ls.map LvR.row).flatten → ls.length ≤ cap' → Grow w0 H H' → plainA a' → K (.slice a' ls.length cap') H') :
    HCalls Try.prog w0 64 [.slice a ls.length c] H K := by
  cases a with
  | none =>
    have e : ls = [] := Classical.byContradiction fun hl => by
      obtain ⟨b, o, e, -⟩ := hA (by
        intro e
        have := congrArg List.length e
        rw [rows_len] at this
        have h3 : ls.length * 3 = 0 := by simpa only [List.length_nil] using this
        exact hl (List.length_eq_zero_iff.1 (by omega)))
      cases e
    subst e
    have h := h none 0 H Bld.none (Nat.le_refl _) (Grow.refl _) (.inl rfl)
    clear hA
    refine HL.hc k64 999 ?_; unfold M64
    (all_goals (try simp only [Sq,Sr,Sh,Si,Sl,Bu,Bb,Bd,Bc,Bw,Bn,Int.reduceAdd,Int.reduceSub,Int.reduceMul,Int.reduceTDiv,Int.reduceTMod,Int.reduceMod,Int.reduceDiv,Nat.reduceLT,Nat.reduceEqDiff,Sa,Sb,Sc,Sd,Se,Sf,Sg,Int.reduceLE,Int.reduceLT,Int.reduceToNat,Int.reduceNeg,Int.reduceEq,Nat.reduceLeDiff,Nat.reducePow,Int.reducePow,reduceIte,Nat.reduceSub,Nat.reduceAdd,Nat.reduceMul,putAt,ceq,List.replicate, *])); repeat' ((first | (with_reducible refine fun _ : True => ?_) | (with_reducible refine any_h ?_) | ((first | refine AllocQ_i ?_ | refine AllocO_i ?_); intro bk hb0 hbk; (try simp only [set_none'] at hbk); (try (first | have hbn := Grow.none (by assumption) hbk | have hbn := Grow.none (by assumption) hbk.2 | have hbn := Grow.none (by assumption) hbk.2.2 | have hbn := Grow.none (by assumption) hbk.2.2.2 | have hbn := Grow.none (by assumption) hbk.2.2.2.2 | have hbn := Grow.none (by assumption) hbk.2.2.2.2.2)); (try simp only [set_none'] at hbn); (try (first | have hbm := Grow.none (by assumption) hbn | have hbm := Grow.none (by assumption) hbn.2 | have hbm := Grow.none (by assumption) hbn.2.2 | have hbm := Grow.none (by assumption) hbn.2.2.2 | have hbm := Grow.none (by assumption) hbn.2.2.2.2 | have hbm := Grow.none (by assumption) hbn.2.2.2.2.2)); (try simp only [set_none'] at hbm)) | ((first | refine condS_i ?_ ?_ | refine pick_i ?_ ?_ | refine gS_it ?_ ?_ | refine gS_if ?_ ?_ | refine gP_it ?_ ?_ | refine gP_if ?_ ?_) <;> (intro hc; try simp only [Int.reduceLE,Int.reduceLT,Int.reduceEq,Sn] at hc)) | (with_reducible refine KP_i ?_ ?_; · (repeat' (first | exact Heap.Le.refl _ | (with_reducible refine Le_set2 ?_) | (refine Le_known (by first | (simp only [Heap.set_same, set_ne, ne_eq, not_false_eq_true, *] <;> rfl) | fail) ?_) | (refine Le_fresh (by first | (simp only [*] <;> done) | (simp [set_none', Heap.set_same, set_ne, noneH, *] <;> done) | fail) ?_) | (refine Heap.Le.trans ?_ (Grow.le (by assumption))) | exact Le_none | (refine Le_put ?_ (by first | (simp only [Heap.set_same, set_ne, ne_eq, not_false_eq_true, *] <;> rfl) | fail)) | fail))) | (with_reducible refine And.intro ?_ ?_)) <;> (try simp only [Sq,Sr,Sh,Si,Sl,Bu,Bb,Bd,Bc,Bw,Bn,Int.reduceAdd,Int.reduceSub,Int.reduceMul,Int.reduceTDiv,Int.reduceTMod,Int.reduceMod,Int.reduceDiv,Nat.reduceLT,Nat.reduceEqDiff,Sa,Sb,Sc,Sd,Se,Sf,Sg,Int.reduceLE,Int.reduceLT,Int.reduceToNat,Int.reduceNeg,Int.reduceEq,Nat.reduceLeDiff,Nat.reducePow,Int.reducePow,reduceIte,Nat.reduceSub,Nat.reduceAdd,Nat.reduceMul,putAt,ceq,List.replicate, *]))
    all_goals first
      | exact Fin_mk (Heap.Le.refl _) h
      | (exact absurd hc (by decide))
  | some ad =>
    refine HL.hc k64 999 ?_; unfold M64
    (all_goals (try simp only [Sq,Sr,Sh,Si,Sl,Bu,Bb,Bd,Bc,Bw,Bn,Int.reduceAdd,Int.reduceSub,Int.reduceMul,Int.reduceTDiv,Int.reduceTMod,Int.reduceMod,Int.reduceDiv,Nat.reduceLT,Nat.reduceEqDiff,Sa,Sb,Sc,Sd,Se,Sf,Sg,Int.reduceLE,Int.reduceLT,Int.reduceToNat,Int.reduceNeg,Int.reduceEq,Nat.reduceLeDiff,Nat.reducePow,Int.reducePow,reduceIte,Nat.reduceSub,Nat.reduceAdd,Nat.reduceMul,putAt,ceq,List.replicate, *])); repeat' ((first | (with_reducible refine fun _ : True => ?_) | (with_reducible refine any_h ?_) | ((first | refine AllocQ_i ?_ | refine AllocO_i ?_); intro bk hb0 hbk; (try simp only [set_none'] at hbk); (try (first | have hbn := Grow.none (by assumption) hbk | have hbn := Grow.none (by assumption) hbk.2 | have hbn := Grow.none (by assumption) hbk.2.2 | have hbn := Grow.none (by assumption) hbk.2.2.2 | have hbn := Grow.none (by assumption) hbk.2.2.2.2 | have hbn := Grow.none (by assumption) hbk.2.2.2.2.2)); (try simp only [set_none'] at hbn); (try (first | have hbm := Grow.none (by assumption) hbn | have hbm := Grow.none (by assumption) hbn.2 | have hbm := Grow.none (by assumption) hbn.2.2 | have hbm := Grow.none (by assumption) hbn.2.2.2 | have hbm := Grow.none (by assumption) hbn.2.2.2.2 | have hbm := Grow.none (by assumption) hbn.2.2.2.2.2)); (try simp only [set_none'] at hbm)) | ((first | refine condS_i ?_ ?_ | refine pick_i ?_ ?_ | refine gS_it ?_ ?_ | refine gS_if ?_ ?_ | refine gP_it ?_ ?_ | refine gP_if ?_ ?_) <;> (intro hc; try simp only [Int.reduceLE,Int.reduceLT,Int.reduceEq,Sn] at hc)) | (with_reducible refine KP_i ?_ ?_; · (repeat' (first | exact Heap.Le.refl _ | (with_reducible refine Le_set2 ?_) | (refine Le_known (by first | (simp only [Heap.set_same, set_ne, ne_eq, not_false_eq_true, *] <;> rfl) | fail) ?_) | (refine Le_fresh (by first | (simp only [*] <;> done) | (simp [set_none', Heap.set_same, set_ne, noneH, *] <;> done) | fail) ?_) | (refine Heap.Le.trans ?_ (Grow.le (by assumption))) | exact Le_none | (refine Le_put ?_ (by first | (simp only [Heap.set_same, set_ne, ne_eq, not_false_eq_true, *] <;> rfl) | fail)) | fail))) | (with_reducible refine And.intro ?_ ?_)) <;> (try simp only [Sq,Sr,Sh,Si,Sl,Bu,Bb,Bd,Bc,Bw,Bn,Int.reduceAdd,Int.reduceSub,Int.reduceMul,Int.reduceTDiv,Int.reduceTMod,Int.reduceMod,Int.reduceDiv,Nat.reduceLT,Nat.reduceEqDiff,Sa,Sb,Sc,Sd,Se,Sf,Sg,Int.reduceLE,Int.reduceLT,Int.reduceToNat,Int.reduceNeg,Int.reduceEq,Nat.reduceLeDiff,Nat.reducePow,Int.reducePow,reduceIte,Nat.reduceSub,Nat.reduceAdd,Nat.reduceMul,putAt,ceq,List.replicate, *]))
    have hg0 : Grow w0 H (H.set bk ⟨.t 38, []⟩) := (by (repeat' (first | exact Grow.refl _ | assumption | (refine Grow_known (by first | (simp only [Heap.set_same, set_ne, ne_eq, not_false_eq_true, *] <;> rfl) | fail) ?_) | (refine Grow.set ?_ (by assumption) (by first | (simp only [*] <;> done) | (simp [set_none', Heap.set_same, set_ne, noneH, *] <;> done) | fail)) | (refine Grow.trans ?_ (by assumption)))))
    refine app_bld2 (H := H.set bk ⟨.t 38, []⟩) (n := 0) (m := ls.length) (cs := []) (ns := (ls.map LvR.row).flatten) Bld.none rfl rfl (srd_rows (hA.grow hg0)) (rows_len ls) (Grow.refl _) ⟨by omega, by have := hl.2; unfold maxLen at this; omega⟩ (rows_one ls) (fun a' cap' G' hB hg' hk' hc' hS' => ?_)
    rw [Nat.zero_add] at hc' ⊢
    have gF : Grow w0 H G' := hg0.trans hg'
    have h := h a' cap' G' ((by simpa using hB : Bld w0 _ G' a' cap' 3 _ (ls.map LvR.row).flatten).base hg0) hc' gF (by rcases hS' with e | e; exact .inr ⟨_, e⟩; exact .inr e)
    (all_goals (try simp only [Sq,Sr,Sh,Si,Sl,Bu,Bb,Bd,Bc,Bw,Bn,Int.reduceAdd,Int.reduceSub,Int.reduceMul,Int.reduceTDiv,Int.reduceTMod,Int.reduceMod,Int.reduceDiv,Nat.reduceLT,Nat.reduceEqDiff,Sa,Sb,Sc,Sd,Se,Sf,Sg,Int.reduceLE,Int.reduceLT,Int.reduceToNat,Int.reduceNeg,Int.reduceEq,Nat.reduceLeDiff,Nat.reducePow,Int.reducePow,reduceIte,Nat.reduceSub,Nat.reduceAdd,Nat.reduceMul,putAt,ceq,List.replicate, *])); repeat' ((first | (with_reducible refine fun _ : True => ?_) | (with_reducible refine any_h ?_) | ((first | refine AllocQ_i ?_ | refine AllocO_i ?_); intro bk hb0 hbk; (try simp only [set_none'] at hbk); (try (first | have hbn := Grow.none (by assumption) hbk | have hbn := Grow.none (by assumption) hbk.2 | have hbn := Grow.none (by assumption) hbk.2.2 | have hbn := Grow.none (by assumption) hbk.2.2.2 | have hbn := Grow.none (by assumption) hbk.2.2.2.2 | have hbn := Grow.none (by assumption) hbk.2.2.2.2.2)); (try simp only [set_none'] at hbn); (try (first | have hbm := Grow.none (by assumption) hbn | have hbm := Grow.none (by assumption) hbn.2 | have hbm := Grow.none (by assumption) hbn.2.2 | have hbm := Grow.none (by assumption) hbn.2.2.2 | have hbm := Grow.none (by assumption) hbn.2.2.2.2 | have hbm := Grow.none (by assumption) hbn.2.2.2.2.2)); (try simp only [set_none'] at hbm)) | ((first | refine condS_i ?_ ?_ | refine pick_i ?_ ?_ | refine gS_it ?_ ?_ | refine gS_if ?_ ?_ | refine gP_it ?_ ?_ | refine gP_if ?_ ?_) <;> (intro hc; try simp only [Int.reduceLE,Int.reduceLT,Int.reduceEq,Sn] at hc)) | (with_reducible refine KP_i ?_ ?_; · (repeat' (first | exact Heap.Le.refl _ | (with_reducible refine Le_set2 ?_) | (refine Le_known (by first | (simp only [Heap.set_same, set_ne, ne_eq, not_false_eq_true, *] <;> rfl) | fail) ?_) | (refine Le_fresh (by first | (simp only [*] <;> done) | (simp [set_none', Heap.set_same, set_ne, noneH, *] <;> done) | fail) ?_) | (refine Heap.Le.trans ?_ (Grow.le (by assumption))) | exact Le_none | (refine Le_put ?_ (by first | (simp only [Heap.set_same, set_ne, ne_eq, not_false_eq_true, *] <;> rfl) | fail)) | fail))) | (with_reducible refine And.intro ?_ ?_)) <;> (try simp only [Sq,Sr,Sh,Si,Sl,Bu,Bb,Bd,Bc,Bw,Bn,Int.reduceAdd,Int.reduceSub,Int.reduceMul,Int.reduceTDiv,Int.reduceTMod,Int.reduceMod,Int.reduceDiv,Nat.reduceLT,Nat.reduceEqDiff,Sa,Sb,Sc,Sd,Se,Sf,Sg,Int.reduceLE,Int.reduceLT,Int.reduceToNat,Int.reduceNeg,Int.reduceEq,Nat.reduceLeDiff,Nat.reducePow,Int.reducePow,reduceIte,Nat.reduceSub,Nat.reduceAdd,Nat.reduceMul,putAt,ceq,List.replicate, *]))
    exact Fin_mk (Heap.Le.refl _) h
/-- Rows of which the first ones are new. -/
def mixR (ys ls : List LvR) (k : Nat) : List Value := ((ys ++ ls.drop k).map LvR.row).flatten
theorem mixR_at {ys ls : List LvR} {k : Nat} {z : LvR} (hy : ys.length = k) (hz : ls[k]? = some z) (z' : LvR) (hw : z'.w = z.w) (hh : z'.h = z.h) : ∃ A B, A.length = k * 3 ∧ mixR ys ls k = A ++ .int .i64 z.w :: .int .i64 z.h :: .slice z.a z.l.length z.cap :: B ∧ mixR (ys ++ [z']) ls (k + 1) = A ++ .int .i64 z.w :: .int .i64 z.h :: .slice z'.a z'.l.length z'.cap :: B := by
  obtain ⟨hk, ez⟩ := List.getElem?_eq_some_iff.1 hz
  refine ⟨(ys.map LvR.row).flatten, ((ls.drop (k + 1)).map LvR.row).flatten, ?_, ?_, ?_⟩
  · rw [rows_len, hy]
  · unfold mixR
    rw [List.drop_eq_getElem_cons hk, ez]
    simp [LvR.row]
  · unfold mixR
    simp [LvR.row, hw, hh]
theorem mixR_len {ys ls : List LvR} {k : Nat} (hy : ys.length = k) (hk : k ≤ ls.length) : (mixR ys ls k).length = ls.length * 3 := by
  unfold mixR
  rw [rows_len]
  simp; omega
/- image clone -/
def M41 : MC :=
  .seq (.reg [⟨(some 1), .box 24 (.tmp 0), none⟩,
 ⟨(some 2), .alloc 24 [(.int .i64 0), (.slice none 0 0), (.int .i64 0), (.int .i64 0), (.int .i64 0), (.int .i64 0)], none⟩])
 (.seq (.reg [⟨(some 4), .fa 1 (.tmp 1), none⟩,
 ⟨(some 5), .ld1 (.tmp 4), none⟩,
 ⟨(some 6), .call 64 [(.tmp 5)], none⟩,
 ⟨(some 7), .fa 1 (.tmp 1), none⟩,
 ⟨none, .st1 (.tmp 7) (.tmp 6), none⟩])
 (.seq (.seq (.reg [⟨(some 8), .fa 1 (.tmp 1), none⟩,
 ⟨(some 9), .ld1 (.tmp 8), none⟩,
 ⟨(some 10), .len (.tmp 9), none⟩,
 ⟨(some 11), .mv (.const (.int .i64 0)), none⟩])
 (.block 0 (.loop (.seq (.reg [⟨(some 12), .bin .lss (.tmp 11) (.tmp 10), none⟩])
 (.seq (.cond (.tmp 12)
 (.skip)
 (.exit 0))
 (.seq (.block 1 (.seq (.reg [⟨(some 13), .mv (.tmp 11), none⟩,
 ⟨(some 3), .mv (.tmp 13), none⟩])
 (.any [(true, 0, [], ⟨(some 14), .fa 1 (.tmp 1), none⟩),
 (true, 1, [], ⟨(some 15), .ld1 (.tmp 14), none⟩),
 (true, 2, [], ⟨(some 16), .mv (.tmp 3), none⟩),
 (true, 3, [], ⟨(some 17), .fa 1 (.tmp 1), none⟩),
 (true, 4, [], ⟨(some 18), .ld1 (.tmp 17), none⟩),
 (false, 5, [0, 1, 2, 3, 4], ⟨(some 19), .mv (.tmp 3), none⟩),
 (false, 6, [0, 1, 2], ⟨(some 20), .is 3 (.tmp 18) (.tmp 19), none⟩),
 (false, 7, [0, 1, 2], ⟨(some 21), .fa 2 (.tmp 20), none⟩),
 (false, 8, [0, 1, 2], ⟨(some 22), .ld1 (.tmp 21), none⟩),
 (false, 9, [0, 1, 2], ⟨(some 23), .call 65 [(.tmp 22)], none⟩),
 (false, 10, [], ⟨(some 24), .is 3 (.tmp 15) (.tmp 16), none⟩),
 (false, 11, [], ⟨(some 25), .fa 2 (.tmp 24), none⟩),
 (false, 12, [], ⟨none, .st1 (.tmp 25) (.tmp 23), none⟩)])))
 (.reg [⟨(some 26), .bin .add (.tmp 11) (.const (.int .i64 1)), none⟩,
 ⟨(some 11), .mv (.tmp 26), none⟩])))))))
 (.seq (.reg [⟨(some 27), .ldn 6 (.tmp 1), none⟩,
 ⟨none, .stn 6 (.tmp 2) (.tmp 27), none⟩])
 (.ret))))
theorem k41 : fnOk Try.prog 41 = some (M41, [.cn 6 2], 28) := by kernel_rfl

/-- No two levels have their bytes in the same block. -/
def Dist (ls : List LvR) : Prop := ∀ (i j : Nat) (u v : LvR) (b : Nat), ls[i]? = some u → ls[j]? = some v → i < j → u.a = some ⟨b, 0, none⟩ → v.a = some ⟨b, 0, none⟩ → u.l = [] ∨ v.l = []
theorem Dist_nil : Dist [] := fun i j u v b h => by simp at h
theorem Dist_add {G G2 : Heap} {ys : List LvR} {z : LvR} (h : Dist ys) (hy : ∀ u ∈ ys, LvC w0 H G u) (hB : Bld w0 G G2 z.a z.cap 1 5 (z.l.map fun x => .int .u8 x)) : Dist (ys ++ [z]) := fun i j u v b hu hv hij ea eb => by
  have hj := (List.getElem?_eq_some_iff.1 hv).1
  rw [List.length_append] at hj
  simp only [List.length_cons, List.length_nil] at hj
  by_cases e : j < ys.length
  · rw [List.getElem?_append_left (by omega)] at hu
    rw [List.getElem?_append_left e] at hv
    exact h i j u v b hu hv hij ea eb
  · obtain rfl : j = ys.length := by omega
    rw [List.getElem?_append_left (by omega)] at hu
    rw [List.getElem?_append_right (by omega), Nat.sub_self] at hv
    simp at hv
    subst hv
    rcases (hy u (List.mem_of_getElem? hu)).bld with ⟨c, zz, e1, -, -, e2, -⟩ | ⟨-, e1⟩
    · rcases hB with ⟨d, zz2, f1, -, f2, -, -⟩ | ⟨-, f1⟩
      · rw [ea] at e1
        rw [eb] at f1
        cases e1
        cases f1
        rw [e2] at f2
        cases f2
      · exact .inr (by simpa using f1)
    · exact .inl (by simpa using e1)
theorem c_cloneD (x : Im) (hx : ImOk w0 H x) (h : ∀ y H', Im.Eqv x y → ImC w0 H H' y → Dist y.ls → Grow w0 H H' → K y.v H') : HCalls Try.prog w0 41 [x.v] H K := by
  have hlr := hx.lr
  have hlm := hx.lm
  unfold Im.v at h ⊢
  refine HL.hc k41 999 ?_; unfold M41
  (all_goals (try simp only [Sq,Sr,Sh,Si,Sl,Bu,Bb,Bd,Bc,Bw,Bn,Int.reduceAdd,Int.reduceSub,Int.reduceMul,Int.reduceTDiv,Int.reduceTMod,Int.reduceMod,Int.reduceDiv,Nat.reduceLT,Nat.reduceEqDiff,Sa,Sb,Sc,Sd,Se,Sf,Sg,Int.reduceLE,Int.reduceLT,Int.reduceToNat,Int.reduceNeg,Int.reduceEq,Nat.reduceLeDiff,Nat.reducePow,Int.reducePow,reduceIte,Nat.reduceSub,Nat.reduceAdd,Nat.reduceMul,putAt,ceq,List.replicate, *])); repeat' ((first | (with_reducible refine fun _ : True => ?_) | refine c_cloneR _ _ x.ls (hx.at_.grow (by (repeat' (first | exact Grow.refl _ | assumption | (refine Grow_known (by first | (simp only [Heap.set_same, set_ne, ne_eq, not_false_eq_true, *] <;> rfl) | fail) ?_) | (refine Grow.set ?_ (by assumption) (by first | (simp only [*] <;> done) | (simp [set_none', Heap.set_same, set_ne, noneH, *] <;> done) | fail)) | (refine Grow.trans ?_ (by assumption)))))) ⟨hlr, hlm⟩ (fun a' cap' H' hB hlc hg hS => ?_)  | (with_reducible refine any_h ?_) | ((first | refine AllocQ_i ?_ | refine AllocO_i ?_); intro bk hb0 hbk; (try simp only [set_none'] at hbk); (try (first | have hbn := Grow.none (by assumption) hbk | have hbn := Grow.none (by assumption) hbk.2 | have hbn := Grow.none (by assumption) hbk.2.2 | have hbn := Grow.none (by assumption) hbk.2.2.2 | have hbn := Grow.none (by assumption) hbk.2.2.2.2 | have hbn := Grow.none (by assumption) hbk.2.2.2.2.2)); (try simp only [set_none'] at hbn); (try (first | have hbm := Grow.none (by assumption) hbn | have hbm := Grow.none (by assumption) hbn.2 | have hbm := Grow.none (by assumption) hbn.2.2 | have hbm := Grow.none (by assumption) hbn.2.2.2 | have hbm := Grow.none (by assumption) hbn.2.2.2.2 | have hbm := Grow.none (by assumption) hbn.2.2.2.2.2)); (try simp only [set_none'] at hbm)) | ((first | refine condS_i ?_ ?_ | refine pick_i ?_ ?_ | refine gS_it ?_ ?_ | refine gS_if ?_ ?_ | refine gP_it ?_ ?_ | refine gP_if ?_ ?_) <;> (intro hc; try simp only [Int.reduceLE,Int.reduceLT,Int.reduceEq,Sn] at hc)) | (with_reducible refine KP_i ?_ ?_; · (repeat' (first | exact Heap.Le.refl _ | (with_reducible refine Le_set2 ?_) | (refine Le_known (by first | (simp only [Heap.set_same, set_ne, ne_eq, not_false_eq_true, *] <;> rfl) | fail) ?_) | (refine Le_fresh (by first | (simp only [*] <;> done) | (simp [set_none', Heap.set_same, set_ne, noneH, *] <;> done) | fail) ?_) | (refine Heap.Le.trans ?_ (Grow.le (by assumption))) | exact Le_none | (refine Le_put ?_ (by first | (simp only [Heap.set_same, set_ne, ne_eq, not_false_eq_true, *] <;> rfl) | fail)) | fail))) | (with_reducible refine And.intro ?_ ?_)) <;> (try simp only [Sq,Sr,Sh,Si,Sl,Bu,Bb,Bd,Bc,Bw,Bn,Int.reduceAdd,Int.reduceSub,Int.reduceMul,Int.reduceTDiv,Int.reduceTMod,Int.reduceMod,Int.reduceDiv,Nat.reduceLT,Nat.reduceEqDiff,Sa,Sb,Sc,Sd,Se,Sf,Sg,Int.reduceLE,Int.reduceLT,Int.reduceToNat,Int.reduceNeg,Int.reduceEq,Nat.reduceLeDiff,Nat.reducePow,Int.reducePow,reduceIte,Nat.reduceSub,Nat.reduceAdd,Nat.reduceMul,putAt,ceq,List.replicate, *]))
  rename_i bx pbx qbx
  have hnb := hbk.1
  have hB0 : Bld w0 H H' a' cap' 3 38 (x.ls.map LvR.row).flatten := hB.base (by (repeat' (first | exact Grow.refl _ | assumption | (refine Grow_known (by first | (simp only [Heap.set_same, set_ne, ne_eq, not_false_eq_true, *] <;> rfl) | fail) ?_) | (refine Grow.set ?_ (by assumption) (by first | (simp only [*] <;> done) | (simp [set_none', Heap.set_same, set_ne, noneH, *] <;> done) | fail)) | (refine Grow.trans ?_ (by assumption)))))
  have kx := hg.some (b := bx) (by simp only [Heap.set_same, set_ne, ne_eq, not_false_eq_true, *] <;> rfl)
  have kk := hg.some (b := bk) (by simp only [Heap.set_same, set_ne, ne_eq, not_false_eq_true, *] <;> rfl)
  rw [up2 hg (by simp only [Heap.set_same, set_ne, ne_eq, not_false_eq_true, *] <;> rfl)]
  have gH' : Grow w0 H H' := Grow.trans (by (repeat' (first | exact Grow.refl _ | assumption | (refine Grow_known (by first | (simp only [Heap.set_same, set_ne, ne_eq, not_false_eq_true, *] <;> rfl) | fail) ?_) | (refine Grow.set ?_ (by assumption) (by first | (simp only [*] <;> done) | (simp [set_none', Heap.set_same, set_ne, noneH, *] <;> done) | fail)) | (refine Grow.trans ?_ (by assumption))))) hg
  clear hg hB
  (all_goals (try simp only [Sq,Sr,Sh,Si,Sl,Bu,Bb,Bd,Bc,Bw,Bn,Int.reduceAdd,Int.reduceSub,Int.reduceMul,Int.reduceTDiv,Int.reduceTMod,Int.reduceMod,Int.reduceDiv,Nat.reduceLT,Nat.reduceEqDiff,Sa,Sb,Sc,Sd,Se,Sf,Sg,Int.reduceLE,Int.reduceLT,Int.reduceToNat,Int.reduceNeg,Int.reduceEq,Nat.reduceLeDiff,Nat.reducePow,Int.reducePow,reduceIte,Nat.reduceSub,Nat.reduceAdd,Nat.reduceMul,putAt,ceq,List.replicate, *])); repeat' ((first | (with_reducible refine fun _ : True => ?_) | (with_reducible refine any_h ?_) | ((first | refine AllocQ_i ?_ | refine AllocO_i ?_); intro bk hb0 hbk; (try simp only [set_none'] at hbk); (try (first | have hbn := Grow.none (by assumption) hbk | have hbn := Grow.none (by assumption) hbk.2 | have hbn := Grow.none (by assumption) hbk.2.2 | have hbn := Grow.none (by assumption) hbk.2.2.2 | have hbn := Grow.none (by assumption) hbk.2.2.2.2 | have hbn := Grow.none (by assumption) hbk.2.2.2.2.2)); (try simp only [set_none'] at hbn); (try (first | have hbm := Grow.none (by assumption) hbn | have hbm := Grow.none (by assumption) hbn.2 | have hbm := Grow.none (by assumption) hbn.2.2 | have hbm := Grow.none (by assumption) hbn.2.2.2 | have hbm := Grow.none (by assumption) hbn.2.2.2.2 | have hbm := Grow.none (by assumption) hbn.2.2.2.2.2)); (try simp only [set_none'] at hbm)) | ((first | refine condS_i ?_ ?_ | refine pick_i ?_ ?_ | refine gS_it ?_ ?_ | refine gS_if ?_ ?_ | refine gP_it ?_ ?_ | refine gP_if ?_ ?_) <;> (intro hc; try simp only [Int.reduceLE,Int.reduceLT,Int.reduceEq,Sn] at hc)) | (with_reducible refine KP_i ?_ ?_; · (repeat' (first | exact Heap.Le.refl _ | (with_reducible refine Le_set2 ?_) | (refine Le_known (by first | (simp only [Heap.set_same, set_ne, ne_eq, not_false_eq_true, *] <;> rfl) | fail) ?_) | (refine Le_fresh (by first | (simp only [*] <;> done) | (simp [set_none', Heap.set_same, set_ne, noneH, *] <;> done) | fail) ?_) | (refine Heap.Le.trans ?_ (Grow.le (by assumption))) | exact Le_none | (refine Le_put ?_ (by first | (simp only [Heap.set_same, set_ne, ne_eq, not_false_eq_true, *] <;> rfl) | fail)) | fail))) | (with_reducible refine And.intro ?_ ?_)) <;> (try simp only [Sq,Sr,Sh,Si,Sl,Bu,Bb,Bd,Bc,Bw,Bn,Int.reduceAdd,Int.reduceSub,Int.reduceMul,Int.reduceTDiv,Int.reduceTMod,Int.reduceMod,Int.reduceDiv,Nat.reduceLT,Nat.reduceEqDiff,Sa,Sb,Sc,Sd,Se,Sf,Sg,Int.reduceLE,Int.reduceLT,Int.reduceToNat,Int.reduceNeg,Int.reduceEq,Nat.reduceLeDiff,Nat.reducePow,Int.reducePow,reduceIte,Nat.reduceSub,Nat.reduceAdd,Nat.reduceMul,putAt,ceq,List.replicate, *]))
  refine loopq_heap (fun H1 eH => ?_)
  have k1 := at_of eH (b := bx) (by simp only [Heap.set_same, set_ne, ne_eq, not_false_eq_true, *] <;> rfl)
  have k2 := at_of eH (b := bk) (by simp only [Heap.set_same, set_ne, ne_eq, not_false_eq_true, *] <;> rfl)
  have gH1 : Grow w0 H H1 := by rw [eH]; exact (by (repeat' (first | exact Grow.refl _ | assumption | (refine Grow_known (by first | (simp only [Heap.set_same, set_ne, ne_eq, not_false_eq_true, *] <;> rfl) | fail) ?_) | (refine Grow.set ?_ (by assumption) (by first | (simp only [*] <;> done) | (simp [set_none', Heap.set_same, set_ne, noneH, *] <;> done) | fail)) | (refine Grow.trans ?_ (by assumption)))))
  have hB1 : Bld w0 H H1 a' cap' 3 38 (x.ls.map LvR.row).flatten := by rw [eH]; exact (hB0.turn kx (by simp)).turn ((Heap.set_other _ _ hnb.1).trans kk) (by simp)
  clear eH kx kk hB0 gH'
  rcases Nat.eq_zero_or_pos x.ls.length with h0 | h0
  · have e0 : x.ls = [] := List.length_eq_zero_iff.1 h0
    have hfin := h { x with a := a', cap := cap' } ((H1.set bx ⟨.t 24, [.int .i64 x.f, .slice a' 0 cap', .int .i64 x.s, .int .i64 x.t, .int .i64 x.mn, .int .i64 x.mg]⟩).set bk ⟨.t 24, [.int .i64 x.f, .slice a' 0 cap', .int .i64 x.s, .int .i64 x.t, .int .i64 x.mn, .int .i64 x.mg]⟩) ⟨rfl, rfl, rfl, rfl, rfl, rfl⟩
      ⟨(hB1.turn k1 (by simp)).turn ((Heap.set_other _ _ hnb.1).trans k2) (by simp), fun z hz => by rw [show ({ x with a := a', cap := cap' } : Im).ls = x.ls from rfl, e0] at hz; simp at hz, hlm, hlr, hx.f, hx.s, hx.t, hx.mn, hx.mg⟩ (by show Dist x.ls; rw [e0]; exact Dist_nil) (by (repeat' (first | exact Grow.refl _ | assumption | (refine Grow_known (by first | (simp only [Heap.set_same, set_ne, ne_eq, not_false_eq_true, *] <;> rfl) | fail) ?_) | (refine Grow.set ?_ (by assumption) (by first | (simp only [*] <;> done) | (simp [set_none', Heap.set_same, set_ne, noneH, *] <;> done) | fail)) | (refine Grow.trans ?_ (by assumption)))))
    simp only [h0] at hfin
    rw [h0] at k1 ⊢
    rw [root2 hnb.2 k1 k2]
    clear h
    (all_goals (try simp only [Sq,Sr,Sh,Si,Sl,Bu,Bb,Bd,Bc,Bw,Bn,Int.reduceAdd,Int.reduceSub,Int.reduceMul,Int.reduceTDiv,Int.reduceTMod,Int.reduceMod,Int.reduceDiv,Nat.reduceLT,Nat.reduceEqDiff,Sa,Sb,Sc,Sd,Se,Sf,Sg,Int.reduceLE,Int.reduceLT,Int.reduceToNat,Int.reduceNeg,Int.reduceEq,Nat.reduceLeDiff,Nat.reducePow,Int.reducePow,reduceIte,Nat.reduceSub,Nat.reduceAdd,Nat.reduceMul,putAt,ceq,List.replicate, *])); repeat' ((first | (with_reducible refine fun _ : True => ?_) | (with_reducible refine any_h ?_) | ((first | refine AllocQ_i ?_ | refine AllocO_i ?_); intro bk hb0 hbk; (try simp only [set_none'] at hbk); (try (first | have hbn := Grow.none (by assumption) hbk | have hbn := Grow.none (by assumption) hbk.2 | have hbn := Grow.none (by assumption) hbk.2.2 | have hbn := Grow.none (by assumption) hbk.2.2.2 | have hbn := Grow.none (by assumption) hbk.2.2.2.2 | have hbn := Grow.none (by assumption) hbk.2.2.2.2.2)); (try simp only [set_none'] at hbn); (try (first | have hbm := Grow.none (by assumption) hbn | have hbm := Grow.none (by assumption) hbn.2 | have hbm := Grow.none (by assumption) hbn.2.2 | have hbm := Grow.none (by assumption) hbn.2.2.2 | have hbm := Grow.none (by assumption) hbn.2.2.2.2 | have hbm := Grow.none (by assumption) hbn.2.2.2.2.2)); (try simp only [set_none'] at hbm)) | ((first | refine condS_i ?_ ?_ | refine pick_i ?_ ?_ | refine gS_it ?_ ?_ | refine gS_if ?_ ?_ | refine gP_it ?_ ?_ | refine gP_if ?_ ?_) <;> (intro hc; try simp only [Int.reduceLE,Int.reduceLT,Int.reduceEq,Sn] at hc)) | (with_reducible refine KP_i ?_ ?_; · (repeat' (first | exact Heap.Le.refl _ | (with_reducible refine Le_set2 ?_) | (refine Le_known (by first | (simp only [Heap.set_same, set_ne, ne_eq, not_false_eq_true, *] <;> rfl) | fail) ?_) | (refine Le_fresh (by first | (simp only [*] <;> done) | (simp [set_none', Heap.set_same, set_ne, noneH, *] <;> done) | fail) ?_) | (refine Heap.Le.trans ?_ (Grow.le (by assumption))) | exact Le_none | (refine Le_put ?_ (by first | (simp only [Heap.set_same, set_ne, ne_eq, not_false_eq_true, *] <;> rfl) | fail)) | fail))) | (with_reducible refine loop_u ?_) | (with_reducible refine And.intro ?_ ?_)) <;> (try simp only [Sq,Sr,Sh,Si,Sl,Bu,Bb,Bd,Bc,Bw,Bn,Int.reduceAdd,Int.reduceSub,Int.reduceMul,Int.reduceTDiv,Int.reduceTMod,Int.reduceMod,Int.reduceDiv,Nat.reduceLT,Nat.reduceEqDiff,Sa,Sb,Sc,Sd,Se,Sf,Sg,Int.reduceLE,Int.reduceLT,Int.reduceToNat,Int.reduceNeg,Int.reduceEq,Nat.reduceLeDiff,Nat.reducePow,Int.reducePow,reduceIte,Nat.reduceSub,Nat.reduceAdd,Nat.reduceMul,putAt,ceq,List.replicate, *]))
    exact Fin_mk (Heap.Le.refl _) hfin
  · have hrl := rows_len x.ls
    rcases hB1 with ⟨b, zz, rfl, b1, b2, b3, b4⟩ | ⟨-, hnil⟩
    · obtain ⟨m, em⟩ : ∃ m, x.ls.length = m := ⟨_, rfl⟩
      have x1 : b ≠ bx := fun e => by subst e; rw [b3] at k1; cases k1
      have x2 : b ≠ bk := fun e => by subst e; rw [b3] at k2; cases k2
      have x3 := Ne.symm x1
      have x4 := Ne.symm x2
      rw [em] at k1 ⊢
      refine loop_g 12 (fun s : Nat × Value × List LvR × Heap => [(3, s.2.1), (11, .int .i64 (s.1 : Nat))]) (fun s => s.2.2.2)
        (fun s => s.1 ≤ m ∧ s.2.2.1.length = s.1 ∧ s.2.2.1.map LvR.core = (x.ls.take s.1).map LvR.core ∧ (∀ z ∈ s.2.2.1, LvC w0 H s.2.2.2 z) ∧ Dist s.2.2.1 ∧ Grow w0 H s.2.2.2 ∧ s.2.2.2 bx = some ⟨.t 24, [.int .i64 x.f, .slice (some ⟨b, 0, none⟩) m cap', .int .i64 x.s, .int .i64 x.t, .int .i64 x.mn, .int .i64 x.mg]⟩ ∧ s.2.2.2 bk = some ⟨.t 24, [.int .i64 0, .slice none 0 0, .int .i64 0, .int .i64 0, .int .i64 0, .int .i64 0]⟩ ∧ s.2.2.2 b = some ⟨.t 38, mixR s.2.2.1 x.ls s.1 ++ zz⟩)
        (fun s => m - s.1) (0, undef, [], H1) ⟨Nat.zero_le _, rfl, rfl, by simp, Dist_nil, gH1, k1, k2, by simpa [mixR] using b3⟩ (Heap.Le.refl _) rfl ?_
      clear gH1 k1 k2 b3
      intro ⟨k, v, ys, G⟩ g ⟨hk, hyl, hc, hok, hdi, hG, k1, k2, k3⟩
      simp only at hk hyl hc hok hdi hG k1 k2 k3
      show run _ _ _ _ _ _ G
      rw [root3 k1 k2 k3]
      rcases Nat.lt_or_ge k m with hlt | hge
      · obtain ⟨z, ez⟩ : ∃ z, x.ls[k]? = some z := ⟨_, List.getElem?_eq_getElem (by omega)⟩
        have hz := hx.lv z (List.mem_of_getElem? ez)
        have hzl := hz.lr
        obtain ⟨A, B, hA, c1, -⟩ := mixR_at hyl ez z rfl rfl
        have t0 : (k : Int) < (m : Int) := by omega
        have t6 : IntKind.i64.wrap ((k : Int) + 1) = (k : Int) + 1 := Bw.1 _ (by omega) (by unfold maxLen at hlm; omega)
        have g1 : (mixR ys x.ls k ++ zz)[k * 3 + 2]? = some (.slice z.a z.l.length z.cap) := by
          rw [c1, List.append_assoc, ← hA]
          simp
        have g3 : k * 3 + 2 < (mixR ys x.ls k ++ zz).length := (List.getElem?_eq_some_iff.1 g1).1
        clear c1
        replace hdi : Keep _ := hdi
        (all_goals (try simp only [Sq,Sr,Sh,Si,Sl,Bu,Bb,Bd,Bc,Bw,Bn,Int.reduceAdd,Int.reduceSub,Int.reduceMul,Int.reduceTDiv,Int.reduceTMod,Int.reduceMod,Int.reduceDiv,Nat.reduceLT,Nat.reduceEqDiff,Sa,Sb,Sc,Sd,Se,Sf,Sg,Int.reduceLE,Int.reduceLT,Int.reduceToNat,Int.reduceNeg,Int.reduceEq,Nat.reduceLeDiff,Nat.reducePow,Int.reducePow,reduceIte,Nat.reduceSub,Nat.reduceAdd,Nat.reduceMul,putAt,ceq,List.replicate, *])); repeat' ((first | (with_reducible refine fun _ : True => ?_) | refine c_cloneB _ _ z.l (IntsAt.grow hz.at_ (by (repeat' (first | exact Grow.refl _ | assumption | (refine Grow_known (by first | (simp only [Heap.set_same, set_ne, ne_eq, not_false_eq_true, *] <;> rfl) | fail) ?_) | (refine Grow.set ?_ (by assumption) (by first | (simp only [*] <;> done) | (simp [set_none', Heap.set_same, set_ne, noneH, *] <;> done) | fail)) | (refine Grow.trans ?_ (by assumption)))))) ⟨by omega, by omega⟩ (fun a2 cap2 G2 hB2 hlc2 hg2 hS2 => ?_)  | (with_reducible refine any_h ?_) | ((first | refine AllocQ_i ?_ | refine AllocO_i ?_); intro bk hb0 hbk; (try simp only [set_none'] at hbk); (try (first | have hbn := Grow.none (by assumption) hbk | have hbn := Grow.none (by assumption) hbk.2 | have hbn := Grow.none (by assumption) hbk.2.2 | have hbn := Grow.none (by assumption) hbk.2.2.2 | have hbn := Grow.none (by assumption) hbk.2.2.2.2 | have hbn := Grow.none (by assumption) hbk.2.2.2.2.2)); (try simp only [set_none'] at hbn); (try (first | have hbm := Grow.none (by assumption) hbn | have hbm := Grow.none (by assumption) hbn.2 | have hbm := Grow.none (by assumption) hbn.2.2 | have hbm := Grow.none (by assumption) hbn.2.2.2 | have hbm := Grow.none (by assumption) hbn.2.2.2.2 | have hbm := Grow.none (by assumption) hbn.2.2.2.2.2)); (try simp only [set_none'] at hbm)) | ((first | refine condS_i ?_ ?_ | refine pick_i ?_ ?_ | refine gS_it ?_ ?_ | refine gS_if ?_ ?_ | refine gP_it ?_ ?_ | refine gP_if ?_ ?_) <;> (intro hc; try simp only [Int.reduceLE,Int.reduceLT,Int.reduceEq,Sn] at hc)) | (with_reducible refine KP_i ?_ ?_; · (repeat' (first | exact Heap.Le.refl _ | (with_reducible refine Le_set2 ?_) | (refine Le_known (by first | (simp only [Heap.set_same, set_ne, ne_eq, not_false_eq_true, *] <;> rfl) | fail) ?_) | (refine Le_fresh (by first | (simp only [*] <;> done) | (simp [set_none', Heap.set_same, set_ne, noneH, *] <;> done) | fail) ?_) | (refine Heap.Le.trans ?_ (Grow.le (by assumption))) | exact Le_none | (refine Le_put ?_ (by first | (simp only [Heap.set_same, set_ne, ne_eq, not_false_eq_true, *] <;> rfl) | fail)) | fail))) | (with_reducible refine And.intro ?_ ?_)) <;> (try simp only [Sq,Sr,Sh,Si,Sl,Bu,Bb,Bd,Bc,Bw,Bn,Int.reduceAdd,Int.reduceSub,Int.reduceMul,Int.reduceTDiv,Int.reduceTMod,Int.reduceMod,Int.reduceDiv,Nat.reduceLT,Nat.reduceEqDiff,Sa,Sb,Sc,Sd,Se,Sf,Sg,Int.reduceLE,Int.reduceLT,Int.reduceToNat,Int.reduceNeg,Int.reduceEq,Nat.reduceLeDiff,Nat.reducePow,Int.reducePow,reduceIte,Nat.reduceSub,Nat.reduceAdd,Nat.reduceMul,putAt,ceq,List.replicate, *]))
        have hg2' : Grow w0 G G2 := by rw [root3 k1 k2 k3]; exact hg2
        have gG2 : Grow w0 H G2 := hG.trans hg2'
        have hdi2 : Dist (ys ++ [(⟨z.w, z.h, a2, cap2, z.l⟩ : LvR)]) := Dist_add (show Dist ys from hdi) hok (by rw [root3 k1 k2 k3]; exact hB2)
        obtain ⟨A, B, hA, c1, c2⟩ := mixR_at hyl ez ⟨z.w, z.h, a2, cap2, z.l⟩ rfl rfl
        have g2 : (mixR ys x.ls k ++ zz).set (k * 3 + 2) (.slice a2 z.l.length cap2) = mixR (ys ++ [⟨z.w, z.h, a2, cap2, z.l⟩]) x.ls (k + 1) ++ zz := by
          rw [c1, c2, List.append_assoc, ← hA]
          simp
        have j1 := hg2'.some k1
        have j2 := hg2'.some k2
        have j3 := hg2'.some k3
        have hnew : LvC w0 H G2 ⟨z.w, z.h, a2, cap2, z.l⟩ := ⟨hB2.base (by (repeat' (first | exact Grow.refl _ | assumption | (refine Grow_known (by first | (simp only [Heap.set_same, set_ne, ne_eq, not_false_eq_true, *] <;> rfl) | fail) ?_) | (refine Grow.set ?_ (by assumption) (by first | (simp only [*] <;> done) | (simp [set_none', Heap.set_same, set_ne, noneH, *] <;> done) | fail)) | (refine Grow.trans ?_ (by assumption))))), hz.lm, hz.lr, hz.w, hz.h, hz.by_⟩
        have hold : ∀ y ∈ ys, LvC w0 H G2 y := fun y hy => ⟨(hok y hy).bld.grow hg2', (hok y hy).lm, (hok y hy).lr, (hok y hy).w, (hok y hy).h, (hok y hy).by_⟩
        have hall : ∀ y ∈ ys ++ [(⟨z.w, z.h, a2, cap2, z.l⟩ : LvR)], LvC w0 H (((G2.set bx ⟨.t 24, [.int .i64 x.f, .slice (some ⟨b, 0, none⟩) m cap', .int .i64 x.s, .int .i64 x.t, .int .i64 x.mn, .int .i64 x.mg]⟩).set bk ⟨.t 24, [.int .i64 0, .slice none 0 0, .int .i64 0, .int .i64 0, .int .i64 0, .int .i64 0]⟩).set b ⟨.t 38, mixR (ys ++ [⟨z.w, z.h, a2, cap2, z.l⟩]) x.ls (k + 1) ++ zz⟩) y := fun y hy => by
          have h0 : LvC w0 H G2 y := by
            rcases List.mem_append.1 hy with h' | h'
            · exact hold y h'
            · rw [List.mem_singleton.1 h']; exact hnew
          exact ((h0.turn j1 (by simp)).turn ((Heap.set_other _ _ hnb.1).trans j2) (by simp)).turn (by rw [Heap.set_other _ _ x2, Heap.set_other _ _ x1]; exact j3) (by simp)
        have hcores : (ys ++ [(⟨z.w, z.h, a2, cap2, z.l⟩ : LvR)]).map LvR.core = (x.ls.take (k + 1)).map LvR.core := by
          rw [List.map_append, hc, List.take_add_one, ez, List.map_append]; rfl
        have hln : (ys ++ [(⟨z.w, z.h, a2, cap2, z.l⟩ : LvR)]).length = k + 1 := by simp [hyl]
        have hF : Grow w0 H (((G2.set bx ⟨.t 24, [.int .i64 x.f, .slice (some ⟨b, 0, none⟩) m cap', .int .i64 x.s, .int .i64 x.t, .int .i64 x.mn, .int .i64 x.mg]⟩).set bk ⟨.t 24, [.int .i64 0, .slice none 0 0, .int .i64 0, .int .i64 0, .int .i64 0, .int .i64 0]⟩).set b ⟨.t 38, mixR (ys ++ [⟨z.w, z.h, a2, cap2, z.l⟩]) x.ls (k + 1) ++ zz⟩) := (by (repeat' (first | exact Grow.refl _ | assumption | (refine Grow_known (by first | (simp only [Heap.set_same, set_ne, ne_eq, not_false_eq_true, *] <;> rfl) | fail) ?_) | (refine Grow.set ?_ (by assumption) (by first | (simp only [*] <;> done) | (simp [set_none', Heap.set_same, set_ne, noneH, *] <;> done) | fail)) | (refine Grow.trans ?_ (by assumption)))))
        have q1 : (((G2.set bx ⟨.t 24, [.int .i64 x.f, .slice (some ⟨b, 0, none⟩) m cap', .int .i64 x.s, .int .i64 x.t, .int .i64 x.mn, .int .i64 x.mg]⟩).set bk ⟨.t 24, [.int .i64 0, .slice none 0 0, .int .i64 0, .int .i64 0, .int .i64 0, .int .i64 0]⟩).set b ⟨.t 38, mixR (ys ++ [⟨z.w, z.h, a2, cap2, z.l⟩]) x.ls (k + 1) ++ zz⟩) bx = some ⟨.t 24, [.int .i64 x.f, .slice (some ⟨b, 0, none⟩) m cap', .int .i64 x.s, .int .i64 x.t, .int .i64 x.mn, .int .i64 x.mg]⟩ := by rw [Heap.set_other _ _ x3, Heap.set_other _ _ hnb.2, Heap.set_same]
        have q2 : (((G2.set bx ⟨.t 24, [.int .i64 x.f, .slice (some ⟨b, 0, none⟩) m cap', .int .i64 x.s, .int .i64 x.t, .int .i64 x.mn, .int .i64 x.mg]⟩).set bk ⟨.t 24, [.int .i64 0, .slice none 0 0, .int .i64 0, .int .i64 0, .int .i64 0, .int .i64 0]⟩).set b ⟨.t 38, mixR (ys ++ [⟨z.w, z.h, a2, cap2, z.l⟩]) x.ls (k + 1) ++ zz⟩) bk = some ⟨.t 24, [.int .i64 0, .slice none 0 0, .int .i64 0, .int .i64 0, .int .i64 0, .int .i64 0]⟩ := by rw [Heap.set_other _ _ x4, Heap.set_same]
        have q3 := Heap.set_same ((G2.set bx ⟨.t 24, [.int .i64 x.f, .slice (some ⟨b, 0, none⟩) m cap', .int .i64 x.s, .int .i64 x.t, .int .i64 x.mn, .int .i64 x.mg]⟩).set bk ⟨.t 24, [.int .i64 0, .slice none 0 0, .int .i64 0, .int .i64 0, .int .i64 0, .int .i64 0]⟩) b ⟨.t 38, mixR (ys ++ [⟨z.w, z.h, a2, cap2, z.l⟩]) x.ls (k + 1) ++ zz⟩
        rw [up3 hg2 (by simp only [Heap.set_same, set_ne, ne_eq, not_false_eq_true, *] <;> rfl) (by simp only [Heap.set_same, set_ne, ne_eq, not_false_eq_true, *] <;> rfl)]
        clear hB2 hnew hold c1 c2 hc hok hz j1 j2 j3 k1 k2 k3 hg2 hg2' hG hyl h
        (all_goals (try simp only [Sq,Sr,Sh,Si,Sl,Bu,Bb,Bd,Bc,Bw,Bn,Int.reduceAdd,Int.reduceSub,Int.reduceMul,Int.reduceTDiv,Int.reduceTMod,Int.reduceMod,Int.reduceDiv,Nat.reduceLT,Nat.reduceEqDiff,Sa,Sb,Sc,Sd,Se,Sf,Sg,Int.reduceLE,Int.reduceLT,Int.reduceToNat,Int.reduceNeg,Int.reduceEq,Nat.reduceLeDiff,Nat.reducePow,Int.reducePow,reduceIte,Nat.reduceSub,Nat.reduceAdd,Nat.reduceMul,putAt,ceq,List.replicate, *])); repeat' ((first | (with_reducible refine fun _ : True => ?_) | (with_reducible refine any_h ?_) | ((first | refine AllocQ_i ?_ | refine AllocO_i ?_); intro bk hb0 hbk; (try simp only [set_none'] at hbk); (try (first | have hbn := Grow.none (by assumption) hbk | have hbn := Grow.none (by assumption) hbk.2 | have hbn := Grow.none (by assumption) hbk.2.2 | have hbn := Grow.none (by assumption) hbk.2.2.2 | have hbn := Grow.none (by assumption) hbk.2.2.2.2 | have hbn := Grow.none (by assumption) hbk.2.2.2.2.2)); (try simp only [set_none'] at hbn); (try (first | have hbm := Grow.none (by assumption) hbn | have hbm := Grow.none (by assumption) hbn.2 | have hbm := Grow.none (by assumption) hbn.2.2 | have hbm := Grow.none (by assumption) hbn.2.2.2 | have hbm := Grow.none (by assumption) hbn.2.2.2.2 | have hbm := Grow.none (by assumption) hbn.2.2.2.2.2)); (try simp only [set_none'] at hbm)) | ((first | refine condS_i ?_ ?_ | refine pick_i ?_ ?_ | refine gS_it ?_ ?_ | refine gS_if ?_ ?_ | refine gP_it ?_ ?_ | refine gP_if ?_ ?_) <;> (intro hc; try simp only [Int.reduceLE,Int.reduceLT,Int.reduceEq,Sn] at hc)) | (with_reducible refine KP_i ?_ ?_; · (repeat' (first | exact Heap.Le.refl _ | (with_reducible refine Le_set2 ?_) | (refine Le_known (by first | (simp only [Heap.set_same, set_ne, ne_eq, not_false_eq_true, *] <;> rfl) | fail) ?_) | (refine Le_fresh (by first | (simp only [*] <;> done) | (simp [set_none', Heap.set_same, set_ne, noneH, *] <;> done) | fail) ?_) | (refine Heap.Le.trans ?_ (Grow.le (by assumption))) | exact Le_none | (refine Le_put ?_ (by first | (simp only [Heap.set_same, set_ne, ne_eq, not_false_eq_true, *] <;> rfl) | fail)) | fail))) | (with_reducible refine And.intro ?_ ?_)) <;> (try simp only [Sq,Sr,Sh,Si,Sl,Bu,Bb,Bd,Bc,Bw,Bn,Int.reduceAdd,Int.reduceSub,Int.reduceMul,Int.reduceTDiv,Int.reduceTMod,Int.reduceMod,Int.reduceDiv,Nat.reduceLT,Nat.reduceEqDiff,Sa,Sb,Sc,Sd,Se,Sf,Sg,Int.reduceLE,Int.reduceLT,Int.reduceToNat,Int.reduceNeg,Int.reduceEq,Nat.reduceLeDiff,Nat.reducePow,Int.reducePow,reduceIte,Nat.reduceSub,Nat.reduceAdd,Nat.reduceMul,putAt,ceq,List.replicate, *]))
        exact Round_mk (k + 1, _, ys ++ [(⟨z.w, z.h, a2, cap2, z.l⟩ : LvR)], (((G2.set bx ⟨.t 24, [.int .i64 x.f, .slice (some ⟨b, 0, none⟩) m cap', .int .i64 x.s, .int .i64 x.t, .int .i64 x.mn, .int .i64 x.mg]⟩).set bk ⟨.t 24, [.int .i64 0, .slice none 0 0, .int .i64 0, .int .i64 0, .int .i64 0, .int .i64 0]⟩).set b ⟨.t 38, mixR (ys ++ [⟨z.w, z.h, a2, cap2, z.l⟩]) x.ls (k + 1) ++ zz⟩)) ⟨hlt, hln, hcores, hall, hdi2, hF, q1, q2, q3⟩ (by simp only; omega) (Heap.Le.refl _) rfl rfl
      · obtain rfl : m = k := by omega
        have t0 : ¬ ((m : Nat) : Int) < ((m : Nat) : Int) := by omega
        have hmr : mixR ys x.ls m = (ys.map LvR.row).flatten := by unfold mixR; rw [← em]; simp
        have hfin := h { x with a := some ⟨b, 0, none⟩, cap := cap', ls := ys } (((G.set bx ⟨.t 24, [.int .i64 x.f, .slice (some ⟨b, 0, none⟩) m cap', .int .i64 x.s, .int .i64 x.t, .int .i64 x.mn, .int .i64 x.mg]⟩).set bk ⟨.t 24, [.int .i64 x.f, .slice (some ⟨b, 0, none⟩) m cap', .int .i64 x.s, .int .i64 x.t, .int .i64 x.mn, .int .i64 x.mg]⟩).set b ⟨.t 38, mixR ys x.ls m ++ zz⟩) ⟨rfl, rfl, rfl, rfl, rfl, by rw [hc, ← em, List.take_length]⟩ ?_ hdi (by (repeat' (first | exact Grow.refl _ | assumption | (refine Grow_known (by first | (simp only [Heap.set_same, set_ne, ne_eq, not_false_eq_true, *] <;> rfl) | fail) ?_) | (refine Grow.set ?_ (by assumption) (by first | (simp only [*] <;> done) | (simp [set_none', Heap.set_same, set_ne, noneH, *] <;> done) | fail)) | (refine Grow.trans ?_ (by assumption)))))
        · simp only [hyl] at hfin
          clear h hok hc hG k1 k2 k3 hmr
          (all_goals (try simp only [Sq,Sr,Sh,Si,Sl,Bu,Bb,Bd,Bc,Bw,Bn,Int.reduceAdd,Int.reduceSub,Int.reduceMul,Int.reduceTDiv,Int.reduceTMod,Int.reduceMod,Int.reduceDiv,Nat.reduceLT,Nat.reduceEqDiff,Sa,Sb,Sc,Sd,Se,Sf,Sg,Int.reduceLE,Int.reduceLT,Int.reduceToNat,Int.reduceNeg,Int.reduceEq,Nat.reduceLeDiff,Nat.reducePow,Int.reducePow,reduceIte,Nat.reduceSub,Nat.reduceAdd,Nat.reduceMul,putAt,ceq,List.replicate, *])); repeat' ((first | (with_reducible refine fun _ : True => ?_) | (with_reducible refine any_h ?_) | ((first | refine AllocQ_i ?_ | refine AllocO_i ?_); intro bk hb0 hbk; (try simp only [set_none'] at hbk); (try (first | have hbn := Grow.none (by assumption) hbk | have hbn := Grow.none (by assumption) hbk.2 | have hbn := Grow.none (by assumption) hbk.2.2 | have hbn := Grow.none (by assumption) hbk.2.2.2 | have hbn := Grow.none (by assumption) hbk.2.2.2.2 | have hbn := Grow.none (by assumption) hbk.2.2.2.2.2)); (try simp only [set_none'] at hbn); (try (first | have hbm := Grow.none (by assumption) hbn | have hbm := Grow.none (by assumption) hbn.2 | have hbm := Grow.none (by assumption) hbn.2.2 | have hbm := Grow.none (by assumption) hbn.2.2.2 | have hbm := Grow.none (by assumption) hbn.2.2.2.2 | have hbm := Grow.none (by assumption) hbn.2.2.2.2.2)); (try simp only [set_none'] at hbm)) | ((first | refine condS_i ?_ ?_ | refine pick_i ?_ ?_ | refine gS_it ?_ ?_ | refine gS_if ?_ ?_ | refine gP_it ?_ ?_ | refine gP_if ?_ ?_) <;> (intro hc; try simp only [Int.reduceLE,Int.reduceLT,Int.reduceEq,Sn] at hc)) | (with_reducible refine KP_i ?_ ?_; · (repeat' (first | exact Heap.Le.refl _ | (with_reducible refine Le_set2 ?_) | (refine Le_known (by first | (simp only [Heap.set_same, set_ne, ne_eq, not_false_eq_true, *] <;> rfl) | fail) ?_) | (refine Le_fresh (by first | (simp only [*] <;> done) | (simp [set_none', Heap.set_same, set_ne, noneH, *] <;> done) | fail) ?_) | (refine Heap.Le.trans ?_ (Grow.le (by assumption))) | exact Le_none | (refine Le_put ?_ (by first | (simp only [Heap.set_same, set_ne, ne_eq, not_false_eq_true, *] <;> rfl) | fail)) | fail))) | (with_reducible refine And.intro ?_ ?_)) <;> (try simp only [Sq,Sr,Sh,Si,Sl,Bu,Bb,Bd,Bc,Bw,Bn,Int.reduceAdd,Int.reduceSub,Int.reduceMul,Int.reduceTDiv,Int.reduceTMod,Int.reduceMod,Int.reduceDiv,Nat.reduceLT,Nat.reduceEqDiff,Sa,Sb,Sc,Sd,Se,Sf,Sg,Int.reduceLE,Int.reduceLT,Int.reduceToNat,Int.reduceNeg,Int.reduceEq,Nat.reduceLeDiff,Nat.reducePow,Int.reducePow,reduceIte,Nat.reduceSub,Nat.reduceAdd,Nat.reduceMul,putAt,ceq,List.replicate, *]))
          exact Fin_mk (Heap.Le.refl _) hfin
        · refine ⟨.inl ⟨b, zz, rfl, b1, b2, ?_, ?_⟩, fun z hz => ?_, by show ys.length ≤ _; rw [hyl, ← em]; exact hlm, by show ys.length * 40 ≤ _; rw [hyl, ← em]; exact hlr, hx.f, hx.s, hx.t, hx.mn, hx.mg⟩
          · rw [Heap.set_same, hmr]
          · rw [← b4, rows_len, rows_len, hyl, em]
          · exact (((hok z hz).turn k1 (by simp)).turn ((Heap.set_other _ _ hnb.1).trans k2) (by simp)).turn (by rw [Heap.set_other _ _ x2, Heap.set_other _ _ x1]; exact k3) (by simp)
    · rw [hnil] at hrl; simp at hrl; omega
theorem c_clone (x : Im) (hx : ImOk w0 H x) (h : ∀ y H', Im.Eqv x y → ImC w0 H H' y → Grow w0 H H' → K y.v H') : HCalls Try.prog w0 41 [x.v] H K :=
  c_cloneD x hx fun y H' a b _ c => h y H' a b c
end Go.Proofs.Ytdaipgnhconfnaa
