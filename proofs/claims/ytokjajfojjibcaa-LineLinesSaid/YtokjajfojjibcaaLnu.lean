/- Lines by both, and what lies between: the parts joined, plain laws (layer 23). -/
import Derived.Test.YtokjajfojjibcaaLnra
import Derived.Test.YtokjajfojjibcaaLnrb
import Derived.Test.YtokjajfojjibcaaLnrc
import Derived.Test.YtokjajfojjibcaaLnrd
set_option linter.unusedSimpArgs false
set_option linter.unusedVariables false
set_option maxRecDepth 100000
set_option maxHeartbeats 4000000
namespace Go.Proofs.Ytokjajfojjibcaa
open Go Go.HL Go.RowKit Go.ChangeShapes Go.WideShapes Pb
variable {w0 : World} {H : Heap} {K : Value → Heap → Prop}

theorem c_Line_yes (x y : WnR) (hx : WnOk w0 H x) (hy : WnOk w0 H y) (hr : Tog [x.toWn, y.toWn])
    (h : ∀ a' cap' os H', os.map FrR.toFr = lineA x.toWn y.toWn → RO fragT w0 H' a' cap' os → Grow w0 H H' → K (.tuple #[.slice a' os.length cap', .int .i64 0]) H') : HCalls Try.prog w0 10 [x.v, y.v] H K := by
  unfold lineA at h
  by_cases hw : wideA x.toWn y.toWn
  · rw [if_pos hw] at h
    rcases Int.lt_or_le y.x x.x with hq | hq
    · exact c_Line_wd x y hx hy hr hw hq h
    · exact c_Line_wu x y hx hy hr hw hq h
  · rw [if_neg hw] at h
    rcases Int.lt_or_le y.y x.y with hq | hq
    · exact c_Line_td x y hx hy hr hw hq h
    · exact c_Line_tu x y hx hy hr hw hq h
section
variable {a b : Wn}
theorem lineA_len : (lineA a b).length ≤ 64 := by unfold lineA; split <;> exact lineC_len 64
theorem lineC_mem {wide : Bool} {p q s t : Int} {n : Nat} {F : Fr} (h : F ∈ lineC a b wide p q s t n) : ∃ i, F = frA a b wide p q s t i ∧ inA p q (256 * i + 128) := by
  unfold lineC at h
  obtain ⟨j, -, e⟩ := List.mem_filterMap.1 h
  obtain ⟨i, ei⟩ : ∃ i : Int, (if q < p then 63 - (j : Int) else (j : Int)) = i := ⟨_, rfl⟩
  rw [ei] at e
  unfold atC at e
  by_cases hh : inA p q (256 * i + 128) ∧ 0 ≤ kA p q s t (256 * i + 128) ∧ kA p q s t (256 * i + 128) ≤ 63
  · rw [if_pos hh] at e
    cases e
    exact ⟨i, rfl, hh.1⟩
  · rw [if_neg hh] at e
    cases e
/-- Between two, as the program asks it. -/
def Btw (x p q : Int) : Prop := (if q < p then q else p) ≤ x ∧ x ≤ (if q > p then q else p)
/-- What every fragment of a line is. -/
structure FrW (a b : Wn) (F : Fr) : Prop where
  f : F.f = true
  p0 : F.p 0 = 0
  p1 : F.p 1 = 0
  p2 : F.p 2 = 0
  p3 : F.p 3 = 0
  l : F.l.length = a.l.length
  z : Btw F.z a.z b.z
  v : ∀ (m : Nat) (u v w : Nat → Int), a.l[m]? = some u → b.l[m]? = some v → F.l[m]? = some w → Btw (w 0) (u 0) (v 0) ∧ Btw (w 1) (u 1) (v 1) ∧ Btw (w 2) (u 2) (v 2) ∧ Btw (w 3) (u 3) (v 3)
theorem frA_w {wide : Bool} {p q s t i : Int} (hp : 0 ≤ p ∧ p ≤ 16384) (hq : 0 ≤ q ∧ q ≤ 16384) (hin : inA p q (256 * i + 128)) (hl : a.l.length = b.l.length) (hw : 0 < a.w ∧ a.w ≤ 2147483647) (hw' : 0 < b.w ∧ b.w ≤ 2147483647) : FrW a b (frA a b wide p q s t i) := by
  have h1 : 0 < lfA p q (256 * i + 128) ∧ lfA p q (256 * i + 128) ≤ 16384 ∧ 0 ≤ dnA p q (256 * i + 128) ∧ dnA p q (256 * i + 128) ≤ 16384 := by
    unfold inA at hin
    unfold lfA dnA
    split <;> omega
  obtain ⟨h1, h2, h3, h4⟩ := h1
  have hb : BtOk (lfA p q (256 * i + 128)) (dnA p q (256 * i + 128)) a.w b.w := ⟨by omega, h3, .inl h1, hw.1, hw'.1⟩
  refine ⟨rfl, rfl, rfl, rfl, rfl, btVs_len hl, near_between (by omega) h3 (by omega), fun m u v w e e' e2 => ?_⟩
  have : (btVs (lfA p q (256 * i + 128)) (dnA p q (256 * i + 128)) a.w b.w a.l b.l)[m]? = some (btV (lfA p q (256 * i + 128)) (dnA p q (256 * i + 128)) a.w b.w u v) := by unfold btVs; rw [List.getElem?_zipWith, e, e']
  have e3 : w = btV (lfA p q (256 * i + 128)) (dnA p q (256 * i + 128)) a.w b.w u v := by
    have e4 : (frA a b wide p q s t i).l[m]? = some w := e2
    rw [show (frA a b wide p q s t i).l = btVs (lfA p q (256 * i + 128)) (dnA p q (256 * i + 128)) a.w b.w a.l b.l from rfl, this] at e4
    exact (Option.some.inj e4).symm
  subst e3
  exact ⟨bt_between hb (by omega) (by omega) hw.2 hw'.2, bt_between hb (by omega) (by omega) hw.2 hw'.2, bt_between hb (by omega) (by omega) hw.2 hw'.2, bt_between hb (by omega) (by omega) hw.2 hw'.2⟩
theorem lineA_w {F : Fr} (h : F ∈ lineA a b) (ha : a.right) (hb : b.right) (hl : a.l.length = b.l.length) (hw : a.w ≤ 2147483647) (hw' : b.w ≤ 2147483647) : FrW a b F := by
  unfold lineA at h
  split at h
  · obtain ⟨i, rfl, hin⟩ := lineC_mem h
    exact frA_w ha.1 hb.1 hin hl ⟨ha.2.2.1, hw⟩ ⟨hb.2.2.1, hw'⟩
  · obtain ⟨i, rfl, hin⟩ := lineC_mem h
    exact frA_w ha.2.1 hb.2.1 hin hl ⟨ha.2.2.1, hw⟩ ⟨hb.2.2.1, hw'⟩
end
/- paintboxlaw23 LineWithin 1 -/
def M19 : MC :=
  .seq (.reg [⟨(some 6), .mv (.const (.bool false)), none⟩])
  (.seq (.reg [⟨(some 7), .mv (.tmp 0), none⟩,
      ⟨(some 8), .mv (.tmp 1), none⟩,
      ⟨(some 9), .mv (.tmp 2), none⟩,
      ⟨(some 10), .mn (.tmp 8) (.tmp 9), none⟩,
      ⟨(some 11), .bin .geq (.tmp 7) (.tmp 10), none⟩,
      ⟨(some 12), .mv (.tmp 11), none⟩,
      ⟨(some 13), .mv (.tmp 0), (some (12, true))⟩,
      ⟨(some 14), .mv (.tmp 1), (some (12, true))⟩,
      ⟨(some 15), .mv (.tmp 2), (some (12, true))⟩,
      ⟨(some 16), .mx (.tmp 14) (.tmp 15), (some (12, true))⟩,
      ⟨(some 17), .bin .leq (.tmp 13) (.tmp 16), (some (12, true))⟩,
      ⟨(some 18), .pick (.tmp 12) (.tmp 17) (.const (.bool false)), none⟩,
      ⟨(some 6), .mv (.tmp 18), none⟩])
   (.ret))
theorem k19 : fnOk Try.prog 19 = some (M19, [.t 6], 19) := by kernel_rfl

theorem l_between (x p q : Int) (h : Btw x p q) (hk : K (.bool true) H) : HCalls Try.prog w0 19 [.int .i32 x, .int .i32 p, .int .i32 q] H K := by
  unfold Btw at h
  rcases Int.lt_trichotomy p q with hl | hl | hl
  · have n1 : ¬ q < p := by omega
    rw [if_neg n1, if_pos hl] at h
    have n2 := h.1
    have n3 := h.2
    clear h
    refine HL.hc k19 999 ?_; unfold M19
    (all_goals (try simp only [Sq,Sr,Sh,Si,Sl,Bu,Bb,Bd,Bc,Bw,Bn,Int.reduceAdd,Int.reduceSub,Int.reduceMul,Int.reduceTDiv,Int.reduceTMod,Int.reduceMod,Int.reduceDiv,Nat.reduceLT,Nat.reduceEqDiff,Sa,Sb,Sc,Sd,Se,Sf,Sg,Int.reduceLE,Int.reduceLT,Int.reduceToNat,Int.reduceNeg,Int.reduceEq,Nat.reduceLeDiff,Nat.reducePow,Int.reducePow,reduceIte,Nat.reduceSub,Nat.reduceAdd,Nat.reduceMul,putAt,ceq,List.replicate, *])); repeat' ((first | (with_reducible refine fun _ : True => ?_) | (refine AllocQ_i ?_; intro bk hb0 hbk; (try simp only [set_none'] at hbk); (try (first | have hbn := Grow.none (by assumption) hbk | have hbn := Grow.none (by assumption) hbk.2 | have hbn := Grow.none (by assumption) hbk.2.2 | have hbn := Grow.none (by assumption) hbk.2.2.2 | have hbn := Grow.none (by assumption) hbk.2.2.2.2 | have hbn := Grow.none (by assumption) hbk.2.2.2.2.2)); (try simp only [set_none'] at hbn); (try (first | have hbm := Grow.none (by assumption) hbn | have hbm := Grow.none (by assumption) hbn.2 | have hbm := Grow.none (by assumption) hbn.2.2 | have hbm := Grow.none (by assumption) hbn.2.2.2 | have hbm := Grow.none (by assumption) hbn.2.2.2.2 | have hbm := Grow.none (by assumption) hbn.2.2.2.2.2)); (try simp only [set_none'] at hbm)) | ((first | refine condS_i ?_ ?_ | refine pick_i ?_ ?_ | refine gS_it ?_ ?_ | refine gS_if ?_ ?_ | refine gP_it ?_ ?_ | refine gP_if ?_ ?_) <;> (intro hc; try simp only [Int.reduceLE,Int.reduceLT,Int.reduceEq,Sn] at hc)) | (refine KP_i (by (repeat' (first | exact Heap.Le.refl _ | (refine Le_known (by first | (simp only [Heap.set_same, set_ne, ne_eq, not_false_eq_true, *] <;> rfl) | fail) ?_) | (refine Le_fresh (by first | (simp only [*] <;> done) | (simp [set_none', Heap.set_same, set_ne, *] <;> done) | fail) ?_) | (refine Heap.Le.trans ?_ (Grow.le (by assumption)))))) ?_) | (with_reducible refine And.intro ?_ ?_)) <;> (try simp only [Sq,Sr,Sh,Si,Sl,Bu,Bb,Bd,Bc,Bw,Bn,Int.reduceAdd,Int.reduceSub,Int.reduceMul,Int.reduceTDiv,Int.reduceTMod,Int.reduceMod,Int.reduceDiv,Nat.reduceLT,Nat.reduceEqDiff,Sa,Sb,Sc,Sd,Se,Sf,Sg,Int.reduceLE,Int.reduceLT,Int.reduceToNat,Int.reduceNeg,Int.reduceEq,Nat.reduceLeDiff,Nat.reducePow,Int.reducePow,reduceIte,Nat.reduceSub,Nat.reduceAdd,Nat.reduceMul,putAt,ceq,List.replicate, *]))
    all_goals exact Fin_mk (by (repeat' (first | exact Heap.Le.refl _ | (refine Le_known (by first | (simp only [Heap.set_same, set_ne, ne_eq, not_false_eq_true, *] <;> rfl) | fail) ?_) | (refine Le_fresh (by first | (simp only [*] <;> done) | (simp [set_none', Heap.set_same, set_ne, *] <;> done) | fail) ?_) | (refine Heap.Le.trans ?_ (Grow.le (by assumption)))))) hk
  · subst hl
    have n1 : ¬ p < p := by omega
    rw [if_neg n1] at h
    have n2 := h.1
    have n3 := h.2
    clear h
    refine HL.hc k19 999 ?_; unfold M19
    (all_goals (try simp only [Sq,Sr,Sh,Si,Sl,Bu,Bb,Bd,Bc,Bw,Bn,Int.reduceAdd,Int.reduceSub,Int.reduceMul,Int.reduceTDiv,Int.reduceTMod,Int.reduceMod,Int.reduceDiv,Nat.reduceLT,Nat.reduceEqDiff,Sa,Sb,Sc,Sd,Se,Sf,Sg,Int.reduceLE,Int.reduceLT,Int.reduceToNat,Int.reduceNeg,Int.reduceEq,Nat.reduceLeDiff,Nat.reducePow,Int.reducePow,reduceIte,Nat.reduceSub,Nat.reduceAdd,Nat.reduceMul,putAt,ceq,List.replicate, *])); repeat' ((first | (with_reducible refine fun _ : True => ?_) | (refine AllocQ_i ?_; intro bk hb0 hbk; (try simp only [set_none'] at hbk); (try (first | have hbn := Grow.none (by assumption) hbk | have hbn := Grow.none (by assumption) hbk.2 | have hbn := Grow.none (by assumption) hbk.2.2 | have hbn := Grow.none (by assumption) hbk.2.2.2 | have hbn := Grow.none (by assumption) hbk.2.2.2.2 | have hbn := Grow.none (by assumption) hbk.2.2.2.2.2)); (try simp only [set_none'] at hbn); (try (first | have hbm := Grow.none (by assumption) hbn | have hbm := Grow.none (by assumption) hbn.2 | have hbm := Grow.none (by assumption) hbn.2.2 | have hbm := Grow.none (by assumption) hbn.2.2.2 | have hbm := Grow.none (by assumption) hbn.2.2.2.2 | have hbm := Grow.none (by assumption) hbn.2.2.2.2.2)); (try simp only [set_none'] at hbm)) | ((first | refine condS_i ?_ ?_ | refine pick_i ?_ ?_ | refine gS_it ?_ ?_ | refine gS_if ?_ ?_ | refine gP_it ?_ ?_ | refine gP_if ?_ ?_) <;> (intro hc; try simp only [Int.reduceLE,Int.reduceLT,Int.reduceEq,Sn] at hc)) | (refine KP_i (by (repeat' (first | exact Heap.Le.refl _ | (refine Le_known (by first | (simp only [Heap.set_same, set_ne, ne_eq, not_false_eq_true, *] <;> rfl) | fail) ?_) | (refine Le_fresh (by first | (simp only [*] <;> done) | (simp [set_none', Heap.set_same, set_ne, *] <;> done) | fail) ?_) | (refine Heap.Le.trans ?_ (Grow.le (by assumption)))))) ?_) | (with_reducible refine And.intro ?_ ?_)) <;> (try simp only [Sq,Sr,Sh,Si,Sl,Bu,Bb,Bd,Bc,Bw,Bn,Int.reduceAdd,Int.reduceSub,Int.reduceMul,Int.reduceTDiv,Int.reduceTMod,Int.reduceMod,Int.reduceDiv,Nat.reduceLT,Nat.reduceEqDiff,Sa,Sb,Sc,Sd,Se,Sf,Sg,Int.reduceLE,Int.reduceLT,Int.reduceToNat,Int.reduceNeg,Int.reduceEq,Nat.reduceLeDiff,Nat.reducePow,Int.reducePow,reduceIte,Nat.reduceSub,Nat.reduceAdd,Nat.reduceMul,putAt,ceq,List.replicate, *]))
    all_goals exact Fin_mk (by (repeat' (first | exact Heap.Le.refl _ | (refine Le_known (by first | (simp only [Heap.set_same, set_ne, ne_eq, not_false_eq_true, *] <;> rfl) | fail) ?_) | (refine Le_fresh (by first | (simp only [*] <;> done) | (simp [set_none', Heap.set_same, set_ne, *] <;> done) | fail) ?_) | (refine Heap.Le.trans ?_ (Grow.le (by assumption)))))) hk
  · have n1 : ¬ p < q := by omega
    rw [if_pos hl, if_neg n1] at h
    have n2 := h.1
    have n3 := h.2
    clear h
    refine HL.hc k19 999 ?_; unfold M19
    (all_goals (try simp only [Sq,Sr,Sh,Si,Sl,Bu,Bb,Bd,Bc,Bw,Bn,Int.reduceAdd,Int.reduceSub,Int.reduceMul,Int.reduceTDiv,Int.reduceTMod,Int.reduceMod,Int.reduceDiv,Nat.reduceLT,Nat.reduceEqDiff,Sa,Sb,Sc,Sd,Se,Sf,Sg,Int.reduceLE,Int.reduceLT,Int.reduceToNat,Int.reduceNeg,Int.reduceEq,Nat.reduceLeDiff,Nat.reducePow,Int.reducePow,reduceIte,Nat.reduceSub,Nat.reduceAdd,Nat.reduceMul,putAt,ceq,List.replicate, *])); repeat' ((first | (with_reducible refine fun _ : True => ?_) | (refine AllocQ_i ?_; intro bk hb0 hbk; (try simp only [set_none'] at hbk); (try (first | have hbn := Grow.none (by assumption) hbk | have hbn := Grow.none (by assumption) hbk.2 | have hbn := Grow.none (by assumption) hbk.2.2 | have hbn := Grow.none (by assumption) hbk.2.2.2 | have hbn := Grow.none (by assumption) hbk.2.2.2.2 | have hbn := Grow.none (by assumption) hbk.2.2.2.2.2)); (try simp only [set_none'] at hbn); (try (first | have hbm := Grow.none (by assumption) hbn | have hbm := Grow.none (by assumption) hbn.2 | have hbm := Grow.none (by assumption) hbn.2.2 | have hbm := Grow.none (by assumption) hbn.2.2.2 | have hbm := Grow.none (by assumption) hbn.2.2.2.2 | have hbm := Grow.none (by assumption) hbn.2.2.2.2.2)); (try simp only [set_none'] at hbm)) | ((first | refine condS_i ?_ ?_ | refine pick_i ?_ ?_ | refine gS_it ?_ ?_ | refine gS_if ?_ ?_ | refine gP_it ?_ ?_ | refine gP_if ?_ ?_) <;> (intro hc; try simp only [Int.reduceLE,Int.reduceLT,Int.reduceEq,Sn] at hc)) | (refine KP_i (by (repeat' (first | exact Heap.Le.refl _ | (refine Le_known (by first | (simp only [Heap.set_same, set_ne, ne_eq, not_false_eq_true, *] <;> rfl) | fail) ?_) | (refine Le_fresh (by first | (simp only [*] <;> done) | (simp [set_none', Heap.set_same, set_ne, *] <;> done) | fail) ?_) | (refine Heap.Le.trans ?_ (Grow.le (by assumption)))))) ?_) | (with_reducible refine And.intro ?_ ?_)) <;> (try simp only [Sq,Sr,Sh,Si,Sl,Bu,Bb,Bd,Bc,Bw,Bn,Int.reduceAdd,Int.reduceSub,Int.reduceMul,Int.reduceTDiv,Int.reduceTMod,Int.reduceMod,Int.reduceDiv,Nat.reduceLT,Nat.reduceEqDiff,Sa,Sb,Sc,Sd,Se,Sf,Sg,Int.reduceLE,Int.reduceLT,Int.reduceToNat,Int.reduceNeg,Int.reduceEq,Nat.reduceLeDiff,Nat.reducePow,Int.reducePow,reduceIte,Nat.reduceSub,Nat.reduceAdd,Nat.reduceMul,putAt,ceq,List.replicate, *]))
    all_goals exact Fin_mk (by (repeat' (first | exact Heap.Le.refl _ | (refine Le_known (by first | (simp only [Heap.set_same, set_ne, ne_eq, not_false_eq_true, *] <;> rfl) | fail) ?_) | (refine Le_fresh (by first | (simp only [*] <;> done) | (simp [set_none', Heap.set_same, set_ne, *] <;> done) | fail) ?_) | (refine Heap.Le.trans ?_ (Grow.le (by assumption)))))) hk
end Go.Proofs.Ytokjajfojjibcaa
