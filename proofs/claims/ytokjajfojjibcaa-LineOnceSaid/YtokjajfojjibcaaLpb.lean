/- Whether two ways are unlike; a plain law of two lines (layer 23). -/
import Derived.Test.YtokjajfojjibcaaLpa
import Derived.Test.YtokjajfojjibcaaLnrp
import Derived.Test.YtokjajfojjibcaaHlu
set_option linter.unusedSimpArgs false
set_option linter.unusedVariables false
set_option maxRecDepth 100000
set_option maxHeartbeats 4000000
namespace Go.Proofs.Ytokjajfojjibcaa
open Go Go.HL Go.RowKit Pb
variable {w0 : World} {H G : Heap} {K : Value → Heap → Prop}

theorem kpo {p : Prop} (h : Keep p) : p := h
def gp (p q : Int) : Int := if p ≤ q then q - p else p - q
def apartB (a b c : Wn) : Bool := (decide (gp a.x b.x < gp a.y b.y) || decide (gp b.x c.x < gp b.y c.y)) || (decide (a.x < b.x) != decide (b.x < c.x))
theorem once_law (a b c : Wn) : ((lineA a b ++ (if apartB a b c = true then [] else lineA b c)).map Fr.key).Nodup ∧ ∀ f ∈ lineA a b ++ (if apartB a b c = true then [] else lineA b c), (0 ≤ f.x ∧ f.x < 64) ∧ 0 ≤ f.y ∧ f.y < 64 := by
  have one : ∀ u v : Wn, ((lineA u v).map Fr.key).Nodup ∧ ∀ f ∈ lineA u v, (0 ≤ f.x ∧ f.x < 64) ∧ 0 ≤ f.y ∧ f.y < 64 := fun u v => by
    unfold lineA
    split
    · obtain ⟨h1, h2⟩ := line_fact (a := u) (b := v) (wide := true) (p := u.x) (q := v.x) (s := u.y) (t := v.y) 64 (Nat.le_refl _)
      exact ⟨h1, fun f hf => (h2 f hf).2.2⟩
    · obtain ⟨h1, h2⟩ := line_fact (a := u) (b := v) (wide := false) (p := u.y) (q := v.y) (s := u.x) (t := v.x) 64 (Nat.le_refl _)
      exact ⟨h1, fun f hf => (h2 f hf).2.2⟩
  obtain ⟨o1, o2⟩ := one a b
  obtain ⟨o3, o4⟩ := one b c
  by_cases hu : apartB a b c = true
  · rw [if_pos hu, List.append_nil]; exact ⟨o1, o2⟩
  · rw [if_neg hu]
    refine ⟨?_, fun f hf => by rcases List.mem_append.1 hf with h | h; exact o2 f h; exact o4 f h⟩
    unfold apartB at hu
    simp only [Bool.or_eq_true, decide_eq_true_eq, not_or] at hu
    obtain ⟨⟨u1, u2⟩, u3⟩ := hu
    have w1 : wideA a b := by unfold wideA; unfold gp at u1; omega
    have w2 : wideA b c := by unfold wideA; unfold gp at u2; omega
    have u4 : (a.x < b.x ↔ b.x < c.x) := by
      by_cases x1 : a.x < b.x <;> by_cases x2 : b.x < c.x <;> first | omega | (simp [x1, x2] at u3)
    rw [List.map_append, List.nodup_append]
    refine ⟨o1, o3, fun k hk k' hk' e => ?_⟩
    obtain ⟨f, hf, rfl⟩ := List.mem_map.1 hk
    obtain ⟨g, hg, rfl⟩ := List.mem_map.1 hk'
    unfold lineA at hf hg
    rw [if_pos w1] at hf
    rw [if_pos w2] at hg
    have f1 := ((line_fact 64 (Nat.le_refl _)).2 f hf).2.1
    have g1 := ((line_fact 64 (Nat.le_refl _)).2 g hg).2.1
    have e1 := congrArg Prod.fst e
    simp only [Fr.key] at e1
    have fa : alongF true f = f.x := rfl
    have ga : alongF true g = g.x := rfl
    rw [fa] at f1
    rw [ga] at g1
    unfold inA at f1 g1
    omega
/- paintbox/paintboxlaw23 apart 1 -/
def M39 : MC :=
  .seq (.reg [⟨(some 4), .mv (.const (.int .i64 0)), none⟩])
 (.seq (.reg [⟨(some 5), .mv (.tmp 0), none⟩,
 ⟨(some 6), .mv (.tmp 1), none⟩,
 ⟨(some 7), .mx (.tmp 5) (.tmp 6), none⟩,
 ⟨(some 8), .mv (.tmp 0), none⟩,
 ⟨(some 9), .mv (.tmp 1), none⟩,
 ⟨(some 10), .mn (.tmp 8) (.tmp 9), none⟩,
 ⟨(some 11), .bin .sub (.tmp 7) (.tmp 10), none⟩,
 ⟨(some 4), .mv (.tmp 11), none⟩])
 (.ret))
theorem k39 : fnOk Try.prog 39 = some (M39, [.t 4], 12) := by kernel_rfl
/- paintbox/paintboxlaw23 apart -/
def M18 : MC :=
  .seq (.reg [⟨(some 3), .box 25 (.tmp 0), none⟩,
 ⟨(some 4), .box 25 (.tmp 1), none⟩,
 ⟨(some 5), .box 25 (.tmp 2), none⟩,
 ⟨(some 6), .mv (.const (.bool false)), none⟩])
 (.seq (.reg [⟨(some 7), .mv (.func 39), none⟩])
 (.seq (.any [(true, 0, [], ⟨(some 8), .mv (.tmp 7), none⟩),
 (true, 1, [], ⟨(some 9), .fa 0 (.tmp 3), none⟩),
 (true, 2, [], ⟨(some 10), .ld1 (.tmp 9), none⟩),
 (true, 3, [], ⟨(some 11), .fa 0 (.tmp 4), none⟩),
 (true, 4, [], ⟨(some 12), .ld1 (.tmp 11), none⟩),
 (true, 6, [], ⟨(some 14), .mv (.tmp 7), none⟩),
 (true, 7, [], ⟨(some 15), .fa 1 (.tmp 3), none⟩),
 (true, 8, [], ⟨(some 16), .ld1 (.tmp 15), none⟩),
 (true, 9, [], ⟨(some 17), .fa 1 (.tmp 4), none⟩),
 (true, 10, [], ⟨(some 18), .ld1 (.tmp 17), none⟩),
 (false, 5, [6, 7, 8, 9, 10, 14, 15, 16, 17, 18, 20, 21, 22, 23, 24, 29, 30, 31, 32, 33, 34, 35], ⟨(some 13), .callv (.tmp 8) [(.tmp 10), (.tmp 12)], none⟩),
 (false, 11, [14, 15, 16, 17, 18, 20, 21, 22, 23, 24, 29, 30, 31, 32, 33, 34, 35], ⟨(some 19), .callv (.tmp 14) [(.tmp 16), (.tmp 18)], none⟩),
 (false, 12, [14, 15, 16, 17, 18, 20, 21, 22, 23, 24, 29, 30, 31, 32, 33, 34, 35], ⟨(some 20), .bin .lss (.tmp 13) (.tmp 19), none⟩),
 (false, 13, [14, 15, 16, 17, 18, 20, 21, 22, 23, 24, 29, 30, 31, 32, 33, 34, 35], ⟨(some 21), .mv (.tmp 20), none⟩),
 (true, 14, [], ⟨(some 22), .mv (.tmp 7), (some (21, false))⟩),
 (true, 15, [], ⟨(some 23), .fa 0 (.tmp 4), (some (21, false))⟩),
 (true, 16, [], ⟨(some 24), .ld1 (.tmp 23), (some (21, false))⟩),
 (true, 17, [], ⟨(some 25), .fa 0 (.tmp 5), (some (21, false))⟩),
 (true, 18, [], ⟨(some 26), .ld1 (.tmp 25), (some (21, false))⟩),
 (true, 20, [], ⟨(some 28), .mv (.tmp 7), (some (21, false))⟩),
 (true, 21, [], ⟨(some 29), .fa 1 (.tmp 4), (some (21, false))⟩),
 (true, 22, [], ⟨(some 30), .ld1 (.tmp 29), (some (21, false))⟩),
 (true, 23, [], ⟨(some 31), .fa 1 (.tmp 5), (some (21, false))⟩),
 (true, 24, [], ⟨(some 32), .ld1 (.tmp 31), (some (21, false))⟩),
 (false, 19, [20, 21, 22, 23, 24, 29, 30, 31, 32, 33, 34, 35], ⟨(some 27), .callv (.tmp 22) [(.tmp 24), (.tmp 26)], (some (21, false))⟩),
 (false, 25, [29, 30, 31, 32, 33, 34, 35], ⟨(some 33), .callv (.tmp 28) [(.tmp 30), (.tmp 32)], (some (21, false))⟩),
 (false, 26, [29, 30, 31, 32, 33, 34, 35], ⟨(some 34), .bin .lss (.tmp 27) (.tmp 33), (some (21, false))⟩),
 (false, 27, [29, 30, 31, 32, 33, 34, 35], ⟨(some 35), .pick (.tmp 21) (.const (.bool true)) (.tmp 34), none⟩),
 (false, 28, [29, 30, 31, 32, 33, 34, 35], ⟨(some 36), .mv (.tmp 35), none⟩),
 (true, 29, [], ⟨(some 37), .fa 0 (.tmp 4), (some (36, false))⟩),
 (true, 30, [], ⟨(some 38), .ld1 (.tmp 37), (some (36, false))⟩),
 (true, 31, [], ⟨(some 39), .fa 0 (.tmp 3), (some (36, false))⟩),
 (true, 32, [], ⟨(some 40), .ld1 (.tmp 39), (some (36, false))⟩),
 (true, 33, [], ⟨(some 41), .bin .gtr (.tmp 38) (.tmp 40), (some (36, false))⟩),
 (true, 34, [], ⟨(some 42), .fa 0 (.tmp 5), (some (36, false))⟩),
 (true, 35, [], ⟨(some 43), .ld1 (.tmp 42), (some (36, false))⟩),
 (false, 36, [29, 30, 31, 32, 33, 34, 35], ⟨(some 44), .fa 0 (.tmp 4), (some (36, false))⟩),
 (false, 37, [29, 30, 31, 32, 33, 34, 35], ⟨(some 45), .ld1 (.tmp 44), (some (36, false))⟩),
 (false, 38, [29, 30, 31, 32, 33], ⟨(some 46), .bin .gtr (.tmp 43) (.tmp 45), (some (36, false))⟩),
 (false, 39, [], ⟨(some 47), .eqb true (.tmp 41) (.tmp 46), (some (36, false))⟩),
 (false, 40, [], ⟨(some 48), .pick (.tmp 36) (.const (.bool true)) (.tmp 47), none⟩),
 (false, 41, [], ⟨(some 6), .mv (.tmp 48), none⟩)])
 (.ret)))
theorem k18 : fnOk Try.prog 18 = some (M18, [.t 6], 49) := by kernel_rfl

theorem c_gap1 (p q : Int) (hp : 0 ≤ p ∧ p ≤ 16384) (hq : 0 ≤ q ∧ q ≤ 16384) (h : K (.int .i64 (gp p q)) H) : HCalls Try.prog w0 39 [.int .i64 p, .int .i64 q] H K := by
  unfold gp at h
  by_cases h1 : p < q
  · rw [if_pos (by omega)] at h
    have e1 : ¬ q < p := by omega
    have w1 : IntKind.i64.wrap (q - p) = q - p := Bw.1 _ (by omega) (by omega)
    refine HL.hc k39 999 ?_; unfold M39
    (all_goals (try simp only [Sq,Sr,Sh,Si,Sl,Bu,Bb,Bd,Bc,Bw,Bn,Int.reduceAdd,Int.reduceSub,Int.reduceMul,Int.reduceTDiv,Int.reduceTMod,Int.reduceMod,Int.reduceDiv,Nat.reduceLT,Nat.reduceEqDiff,Sa,Sb,Sc,Sd,Se,Sf,Sg,Int.reduceLE,Int.reduceLT,Int.reduceToNat,Int.reduceNeg,Int.reduceEq,Nat.reduceLeDiff,Nat.reducePow,Int.reducePow,reduceIte,Nat.reduceSub,Nat.reduceAdd,Nat.reduceMul,putAt,ceq,List.replicate, *])); repeat' ((first | (with_reducible refine fun _ : True => ?_) | (with_reducible refine any_h ?_) | ((first | refine AllocQ_i ?_ | refine AllocO_i ?_); intro bk hb0 hbk; (try simp only [set_none'] at hbk); (try (first | have hbn := Grow.none (by assumption) hbk | have hbn := Grow.none (by assumption) hbk.2 | have hbn := Grow.none (by assumption) hbk.2.2 | have hbn := Grow.none (by assumption) hbk.2.2.2 | have hbn := Grow.none (by assumption) hbk.2.2.2.2 | have hbn := Grow.none (by assumption) hbk.2.2.2.2.2)); (try simp only [set_none'] at hbn); (try (first | have hbm := Grow.none (by assumption) hbn | have hbm := Grow.none (by assumption) hbn.2 | have hbm := Grow.none (by assumption) hbn.2.2 | have hbm := Grow.none (by assumption) hbn.2.2.2 | have hbm := Grow.none (by assumption) hbn.2.2.2.2 | have hbm := Grow.none (by assumption) hbn.2.2.2.2.2)); (try simp only [set_none'] at hbm)) | ((first | refine condS_i ?_ ?_ | refine pick_i ?_ ?_ | refine gS_it ?_ ?_ | refine gS_if ?_ ?_ | refine gP_it ?_ ?_ | refine gP_if ?_ ?_) <;> (intro hc; try simp only [Int.reduceLE,Int.reduceLT,Int.reduceEq,Sn] at hc)) | (with_reducible refine KP_i ?_ ?_; · (repeat' (first | exact Heap.Le.refl _ | (with_reducible refine Le_set2 ?_) | (refine Le_known (by first | (simp only [Heap.set_same, set_ne, ne_eq, not_false_eq_true, *] <;> rfl) | fail) ?_) | (refine Le_fresh (by first | (simp only [*] <;> done) | (simp [set_none', Heap.set_same, set_ne, noneH, *] <;> done) | fail) ?_) | (refine Heap.Le.trans ?_ (Grow.le (by assumption))) | exact Le_none | (refine Le_put ?_ (by first | (simp only [Heap.set_same, set_ne, ne_eq, not_false_eq_true, *] <;> rfl) | fail)) | fail))) | (with_reducible refine And.intro ?_ ?_)) <;> (try simp only [Sq,Sr,Sh,Si,Sl,Bu,Bb,Bd,Bc,Bw,Bn,Int.reduceAdd,Int.reduceSub,Int.reduceMul,Int.reduceTDiv,Int.reduceTMod,Int.reduceMod,Int.reduceDiv,Nat.reduceLT,Nat.reduceEqDiff,Sa,Sb,Sc,Sd,Se,Sf,Sg,Int.reduceLE,Int.reduceLT,Int.reduceToNat,Int.reduceNeg,Int.reduceEq,Nat.reduceLeDiff,Nat.reducePow,Int.reducePow,reduceIte,Nat.reduceSub,Nat.reduceAdd,Nat.reduceMul,putAt,ceq,List.replicate, *]))
    exact Fin_mk (Heap.Le.refl _) h
  · by_cases h2 : q < p
    · rw [if_neg (by omega)] at h
      have w1 : IntKind.i64.wrap (p - q) = p - q := Bw.1 _ (by omega) (by omega)
      refine HL.hc k39 999 ?_; unfold M39
      (all_goals (try simp only [Sq,Sr,Sh,Si,Sl,Bu,Bb,Bd,Bc,Bw,Bn,Int.reduceAdd,Int.reduceSub,Int.reduceMul,Int.reduceTDiv,Int.reduceTMod,Int.reduceMod,Int.reduceDiv,Nat.reduceLT,Nat.reduceEqDiff,Sa,Sb,Sc,Sd,Se,Sf,Sg,Int.reduceLE,Int.reduceLT,Int.reduceToNat,Int.reduceNeg,Int.reduceEq,Nat.reduceLeDiff,Nat.reducePow,Int.reducePow,reduceIte,Nat.reduceSub,Nat.reduceAdd,Nat.reduceMul,putAt,ceq,List.replicate, *])); repeat' ((first | (with_reducible refine fun _ : True => ?_) | (with_reducible refine any_h ?_) | ((first | refine AllocQ_i ?_ | refine AllocO_i ?_); intro bk hb0 hbk; (try simp only [set_none'] at hbk); (try (first | have hbn := Grow.none (by assumption) hbk | have hbn := Grow.none (by assumption) hbk.2 | have hbn := Grow.none (by assumption) hbk.2.2 | have hbn := Grow.none (by assumption) hbk.2.2.2 | have hbn := Grow.none (by assumption) hbk.2.2.2.2 | have hbn := Grow.none (by assumption) hbk.2.2.2.2.2)); (try simp only [set_none'] at hbn); (try (first | have hbm := Grow.none (by assumption) hbn | have hbm := Grow.none (by assumption) hbn.2 | have hbm := Grow.none (by assumption) hbn.2.2 | have hbm := Grow.none (by assumption) hbn.2.2.2 | have hbm := Grow.none (by assumption) hbn.2.2.2.2 | have hbm := Grow.none (by assumption) hbn.2.2.2.2.2)); (try simp only [set_none'] at hbm)) | ((first | refine condS_i ?_ ?_ | refine pick_i ?_ ?_ | refine gS_it ?_ ?_ | refine gS_if ?_ ?_ | refine gP_it ?_ ?_ | refine gP_if ?_ ?_) <;> (intro hc; try simp only [Int.reduceLE,Int.reduceLT,Int.reduceEq,Sn] at hc)) | (with_reducible refine KP_i ?_ ?_; · (repeat' (first | exact Heap.Le.refl _ | (with_reducible refine Le_set2 ?_) | (refine Le_known (by first | (simp only [Heap.set_same, set_ne, ne_eq, not_false_eq_true, *] <;> rfl) | fail) ?_) | (refine Le_fresh (by first | (simp only [*] <;> done) | (simp [set_none', Heap.set_same, set_ne, noneH, *] <;> done) | fail) ?_) | (refine Heap.Le.trans ?_ (Grow.le (by assumption))) | exact Le_none | (refine Le_put ?_ (by first | (simp only [Heap.set_same, set_ne, ne_eq, not_false_eq_true, *] <;> rfl) | fail)) | fail))) | (with_reducible refine And.intro ?_ ?_)) <;> (try simp only [Sq,Sr,Sh,Si,Sl,Bu,Bb,Bd,Bc,Bw,Bn,Int.reduceAdd,Int.reduceSub,Int.reduceMul,Int.reduceTDiv,Int.reduceTMod,Int.reduceMod,Int.reduceDiv,Nat.reduceLT,Nat.reduceEqDiff,Sa,Sb,Sc,Sd,Se,Sf,Sg,Int.reduceLE,Int.reduceLT,Int.reduceToNat,Int.reduceNeg,Int.reduceEq,Nat.reduceLeDiff,Nat.reducePow,Int.reducePow,reduceIte,Nat.reduceSub,Nat.reduceAdd,Nat.reduceMul,putAt,ceq,List.replicate, *]))
      exact Fin_mk (Heap.Le.refl _) h
    · obtain rfl : p = q := by omega
      rw [if_pos (by omega)] at h
      have e1 : IntKind.i64.wrap (p - p) = p - p := Bw.1 _ (by omega) (by omega)
      refine HL.hc k39 999 ?_; unfold M39
      (all_goals (try simp only [Sq,Sr,Sh,Si,Sl,Bu,Bb,Bd,Bc,Bw,Bn,Int.reduceAdd,Int.reduceSub,Int.reduceMul,Int.reduceTDiv,Int.reduceTMod,Int.reduceMod,Int.reduceDiv,Nat.reduceLT,Nat.reduceEqDiff,Sa,Sb,Sc,Sd,Se,Sf,Sg,Int.reduceLE,Int.reduceLT,Int.reduceToNat,Int.reduceNeg,Int.reduceEq,Nat.reduceLeDiff,Nat.reducePow,Int.reducePow,reduceIte,Nat.reduceSub,Nat.reduceAdd,Nat.reduceMul,putAt,ceq,List.replicate, *])); repeat' ((first | (with_reducible refine fun _ : True => ?_) | (with_reducible refine any_h ?_) | ((first | refine AllocQ_i ?_ | refine AllocO_i ?_); intro bk hb0 hbk; (try simp only [set_none'] at hbk); (try (first | have hbn := Grow.none (by assumption) hbk | have hbn := Grow.none (by assumption) hbk.2 | have hbn := Grow.none (by assumption) hbk.2.2 | have hbn := Grow.none (by assumption) hbk.2.2.2 | have hbn := Grow.none (by assumption) hbk.2.2.2.2 | have hbn := Grow.none (by assumption) hbk.2.2.2.2.2)); (try simp only [set_none'] at hbn); (try (first | have hbm := Grow.none (by assumption) hbn | have hbm := Grow.none (by assumption) hbn.2 | have hbm := Grow.none (by assumption) hbn.2.2 | have hbm := Grow.none (by assumption) hbn.2.2.2 | have hbm := Grow.none (by assumption) hbn.2.2.2.2 | have hbm := Grow.none (by assumption) hbn.2.2.2.2.2)); (try simp only [set_none'] at hbm)) | ((first | refine condS_i ?_ ?_ | refine pick_i ?_ ?_ | refine gS_it ?_ ?_ | refine gS_if ?_ ?_ | refine gP_it ?_ ?_ | refine gP_if ?_ ?_) <;> (intro hc; try simp only [Int.reduceLE,Int.reduceLT,Int.reduceEq,Sn] at hc)) | (with_reducible refine KP_i ?_ ?_; · (repeat' (first | exact Heap.Le.refl _ | (with_reducible refine Le_set2 ?_) | (refine Le_known (by first | (simp only [Heap.set_same, set_ne, ne_eq, not_false_eq_true, *] <;> rfl) | fail) ?_) | (refine Le_fresh (by first | (simp only [*] <;> done) | (simp [set_none', Heap.set_same, set_ne, noneH, *] <;> done) | fail) ?_) | (refine Heap.Le.trans ?_ (Grow.le (by assumption))) | exact Le_none | (refine Le_put ?_ (by first | (simp only [Heap.set_same, set_ne, ne_eq, not_false_eq_true, *] <;> rfl) | fail)) | fail))) | (with_reducible refine And.intro ?_ ?_)) <;> (try simp only [Sq,Sr,Sh,Si,Sl,Bu,Bb,Bd,Bc,Bw,Bn,Int.reduceAdd,Int.reduceSub,Int.reduceMul,Int.reduceTDiv,Int.reduceTMod,Int.reduceMod,Int.reduceDiv,Nat.reduceLT,Nat.reduceEqDiff,Sa,Sb,Sc,Sd,Se,Sf,Sg,Int.reduceLE,Int.reduceLT,Int.reduceToNat,Int.reduceNeg,Int.reduceEq,Nat.reduceLeDiff,Nat.reducePow,Int.reducePow,reduceIte,Nat.reduceSub,Nat.reduceAdd,Nat.reduceMul,putAt,ceq,List.replicate, *]))
      exact Fin_mk (Heap.Le.refl _) h
theorem c_apart (x y z : WnR) (hx : x.right) (hy : y.right) (hz : z.right) (h : K (.bool (apartB x.toWn y.toWn z.toWn)) H) : HCalls Try.prog w0 18 [x.v, y.v, z.v] H K := by
  have c1 := fun (G : Heap) (K : Value → Heap → Prop) => c_gap1 (w0 := w0) (H := G) (K := K) x.x y.x hx.1 hy.1
  have c2 := fun (G : Heap) (K : Value → Heap → Prop) => c_gap1 (w0 := w0) (H := G) (K := K) x.y y.y hx.2.1 hy.2.1
  have c3 := fun (G : Heap) (K : Value → Heap → Prop) => c_gap1 (w0 := w0) (H := G) (K := K) y.x z.x hy.1 hz.1
  have c4 := fun (G : Heap) (K : Value → Heap → Prop) => c_gap1 (w0 := w0) (H := G) (K := K) y.y z.y hy.2.1 hz.2.1
  unfold apartB at h
  generalize gp x.x y.x = g1 at c1 h
  generalize gp x.y y.y = g2 at c2 h
  generalize gp y.x z.x = g3 at c3 h
  generalize gp y.y z.y = g4 at c4 h
  obtain ⟨u1, e1⟩ : ∃ u, decide (g1 < g2) = u := ⟨_, rfl⟩
  obtain ⟨u2, e2⟩ : ∃ u, decide (g3 < g4) = u := ⟨_, rfl⟩
  rw [e1, e2] at h
  unfold WnR.v
  clear hx hy hz
  replace h : Keep _ := h
  replace c1 : Keep _ := c1
  replace c2 : Keep _ := c2
  replace c3 : Keep _ := c3
  replace c4 : Keep _ := c4
  cases u1
  · cases u2
    · refine HL.hc k18 999 ?_; unfold M18
      (all_goals (try simp only [Sq,Sr,Sh,Si,Sl,Bu,Bb,Bd,Bc,Bw,Bn,Int.reduceAdd,Int.reduceSub,Int.reduceMul,Int.reduceTDiv,Int.reduceTMod,Int.reduceMod,Int.reduceDiv,Nat.reduceLT,Nat.reduceEqDiff,Sa,Sb,Sc,Sd,Se,Sf,Sg,Int.reduceLE,Int.reduceLT,Int.reduceToNat,Int.reduceNeg,Int.reduceEq,Nat.reduceLeDiff,Nat.reducePow,Int.reducePow,reduceIte,Nat.reduceSub,Nat.reduceAdd,Nat.reduceMul,putAt,ceq,List.replicate, *])); repeat' ((first | (with_reducible refine fun _ : True => ?_) | refine c1 _ _ ?_ | refine c2 _ _ ?_ | refine c3 _ _ ?_ | refine c4 _ _ ?_ | (with_reducible refine any_h ?_) | ((first | refine AllocQ_i ?_ | refine AllocO_i ?_); intro bk hb0 hbk; (try simp only [set_none'] at hbk); (try (first | have hbn := Grow.none (by assumption) hbk | have hbn := Grow.none (by assumption) hbk.2 | have hbn := Grow.none (by assumption) hbk.2.2 | have hbn := Grow.none (by assumption) hbk.2.2.2 | have hbn := Grow.none (by assumption) hbk.2.2.2.2 | have hbn := Grow.none (by assumption) hbk.2.2.2.2.2)); (try simp only [set_none'] at hbn); (try (first | have hbm := Grow.none (by assumption) hbn | have hbm := Grow.none (by assumption) hbn.2 | have hbm := Grow.none (by assumption) hbn.2.2 | have hbm := Grow.none (by assumption) hbn.2.2.2 | have hbm := Grow.none (by assumption) hbn.2.2.2.2 | have hbm := Grow.none (by assumption) hbn.2.2.2.2.2)); (try simp only [set_none'] at hbm)) | ((first | refine condS_i ?_ ?_ | refine pick_i ?_ ?_ | refine gS_it ?_ ?_ | refine gS_if ?_ ?_ | refine gP_it ?_ ?_ | refine gP_if ?_ ?_) <;> (intro hc; try simp only [Int.reduceLE,Int.reduceLT,Int.reduceEq,Sn] at hc)) | (with_reducible refine KP_i ?_ ?_; · (repeat' (first | exact Heap.Le.refl _ | (with_reducible refine Le_set2 ?_) | (refine Le_known (by first | (simp only [Heap.set_same, set_ne, ne_eq, not_false_eq_true, *] <;> rfl) | fail) ?_) | (refine Le_fresh (by first | (simp only [*] <;> done) | (simp [set_none', Heap.set_same, set_ne, noneH, *] <;> done) | fail) ?_) | (refine Heap.Le.trans ?_ (Grow.le (by assumption))) | exact Le_none | (refine Le_put ?_ (by first | (simp only [Heap.set_same, set_ne, ne_eq, not_false_eq_true, *] <;> rfl) | fail)) | fail))) | (with_reducible refine And.intro ?_ ?_)) <;> (try simp only [Sq,Sr,Sh,Si,Sl,Bu,Bb,Bd,Bc,Bw,Bn,Int.reduceAdd,Int.reduceSub,Int.reduceMul,Int.reduceTDiv,Int.reduceTMod,Int.reduceMod,Int.reduceDiv,Nat.reduceLT,Nat.reduceEqDiff,Sa,Sb,Sc,Sd,Se,Sf,Sg,Int.reduceLE,Int.reduceLT,Int.reduceToNat,Int.reduceNeg,Int.reduceEq,Nat.reduceLeDiff,Nat.reducePow,Int.reducePow,reduceIte,Nat.reduceSub,Nat.reduceAdd,Nat.reduceMul,putAt,ceq,List.replicate, *]))
      exact Fin_mk (by (repeat' (first | exact Heap.Le.refl _ | (with_reducible refine Le_set2 ?_) | (refine Le_known (by first | (simp only [Heap.set_same, set_ne, ne_eq, not_false_eq_true, *] <;> rfl) | fail) ?_) | (refine Le_fresh (by first | (simp only [*] <;> done) | (simp [set_none', Heap.set_same, set_ne, noneH, *] <;> done) | fail) ?_) | (refine Heap.Le.trans ?_ (Grow.le (by assumption))) | exact Le_none | (refine Le_put ?_ (by first | (simp only [Heap.set_same, set_ne, ne_eq, not_false_eq_true, *] <;> rfl) | fail)) | fail))) (kpo h)
    · refine HL.hc k18 999 ?_; unfold M18
      (all_goals (try simp only [Sq,Sr,Sh,Si,Sl,Bu,Bb,Bd,Bc,Bw,Bn,Int.reduceAdd,Int.reduceSub,Int.reduceMul,Int.reduceTDiv,Int.reduceTMod,Int.reduceMod,Int.reduceDiv,Nat.reduceLT,Nat.reduceEqDiff,Sa,Sb,Sc,Sd,Se,Sf,Sg,Int.reduceLE,Int.reduceLT,Int.reduceToNat,Int.reduceNeg,Int.reduceEq,Nat.reduceLeDiff,Nat.reducePow,Int.reducePow,reduceIte,Nat.reduceSub,Nat.reduceAdd,Nat.reduceMul,putAt,ceq,List.replicate, *])); repeat' ((first | (with_reducible refine fun _ : True => ?_) | refine c1 _ _ ?_ | refine c2 _ _ ?_ | refine c3 _ _ ?_ | refine c4 _ _ ?_ | (with_reducible refine any_h ?_) | ((first | refine AllocQ_i ?_ | refine AllocO_i ?_); intro bk hb0 hbk; (try simp only [set_none'] at hbk); (try (first | have hbn := Grow.none (by assumption) hbk | have hbn := Grow.none (by assumption) hbk.2 | have hbn := Grow.none (by assumption) hbk.2.2 | have hbn := Grow.none (by assumption) hbk.2.2.2 | have hbn := Grow.none (by assumption) hbk.2.2.2.2 | have hbn := Grow.none (by assumption) hbk.2.2.2.2.2)); (try simp only [set_none'] at hbn); (try (first | have hbm := Grow.none (by assumption) hbn | have hbm := Grow.none (by assumption) hbn.2 | have hbm := Grow.none (by assumption) hbn.2.2 | have hbm := Grow.none (by assumption) hbn.2.2.2 | have hbm := Grow.none (by assumption) hbn.2.2.2.2 | have hbm := Grow.none (by assumption) hbn.2.2.2.2.2)); (try simp only [set_none'] at hbm)) | ((first | refine condS_i ?_ ?_ | refine pick_i ?_ ?_ | refine gS_it ?_ ?_ | refine gS_if ?_ ?_ | refine gP_it ?_ ?_ | refine gP_if ?_ ?_) <;> (intro hc; try simp only [Int.reduceLE,Int.reduceLT,Int.reduceEq,Sn] at hc)) | (with_reducible refine KP_i ?_ ?_; · (repeat' (first | exact Heap.Le.refl _ | (with_reducible refine Le_set2 ?_) | (refine Le_known (by first | (simp only [Heap.set_same, set_ne, ne_eq, not_false_eq_true, *] <;> rfl) | fail) ?_) | (refine Le_fresh (by first | (simp only [*] <;> done) | (simp [set_none', Heap.set_same, set_ne, noneH, *] <;> done) | fail) ?_) | (refine Heap.Le.trans ?_ (Grow.le (by assumption))) | exact Le_none | (refine Le_put ?_ (by first | (simp only [Heap.set_same, set_ne, ne_eq, not_false_eq_true, *] <;> rfl) | fail)) | fail))) | (with_reducible refine And.intro ?_ ?_)) <;> (try simp only [Sq,Sr,Sh,Si,Sl,Bu,Bb,Bd,Bc,Bw,Bn,Int.reduceAdd,Int.reduceSub,Int.reduceMul,Int.reduceTDiv,Int.reduceTMod,Int.reduceMod,Int.reduceDiv,Nat.reduceLT,Nat.reduceEqDiff,Sa,Sb,Sc,Sd,Se,Sf,Sg,Int.reduceLE,Int.reduceLT,Int.reduceToNat,Int.reduceNeg,Int.reduceEq,Nat.reduceLeDiff,Nat.reducePow,Int.reducePow,reduceIte,Nat.reduceSub,Nat.reduceAdd,Nat.reduceMul,putAt,ceq,List.replicate, *]))
      exact Fin_mk (by (repeat' (first | exact Heap.Le.refl _ | (with_reducible refine Le_set2 ?_) | (refine Le_known (by first | (simp only [Heap.set_same, set_ne, ne_eq, not_false_eq_true, *] <;> rfl) | fail) ?_) | (refine Le_fresh (by first | (simp only [*] <;> done) | (simp [set_none', Heap.set_same, set_ne, noneH, *] <;> done) | fail) ?_) | (refine Heap.Le.trans ?_ (Grow.le (by assumption))) | exact Le_none | (refine Le_put ?_ (by first | (simp only [Heap.set_same, set_ne, ne_eq, not_false_eq_true, *] <;> rfl) | fail)) | fail))) (kpo h)
  · refine HL.hc k18 999 ?_; unfold M18
    (all_goals (try simp only [Sq,Sr,Sh,Si,Sl,Bu,Bb,Bd,Bc,Bw,Bn,Int.reduceAdd,Int.reduceSub,Int.reduceMul,Int.reduceTDiv,Int.reduceTMod,Int.reduceMod,Int.reduceDiv,Nat.reduceLT,Nat.reduceEqDiff,Sa,Sb,Sc,Sd,Se,Sf,Sg,Int.reduceLE,Int.reduceLT,Int.reduceToNat,Int.reduceNeg,Int.reduceEq,Nat.reduceLeDiff,Nat.reducePow,Int.reducePow,reduceIte,Nat.reduceSub,Nat.reduceAdd,Nat.reduceMul,putAt,ceq,List.replicate, *])); repeat' ((first | (with_reducible refine fun _ : True => ?_) | refine c1 _ _ ?_ | refine c2 _ _ ?_ | refine c3 _ _ ?_ | refine c4 _ _ ?_ | (with_reducible refine any_h ?_) | ((first | refine AllocQ_i ?_ | refine AllocO_i ?_); intro bk hb0 hbk; (try simp only [set_none'] at hbk); (try (first | have hbn := Grow.none (by assumption) hbk | have hbn := Grow.none (by assumption) hbk.2 | have hbn := Grow.none (by assumption) hbk.2.2 | have hbn := Grow.none (by assumption) hbk.2.2.2 | have hbn := Grow.none (by assumption) hbk.2.2.2.2 | have hbn := Grow.none (by assumption) hbk.2.2.2.2.2)); (try simp only [set_none'] at hbn); (try (first | have hbm := Grow.none (by assumption) hbn | have hbm := Grow.none (by assumption) hbn.2 | have hbm := Grow.none (by assumption) hbn.2.2 | have hbm := Grow.none (by assumption) hbn.2.2.2 | have hbm := Grow.none (by assumption) hbn.2.2.2.2 | have hbm := Grow.none (by assumption) hbn.2.2.2.2.2)); (try simp only [set_none'] at hbm)) | ((first | refine condS_i ?_ ?_ | refine pick_i ?_ ?_ | refine gS_it ?_ ?_ | refine gS_if ?_ ?_ | refine gP_it ?_ ?_ | refine gP_if ?_ ?_) <;> (intro hc; try simp only [Int.reduceLE,Int.reduceLT,Int.reduceEq,Sn] at hc)) | (with_reducible refine KP_i ?_ ?_; · (repeat' (first | exact Heap.Le.refl _ | (with_reducible refine Le_set2 ?_) | (refine Le_known (by first | (simp only [Heap.set_same, set_ne, ne_eq, not_false_eq_true, *] <;> rfl) | fail) ?_) | (refine Le_fresh (by first | (simp only [*] <;> done) | (simp [set_none', Heap.set_same, set_ne, noneH, *] <;> done) | fail) ?_) | (refine Heap.Le.trans ?_ (Grow.le (by assumption))) | exact Le_none | (refine Le_put ?_ (by first | (simp only [Heap.set_same, set_ne, ne_eq, not_false_eq_true, *] <;> rfl) | fail)) | fail))) | (with_reducible refine And.intro ?_ ?_)) <;> (try simp only [Sq,Sr,Sh,Si,Sl,Bu,Bb,Bd,Bc,Bw,Bn,Int.reduceAdd,Int.reduceSub,Int.reduceMul,Int.reduceTDiv,Int.reduceTMod,Int.reduceMod,Int.reduceDiv,Nat.reduceLT,Nat.reduceEqDiff,Sa,Sb,Sc,Sd,Se,Sf,Sg,Int.reduceLE,Int.reduceLT,Int.reduceToNat,Int.reduceNeg,Int.reduceEq,Nat.reduceLeDiff,Nat.reducePow,Int.reducePow,reduceIte,Nat.reduceSub,Nat.reduceAdd,Nat.reduceMul,putAt,ceq,List.replicate, *]))
    exact Fin_mk (by (repeat' (first | exact Heap.Le.refl _ | (with_reducible refine Le_set2 ?_) | (refine Le_known (by first | (simp only [Heap.set_same, set_ne, ne_eq, not_false_eq_true, *] <;> rfl) | fail) ?_) | (refine Le_fresh (by first | (simp only [*] <;> done) | (simp [set_none', Heap.set_same, set_ne, noneH, *] <;> done) | fail) ?_) | (refine Heap.Le.trans ?_ (Grow.le (by assumption))) | exact Le_none | (refine Le_put ?_ (by first | (simp only [Heap.set_same, set_ne, ne_eq, not_false_eq_true, *] <;> rfl) | fail)) | fail))) (kpo h)
end Go.Proofs.Ytokjajfojjibcaa
