/- Where a piece lies, by the reference (layer 8). -/
import Derived.Test.YtdaipgnhconfnaaIrf
set_option linter.unusedSimpArgs false
set_option linter.unusedVariables false
set_option maxRecDepth 100000
set_option maxHeartbeats 4000000
namespace Go.Proofs.Ytdaipgnhconfnaa
open Go Go.HL Go.RowKit Pb
variable {w0 : World} {H G : Heap} {K : Value → Heap → Prop}

/- paintboxref08 there -/
def M43 : MC :=
  .seq (.reg [⟨(some 2), .box 24 (.tmp 0), none⟩,
 ⟨(some 4), .mv (.const (.bool false)), none⟩])
 (.seq (.reg [⟨(some 5), .mv (.tmp 1), none⟩,
 ⟨(some 6), .bin .geq (.tmp 5) (.const (.int .i64 0)), none⟩,
 ⟨(some 7), .mv (.tmp 6), none⟩,
 ⟨(some 8), .mv (.tmp 1), (some (7, true))⟩,
 ⟨(some 9), .fa 1 (.tmp 2), (some (7, true))⟩,
 ⟨(some 10), .ld1 (.tmp 9), (some (7, true))⟩,
 ⟨(some 11), .len (.tmp 10), (some (7, true))⟩,
 ⟨(some 12), .bin .lss (.tmp 8) (.tmp 11), (some (7, true))⟩,
 ⟨(some 13), .pick (.tmp 7) (.tmp 12) (.const (.bool false)), none⟩,
 ⟨(some 14), .mv (.tmp 13), none⟩,
 ⟨(some 15), .fa 1 (.tmp 2), (some (14, true))⟩,
 ⟨(some 16), .ld1 (.tmp 15), (some (14, true))⟩,
 ⟨(some 17), .mv (.tmp 1), (some (14, true))⟩,
 ⟨(some 18), .is 3 (.tmp 16) (.tmp 17), (some (14, true))⟩,
 ⟨(some 19), .ldn 3 (.tmp 18), (some (14, true))⟩,
 ⟨(some 20), .call 58 [(.tmp 19)], (some (14, true))⟩,
 ⟨(some 21), .un .not (.tmp 20), (some (14, true))⟩,
 ⟨(some 22), .pick (.tmp 14) (.tmp 21) (.const (.bool false)), none⟩,
 ⟨(some 4), .mv (.tmp 22), none⟩])
 (.ret))
theorem k43 : fnOk Try.prog 43 = some (M43, [.t 4], 23) := by kernel_rfl
/- paintboxref08 within -/
def M61 : MC :=
  .seq (.reg [⟨(some 2), .box 38 (.tmp 0), none⟩,
 ⟨(some 3), .box 49 (.tmp 1), none⟩,
 ⟨(some 4), .mv (.const (.bool false)), none⟩])
 (.seq (.reg [⟨(some 5), .fa 0 (.tmp 3), none⟩,
 ⟨(some 6), .ld1 (.tmp 5), none⟩,
 ⟨(some 7), .bin .geq (.tmp 6) (.const (.int .i64 0)), none⟩,
 ⟨(some 8), .mv (.tmp 7), none⟩,
 ⟨(some 9), .fa 1 (.tmp 3), (some (8, true))⟩,
 ⟨(some 10), .ld1 (.tmp 9), (some (8, true))⟩,
 ⟨(some 11), .bin .geq (.tmp 10) (.const (.int .i64 0)), (some (8, true))⟩,
 ⟨(some 12), .pick (.tmp 8) (.tmp 11) (.const (.bool false)), none⟩,
 ⟨(some 13), .mv (.tmp 12), none⟩,
 ⟨(some 14), .fa 2 (.tmp 3), (some (13, true))⟩,
 ⟨(some 15), .ld1 (.tmp 14), (some (13, true))⟩,
 ⟨(some 16), .bin .geq (.tmp 15) (.const (.int .i64 0)), (some (13, true))⟩,
 ⟨(some 17), .pick (.tmp 13) (.tmp 16) (.const (.bool false)), none⟩,
 ⟨(some 18), .mv (.tmp 17), none⟩,
 ⟨(some 19), .fa 3 (.tmp 3), (some (18, true))⟩,
 ⟨(some 20), .ld1 (.tmp 19), (some (18, true))⟩,
 ⟨(some 21), .bin .geq (.tmp 20) (.const (.int .i64 0)), (some (18, true))⟩,
 ⟨(some 22), .pick (.tmp 18) (.tmp 21) (.const (.bool false)), none⟩,
 ⟨(some 23), .mv (.tmp 22), none⟩,
 ⟨(some 24), .fa 0 (.tmp 3), (some (23, true))⟩,
 ⟨(some 25), .ld1 (.tmp 24), (some (23, true))⟩,
 ⟨(some 26), .fa 0 (.tmp 2), (some (23, true))⟩,
 ⟨(some 27), .ld1 (.tmp 26), (some (23, true))⟩,
 ⟨(some 28), .bin .leq (.tmp 25) (.tmp 27), (some (23, true))⟩,
 ⟨(some 29), .pick (.tmp 23) (.tmp 28) (.const (.bool false)), none⟩,
 ⟨(some 30), .mv (.tmp 29), none⟩,
 ⟨(some 31), .fa 1 (.tmp 3), (some (30, true))⟩,
 ⟨(some 32), .ld1 (.tmp 31), (some (30, true))⟩,
 ⟨(some 33), .fa 1 (.tmp 2), (some (30, true))⟩,
 ⟨(some 34), .ld1 (.tmp 33), (some (30, true))⟩,
 ⟨(some 35), .bin .leq (.tmp 32) (.tmp 34), (some (30, true))⟩,
 ⟨(some 36), .pick (.tmp 30) (.tmp 35) (.const (.bool false)), none⟩,
 ⟨(some 37), .mv (.tmp 36), none⟩,
 ⟨(some 38), .fa 2 (.tmp 3), (some (37, true))⟩,
 ⟨(some 39), .ld1 (.tmp 38), (some (37, true))⟩,
 ⟨(some 40), .fa 0 (.tmp 2), (some (37, true))⟩,
 ⟨(some 41), .ld1 (.tmp 40), (some (37, true))⟩,
 ⟨(some 42), .fa 0 (.tmp 3), (some (37, true))⟩,
 ⟨(some 43), .ld1 (.tmp 42), (some (37, true))⟩,
 ⟨(some 44), .bin .sub (.tmp 41) (.tmp 43), (some (37, true))⟩,
 ⟨(some 45), .bin .leq (.tmp 39) (.tmp 44), (some (37, true))⟩,
 ⟨(some 46), .pick (.tmp 37) (.tmp 45) (.const (.bool false)), none⟩,
 ⟨(some 47), .mv (.tmp 46), none⟩,
 ⟨(some 48), .fa 3 (.tmp 3), (some (47, true))⟩,
 ⟨(some 49), .ld1 (.tmp 48), (some (47, true))⟩,
 ⟨(some 50), .fa 1 (.tmp 2), (some (47, true))⟩,
 ⟨(some 51), .ld1 (.tmp 50), (some (47, true))⟩,
 ⟨(some 52), .fa 1 (.tmp 3), (some (47, true))⟩,
 ⟨(some 53), .ld1 (.tmp 52), (some (47, true))⟩,
 ⟨(some 54), .bin .sub (.tmp 51) (.tmp 53), (some (47, true))⟩,
 ⟨(some 55), .bin .leq (.tmp 49) (.tmp 54), (some (47, true))⟩,
 ⟨(some 56), .pick (.tmp 47) (.tmp 55) (.const (.bool false)), none⟩,
 ⟨(some 4), .mv (.tmp 56), none⟩])
 (.ret))
theorem k61 : fnOk Try.prog 61 = some (M61, [.t 4], 57) := by kernel_rfl

theorem r_there_low (x : Im) (lv : Int) (hl : lv < 0 ∨ (x.ls.length : Int) ≤ lv) (h : K (.bool false) H) : HCalls Try.prog w0 43 [x.v, .int .i64 lv] H K := by
  by_cases h0 : 0 ≤ lv
  · have h1 : ¬ lv < (x.ls.length : Int) := by omega
    unfold Im.v
    clear hl
    refine HL.hc k43 999 ?_; unfold M43
    (all_goals (try simp only [Sq,Sr,Sh,Si,Sl,Bu,Bb,Bd,Bc,Bw,Bn,Int.reduceAdd,Int.reduceSub,Int.reduceMul,Int.reduceTDiv,Int.reduceTMod,Int.reduceMod,Int.reduceDiv,Nat.reduceLT,Nat.reduceEqDiff,Sa,Sb,Sc,Sd,Se,Sf,Sg,Int.reduceLE,Int.reduceLT,Int.reduceToNat,Int.reduceNeg,Int.reduceEq,Nat.reduceLeDiff,Nat.reducePow,Int.reducePow,reduceIte,Nat.reduceSub,Nat.reduceAdd,Nat.reduceMul,putAt,ceq,List.replicate, *])); repeat' ((first | (with_reducible refine fun _ : True => ?_) | (with_reducible refine any_h ?_) | ((first | refine AllocQ_i ?_ | refine AllocO_i ?_); intro bk hb0 hbk; (try simp only [set_none'] at hbk); (try (first | have hbn := Grow.none (by assumption) hbk | have hbn := Grow.none (by assumption) hbk.2 | have hbn := Grow.none (by assumption) hbk.2.2 | have hbn := Grow.none (by assumption) hbk.2.2.2 | have hbn := Grow.none (by assumption) hbk.2.2.2.2 | have hbn := Grow.none (by assumption) hbk.2.2.2.2.2)); (try simp only [set_none'] at hbn); (try (first | have hbm := Grow.none (by assumption) hbn | have hbm := Grow.none (by assumption) hbn.2 | have hbm := Grow.none (by assumption) hbn.2.2 | have hbm := Grow.none (by assumption) hbn.2.2.2 | have hbm := Grow.none (by assumption) hbn.2.2.2.2 | have hbm := Grow.none (by assumption) hbn.2.2.2.2.2)); (try simp only [set_none'] at hbm)) | ((first | refine condS_i ?_ ?_ | refine pick_i ?_ ?_ | refine gS_it ?_ ?_ | refine gS_if ?_ ?_ | refine gP_it ?_ ?_ | refine gP_if ?_ ?_) <;> (intro hc; try simp only [Int.reduceLE,Int.reduceLT,Int.reduceEq,Sn] at hc)) | (with_reducible refine And.intro ?_ ?_)) <;> (try simp only [Sq,Sr,Sh,Si,Sl,Bu,Bb,Bd,Bc,Bw,Bn,Int.reduceAdd,Int.reduceSub,Int.reduceMul,Int.reduceTDiv,Int.reduceTMod,Int.reduceMod,Int.reduceDiv,Nat.reduceLT,Nat.reduceEqDiff,Sa,Sb,Sc,Sd,Se,Sf,Sg,Int.reduceLE,Int.reduceLT,Int.reduceToNat,Int.reduceNeg,Int.reduceEq,Nat.reduceLeDiff,Nat.reducePow,Int.reducePow,reduceIte,Nat.reduceSub,Nat.reduceAdd,Nat.reduceMul,putAt,ceq,List.replicate, *]))
    all_goals exact Fin_mk (by (repeat' (first | exact Heap.Le.refl _ | (with_reducible refine Le_set2 ?_) | (refine Le_known (by first | (simp only [Heap.set_same, set_ne, ne_eq, not_false_eq_true, *] <;> rfl) | fail) ?_) | (refine Le_fresh (by first | (simp only [*] <;> done) | (simp [set_none', Heap.set_same, set_ne, noneH, *] <;> done) | fail) ?_) | (refine Heap.Le.trans ?_ (Grow.le (by assumption))) | exact Le_none | (refine Le_put ?_ (by first | (simp only [Heap.set_same, set_ne, ne_eq, not_false_eq_true, *] <;> rfl) | fail)) | fail))) h
  · unfold Im.v
    clear hl
    refine HL.hc k43 999 ?_; unfold M43
    (all_goals (try simp only [Sq,Sr,Sh,Si,Sl,Bu,Bb,Bd,Bc,Bw,Bn,Int.reduceAdd,Int.reduceSub,Int.reduceMul,Int.reduceTDiv,Int.reduceTMod,Int.reduceMod,Int.reduceDiv,Nat.reduceLT,Nat.reduceEqDiff,Sa,Sb,Sc,Sd,Se,Sf,Sg,Int.reduceLE,Int.reduceLT,Int.reduceToNat,Int.reduceNeg,Int.reduceEq,Nat.reduceLeDiff,Nat.reducePow,Int.reducePow,reduceIte,Nat.reduceSub,Nat.reduceAdd,Nat.reduceMul,putAt,ceq,List.replicate, *])); repeat' ((first | (with_reducible refine fun _ : True => ?_) | (with_reducible refine any_h ?_) | ((first | refine AllocQ_i ?_ | refine AllocO_i ?_); intro bk hb0 hbk; (try simp only [set_none'] at hbk); (try (first | have hbn := Grow.none (by assumption) hbk | have hbn := Grow.none (by assumption) hbk.2 | have hbn := Grow.none (by assumption) hbk.2.2 | have hbn := Grow.none (by assumption) hbk.2.2.2 | have hbn := Grow.none (by assumption) hbk.2.2.2.2 | have hbn := Grow.none (by assumption) hbk.2.2.2.2.2)); (try simp only [set_none'] at hbn); (try (first | have hbm := Grow.none (by assumption) hbn | have hbm := Grow.none (by assumption) hbn.2 | have hbm := Grow.none (by assumption) hbn.2.2 | have hbm := Grow.none (by assumption) hbn.2.2.2 | have hbm := Grow.none (by assumption) hbn.2.2.2.2 | have hbm := Grow.none (by assumption) hbn.2.2.2.2.2)); (try simp only [set_none'] at hbm)) | ((first | refine condS_i ?_ ?_ | refine pick_i ?_ ?_ | refine gS_it ?_ ?_ | refine gS_if ?_ ?_ | refine gP_it ?_ ?_ | refine gP_if ?_ ?_) <;> (intro hc; try simp only [Int.reduceLE,Int.reduceLT,Int.reduceEq,Sn] at hc)) | (with_reducible refine And.intro ?_ ?_)) <;> (try simp only [Sq,Sr,Sh,Si,Sl,Bu,Bb,Bd,Bc,Bw,Bn,Int.reduceAdd,Int.reduceSub,Int.reduceMul,Int.reduceTDiv,Int.reduceTMod,Int.reduceMod,Int.reduceDiv,Nat.reduceLT,Nat.reduceEqDiff,Sa,Sb,Sc,Sd,Se,Sf,Sg,Int.reduceLE,Int.reduceLT,Int.reduceToNat,Int.reduceNeg,Int.reduceEq,Nat.reduceLeDiff,Nat.reducePow,Int.reducePow,reduceIte,Nat.reduceSub,Nat.reduceAdd,Nat.reduceMul,putAt,ceq,List.replicate, *]))
    all_goals exact Fin_mk (by (repeat' (first | exact Heap.Le.refl _ | (with_reducible refine Le_set2 ?_) | (refine Le_known (by first | (simp only [Heap.set_same, set_ne, ne_eq, not_false_eq_true, *] <;> rfl) | fail) ?_) | (refine Le_fresh (by first | (simp only [*] <;> done) | (simp [set_none', Heap.set_same, set_ne, noneH, *] <;> done) | fail) ?_) | (refine Heap.Le.trans ?_ (Grow.le (by assumption))) | exact Le_none | (refine Le_put ?_ (by first | (simp only [Heap.set_same, set_ne, ne_eq, not_false_eq_true, *] <;> rfl) | fail)) | fail))) h
theorem r_there_at (x : Im) (hx : ImOk w0 H x) (k : Nat) (z : LvR) (ez : x.ls[k]? = some z) (h : K (.bool (!decide z.nil)) H) : HCalls Try.prog w0 43 [x.v, .int .i64 (k : Nat)] H K := by
  have hp := (List.getElem?_eq_some_iff.1 ez).1
  have h0 : 0 ≤ (k : Int) := by omega
  have h1 : (k : Int) < (x.ls.length : Int) := by omega
  obtain ⟨b, o, ea, hrd, hf⟩ := lv_at hx ez
  clear hx ez hp
  unfold Im.v
  rw [ea]
  refine HL.hc k43 999 ?_; unfold M43
  (all_goals (try simp only [Sq,Sr,Sh,Si,Sl,Bu,Bb,Bd,Bc,Bw,Bn,Int.reduceAdd,Int.reduceSub,Int.reduceMul,Int.reduceTDiv,Int.reduceTMod,Int.reduceMod,Int.reduceDiv,Nat.reduceLT,Nat.reduceEqDiff,Sa,Sb,Sc,Sd,Se,Sf,Sg,Int.reduceLE,Int.reduceLT,Int.reduceToNat,Int.reduceNeg,Int.reduceEq,Nat.reduceLeDiff,Nat.reducePow,Int.reducePow,reduceIte,Nat.reduceSub,Nat.reduceAdd,Nat.reduceMul,putAt,ceq,List.replicate, *])); repeat' ((first | (with_reducible refine fun _ : True => ?_) | refine r_none z ?_ | (with_reducible refine any_h ?_) | ((first | refine AllocQ_i ?_ | refine AllocO_i ?_); intro bk hb0 hbk; (try simp only [set_none'] at hbk); (try (first | have hbn := Grow.none (by assumption) hbk | have hbn := Grow.none (by assumption) hbk.2 | have hbn := Grow.none (by assumption) hbk.2.2 | have hbn := Grow.none (by assumption) hbk.2.2.2 | have hbn := Grow.none (by assumption) hbk.2.2.2.2 | have hbn := Grow.none (by assumption) hbk.2.2.2.2.2)); (try simp only [set_none'] at hbn); (try (first | have hbm := Grow.none (by assumption) hbn | have hbm := Grow.none (by assumption) hbn.2 | have hbm := Grow.none (by assumption) hbn.2.2 | have hbm := Grow.none (by assumption) hbn.2.2.2 | have hbm := Grow.none (by assumption) hbn.2.2.2.2 | have hbm := Grow.none (by assumption) hbn.2.2.2.2.2)); (try simp only [set_none'] at hbm)) | ((first | refine condS_i ?_ ?_ | refine pick_i ?_ ?_ | refine gS_it ?_ ?_ | refine gS_if ?_ ?_ | refine gP_it ?_ ?_ | refine gP_if ?_ ?_) <;> (intro hc; try simp only [Int.reduceLE,Int.reduceLT,Int.reduceEq,Sn] at hc)) | (with_reducible refine And.intro ?_ ?_)) <;> (try simp only [Sq,Sr,Sh,Si,Sl,Bu,Bb,Bd,Bc,Bw,Bn,Int.reduceAdd,Int.reduceSub,Int.reduceMul,Int.reduceTDiv,Int.reduceTMod,Int.reduceMod,Int.reduceDiv,Nat.reduceLT,Nat.reduceEqDiff,Sa,Sb,Sc,Sd,Se,Sf,Sg,Int.reduceLE,Int.reduceLT,Int.reduceToNat,Int.reduceNeg,Int.reduceEq,Nat.reduceLeDiff,Nat.reducePow,Int.reducePow,reduceIte,Nat.reduceSub,Nat.reduceAdd,Nat.reduceMul,putAt,ceq,List.replicate, *]))
  all_goals exact Fin_mk (by (repeat' (first | exact Heap.Le.refl _ | (with_reducible refine Le_set2 ?_) | (refine Le_known (by first | (simp only [Heap.set_same, set_ne, ne_eq, not_false_eq_true, *] <;> rfl) | fail) ?_) | (refine Le_fresh (by first | (simp only [*] <;> done) | (simp [set_none', Heap.set_same, set_ne, noneH, *] <;> done) | fail) ?_) | (refine Heap.Le.trans ?_ (Grow.le (by assumption))) | exact Le_none | (refine Le_put ?_ (by first | (simp only [Heap.set_same, set_ne, ne_eq, not_false_eq_true, *] <;> rfl) | fail)) | fail))) h
theorem r_within (z : LvR) (p : Pc) (s1 : sideP z.w) (s2 : sideP z.h) (h : K (.bool (decide (pcIn z p))) H) : HCalls Try.prog w0 61 [.agg #[.int .i64 z.w, .int .i64 z.h, .slice z.a z.l.length z.cap], p.v] H K := by
  unfold sideP at s1 s2
  have no : ¬ pcIn z p → K (.bool false) H := fun q => by rw [decide_eq_false q] at h; exact h
  have yes : pcIn z p → K (.bool true) H := fun q => by rw [decide_eq_true q] at h; exact h
  clear h
  unfold pcIn inP at yes no
  by_cases p1 : 0 ≤ p.x
  · by_cases p2 : 0 ≤ p.y
    · by_cases p3 : 0 ≤ p.w
      · by_cases p4 : 0 ≤ p.h
        · by_cases p5 : p.x ≤ z.w
          · by_cases p6 : p.y ≤ z.h
            · have e1 : IntKind.i64.wrap (z.w - p.x) = z.w - p.x := Bw.1 _ (by omega) (by omega)
              have e2 : IntKind.i64.wrap (z.h - p.y) = z.h - p.y := Bw.1 _ (by omega) (by omega)
              by_cases p7 : p.w ≤ z.w - p.x
              · by_cases p8 : p.h ≤ z.h - p.y
                · have h := yes (by omega)
                  clear no yes
                  unfold Pc.v
                  refine HL.hc k61 999 ?_; unfold M61
                  (all_goals (try simp only [Sq,Sr,Sh,Si,Sl,Bu,Bb,Bd,Bc,Bw,Bn,Int.reduceAdd,Int.reduceSub,Int.reduceMul,Int.reduceTDiv,Int.reduceTMod,Int.reduceMod,Int.reduceDiv,Nat.reduceLT,Nat.reduceEqDiff,Sa,Sb,Sc,Sd,Se,Sf,Sg,Int.reduceLE,Int.reduceLT,Int.reduceToNat,Int.reduceNeg,Int.reduceEq,Nat.reduceLeDiff,Nat.reducePow,Int.reducePow,reduceIte,Nat.reduceSub,Nat.reduceAdd,Nat.reduceMul,putAt,ceq,List.replicate, *])); repeat' ((first | (with_reducible refine fun _ : True => ?_) | (with_reducible refine any_h ?_) | ((first | refine AllocQ_i ?_ | refine AllocO_i ?_); intro bk hb0 hbk; (try simp only [set_none'] at hbk); (try (first | have hbn := Grow.none (by assumption) hbk | have hbn := Grow.none (by assumption) hbk.2 | have hbn := Grow.none (by assumption) hbk.2.2 | have hbn := Grow.none (by assumption) hbk.2.2.2 | have hbn := Grow.none (by assumption) hbk.2.2.2.2 | have hbn := Grow.none (by assumption) hbk.2.2.2.2.2)); (try simp only [set_none'] at hbn); (try (first | have hbm := Grow.none (by assumption) hbn | have hbm := Grow.none (by assumption) hbn.2 | have hbm := Grow.none (by assumption) hbn.2.2 | have hbm := Grow.none (by assumption) hbn.2.2.2 | have hbm := Grow.none (by assumption) hbn.2.2.2.2 | have hbm := Grow.none (by assumption) hbn.2.2.2.2.2)); (try simp only [set_none'] at hbm)) | ((first | refine condS_i ?_ ?_ | refine pick_i ?_ ?_ | refine gS_it ?_ ?_ | refine gS_if ?_ ?_ | refine gP_it ?_ ?_ | refine gP_if ?_ ?_) <;> (intro hc; try simp only [Int.reduceLE,Int.reduceLT,Int.reduceEq,Sn] at hc)) | (with_reducible refine And.intro ?_ ?_)) <;> (try simp only [Sq,Sr,Sh,Si,Sl,Bu,Bb,Bd,Bc,Bw,Bn,Int.reduceAdd,Int.reduceSub,Int.reduceMul,Int.reduceTDiv,Int.reduceTMod,Int.reduceMod,Int.reduceDiv,Nat.reduceLT,Nat.reduceEqDiff,Sa,Sb,Sc,Sd,Se,Sf,Sg,Int.reduceLE,Int.reduceLT,Int.reduceToNat,Int.reduceNeg,Int.reduceEq,Nat.reduceLeDiff,Nat.reducePow,Int.reducePow,reduceIte,Nat.reduceSub,Nat.reduceAdd,Nat.reduceMul,putAt,ceq,List.replicate, *]))
                  all_goals exact Fin_mk (by (repeat' (first | exact Heap.Le.refl _ | (with_reducible refine Le_set2 ?_) | (refine Le_known (by first | (simp only [Heap.set_same, set_ne, ne_eq, not_false_eq_true, *] <;> rfl) | fail) ?_) | (refine Le_fresh (by first | (simp only [*] <;> done) | (simp [set_none', Heap.set_same, set_ne, noneH, *] <;> done) | fail) ?_) | (refine Heap.Le.trans ?_ (Grow.le (by assumption))) | exact Le_none | (refine Le_put ?_ (by first | (simp only [Heap.set_same, set_ne, ne_eq, not_false_eq_true, *] <;> rfl) | fail)) | fail))) h
                · have h := no (by omega)
                  clear no yes
                  unfold Pc.v
                  refine HL.hc k61 999 ?_; unfold M61
                  (all_goals (try simp only [Sq,Sr,Sh,Si,Sl,Bu,Bb,Bd,Bc,Bw,Bn,Int.reduceAdd,Int.reduceSub,Int.reduceMul,Int.reduceTDiv,Int.reduceTMod,Int.reduceMod,Int.reduceDiv,Nat.reduceLT,Nat.reduceEqDiff,Sa,Sb,Sc,Sd,Se,Sf,Sg,Int.reduceLE,Int.reduceLT,Int.reduceToNat,Int.reduceNeg,Int.reduceEq,Nat.reduceLeDiff,Nat.reducePow,Int.reducePow,reduceIte,Nat.reduceSub,Nat.reduceAdd,Nat.reduceMul,putAt,ceq,List.replicate, *])); repeat' ((first | (with_reducible refine fun _ : True => ?_) | (with_reducible refine any_h ?_) | ((first | refine AllocQ_i ?_ | refine AllocO_i ?_); intro bk hb0 hbk; (try simp only [set_none'] at hbk); (try (first | have hbn := Grow.none (by assumption) hbk | have hbn := Grow.none (by assumption) hbk.2 | have hbn := Grow.none (by assumption) hbk.2.2 | have hbn := Grow.none (by assumption) hbk.2.2.2 | have hbn := Grow.none (by assumption) hbk.2.2.2.2 | have hbn := Grow.none (by assumption) hbk.2.2.2.2.2)); (try simp only [set_none'] at hbn); (try (first | have hbm := Grow.none (by assumption) hbn | have hbm := Grow.none (by assumption) hbn.2 | have hbm := Grow.none (by assumption) hbn.2.2 | have hbm := Grow.none (by assumption) hbn.2.2.2 | have hbm := Grow.none (by assumption) hbn.2.2.2.2 | have hbm := Grow.none (by assumption) hbn.2.2.2.2.2)); (try simp only [set_none'] at hbm)) | ((first | refine condS_i ?_ ?_ | refine pick_i ?_ ?_ | refine gS_it ?_ ?_ | refine gS_if ?_ ?_ | refine gP_it ?_ ?_ | refine gP_if ?_ ?_) <;> (intro hc; try simp only [Int.reduceLE,Int.reduceLT,Int.reduceEq,Sn] at hc)) | (with_reducible refine And.intro ?_ ?_)) <;> (try simp only [Sq,Sr,Sh,Si,Sl,Bu,Bb,Bd,Bc,Bw,Bn,Int.reduceAdd,Int.reduceSub,Int.reduceMul,Int.reduceTDiv,Int.reduceTMod,Int.reduceMod,Int.reduceDiv,Nat.reduceLT,Nat.reduceEqDiff,Sa,Sb,Sc,Sd,Se,Sf,Sg,Int.reduceLE,Int.reduceLT,Int.reduceToNat,Int.reduceNeg,Int.reduceEq,Nat.reduceLeDiff,Nat.reducePow,Int.reducePow,reduceIte,Nat.reduceSub,Nat.reduceAdd,Nat.reduceMul,putAt,ceq,List.replicate, *]))
                  all_goals exact Fin_mk (by (repeat' (first | exact Heap.Le.refl _ | (with_reducible refine Le_set2 ?_) | (refine Le_known (by first | (simp only [Heap.set_same, set_ne, ne_eq, not_false_eq_true, *] <;> rfl) | fail) ?_) | (refine Le_fresh (by first | (simp only [*] <;> done) | (simp [set_none', Heap.set_same, set_ne, noneH, *] <;> done) | fail) ?_) | (refine Heap.Le.trans ?_ (Grow.le (by assumption))) | exact Le_none | (refine Le_put ?_ (by first | (simp only [Heap.set_same, set_ne, ne_eq, not_false_eq_true, *] <;> rfl) | fail)) | fail))) h
              · have h := no (by omega)
                clear no yes
                unfold Pc.v
                refine HL.hc k61 999 ?_; unfold M61
                (all_goals (try simp only [Sq,Sr,Sh,Si,Sl,Bu,Bb,Bd,Bc,Bw,Bn,Int.reduceAdd,Int.reduceSub,Int.reduceMul,Int.reduceTDiv,Int.reduceTMod,Int.reduceMod,Int.reduceDiv,Nat.reduceLT,Nat.reduceEqDiff,Sa,Sb,Sc,Sd,Se,Sf,Sg,Int.reduceLE,Int.reduceLT,Int.reduceToNat,Int.reduceNeg,Int.reduceEq,Nat.reduceLeDiff,Nat.reducePow,Int.reducePow,reduceIte,Nat.reduceSub,Nat.reduceAdd,Nat.reduceMul,putAt,ceq,List.replicate, *])); repeat' ((first | (with_reducible refine fun _ : True => ?_) | (with_reducible refine any_h ?_) | ((first | refine AllocQ_i ?_ | refine AllocO_i ?_); intro bk hb0 hbk; (try simp only [set_none'] at hbk); (try (first | have hbn := Grow.none (by assumption) hbk | have hbn := Grow.none (by assumption) hbk.2 | have hbn := Grow.none (by assumption) hbk.2.2 | have hbn := Grow.none (by assumption) hbk.2.2.2 | have hbn := Grow.none (by assumption) hbk.2.2.2.2 | have hbn := Grow.none (by assumption) hbk.2.2.2.2.2)); (try simp only [set_none'] at hbn); (try (first | have hbm := Grow.none (by assumption) hbn | have hbm := Grow.none (by assumption) hbn.2 | have hbm := Grow.none (by assumption) hbn.2.2 | have hbm := Grow.none (by assumption) hbn.2.2.2 | have hbm := Grow.none (by assumption) hbn.2.2.2.2 | have hbm := Grow.none (by assumption) hbn.2.2.2.2.2)); (try simp only [set_none'] at hbm)) | ((first | refine condS_i ?_ ?_ | refine pick_i ?_ ?_ | refine gS_it ?_ ?_ | refine gS_if ?_ ?_ | refine gP_it ?_ ?_ | refine gP_if ?_ ?_) <;> (intro hc; try simp only [Int.reduceLE,Int.reduceLT,Int.reduceEq,Sn] at hc)) | (with_reducible refine And.intro ?_ ?_)) <;> (try simp only [Sq,Sr,Sh,Si,Sl,Bu,Bb,Bd,Bc,Bw,Bn,Int.reduceAdd,Int.reduceSub,Int.reduceMul,Int.reduceTDiv,Int.reduceTMod,Int.reduceMod,Int.reduceDiv,Nat.reduceLT,Nat.reduceEqDiff,Sa,Sb,Sc,Sd,Se,Sf,Sg,Int.reduceLE,Int.reduceLT,Int.reduceToNat,Int.reduceNeg,Int.reduceEq,Nat.reduceLeDiff,Nat.reducePow,Int.reducePow,reduceIte,Nat.reduceSub,Nat.reduceAdd,Nat.reduceMul,putAt,ceq,List.replicate, *]))
                all_goals exact Fin_mk (by (repeat' (first | exact Heap.Le.refl _ | (with_reducible refine Le_set2 ?_) | (refine Le_known (by first | (simp only [Heap.set_same, set_ne, ne_eq, not_false_eq_true, *] <;> rfl) | fail) ?_) | (refine Le_fresh (by first | (simp only [*] <;> done) | (simp [set_none', Heap.set_same, set_ne, noneH, *] <;> done) | fail) ?_) | (refine Heap.Le.trans ?_ (Grow.le (by assumption))) | exact Le_none | (refine Le_put ?_ (by first | (simp only [Heap.set_same, set_ne, ne_eq, not_false_eq_true, *] <;> rfl) | fail)) | fail))) h
            · have h := no (by omega)
              clear no yes
              unfold Pc.v
              refine HL.hc k61 999 ?_; unfold M61
              (all_goals (try simp only [Sq,Sr,Sh,Si,Sl,Bu,Bb,Bd,Bc,Bw,Bn,Int.reduceAdd,Int.reduceSub,Int.reduceMul,Int.reduceTDiv,Int.reduceTMod,Int.reduceMod,Int.reduceDiv,Nat.reduceLT,Nat.reduceEqDiff,Sa,Sb,Sc,Sd,Se,Sf,Sg,Int.reduceLE,Int.reduceLT,Int.reduceToNat,Int.reduceNeg,Int.reduceEq,Nat.reduceLeDiff,Nat.reducePow,Int.reducePow,reduceIte,Nat.reduceSub,Nat.reduceAdd,Nat.reduceMul,putAt,ceq,List.replicate, *])); repeat' ((first | (with_reducible refine fun _ : True => ?_) | (with_reducible refine any_h ?_) | ((first | refine AllocQ_i ?_ | refine AllocO_i ?_); intro bk hb0 hbk; (try simp only [set_none'] at hbk); (try (first | have hbn := Grow.none (by assumption) hbk | have hbn := Grow.none (by assumption) hbk.2 | have hbn := Grow.none (by assumption) hbk.2.2 | have hbn := Grow.none (by assumption) hbk.2.2.2 | have hbn := Grow.none (by assumption) hbk.2.2.2.2 | have hbn := Grow.none (by assumption) hbk.2.2.2.2.2)); (try simp only [set_none'] at hbn); (try (first | have hbm := Grow.none (by assumption) hbn | have hbm := Grow.none (by assumption) hbn.2 | have hbm := Grow.none (by assumption) hbn.2.2 | have hbm := Grow.none (by assumption) hbn.2.2.2 | have hbm := Grow.none (by assumption) hbn.2.2.2.2 | have hbm := Grow.none (by assumption) hbn.2.2.2.2.2)); (try simp only [set_none'] at hbm)) | ((first | refine condS_i ?_ ?_ | refine pick_i ?_ ?_ | refine gS_it ?_ ?_ | refine gS_if ?_ ?_ | refine gP_it ?_ ?_ | refine gP_if ?_ ?_) <;> (intro hc; try simp only [Int.reduceLE,Int.reduceLT,Int.reduceEq,Sn] at hc)) | (with_reducible refine And.intro ?_ ?_)) <;> (try simp only [Sq,Sr,Sh,Si,Sl,Bu,Bb,Bd,Bc,Bw,Bn,Int.reduceAdd,Int.reduceSub,Int.reduceMul,Int.reduceTDiv,Int.reduceTMod,Int.reduceMod,Int.reduceDiv,Nat.reduceLT,Nat.reduceEqDiff,Sa,Sb,Sc,Sd,Se,Sf,Sg,Int.reduceLE,Int.reduceLT,Int.reduceToNat,Int.reduceNeg,Int.reduceEq,Nat.reduceLeDiff,Nat.reducePow,Int.reducePow,reduceIte,Nat.reduceSub,Nat.reduceAdd,Nat.reduceMul,putAt,ceq,List.replicate, *]))
              all_goals exact Fin_mk (by (repeat' (first | exact Heap.Le.refl _ | (with_reducible refine Le_set2 ?_) | (refine Le_known (by first | (simp only [Heap.set_same, set_ne, ne_eq, not_false_eq_true, *] <;> rfl) | fail) ?_) | (refine Le_fresh (by first | (simp only [*] <;> done) | (simp [set_none', Heap.set_same, set_ne, noneH, *] <;> done) | fail) ?_) | (refine Heap.Le.trans ?_ (Grow.le (by assumption))) | exact Le_none | (refine Le_put ?_ (by first | (simp only [Heap.set_same, set_ne, ne_eq, not_false_eq_true, *] <;> rfl) | fail)) | fail))) h
          · have h := no (by omega)
            clear no yes
            unfold Pc.v
            refine HL.hc k61 999 ?_; unfold M61
            (all_goals (try simp only [Sq,Sr,Sh,Si,Sl,Bu,Bb,Bd,Bc,Bw,Bn,Int.reduceAdd,Int.reduceSub,Int.reduceMul,Int.reduceTDiv,Int.reduceTMod,Int.reduceMod,Int.reduceDiv,Nat.reduceLT,Nat.reduceEqDiff,Sa,Sb,Sc,Sd,Se,Sf,Sg,Int.reduceLE,Int.reduceLT,Int.reduceToNat,Int.reduceNeg,Int.reduceEq,Nat.reduceLeDiff,Nat.reducePow,Int.reducePow,reduceIte,Nat.reduceSub,Nat.reduceAdd,Nat.reduceMul,putAt,ceq,List.replicate, *])); repeat' ((first | (with_reducible refine fun _ : True => ?_) | (with_reducible refine any_h ?_) | ((first | refine AllocQ_i ?_ | refine AllocO_i ?_); intro bk hb0 hbk; (try simp only [set_none'] at hbk); (try (first | have hbn := Grow.none (by assumption) hbk | have hbn := Grow.none (by assumption) hbk.2 | have hbn := Grow.none (by assumption) hbk.2.2 | have hbn := Grow.none (by assumption) hbk.2.2.2 | have hbn := Grow.none (by assumption) hbk.2.2.2.2 | have hbn := Grow.none (by assumption) hbk.2.2.2.2.2)); (try simp only [set_none'] at hbn); (try (first | have hbm := Grow.none (by assumption) hbn | have hbm := Grow.none (by assumption) hbn.2 | have hbm := Grow.none (by assumption) hbn.2.2 | have hbm := Grow.none (by assumption) hbn.2.2.2 | have hbm := Grow.none (by assumption) hbn.2.2.2.2 | have hbm := Grow.none (by assumption) hbn.2.2.2.2.2)); (try simp only [set_none'] at hbm)) | ((first | refine condS_i ?_ ?_ | refine pick_i ?_ ?_ | refine gS_it ?_ ?_ | refine gS_if ?_ ?_ | refine gP_it ?_ ?_ | refine gP_if ?_ ?_) <;> (intro hc; try simp only [Int.reduceLE,Int.reduceLT,Int.reduceEq,Sn] at hc)) | (with_reducible refine And.intro ?_ ?_)) <;> (try simp only [Sq,Sr,Sh,Si,Sl,Bu,Bb,Bd,Bc,Bw,Bn,Int.reduceAdd,Int.reduceSub,Int.reduceMul,Int.reduceTDiv,Int.reduceTMod,Int.reduceMod,Int.reduceDiv,Nat.reduceLT,Nat.reduceEqDiff,Sa,Sb,Sc,Sd,Se,Sf,Sg,Int.reduceLE,Int.reduceLT,Int.reduceToNat,Int.reduceNeg,Int.reduceEq,Nat.reduceLeDiff,Nat.reducePow,Int.reducePow,reduceIte,Nat.reduceSub,Nat.reduceAdd,Nat.reduceMul,putAt,ceq,List.replicate, *]))
            all_goals exact Fin_mk (by (repeat' (first | exact Heap.Le.refl _ | (with_reducible refine Le_set2 ?_) | (refine Le_known (by first | (simp only [Heap.set_same, set_ne, ne_eq, not_false_eq_true, *] <;> rfl) | fail) ?_) | (refine Le_fresh (by first | (simp only [*] <;> done) | (simp [set_none', Heap.set_same, set_ne, noneH, *] <;> done) | fail) ?_) | (refine Heap.Le.trans ?_ (Grow.le (by assumption))) | exact Le_none | (refine Le_put ?_ (by first | (simp only [Heap.set_same, set_ne, ne_eq, not_false_eq_true, *] <;> rfl) | fail)) | fail))) h
        · have h := no (by omega)
          clear no yes
          unfold Pc.v
          refine HL.hc k61 999 ?_; unfold M61
          (all_goals (try simp only [Sq,Sr,Sh,Si,Sl,Bu,Bb,Bd,Bc,Bw,Bn,Int.reduceAdd,Int.reduceSub,Int.reduceMul,Int.reduceTDiv,Int.reduceTMod,Int.reduceMod,Int.reduceDiv,Nat.reduceLT,Nat.reduceEqDiff,Sa,Sb,Sc,Sd,Se,Sf,Sg,Int.reduceLE,Int.reduceLT,Int.reduceToNat,Int.reduceNeg,Int.reduceEq,Nat.reduceLeDiff,Nat.reducePow,Int.reducePow,reduceIte,Nat.reduceSub,Nat.reduceAdd,Nat.reduceMul,putAt,ceq,List.replicate, *])); repeat' ((first | (with_reducible refine fun _ : True => ?_) | (with_reducible refine any_h ?_) | ((first | refine AllocQ_i ?_ | refine AllocO_i ?_); intro bk hb0 hbk; (try simp only [set_none'] at hbk); (try (first | have hbn := Grow.none (by assumption) hbk | have hbn := Grow.none (by assumption) hbk.2 | have hbn := Grow.none (by assumption) hbk.2.2 | have hbn := Grow.none (by assumption) hbk.2.2.2 | have hbn := Grow.none (by assumption) hbk.2.2.2.2 | have hbn := Grow.none (by assumption) hbk.2.2.2.2.2)); (try simp only [set_none'] at hbn); (try (first | have hbm := Grow.none (by assumption) hbn | have hbm := Grow.none (by assumption) hbn.2 | have hbm := Grow.none (by assumption) hbn.2.2 | have hbm := Grow.none (by assumption) hbn.2.2.2 | have hbm := Grow.none (by assumption) hbn.2.2.2.2 | have hbm := Grow.none (by assumption) hbn.2.2.2.2.2)); (try simp only [set_none'] at hbm)) | ((first | refine condS_i ?_ ?_ | refine pick_i ?_ ?_ | refine gS_it ?_ ?_ | refine gS_if ?_ ?_ | refine gP_it ?_ ?_ | refine gP_if ?_ ?_) <;> (intro hc; try simp only [Int.reduceLE,Int.reduceLT,Int.reduceEq,Sn] at hc)) | (with_reducible refine And.intro ?_ ?_)) <;> (try simp only [Sq,Sr,Sh,Si,Sl,Bu,Bb,Bd,Bc,Bw,Bn,Int.reduceAdd,Int.reduceSub,Int.reduceMul,Int.reduceTDiv,Int.reduceTMod,Int.reduceMod,Int.reduceDiv,Nat.reduceLT,Nat.reduceEqDiff,Sa,Sb,Sc,Sd,Se,Sf,Sg,Int.reduceLE,Int.reduceLT,Int.reduceToNat,Int.reduceNeg,Int.reduceEq,Nat.reduceLeDiff,Nat.reducePow,Int.reducePow,reduceIte,Nat.reduceSub,Nat.reduceAdd,Nat.reduceMul,putAt,ceq,List.replicate, *]))
          all_goals exact Fin_mk (by (repeat' (first | exact Heap.Le.refl _ | (with_reducible refine Le_set2 ?_) | (refine Le_known (by first | (simp only [Heap.set_same, set_ne, ne_eq, not_false_eq_true, *] <;> rfl) | fail) ?_) | (refine Le_fresh (by first | (simp only [*] <;> done) | (simp [set_none', Heap.set_same, set_ne, noneH, *] <;> done) | fail) ?_) | (refine Heap.Le.trans ?_ (Grow.le (by assumption))) | exact Le_none | (refine Le_put ?_ (by first | (simp only [Heap.set_same, set_ne, ne_eq, not_false_eq_true, *] <;> rfl) | fail)) | fail))) h
      · have h := no (by omega)
        clear no yes
        unfold Pc.v
        refine HL.hc k61 999 ?_; unfold M61
        (all_goals (try simp only [Sq,Sr,Sh,Si,Sl,Bu,Bb,Bd,Bc,Bw,Bn,Int.reduceAdd,Int.reduceSub,Int.reduceMul,Int.reduceTDiv,Int.reduceTMod,Int.reduceMod,Int.reduceDiv,Nat.reduceLT,Nat.reduceEqDiff,Sa,Sb,Sc,Sd,Se,Sf,Sg,Int.reduceLE,Int.reduceLT,Int.reduceToNat,Int.reduceNeg,Int.reduceEq,Nat.reduceLeDiff,Nat.reducePow,Int.reducePow,reduceIte,Nat.reduceSub,Nat.reduceAdd,Nat.reduceMul,putAt,ceq,List.replicate, *])); repeat' ((first | (with_reducible refine fun _ : True => ?_) | (with_reducible refine any_h ?_) | ((first | refine AllocQ_i ?_ | refine AllocO_i ?_); intro bk hb0 hbk; (try simp only [set_none'] at hbk); (try (first | have hbn := Grow.none (by assumption) hbk | have hbn := Grow.none (by assumption) hbk.2 | have hbn := Grow.none (by assumption) hbk.2.2 | have hbn := Grow.none (by assumption) hbk.2.2.2 | have hbn := Grow.none (by assumption) hbk.2.2.2.2 | have hbn := Grow.none (by assumption) hbk.2.2.2.2.2)); (try simp only [set_none'] at hbn); (try (first | have hbm := Grow.none (by assumption) hbn | have hbm := Grow.none (by assumption) hbn.2 | have hbm := Grow.none (by assumption) hbn.2.2 | have hbm := Grow.none (by assumption) hbn.2.2.2 | have hbm := Grow.none (by assumption) hbn.2.2.2.2 | have hbm := Grow.none (by assumption) hbn.2.2.2.2.2)); (try simp only [set_none'] at hbm)) | ((first | refine condS_i ?_ ?_ | refine pick_i ?_ ?_ | refine gS_it ?_ ?_ | refine gS_if ?_ ?_ | refine gP_it ?_ ?_ | refine gP_if ?_ ?_) <;> (intro hc; try simp only [Int.reduceLE,Int.reduceLT,Int.reduceEq,Sn] at hc)) | (with_reducible refine And.intro ?_ ?_)) <;> (try simp only [Sq,Sr,Sh,Si,Sl,Bu,Bb,Bd,Bc,Bw,Bn,Int.reduceAdd,Int.reduceSub,Int.reduceMul,Int.reduceTDiv,Int.reduceTMod,Int.reduceMod,Int.reduceDiv,Nat.reduceLT,Nat.reduceEqDiff,Sa,Sb,Sc,Sd,Se,Sf,Sg,Int.reduceLE,Int.reduceLT,Int.reduceToNat,Int.reduceNeg,Int.reduceEq,Nat.reduceLeDiff,Nat.reducePow,Int.reducePow,reduceIte,Nat.reduceSub,Nat.reduceAdd,Nat.reduceMul,putAt,ceq,List.replicate, *]))
        all_goals exact Fin_mk (by (repeat' (first | exact Heap.Le.refl _ | (with_reducible refine Le_set2 ?_) | (refine Le_known (by first | (simp only [Heap.set_same, set_ne, ne_eq, not_false_eq_true, *] <;> rfl) | fail) ?_) | (refine Le_fresh (by first | (simp only [*] <;> done) | (simp [set_none', Heap.set_same, set_ne, noneH, *] <;> done) | fail) ?_) | (refine Heap.Le.trans ?_ (Grow.le (by assumption))) | exact Le_none | (refine Le_put ?_ (by first | (simp only [Heap.set_same, set_ne, ne_eq, not_false_eq_true, *] <;> rfl) | fail)) | fail))) h
    · have h := no (by omega)
      clear no yes
      unfold Pc.v
      refine HL.hc k61 999 ?_; unfold M61
      (all_goals (try simp only [Sq,Sr,Sh,Si,Sl,Bu,Bb,Bd,Bc,Bw,Bn,Int.reduceAdd,Int.reduceSub,Int.reduceMul,Int.reduceTDiv,Int.reduceTMod,Int.reduceMod,Int.reduceDiv,Nat.reduceLT,Nat.reduceEqDiff,Sa,Sb,Sc,Sd,Se,Sf,Sg,Int.reduceLE,Int.reduceLT,Int.reduceToNat,Int.reduceNeg,Int.reduceEq,Nat.reduceLeDiff,Nat.reducePow,Int.reducePow,reduceIte,Nat.reduceSub,Nat.reduceAdd,Nat.reduceMul,putAt,ceq,List.replicate, *])); repeat' ((first | (with_reducible refine fun _ : True => ?_) | (with_reducible refine any_h ?_) | ((first | refine AllocQ_i ?_ | refine AllocO_i ?_); intro bk hb0 hbk; (try simp only [set_none'] at hbk); (try (first | have hbn := Grow.none (by assumption) hbk | have hbn := Grow.none (by assumption) hbk.2 | have hbn := Grow.none (by assumption) hbk.2.2 | have hbn := Grow.none (by assumption) hbk.2.2.2 | have hbn := Grow.none (by assumption) hbk.2.2.2.2 | have hbn := Grow.none (by assumption) hbk.2.2.2.2.2)); (try simp only [set_none'] at hbn); (try (first | have hbm := Grow.none (by assumption) hbn | have hbm := Grow.none (by assumption) hbn.2 | have hbm := Grow.none (by assumption) hbn.2.2 | have hbm := Grow.none (by assumption) hbn.2.2.2 | have hbm := Grow.none (by assumption) hbn.2.2.2.2 | have hbm := Grow.none (by assumption) hbn.2.2.2.2.2)); (try simp only [set_none'] at hbm)) | ((first | refine condS_i ?_ ?_ | refine pick_i ?_ ?_ | refine gS_it ?_ ?_ | refine gS_if ?_ ?_ | refine gP_it ?_ ?_ | refine gP_if ?_ ?_) <;> (intro hc; try simp only [Int.reduceLE,Int.reduceLT,Int.reduceEq,Sn] at hc)) | (with_reducible refine And.intro ?_ ?_)) <;> (try simp only [Sq,Sr,Sh,Si,Sl,Bu,Bb,Bd,Bc,Bw,Bn,Int.reduceAdd,Int.reduceSub,Int.reduceMul,Int.reduceTDiv,Int.reduceTMod,Int.reduceMod,Int.reduceDiv,Nat.reduceLT,Nat.reduceEqDiff,Sa,Sb,Sc,Sd,Se,Sf,Sg,Int.reduceLE,Int.reduceLT,Int.reduceToNat,Int.reduceNeg,Int.reduceEq,Nat.reduceLeDiff,Nat.reducePow,Int.reducePow,reduceIte,Nat.reduceSub,Nat.reduceAdd,Nat.reduceMul,putAt,ceq,List.replicate, *]))
      all_goals exact Fin_mk (by (repeat' (first | exact Heap.Le.refl _ | (with_reducible refine Le_set2 ?_) | (refine Le_known (by first | (simp only [Heap.set_same, set_ne, ne_eq, not_false_eq_true, *] <;> rfl) | fail) ?_) | (refine Le_fresh (by first | (simp only [*] <;> done) | (simp [set_none', Heap.set_same, set_ne, noneH, *] <;> done) | fail) ?_) | (refine Heap.Le.trans ?_ (Grow.le (by assumption))) | exact Le_none | (refine Le_put ?_ (by first | (simp only [Heap.set_same, set_ne, ne_eq, not_false_eq_true, *] <;> rfl) | fail)) | fail))) h
  · have h := no (by omega)
    clear no yes
    unfold Pc.v
    refine HL.hc k61 999 ?_; unfold M61
    (all_goals (try simp only [Sq,Sr,Sh,Si,Sl,Bu,Bb,Bd,Bc,Bw,Bn,Int.reduceAdd,Int.reduceSub,Int.reduceMul,Int.reduceTDiv,Int.reduceTMod,Int.reduceMod,Int.reduceDiv,Nat.reduceLT,Nat.reduceEqDiff,Sa,Sb,Sc,Sd,Se,Sf,Sg,Int.reduceLE,Int.reduceLT,Int.reduceToNat,Int.reduceNeg,Int.reduceEq,Nat.reduceLeDiff,Nat.reducePow,Int.reducePow,reduceIte,Nat.reduceSub,Nat.reduceAdd,Nat.reduceMul,putAt,ceq,List.replicate, *])); repeat' ((first | (with_reducible refine fun _ : True => ?_) | (with_reducible refine any_h ?_) | ((first | refine AllocQ_i ?_ | refine AllocO_i ?_); intro bk hb0 hbk; (try simp only [set_none'] at hbk); (try (first | have hbn := Grow.none (by assumption) hbk | have hbn := Grow.none (by assumption) hbk.2 | have hbn := Grow.none (by assumption) hbk.2.2 | have hbn := Grow.none (by assumption) hbk.2.2.2 | have hbn := Grow.none (by assumption) hbk.2.2.2.2 | have hbn := Grow.none (by assumption) hbk.2.2.2.2.2)); (try simp only [set_none'] at hbn); (try (first | have hbm := Grow.none (by assumption) hbn | have hbm := Grow.none (by assumption) hbn.2 | have hbm := Grow.none (by assumption) hbn.2.2 | have hbm := Grow.none (by assumption) hbn.2.2.2 | have hbm := Grow.none (by assumption) hbn.2.2.2.2 | have hbm := Grow.none (by assumption) hbn.2.2.2.2.2)); (try simp only [set_none'] at hbm)) | ((first | refine condS_i ?_ ?_ | refine pick_i ?_ ?_ | refine gS_it ?_ ?_ | refine gS_if ?_ ?_ | refine gP_it ?_ ?_ | refine gP_if ?_ ?_) <;> (intro hc; try simp only [Int.reduceLE,Int.reduceLT,Int.reduceEq,Sn] at hc)) | (with_reducible refine And.intro ?_ ?_)) <;> (try simp only [Sq,Sr,Sh,Si,Sl,Bu,Bb,Bd,Bc,Bw,Bn,Int.reduceAdd,Int.reduceSub,Int.reduceMul,Int.reduceTDiv,Int.reduceTMod,Int.reduceMod,Int.reduceDiv,Nat.reduceLT,Nat.reduceEqDiff,Sa,Sb,Sc,Sd,Se,Sf,Sg,Int.reduceLE,Int.reduceLT,Int.reduceToNat,Int.reduceNeg,Int.reduceEq,Nat.reduceLeDiff,Nat.reducePow,Int.reducePow,reduceIte,Nat.reduceSub,Nat.reduceAdd,Nat.reduceMul,putAt,ceq,List.replicate, *]))
    all_goals exact Fin_mk (by (repeat' (first | exact Heap.Le.refl _ | (with_reducible refine Le_set2 ?_) | (refine Le_known (by first | (simp only [Heap.set_same, set_ne, ne_eq, not_false_eq_true, *] <;> rfl) | fail) ?_) | (refine Le_fresh (by first | (simp only [*] <;> done) | (simp [set_none', Heap.set_same, set_ne, noneH, *] <;> done) | fail) ?_) | (refine Heap.Le.trans ?_ (Grow.le (by assumption))) | exact Le_none | (refine Le_put ?_ (by first | (simp only [Heap.set_same, set_ne, ne_eq, not_false_eq_true, *] <;> rfl) | fail)) | fail))) h
/- paintboxref08 Get -/
def M37 : MC :=
  .seq (.reg [⟨(some 3), .box 24 (.tmp 0), none⟩,
 ⟨(some 5), .box 49 (.tmp 2), none⟩,
 ⟨(some 6), .mv (.const (.slice none 0 0)), none⟩,
 ⟨(some 7), .mv (.const (.int .i64 0)), none⟩])
 (.seq (.block 0 (.seq (.reg [⟨(some 15), .ldn 6 (.tmp 3), none⟩,
 ⟨(some 16), .call 29 [(.tmp 15)], none⟩,
 ⟨(some 17), .un .not (.tmp 16), none⟩,
 ⟨(some 14), .mv (.tmp 17), none⟩])
 (.cond (.tmp 14)
 (.seq (.reg [⟨(some 6), .mv (.const (.slice none 0 0)), none⟩,
 ⟨(some 7), .mv (.const (.int .i64 180)), none⟩])
 (.ret))
 (.seq (.reg [⟨(some 19), .ldn 6 (.tmp 3), none⟩,
 ⟨(some 20), .mv (.tmp 1), none⟩,
 ⟨(some 21), .call 43 [(.tmp 19), (.tmp 20)], none⟩,
 ⟨(some 22), .un .not (.tmp 21), none⟩,
 ⟨(some 18), .mv (.tmp 22), none⟩])
 (.cond (.tmp 18)
 (.seq (.reg [⟨(some 6), .mv (.const (.slice none 0 0)), none⟩,
 ⟨(some 7), .mv (.const (.int .i64 4)), none⟩])
 (.ret))
 (.seq (.any [(true, 0, [], ⟨(some 24), .fa 1 (.tmp 3), none⟩),
 (true, 1, [], ⟨(some 25), .ld1 (.tmp 24), none⟩),
 (true, 2, [], ⟨(some 26), .mv (.tmp 1), none⟩),
 (true, 3, [], ⟨(some 27), .is 3 (.tmp 25) (.tmp 26), none⟩),
 (true, 4, [], ⟨(some 28), .ldn 3 (.tmp 27), none⟩),
 (false, 5, [0, 1, 2, 3, 4], ⟨(some 29), .ldn 4 (.tmp 5), none⟩),
 (false, 6, [], ⟨(some 30), .call 61 [(.tmp 28), (.tmp 29)], none⟩),
 (false, 7, [], ⟨(some 31), .un .not (.tmp 30), none⟩),
 (false, 8, [], ⟨(some 23), .mv (.tmp 31), none⟩)])
 (.cond (.tmp 23)
 (.seq (.reg [⟨(some 6), .mv (.const (.slice none 0 0)), none⟩,
 ⟨(some 7), .mv (.const (.int .i64 2)), none⟩])
 (.ret))
 (.skip))))))))
 (.seq (.reg [⟨(some 32), .fa 1 (.tmp 3), none⟩,
 ⟨(some 33), .ld1 (.tmp 32), none⟩,
 ⟨(some 34), .mv (.tmp 1), none⟩,
 ⟨(some 35), .is 3 (.tmp 33) (.tmp 34), none⟩,
 ⟨(some 36), .ldn 3 (.tmp 35), none⟩,
 ⟨(some 8), .alloc 38 [(.int .i64 0), (.int .i64 0), (.slice none 0 0)], none⟩,
 ⟨none, .stn 3 (.tmp 8) (.tmp 36), none⟩])
 (.seq (.reg [⟨(some 37), .fa 0 (.tmp 3), none⟩,
 ⟨(some 38), .ld1 (.tmp 37), none⟩,
 ⟨(some 39), .call 45 [(.tmp 38)], none⟩,
 ⟨(some 9), .mv (.tmp 39), none⟩])
 (.seq (.reg [⟨(some 10), .mv (.const (.slice none 0 0)), none⟩])
 (.seq (.seq (.reg [⟨(some 40), .fa 1 (.tmp 5), none⟩,
 ⟨(some 41), .ld1 (.tmp 40), none⟩,
 ⟨(some 11), .mv (.tmp 41), none⟩])
 (.block 1 (.loop (.seq (.seq (.reg [⟨(some 42), .mv (.tmp 11), none⟩,
 ⟨(some 43), .fa 1 (.tmp 5), none⟩,
 ⟨(some 44), .ld1 (.tmp 43), none⟩,
 ⟨(some 45), .fa 3 (.tmp 5), none⟩,
 ⟨(some 46), .ld1 (.tmp 45), none⟩,
 ⟨(some 47), .bin .add (.tmp 44) (.tmp 46), none⟩,
 ⟨(some 48), .bin .lss (.tmp 42) (.tmp 47), none⟩])
 (.cond (.tmp 48)
 (.skip)
 (.exit 1)))
 (.seq (.block 2 (.seq (.reg [⟨(some 51), .fa 0 (.tmp 5), none⟩,
 ⟨(some 52), .ld1 (.tmp 51), none⟩,
 ⟨(some 12), .mv (.tmp 52), none⟩])
 (.block 3 (.loop (.seq (.seq (.reg [⟨(some 53), .mv (.tmp 12), none⟩,
 ⟨(some 54), .fa 0 (.tmp 5), none⟩,
 ⟨(some 55), .ld1 (.tmp 54), none⟩,
 ⟨(some 56), .fa 2 (.tmp 5), none⟩,
 ⟨(some 57), .ld1 (.tmp 56), none⟩,
 ⟨(some 58), .bin .add (.tmp 55) (.tmp 57), none⟩,
 ⟨(some 59), .bin .lss (.tmp 53) (.tmp 58), none⟩])
 (.cond (.tmp 59)
 (.skip)
 (.exit 3)))
 (.seq (.block 4 (.seq (.reg [⟨(some 62), .mv (.tmp 11), none⟩,
 ⟨(some 63), .fa 0 (.tmp 8), none⟩,
 ⟨(some 64), .ld1 (.tmp 63), none⟩,
 ⟨(some 65), .bin .mul (.tmp 62) (.tmp 64), none⟩,
 ⟨(some 66), .mv (.tmp 12), none⟩,
 ⟨(some 67), .bin .add (.tmp 65) (.tmp 66), none⟩,
 ⟨(some 68), .mv (.tmp 9), none⟩,
 ⟨(some 69), .bin .mul (.tmp 67) (.tmp 68), none⟩,
 ⟨(some 13), .mv (.tmp 69), none⟩])
 (.reg [⟨(some 70), .mv (.tmp 10), none⟩,
 ⟨(some 71), .fa 2 (.tmp 8), none⟩,
 ⟨(some 72), .ld1 (.tmp 71), none⟩,
 ⟨(some 73), .mv (.tmp 13), none⟩,
 ⟨(some 74), .mv (.tmp 13), none⟩,
 ⟨(some 75), .mv (.tmp 9), none⟩,
 ⟨(some 76), .bin .add (.tmp 74) (.tmp 75), none⟩,
 ⟨(some 77), .slc 1 (.tmp 72) (some (.tmp 73)) (some (.tmp 76)), none⟩,
 ⟨(some 78), .app 5 1 1 [(.int .u8 0)] (.tmp 70) (.tmp 77), none⟩,
 ⟨(some 10), .mv (.tmp 78), none⟩])))
 (.reg [⟨(some 60), .mv (.tmp 12), none⟩,
 ⟨(some 61), .bin .add (.tmp 60) (.const (.int .i64 1)), none⟩,
 ⟨(some 12), .mv (.tmp 61), none⟩])))))))
 (.reg [⟨(some 49), .mv (.tmp 11), none⟩,
 ⟨(some 50), .bin .add (.tmp 49) (.const (.int .i64 1)), none⟩,
 ⟨(some 11), .mv (.tmp 50), none⟩]))))))
 (.seq (.reg [⟨(some 79), .mv (.tmp 10), none⟩,
 ⟨(some 6), .mv (.tmp 79), none⟩,
 ⟨(some 7), .mv (.const (.int .i64 0)), none⟩])
 (.ret)))))))
theorem k37 : fnOk Try.prog 37 = some (M37, [.t 6, .t 7], 80) := by kernel_rfl

theorem r_Get_err (x : Im) (hx : ImOk w0 H x) (lv : Int) (p : Pc) (e : Int) (he : FindE x lv p e) (h : K (.tuple #[.slice none 0 0, .int .i64 e]) H) : HCalls Try.prog w0 37 [x.v, .int .i64 lv, p.v] H K := by
  have cC : ∀ (G : Heap) (K : Value → Heap → Prop), Grow w0 H G → K (.bool (decide x.right)) G → HCalls Try.prog w0 29 [x.v] G K := fun G K g hk => r_Right8 x (hx.grow g) hk
  cases he with
  | image hr =>
    rw [decide_eq_false hr] at cC
    clear hr hx
    unfold Im.v Pc.v at *
    refine HL.hc k37 999 ?_; unfold M37
    (all_goals (try simp only [Sq,Sr,Sh,Si,Sl,Bu,Bb,Bd,Bc,Bw,Bn,Int.reduceAdd,Int.reduceSub,Int.reduceMul,Int.reduceTDiv,Int.reduceTMod,Int.reduceMod,Int.reduceDiv,Nat.reduceLT,Nat.reduceEqDiff,Sa,Sb,Sc,Sd,Se,Sf,Sg,Int.reduceLE,Int.reduceLT,Int.reduceToNat,Int.reduceNeg,Int.reduceEq,Nat.reduceLeDiff,Nat.reducePow,Int.reducePow,reduceIte,Nat.reduceSub,Nat.reduceAdd,Nat.reduceMul,putAt,ceq,List.replicate, *])); repeat' ((first | (with_reducible refine fun _ : True => ?_) | refine cC _ _ (by (repeat' (first | exact Grow.refl _ | assumption | (refine Grow_known (by first | (simp only [Heap.set_same, set_ne, ne_eq, not_false_eq_true, *] <;> rfl) | fail) ?_) | (refine Grow.set ?_ (by assumption) (by first | (simp only [*] <;> done) | (simp [set_none', Heap.set_same, set_ne, noneH, *] <;> done) | fail)) | (refine Grow.trans ?_ (by assumption))))) ?_ | (with_reducible refine any_h ?_) | ((first | refine AllocQ_i ?_ | refine AllocO_i ?_); intro bk hb0 hbk; (try simp only [set_none'] at hbk); (try (first | have hbn := Grow.none (by assumption) hbk | have hbn := Grow.none (by assumption) hbk.2 | have hbn := Grow.none (by assumption) hbk.2.2 | have hbn := Grow.none (by assumption) hbk.2.2.2 | have hbn := Grow.none (by assumption) hbk.2.2.2.2 | have hbn := Grow.none (by assumption) hbk.2.2.2.2.2)); (try simp only [set_none'] at hbn); (try (first | have hbm := Grow.none (by assumption) hbn | have hbm := Grow.none (by assumption) hbn.2 | have hbm := Grow.none (by assumption) hbn.2.2 | have hbm := Grow.none (by assumption) hbn.2.2.2 | have hbm := Grow.none (by assumption) hbn.2.2.2.2 | have hbm := Grow.none (by assumption) hbn.2.2.2.2.2)); (try simp only [set_none'] at hbm)) | ((first | refine condS_i ?_ ?_ | refine pick_i ?_ ?_ | refine gS_it ?_ ?_ | refine gS_if ?_ ?_ | refine gP_it ?_ ?_ | refine gP_if ?_ ?_) <;> (intro hc; try simp only [Int.reduceLE,Int.reduceLT,Int.reduceEq,Sn] at hc)) | (with_reducible refine And.intro ?_ ?_)) <;> (try simp only [Sq,Sr,Sh,Si,Sl,Bu,Bb,Bd,Bc,Bw,Bn,Int.reduceAdd,Int.reduceSub,Int.reduceMul,Int.reduceTDiv,Int.reduceTMod,Int.reduceMod,Int.reduceDiv,Nat.reduceLT,Nat.reduceEqDiff,Sa,Sb,Sc,Sd,Se,Sf,Sg,Int.reduceLE,Int.reduceLT,Int.reduceToNat,Int.reduceNeg,Int.reduceEq,Nat.reduceLeDiff,Nat.reducePow,Int.reducePow,reduceIte,Nat.reduceSub,Nat.reduceAdd,Nat.reduceMul,putAt,ceq,List.replicate, *]))
    all_goals exact Fin_mk (by (repeat' (first | exact Heap.Le.refl _ | (with_reducible refine Le_set2 ?_) | (refine Le_known (by first | (simp only [Heap.set_same, set_ne, ne_eq, not_false_eq_true, *] <;> rfl) | fail) ?_) | (refine Le_fresh (by first | (simp only [*] <;> done) | (simp [set_none', Heap.set_same, set_ne, noneH, *] <;> done) | fail) ?_) | (refine Heap.Le.trans ?_ (Grow.le (by assumption))) | exact Le_none | (refine Le_put ?_ (by first | (simp only [Heap.set_same, set_ne, ne_eq, not_false_eq_true, *] <;> rfl) | fail)) | fail))) h
  | low hr h0 =>
    rw [decide_eq_true hr] at cC
    have cT : ∀ (G : Heap) (K : Value → Heap → Prop), K (.bool false) G → HCalls Try.prog w0 43 [x.v, .int .i64 lv] G K := fun G K hk => r_there_low x lv (.inl h0) hk
    clear hr hx
    unfold Im.v Pc.v at *
    refine HL.hc k37 999 ?_; unfold M37
    (all_goals (try simp only [Sq,Sr,Sh,Si,Sl,Bu,Bb,Bd,Bc,Bw,Bn,Int.reduceAdd,Int.reduceSub,Int.reduceMul,Int.reduceTDiv,Int.reduceTMod,Int.reduceMod,Int.reduceDiv,Nat.reduceLT,Nat.reduceEqDiff,Sa,Sb,Sc,Sd,Se,Sf,Sg,Int.reduceLE,Int.reduceLT,Int.reduceToNat,Int.reduceNeg,Int.reduceEq,Nat.reduceLeDiff,Nat.reducePow,Int.reducePow,reduceIte,Nat.reduceSub,Nat.reduceAdd,Nat.reduceMul,putAt,ceq,List.replicate, *])); repeat' ((first | (with_reducible refine fun _ : True => ?_) | refine cC _ _ (by (repeat' (first | exact Grow.refl _ | assumption | (refine Grow_known (by first | (simp only [Heap.set_same, set_ne, ne_eq, not_false_eq_true, *] <;> rfl) | fail) ?_) | (refine Grow.set ?_ (by assumption) (by first | (simp only [*] <;> done) | (simp [set_none', Heap.set_same, set_ne, noneH, *] <;> done) | fail)) | (refine Grow.trans ?_ (by assumption))))) ?_ | refine cT _ _ ?_ | (with_reducible refine any_h ?_) | ((first | refine AllocQ_i ?_ | refine AllocO_i ?_); intro bk hb0 hbk; (try simp only [set_none'] at hbk); (try (first | have hbn := Grow.none (by assumption) hbk | have hbn := Grow.none (by assumption) hbk.2 | have hbn := Grow.none (by assumption) hbk.2.2 | have hbn := Grow.none (by assumption) hbk.2.2.2 | have hbn := Grow.none (by assumption) hbk.2.2.2.2 | have hbn := Grow.none (by assumption) hbk.2.2.2.2.2)); (try simp only [set_none'] at hbn); (try (first | have hbm := Grow.none (by assumption) hbn | have hbm := Grow.none (by assumption) hbn.2 | have hbm := Grow.none (by assumption) hbn.2.2 | have hbm := Grow.none (by assumption) hbn.2.2.2 | have hbm := Grow.none (by assumption) hbn.2.2.2.2 | have hbm := Grow.none (by assumption) hbn.2.2.2.2.2)); (try simp only [set_none'] at hbm)) | ((first | refine condS_i ?_ ?_ | refine pick_i ?_ ?_ | refine gS_it ?_ ?_ | refine gS_if ?_ ?_ | refine gP_it ?_ ?_ | refine gP_if ?_ ?_) <;> (intro hc; try simp only [Int.reduceLE,Int.reduceLT,Int.reduceEq,Sn] at hc)) | (with_reducible refine And.intro ?_ ?_)) <;> (try simp only [Sq,Sr,Sh,Si,Sl,Bu,Bb,Bd,Bc,Bw,Bn,Int.reduceAdd,Int.reduceSub,Int.reduceMul,Int.reduceTDiv,Int.reduceTMod,Int.reduceMod,Int.reduceDiv,Nat.reduceLT,Nat.reduceEqDiff,Sa,Sb,Sc,Sd,Se,Sf,Sg,Int.reduceLE,Int.reduceLT,Int.reduceToNat,Int.reduceNeg,Int.reduceEq,Nat.reduceLeDiff,Nat.reducePow,Int.reducePow,reduceIte,Nat.reduceSub,Nat.reduceAdd,Nat.reduceMul,putAt,ceq,List.replicate, *]))
    all_goals exact Fin_mk (by (repeat' (first | exact Heap.Le.refl _ | (with_reducible refine Le_set2 ?_) | (refine Le_known (by first | (simp only [Heap.set_same, set_ne, ne_eq, not_false_eq_true, *] <;> rfl) | fail) ?_) | (refine Le_fresh (by first | (simp only [*] <;> done) | (simp [set_none', Heap.set_same, set_ne, noneH, *] <;> done) | fail) ?_) | (refine Heap.Le.trans ?_ (Grow.le (by assumption))) | exact Le_none | (refine Le_put ?_ (by first | (simp only [Heap.set_same, set_ne, ne_eq, not_false_eq_true, *] <;> rfl) | fail)) | fail))) h
  | high hr h0 h1 =>
    rw [decide_eq_true hr] at cC
    have cT : ∀ (G : Heap) (K : Value → Heap → Prop), K (.bool false) G → HCalls Try.prog w0 43 [x.v, .int .i64 lv] G K := fun G K hk => r_there_low x lv (.inr h1) hk
    clear hr hx
    unfold Im.v Pc.v at *
    refine HL.hc k37 999 ?_; unfold M37
    (all_goals (try simp only [Sq,Sr,Sh,Si,Sl,Bu,Bb,Bd,Bc,Bw,Bn,Int.reduceAdd,Int.reduceSub,Int.reduceMul,Int.reduceTDiv,Int.reduceTMod,Int.reduceMod,Int.reduceDiv,Nat.reduceLT,Nat.reduceEqDiff,Sa,Sb,Sc,Sd,Se,Sf,Sg,Int.reduceLE,Int.reduceLT,Int.reduceToNat,Int.reduceNeg,Int.reduceEq,Nat.reduceLeDiff,Nat.reducePow,Int.reducePow,reduceIte,Nat.reduceSub,Nat.reduceAdd,Nat.reduceMul,putAt,ceq,List.replicate, *])); repeat' ((first | (with_reducible refine fun _ : True => ?_) | refine cC _ _ (by (repeat' (first | exact Grow.refl _ | assumption | (refine Grow_known (by first | (simp only [Heap.set_same, set_ne, ne_eq, not_false_eq_true, *] <;> rfl) | fail) ?_) | (refine Grow.set ?_ (by assumption) (by first | (simp only [*] <;> done) | (simp [set_none', Heap.set_same, set_ne, noneH, *] <;> done) | fail)) | (refine Grow.trans ?_ (by assumption))))) ?_ | refine cT _ _ ?_ | (with_reducible refine any_h ?_) | ((first | refine AllocQ_i ?_ | refine AllocO_i ?_); intro bk hb0 hbk; (try simp only [set_none'] at hbk); (try (first | have hbn := Grow.none (by assumption) hbk | have hbn := Grow.none (by assumption) hbk.2 | have hbn := Grow.none (by assumption) hbk.2.2 | have hbn := Grow.none (by assumption) hbk.2.2.2 | have hbn := Grow.none (by assumption) hbk.2.2.2.2 | have hbn := Grow.none (by assumption) hbk.2.2.2.2.2)); (try simp only [set_none'] at hbn); (try (first | have hbm := Grow.none (by assumption) hbn | have hbm := Grow.none (by assumption) hbn.2 | have hbm := Grow.none (by assumption) hbn.2.2 | have hbm := Grow.none (by assumption) hbn.2.2.2 | have hbm := Grow.none (by assumption) hbn.2.2.2.2 | have hbm := Grow.none (by assumption) hbn.2.2.2.2.2)); (try simp only [set_none'] at hbm)) | ((first | refine condS_i ?_ ?_ | refine pick_i ?_ ?_ | refine gS_it ?_ ?_ | refine gS_if ?_ ?_ | refine gP_it ?_ ?_ | refine gP_if ?_ ?_) <;> (intro hc; try simp only [Int.reduceLE,Int.reduceLT,Int.reduceEq,Sn] at hc)) | (with_reducible refine And.intro ?_ ?_)) <;> (try simp only [Sq,Sr,Sh,Si,Sl,Bu,Bb,Bd,Bc,Bw,Bn,Int.reduceAdd,Int.reduceSub,Int.reduceMul,Int.reduceTDiv,Int.reduceTMod,Int.reduceMod,Int.reduceDiv,Nat.reduceLT,Nat.reduceEqDiff,Sa,Sb,Sc,Sd,Se,Sf,Sg,Int.reduceLE,Int.reduceLT,Int.reduceToNat,Int.reduceNeg,Int.reduceEq,Nat.reduceLeDiff,Nat.reducePow,Int.reducePow,reduceIte,Nat.reduceSub,Nat.reduceAdd,Nat.reduceMul,putAt,ceq,List.replicate, *]))
    all_goals exact Fin_mk (by (repeat' (first | exact Heap.Le.refl _ | (with_reducible refine Le_set2 ?_) | (refine Le_known (by first | (simp only [Heap.set_same, set_ne, ne_eq, not_false_eq_true, *] <;> rfl) | fail) ?_) | (refine Le_fresh (by first | (simp only [*] <;> done) | (simp [set_none', Heap.set_same, set_ne, noneH, *] <;> done) | fail) ?_) | (refine Heap.Le.trans ?_ (Grow.le (by assumption))) | exact Le_none | (refine Le_put ?_ (by first | (simp only [Heap.set_same, set_ne, ne_eq, not_false_eq_true, *] <;> rfl) | fail)) | fail))) h
  | none k z hr hk ez hn =>
    rw [decide_eq_true hr] at cC
    subst hk
    have cT : ∀ (G : Heap) (K : Value → Heap → Prop), Grow w0 H G → K (.bool false) G → HCalls Try.prog w0 43 [x.v, .int .i64 (k : Nat)] G K := fun G K g hk => r_there_at x (hx.grow g) k z ez (by rw [decide_eq_true hn]; exact hk)
    clear hr hx hn ez
    unfold Im.v Pc.v at *
    refine HL.hc k37 999 ?_; unfold M37
    (all_goals (try simp only [Sq,Sr,Sh,Si,Sl,Bu,Bb,Bd,Bc,Bw,Bn,Int.reduceAdd,Int.reduceSub,Int.reduceMul,Int.reduceTDiv,Int.reduceTMod,Int.reduceMod,Int.reduceDiv,Nat.reduceLT,Nat.reduceEqDiff,Sa,Sb,Sc,Sd,Se,Sf,Sg,Int.reduceLE,Int.reduceLT,Int.reduceToNat,Int.reduceNeg,Int.reduceEq,Nat.reduceLeDiff,Nat.reducePow,Int.reducePow,reduceIte,Nat.reduceSub,Nat.reduceAdd,Nat.reduceMul,putAt,ceq,List.replicate, *])); repeat' ((first | (with_reducible refine fun _ : True => ?_) | refine cC _ _ (by (repeat' (first | exact Grow.refl _ | assumption | (refine Grow_known (by first | (simp only [Heap.set_same, set_ne, ne_eq, not_false_eq_true, *] <;> rfl) | fail) ?_) | (refine Grow.set ?_ (by assumption) (by first | (simp only [*] <;> done) | (simp [set_none', Heap.set_same, set_ne, noneH, *] <;> done) | fail)) | (refine Grow.trans ?_ (by assumption))))) ?_ | refine cT _ _ (by (repeat' (first | exact Grow.refl _ | assumption | (refine Grow_known (by first | (simp only [Heap.set_same, set_ne, ne_eq, not_false_eq_true, *] <;> rfl) | fail) ?_) | (refine Grow.set ?_ (by assumption) (by first | (simp only [*] <;> done) | (simp [set_none', Heap.set_same, set_ne, noneH, *] <;> done) | fail)) | (refine Grow.trans ?_ (by assumption))))) ?_ | (with_reducible refine any_h ?_) | ((first | refine AllocQ_i ?_ | refine AllocO_i ?_); intro bk hb0 hbk; (try simp only [set_none'] at hbk); (try (first | have hbn := Grow.none (by assumption) hbk | have hbn := Grow.none (by assumption) hbk.2 | have hbn := Grow.none (by assumption) hbk.2.2 | have hbn := Grow.none (by assumption) hbk.2.2.2 | have hbn := Grow.none (by assumption) hbk.2.2.2.2 | have hbn := Grow.none (by assumption) hbk.2.2.2.2.2)); (try simp only [set_none'] at hbn); (try (first | have hbm := Grow.none (by assumption) hbn | have hbm := Grow.none (by assumption) hbn.2 | have hbm := Grow.none (by assumption) hbn.2.2 | have hbm := Grow.none (by assumption) hbn.2.2.2 | have hbm := Grow.none (by assumption) hbn.2.2.2.2 | have hbm := Grow.none (by assumption) hbn.2.2.2.2.2)); (try simp only [set_none'] at hbm)) | ((first | refine condS_i ?_ ?_ | refine pick_i ?_ ?_ | refine gS_it ?_ ?_ | refine gS_if ?_ ?_ | refine gP_it ?_ ?_ | refine gP_if ?_ ?_) <;> (intro hc; try simp only [Int.reduceLE,Int.reduceLT,Int.reduceEq,Sn] at hc)) | (with_reducible refine And.intro ?_ ?_)) <;> (try simp only [Sq,Sr,Sh,Si,Sl,Bu,Bb,Bd,Bc,Bw,Bn,Int.reduceAdd,Int.reduceSub,Int.reduceMul,Int.reduceTDiv,Int.reduceTMod,Int.reduceMod,Int.reduceDiv,Nat.reduceLT,Nat.reduceEqDiff,Sa,Sb,Sc,Sd,Se,Sf,Sg,Int.reduceLE,Int.reduceLT,Int.reduceToNat,Int.reduceNeg,Int.reduceEq,Nat.reduceLeDiff,Nat.reducePow,Int.reducePow,reduceIte,Nat.reduceSub,Nat.reduceAdd,Nat.reduceMul,putAt,ceq,List.replicate, *]))
    all_goals exact Fin_mk (by (repeat' (first | exact Heap.Le.refl _ | (with_reducible refine Le_set2 ?_) | (refine Le_known (by first | (simp only [Heap.set_same, set_ne, ne_eq, not_false_eq_true, *] <;> rfl) | fail) ?_) | (refine Le_fresh (by first | (simp only [*] <;> done) | (simp [set_none', Heap.set_same, set_ne, noneH, *] <;> done) | fail) ?_) | (refine Heap.Le.trans ?_ (Grow.le (by assumption))) | exact Le_none | (refine Le_put ?_ (by first | (simp only [Heap.set_same, set_ne, ne_eq, not_false_eq_true, *] <;> rfl) | fail)) | fail))) h
  | arg k z hr hk ez hn hpc =>
    rw [decide_eq_true hr] at cC
    subst hk
    have hp := (List.getElem?_eq_some_iff.1 ez).1
    have h0 : 0 ≤ (k : Int) := by omega
    have h4 : (k : Int) < (x.ls.length : Int) := by omega
    have cT : ∀ (G : Heap) (K : Value → Heap → Prop), Grow w0 H G → K (.bool true) G → HCalls Try.prog w0 43 [x.v, .int .i64 (k : Nat)] G K := fun G K g hk => r_there_at x (hx.grow g) k z ez (by rw [decide_eq_false hn]; exact hk)
    obtain ⟨b, o, ea, hrd, hf⟩ := lv_at hx ez
    obtain ⟨s1, s2, -⟩ := lv_side hr ez hn
    have cW : ∀ (G : Heap) (K : Value → Heap → Prop), K (.bool false) G → HCalls Try.prog w0 61 [.agg #[.int .i64 z.w, .int .i64 z.h, .slice z.a z.l.length z.cap], p.v] G K := fun G K hk => r_within z p s1 s2 (by rw [decide_eq_false hpc]; exact hk)
    clear hr hx hn ez hp hpc s1 s2
    unfold Im.v Pc.v at *
    rw [ea] at cC cT ⊢
    refine HL.hc k37 999 ?_; unfold M37
    (all_goals (try simp only [Sq,Sr,Sh,Si,Sl,Bu,Bb,Bd,Bc,Bw,Bn,Int.reduceAdd,Int.reduceSub,Int.reduceMul,Int.reduceTDiv,Int.reduceTMod,Int.reduceMod,Int.reduceDiv,Nat.reduceLT,Nat.reduceEqDiff,Sa,Sb,Sc,Sd,Se,Sf,Sg,Int.reduceLE,Int.reduceLT,Int.reduceToNat,Int.reduceNeg,Int.reduceEq,Nat.reduceLeDiff,Nat.reducePow,Int.reducePow,reduceIte,Nat.reduceSub,Nat.reduceAdd,Nat.reduceMul,putAt,ceq,List.replicate, *])); repeat' ((first | (with_reducible refine fun _ : True => ?_) | refine cC _ _ (by (repeat' (first | exact Grow.refl _ | assumption | (refine Grow_known (by first | (simp only [Heap.set_same, set_ne, ne_eq, not_false_eq_true, *] <;> rfl) | fail) ?_) | (refine Grow.set ?_ (by assumption) (by first | (simp only [*] <;> done) | (simp [set_none', Heap.set_same, set_ne, noneH, *] <;> done) | fail)) | (refine Grow.trans ?_ (by assumption))))) ?_ | refine cT _ _ (by (repeat' (first | exact Grow.refl _ | assumption | (refine Grow_known (by first | (simp only [Heap.set_same, set_ne, ne_eq, not_false_eq_true, *] <;> rfl) | fail) ?_) | (refine Grow.set ?_ (by assumption) (by first | (simp only [*] <;> done) | (simp [set_none', Heap.set_same, set_ne, noneH, *] <;> done) | fail)) | (refine Grow.trans ?_ (by assumption))))) ?_ | refine cW _ _ ?_ | (with_reducible refine any_h ?_) | ((first | refine AllocQ_i ?_ | refine AllocO_i ?_); intro bk hb0 hbk; (try simp only [set_none'] at hbk); (try (first | have hbn := Grow.none (by assumption) hbk | have hbn := Grow.none (by assumption) hbk.2 | have hbn := Grow.none (by assumption) hbk.2.2 | have hbn := Grow.none (by assumption) hbk.2.2.2 | have hbn := Grow.none (by assumption) hbk.2.2.2.2 | have hbn := Grow.none (by assumption) hbk.2.2.2.2.2)); (try simp only [set_none'] at hbn); (try (first | have hbm := Grow.none (by assumption) hbn | have hbm := Grow.none (by assumption) hbn.2 | have hbm := Grow.none (by assumption) hbn.2.2 | have hbm := Grow.none (by assumption) hbn.2.2.2 | have hbm := Grow.none (by assumption) hbn.2.2.2.2 | have hbm := Grow.none (by assumption) hbn.2.2.2.2.2)); (try simp only [set_none'] at hbm)) | ((first | refine condS_i ?_ ?_ | refine pick_i ?_ ?_ | refine gS_it ?_ ?_ | refine gS_if ?_ ?_ | refine gP_it ?_ ?_ | refine gP_if ?_ ?_) <;> (intro hc; try simp only [Int.reduceLE,Int.reduceLT,Int.reduceEq,Sn] at hc)) | (with_reducible refine And.intro ?_ ?_)) <;> (try simp only [Sq,Sr,Sh,Si,Sl,Bu,Bb,Bd,Bc,Bw,Bn,Int.reduceAdd,Int.reduceSub,Int.reduceMul,Int.reduceTDiv,Int.reduceTMod,Int.reduceMod,Int.reduceDiv,Nat.reduceLT,Nat.reduceEqDiff,Sa,Sb,Sc,Sd,Se,Sf,Sg,Int.reduceLE,Int.reduceLT,Int.reduceToNat,Int.reduceNeg,Int.reduceEq,Nat.reduceLeDiff,Nat.reducePow,Int.reducePow,reduceIte,Nat.reduceSub,Nat.reduceAdd,Nat.reduceMul,putAt,ceq,List.replicate, *]))
    all_goals exact Fin_mk (by (repeat' (first | exact Heap.Le.refl _ | (with_reducible refine Le_set2 ?_) | (refine Le_known (by first | (simp only [Heap.set_same, set_ne, ne_eq, not_false_eq_true, *] <;> rfl) | fail) ?_) | (refine Le_fresh (by first | (simp only [*] <;> done) | (simp [set_none', Heap.set_same, set_ne, noneH, *] <;> done) | fail) ?_) | (refine Heap.Le.trans ?_ (Grow.le (by assumption))) | exact Le_none | (refine Le_put ?_ (by first | (simp only [Heap.set_same, set_ne, ne_eq, not_false_eq_true, *] <;> rfl) | fail)) | fail))) h
end Go.Proofs.Ytdaipgnhconfnaa
