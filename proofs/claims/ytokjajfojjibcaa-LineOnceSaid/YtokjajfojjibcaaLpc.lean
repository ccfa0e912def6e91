/- The statement LineOnce, as a call (layer 23). -/
import Derived.Test.YtokjajfojjibcaaLpb
import Derived.Test.YtokjajfojjibcaaLmz
import Derived.Test.YtokjajfojjibcaaLou
import Derived.Test.YtokjajfojjibcaaLnk
set_option linter.unusedSimpArgs false
set_option linter.unusedVariables false
set_option maxRecDepth 100000
set_option maxHeartbeats 8000000
namespace Go.Proofs.Ytokjajfojjibcaa
open Go Go.HL Go.RowKit Go.ChangeShapes Go.WideShapes Pb
variable {w0 : World} {H G : Heap} {K : Value → Heap → Prop}

theorem wf_i64 {x : Int} (h : 0 ≤ x ∧ x < 64) : (Lit.int .i64 x).wf = true := by
  simp [Lit.wf, IntKind.min, IntKind.max, IntKind.signed, IntKind.bits]; omega
theorem seenB_nil : seenB [] = ⟨.o (.map #[] 0), []⟩ := by simp [seenB, seenL]
theorem lineA_len' {a b : Wn} : (lineA a b).length ≤ 64 := by unfold lineA; split <;> exact lineC_len 64
theorem Le_over {m : Nat} {x : Blk} (hm : H m = none) (h : Heap.Le H G) : Heap.Le H (G.set m x) := fun c y hc => by
  rw [Heap.set_other _ _ (fun e => by subst e; rw [hm] at hc; cases hc)]; exact h c y hc
theorem right_of {x y : WnR} (h : Tog [x.toWn, y.toWn]) : x.right ∧ y.right := ⟨(h _ (by simp)).1, (h _ (by simp)).1⟩
theorem rdn_blk {G : Heap} {b n : Nat} {t : Kd} {cs : List Value} (h : G b = some ⟨t, cs⟩) (hl : cs.length = n) (hn : 0 < n) : rdn w0 G b 0 n = some cs := by
  subst hl
  exact rdn_of (fun e => by subst e; simp at hn) fun i hi => by unfold rd1; rw [h]; simp only [Nat.zero_add]
/- paintbox/paintboxlaw23 LineOnce -/
def M6 : MC :=
  .seq (.reg [⟨(some 3), .box 25 (.tmp 0), none⟩,
 ⟨(some 4), .box 25 (.tmp 1), none⟩,
 ⟨(some 5), .box 25 (.tmp 2), none⟩,
 ⟨(some 6), .mv (.const (.bool false)), none⟩])
 (.seq (.seq (.reg [⟨(some 15), .call 9 [], none⟩,
 ⟨(some 16), .un .not (.tmp 15), none⟩])
 (.cond (.tmp 16)
 (.seq (.reg [⟨(some 6), .mv (.const (.bool false)), none⟩])
 (.ret))
 (.skip)))
 (.seq (.reg [⟨(some 18), .ldn 6 (.tmp 3), none⟩,
 ⟨(some 19), .ldn 6 (.tmp 4), none⟩,
 ⟨(some 20), .call 10 [(.tmp 18), (.tmp 19)], none⟩,
 ⟨(some 17), .mv (.tmp 20), none⟩,
 ⟨(some 21), .ext 0 (.tmp 17), none⟩,
 ⟨(some 22), .ext 1 (.tmp 17), none⟩,
 ⟨(some 7), .mv (.tmp 21), none⟩,
 ⟨(some 8), .mv (.tmp 22), none⟩])
 (.seq (.reg [⟨(some 24), .ldn 6 (.tmp 4), none⟩,
 ⟨(some 25), .ldn 6 (.tmp 5), none⟩,
 ⟨(some 26), .call 10 [(.tmp 24), (.tmp 25)], none⟩,
 ⟨(some 23), .mv (.tmp 26), none⟩,
 ⟨(some 27), .ext 0 (.tmp 23), none⟩,
 ⟨(some 28), .ext 1 (.tmp 23), none⟩,
 ⟨(some 9), .mv (.tmp 27), none⟩,
 ⟨(some 10), .mv (.tmp 28), none⟩])
 (.seq (.seq (.reg [⟨(some 29), .mv (.tmp 8), none⟩,
 ⟨(some 30), .bin .neq (.tmp 29) (.const (.int .i64 0)), none⟩,
 ⟨(some 31), .mv (.tmp 30), none⟩,
 ⟨(some 32), .mv (.tmp 10), (some (31, false))⟩,
 ⟨(some 33), .bin .neq (.tmp 32) (.const (.int .i64 0)), (some (31, false))⟩,
 ⟨(some 34), .pick (.tmp 31) (.const (.bool true)) (.tmp 33), none⟩])
 (.cond (.tmp 34)
 (.seq (.reg [⟨(some 6), .mv (.const (.bool true)), none⟩])
 (.ret))
 (.skip)))
 (.seq (.seq (.reg [⟨(some 35), .ldn 6 (.tmp 3), none⟩,
 ⟨(some 36), .ldn 6 (.tmp 4), none⟩,
 ⟨(some 37), .ldn 6 (.tmp 5), none⟩,
 ⟨(some 38), .call 18 [(.tmp 35), (.tmp 36), (.tmp 37)], none⟩])
 (.cond (.tmp 38)
 (.reg [⟨(some 9), .mv (.const (.slice none 0 0)), none⟩])
 (.skip)))
 (.seq (.reg [⟨(some 39), .mkm, none⟩,
 ⟨(some 11), .mv (.tmp 39), none⟩])
 (.seq (.seq (.reg [⟨(some 40), .mv (.tmp 7), none⟩,
 ⟨(some 41), .mv (.tmp 9), none⟩,
 ⟨(some 42), .app 46 10 72 [(.int .i64 0), (.int .i64 0), (.int .i32 0), (.int .i32 0), (.bool false), (.int .i32 0), (.int .i32 0), (.int .i32 0), (.int .i32 0), (.slice none 0 0)] (.tmp 40) (.tmp 41), none⟩,
 ⟨(some 43), .len (.tmp 42), none⟩,
 ⟨(some 44), .mv (.const (.int .i64 0)), none⟩])
 (.block 0 (.loop (.seq (.reg [⟨(some 45), .bin .lss (.tmp 44) (.tmp 43), none⟩])
 (.seq (.cond (.tmp 45)
 (.skip)
 (.exit 0))
 (.seq (.block 1 (.seq (.reg [⟨(some 46), .is 10 (.tmp 42) (.tmp 44), none⟩,
 ⟨(some 47), .ldn 10 (.tmp 46), none⟩,
 ⟨(some 13), .alloc 46 [(.int .i64 0), (.int .i64 0), (.int .i32 0), (.int .i32 0), (.bool false), (.int .i32 0), (.int .i32 0), (.int .i32 0), (.int .i32 0), (.slice none 0 0)], none⟩,
 ⟨none, .stn 10 (.tmp 13) (.tmp 47), none⟩])
 (.seq (.reg [⟨(some 48), .fa 0 (.tmp 13), none⟩,
 ⟨(some 49), .ld1 (.tmp 48), none⟩,
 ⟨(some 50), .fa 1 (.tmp 13), none⟩,
 ⟨(some 51), .ld1 (.tmp 50), none⟩,
 ⟨(some 52), .build [(.int .i64 0), (.int .i64 0)] [(0, 1, (.tmp 49)), (1, 1, (.tmp 51))], none⟩,
 ⟨(some 14), .alloc 47 [(.int .i64 0), (.int .i64 0)], none⟩,
 ⟨none, .stn 2 (.tmp 14) (.tmp 52), none⟩])
 (.seq (.seq (.reg [⟨(some 53), .mv (.tmp 11), none⟩,
 ⟨(some 54), .ldn 2 (.tmp 14), none⟩,
 ⟨(some 55), .lkp 47 false (.bool false) (.tmp 53) (.tmp 54), none⟩,
 ⟨(some 56), .mv (.tmp 55), none⟩,
 ⟨(some 57), .fa 0 (.tmp 13), (some (56, false))⟩,
 ⟨(some 58), .ld1 (.tmp 57), (some (56, false))⟩,
 ⟨(some 59), .bin .lss (.tmp 58) (.const (.int .i64 0)), (some (56, false))⟩,
 ⟨(some 60), .pick (.tmp 56) (.const (.bool true)) (.tmp 59), none⟩,
 ⟨(some 61), .mv (.tmp 60), none⟩,
 ⟨(some 62), .fa 0 (.tmp 13), (some (61, false))⟩,
 ⟨(some 63), .ld1 (.tmp 62), (some (61, false))⟩,
 ⟨(some 64), .bin .geq (.tmp 63) (.const (.int .i64 64)), (some (61, false))⟩,
 ⟨(some 65), .pick (.tmp 61) (.const (.bool true)) (.tmp 64), none⟩,
 ⟨(some 66), .mv (.tmp 65), none⟩,
 ⟨(some 67), .fa 1 (.tmp 13), (some (66, false))⟩,
 ⟨(some 68), .ld1 (.tmp 67), (some (66, false))⟩,
 ⟨(some 69), .bin .lss (.tmp 68) (.const (.int .i64 0)), (some (66, false))⟩,
 ⟨(some 70), .pick (.tmp 66) (.const (.bool true)) (.tmp 69), none⟩,
 ⟨(some 71), .mv (.tmp 70), none⟩,
 ⟨(some 72), .fa 1 (.tmp 13), (some (71, false))⟩,
 ⟨(some 73), .ld1 (.tmp 72), (some (71, false))⟩,
 ⟨(some 74), .bin .geq (.tmp 73) (.const (.int .i64 64)), (some (71, false))⟩,
 ⟨(some 75), .pick (.tmp 71) (.const (.bool true)) (.tmp 74), none⟩])
 (.cond (.tmp 75)
 (.seq (.reg [⟨(some 6), .mv (.const (.bool false)), none⟩])
 (.ret))
 (.skip)))
 (.reg [⟨(some 76), .mv (.tmp 11), none⟩,
 ⟨(some 77), .ldn 2 (.tmp 14), none⟩,
 ⟨none, .mup 47 (.tmp 76) (.tmp 77) (.const (.bool true)), none⟩])))))
 (.reg [⟨(some 78), .bin .add (.tmp 44) (.const (.int .i64 1)), none⟩,
 ⟨(some 44), .mv (.tmp 78), none⟩])))))))
 (.seq (.reg [⟨(some 6), .mv (.const (.bool true)), none⟩])
 (.ret)))))))))
theorem k6 : fnOk Try.prog 6 = some (M6, [.t 6], 79) := by kernel_rfl

theorem l_no (x y z : WnR) (hx : WnOk w0 H x) (hy : WnOk w0 H y) (hz : WnOk w0 H z) (hr : ¬ (Tog [x.toWn, y.toWn] ∧ Tog [y.toWn, z.toWn])) (h : K (.bool true) H) : HCalls Try.prog w0 6 [x.v, y.v, z.v] H K := by
  have L1 := fun (h : Tog [x.toWn, y.toWn]) (G : Heap) (K : Value → Heap → Prop) (g : Grow w0 H G) (hk : ∀ a' cap' (os : List FrR) H', Grow w0 G H' → K (.tuple #[.slice a' os.length cap', .int .i64 0]) H') => c_Line_yes (K := K) x y (hx.grow g) (hy.grow g) h (fun a' cap' os H' _ _ _ hg => hk a' cap' os H' hg)
  have L2 := fun (h : Tog [y.toWn, z.toWn]) (G : Heap) (K : Value → Heap → Prop) (g : Grow w0 H G) (hk : ∀ a' cap' (os : List FrR) H', Grow w0 G H' → K (.tuple #[.slice a' os.length cap', .int .i64 0]) H') => c_Line_yes (K := K) y z (hy.grow g) (hz.grow g) h (fun a' cap' os H' _ _ _ hg => hk a' cap' os H' hg)
  have M1 := fun (h : ¬ Tog [x.toWn, y.toWn]) (G : Heap) (K : Value → Heap → Prop) (g : Grow w0 H G) (hk : K (.tuple #[.slice none 0 0, .int .i64 320]) G) => c_Line_no (K := K) x y (hx.grow g) (hy.grow g) h hk
  have M2 := fun (h : ¬ Tog [y.toWn, z.toWn]) (G : Heap) (K : Value → Heap → Prop) (g : Grow w0 H G) (hk : K (.tuple #[.slice none 0 0, .int .i64 320]) G) => c_Line_no (K := K) y z (hy.grow g) (hz.grow g) h hk
  unfold WnR.v at L1 L2 M1 M2 ⊢
  clear hx hy hz
  replace h : Keep _ := h
  by_cases t1 : Tog [x.toWn, y.toWn]
  · have t2 : ¬ Tog [y.toWn, z.toWn] := fun h => hr ⟨t1, h⟩
    have L1 := L1 t1
    have M2 := M2 t2
    clear M1 L2 hr t1 t2
    replace L1 : Keep _ := L1
    replace M2 : Keep _ := M2
    refine HL.hc k6 999 ?_; unfold M6
    (all_goals (try simp only [Sq,Sr,Sh,Si,Sl,Bu,Bb,Bd,Bc,Bw,Bn,Int.reduceAdd,Int.reduceSub,Int.reduceMul,Int.reduceTDiv,Int.reduceTMod,Int.reduceMod,Int.reduceDiv,Nat.reduceLT,Nat.reduceEqDiff,Sa,Sb,Sc,Sd,Se,Sf,Sg,Int.reduceLE,Int.reduceLT,Int.reduceToNat,Int.reduceNeg,Int.reduceEq,Nat.reduceLeDiff,Nat.reducePow,Int.reducePow,reduceIte,Nat.reduceSub,Nat.reduceAdd,Nat.reduceMul,putAt,ceq,List.replicate, *])); repeat' ((first | (with_reducible refine fun _ : True => ?_) | refine l_wakes ?_ | refine L1 _ _ (by (repeat' (first | exact Grow.refl _ | assumption | (refine Grow_known (by first | (simp only [Heap.set_same, set_ne, ne_eq, not_false_eq_true, *] <;> rfl) | fail) ?_) | (refine Grow.set ?_ (by assumption) (by first | (simp only [*] <;> done) | (simp [set_none', Heap.set_same, set_ne, noneH, *] <;> done) | fail)) | (refine Grow.trans ?_ (by assumption))))) (fun a' cap' os H' hg => ?_)  | (with_reducible refine any_h ?_) | ((first | refine AllocQ_i ?_ | refine AllocO_i ?_); intro bk hb0 hbk; (try simp only [set_none'] at hbk); (try (first | have hbn := Grow.none (by assumption) hbk | have hbn := Grow.none (by assumption) hbk.2 | have hbn := Grow.none (by assumption) hbk.2.2 | have hbn := Grow.none (by assumption) hbk.2.2.2 | have hbn := Grow.none (by assumption) hbk.2.2.2.2 | have hbn := Grow.none (by assumption) hbk.2.2.2.2.2)); (try simp only [set_none'] at hbn); (try (first | have hbm := Grow.none (by assumption) hbn | have hbm := Grow.none (by assumption) hbn.2 | have hbm := Grow.none (by assumption) hbn.2.2 | have hbm := Grow.none (by assumption) hbn.2.2.2 | have hbm := Grow.none (by assumption) hbn.2.2.2.2 | have hbm := Grow.none (by assumption) hbn.2.2.2.2.2)); (try simp only [set_none'] at hbm)) | ((first | refine condS_i ?_ ?_ | refine pick_i ?_ ?_ | refine gS_it ?_ ?_ | refine gS_if ?_ ?_ | refine gP_it ?_ ?_ | refine gP_if ?_ ?_) <;> (intro hc; try simp only [Int.reduceLE,Int.reduceLT,Int.reduceEq,Sn] at hc)) | (with_reducible refine KP_i ?_ ?_; · (repeat' (first | exact Heap.Le.refl _ | (with_reducible refine Le_set2 ?_) | (refine Le_known (by first | (simp only [Heap.set_same, set_ne, ne_eq, not_false_eq_true, *] <;> rfl) | fail) ?_) | (refine Le_fresh (by first | (simp only [*] <;> done) | (simp [set_none', Heap.set_same, set_ne, noneH, *] <;> done) | fail) ?_) | (refine Heap.Le.trans ?_ (Grow.le (by assumption))) | exact Le_none | (refine Le_put ?_ (by first | (simp only [Heap.set_same, set_ne, ne_eq, not_false_eq_true, *] <;> rfl) | fail)) | fail))) | (with_reducible refine And.intro ?_ ?_)) <;> (try simp only [Sq,Sr,Sh,Si,Sl,Bu,Bb,Bd,Bc,Bw,Bn,Int.reduceAdd,Int.reduceSub,Int.reduceMul,Int.reduceTDiv,Int.reduceTMod,Int.reduceMod,Int.reduceDiv,Nat.reduceLT,Nat.reduceEqDiff,Sa,Sb,Sc,Sd,Se,Sf,Sg,Int.reduceLE,Int.reduceLT,Int.reduceToNat,Int.reduceNeg,Int.reduceEq,Nat.reduceLeDiff,Nat.reducePow,Int.reducePow,reduceIte,Nat.reduceSub,Nat.reduceAdd,Nat.reduceMul,putAt,ceq,List.replicate, *]))
    rename_i b1 hb1 hn1 b2 hb2 hn2
    have r2 := rdn_blk (w0 := w0) (n := 6) (hg.some (by simp only [Heap.set_same, set_ne, ne_eq, not_false_eq_true, *] <;> rfl) : H' b2 = some _) rfl (by omega)
    have r3 := rdn_blk (w0 := w0) (n := 6) (hg.some (by simp only [Heap.set_same, set_ne, ne_eq, not_false_eq_true, *] <;> rfl) : H' bk = some _) rfl (by omega)
    have gH : Grow w0 H H' := Grow.trans (by (repeat' (first | exact Grow.refl _ | assumption | (refine Grow.set ?_ (by assumption) (by first | exact (by simp only [*]) | exact (by simp [set_none', *]) | exact Grow.none (by assumption) (by simp [set_none', *]))) | (refine Grow.trans ?_ (by assumption))))) hg
    have lH : Heap.Le H H' := gH.le
    clear hg L1 hb1 hn1 hb2 hn2 hb0 hbk
    (all_goals (try simp only [Sq,Sr,Sh,Si,Sl,Bu,Bb,Bd,Bc,Bw,Bn,Int.reduceAdd,Int.reduceSub,Int.reduceMul,Int.reduceTDiv,Int.reduceTMod,Int.reduceMod,Int.reduceDiv,Nat.reduceLT,Nat.reduceEqDiff,Sa,Sb,Sc,Sd,Se,Sf,Sg,Int.reduceLE,Int.reduceLT,Int.reduceToNat,Int.reduceNeg,Int.reduceEq,Nat.reduceLeDiff,Nat.reducePow,Int.reducePow,reduceIte,Nat.reduceSub,Nat.reduceAdd,Nat.reduceMul,putAt,ceq,List.replicate, *])); repeat' ((first | (with_reducible refine fun _ : True => ?_) | refine M2 _ _ gH ?_ | (with_reducible refine any_h ?_) | ((first | refine AllocQ_i ?_ | refine AllocO_i ?_); intro bk hb0 hbk; (try simp only [set_none'] at hbk); (try (first | have hbn := Grow.none (by assumption) hbk | have hbn := Grow.none (by assumption) hbk.2 | have hbn := Grow.none (by assumption) hbk.2.2 | have hbn := Grow.none (by assumption) hbk.2.2.2 | have hbn := Grow.none (by assumption) hbk.2.2.2.2 | have hbn := Grow.none (by assumption) hbk.2.2.2.2.2)); (try simp only [set_none'] at hbn); (try (first | have hbm := Grow.none (by assumption) hbn | have hbm := Grow.none (by assumption) hbn.2 | have hbm := Grow.none (by assumption) hbn.2.2 | have hbm := Grow.none (by assumption) hbn.2.2.2 | have hbm := Grow.none (by assumption) hbn.2.2.2.2 | have hbm := Grow.none (by assumption) hbn.2.2.2.2.2)); (try simp only [set_none'] at hbm)) | ((first | refine condS_i ?_ ?_ | refine pick_i ?_ ?_ | refine gS_it ?_ ?_ | refine gS_if ?_ ?_ | refine gP_it ?_ ?_ | refine gP_if ?_ ?_) <;> (intro hc; try simp only [Int.reduceLE,Int.reduceLT,Int.reduceEq,Sn] at hc)) | (with_reducible refine KP_i ?_ ?_; · (repeat' (first | exact Heap.Le.refl _ | (with_reducible refine Le_set2 ?_) | (refine Le_known (by first | (simp only [Heap.set_same, set_ne, ne_eq, not_false_eq_true, *] <;> rfl) | fail) ?_) | (refine Le_fresh (by first | (simp only [*] <;> done) | (simp [set_none', Heap.set_same, set_ne, noneH, *] <;> done) | fail) ?_) | (refine Heap.Le.trans ?_ (Grow.le (by assumption))) | exact Le_none | (refine Le_put ?_ (by first | (simp only [Heap.set_same, set_ne, ne_eq, not_false_eq_true, *] <;> rfl) | fail)) | fail))) | (with_reducible refine And.intro ?_ ?_)) <;> (try simp only [Sq,Sr,Sh,Si,Sl,Bu,Bb,Bd,Bc,Bw,Bn,Int.reduceAdd,Int.reduceSub,Int.reduceMul,Int.reduceTDiv,Int.reduceTMod,Int.reduceMod,Int.reduceDiv,Nat.reduceLT,Nat.reduceEqDiff,Sa,Sb,Sc,Sd,Se,Sf,Sg,Int.reduceLE,Int.reduceLT,Int.reduceToNat,Int.reduceNeg,Int.reduceEq,Nat.reduceLeDiff,Nat.reducePow,Int.reducePow,reduceIte,Nat.reduceSub,Nat.reduceAdd,Nat.reduceMul,putAt,ceq,List.replicate, *]))
    exact Fin_mk lH (kpo h)
  · have M1 := M1 t1
    clear L1
    replace M1 : Keep _ := M1
    by_cases t2 : Tog [y.toWn, z.toWn]
    · have L2 := L2 t2
      clear M2 hr t1 t2
      replace L2 : Keep _ := L2
      refine HL.hc k6 999 ?_; unfold M6
      (all_goals (try simp only [Sq,Sr,Sh,Si,Sl,Bu,Bb,Bd,Bc,Bw,Bn,Int.reduceAdd,Int.reduceSub,Int.reduceMul,Int.reduceTDiv,Int.reduceTMod,Int.reduceMod,Int.reduceDiv,Nat.reduceLT,Nat.reduceEqDiff,Sa,Sb,Sc,Sd,Se,Sf,Sg,Int.reduceLE,Int.reduceLT,Int.reduceToNat,Int.reduceNeg,Int.reduceEq,Nat.reduceLeDiff,Nat.reducePow,Int.reducePow,reduceIte,Nat.reduceSub,Nat.reduceAdd,Nat.reduceMul,putAt,ceq,List.replicate, *])); repeat' ((first | (with_reducible refine fun _ : True => ?_) | refine l_wakes ?_ | refine M1 _ _ (by (repeat' (first | exact Grow.refl _ | assumption | (refine Grow_known (by first | (simp only [Heap.set_same, set_ne, ne_eq, not_false_eq_true, *] <;> rfl) | fail) ?_) | (refine Grow.set ?_ (by assumption) (by first | (simp only [*] <;> done) | (simp [set_none', Heap.set_same, set_ne, noneH, *] <;> done) | fail)) | (refine Grow.trans ?_ (by assumption))))) ?_ | refine L2 _ _ (by (repeat' (first | exact Grow.refl _ | assumption | (refine Grow_known (by first | (simp only [Heap.set_same, set_ne, ne_eq, not_false_eq_true, *] <;> rfl) | fail) ?_) | (refine Grow.set ?_ (by assumption) (by first | (simp only [*] <;> done) | (simp [set_none', Heap.set_same, set_ne, noneH, *] <;> done) | fail)) | (refine Grow.trans ?_ (by assumption))))) (fun a' cap' os H' hg => ?_)  | (with_reducible refine any_h ?_) | ((first | refine AllocQ_i ?_ | refine AllocO_i ?_); intro bk hb0 hbk; (try simp only [set_none'] at hbk); (try (first | have hbn := Grow.none (by assumption) hbk | have hbn := Grow.none (by assumption) hbk.2 | have hbn := Grow.none (by assumption) hbk.2.2 | have hbn := Grow.none (by assumption) hbk.2.2.2 | have hbn := Grow.none (by assumption) hbk.2.2.2.2 | have hbn := Grow.none (by assumption) hbk.2.2.2.2.2)); (try simp only [set_none'] at hbn); (try (first | have hbm := Grow.none (by assumption) hbn | have hbm := Grow.none (by assumption) hbn.2 | have hbm := Grow.none (by assumption) hbn.2.2 | have hbm := Grow.none (by assumption) hbn.2.2.2 | have hbm := Grow.none (by assumption) hbn.2.2.2.2 | have hbm := Grow.none (by assumption) hbn.2.2.2.2.2)); (try simp only [set_none'] at hbm)) | ((first | refine condS_i ?_ ?_ | refine pick_i ?_ ?_ | refine gS_it ?_ ?_ | refine gS_if ?_ ?_ | refine gP_it ?_ ?_ | refine gP_if ?_ ?_) <;> (intro hc; try simp only [Int.reduceLE,Int.reduceLT,Int.reduceEq,Sn] at hc)) | (with_reducible refine KP_i ?_ ?_; · (repeat' (first | exact Heap.Le.refl _ | (with_reducible refine Le_set2 ?_) | (refine Le_known (by first | (simp only [Heap.set_same, set_ne, ne_eq, not_false_eq_true, *] <;> rfl) | fail) ?_) | (refine Le_fresh (by first | (simp only [*] <;> done) | (simp [set_none', Heap.set_same, set_ne, noneH, *] <;> done) | fail) ?_) | (refine Heap.Le.trans ?_ (Grow.le (by assumption))) | exact Le_none | (refine Le_put ?_ (by first | (simp only [Heap.set_same, set_ne, ne_eq, not_false_eq_true, *] <;> rfl) | fail)) | fail))) | (with_reducible refine And.intro ?_ ?_)) <;> (try simp only [Sq,Sr,Sh,Si,Sl,Bu,Bb,Bd,Bc,Bw,Bn,Int.reduceAdd,Int.reduceSub,Int.reduceMul,Int.reduceTDiv,Int.reduceTMod,Int.reduceMod,Int.reduceDiv,Nat.reduceLT,Nat.reduceEqDiff,Sa,Sb,Sc,Sd,Se,Sf,Sg,Int.reduceLE,Int.reduceLT,Int.reduceToNat,Int.reduceNeg,Int.reduceEq,Nat.reduceLeDiff,Nat.reducePow,Int.reducePow,reduceIte,Nat.reduceSub,Nat.reduceAdd,Nat.reduceMul,putAt,ceq,List.replicate, *]))
      have gH : Grow w0 H H' := Grow.trans (by (repeat' (first | exact Grow.refl _ | assumption | (refine Grow.set ?_ (by assumption) (by first | exact (by simp only [*]) | exact (by simp [set_none', *]) | exact Grow.none (by assumption) (by simp [set_none', *]))) | (refine Grow.trans ?_ (by assumption))))) hg
      exact Fin_mk gH.le (kpo h)
    · have M2 := M2 t2
      clear L2 hr t1 t2
      replace M2 : Keep _ := M2
      refine HL.hc k6 999 ?_; unfold M6
      (all_goals (try simp only [Sq,Sr,Sh,Si,Sl,Bu,Bb,Bd,Bc,Bw,Bn,Int.reduceAdd,Int.reduceSub,Int.reduceMul,Int.reduceTDiv,Int.reduceTMod,Int.reduceMod,Int.reduceDiv,Nat.reduceLT,Nat.reduceEqDiff,Sa,Sb,Sc,Sd,Se,Sf,Sg,Int.reduceLE,Int.reduceLT,Int.reduceToNat,Int.reduceNeg,Int.reduceEq,Nat.reduceLeDiff,Nat.reducePow,Int.reducePow,reduceIte,Nat.reduceSub,Nat.reduceAdd,Nat.reduceMul,putAt,ceq,List.replicate, *])); repeat' ((first | (with_reducible refine fun _ : True => ?_) | refine l_wakes ?_ | refine M1 _ _ (by (repeat' (first | exact Grow.refl _ | assumption | (refine Grow_known (by first | (simp only [Heap.set_same, set_ne, ne_eq, not_false_eq_true, *] <;> rfl) | fail) ?_) | (refine Grow.set ?_ (by assumption) (by first | (simp only [*] <;> done) | (simp [set_none', Heap.set_same, set_ne, noneH, *] <;> done) | fail)) | (refine Grow.trans ?_ (by assumption))))) ?_ | refine M2 _ _ (by (repeat' (first | exact Grow.refl _ | assumption | (refine Grow_known (by first | (simp only [Heap.set_same, set_ne, ne_eq, not_false_eq_true, *] <;> rfl) | fail) ?_) | (refine Grow.set ?_ (by assumption) (by first | (simp only [*] <;> done) | (simp [set_none', Heap.set_same, set_ne, noneH, *] <;> done) | fail)) | (refine Grow.trans ?_ (by assumption))))) ?_ | (with_reducible refine any_h ?_) | ((first | refine AllocQ_i ?_ | refine AllocO_i ?_); intro bk hb0 hbk; (try simp only [set_none'] at hbk); (try (first | have hbn := Grow.none (by assumption) hbk | have hbn := Grow.none (by assumption) hbk.2 | have hbn := Grow.none (by assumption) hbk.2.2 | have hbn := Grow.none (by assumption) hbk.2.2.2 | have hbn := Grow.none (by assumption) hbk.2.2.2.2 | have hbn := Grow.none (by assumption) hbk.2.2.2.2.2)); (try simp only [set_none'] at hbn); (try (first | have hbm := Grow.none (by assumption) hbn | have hbm := Grow.none (by assumption) hbn.2 | have hbm := Grow.none (by assumption) hbn.2.2 | have hbm := Grow.none (by assumption) hbn.2.2.2 | have hbm := Grow.none (by assumption) hbn.2.2.2.2 | have hbm := Grow.none (by assumption) hbn.2.2.2.2.2)); (try simp only [set_none'] at hbm)) | ((first | refine condS_i ?_ ?_ | refine pick_i ?_ ?_ | refine gS_it ?_ ?_ | refine gS_if ?_ ?_ | refine gP_it ?_ ?_ | refine gP_if ?_ ?_) <;> (intro hc; try simp only [Int.reduceLE,Int.reduceLT,Int.reduceEq,Sn] at hc)) | (with_reducible refine KP_i ?_ ?_; · (repeat' (first | exact Heap.Le.refl _ | (with_reducible refine Le_set2 ?_) | (refine Le_known (by first | (simp only [Heap.set_same, set_ne, ne_eq, not_false_eq_true, *] <;> rfl) | fail) ?_) | (refine Le_fresh (by first | (simp only [*] <;> done) | (simp [set_none', Heap.set_same, set_ne, noneH, *] <;> done) | fail) ?_) | (refine Heap.Le.trans ?_ (Grow.le (by assumption))) | exact Le_none | (refine Le_put ?_ (by first | (simp only [Heap.set_same, set_ne, ne_eq, not_false_eq_true, *] <;> rfl) | fail)) | fail))) | (with_reducible refine And.intro ?_ ?_)) <;> (try simp only [Sq,Sr,Sh,Si,Sl,Bu,Bb,Bd,Bc,Bw,Bn,Int.reduceAdd,Int.reduceSub,Int.reduceMul,Int.reduceTDiv,Int.reduceTMod,Int.reduceMod,Int.reduceDiv,Nat.reduceLT,Nat.reduceEqDiff,Sa,Sb,Sc,Sd,Se,Sf,Sg,Int.reduceLE,Int.reduceLT,Int.reduceToNat,Int.reduceNeg,Int.reduceEq,Nat.reduceLeDiff,Nat.reducePow,Int.reducePow,reduceIte,Nat.reduceSub,Nat.reduceAdd,Nat.reduceMul,putAt,ceq,List.replicate, *]))
      exact Fin_mk (by (repeat' (first | exact Heap.Le.refl _ | (with_reducible refine Le_set2 ?_) | (refine Le_known (by first | (simp only [Heap.set_same, set_ne, ne_eq, not_false_eq_true, *] <;> rfl) | fail) ?_) | (refine Le_fresh (by first | (simp only [*] <;> done) | (simp [set_none', Heap.set_same, set_ne, noneH, *] <;> done) | fail) ?_) | (refine Heap.Le.trans ?_ (Grow.le (by assumption))) | exact Le_none | (refine Le_put ?_ (by first | (simp only [Heap.set_same, set_ne, ne_eq, not_false_eq_true, *] <;> rfl) | fail)) | fail))) (kpo h)
theorem l_yes (x y z : WnR) (hx : WnOk w0 H x) (hy : WnOk w0 H y) (hz : WnOk w0 H z) (t1 : Tog [x.toWn, y.toWn]) (t2 : Tog [y.toWn, z.toWn]) (h : K (.bool true) H) : HCalls Try.prog w0 6 [x.v, y.v, z.v] H K := by
  have L1 := fun (G : Heap) (K : Value → Heap → Prop) (g : Grow w0 H G) => c_Line_yes (K := K) x y (hx.grow g) (hy.grow g) t1
  have L2 := fun (G : Heap) (K : Value → Heap → Prop) (g : Grow w0 H G) => c_Line_yes (K := K) y z (hy.grow g) (hz.grow g) t2
  have cA := fun (G : Heap) (K : Value → Heap → Prop) => c_apart (w0 := w0) (H := G) (K := K) x y z (right_of t1).1 (right_of t1).2 (right_of t2).2
  obtain ⟨ol1, ol2⟩ := once_law x.toWn y.toWn z.toWn
  unfold WnR.v at L1 L2 cA ⊢
  have hz1 := lineA_len' (a := x.toWn) (b := y.toWn)
  have hz2 := lineA_len' (a := y.toWn) (b := z.toWn)
  generalize lineA x.toWn y.toWn = A1 at L1 ol1 ol2 hz1
  generalize lineA y.toWn z.toWn = A2 at L2 ol1 ol2 hz2
  generalize apartB x.toWn y.toWn z.toWn = u at cA ol1 ol2
  clear hx hy hz t1 t2
  replace h : Keep _ := h
  replace L1 : Keep _ := L1
  replace L2 : Keep _ := L2
  replace cA : Keep _ := cA
  refine HL.hc k6 999 ?_; unfold M6
  (all_goals (try simp only [Sq,Sr,Sh,Si,Sl,Bu,Bb,Bd,Bc,Bw,Bn,Int.reduceAdd,Int.reduceSub,Int.reduceMul,Int.reduceTDiv,Int.reduceTMod,Int.reduceMod,Int.reduceDiv,Nat.reduceLT,Nat.reduceEqDiff,Sa,Sb,Sc,Sd,Se,Sf,Sg,Int.reduceLE,Int.reduceLT,Int.reduceToNat,Int.reduceNeg,Int.reduceEq,Nat.reduceLeDiff,Nat.reducePow,Int.reducePow,reduceIte,Nat.reduceSub,Nat.reduceAdd,Nat.reduceMul,putAt,ceq,List.replicate, *])); repeat' ((first | (with_reducible refine fun _ : True => ?_) | refine l_wakes ?_ | refine L1 _ _ (by (repeat' (first | exact Grow.refl _ | assumption | (refine Grow_known (by first | (simp only [Heap.set_same, set_ne, ne_eq, not_false_eq_true, *] <;> rfl) | fail) ?_) | (refine Grow.set ?_ (by assumption) (by first | (simp only [*] <;> done) | (simp [set_none', Heap.set_same, set_ne, noneH, *] <;> done) | fail)) | (refine Grow.trans ?_ (by assumption))))) (fun a1 c1 os1 H1 e1 hO1 hB1 hg1 => ?_)  | (with_reducible refine any_h ?_) | ((first | refine AllocQ_i ?_ | refine AllocO_i ?_); intro bk hb0 hbk; (try simp only [set_none'] at hbk); (try (first | have hbn := Grow.none (by assumption) hbk | have hbn := Grow.none (by assumption) hbk.2 | have hbn := Grow.none (by assumption) hbk.2.2 | have hbn := Grow.none (by assumption) hbk.2.2.2 | have hbn := Grow.none (by assumption) hbk.2.2.2.2 | have hbn := Grow.none (by assumption) hbk.2.2.2.2.2)); (try simp only [set_none'] at hbn); (try (first | have hbm := Grow.none (by assumption) hbn | have hbm := Grow.none (by assumption) hbn.2 | have hbm := Grow.none (by assumption) hbn.2.2 | have hbm := Grow.none (by assumption) hbn.2.2.2 | have hbm := Grow.none (by assumption) hbn.2.2.2.2 | have hbm := Grow.none (by assumption) hbn.2.2.2.2.2)); (try simp only [set_none'] at hbm)) | ((first | refine condS_i ?_ ?_ | refine pick_i ?_ ?_ | refine gS_it ?_ ?_ | refine gS_if ?_ ?_ | refine gP_it ?_ ?_ | refine gP_if ?_ ?_) <;> (intro hc; try simp only [Int.reduceLE,Int.reduceLT,Int.reduceEq,Sn] at hc)) | (with_reducible refine KP_i ?_ ?_; · (repeat' (first | exact Heap.Le.refl _ | (with_reducible refine Le_set2 ?_) | (refine Le_known (by first | (simp only [Heap.set_same, set_ne, ne_eq, not_false_eq_true, *] <;> rfl) | fail) ?_) | (refine Le_fresh (by first | (simp only [*] <;> done) | (simp [set_none', Heap.set_same, set_ne, noneH, *] <;> done) | fail) ?_) | (refine Heap.Le.trans ?_ (Grow.le (by assumption))) | exact Le_none | (refine Le_put ?_ (by first | (simp only [Heap.set_same, set_ne, ne_eq, not_false_eq_true, *] <;> rfl) | fail)) | fail))) | (with_reducible refine And.intro ?_ ?_)) <;> (try simp only [Sq,Sr,Sh,Si,Sl,Bu,Bb,Bd,Bc,Bw,Bn,Int.reduceAdd,Int.reduceSub,Int.reduceMul,Int.reduceTDiv,Int.reduceTMod,Int.reduceMod,Int.reduceDiv,Nat.reduceLT,Nat.reduceEqDiff,Sa,Sb,Sc,Sd,Se,Sf,Sg,Int.reduceLE,Int.reduceLT,Int.reduceToNat,Int.reduceNeg,Int.reduceEq,Nat.reduceLeDiff,Nat.reducePow,Int.reducePow,reduceIte,Nat.reduceSub,Nat.reduceAdd,Nat.reduceMul,putAt,ceq,List.replicate, *]))
  rename_i b1 hb1 hn1 b2 hb2 hn2
  have g1 : Grow w0 H H1 := Grow.trans (by (repeat' (first | exact Grow.refl _ | assumption | (refine Grow.set ?_ (by assumption) (by first | exact (by simp only [*]) | exact (by simp [set_none', *]) | exact Grow.none (by assumption) (by simp [set_none', *]))) | (refine Grow.trans ?_ (by assumption))))) hg1
  have k1 : H1 b1 = some _ := hg1.some (by simp only [Heap.set_same, set_ne, ne_eq, not_false_eq_true, *] <;> rfl)
  have k2 : H1 b2 = some _ := hg1.some (by simp only [Heap.set_same, set_ne, ne_eq, not_false_eq_true, *] <;> rfl)
  have k3 : H1 bk = some _ := hg1.some (by simp only [Heap.set_same, set_ne, ne_eq, not_false_eq_true, *] <;> rfl)
  have hB1' := Bld.base hB1 (show Grow w0 H _ from (by (repeat' (first | exact Grow.refl _ | assumption | (refine Grow_known (by first | (simp only [Heap.set_same, set_ne, ne_eq, not_false_eq_true, *] <;> rfl) | fail) ?_) | (refine Grow.set ?_ (by assumption) (by first | (simp only [*] <;> done) | (simp [set_none', Heap.set_same, set_ne, noneH, *] <;> done) | fail)) | (refine Grow.trans ?_ (by assumption))))))
  obtain ⟨b3, rfl⟩ : ∃ q, q = bk := ⟨_, rfl⟩
  clear hg1 hB1 L1 hb1 hn1 hb2 hn2 hb0 hbk
  have r1 := rdn_blk (w0 := w0) (n := 6) k1 rfl (by omega)
  have r2 := rdn_blk (w0 := w0) (n := 6) k2 rfl (by omega)
  have r3 := rdn_blk (w0 := w0) (n := 6) k3 rfl (by omega)
  replace k1 : Keep _ := k1
  replace k2 : Keep _ := k2
  replace k3 : Keep _ := k3
  replace hB1' : Keep _ := hB1'
  (all_goals (try simp only [Sq,Sr,Sh,Si,Sl,Bu,Bb,Bd,Bc,Bw,Bn,Int.reduceAdd,Int.reduceSub,Int.reduceMul,Int.reduceTDiv,Int.reduceTMod,Int.reduceMod,Int.reduceDiv,Nat.reduceLT,Nat.reduceEqDiff,Sa,Sb,Sc,Sd,Se,Sf,Sg,Int.reduceLE,Int.reduceLT,Int.reduceToNat,Int.reduceNeg,Int.reduceEq,Nat.reduceLeDiff,Nat.reducePow,Int.reducePow,reduceIte,Nat.reduceSub,Nat.reduceAdd,Nat.reduceMul,putAt,ceq,List.replicate, *])); repeat' ((first | (with_reducible refine fun _ : True => ?_) | refine L2 _ _ g1 (fun a2 c2 os2 H2 e2 hO2 hB2 hg2 => ?_)  | (with_reducible refine any_h ?_) | ((first | refine AllocQ_i ?_ | refine AllocO_i ?_); intro bk hb0 hbk; (try simp only [set_none'] at hbk); (try (first | have hbn := Grow.none (by assumption) hbk | have hbn := Grow.none (by assumption) hbk.2 | have hbn := Grow.none (by assumption) hbk.2.2 | have hbn := Grow.none (by assumption) hbk.2.2.2 | have hbn := Grow.none (by assumption) hbk.2.2.2.2 | have hbn := Grow.none (by assumption) hbk.2.2.2.2.2)); (try simp only [set_none'] at hbn); (try (first | have hbm := Grow.none (by assumption) hbn | have hbm := Grow.none (by assumption) hbn.2 | have hbm := Grow.none (by assumption) hbn.2.2 | have hbm := Grow.none (by assumption) hbn.2.2.2 | have hbm := Grow.none (by assumption) hbn.2.2.2.2 | have hbm := Grow.none (by assumption) hbn.2.2.2.2.2)); (try simp only [set_none'] at hbm)) | ((first | refine condS_i ?_ ?_ | refine pick_i ?_ ?_ | refine gS_it ?_ ?_ | refine gS_if ?_ ?_ | refine gP_it ?_ ?_ | refine gP_if ?_ ?_) <;> (intro hc; try simp only [Int.reduceLE,Int.reduceLT,Int.reduceEq,Sn] at hc)) | (with_reducible refine KP_i ?_ ?_; · (repeat' (first | exact Heap.Le.refl _ | (with_reducible refine Le_set2 ?_) | (refine Le_known (by first | (simp only [Heap.set_same, set_ne, ne_eq, not_false_eq_true, *] <;> rfl) | fail) ?_) | (refine Le_fresh (by first | (simp only [*] <;> done) | (simp [set_none', Heap.set_same, set_ne, noneH, *] <;> done) | fail) ?_) | (refine Heap.Le.trans ?_ (Grow.le (by assumption))) | exact Le_none | (refine Le_put ?_ (by first | (simp only [Heap.set_same, set_ne, ne_eq, not_false_eq_true, *] <;> rfl) | fail)) | fail))) | (with_reducible refine And.intro ?_ ?_)) <;> (try simp only [Sq,Sr,Sh,Si,Sl,Bu,Bb,Bd,Bc,Bw,Bn,Int.reduceAdd,Int.reduceSub,Int.reduceMul,Int.reduceTDiv,Int.reduceTMod,Int.reduceMod,Int.reduceDiv,Nat.reduceLT,Nat.reduceEqDiff,Sa,Sb,Sc,Sd,Se,Sf,Sg,Int.reduceLE,Int.reduceLT,Int.reduceToNat,Int.reduceNeg,Int.reduceEq,Nat.reduceLeDiff,Nat.reducePow,Int.reducePow,reduceIte,Nat.reduceSub,Nat.reduceAdd,Nat.reduceMul,putAt,ceq,List.replicate, *]))
  replace r1 := rdn_blk (w0 := w0) (n := 6) (hg2.some (kpo k1)) rfl (by omega)
  replace r2 := rdn_blk (w0 := w0) (n := 6) (hg2.some (kpo k2)) rfl (by omega)
  replace r3 := rdn_blk (w0 := w0) (n := 6) (hg2.some (kpo k3)) rfl (by omega)
  have g2 := g1.trans hg2
  have hB3 := Bld.grow (kpo hB1') hg2
  have hl1 : os1.length ≤ 64 := by rw [← List.length_map (f := FrR.toFr), e1]; exact hz1
  have hl2 : os2.length ≤ 64 := by rw [← List.length_map (f := FrR.toFr), e2]; exact hz2
  have hS3 : ∀ G, Grow w0 H2 G → srd w0 G a2 (os2.length * 10) = some (os2.map FrR.row).flatten := fun G g => by
    have := (hO2.at_.grow g).srd
    rw [fragT.flat os2] at this; exact this
  clear L2 hg2 hB2 hO1 hO2 k1 k2 k3 hB1' g1 hz1 hz2
  replace hB3 : Keep _ := hB3
  replace hS3 : Keep _ := hS3
  replace hl1 : Keep _ := hl1
  replace hl2 : Keep _ := hl2
  replace ol1 : Keep _ := ol1
  replace ol2 : Keep _ := ol2
  have hmv : ∀ m, mapV m = Value.map (some m) := fun _ => rfl
  cases u
  · (all_goals (try simp only [Sq,Sr,Sh,Si,Sl,Bu,Bb,Bd,Bc,Bw,Bn,Int.reduceAdd,Int.reduceSub,Int.reduceMul,Int.reduceTDiv,Int.reduceTMod,Int.reduceMod,Int.reduceDiv,Nat.reduceLT,Nat.reduceEqDiff,Sa,Sb,Sc,Sd,Se,Sf,Sg,Int.reduceLE,Int.reduceLT,Int.reduceToNat,Int.reduceNeg,Int.reduceEq,Nat.reduceLeDiff,Nat.reducePow,Int.reducePow,reduceIte,Nat.reduceSub,Nat.reduceAdd,Nat.reduceMul,putAt,ceq,List.replicate, *])); repeat' ((first | (with_reducible refine fun _ : True => ?_) | refine cA _ _ ?_ | (with_reducible refine any_h ?_) | ((first | refine AllocQ_i ?_ | refine AllocO_i ?_); intro bk hb0 hbk; (try simp only [set_none'] at hbk); (try (first | have hbn := Grow.none (by assumption) hbk | have hbn := Grow.none (by assumption) hbk.2 | have hbn := Grow.none (by assumption) hbk.2.2 | have hbn := Grow.none (by assumption) hbk.2.2.2 | have hbn := Grow.none (by assumption) hbk.2.2.2.2 | have hbn := Grow.none (by assumption) hbk.2.2.2.2.2)); (try simp only [set_none'] at hbn); (try (first | have hbm := Grow.none (by assumption) hbn | have hbm := Grow.none (by assumption) hbn.2 | have hbm := Grow.none (by assumption) hbn.2.2 | have hbm := Grow.none (by assumption) hbn.2.2.2 | have hbm := Grow.none (by assumption) hbn.2.2.2.2 | have hbm := Grow.none (by assumption) hbn.2.2.2.2.2)); (try simp only [set_none'] at hbm)) | ((first | refine condS_i ?_ ?_ | refine pick_i ?_ ?_ | refine gS_it ?_ ?_ | refine gS_if ?_ ?_ | refine gP_it ?_ ?_ | refine gP_if ?_ ?_) <;> (intro hc; try simp only [Int.reduceLE,Int.reduceLT,Int.reduceEq,Sn] at hc)) | (with_reducible refine KP_i ?_ ?_; · (repeat' (first | exact Heap.Le.refl _ | (with_reducible refine Le_set2 ?_) | (refine Le_known (by first | (simp only [Heap.set_same, set_ne, ne_eq, not_false_eq_true, *] <;> rfl) | fail) ?_) | (refine Le_fresh (by first | (simp only [*] <;> done) | (simp [set_none', Heap.set_same, set_ne, noneH, *] <;> done) | fail) ?_) | (refine Heap.Le.trans ?_ (Grow.le (by assumption))) | exact Le_none | (refine Le_put ?_ (by first | (simp only [Heap.set_same, set_ne, ne_eq, not_false_eq_true, *] <;> rfl) | fail)) | fail))) | (with_reducible refine And.intro ?_ ?_)) <;> (try simp only [Sq,Sr,Sh,Si,Sl,Bu,Bb,Bd,Bc,Bw,Bn,Int.reduceAdd,Int.reduceSub,Int.reduceMul,Int.reduceTDiv,Int.reduceTMod,Int.reduceMod,Int.reduceDiv,Nat.reduceLT,Nat.reduceEqDiff,Sa,Sb,Sc,Sd,Se,Sf,Sg,Int.reduceLE,Int.reduceLT,Int.reduceToNat,Int.reduceNeg,Int.reduceEq,Nat.reduceLeDiff,Nat.reducePow,Int.reducePow,reduceIte,Nat.reduceSub,Nat.reduceAdd,Nat.reduceMul,putAt,ceq,List.replicate, *]))
    have hS2x : srd w0 (H2.set bk ⟨.o (.map #[] 0), []⟩) a2 (os2.length * 10) = some (os2.map FrR.row).flatten := (kpo hS3 _ (Grow.set (Grow.refl _) hb0 hbk))
    have gm : Grow w0 H2 (H2.set bk ⟨.o (.map #[] 0), []⟩) := Grow.set (Grow.refl _) hb0 hbk
    refine app_bld (H := H) (n := os1.length) (m := (os2).length) (cs := (os1.map FrR.row).flatten) (ns := ((os2).map FrR.row).flatten) (Bld.grow (kpo hB3) gm) (fragT.flat os1) rfl (hS2x) (fragT.flat (os2)) (g2.trans gm) ⟨by have := kpo hl1; have := kpo hl2; omega, by have := kpo hl1; have := kpo hl2; omega⟩ (fragT.ones (os2)) (fun a' cap' G' hB' hg' hk' hc' => ?_)
    obtain ⟨m, rfl⟩ : ∃ m, m = bk := ⟨_, rfl⟩
    have hm : G' m = some ⟨.o (.map #[] 0), []⟩ := hk' m _ (Heap.set_same _ _ _) (fun e => by cases e)
    obtain ⟨fs, efs⟩ : ∃ l, os1 ++ (os2) = l := ⟨_, rfl⟩
    have hA : SlAt w0 G' a' (fs.map FrR.row).flatten := by rw [← efs, List.map_append, List.flatten_append]; exact hB'.slAt
    obtain ⟨n, en⟩ : ∃ n, os1.length + (os2).length = n := ⟨_, rfl⟩
    have hfl : fs.length = n := by rw [← efs, List.length_append, en]
    have hn200 : n ≤ 200 := by rw [← en]; have := kpo hl1; have := kpo hl2; omega
    rw [en]
    obtain ⟨ks, eks⟩ : ∃ l, (fs.map fun o => o.toFr.key) = l := ⟨_, rfl⟩
    have ekk : ks = ((os1.map FrR.toFr) ++ ((os2).map FrR.toFr)).map Fr.key := by rw [← eks, ← efs, ← List.map_append, List.map_map]; rfl
    have hnd : ks.Nodup := by rw [ekk, e1]; first | (rw [e2]; exact kpo ol1) | exact kpo ol1
    have hos : ∀ o ∈ fs, (0 ≤ o.x ∧ o.x < 64) ∧ 0 ≤ o.y ∧ o.y < 64 := fun o ho => by
      have := kpo ol2 o.toFr (by have h2 : o.toFr ∈ fs.map FrR.toFr := List.mem_map_of_mem ho; rw [← efs, List.map_append] at h2; simpa [e1, e2] using h2)
      exact this
    have hInk : ∀ c ∈ ks, InK c := fun c hc => by
      rw [← eks] at hc
      obtain ⟨o, ho, rfl⟩ := List.mem_map.1 hc
      have := hos o ho
      exact ⟨wf_i64 this.1, wf_i64 this.2⟩
    have hrow : ∀ (k : Nat) (o : FrR), fs[k]? = some o → ∃ b oo, a' = some ⟨b, oo, none⟩ ∧ rdn w0 G' b (oo + k * 10) 10 = some o.row ∧ b ≠ m := fun k o eo => by
      obtain ⟨b, oo, h1, h2, -⟩ := hA.row (sz := 10) (fun r hr => by obtain ⟨y, -, rfl⟩ := List.mem_map.1 hr; exact fragT.hsz y) (by omega) (i := k) (by rw [List.getElem?_map, eo]; rfl)
      refine ⟨b, oo, h1, h2, fun e => ?_⟩
      subst e
      unfold rdn at h2
      simp [hm] at h2
    have hget : ∀ k, k < n → ∃ o, fs[k]? = some o := fun k hk => ⟨_, List.getElem?_eq_getElem (by rw [hfl]; exact hk)⟩
    have hkey : ∀ (k : Nat) (o : FrR), fs[k]? = some o → ks.take (k + 1) = ks.take k ++ [(o.x, o.y)] := fun k o eo => by
      rw [List.take_add_one, ← eks, List.getElem?_map, eo]; rfl
    have hmH : H m = none := g2.none hbk
    have lH : Heap.Le H G' := hg'.le
    clear hA hB' hg' hk' hc' gm hB3 hS3 hl1 hl2 ol1 ol2 e1 e2 efs en eks ekk hfl hbk r1 r2 r3 cA g2
    replace hnd : Keep _ := hnd
    replace hInk : Keep _ := hInk
    replace hrow : Keep _ := hrow
    replace hget : Keep _ := hget
    replace hkey : Keep _ := hkey
    replace hos : Keep _ := hos
    (all_goals (try simp only [Sq,Sr,Sh,Si,Sl,Bu,Bb,Bd,Bc,Bw,Bn,Int.reduceAdd,Int.reduceSub,Int.reduceMul,Int.reduceTDiv,Int.reduceTMod,Int.reduceMod,Int.reduceDiv,Nat.reduceLT,Nat.reduceEqDiff,Sa,Sb,Sc,Sd,Se,Sf,Sg,Int.reduceLE,Int.reduceLT,Int.reduceToNat,Int.reduceNeg,Int.reduceEq,Nat.reduceLeDiff,Nat.reducePow,Int.reducePow,reduceIte,Nat.reduceSub,Nat.reduceAdd,Nat.reduceMul,putAt,ceq,List.replicate, *])); repeat' ((first | (with_reducible refine fun _ : True => ?_) | (with_reducible refine any_h ?_) | ((first | refine AllocQ_i ?_ | refine AllocO_i ?_); intro bk hb0 hbk; (try simp only [set_none'] at hbk); (try (first | have hbn := Grow.none (by assumption) hbk | have hbn := Grow.none (by assumption) hbk.2 | have hbn := Grow.none (by assumption) hbk.2.2 | have hbn := Grow.none (by assumption) hbk.2.2.2 | have hbn := Grow.none (by assumption) hbk.2.2.2.2 | have hbn := Grow.none (by assumption) hbk.2.2.2.2.2)); (try simp only [set_none'] at hbn); (try (first | have hbm := Grow.none (by assumption) hbn | have hbm := Grow.none (by assumption) hbn.2 | have hbm := Grow.none (by assumption) hbn.2.2 | have hbm := Grow.none (by assumption) hbn.2.2.2 | have hbm := Grow.none (by assumption) hbn.2.2.2.2 | have hbm := Grow.none (by assumption) hbn.2.2.2.2.2)); (try simp only [set_none'] at hbm)) | ((first | refine condS_i ?_ ?_ | refine pick_i ?_ ?_ | refine gS_it ?_ ?_ | refine gS_if ?_ ?_ | refine gP_it ?_ ?_ | refine gP_if ?_ ?_) <;> (intro hc; try simp only [Int.reduceLE,Int.reduceLT,Int.reduceEq,Sn] at hc)) | (with_reducible refine KP_i ?_ ?_; · (repeat' (first | exact Heap.Le.refl _ | (with_reducible refine Le_set2 ?_) | (refine Le_known (by first | (simp only [Heap.set_same, set_ne, ne_eq, not_false_eq_true, *] <;> rfl) | fail) ?_) | (refine Le_fresh (by first | (simp only [*] <;> done) | (simp [set_none', Heap.set_same, set_ne, noneH, *] <;> done) | fail) ?_) | (refine Heap.Le.trans ?_ (Grow.le (by assumption))) | exact Le_none | (refine Le_put ?_ (by first | (simp only [Heap.set_same, set_ne, ne_eq, not_false_eq_true, *] <;> rfl) | fail)) | fail))) | (with_reducible refine And.intro ?_ ?_)) <;> (try simp only [Sq,Sr,Sh,Si,Sl,Bu,Bb,Bd,Bc,Bw,Bn,Int.reduceAdd,Int.reduceSub,Int.reduceMul,Int.reduceTDiv,Int.reduceTMod,Int.reduceMod,Int.reduceDiv,Nat.reduceLT,Nat.reduceEqDiff,Sa,Sb,Sc,Sd,Se,Sf,Sg,Int.reduceLE,Int.reduceLT,Int.reduceToNat,Int.reduceNeg,Int.reduceEq,Nat.reduceLeDiff,Nat.reducePow,Int.reducePow,reduceIte,Nat.reduceSub,Nat.reduceAdd,Nat.reduceMul,putAt,ceq,List.replicate, *]))
    refine loop_g 45 (fun s : Nat × Value × Value => [(13, s.2.1), (14, s.2.2), (44, .int .i64 (s.1 : Nat))]) (fun s => G'.set m (seenB (ks.take s.1))) (fun s => s.1 ≤ n) (fun s => n - s.1) (0, undef, undef) (Nat.zero_le _) (by simp only [List.take_zero, seenB_nil]; exact Le_put (Heap.Le.refl _) hm) rfl ?_
    intro ⟨k, v13, v14⟩ g hk
    simp only at hk
    by_cases hlt : k < n
    · obtain ⟨o, eo⟩ := kpo hget k hlt
      obtain ⟨b, oo, rfl, hr, nb'⟩ := kpo hrow k o eo
      have ho := kpo hos o (List.mem_iff_getElem?.2 ⟨k, eo⟩)
      have et := kpo hkey k o eo
      have hnd1 : (ks.take k ++ [(o.x, o.y)]).Nodup := by rw [← et]; exact (kpo hnd).sublist (List.take_sublist _ _)
      have hnd2 : (ks.take k).Nodup := (kpo hnd).sublist (List.take_sublist _ _)
      have hx : (o.x, o.y) ∉ ks.take k := fun hm => (List.nodup_append.1 hnd1).2.2 _ hm _ (List.mem_singleton.2 rfl) rfl
      have hI : ∀ c ∈ ks.take k, InK c := fun c hc => kpo hInk c (List.mem_of_mem_take hc)
      have hIk : InK (o.x, o.y) := ⟨wf_i64 ho.1, wf_i64 ho.2⟩
      have nb : m ≠ b := fun e => nb' e.symm
      have u1 : ¬ o.x < 0 := by omega
      have u2 : ¬ 64 ≤ o.x := by omega
      have u3 : ¬ o.y < 0 := by omega
      have u4 : ¬ 64 ≤ o.y := by omega
      have t0 : (k : Int) < n := by omega
      have t6 : IntKind.i64.wrap ((k : Int) + 1) = ((k + 1 : Nat) : Int) := by rw [Bw.1 _ (by omega) (by omega)]; omega
      unfold FrR.row at hr
      clear ho eo hnd1 hos hget hrow hkey hInk hnd h
      have hm' : Keep _ := hm
      clear hm
      have hokv : ∀ v b, okV false v b = v := fun _ _ => rfl
      replace et : Keep _ := et
      replace hnd2 : Keep _ := hnd2
      replace hx : Keep _ := hx
      replace hI : Keep _ := hI
      replace hIk : Keep _ := hIk
      (all_goals (try simp only [Sq,Sr,Sh,Si,Sl,Bu,Bb,Bd,Bc,Bw,Bn,Int.reduceAdd,Int.reduceSub,Int.reduceMul,Int.reduceTDiv,Int.reduceTMod,Int.reduceMod,Int.reduceDiv,Nat.reduceLT,Nat.reduceEqDiff,Sa,Sb,Sc,Sd,Se,Sf,Sg,Int.reduceLE,Int.reduceLT,Int.reduceToNat,Int.reduceNeg,Int.reduceEq,Nat.reduceLeDiff,Nat.reducePow,Int.reducePow,reduceIte,Nat.reduceSub,Nat.reduceAdd,Nat.reduceMul,putAt,ceq,List.replicate, *])); repeat' ((first | (with_reducible refine fun _ : True => ?_) | refine lkp_new (k := (o.x, o.y)) (by simp only [Heap.set_same, set_ne, ne_eq, not_false_eq_true, *] <;> rfl) (kpo hI) (kpo hnd2) (kpo hIk) (kpo hx) ?_ | refine mup_new (k := (o.x, o.y)) (by simp only [Heap.set_same, set_ne, ne_eq, not_false_eq_true, *] <;> rfl) (kpo hI) (kpo hnd2) (kpo hIk) (kpo hx) ?_ | (with_reducible refine any_h ?_) | ((first | refine AllocQ_i ?_ | refine AllocO_i ?_); intro bk hb0 hbk; (try simp only [set_none'] at hbk); (try (first | have hbn := Grow.none (by assumption) hbk | have hbn := Grow.none (by assumption) hbk.2 | have hbn := Grow.none (by assumption) hbk.2.2 | have hbn := Grow.none (by assumption) hbk.2.2.2 | have hbn := Grow.none (by assumption) hbk.2.2.2.2 | have hbn := Grow.none (by assumption) hbk.2.2.2.2.2)); (try simp only [set_none'] at hbn); (try (first | have hbm := Grow.none (by assumption) hbn | have hbm := Grow.none (by assumption) hbn.2 | have hbm := Grow.none (by assumption) hbn.2.2 | have hbm := Grow.none (by assumption) hbn.2.2.2 | have hbm := Grow.none (by assumption) hbn.2.2.2.2 | have hbm := Grow.none (by assumption) hbn.2.2.2.2.2)); (try simp only [set_none'] at hbm)) | ((first | refine condS_i ?_ ?_ | refine pick_i ?_ ?_ | refine gS_it ?_ ?_ | refine gS_if ?_ ?_ | refine gP_it ?_ ?_ | refine gP_if ?_ ?_) <;> (intro hc; try simp only [Int.reduceLE,Int.reduceLT,Int.reduceEq,Sn] at hc)) | (with_reducible refine KP_i ?_ ?_; · (repeat' (first | exact Heap.Le.refl _ | (with_reducible refine Le_set2 ?_) | (refine Le_known (by first | (simp only [Heap.set_same, set_ne, ne_eq, not_false_eq_true, *] <;> rfl) | fail) ?_) | (refine Le_fresh (by first | (simp only [*] <;> done) | (simp [set_none', Heap.set_same, set_ne, noneH, *] <;> done) | fail) ?_) | (refine Heap.Le.trans ?_ (Grow.le (by assumption))) | exact Le_none | (refine Le_put ?_ (by first | (simp only [Heap.set_same, set_ne, ne_eq, not_false_eq_true, *] <;> rfl) | fail)) | fail))) | (with_reducible refine And.intro ?_ ?_)) <;> (try simp only [Sq,Sr,Sh,Si,Sl,Bu,Bb,Bd,Bc,Bw,Bn,Int.reduceAdd,Int.reduceSub,Int.reduceMul,Int.reduceTDiv,Int.reduceTMod,Int.reduceMod,Int.reduceDiv,Nat.reduceLT,Nat.reduceEqDiff,Sa,Sb,Sc,Sd,Se,Sf,Sg,Int.reduceLE,Int.reduceLT,Int.reduceToNat,Int.reduceNeg,Int.reduceEq,Nat.reduceLeDiff,Nat.reducePow,Int.reducePow,reduceIte,Nat.reduceSub,Nat.reduceAdd,Nat.reduceMul,putAt,ceq,List.replicate, *]))
      exact Round_mk (k + 1, _, _) hlt (Nat.sub_succ_lt_self n k hlt) (by simp only [kpo et]; exact (by (repeat' (first | exact Heap.Le.refl _ | (with_reducible refine Le_set2 ?_) | (refine Le_known (by first | (simp only [Heap.set_same, set_ne, ne_eq, not_false_eq_true, *] <;> rfl) | fail) ?_) | (refine Le_fresh (by first | (simp only [*] <;> done) | (simp [set_none', Heap.set_same, set_ne, noneH, *] <;> done) | fail) ?_) | (refine Heap.Le.trans ?_ (Grow.le (by assumption))) | exact Le_none | (refine Le_put ?_ (by first | (simp only [Heap.set_same, set_ne, ne_eq, not_false_eq_true, *] <;> rfl) | fail)) | fail)))) rfl rfl
    · obtain rfl : k = n := by omega
      have t0 : ¬ ((k : Nat) : Int) < (k : Nat) := by omega
      clear hget hrow hkey hInk hnd hos
      (all_goals (try simp only [Sq,Sr,Sh,Si,Sl,Bu,Bb,Bd,Bc,Bw,Bn,Int.reduceAdd,Int.reduceSub,Int.reduceMul,Int.reduceTDiv,Int.reduceTMod,Int.reduceMod,Int.reduceDiv,Nat.reduceLT,Nat.reduceEqDiff,Sa,Sb,Sc,Sd,Se,Sf,Sg,Int.reduceLE,Int.reduceLT,Int.reduceToNat,Int.reduceNeg,Int.reduceEq,Nat.reduceLeDiff,Nat.reducePow,Int.reducePow,reduceIte,Nat.reduceSub,Nat.reduceAdd,Nat.reduceMul,putAt,ceq,List.replicate, *])); repeat' ((first | (with_reducible refine fun _ : True => ?_) | (with_reducible refine any_h ?_) | ((first | refine AllocQ_i ?_ | refine AllocO_i ?_); intro bk hb0 hbk; (try simp only [set_none'] at hbk); (try (first | have hbn := Grow.none (by assumption) hbk | have hbn := Grow.none (by assumption) hbk.2 | have hbn := Grow.none (by assumption) hbk.2.2 | have hbn := Grow.none (by assumption) hbk.2.2.2 | have hbn := Grow.none (by assumption) hbk.2.2.2.2 | have hbn := Grow.none (by assumption) hbk.2.2.2.2.2)); (try simp only [set_none'] at hbn); (try (first | have hbm := Grow.none (by assumption) hbn | have hbm := Grow.none (by assumption) hbn.2 | have hbm := Grow.none (by assumption) hbn.2.2 | have hbm := Grow.none (by assumption) hbn.2.2.2 | have hbm := Grow.none (by assumption) hbn.2.2.2.2 | have hbm := Grow.none (by assumption) hbn.2.2.2.2.2)); (try simp only [set_none'] at hbm)) | ((first | refine condS_i ?_ ?_ | refine pick_i ?_ ?_ | refine gS_it ?_ ?_ | refine gS_if ?_ ?_ | refine gP_it ?_ ?_ | refine gP_if ?_ ?_) <;> (intro hc; try simp only [Int.reduceLE,Int.reduceLT,Int.reduceEq,Sn] at hc)) | (with_reducible refine KP_i ?_ ?_; · (repeat' (first | exact Heap.Le.refl _ | (with_reducible refine Le_set2 ?_) | (refine Le_known (by first | (simp only [Heap.set_same, set_ne, ne_eq, not_false_eq_true, *] <;> rfl) | fail) ?_) | (refine Le_fresh (by first | (simp only [*] <;> done) | (simp [set_none', Heap.set_same, set_ne, noneH, *] <;> done) | fail) ?_) | (refine Heap.Le.trans ?_ (Grow.le (by assumption))) | exact Le_none | (refine Le_put ?_ (by first | (simp only [Heap.set_same, set_ne, ne_eq, not_false_eq_true, *] <;> rfl) | fail)) | fail))) | (with_reducible refine And.intro ?_ ?_)) <;> (try simp only [Sq,Sr,Sh,Si,Sl,Bu,Bb,Bd,Bc,Bw,Bn,Int.reduceAdd,Int.reduceSub,Int.reduceMul,Int.reduceTDiv,Int.reduceTMod,Int.reduceMod,Int.reduceDiv,Nat.reduceLT,Nat.reduceEqDiff,Sa,Sb,Sc,Sd,Se,Sf,Sg,Int.reduceLE,Int.reduceLT,Int.reduceToNat,Int.reduceNeg,Int.reduceEq,Nat.reduceLeDiff,Nat.reducePow,Int.reducePow,reduceIte,Nat.reduceSub,Nat.reduceAdd,Nat.reduceMul,putAt,ceq,List.replicate, *]))
      exact Fin_mk (Le_over hmH lH) (kpo h)
  · (all_goals (try simp only [Sq,Sr,Sh,Si,Sl,Bu,Bb,Bd,Bc,Bw,Bn,Int.reduceAdd,Int.reduceSub,Int.reduceMul,Int.reduceTDiv,Int.reduceTMod,Int.reduceMod,Int.reduceDiv,Nat.reduceLT,Nat.reduceEqDiff,Sa,Sb,Sc,Sd,Se,Sf,Sg,Int.reduceLE,Int.reduceLT,Int.reduceToNat,Int.reduceNeg,Int.reduceEq,Nat.reduceLeDiff,Nat.reducePow,Int.reducePow,reduceIte,Nat.reduceSub,Nat.reduceAdd,Nat.reduceMul,putAt,ceq,List.replicate, *])); repeat' ((first | (with_reducible refine fun _ : True => ?_) | refine cA _ _ ?_ | (with_reducible refine any_h ?_) | ((first | refine AllocQ_i ?_ | refine AllocO_i ?_); intro bk hb0 hbk; (try simp only [set_none'] at hbk); (try (first | have hbn := Grow.none (by assumption) hbk | have hbn := Grow.none (by assumption) hbk.2 | have hbn := Grow.none (by assumption) hbk.2.2 | have hbn := Grow.none (by assumption) hbk.2.2.2 | have hbn := Grow.none (by assumption) hbk.2.2.2.2 | have hbn := Grow.none (by assumption) hbk.2.2.2.2.2)); (try simp only [set_none'] at hbn); (try (first | have hbm := Grow.none (by assumption) hbn | have hbm := Grow.none (by assumption) hbn.2 | have hbm := Grow.none (by assumption) hbn.2.2 | have hbm := Grow.none (by assumption) hbn.2.2.2 | have hbm := Grow.none (by assumption) hbn.2.2.2.2 | have hbm := Grow.none (by assumption) hbn.2.2.2.2.2)); (try simp only [set_none'] at hbm)) | ((first | refine condS_i ?_ ?_ | refine pick_i ?_ ?_ | refine gS_it ?_ ?_ | refine gS_if ?_ ?_ | refine gP_it ?_ ?_ | refine gP_if ?_ ?_) <;> (intro hc; try simp only [Int.reduceLE,Int.reduceLT,Int.reduceEq,Sn] at hc)) | (with_reducible refine KP_i ?_ ?_; · (repeat' (first | exact Heap.Le.refl _ | (with_reducible refine Le_set2 ?_) | (refine Le_known (by first | (simp only [Heap.set_same, set_ne, ne_eq, not_false_eq_true, *] <;> rfl) | fail) ?_) | (refine Le_fresh (by first | (simp only [*] <;> done) | (simp [set_none', Heap.set_same, set_ne, noneH, *] <;> done) | fail) ?_) | (refine Heap.Le.trans ?_ (Grow.le (by assumption))) | exact Le_none | (refine Le_put ?_ (by first | (simp only [Heap.set_same, set_ne, ne_eq, not_false_eq_true, *] <;> rfl) | fail)) | fail))) | (with_reducible refine And.intro ?_ ?_)) <;> (try simp only [Sq,Sr,Sh,Si,Sl,Bu,Bb,Bd,Bc,Bw,Bn,Int.reduceAdd,Int.reduceSub,Int.reduceMul,Int.reduceTDiv,Int.reduceTMod,Int.reduceMod,Int.reduceDiv,Nat.reduceLT,Nat.reduceEqDiff,Sa,Sb,Sc,Sd,Se,Sf,Sg,Int.reduceLE,Int.reduceLT,Int.reduceToNat,Int.reduceNeg,Int.reduceEq,Nat.reduceLeDiff,Nat.reducePow,Int.reducePow,reduceIte,Nat.reduceSub,Nat.reduceAdd,Nat.reduceMul,putAt,ceq,List.replicate, *]))
    have gm : Grow w0 H2 (H2.set bk ⟨.o (.map #[] 0), []⟩) := Grow.set (Grow.refl _) hb0 hbk
    refine app_bld (H := H) (n := os1.length) (m := (([] : List FrR)).length) (cs := (os1.map FrR.row).flatten) (ns := ((([] : List FrR)).map FrR.row).flatten) (Bld.grow (kpo hB3) gm) (fragT.flat os1) rfl (by simp [srd]) (fragT.flat (([] : List FrR))) (g2.trans gm) ⟨by have := kpo hl1; have := kpo hl2; simp only [List.length_nil]; omega, by have := kpo hl1; have := kpo hl2; simp only [List.length_nil]; omega⟩ (fragT.ones (([] : List FrR))) (fun a' cap' G' hB' hg' hk' hc' => ?_)
    obtain ⟨m, rfl⟩ : ∃ m, m = bk := ⟨_, rfl⟩
    have hm : G' m = some ⟨.o (.map #[] 0), []⟩ := hk' m _ (Heap.set_same _ _ _) (fun e => by cases e)
    obtain ⟨fs, efs⟩ : ∃ l, os1 ++ (([] : List FrR)) = l := ⟨_, rfl⟩
    have hA : SlAt w0 G' a' (fs.map FrR.row).flatten := by rw [← efs, List.map_append, List.flatten_append]; exact hB'.slAt
    obtain ⟨n, en⟩ : ∃ n, os1.length + (([] : List FrR)).length = n := ⟨_, rfl⟩
    have hfl : fs.length = n := by rw [← efs, List.length_append, en]
    have hn200 : n ≤ 200 := by rw [← en]; have := kpo hl1; have := kpo hl2; simp only [List.length_nil]; omega
    rw [en]
    obtain ⟨ks, eks⟩ : ∃ l, (fs.map fun o => o.toFr.key) = l := ⟨_, rfl⟩
    have ekk : ks = ((os1.map FrR.toFr) ++ ((([] : List FrR)).map FrR.toFr)).map Fr.key := by rw [← eks, ← efs, ← List.map_append, List.map_map]; rfl
    have hnd : ks.Nodup := by rw [ekk, e1]; first | (rw [e2]; exact kpo ol1) | exact kpo ol1
    have hos : ∀ o ∈ fs, (0 ≤ o.x ∧ o.x < 64) ∧ 0 ≤ o.y ∧ o.y < 64 := fun o ho => by
      have := kpo ol2 o.toFr (by have h2 : o.toFr ∈ fs.map FrR.toFr := List.mem_map_of_mem ho; rw [← efs, List.map_append] at h2; simpa [e1, e2] using h2)
      exact this
    have hInk : ∀ c ∈ ks, InK c := fun c hc => by
      rw [← eks] at hc
      obtain ⟨o, ho, rfl⟩ := List.mem_map.1 hc
      have := hos o ho
      exact ⟨wf_i64 this.1, wf_i64 this.2⟩
    have hrow : ∀ (k : Nat) (o : FrR), fs[k]? = some o → ∃ b oo, a' = some ⟨b, oo, none⟩ ∧ rdn w0 G' b (oo + k * 10) 10 = some o.row ∧ b ≠ m := fun k o eo => by
      obtain ⟨b, oo, h1, h2, -⟩ := hA.row (sz := 10) (fun r hr => by obtain ⟨y, -, rfl⟩ := List.mem_map.1 hr; exact fragT.hsz y) (by omega) (i := k) (by rw [List.getElem?_map, eo]; rfl)
      refine ⟨b, oo, h1, h2, fun e => ?_⟩
      subst e
      unfold rdn at h2
      simp [hm] at h2
    have hget : ∀ k, k < n → ∃ o, fs[k]? = some o := fun k hk => ⟨_, List.getElem?_eq_getElem (by rw [hfl]; exact hk)⟩
    have hkey : ∀ (k : Nat) (o : FrR), fs[k]? = some o → ks.take (k + 1) = ks.take k ++ [(o.x, o.y)] := fun k o eo => by
      rw [List.take_add_one, ← eks, List.getElem?_map, eo]; rfl
    have hmH : H m = none := g2.none hbk
    have lH : Heap.Le H G' := hg'.le
    clear hA hB' hg' hk' hc' gm hB3 hS3 hl1 hl2 ol1 ol2 e1 e2 efs en eks ekk hfl hbk r1 r2 r3 cA g2
    replace hnd : Keep _ := hnd
    replace hInk : Keep _ := hInk
    replace hrow : Keep _ := hrow
    replace hget : Keep _ := hget
    replace hkey : Keep _ := hkey
    replace hos : Keep _ := hos
    (all_goals (try simp only [Sq,Sr,Sh,Si,Sl,Bu,Bb,Bd,Bc,Bw,Bn,Int.reduceAdd,Int.reduceSub,Int.reduceMul,Int.reduceTDiv,Int.reduceTMod,Int.reduceMod,Int.reduceDiv,Nat.reduceLT,Nat.reduceEqDiff,Sa,Sb,Sc,Sd,Se,Sf,Sg,Int.reduceLE,Int.reduceLT,Int.reduceToNat,Int.reduceNeg,Int.reduceEq,Nat.reduceLeDiff,Nat.reducePow,Int.reducePow,reduceIte,Nat.reduceSub,Nat.reduceAdd,Nat.reduceMul,putAt,ceq,List.replicate, *])); repeat' ((first | (with_reducible refine fun _ : True => ?_) | (with_reducible refine any_h ?_) | ((first | refine AllocQ_i ?_ | refine AllocO_i ?_); intro bk hb0 hbk; (try simp only [set_none'] at hbk); (try (first | have hbn := Grow.none (by assumption) hbk | have hbn := Grow.none (by assumption) hbk.2 | have hbn := Grow.none (by assumption) hbk.2.2 | have hbn := Grow.none (by assumption) hbk.2.2.2 | have hbn := Grow.none (by assumption) hbk.2.2.2.2 | have hbn := Grow.none (by assumption) hbk.2.2.2.2.2)); (try simp only [set_none'] at hbn); (try (first | have hbm := Grow.none (by assumption) hbn | have hbm := Grow.none (by assumption) hbn.2 | have hbm := Grow.none (by assumption) hbn.2.2 | have hbm := Grow.none (by assumption) hbn.2.2.2 | have hbm := Grow.none (by assumption) hbn.2.2.2.2 | have hbm := Grow.none (by assumption) hbn.2.2.2.2.2)); (try simp only [set_none'] at hbm)) | ((first | refine condS_i ?_ ?_ | refine pick_i ?_ ?_ | refine gS_it ?_ ?_ | refine gS_if ?_ ?_ | refine gP_it ?_ ?_ | refine gP_if ?_ ?_) <;> (intro hc; try simp only [Int.reduceLE,Int.reduceLT,Int.reduceEq,Sn] at hc)) | (with_reducible refine KP_i ?_ ?_; · (repeat' (first | exact Heap.Le.refl _ | (with_reducible refine Le_set2 ?_) | (refine Le_known (by first | (simp only [Heap.set_same, set_ne, ne_eq, not_false_eq_true, *] <;> rfl) | fail) ?_) | (refine Le_fresh (by first | (simp only [*] <;> done) | (simp [set_none', Heap.set_same, set_ne, noneH, *] <;> done) | fail) ?_) | (refine Heap.Le.trans ?_ (Grow.le (by assumption))) | exact Le_none | (refine Le_put ?_ (by first | (simp only [Heap.set_same, set_ne, ne_eq, not_false_eq_true, *] <;> rfl) | fail)) | fail))) | (with_reducible refine And.intro ?_ ?_)) <;> (try simp only [Sq,Sr,Sh,Si,Sl,Bu,Bb,Bd,Bc,Bw,Bn,Int.reduceAdd,Int.reduceSub,Int.reduceMul,Int.reduceTDiv,Int.reduceTMod,Int.reduceMod,Int.reduceDiv,Nat.reduceLT,Nat.reduceEqDiff,Sa,Sb,Sc,Sd,Se,Sf,Sg,Int.reduceLE,Int.reduceLT,Int.reduceToNat,Int.reduceNeg,Int.reduceEq,Nat.reduceLeDiff,Nat.reducePow,Int.reducePow,reduceIte,Nat.reduceSub,Nat.reduceAdd,Nat.reduceMul,putAt,ceq,List.replicate, *]))
    refine loop_g 45 (fun s : Nat × Value × Value => [(13, s.2.1), (14, s.2.2), (44, .int .i64 (s.1 : Nat))]) (fun s => G'.set m (seenB (ks.take s.1))) (fun s => s.1 ≤ n) (fun s => n - s.1) (0, undef, undef) (Nat.zero_le _) (by simp only [List.take_zero, seenB_nil]; exact Le_put (Heap.Le.refl _) hm) rfl ?_
    intro ⟨k, v13, v14⟩ g hk
    simp only at hk
    by_cases hlt : k < n
    · obtain ⟨o, eo⟩ := kpo hget k hlt
      obtain ⟨b, oo, rfl, hr, nb'⟩ := kpo hrow k o eo
      have ho := kpo hos o (List.mem_iff_getElem?.2 ⟨k, eo⟩)
      have et := kpo hkey k o eo
      have hnd1 : (ks.take k ++ [(o.x, o.y)]).Nodup := by rw [← et]; exact (kpo hnd).sublist (List.take_sublist _ _)
      have hnd2 : (ks.take k).Nodup := (kpo hnd).sublist (List.take_sublist _ _)
      have hx : (o.x, o.y) ∉ ks.take k := fun hm => (List.nodup_append.1 hnd1).2.2 _ hm _ (List.mem_singleton.2 rfl) rfl
      have hI : ∀ c ∈ ks.take k, InK c := fun c hc => kpo hInk c (List.mem_of_mem_take hc)
      have hIk : InK (o.x, o.y) := ⟨wf_i64 ho.1, wf_i64 ho.2⟩
      have nb : m ≠ b := fun e => nb' e.symm
      have u1 : ¬ o.x < 0 := by omega
      have u2 : ¬ 64 ≤ o.x := by omega
      have u3 : ¬ o.y < 0 := by omega
      have u4 : ¬ 64 ≤ o.y := by omega
      have t0 : (k : Int) < n := by omega
      have t6 : IntKind.i64.wrap ((k : Int) + 1) = ((k + 1 : Nat) : Int) := by rw [Bw.1 _ (by omega) (by omega)]; omega
      unfold FrR.row at hr
      clear ho eo hnd1 hos hget hrow hkey hInk hnd h
      have hm' : Keep _ := hm
      clear hm
      have hokv : ∀ v b, okV false v b = v := fun _ _ => rfl
      replace et : Keep _ := et
      replace hnd2 : Keep _ := hnd2
      replace hx : Keep _ := hx
      replace hI : Keep _ := hI
      replace hIk : Keep _ := hIk
      (all_goals (try simp only [Sq,Sr,Sh,Si,Sl,Bu,Bb,Bd,Bc,Bw,Bn,Int.reduceAdd,Int.reduceSub,Int.reduceMul,Int.reduceTDiv,Int.reduceTMod,Int.reduceMod,Int.reduceDiv,Nat.reduceLT,Nat.reduceEqDiff,Sa,Sb,Sc,Sd,Se,Sf,Sg,Int.reduceLE,Int.reduceLT,Int.reduceToNat,Int.reduceNeg,Int.reduceEq,Nat.reduceLeDiff,Nat.reducePow,Int.reducePow,reduceIte,Nat.reduceSub,Nat.reduceAdd,Nat.reduceMul,putAt,ceq,List.replicate, *])); repeat' ((first | (with_reducible refine fun _ : True => ?_) | refine lkp_new (k := (o.x, o.y)) (by simp only [Heap.set_same, set_ne, ne_eq, not_false_eq_true, *] <;> rfl) (kpo hI) (kpo hnd2) (kpo hIk) (kpo hx) ?_ | refine mup_new (k := (o.x, o.y)) (by simp only [Heap.set_same, set_ne, ne_eq, not_false_eq_true, *] <;> rfl) (kpo hI) (kpo hnd2) (kpo hIk) (kpo hx) ?_ | (with_reducible refine any_h ?_) | ((first | refine AllocQ_i ?_ | refine AllocO_i ?_); intro bk hb0 hbk; (try simp only [set_none'] at hbk); (try (first | have hbn := Grow.none (by assumption) hbk | have hbn := Grow.none (by assumption) hbk.2 | have hbn := Grow.none (by assumption) hbk.2.2 | have hbn := Grow.none (by assumption) hbk.2.2.2 | have hbn := Grow.none (by assumption) hbk.2.2.2.2 | have hbn := Grow.none (by assumption) hbk.2.2.2.2.2)); (try simp only [set_none'] at hbn); (try (first | have hbm := Grow.none (by assumption) hbn | have hbm := Grow.none (by assumption) hbn.2 | have hbm := Grow.none (by assumption) hbn.2.2 | have hbm := Grow.none (by assumption) hbn.2.2.2 | have hbm := Grow.none (by assumption) hbn.2.2.2.2 | have hbm := Grow.none (by assumption) hbn.2.2.2.2.2)); (try simp only [set_none'] at hbm)) | ((first | refine condS_i ?_ ?_ | refine pick_i ?_ ?_ | refine gS_it ?_ ?_ | refine gS_if ?_ ?_ | refine gP_it ?_ ?_ | refine gP_if ?_ ?_) <;> (intro hc; try simp only [Int.reduceLE,Int.reduceLT,Int.reduceEq,Sn] at hc)) | (with_reducible refine KP_i ?_ ?_; · (repeat' (first | exact Heap.Le.refl _ | (with_reducible refine Le_set2 ?_) | (refine Le_known (by first | (simp only [Heap.set_same, set_ne, ne_eq, not_false_eq_true, *] <;> rfl) | fail) ?_) | (refine Le_fresh (by first | (simp only [*] <;> done) | (simp [set_none', Heap.set_same, set_ne, noneH, *] <;> done) | fail) ?_) | (refine Heap.Le.trans ?_ (Grow.le (by assumption))) | exact Le_none | (refine Le_put ?_ (by first | (simp only [Heap.set_same, set_ne, ne_eq, not_false_eq_true, *] <;> rfl) | fail)) | fail))) | (with_reducible refine And.intro ?_ ?_)) <;> (try simp only [Sq,Sr,Sh,Si,Sl,Bu,Bb,Bd,Bc,Bw,Bn,Int.reduceAdd,Int.reduceSub,Int.reduceMul,Int.reduceTDiv,Int.reduceTMod,Int.reduceMod,Int.reduceDiv,Nat.reduceLT,Nat.reduceEqDiff,Sa,Sb,Sc,Sd,Se,Sf,Sg,Int.reduceLE,Int.reduceLT,Int.reduceToNat,Int.reduceNeg,Int.reduceEq,Nat.reduceLeDiff,Nat.reducePow,Int.reducePow,reduceIte,Nat.reduceSub,Nat.reduceAdd,Nat.reduceMul,putAt,ceq,List.replicate, *]))
      exact Round_mk (k + 1, _, _) hlt (Nat.sub_succ_lt_self n k hlt) (by simp only [kpo et]; exact (by (repeat' (first | exact Heap.Le.refl _ | (with_reducible refine Le_set2 ?_) | (refine Le_known (by first | (simp only [Heap.set_same, set_ne, ne_eq, not_false_eq_true, *] <;> rfl) | fail) ?_) | (refine Le_fresh (by first | (simp only [*] <;> done) | (simp [set_none', Heap.set_same, set_ne, noneH, *] <;> done) | fail) ?_) | (refine Heap.Le.trans ?_ (Grow.le (by assumption))) | exact Le_none | (refine Le_put ?_ (by first | (simp only [Heap.set_same, set_ne, ne_eq, not_false_eq_true, *] <;> rfl) | fail)) | fail)))) rfl rfl
    · obtain rfl : k = n := by omega
      have t0 : ¬ ((k : Nat) : Int) < (k : Nat) := by omega
      clear hget hrow hkey hInk hnd hos
      (all_goals (try simp only [Sq,Sr,Sh,Si,Sl,Bu,Bb,Bd,Bc,Bw,Bn,Int.reduceAdd,Int.reduceSub,Int.reduceMul,Int.reduceTDiv,Int.reduceTMod,Int.reduceMod,Int.reduceDiv,Nat.reduceLT,Nat.reduceEqDiff,Sa,Sb,Sc,Sd,Se,Sf,Sg,Int.reduceLE,Int.reduceLT,Int.reduceToNat,Int.reduceNeg,Int.reduceEq,Nat.reduceLeDiff,Nat.reducePow,Int.reducePow,reduceIte,Nat.reduceSub,Nat.reduceAdd,Nat.reduceMul,putAt,ceq,List.replicate, *])); repeat' ((first | (with_reducible refine fun _ : True => ?_) | (with_reducible refine any_h ?_) | ((first | refine AllocQ_i ?_ | refine AllocO_i ?_); intro bk hb0 hbk; (try simp only [set_none'] at hbk); (try (first | have hbn := Grow.none (by assumption) hbk | have hbn := Grow.none (by assumption) hbk.2 | have hbn := Grow.none (by assumption) hbk.2.2 | have hbn := Grow.none (by assumption) hbk.2.2.2 | have hbn := Grow.none (by assumption) hbk.2.2.2.2 | have hbn := Grow.none (by assumption) hbk.2.2.2.2.2)); (try simp only [set_none'] at hbn); (try (first | have hbm := Grow.none (by assumption) hbn | have hbm := Grow.none (by assumption) hbn.2 | have hbm := Grow.none (by assumption) hbn.2.2 | have hbm := Grow.none (by assumption) hbn.2.2.2 | have hbm := Grow.none (by assumption) hbn.2.2.2.2 | have hbm := Grow.none (by assumption) hbn.2.2.2.2.2)); (try simp only [set_none'] at hbm)) | ((first | refine condS_i ?_ ?_ | refine pick_i ?_ ?_ | refine gS_it ?_ ?_ | refine gS_if ?_ ?_ | refine gP_it ?_ ?_ | refine gP_if ?_ ?_) <;> (intro hc; try simp only [Int.reduceLE,Int.reduceLT,Int.reduceEq,Sn] at hc)) | (with_reducible refine KP_i ?_ ?_; · (repeat' (first | exact Heap.Le.refl _ | (with_reducible refine Le_set2 ?_) | (refine Le_known (by first | (simp only [Heap.set_same, set_ne, ne_eq, not_false_eq_true, *] <;> rfl) | fail) ?_) | (refine Le_fresh (by first | (simp only [*] <;> done) | (simp [set_none', Heap.set_same, set_ne, noneH, *] <;> done) | fail) ?_) | (refine Heap.Le.trans ?_ (Grow.le (by assumption))) | exact Le_none | (refine Le_put ?_ (by first | (simp only [Heap.set_same, set_ne, ne_eq, not_false_eq_true, *] <;> rfl) | fail)) | fail))) | (with_reducible refine And.intro ?_ ?_)) <;> (try simp only [Sq,Sr,Sh,Si,Sl,Bu,Bb,Bd,Bc,Bw,Bn,Int.reduceAdd,Int.reduceSub,Int.reduceMul,Int.reduceTDiv,Int.reduceTMod,Int.reduceMod,Int.reduceDiv,Nat.reduceLT,Nat.reduceEqDiff,Sa,Sb,Sc,Sd,Se,Sf,Sg,Int.reduceLE,Int.reduceLT,Int.reduceToNat,Int.reduceNeg,Int.reduceEq,Nat.reduceLeDiff,Nat.reducePow,Int.reducePow,reduceIte,Nat.reduceSub,Nat.reduceAdd,Nat.reduceMul,putAt,ceq,List.replicate, *]))
      exact Fin_mk (Le_over hmH lH) (kpo h)
theorem l_LineOnce (x y z : WnR) (hx : WnOk w0 H x) (hy : WnOk w0 H y) (hz : WnOk w0 H z) (h : K (.bool true) H) : HCalls Try.prog w0 6 [x.v, y.v, z.v] H K := by
  by_cases hr : Tog [x.toWn, y.toWn] ∧ Tog [y.toWn, z.toWn]
  · exact l_yes x y z hx hy hz hr.1 hr.2 h
  · exact l_no x y z hx hy hz hr h
end Go.Proofs.Ytokjajfojjibcaa
