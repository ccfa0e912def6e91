/- A code is whole: the same as before, and what lies behind it (layer 16). -/
import Derived.Test.YtndgmnmnpfblmaaCdr
import Derived.Test.YtndgmnmnpfblmaaCdn
import Derived.Test.YtndgmnmnpfblmaaCdg
import Derived.Test.YtndgmnmnpfblmaaHlu
set_option linter.unusedSimpArgs false
set_option linter.unusedVariables false
set_option maxRecDepth 100000
set_option maxHeartbeats 4000000
namespace Go.Proofs.Ytndgmnmnpfblmaa
open Go.HL Go.RowKit Pb
variable {w0 : World} {H G : Heap} {K : Value → Heap → Prop}

/- paintboxlaw16 whole -/
def M44 : MC :=
  .seq (.reg [⟨(some 2), .box 34 (.tmp 0), none⟩,
 ⟨(some 3), .box 34 (.tmp 1), none⟩,
 ⟨(some 4), .mv (.const (.bool false)), none⟩])
 (.seq (.any [(true, 0, [], ⟨(some 5), .ldn 6 (.tmp 2), none⟩),
 (false, 1, [0, 4, 5, 6, 7, 8, 9, 10], ⟨(some 6), .ldn 6 (.tmp 3), none⟩),
 (false, 2, [4, 5, 6, 7, 8, 9, 10], ⟨(some 7), .call 16 [(.tmp 5), (.tmp 6)], none⟩),
 (false, 3, [4, 5, 6, 7, 8, 9, 10], ⟨(some 8), .mv (.tmp 7), none⟩),
 (true, 4, [], ⟨(some 9), .fa 1 (.tmp 2), (some (8, true))⟩),
 (true, 5, [], ⟨(some 10), .ld1 (.tmp 9), (some (8, true))⟩),
 (true, 6, [], ⟨(some 11), .fa 1 (.tmp 2), (some (8, true))⟩),
 (true, 7, [], ⟨(some 12), .ld1 (.tmp 11), (some (8, true))⟩),
 (true, 8, [], ⟨(some 13), .len (.tmp 12), (some (8, true))⟩),
 (true, 9, [], ⟨(some 14), .bin .add (.tmp 13) (.const (.int .i64 1)), (some (8, true))⟩),
 (true, 10, [], ⟨(some 15), .slc 16 (.tmp 10) none (some (.tmp 14)), (some (8, true))⟩),
 (false, 11, [4, 5, 6, 7, 8, 9, 10], ⟨(some 16), .fa 1 (.tmp 2), (some (8, true))⟩),
 (false, 12, [4, 5, 6, 7, 8, 9, 10], ⟨(some 17), .ld1 (.tmp 16), (some (8, true))⟩),
 (false, 13, [4, 5, 6, 7, 8, 9, 10], ⟨(some 18), .len (.tmp 17), (some (8, true))⟩),
 (false, 14, [], ⟨(some 19), .is 16 (.tmp 15) (.tmp 18), (some (8, true))⟩),
 (false, 15, [], ⟨(some 20), .fa 0 (.tmp 19), (some (8, true))⟩),
 (false, 16, [], ⟨(some 21), .ld1 (.tmp 20), (some (8, true))⟩),
 (false, 17, [], ⟨(some 22), .bin .eql (.tmp 21) (.const (.int .i64 77)), (some (8, true))⟩),
 (false, 18, [], ⟨(some 23), .pick (.tmp 8) (.tmp 22) (.const (.bool false)), none⟩),
 (false, 19, [], ⟨(some 4), .mv (.tmp 23), none⟩)])
 (.ret))
theorem k44 : fnOk Try.prog 44 = some (M44, [.t 4], 24) := by kernel_rfl

theorem c_whole (c e : Cd) (b : Nat) (z : List Value) (hz : H b = some ⟨.t 30, rowsC (c.is.take 4097) ++ (i77.row ++ z)⟩) (he : CdAt w0 H e) (hq : Cd.Eqv (c.few b) e) (h : K (.bool true) H) :
    HCalls Try.prog w0 44 [(c.few b).v, e.v] H K := by
  have hA : CdAt w0 H (c.few b) := ⟨SlAt.blk hz, by unfold maxLen Cd.few; simp only [List.length_take]; omega, by unfold Cd.few; simp only; omega⟩
  have hS := fun (G : Heap) (K : Value → Heap → Prop) (g : Grow w0 H G) (h : K (.bool true) G) => r_Same (w0 := w0) (H := G) (K := K) (c.few b) e (hA.grow g) (he.grow g) (fun _ => h) (fun n => absurd hq n)
  have hlen : (c.is.take 4097).length ≤ 4097 := by rw [List.length_take]; omega
  have hL := rowsC_len (c.is.take 4097)
  have r77 : HL.rd1 w0 H b ((c.is.take 4097).length * 16) = some (.int .i64 77) := by
    unfold HL.rd1; rw [hz, ← hL]; simp only; rw [List.getElem?_append_right (Nat.le_refl _), Nat.sub_self]; rfl
  have hne := blk_ne hz
  clear hA hq hL hz
  obtain ⟨st, adr, cap, is, rg, ab, un, va⟩ := e
  unfold Cd.v at hS ⊢
  unfold Cd.few at hS ⊢
  simp only at hS ⊢
  generalize is.length = m at hS ⊢
  clear he
  generalize (c.is.take 4097).length = n at hS hlen r77 ⊢
  have t1 : IntKind.i64.wrap ((n : Int) + 1) = (n : Int) + 1 := Bw.1 _ (by omega) (by omega)
  have t2 : (0 : Int) ≤ (n : Int) + 1 := by omega
  have t3 : (n : Int) + 1 ≤ ((n + 2 : Nat) : Int) := by omega
  have t4 : ((n : Int) + 1).toNat = n + 1 := by omega
  have t5 : (n : Int) < ((n + 1 : Nat) : Int) := by omega
  have t6 : n < n + 1 := by omega
  replace hS : Keep _ := hS
  replace h : Keep _ := h
  refine HL.hc k44 999 ?_; unfold M44
  (all_goals (try simp only [Sq,Sr,Sh,Si,Sl,Bu,Bb,Bd,Bc,Bw,Bn,Int.reduceAdd,Int.reduceSub,Int.reduceMul,Int.reduceTDiv,Int.reduceTMod,Int.reduceMod,Int.reduceDiv,Nat.reduceLT,Nat.reduceEqDiff,Sa,Sb,Sc,Sd,Se,Sf,Sg,Int.reduceLE,Int.reduceLT,Int.reduceToNat,Int.reduceNeg,Int.reduceEq,Nat.reduceLeDiff,Nat.reducePow,Int.reducePow,reduceIte,Nat.reduceSub,Nat.reduceAdd,Nat.reduceMul,putAt,ceq,List.replicate, *])); repeat' ((first | (with_reducible refine fun _ : True => ?_) | refine hS _ _ (by (repeat' (first | exact Grow.refl _ | assumption | (refine Grow_known (by first | (simp only [Heap.set_same, set_ne, ne_eq, not_false_eq_true, *] <;> rfl) | fail) ?_) | (refine Grow.set ?_ (by assumption) (by first | (simp only [*] <;> done) | (simp [set_none', Heap.set_same, set_ne, noneH, *] <;> done) | fail)) | (refine Grow.trans ?_ (by assumption))))) ?_ | (with_reducible refine any_h ?_) | ((first | refine AllocQ_i ?_ | refine AllocO_i ?_); intro bk hb0 hbk; (try simp only [set_none'] at hbk); (try (first | have hbn := Grow.none (by assumption) hbk | have hbn := Grow.none (by assumption) hbk.2 | have hbn := Grow.none (by assumption) hbk.2.2 | have hbn := Grow.none (by assumption) hbk.2.2.2 | have hbn := Grow.none (by assumption) hbk.2.2.2.2 | have hbn := Grow.none (by assumption) hbk.2.2.2.2.2)); (try simp only [set_none'] at hbn); (try (first | have hbm := Grow.none (by assumption) hbn | have hbm := Grow.none (by assumption) hbn.2 | have hbm := Grow.none (by assumption) hbn.2.2 | have hbm := Grow.none (by assumption) hbn.2.2.2 | have hbm := Grow.none (by assumption) hbn.2.2.2.2 | have hbm := Grow.none (by assumption) hbn.2.2.2.2.2)); (try simp only [set_none'] at hbm)) | ((first | refine condS_i ?_ ?_ | refine pick_i ?_ ?_ | refine gS_it ?_ ?_ | refine gS_if ?_ ?_ | refine gP_it ?_ ?_ | refine gP_if ?_ ?_) <;> (intro hc; try simp only [Int.reduceLE,Int.reduceLT,Int.reduceEq,Sn] at hc)) | (refine KP_i (by (repeat' (first | exact Heap.Le.refl _ | (with_reducible refine Le_set2 ?_) | (refine Le_known (by first | (simp only [Heap.set_same, set_ne, ne_eq, not_false_eq_true, *] <;> rfl) | fail) ?_) | (refine Le_fresh (by first | (simp only [*] <;> done) | (simp [set_none', Heap.set_same, set_ne, noneH, *] <;> done) | fail) ?_) | (refine Heap.Le.trans ?_ (Grow.le (by assumption))) | exact Le_none | (refine Le_put ?_ (by first | (simp only [Heap.set_same, set_ne, ne_eq, not_false_eq_true, *] <;> rfl) | fail)) | fail))) ?_) | (with_reducible refine And.intro ?_ ?_)) <;> (try simp only [Sq,Sr,Sh,Si,Sl,Bu,Bb,Bd,Bc,Bw,Bn,Int.reduceAdd,Int.reduceSub,Int.reduceMul,Int.reduceTDiv,Int.reduceTMod,Int.reduceMod,Int.reduceDiv,Nat.reduceLT,Nat.reduceEqDiff,Sa,Sb,Sc,Sd,Se,Sf,Sg,Int.reduceLE,Int.reduceLT,Int.reduceToNat,Int.reduceNeg,Int.reduceEq,Nat.reduceLeDiff,Nat.reducePow,Int.reducePow,reduceIte,Nat.reduceSub,Nat.reduceAdd,Nat.reduceMul,putAt,ceq,List.replicate, *]))
  all_goals exact Fin_mk (by (repeat' (first | exact Heap.Le.refl _ | (with_reducible refine Le_set2 ?_) | (refine Le_known (by first | (simp only [Heap.set_same, set_ne, ne_eq, not_false_eq_true, *] <;> rfl) | fail) ?_) | (refine Le_fresh (by first | (simp only [*] <;> done) | (simp [set_none', Heap.set_same, set_ne, noneH, *] <;> done) | fail) ?_) | (refine Heap.Le.trans ?_ (Grow.le (by assumption))) | exact Le_none | (refine Le_put ?_ (by first | (simp only [Heap.set_same, set_ne, ne_eq, not_false_eq_true, *] <;> rfl) | fail)) | fail))) h
end Go.Proofs.Ytndgmnmnpfblmaa
