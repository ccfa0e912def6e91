/- The mean of pixels, by the reference (layer 8). -/
import Derived.Test.YtdaipgnhconfnaaIpc
set_option linter.unusedSimpArgs false
set_option linter.unusedVariables false
set_option maxRecDepth 100000
set_option maxHeartbeats 4000000
namespace Go.Proofs.Ytdaipgnhconfnaa
open Go Go.HL Go.RowKit Pb
variable {w0 : World} {H G : Heap} {K : Value → Heap → Prop}

/- paintboxref08 bits -/
def M68 : MC :=
  .seq (.reg [⟨(some 2), .mv (.const (.slice none 0 0)), none⟩])
 (.seq (.seq (.reg [⟨(some 3), .mv (.tmp 0), none⟩])
 (.block 0 (.seq (.reg [⟨(some 5), .bin .eql (.tmp 3) (.const (.int .i64 1)), none⟩,
 ⟨(some 4), .mv (.tmp 5), none⟩])
 (.cond (.tmp 4)
 (.seq (.reg [⟨(some 6), .bslice 3 4 [(.int .i64 0), (.int .i64 0), (.int .i64 0), (.int .i64 0)] [(0, 1, (.const (.int .i64 8))), (1, 1, (.const (.int .i64 8))), (2, 1, (.const (.int .i64 8))), (3, 1, (.const (.int .i64 8)))], none⟩,
 ⟨(some 2), .mv (.tmp 6), none⟩])
 (.ret))
 (.seq (.reg [⟨(some 8), .bin .eql (.tmp 3) (.const (.int .i64 2)), none⟩,
 ⟨(some 7), .mv (.tmp 8), none⟩])
 (.cond (.tmp 7)
 (.seq (.reg [⟨(some 9), .bslice 3 3 [(.int .i64 0), (.int .i64 0), (.int .i64 0)] [(0, 1, (.const (.int .i64 5))), (1, 1, (.const (.int .i64 6))), (2, 1, (.const (.int .i64 5)))], none⟩,
 ⟨(some 2), .mv (.tmp 9), none⟩])
 (.ret))
 (.seq (.reg [⟨(some 11), .bin .eql (.tmp 3) (.const (.int .i64 3)), none⟩,
 ⟨(some 10), .mv (.tmp 11), none⟩])
 (.cond (.tmp 10)
 (.seq (.reg [⟨(some 12), .bslice 3 4 [(.int .i64 0), (.int .i64 0), (.int .i64 0), (.int .i64 0)] [(0, 1, (.const (.int .i64 4))), (1, 1, (.const (.int .i64 4))), (2, 1, (.const (.int .i64 4))), (3, 1, (.const (.int .i64 4)))], none⟩,
 ⟨(some 2), .mv (.tmp 12), none⟩])
 (.ret))
 (.seq (.reg [⟨(some 14), .bin .eql (.tmp 3) (.const (.int .i64 4)), none⟩,
 ⟨(some 13), .mv (.tmp 14), none⟩])
 (.cond (.tmp 13)
 (.seq (.reg [⟨(some 15), .bslice 3 4 [(.int .i64 0), (.int .i64 0), (.int .i64 0), (.int .i64 0)] [(0, 1, (.const (.int .i64 1))), (1, 1, (.const (.int .i64 5))), (2, 1, (.const (.int .i64 5))), (3, 1, (.const (.int .i64 5)))], none⟩,
 ⟨(some 2), .mv (.tmp 15), none⟩])
 (.ret))
 (.seq (.reg [⟨(some 17), .bin .eql (.tmp 3) (.const (.int .i64 7)), none⟩,
 ⟨(some 16), .mv (.tmp 17), none⟩])
 (.cond (.tmp 16)
 (.seq (.reg [⟨(some 18), .bslice 3 2 [(.int .i64 0), (.int .i64 0)] [(0, 1, (.const (.int .i64 8))), (1, 1, (.const (.int .i64 8)))], none⟩,
 ⟨(some 2), .mv (.tmp 18), none⟩])
 (.ret))
 (.skip)))))))))))))
 (.seq (.reg [⟨(some 19), .bslice 3 1 [(.int .i64 0)] [(0, 1, (.const (.int .i64 8)))], none⟩,
 ⟨(some 2), .mv (.tmp 19), none⟩])
 (.ret)))
theorem k68 : fnOk Try.prog 68 = some (M68, [.t 2], 20) := by kernel_rfl
/- paintboxref08 Mean -/
def M46 : MC :=
  .seq (.reg [⟨(some 4), .mv (.const (.slice none 0 0)), none⟩])
 (.seq (.reg [⟨(some 16), .mv (.tmp 0), none⟩,
 ⟨(some 17), .call 45 [(.tmp 16)], none⟩,
 ⟨(some 18), .mks 5 1 [(.int .u8 0)] (.tmp 17) (.tmp 17), none⟩,
 ⟨(some 5), .mv (.tmp 18), none⟩])
 (.seq (.reg [⟨(some 6), .mv (.const (.int .i64 0)), none⟩])
 (.seq (.seq (.reg [⟨(some 19), .mv (.tmp 0), none⟩,
 ⟨(some 20), .call 68 [(.tmp 19)], none⟩,
 ⟨(some 21), .len (.tmp 20), none⟩,
 ⟨(some 22), .mv (.const (.int .i64 0)), none⟩])
 (.block 0 (.loop (.seq (.reg [⟨(some 23), .bin .lss (.tmp 22) (.tmp 21), none⟩])
 (.seq (.cond (.tmp 23)
 (.skip)
 (.exit 0))
 (.seq (.block 1 (.seq (.reg [⟨(some 24), .is 1 (.tmp 20) (.tmp 22), none⟩,
 ⟨(some 25), .ld1 (.tmp 24), none⟩,
 ⟨(some 8), .mv (.tmp 25), none⟩])
 (.seq (.reg [⟨(some 9), .mv (.const (.int .i64 0)), none⟩])
 (.seq (.seq (.reg [⟨(some 26), .mv (.tmp 1), none⟩,
 ⟨(some 27), .len (.tmp 26), none⟩,
 ⟨(some 28), .mv (.const (.int .i64 0)), none⟩])
 (.block 2 (.loop (.seq (.reg [⟨(some 29), .bin .lss (.tmp 28) (.tmp 27), none⟩])
 (.seq (.cond (.tmp 29)
 (.skip)
 (.exit 2))
 (.seq (.block 3 (.seq (.reg [⟨(some 30), .is 1 (.tmp 26) (.tmp 28), none⟩,
 ⟨(some 31), .ld1 (.tmp 30), none⟩,
 ⟨(some 11), .mv (.tmp 31), none⟩])
 (.seq (.reg [⟨(some 12), .mv (.const (.int .i64 0)), none⟩])
 (.seq (.seq (.reg [⟨(some 32), .mv (.tmp 11), none⟩,
 ⟨(some 33), .len (.tmp 32), none⟩,
 ⟨(some 34), .bin .sub (.tmp 33) (.const (.int .i64 1)), none⟩,
 ⟨(some 13), .mv (.tmp 34), none⟩])
 (.block 4 (.loop (.seq (.seq (.reg [⟨(some 35), .mv (.tmp 13), none⟩,
 ⟨(some 36), .bin .geq (.tmp 35) (.const (.int .i64 0)), none⟩])
 (.cond (.tmp 36)
 (.skip)
 (.exit 4)))
 (.seq (.block 5 (.reg [⟨(some 39), .mv (.tmp 12), none⟩,
 ⟨(some 40), .bin .mul (.tmp 39) (.const (.int .i64 256)), none⟩,
 ⟨(some 41), .mv (.tmp 11), none⟩,
 ⟨(some 42), .mv (.tmp 13), none⟩,
 ⟨(some 43), .is 1 (.tmp 41) (.tmp 42), none⟩,
 ⟨(some 44), .ld1 (.tmp 43), none⟩,
 ⟨(some 45), .conv .i64 (.tmp 44), none⟩,
 ⟨(some 46), .bin .add (.tmp 40) (.tmp 45), none⟩,
 ⟨(some 12), .mv (.tmp 46), none⟩]))
 (.reg [⟨(some 37), .mv (.tmp 13), none⟩,
 ⟨(some 38), .bin .sub (.tmp 37) (.const (.int .i64 1)), none⟩,
 ⟨(some 13), .mv (.tmp 38), none⟩]))))))
 (.any [(true, 0, [], ⟨(some 47), .mv (.tmp 9), none⟩),
 (true, 1, [], ⟨(some 48), .mv (.tmp 12), none⟩),
 (true, 2, [], ⟨(some 49), .mv (.tmp 6), none⟩),
 (true, 3, [], ⟨(some 50), .bin .shr (.tmp 48) (.tmp 49), none⟩),
 (false, 4, [0, 1, 2, 3], ⟨(some 51), .mv (.tmp 8), none⟩),
 (false, 5, [0, 1, 2, 3], ⟨(some 52), .bin .shl (.const (.int .i64 1)) (.tmp 51), none⟩),
 (false, 6, [0], ⟨(some 53), .bin .rem (.tmp 50) (.tmp 52), none⟩),
 (false, 7, [], ⟨(some 54), .bin .add (.tmp 47) (.tmp 53), none⟩),
 (false, 8, [], ⟨(some 9), .mv (.tmp 54), none⟩)])))))
 (.reg [⟨(some 55), .bin .add (.tmp 28) (.const (.int .i64 1)), none⟩,
 ⟨(some 28), .mv (.tmp 55), none⟩])))))))
 (.seq (.reg [⟨(some 56), .mv (.tmp 9), none⟩,
 ⟨(some 57), .mv (.tmp 1), none⟩,
 ⟨(some 58), .len (.tmp 57), none⟩,
 ⟨(some 59), .bin .quo (.tmp 58) (.const (.int .i64 2)), none⟩,
 ⟨(some 60), .bin .add (.tmp 56) (.tmp 59), none⟩,
 ⟨(some 61), .mv (.tmp 1), none⟩,
 ⟨(some 62), .len (.tmp 61), none⟩,
 ⟨(some 63), .bin .quo (.tmp 60) (.tmp 62), none⟩,
 ⟨(some 14), .mv (.tmp 63), none⟩])
 (.seq (.seq (.reg [⟨(some 64), .mv (.tmp 8), none⟩,
 ⟨(some 65), .mv (.const (.int .i64 0)), none⟩])
 (.block 6 (.loop (.seq (.reg [⟨(some 66), .bin .lss (.tmp 65) (.tmp 64), none⟩])
 (.seq (.cond (.tmp 66)
 (.skip)
 (.exit 6))
 (.seq (.block 7 (.seq (.reg [⟨(some 67), .mv (.tmp 65), none⟩,
 ⟨(some 15), .mv (.tmp 67), none⟩])
 (.seq (.reg [⟨(some 68), .mv (.tmp 14), none⟩,
 ⟨(some 69), .mv (.tmp 15), none⟩,
 ⟨(some 70), .bin .shr (.tmp 68) (.tmp 69), none⟩,
 ⟨(some 71), .bin .rem (.tmp 70) (.const (.int .i64 2)), none⟩,
 ⟨(some 72), .bin .eql (.tmp 71) (.const (.int .i64 1)), none⟩])
 (.cond (.tmp 72)
 (.any [(true, 0, [], ⟨(some 73), .mv (.tmp 5), none⟩),
 (true, 1, [], ⟨(some 74), .mv (.tmp 6), none⟩),
 (true, 2, [], ⟨(some 75), .mv (.tmp 15), none⟩),
 (true, 3, [], ⟨(some 76), .bin .add (.tmp 74) (.tmp 75), none⟩),
 (true, 4, [], ⟨(some 77), .bin .quo (.tmp 76) (.const (.int .i64 8)), none⟩),
 (true, 5, [], ⟨(some 78), .is 1 (.tmp 73) (.tmp 77), none⟩),
 (true, 6, [], ⟨(some 79), .ld1 (.tmp 78), none⟩),
 (true, 7, [], ⟨(some 80), .mv (.tmp 6), none⟩),
 (false, 8, [0, 1, 2, 3, 4, 5, 6, 7], ⟨(some 81), .mv (.tmp 15), none⟩),
 (false, 9, [0, 1, 2, 3, 4, 5, 6], ⟨(some 82), .bin .add (.tmp 80) (.tmp 81), none⟩),
 (false, 10, [0, 1, 2, 3, 4, 5, 6], ⟨(some 83), .bin .rem (.tmp 82) (.const (.int .i64 8)), none⟩),
 (false, 11, [0, 1, 2, 3, 4, 5, 6], ⟨(some 84), .bin .shl (.const (.int .u8 1)) (.tmp 83), none⟩),
 (false, 12, [], ⟨(some 85), .bin .add (.tmp 79) (.tmp 84), none⟩),
 (false, 13, [], ⟨(some 86), .is 1 (.tmp 73) (.tmp 77), none⟩),
 (false, 14, [], ⟨none, .st1 (.tmp 86) (.tmp 85), none⟩)])
 (.skip)))))
 (.reg [⟨(some 87), .bin .add (.tmp 65) (.const (.int .i64 1)), none⟩,
 ⟨(some 65), .mv (.tmp 87), none⟩])))))))
 (.reg [⟨(some 88), .mv (.tmp 6), none⟩,
 ⟨(some 89), .mv (.tmp 8), none⟩,
 ⟨(some 90), .bin .add (.tmp 88) (.tmp 89), none⟩,
 ⟨(some 6), .mv (.tmp 90), none⟩])))))))
 (.reg [⟨(some 91), .bin .add (.tmp 22) (.const (.int .i64 1)), none⟩,
 ⟨(some 22), .mv (.tmp 91), none⟩])))))))
 (.seq (.reg [⟨(some 92), .mv (.tmp 5), none⟩,
 ⟨(some 4), .mv (.tmp 92), none⟩])
 (.ret)))))
theorem k46 : fnOk Try.prog 46 = some (M46, [.t 4], 93) := by kernel_rfl

theorem r_bits (f : Int) (hs : sizeI f ≠ 0) (h : ∀ b n c G, w0.heap.size ≤ b → H b = none → Grow w0 H G → (∀ d, d ≠ b → G d = H d) → (∀ i, i < (chs f).length → rd1 w0 G b i = some (.int .i64 ((chs f).getD i 0 : Nat))) → n = (chs f).length → K (.slice (some ⟨b, 0, none⟩) n c) G) : HCalls Try.prog w0 68 [.int .i64 f] H K := by
  have hc : f = 1 ∨ f = 2 ∨ f = 3 ∨ f = 4 ∨ f = 7 ∨ (f = 5 ∨ f = 6) := by
    by_cases c : f < 1 ∨ 8 ≤ f
    · exact absurd (sizeI_none c) hs
    · omega
  have fin : ∀ (ks : List Nat) (b : Nat) (t : Kd) (x : Blk), x.cells = ks.map (fun k => Value.int .i64 (k : Nat)) → ∀ i, i < ks.length → rd1 w0 (H.set b x) b i = some (.int .i64 (ks.getD i 0 : Nat)) := fun ks b t x e i hi => by
    unfold rd1
    rw [Heap.set_same]
    simp only
    rw [e]
    simp [List.getD, hi]
  have oth : ∀ (b : Nat) (x : Blk) d, d ≠ b → (H.set b x) d = H d := fun b x d hd => Heap.set_other _ _ hd
  rcases hc with rfl | rfl | rfl | rfl | rfl | hc
  · clear hs
    refine HL.hc k68 999 ?_; unfold M68
    (all_goals (try simp only [Sq,Sr,Sh,Si,Sl,Bu,Bb,Bd,Bc,Bw,Bn,Int.reduceAdd,Int.reduceSub,Int.reduceMul,Int.reduceTDiv,Int.reduceTMod,Int.reduceMod,Int.reduceDiv,Nat.reduceLT,Nat.reduceEqDiff,Sa,Sb,Sc,Sd,Se,Sf,Sg,Int.reduceLE,Int.reduceLT,Int.reduceToNat,Int.reduceNeg,Int.reduceEq,Nat.reduceLeDiff,Nat.reducePow,Int.reducePow,reduceIte,Nat.reduceSub,Nat.reduceAdd,Nat.reduceMul,putAt,ceq,List.replicate, *])); repeat' ((first | (with_reducible refine fun _ : True => ?_) | (with_reducible refine any_h ?_) | ((first | refine AllocQ_i ?_ | refine AllocO_i ?_); intro bk hb0 hbk; (try simp only [set_none'] at hbk); (try (first | have hbn := Grow.none (by assumption) hbk | have hbn := Grow.none (by assumption) hbk.2 | have hbn := Grow.none (by assumption) hbk.2.2 | have hbn := Grow.none (by assumption) hbk.2.2.2 | have hbn := Grow.none (by assumption) hbk.2.2.2.2 | have hbn := Grow.none (by assumption) hbk.2.2.2.2.2)); (try simp only [set_none'] at hbn); (try (first | have hbm := Grow.none (by assumption) hbn | have hbm := Grow.none (by assumption) hbn.2 | have hbm := Grow.none (by assumption) hbn.2.2 | have hbm := Grow.none (by assumption) hbn.2.2.2 | have hbm := Grow.none (by assumption) hbn.2.2.2.2 | have hbm := Grow.none (by assumption) hbn.2.2.2.2.2)); (try simp only [set_none'] at hbm)) | ((first | refine condS_i ?_ ?_ | refine pick_i ?_ ?_ | refine gS_it ?_ ?_ | refine gS_if ?_ ?_ | refine gP_it ?_ ?_ | refine gP_if ?_ ?_) <;> (intro hc; try simp only [Int.reduceLE,Int.reduceLT,Int.reduceEq,Sn] at hc)) | (with_reducible refine KP_i ?_ ?_; · (repeat' (first | exact Heap.Le.refl _ | (with_reducible refine Le_set2 ?_) | (refine Le_known (by first | (simp only [Heap.set_same, set_ne, ne_eq, not_false_eq_true, *] <;> rfl) | fail) ?_) | (refine Le_fresh (by first | (simp only [*] <;> done) | (simp [set_none', Heap.set_same, set_ne, noneH, *] <;> done) | fail) ?_) | (refine Heap.Le.trans ?_ (Grow.le (by assumption))) | exact Le_none | (refine Le_put ?_ (by first | (simp only [Heap.set_same, set_ne, ne_eq, not_false_eq_true, *] <;> rfl) | fail)) | fail))) | (with_reducible refine And.intro ?_ ?_)) <;> (try simp only [Sq,Sr,Sh,Si,Sl,Bu,Bb,Bd,Bc,Bw,Bn,Int.reduceAdd,Int.reduceSub,Int.reduceMul,Int.reduceTDiv,Int.reduceTMod,Int.reduceMod,Int.reduceDiv,Nat.reduceLT,Nat.reduceEqDiff,Sa,Sb,Sc,Sd,Se,Sf,Sg,Int.reduceLE,Int.reduceLT,Int.reduceToNat,Int.reduceNeg,Int.reduceEq,Nat.reduceLeDiff,Nat.reducePow,Int.reducePow,reduceIte,Nat.reduceSub,Nat.reduceAdd,Nat.reduceMul,putAt,ceq,List.replicate, *]))
    exact Fin_mk (Heap.Le.refl _) (h bk 4 4 _ hb0 hbk (by (repeat' (first | exact Grow.refl _ | assumption | (refine Grow_known (by first | (simp only [Heap.set_same, set_ne, ne_eq, not_false_eq_true, *] <;> rfl) | fail) ?_) | (refine Grow.set ?_ (by assumption) (by first | (simp only [*] <;> done) | (simp [set_none', Heap.set_same, set_ne, noneH, *] <;> done) | fail)) | (refine Grow.trans ?_ (by assumption))))) (oth _ _) (fin [8, 8, 8, 8] bk (.t 3) _ rfl) rfl)
  · clear hs
    refine HL.hc k68 999 ?_; unfold M68
    (all_goals (try simp only [Sq,Sr,Sh,Si,Sl,Bu,Bb,Bd,Bc,Bw,Bn,Int.reduceAdd,Int.reduceSub,Int.reduceMul,Int.reduceTDiv,Int.reduceTMod,Int.reduceMod,Int.reduceDiv,Nat.reduceLT,Nat.reduceEqDiff,Sa,Sb,Sc,Sd,Se,Sf,Sg,Int.reduceLE,Int.reduceLT,Int.reduceToNat,Int.reduceNeg,Int.reduceEq,Nat.reduceLeDiff,Nat.reducePow,Int.reducePow,reduceIte,Nat.reduceSub,Nat.reduceAdd,Nat.reduceMul,putAt,ceq,List.replicate, *])); repeat' ((first | (with_reducible refine fun _ : True => ?_) | (with_reducible refine any_h ?_) | ((first | refine AllocQ_i ?_ | refine AllocO_i ?_); intro bk hb0 hbk; (try simp only [set_none'] at hbk); (try (first | have hbn := Grow.none (by assumption) hbk | have hbn := Grow.none (by assumption) hbk.2 | have hbn := Grow.none (by assumption) hbk.2.2 | have hbn := Grow.none (by assumption) hbk.2.2.2 | have hbn := Grow.none (by assumption) hbk.2.2.2.2 | have hbn := Grow.none (by assumption) hbk.2.2.2.2.2)); (try simp only [set_none'] at hbn); (try (first | have hbm := Grow.none (by assumption) hbn | have hbm := Grow.none (by assumption) hbn.2 | have hbm := Grow.none (by assumption) hbn.2.2 | have hbm := Grow.none (by assumption) hbn.2.2.2 | have hbm := Grow.none (by assumption) hbn.2.2.2.2 | have hbm := Grow.none (by assumption) hbn.2.2.2.2.2)); (try simp only [set_none'] at hbm)) | ((first | refine condS_i ?_ ?_ | refine pick_i ?_ ?_ | refine gS_it ?_ ?_ | refine gS_if ?_ ?_ | refine gP_it ?_ ?_ | refine gP_if ?_ ?_) <;> (intro hc; try simp only [Int.reduceLE,Int.reduceLT,Int.reduceEq,Sn] at hc)) | (with_reducible refine KP_i ?_ ?_; · (repeat' (first | exact Heap.Le.refl _ | (with_reducible refine Le_set2 ?_) | (refine Le_known (by first | (simp only [Heap.set_same, set_ne, ne_eq, not_false_eq_true, *] <;> rfl) | fail) ?_) | (refine Le_fresh (by first | (simp only [*] <;> done) | (simp [set_none', Heap.set_same, set_ne, noneH, *] <;> done) | fail) ?_) | (refine Heap.Le.trans ?_ (Grow.le (by assumption))) | exact Le_none | (refine Le_put ?_ (by first | (simp only [Heap.set_same, set_ne, ne_eq, not_false_eq_true, *] <;> rfl) | fail)) | fail))) | (with_reducible refine And.intro ?_ ?_)) <;> (try simp only [Sq,Sr,Sh,Si,Sl,Bu,Bb,Bd,Bc,Bw,Bn,Int.reduceAdd,Int.reduceSub,Int.reduceMul,Int.reduceTDiv,Int.reduceTMod,Int.reduceMod,Int.reduceDiv,Nat.reduceLT,Nat.reduceEqDiff,Sa,Sb,Sc,Sd,Se,Sf,Sg,Int.reduceLE,Int.reduceLT,Int.reduceToNat,Int.reduceNeg,Int.reduceEq,Nat.reduceLeDiff,Nat.reducePow,Int.reducePow,reduceIte,Nat.reduceSub,Nat.reduceAdd,Nat.reduceMul,putAt,ceq,List.replicate, *]))
    exact Fin_mk (Heap.Le.refl _) (h bk 3 3 _ hb0 hbk (by (repeat' (first | exact Grow.refl _ | assumption | (refine Grow_known (by first | (simp only [Heap.set_same, set_ne, ne_eq, not_false_eq_true, *] <;> rfl) | fail) ?_) | (refine Grow.set ?_ (by assumption) (by first | (simp only [*] <;> done) | (simp [set_none', Heap.set_same, set_ne, noneH, *] <;> done) | fail)) | (refine Grow.trans ?_ (by assumption))))) (oth _ _) (fin [5, 6, 5] bk (.t 3) _ rfl) rfl)
  · clear hs
    refine HL.hc k68 999 ?_; unfold M68
    (all_goals (try simp only [Sq,Sr,Sh,Si,Sl,Bu,Bb,Bd,Bc,Bw,Bn,Int.reduceAdd,Int.reduceSub,Int.reduceMul,Int.reduceTDiv,Int.reduceTMod,Int.reduceMod,Int.reduceDiv,Nat.reduceLT,Nat.reduceEqDiff,Sa,Sb,Sc,Sd,Se,Sf,Sg,Int.reduceLE,Int.reduceLT,Int.reduceToNat,Int.reduceNeg,Int.reduceEq,Nat.reduceLeDiff,Nat.reducePow,Int.reducePow,reduceIte,Nat.reduceSub,Nat.reduceAdd,Nat.reduceMul,putAt,ceq,List.replicate, *])); repeat' ((first | (with_reducible refine fun _ : True => ?_) | (with_reducible refine any_h ?_) | ((first | refine AllocQ_i ?_ | refine AllocO_i ?_); intro bk hb0 hbk; (try simp only [set_none'] at hbk); (try (first | have hbn := Grow.none (by assumption) hbk | have hbn := Grow.none (by assumption) hbk.2 | have hbn := Grow.none (by assumption) hbk.2.2 | have hbn := Grow.none (by assumption) hbk.2.2.2 | have hbn := Grow.none (by assumption) hbk.2.2.2.2 | have hbn := Grow.none (by assumption) hbk.2.2.2.2.2)); (try simp only [set_none'] at hbn); (try (first | have hbm := Grow.none (by assumption) hbn | have hbm := Grow.none (by assumption) hbn.2 | have hbm := Grow.none (by assumption) hbn.2.2 | have hbm := Grow.none (by assumption) hbn.2.2.2 | have hbm := Grow.none (by assumption) hbn.2.2.2.2 | have hbm := Grow.none (by assumption) hbn.2.2.2.2.2)); (try simp only [set_none'] at hbm)) | ((first | refine condS_i ?_ ?_ | refine pick_i ?_ ?_ | refine gS_it ?_ ?_ | refine gS_if ?_ ?_ | refine gP_it ?_ ?_ | refine gP_if ?_ ?_) <;> (intro hc; try simp only [Int.reduceLE,Int.reduceLT,Int.reduceEq,Sn] at hc)) | (with_reducible refine KP_i ?_ ?_; · (repeat' (first | exact Heap.Le.refl _ | (with_reducible refine Le_set2 ?_) | (refine Le_known (by first | (simp only [Heap.set_same, set_ne, ne_eq, not_false_eq_true, *] <;> rfl) | fail) ?_) | (refine Le_fresh (by first | (simp only [*] <;> done) | (simp [set_none', Heap.set_same, set_ne, noneH, *] <;> done) | fail) ?_) | (refine Heap.Le.trans ?_ (Grow.le (by assumption))) | exact Le_none | (refine Le_put ?_ (by first | (simp only [Heap.set_same, set_ne, ne_eq, not_false_eq_true, *] <;> rfl) | fail)) | fail))) | (with_reducible refine And.intro ?_ ?_)) <;> (try simp only [Sq,Sr,Sh,Si,Sl,Bu,Bb,Bd,Bc,Bw,Bn,Int.reduceAdd,Int.reduceSub,Int.reduceMul,Int.reduceTDiv,Int.reduceTMod,Int.reduceMod,Int.reduceDiv,Nat.reduceLT,Nat.reduceEqDiff,Sa,Sb,Sc,Sd,Se,Sf,Sg,Int.reduceLE,Int.reduceLT,Int.reduceToNat,Int.reduceNeg,Int.reduceEq,Nat.reduceLeDiff,Nat.reducePow,Int.reducePow,reduceIte,Nat.reduceSub,Nat.reduceAdd,Nat.reduceMul,putAt,ceq,List.replicate, *]))
    exact Fin_mk (Heap.Le.refl _) (h bk 4 4 _ hb0 hbk (by (repeat' (first | exact Grow.refl _ | assumption | (refine Grow_known (by first | (simp only [Heap.set_same, set_ne, ne_eq, not_false_eq_true, *] <;> rfl) | fail) ?_) | (refine Grow.set ?_ (by assumption) (by first | (simp only [*] <;> done) | (simp [set_none', Heap.set_same, set_ne, noneH, *] <;> done) | fail)) | (refine Grow.trans ?_ (by assumption))))) (oth _ _) (fin [4, 4, 4, 4] bk (.t 3) _ rfl) rfl)
  · clear hs
    refine HL.hc k68 999 ?_; unfold M68
    (all_goals (try simp only [Sq,Sr,Sh,Si,Sl,Bu,Bb,Bd,Bc,Bw,Bn,Int.reduceAdd,Int.reduceSub,Int.reduceMul,Int.reduceTDiv,Int.reduceTMod,Int.reduceMod,Int.reduceDiv,Nat.reduceLT,Nat.reduceEqDiff,Sa,Sb,Sc,Sd,Se,Sf,Sg,Int.reduceLE,Int.reduceLT,Int.reduceToNat,Int.reduceNeg,Int.reduceEq,Nat.reduceLeDiff,Nat.reducePow,Int.reducePow,reduceIte,Nat.reduceSub,Nat.reduceAdd,Nat.reduceMul,putAt,ceq,List.replicate, *])); repeat' ((first | (with_reducible refine fun _ : True => ?_) | (with_reducible refine any_h ?_) | ((first | refine AllocQ_i ?_ | refine AllocO_i ?_); intro bk hb0 hbk; (try simp only [set_none'] at hbk); (try (first | have hbn := Grow.none (by assumption) hbk | have hbn := Grow.none (by assumption) hbk.2 | have hbn := Grow.none (by assumption) hbk.2.2 | have hbn := Grow.none (by assumption) hbk.2.2.2 | have hbn := Grow.none (by assumption) hbk.2.2.2.2 | have hbn := Grow.none (by assumption) hbk.2.2.2.2.2)); (try simp only [set_none'] at hbn); (try (first | have hbm := Grow.none (by assumption) hbn | have hbm := Grow.none (by assumption) hbn.2 | have hbm := Grow.none (by assumption) hbn.2.2 | have hbm := Grow.none (by assumption) hbn.2.2.2 | have hbm := Grow.none (by assumption) hbn.2.2.2.2 | have hbm := Grow.none (by assumption) hbn.2.2.2.2.2)); (try simp only [set_none'] at hbm)) | ((first | refine condS_i ?_ ?_ | refine pick_i ?_ ?_ | refine gS_it ?_ ?_ | refine gS_if ?_ ?_ | refine gP_it ?_ ?_ | refine gP_if ?_ ?_) <;> (intro hc; try simp only [Int.reduceLE,Int.reduceLT,Int.reduceEq,Sn] at hc)) | (with_reducible refine KP_i ?_ ?_; · (repeat' (first | exact Heap.Le.refl _ | (with_reducible refine Le_set2 ?_) | (refine Le_known (by first | (simp only [Heap.set_same, set_ne, ne_eq, not_false_eq_true, *] <;> rfl) | fail) ?_) | (refine Le_fresh (by first | (simp only [*] <;> done) | (simp [set_none', Heap.set_same, set_ne, noneH, *] <;> done) | fail) ?_) | (refine Heap.Le.trans ?_ (Grow.le (by assumption))) | exact Le_none | (refine Le_put ?_ (by first | (simp only [Heap.set_same, set_ne, ne_eq, not_false_eq_true, *] <;> rfl) | fail)) | fail))) | (with_reducible refine And.intro ?_ ?_)) <;> (try simp only [Sq,Sr,Sh,Si,Sl,Bu,Bb,Bd,Bc,Bw,Bn,Int.reduceAdd,Int.reduceSub,Int.reduceMul,Int.reduceTDiv,Int.reduceTMod,Int.reduceMod,Int.reduceDiv,Nat.reduceLT,Nat.reduceEqDiff,Sa,Sb,Sc,Sd,Se,Sf,Sg,Int.reduceLE,Int.reduceLT,Int.reduceToNat,Int.reduceNeg,Int.reduceEq,Nat.reduceLeDiff,Nat.reducePow,Int.reducePow,reduceIte,Nat.reduceSub,Nat.reduceAdd,Nat.reduceMul,putAt,ceq,List.replicate, *]))
    exact Fin_mk (Heap.Le.refl _) (h bk 4 4 _ hb0 hbk (by (repeat' (first | exact Grow.refl _ | assumption | (refine Grow_known (by first | (simp only [Heap.set_same, set_ne, ne_eq, not_false_eq_true, *] <;> rfl) | fail) ?_) | (refine Grow.set ?_ (by assumption) (by first | (simp only [*] <;> done) | (simp [set_none', Heap.set_same, set_ne, noneH, *] <;> done) | fail)) | (refine Grow.trans ?_ (by assumption))))) (oth _ _) (fin [1, 5, 5, 5] bk (.t 3) _ rfl) rfl)
  · clear hs
    refine HL.hc k68 999 ?_; unfold M68
    (all_goals (try simp only [Sq,Sr,Sh,Si,Sl,Bu,Bb,Bd,Bc,Bw,Bn,Int.reduceAdd,Int.reduceSub,Int.reduceMul,Int.reduceTDiv,Int.reduceTMod,Int.reduceMod,Int.reduceDiv,Nat.reduceLT,Nat.reduceEqDiff,Sa,Sb,Sc,Sd,Se,Sf,Sg,Int.reduceLE,Int.reduceLT,Int.reduceToNat,Int.reduceNeg,Int.reduceEq,Nat.reduceLeDiff,Nat.reducePow,Int.reducePow,reduceIte,Nat.reduceSub,Nat.reduceAdd,Nat.reduceMul,putAt,ceq,List.replicate, *])); repeat' ((first | (with_reducible refine fun _ : True => ?_) | (with_reducible refine any_h ?_) | ((first | refine AllocQ_i ?_ | refine AllocO_i ?_); intro bk hb0 hbk; (try simp only [set_none'] at hbk); (try (first | have hbn := Grow.none (by assumption) hbk | have hbn := Grow.none (by assumption) hbk.2 | have hbn := Grow.none (by assumption) hbk.2.2 | have hbn := Grow.none (by assumption) hbk.2.2.2 | have hbn := Grow.none (by assumption) hbk.2.2.2.2 | have hbn := Grow.none (by assumption) hbk.2.2.2.2.2)); (try simp only [set_none'] at hbn); (try (first | have hbm := Grow.none (by assumption) hbn | have hbm := Grow.none (by assumption) hbn.2 | have hbm := Grow.none (by assumption) hbn.2.2 | have hbm := Grow.none (by assumption) hbn.2.2.2 | have hbm := Grow.none (by assumption) hbn.2.2.2.2 | have hbm := Grow.none (by assumption) hbn.2.2.2.2.2)); (try simp only [set_none'] at hbm)) | ((first | refine condS_i ?_ ?_ | refine pick_i ?_ ?_ | refine gS_it ?_ ?_ | refine gS_if ?_ ?_ | refine gP_it ?_ ?_ | refine gP_if ?_ ?_) <;> (intro hc; try simp only [Int.reduceLE,Int.reduceLT,Int.reduceEq,Sn] at hc)) | (with_reducible refine KP_i ?_ ?_; · (repeat' (first | exact Heap.Le.refl _ | (with_reducible refine Le_set2 ?_) | (refine Le_known (by first | (simp only [Heap.set_same, set_ne, ne_eq, not_false_eq_true, *] <;> rfl) | fail) ?_) | (refine Le_fresh (by first | (simp only [*] <;> done) | (simp [set_none', Heap.set_same, set_ne, noneH, *] <;> done) | fail) ?_) | (refine Heap.Le.trans ?_ (Grow.le (by assumption))) | exact Le_none | (refine Le_put ?_ (by first | (simp only [Heap.set_same, set_ne, ne_eq, not_false_eq_true, *] <;> rfl) | fail)) | fail))) | (with_reducible refine And.intro ?_ ?_)) <;> (try simp only [Sq,Sr,Sh,Si,Sl,Bu,Bb,Bd,Bc,Bw,Bn,Int.reduceAdd,Int.reduceSub,Int.reduceMul,Int.reduceTDiv,Int.reduceTMod,Int.reduceMod,Int.reduceDiv,Nat.reduceLT,Nat.reduceEqDiff,Sa,Sb,Sc,Sd,Se,Sf,Sg,Int.reduceLE,Int.reduceLT,Int.reduceToNat,Int.reduceNeg,Int.reduceEq,Nat.reduceLeDiff,Nat.reducePow,Int.reducePow,reduceIte,Nat.reduceSub,Nat.reduceAdd,Nat.reduceMul,putAt,ceq,List.replicate, *]))
    exact Fin_mk (Heap.Le.refl _) (h bk 2 2 _ hb0 hbk (by (repeat' (first | exact Grow.refl _ | assumption | (refine Grow_known (by first | (simp only [Heap.set_same, set_ne, ne_eq, not_false_eq_true, *] <;> rfl) | fail) ?_) | (refine Grow.set ?_ (by assumption) (by first | (simp only [*] <;> done) | (simp [set_none', Heap.set_same, set_ne, noneH, *] <;> done) | fail)) | (refine Grow.trans ?_ (by assumption))))) (oth _ _) (fin [8, 8] bk (.t 3) _ rfl) rfl)
  · rcases hc with rfl | rfl
    · clear hs
      refine HL.hc k68 999 ?_; unfold M68
      (all_goals (try simp only [Sq,Sr,Sh,Si,Sl,Bu,Bb,Bd,Bc,Bw,Bn,Int.reduceAdd,Int.reduceSub,Int.reduceMul,Int.reduceTDiv,Int.reduceTMod,Int.reduceMod,Int.reduceDiv,Nat.reduceLT,Nat.reduceEqDiff,Sa,Sb,Sc,Sd,Se,Sf,Sg,Int.reduceLE,Int.reduceLT,Int.reduceToNat,Int.reduceNeg,Int.reduceEq,Nat.reduceLeDiff,Nat.reducePow,Int.reducePow,reduceIte,Nat.reduceSub,Nat.reduceAdd,Nat.reduceMul,putAt,ceq,List.replicate, *])); repeat' ((first | (with_reducible refine fun _ : True => ?_) | (with_reducible refine any_h ?_) | ((first | refine AllocQ_i ?_ | refine AllocO_i ?_); intro bk hb0 hbk; (try simp only [set_none'] at hbk); (try (first | have hbn := Grow.none (by assumption) hbk | have hbn := Grow.none (by assumption) hbk.2 | have hbn := Grow.none (by assumption) hbk.2.2 | have hbn := Grow.none (by assumption) hbk.2.2.2 | have hbn := Grow.none (by assumption) hbk.2.2.2.2 | have hbn := Grow.none (by assumption) hbk.2.2.2.2.2)); (try simp only [set_none'] at hbn); (try (first | have hbm := Grow.none (by assumption) hbn | have hbm := Grow.none (by assumption) hbn.2 | have hbm := Grow.none (by assumption) hbn.2.2 | have hbm := Grow.none (by assumption) hbn.2.2.2 | have hbm := Grow.none (by assumption) hbn.2.2.2.2 | have hbm := Grow.none (by assumption) hbn.2.2.2.2.2)); (try simp only [set_none'] at hbm)) | ((first | refine condS_i ?_ ?_ | refine pick_i ?_ ?_ | refine gS_it ?_ ?_ | refine gS_if ?_ ?_ | refine gP_it ?_ ?_ | refine gP_if ?_ ?_) <;> (intro hc; try simp only [Int.reduceLE,Int.reduceLT,Int.reduceEq,Sn] at hc)) | (with_reducible refine KP_i ?_ ?_; · (repeat' (first | exact Heap.Le.refl _ | (with_reducible refine Le_set2 ?_) | (refine Le_known (by first | (simp only [Heap.set_same, set_ne, ne_eq, not_false_eq_true, *] <;> rfl) | fail) ?_) | (refine Le_fresh (by first | (simp only [*] <;> done) | (simp [set_none', Heap.set_same, set_ne, noneH, *] <;> done) | fail) ?_) | (refine Heap.Le.trans ?_ (Grow.le (by assumption))) | exact Le_none | (refine Le_put ?_ (by first | (simp only [Heap.set_same, set_ne, ne_eq, not_false_eq_true, *] <;> rfl) | fail)) | fail))) | (with_reducible refine And.intro ?_ ?_)) <;> (try simp only [Sq,Sr,Sh,Si,Sl,Bu,Bb,Bd,Bc,Bw,Bn,Int.reduceAdd,Int.reduceSub,Int.reduceMul,Int.reduceTDiv,Int.reduceTMod,Int.reduceMod,Int.reduceDiv,Nat.reduceLT,Nat.reduceEqDiff,Sa,Sb,Sc,Sd,Se,Sf,Sg,Int.reduceLE,Int.reduceLT,Int.reduceToNat,Int.reduceNeg,Int.reduceEq,Nat.reduceLeDiff,Nat.reducePow,Int.reducePow,reduceIte,Nat.reduceSub,Nat.reduceAdd,Nat.reduceMul,putAt,ceq,List.replicate, *]))
      exact Fin_mk (Heap.Le.refl _) (h bk 1 1 _ hb0 hbk (by (repeat' (first | exact Grow.refl _ | assumption | (refine Grow_known (by first | (simp only [Heap.set_same, set_ne, ne_eq, not_false_eq_true, *] <;> rfl) | fail) ?_) | (refine Grow.set ?_ (by assumption) (by first | (simp only [*] <;> done) | (simp [set_none', Heap.set_same, set_ne, noneH, *] <;> done) | fail)) | (refine Grow.trans ?_ (by assumption))))) (oth _ _) (fin [8] bk (.t 3) _ rfl) rfl)
    · clear hs
      refine HL.hc k68 999 ?_; unfold M68
      (all_goals (try simp only [Sq,Sr,Sh,Si,Sl,Bu,Bb,Bd,Bc,Bw,Bn,Int.reduceAdd,Int.reduceSub,Int.reduceMul,Int.reduceTDiv,Int.reduceTMod,Int.reduceMod,Int.reduceDiv,Nat.reduceLT,Nat.reduceEqDiff,Sa,Sb,Sc,Sd,Se,Sf,Sg,Int.reduceLE,Int.reduceLT,Int.reduceToNat,Int.reduceNeg,Int.reduceEq,Nat.reduceLeDiff,Nat.reducePow,Int.reducePow,reduceIte,Nat.reduceSub,Nat.reduceAdd,Nat.reduceMul,putAt,ceq,List.replicate, *])); repeat' ((first | (with_reducible refine fun _ : True => ?_) | (with_reducible refine any_h ?_) | ((first | refine AllocQ_i ?_ | refine AllocO_i ?_); intro bk hb0 hbk; (try simp only [set_none'] at hbk); (try (first | have hbn := Grow.none (by assumption) hbk | have hbn := Grow.none (by assumption) hbk.2 | have hbn := Grow.none (by assumption) hbk.2.2 | have hbn := Grow.none (by assumption) hbk.2.2.2 | have hbn := Grow.none (by assumption) hbk.2.2.2.2 | have hbn := Grow.none (by assumption) hbk.2.2.2.2.2)); (try simp only [set_none'] at hbn); (try (first | have hbm := Grow.none (by assumption) hbn | have hbm := Grow.none (by assumption) hbn.2 | have hbm := Grow.none (by assumption) hbn.2.2 | have hbm := Grow.none (by assumption) hbn.2.2.2 | have hbm := Grow.none (by assumption) hbn.2.2.2.2 | have hbm := Grow.none (by assumption) hbn.2.2.2.2.2)); (try simp only [set_none'] at hbm)) | ((first | refine condS_i ?_ ?_ | refine pick_i ?_ ?_ | refine gS_it ?_ ?_ | refine gS_if ?_ ?_ | refine gP_it ?_ ?_ | refine gP_if ?_ ?_) <;> (intro hc; try simp only [Int.reduceLE,Int.reduceLT,Int.reduceEq,Sn] at hc)) | (with_reducible refine KP_i ?_ ?_; · (repeat' (first | exact Heap.Le.refl _ | (with_reducible refine Le_set2 ?_) | (refine Le_known (by first | (simp only [Heap.set_same, set_ne, ne_eq, not_false_eq_true, *] <;> rfl) | fail) ?_) | (refine Le_fresh (by first | (simp only [*] <;> done) | (simp [set_none', Heap.set_same, set_ne, noneH, *] <;> done) | fail) ?_) | (refine Heap.Le.trans ?_ (Grow.le (by assumption))) | exact Le_none | (refine Le_put ?_ (by first | (simp only [Heap.set_same, set_ne, ne_eq, not_false_eq_true, *] <;> rfl) | fail)) | fail))) | (with_reducible refine And.intro ?_ ?_)) <;> (try simp only [Sq,Sr,Sh,Si,Sl,Bu,Bb,Bd,Bc,Bw,Bn,Int.reduceAdd,Int.reduceSub,Int.reduceMul,Int.reduceTDiv,Int.reduceTMod,Int.reduceMod,Int.reduceDiv,Nat.reduceLT,Nat.reduceEqDiff,Sa,Sb,Sc,Sd,Se,Sf,Sg,Int.reduceLE,Int.reduceLT,Int.reduceToNat,Int.reduceNeg,Int.reduceEq,Nat.reduceLeDiff,Nat.reducePow,Int.reducePow,reduceIte,Nat.reduceSub,Nat.reduceAdd,Nat.reduceMul,putAt,ceq,List.replicate, *]))
      exact Fin_mk (Heap.Le.refl _) (h bk 1 1 _ hb0 hbk (by (repeat' (first | exact Grow.refl _ | assumption | (refine Grow_known (by first | (simp only [Heap.set_same, set_ne, ne_eq, not_false_eq_true, *] <;> rfl) | fail) ?_) | (refine Grow.set ?_ (by assumption) (by first | (simp only [*] <;> done) | (simp [set_none', Heap.set_same, set_ne, noneH, *] <;> done) | fail)) | (refine Grow.trans ?_ (by assumption))))) (oth _ _) (fin [8] bk (.t 3) _ rfl) rfl)
theorem chs_le {f : Int} (h : sizeI f ≠ 0) : ∀ j, j ≤ (chs f).length → atP (chs f) j ≤ 8 * (sizeI f).toNat := by
  have : f = 1 ∨ f = 2 ∨ f = 3 ∨ f = 4 ∨ f = 5 ∨ f = 6 ∨ f = 7 := by
    by_cases c : f < 1 ∨ 8 ≤ f
    · exact absurd (sizeI_none c) h
    · omega
  rcases this with rfl | rfl | rfl | rfl | rfl | rfl | rfl <;> decide
theorem bit_add {M m : Int} {aa i : Nat} : M + m % 2 ^ (i + 1) * 2 ^ aa = M + m % 2 ^ i * 2 ^ aa + m / 2 ^ i % 2 * 2 ^ (aa + i) := by
  rw [mod_succ, Int.add_mul, Int.mul_assoc, ← Int.pow_add, Nat.add_comm i aa, Int.add_assoc]
theorem bit_b {M m : Int} {aa i : Nat} (h : 0 ≤ M ∧ M < 2 ^ aa) : 0 ≤ M + m % 2 ^ i * 2 ^ aa ∧ M + m % 2 ^ i * 2 ^ aa < 2 ^ (aa + i) := by
  have p1 := p2 aa
  have p3 := p2 i
  have h1 := Int.emod_nonneg m (show (2 : Int) ^ i ≠ 0 by omega)
  have h2 := Int.emod_lt_of_pos m p3
  have h3 : 0 ≤ m % 2 ^ i * 2 ^ aa := Int.mul_nonneg h1 (by omega)
  have h4 : (m % 2 ^ i + 1) * 2 ^ aa ≤ 2 ^ i * 2 ^ aa := Int.mul_le_mul_of_nonneg_right (by omega) (by omega)
  rw [Int.add_mul] at h4
  rw [Int.pow_add, Int.mul_comm (2 ^ aa)]
  omega
/-- A pixel's bytes. -/
structure PR where
  a : Option Addr
  cap : Nat
  l : List Int
structure PROk (W : World) (H : Heap) (S : Nat) (p : PR) : Prop where
  at_ : IntsAt W H .u8 p.a p.l
  len : p.l.length = S
  by_ : ∀ b ∈ p.l, 0 ≤ b ∧ b ≤ 255
def PR.row (p : PR) : Value := .slice p.a p.l.length p.cap
theorem num_drop {l : List Int} {k : Nat} {v : Int} (h : l[k]? = some v) : num (l.drop k) = v + 256 * num (l.drop (k + 1)) := by
  have hk := (List.getElem?_eq_some_iff.1 h).1
  rw [List.drop_eq_getElem_cons hk, num]
  rw [List.getElem?_eq_getElem hk] at h
  cases h; rfl
theorem mks_j {e : TypeId} {by_ : Nat} {z : List Value} {k k' : IntKind} {l c : Int} (h0 : 0 ≤ l) (h1 : l ≤ c) (h2 : c ≤ 9223372036854775807) (h3 : by_ * c.toNat ≤ 281474976710656)
    (h : AllocQ w0 G K (fun b => .slice (some ⟨b, 0, none⟩) l.toNat c.toNat) e (zeroL z c.toNat)) : mksQ w0 G K e by_ z (.int k l) (.int k' c) := ⟨h0, h1, h2, h3, h⟩
theorem r_Mean (f : Int) (S : Nat) (hs : sizeI f = (S : Int)) (hS : 1 ≤ S ∧ S ≤ 4) (A : Option Addr) (C : Nat) (ps : List PR) (hA : SlAt w0 H A (ps.map PR.row)) (hp : ∀ p ∈ ps, PROk w0 H S p) (hn : 1 ≤ ps.length ∧ ps.length ≤ 4)
    (h : ∀ b G, w0.heap.size ≤ b → H b = none → G b = some ⟨.t 5, (meanB f (ps.map fun p => num p.l)).map (.int .u8)⟩ → Grow w0 H G → K (.slice (some ⟨b, 0, none⟩) S S) G) :
    HCalls Try.prog w0 46 [.int .i64 f, .slice A ps.length C] H K := by
  have cS := fun (G : Heap) (K : Value → Heap → Prop) => r_Size8 (w0 := w0) (H := G) (K := K) f
  rw [hs] at cS
  have cB := fun (G : Heap) (K : Value → Heap → Prop) => r_bits (w0 := w0) (H := G) (K := K) f (by omega)
  have hS' : Keep _ := hS
  have h1 : (0 : Int) ≤ (S : Int) := by omega
  have h' : Keep _ := h
  clear h hS
  refine HL.hc k46 999 ?_; unfold M46
  have hT : (S : Int).toNat = S := by omega
  (all_goals (try simp only [Sq,Sr,Sh,Si,Sl,Bu,Bb,Bd,Bc,Bw,Bn,Int.reduceAdd,Int.reduceSub,Int.reduceMul,Int.reduceTDiv,Int.reduceTMod,Int.reduceMod,Int.reduceDiv,Nat.reduceLT,Nat.reduceEqDiff,Sa,Sb,Sc,Sd,Se,Sf,Sg,Int.reduceLE,Int.reduceLT,Int.reduceToNat,Int.reduceNeg,Int.reduceEq,Nat.reduceLeDiff,Nat.reducePow,Int.reducePow,reduceIte,Nat.reduceSub,Nat.reduceAdd,Nat.reduceMul,putAt,ceq,List.replicate, *])); repeat' ((first | (with_reducible refine fun _ : True => ?_) | refine cS _ _ ?_ | (with_reducible refine any_h ?_) | ((first | refine AllocQ_i ?_ | refine AllocO_i ?_); intro bk hb0 hbk; (try simp only [set_none'] at hbk); (try (first | have hbn := Grow.none (by assumption) hbk | have hbn := Grow.none (by assumption) hbk.2 | have hbn := Grow.none (by assumption) hbk.2.2 | have hbn := Grow.none (by assumption) hbk.2.2.2 | have hbn := Grow.none (by assumption) hbk.2.2.2.2 | have hbn := Grow.none (by assumption) hbk.2.2.2.2.2)); (try simp only [set_none'] at hbn); (try (first | have hbm := Grow.none (by assumption) hbn | have hbm := Grow.none (by assumption) hbn.2 | have hbm := Grow.none (by assumption) hbn.2.2 | have hbm := Grow.none (by assumption) hbn.2.2.2 | have hbm := Grow.none (by assumption) hbn.2.2.2.2 | have hbm := Grow.none (by assumption) hbn.2.2.2.2.2)); (try simp only [set_none'] at hbm)) | ((first | refine condS_i ?_ ?_ | refine pick_i ?_ ?_ | refine gS_it ?_ ?_ | refine gS_if ?_ ?_ | refine gP_it ?_ ?_ | refine gP_if ?_ ?_) <;> (intro hc; try simp only [Int.reduceLE,Int.reduceLT,Int.reduceEq,Sn] at hc)) | (with_reducible refine KP_i ?_ ?_; · (repeat' (first | exact Heap.Le.refl _ | (with_reducible refine Le_set2 ?_) | (refine Le_known (by first | (simp only [Heap.set_same, set_ne, ne_eq, not_false_eq_true, *] <;> rfl) | fail) ?_) | (refine Le_fresh (by first | (simp only [*] <;> done) | (simp [set_none', Heap.set_same, set_ne, noneH, *] <;> done) | fail) ?_) | (refine Heap.Le.trans ?_ (Grow.le (by assumption))) | exact Le_none | (refine Le_put ?_ (by first | (simp only [Heap.set_same, set_ne, ne_eq, not_false_eq_true, *] <;> rfl) | fail)) | fail))) | (with_reducible refine And.intro ?_ ?_)) <;> (try simp only [Sq,Sr,Sh,Si,Sl,Bu,Bb,Bd,Bc,Bw,Bn,Int.reduceAdd,Int.reduceSub,Int.reduceMul,Int.reduceTDiv,Int.reduceTMod,Int.reduceMod,Int.reduceDiv,Nat.reduceLT,Nat.reduceEqDiff,Sa,Sb,Sc,Sd,Se,Sf,Sg,Int.reduceLE,Int.reduceLT,Int.reduceToNat,Int.reduceNeg,Int.reduceEq,Nat.reduceLeDiff,Nat.reducePow,Int.reducePow,reduceIte,Nat.reduceSub,Nat.reduceAdd,Nat.reduceMul,putAt,ceq,List.replicate, *]))
  refine mks_j h1 (Int.le_refl _) (by have := (show 1 ≤ S ∧ S ≤ 4 from hS'); omega) (by have := (show 1 ≤ S ∧ S ≤ 4 from hS'); omega) ?_
  (all_goals (try simp only [Sq,Sr,Sh,Si,Sl,Bu,Bb,Bd,Bc,Bw,Bn,Int.reduceAdd,Int.reduceSub,Int.reduceMul,Int.reduceTDiv,Int.reduceTMod,Int.reduceMod,Int.reduceDiv,Nat.reduceLT,Nat.reduceEqDiff,Sa,Sb,Sc,Sd,Se,Sf,Sg,Int.reduceLE,Int.reduceLT,Int.reduceToNat,Int.reduceNeg,Int.reduceEq,Nat.reduceLeDiff,Nat.reducePow,Int.reducePow,reduceIte,Nat.reduceSub,Nat.reduceAdd,Nat.reduceMul,putAt,ceq,List.replicate, *])); repeat' ((first | (with_reducible refine fun _ : True => ?_) | refine cB _ _ (fun b7 n7 c7 G s7 n7' hg7 ho7 hr7 e7 => ?_)  | (with_reducible refine any_h ?_) | ((first | refine AllocQ_i ?_ | refine AllocO_i ?_); intro bk hb0 hbk; (try simp only [set_none'] at hbk); (try (first | have hbn := Grow.none (by assumption) hbk | have hbn := Grow.none (by assumption) hbk.2 | have hbn := Grow.none (by assumption) hbk.2.2 | have hbn := Grow.none (by assumption) hbk.2.2.2 | have hbn := Grow.none (by assumption) hbk.2.2.2.2 | have hbn := Grow.none (by assumption) hbk.2.2.2.2.2)); (try simp only [set_none'] at hbn); (try (first | have hbm := Grow.none (by assumption) hbn | have hbm := Grow.none (by assumption) hbn.2 | have hbm := Grow.none (by assumption) hbn.2.2 | have hbm := Grow.none (by assumption) hbn.2.2.2 | have hbm := Grow.none (by assumption) hbn.2.2.2.2 | have hbm := Grow.none (by assumption) hbn.2.2.2.2.2)); (try simp only [set_none'] at hbm)) | ((first | refine condS_i ?_ ?_ | refine pick_i ?_ ?_ | refine gS_it ?_ ?_ | refine gS_if ?_ ?_ | refine gP_it ?_ ?_ | refine gP_if ?_ ?_) <;> (intro hc; try simp only [Int.reduceLE,Int.reduceLT,Int.reduceEq,Sn] at hc)) | (with_reducible refine KP_i ?_ ?_; · (repeat' (first | exact Heap.Le.refl _ | (with_reducible refine Le_set2 ?_) | (refine Le_known (by first | (simp only [Heap.set_same, set_ne, ne_eq, not_false_eq_true, *] <;> rfl) | fail) ?_) | (refine Le_fresh (by first | (simp only [*] <;> done) | (simp [set_none', Heap.set_same, set_ne, noneH, *] <;> done) | fail) ?_) | (refine Heap.Le.trans ?_ (Grow.le (by assumption))) | exact Le_none | (refine Le_put ?_ (by first | (simp only [Heap.set_same, set_ne, ne_eq, not_false_eq_true, *] <;> rfl) | fail)) | fail))) | (with_reducible refine And.intro ?_ ?_)) <;> (try simp only [Sq,Sr,Sh,Si,Sl,Bu,Bb,Bd,Bc,Bw,Bn,Int.reduceAdd,Int.reduceSub,Int.reduceMul,Int.reduceTDiv,Int.reduceTMod,Int.reduceMod,Int.reduceDiv,Nat.reduceLT,Nat.reduceEqDiff,Sa,Sb,Sc,Sd,Se,Sf,Sg,Int.reduceLE,Int.reduceLT,Int.reduceToNat,Int.reduceNeg,Int.reduceEq,Nat.reduceLeDiff,Nat.reducePow,Int.reducePow,reduceIte,Nat.reduceSub,Nat.reduceAdd,Nat.reduceMul,putAt,ceq,List.replicate, *]))
  obtain ⟨b, rfl⟩ : ∃ b, b = bk := ⟨_, rfl⟩
  have h7 : b7 ≠ b := fun e => by subst e; rw [Heap.set_same] at n7'; cases n7'
  have kb : G b = some ⟨.t 5, zeroL [.int .u8 0] S⟩ := by rw [ho7 b (Ne.symm h7), Heap.set_same]
  have gG : Grow w0 H G := Grow.trans (Grow.set (Grow.refl _) hb0 hbk) hg7
  obtain ⟨ks, ek⟩ : ∃ ks, chs f = ks := ⟨_, rfl⟩
  have hk1 := chs_at f
  have hk2 := chs_all f
  have hk3 := chs_size (f := f) (by have := (show 1 ≤ S ∧ S ≤ 4 from hS'); omega)
  rw [ek] at hk1 hk2 hk3 hr7 e7
  have hz : (digs S 0).map (Value.int .u8) = zeroL [.int .u8 0] S := by
    rcases (show S = 1 ∨ S = 2 ∨ S = 3 ∨ S = 4 by have := (show 1 ≤ S ∧ S ≤ 4 from hS'); omega) with e | e | e | e <;> rw [e] <;> kernel_rfl
  have kb' : G = G.set b ⟨.t 5, (digs S (mP ks (ps.map fun p => num p.l) 0)).map (.int .u8)⟩ := by
    rw [mP, hz]
    exact (Heap.set_id _ _ _ kb).symm
  clear cS cB hg7 ho7 n7' s7 hz hT
  obtain ⟨ns, en⟩ : ∃ ns, ps.map (fun p => num p.l) = ns := ⟨_, rfl⟩
  rw [en] at h' kb'
  refine loopq_name (fun code kont T eMc eK eT => ?_)
  refine loop_a 23 (fun s : Nat × List Value => [(22, .int .i64 (s.1 : Nat)), (6, .int .i64 (atP ks s.1 : Nat)), (8, s.2.getD 0 undef), (9, s.2.getD 1 undef), (10, s.2.getD 2 undef), (11, s.2.getD 3 undef), (12, s.2.getD 4 undef), (13, s.2.getD 5 undef), (14, s.2.getD 6 undef), (15, s.2.getD 7 undef)])
    (fun s F => s.1 ≤ ks.length ∧ F = G.set b ⟨.t 5, (digs S (mP ks ns s.1)).map (.int .u8)⟩) (fun s => ks.length - s.1) (0, []) ⟨Nat.zero_le _, kb'⟩ (by subst eT; rfl) ?_
  clear kb'
  intro ⟨j, ws⟩ F U ⟨hj, eF⟩
  subst eF
  simp only at hj
  rcases Nat.lt_or_ge j ks.length with hltj | hgej
  · obtain ⟨L, eL⟩ : ∃ L, (digs S (mP ks ns j)).map (Value.int .u8) = L := ⟨_, rfl⟩
    rw [eL]
    have gF : Grow w0 H (G.set b ⟨.t 5, L⟩) := gG.set hb0 hbk
    have hnl : ns.length = ps.length := by rw [← en, List.length_map]
    have t5 : (j : Int) < (ks.length : Int) := by omega
    have r1 : rd1 w0 (G.set b ⟨.t 5, L⟩) b7 j = some (.int .i64 (ks.getD j 0 : Nat)) := by
      have := hr7 j hltj
      unfold rd1 at this ⊢
      rw [Heap.set_other _ _ h7]
      exact this
    obtain ⟨k1, k2, k3⟩ := hk1 j hltj
    have m1 := mP_b ks ns (by omega) j hj
    have m2 := chM_b ns (atP ks j) (ks.getD j 0) (by omega)
    have e1 : mP ks ns (j + 1) = mP ks ns j + chM ns (atP ks j) (ks.getD j 0) * 2 ^ (atP ks j) := rfl
    have e2 := atP_succ ks hltj
    have hat : atP ks (j + 1) ≤ 8 * S := by
      have := chs_le (f := f) (by have := (show 1 ≤ S ∧ S ≤ 4 from hS'); omega) (j + 1)
      rw [ek, hs] at this
      exact this hltj
    obtain ⟨k, ek2⟩ : ∃ k, ks.getD j 0 = k := ⟨_, rfl⟩
    obtain ⟨aa, ea⟩ : ∃ aa, atP ks j = aa := ⟨_, rfl⟩
    rw [ek2] at r1 k1 k2 k3 m2 e1 e2
    rw [ea] at k1 m1 m2 e1 e2
    have a1 : aa ≤ 64 := by omega
    have a2 : k ≤ 64 := by omega
    have p1 := p2 k
    have p3 : (2 : Int) ^ k ≤ 256 := by
      rcases (show k = 0 ∨ k = 1 ∨ k = 2 ∨ k = 3 ∨ k = 4 ∨ k = 5 ∨ k = 6 ∨ k = 7 ∨ k = 8 by omega) with rfl | rfl | rfl | rfl | rfl | rfl | rfl | rfl | rfl <;> decide
    have f1 : IntKind.i64.wrap (2 ^ k) = 2 ^ k := Bw.1 _ (by omega) (by omega)
    have f0 : ¬ (2 : Int) ^ k = 0 := by omega
    have d1 : IntKind.i64.wrap ((ps.length : Int).tdiv 2) = ((ps.length / 2 : Nat) : Int) := by rw [Int.tdiv_eq_ediv_of_nonneg (by omega), Bw.1 _ (by omega) (by omega)]; omega
    have sb := fun (i : Nat) (hi : i ≤ ps.length) => sG_b aa k ns k2 (by omega) (s := 0) (by omega) (i := i) (by omega)
    have eM := sG_all aa k ns
    have es : sG aa k ns ((ns.length / 2 : Nat) : Int) ns.length = sG aa k ns 0 ns.length + ((ns.length / 2 : Nat) : Int) := by rw [sG_eq _ _ _ _ _ (Nat.le_refl _), sG_eq _ _ _ _ _ (Nat.le_refl _), Int.zero_add, Int.add_comm]
    rw [es] at eM
    obtain ⟨m, em⟩ : ∃ m, chM ns aa k = m := ⟨_, rfl⟩
    rw [em] at eM m2 e1
    have d2 : IntKind.i64.wrap (sG aa k ns 0 ps.length + ((ps.length / 2 : Nat) : Int)) = sG aa k ns 0 ps.length + ((ps.length / 2 : Nat) : Int) := Bw.1 _ (by have := sb _ (Nat.le_refl _); omega) (by have := sb _ (Nat.le_refl _); omega)
    have d3 : IntKind.i64.wrap ((sG aa k ns 0 ps.length + ((ps.length / 2 : Nat) : Int)).tdiv (ps.length : Int)) = m := by
      rw [← hnl, Int.tdiv_eq_ediv_of_nonneg (by have := sb _ (Nat.le_refl _); rw [hnl]; omega), eM]
      exact Bw.1 _ (by omega) (by omega)
    have d4 : ¬ (ps.length : Int) = 0 := by omega
    have f5 : IntKind.i64.wrap ((aa : Int) + (k : Int)) = ((atP ks (j + 1) : Nat) : Int) := by rw [e2, Bw.1 _ (by omega) (by omega)]; omega
    have f7 : IntKind.i64.wrap ((j : Int) + 1) = ((j + 1 : Nat) : Int) := by rw [Bw.1 _ (by omega) (by omega)]; omega
    have sb' : Keep _ := sb
    have hp' : Keep _ := hp
    have en' : Keep _ := en
    have hnl' : Keep _ := hnl
    have e7' : Keep _ := e7
    clear hr7 hk1 hp en hnl eM es sb em
    subst eMc eK eT
    show run _ _ _ _ _ _ _
    (all_goals (try simp only [Sq,Sr,Sh,Si,Sl,Bu,Bb,Bd,Bc,Bw,Bn,Int.reduceAdd,Int.reduceSub,Int.reduceMul,Int.reduceTDiv,Int.reduceTMod,Int.reduceMod,Int.reduceDiv,Nat.reduceLT,Nat.reduceEqDiff,Sa,Sb,Sc,Sd,Se,Sf,Sg,Int.reduceLE,Int.reduceLT,Int.reduceToNat,Int.reduceNeg,Int.reduceEq,Nat.reduceLeDiff,Nat.reducePow,Int.reducePow,reduceIte,Nat.reduceSub,Nat.reduceAdd,Nat.reduceMul,putAt,ceq,List.replicate, *])); repeat' ((first | (with_reducible refine fun _ : True => ?_) | (with_reducible refine any_h ?_) | ((first | refine AllocQ_i ?_ | refine AllocO_i ?_); intro bk hb0 hbk; (try simp only [set_none'] at hbk); (try (first | have hbn := Grow.none (by assumption) hbk | have hbn := Grow.none (by assumption) hbk.2 | have hbn := Grow.none (by assumption) hbk.2.2 | have hbn := Grow.none (by assumption) hbk.2.2.2 | have hbn := Grow.none (by assumption) hbk.2.2.2.2 | have hbn := Grow.none (by assumption) hbk.2.2.2.2.2)); (try simp only [set_none'] at hbn); (try (first | have hbm := Grow.none (by assumption) hbn | have hbm := Grow.none (by assumption) hbn.2 | have hbm := Grow.none (by assumption) hbn.2.2 | have hbm := Grow.none (by assumption) hbn.2.2.2 | have hbm := Grow.none (by assumption) hbn.2.2.2.2 | have hbm := Grow.none (by assumption) hbn.2.2.2.2.2)); (try simp only [set_none'] at hbm)) | ((first | refine condS_i ?_ ?_ | refine pick_i ?_ ?_ | refine gS_it ?_ ?_ | refine gS_if ?_ ?_ | refine gP_it ?_ ?_ | refine gP_if ?_ ?_) <;> (intro hc; try simp only [Int.reduceLE,Int.reduceLT,Int.reduceEq,Sn] at hc)) | (with_reducible refine KP_i ?_ ?_; · (repeat' (first | exact Heap.Le.refl _ | (with_reducible refine Le_set2 ?_) | (refine Le_known (by first | (simp only [Heap.set_same, set_ne, ne_eq, not_false_eq_true, *] <;> rfl) | fail) ?_) | (refine Le_fresh (by first | (simp only [*] <;> done) | (simp [set_none', Heap.set_same, set_ne, noneH, *] <;> done) | fail) ?_) | (refine Heap.Le.trans ?_ (Grow.le (by assumption))) | exact Le_none | (refine Le_put ?_ (by first | (simp only [Heap.set_same, set_ne, ne_eq, not_false_eq_true, *] <;> rfl) | fail)) | fail))) | (with_reducible refine And.intro ?_ ?_)) <;> (try simp only [Sq,Sr,Sh,Si,Sl,Bu,Bb,Bd,Bc,Bw,Bn,Int.reduceAdd,Int.reduceSub,Int.reduceMul,Int.reduceTDiv,Int.reduceTMod,Int.reduceMod,Int.reduceDiv,Nat.reduceLT,Nat.reduceEqDiff,Sa,Sb,Sc,Sd,Se,Sf,Sg,Int.reduceLE,Int.reduceLT,Int.reduceToNat,Int.reduceNeg,Int.reduceEq,Nat.reduceLeDiff,Nat.reducePow,Int.reducePow,reduceIte,Nat.reduceSub,Nat.reduceAdd,Nat.reduceMul,putAt,ceq,List.replicate, *]))
    refine loopq_nameb (fun code2 kont2 T2 eM2 eK2 eT2 => ?_)
    refine cut_loop (S := List Value × Heap) 26 (fun s => [(9, .int .i64 (sG aa k ns 0 ps.length)), (10, s.1.getD 0 undef), (11, s.1.getD 1 undef), (12, s.1.getD 2 undef), (13, s.1.getD 3 undef)]) (fun s => s.2) (fun s => s.2 = G.set b ⟨.t 5, L⟩) 400 540 (n' := 946) ?_ ?_ (by decide)
    · clear d1 d2 d3 m1 m2 e1 e2 f7 f5 eL
      refine loop_a 29 (fun s : Nat × List Value => [(28, .int .i64 (s.1 : Nat)), (9, .int .i64 (sG aa k ns 0 s.1)), (11, s.2.getD 0 undef), (12, s.2.getD 1 undef), (13, s.2.getD 2 undef)])
        (fun s F => s.1 ≤ ps.length ∧ F = G.set b ⟨.t 5, L⟩) (fun s => ps.length - s.1) (0, [ws.getD 3 undef, ws.getD 4 undef, ws.getD 5 undef]) ⟨Nat.zero_le _, rfl⟩ (by subst eT2; rfl) ?_
      intro ⟨i, us⟩ F U3 ⟨hi, eF⟩
      subst eF
      simp only at hi
      rcases Nat.lt_or_ge i ps.length with hlti | hgei
      · obtain ⟨p, ep⟩ : ∃ p, ps[i]? = some p := ⟨_, List.getElem?_eq_getElem hlti⟩
        have pk := (show ∀ p ∈ ps, PROk w0 H S p from hp') p (List.mem_of_getElem? ep)
        have eni : ns[i]? = some (num p.l) := by rw [← show _ = ns from en', List.getElem?_map, ep]; rfl
        obtain ⟨Ab, o, eA, rA0, -⟩ := (hA.grow gF).read (by rw [List.length_map]; omega)
        replace rA0 := rA0 i (by rw [List.length_map]; omega)
        rw [List.getElem?_map, ep] at rA0
        have rA : rd1 w0 (G.set b ⟨.t 5, L⟩) Ab (o + i) = some (.slice p.a p.l.length p.cap) := rA0
        clear rA0
        have hS := (show 1 ≤ S ∧ S ≤ 4 from hS')
        have pl := pk.len
        obtain ⟨pb, po, epa, rp, -⟩ := ints_get (pk.at_.grow gF) (by omega)
        have g4 : (i : Int) < (ps.length : Int) := by omega
        have g5 : IntKind.i64.wrap ((i : Int) + 1) = ((i + 1 : Nat) : Int) := by rw [Bw.1 _ (by omega) (by omega)]; omega
        have g6 : IntKind.i64.wrap ((p.l.length : Int) - 1) = (p.l.length : Int) - 1 := Bw.1 _ (by omega) (by omega)
        have sb := (show ∀ i, i ≤ ps.length → 0 ≤ sG aa k ns 0 i ∧ sG aa k ns 0 i ≤ 2000 from sb') (i + 1) hlti
        have g2 : sG aa k ns 0 (i + 1) = sG aa k ns 0 i + fld aa k (num p.l) := by rw [sG]; simp [List.getD, eni]
        have g3 : IntKind.i64.wrap (sG aa k ns 0 i + fld aa k (num p.l)) = sG aa k ns 0 (i + 1) := by rw [← g2]; exact Bw.1 _ (by omega) (by omega)
        have hby := pk.by_
        obtain ⟨pa, pcap, l⟩ := p
        simp only at *
        subst epa
        have hnb := num_b l hby
        have g1 : ((num l).fdiv (2 ^ aa)).tmod (2 ^ k) = fld aa k (num l) := by
          have q1 := p2 aa
          rw [Int.fdiv_eq_ediv_of_nonneg _ (by omega), Int.tmod_eq_emod_of_nonneg (Int.ediv_nonneg hnb.1 (by omega))]
          rfl
        have nb4 : ∀ j, 0 ≤ num (l.drop j) ∧ num (l.drop j) < 4294967296 := fun j => by
          have q := num_b (l.drop j) fun x hx => hby x (List.mem_of_mem_drop hx)
          have q2 : (256 : Int) ^ (l.drop j).length ≤ 4294967296 := by
            rw [List.length_drop]
            rcases (show l.length - j = 0 ∨ l.length - j = 1 ∨ l.length - j = 2 ∨ l.length - j = 3 ∨ l.length - j = 4 by omega) with e | e | e | e | e <;> rw [e] <;> decide
          omega
        have nb4' : Keep _ := nb4
        have rp' : Keep _ := rp
        have hby' : Keep _ := hby
        have pl' : Keep _ := pl
        clear sb g2 eni ep pk hnb nb4 rp hby pl hS
        subst eM2 eK2 eT2
        show run _ _ _ _ _ _ _
        (all_goals (try simp only [Sq,Sr,Sh,Si,Sl,Bu,Bb,Bd,Bc,Bw,Bn,Int.reduceAdd,Int.reduceSub,Int.reduceMul,Int.reduceTDiv,Int.reduceTMod,Int.reduceMod,Int.reduceDiv,Nat.reduceLT,Nat.reduceEqDiff,Sa,Sb,Sc,Sd,Se,Sf,Sg,Int.reduceLE,Int.reduceLT,Int.reduceToNat,Int.reduceNeg,Int.reduceEq,Nat.reduceLeDiff,Nat.reducePow,Int.reducePow,reduceIte,Nat.reduceSub,Nat.reduceAdd,Nat.reduceMul,putAt,ceq,List.replicate, *])); repeat' ((first | (with_reducible refine fun _ : True => ?_) | (with_reducible refine any_h ?_) | ((first | refine AllocQ_i ?_ | refine AllocO_i ?_); intro bk hb0 hbk; (try simp only [set_none'] at hbk); (try (first | have hbn := Grow.none (by assumption) hbk | have hbn := Grow.none (by assumption) hbk.2 | have hbn := Grow.none (by assumption) hbk.2.2 | have hbn := Grow.none (by assumption) hbk.2.2.2 | have hbn := Grow.none (by assumption) hbk.2.2.2.2 | have hbn := Grow.none (by assumption) hbk.2.2.2.2.2)); (try simp only [set_none'] at hbn); (try (first | have hbm := Grow.none (by assumption) hbn | have hbm := Grow.none (by assumption) hbn.2 | have hbm := Grow.none (by assumption) hbn.2.2 | have hbm := Grow.none (by assumption) hbn.2.2.2 | have hbm := Grow.none (by assumption) hbn.2.2.2.2 | have hbm := Grow.none (by assumption) hbn.2.2.2.2.2)); (try simp only [set_none'] at hbm)) | ((first | refine condS_i ?_ ?_ | refine pick_i ?_ ?_ | refine gS_it ?_ ?_ | refine gS_if ?_ ?_ | refine gP_it ?_ ?_ | refine gP_if ?_ ?_) <;> (intro hc; try simp only [Int.reduceLE,Int.reduceLT,Int.reduceEq,Sn] at hc)) | (with_reducible refine KP_i ?_ ?_; · (repeat' (first | exact Heap.Le.refl _ | (with_reducible refine Le_set2 ?_) | (refine Le_known (by first | (simp only [Heap.set_same, set_ne, ne_eq, not_false_eq_true, *] <;> rfl) | fail) ?_) | (refine Le_fresh (by first | (simp only [*] <;> done) | (simp [set_none', Heap.set_same, set_ne, noneH, *] <;> done) | fail) ?_) | (refine Heap.Le.trans ?_ (Grow.le (by assumption))) | exact Le_none | (refine Le_put ?_ (by first | (simp only [Heap.set_same, set_ne, ne_eq, not_false_eq_true, *] <;> rfl) | fail)) | fail))) | (with_reducible refine And.intro ?_ ?_)) <;> (try simp only [Sq,Sr,Sh,Si,Sl,Bu,Bb,Bd,Bc,Bw,Bn,Int.reduceAdd,Int.reduceSub,Int.reduceMul,Int.reduceTDiv,Int.reduceTMod,Int.reduceMod,Int.reduceDiv,Nat.reduceLT,Nat.reduceEqDiff,Sa,Sb,Sc,Sd,Se,Sf,Sg,Int.reduceLE,Int.reduceLT,Int.reduceToNat,Int.reduceNeg,Int.reduceEq,Nat.reduceLeDiff,Nat.reducePow,Int.reducePow,reduceIte,Nat.reduceSub,Nat.reduceAdd,Nat.reduceMul,putAt,ceq,List.replicate, *]))
        refine loopq_name (fun code3 kont3 T3 eM3 eK3 eT3 => ?_)
        have hd : num (l.drop l.length) = 0 := by rw [List.drop_length]; rfl
        refine loop_a 35 (fun s : Nat => [(12, .int .i64 (num (l.drop s))), (13, .int .i64 ((s : Int) - 1))])
          (fun s F => s ≤ l.length ∧ F = G.set b ⟨.t 5, L⟩) (fun s => s) l.length ⟨Nat.le_refl _, rfl⟩ (by subst eT3; simp only [hd]; rfl) ?_
        clear hd
        intro q F U4 ⟨hq, eF⟩
        subst eF
        cases q with
        | zero =>
          have c0 : ((0 : Nat) : Int) - 1 = -1 := by decide
          rw [List.drop_zero]
          subst eM3 eK3 eT3
          show run _ _ _ _ _ _ _
          (all_goals (try simp only [Sq,Sr,Sh,Si,Sl,Bu,Bb,Bd,Bc,Bw,Bn,Int.reduceAdd,Int.reduceSub,Int.reduceMul,Int.reduceTDiv,Int.reduceTMod,Int.reduceMod,Int.reduceDiv,Nat.reduceLT,Nat.reduceEqDiff,Sa,Sb,Sc,Sd,Se,Sf,Sg,Int.reduceLE,Int.reduceLT,Int.reduceToNat,Int.reduceNeg,Int.reduceEq,Nat.reduceLeDiff,Nat.reducePow,Int.reducePow,reduceIte,Nat.reduceSub,Nat.reduceAdd,Nat.reduceMul,putAt,ceq,List.replicate, *])); repeat' ((first | (with_reducible refine fun _ : True => ?_) | (with_reducible refine any_h ?_) | ((first | refine AllocQ_i ?_ | refine AllocO_i ?_); intro bk hb0 hbk; (try simp only [set_none'] at hbk); (try (first | have hbn := Grow.none (by assumption) hbk | have hbn := Grow.none (by assumption) hbk.2 | have hbn := Grow.none (by assumption) hbk.2.2 | have hbn := Grow.none (by assumption) hbk.2.2.2 | have hbn := Grow.none (by assumption) hbk.2.2.2.2 | have hbn := Grow.none (by assumption) hbk.2.2.2.2.2)); (try simp only [set_none'] at hbn); (try (first | have hbm := Grow.none (by assumption) hbn | have hbm := Grow.none (by assumption) hbn.2 | have hbm := Grow.none (by assumption) hbn.2.2 | have hbm := Grow.none (by assumption) hbn.2.2.2 | have hbm := Grow.none (by assumption) hbn.2.2.2.2 | have hbm := Grow.none (by assumption) hbn.2.2.2.2.2)); (try simp only [set_none'] at hbm)) | ((first | refine condS_i ?_ ?_ | refine pick_i ?_ ?_ | refine gS_it ?_ ?_ | refine gS_if ?_ ?_ | refine gP_it ?_ ?_ | refine gP_if ?_ ?_) <;> (intro hc; try simp only [Int.reduceLE,Int.reduceLT,Int.reduceEq,Sn] at hc)) | (with_reducible refine KP_i ?_ ?_; · (repeat' (first | exact Heap.Le.refl _ | (with_reducible refine Le_set2 ?_) | (refine Le_known (by first | (simp only [Heap.set_same, set_ne, ne_eq, not_false_eq_true, *] <;> rfl) | fail) ?_) | (refine Le_fresh (by first | (simp only [*] <;> done) | (simp [set_none', Heap.set_same, set_ne, noneH, *] <;> done) | fail) ?_) | (refine Heap.Le.trans ?_ (Grow.le (by assumption))) | exact Le_none | (refine Le_put ?_ (by first | (simp only [Heap.set_same, set_ne, ne_eq, not_false_eq_true, *] <;> rfl) | fail)) | fail))) | (with_reducible refine And.intro ?_ ?_)) <;> (try simp only [Sq,Sr,Sh,Si,Sl,Bu,Bb,Bd,Bc,Bw,Bn,Int.reduceAdd,Int.reduceSub,Int.reduceMul,Int.reduceTDiv,Int.reduceTMod,Int.reduceMod,Int.reduceDiv,Nat.reduceLT,Nat.reduceEqDiff,Sa,Sb,Sc,Sd,Se,Sf,Sg,Int.reduceLE,Int.reduceLT,Int.reduceToNat,Int.reduceNeg,Int.reduceEq,Nat.reduceLeDiff,Nat.reducePow,Int.reducePow,reduceIte,Nat.reduceSub,Nat.reduceAdd,Nat.reduceMul,putAt,ceq,List.replicate, *]))
          exact Round_p (i + 1, [_, _, _]) ⟨hlti, rfl⟩ (by simp only; omega) rfl rfl
        | succ m =>
          have hl4 : l.length ≤ 4 := by
            have := (show l.length = S from pl')
            have := (show 1 ≤ S ∧ S ≤ 4 from hS')
            omega
          obtain ⟨v, ev⟩ : ∃ v, l[m]? = some v := ⟨_, List.getElem?_eq_getElem (by omega)⟩
          have rv := (show ∀ i v, l[i]? = some v → rd1 w0 (G.set b ⟨.t 5, L⟩) pb (po + i) = some (.int .u8 v) from rp') m v ev
          have hv := (show ∀ b ∈ l, 0 ≤ b ∧ b ≤ 255 from hby') v (List.mem_of_getElem? ev)
          have n1 := (show ∀ j, 0 ≤ num (l.drop j) ∧ num (l.drop j) < 4294967296 from nb4') (m + 1)
          have n2 := num_drop ev
          have c0 : ((m + 1 : Nat) : Int) - 1 = (m : Int) := by omega
          have c1 : (m : Int) < (l.length : Int) := by omega
          have c2 : IntKind.i64.wrap (num (l.drop (m + 1)) * 256) = num (l.drop (m + 1)) * 256 := Bw.1 _ (by omega) (by omega)
          have c3 : IntKind.i64.wrap v = v := Bw.1 _ (by omega) (by omega)
          have c4 : IntKind.i64.wrap (num (l.drop (m + 1)) * 256 + v) = num (l.drop m) := by rw [n2, Bw.1 _ (by omega) (by omega)]; omega
          have c5 : IntKind.i64.wrap ((m : Int) - 1) = (m : Int) - 1 := Bw.1 _ (by omega) (by omega)
          clear ev hv n1 n2
          subst eM3 eK3 eT3
          show run _ _ _ _ _ _ _
          (all_goals (try simp only [Sq,Sr,Sh,Si,Sl,Bu,Bb,Bd,Bc,Bw,Bn,Int.reduceAdd,Int.reduceSub,Int.reduceMul,Int.reduceTDiv,Int.reduceTMod,Int.reduceMod,Int.reduceDiv,Nat.reduceLT,Nat.reduceEqDiff,Sa,Sb,Sc,Sd,Se,Sf,Sg,Int.reduceLE,Int.reduceLT,Int.reduceToNat,Int.reduceNeg,Int.reduceEq,Nat.reduceLeDiff,Nat.reducePow,Int.reducePow,reduceIte,Nat.reduceSub,Nat.reduceAdd,Nat.reduceMul,putAt,ceq,List.replicate, *])); repeat' ((first | (with_reducible refine fun _ : True => ?_) | (with_reducible refine any_h ?_) | ((first | refine AllocQ_i ?_ | refine AllocO_i ?_); intro bk hb0 hbk; (try simp only [set_none'] at hbk); (try (first | have hbn := Grow.none (by assumption) hbk | have hbn := Grow.none (by assumption) hbk.2 | have hbn := Grow.none (by assumption) hbk.2.2 | have hbn := Grow.none (by assumption) hbk.2.2.2 | have hbn := Grow.none (by assumption) hbk.2.2.2.2 | have hbn := Grow.none (by assumption) hbk.2.2.2.2.2)); (try simp only [set_none'] at hbn); (try (first | have hbm := Grow.none (by assumption) hbn | have hbm := Grow.none (by assumption) hbn.2 | have hbm := Grow.none (by assumption) hbn.2.2 | have hbm := Grow.none (by assumption) hbn.2.2.2 | have hbm := Grow.none (by assumption) hbn.2.2.2.2 | have hbm := Grow.none (by assumption) hbn.2.2.2.2.2)); (try simp only [set_none'] at hbm)) | ((first | refine condS_i ?_ ?_ | refine pick_i ?_ ?_ | refine gS_it ?_ ?_ | refine gS_if ?_ ?_ | refine gP_it ?_ ?_ | refine gP_if ?_ ?_) <;> (intro hc; try simp only [Int.reduceLE,Int.reduceLT,Int.reduceEq,Sn] at hc)) | (with_reducible refine KP_i ?_ ?_; · (repeat' (first | exact Heap.Le.refl _ | (with_reducible refine Le_set2 ?_) | (refine Le_known (by first | (simp only [Heap.set_same, set_ne, ne_eq, not_false_eq_true, *] <;> rfl) | fail) ?_) | (refine Le_fresh (by first | (simp only [*] <;> done) | (simp [set_none', Heap.set_same, set_ne, noneH, *] <;> done) | fail) ?_) | (refine Heap.Le.trans ?_ (Grow.le (by assumption))) | exact Le_none | (refine Le_put ?_ (by first | (simp only [Heap.set_same, set_ne, ne_eq, not_false_eq_true, *] <;> rfl) | fail)) | fail))) | (with_reducible refine And.intro ?_ ?_)) <;> (try simp only [Sq,Sr,Sh,Si,Sl,Bu,Bb,Bd,Bc,Bw,Bn,Int.reduceAdd,Int.reduceSub,Int.reduceMul,Int.reduceTDiv,Int.reduceTMod,Int.reduceMod,Int.reduceDiv,Nat.reduceLT,Nat.reduceEqDiff,Sa,Sb,Sc,Sd,Se,Sf,Sg,Int.reduceLE,Int.reduceLT,Int.reduceToNat,Int.reduceNeg,Int.reduceEq,Nat.reduceLeDiff,Nat.reducePow,Int.reducePow,reduceIte,Nat.reduceSub,Nat.reduceAdd,Nat.reduceMul,putAt,ceq,List.replicate, *]))
          exact Round_p m ⟨by omega, rfl⟩ (by simp only; omega) rfl rfl
      · have e : i = ps.length := by omega
        subst i
        have g4 : ¬ (ps.length : Int) < (ps.length : Int) := by omega
        subst eM2 eK2 eT2
        show run _ _ _ _ _ _ _
        (all_goals (try simp only [Sq,Sr,Sh,Si,Sl,Bu,Bb,Bd,Bc,Bw,Bn,Int.reduceAdd,Int.reduceSub,Int.reduceMul,Int.reduceTDiv,Int.reduceTMod,Int.reduceMod,Int.reduceDiv,Nat.reduceLT,Nat.reduceEqDiff,Sa,Sb,Sc,Sd,Se,Sf,Sg,Int.reduceLE,Int.reduceLT,Int.reduceToNat,Int.reduceNeg,Int.reduceEq,Nat.reduceLeDiff,Nat.reducePow,Int.reducePow,reduceIte,Nat.reduceSub,Nat.reduceAdd,Nat.reduceMul,putAt,ceq,List.replicate, *])); repeat' ((first | (with_reducible refine fun _ : True => ?_) | (with_reducible refine any_h ?_) | ((first | refine AllocQ_i ?_ | refine AllocO_i ?_); intro bk hb0 hbk; (try simp only [set_none'] at hbk); (try (first | have hbn := Grow.none (by assumption) hbk | have hbn := Grow.none (by assumption) hbk.2 | have hbn := Grow.none (by assumption) hbk.2.2 | have hbn := Grow.none (by assumption) hbk.2.2.2 | have hbn := Grow.none (by assumption) hbk.2.2.2.2 | have hbn := Grow.none (by assumption) hbk.2.2.2.2.2)); (try simp only [set_none'] at hbn); (try (first | have hbm := Grow.none (by assumption) hbn | have hbm := Grow.none (by assumption) hbn.2 | have hbm := Grow.none (by assumption) hbn.2.2 | have hbm := Grow.none (by assumption) hbn.2.2.2 | have hbm := Grow.none (by assumption) hbn.2.2.2.2 | have hbm := Grow.none (by assumption) hbn.2.2.2.2.2)); (try simp only [set_none'] at hbm)) | ((first | refine condS_i ?_ ?_ | refine pick_i ?_ ?_ | refine gS_it ?_ ?_ | refine gS_if ?_ ?_ | refine gP_it ?_ ?_ | refine gP_if ?_ ?_) <;> (intro hc; try simp only [Int.reduceLE,Int.reduceLT,Int.reduceEq,Sn] at hc)) | (with_reducible refine KP_i ?_ ?_; · (repeat' (first | exact Heap.Le.refl _ | (with_reducible refine Le_set2 ?_) | (refine Le_known (by first | (simp only [Heap.set_same, set_ne, ne_eq, not_false_eq_true, *] <;> rfl) | fail) ?_) | (refine Le_fresh (by first | (simp only [*] <;> done) | (simp [set_none', Heap.set_same, set_ne, noneH, *] <;> done) | fail) ?_) | (refine Heap.Le.trans ?_ (Grow.le (by assumption))) | exact Le_none | (refine Le_put ?_ (by first | (simp only [Heap.set_same, set_ne, ne_eq, not_false_eq_true, *] <;> rfl) | fail)) | fail))) | (with_reducible refine And.intro ?_ ?_)) <;> (try simp only [Sq,Sr,Sh,Si,Sl,Bu,Bb,Bd,Bc,Bw,Bn,Int.reduceAdd,Int.reduceSub,Int.reduceMul,Int.reduceTDiv,Int.reduceTMod,Int.reduceMod,Int.reduceDiv,Nat.reduceLT,Nat.reduceEqDiff,Sa,Sb,Sc,Sd,Se,Sf,Sg,Int.reduceLE,Int.reduceLT,Int.reduceToNat,Int.reduceNeg,Int.reduceEq,Nat.reduceLeDiff,Nat.reducePow,Int.reducePow,reduceIte,Nat.reduceSub,Nat.reduceAdd,Nat.reduceMul,putAt,ceq,List.replicate, *]))
        exact Meet_p [_, _, _, _] rfl rfl rfl
    · intro ⟨us, F⟩ U3 eF
      simp only at eF
      subst eF
      subst eM2 eK2 eT2
      show run _ _ _ _ _ _ _
      (all_goals (try simp only [Sq,Sr,Sh,Si,Sl,Bu,Bb,Bd,Bc,Bw,Bn,Int.reduceAdd,Int.reduceSub,Int.reduceMul,Int.reduceTDiv,Int.reduceTMod,Int.reduceMod,Int.reduceDiv,Nat.reduceLT,Nat.reduceEqDiff,Sa,Sb,Sc,Sd,Se,Sf,Sg,Int.reduceLE,Int.reduceLT,Int.reduceToNat,Int.reduceNeg,Int.reduceEq,Nat.reduceLeDiff,Nat.reducePow,Int.reducePow,reduceIte,Nat.reduceSub,Nat.reduceAdd,Nat.reduceMul,putAt,ceq,List.replicate, *])); repeat' ((first | (with_reducible refine fun _ : True => ?_) | (with_reducible refine any_h ?_) | ((first | refine AllocQ_i ?_ | refine AllocO_i ?_); intro bk hb0 hbk; (try simp only [set_none'] at hbk); (try (first | have hbn := Grow.none (by assumption) hbk | have hbn := Grow.none (by assumption) hbk.2 | have hbn := Grow.none (by assumption) hbk.2.2 | have hbn := Grow.none (by assumption) hbk.2.2.2 | have hbn := Grow.none (by assumption) hbk.2.2.2.2 | have hbn := Grow.none (by assumption) hbk.2.2.2.2.2)); (try simp only [set_none'] at hbn); (try (first | have hbm := Grow.none (by assumption) hbn | have hbm := Grow.none (by assumption) hbn.2 | have hbm := Grow.none (by assumption) hbn.2.2 | have hbm := Grow.none (by assumption) hbn.2.2.2 | have hbm := Grow.none (by assumption) hbn.2.2.2.2 | have hbm := Grow.none (by assumption) hbn.2.2.2.2.2)); (try simp only [set_none'] at hbm)) | ((first | refine condS_i ?_ ?_ | refine pick_i ?_ ?_ | refine gS_it ?_ ?_ | refine gS_if ?_ ?_ | refine gP_it ?_ ?_ | refine gP_if ?_ ?_) <;> (intro hc; try simp only [Int.reduceLE,Int.reduceLT,Int.reduceEq,Sn] at hc)) | (with_reducible refine KP_i ?_ ?_; · (repeat' (first | exact Heap.Le.refl _ | (with_reducible refine Le_set2 ?_) | (refine Le_known (by first | (simp only [Heap.set_same, set_ne, ne_eq, not_false_eq_true, *] <;> rfl) | fail) ?_) | (refine Le_fresh (by first | (simp only [*] <;> done) | (simp [set_none', Heap.set_same, set_ne, noneH, *] <;> done) | fail) ?_) | (refine Heap.Le.trans ?_ (Grow.le (by assumption))) | exact Le_none | (refine Le_put ?_ (by first | (simp only [Heap.set_same, set_ne, ne_eq, not_false_eq_true, *] <;> rfl) | fail)) | fail))) | (with_reducible refine And.intro ?_ ?_)) <;> (try simp only [Sq,Sr,Sh,Si,Sl,Bu,Bb,Bd,Bc,Bw,Bn,Int.reduceAdd,Int.reduceSub,Int.reduceMul,Int.reduceTDiv,Int.reduceTMod,Int.reduceMod,Int.reduceDiv,Nat.reduceLT,Nat.reduceEqDiff,Sa,Sb,Sc,Sd,Se,Sf,Sg,Int.reduceLE,Int.reduceLT,Int.reduceToNat,Int.reduceNeg,Int.reduceEq,Nat.reduceLeDiff,Nat.reducePow,Int.reducePow,reduceIte,Nat.reduceSub,Nat.reduceAdd,Nat.reduceMul,putAt,ceq,List.replicate, *]))
      refine loopq_name (fun code3 kont3 T3 eM3 eK3 eT3 => ?_)
      refine loop_a 66 (fun s : Nat × List Value => [(15, s.2.getD 0 undef), (65, .int .i64 (s.1 : Nat))])
        (fun s F => s.1 ≤ k ∧ F = G.set b ⟨.t 5, (digs S (mP ks ns j + m % 2 ^ s.1 * 2 ^ aa)).map (.int .u8)⟩) (fun s => k - s.1) (0, [ws.getD 7 undef]) ⟨Nat.zero_le _, by rw [← eL, Int.pow_zero, Int.emod_one, Int.zero_mul, Int.add_zero]⟩ (by subst eT3; rfl) ?_
      intro ⟨i, zs⟩ F U4 ⟨hi, eF⟩
      subst eF
      simp only at hi
      rcases Nat.lt_or_ge i k with hlti | hgei
      · obtain ⟨vv, evv⟩ : ∃ vv, mP ks ns j + m % 2 ^ i * 2 ^ aa = vv := ⟨_, rfl⟩
        have vb := bit_b (m := m) (i := i) m1
        have vn := bit_add (M := mP ks ns j) (m := m) (aa := aa) (i := i)
        rw [evv] at vb vn ⊢
        have hS := (show 1 ≤ S ∧ S ≤ 4 from hS')
        obtain ⟨pp, epp⟩ : ∃ pp, aa + i = pp := ⟨_, rfl⟩
        rw [epp] at vb vn
        have hpp : pp < 8 * S := by omega
        obtain ⟨d, hd1, hd2, hd3, hd4⟩ := digs_bit S pp vv vb.1 vb.2 (by omega)
        obtain ⟨Lv, eLv⟩ : ∃ Lv, (digs S vv).map (Value.int .u8) = Lv := ⟨_, rfl⟩
        have hLv : Lv[pp / 8]? = some (.int .u8 d) := by rw [← eLv, List.getElem?_map, hd1]; rfl
        have eLs : Lv.set (pp / 8) (.int .u8 (d + 2 ^ (pp % 8))) = (digs S (vv + 2 ^ pp)).map (Value.int .u8) := by rw [hd4, ← eLv, List.map_set]
        have hLl : pp / 8 < Lv.length := (List.getElem?_eq_some_iff.1 hLv).1
        rw [eLv]
        have c1 : (i : Int) < (k : Int) := by omega
        have c2 : i ≤ 64 := by omega
        have c3 : IntKind.i64.wrap ((i : Int) + 1) = ((i + 1 : Nat) : Int) := by rw [Bw.1 _ (by omega) (by omega)]; omega
        have hm0 : 0 ≤ m := m2.1
        have pi := p2 i
        have em : (m.fdiv (2 ^ i)).tmod 2 = m / 2 ^ i % 2 := by rw [Int.fdiv_eq_ediv_of_nonneg _ (by omega), Int.tmod_eq_emod_of_nonneg (Int.ediv_nonneg hm0 (by omega))]
        rcases (show m / 2 ^ i % 2 = 1 ∨ m / 2 ^ i % 2 = 0 by omega) with hb1 | hb1
        · rw [hb1] at em vn
          rw [Int.one_mul] at vn
          have c4 : IntKind.i64.wrap ((aa : Int) + (i : Int)) = (pp : Int) := by rw [Bw.1 _ (by omega) (by omega)]; omega
          have c5 : IntKind.i64.wrap ((pp : Int).tdiv 8) = ((pp / 8 : Nat) : Int) := by rw [Int.tdiv_eq_ediv_of_nonneg (by omega), Bw.1 _ (by omega) (by omega)]; omega
          have c6 : (pp : Int).tmod 8 = ((pp % 8 : Nat) : Int) := by rw [Int.tmod_eq_emod_of_nonneg (by omega)]; omega
          have c7 : ((pp / 8 : Nat) : Int) < (S : Int) := by omega
          have c8 : pp % 8 ≤ 8 := by omega
          have p8 : (0 : Int) < 2 ^ (pp % 8) := p2 _
          have c9 : IntKind.u8.wrap (2 ^ (pp % 8)) = 2 ^ (pp % 8) := by simp only [IntKind.wrap, IntKind.signed, IntKind.bits]; simp; omega
          have c10 : IntKind.u8.wrap (d + 2 ^ (pp % 8)) = d + 2 ^ (pp % 8) := by simp only [IntKind.wrap, IntKind.signed, IntKind.bits]; simp; omega
          clear vb hd1 hd2 hd3 hd4 evv hm0 pi hb1 epp hpp hS p8 eLv m1 m2 e1 e2 eL d1 d2 d3 d4
          replace vn : Keep _ := vn
          replace eLs : Keep _ := eLs
          subst eM3 eK3 eT3
          show run _ _ _ _ _ _ _
          (all_goals (try simp only [Sq,Sr,Sh,Si,Sl,Bu,Bb,Bd,Bc,Bw,Bn,Int.reduceAdd,Int.reduceSub,Int.reduceMul,Int.reduceTDiv,Int.reduceTMod,Int.reduceMod,Int.reduceDiv,Nat.reduceLT,Nat.reduceEqDiff,Sa,Sb,Sc,Sd,Se,Sf,Sg,Int.reduceLE,Int.reduceLT,Int.reduceToNat,Int.reduceNeg,Int.reduceEq,Nat.reduceLeDiff,Nat.reducePow,Int.reducePow,reduceIte,Nat.reduceSub,Nat.reduceAdd,Nat.reduceMul,putAt,ceq,List.replicate, *])); repeat' ((first | (with_reducible refine fun _ : True => ?_) | (with_reducible refine any_h ?_) | ((first | refine AllocQ_i ?_ | refine AllocO_i ?_); intro bk hb0 hbk; (try simp only [set_none'] at hbk); (try (first | have hbn := Grow.none (by assumption) hbk | have hbn := Grow.none (by assumption) hbk.2 | have hbn := Grow.none (by assumption) hbk.2.2 | have hbn := Grow.none (by assumption) hbk.2.2.2 | have hbn := Grow.none (by assumption) hbk.2.2.2.2 | have hbn := Grow.none (by assumption) hbk.2.2.2.2.2)); (try simp only [set_none'] at hbn); (try (first | have hbm := Grow.none (by assumption) hbn | have hbm := Grow.none (by assumption) hbn.2 | have hbm := Grow.none (by assumption) hbn.2.2 | have hbm := Grow.none (by assumption) hbn.2.2.2 | have hbm := Grow.none (by assumption) hbn.2.2.2.2 | have hbm := Grow.none (by assumption) hbn.2.2.2.2.2)); (try simp only [set_none'] at hbm)) | ((first | refine condS_i ?_ ?_ | refine pick_i ?_ ?_ | refine gS_it ?_ ?_ | refine gS_if ?_ ?_ | refine gP_it ?_ ?_ | refine gP_if ?_ ?_) <;> (intro hc; try simp only [Int.reduceLE,Int.reduceLT,Int.reduceEq,Sn] at hc)) | (with_reducible refine KP_i ?_ ?_; · (repeat' (first | exact Heap.Le.refl _ | (with_reducible refine Le_set2 ?_) | (refine Le_known (by first | (simp only [Heap.set_same, set_ne, ne_eq, not_false_eq_true, *] <;> rfl) | fail) ?_) | (refine Le_fresh (by first | (simp only [*] <;> done) | (simp [set_none', Heap.set_same, set_ne, noneH, *] <;> done) | fail) ?_) | (refine Heap.Le.trans ?_ (Grow.le (by assumption))) | exact Le_none | (refine Le_put ?_ (by first | (simp only [Heap.set_same, set_ne, ne_eq, not_false_eq_true, *] <;> rfl) | fail)) | fail))) | (with_reducible refine And.intro ?_ ?_)) <;> (try simp only [Sq,Sr,Sh,Si,Sl,Bu,Bb,Bd,Bc,Bw,Bn,Int.reduceAdd,Int.reduceSub,Int.reduceMul,Int.reduceTDiv,Int.reduceTMod,Int.reduceMod,Int.reduceDiv,Nat.reduceLT,Nat.reduceEqDiff,Sa,Sb,Sc,Sd,Se,Sf,Sg,Int.reduceLE,Int.reduceLT,Int.reduceToNat,Int.reduceNeg,Int.reduceEq,Nat.reduceLeDiff,Nat.reducePow,Int.reducePow,reduceIte,Nat.reduceSub,Nat.reduceAdd,Nat.reduceMul,putAt,ceq,List.replicate, *]))
          refine Round_p (i + 1, [_]) ⟨hlti, ?_⟩ (by simp only; omega) rfl rfl
          rw [show List.set _ _ _ = _ from eLs]
          simp only
          rw [show _ = _ from vn]
        · rw [hb1] at em vn
          rw [Int.zero_mul, Int.add_zero] at vn
          have c4 : ¬ (m.fdiv (2 ^ i)).tmod 2 = 1 := by rw [em]; decide
          clear vb hd1 hd2 hd3 hd4 hm0 pi hb1 epp hpp hS m1 m2 e1 e2 eL d1 d2 d3 d4 em
          replace vn : Keep _ := vn
          replace eLv : Keep _ := eLv
          replace evv : Keep _ := evv
          subst eM3 eK3 eT3
          show run _ _ _ _ _ _ _
          (all_goals (try simp only [Sq,Sr,Sh,Si,Sl,Bu,Bb,Bd,Bc,Bw,Bn,Int.reduceAdd,Int.reduceSub,Int.reduceMul,Int.reduceTDiv,Int.reduceTMod,Int.reduceMod,Int.reduceDiv,Nat.reduceLT,Nat.reduceEqDiff,Sa,Sb,Sc,Sd,Se,Sf,Sg,Int.reduceLE,Int.reduceLT,Int.reduceToNat,Int.reduceNeg,Int.reduceEq,Nat.reduceLeDiff,Nat.reducePow,Int.reducePow,reduceIte,Nat.reduceSub,Nat.reduceAdd,Nat.reduceMul,putAt,ceq,List.replicate, *])); repeat' ((first | (with_reducible refine fun _ : True => ?_) | (with_reducible refine any_h ?_) | ((first | refine AllocQ_i ?_ | refine AllocO_i ?_); intro bk hb0 hbk; (try simp only [set_none'] at hbk); (try (first | have hbn := Grow.none (by assumption) hbk | have hbn := Grow.none (by assumption) hbk.2 | have hbn := Grow.none (by assumption) hbk.2.2 | have hbn := Grow.none (by assumption) hbk.2.2.2 | have hbn := Grow.none (by assumption) hbk.2.2.2.2 | have hbn := Grow.none (by assumption) hbk.2.2.2.2.2)); (try simp only [set_none'] at hbn); (try (first | have hbm := Grow.none (by assumption) hbn | have hbm := Grow.none (by assumption) hbn.2 | have hbm := Grow.none (by assumption) hbn.2.2 | have hbm := Grow.none (by assumption) hbn.2.2.2 | have hbm := Grow.none (by assumption) hbn.2.2.2.2 | have hbm := Grow.none (by assumption) hbn.2.2.2.2.2)); (try simp only [set_none'] at hbm)) | ((first | refine condS_i ?_ ?_ | refine pick_i ?_ ?_ | refine gS_it ?_ ?_ | refine gS_if ?_ ?_ | refine gP_it ?_ ?_ | refine gP_if ?_ ?_) <;> (intro hc; try simp only [Int.reduceLE,Int.reduceLT,Int.reduceEq,Sn] at hc)) | (with_reducible refine KP_i ?_ ?_; · (repeat' (first | exact Heap.Le.refl _ | (with_reducible refine Le_set2 ?_) | (refine Le_known (by first | (simp only [Heap.set_same, set_ne, ne_eq, not_false_eq_true, *] <;> rfl) | fail) ?_) | (refine Le_fresh (by first | (simp only [*] <;> done) | (simp [set_none', Heap.set_same, set_ne, noneH, *] <;> done) | fail) ?_) | (refine Heap.Le.trans ?_ (Grow.le (by assumption))) | exact Le_none | (refine Le_put ?_ (by first | (simp only [Heap.set_same, set_ne, ne_eq, not_false_eq_true, *] <;> rfl) | fail)) | fail))) | (with_reducible refine And.intro ?_ ?_)) <;> (try simp only [Sq,Sr,Sh,Si,Sl,Bu,Bb,Bd,Bc,Bw,Bn,Int.reduceAdd,Int.reduceSub,Int.reduceMul,Int.reduceTDiv,Int.reduceTMod,Int.reduceMod,Int.reduceDiv,Nat.reduceLT,Nat.reduceEqDiff,Sa,Sb,Sc,Sd,Se,Sf,Sg,Int.reduceLE,Int.reduceLT,Int.reduceToNat,Int.reduceNeg,Int.reduceEq,Nat.reduceLeDiff,Nat.reducePow,Int.reducePow,reduceIte,Nat.reduceSub,Nat.reduceAdd,Nat.reduceMul,putAt,ceq,List.replicate, *]))
          have heq : G.set b ⟨.t 5, Lv⟩ = G.set b ⟨.t 5, (digs S (mP ks ns j + m % 2 ^ (i + 1) * 2 ^ aa)).map (.int .u8)⟩ := by rw [← show _ = _ from eLv, show _ = _ from vn]
          exact Round_p (i + 1, [_]) ⟨hlti, heq⟩ (by simp only; omega) rfl rfl
      · have e : i = k := by omega
        subst i
        have g4 : ¬ (k : Int) < (k : Int) := by omega
        have hm : m % 2 ^ k = m := Int.emod_eq_of_lt m2.1 m2.2
        rw [hm, ← e1]
        clear m1 m2 e1 e2 eL d1 d2 d3 d4 hm
        subst eM3 eK3 eT3
        show run _ _ _ _ _ _ _
        (all_goals (try simp only [Sq,Sr,Sh,Si,Sl,Bu,Bb,Bd,Bc,Bw,Bn,Int.reduceAdd,Int.reduceSub,Int.reduceMul,Int.reduceTDiv,Int.reduceTMod,Int.reduceMod,Int.reduceDiv,Nat.reduceLT,Nat.reduceEqDiff,Sa,Sb,Sc,Sd,Se,Sf,Sg,Int.reduceLE,Int.reduceLT,Int.reduceToNat,Int.reduceNeg,Int.reduceEq,Nat.reduceLeDiff,Nat.reducePow,Int.reducePow,reduceIte,Nat.reduceSub,Nat.reduceAdd,Nat.reduceMul,putAt,ceq,List.replicate, *])); repeat' ((first | (with_reducible refine fun _ : True => ?_) | (with_reducible refine any_h ?_) | ((first | refine AllocQ_i ?_ | refine AllocO_i ?_); intro bk hb0 hbk; (try simp only [set_none'] at hbk); (try (first | have hbn := Grow.none (by assumption) hbk | have hbn := Grow.none (by assumption) hbk.2 | have hbn := Grow.none (by assumption) hbk.2.2 | have hbn := Grow.none (by assumption) hbk.2.2.2 | have hbn := Grow.none (by assumption) hbk.2.2.2.2 | have hbn := Grow.none (by assumption) hbk.2.2.2.2.2)); (try simp only [set_none'] at hbn); (try (first | have hbm := Grow.none (by assumption) hbn | have hbm := Grow.none (by assumption) hbn.2 | have hbm := Grow.none (by assumption) hbn.2.2 | have hbm := Grow.none (by assumption) hbn.2.2.2 | have hbm := Grow.none (by assumption) hbn.2.2.2.2 | have hbm := Grow.none (by assumption) hbn.2.2.2.2.2)); (try simp only [set_none'] at hbm)) | ((first | refine condS_i ?_ ?_ | refine pick_i ?_ ?_ | refine gS_it ?_ ?_ | refine gS_if ?_ ?_ | refine gP_it ?_ ?_ | refine gP_if ?_ ?_) <;> (intro hc; try simp only [Int.reduceLE,Int.reduceLT,Int.reduceEq,Sn] at hc)) | (with_reducible refine KP_i ?_ ?_; · (repeat' (first | exact Heap.Le.refl _ | (with_reducible refine Le_set2 ?_) | (refine Le_known (by first | (simp only [Heap.set_same, set_ne, ne_eq, not_false_eq_true, *] <;> rfl) | fail) ?_) | (refine Le_fresh (by first | (simp only [*] <;> done) | (simp [set_none', Heap.set_same, set_ne, noneH, *] <;> done) | fail) ?_) | (refine Heap.Le.trans ?_ (Grow.le (by assumption))) | exact Le_none | (refine Le_put ?_ (by first | (simp only [Heap.set_same, set_ne, ne_eq, not_false_eq_true, *] <;> rfl) | fail)) | fail))) | (with_reducible refine And.intro ?_ ?_)) <;> (try simp only [Sq,Sr,Sh,Si,Sl,Bu,Bb,Bd,Bc,Bw,Bn,Int.reduceAdd,Int.reduceSub,Int.reduceMul,Int.reduceTDiv,Int.reduceTMod,Int.reduceMod,Int.reduceDiv,Nat.reduceLT,Nat.reduceEqDiff,Sa,Sb,Sc,Sd,Se,Sf,Sg,Int.reduceLE,Int.reduceLT,Int.reduceToNat,Int.reduceNeg,Int.reduceEq,Nat.reduceLeDiff,Nat.reducePow,Int.reducePow,reduceIte,Nat.reduceSub,Nat.reduceAdd,Nat.reduceMul,putAt,ceq,List.replicate, *]))
        exact Round_k 8 8 (fun us => (j + 1, us)) ⟨hltj, rfl⟩ (by simp only; omega) rfl rfl
  · have e : j = ks.length := by omega
    subst j
    have t5 : ¬ (ks.length : Int) < (ks.length : Int) := by omega
    have fin := (show ∀ b G, _ → _ → _ → _ → _ from h') b (G.set b ⟨.t 5, (digs S (mP ks ns ks.length)).map (.int .u8)⟩) hb0 hbk (by
      rw [Heap.set_same]
      unfold meanB
      rw [ek, hs]; rfl) (gG.set hb0 hbk)
    clear h' hk1 hk2 hk3 hr7 en hA hp
    subst eMc eK eT
    show run _ _ _ _ _ _ _
    (all_goals (try simp only [Sq,Sr,Sh,Si,Sl,Bu,Bb,Bd,Bc,Bw,Bn,Int.reduceAdd,Int.reduceSub,Int.reduceMul,Int.reduceTDiv,Int.reduceTMod,Int.reduceMod,Int.reduceDiv,Nat.reduceLT,Nat.reduceEqDiff,Sa,Sb,Sc,Sd,Se,Sf,Sg,Int.reduceLE,Int.reduceLT,Int.reduceToNat,Int.reduceNeg,Int.reduceEq,Nat.reduceLeDiff,Nat.reducePow,Int.reducePow,reduceIte,Nat.reduceSub,Nat.reduceAdd,Nat.reduceMul,putAt,ceq,List.replicate, *])); repeat' ((first | (with_reducible refine fun _ : True => ?_) | (with_reducible refine any_h ?_) | ((first | refine AllocQ_i ?_ | refine AllocO_i ?_); intro bk hb0 hbk; (try simp only [set_none'] at hbk); (try (first | have hbn := Grow.none (by assumption) hbk | have hbn := Grow.none (by assumption) hbk.2 | have hbn := Grow.none (by assumption) hbk.2.2 | have hbn := Grow.none (by assumption) hbk.2.2.2 | have hbn := Grow.none (by assumption) hbk.2.2.2.2 | have hbn := Grow.none (by assumption) hbk.2.2.2.2.2)); (try simp only [set_none'] at hbn); (try (first | have hbm := Grow.none (by assumption) hbn | have hbm := Grow.none (by assumption) hbn.2 | have hbm := Grow.none (by assumption) hbn.2.2 | have hbm := Grow.none (by assumption) hbn.2.2.2 | have hbm := Grow.none (by assumption) hbn.2.2.2.2 | have hbm := Grow.none (by assumption) hbn.2.2.2.2.2)); (try simp only [set_none'] at hbm)) | ((first | refine condS_i ?_ ?_ | refine pick_i ?_ ?_ | refine gS_it ?_ ?_ | refine gS_if ?_ ?_ | refine gP_it ?_ ?_ | refine gP_if ?_ ?_) <;> (intro hc; try simp only [Int.reduceLE,Int.reduceLT,Int.reduceEq,Sn] at hc)) | (with_reducible refine KP_i ?_ ?_; · (repeat' (first | exact Heap.Le.refl _ | (with_reducible refine Le_set2 ?_) | (refine Le_known (by first | (simp only [Heap.set_same, set_ne, ne_eq, not_false_eq_true, *] <;> rfl) | fail) ?_) | (refine Le_fresh (by first | (simp only [*] <;> done) | (simp [set_none', Heap.set_same, set_ne, noneH, *] <;> done) | fail) ?_) | (refine Heap.Le.trans ?_ (Grow.le (by assumption))) | exact Le_none | (refine Le_put ?_ (by first | (simp only [Heap.set_same, set_ne, ne_eq, not_false_eq_true, *] <;> rfl) | fail)) | fail))) | (with_reducible refine And.intro ?_ ?_)) <;> (try simp only [Sq,Sr,Sh,Si,Sl,Bu,Bb,Bd,Bc,Bw,Bn,Int.reduceAdd,Int.reduceSub,Int.reduceMul,Int.reduceTDiv,Int.reduceTMod,Int.reduceMod,Int.reduceDiv,Nat.reduceLT,Nat.reduceEqDiff,Sa,Sb,Sc,Sd,Se,Sf,Sg,Int.reduceLE,Int.reduceLT,Int.reduceToNat,Int.reduceNeg,Int.reduceEq,Nat.reduceLeDiff,Nat.reducePow,Int.reducePow,reduceIte,Nat.reduceSub,Nat.reduceAdd,Nat.reduceMul,putAt,ceq,List.replicate, *]))
    exact Fin_mk (Heap.Le.refl _) fin
end Go.Proofs.Ytdaipgnhconfnaa
