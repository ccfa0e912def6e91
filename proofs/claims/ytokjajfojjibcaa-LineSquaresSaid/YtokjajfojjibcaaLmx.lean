/- The statement LineSquares, as a call (layer 23). -/
import Derived.Test.YtokjajfojjibcaaLmz
import Derived.Test.YtokjajfojjibcaaLmy
import Derived.Test.YtokjajfojjibcaaLnk
set_option linter.unusedSimpArgs false
set_option linter.unusedVariables false
set_option maxRecDepth 100000
set_option maxHeartbeats 4000000
namespace Go.Proofs.Ytokjajfojjibcaa
open Go Go.HL Go.RowKit Go.ChangeShapes Go.WideShapes Pb
variable {w0 : World} {H G : Heap} {K : Value → Heap → Prop}

theorem kps {p : Prop} (h : Keep p) : p := h
theorem wf_i64 {x : Int} (h : 0 ≤ x ∧ x < 64) : (Lit.int .i64 x).wf = true := by
  simp [Lit.wf, IntKind.min, IntKind.max, IntKind.signed, IntKind.bits]; omega
theorem seenB_nil : seenB [] = ⟨.o (.map #[] 0), []⟩ := by simp [seenB, seenL]
theorem ne_new {x c : Nat} {y : Blk} (h : H x = some y) (hc : H c = none) : x ≠ c := fun e => by rw [e] at h; rw [h] at hc; cases hc
def sqW (X Y S : Int) : WnR := ⟨⟨X, Y, 0, 65536, S, []⟩, none, 0⟩
theorem c_sq {X Y S : Int} {N : Nat} (hN : 1 ≤ N ∧ N ≤ 20) (hS : S = (N : Int) * 65536) (hX : 128 * (N : Int) ≤ X ∧ X < 16384 - 128 * (N : Int)) (hY : 128 * (N : Int) ≤ Y ∧ Y < 16384 - 128 * (N : Int))
    (h : ∀ a' cap' (os : List FrR) H', os.length = N * N → (os.map fun o => o.toFr.key).Nodup → (∀ o ∈ os, (0 ≤ o.y ∧ o.y < 64) ∧ (0 ≤ o.x ∧ o.x < 64) ∧ (0 ≤ o.p 0 ∧ o.p 0 < 65536) ∧ 0 ≤ o.p 1 ∧ o.p 1 < 65536) → RO fragT w0 H' a' cap' os → Grow w0 H H' → K (.tuple #[.slice a' os.length cap', .int .i64 0]) H') :
    HCalls Try.prog w0 14 [.agg #[.int .i64 X, .int .i64 Y, .int .i32 0, .int .i32 65536, .int .i32 S, .slice none 0 0]] H K := by
  have hW : WnOk w0 H (sqW X Y S) := ⟨⟨SlAt.nil, Nat.le_refl _, by show 0 ≤ maxLen; unfold maxLen; omega, by show 0 * 16 ≤ _; omega, fun y hy => by cases hy⟩, by show I64 X; unfold I64; omega, by show I64 Y; unfold I64; omega, by show I32 0; unfold I32; omega, by show I32 65536; unfold I32; omega, by show I32 S; unfold I32; omega⟩
  have hR : (sqW X Y S).right := ⟨by show 0 ≤ X ∧ X ≤ 16384; omega, by show 0 ≤ Y ∧ Y ≤ 16384; omega, by show (0 : Int) < 65536; omega, by show 0 ≤ 4; omega⟩
  obtain ⟨q1, q2, q3⟩ := square_law (sqW X Y S).toWn N hN hS hX hY
  exact c_Point_yes (sqW X Y S) hW hR (fun a' cap' os H' e hO hg => h a' cap' os H' (by rw [← List.length_map (f := FrR.toFr), e]; exact q1) (by rw [show (os.map fun o => o.toFr.key) = (os.map FrR.toFr).map Fr.key by rw [List.map_map]; rfl, e]; exact q2) (fun o ho => q3 o.toFr (by rw [← e]; exact List.mem_map_of_mem ho)) hO hg)
/- paintbox/paintboxlaw23 LineSquares -/
def M8 : MC :=
  .seq (.reg [⟨(some 6), .mv (.const (.bool false)), none⟩])
 (.seq (.seq (.reg [⟨(some 13), .call 9 [], none⟩,
 ⟨(some 14), .un .not (.tmp 13), none⟩])
 (.cond (.tmp 14)
 (.seq (.reg [⟨(some 6), .mv (.const (.bool false)), none⟩])
 (.ret))
 (.skip)))
 (.seq (.reg [⟨(some 15), .mv (.tmp 2), none⟩,
 ⟨(some 16), .mx (.tmp 15) (.const (.int .i64 0)), none⟩,
 ⟨(some 17), .bin .rem (.tmp 16) (.const (.int .i64 20)), none⟩,
 ⟨(some 18), .bin .add (.const (.int .i64 1)) (.tmp 17), none⟩,
 ⟨(some 2), .mv (.tmp 18), none⟩])
 (.seq (.any [(true, 0, [], ⟨(some 19), .mv (.tmp 2), none⟩),
 (true, 1, [], ⟨(some 20), .bin .mul (.const (.int .i64 128)) (.tmp 19), none⟩),
 (true, 2, [], ⟨(some 21), .mv (.tmp 0), none⟩),
 (true, 3, [], ⟨(some 22), .mx (.tmp 21) (.const (.int .i64 0)), none⟩),
 (true, 4, [], ⟨(some 23), .mv (.tmp 2), none⟩),
 (true, 5, [], ⟨(some 24), .bin .mul (.const (.int .i64 256)) (.tmp 23), none⟩),
 (true, 6, [], ⟨(some 25), .bin .sub (.const (.int .i64 16384)) (.tmp 24), none⟩),
 (true, 7, [], ⟨(some 26), .bin .rem (.tmp 22) (.tmp 25), none⟩),
 (true, 8, [], ⟨(some 27), .bin .add (.tmp 20) (.tmp 26), none⟩),
 (true, 9, [], ⟨(some 28), .mv (.tmp 2), none⟩),
 (true, 10, [], ⟨(some 29), .bin .mul (.const (.int .i64 128)) (.tmp 28), none⟩),
 (true, 11, [], ⟨(some 30), .mv (.tmp 1), none⟩),
 (true, 12, [], ⟨(some 31), .mx (.tmp 30) (.const (.int .i64 0)), none⟩),
 (true, 13, [], ⟨(some 32), .mv (.tmp 2), none⟩),
 (true, 14, [], ⟨(some 33), .bin .mul (.const (.int .i64 256)) (.tmp 32), none⟩),
 (true, 15, [], ⟨(some 34), .bin .sub (.const (.int .i64 16384)) (.tmp 33), none⟩),
 (true, 16, [], ⟨(some 35), .bin .rem (.tmp 31) (.tmp 34), none⟩),
 (true, 17, [], ⟨(some 36), .bin .add (.tmp 29) (.tmp 35), none⟩),
 (true, 18, [], ⟨(some 37), .mv (.tmp 2), none⟩),
 (true, 19, [], ⟨(some 38), .conv .i32 (.tmp 37), none⟩),
 (true, 20, [], ⟨(some 39), .bin .mul (.tmp 38) (.const (.int .i32 65536)), none⟩),
 (true, 21, [], ⟨(some 40), .build [(.int .i64 0), (.int .i64 0), (.int .i32 0), (.int .i32 0), (.int .i32 0), (.slice none 0 0)] [(0, 1, (.tmp 27)), (1, 1, (.tmp 36)), (3, 1, (.const (.int .i32 65536))), (4, 1, (.tmp 39))], none⟩),
 (false, 22, [0, 1, 2, 3, 4, 5, 6, 7, 8, 9, 10, 11, 12, 13, 14, 15, 16, 17, 18, 19, 20, 21], ⟨(some 7), .alloc 25 [(.int .i64 0), (.int .i64 0), (.int .i32 0), (.int .i32 0), (.int .i32 0), (.slice none 0 0)], none⟩),
 (false, 23, [], ⟨none, .stn 6 (.tmp 7) (.tmp 40), none⟩)])
 (.seq (.reg [⟨(some 42), .ldn 6 (.tmp 7), none⟩,
 ⟨(some 43), .call 14 [(.tmp 42)], none⟩,
 ⟨(some 41), .mv (.tmp 43), none⟩,
 ⟨(some 44), .ext 0 (.tmp 41), none⟩,
 ⟨(some 45), .ext 1 (.tmp 41), none⟩,
 ⟨(some 8), .mv (.tmp 44), none⟩,
 ⟨(some 9), .mv (.tmp 45), none⟩])
 (.seq (.reg [⟨(some 46), .mkm, none⟩,
 ⟨(some 10), .mv (.tmp 46), none⟩])
 (.seq (.seq (.reg [⟨(some 47), .mv (.tmp 8), none⟩,
 ⟨(some 48), .len (.tmp 47), none⟩,
 ⟨(some 49), .mv (.const (.int .i64 0)), none⟩])
 (.block 0 (.loop (.seq (.reg [⟨(some 50), .bin .lss (.tmp 49) (.tmp 48), none⟩])
 (.seq (.cond (.tmp 50)
 (.skip)
 (.exit 0))
 (.seq (.block 1 (.seq (.reg [⟨(some 51), .is 10 (.tmp 47) (.tmp 49), none⟩,
 ⟨(some 52), .ldn 10 (.tmp 51), none⟩,
 ⟨(some 12), .alloc 46 [(.int .i64 0), (.int .i64 0), (.int .i32 0), (.int .i32 0), (.bool false), (.int .i32 0), (.int .i32 0), (.int .i32 0), (.int .i32 0), (.slice none 0 0)], none⟩,
 ⟨none, .stn 10 (.tmp 12) (.tmp 52), none⟩])
 (.seq (.seq (.reg [⟨(some 53), .mv (.tmp 10), none⟩,
 ⟨(some 54), .fa 0 (.tmp 12), none⟩,
 ⟨(some 55), .ld1 (.tmp 54), none⟩,
 ⟨(some 56), .fa 1 (.tmp 12), none⟩,
 ⟨(some 57), .ld1 (.tmp 56), none⟩,
 ⟨(some 58), .build [(.int .i64 0), (.int .i64 0)] [(0, 1, (.tmp 55)), (1, 1, (.tmp 57))], none⟩,
 ⟨(some 59), .lkp 47 false (.bool false) (.tmp 53) (.tmp 58), none⟩,
 ⟨(some 60), .mv (.tmp 59), none⟩,
 ⟨(some 61), .fa 5 (.tmp 12), (some (60, false))⟩,
 ⟨(some 62), .ia 4 1 (.tmp 61) (.const (.int .i64 0)), (some (60, false))⟩,
 ⟨(some 63), .ld1 (.tmp 62), (some (60, false))⟩,
 ⟨(some 64), .bin .lss (.tmp 63) (.const (.int .i32 0)), (some (60, false))⟩,
 ⟨(some 65), .pick (.tmp 60) (.const (.bool true)) (.tmp 64), none⟩,
 ⟨(some 66), .mv (.tmp 65), none⟩,
 ⟨(some 67), .fa 5 (.tmp 12), (some (66, false))⟩,
 ⟨(some 68), .ia 4 1 (.tmp 67) (.const (.int .i64 0)), (some (66, false))⟩,
 ⟨(some 69), .ld1 (.tmp 68), (some (66, false))⟩,
 ⟨(some 70), .bin .geq (.tmp 69) (.const (.int .i32 65536)), (some (66, false))⟩,
 ⟨(some 71), .pick (.tmp 66) (.const (.bool true)) (.tmp 70), none⟩,
 ⟨(some 72), .mv (.tmp 71), none⟩,
 ⟨(some 73), .fa 5 (.tmp 12), (some (72, false))⟩,
 ⟨(some 74), .ia 4 1 (.tmp 73) (.const (.int .i64 1)), (some (72, false))⟩,
 ⟨(some 75), .ld1 (.tmp 74), (some (72, false))⟩,
 ⟨(some 76), .bin .lss (.tmp 75) (.const (.int .i32 0)), (some (72, false))⟩,
 ⟨(some 77), .pick (.tmp 72) (.const (.bool true)) (.tmp 76), none⟩,
 ⟨(some 78), .mv (.tmp 77), none⟩,
 ⟨(some 79), .fa 5 (.tmp 12), (some (78, false))⟩,
 ⟨(some 80), .ia 4 1 (.tmp 79) (.const (.int .i64 1)), (some (78, false))⟩,
 ⟨(some 81), .ld1 (.tmp 80), (some (78, false))⟩,
 ⟨(some 82), .bin .geq (.tmp 81) (.const (.int .i32 65536)), (some (78, false))⟩,
 ⟨(some 83), .pick (.tmp 78) (.const (.bool true)) (.tmp 82), none⟩])
 (.cond (.tmp 83)
 (.seq (.reg [⟨(some 6), .mv (.const (.bool false)), none⟩])
 (.ret))
 (.skip)))
 (.reg [⟨(some 84), .mv (.tmp 10), none⟩,
 ⟨(some 85), .fa 0 (.tmp 12), none⟩,
 ⟨(some 86), .ld1 (.tmp 85), none⟩,
 ⟨(some 87), .fa 1 (.tmp 12), none⟩,
 ⟨(some 88), .ld1 (.tmp 87), none⟩,
 ⟨(some 89), .build [(.int .i64 0), (.int .i64 0)] [(0, 1, (.tmp 86)), (1, 1, (.tmp 88))], none⟩,
 ⟨none, .mup 47 (.tmp 84) (.tmp 89) (.const (.bool true)), none⟩]))))
 (.reg [⟨(some 90), .bin .add (.tmp 49) (.const (.int .i64 1)), none⟩,
 ⟨(some 49), .mv (.tmp 90), none⟩])))))))
 (.seq (.reg [⟨(some 91), .mv (.tmp 9), none⟩,
 ⟨(some 92), .bin .eql (.tmp 91) (.const (.int .i64 0)), none⟩,
 ⟨(some 93), .mv (.tmp 92), none⟩,
 ⟨(some 94), .mv (.tmp 8), (some (93, true))⟩,
 ⟨(some 95), .len (.tmp 94), (some (93, true))⟩,
 ⟨(some 96), .mv (.tmp 2), (some (93, true))⟩,
 ⟨(some 97), .mv (.tmp 2), (some (93, true))⟩,
 ⟨(some 98), .bin .mul (.tmp 96) (.tmp 97), (some (93, true))⟩,
 ⟨(some 99), .bin .eql (.tmp 95) (.tmp 98), (some (93, true))⟩,
 ⟨(some 100), .pick (.tmp 93) (.tmp 99) (.const (.bool false)), none⟩,
 ⟨(some 6), .mv (.tmp 100), none⟩])
 (.ret))))))))
theorem k8 : fnOk Try.prog 8 = some (M8, [.t 6], 101) := by kernel_rfl

theorem l_LineSquares (x y z : Int) (h : K (.bool true) H) : HCalls Try.prog w0 8 [.int .i64 x, .int .i64 y, .int .i64 z] H K := by
  obtain ⟨z1, ez1⟩ : ∃ q, (if z < 0 then 0 else z) = q := ⟨_, rfl⟩
  obtain ⟨x1, ex1⟩ : ∃ q, (if x < 0 then 0 else x) = q := ⟨_, rfl⟩
  obtain ⟨y1, ey1⟩ : ∃ q, (if y < 0 then 0 else y) = q := ⟨_, rfl⟩
  have hz1 : 0 ≤ z1 := by rw [← ez1]; split <;> omega
  have hx1 : 0 ≤ x1 := by rw [← ex1]; split <;> omega
  have hy1 : 0 ≤ y1 := by rw [← ey1]; split <;> omega
  obtain ⟨r, er⟩ : ∃ q, z1.tmod 20 = q := ⟨_, rfl⟩
  have hr : 0 ≤ r ∧ r < 20 := by rw [← er, Int.tmod_eq_emod_of_nonneg hz1]; omega
  obtain ⟨N, eN⟩ : ∃ N : Nat, (N : Int) = 1 + r := ⟨(1 + r).toNat, by omega⟩
  have hN : 1 ≤ N ∧ N ≤ 20 := by omega
  obtain ⟨d, ed⟩ : ∃ d : Int, 16384 - 256 * (N : Int) = d := ⟨_, rfl⟩
  have hd : 0 < d ∧ d ≠ 0 := by omega
  obtain ⟨tx, etx⟩ : ∃ q, x1.tmod d = q := ⟨_, rfl⟩
  obtain ⟨ty, ety⟩ : ∃ q, y1.tmod d = q := ⟨_, rfl⟩
  have htx : 0 ≤ tx ∧ tx < d := by rw [← etx, Int.tmod_eq_emod_of_nonneg hx1]; exact ⟨Int.emod_nonneg _ hd.2, Int.emod_lt_of_pos _ hd.1⟩
  have hty : 0 ≤ ty ∧ ty < d := by rw [← ety, Int.tmod_eq_emod_of_nonneg hy1]; exact ⟨Int.emod_nonneg _ hd.2, Int.emod_lt_of_pos _ hd.1⟩
  have w1 : IntKind.i64.wrap (1 + r) = (N : Int) := by rw [← eN]; exact Bw.1 _ (by omega) (by omega)
  have w2 : IntKind.i64.wrap (128 * (N : Int)) = 128 * (N : Int) := Bw.1 _ (by omega) (by omega)
  have w3 : IntKind.i64.wrap (256 * (N : Int)) = 256 * (N : Int) := Bw.1 _ (by omega) (by omega)
  have w4 : IntKind.i64.wrap (16384 - 256 * (N : Int)) = d := by rw [ed]; exact Bw.1 _ (by omega) (by omega)
  obtain ⟨X, eX⟩ : ∃ q, 128 * (N : Int) + tx = q := ⟨_, rfl⟩
  obtain ⟨Y, eY⟩ : ∃ q, 128 * (N : Int) + ty = q := ⟨_, rfl⟩
  have w5 : IntKind.i64.wrap (128 * (N : Int) + tx) = X := by rw [eX]; exact Bw.1 _ (by omega) (by omega)
  have w6 : IntKind.i64.wrap (128 * (N : Int) + ty) = Y := by rw [eY]; exact Bw.1 _ (by omega) (by omega)
  have w7 : IntKind.i32.wrap (N : Int) = (N : Int) := w32_in (by unfold I32; omega)
  obtain ⟨S, eS⟩ : ∃ q, (N : Int) * 65536 = q := ⟨_, rfl⟩
  have w8 : IntKind.i32.wrap ((N : Int) * 65536) = S := by rw [eS]; exact w32_in (by unfold I32; omega)
  have w9 : IntKind.i64.wrap ((N : Int) * (N : Int)) = ((N * N : Nat) : Int) := by
    have : N * N ≤ 20 * 20 := Nat.mul_le_mul hN.2 hN.2
    rw [← Int.natCast_mul]; exact Bw.1 _ (by omega) (by omega)
  have hd0 : ¬ d = 0 := hd.2
  have hP := fun (G : Heap) (K : Value → Heap → Prop) => c_sq (w0 := w0) (H := G) (K := K) (X := X) (Y := Y) (S := S) hN eS.symm ⟨by omega, by omega⟩ ⟨by omega, by omega⟩
  clear hz1 hx1 hy1 hr eN hd htx hty ed eX eY eS
  replace h : Keep _ := h
  replace hP : Keep _ := hP
  replace hN : Keep _ := hN
  refine HL.hc k8 999 ?_; unfold M8
  (all_goals (try simp only [Sq,Sr,Sh,Si,Sl,Bu,Bb,Bd,Bc,Bw,Bn,Int.reduceAdd,Int.reduceSub,Int.reduceMul,Int.reduceTDiv,Int.reduceTMod,Int.reduceMod,Int.reduceDiv,Nat.reduceLT,Nat.reduceEqDiff,Sa,Sb,Sc,Sd,Se,Sf,Sg,Int.reduceLE,Int.reduceLT,Int.reduceToNat,Int.reduceNeg,Int.reduceEq,Nat.reduceLeDiff,Nat.reducePow,Int.reducePow,reduceIte,Nat.reduceSub,Nat.reduceAdd,Nat.reduceMul,putAt,ceq,List.replicate, *])); repeat' ((first | (with_reducible refine fun _ : True => ?_) | refine l_wakes ?_ | refine hP _ _ (fun a' cap' os H' hlen hnd hos hO hg => ?_)  | (with_reducible refine any_h ?_) | ((first | refine AllocQ_i ?_ | refine AllocO_i ?_); intro bk hb0 hbk; (try simp only [set_none'] at hbk); (try (first | have hbn := Grow.none (by assumption) hbk | have hbn := Grow.none (by assumption) hbk.2 | have hbn := Grow.none (by assumption) hbk.2.2 | have hbn := Grow.none (by assumption) hbk.2.2.2 | have hbn := Grow.none (by assumption) hbk.2.2.2.2 | have hbn := Grow.none (by assumption) hbk.2.2.2.2.2)); (try simp only [set_none'] at hbn); (try (first | have hbm := Grow.none (by assumption) hbn | have hbm := Grow.none (by assumption) hbn.2 | have hbm := Grow.none (by assumption) hbn.2.2 | have hbm := Grow.none (by assumption) hbn.2.2.2 | have hbm := Grow.none (by assumption) hbn.2.2.2.2 | have hbm := Grow.none (by assumption) hbn.2.2.2.2.2)); (try simp only [set_none'] at hbm)) | ((first | refine condS_i ?_ ?_ | refine pick_i ?_ ?_ | refine gS_it ?_ ?_ | refine gS_if ?_ ?_ | refine gP_it ?_ ?_ | refine gP_if ?_ ?_) <;> (intro hc; try simp only [Int.reduceLE,Int.reduceLT,Int.reduceEq,Sn] at hc)) | (with_reducible refine KP_i ?_ ?_; · (repeat' (first | exact Heap.Le.refl _ | (with_reducible refine Le_set2 ?_) | (refine Le_known (by first | (simp only [Heap.set_same, set_ne, ne_eq, not_false_eq_true, *] <;> rfl) | fail) ?_) | (refine Le_fresh (by first | (simp only [*] <;> done) | (simp [set_none', Heap.set_same, set_ne, noneH, *] <;> done) | fail) ?_) | (refine Heap.Le.trans ?_ (Grow.le (by assumption))) | exact Le_none | (refine Le_put ?_ (by first | (simp only [Heap.set_same, set_ne, ne_eq, not_false_eq_true, *] <;> rfl) | fail)) | fail))) | (with_reducible refine And.intro ?_ ?_)) <;> (try simp only [Sq,Sr,Sh,Si,Sl,Bu,Bb,Bd,Bc,Bw,Bn,Int.reduceAdd,Int.reduceSub,Int.reduceMul,Int.reduceTDiv,Int.reduceTMod,Int.reduceMod,Int.reduceDiv,Nat.reduceLT,Nat.reduceEqDiff,Sa,Sb,Sc,Sd,Se,Sf,Sg,Int.reduceLE,Int.reduceLT,Int.reduceToNat,Int.reduceNeg,Int.reduceEq,Nat.reduceLeDiff,Nat.reducePow,Int.reducePow,reduceIte,Nat.reduceSub,Nat.reduceAdd,Nat.reduceMul,putAt,ceq,List.replicate, *]))
  have hmv : ∀ m, mapV m = Value.map (some m) := fun _ => rfl
  have hokv : ∀ v b, okV false v b = v := fun _ _ => rfl
  obtain ⟨m, rfl⟩ : ∃ m, m = bk := ⟨_, rfl⟩
  obtain ⟨ks, eks⟩ : ∃ l, (os.map fun o => o.toFr.key) = l := ⟨_, rfl⟩
  rw [eks] at hnd
  obtain ⟨n, en⟩ : ∃ n, N * N = n := ⟨_, rfl⟩
  rw [en] at hlen w9 ⊢
  have hn400 : n ≤ 400 := by rw [← en]; have := kps hN; exact Nat.mul_le_mul this.2 this.2
  have gH : Grow w0 H H' := Grow.trans (by (repeat' (first | exact Grow.refl _ | assumption | (refine Grow.set ?_ (by assumption) (by first | exact (by simp only [*]) | exact (by simp [set_none', *]) | exact Grow.none (by assumption) (by simp [set_none', *]))) | (refine Grow.trans ?_ (by assumption))))) hg
  have hmH : H m = none := hbn.2
  have hInk : ∀ c ∈ ks, InK c := fun c hc => by
    rw [← eks] at hc
    obtain ⟨o, ho, rfl⟩ := List.mem_map.1 hc
    have := hos o ho
    exact ⟨wf_i64 this.2.1, wf_i64 this.1⟩
  have hrow : ∀ (k : Nat) (o : FrR), os[k]? = some o → ∃ b oo, a' = some ⟨b, oo, none⟩ ∧ rdn w0 H' b (oo + k * 10) 10 = some o.row ∧ ∀ d, w0.heap.size ≤ d → H' d = none → d ≠ b := fun k o eo =>
    hO.at_.row (sz := 10) (fun r hr => by obtain ⟨y, -, rfl⟩ := List.mem_map.1 hr; exact fragT.hsz y) (by omega) (i := k) (by rw [List.getElem?_map, eo]; rfl)
  have hget : ∀ k, k < n → ∃ o, os[k]? = some o := fun k hk => ⟨_, List.getElem?_eq_getElem (by rw [hlen]; exact hk)⟩
  have hkey : ∀ (k : Nat) (o : FrR), os[k]? = some o → ks.take (k + 1) = ks.take k ++ [(o.x, o.y)] := fun k o eo => by
    rw [List.take_add_one, ← eks, List.getElem?_map, eo]; rfl
  have lH : Heap.Le H H' := gH.le
  clear hg hbn gH hO hlen hN en eks
  replace hnd : Keep _ := hnd
  replace hInk : Keep _ := hInk
  replace hrow : Keep _ := hrow
  replace hget : Keep _ := hget
  replace hkey : Keep _ := hkey
  replace hos : Keep _ := hos
  refine loop_g 50 (fun s : Nat × Value => [(12, s.2), (49, .int .i64 (s.1 : Nat))]) (fun s => H'.set m (seenB (ks.take s.1))) (fun s => s.1 ≤ n) (fun s => n - s.1) (0, undef) (Nat.zero_le _) (by simp only [List.take_zero, seenB_nil]; exact Heap.Le.refl _) rfl ?_
  intro ⟨k, v12⟩ g hk
  simp only at hk
  by_cases hlt : k < n
  · obtain ⟨o, eo⟩ := kps hget k hlt
    obtain ⟨b, oo, rfl, hr, hf⟩ := kps hrow k o eo
    have ho := kps hos o (List.mem_iff_getElem?.2 ⟨k, eo⟩)
    have et := kps hkey k o eo
    have hnd1 : (ks.take k ++ [(o.x, o.y)]).Nodup := by rw [← et]; exact (kps hnd).sublist (List.take_sublist _ _)
    have hnd2 : (ks.take k).Nodup := (kps hnd).sublist (List.take_sublist _ _)
    have hx : (o.x, o.y) ∉ ks.take k := fun hm => (List.nodup_append.1 hnd1).2.2 _ hm _ (List.mem_singleton.2 rfl) rfl
    have hI : ∀ c ∈ ks.take k, InK c := fun c hc => kps hInk c (List.mem_of_mem_take hc)
    have hIk : InK (o.x, o.y) := ⟨wf_i64 ho.2.1, wf_i64 ho.1⟩
    have nb : m ≠ b := hf m hb0 hbk
    have nb' : b ≠ m := fun e => nb e.symm
    have u1 : ¬ o.p 0 < 0 := by omega
    have u2 : ¬ 65536 ≤ o.p 0 := by omega
    have u3 : ¬ o.p 1 < 0 := by omega
    have u4 : ¬ 65536 ≤ o.p 1 := by omega
    have t0 : (k : Int) < n := by omega
    have t6 : IntKind.i64.wrap ((k : Int) + 1) = ((k + 1 : Nat) : Int) := by rw [Bw.1 _ (by omega) (by omega)]; omega
    unfold FrR.row at hr
    clear ho eo hnd1 hos hget hrow hkey hInk hnd h
    replace et : Keep _ := et
    replace hnd2 : Keep _ := hnd2
    replace hx : Keep _ := hx
    replace hI : Keep _ := hI
    replace hIk : Keep _ := hIk
    (all_goals (try simp only [Sq,Sr,Sh,Si,Sl,Bu,Bb,Bd,Bc,Bw,Bn,Int.reduceAdd,Int.reduceSub,Int.reduceMul,Int.reduceTDiv,Int.reduceTMod,Int.reduceMod,Int.reduceDiv,Nat.reduceLT,Nat.reduceEqDiff,Sa,Sb,Sc,Sd,Se,Sf,Sg,Int.reduceLE,Int.reduceLT,Int.reduceToNat,Int.reduceNeg,Int.reduceEq,Nat.reduceLeDiff,Nat.reducePow,Int.reducePow,reduceIte,Nat.reduceSub,Nat.reduceAdd,Nat.reduceMul,putAt,ceq,List.replicate, *])); repeat' ((first | (with_reducible refine fun _ : True => ?_) | refine lkp_new (k := (o.x, o.y)) (by simp only [Heap.set_same, set_ne, ne_eq, not_false_eq_true, *] <;> rfl) (kps hI) (kps hnd2) (kps hIk) (kps hx) ?_ | refine mup_new (k := (o.x, o.y)) (by simp only [Heap.set_same, set_ne, ne_eq, not_false_eq_true, *] <;> rfl) (kps hI) (kps hnd2) (kps hIk) (kps hx) ?_ | (with_reducible refine any_h ?_) | ((first | refine AllocQ_i ?_ | refine AllocO_i ?_); intro bk hb0 hbk; (try simp only [set_none'] at hbk); (try (first | have hbn := Grow.none (by assumption) hbk | have hbn := Grow.none (by assumption) hbk.2 | have hbn := Grow.none (by assumption) hbk.2.2 | have hbn := Grow.none (by assumption) hbk.2.2.2 | have hbn := Grow.none (by assumption) hbk.2.2.2.2 | have hbn := Grow.none (by assumption) hbk.2.2.2.2.2)); (try simp only [set_none'] at hbn); (try (first | have hbm := Grow.none (by assumption) hbn | have hbm := Grow.none (by assumption) hbn.2 | have hbm := Grow.none (by assumption) hbn.2.2 | have hbm := Grow.none (by assumption) hbn.2.2.2 | have hbm := Grow.none (by assumption) hbn.2.2.2.2 | have hbm := Grow.none (by assumption) hbn.2.2.2.2.2)); (try simp only [set_none'] at hbm)) | ((first | refine condS_i ?_ ?_ | refine pick_i ?_ ?_ | refine gS_it ?_ ?_ | refine gS_if ?_ ?_ | refine gP_it ?_ ?_ | refine gP_if ?_ ?_) <;> (intro hc; try simp only [Int.reduceLE,Int.reduceLT,Int.reduceEq,Sn] at hc)) | (with_reducible refine KP_i ?_ ?_; · (repeat' (first | exact Heap.Le.refl _ | (with_reducible refine Le_set2 ?_) | (refine Le_known (by first | (simp only [Heap.set_same, set_ne, ne_eq, not_false_eq_true, *] <;> rfl) | fail) ?_) | (refine Le_fresh (by first | (simp only [*] <;> done) | (simp [set_none', Heap.set_same, set_ne, noneH, *] <;> done) | fail) ?_) | (refine Heap.Le.trans ?_ (Grow.le (by assumption))) | exact Le_none | (refine Le_put ?_ (by first | (simp only [Heap.set_same, set_ne, ne_eq, not_false_eq_true, *] <;> rfl) | fail)) | fail))) | (with_reducible refine And.intro ?_ ?_)) <;> (try simp only [Sq,Sr,Sh,Si,Sl,Bu,Bb,Bd,Bc,Bw,Bn,Int.reduceAdd,Int.reduceSub,Int.reduceMul,Int.reduceTDiv,Int.reduceTMod,Int.reduceMod,Int.reduceDiv,Nat.reduceLT,Nat.reduceEqDiff,Sa,Sb,Sc,Sd,Se,Sf,Sg,Int.reduceLE,Int.reduceLT,Int.reduceToNat,Int.reduceNeg,Int.reduceEq,Nat.reduceLeDiff,Nat.reducePow,Int.reducePow,reduceIte,Nat.reduceSub,Nat.reduceAdd,Nat.reduceMul,putAt,ceq,List.replicate, *]))
    exact Round_mk (k + 1, _) hlt (Nat.sub_succ_lt_self n k hlt) (by simp only [kps et]; exact (by (repeat' (first | exact Heap.Le.refl _ | (with_reducible refine Le_set2 ?_) | (refine Le_known (by first | (simp only [Heap.set_same, set_ne, ne_eq, not_false_eq_true, *] <;> rfl) | fail) ?_) | (refine Le_fresh (by first | (simp only [*] <;> done) | (simp [set_none', Heap.set_same, set_ne, noneH, *] <;> done) | fail) ?_) | (refine Heap.Le.trans ?_ (Grow.le (by assumption))) | exact Le_none | (refine Le_put ?_ (by first | (simp only [Heap.set_same, set_ne, ne_eq, not_false_eq_true, *] <;> rfl) | fail)) | fail)))) rfl rfl
  · obtain rfl : k = n := by omega
    have t0 : ¬ ((k : Nat) : Int) < (k : Nat) := by omega
    have hm1 : H' m = none := hbk
    clear hget hrow hkey hInk hnd hos
    (all_goals (try simp only [Sq,Sr,Sh,Si,Sl,Bu,Bb,Bd,Bc,Bw,Bn,Int.reduceAdd,Int.reduceSub,Int.reduceMul,Int.reduceTDiv,Int.reduceTMod,Int.reduceMod,Int.reduceDiv,Nat.reduceLT,Nat.reduceEqDiff,Sa,Sb,Sc,Sd,Se,Sf,Sg,Int.reduceLE,Int.reduceLT,Int.reduceToNat,Int.reduceNeg,Int.reduceEq,Nat.reduceLeDiff,Nat.reducePow,Int.reducePow,reduceIte,Nat.reduceSub,Nat.reduceAdd,Nat.reduceMul,putAt,ceq,List.replicate, *])); repeat' ((first | (with_reducible refine fun _ : True => ?_) | (with_reducible refine any_h ?_) | ((first | refine AllocQ_i ?_ | refine AllocO_i ?_); intro bk hb0 hbk; (try simp only [set_none'] at hbk); (try (first | have hbn := Grow.none (by assumption) hbk | have hbn := Grow.none (by assumption) hbk.2 | have hbn := Grow.none (by assumption) hbk.2.2 | have hbn := Grow.none (by assumption) hbk.2.2.2 | have hbn := Grow.none (by assumption) hbk.2.2.2.2 | have hbn := Grow.none (by assumption) hbk.2.2.2.2.2)); (try simp only [set_none'] at hbn); (try (first | have hbm := Grow.none (by assumption) hbn | have hbm := Grow.none (by assumption) hbn.2 | have hbm := Grow.none (by assumption) hbn.2.2 | have hbm := Grow.none (by assumption) hbn.2.2.2 | have hbm := Grow.none (by assumption) hbn.2.2.2.2 | have hbm := Grow.none (by assumption) hbn.2.2.2.2.2)); (try simp only [set_none'] at hbm)) | ((first | refine condS_i ?_ ?_ | refine pick_i ?_ ?_ | refine gS_it ?_ ?_ | refine gS_if ?_ ?_ | refine gP_it ?_ ?_ | refine gP_if ?_ ?_) <;> (intro hc; try simp only [Int.reduceLE,Int.reduceLT,Int.reduceEq,Sn] at hc)) | (with_reducible refine KP_i ?_ ?_; · (repeat' (first | exact Heap.Le.refl _ | (with_reducible refine Le_set2 ?_) | (refine Le_known (by first | (simp only [Heap.set_same, set_ne, ne_eq, not_false_eq_true, *] <;> rfl) | fail) ?_) | (refine Le_fresh (by first | (simp only [*] <;> done) | (simp [set_none', Heap.set_same, set_ne, noneH, *] <;> done) | fail) ?_) | (refine Heap.Le.trans ?_ (Grow.le (by assumption))) | exact Le_none | (refine Le_put ?_ (by first | (simp only [Heap.set_same, set_ne, ne_eq, not_false_eq_true, *] <;> rfl) | fail)) | fail))) | (with_reducible refine And.intro ?_ ?_)) <;> (try simp only [Sq,Sr,Sh,Si,Sl,Bu,Bb,Bd,Bc,Bw,Bn,Int.reduceAdd,Int.reduceSub,Int.reduceMul,Int.reduceTDiv,Int.reduceTMod,Int.reduceMod,Int.reduceDiv,Nat.reduceLT,Nat.reduceEqDiff,Sa,Sb,Sc,Sd,Se,Sf,Sg,Int.reduceLE,Int.reduceLT,Int.reduceToNat,Int.reduceNeg,Int.reduceEq,Nat.reduceLeDiff,Nat.reducePow,Int.reducePow,reduceIte,Nat.reduceSub,Nat.reduceAdd,Nat.reduceMul,putAt,ceq,List.replicate, *]))
    exact Fin_mk (Le_fresh hmH lH) (kps h)
end Go.Proofs.Ytokjajfojjibcaa
