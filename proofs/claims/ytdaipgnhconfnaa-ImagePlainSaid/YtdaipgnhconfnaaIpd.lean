/- The next level, by the program (layer 8). -/
import Derived.Test.YtdaipgnhconfnaaIpc
set_option linter.unusedSimpArgs false
set_option linter.unusedVariables false
set_option maxRecDepth 100000
set_option maxHeartbeats 4000000
namespace Go.Proofs.Ytdaipgnhconfnaa
open Go Go.HL Go.RowKit Pb
variable {w0 : World} {H G : Heap} {K : Value → Heap → Prop}

/- image half -/
def M42 : MC :=
  .seq (.reg [⟨(some 2), .box 38 (.tmp 0), none⟩,
 ⟨(some 4), .alloc 38 [(.int .i64 0), (.int .i64 0), (.slice none 0 0)], none⟩])
 (.seq (.reg [⟨(some 21), .mv (.tmp 1), none⟩,
 ⟨(some 22), .call 48 [(.tmp 21)], none⟩,
 ⟨(some 5), .alloc 3 [(.int .i64 0)], none⟩,
 ⟨none, .st1 (.tmp 5) (.tmp 22), none⟩])
 (.seq (.reg [⟨(some 23), .fa 0 (.tmp 2), none⟩,
 ⟨(some 24), .ld1 (.tmp 23), none⟩,
 ⟨(some 25), .bin .quo (.tmp 24) (.const (.int .i64 2)), none⟩,
 ⟨(some 26), .mx (.tmp 25) (.const (.int .i64 1)), none⟩,
 ⟨(some 27), .fa 1 (.tmp 2), none⟩,
 ⟨(some 28), .ld1 (.tmp 27), none⟩,
 ⟨(some 29), .bin .quo (.tmp 28) (.const (.int .i64 2)), none⟩,
 ⟨(some 30), .mx (.tmp 29) (.const (.int .i64 1)), none⟩,
 ⟨(some 31), .build [(.int .i64 0), (.int .i64 0), (.slice none 0 0)] [(0, 1, (.tmp 26)), (1, 1, (.tmp 30))], none⟩,
 ⟨(some 6), .alloc 38 [(.int .i64 0), (.int .i64 0), (.slice none 0 0)], none⟩,
 ⟨none, .stn 3 (.tmp 6) (.tmp 31), none⟩])
 (.seq (.reg [⟨(some 32), .fn 66 [(.tmp 2), (.tmp 5)], none⟩,
 ⟨(some 7), .mv (.tmp 32), none⟩])
 (.seq (.seq (.reg [⟨(some 33), .fa 1 (.tmp 6), none⟩,
 ⟨(some 34), .ld1 (.tmp 33), none⟩,
 ⟨(some 35), .mv (.const (.int .i64 0)), none⟩])
 (.block 0 (.loop (.seq (.reg [⟨(some 36), .bin .lss (.tmp 35) (.tmp 34), none⟩])
 (.seq (.cond (.tmp 36)
 (.skip)
 (.exit 0))
 (.seq (.block 1 (.seq (.reg [⟨(some 37), .mv (.tmp 35), none⟩,
 ⟨(some 8), .mv (.tmp 37), none⟩])
 (.seq (.reg [⟨(some 38), .fa 0 (.tmp 6), none⟩,
 ⟨(some 39), .ld1 (.tmp 38), none⟩,
 ⟨(some 40), .mv (.const (.int .i64 0)), none⟩])
 (.block 2 (.loop (.seq (.reg [⟨(some 41), .bin .lss (.tmp 40) (.tmp 39), none⟩])
 (.seq (.cond (.tmp 41)
 (.skip)
 (.exit 2))
 (.seq (.block 3 (.seq (.reg [⟨(some 42), .mv (.tmp 40), none⟩,
 ⟨(some 9), .mv (.tmp 42), none⟩])
 (.seq (.reg [⟨(some 10), .mv (.const (.slice none 0 0)), none⟩])
 (.seq (.seq (.reg [⟨(some 43), .mv (.tmp 8), none⟩,
 ⟨(some 44), .bin .mul (.const (.int .i64 2)) (.tmp 43), none⟩,
 ⟨(some 11), .mv (.tmp 44), none⟩])
 (.block 4 (.loop (.seq (.seq (.reg [⟨(some 45), .mv (.tmp 11), none⟩,
 ⟨(some 46), .mv (.tmp 8), none⟩,
 ⟨(some 47), .bin .mul (.const (.int .i64 2)) (.tmp 46), none⟩,
 ⟨(some 48), .bin .add (.tmp 47) (.const (.int .i64 2)), none⟩,
 ⟨(some 49), .fa 1 (.tmp 2), none⟩,
 ⟨(some 50), .ld1 (.tmp 49), none⟩,
 ⟨(some 51), .mn (.tmp 48) (.tmp 50), none⟩,
 ⟨(some 52), .bin .lss (.tmp 45) (.tmp 51), none⟩])
 (.cond (.tmp 52)
 (.skip)
 (.exit 4)))
 (.seq (.block 5 (.seq (.reg [⟨(some 55), .mv (.tmp 9), none⟩,
 ⟨(some 56), .bin .mul (.const (.int .i64 2)) (.tmp 55), none⟩,
 ⟨(some 12), .mv (.tmp 56), none⟩])
 (.block 6 (.loop (.seq (.seq (.reg [⟨(some 57), .mv (.tmp 12), none⟩,
 ⟨(some 58), .mv (.tmp 9), none⟩,
 ⟨(some 59), .bin .mul (.const (.int .i64 2)) (.tmp 58), none⟩,
 ⟨(some 60), .bin .add (.tmp 59) (.const (.int .i64 2)), none⟩,
 ⟨(some 61), .fa 0 (.tmp 2), none⟩,
 ⟨(some 62), .ld1 (.tmp 61), none⟩,
 ⟨(some 63), .mn (.tmp 60) (.tmp 62), none⟩,
 ⟨(some 64), .bin .lss (.tmp 57) (.tmp 63), none⟩])
 (.cond (.tmp 64)
 (.skip)
 (.exit 6)))
 (.seq (.block 7 (.reg [⟨(some 67), .mv (.tmp 10), none⟩,
 ⟨(some 68), .mv (.tmp 7), none⟩,
 ⟨(some 69), .mv (.tmp 12), none⟩,
 ⟨(some 70), .mv (.tmp 11), none⟩,
 ⟨(some 71), .yv (.tmp 68) [(.tmp 69), (.tmp 70)], none⟩,
 ⟨(some 72), .bslice 85 1 [(.int .u32 0)] [(0, 1, (.tmp 71))], none⟩,
 ⟨(some 73), .app 85 1 4 [(.int .u32 0)] (.tmp 67) (.tmp 72), none⟩,
 ⟨(some 10), .mv (.tmp 73), none⟩]))
 (.reg [⟨(some 65), .mv (.tmp 12), none⟩,
 ⟨(some 66), .bin .add (.tmp 65) (.const (.int .i64 1)), none⟩,
 ⟨(some 12), .mv (.tmp 66), none⟩])))))))
 (.reg [⟨(some 53), .mv (.tmp 11), none⟩,
 ⟨(some 54), .bin .add (.tmp 53) (.const (.int .i64 1)), none⟩,
 ⟨(some 11), .mv (.tmp 54), none⟩]))))))
 (.seq (.reg [⟨(some 13), .mv (.const (.int .u32 0)), none⟩,
 ⟨(some 14), .mv (.const (.int .i64 0)), none⟩])
 (.seq (.seq (.reg [⟨(some 74), .mv (.tmp 1), none⟩,
 ⟨(some 75), .call 67 [(.tmp 74)], none⟩,
 ⟨(some 76), .len (.tmp 75), none⟩,
 ⟨(some 77), .mv (.const (.int .i64 0)), none⟩])
 (.block 8 (.loop (.seq (.reg [⟨(some 78), .bin .lss (.tmp 77) (.tmp 76), none⟩])
 (.seq (.cond (.tmp 78)
 (.skip)
 (.exit 8))
 (.seq (.block 9 (.seq (.reg [⟨(some 79), .is 1 (.tmp 75) (.tmp 77), none⟩,
 ⟨(some 80), .ld1 (.tmp 79), none⟩,
 ⟨(some 16), .mv (.tmp 80), none⟩])
 (.seq (.reg [⟨(some 81), .mv (.tmp 10), none⟩,
 ⟨(some 82), .len (.tmp 81), none⟩,
 ⟨(some 83), .bin .quo (.tmp 82) (.const (.int .i64 2)), none⟩,
 ⟨(some 84), .conv .u32 (.tmp 83), none⟩,
 ⟨(some 17), .mv (.tmp 84), none⟩])
 (.seq (.seq (.reg [⟨(some 85), .mv (.tmp 10), none⟩,
 ⟨(some 86), .len (.tmp 85), none⟩,
 ⟨(some 87), .mv (.const (.int .i64 0)), none⟩])
 (.block 10 (.loop (.seq (.reg [⟨(some 88), .bin .lss (.tmp 87) (.tmp 86), none⟩])
 (.seq (.cond (.tmp 88)
 (.skip)
 (.exit 10))
 (.seq (.block 11 (.seq (.reg [⟨(some 89), .is 1 (.tmp 85) (.tmp 87), none⟩,
 ⟨(some 90), .ld1 (.tmp 89), none⟩,
 ⟨(some 19), .mv (.tmp 90), none⟩])
 (.any [(true, 0, [], ⟨(some 91), .mv (.tmp 17), none⟩),
 (true, 1, [], ⟨(some 92), .mv (.tmp 19), none⟩),
 (true, 2, [], ⟨(some 93), .mv (.tmp 14), none⟩),
 (true, 3, [], ⟨(some 94), .bin .shr (.tmp 92) (.tmp 93), none⟩),
 (false, 4, [0, 1, 2, 3], ⟨(some 95), .mv (.tmp 16), none⟩),
 (false, 5, [0, 1, 2, 3], ⟨(some 96), .bin .shl (.const (.int .u32 1)) (.tmp 95), none⟩),
 (false, 6, [0, 1, 2, 3], ⟨(some 97), .bin .sub (.tmp 96) (.const (.int .u32 1)), none⟩),
 (false, 7, [0], ⟨(some 98), .bin .and (.tmp 94) (.tmp 97), none⟩),
 (false, 8, [], ⟨(some 99), .bin .add (.tmp 91) (.tmp 98), none⟩),
 (false, 9, [], ⟨(some 17), .mv (.tmp 99), none⟩)])))
 (.reg [⟨(some 100), .bin .add (.tmp 87) (.const (.int .i64 1)), none⟩,
 ⟨(some 87), .mv (.tmp 100), none⟩])))))))
 (.seq (.reg [⟨(some 101), .mv (.tmp 13), none⟩,
 ⟨(some 102), .mv (.tmp 17), none⟩,
 ⟨(some 103), .mv (.tmp 10), none⟩,
 ⟨(some 104), .len (.tmp 103), none⟩,
 ⟨(some 105), .conv .u32 (.tmp 104), none⟩,
 ⟨(some 106), .bin .quo (.tmp 102) (.tmp 105), none⟩,
 ⟨(some 107), .mv (.tmp 14), none⟩,
 ⟨(some 108), .bin .shl (.tmp 106) (.tmp 107), none⟩,
 ⟨(some 109), .bin .or (.tmp 101) (.tmp 108), none⟩,
 ⟨(some 13), .mv (.tmp 109), none⟩])
 (.reg [⟨(some 110), .mv (.tmp 14), none⟩,
 ⟨(some 111), .mv (.tmp 16), none⟩,
 ⟨(some 112), .bin .add (.tmp 110) (.tmp 111), none⟩,
 ⟨(some 14), .mv (.tmp 112), none⟩]))))))
 (.reg [⟨(some 113), .bin .add (.tmp 77) (.const (.int .i64 1)), none⟩,
 ⟨(some 77), .mv (.tmp 113), none⟩])))))))
 (.seq (.reg [⟨(some 114), .ld1 (.tmp 5), none⟩,
 ⟨(some 115), .mv (.const (.int .i64 0)), none⟩])
 (.block 12 (.loop (.seq (.reg [⟨(some 116), .bin .lss (.tmp 115) (.tmp 114), none⟩])
 (.seq (.cond (.tmp 116)
 (.skip)
 (.exit 12))
 (.seq (.block 13 (.seq (.reg [⟨(some 117), .mv (.tmp 115), none⟩,
 ⟨(some 20), .mv (.tmp 117), none⟩])
 (.any [(true, 0, [], ⟨(some 118), .fa 2 (.tmp 6), none⟩),
 (true, 1, [], ⟨(some 119), .ld1 (.tmp 118), none⟩),
 (true, 2, [], ⟨(some 120), .mv (.tmp 13), none⟩),
 (false, 3, [0, 1, 2], ⟨(some 121), .mv (.tmp 20), none⟩),
 (false, 4, [0, 1, 2], ⟨(some 122), .bin .mul (.const (.int .i64 8)) (.tmp 121), none⟩),
 (false, 5, [0, 1], ⟨(some 123), .bin .shr (.tmp 120) (.tmp 122), none⟩),
 (false, 6, [0, 1], ⟨(some 124), .conv .u8 (.tmp 123), none⟩),
 (false, 7, [0, 1], ⟨(some 125), .bslice 5 1 [(.int .u8 0)] [(0, 1, (.tmp 124))], none⟩),
 (false, 8, [], ⟨(some 126), .app 5 1 1 [(.int .u8 0)] (.tmp 119) (.tmp 125), none⟩),
 (false, 9, [], ⟨(some 127), .fa 2 (.tmp 6), none⟩),
 (false, 10, [], ⟨none, .st1 (.tmp 127) (.tmp 126), none⟩)])))
 (.reg [⟨(some 128), .bin .add (.tmp 115) (.const (.int .i64 1)), none⟩,
 ⟨(some 115), .mv (.tmp 128), none⟩])))))))))))))
 (.reg [⟨(some 129), .bin .add (.tmp 40) (.const (.int .i64 1)), none⟩,
 ⟨(some 40), .mv (.tmp 129), none⟩])))))))))
 (.reg [⟨(some 130), .bin .add (.tmp 35) (.const (.int .i64 1)), none⟩,
 ⟨(some 35), .mv (.tmp 130), none⟩])))))))
 (.seq (.reg [⟨(some 131), .ldn 3 (.tmp 6), none⟩,
 ⟨none, .stn 3 (.tmp 4) (.tmp 131), none⟩])
 (.ret))))))
theorem k42 : fnOk Try.prog 42 = some (M42, [.cn 3 4], 132) := by kernel_rfl

theorem c_half (z : LvR) (hz : LvOk w0 H z) (f : Int) (hf : I64 f) (S W V cw rh wd ht : Nat) (g : Geo z f S W V cw rh wd ht)
    (h : ∀ a cap G, LvC w0 H G ⟨(wd : Nat), (ht : Nat), a, cap, outB z.l f S W cw (cw * rh) wd (wd * ht)⟩ → Grow w0 H G → K (LvR.v ⟨(wd : Nat), (ht : Nat), a, cap, outB z.l f S W cw (cw * rh) wd (wd * ht)⟩) G) :
    HCalls Try.prog w0 42 [z.v, .int .i64 f] H K := by
  have cS := fun (G : Heap) (K : Value → Heap → Prop) => c_pSize (w0 := w0) (H := G) (K := K) f
  rw [g.s] at cS
  have w1 : IntKind.i64.wrap (z.w.tdiv 2) = z.w.tdiv 2 := Bw.1 _ (by rw [g.w, Int.tdiv_eq_ediv_of_nonneg (by omega)]; omega) (by rw [g.w, Int.tdiv_eq_ediv_of_nonneg (by omega)]; have := g.wb; omega)
  have w2 : IntKind.i64.wrap (z.h.tdiv 2) = z.h.tdiv 2 := Bw.1 _ (by rw [g.h, Int.tdiv_eq_ediv_of_nonneg (by omega)]; omega) (by rw [g.h, Int.tdiv_eq_ediv_of_nonneg (by omega)]; have := g.vb; omega)
  have mw : (if z.w.tdiv 2 < 1 then (1 : Int) else z.w.tdiv 2) = (wd : Nat) := by
    rw [g.w, Int.tdiv_eq_ediv_of_nonneg (by omega)]
    have := g.c
    split <;> omega
  have mh : (if z.h.tdiv 2 < 1 then (1 : Int) else z.h.tdiv 2) = (ht : Nat) := by
    rw [g.h, Int.tdiv_eq_ediv_of_nonneg (by omega)]
    have := g.r
    split <;> omega
  unfold LvR.v
  have h' : Keep _ := h
  have g' : Keep _ := g
  clear h g
  refine HL.hc k42 999 ?_; unfold M42
  (all_goals (try simp only [Sq,Sr,Sh,Si,Sl,Bu,Bb,Bd,Bc,Bw,Bn,Int.reduceAdd,Int.reduceSub,Int.reduceMul,Int.reduceTDiv,Int.reduceTMod,Int.reduceMod,Int.reduceDiv,Nat.reduceLT,Nat.reduceEqDiff,Sa,Sb,Sc,Sd,Se,Sf,Sg,Int.reduceLE,Int.reduceLT,Int.reduceToNat,Int.reduceNeg,Int.reduceEq,Nat.reduceLeDiff,Nat.reducePow,Int.reducePow,reduceIte,Nat.reduceSub,Nat.reduceAdd,Nat.reduceMul,putAt,ceq,List.replicate, *])); repeat' ((first | (with_reducible refine fun _ : True => ?_) | refine cS _ _ ?_ | (with_reducible refine any_h ?_) | ((first | refine AllocQ_i ?_ | refine AllocO_i ?_); intro bk hb0 hbk; (try simp only [set_none'] at hbk); (try (first | have hbn := Grow.none (by assumption) hbk | have hbn := Grow.none (by assumption) hbk.2 | have hbn := Grow.none (by assumption) hbk.2.2 | have hbn := Grow.none (by assumption) hbk.2.2.2 | have hbn := Grow.none (by assumption) hbk.2.2.2.2 | have hbn := Grow.none (by assumption) hbk.2.2.2.2.2)); (try simp only [set_none'] at hbn); (try (first | have hbm := Grow.none (by assumption) hbn | have hbm := Grow.none (by assumption) hbn.2 | have hbm := Grow.none (by assumption) hbn.2.2 | have hbm := Grow.none (by assumption) hbn.2.2.2 | have hbm := Grow.none (by assumption) hbn.2.2.2.2 | have hbm := Grow.none (by assumption) hbn.2.2.2.2.2)); (try simp only [set_none'] at hbm)) | ((first | refine condS_i ?_ ?_ | refine pick_i ?_ ?_ | refine gS_it ?_ ?_ | refine gS_if ?_ ?_ | refine gP_it ?_ ?_ | refine gP_if ?_ ?_) <;> (intro hc; try simp only [Int.reduceLE,Int.reduceLT,Int.reduceEq,Sn] at hc)) | (with_reducible refine KP_i ?_ ?_; · (repeat' (first | exact Heap.Le.refl _ | (with_reducible refine Le_set2 ?_) | (refine Le_known (by first | (simp only [Heap.set_same, set_ne, ne_eq, not_false_eq_true, *] <;> rfl) | fail) ?_) | (refine Le_fresh (by first | (simp only [*] <;> done) | (simp [set_none', Heap.set_same, set_ne, noneH, *] <;> done) | fail) ?_) | (refine Heap.Le.trans ?_ (Grow.le (by assumption))) | exact Le_none | (refine Le_put ?_ (by first | (simp only [Heap.set_same, set_ne, ne_eq, not_false_eq_true, *] <;> rfl) | fail)) | fail))) | (with_reducible refine And.intro ?_ ?_)) <;> (try simp only [Sq,Sr,Sh,Si,Sl,Bu,Bb,Bd,Bc,Bw,Bn,Int.reduceAdd,Int.reduceSub,Int.reduceMul,Int.reduceTDiv,Int.reduceTMod,Int.reduceMod,Int.reduceDiv,Nat.reduceLT,Nat.reduceEqDiff,Sa,Sb,Sc,Sd,Se,Sf,Sg,Int.reduceLE,Int.reduceLT,Int.reduceToNat,Int.reduceNeg,Int.reduceEq,Nat.reduceLeDiff,Nat.reducePow,Int.reducePow,reduceIte,Nat.reduceSub,Nat.reduceAdd,Nat.reduceMul,putAt,ceq,List.replicate, *]))
  rename_i b2 s2 n2 b4 s4 n4 b5 s5 n5
  obtain ⟨b6, rfl⟩ : ∃ b6, b6 = bk := ⟨_, rfl⟩
  refine loopq_heap fun G0 eG => ?_
  have st0 : HSt w0 H G0 b2 b4 b5 b6 z S wd ht [] none 0 := by subst eG; exact ⟨(by simp only [Heap.set_same, set_ne, ne_eq, not_false_eq_true, *] <;> rfl), (by simp only [Heap.set_same, set_ne, ne_eq, not_false_eq_true, *] <;> rfl), (by simp only [Heap.set_same, set_ne, ne_eq, not_false_eq_true, *] <;> rfl), (by simp only [Heap.set_same, set_ne, ne_eq, not_false_eq_true, *] <;> rfl), Bld.none, (by (repeat' (first | exact Grow.refl _ | assumption | (refine Grow_known (by first | (simp only [Heap.set_same, set_ne, ne_eq, not_false_eq_true, *] <;> rfl) | fail) ?_) | (refine Grow.set ?_ (by assumption) (by first | (simp only [*] <;> done) | (simp [set_none', Heap.set_same, set_ne, noneH, *] <;> done) | fail)) | (refine Grow.trans ?_ (by assumption)))))⟩
  clear eG cS w1 w2 mw mh
  have g : Geo z f S W V cw rh wd ht := g'
  have hwd : 1 ≤ wd ∧ wd ≤ 64 := by have := g.c; have := g.wb; omega
  have hht : 1 ≤ ht ∧ ht ≤ 64 := by have := g.r; have := g.vb; omega
  clear g
  refine loopq_name (fun code kont T eM eK eT => ?_)
  refine loop_a 36 (fun a : Nat × List Value => [(35, .int .i64 (a.1 : Nat)), (8, a.2.getD 0 undef), (9, a.2.getD 1 undef), (10, a.2.getD 2 undef), (11, a.2.getD 3 undef), (12, a.2.getD 4 undef), (13, a.2.getD 5 undef), (14, a.2.getD 6 undef), (15, a.2.getD 7 undef), (16, a.2.getD 8 undef), (17, a.2.getD 9 undef), (18, a.2.getD 10 undef), (19, a.2.getD 11 undef), (20, a.2.getD 12 undef)])
    (fun s F => s.1 ≤ ht ∧ ∃ a cap, HSt w0 H F b2 b4 b5 b6 z S wd ht (outB z.l f S W cw (cw * rh) wd (s.1 * wd)) a cap) (fun s => ht - s.1) (0, []) ⟨Nat.zero_le _, none, 0, by rw [Nat.zero_mul]; exact st0⟩ (by subst eT; rfl) ?_
  clear st0
  intro ⟨y, us⟩ G U ⟨hy, a, cap, st⟩
  simp only at hy st
  rcases Nat.lt_or_ge y ht with hlt | hge
  · have t1 : (y : Int) < (ht : Int) := by omega
    obtain ⟨r20, r21, r60, r61⟩ := st.rds
    subst eM eK eT
    show run _ _ _ _ _ _ G
    (all_goals (try simp only [Sq,Sr,Sh,Si,Sl,Bu,Bb,Bd,Bc,Bw,Bn,Int.reduceAdd,Int.reduceSub,Int.reduceMul,Int.reduceTDiv,Int.reduceTMod,Int.reduceMod,Int.reduceDiv,Nat.reduceLT,Nat.reduceEqDiff,Sa,Sb,Sc,Sd,Se,Sf,Sg,Int.reduceLE,Int.reduceLT,Int.reduceToNat,Int.reduceNeg,Int.reduceEq,Nat.reduceLeDiff,Nat.reducePow,Int.reducePow,reduceIte,Nat.reduceSub,Nat.reduceAdd,Nat.reduceMul,putAt,ceq,List.replicate, *])); repeat' ((first | (with_reducible refine fun _ : True => ?_) | (with_reducible refine any_h ?_) | ((first | refine AllocQ_i ?_ | refine AllocO_i ?_); intro bk hb0 hbk; (try simp only [set_none'] at hbk); (try (first | have hbn := Grow.none (by assumption) hbk | have hbn := Grow.none (by assumption) hbk.2 | have hbn := Grow.none (by assumption) hbk.2.2 | have hbn := Grow.none (by assumption) hbk.2.2.2 | have hbn := Grow.none (by assumption) hbk.2.2.2.2 | have hbn := Grow.none (by assumption) hbk.2.2.2.2.2)); (try simp only [set_none'] at hbn); (try (first | have hbm := Grow.none (by assumption) hbn | have hbm := Grow.none (by assumption) hbn.2 | have hbm := Grow.none (by assumption) hbn.2.2 | have hbm := Grow.none (by assumption) hbn.2.2.2 | have hbm := Grow.none (by assumption) hbn.2.2.2.2 | have hbm := Grow.none (by assumption) hbn.2.2.2.2.2)); (try simp only [set_none'] at hbm)) | ((first | refine condS_i ?_ ?_ | refine pick_i ?_ ?_ | refine gS_it ?_ ?_ | refine gS_if ?_ ?_ | refine gP_it ?_ ?_ | refine gP_if ?_ ?_) <;> (intro hc; try simp only [Int.reduceLE,Int.reduceLT,Int.reduceEq,Sn] at hc)) | (with_reducible refine KP_i ?_ ?_; · (repeat' (first | exact Heap.Le.refl _ | (with_reducible refine Le_set2 ?_) | (refine Le_known (by first | (simp only [Heap.set_same, set_ne, ne_eq, not_false_eq_true, *] <;> rfl) | fail) ?_) | (refine Le_fresh (by first | (simp only [*] <;> done) | (simp [set_none', Heap.set_same, set_ne, noneH, *] <;> done) | fail) ?_) | (refine Heap.Le.trans ?_ (Grow.le (by assumption))) | exact Le_none | (refine Le_put ?_ (by first | (simp only [Heap.set_same, set_ne, ne_eq, not_false_eq_true, *] <;> rfl) | fail)) | fail))) | (with_reducible refine And.intro ?_ ?_)) <;> (try simp only [Sq,Sr,Sh,Si,Sl,Bu,Bb,Bd,Bc,Bw,Bn,Int.reduceAdd,Int.reduceSub,Int.reduceMul,Int.reduceTDiv,Int.reduceTMod,Int.reduceMod,Int.reduceDiv,Nat.reduceLT,Nat.reduceEqDiff,Sa,Sb,Sc,Sd,Se,Sf,Sg,Int.reduceLE,Int.reduceLT,Int.reduceToNat,Int.reduceNeg,Int.reduceEq,Nat.reduceLeDiff,Nat.reducePow,Int.reducePow,reduceIte,Nat.reduceSub,Nat.reduceAdd,Nat.reduceMul,putAt,ceq,List.replicate, *]))
    clear r20 r21 r60 r61 t1
    refine loopq_name (fun code2 kont2 T2 eM2 eK2 eT2 => ?_)
    refine loop_a 41 (fun a : Nat × List Value => [(40, .int .i64 (a.1 : Nat)), (9, a.2.getD 0 undef), (10, a.2.getD 1 undef), (11, a.2.getD 2 undef), (12, a.2.getD 3 undef), (13, a.2.getD 4 undef), (14, a.2.getD 5 undef), (15, a.2.getD 6 undef), (16, a.2.getD 7 undef), (17, a.2.getD 8 undef), (18, a.2.getD 9 undef), (19, a.2.getD 10 undef), (20, a.2.getD 11 undef)])
      (fun s F => s.1 ≤ wd ∧ ∃ a cap, HSt w0 H F b2 b4 b5 b6 z S wd ht (outB z.l f S W cw (cw * rh) wd (y * wd + s.1)) a cap) (fun s => wd - s.1) (0, [us.getD 1 undef, us.getD 2 undef, us.getD 3 undef, us.getD 4 undef, us.getD 5 undef, us.getD 6 undef, us.getD 7 undef, us.getD 8 undef, us.getD 9 undef, us.getD 10 undef, us.getD 11 undef, us.getD 12 undef]) ⟨Nat.zero_le _, a, cap, st⟩ (by subst eT2; rfl) ?_
    clear st a cap
    intro ⟨x, vs⟩ G U2 ⟨hx, a, cap, st⟩
    simp only at hx st
    rcases Nat.lt_or_ge x wd with hltx | hgex
    · have t1 : (x : Int) < (wd : Int) := by omega
      have t2 : IntKind.i64.wrap (2 * (y : Int)) = ((2 * y : Nat) : Int) := by rw [Bw.1 _ (by omega) (by omega)]; omega
      subst eM2 eK2 eT2
      show run _ _ _ _ _ _ G
      (all_goals (try simp only [Sq,Sr,Sh,Si,Sl,Bu,Bb,Bd,Bc,Bw,Bn,Int.reduceAdd,Int.reduceSub,Int.reduceMul,Int.reduceTDiv,Int.reduceTMod,Int.reduceMod,Int.reduceDiv,Nat.reduceLT,Nat.reduceEqDiff,Sa,Sb,Sc,Sd,Se,Sf,Sg,Int.reduceLE,Int.reduceLT,Int.reduceToNat,Int.reduceNeg,Int.reduceEq,Nat.reduceLeDiff,Nat.reducePow,Int.reducePow,reduceIte,Nat.reduceSub,Nat.reduceAdd,Nat.reduceMul,putAt,ceq,List.replicate, *])); repeat' ((first | (with_reducible refine fun _ : True => ?_) | (with_reducible refine any_h ?_) | ((first | refine AllocQ_i ?_ | refine AllocO_i ?_); intro bk hb0 hbk; (try simp only [set_none'] at hbk); (try (first | have hbn := Grow.none (by assumption) hbk | have hbn := Grow.none (by assumption) hbk.2 | have hbn := Grow.none (by assumption) hbk.2.2 | have hbn := Grow.none (by assumption) hbk.2.2.2 | have hbn := Grow.none (by assumption) hbk.2.2.2.2 | have hbn := Grow.none (by assumption) hbk.2.2.2.2.2)); (try simp only [set_none'] at hbn); (try (first | have hbm := Grow.none (by assumption) hbn | have hbm := Grow.none (by assumption) hbn.2 | have hbm := Grow.none (by assumption) hbn.2.2 | have hbm := Grow.none (by assumption) hbn.2.2.2 | have hbm := Grow.none (by assumption) hbn.2.2.2.2 | have hbm := Grow.none (by assumption) hbn.2.2.2.2.2)); (try simp only [set_none'] at hbm)) | ((first | refine condS_i ?_ ?_ | refine pick_i ?_ ?_ | refine gS_it ?_ ?_ | refine gS_if ?_ ?_ | refine gP_it ?_ ?_ | refine gP_if ?_ ?_) <;> (intro hc; try simp only [Int.reduceLE,Int.reduceLT,Int.reduceEq,Sn] at hc)) | (with_reducible refine KP_i ?_ ?_; · (repeat' (first | exact Heap.Le.refl _ | (with_reducible refine Le_set2 ?_) | (refine Le_known (by first | (simp only [Heap.set_same, set_ne, ne_eq, not_false_eq_true, *] <;> rfl) | fail) ?_) | (refine Le_fresh (by first | (simp only [*] <;> done) | (simp [set_none', Heap.set_same, set_ne, noneH, *] <;> done) | fail) ?_) | (refine Heap.Le.trans ?_ (Grow.le (by assumption))) | exact Le_none | (refine Le_put ?_ (by first | (simp only [Heap.set_same, set_ne, ne_eq, not_false_eq_true, *] <;> rfl) | fail)) | fail))) | (with_reducible refine And.intro ?_ ?_)) <;> (try simp only [Sq,Sr,Sh,Si,Sl,Bu,Bb,Bd,Bc,Bw,Bn,Int.reduceAdd,Int.reduceSub,Int.reduceMul,Int.reduceTDiv,Int.reduceTMod,Int.reduceMod,Int.reduceDiv,Nat.reduceLT,Nat.reduceEqDiff,Sa,Sb,Sc,Sd,Se,Sf,Sg,Int.reduceLE,Int.reduceLT,Int.reduceToNat,Int.reduceNeg,Int.reduceEq,Nat.reduceLeDiff,Nat.reducePow,Int.reducePow,reduceIte,Nat.reduceSub,Nat.reduceAdd,Nat.reduceMul,putAt,ceq,List.replicate, *]))
      refine loopq_nameb (fun code3 kont3 T3 eM3 eK3 eT3 => ?_)
      refine cut_loop (S := (Option Addr × Nat × Value × Value) × Heap) 45 (fun s => [(10, .slice s.1.1 (cw * rh) s.1.2.1), (11, s.1.2.2.1), (12, s.1.2.2.2)]) (fun s => s.2)
        (fun s => HSt w0 H s.2 b2 b4 b5 b6 z S wd ht (outB z.l f S W cw (cw * rh) wd (y * wd + x)) a cap ∧ Bld w0 H s.2 s.1.1 s.1.2.1 1 85 ((quad z.l S W cw x y (cw * rh)).map (.int .u32))) 300 550 (n' := 910) ?_ ?_ (by decide)
      · have g : Geo z f S W V cw rh wd ht := g'
        have t3 : IntKind.i64.wrap (((2 * y : Nat) : Int) + 2) = ((2 * y + 2 : Nat) : Int) := by rw [Bw.1 _ (by omega) (by omega)]; omega
        have t4 : (if z.h < ((2 * y + 2 : Nat) : Int) then z.h else ((2 * y + 2 : Nat) : Int)) = ((2 * y + rh : Nat) : Int) := by
          have := g.r
          rw [g.h]
          split <;> omega
        have u2 : IntKind.i64.wrap (2 * (x : Int)) = ((2 * x : Nat) : Int) := by rw [Bw.1 _ (by omega) (by omega)]; omega
        have u3 : IntKind.i64.wrap (((2 * x : Nat) : Int) + 2) = ((2 * x + 2 : Nat) : Int) := by rw [Bw.1 _ (by omega) (by omega)]; omega
        have u4 : (if z.w < ((2 * x + 2 : Nat) : Int) then z.w else ((2 * x + 2 : Nat) : Int)) = ((2 * x + cw : Nat) : Int) := by
          have := g.c
          rw [g.w]
          split <;> omega
        refine loop_a 45 (fun s : Nat × Option Addr × Nat × Value => [(10, .slice s.2.1 (cw * s.1) s.2.2.1), (11, .int .i64 ((2 * y + s.1 : Nat) : Int)), (12, s.2.2.2)])
          (fun s F => s.1 ≤ rh ∧ HSt w0 H F b2 b4 b5 b6 z S wd ht (outB z.l f S W cw (cw * rh) wd (y * wd + x)) a cap ∧ Bld w0 H F s.2.1 s.2.2.1 1 85 ((quad z.l S W cw x y (cw * s.1)).map (.int .u32)))
          (fun s => rh - s.1) (0, none, 0, vs.getD 3 undef) ⟨Nat.zero_le _, st, Bld.none⟩ (by subst eT3; rfl) ?_
        clear st g
        intro ⟨j, a4, c4, v12⟩ F U3 ⟨hj, st, hB⟩
        simp only at hj st hB
        obtain ⟨r20, r21, r60, r61⟩ := st.rds
        rcases Nat.lt_or_ge j rh with hltj | hgej
        · have t5 : ((2 * y + j : Nat) : Int) < ((2 * y + rh : Nat) : Int) := by omega
          subst eM3 eK3 eT3
          show run _ _ _ _ _ _ F
          (all_goals (try simp only [Sq,Sr,Sh,Si,Sl,Bu,Bb,Bd,Bc,Bw,Bn,Int.reduceAdd,Int.reduceSub,Int.reduceMul,Int.reduceTDiv,Int.reduceTMod,Int.reduceMod,Int.reduceDiv,Nat.reduceLT,Nat.reduceEqDiff,Sa,Sb,Sc,Sd,Se,Sf,Sg,Int.reduceLE,Int.reduceLT,Int.reduceToNat,Int.reduceNeg,Int.reduceEq,Nat.reduceLeDiff,Nat.reducePow,Int.reducePow,reduceIte,Nat.reduceSub,Nat.reduceAdd,Nat.reduceMul,putAt,ceq,List.replicate, *])); repeat' ((first | (with_reducible refine fun _ : True => ?_) | (with_reducible refine any_h ?_) | ((first | refine AllocQ_i ?_ | refine AllocO_i ?_); intro bk hb0 hbk; (try simp only [set_none'] at hbk); (try (first | have hbn := Grow.none (by assumption) hbk | have hbn := Grow.none (by assumption) hbk.2 | have hbn := Grow.none (by assumption) hbk.2.2 | have hbn := Grow.none (by assumption) hbk.2.2.2 | have hbn := Grow.none (by assumption) hbk.2.2.2.2 | have hbn := Grow.none (by assumption) hbk.2.2.2.2.2)); (try simp only [set_none'] at hbn); (try (first | have hbm := Grow.none (by assumption) hbn | have hbm := Grow.none (by assumption) hbn.2 | have hbm := Grow.none (by assumption) hbn.2.2 | have hbm := Grow.none (by assumption) hbn.2.2.2 | have hbm := Grow.none (by assumption) hbn.2.2.2.2 | have hbm := Grow.none (by assumption) hbn.2.2.2.2.2)); (try simp only [set_none'] at hbm)) | ((first | refine condS_i ?_ ?_ | refine pick_i ?_ ?_ | refine gS_it ?_ ?_ | refine gS_if ?_ ?_ | refine gP_it ?_ ?_ | refine gP_if ?_ ?_) <;> (intro hc; try simp only [Int.reduceLE,Int.reduceLT,Int.reduceEq,Sn] at hc)) | (with_reducible refine KP_i ?_ ?_; · (repeat' (first | exact Heap.Le.refl _ | (with_reducible refine Le_set2 ?_) | (refine Le_known (by first | (simp only [Heap.set_same, set_ne, ne_eq, not_false_eq_true, *] <;> rfl) | fail) ?_) | (refine Le_fresh (by first | (simp only [*] <;> done) | (simp [set_none', Heap.set_same, set_ne, noneH, *] <;> done) | fail) ?_) | (refine Heap.Le.trans ?_ (Grow.le (by assumption))) | exact Le_none | (refine Le_put ?_ (by first | (simp only [Heap.set_same, set_ne, ne_eq, not_false_eq_true, *] <;> rfl) | fail)) | fail))) | (with_reducible refine And.intro ?_ ?_)) <;> (try simp only [Sq,Sr,Sh,Si,Sl,Bu,Bb,Bd,Bc,Bw,Bn,Int.reduceAdd,Int.reduceSub,Int.reduceMul,Int.reduceTDiv,Int.reduceTMod,Int.reduceMod,Int.reduceDiv,Nat.reduceLT,Nat.reduceEqDiff,Sa,Sb,Sc,Sd,Se,Sf,Sg,Int.reduceLE,Int.reduceLT,Int.reduceToNat,Int.reduceNeg,Int.reduceEq,Nat.reduceLeDiff,Nat.reducePow,Int.reducePow,reduceIte,Nat.reduceSub,Nat.reduceAdd,Nat.reduceMul,putAt,ceq,List.replicate, *]))
          clear r20 r21 r60 r61 t5
          refine loopq_name (fun code4 kont4 T4 eM4 eK4 eT4 => ?_)
          refine loop_a 45 (fun s : Nat × Option Addr × Nat => [(10, .slice s.2.1 (cw * j + s.1) s.2.2), (12, .int .i64 ((2 * x + s.1 : Nat) : Int))])
            (fun s F => s.1 ≤ cw ∧ HSt w0 H F b2 b4 b5 b6 z S wd ht (outB z.l f S W cw (cw * rh) wd (y * wd + x)) a cap ∧ Bld w0 H F s.2.1 s.2.2 1 85 ((quad z.l S W cw x y (cw * j + s.1)).map (.int .u32)))
            (fun s => cw - s.1) (0, a4, c4) ⟨Nat.zero_le _, st, hB⟩ (by subst eT4; rfl) ?_
          clear st hB
          intro ⟨i, a4, c4⟩ F U4 ⟨hi, st, hB⟩
          simp only at hi st hB
          obtain ⟨r20, r21, r60, r61⟩ := st.rds
          rcases Nat.lt_or_ge i cw with hlti | hgei
          · have g : Geo z f S W V cw rh wd ht := g'
            have t5 : ((2 * x + i : Nat) : Int) < ((2 * x + cw : Nat) : Int) := by omega
            have t6 : IntKind.i64.wrap (((2 * x + i : Nat) : Int) + 1) = ((2 * x + (i + 1) : Nat) : Int) := by rw [Bw.1 _ (by omega) (by omega)]; omega
            have gc := g.c
            have gr := g.r
            have i1 : 2 * y + j < V := by omega
            have i2 : 2 * x + i < W := by omega
            have i3 : ((2 * y + j) * W + (2 * x + i) + 1) * S ≤ z.l.length := by
              rw [g.len]
              refine Nat.mul_le_mul_right _ ?_
              have : (2 * y + j + 1) * W ≤ V * W := Nat.mul_le_mul_right _ i1
              rw [Nat.succ_mul] at this
              rw [Nat.mul_comm W V]
              omega
            have cN := fun (K : Value → Heap → Prop) => c_number (w0 := w0) (H := F) (K := K) b2 b5 z S ((2 * x + i : Nat) : Int) ((2 * y + j : Nat) : Int) st.k2 st.k5 (hz.grow st.g) ((2 * y + j) * W + (2 * x + i)) ⟨by omega, by have := g.wb; omega⟩ ⟨by omega, by have := g.vb; omega⟩ ⟨by rw [g.w]; have := g.wb; omega, by rw [g.w]; have := g.wb; omega⟩ g.s1 (by rw [g.w]; simp) i3
            obtain ⟨v, ev⟩ : ∃ v, num ((z.l.drop (((2 * y + j) * W + (2 * x + i)) * S)).take S) = v := ⟨_, rfl⟩
            rw [ev] at cN
            have eq : quad z.l S W cw x y (cw * j + (i + 1)) = quad z.l S W cw x y (cw * j + i) ++ [v] := by
              rw [← Nat.add_assoc, quad_succ, Nat.mul_add_div (by omega), Nat.mul_add_mod, Nat.div_eq_of_lt hlti, Nat.mod_eq_of_lt hlti, Nat.add_zero, ← ev]
              rfl
            have i4 : cw * j + i ≤ 1000 := by
              have : cw * j ≤ 2 * 2 := Nat.mul_le_mul (by omega) (by omega)
              omega
            clear ev i1 i2 i3 gc gr g
            subst eM4 eK4 eT4
            show run _ _ _ _ _ _ F
            (all_goals (try simp only [Sq,Sr,Sh,Si,Sl,Bu,Bb,Bd,Bc,Bw,Bn,Int.reduceAdd,Int.reduceSub,Int.reduceMul,Int.reduceTDiv,Int.reduceTMod,Int.reduceMod,Int.reduceDiv,Nat.reduceLT,Nat.reduceEqDiff,Sa,Sb,Sc,Sd,Se,Sf,Sg,Int.reduceLE,Int.reduceLT,Int.reduceToNat,Int.reduceNeg,Int.reduceEq,Nat.reduceLeDiff,Nat.reducePow,Int.reducePow,reduceIte,Nat.reduceSub,Nat.reduceAdd,Nat.reduceMul,putAt,ceq,List.replicate, *])); repeat' ((first | (with_reducible refine fun _ : True => ?_) | refine cN _ ?_ | (with_reducible refine any_h ?_) | ((first | refine AllocQ_i ?_ | refine AllocO_i ?_); intro bk hb0 hbk; (try simp only [set_none'] at hbk); (try (first | have hbn := Grow.none (by assumption) hbk | have hbn := Grow.none (by assumption) hbk.2 | have hbn := Grow.none (by assumption) hbk.2.2 | have hbn := Grow.none (by assumption) hbk.2.2.2 | have hbn := Grow.none (by assumption) hbk.2.2.2.2 | have hbn := Grow.none (by assumption) hbk.2.2.2.2.2)); (try simp only [set_none'] at hbn); (try (first | have hbm := Grow.none (by assumption) hbn | have hbm := Grow.none (by assumption) hbn.2 | have hbm := Grow.none (by assumption) hbn.2.2 | have hbm := Grow.none (by assumption) hbn.2.2.2 | have hbm := Grow.none (by assumption) hbn.2.2.2.2 | have hbm := Grow.none (by assumption) hbn.2.2.2.2.2)); (try simp only [set_none'] at hbm)) | ((first | refine condS_i ?_ ?_ | refine pick_i ?_ ?_ | refine gS_it ?_ ?_ | refine gS_if ?_ ?_ | refine gP_it ?_ ?_ | refine gP_if ?_ ?_) <;> (intro hc; try simp only [Int.reduceLE,Int.reduceLT,Int.reduceEq,Sn] at hc)) | (with_reducible refine KP_i ?_ ?_; · (repeat' (first | exact Heap.Le.refl _ | (with_reducible refine Le_set2 ?_) | (refine Le_known (by first | (simp only [Heap.set_same, set_ne, ne_eq, not_false_eq_true, *] <;> rfl) | fail) ?_) | (refine Le_fresh (by first | (simp only [*] <;> done) | (simp [set_none', Heap.set_same, set_ne, noneH, *] <;> done) | fail) ?_) | (refine Heap.Le.trans ?_ (Grow.le (by assumption))) | exact Le_none | (refine Le_put ?_ (by first | (simp only [Heap.set_same, set_ne, ne_eq, not_false_eq_true, *] <;> rfl) | fail)) | fail))) | (with_reducible refine And.intro ?_ ?_)) <;> (try simp only [Sq,Sr,Sh,Si,Sl,Bu,Bb,Bd,Bc,Bw,Bn,Int.reduceAdd,Int.reduceSub,Int.reduceMul,Int.reduceTDiv,Int.reduceTMod,Int.reduceMod,Int.reduceDiv,Nat.reduceLT,Nat.reduceEqDiff,Sa,Sb,Sc,Sd,Se,Sf,Sg,Int.reduceLE,Int.reduceLT,Int.reduceToNat,Int.reduceNeg,Int.reduceEq,Nat.reduceLeDiff,Nat.reducePow,Int.reducePow,reduceIte,Nat.reduceSub,Nat.reduceAdd,Nat.reduceMul,putAt,ceq,List.replicate, *]))
            refine app_bld (H := H) (n := cw * j + i) (cs := (quad z.l S W cw x y (cw * j + i)).map (.int .u32)) (ns := [.int .u32 v]) (hB.grow (Grow.set (Grow.refl _) hb0 hbk)) (by rw [List.length_map, quad_len, Nat.mul_one]) rfl (srd_blk (Heap.set_same _ _ _) rfl) rfl (st.g.set hb0 (st.g.none hbk)) ⟨by omega, by omega⟩ rfl fun a5 c5 F2 hB2 hg2 hk2 _ => ?_
            have st2 : HSt w0 H F2 b2 b4 b5 b6 z S wd ht (outB z.l f S W cw (cw * rh) wd (y * wd + x)) a cap := st.keep (t := 85) (by decide) (fun c x hc hx => hk2 c x (by rw [Heap.set_other _ _ (fun e => by subst e; rw [hbk] at hc; cases hc)]; exact hc) (fun e => absurd e hx)) hg2
            have hB3 : Bld w0 H F2 a5 c5 1 85 ((quad z.l S W cw x y (cw * j + (i + 1))).map (.int .u32)) := by rw [eq, List.map_append]; exact hB2
            clear hB2 hB st hg2 hk2
            (all_goals (try simp only [Sq,Sr,Sh,Si,Sl,Bu,Bb,Bd,Bc,Bw,Bn,Int.reduceAdd,Int.reduceSub,Int.reduceMul,Int.reduceTDiv,Int.reduceTMod,Int.reduceMod,Int.reduceDiv,Nat.reduceLT,Nat.reduceEqDiff,Sa,Sb,Sc,Sd,Se,Sf,Sg,Int.reduceLE,Int.reduceLT,Int.reduceToNat,Int.reduceNeg,Int.reduceEq,Nat.reduceLeDiff,Nat.reducePow,Int.reducePow,reduceIte,Nat.reduceSub,Nat.reduceAdd,Nat.reduceMul,putAt,ceq,List.replicate, *])); repeat' ((first | (with_reducible refine fun _ : True => ?_) | (with_reducible refine any_h ?_) | ((first | refine AllocQ_i ?_ | refine AllocO_i ?_); intro bk hb0 hbk; (try simp only [set_none'] at hbk); (try (first | have hbn := Grow.none (by assumption) hbk | have hbn := Grow.none (by assumption) hbk.2 | have hbn := Grow.none (by assumption) hbk.2.2 | have hbn := Grow.none (by assumption) hbk.2.2.2 | have hbn := Grow.none (by assumption) hbk.2.2.2.2 | have hbn := Grow.none (by assumption) hbk.2.2.2.2.2)); (try simp only [set_none'] at hbn); (try (first | have hbm := Grow.none (by assumption) hbn | have hbm := Grow.none (by assumption) hbn.2 | have hbm := Grow.none (by assumption) hbn.2.2 | have hbm := Grow.none (by assumption) hbn.2.2.2 | have hbm := Grow.none (by assumption) hbn.2.2.2.2 | have hbm := Grow.none (by assumption) hbn.2.2.2.2.2)); (try simp only [set_none'] at hbm)) | ((first | refine condS_i ?_ ?_ | refine pick_i ?_ ?_ | refine gS_it ?_ ?_ | refine gS_if ?_ ?_ | refine gP_it ?_ ?_ | refine gP_if ?_ ?_) <;> (intro hc; try simp only [Int.reduceLE,Int.reduceLT,Int.reduceEq,Sn] at hc)) | (with_reducible refine KP_i ?_ ?_; · (repeat' (first | exact Heap.Le.refl _ | (with_reducible refine Le_set2 ?_) | (refine Le_known (by first | (simp only [Heap.set_same, set_ne, ne_eq, not_false_eq_true, *] <;> rfl) | fail) ?_) | (refine Le_fresh (by first | (simp only [*] <;> done) | (simp [set_none', Heap.set_same, set_ne, noneH, *] <;> done) | fail) ?_) | (refine Heap.Le.trans ?_ (Grow.le (by assumption))) | exact Le_none | (refine Le_put ?_ (by first | (simp only [Heap.set_same, set_ne, ne_eq, not_false_eq_true, *] <;> rfl) | fail)) | fail))) | (with_reducible refine And.intro ?_ ?_)) <;> (try simp only [Sq,Sr,Sh,Si,Sl,Bu,Bb,Bd,Bc,Bw,Bn,Int.reduceAdd,Int.reduceSub,Int.reduceMul,Int.reduceTDiv,Int.reduceTMod,Int.reduceMod,Int.reduceDiv,Nat.reduceLT,Nat.reduceEqDiff,Sa,Sb,Sc,Sd,Se,Sf,Sg,Int.reduceLE,Int.reduceLT,Int.reduceToNat,Int.reduceNeg,Int.reduceEq,Nat.reduceLeDiff,Nat.reducePow,Int.reducePow,reduceIte,Nat.reduceSub,Nat.reduceAdd,Nat.reduceMul,putAt,ceq,List.replicate, *]))
            exact Round_p (i + 1, a5, c5) ⟨hlti, st2, hB3⟩ (by simp only; omega) rfl rfl
          · have e : i = cw := by omega
            subst i
            have t5 : ¬ ((2 * x + cw : Nat) : Int) < ((2 * x + cw : Nat) : Int) := by omega
            have t6 : IntKind.i64.wrap (((2 * y + j : Nat) : Int) + 1) = ((2 * y + (j + 1) : Nat) : Int) := by rw [Bw.1 _ (by omega) (by omega)]; omega
            subst eM4 eK4 eT4
            show run _ _ _ _ _ _ F
            (all_goals (try simp only [Sq,Sr,Sh,Si,Sl,Bu,Bb,Bd,Bc,Bw,Bn,Int.reduceAdd,Int.reduceSub,Int.reduceMul,Int.reduceTDiv,Int.reduceTMod,Int.reduceMod,Int.reduceDiv,Nat.reduceLT,Nat.reduceEqDiff,Sa,Sb,Sc,Sd,Se,Sf,Sg,Int.reduceLE,Int.reduceLT,Int.reduceToNat,Int.reduceNeg,Int.reduceEq,Nat.reduceLeDiff,Nat.reducePow,Int.reducePow,reduceIte,Nat.reduceSub,Nat.reduceAdd,Nat.reduceMul,putAt,ceq,List.replicate, *])); repeat' ((first | (with_reducible refine fun _ : True => ?_) | (with_reducible refine any_h ?_) | ((first | refine AllocQ_i ?_ | refine AllocO_i ?_); intro bk hb0 hbk; (try simp only [set_none'] at hbk); (try (first | have hbn := Grow.none (by assumption) hbk | have hbn := Grow.none (by assumption) hbk.2 | have hbn := Grow.none (by assumption) hbk.2.2 | have hbn := Grow.none (by assumption) hbk.2.2.2 | have hbn := Grow.none (by assumption) hbk.2.2.2.2 | have hbn := Grow.none (by assumption) hbk.2.2.2.2.2)); (try simp only [set_none'] at hbn); (try (first | have hbm := Grow.none (by assumption) hbn | have hbm := Grow.none (by assumption) hbn.2 | have hbm := Grow.none (by assumption) hbn.2.2 | have hbm := Grow.none (by assumption) hbn.2.2.2 | have hbm := Grow.none (by assumption) hbn.2.2.2.2 | have hbm := Grow.none (by assumption) hbn.2.2.2.2.2)); (try simp only [set_none'] at hbm)) | ((first | refine condS_i ?_ ?_ | refine pick_i ?_ ?_ | refine gS_it ?_ ?_ | refine gS_if ?_ ?_ | refine gP_it ?_ ?_ | refine gP_if ?_ ?_) <;> (intro hc; try simp only [Int.reduceLE,Int.reduceLT,Int.reduceEq,Sn] at hc)) | (with_reducible refine KP_i ?_ ?_; · (repeat' (first | exact Heap.Le.refl _ | (with_reducible refine Le_set2 ?_) | (refine Le_known (by first | (simp only [Heap.set_same, set_ne, ne_eq, not_false_eq_true, *] <;> rfl) | fail) ?_) | (refine Le_fresh (by first | (simp only [*] <;> done) | (simp [set_none', Heap.set_same, set_ne, noneH, *] <;> done) | fail) ?_) | (refine Heap.Le.trans ?_ (Grow.le (by assumption))) | exact Le_none | (refine Le_put ?_ (by first | (simp only [Heap.set_same, set_ne, ne_eq, not_false_eq_true, *] <;> rfl) | fail)) | fail))) | (with_reducible refine And.intro ?_ ?_)) <;> (try simp only [Sq,Sr,Sh,Si,Sl,Bu,Bb,Bd,Bc,Bw,Bn,Int.reduceAdd,Int.reduceSub,Int.reduceMul,Int.reduceTDiv,Int.reduceTMod,Int.reduceMod,Int.reduceDiv,Nat.reduceLT,Nat.reduceEqDiff,Sa,Sb,Sc,Sd,Se,Sf,Sg,Int.reduceLE,Int.reduceLT,Int.reduceToNat,Int.reduceNeg,Int.reduceEq,Nat.reduceLeDiff,Nat.reducePow,Int.reducePow,reduceIte,Nat.reduceSub,Nat.reduceAdd,Nat.reduceMul,putAt,ceq,List.replicate, *]))
            exact Round_p (j + 1, a4, c4, _) ⟨hltj, st, hB⟩ (by simp only; omega) rfl rfl
        · have e : j = rh := by omega
          subst j
          have t5 : ¬ ((2 * y + rh : Nat) : Int) < ((2 * y + rh : Nat) : Int) := by omega
          subst eM3 eK3 eT3
          show run _ _ _ _ _ _ F
          (all_goals (try simp only [Sq,Sr,Sh,Si,Sl,Bu,Bb,Bd,Bc,Bw,Bn,Int.reduceAdd,Int.reduceSub,Int.reduceMul,Int.reduceTDiv,Int.reduceTMod,Int.reduceMod,Int.reduceDiv,Nat.reduceLT,Nat.reduceEqDiff,Sa,Sb,Sc,Sd,Se,Sf,Sg,Int.reduceLE,Int.reduceLT,Int.reduceToNat,Int.reduceNeg,Int.reduceEq,Nat.reduceLeDiff,Nat.reducePow,Int.reducePow,reduceIte,Nat.reduceSub,Nat.reduceAdd,Nat.reduceMul,putAt,ceq,List.replicate, *])); repeat' ((first | (with_reducible refine fun _ : True => ?_) | (with_reducible refine any_h ?_) | ((first | refine AllocQ_i ?_ | refine AllocO_i ?_); intro bk hb0 hbk; (try simp only [set_none'] at hbk); (try (first | have hbn := Grow.none (by assumption) hbk | have hbn := Grow.none (by assumption) hbk.2 | have hbn := Grow.none (by assumption) hbk.2.2 | have hbn := Grow.none (by assumption) hbk.2.2.2 | have hbn := Grow.none (by assumption) hbk.2.2.2.2 | have hbn := Grow.none (by assumption) hbk.2.2.2.2.2)); (try simp only [set_none'] at hbn); (try (first | have hbm := Grow.none (by assumption) hbn | have hbm := Grow.none (by assumption) hbn.2 | have hbm := Grow.none (by assumption) hbn.2.2 | have hbm := Grow.none (by assumption) hbn.2.2.2 | have hbm := Grow.none (by assumption) hbn.2.2.2.2 | have hbm := Grow.none (by assumption) hbn.2.2.2.2.2)); (try simp only [set_none'] at hbm)) | ((first | refine condS_i ?_ ?_ | refine pick_i ?_ ?_ | refine gS_it ?_ ?_ | refine gS_if ?_ ?_ | refine gP_it ?_ ?_ | refine gP_if ?_ ?_) <;> (intro hc; try simp only [Int.reduceLE,Int.reduceLT,Int.reduceEq,Sn] at hc)) | (with_reducible refine KP_i ?_ ?_; · (repeat' (first | exact Heap.Le.refl _ | (with_reducible refine Le_set2 ?_) | (refine Le_known (by first | (simp only [Heap.set_same, set_ne, ne_eq, not_false_eq_true, *] <;> rfl) | fail) ?_) | (refine Le_fresh (by first | (simp only [*] <;> done) | (simp [set_none', Heap.set_same, set_ne, noneH, *] <;> done) | fail) ?_) | (refine Heap.Le.trans ?_ (Grow.le (by assumption))) | exact Le_none | (refine Le_put ?_ (by first | (simp only [Heap.set_same, set_ne, ne_eq, not_false_eq_true, *] <;> rfl) | fail)) | fail))) | (with_reducible refine And.intro ?_ ?_)) <;> (try simp only [Sq,Sr,Sh,Si,Sl,Bu,Bb,Bd,Bc,Bw,Bn,Int.reduceAdd,Int.reduceSub,Int.reduceMul,Int.reduceTDiv,Int.reduceTMod,Int.reduceMod,Int.reduceDiv,Nat.reduceLT,Nat.reduceEqDiff,Sa,Sb,Sc,Sd,Se,Sf,Sg,Int.reduceLE,Int.reduceLT,Int.reduceToNat,Int.reduceNeg,Int.reduceEq,Nat.reduceLeDiff,Nat.reducePow,Int.reducePow,reduceIte,Nat.reduceSub,Nat.reduceAdd,Nat.reduceMul,putAt,ceq,List.replicate, *]))
          exact Meet_p (a4, c4, _, _) ⟨st, hB⟩ rfl rfl
      · clear st
        intro ⟨⟨a4, c4, v11, v12⟩, F⟩ U3 ⟨st, hB⟩
        simp only at st hB
        have g : Geo z f S W V cw rh wd ht := g'
        have cC := fun (G : Heap) (K : Value → Heap → Prop) => c_channels (w0 := w0) (H := G) (K := K) f (by rw [g.s]; have := g.s1; omega)
        subst eM3 eK3 eT3
        show run _ _ _ _ _ _ F
        (all_goals (try simp only [Sq,Sr,Sh,Si,Sl,Bu,Bb,Bd,Bc,Bw,Bn,Int.reduceAdd,Int.reduceSub,Int.reduceMul,Int.reduceTDiv,Int.reduceTMod,Int.reduceMod,Int.reduceDiv,Nat.reduceLT,Nat.reduceEqDiff,Sa,Sb,Sc,Sd,Se,Sf,Sg,Int.reduceLE,Int.reduceLT,Int.reduceToNat,Int.reduceNeg,Int.reduceEq,Nat.reduceLeDiff,Nat.reducePow,Int.reducePow,reduceIte,Nat.reduceSub,Nat.reduceAdd,Nat.reduceMul,putAt,ceq,List.replicate, *])); repeat' ((first | (with_reducible refine fun _ : True => ?_) | refine cC _ _ (fun b7 n7 c7 F' hg7 hI7 e7 => ?_)  | (with_reducible refine any_h ?_) | ((first | refine AllocQ_i ?_ | refine AllocO_i ?_); intro bk hb0 hbk; (try simp only [set_none'] at hbk); (try (first | have hbn := Grow.none (by assumption) hbk | have hbn := Grow.none (by assumption) hbk.2 | have hbn := Grow.none (by assumption) hbk.2.2 | have hbn := Grow.none (by assumption) hbk.2.2.2 | have hbn := Grow.none (by assumption) hbk.2.2.2.2 | have hbn := Grow.none (by assumption) hbk.2.2.2.2.2)); (try simp only [set_none'] at hbn); (try (first | have hbm := Grow.none (by assumption) hbn | have hbm := Grow.none (by assumption) hbn.2 | have hbm := Grow.none (by assumption) hbn.2.2 | have hbm := Grow.none (by assumption) hbn.2.2.2 | have hbm := Grow.none (by assumption) hbn.2.2.2.2 | have hbm := Grow.none (by assumption) hbn.2.2.2.2.2)); (try simp only [set_none'] at hbm)) | ((first | refine condS_i ?_ ?_ | refine pick_i ?_ ?_ | refine gS_it ?_ ?_ | refine gS_if ?_ ?_ | refine gP_it ?_ ?_ | refine gP_if ?_ ?_) <;> (intro hc; try simp only [Int.reduceLE,Int.reduceLT,Int.reduceEq,Sn] at hc)) | (with_reducible refine KP_i ?_ ?_; · (repeat' (first | exact Heap.Le.refl _ | (with_reducible refine Le_set2 ?_) | (refine Le_known (by first | (simp only [Heap.set_same, set_ne, ne_eq, not_false_eq_true, *] <;> rfl) | fail) ?_) | (refine Le_fresh (by first | (simp only [*] <;> done) | (simp [set_none', Heap.set_same, set_ne, noneH, *] <;> done) | fail) ?_) | (refine Heap.Le.trans ?_ (Grow.le (by assumption))) | exact Le_none | (refine Le_put ?_ (by first | (simp only [Heap.set_same, set_ne, ne_eq, not_false_eq_true, *] <;> rfl) | fail)) | fail))) | (with_reducible refine And.intro ?_ ?_)) <;> (try simp only [Sq,Sr,Sh,Si,Sl,Bu,Bb,Bd,Bc,Bw,Bn,Int.reduceAdd,Int.reduceSub,Int.reduceMul,Int.reduceTDiv,Int.reduceTMod,Int.reduceMod,Int.reduceDiv,Nat.reduceLT,Nat.reduceEqDiff,Sa,Sb,Sc,Sd,Se,Sf,Sg,Int.reduceLE,Int.reduceLT,Int.reduceToNat,Int.reduceNeg,Int.reduceEq,Nat.reduceLeDiff,Nat.reducePow,Int.reducePow,reduceIte,Nat.reduceSub,Nat.reduceAdd,Nat.reduceMul,putAt,ceq,List.replicate, *]))
        clear cC
        have st7 : HSt w0 H F' b2 b4 b5 b6 z S wd ht (outB z.l f S W cw (cw * rh) wd (y * wd + x)) a cap := st.grow hg7
        obtain ⟨ns, en⟩ : ∃ ns, quad z.l S W cw x y (cw * rh) = ns := ⟨_, rfl⟩
        have hI4 : IntsAt w0 F' .u32 a4 ns := by rw [← en]; exact SlAt.toInts (hB.grow hg7).slAt
        have hq4 : 1 ≤ cw * rh ∧ cw * rh ≤ 4 := by
          have := g.c
          have := g.r
          rcases (show (cw = 1 ∨ cw = 2) ∧ (rh = 1 ∨ rh = 2) by omega) with ⟨rfl | rfl, rfl | rfl⟩ <;> decide
        have hnl : ns.length = cw * rh := by rw [← en, quad_len]
        have hnb : ∀ v ∈ ns, 0 ≤ v ∧ v < 4294967296 := by rw [← en]; exact quad_b hz.by_ g.s1.2 W cw x y _
        obtain ⟨ks, ek⟩ : ∃ ks, chs f = ks := ⟨_, rfl⟩
        have hk1 := chs_at f
        have hk2 := chs_all f
        rw [ek] at hk1 hk2
        have hcl : ks.length = (chsV f).length := by rw [← ek]; unfold chsV; rw [List.length_map]
        have hrk : ∀ i, i < ks.length → rd1 w0 F' b7 i = some (.int .i64 (ks.getD i 0 : Nat)) := fun i hi => by
          obtain ⟨b, o, e, hr, -⟩ := ints_get hI7 (by rw [← hcl]; omega)
          cases e
          have := hr i (ks.getD i 0 : Nat) (by unfold chsV; rw [ek, List.getElem?_map, List.getElem?_eq_getElem hi]; simp [List.getD, hi])
          rw [Nat.zero_add] at this
          exact this
        have hrn : ∀ i v, ns[i]? = some v → ∃ b o, a4 = some ⟨b, o, none⟩ ∧ rd1 w0 F' b (o + i) = some (.int .u32 v) := fun i v hv => by
          obtain ⟨b, o, e, hr, -⟩ := ints_get hI4 (by have := (List.getElem?_eq_some_iff.1 hv).1; omega)
          exact ⟨b, o, e, hr i v hv⟩
        clear hI7 hI4 st hB hg7 g
        replace hcl : Keep _ := hcl
        refine loopq_nameb (fun code3 kont3 T3 eM3 eK3 eT3 => ?_)
        refine cut_loop (S := List Value × Heap) 74 (fun s => [(13, .int .u32 (mP ks ns ks.length)), (14, s.1.getD 0 undef), (15, s.1.getD 1 undef), (16, s.1.getD 2 undef), (17, s.1.getD 3 undef), (18, s.1.getD 4 undef), (19, s.1.getD 5 undef)]) (fun s => s.2) (fun s => s.2 = F') 250 280 (n' := 535) ?_ ?_ (by decide)
        · clear st7
          refine loop_a 78 (fun s : Nat × List Value => [(77, .int .i64 (s.1 : Nat)), (13, .int .u32 (mP ks ns s.1)), (14, .int .i64 (atP ks s.1 : Nat)), (16, s.2.getD 0 undef), (17, s.2.getD 1 undef), (19, s.2.getD 2 undef)])
            (fun s F => s.1 ≤ ks.length ∧ F = F') (fun s => ks.length - s.1) (0, [vs.getD 7 undef, vs.getD 8 undef, vs.getD 10 undef]) ⟨Nat.zero_le _, rfl⟩ (by subst eT3; rfl) ?_
          intro ⟨j, ws⟩ F2 U4 ⟨hj, eF⟩
          subst eF
          simp only at hj
          rcases Nat.lt_or_ge j ks.length with hltj | hgej
          · have t5 : (j : Int) < ((chsV f).length : Int) := by rw [← show ks.length = (chsV f).length from hcl]; omega
            have r1 := hrk j hltj
            obtain ⟨k1, k2, k3⟩ := hk1 j hltj
            have m1 := mP_b ks ns (by omega) j hj
            have m2 := chM_b ns (atP ks j) (ks.getD j 0) (by omega)
            have e1 : mP ks ns (j + 1) = mP ks ns j + chM ns (atP ks j) (ks.getD j 0) * 2 ^ (atP ks j) := rfl
            have e2 := atP_succ ks hltj
            have m3 := mP_b ks ns (by omega) (j + 1) hltj
            have m4 : (2 : Int) ^ (atP ks (j + 1)) ≤ 4294967296 := p2_le (hk2.2 _ hltj)
            obtain ⟨k, ek⟩ : ∃ k, ks.getD j 0 = k := ⟨_, rfl⟩
            obtain ⟨aa, ea⟩ : ∃ aa, atP ks j = aa := ⟨_, rfl⟩
            rw [ek] at r1 k1 k2 k3 m2 e1 e2
            rw [ea] at k1 m1 m2 e1 e2
            obtain ⟨M, eM⟩ : ∃ M, mP ks ns j = M := ⟨_, rfl⟩
            rw [eM] at m1 e1
            have d1 : IntKind.i64.wrap (((cw * rh : Nat) : Int).tdiv 2) = ((cw * rh / 2 : Nat) : Int) := by rw [Int.tdiv_eq_ediv_of_nonneg (by omega), Bw.1 _ (by omega) (by omega)]; omega
            have d2 : IntKind.u32.wrap ((cw * rh / 2 : Nat) : Int) = ((cw * rh / 2 : Nat) : Int) := Bu.2.1 _ (by omega) (by omega)
            have a1 : aa ≤ 32 := by omega
            have a2 : k ≤ 32 := by omega
            have p1 := p2 k
            have p3 : (2 : Int) ^ k ≤ 256 := by
              rcases (show k = 0 ∨ k = 1 ∨ k = 2 ∨ k = 3 ∨ k = 4 ∨ k = 5 ∨ k = 6 ∨ k = 7 ∨ k = 8 by omega) with rfl | rfl | rfl | rfl | rfl | rfl | rfl | rfl | rfl <;> decide
            have f1 : IntKind.u32.wrap (2 ^ k) = 2 ^ k := Bu.2.1 _ (by omega) (by omega)
            have f2 : IntKind.u32.wrap (2 ^ k - 1) = 2 ^ k - 1 := Bu.2.1 _ (by omega) (by omega)
            have c1 : 0 ≤ chM ns aa k * 2 ^ aa := Int.mul_nonneg m2.1 (by have := p2 aa; omega)
            have f3 : IntKind.u32.wrap (chM ns aa k * 2 ^ aa) = chM ns aa k * 2 ^ aa := Bu.2.1 _ (by omega) (by omega)
            have f4 : bitsI .or .u32 M (chM ns aa k * 2 ^ aa) = mP ks ns (j + 1) := by rw [e1]; exact or_shl _ _ _ m1.1 m1.2 m2.1 (by omega)
            have f5 : IntKind.i64.wrap ((aa : Int) + (k : Int)) = ((atP ks (j + 1) : Nat) : Int) := by rw [e2, Bw.1 _ (by omega) (by omega)]; omega
            have f6 : IntKind.u32.wrap ((cw * rh : Nat) : Int) = ((cw * rh : Nat) : Int) := Bu.2.1 _ (by omega) (by omega)
            have f7 : IntKind.i64.wrap ((j : Int) + 1) = ((j + 1 : Nat) : Int) := by rw [Bw.1 _ (by omega) (by omega)]; omega
            have sb := fun (i : Nat) (hi : i ≤ cw * rh) => sG_b aa k ns k2 (by omega) (s := ((cw * rh / 2 : Nat) : Int)) (by omega) (i := i) (by omega)
            have sa : IntKind.u32.wrap ((sG aa k ns ((cw * rh / 2 : Nat) : Int) (cw * rh)).tdiv ((cw * rh : Nat) : Int)) = chM ns aa k := by
              rw [Int.tdiv_eq_ediv_of_nonneg (sb _ (Nat.le_refl _)).1, ← hnl, sG_all]
              exact Bu.2.1 _ m2.1 (by omega)
            have sb' : Keep _ := sb
            have hnb' : Keep _ := hnb
            have hrn' : Keep _ := hrn
            have hnl' : Keep _ := hnl
            have ek' : Keep _ := ek
            have ea' : Keep _ := ea
            clear hrk sb m1 m2 m3 m4 e1 e2 c1 p1 p3 hk1 hnb hrn hnl
            subst eM3 eK3 eT3
            show run _ _ _ _ _ _ F2
            (all_goals (try simp only [Sq,Sr,Sh,Si,Sl,Bu,Bb,Bd,Bc,Bw,Bn,Int.reduceAdd,Int.reduceSub,Int.reduceMul,Int.reduceTDiv,Int.reduceTMod,Int.reduceMod,Int.reduceDiv,Nat.reduceLT,Nat.reduceEqDiff,Sa,Sb,Sc,Sd,Se,Sf,Sg,Int.reduceLE,Int.reduceLT,Int.reduceToNat,Int.reduceNeg,Int.reduceEq,Nat.reduceLeDiff,Nat.reducePow,Int.reducePow,reduceIte,Nat.reduceSub,Nat.reduceAdd,Nat.reduceMul,putAt,ceq,List.replicate, *])); repeat' ((first | (with_reducible refine fun _ : True => ?_) | (with_reducible refine any_h ?_) | ((first | refine AllocQ_i ?_ | refine AllocO_i ?_); intro bk hb0 hbk; (try simp only [set_none'] at hbk); (try (first | have hbn := Grow.none (by assumption) hbk | have hbn := Grow.none (by assumption) hbk.2 | have hbn := Grow.none (by assumption) hbk.2.2 | have hbn := Grow.none (by assumption) hbk.2.2.2 | have hbn := Grow.none (by assumption) hbk.2.2.2.2 | have hbn := Grow.none (by assumption) hbk.2.2.2.2.2)); (try simp only [set_none'] at hbn); (try (first | have hbm := Grow.none (by assumption) hbn | have hbm := Grow.none (by assumption) hbn.2 | have hbm := Grow.none (by assumption) hbn.2.2 | have hbm := Grow.none (by assumption) hbn.2.2.2 | have hbm := Grow.none (by assumption) hbn.2.2.2.2 | have hbm := Grow.none (by assumption) hbn.2.2.2.2.2)); (try simp only [set_none'] at hbm)) | ((first | refine condS_i ?_ ?_ | refine pick_i ?_ ?_ | refine gS_it ?_ ?_ | refine gS_if ?_ ?_ | refine gP_it ?_ ?_ | refine gP_if ?_ ?_) <;> (intro hc; try simp only [Int.reduceLE,Int.reduceLT,Int.reduceEq,Sn] at hc)) | (with_reducible refine KP_i ?_ ?_; · (repeat' (first | exact Heap.Le.refl _ | (with_reducible refine Le_set2 ?_) | (refine Le_known (by first | (simp only [Heap.set_same, set_ne, ne_eq, not_false_eq_true, *] <;> rfl) | fail) ?_) | (refine Le_fresh (by first | (simp only [*] <;> done) | (simp [set_none', Heap.set_same, set_ne, noneH, *] <;> done) | fail) ?_) | (refine Heap.Le.trans ?_ (Grow.le (by assumption))) | exact Le_none | (refine Le_put ?_ (by first | (simp only [Heap.set_same, set_ne, ne_eq, not_false_eq_true, *] <;> rfl) | fail)) | fail))) | (with_reducible refine And.intro ?_ ?_)) <;> (try simp only [Sq,Sr,Sh,Si,Sl,Bu,Bb,Bd,Bc,Bw,Bn,Int.reduceAdd,Int.reduceSub,Int.reduceMul,Int.reduceTDiv,Int.reduceTMod,Int.reduceMod,Int.reduceDiv,Nat.reduceLT,Nat.reduceEqDiff,Sa,Sb,Sc,Sd,Se,Sf,Sg,Int.reduceLE,Int.reduceLT,Int.reduceToNat,Int.reduceNeg,Int.reduceEq,Nat.reduceLeDiff,Nat.reducePow,Int.reducePow,reduceIte,Nat.reduceSub,Nat.reduceAdd,Nat.reduceMul,putAt,ceq,List.replicate, *]))
            refine loopq_name (fun code4 kont4 T4 eM4 eK4 eT4 => ?_)
            refine loop_a 88 (fun s : Nat × List Value => [(87, .int .i64 (s.1 : Nat)), (17, .int .u32 (sG aa k ns ((cw * rh / 2 : Nat) : Int) s.1)), (19, s.2.getD 0 undef)])
              (fun s F => s.1 ≤ cw * rh ∧ F = F2) (fun s => cw * rh - s.1) (0, [ws.getD 2 undef]) ⟨Nat.zero_le _, rfl⟩ (by subst eT4; rfl) ?_
            intro ⟨i, zs⟩ F3 U5 ⟨hi, eF⟩
            subst eF
            simp only at hi
            rcases Nat.lt_or_ge i (cw * rh) with hlti | hgei
            · have hnl : ns.length = cw * rh := hnl'
              obtain ⟨n, en⟩ : ∃ n, ns[i]? = some n := ⟨_, List.getElem?_eq_getElem (by omega)⟩
              have hn := (show ∀ v ∈ ns, 0 ≤ v ∧ v < 4294967296 from hnb') n (List.mem_of_getElem? en)
              obtain ⟨b, o, eA, rA⟩ := (show ∀ i v, ns[i]? = some v → ∃ b o, a4 = some ⟨b, o, none⟩ ∧ rd1 w0 F3 b (o + i) = some (.int .u32 v) from hrn') i n en
              have g1 : bitsI .and .u32 (n.fdiv (2 ^ aa)) (2 ^ k - 1) = fld aa k n := by
                have q1 := p2 aa
                rw [Int.fdiv_eq_ediv_of_nonneg _ (by omega), and_msk _ _ (Int.ediv_nonneg hn.1 (by omega)) (Int.lt_of_le_of_lt (Int.ediv_le_self _ hn.1) hn.2) a2]
                rfl
              have sb := (show ∀ i, i ≤ cw * rh → 0 ≤ sG aa k ns ((cw * rh / 2 : Nat) : Int) i ∧ sG aa k ns ((cw * rh / 2 : Nat) : Int) i ≤ 2000 from sb') (i + 1) hlti
              have g2 : sG aa k ns ((cw * rh / 2 : Nat) : Int) (i + 1) = sG aa k ns ((cw * rh / 2 : Nat) : Int) i + fld aa k n := by
                rw [sG]; simp [List.getD, en]
              have g3 : IntKind.u32.wrap (sG aa k ns ((cw * rh / 2 : Nat) : Int) i + fld aa k n) = sG aa k ns ((cw * rh / 2 : Nat) : Int) (i + 1) := by rw [← g2]; exact Bu.2.1 _ sb.1 (by omega)
              have g4 : (i : Int) < ((cw * rh : Nat) : Int) := by omega
              have g5 : IntKind.i64.wrap ((i : Int) + 1) = ((i + 1 : Nat) : Int) := by rw [Bw.1 _ (by omega) (by omega)]; omega
              clear hnl hn en sb g2
              subst eM4 eK4 eT4
              show run _ _ _ _ _ _ F3
              (all_goals (try simp only [Sq,Sr,Sh,Si,Sl,Bu,Bb,Bd,Bc,Bw,Bn,Int.reduceAdd,Int.reduceSub,Int.reduceMul,Int.reduceTDiv,Int.reduceTMod,Int.reduceMod,Int.reduceDiv,Nat.reduceLT,Nat.reduceEqDiff,Sa,Sb,Sc,Sd,Se,Sf,Sg,Int.reduceLE,Int.reduceLT,Int.reduceToNat,Int.reduceNeg,Int.reduceEq,Nat.reduceLeDiff,Nat.reducePow,Int.reducePow,reduceIte,Nat.reduceSub,Nat.reduceAdd,Nat.reduceMul,putAt,ceq,List.replicate, *])); repeat' ((first | (with_reducible refine fun _ : True => ?_) | (with_reducible refine any_h ?_) | ((first | refine AllocQ_i ?_ | refine AllocO_i ?_); intro bk hb0 hbk; (try simp only [set_none'] at hbk); (try (first | have hbn := Grow.none (by assumption) hbk | have hbn := Grow.none (by assumption) hbk.2 | have hbn := Grow.none (by assumption) hbk.2.2 | have hbn := Grow.none (by assumption) hbk.2.2.2 | have hbn := Grow.none (by assumption) hbk.2.2.2.2 | have hbn := Grow.none (by assumption) hbk.2.2.2.2.2)); (try simp only [set_none'] at hbn); (try (first | have hbm := Grow.none (by assumption) hbn | have hbm := Grow.none (by assumption) hbn.2 | have hbm := Grow.none (by assumption) hbn.2.2 | have hbm := Grow.none (by assumption) hbn.2.2.2 | have hbm := Grow.none (by assumption) hbn.2.2.2.2 | have hbm := Grow.none (by assumption) hbn.2.2.2.2.2)); (try simp only [set_none'] at hbm)) | ((first | refine condS_i ?_ ?_ | refine pick_i ?_ ?_ | refine gS_it ?_ ?_ | refine gS_if ?_ ?_ | refine gP_it ?_ ?_ | refine gP_if ?_ ?_) <;> (intro hc; try simp only [Int.reduceLE,Int.reduceLT,Int.reduceEq,Sn] at hc)) | (with_reducible refine KP_i ?_ ?_; · (repeat' (first | exact Heap.Le.refl _ | (with_reducible refine Le_set2 ?_) | (refine Le_known (by first | (simp only [Heap.set_same, set_ne, ne_eq, not_false_eq_true, *] <;> rfl) | fail) ?_) | (refine Le_fresh (by first | (simp only [*] <;> done) | (simp [set_none', Heap.set_same, set_ne, noneH, *] <;> done) | fail) ?_) | (refine Heap.Le.trans ?_ (Grow.le (by assumption))) | exact Le_none | (refine Le_put ?_ (by first | (simp only [Heap.set_same, set_ne, ne_eq, not_false_eq_true, *] <;> rfl) | fail)) | fail))) | (with_reducible refine And.intro ?_ ?_)) <;> (try simp only [Sq,Sr,Sh,Si,Sl,Bu,Bb,Bd,Bc,Bw,Bn,Int.reduceAdd,Int.reduceSub,Int.reduceMul,Int.reduceTDiv,Int.reduceTMod,Int.reduceMod,Int.reduceDiv,Nat.reduceLT,Nat.reduceEqDiff,Sa,Sb,Sc,Sd,Se,Sf,Sg,Int.reduceLE,Int.reduceLT,Int.reduceToNat,Int.reduceNeg,Int.reduceEq,Nat.reduceLeDiff,Nat.reducePow,Int.reducePow,reduceIte,Nat.reduceSub,Nat.reduceAdd,Nat.reduceMul,putAt,ceq,List.replicate, *]))
              exact Round_p (i + 1, [_]) ⟨hlti, rfl⟩ (by simp only; omega) rfl rfl
            · have e : i = cw * rh := by omega
              subst i
              have g4 : ¬ ((cw * rh : Nat) : Int) < ((cw * rh : Nat) : Int) := by omega
              have g6 : ¬ ((cw * rh : Nat) : Int) = 0 := by omega
              subst eM4 eK4 eT4
              show run _ _ _ _ _ _ F3
              (all_goals (try simp only [Sq,Sr,Sh,Si,Sl,Bu,Bb,Bd,Bc,Bw,Bn,Int.reduceAdd,Int.reduceSub,Int.reduceMul,Int.reduceTDiv,Int.reduceTMod,Int.reduceMod,Int.reduceDiv,Nat.reduceLT,Nat.reduceEqDiff,Sa,Sb,Sc,Sd,Se,Sf,Sg,Int.reduceLE,Int.reduceLT,Int.reduceToNat,Int.reduceNeg,Int.reduceEq,Nat.reduceLeDiff,Nat.reducePow,Int.reducePow,reduceIte,Nat.reduceSub,Nat.reduceAdd,Nat.reduceMul,putAt,ceq,List.replicate, *])); repeat' ((first | (with_reducible refine fun _ : True => ?_) | (with_reducible refine any_h ?_) | ((first | refine AllocQ_i ?_ | refine AllocO_i ?_); intro bk hb0 hbk; (try simp only [set_none'] at hbk); (try (first | have hbn := Grow.none (by assumption) hbk | have hbn := Grow.none (by assumption) hbk.2 | have hbn := Grow.none (by assumption) hbk.2.2 | have hbn := Grow.none (by assumption) hbk.2.2.2 | have hbn := Grow.none (by assumption) hbk.2.2.2.2 | have hbn := Grow.none (by assumption) hbk.2.2.2.2.2)); (try simp only [set_none'] at hbn); (try (first | have hbm := Grow.none (by assumption) hbn | have hbm := Grow.none (by assumption) hbn.2 | have hbm := Grow.none (by assumption) hbn.2.2 | have hbm := Grow.none (by assumption) hbn.2.2.2 | have hbm := Grow.none (by assumption) hbn.2.2.2.2 | have hbm := Grow.none (by assumption) hbn.2.2.2.2.2)); (try simp only [set_none'] at hbm)) | ((first | refine condS_i ?_ ?_ | refine pick_i ?_ ?_ | refine gS_it ?_ ?_ | refine gS_if ?_ ?_ | refine gP_it ?_ ?_ | refine gP_if ?_ ?_) <;> (intro hc; try simp only [Int.reduceLE,Int.reduceLT,Int.reduceEq,Sn] at hc)) | (with_reducible refine KP_i ?_ ?_; · (repeat' (first | exact Heap.Le.refl _ | (with_reducible refine Le_set2 ?_) | (refine Le_known (by first | (simp only [Heap.set_same, set_ne, ne_eq, not_false_eq_true, *] <;> rfl) | fail) ?_) | (refine Le_fresh (by first | (simp only [*] <;> done) | (simp [set_none', Heap.set_same, set_ne, noneH, *] <;> done) | fail) ?_) | (refine Heap.Le.trans ?_ (Grow.le (by assumption))) | exact Le_none | (refine Le_put ?_ (by first | (simp only [Heap.set_same, set_ne, ne_eq, not_false_eq_true, *] <;> rfl) | fail)) | fail))) | (with_reducible refine And.intro ?_ ?_)) <;> (try simp only [Sq,Sr,Sh,Si,Sl,Bu,Bb,Bd,Bc,Bw,Bn,Int.reduceAdd,Int.reduceSub,Int.reduceMul,Int.reduceTDiv,Int.reduceTMod,Int.reduceMod,Int.reduceDiv,Nat.reduceLT,Nat.reduceEqDiff,Sa,Sb,Sc,Sd,Se,Sf,Sg,Int.reduceLE,Int.reduceLT,Int.reduceToNat,Int.reduceNeg,Int.reduceEq,Nat.reduceLeDiff,Nat.reducePow,Int.reducePow,reduceIte,Nat.reduceSub,Nat.reduceAdd,Nat.reduceMul,putAt,ceq,List.replicate, *]))
              exact Round_p (j + 1, [_, _, _]) ⟨hltj, rfl⟩ (by simp only; omega) rfl rfl
          · have e : j = ks.length := by omega
            subst j
            have t5 : ¬ (ks.length : Int) < ((chsV f).length : Int) := by rw [← show ks.length = (chsV f).length from hcl]; omega
            subst eM3 eK3 eT3
            show run _ _ _ _ _ _ F2
            (all_goals (try simp only [Sq,Sr,Sh,Si,Sl,Bu,Bb,Bd,Bc,Bw,Bn,Int.reduceAdd,Int.reduceSub,Int.reduceMul,Int.reduceTDiv,Int.reduceTMod,Int.reduceMod,Int.reduceDiv,Nat.reduceLT,Nat.reduceEqDiff,Sa,Sb,Sc,Sd,Se,Sf,Sg,Int.reduceLE,Int.reduceLT,Int.reduceToNat,Int.reduceNeg,Int.reduceEq,Nat.reduceLeDiff,Nat.reducePow,Int.reducePow,reduceIte,Nat.reduceSub,Nat.reduceAdd,Nat.reduceMul,putAt,ceq,List.replicate, *])); repeat' ((first | (with_reducible refine fun _ : True => ?_) | (with_reducible refine any_h ?_) | ((first | refine AllocQ_i ?_ | refine AllocO_i ?_); intro bk hb0 hbk; (try simp only [set_none'] at hbk); (try (first | have hbn := Grow.none (by assumption) hbk | have hbn := Grow.none (by assumption) hbk.2 | have hbn := Grow.none (by assumption) hbk.2.2 | have hbn := Grow.none (by assumption) hbk.2.2.2 | have hbn := Grow.none (by assumption) hbk.2.2.2.2 | have hbn := Grow.none (by assumption) hbk.2.2.2.2.2)); (try simp only [set_none'] at hbn); (try (first | have hbm := Grow.none (by assumption) hbn | have hbm := Grow.none (by assumption) hbn.2 | have hbm := Grow.none (by assumption) hbn.2.2 | have hbm := Grow.none (by assumption) hbn.2.2.2 | have hbm := Grow.none (by assumption) hbn.2.2.2.2 | have hbm := Grow.none (by assumption) hbn.2.2.2.2.2)); (try simp only [set_none'] at hbm)) | ((first | refine condS_i ?_ ?_ | refine pick_i ?_ ?_ | refine gS_it ?_ ?_ | refine gS_if ?_ ?_ | refine gP_it ?_ ?_ | refine gP_if ?_ ?_) <;> (intro hc; try simp only [Int.reduceLE,Int.reduceLT,Int.reduceEq,Sn] at hc)) | (with_reducible refine KP_i ?_ ?_; · (repeat' (first | exact Heap.Le.refl _ | (with_reducible refine Le_set2 ?_) | (refine Le_known (by first | (simp only [Heap.set_same, set_ne, ne_eq, not_false_eq_true, *] <;> rfl) | fail) ?_) | (refine Le_fresh (by first | (simp only [*] <;> done) | (simp [set_none', Heap.set_same, set_ne, noneH, *] <;> done) | fail) ?_) | (refine Heap.Le.trans ?_ (Grow.le (by assumption))) | exact Le_none | (refine Le_put ?_ (by first | (simp only [Heap.set_same, set_ne, ne_eq, not_false_eq_true, *] <;> rfl) | fail)) | fail))) | (with_reducible refine And.intro ?_ ?_)) <;> (try simp only [Sq,Sr,Sh,Si,Sl,Bu,Bb,Bd,Bc,Bw,Bn,Int.reduceAdd,Int.reduceSub,Int.reduceMul,Int.reduceTDiv,Int.reduceTMod,Int.reduceMod,Int.reduceDiv,Nat.reduceLT,Nat.reduceEqDiff,Sa,Sb,Sc,Sd,Se,Sf,Sg,Int.reduceLE,Int.reduceLT,Int.reduceToNat,Int.reduceNeg,Int.reduceEq,Nat.reduceLeDiff,Nat.reducePow,Int.reducePow,reduceIte,Nat.reduceSub,Nat.reduceAdd,Nat.reduceMul,putAt,ceq,List.replicate, *]))
            exact Meet_p [_, _, _, _, _, _] rfl rfl rfl
        · clear hrk hrn hnb
          intro ⟨ws, F2⟩ U4 eF
          simp only at eF
          subst eF
          subst eM3 eK3 eT3
          show run _ _ _ _ _ _ F2
          obtain ⟨a0, cap0, st⟩ : ∃ a0 cap0, HSt w0 H F2 b2 b4 b5 b6 z S wd ht (outB z.l f S W cw (cw * rh) wd (y * wd + x)) a0 cap0 := ⟨_, _, st7⟩
          have r50 : rd1 w0 F2 b5 0 = some (.int .i64 (S : Nat)) := by unfold rd1; rw [st.k5]; rfl
          (all_goals (try simp only [Sq,Sr,Sh,Si,Sl,Bu,Bb,Bd,Bc,Bw,Bn,Int.reduceAdd,Int.reduceSub,Int.reduceMul,Int.reduceTDiv,Int.reduceTMod,Int.reduceMod,Int.reduceDiv,Nat.reduceLT,Nat.reduceEqDiff,Sa,Sb,Sc,Sd,Se,Sf,Sg,Int.reduceLE,Int.reduceLT,Int.reduceToNat,Int.reduceNeg,Int.reduceEq,Nat.reduceLeDiff,Nat.reducePow,Int.reducePow,reduceIte,Nat.reduceSub,Nat.reduceAdd,Nat.reduceMul,putAt,ceq,List.replicate, *])); repeat' ((first | (with_reducible refine fun _ : True => ?_) | (with_reducible refine any_h ?_) | ((first | refine AllocQ_i ?_ | refine AllocO_i ?_); intro bk hb0 hbk; (try simp only [set_none'] at hbk); (try (first | have hbn := Grow.none (by assumption) hbk | have hbn := Grow.none (by assumption) hbk.2 | have hbn := Grow.none (by assumption) hbk.2.2 | have hbn := Grow.none (by assumption) hbk.2.2.2 | have hbn := Grow.none (by assumption) hbk.2.2.2.2 | have hbn := Grow.none (by assumption) hbk.2.2.2.2.2)); (try simp only [set_none'] at hbn); (try (first | have hbm := Grow.none (by assumption) hbn | have hbm := Grow.none (by assumption) hbn.2 | have hbm := Grow.none (by assumption) hbn.2.2 | have hbm := Grow.none (by assumption) hbn.2.2.2 | have hbm := Grow.none (by assumption) hbn.2.2.2.2 | have hbm := Grow.none (by assumption) hbn.2.2.2.2.2)); (try simp only [set_none'] at hbm)) | ((first | refine condS_i ?_ ?_ | refine pick_i ?_ ?_ | refine gS_it ?_ ?_ | refine gS_if ?_ ?_ | refine gP_it ?_ ?_ | refine gP_if ?_ ?_) <;> (intro hc; try simp only [Int.reduceLE,Int.reduceLT,Int.reduceEq,Sn] at hc)) | (with_reducible refine KP_i ?_ ?_; · (repeat' (first | exact Heap.Le.refl _ | (with_reducible refine Le_set2 ?_) | (refine Le_known (by first | (simp only [Heap.set_same, set_ne, ne_eq, not_false_eq_true, *] <;> rfl) | fail) ?_) | (refine Le_fresh (by first | (simp only [*] <;> done) | (simp [set_none', Heap.set_same, set_ne, noneH, *] <;> done) | fail) ?_) | (refine Heap.Le.trans ?_ (Grow.le (by assumption))) | exact Le_none | (refine Le_put ?_ (by first | (simp only [Heap.set_same, set_ne, ne_eq, not_false_eq_true, *] <;> rfl) | fail)) | fail))) | (with_reducible refine And.intro ?_ ?_)) <;> (try simp only [Sq,Sr,Sh,Si,Sl,Bu,Bb,Bd,Bc,Bw,Bn,Int.reduceAdd,Int.reduceSub,Int.reduceMul,Int.reduceTDiv,Int.reduceTMod,Int.reduceMod,Int.reduceDiv,Nat.reduceLT,Nat.reduceEqDiff,Sa,Sb,Sc,Sd,Se,Sf,Sg,Int.reduceLE,Int.reduceLT,Int.reduceToNat,Int.reduceNeg,Int.reduceEq,Nat.reduceLeDiff,Nat.reducePow,Int.reducePow,reduceIte,Nat.reduceSub,Nat.reduceAdd,Nat.reduceMul,putAt,ceq,List.replicate, *]))
          obtain ⟨M, eM⟩ : ∃ M, mP ks ns ks.length = M := ⟨_, rfl⟩
          have eB : meanB f (quad z.l S W cw x y (cw * rh)) = digs S M := by
            have g : Geo z f S W V cw rh wd ht := g'
            unfold meanB
            rw [en, ek, eM, g.s]; rfl
          have eO : outB z.l f S W cw (cw * rh) wd (y * wd + x) ++ digs S M = outB z.l f S W cw (cw * rh) wd (y * wd + x + 1) := by
            rw [outB_succ, Nat.mul_comm y wd, Nat.mul_add_mod, Nat.mod_eq_of_lt hltx, Nat.mul_add_div (by omega), Nat.div_eq_of_lt hltx, Nat.add_zero, eB]
          have hM0 : 0 ≤ M := by rw [← eM]; exact (mP_b ks ns (by omega) _ (Nat.le_refl _)).1
          have hOl : (outB z.l f S W cw (cw * rh) wd (y * wd + x)).length ≤ 100000 := by
            have g : Geo z f S W V cw rh wd ht := g'
            rw [outB_len _ _ _ _ _ _ _ g.s]
            have q1 : y * wd + x ≤ 64 * 64 + 64 := Nat.add_le_add (Nat.mul_le_mul (by omega) (by omega)) (by omega)
            exact Nat.le_trans (Nat.mul_le_mul q1 g.s1.2) (by decide)
          have n6 : b2 ≠ b6 ∧ b4 ≠ b6 ∧ b5 ≠ b6 := ⟨hbk.2.2.1.2, hbk.2.1.2, hbk.1.2⟩
          have hbk : H b6 = none := hbk.2.2.2
          have hS4 : S ≤ 4 := by
            have g : Geo z f S W V cw rh wd ht := g'
            exact g.s1.2
          obtain ⟨O, eo⟩ : ∃ O, outB z.l f S W cw (cw * rh) wd (y * wd + x) = O := ⟨_, rfl⟩
          rw [eM]
          rw [eo] at st eO hOl
          clear st7 eB en ek e7 hnl hq4 hk1 hk2 hcl t2 r50 eM
          refine loopq_name (fun code4 kont4 T4 eM4 eK4 eT4 => ?_)
          refine loop_a 116 (fun s : Nat × List Value => [(20, s.2.getD 0 undef), (115, .int .i64 (s.1 : Nat))])
            (fun s F => s.1 ≤ S ∧ ∃ a c, HSt w0 H F b2 b4 b5 b6 z S wd ht (O ++ (digs S M).take s.1) a c) (fun s => S - s.1) (0, [vs.getD 11 undef]) ⟨Nat.zero_le _, a0, cap0, by rw [List.take_zero, List.append_nil]; exact st⟩ (by subst eT4; rfl) ?_
          clear st a0 cap0
          intro ⟨i, zs⟩ F U5 ⟨hi, a0, cap0, st⟩
          simp only at hi st
          rcases Nat.lt_or_ge i S with hlti | hgei
          · obtain ⟨v, ev⟩ : ∃ v, M / 256 ^ i % 256 = v := ⟨_, rfl⟩
            have e256 : (256 : Int) ^ i = 2 ^ (8 * i) := by rw [Int.pow_mul]; rfl
            have et : O ++ (digs S M).take (i + 1) = (O ++ (digs S M).take i) ++ [v] := by
              rw [List.take_add_one, digs_get _ _ _ hlti, ev, List.append_assoc]; rfl
            have q1 : IntKind.i64.wrap (8 * (i : Int)) = 8 * (i : Int) := Bw.1 _ (by omega) (by omega)
            have q2 : (8 * (i : Int)).toNat = 8 * i := by omega
            have q3 : 0 ≤ 8 * (i : Int) := by omega
            have q4 : 8 * i ≤ 32 := by omega
            have q5 : IntKind.u8.wrap (M.fdiv (2 ^ (8 * i))) = v := by
              rw [Int.fdiv_eq_ediv_of_nonneg _ (by have := p2 (8 * i); omega), ← e256, ← ev]
              simp [IntKind.wrap, IntKind.signed, IntKind.bits]
            have q6 : (i : Int) < (S : Int) := by omega
            have q7 : IntKind.i64.wrap ((i : Int) + 1) = ((i + 1 : Nat) : Int) := by rw [Bw.1 _ (by omega) (by omega)]; omega
            obtain ⟨L, eL⟩ : ∃ L, O ++ (digs S M).take i = L := ⟨_, rfl⟩
            have hL : L.length ≤ 100004 := by rw [← eL, List.length_append, List.length_take, digs_len]; omega
            rw [eL] at st et
            clear ev e256 hM0 eL eO
            have k6 := st.k6
            have z6 := hb0
            have m6 := hbk
            clear hb0 hbk
            subst eM4 eK4 eT4
            show run _ _ _ _ _ _ F
            rw [root1 k6]
            (all_goals (try simp only [Sq,Sr,Sh,Si,Sl,Bu,Bb,Bd,Bc,Bw,Bn,Int.reduceAdd,Int.reduceSub,Int.reduceMul,Int.reduceTDiv,Int.reduceTMod,Int.reduceMod,Int.reduceDiv,Nat.reduceLT,Nat.reduceEqDiff,Sa,Sb,Sc,Sd,Se,Sf,Sg,Int.reduceLE,Int.reduceLT,Int.reduceToNat,Int.reduceNeg,Int.reduceEq,Nat.reduceLeDiff,Nat.reducePow,Int.reducePow,reduceIte,Nat.reduceSub,Nat.reduceAdd,Nat.reduceMul,putAt,ceq,List.replicate, *])); repeat' ((first | (with_reducible refine fun _ : True => ?_) | (with_reducible refine any_h ?_) | ((first | refine AllocQ_i ?_ | refine AllocO_i ?_); intro bk hb0 hbk; (try simp only [set_none'] at hbk); (try (first | have hbn := Grow.none (by assumption) hbk | have hbn := Grow.none (by assumption) hbk.2 | have hbn := Grow.none (by assumption) hbk.2.2 | have hbn := Grow.none (by assumption) hbk.2.2.2 | have hbn := Grow.none (by assumption) hbk.2.2.2.2 | have hbn := Grow.none (by assumption) hbk.2.2.2.2.2)); (try simp only [set_none'] at hbn); (try (first | have hbm := Grow.none (by assumption) hbn | have hbm := Grow.none (by assumption) hbn.2 | have hbm := Grow.none (by assumption) hbn.2.2 | have hbm := Grow.none (by assumption) hbn.2.2.2 | have hbm := Grow.none (by assumption) hbn.2.2.2.2 | have hbm := Grow.none (by assumption) hbn.2.2.2.2.2)); (try simp only [set_none'] at hbm)) | ((first | refine condS_i ?_ ?_ | refine pick_i ?_ ?_ | refine gS_it ?_ ?_ | refine gS_if ?_ ?_ | refine gP_it ?_ ?_ | refine gP_if ?_ ?_) <;> (intro hc; try simp only [Int.reduceLE,Int.reduceLT,Int.reduceEq,Sn] at hc)) | (with_reducible refine KP_i ?_ ?_; · (repeat' (first | exact Heap.Le.refl _ | (with_reducible refine Le_set2 ?_) | (refine Le_known (by first | (simp only [Heap.set_same, set_ne, ne_eq, not_false_eq_true, *] <;> rfl) | fail) ?_) | (refine Le_fresh (by first | (simp only [*] <;> done) | (simp [set_none', Heap.set_same, set_ne, noneH, *] <;> done) | fail) ?_) | (refine Heap.Le.trans ?_ (Grow.le (by assumption))) | exact Le_none | (refine Le_put ?_ (by first | (simp only [Heap.set_same, set_ne, ne_eq, not_false_eq_true, *] <;> rfl) | fail)) | fail))) | (with_reducible refine And.intro ?_ ?_)) <;> (try simp only [Sq,Sr,Sh,Si,Sl,Bu,Bb,Bd,Bc,Bw,Bn,Int.reduceAdd,Int.reduceSub,Int.reduceMul,Int.reduceTDiv,Int.reduceTMod,Int.reduceMod,Int.reduceDiv,Nat.reduceLT,Nat.reduceEqDiff,Sa,Sb,Sc,Sd,Se,Sf,Sg,Int.reduceLE,Int.reduceLT,Int.reduceToNat,Int.reduceNeg,Int.reduceEq,Nat.reduceLeDiff,Nat.reducePow,Int.reducePow,reduceIte,Nat.reduceSub,Nat.reduceAdd,Nat.reduceMul,putAt,ceq,List.replicate, *]))
            have hX : (F.set b6 ⟨.t 38, [.int .i64 (wd : Nat), .int .i64 (ht : Nat), .slice a0 L.length cap0]⟩) = F := Heap.set_id _ _ _ k6
            have nb : F bk = none := hbk.2
            refine app_bld (H := H) (n := L.length) (m := 1) (cs := L.map (.int .u8)) (ns := [.int .u8 v]) (by rw [hX]; exact st.bld.grow (Grow.set (Grow.refl _) hb0 nb)) (by rw [List.length_map, Nat.mul_one]) rfl (srd_blk (Heap.set_same _ _ _) rfl) rfl (by rw [hX]; exact st.g.set hb0 (st.g.none nb)) ⟨by omega, by omega⟩ rfl fun a5 c5 F2 hB2 hg2 hk2 _ => ?_
            rw [hX] at hk2
            have hk3 : ∀ c x, F c = some x → x.ty ≠ .t 5 → F2 c = some x := fun c x hc hx => hk2 c x (by rw [Heap.set_other _ _ (fun e => by subst e; rw [nb] at hc; cases hc)]; exact hc) (fun e => absurd e hx)
            have k62 := hk3 _ _ k6 (fun e => absurd (Kd.t_inj e) (show ¬ ((38 : Nat) = 5) by decide))
            have st2 := st.next (n := L.length + 1) (out' := L ++ [v]) n6.1 n6.2.1 n6.2.2 z6 m6 hk3 (by rw [List.map_append]; exact hB2) hg2 (by rw [List.length_append]; rfl)
            rw [← et] at st2
            clear hB2 hg2 hk2 hk3 st k6 hX nb hbk
            rw [root1 k62]
            (all_goals (try simp only [Sq,Sr,Sh,Si,Sl,Bu,Bb,Bd,Bc,Bw,Bn,Int.reduceAdd,Int.reduceSub,Int.reduceMul,Int.reduceTDiv,Int.reduceTMod,Int.reduceMod,Int.reduceDiv,Nat.reduceLT,Nat.reduceEqDiff,Sa,Sb,Sc,Sd,Se,Sf,Sg,Int.reduceLE,Int.reduceLT,Int.reduceToNat,Int.reduceNeg,Int.reduceEq,Nat.reduceLeDiff,Nat.reducePow,Int.reducePow,reduceIte,Nat.reduceSub,Nat.reduceAdd,Nat.reduceMul,putAt,ceq,List.replicate, *])); repeat' ((first | (with_reducible refine fun _ : True => ?_) | (with_reducible refine any_h ?_) | ((first | refine AllocQ_i ?_ | refine AllocO_i ?_); intro bk hb0 hbk; (try simp only [set_none'] at hbk); (try (first | have hbn := Grow.none (by assumption) hbk | have hbn := Grow.none (by assumption) hbk.2 | have hbn := Grow.none (by assumption) hbk.2.2 | have hbn := Grow.none (by assumption) hbk.2.2.2 | have hbn := Grow.none (by assumption) hbk.2.2.2.2 | have hbn := Grow.none (by assumption) hbk.2.2.2.2.2)); (try simp only [set_none'] at hbn); (try (first | have hbm := Grow.none (by assumption) hbn | have hbm := Grow.none (by assumption) hbn.2 | have hbm := Grow.none (by assumption) hbn.2.2 | have hbm := Grow.none (by assumption) hbn.2.2.2 | have hbm := Grow.none (by assumption) hbn.2.2.2.2 | have hbm := Grow.none (by assumption) hbn.2.2.2.2.2)); (try simp only [set_none'] at hbm)) | ((first | refine condS_i ?_ ?_ | refine pick_i ?_ ?_ | refine gS_it ?_ ?_ | refine gS_if ?_ ?_ | refine gP_it ?_ ?_ | refine gP_if ?_ ?_) <;> (intro hc; try simp only [Int.reduceLE,Int.reduceLT,Int.reduceEq,Sn] at hc)) | (with_reducible refine KP_i ?_ ?_; · (repeat' (first | exact Heap.Le.refl _ | (with_reducible refine Le_set2 ?_) | (refine Le_known (by first | (simp only [Heap.set_same, set_ne, ne_eq, not_false_eq_true, *] <;> rfl) | fail) ?_) | (refine Le_fresh (by first | (simp only [*] <;> done) | (simp [set_none', Heap.set_same, set_ne, noneH, *] <;> done) | fail) ?_) | (refine Heap.Le.trans ?_ (Grow.le (by assumption))) | exact Le_none | (refine Le_put ?_ (by first | (simp only [Heap.set_same, set_ne, ne_eq, not_false_eq_true, *] <;> rfl) | fail)) | fail))) | (with_reducible refine And.intro ?_ ?_)) <;> (try simp only [Sq,Sr,Sh,Si,Sl,Bu,Bb,Bd,Bc,Bw,Bn,Int.reduceAdd,Int.reduceSub,Int.reduceMul,Int.reduceTDiv,Int.reduceTMod,Int.reduceMod,Int.reduceDiv,Nat.reduceLT,Nat.reduceEqDiff,Sa,Sb,Sc,Sd,Se,Sf,Sg,Int.reduceLE,Int.reduceLT,Int.reduceToNat,Int.reduceNeg,Int.reduceEq,Nat.reduceLeDiff,Nat.reducePow,Int.reducePow,reduceIte,Nat.reduceSub,Nat.reduceAdd,Nat.reduceMul,putAt,ceq,List.replicate, *]))
            exact Round_p (i + 1, [_]) ⟨hlti, a5, c5, st2⟩ (by simp only; omega) rfl rfl
          · have e : i = S := by omega
            subst i
            have q6 : ¬ (S : Int) < (S : Int) := by omega
            have q7 : IntKind.i64.wrap ((x : Int) + 1) = ((x + 1 : Nat) : Int) := by rw [Bw.1 _ (by omega) (by omega)]; omega
            rw [List.take_of_length_le (by rw [digs_len]; exact Nat.le_refl _), eO] at st
            subst eM4 eK4 eT4
            show run _ _ _ _ _ _ F
            (all_goals (try simp only [Sq,Sr,Sh,Si,Sl,Bu,Bb,Bd,Bc,Bw,Bn,Int.reduceAdd,Int.reduceSub,Int.reduceMul,Int.reduceTDiv,Int.reduceTMod,Int.reduceMod,Int.reduceDiv,Nat.reduceLT,Nat.reduceEqDiff,Sa,Sb,Sc,Sd,Se,Sf,Sg,Int.reduceLE,Int.reduceLT,Int.reduceToNat,Int.reduceNeg,Int.reduceEq,Nat.reduceLeDiff,Nat.reducePow,Int.reducePow,reduceIte,Nat.reduceSub,Nat.reduceAdd,Nat.reduceMul,putAt,ceq,List.replicate, *])); repeat' ((first | (with_reducible refine fun _ : True => ?_) | (with_reducible refine any_h ?_) | ((first | refine AllocQ_i ?_ | refine AllocO_i ?_); intro bk hb0 hbk; (try simp only [set_none'] at hbk); (try (first | have hbn := Grow.none (by assumption) hbk | have hbn := Grow.none (by assumption) hbk.2 | have hbn := Grow.none (by assumption) hbk.2.2 | have hbn := Grow.none (by assumption) hbk.2.2.2 | have hbn := Grow.none (by assumption) hbk.2.2.2.2 | have hbn := Grow.none (by assumption) hbk.2.2.2.2.2)); (try simp only [set_none'] at hbn); (try (first | have hbm := Grow.none (by assumption) hbn | have hbm := Grow.none (by assumption) hbn.2 | have hbm := Grow.none (by assumption) hbn.2.2 | have hbm := Grow.none (by assumption) hbn.2.2.2 | have hbm := Grow.none (by assumption) hbn.2.2.2.2 | have hbm := Grow.none (by assumption) hbn.2.2.2.2.2)); (try simp only [set_none'] at hbm)) | ((first | refine condS_i ?_ ?_ | refine pick_i ?_ ?_ | refine gS_it ?_ ?_ | refine gS_if ?_ ?_ | refine gP_it ?_ ?_ | refine gP_if ?_ ?_) <;> (intro hc; try simp only [Int.reduceLE,Int.reduceLT,Int.reduceEq,Sn] at hc)) | (with_reducible refine KP_i ?_ ?_; · (repeat' (first | exact Heap.Le.refl _ | (with_reducible refine Le_set2 ?_) | (refine Le_known (by first | (simp only [Heap.set_same, set_ne, ne_eq, not_false_eq_true, *] <;> rfl) | fail) ?_) | (refine Le_fresh (by first | (simp only [*] <;> done) | (simp [set_none', Heap.set_same, set_ne, noneH, *] <;> done) | fail) ?_) | (refine Heap.Le.trans ?_ (Grow.le (by assumption))) | exact Le_none | (refine Le_put ?_ (by first | (simp only [Heap.set_same, set_ne, ne_eq, not_false_eq_true, *] <;> rfl) | fail)) | fail))) | (with_reducible refine And.intro ?_ ?_)) <;> (try simp only [Sq,Sr,Sh,Si,Sl,Bu,Bb,Bd,Bc,Bw,Bn,Int.reduceAdd,Int.reduceSub,Int.reduceMul,Int.reduceTDiv,Int.reduceTMod,Int.reduceMod,Int.reduceDiv,Nat.reduceLT,Nat.reduceEqDiff,Sa,Sb,Sc,Sd,Se,Sf,Sg,Int.reduceLE,Int.reduceLT,Int.reduceToNat,Int.reduceNeg,Int.reduceEq,Nat.reduceLeDiff,Nat.reducePow,Int.reducePow,reduceIte,Nat.reduceSub,Nat.reduceAdd,Nat.reduceMul,putAt,ceq,List.replicate, *]))
            exact Round_k 9 12 (fun us => (x + 1, us)) ⟨hltx, a0, cap0, st⟩ (by simp only; omega) rfl rfl
    · have e : x = wd := by omega
      subst x
      have q6 : ¬ (wd : Int) < (wd : Int) := by omega
      have q7 : IntKind.i64.wrap ((y : Int) + 1) = ((y + 1 : Nat) : Int) := by rw [Bw.1 _ (by omega) (by omega)]; omega
      rw [← Nat.succ_mul] at st
      subst eM2 eK2 eT2
      show run _ _ _ _ _ _ G
      (all_goals (try simp only [Sq,Sr,Sh,Si,Sl,Bu,Bb,Bd,Bc,Bw,Bn,Int.reduceAdd,Int.reduceSub,Int.reduceMul,Int.reduceTDiv,Int.reduceTMod,Int.reduceMod,Int.reduceDiv,Nat.reduceLT,Nat.reduceEqDiff,Sa,Sb,Sc,Sd,Se,Sf,Sg,Int.reduceLE,Int.reduceLT,Int.reduceToNat,Int.reduceNeg,Int.reduceEq,Nat.reduceLeDiff,Nat.reducePow,Int.reducePow,reduceIte,Nat.reduceSub,Nat.reduceAdd,Nat.reduceMul,putAt,ceq,List.replicate, *])); repeat' ((first | (with_reducible refine fun _ : True => ?_) | (with_reducible refine any_h ?_) | ((first | refine AllocQ_i ?_ | refine AllocO_i ?_); intro bk hb0 hbk; (try simp only [set_none'] at hbk); (try (first | have hbn := Grow.none (by assumption) hbk | have hbn := Grow.none (by assumption) hbk.2 | have hbn := Grow.none (by assumption) hbk.2.2 | have hbn := Grow.none (by assumption) hbk.2.2.2 | have hbn := Grow.none (by assumption) hbk.2.2.2.2 | have hbn := Grow.none (by assumption) hbk.2.2.2.2.2)); (try simp only [set_none'] at hbn); (try (first | have hbm := Grow.none (by assumption) hbn | have hbm := Grow.none (by assumption) hbn.2 | have hbm := Grow.none (by assumption) hbn.2.2 | have hbm := Grow.none (by assumption) hbn.2.2.2 | have hbm := Grow.none (by assumption) hbn.2.2.2.2 | have hbm := Grow.none (by assumption) hbn.2.2.2.2.2)); (try simp only [set_none'] at hbm)) | ((first | refine condS_i ?_ ?_ | refine pick_i ?_ ?_ | refine gS_it ?_ ?_ | refine gS_if ?_ ?_ | refine gP_it ?_ ?_ | refine gP_if ?_ ?_) <;> (intro hc; try simp only [Int.reduceLE,Int.reduceLT,Int.reduceEq,Sn] at hc)) | (with_reducible refine KP_i ?_ ?_; · (repeat' (first | exact Heap.Le.refl _ | (with_reducible refine Le_set2 ?_) | (refine Le_known (by first | (simp only [Heap.set_same, set_ne, ne_eq, not_false_eq_true, *] <;> rfl) | fail) ?_) | (refine Le_fresh (by first | (simp only [*] <;> done) | (simp [set_none', Heap.set_same, set_ne, noneH, *] <;> done) | fail) ?_) | (refine Heap.Le.trans ?_ (Grow.le (by assumption))) | exact Le_none | (refine Le_put ?_ (by first | (simp only [Heap.set_same, set_ne, ne_eq, not_false_eq_true, *] <;> rfl) | fail)) | fail))) | (with_reducible refine And.intro ?_ ?_)) <;> (try simp only [Sq,Sr,Sh,Si,Sl,Bu,Bb,Bd,Bc,Bw,Bn,Int.reduceAdd,Int.reduceSub,Int.reduceMul,Int.reduceTDiv,Int.reduceTMod,Int.reduceMod,Int.reduceDiv,Nat.reduceLT,Nat.reduceEqDiff,Sa,Sb,Sc,Sd,Se,Sf,Sg,Int.reduceLE,Int.reduceLT,Int.reduceToNat,Int.reduceNeg,Int.reduceEq,Nat.reduceLeDiff,Nat.reducePow,Int.reducePow,reduceIte,Nat.reduceSub,Nat.reduceAdd,Nat.reduceMul,putAt,ceq,List.replicate, *]))
      exact Round_k 8 13 (fun us => (y + 1, us)) ⟨hlt, a, cap, st⟩ (by simp only; omega) rfl rfl
  · have e : y = ht := by omega
    subst y
    have q6 : ¬ (ht : Int) < (ht : Int) := by omega
    rw [Nat.mul_comm ht wd] at st
    have g : Geo z f S W V cw rh wd ht := g'
    have hol := outB_len z.l f S W cw (cw * rh) wd g.s (wd * ht)
    have hol2 : (outB z.l f S W cw (cw * rh) wd (wd * ht)).length ≤ 16384 := by rw [hol]; exact Nat.le_trans (Nat.mul_le_mul (Nat.mul_le_mul hwd.2 hht.2) g.s1.2) (by decide)
    have fin := (show ∀ a cap G, _ → _ → _ from h') a cap (G.set b4 ⟨.t 38, [.int .i64 (wd : Nat), .int .i64 (ht : Nat), .slice a (outB z.l f S W cw (cw * rh) wd (wd * ht)).length cap]⟩)
      ⟨st.bld.turn st.k4 (by simp), Nat.le_trans hol2 (by decide), Nat.le_trans hol2 (by decide), by unfold I64; simp only; omega, by unfold I64; simp only; omega, outB_b _ _ _ _ _ _ _ _⟩ (st.g.set s4 n4.2)
    have k4 := st.k4
    have k6 := st.k6
    unfold LvR.v at fin
    simp only at fin
    clear h' g hol hol2 hz st
    subst eM eK eT
    show run _ _ _ _ _ _ G
    rw [root2 hbk.2.1.2 k4 k6]
    (all_goals (try simp only [Sq,Sr,Sh,Si,Sl,Bu,Bb,Bd,Bc,Bw,Bn,Int.reduceAdd,Int.reduceSub,Int.reduceMul,Int.reduceTDiv,Int.reduceTMod,Int.reduceMod,Int.reduceDiv,Nat.reduceLT,Nat.reduceEqDiff,Sa,Sb,Sc,Sd,Se,Sf,Sg,Int.reduceLE,Int.reduceLT,Int.reduceToNat,Int.reduceNeg,Int.reduceEq,Nat.reduceLeDiff,Nat.reducePow,Int.reducePow,reduceIte,Nat.reduceSub,Nat.reduceAdd,Nat.reduceMul,putAt,ceq,List.replicate, *])); repeat' ((first | (with_reducible refine fun _ : True => ?_) | (with_reducible refine any_h ?_) | ((first | refine AllocQ_i ?_ | refine AllocO_i ?_); intro bk hb0 hbk; (try simp only [set_none'] at hbk); (try (first | have hbn := Grow.none (by assumption) hbk | have hbn := Grow.none (by assumption) hbk.2 | have hbn := Grow.none (by assumption) hbk.2.2 | have hbn := Grow.none (by assumption) hbk.2.2.2 | have hbn := Grow.none (by assumption) hbk.2.2.2.2 | have hbn := Grow.none (by assumption) hbk.2.2.2.2.2)); (try simp only [set_none'] at hbn); (try (first | have hbm := Grow.none (by assumption) hbn | have hbm := Grow.none (by assumption) hbn.2 | have hbm := Grow.none (by assumption) hbn.2.2 | have hbm := Grow.none (by assumption) hbn.2.2.2 | have hbm := Grow.none (by assumption) hbn.2.2.2.2 | have hbm := Grow.none (by assumption) hbn.2.2.2.2.2)); (try simp only [set_none'] at hbm)) | ((first | refine condS_i ?_ ?_ | refine pick_i ?_ ?_ | refine gS_it ?_ ?_ | refine gS_if ?_ ?_ | refine gP_it ?_ ?_ | refine gP_if ?_ ?_) <;> (intro hc; try simp only [Int.reduceLE,Int.reduceLT,Int.reduceEq,Sn] at hc)) | (with_reducible refine KP_i ?_ ?_; · (repeat' (first | exact Heap.Le.refl _ | (with_reducible refine Le_set2 ?_) | (refine Le_known (by first | (simp only [Heap.set_same, set_ne, ne_eq, not_false_eq_true, *] <;> rfl) | fail) ?_) | (refine Le_fresh (by first | (simp only [*] <;> done) | (simp [set_none', Heap.set_same, set_ne, noneH, *] <;> done) | fail) ?_) | (refine Heap.Le.trans ?_ (Grow.le (by assumption))) | exact Le_none | (refine Le_put ?_ (by first | (simp only [Heap.set_same, set_ne, ne_eq, not_false_eq_true, *] <;> rfl) | fail)) | fail))) | (with_reducible refine And.intro ?_ ?_)) <;> (try simp only [Sq,Sr,Sh,Si,Sl,Bu,Bb,Bd,Bc,Bw,Bn,Int.reduceAdd,Int.reduceSub,Int.reduceMul,Int.reduceTDiv,Int.reduceTMod,Int.reduceMod,Int.reduceDiv,Nat.reduceLT,Nat.reduceEqDiff,Sa,Sb,Sc,Sd,Se,Sf,Sg,Int.reduceLE,Int.reduceLT,Int.reduceToNat,Int.reduceNeg,Int.reduceEq,Nat.reduceLeDiff,Nat.reducePow,Int.reducePow,reduceIte,Nat.reduceSub,Nat.reduceAdd,Nat.reduceMul,putAt,ceq,List.replicate, *]))
    exact Fin_mk (by (repeat' (first | exact Heap.Le.refl _ | (with_reducible refine Le_set2 ?_) | (refine Le_known (by first | (simp only [Heap.set_same, set_ne, ne_eq, not_false_eq_true, *] <;> rfl) | fail) ?_) | (refine Le_fresh (by first | (simp only [*] <;> done) | (simp [set_none', Heap.set_same, set_ne, noneH, *] <;> done) | fail) ?_) | (refine Heap.Le.trans ?_ (Grow.le (by assumption))) | exact Le_none | (refine Le_put ?_ (by first | (simp only [Heap.set_same, set_ne, ne_eq, not_false_eq_true, *] <;> rfl) | fail)) | fail))) fin
end Go.Proofs.Ytdaipgnhconfnaa
