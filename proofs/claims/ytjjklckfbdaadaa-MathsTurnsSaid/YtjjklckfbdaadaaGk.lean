/- The statement on sines that turn and lie on the circle, as a call. -/
import Derived.Test.YtjjklckfbdaadaaGi
import Derived.Test.YtjjklckfbdaadaaPg
set_option linter.unusedSimpArgs false
set_option linter.unusedVariables false
set_option maxRecDepth 100000
set_option maxHeartbeats 4000000
namespace Go.Proofs.Ytjjklckfbdaadaa
open Go.HL Go.RowKit Pb
variable {w0 : World} {H : Heap} {K : Value → Heap → Prop}

/- paintboxlaw04 MathsTurns -/
def M6 : MC :=
  .seq (.reg [⟨(some 2), .mv (.const (.bool false)), none⟩])
  (.seq (.seq (.reg [⟨(some 7), .call 12 [], none⟩,
       ⟨(some 8), .un .not (.tmp 7), none⟩])
    (.cond (.tmp 8)
     (.seq (.reg [⟨(some 2), .mv (.const (.bool false)), none⟩])
      (.ret))
     (.skip)))
   (.seq (.reg [⟨(some 9), .mv (.tmp 0), none⟩,
       ⟨(some 10), .call 17 [(.tmp 9)], none⟩,
       ⟨(some 11), .conv .i64 (.tmp 10), none⟩,
       ⟨(some 12), .mv (.tmp 0), none⟩,
       ⟨(some 13), .call 19 [(.tmp 12)], none⟩,
       ⟨(some 14), .conv .i64 (.tmp 13), none⟩,
       ⟨(some 3), .mv (.tmp 11), none⟩,
       ⟨(some 4), .mv (.tmp 14), none⟩])
    (.seq (.seq (.reg [⟨(some 15), .mv (.tmp 3), none⟩,
         ⟨(some 16), .bin .lss (.tmp 15) (.const (.int .i64 (-65536))), none⟩,
         ⟨(some 17), .mv (.tmp 16), none⟩,
         ⟨(some 18), .mv (.tmp 3), (some (17, false))⟩,
         ⟨(some 19), .bin .gtr (.tmp 18) (.const (.int .i64 65536)), (some (17, false))⟩,
         ⟨(some 20), .pick (.tmp 17) (.const (.bool true)) (.tmp 19), none⟩,
         ⟨(some 21), .mv (.tmp 20), none⟩,
         ⟨(some 22), .mv (.tmp 4), (some (21, false))⟩,
         ⟨(some 23), .bin .lss (.tmp 22) (.const (.int .i64 (-65536))), (some (21, false))⟩,
         ⟨(some 24), .pick (.tmp 21) (.const (.bool true)) (.tmp 23), none⟩,
         ⟨(some 25), .mv (.tmp 24), none⟩,
         ⟨(some 26), .mv (.tmp 4), (some (25, false))⟩,
         ⟨(some 27), .bin .gtr (.tmp 26) (.const (.int .i64 65536)), (some (25, false))⟩,
         ⟨(some 28), .pick (.tmp 25) (.const (.bool true)) (.tmp 27), none⟩])
      (.cond (.tmp 28)
       (.seq (.reg [⟨(some 2), .mv (.const (.bool false)), none⟩])
        (.ret))
       (.skip)))
     (.seq (.seq (.reg [⟨(some 29), .mv (.tmp 0), none⟩,
          ⟨(some 30), .bin .gtr (.tmp 29) (.const (.int .i32 (-2147483648))), none⟩])
       (.cond (.tmp 30)
        (.seq (.reg [⟨(some 31), .mv (.tmp 3), none⟩,
            ⟨(some 32), .mv (.tmp 0), none⟩,
            ⟨(some 33), .un .neg (.tmp 32), none⟩,
            ⟨(some 34), .call 17 [(.tmp 33)], none⟩,
            ⟨(some 35), .conv .i64 (.tmp 34), none⟩,
            ⟨(some 36), .bin .add (.tmp 31) (.tmp 35), none⟩,
            ⟨(some 5), .mv (.tmp 36), none⟩])
         (.seq (.reg [⟨(some 37), .mv (.tmp 5), none⟩,
             ⟨(some 38), .bin .gtr (.tmp 37) (.const (.int .i64 2)), none⟩,
             ⟨(some 39), .mv (.tmp 38), none⟩,
             ⟨(some 40), .mv (.tmp 5), (some (39, false))⟩,
             ⟨(some 41), .bin .lss (.tmp 40) (.const (.int .i64 (-2))), (some (39, false))⟩,
             ⟨(some 42), .pick (.tmp 39) (.const (.bool true)) (.tmp 41), none⟩])
          (.cond (.tmp 42)
           (.seq (.reg [⟨(some 2), .mv (.const (.bool false)), none⟩])
            (.ret))
           (.skip))))
        (.skip)))
      (.seq (.reg [⟨(some 43), .mv (.tmp 3), none⟩,
          ⟨(some 44), .mv (.tmp 3), none⟩,
          ⟨(some 45), .bin .mul (.tmp 43) (.tmp 44), none⟩,
          ⟨(some 46), .mv (.tmp 4), none⟩,
          ⟨(some 47), .mv (.tmp 4), none⟩,
          ⟨(some 48), .bin .mul (.tmp 46) (.tmp 47), none⟩,
          ⟨(some 49), .bin .add (.tmp 45) (.tmp 48), none⟩,
          ⟨(some 50), .bin .quo (.tmp 49) (.const (.int .i64 65536)), none⟩,
          ⟨(some 51), .bin .sub (.tmp 50) (.const (.int .i64 65536)), none⟩,
          ⟨(some 6), .mv (.tmp 51), none⟩])
       (.seq (.reg [⟨(some 52), .mv (.tmp 6), none⟩,
           ⟨(some 53), .bin .geq (.tmp 52) (.const (.int .i64 (-8))), none⟩,
           ⟨(some 54), .mv (.tmp 53), none⟩,
           ⟨(some 55), .mv (.tmp 6), (some (54, true))⟩,
           ⟨(some 56), .bin .leq (.tmp 55) (.const (.int .i64 8)), (some (54, true))⟩,
           ⟨(some 57), .pick (.tmp 54) (.tmp 56) (.const (.bool false)), none⟩,
           ⟨(some 2), .mv (.tmp 57), none⟩])
        (.ret)))))))
theorem k6 : fnOk Try.prog 6 = some (M6, [.t 2], 58) := by kernel_rfl

theorem l_MathsTurns (x : Int) (hx : I32 x) (h : K (.bool true) H) : HCalls Try.prog w0 6 [.int .i32 x] H K := by
  have hx' := hx
  unfold I32 at hx'
  obtain ⟨t1, t2⟩ := turn hx
  obtain ⟨k1, k2⟩ := circle_x x
  have b1 : -65536 ≤ fsin x ∧ fsin x ≤ 65536 := sinF_b _
  have b2 : -65536 ≤ fsin (-x) ∧ fsin (-x) ≤ 65536 := sinF_b _
  have b3 : -65536 ≤ fcos x ∧ fcos x ≤ 65536 := sinF_b _
  have sqb : ∀ a : Int, -65536 ≤ a ∧ a ≤ 65536 → 0 ≤ a * a ∧ a * a ≤ 4294967296 := fun a ha => by
    have hn := (sq_b (x := a) (by unfold I32; omega)).1
    rcases Int.le_total 0 a with h' | h'
    · have := sq_mono (b := 65536) h' ha.2; omega
    · have := sq_mono (a := -a) (b := 65536) (by omega) (by omega); rw [Int.neg_mul_neg] at this; omega
  have s1 := sqb _ b1
  have s2 := sqb _ b3
  have e1 : IntKind.i64.wrap (fsin x) = fsin x := Bw.1 _ (by omega) (by omega)
  have e2 : IntKind.i64.wrap (fcos x) = fcos x := Bw.1 _ (by omega) (by omega)
  have e3 : IntKind.i64.wrap (fsin (-x)) = fsin (-x) := Bw.1 _ (by omega) (by omega)
  have e4 : IntKind.i64.wrap (fsin x + fsin (-x)) = fsin x + fsin (-x) := Bw.1 _ (by omega) (by omega)
  have e5 : IntKind.i64.wrap (fsin x * fsin x) = fsin x * fsin x := Bw.1 _ (by omega) (by omega)
  have e6 : IntKind.i64.wrap (fcos x * fcos x) = fcos x * fcos x := Bw.1 _ (by omega) (by omega)
  have e7 : IntKind.i64.wrap (fsin x * fsin x + fcos x * fcos x) = fsin x * fsin x + fcos x * fcos x := Bw.1 _ (by omega) (by omega)
  have e8 : (fsin x * fsin x + fcos x * fcos x).tdiv 65536 = (fsin x * fsin x + fcos x * fcos x) / 65536 := Int.tdiv_eq_ediv_of_nonneg (by omega)
  have e9 : IntKind.i64.wrap ((fsin x * fsin x + fcos x * fcos x) / 65536) = (fsin x * fsin x + fcos x * fcos x) / 65536 := Bw.1 _ (by omega) (by omega)
  have e10 : IntKind.i64.wrap ((fsin x * fsin x + fcos x * fcos x) / 65536 - 65536) = (fsin x * fsin x + fcos x * fcos x) / 65536 - 65536 := Bw.1 _ (by omega) (by omega)
  have g1 : -8 ≤ (fsin x * fsin x + fcos x * fcos x) / 65536 - 65536 := by omega
  have g2 : (fsin x * fsin x + fcos x * fcos x) / 65536 - 65536 ≤ 8 := by omega
  have g3 : ¬ fsin x < -65536 := by omega
  have g4 : ¬ 65536 < fsin x := by omega
  have g5 : ¬ fcos x < -65536 := by omega
  have g6 : ¬ 65536 < fcos x := by omega
  have g7 : ¬ 2 < fsin x + fsin (-x) := by omega
  have g8 : ¬ fsin x + fsin (-x) < -2 := by omega
  clear t1 t2 k1 k2 b1 b2 b3 sqb s1 s2
  by_cases hm : -2147483648 < x
  · have hn : I32 (-x) := by unfold I32; omega
    have e11 : IntKind.i32.wrap (0 - x) = -x := by rw [Int.zero_sub]; exact Bw.2 _ (by omega) (by omega)
    refine HL.hc k6 999 ?_; simp only [M6, Sh, Si, Sl, Bu, Bb, Bd, Bc, Bw, Bn, Int.reduceAdd, Int.reduceSub, Int.reduceMul, Int.reduceTDiv, Int.reduceTMod, Int.reduceMod, Int.reduceDiv, Nat.reduceLT, Nat.reduceEqDiff, decide_true, decide_false, Sa, Sb, Sc, Sd, Se, Sf, Sg, true_and, and_true, and_self, eq_self, b_i64, b_i32, b_u64, b_u32, b_u8, Int.reduceLE, Int.reduceLT, Int.reduceToNat, Int.reduceNeg, Int.reduceEq, Nat.reduceLeDiff, Nat.reducePow, Int.reducePow, Nat.min_def, reduceIte, Nat.reduceSub, Nat.reduceAdd, Nat.reduceMul, KP_same, KP_f, condS_t, condS_f, pick_t, pick_f, gS_tt, gS_ff, gS_tf, gS_ft, gS_u, gP_tt, gP_ff, gP_tf, gP_ft, gP_u, ptrV_eq, slcV_eq, cells_agg, cells_int, cells_bool, cells_ptr, cells_slice, oc_int, oc_bool, oc_slice, oc_ptr, rd1_set, rd1_ne, rdn_set, rdn_ne, Heap.set_same, set_ne, Heap.set_set, set_up, set_up2, set_up3, putAt, ceq, List.map_cons, List.map_nil, List.length_cons, List.length_nil, List.length_set, List.cons_append, List.nil_append, List.append_nil, List.replicate, List.size_toArray, List.all_cons, List.all_nil, Bool.and_self, Bool.and_true, List.drop_zero, List.drop_succ_cons, List.take_succ_cons, List.take_zero, List.set_cons_zero, List.set_cons_succ, List.getElem?_cons_zero, List.getElem?_cons_succ, Option.map_some, Option.map_none, ne_eq, not_false_eq_true, not_true_eq_false, gt_iff_lt, ge_iff_le, Int.one_mul, Nat.zero_add, Nat.zero_mul, Bool.not_true, Bool.not_false, Bool.false_eq_true, Bool.and_false, Bool.false_and, Bool.true_and]
    (try simp only [Sh, Si, Sl, Bu, Bb, Bd, Bc, Bw, Bn, Int.reduceAdd, Int.reduceSub, Int.reduceMul, Int.reduceTDiv, Int.reduceTMod, Int.reduceMod, Int.reduceDiv, Nat.reduceLT, Nat.reduceEqDiff, decide_true, decide_false, Sa, Sb, Sc, Sd, Se, Sf, Sg, true_and, and_true, and_self, eq_self, b_i64, b_i32, b_u64, b_u32, b_u8, Int.reduceLE, Int.reduceLT, Int.reduceToNat, Int.reduceNeg, Int.reduceEq, Nat.reduceLeDiff, Nat.reducePow, Int.reducePow, Nat.min_def, reduceIte, Nat.reduceSub, Nat.reduceAdd, Nat.reduceMul, KP_same, KP_f, condS_t, condS_f, pick_t, pick_f, gS_tt, gS_ff, gS_tf, gS_ft, gS_u, gP_tt, gP_ff, gP_tf, gP_ft, gP_u, ptrV_eq, slcV_eq, cells_agg, cells_int, cells_bool, cells_ptr, cells_slice, oc_int, oc_bool, oc_slice, oc_ptr, rd1_set, rd1_ne, rdn_set, rdn_ne, Heap.set_same, set_ne, Heap.set_set, set_up, set_up2, set_up3, putAt, ceq, List.map_cons, List.map_nil, List.length_cons, List.length_nil, List.length_set, List.cons_append, List.nil_append, List.append_nil, List.replicate, List.size_toArray, List.all_cons, List.all_nil, Bool.and_self, Bool.and_true, List.drop_zero, List.drop_succ_cons, List.take_succ_cons, List.take_zero, List.set_cons_zero, List.set_cons_succ, List.getElem?_cons_zero, List.getElem?_cons_succ, Option.map_some, Option.map_none, ne_eq, not_false_eq_true, not_true_eq_false, gt_iff_lt, ge_iff_le, Int.one_mul, Nat.zero_add, Nat.zero_mul, Bool.not_true, Bool.not_false, Bool.false_eq_true, Bool.and_false, Bool.false_and, Bool.true_and, *]); repeat' ((first | refine w_wakes ?_ | refine c_Sin _ hx ?_ | refine c_Cos _ hx ?_ | refine c_Sin _ hn ?_ | (refine AllocQ_i ?_; intro bk hb0 hbk; try simp only [set_none'] at hbk) | (refine condS_i ?_ ?_ <;> (intro hc; try simp only [Int.reduceLE, Int.reduceLT, Int.reduceEq, and_self, not_true_eq_false, not_false_eq_true, and_true, true_and, false_and, and_false, true_or, or_true, false_or, or_false, decide_eq_true_eq, decide_eq_false_iff_not, beq_iff_eq, beq_eq_false_iff_ne, bne_iff_ne, ne_eq, gt_iff_lt, ge_iff_le, Bool.not_eq_true, Bool.not_eq_false, Bool.not_eq_true', Bool.not_eq_false', Bool.not_eq_eq_eq_not, Bool.not_true, Bool.not_false] at hc)) | (refine pick_i ?_ ?_ <;> (intro hc; try simp only [Int.reduceLE, Int.reduceLT, Int.reduceEq, and_self, not_true_eq_false, not_false_eq_true, and_true, true_and, false_and, and_false, true_or, or_true, false_or, or_false, decide_eq_true_eq, decide_eq_false_iff_not, beq_iff_eq, beq_eq_false_iff_ne, bne_iff_ne, ne_eq, gt_iff_lt, ge_iff_le, Bool.not_eq_true, Bool.not_eq_false, Bool.not_eq_true', Bool.not_eq_false', Bool.not_eq_eq_eq_not, Bool.not_true, Bool.not_false] at hc)) | (refine gS_it ?_ ?_ <;> (intro hc; try simp only [Int.reduceLE, Int.reduceLT, Int.reduceEq, and_self, not_true_eq_false, not_false_eq_true, and_true, true_and, false_and, and_false, true_or, or_true, false_or, or_false, decide_eq_true_eq, decide_eq_false_iff_not, beq_iff_eq, beq_eq_false_iff_ne, bne_iff_ne, ne_eq, gt_iff_lt, ge_iff_le, Bool.not_eq_true, Bool.not_eq_false, Bool.not_eq_true', Bool.not_eq_false', Bool.not_eq_eq_eq_not, Bool.not_true, Bool.not_false] at hc)) | (refine gS_if ?_ ?_ <;> (intro hc; try simp only [Int.reduceLE, Int.reduceLT, Int.reduceEq, and_self, not_true_eq_false, not_false_eq_true, and_true, true_and, false_and, and_false, true_or, or_true, false_or, or_false, decide_eq_true_eq, decide_eq_false_iff_not, beq_iff_eq, beq_eq_false_iff_ne, bne_iff_ne, ne_eq, gt_iff_lt, ge_iff_le, Bool.not_eq_true, Bool.not_eq_false, Bool.not_eq_true', Bool.not_eq_false', Bool.not_eq_eq_eq_not, Bool.not_true, Bool.not_false] at hc)) | (refine gP_it ?_ ?_ <;> (intro hc; try simp only [Int.reduceLE, Int.reduceLT, Int.reduceEq, and_self, not_true_eq_false, not_false_eq_true, and_true, true_and, false_and, and_false, true_or, or_true, false_or, or_false, decide_eq_true_eq, decide_eq_false_iff_not, beq_iff_eq, beq_eq_false_iff_ne, bne_iff_ne, ne_eq, gt_iff_lt, ge_iff_le, Bool.not_eq_true, Bool.not_eq_false, Bool.not_eq_true', Bool.not_eq_false', Bool.not_eq_eq_eq_not, Bool.not_true, Bool.not_false] at hc)) | (refine gP_if ?_ ?_ <;> (intro hc; try simp only [Int.reduceLE, Int.reduceLT, Int.reduceEq, and_self, not_true_eq_false, not_false_eq_true, and_true, true_and, false_and, and_false, true_or, or_true, false_or, or_false, decide_eq_true_eq, decide_eq_false_iff_not, beq_iff_eq, beq_eq_false_iff_ne, bne_iff_ne, ne_eq, gt_iff_lt, ge_iff_le, Bool.not_eq_true, Bool.not_eq_false, Bool.not_eq_true', Bool.not_eq_false', Bool.not_eq_eq_eq_not, Bool.not_true, Bool.not_false] at hc)) | (with_reducible refine And.intro ?_ ?_)) <;> (try simp only [Sh, Si, Sl, Bu, Bb, Bd, Bc, Bw, Bn, Int.reduceAdd, Int.reduceSub, Int.reduceMul, Int.reduceTDiv, Int.reduceTMod, Int.reduceMod, Int.reduceDiv, Nat.reduceLT, Nat.reduceEqDiff, decide_true, decide_false, Sa, Sb, Sc, Sd, Se, Sf, Sg, true_and, and_true, and_self, eq_self, b_i64, b_i32, b_u64, b_u32, b_u8, Int.reduceLE, Int.reduceLT, Int.reduceToNat, Int.reduceNeg, Int.reduceEq, Nat.reduceLeDiff, Nat.reducePow, Int.reducePow, Nat.min_def, reduceIte, Nat.reduceSub, Nat.reduceAdd, Nat.reduceMul, KP_same, KP_f, condS_t, condS_f, pick_t, pick_f, gS_tt, gS_ff, gS_tf, gS_ft, gS_u, gP_tt, gP_ff, gP_tf, gP_ft, gP_u, ptrV_eq, slcV_eq, cells_agg, cells_int, cells_bool, cells_ptr, cells_slice, oc_int, oc_bool, oc_slice, oc_ptr, rd1_set, rd1_ne, rdn_set, rdn_ne, Heap.set_same, set_ne, Heap.set_set, set_up, set_up2, set_up3, putAt, ceq, List.map_cons, List.map_nil, List.length_cons, List.length_nil, List.length_set, List.cons_append, List.nil_append, List.append_nil, List.replicate, List.size_toArray, List.all_cons, List.all_nil, Bool.and_self, Bool.and_true, List.drop_zero, List.drop_succ_cons, List.take_succ_cons, List.take_zero, List.set_cons_zero, List.set_cons_succ, List.getElem?_cons_zero, List.getElem?_cons_succ, Option.map_some, Option.map_none, ne_eq, not_false_eq_true, not_true_eq_false, gt_iff_lt, ge_iff_le, Int.one_mul, Nat.zero_add, Nat.zero_mul, Bool.not_true, Bool.not_false, Bool.false_eq_true, Bool.and_false, Bool.false_and, Bool.true_and, *]))
    exact Fin_mk (by (repeat' (first | exact Heap.Le.refl _ | (refine Le_fresh (by simp only [*]) ?_)))) h
  · refine HL.hc k6 999 ?_; simp only [M6, Sh, Si, Sl, Bu, Bb, Bd, Bc, Bw, Bn, Int.reduceAdd, Int.reduceSub, Int.reduceMul, Int.reduceTDiv, Int.reduceTMod, Int.reduceMod, Int.reduceDiv, Nat.reduceLT, Nat.reduceEqDiff, decide_true, decide_false, Sa, Sb, Sc, Sd, Se, Sf, Sg, true_and, and_true, and_self, eq_self, b_i64, b_i32, b_u64, b_u32, b_u8, Int.reduceLE, Int.reduceLT, Int.reduceToNat, Int.reduceNeg, Int.reduceEq, Nat.reduceLeDiff, Nat.reducePow, Int.reducePow, Nat.min_def, reduceIte, Nat.reduceSub, Nat.reduceAdd, Nat.reduceMul, KP_same, KP_f, condS_t, condS_f, pick_t, pick_f, gS_tt, gS_ff, gS_tf, gS_ft, gS_u, gP_tt, gP_ff, gP_tf, gP_ft, gP_u, ptrV_eq, slcV_eq, cells_agg, cells_int, cells_bool, cells_ptr, cells_slice, oc_int, oc_bool, oc_slice, oc_ptr, rd1_set, rd1_ne, rdn_set, rdn_ne, Heap.set_same, set_ne, Heap.set_set, set_up, set_up2, set_up3, putAt, ceq, List.map_cons, List.map_nil, List.length_cons, List.length_nil, List.length_set, List.cons_append, List.nil_append, List.append_nil, List.replicate, List.size_toArray, List.all_cons, List.all_nil, Bool.and_self, Bool.and_true, List.drop_zero, List.drop_succ_cons, List.take_succ_cons, List.take_zero, List.set_cons_zero, List.set_cons_succ, List.getElem?_cons_zero, List.getElem?_cons_succ, Option.map_some, Option.map_none, ne_eq, not_false_eq_true, not_true_eq_false, gt_iff_lt, ge_iff_le, Int.one_mul, Nat.zero_add, Nat.zero_mul, Bool.not_true, Bool.not_false, Bool.false_eq_true, Bool.and_false, Bool.false_and, Bool.true_and]
    (try simp only [Sh, Si, Sl, Bu, Bb, Bd, Bc, Bw, Bn, Int.reduceAdd, Int.reduceSub, Int.reduceMul, Int.reduceTDiv, Int.reduceTMod, Int.reduceMod, Int.reduceDiv, Nat.reduceLT, Nat.reduceEqDiff, decide_true, decide_false, Sa, Sb, Sc, Sd, Se, Sf, Sg, true_and, and_true, and_self, eq_self, b_i64, b_i32, b_u64, b_u32, b_u8, Int.reduceLE, Int.reduceLT, Int.reduceToNat, Int.reduceNeg, Int.reduceEq, Nat.reduceLeDiff, Nat.reducePow, Int.reducePow, Nat.min_def, reduceIte, Nat.reduceSub, Nat.reduceAdd, Nat.reduceMul, KP_same, KP_f, condS_t, condS_f, pick_t, pick_f, gS_tt, gS_ff, gS_tf, gS_ft, gS_u, gP_tt, gP_ff, gP_tf, gP_ft, gP_u, ptrV_eq, slcV_eq, cells_agg, cells_int, cells_bool, cells_ptr, cells_slice, oc_int, oc_bool, oc_slice, oc_ptr, rd1_set, rd1_ne, rdn_set, rdn_ne, Heap.set_same, set_ne, Heap.set_set, set_up, set_up2, set_up3, putAt, ceq, List.map_cons, List.map_nil, List.length_cons, List.length_nil, List.length_set, List.cons_append, List.nil_append, List.append_nil, List.replicate, List.size_toArray, List.all_cons, List.all_nil, Bool.and_self, Bool.and_true, List.drop_zero, List.drop_succ_cons, List.take_succ_cons, List.take_zero, List.set_cons_zero, List.set_cons_succ, List.getElem?_cons_zero, List.getElem?_cons_succ, Option.map_some, Option.map_none, ne_eq, not_false_eq_true, not_true_eq_false, gt_iff_lt, ge_iff_le, Int.one_mul, Nat.zero_add, Nat.zero_mul, Bool.not_true, Bool.not_false, Bool.false_eq_true, Bool.and_false, Bool.false_and, Bool.true_and, *]); repeat' ((first | refine w_wakes ?_ | refine c_Sin _ hx ?_ | refine c_Cos _ hx ?_ | (refine AllocQ_i ?_; intro bk hb0 hbk; try simp only [set_none'] at hbk) | (refine condS_i ?_ ?_ <;> (intro hc; try simp only [Int.reduceLE, Int.reduceLT, Int.reduceEq, and_self, not_true_eq_false, not_false_eq_true, and_true, true_and, false_and, and_false, true_or, or_true, false_or, or_false, decide_eq_true_eq, decide_eq_false_iff_not, beq_iff_eq, beq_eq_false_iff_ne, bne_iff_ne, ne_eq, gt_iff_lt, ge_iff_le, Bool.not_eq_true, Bool.not_eq_false, Bool.not_eq_true', Bool.not_eq_false', Bool.not_eq_eq_eq_not, Bool.not_true, Bool.not_false] at hc)) | (refine pick_i ?_ ?_ <;> (intro hc; try simp only [Int.reduceLE, Int.reduceLT, Int.reduceEq, and_self, not_true_eq_false, not_false_eq_true, and_true, true_and, false_and, and_false, true_or, or_true, false_or, or_false, decide_eq_true_eq, decide_eq_false_iff_not, beq_iff_eq, beq_eq_false_iff_ne, bne_iff_ne, ne_eq, gt_iff_lt, ge_iff_le, Bool.not_eq_true, Bool.not_eq_false, Bool.not_eq_true', Bool.not_eq_false', Bool.not_eq_eq_eq_not, Bool.not_true, Bool.not_false] at hc)) | (refine gS_it ?_ ?_ <;> (intro hc; try simp only [Int.reduceLE, Int.reduceLT, Int.reduceEq, and_self, not_true_eq_false, not_false_eq_true, and_true, true_and, false_and, and_false, true_or, or_true, false_or, or_false, decide_eq_true_eq, decide_eq_false_iff_not, beq_iff_eq, beq_eq_false_iff_ne, bne_iff_ne, ne_eq, gt_iff_lt, ge_iff_le, Bool.not_eq_true, Bool.not_eq_false, Bool.not_eq_true', Bool.not_eq_false', Bool.not_eq_eq_eq_not, Bool.not_true, Bool.not_false] at hc)) | (refine gS_if ?_ ?_ <;> (intro hc; try simp only [Int.reduceLE, Int.reduceLT, Int.reduceEq, and_self, not_true_eq_false, not_false_eq_true, and_true, true_and, false_and, and_false, true_or, or_true, false_or, or_false, decide_eq_true_eq, decide_eq_false_iff_not, beq_iff_eq, beq_eq_false_iff_ne, bne_iff_ne, ne_eq, gt_iff_lt, ge_iff_le, Bool.not_eq_true, Bool.not_eq_false, Bool.not_eq_true', Bool.not_eq_false', Bool.not_eq_eq_eq_not, Bool.not_true, Bool.not_false] at hc)) | (refine gP_it ?_ ?_ <;> (intro hc; try simp only [Int.reduceLE, Int.reduceLT, Int.reduceEq, and_self, not_true_eq_false, not_false_eq_true, and_true, true_and, false_and, and_false, true_or, or_true, false_or, or_false, decide_eq_true_eq, decide_eq_false_iff_not, beq_iff_eq, beq_eq_false_iff_ne, bne_iff_ne, ne_eq, gt_iff_lt, ge_iff_le, Bool.not_eq_true, Bool.not_eq_false, Bool.not_eq_true', Bool.not_eq_false', Bool.not_eq_eq_eq_not, Bool.not_true, Bool.not_false] at hc)) | (refine gP_if ?_ ?_ <;> (intro hc; try simp only [Int.reduceLE, Int.reduceLT, Int.reduceEq, and_self, not_true_eq_false, not_false_eq_true, and_true, true_and, false_and, and_false, true_or, or_true, false_or, or_false, decide_eq_true_eq, decide_eq_false_iff_not, beq_iff_eq, beq_eq_false_iff_ne, bne_iff_ne, ne_eq, gt_iff_lt, ge_iff_le, Bool.not_eq_true, Bool.not_eq_false, Bool.not_eq_true', Bool.not_eq_false', Bool.not_eq_eq_eq_not, Bool.not_true, Bool.not_false] at hc)) | (with_reducible refine And.intro ?_ ?_)) <;> (try simp only [Sh, Si, Sl, Bu, Bb, Bd, Bc, Bw, Bn, Int.reduceAdd, Int.reduceSub, Int.reduceMul, Int.reduceTDiv, Int.reduceTMod, Int.reduceMod, Int.reduceDiv, Nat.reduceLT, Nat.reduceEqDiff, decide_true, decide_false, Sa, Sb, Sc, Sd, Se, Sf, Sg, true_and, and_true, and_self, eq_self, b_i64, b_i32, b_u64, b_u32, b_u8, Int.reduceLE, Int.reduceLT, Int.reduceToNat, Int.reduceNeg, Int.reduceEq, Nat.reduceLeDiff, Nat.reducePow, Int.reducePow, Nat.min_def, reduceIte, Nat.reduceSub, Nat.reduceAdd, Nat.reduceMul, KP_same, KP_f, condS_t, condS_f, pick_t, pick_f, gS_tt, gS_ff, gS_tf, gS_ft, gS_u, gP_tt, gP_ff, gP_tf, gP_ft, gP_u, ptrV_eq, slcV_eq, cells_agg, cells_int, cells_bool, cells_ptr, cells_slice, oc_int, oc_bool, oc_slice, oc_ptr, rd1_set, rd1_ne, rdn_set, rdn_ne, Heap.set_same, set_ne, Heap.set_set, set_up, set_up2, set_up3, putAt, ceq, List.map_cons, List.map_nil, List.length_cons, List.length_nil, List.length_set, List.cons_append, List.nil_append, List.append_nil, List.replicate, List.size_toArray, List.all_cons, List.all_nil, Bool.and_self, Bool.and_true, List.drop_zero, List.drop_succ_cons, List.take_succ_cons, List.take_zero, List.set_cons_zero, List.set_cons_succ, List.getElem?_cons_zero, List.getElem?_cons_succ, Option.map_some, Option.map_none, ne_eq, not_false_eq_true, not_true_eq_false, gt_iff_lt, ge_iff_le, Int.one_mul, Nat.zero_add, Nat.zero_mul, Bool.not_true, Bool.not_false, Bool.false_eq_true, Bool.and_false, Bool.false_and, Bool.true_and, *]))
    exact Fin_mk (by (repeat' (first | exact Heap.Le.refl _ | (refine Le_fresh (by simp only [*]) ?_)))) h
end Go.Proofs.Ytjjklckfbdaadaa
