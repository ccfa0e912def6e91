/- The statements of layer 3, as calls. -/
import Derived.Test.YtdaejnakkingbaaFd
set_option linter.unusedSimpArgs false
set_option linter.unusedVariables false
set_option maxRecDepth 100000
set_option maxHeartbeats 2000000
namespace Go.Proofs.Ytdaejnakkingbaa
open Go.HL Go.RowKit Pb
variable {w0 : World} {t1 t2 t3 : TypeId} {H : Heap} {K : Value → Heap → Prop}
/- paintboxlaw03 VecProducts -/
def M4 : MC :=
  .seq (.reg [⟨(some 3), .box 26 (.tmp 1), none⟩,
     ⟨(some 4), .mv (.const (.bool false)), none⟩])
  (.seq (.seq (.reg [⟨(some 7), .call 10 [], none⟩,
       ⟨(some 8), .un .not (.tmp 7), none⟩])
    (.cond (.tmp 8)
     (.seq (.reg [⟨(some 4), .mv (.const (.bool false)), none⟩])
      (.ret))
     (.skip)))
   (.seq (.seq (.any [(true, true, ⟨(some 9), .fa 0 (.tmp 3), none⟩),
        (true, true, ⟨(some 10), .ldn 4 (.tmp 9), none⟩),
        (true, true, ⟨(some 11), .fa 4 (.tmp 3), none⟩),
        (true, true, ⟨(some 12), .ldn 4 (.tmp 11), none⟩),
        (true, true, ⟨(some 14), .fa 0 (.tmp 3), none⟩),
        (true, true, ⟨(some 15), .ldn 4 (.tmp 14), none⟩),
        (true, true, ⟨(some 16), .fa 4 (.tmp 3), none⟩),
        (true, true, ⟨(some 17), .ldn 4 (.tmp 16), none⟩),
        (false, true, ⟨(some 13), .call 13 [(.tmp 10), (.tmp 12)], none⟩),
        (false, false, ⟨(some 18), .call 14 [(.tmp 15), (.tmp 17)], none⟩),
        (false, false, ⟨(some 19), .eqa true 4 (.tmp 13) (.tmp 18), none⟩)])
     (.cond (.tmp 19)
      (.seq (.reg [⟨(some 4), .mv (.const (.bool false)), none⟩])
       (.ret))
      (.skip)))
    (.seq (.reg [⟨(some 21), .mv (.tmp 0), none⟩,
        ⟨(some 22), .fa 0 (.tmp 3), none⟩,
        ⟨(some 23), .ldn 4 (.tmp 22), none⟩,
        ⟨(some 24), .fa 4 (.tmp 3), none⟩,
        ⟨(some 25), .ldn 4 (.tmp 24), none⟩,
        ⟨(some 26), .call 15 [(.tmp 21), (.tmp 23), (.tmp 25)], none⟩,
        ⟨(some 20), .mv (.tmp 26), none⟩,
        ⟨(some 27), .ext 0 (.tmp 20), none⟩,
        ⟨(some 28), .ext 1 (.tmp 20), none⟩,
        ⟨(some 5), .mv (.tmp 27), none⟩,
        ⟨(some 6), .mv (.tmp 28), none⟩])
     (.seq (.seq (.reg [⟨(some 29), .mv (.tmp 0), none⟩,
          ⟨(some 30), .bin .lss (.tmp 29) (.const (.int .i64 1)), none⟩,
          ⟨(some 31), .mv (.tmp 30), none⟩,
          ⟨(some 32), .mv (.tmp 0), (some (31, false))⟩,
          ⟨(some 33), .bin .gtr (.tmp 32) (.const (.int .i64 4)), (some (31, false))⟩,
          ⟨(some 34), .pick (.tmp 31) (.const (.bool true)) (.tmp 33), none⟩])
       (.cond (.tmp 34)
        (.seq (.reg [⟨(some 35), .mv (.tmp 5), none⟩,
            ⟨(some 36), .bin .eql (.tmp 35) (.const (.int .i32 0)), none⟩,
            ⟨(some 37), .mv (.tmp 36), none⟩,
            ⟨(some 38), .mv (.tmp 6), (some (37, true))⟩,
            ⟨(some 39), .bin .eql (.tmp 38) (.const (.int .i64 2)), (some (37, true))⟩,
            ⟨(some 40), .pick (.tmp 37) (.tmp 39) (.const (.bool false)), none⟩,
            ⟨(some 4), .mv (.tmp 40), none⟩])
         (.ret))
        (.skip)))
      (.seq (.reg [⟨(some 41), .mv (.tmp 6), none⟩,
          ⟨(some 42), .bin .eql (.tmp 41) (.const (.int .i64 0)), none⟩,
          ⟨(some 43), .mv (.tmp 42), none⟩,
          ⟨(some 44), .mv (.tmp 5), (some (43, true))⟩,
          ⟨(some 45), .mv (.tmp 0), (some (43, true))⟩,
          ⟨(some 46), .fa 0 (.tmp 3), (some (43, true))⟩,
          ⟨(some 47), .ldn 4 (.tmp 46), (some (43, true))⟩,
          ⟨(some 48), .fa 4 (.tmp 3), (some (43, true))⟩,
          ⟨(some 49), .ldn 4 (.tmp 48), (some (43, true))⟩,
          ⟨(some 50), .call 16 [(.tmp 45), (.tmp 47), (.tmp 49)], (some (43, true))⟩,
          ⟨(some 51), .bin .eql (.tmp 44) (.tmp 50), (some (43, true))⟩,
          ⟨(some 52), .pick (.tmp 43) (.tmp 51) (.const (.bool false)), none⟩,
          ⟨(some 4), .mv (.tmp 52), none⟩])
       (.ret))))))
theorem k4 : fnOk Try.prog 4 = some (M4, [.t 4], 53) := by kernel_rfl

theorem l_VecProducts (n : Int) (a b : Nat → Int) (ha : ∀ i, I32 (a i)) (hb : ∀ i, I32 (b i)) (h : K (.bool true) H) : HCalls Try.prog w0 4 [.int .i64 n, PP a b] H K := by
  refine HL.hc k4 999 ?_; simp only [M4, Bb, Bd, Bc, Bw, Bn, Int.reduceAdd, Int.reduceSub, Int.reduceMul, Int.reduceTDiv, Int.reduceTMod, Nat.reduceLT, decide_true, decide_false, Sa, Sb, Sc, Sd, Se, Sf, Sg, true_and, and_true, and_self, eq_self, b_i64, b_i32, b_u64, b_u32, b_u8, Int.reduceLE, Int.reduceLT, Int.reduceToNat, Int.reduceNeg, Int.reduceEq, Nat.reduceLeDiff, Nat.reducePow, Int.reducePow, Nat.min_def, reduceIte, Nat.reduceSub, Nat.reduceAdd, Nat.reduceMul, KP_same, KP_f, condS_t, condS_f, pick_t, pick_f, gS_tt, gS_ff, gS_tf, gS_ft, gS_u, gP_tt, gP_ff, gP_tf, gP_ft, gP_u, ptrV_eq, slcV_eq, cells_agg, cells_int, cells_bool, cells_ptr, cells_slice, oc_int, oc_bool, oc_slice, oc_ptr, rd1_set, rd1_ne, rdn_set, rdn_ne, Heap.set_same, set_ne, Heap.set_set, set_up, set_up2, set_up3, putAt, ceq, List.map_cons, List.map_nil, List.length_cons, List.length_nil, List.length_set, List.cons_append, List.nil_append, List.append_nil, List.replicate, List.size_toArray, List.all_cons, List.all_nil, Bool.and_self, Bool.and_true, List.drop_zero, List.drop_succ_cons, List.take_succ_cons, List.take_zero, List.set_cons_zero, List.set_cons_succ, List.getElem?_cons_zero, List.getElem?_cons_succ, Option.map_some, Option.map_none, ne_eq, not_false_eq_true, not_true_eq_false, gt_iff_lt, ge_iff_le, Nat.zero_add, Nat.zero_mul, Bool.not_true, Bool.not_false, Bool.false_eq_true, Bool.and_false, Bool.false_and, Bool.true_and]
  (try simp only [Bb, Bd, Bc, Bw, Bn, Int.reduceAdd, Int.reduceSub, Int.reduceMul, Int.reduceTDiv, Int.reduceTMod, Nat.reduceLT, decide_true, decide_false, Sa, Sb, Sc, Sd, Se, Sf, Sg, true_and, and_true, and_self, eq_self, b_i64, b_i32, b_u64, b_u32, b_u8, Int.reduceLE, Int.reduceLT, Int.reduceToNat, Int.reduceNeg, Int.reduceEq, Nat.reduceLeDiff, Nat.reducePow, Int.reducePow, Nat.min_def, reduceIte, Nat.reduceSub, Nat.reduceAdd, Nat.reduceMul, KP_same, KP_f, condS_t, condS_f, pick_t, pick_f, gS_tt, gS_ff, gS_tf, gS_ft, gS_u, gP_tt, gP_ff, gP_tf, gP_ft, gP_u, ptrV_eq, slcV_eq, cells_agg, cells_int, cells_bool, cells_ptr, cells_slice, oc_int, oc_bool, oc_slice, oc_ptr, rd1_set, rd1_ne, rdn_set, rdn_ne, Heap.set_same, set_ne, Heap.set_set, set_up, set_up2, set_up3, putAt, ceq, List.map_cons, List.map_nil, List.length_cons, List.length_nil, List.length_set, List.cons_append, List.nil_append, List.append_nil, List.replicate, List.size_toArray, List.all_cons, List.all_nil, Bool.and_self, Bool.and_true, List.drop_zero, List.drop_succ_cons, List.take_succ_cons, List.take_zero, List.set_cons_zero, List.set_cons_succ, List.getElem?_cons_zero, List.getElem?_cons_succ, Option.map_some, Option.map_none, ne_eq, not_false_eq_true, not_true_eq_false, gt_iff_lt, ge_iff_le, Nat.zero_add, Nat.zero_mul, Bool.not_true, Bool.not_false, Bool.false_eq_true, Bool.and_false, Bool.false_and, Bool.true_and, *]); repeat' ((first | refine w_wakes ?_ | refine c_Cross a b ha hb ?_ | refine r_Cross a b ha hb ?_ | (refine c_Dot n a b ha hb  ?_ ?_ <;> (intro hc; try simp only [Int.reduceLE, Int.reduceLT, Int.reduceEq, and_self, not_true_eq_false, not_false_eq_true, and_true, true_and, false_and, and_false, true_or, or_true, false_or, or_false, decide_eq_true_eq, decide_eq_false_iff_not, beq_iff_eq, beq_eq_false_iff_ne, bne_iff_ne, ne_eq, gt_iff_lt, ge_iff_le, Bool.not_eq_true, Bool.not_eq_false, Bool.not_eq_true', Bool.not_eq_false', Bool.not_eq_eq_eq_not, Bool.not_true, Bool.not_false] at hc)) | refine r_Dot n a b (by omega) ha hb ?_ | (refine AllocQ_i ?_; intro bk hb0 hbk; try simp only [set_none'] at hbk) | (refine condS_i ?_ ?_ <;> (intro hc; try simp only [Int.reduceLE, Int.reduceLT, Int.reduceEq, and_self, not_true_eq_false, not_false_eq_true, and_true, true_and, false_and, and_false, true_or, or_true, false_or, or_false, decide_eq_true_eq, decide_eq_false_iff_not, beq_iff_eq, beq_eq_false_iff_ne, bne_iff_ne, ne_eq, gt_iff_lt, ge_iff_le, Bool.not_eq_true, Bool.not_eq_false, Bool.not_eq_true', Bool.not_eq_false', Bool.not_eq_eq_eq_not, Bool.not_true, Bool.not_false] at hc)) | (refine pick_i ?_ ?_ <;> (intro hc; try simp only [Int.reduceLE, Int.reduceLT, Int.reduceEq, and_self, not_true_eq_false, not_false_eq_true, and_true, true_and, false_and, and_false, true_or, or_true, false_or, or_false, decide_eq_true_eq, decide_eq_false_iff_not, beq_iff_eq, beq_eq_false_iff_ne, bne_iff_ne, ne_eq, gt_iff_lt, ge_iff_le, Bool.not_eq_true, Bool.not_eq_false, Bool.not_eq_true', Bool.not_eq_false', Bool.not_eq_eq_eq_not, Bool.not_true, Bool.not_false] at hc)) | (refine gS_it ?_ ?_ <;> (intro hc; try simp only [Int.reduceLE, Int.reduceLT, Int.reduceEq, and_self, not_true_eq_false, not_false_eq_true, and_true, true_and, false_and, and_false, true_or, or_true, false_or, or_false, decide_eq_true_eq, decide_eq_false_iff_not, beq_iff_eq, beq_eq_false_iff_ne, bne_iff_ne, ne_eq, gt_iff_lt, ge_iff_le, Bool.not_eq_true, Bool.not_eq_false, Bool.not_eq_true', Bool.not_eq_false', Bool.not_eq_eq_eq_not, Bool.not_true, Bool.not_false] at hc)) | (refine gS_if ?_ ?_ <;> (intro hc; try simp only [Int.reduceLE, Int.reduceLT, Int.reduceEq, and_self, not_true_eq_false, not_false_eq_true, and_true, true_and, false_and, and_false, true_or, or_true, false_or, or_false, decide_eq_true_eq, decide_eq_false_iff_not, beq_iff_eq, beq_eq_false_iff_ne, bne_iff_ne, ne_eq, gt_iff_lt, ge_iff_le, Bool.not_eq_true, Bool.not_eq_false, Bool.not_eq_true', Bool.not_eq_false', Bool.not_eq_eq_eq_not, Bool.not_true, Bool.not_false] at hc)) | (refine gP_it ?_ ?_ <;> (intro hc; try simp only [Int.reduceLE, Int.reduceLT, Int.reduceEq, and_self, not_true_eq_false, not_false_eq_true, and_true, true_and, false_and, and_false, true_or, or_true, false_or, or_false, decide_eq_true_eq, decide_eq_false_iff_not, beq_iff_eq, beq_eq_false_iff_ne, bne_iff_ne, ne_eq, gt_iff_lt, ge_iff_le, Bool.not_eq_true, Bool.not_eq_false, Bool.not_eq_true', Bool.not_eq_false', Bool.not_eq_eq_eq_not, Bool.not_true, Bool.not_false] at hc)) | (refine gP_if ?_ ?_ <;> (intro hc; try simp only [Int.reduceLE, Int.reduceLT, Int.reduceEq, and_self, not_true_eq_false, not_false_eq_true, and_true, true_and, false_and, and_false, true_or, or_true, false_or, or_false, decide_eq_true_eq, decide_eq_false_iff_not, beq_iff_eq, beq_eq_false_iff_ne, bne_iff_ne, ne_eq, gt_iff_lt, ge_iff_le, Bool.not_eq_true, Bool.not_eq_false, Bool.not_eq_true', Bool.not_eq_false', Bool.not_eq_eq_eq_not, Bool.not_true, Bool.not_false] at hc)) | (with_reducible refine And.intro ?_ ?_)) <;> (try simp only [Bb, Bd, Bc, Bw, Bn, Int.reduceAdd, Int.reduceSub, Int.reduceMul, Int.reduceTDiv, Int.reduceTMod, Nat.reduceLT, decide_true, decide_false, Sa, Sb, Sc, Sd, Se, Sf, Sg, true_and, and_true, and_self, eq_self, b_i64, b_i32, b_u64, b_u32, b_u8, Int.reduceLE, Int.reduceLT, Int.reduceToNat, Int.reduceNeg, Int.reduceEq, Nat.reduceLeDiff, Nat.reducePow, Int.reducePow, Nat.min_def, reduceIte, Nat.reduceSub, Nat.reduceAdd, Nat.reduceMul, KP_same, KP_f, condS_t, condS_f, pick_t, pick_f, gS_tt, gS_ff, gS_tf, gS_ft, gS_u, gP_tt, gP_ff, gP_tf, gP_ft, gP_u, ptrV_eq, slcV_eq, cells_agg, cells_int, cells_bool, cells_ptr, cells_slice, oc_int, oc_bool, oc_slice, oc_ptr, rd1_set, rd1_ne, rdn_set, rdn_ne, Heap.set_same, set_ne, Heap.set_set, set_up, set_up2, set_up3, putAt, ceq, List.map_cons, List.map_nil, List.length_cons, List.length_nil, List.length_set, List.cons_append, List.nil_append, List.append_nil, List.replicate, List.size_toArray, List.all_cons, List.all_nil, Bool.and_self, Bool.and_true, List.drop_zero, List.drop_succ_cons, List.take_succ_cons, List.take_zero, List.set_cons_zero, List.set_cons_succ, List.getElem?_cons_zero, List.getElem?_cons_succ, Option.map_some, Option.map_none, ne_eq, not_false_eq_true, not_true_eq_false, gt_iff_lt, ge_iff_le, Nat.zero_add, Nat.zero_mul, Bool.not_true, Bool.not_false, Bool.false_eq_true, Bool.and_false, Bool.false_and, Bool.true_and, *]))
  all_goals first | (exfalso; omega) | exact Fin_mk (by (repeat' (first | exact Heap.Le.refl _ | (refine Le_fresh (by simp only [*]) ?_)))) h
/- paintboxlaw03 VecBetween -/
def M5 : MC :=
  .seq (.reg [⟨(some 4), .box 26 (.tmp 1), none⟩,
     ⟨(some 5), .box 24 (.tmp 2), none⟩,
     ⟨(some 6), .mv (.const (.bool false)), none⟩])
  (.seq (.seq (.reg [⟨(some 11), .call 10 [], none⟩,
       ⟨(some 12), .un .not (.tmp 11), none⟩])
    (.cond (.tmp 12)
     (.seq (.reg [⟨(some 6), .mv (.const (.bool false)), none⟩])
      (.ret))
     (.skip)))
   (.seq (.reg [⟨(some 14), .mv (.tmp 0), none⟩,
       ⟨(some 15), .fa 0 (.tmp 4), none⟩,
       ⟨(some 16), .ldn 4 (.tmp 15), none⟩,
       ⟨(some 17), .fa 4 (.tmp 4), none⟩,
       ⟨(some 18), .ldn 4 (.tmp 17), none⟩,
       ⟨(some 19), .ldn 4 (.tmp 5), none⟩,
       ⟨(some 20), .call 17 [(.tmp 14), (.tmp 16), (.tmp 18), (.tmp 19)], none⟩,
       ⟨(some 13), .mv (.tmp 20), none⟩,
       ⟨(some 21), .ext 0 (.tmp 13), none⟩,
       ⟨(some 22), .ext 1 (.tmp 13), none⟩,
       ⟨(some 7), .alloc 24 [(.int .i32 0), (.int .i32 0), (.int .i32 0), (.int .i32 0)], none⟩,
       ⟨none, .stn 4 (.tmp 7) (.tmp 21), none⟩,
       ⟨(some 8), .mv (.tmp 22), none⟩])
    (.seq (.reg [⟨(some 24), .mv (.tmp 0), none⟩,
        ⟨(some 25), .ldn 4 (.tmp 5), none⟩,
        ⟨(some 26), .fa 0 (.tmp 4), none⟩,
        ⟨(some 27), .ldn 4 (.tmp 26), none⟩,
        ⟨(some 28), .fa 4 (.tmp 4), none⟩,
        ⟨(some 29), .ldn 4 (.tmp 28), none⟩,
        ⟨(some 30), .call 18 [(.tmp 24), (.tmp 25), (.tmp 27), (.tmp 29)], none⟩,
        ⟨(some 23), .mv (.tmp 30), none⟩,
        ⟨(some 31), .ext 0 (.tmp 23), none⟩,
        ⟨(some 32), .ext 1 (.tmp 23), none⟩,
        ⟨(some 9), .alloc 24 [(.int .i32 0), (.int .i32 0), (.int .i32 0), (.int .i32 0)], none⟩,
        ⟨none, .stn 4 (.tmp 9) (.tmp 31), none⟩,
        ⟨(some 10), .mv (.tmp 32), none⟩])
     (.seq (.seq (.reg [⟨(some 33), .mv (.tmp 0), none⟩,
          ⟨(some 34), .bin .lss (.tmp 33) (.const (.int .i64 1)), none⟩,
          ⟨(some 35), .mv (.tmp 34), none⟩,
          ⟨(some 36), .mv (.tmp 0), (some (35, false))⟩,
          ⟨(some 37), .bin .gtr (.tmp 36) (.const (.int .i64 4)), (some (35, false))⟩,
          ⟨(some 38), .pick (.tmp 35) (.const (.bool true)) (.tmp 37), none⟩])
       (.cond (.tmp 38)
        (.seq (.reg [⟨(some 39), .ldn 4 (.tmp 7), none⟩,
            ⟨(some 40), .build [(.int .i32 0), (.int .i32 0), (.int .i32 0), (.int .i32 0)] [], none⟩,
            ⟨(some 41), .eqa false 4 (.tmp 39) (.tmp 40), none⟩,
            ⟨(some 42), .mv (.tmp 41), none⟩,
            ⟨(some 43), .mv (.tmp 8), (some (42, true))⟩,
            ⟨(some 44), .bin .eql (.tmp 43) (.const (.int .i64 2)), (some (42, true))⟩,
            ⟨(some 45), .pick (.tmp 42) (.tmp 44) (.const (.bool false)), none⟩,
            ⟨(some 46), .mv (.tmp 45), none⟩,
            ⟨(some 47), .ldn 4 (.tmp 9), (some (46, true))⟩,
            ⟨(some 48), .build [(.int .i32 0), (.int .i32 0), (.int .i32 0), (.int .i32 0)] [], (some (46, true))⟩,
            ⟨(some 49), .eqa false 4 (.tmp 47) (.tmp 48), (some (46, true))⟩,
            ⟨(some 50), .pick (.tmp 46) (.tmp 49) (.const (.bool false)), none⟩,
            ⟨(some 51), .mv (.tmp 50), none⟩,
            ⟨(some 52), .mv (.tmp 10), (some (51, true))⟩,
            ⟨(some 53), .bin .eql (.tmp 52) (.const (.int .i64 2)), (some (51, true))⟩,
            ⟨(some 54), .pick (.tmp 51) (.tmp 53) (.const (.bool false)), none⟩,
            ⟨(some 6), .mv (.tmp 54), none⟩])
         (.ret))
        (.skip)))
      (.seq (.any [(false, true, ⟨(some 55), .mv (.tmp 8), none⟩),
          (false, true, ⟨(some 56), .bin .eql (.tmp 55) (.const (.int .i64 0)), none⟩),
          (false, true, ⟨(some 57), .mv (.tmp 56), none⟩),
          (false, true, ⟨(some 58), .mv (.tmp 10), (some (57, true))⟩),
          (false, true, ⟨(some 59), .bin .eql (.tmp 58) (.const (.int .i64 0)), (some (57, true))⟩),
          (false, true, ⟨(some 60), .pick (.tmp 57) (.tmp 59) (.const (.bool false)), none⟩),
          (false, true, ⟨(some 61), .mv (.tmp 60), none⟩),
          (true, true, ⟨(some 62), .ldn 4 (.tmp 7), (some (61, true))⟩),
          (true, true, ⟨(some 63), .mv (.tmp 0), (some (61, true))⟩),
          (true, true, ⟨(some 64), .fa 0 (.tmp 4), (some (61, true))⟩),
          (true, true, ⟨(some 65), .ldn 4 (.tmp 64), (some (61, true))⟩),
          (true, true, ⟨(some 66), .fa 4 (.tmp 4), (some (61, true))⟩),
          (true, true, ⟨(some 67), .ldn 4 (.tmp 66), (some (61, true))⟩),
          (false, true, ⟨(some 68), .ldn 4 (.tmp 5), (some (61, true))⟩),
          (false, true, ⟨(some 69), .call 19 [(.tmp 63), (.tmp 65), (.tmp 67), (.tmp 68)], (some (61, true))⟩),
          (false, true, ⟨(some 70), .eqa false 4 (.tmp 62) (.tmp 69), (some (61, true))⟩),
          (false, true, ⟨(some 71), .pick (.tmp 61) (.tmp 70) (.const (.bool false)), none⟩),
          (false, true, ⟨(some 72), .mv (.tmp 71), none⟩),
          (true, true, ⟨(some 73), .ldn 4 (.tmp 9), (some (72, true))⟩),
          (true, true, ⟨(some 74), .mv (.tmp 0), (some (72, true))⟩),
          (true, true, ⟨(some 75), .ldn 4 (.tmp 5), (some (72, true))⟩),
          (true, true, ⟨(some 76), .fa 0 (.tmp 4), (some (72, true))⟩),
          (true, true, ⟨(some 77), .ldn 4 (.tmp 76), (some (72, true))⟩),
          (false, true, ⟨(some 78), .fa 4 (.tmp 4), (some (72, true))⟩),
          (false, true, ⟨(some 79), .ldn 4 (.tmp 78), (some (72, true))⟩),
          (false, true, ⟨(some 80), .call 20 [(.tmp 74), (.tmp 75), (.tmp 77), (.tmp 79)], (some (72, true))⟩),
          (false, false, ⟨(some 81), .eqa false 4 (.tmp 73) (.tmp 80), (some (72, true))⟩),
          (false, false, ⟨(some 82), .pick (.tmp 72) (.tmp 81) (.const (.bool false)), none⟩),
          (false, false, ⟨(some 6), .mv (.tmp 82), none⟩)])
       (.ret))))))
theorem k5 : fnOk Try.prog 5 = some (M5, [.t 6], 83) := by kernel_rfl

theorem l_VecBetween (n : Int) (a b : Nat → Int) (ha : ∀ i, I32 (a i)) (hb : ∀ i, I32 (b i)) (t : Nat → Int) (ht : ∀ i, I32 (t i)) (h : K (.bool true) H) : HCalls Try.prog w0 5 [.int .i64 n, PP a b, VV t] H K := by
  refine HL.hc k5 999 ?_; simp only [M5, Bb, Bd, Bc, Bw, Bn, Int.reduceAdd, Int.reduceSub, Int.reduceMul, Int.reduceTDiv, Int.reduceTMod, Nat.reduceLT, decide_true, decide_false, Sa, Sb, Sc, Sd, Se, Sf, Sg, true_and, and_true, and_self, eq_self, b_i64, b_i32, b_u64, b_u32, b_u8, Int.reduceLE, Int.reduceLT, Int.reduceToNat, Int.reduceNeg, Int.reduceEq, Nat.reduceLeDiff, Nat.reducePow, Int.reducePow, Nat.min_def, reduceIte, Nat.reduceSub, Nat.reduceAdd, Nat.reduceMul, KP_same, KP_f, condS_t, condS_f, pick_t, pick_f, gS_tt, gS_ff, gS_tf, gS_ft, gS_u, gP_tt, gP_ff, gP_tf, gP_ft, gP_u, ptrV_eq, slcV_eq, cells_agg, cells_int, cells_bool, cells_ptr, cells_slice, oc_int, oc_bool, oc_slice, oc_ptr, rd1_set, rd1_ne, rdn_set, rdn_ne, Heap.set_same, set_ne, Heap.set_set, set_up, set_up2, set_up3, putAt, ceq, List.map_cons, List.map_nil, List.length_cons, List.length_nil, List.length_set, List.cons_append, List.nil_append, List.append_nil, List.replicate, List.size_toArray, List.all_cons, List.all_nil, Bool.and_self, Bool.and_true, List.drop_zero, List.drop_succ_cons, List.take_succ_cons, List.take_zero, List.set_cons_zero, List.set_cons_succ, List.getElem?_cons_zero, List.getElem?_cons_succ, Option.map_some, Option.map_none, ne_eq, not_false_eq_true, not_true_eq_false, gt_iff_lt, ge_iff_le, Nat.zero_add, Nat.zero_mul, Bool.not_true, Bool.not_false, Bool.false_eq_true, Bool.and_false, Bool.false_and, Bool.true_and]
  (try simp only [Bb, Bd, Bc, Bw, Bn, Int.reduceAdd, Int.reduceSub, Int.reduceMul, Int.reduceTDiv, Int.reduceTMod, Nat.reduceLT, decide_true, decide_false, Sa, Sb, Sc, Sd, Se, Sf, Sg, true_and, and_true, and_self, eq_self, b_i64, b_i32, b_u64, b_u32, b_u8, Int.reduceLE, Int.reduceLT, Int.reduceToNat, Int.reduceNeg, Int.reduceEq, Nat.reduceLeDiff, Nat.reducePow, Int.reducePow, Nat.min_def, reduceIte, Nat.reduceSub, Nat.reduceAdd, Nat.reduceMul, KP_same, KP_f, condS_t, condS_f, pick_t, pick_f, gS_tt, gS_ff, gS_tf, gS_ft, gS_u, gP_tt, gP_ff, gP_tf, gP_ft, gP_u, ptrV_eq, slcV_eq, cells_agg, cells_int, cells_bool, cells_ptr, cells_slice, oc_int, oc_bool, oc_slice, oc_ptr, rd1_set, rd1_ne, rdn_set, rdn_ne, Heap.set_same, set_ne, Heap.set_set, set_up, set_up2, set_up3, putAt, ceq, List.map_cons, List.map_nil, List.length_cons, List.length_nil, List.length_set, List.cons_append, List.nil_append, List.append_nil, List.replicate, List.size_toArray, List.all_cons, List.all_nil, Bool.and_self, Bool.and_true, List.drop_zero, List.drop_succ_cons, List.take_succ_cons, List.take_zero, List.set_cons_zero, List.set_cons_succ, List.getElem?_cons_zero, List.getElem?_cons_succ, Option.map_some, Option.map_none, ne_eq, not_false_eq_true, not_true_eq_false, gt_iff_lt, ge_iff_le, Nat.zero_add, Nat.zero_mul, Bool.not_true, Bool.not_false, Bool.false_eq_true, Bool.and_false, Bool.false_and, Bool.true_and, *]); repeat' ((first | refine w_wakes ?_ | (refine c_Mix n a b t ha hb ht  ?_ ?_ <;> (intro hc; try simp only [Int.reduceLE, Int.reduceLT, Int.reduceEq, and_self, not_true_eq_false, not_false_eq_true, and_true, true_and, false_and, and_false, true_or, or_true, false_or, or_false, decide_eq_true_eq, decide_eq_false_iff_not, beq_iff_eq, beq_eq_false_iff_ne, bne_iff_ne, ne_eq, gt_iff_lt, ge_iff_le, Bool.not_eq_true, Bool.not_eq_false, Bool.not_eq_true', Bool.not_eq_false', Bool.not_eq_eq_eq_not, Bool.not_true, Bool.not_false] at hc)) | (refine c_Clamp n t a b  ?_ ?_ <;> (intro hc; try simp only [Int.reduceLE, Int.reduceLT, Int.reduceEq, and_self, not_true_eq_false, not_false_eq_true, and_true, true_and, false_and, and_false, true_or, or_true, false_or, or_false, decide_eq_true_eq, decide_eq_false_iff_not, beq_iff_eq, beq_eq_false_iff_ne, bne_iff_ne, ne_eq, gt_iff_lt, ge_iff_le, Bool.not_eq_true, Bool.not_eq_false, Bool.not_eq_true', Bool.not_eq_false', Bool.not_eq_eq_eq_not, Bool.not_true, Bool.not_false] at hc)) | refine r_Mix n a b t (by omega) ha hb ht ?_ | refine r_Clamp n t a b (by omega) ht ha hb ?_ | (refine AllocQ_i ?_; intro bk hb0 hbk; try simp only [set_none'] at hbk) | (refine condS_i ?_ ?_ <;> (intro hc; try simp only [Int.reduceLE, Int.reduceLT, Int.reduceEq, and_self, not_true_eq_false, not_false_eq_true, and_true, true_and, false_and, and_false, true_or, or_true, false_or, or_false, decide_eq_true_eq, decide_eq_false_iff_not, beq_iff_eq, beq_eq_false_iff_ne, bne_iff_ne, ne_eq, gt_iff_lt, ge_iff_le, Bool.not_eq_true, Bool.not_eq_false, Bool.not_eq_true', Bool.not_eq_false', Bool.not_eq_eq_eq_not, Bool.not_true, Bool.not_false] at hc)) | (refine pick_i ?_ ?_ <;> (intro hc; try simp only [Int.reduceLE, Int.reduceLT, Int.reduceEq, and_self, not_true_eq_false, not_false_eq_true, and_true, true_and, false_and, and_false, true_or, or_true, false_or, or_false, decide_eq_true_eq, decide_eq_false_iff_not, beq_iff_eq, beq_eq_false_iff_ne, bne_iff_ne, ne_eq, gt_iff_lt, ge_iff_le, Bool.not_eq_true, Bool.not_eq_false, Bool.not_eq_true', Bool.not_eq_false', Bool.not_eq_eq_eq_not, Bool.not_true, Bool.not_false] at hc)) | (refine gS_it ?_ ?_ <;> (intro hc; try simp only [Int.reduceLE, Int.reduceLT, Int.reduceEq, and_self, not_true_eq_false, not_false_eq_true, and_true, true_and, false_and, and_false, true_or, or_true, false_or, or_false, decide_eq_true_eq, decide_eq_false_iff_not, beq_iff_eq, beq_eq_false_iff_ne, bne_iff_ne, ne_eq, gt_iff_lt, ge_iff_le, Bool.not_eq_true, Bool.not_eq_false, Bool.not_eq_true', Bool.not_eq_false', Bool.not_eq_eq_eq_not, Bool.not_true, Bool.not_false] at hc)) | (refine gS_if ?_ ?_ <;> (intro hc; try simp only [Int.reduceLE, Int.reduceLT, Int.reduceEq, and_self, not_true_eq_false, not_false_eq_true, and_true, true_and, false_and, and_false, true_or, or_true, false_or, or_false, decide_eq_true_eq, decide_eq_false_iff_not, beq_iff_eq, beq_eq_false_iff_ne, bne_iff_ne, ne_eq, gt_iff_lt, ge_iff_le, Bool.not_eq_true, Bool.not_eq_false, Bool.not_eq_true', Bool.not_eq_false', Bool.not_eq_eq_eq_not, Bool.not_true, Bool.not_false] at hc)) | (refine gP_it ?_ ?_ <;> (intro hc; try simp only [Int.reduceLE, Int.reduceLT, Int.reduceEq, and_self, not_true_eq_false, not_false_eq_true, and_true, true_and, false_and, and_false, true_or, or_true, false_or, or_false, decide_eq_true_eq, decide_eq_false_iff_not, beq_iff_eq, beq_eq_false_iff_ne, bne_iff_ne, ne_eq, gt_iff_lt, ge_iff_le, Bool.not_eq_true, Bool.not_eq_false, Bool.not_eq_true', Bool.not_eq_false', Bool.not_eq_eq_eq_not, Bool.not_true, Bool.not_false] at hc)) | (refine gP_if ?_ ?_ <;> (intro hc; try simp only [Int.reduceLE, Int.reduceLT, Int.reduceEq, and_self, not_true_eq_false, not_false_eq_true, and_true, true_and, false_and, and_false, true_or, or_true, false_or, or_false, decide_eq_true_eq, decide_eq_false_iff_not, beq_iff_eq, beq_eq_false_iff_ne, bne_iff_ne, ne_eq, gt_iff_lt, ge_iff_le, Bool.not_eq_true, Bool.not_eq_false, Bool.not_eq_true', Bool.not_eq_false', Bool.not_eq_eq_eq_not, Bool.not_true, Bool.not_false] at hc)) | (with_reducible refine And.intro ?_ ?_)) <;> (try simp only [Bb, Bd, Bc, Bw, Bn, Int.reduceAdd, Int.reduceSub, Int.reduceMul, Int.reduceTDiv, Int.reduceTMod, Nat.reduceLT, decide_true, decide_false, Sa, Sb, Sc, Sd, Se, Sf, Sg, true_and, and_true, and_self, eq_self, b_i64, b_i32, b_u64, b_u32, b_u8, Int.reduceLE, Int.reduceLT, Int.reduceToNat, Int.reduceNeg, Int.reduceEq, Nat.reduceLeDiff, Nat.reducePow, Int.reducePow, Nat.min_def, reduceIte, Nat.reduceSub, Nat.reduceAdd, Nat.reduceMul, KP_same, KP_f, condS_t, condS_f, pick_t, pick_f, gS_tt, gS_ff, gS_tf, gS_ft, gS_u, gP_tt, gP_ff, gP_tf, gP_ft, gP_u, ptrV_eq, slcV_eq, cells_agg, cells_int, cells_bool, cells_ptr, cells_slice, oc_int, oc_bool, oc_slice, oc_ptr, rd1_set, rd1_ne, rdn_set, rdn_ne, Heap.set_same, set_ne, Heap.set_set, set_up, set_up2, set_up3, putAt, ceq, List.map_cons, List.map_nil, List.length_cons, List.length_nil, List.length_set, List.cons_append, List.nil_append, List.append_nil, List.replicate, List.size_toArray, List.all_cons, List.all_nil, Bool.and_self, Bool.and_true, List.drop_zero, List.drop_succ_cons, List.take_succ_cons, List.take_zero, List.set_cons_zero, List.set_cons_succ, List.getElem?_cons_zero, List.getElem?_cons_succ, Option.map_some, Option.map_none, ne_eq, not_false_eq_true, not_true_eq_false, gt_iff_lt, ge_iff_le, Nat.zero_add, Nat.zero_mul, Bool.not_true, Bool.not_false, Bool.false_eq_true, Bool.and_false, Bool.false_and, Bool.true_and, *]))
  all_goals first | (exfalso; omega) | exact Fin_mk (by (repeat' (first | exact Heap.Le.refl _ | (refine Le_fresh (by simp only [*]) ?_)))) h
end Go.Proofs.Ytdaejnakkingbaa
