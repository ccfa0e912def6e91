/- The statements of layer 3, as calls. -/
import Derived.Test.YtdaejnakkingbaaFd
set_option linter.unusedSimpArgs false
set_option linter.unusedVariables false
set_option maxRecDepth 100000
set_option maxHeartbeats 2000000
namespace Go.Proofs.Ytdaejnakkingbaa
open Go.HL Go.RowKit Pb
variable {w0 : World} {t1 t2 t3 : TypeId} {H : Heap} {K : Value → Heap → Prop}
/- paintboxlaw03 VecOnes -/
def M8 : MC :=
  .seq (.reg [⟨(some 5), .box 24 (.tmp 2), none⟩,
     ⟨(some 6), .mv (.const (.bool false)), none⟩])
  (.seq (.seq (.reg [⟨(some 12), .call 10 [], none⟩,
       ⟨(some 13), .un .not (.tmp 12), none⟩])
    (.cond (.tmp 13)
     (.seq (.reg [⟨(some 6), .mv (.const (.bool false)), none⟩])
      (.ret))
     (.skip)))
   (.seq (.reg [⟨(some 15), .mv (.tmp 0), none⟩,
       ⟨(some 16), .mv (.tmp 1), none⟩,
       ⟨(some 17), .ldn 4 (.tmp 5), none⟩,
       ⟨(some 18), .call 26 [(.tmp 15), (.tmp 16), (.tmp 17)], none⟩,
       ⟨(some 14), .mv (.tmp 18), none⟩,
       ⟨(some 19), .ext 0 (.tmp 14), none⟩,
       ⟨(some 20), .ext 1 (.tmp 14), none⟩,
       ⟨(some 7), .alloc 24 [(.int .i32 0), (.int .i32 0), (.int .i32 0), (.int .i32 0)], none⟩,
       ⟨none, .stn 4 (.tmp 7) (.tmp 19), none⟩,
       ⟨(some 8), .mv (.tmp 20), none⟩])
    (.seq (.reg [⟨(some 22), .mv (.tmp 1), none⟩,
        ⟨(some 23), .ia 4 1 (.tmp 5) (.const (.int .i64 0)), none⟩,
        ⟨(some 24), .ld1 (.tmp 23), none⟩,
        ⟨(some 25), .call 27 [(.tmp 22), (.tmp 24)], none⟩,
        ⟨(some 21), .mv (.tmp 25), none⟩,
        ⟨(some 26), .ext 0 (.tmp 21), none⟩,
        ⟨(some 27), .ext 1 (.tmp 21), none⟩,
        ⟨(some 9), .alloc 24 [(.int .i32 0), (.int .i32 0), (.int .i32 0), (.int .i32 0)], none⟩,
        ⟨none, .stn 4 (.tmp 9) (.tmp 26), none⟩,
        ⟨(some 10), .mv (.tmp 27), none⟩])
     (.seq (.seq (.reg [⟨(some 28), .mv (.tmp 1), none⟩,
          ⟨(some 29), .bin .lss (.tmp 28) (.const (.int .i64 1)), none⟩,
          ⟨(some 30), .mv (.tmp 29), none⟩,
          ⟨(some 31), .mv (.tmp 1), (some (30, false))⟩,
          ⟨(some 32), .bin .gtr (.tmp 31) (.const (.int .i64 4)), (some (30, false))⟩,
          ⟨(some 33), .pick (.tmp 30) (.const (.bool true)) (.tmp 32), none⟩])
       (.cond (.tmp 33)
        (.seq (.reg [⟨(some 34), .ldn 4 (.tmp 7), none⟩,
            ⟨(some 35), .build [(.int .i32 0), (.int .i32 0), (.int .i32 0), (.int .i32 0)] [], none⟩,
            ⟨(some 36), .eqa false 4 (.tmp 34) (.tmp 35), none⟩,
            ⟨(some 37), .mv (.tmp 36), none⟩,
            ⟨(some 38), .mv (.tmp 8), (some (37, true))⟩,
            ⟨(some 39), .bin .eql (.tmp 38) (.const (.int .i64 2)), (some (37, true))⟩,
            ⟨(some 40), .pick (.tmp 37) (.tmp 39) (.const (.bool false)), none⟩,
            ⟨(some 41), .mv (.tmp 40), none⟩,
            ⟨(some 42), .ldn 4 (.tmp 9), (some (41, true))⟩,
            ⟨(some 43), .build [(.int .i32 0), (.int .i32 0), (.int .i32 0), (.int .i32 0)] [], (some (41, true))⟩,
            ⟨(some 44), .eqa false 4 (.tmp 42) (.tmp 43), (some (41, true))⟩,
            ⟨(some 45), .pick (.tmp 41) (.tmp 44) (.const (.bool false)), none⟩,
            ⟨(some 46), .mv (.tmp 45), none⟩,
            ⟨(some 47), .mv (.tmp 10), (some (46, true))⟩,
            ⟨(some 48), .bin .eql (.tmp 47) (.const (.int .i64 2)), (some (46, true))⟩,
            ⟨(some 49), .pick (.tmp 46) (.tmp 48) (.const (.bool false)), none⟩,
            ⟨(some 6), .mv (.tmp 49), none⟩])
         (.ret))
        (.skip)))
      (.seq (.seq (.reg [⟨(some 50), .mv (.const (.int .i64 0)), none⟩])
        (.block 0 (.loop (.seq (.reg [⟨(some 51), .bin .lss (.tmp 50) (.const (.int .i64 4)), none⟩])
           (.seq (.cond (.tmp 51)
             (.skip)
             (.exit 0))
            (.seq (.block 1 (.seq (.reg [⟨(some 52), .mv (.tmp 50), none⟩,
                  ⟨(some 11), .mv (.tmp 52), none⟩])
               (.seq (.any [(true, true, ⟨(some 53), .mv (.tmp 11), none⟩),
                   (false, true, ⟨(some 54), .mv (.tmp 1), none⟩),
                   (false, true, ⟨(some 55), .bin .lss (.tmp 53) (.tmp 54), none⟩),
                   (false, true, ⟨(some 56), .mv (.tmp 55), none⟩),
                   (true, true, ⟨(some 57), .mv (.tmp 11), (some (56, true))⟩),
                   (true, true, ⟨(some 58), .ia 4 1 (.tmp 9) (.tmp 57), (some (56, true))⟩),
                   (true, true, ⟨(some 59), .ld1 (.tmp 58), (some (56, true))⟩),
                   (false, true, ⟨(some 60), .ia 4 1 (.tmp 5) (.const (.int .i64 0)), (some (56, true))⟩),
                   (false, true, ⟨(some 61), .ld1 (.tmp 60), (some (56, true))⟩),
                   (false, true, ⟨(some 62), .bin .neq (.tmp 59) (.tmp 61), (some (56, true))⟩),
                   (false, true, ⟨(some 63), .pick (.tmp 56) (.tmp 62) (.const (.bool false)), none⟩),
                   (false, true, ⟨(some 64), .mv (.tmp 63), none⟩),
                   (true, true, ⟨(some 65), .mv (.tmp 11), (some (64, false))⟩),
                   (false, true, ⟨(some 66), .mv (.tmp 1), (some (64, false))⟩),
                   (false, false, ⟨(some 67), .bin .geq (.tmp 65) (.tmp 66), (some (64, false))⟩),
                   (false, false, ⟨(some 68), .mv (.tmp 67), (some (64, false))⟩),
                   (false, false, ⟨(some 69), .mv (.tmp 11), (some (68, true))⟩),
                   (false, false, ⟨(some 70), .ia 4 1 (.tmp 9) (.tmp 69), (some (68, true))⟩),
                   (false, false, ⟨(some 71), .ld1 (.tmp 70), (some (68, true))⟩),
                   (false, false, ⟨(some 72), .bin .neq (.tmp 71) (.const (.int .i32 0)), (some (68, true))⟩),
                   (false, false, ⟨(some 73), .pick (.tmp 68) (.tmp 72) (.const (.bool false)), (some (64, false))⟩),
                   (false, false, ⟨(some 74), .pick (.tmp 64) (.const (.bool true)) (.tmp 73), none⟩)])
                (.cond (.tmp 74)
                 (.seq (.reg [⟨(some 6), .mv (.const (.bool false)), none⟩])
                  (.ret))
                 (.skip)))))
             (.reg [⟨(some 75), .bin .add (.tmp 50) (.const (.int .i64 1)), none⟩,
                ⟨(some 50), .mv (.tmp 75), none⟩])))))))
       (.seq (.seq (.reg [⟨(some 76), .mv (.tmp 0), none⟩,
            ⟨(some 77), .bin .lss (.tmp 76) (.const (.int .i64 0)), none⟩,
            ⟨(some 78), .mv (.tmp 77), none⟩,
            ⟨(some 79), .mv (.tmp 0), (some (78, false))⟩,
            ⟨(some 80), .bin .gtr (.tmp 79) (.const (.int .i64 4)), (some (78, false))⟩,
            ⟨(some 81), .pick (.tmp 78) (.const (.bool true)) (.tmp 80), none⟩])
         (.cond (.tmp 81)
          (.seq (.reg [⟨(some 82), .ldn 4 (.tmp 7), none⟩,
              ⟨(some 83), .build [(.int .i32 0), (.int .i32 0), (.int .i32 0), (.int .i32 0)] [], none⟩,
              ⟨(some 84), .eqa false 4 (.tmp 82) (.tmp 83), none⟩,
              ⟨(some 85), .mv (.tmp 84), none⟩,
              ⟨(some 86), .mv (.tmp 8), (some (85, true))⟩,
              ⟨(some 87), .bin .eql (.tmp 86) (.const (.int .i64 2)), (some (85, true))⟩,
              ⟨(some 88), .pick (.tmp 85) (.tmp 87) (.const (.bool false)), none⟩,
              ⟨(some 89), .mv (.tmp 88), none⟩,
              ⟨(some 90), .mv (.tmp 10), (some (89, true))⟩,
              ⟨(some 91), .bin .eql (.tmp 90) (.const (.int .i64 0)), (some (89, true))⟩,
              ⟨(some 92), .pick (.tmp 89) (.tmp 91) (.const (.bool false)), none⟩,
              ⟨(some 6), .mv (.tmp 92), none⟩])
           (.ret))
          (.skip)))
        (.seq (.any [(false, true, ⟨(some 93), .mv (.tmp 8), none⟩),
            (false, true, ⟨(some 94), .bin .eql (.tmp 93) (.const (.int .i64 0)), none⟩),
            (false, true, ⟨(some 95), .mv (.tmp 94), none⟩),
            (false, true, ⟨(some 96), .mv (.tmp 10), (some (95, true))⟩),
            (false, true, ⟨(some 97), .bin .eql (.tmp 96) (.const (.int .i64 0)), (some (95, true))⟩),
            (false, true, ⟨(some 98), .pick (.tmp 95) (.tmp 97) (.const (.bool false)), none⟩),
            (false, true, ⟨(some 99), .mv (.tmp 98), none⟩),
            (true, true, ⟨(some 100), .ldn 4 (.tmp 7), (some (99, true))⟩),
            (true, true, ⟨(some 101), .mv (.tmp 0), (some (99, true))⟩),
            (true, true, ⟨(some 102), .mv (.tmp 1), (some (99, true))⟩),
            (false, true, ⟨(some 103), .ldn 4 (.tmp 5), (some (99, true))⟩),
            (false, true, ⟨(some 104), .call 28 [(.tmp 101), (.tmp 102), (.tmp 103)], (some (99, true))⟩),
            (false, false, ⟨(some 105), .eqa false 4 (.tmp 100) (.tmp 104), (some (99, true))⟩),
            (false, false, ⟨(some 106), .pick (.tmp 99) (.tmp 105) (.const (.bool false)), none⟩),
            (false, false, ⟨(some 6), .mv (.tmp 106), none⟩)])
         (.ret))))))))
theorem k8 : fnOk Try.prog 8 = some (M8, [.t 6], 107) := by kernel_rfl

theorem l_VecOnes (op n : Int) (a : Nat → Int) (ha : ∀ i, I32 (a i)) (h : K (.bool true) H) : HCalls Try.prog w0 8 [.int .i64 op, .int .i64 n, VV a] H K := by
  by_cases hv : 1 ≤ n ∧ n ≤ 4
  · have hn' : n = 1 ∨ n = 2 ∨ n = 3 ∨ n = 4 := by omega
    have fk : ∀ (n : Int) (g : Nat → Int) (i : Nat), fst n g i = if (i : Int) < n then g i else 0 := fun _ _ _ => rfl
    rcases hn' with rfl | rfl | rfl | rfl
    all_goals (refine HL.hc k8 999 ?_; simp only [M8, Bb, Bd, Bc, Bw, Bn, Int.reduceAdd, Int.reduceSub, Int.reduceMul, Int.reduceTDiv, Int.reduceTMod, Nat.reduceLT, decide_true, decide_false, Sa, Sb, Sc, Sd, Se, Sf, Sg, true_and, and_true, and_self, eq_self, b_i64, b_i32, b_u64, b_u32, b_u8, Int.reduceLE, Int.reduceLT, Int.reduceToNat, Int.reduceNeg, Int.reduceEq, Nat.reduceLeDiff, Nat.reducePow, Int.reducePow, Nat.min_def, reduceIte, Nat.reduceSub, Nat.reduceAdd, Nat.reduceMul, KP_same, KP_f, condS_t, condS_f, pick_t, pick_f, gS_tt, gS_ff, gS_tf, gS_ft, gS_u, gP_tt, gP_ff, gP_tf, gP_ft, gP_u, ptrV_eq, slcV_eq, cells_agg, cells_int, cells_bool, cells_ptr, cells_slice, oc_int, oc_bool, oc_slice, oc_ptr, rd1_set, rd1_ne, rdn_set, rdn_ne, Heap.set_same, set_ne, Heap.set_set, set_up, set_up2, set_up3, putAt, ceq, List.map_cons, List.map_nil, List.length_cons, List.length_nil, List.length_set, List.cons_append, List.nil_append, List.append_nil, List.replicate, List.size_toArray, List.all_cons, List.all_nil, Bool.and_self, Bool.and_true, List.drop_zero, List.drop_succ_cons, List.take_succ_cons, List.take_zero, List.set_cons_zero, List.set_cons_succ, List.getElem?_cons_zero, List.getElem?_cons_succ, Option.map_some, Option.map_none, ne_eq, not_false_eq_true, not_true_eq_false, gt_iff_lt, ge_iff_le, Nat.zero_add, Nat.zero_mul, Bool.not_true, Bool.not_false, Bool.false_eq_true, Bool.and_false, Bool.false_and, Bool.true_and])
    all_goals ((try simp only [Bb, Bd, Bc, Bw, Bn, Int.reduceAdd, Int.reduceSub, Int.reduceMul, Int.reduceTDiv, Int.reduceTMod, Nat.reduceLT, decide_true, decide_false, Sa, Sb, Sc, Sd, Se, Sf, Sg, true_and, and_true, and_self, eq_self, b_i64, b_i32, b_u64, b_u32, b_u8, Int.reduceLE, Int.reduceLT, Int.reduceToNat, Int.reduceNeg, Int.reduceEq, Nat.reduceLeDiff, Nat.reducePow, Int.reducePow, Nat.min_def, reduceIte, Nat.reduceSub, Nat.reduceAdd, Nat.reduceMul, KP_same, KP_f, condS_t, condS_f, pick_t, pick_f, gS_tt, gS_ff, gS_tf, gS_ft, gS_u, gP_tt, gP_ff, gP_tf, gP_ft, gP_u, ptrV_eq, slcV_eq, cells_agg, cells_int, cells_bool, cells_ptr, cells_slice, oc_int, oc_bool, oc_slice, oc_ptr, rd1_set, rd1_ne, rdn_set, rdn_ne, Heap.set_same, set_ne, Heap.set_set, set_up, set_up2, set_up3, putAt, ceq, List.map_cons, List.map_nil, List.length_cons, List.length_nil, List.length_set, List.cons_append, List.nil_append, List.append_nil, List.replicate, List.size_toArray, List.all_cons, List.all_nil, Bool.and_self, Bool.and_true, List.drop_zero, List.drop_succ_cons, List.take_succ_cons, List.take_zero, List.set_cons_zero, List.set_cons_succ, List.getElem?_cons_zero, List.getElem?_cons_succ, Option.map_some, Option.map_none, ne_eq, not_false_eq_true, not_true_eq_false, gt_iff_lt, ge_iff_le, Nat.zero_add, Nat.zero_mul, Bool.not_true, Bool.not_false, Bool.false_eq_true, Bool.and_false, Bool.false_and, Bool.true_and, *]); repeat' ((first | refine w_wakes ?_ | (refine c_One op _ a ha  ?_ ?_ <;> (intro hc; try simp only [Int.reduceLE, Int.reduceLT, Int.reduceEq, and_self, not_true_eq_false, not_false_eq_true, and_true, true_and, false_and, and_false, true_or, or_true, false_or, or_false, decide_eq_true_eq, decide_eq_false_iff_not, beq_iff_eq, beq_eq_false_iff_ne, bne_iff_ne, ne_eq, gt_iff_lt, ge_iff_le, Bool.not_eq_true, Bool.not_eq_false, Bool.not_eq_true', Bool.not_eq_false', Bool.not_eq_eq_eq_not, Bool.not_true, Bool.not_false] at hc)) | (refine c_All _ (a 0)  ?_ ?_ <;> (intro hc; try simp only [Int.reduceLE, Int.reduceLT, Int.reduceEq, and_self, not_true_eq_false, not_false_eq_true, and_true, true_and, false_and, and_false, true_or, or_true, false_or, or_false, decide_eq_true_eq, decide_eq_false_iff_not, beq_iff_eq, beq_eq_false_iff_ne, bne_iff_ne, ne_eq, gt_iff_lt, ge_iff_le, Bool.not_eq_true, Bool.not_eq_false, Bool.not_eq_true', Bool.not_eq_false', Bool.not_eq_eq_eq_not, Bool.not_true, Bool.not_false] at hc)) | refine r_Ones op _ a (by omega) (by omega) ha ?_ | (refine AllocQ_i ?_; intro bk hb0 hbk; try simp only [set_none'] at hbk) | (refine condS_i ?_ ?_ <;> (intro hc; try simp only [Int.reduceLE, Int.reduceLT, Int.reduceEq, and_self, not_true_eq_false, not_false_eq_true, and_true, true_and, false_and, and_false, true_or, or_true, false_or, or_false, decide_eq_true_eq, decide_eq_false_iff_not, beq_iff_eq, beq_eq_false_iff_ne, bne_iff_ne, ne_eq, gt_iff_lt, ge_iff_le, Bool.not_eq_true, Bool.not_eq_false, Bool.not_eq_true', Bool.not_eq_false', Bool.not_eq_eq_eq_not, Bool.not_true, Bool.not_false] at hc)) | (refine pick_i ?_ ?_ <;> (intro hc; try simp only [Int.reduceLE, Int.reduceLT, Int.reduceEq, and_self, not_true_eq_false, not_false_eq_true, and_true, true_and, false_and, and_false, true_or, or_true, false_or, or_false, decide_eq_true_eq, decide_eq_false_iff_not, beq_iff_eq, beq_eq_false_iff_ne, bne_iff_ne, ne_eq, gt_iff_lt, ge_iff_le, Bool.not_eq_true, Bool.not_eq_false, Bool.not_eq_true', Bool.not_eq_false', Bool.not_eq_eq_eq_not, Bool.not_true, Bool.not_false] at hc)) | (refine gS_it ?_ ?_ <;> (intro hc; try simp only [Int.reduceLE, Int.reduceLT, Int.reduceEq, and_self, not_true_eq_false, not_false_eq_true, and_true, true_and, false_and, and_false, true_or, or_true, false_or, or_false, decide_eq_true_eq, decide_eq_false_iff_not, beq_iff_eq, beq_eq_false_iff_ne, bne_iff_ne, ne_eq, gt_iff_lt, ge_iff_le, Bool.not_eq_true, Bool.not_eq_false, Bool.not_eq_true', Bool.not_eq_false', Bool.not_eq_eq_eq_not, Bool.not_true, Bool.not_false] at hc)) | (refine gS_if ?_ ?_ <;> (intro hc; try simp only [Int.reduceLE, Int.reduceLT, Int.reduceEq, and_self, not_true_eq_false, not_false_eq_true, and_true, true_and, false_and, and_false, true_or, or_true, false_or, or_false, decide_eq_true_eq, decide_eq_false_iff_not, beq_iff_eq, beq_eq_false_iff_ne, bne_iff_ne, ne_eq, gt_iff_lt, ge_iff_le, Bool.not_eq_true, Bool.not_eq_false, Bool.not_eq_true', Bool.not_eq_false', Bool.not_eq_eq_eq_not, Bool.not_true, Bool.not_false] at hc)) | (refine gP_it ?_ ?_ <;> (intro hc; try simp only [Int.reduceLE, Int.reduceLT, Int.reduceEq, and_self, not_true_eq_false, not_false_eq_true, and_true, true_and, false_and, and_false, true_or, or_true, false_or, or_false, decide_eq_true_eq, decide_eq_false_iff_not, beq_iff_eq, beq_eq_false_iff_ne, bne_iff_ne, ne_eq, gt_iff_lt, ge_iff_le, Bool.not_eq_true, Bool.not_eq_false, Bool.not_eq_true', Bool.not_eq_false', Bool.not_eq_eq_eq_not, Bool.not_true, Bool.not_false] at hc)) | (refine gP_if ?_ ?_ <;> (intro hc; try simp only [Int.reduceLE, Int.reduceLT, Int.reduceEq, and_self, not_true_eq_false, not_false_eq_true, and_true, true_and, false_and, and_false, true_or, or_true, false_or, or_false, decide_eq_true_eq, decide_eq_false_iff_not, beq_iff_eq, beq_eq_false_iff_ne, bne_iff_ne, ne_eq, gt_iff_lt, ge_iff_le, Bool.not_eq_true, Bool.not_eq_false, Bool.not_eq_true', Bool.not_eq_false', Bool.not_eq_eq_eq_not, Bool.not_true, Bool.not_false] at hc)) | (with_reducible refine loop_u ?_) | (with_reducible refine And.intro ?_ ?_)) <;> (try simp only [Bb, Bd, Bc, Bw, Bn, Int.reduceAdd, Int.reduceSub, Int.reduceMul, Int.reduceTDiv, Int.reduceTMod, Nat.reduceLT, decide_true, decide_false, Sa, Sb, Sc, Sd, Se, Sf, Sg, true_and, and_true, and_self, eq_self, b_i64, b_i32, b_u64, b_u32, b_u8, Int.reduceLE, Int.reduceLT, Int.reduceToNat, Int.reduceNeg, Int.reduceEq, Nat.reduceLeDiff, Nat.reducePow, Int.reducePow, Nat.min_def, reduceIte, Nat.reduceSub, Nat.reduceAdd, Nat.reduceMul, KP_same, KP_f, condS_t, condS_f, pick_t, pick_f, gS_tt, gS_ff, gS_tf, gS_ft, gS_u, gP_tt, gP_ff, gP_tf, gP_ft, gP_u, ptrV_eq, slcV_eq, cells_agg, cells_int, cells_bool, cells_ptr, cells_slice, oc_int, oc_bool, oc_slice, oc_ptr, rd1_set, rd1_ne, rdn_set, rdn_ne, Heap.set_same, set_ne, Heap.set_set, set_up, set_up2, set_up3, putAt, ceq, List.map_cons, List.map_nil, List.length_cons, List.length_nil, List.length_set, List.cons_append, List.nil_append, List.append_nil, List.replicate, List.size_toArray, List.all_cons, List.all_nil, Bool.and_self, Bool.and_true, List.drop_zero, List.drop_succ_cons, List.take_succ_cons, List.take_zero, List.set_cons_zero, List.set_cons_succ, List.getElem?_cons_zero, List.getElem?_cons_succ, Option.map_some, Option.map_none, ne_eq, not_false_eq_true, not_true_eq_false, gt_iff_lt, ge_iff_le, Nat.zero_add, Nat.zero_mul, Bool.not_true, Bool.not_false, Bool.false_eq_true, Bool.and_false, Bool.false_and, Bool.true_and, *])))
    all_goals first | (exfalso; omega) | exact Fin_mk (by (repeat' (first | exact Heap.Le.refl _ | (refine Le_fresh (by simp only [*]) ?_)))) h | trace_state
  · refine HL.hc k8 999 ?_; simp only [M8, Bb, Bd, Bc, Bw, Bn, Int.reduceAdd, Int.reduceSub, Int.reduceMul, Int.reduceTDiv, Int.reduceTMod, Nat.reduceLT, decide_true, decide_false, Sa, Sb, Sc, Sd, Se, Sf, Sg, true_and, and_true, and_self, eq_self, b_i64, b_i32, b_u64, b_u32, b_u8, Int.reduceLE, Int.reduceLT, Int.reduceToNat, Int.reduceNeg, Int.reduceEq, Nat.reduceLeDiff, Nat.reducePow, Int.reducePow, Nat.min_def, reduceIte, Nat.reduceSub, Nat.reduceAdd, Nat.reduceMul, KP_same, KP_f, condS_t, condS_f, pick_t, pick_f, gS_tt, gS_ff, gS_tf, gS_ft, gS_u, gP_tt, gP_ff, gP_tf, gP_ft, gP_u, ptrV_eq, slcV_eq, cells_agg, cells_int, cells_bool, cells_ptr, cells_slice, oc_int, oc_bool, oc_slice, oc_ptr, rd1_set, rd1_ne, rdn_set, rdn_ne, Heap.set_same, set_ne, Heap.set_set, set_up, set_up2, set_up3, putAt, ceq, List.map_cons, List.map_nil, List.length_cons, List.length_nil, List.length_set, List.cons_append, List.nil_append, List.append_nil, List.replicate, List.size_toArray, List.all_cons, List.all_nil, Bool.and_self, Bool.and_true, List.drop_zero, List.drop_succ_cons, List.take_succ_cons, List.take_zero, List.set_cons_zero, List.set_cons_succ, List.getElem?_cons_zero, List.getElem?_cons_succ, Option.map_some, Option.map_none, ne_eq, not_false_eq_true, not_true_eq_false, gt_iff_lt, ge_iff_le, Nat.zero_add, Nat.zero_mul, Bool.not_true, Bool.not_false, Bool.false_eq_true, Bool.and_false, Bool.false_and, Bool.true_and]
    (try simp only [Bb, Bd, Bc, Bw, Bn, Int.reduceAdd, Int.reduceSub, Int.reduceMul, Int.reduceTDiv, Int.reduceTMod, Nat.reduceLT, decide_true, decide_false, Sa, Sb, Sc, Sd, Se, Sf, Sg, true_and, and_true, and_self, eq_self, b_i64, b_i32, b_u64, b_u32, b_u8, Int.reduceLE, Int.reduceLT, Int.reduceToNat, Int.reduceNeg, Int.reduceEq, Nat.reduceLeDiff, Nat.reducePow, Int.reducePow, Nat.min_def, reduceIte, Nat.reduceSub, Nat.reduceAdd, Nat.reduceMul, KP_same, KP_f, condS_t, condS_f, pick_t, pick_f, gS_tt, gS_ff, gS_tf, gS_ft, gS_u, gP_tt, gP_ff, gP_tf, gP_ft, gP_u, ptrV_eq, slcV_eq, cells_agg, cells_int, cells_bool, cells_ptr, cells_slice, oc_int, oc_bool, oc_slice, oc_ptr, rd1_set, rd1_ne, rdn_set, rdn_ne, Heap.set_same, set_ne, Heap.set_set, set_up, set_up2, set_up3, putAt, ceq, List.map_cons, List.map_nil, List.length_cons, List.length_nil, List.length_set, List.cons_append, List.nil_append, List.append_nil, List.replicate, List.size_toArray, List.all_cons, List.all_nil, Bool.and_self, Bool.and_true, List.drop_zero, List.drop_succ_cons, List.take_succ_cons, List.take_zero, List.set_cons_zero, List.set_cons_succ, List.getElem?_cons_zero, List.getElem?_cons_succ, Option.map_some, Option.map_none, ne_eq, not_false_eq_true, not_true_eq_false, gt_iff_lt, ge_iff_le, Nat.zero_add, Nat.zero_mul, Bool.not_true, Bool.not_false, Bool.false_eq_true, Bool.and_false, Bool.false_and, Bool.true_and, *]); repeat' ((first | refine w_wakes ?_ | (refine c_One op n a ha  ?_ ?_ <;> (intro hc; try simp only [Int.reduceLE, Int.reduceLT, Int.reduceEq, and_self, not_true_eq_false, not_false_eq_true, and_true, true_and, false_and, and_false, true_or, or_true, false_or, or_false, decide_eq_true_eq, decide_eq_false_iff_not, beq_iff_eq, beq_eq_false_iff_ne, bne_iff_ne, ne_eq, gt_iff_lt, ge_iff_le, Bool.not_eq_true, Bool.not_eq_false, Bool.not_eq_true', Bool.not_eq_false', Bool.not_eq_eq_eq_not, Bool.not_true, Bool.not_false] at hc)) | (refine c_All n (a 0)  ?_ ?_ <;> (intro hc; try simp only [Int.reduceLE, Int.reduceLT, Int.reduceEq, and_self, not_true_eq_false, not_false_eq_true, and_true, true_and, false_and, and_false, true_or, or_true, false_or, or_false, decide_eq_true_eq, decide_eq_false_iff_not, beq_iff_eq, beq_eq_false_iff_ne, bne_iff_ne, ne_eq, gt_iff_lt, ge_iff_le, Bool.not_eq_true, Bool.not_eq_false, Bool.not_eq_true', Bool.not_eq_false', Bool.not_eq_eq_eq_not, Bool.not_true, Bool.not_false] at hc)) | (refine AllocQ_i ?_; intro bk hb0 hbk; try simp only [set_none'] at hbk) | (refine condS_i ?_ ?_ <;> (intro hc; try simp only [Int.reduceLE, Int.reduceLT, Int.reduceEq, and_self, not_true_eq_false, not_false_eq_true, and_true, true_and, false_and, and_false, true_or, or_true, false_or, or_false, decide_eq_true_eq, decide_eq_false_iff_not, beq_iff_eq, beq_eq_false_iff_ne, bne_iff_ne, ne_eq, gt_iff_lt, ge_iff_le, Bool.not_eq_true, Bool.not_eq_false, Bool.not_eq_true', Bool.not_eq_false', Bool.not_eq_eq_eq_not, Bool.not_true, Bool.not_false] at hc)) | (refine pick_i ?_ ?_ <;> (intro hc; try simp only [Int.reduceLE, Int.reduceLT, Int.reduceEq, and_self, not_true_eq_false, not_false_eq_true, and_true, true_and, false_and, and_false, true_or, or_true, false_or, or_false, decide_eq_true_eq, decide_eq_false_iff_not, beq_iff_eq, beq_eq_false_iff_ne, bne_iff_ne, ne_eq, gt_iff_lt, ge_iff_le, Bool.not_eq_true, Bool.not_eq_false, Bool.not_eq_true', Bool.not_eq_false', Bool.not_eq_eq_eq_not, Bool.not_true, Bool.not_false] at hc)) | (refine gS_it ?_ ?_ <;> (intro hc; try simp only [Int.reduceLE, Int.reduceLT, Int.reduceEq, and_self, not_true_eq_false, not_false_eq_true, and_true, true_and, false_and, and_false, true_or, or_true, false_or, or_false, decide_eq_true_eq, decide_eq_false_iff_not, beq_iff_eq, beq_eq_false_iff_ne, bne_iff_ne, ne_eq, gt_iff_lt, ge_iff_le, Bool.not_eq_true, Bool.not_eq_false, Bool.not_eq_true', Bool.not_eq_false', Bool.not_eq_eq_eq_not, Bool.not_true, Bool.not_false] at hc)) | (refine gS_if ?_ ?_ <;> (intro hc; try simp only [Int.reduceLE, Int.reduceLT, Int.reduceEq, and_self, not_true_eq_false, not_false_eq_true, and_true, true_and, false_and, and_false, true_or, or_true, false_or, or_false, decide_eq_true_eq, decide_eq_false_iff_not, beq_iff_eq, beq_eq_false_iff_ne, bne_iff_ne, ne_eq, gt_iff_lt, ge_iff_le, Bool.not_eq_true, Bool.not_eq_false, Bool.not_eq_true', Bool.not_eq_false', Bool.not_eq_eq_eq_not, Bool.not_true, Bool.not_false] at hc)) | (refine gP_it ?_ ?_ <;> (intro hc; try simp only [Int.reduceLE, Int.reduceLT, Int.reduceEq, and_self, not_true_eq_false, not_false_eq_true, and_true, true_and, false_and, and_false, true_or, or_true, false_or, or_false, decide_eq_true_eq, decide_eq_false_iff_not, beq_iff_eq, beq_eq_false_iff_ne, bne_iff_ne, ne_eq, gt_iff_lt, ge_iff_le, Bool.not_eq_true, Bool.not_eq_false, Bool.not_eq_true', Bool.not_eq_false', Bool.not_eq_eq_eq_not, Bool.not_true, Bool.not_false] at hc)) | (refine gP_if ?_ ?_ <;> (intro hc; try simp only [Int.reduceLE, Int.reduceLT, Int.reduceEq, and_self, not_true_eq_false, not_false_eq_true, and_true, true_and, false_and, and_false, true_or, or_true, false_or, or_false, decide_eq_true_eq, decide_eq_false_iff_not, beq_iff_eq, beq_eq_false_iff_ne, bne_iff_ne, ne_eq, gt_iff_lt, ge_iff_le, Bool.not_eq_true, Bool.not_eq_false, Bool.not_eq_true', Bool.not_eq_false', Bool.not_eq_eq_eq_not, Bool.not_true, Bool.not_false] at hc)) | (with_reducible refine And.intro ?_ ?_)) <;> (try simp only [Bb, Bd, Bc, Bw, Bn, Int.reduceAdd, Int.reduceSub, Int.reduceMul, Int.reduceTDiv, Int.reduceTMod, Nat.reduceLT, decide_true, decide_false, Sa, Sb, Sc, Sd, Se, Sf, Sg, true_and, and_true, and_self, eq_self, b_i64, b_i32, b_u64, b_u32, b_u8, Int.reduceLE, Int.reduceLT, Int.reduceToNat, Int.reduceNeg, Int.reduceEq, Nat.reduceLeDiff, Nat.reducePow, Int.reducePow, Nat.min_def, reduceIte, Nat.reduceSub, Nat.reduceAdd, Nat.reduceMul, KP_same, KP_f, condS_t, condS_f, pick_t, pick_f, gS_tt, gS_ff, gS_tf, gS_ft, gS_u, gP_tt, gP_ff, gP_tf, gP_ft, gP_u, ptrV_eq, slcV_eq, cells_agg, cells_int, cells_bool, cells_ptr, cells_slice, oc_int, oc_bool, oc_slice, oc_ptr, rd1_set, rd1_ne, rdn_set, rdn_ne, Heap.set_same, set_ne, Heap.set_set, set_up, set_up2, set_up3, putAt, ceq, List.map_cons, List.map_nil, List.length_cons, List.length_nil, List.length_set, List.cons_append, List.nil_append, List.append_nil, List.replicate, List.size_toArray, List.all_cons, List.all_nil, Bool.and_self, Bool.and_true, List.drop_zero, List.drop_succ_cons, List.take_succ_cons, List.take_zero, List.set_cons_zero, List.set_cons_succ, List.getElem?_cons_zero, List.getElem?_cons_succ, Option.map_some, Option.map_none, ne_eq, not_false_eq_true, not_true_eq_false, gt_iff_lt, ge_iff_le, Nat.zero_add, Nat.zero_mul, Bool.not_true, Bool.not_false, Bool.false_eq_true, Bool.and_false, Bool.false_and, Bool.true_and, *]))
    all_goals first | (exfalso; omega) | exact Fin_mk (by (repeat' (first | exact Heap.Le.refl _ | (refine Le_fresh (by simp only [*]) ?_)))) h
end Go.Proofs.Ytdaejnakkingbaa
