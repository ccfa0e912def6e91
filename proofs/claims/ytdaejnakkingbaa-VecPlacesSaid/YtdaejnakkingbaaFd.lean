/- The statements of layer 3, as calls. -/
import Derived.Test.YtdaejnakkingbaaFc
set_option linter.unusedSimpArgs false
set_option linter.unusedVariables false
set_option maxRecDepth 100000
set_option maxHeartbeats 2000000
namespace Go.Proofs.Ytdaejnakkingbaa
open Go.HL Go.RowKit Pb
variable {w0 : World} {t1 t2 t3 : TypeId} {H : Heap} {K : Value → Heap → Prop}
/- paintboxlaw03 wakes -/
def M10 : MC :=
  .seq (.reg [⟨(some 0), .mv (.const (.bool false)), none⟩])
  (.seq (.reg [⟨(some 6), .build [(.int .i32 0), (.int .i32 0), (.int .i32 0), (.int .i32 0)] [(0, 1, (.const (.int .i32 1))), (1, 1, (.const (.int .i32 2)))], none⟩,
      ⟨(some 7), .build [(.int .i32 0), (.int .i32 0), (.int .i32 0), (.int .i32 0)] [(0, 1, (.const (.int .i32 3))), (1, 1, (.const (.int .i32 4)))], none⟩,
      ⟨(some 8), .call 11 [(.const (.int .i64 0)), (.const (.int .i64 2)), (.tmp 6), (.tmp 7)], none⟩,
      ⟨(some 5), .mv (.tmp 8), none⟩,
      ⟨(some 9), .ext 0 (.tmp 5), none⟩,
      ⟨(some 10), .ext 1 (.tmp 5), none⟩,
      ⟨(some 1), .alloc 24 [(.int .i32 0), (.int .i32 0), (.int .i32 0), (.int .i32 0)], none⟩,
      ⟨none, .stn 4 (.tmp 1) (.tmp 9), none⟩,
      ⟨(some 2), .mv (.tmp 10), none⟩])
   (.seq (.reg [⟨(some 12), .build [(.int .i32 0), (.int .i32 0), (.int .i32 0), (.int .i32 0)] [(0, 1, (.const (.int .i32 65536))), (1, 1, (.const (.int .i32 65536)))], none⟩,
       ⟨(some 13), .build [(.int .i32 0), (.int .i32 0), (.int .i32 0), (.int .i32 0)] [(0, 1, (.const (.int .i32 65536))), (1, 1, (.const (.int .i32 65536)))], none⟩,
       ⟨(some 14), .call 15 [(.const (.int .i64 2)), (.tmp 12), (.tmp 13)], none⟩,
       ⟨(some 11), .mv (.tmp 14), none⟩,
       ⟨(some 15), .ext 0 (.tmp 11), none⟩,
       ⟨(some 16), .ext 1 (.tmp 11), none⟩,
       ⟨(some 3), .mv (.tmp 15), none⟩,
       ⟨(some 4), .mv (.tmp 16), none⟩])
    (.seq (.reg [⟨(some 17), .mv (.tmp 2), none⟩,
        ⟨(some 18), .bin .eql (.tmp 17) (.const (.int .i64 0)), none⟩,
        ⟨(some 19), .mv (.tmp 18), none⟩,
        ⟨(some 20), .mv (.tmp 4), (some (19, true))⟩,
        ⟨(some 21), .bin .eql (.tmp 20) (.const (.int .i64 0)), (some (19, true))⟩,
        ⟨(some 22), .pick (.tmp 19) (.tmp 21) (.const (.bool false)), none⟩,
        ⟨(some 23), .mv (.tmp 22), none⟩,
        ⟨(some 24), .ldn 4 (.tmp 1), (some (23, true))⟩,
        ⟨(some 25), .build [(.int .i32 0), (.int .i32 0), (.int .i32 0), (.int .i32 0)] [(0, 1, (.const (.int .i32 4))), (1, 1, (.const (.int .i32 6)))], (some (23, true))⟩,
        ⟨(some 26), .eqa false 4 (.tmp 24) (.tmp 25), (some (23, true))⟩,
        ⟨(some 27), .pick (.tmp 23) (.tmp 26) (.const (.bool false)), none⟩,
        ⟨(some 28), .mv (.tmp 27), none⟩,
        ⟨(some 29), .mv (.tmp 3), (some (28, true))⟩,
        ⟨(some 30), .bin .eql (.tmp 29) (.const (.int .i32 131072)), (some (28, true))⟩,
        ⟨(some 31), .pick (.tmp 28) (.tmp 30) (.const (.bool false)), none⟩,
        ⟨(some 0), .mv (.tmp 31), none⟩])
     (.ret))))
theorem k10 : fnOk Try.prog 10 = some (M10, [.t 0], 32) := by kernel_rfl

theorem w_wakes (h : K (.bool true) H) : HCalls Try.prog w0 10 [] H K := by
  have hz : I32 0 := i32_of rfl
  have ho : I32 65536 := i32_of rfl
  have e0 : fst 2 (fun i => vtwo 0 (vf 1 2 0 0 i) (vf 3 4 0 0 i)) 0 = 4 := rfl
  have e1 : fst 2 (fun i => vtwo 0 (vf 1 2 0 0 i) (vf 3 4 0 0 i)) 1 = 6 := rfl
  have e2 : fst 2 (fun i => vtwo 0 (vf 1 2 0 0 i) (vf 3 4 0 0 i)) 2 = 0 := rfl
  have e3 : fst 2 (fun i => vtwo 0 (vf 1 2 0 0 i) (vf 3 4 0 0 i)) 3 = 0 := rfl
  have e4 : (vsum 2 fun i => fmul (vf 65536 65536 0 0 i) (vf 65536 65536 0 0 i)) = 131072 := rfl
  refine HL.hc k10 999 ?_; simp only [M10, Sh, Si, Sl, Bu, Bb, Bd, Bc, Bw, Bn, Int.reduceAdd, Int.reduceSub, Int.reduceMul, Int.reduceTDiv, Int.reduceTMod, Int.reduceMod, Int.reduceDiv, Nat.reduceLT, Nat.reduceEqDiff, decide_true, decide_false, Sa, Sb, Sc, Sd, Se, Sf, Sg, true_and, and_true, and_self, eq_self, b_i64, b_i32, b_u64, b_u32, b_u8, Int.reduceLE, Int.reduceLT, Int.reduceToNat, Int.reduceNeg, Int.reduceEq, Nat.reduceLeDiff, Nat.reducePow, Int.reducePow, Nat.min_def, reduceIte, Nat.reduceSub, Nat.reduceAdd, Nat.reduceMul, KP_same, KP_f, condS_t, condS_f, pick_t, pick_f, gS_tt, gS_ff, gS_tf, gS_ft, gS_u, gP_tt, gP_ff, gP_tf, gP_ft, gP_u, ptrV_eq, slcV_eq, cells_agg, cells_int, cells_bool, cells_ptr, cells_slice, oc_int, oc_bool, oc_slice, oc_ptr, rd1_set, rd1_ne, rdn_set, rdn_ne, Heap.set_same, set_ne, Heap.set_set, set_up, set_up2, set_up3, putAt, ceq, List.map_cons, List.map_nil, List.length_cons, List.length_nil, List.length_set, List.cons_append, List.nil_append, List.append_nil, List.replicate, List.size_toArray, List.all_cons, List.all_nil, Bool.and_self, Bool.and_true, List.drop_zero, List.drop_succ_cons, List.take_succ_cons, List.take_zero, List.set_cons_zero, List.set_cons_succ, List.getElem?_cons_zero, List.getElem?_cons_succ, Option.map_some, Option.map_none, ne_eq, not_false_eq_true, not_true_eq_false, gt_iff_lt, ge_iff_le, Int.one_mul, Nat.zero_add, Nat.zero_mul, Bool.not_true, Bool.not_false, Bool.false_eq_true, Bool.and_false, Bool.false_and, Bool.true_and]
  (try simp only [Sh, Si, Sl, Bu, Bb, Bd, Bc, Bw, Bn, Int.reduceAdd, Int.reduceSub, Int.reduceMul, Int.reduceTDiv, Int.reduceTMod, Int.reduceMod, Int.reduceDiv, Nat.reduceLT, Nat.reduceEqDiff, decide_true, decide_false, Sa, Sb, Sc, Sd, Se, Sf, Sg, true_and, and_true, and_self, eq_self, b_i64, b_i32, b_u64, b_u32, b_u8, Int.reduceLE, Int.reduceLT, Int.reduceToNat, Int.reduceNeg, Int.reduceEq, Nat.reduceLeDiff, Nat.reducePow, Int.reducePow, Nat.min_def, reduceIte, Nat.reduceSub, Nat.reduceAdd, Nat.reduceMul, KP_same, KP_f, condS_t, condS_f, pick_t, pick_f, gS_tt, gS_ff, gS_tf, gS_ft, gS_u, gP_tt, gP_ff, gP_tf, gP_ft, gP_u, ptrV_eq, slcV_eq, cells_agg, cells_int, cells_bool, cells_ptr, cells_slice, oc_int, oc_bool, oc_slice, oc_ptr, rd1_set, rd1_ne, rdn_set, rdn_ne, Heap.set_same, set_ne, Heap.set_set, set_up, set_up2, set_up3, putAt, ceq, List.map_cons, List.map_nil, List.length_cons, List.length_nil, List.length_set, List.cons_append, List.nil_append, List.append_nil, List.replicate, List.size_toArray, List.all_cons, List.all_nil, Bool.and_self, Bool.and_true, List.drop_zero, List.drop_succ_cons, List.take_succ_cons, List.take_zero, List.set_cons_zero, List.set_cons_succ, List.getElem?_cons_zero, List.getElem?_cons_succ, Option.map_some, Option.map_none, ne_eq, not_false_eq_true, not_true_eq_false, gt_iff_lt, ge_iff_le, Int.one_mul, Nat.zero_add, Nat.zero_mul, Bool.not_true, Bool.not_false, Bool.false_eq_true, Bool.and_false, Bool.false_and, Bool.true_and, *]); repeat' ((first | (refine c_Two 0 2 (vf 1 2 0 0) (vf 3 4 0 0) (vf_I32 (i32_of rfl) (i32_of rfl) hz hz) (vf_I32 (i32_of rfl) (i32_of rfl) hz hz)  ?_ ?_ <;> (intro hc; try simp only [Int.reduceLE, Int.reduceLT, Int.reduceEq, and_self, not_true_eq_false, not_false_eq_true, and_true, true_and, false_and, and_false, true_or, or_true, false_or, or_false, decide_eq_true_eq, decide_eq_false_iff_not, beq_iff_eq, beq_eq_false_iff_ne, bne_iff_ne, ne_eq, gt_iff_lt, ge_iff_le, Bool.not_eq_true, Bool.not_eq_false, Bool.not_eq_true', Bool.not_eq_false', Bool.not_eq_eq_eq_not, Bool.not_true, Bool.not_false] at hc)) | (refine c_Dot 2 (vf 65536 65536 0 0) (vf 65536 65536 0 0) (vf_I32 ho ho hz hz) (vf_I32 ho ho hz hz)  ?_ ?_ <;> (intro hc; try simp only [Int.reduceLE, Int.reduceLT, Int.reduceEq, and_self, not_true_eq_false, not_false_eq_true, and_true, true_and, false_and, and_false, true_or, or_true, false_or, or_false, decide_eq_true_eq, decide_eq_false_iff_not, beq_iff_eq, beq_eq_false_iff_ne, bne_iff_ne, ne_eq, gt_iff_lt, ge_iff_le, Bool.not_eq_true, Bool.not_eq_false, Bool.not_eq_true', Bool.not_eq_false', Bool.not_eq_eq_eq_not, Bool.not_true, Bool.not_false] at hc)) | (refine AllocQ_i ?_; intro bk hb0 hbk; try simp only [set_none'] at hbk) | (refine condS_i ?_ ?_ <;> (intro hc; try simp only [Int.reduceLE, Int.reduceLT, Int.reduceEq, and_self, not_true_eq_false, not_false_eq_true, and_true, true_and, false_and, and_false, true_or, or_true, false_or, or_false, decide_eq_true_eq, decide_eq_false_iff_not, beq_iff_eq, beq_eq_false_iff_ne, bne_iff_ne, ne_eq, gt_iff_lt, ge_iff_le, Bool.not_eq_true, Bool.not_eq_false, Bool.not_eq_true', Bool.not_eq_false', Bool.not_eq_eq_eq_not, Bool.not_true, Bool.not_false] at hc)) | (refine pick_i ?_ ?_ <;> (intro hc; try simp only [Int.reduceLE, Int.reduceLT, Int.reduceEq, and_self, not_true_eq_false, not_false_eq_true, and_true, true_and, false_and, and_false, true_or, or_true, false_or, or_false, decide_eq_true_eq, decide_eq_false_iff_not, beq_iff_eq, beq_eq_false_iff_ne, bne_iff_ne, ne_eq, gt_iff_lt, ge_iff_le, Bool.not_eq_true, Bool.not_eq_false, Bool.not_eq_true', Bool.not_eq_false', Bool.not_eq_eq_eq_not, Bool.not_true, Bool.not_false] at hc)) | (refine gS_it ?_ ?_ <;> (intro hc; try simp only [Int.reduceLE, Int.reduceLT, Int.reduceEq, and_self, not_true_eq_false, not_false_eq_true, and_true, true_and, false_and, and_false, true_or, or_true, false_or, or_false, decide_eq_true_eq, decide_eq_false_iff_not, beq_iff_eq, beq_eq_false_iff_ne, bne_iff_ne, ne_eq, gt_iff_lt, ge_iff_le, Bool.not_eq_true, Bool.not_eq_false, Bool.not_eq_true', Bool.not_eq_false', Bool.not_eq_eq_eq_not, Bool.not_true, Bool.not_false] at hc)) | (refine gS_if ?_ ?_ <;> (intro hc; try simp only [Int.reduceLE, Int.reduceLT, Int.reduceEq, and_self, not_true_eq_false, not_false_eq_true, and_true, true_and, false_and, and_false, true_or, or_true, false_or, or_false, decide_eq_true_eq, decide_eq_false_iff_not, beq_iff_eq, beq_eq_false_iff_ne, bne_iff_ne, ne_eq, gt_iff_lt, ge_iff_le, Bool.not_eq_true, Bool.not_eq_false, Bool.not_eq_true', Bool.not_eq_false', Bool.not_eq_eq_eq_not, Bool.not_true, Bool.not_false] at hc)) | (refine gP_it ?_ ?_ <;> (intro hc; try simp only [Int.reduceLE, Int.reduceLT, Int.reduceEq, and_self, not_true_eq_false, not_false_eq_true, and_true, true_and, false_and, and_false, true_or, or_true, false_or, or_false, decide_eq_true_eq, decide_eq_false_iff_not, beq_iff_eq, beq_eq_false_iff_ne, bne_iff_ne, ne_eq, gt_iff_lt, ge_iff_le, Bool.not_eq_true, Bool.not_eq_false, Bool.not_eq_true', Bool.not_eq_false', Bool.not_eq_eq_eq_not, Bool.not_true, Bool.not_false] at hc)) | (refine gP_if ?_ ?_ <;> (intro hc; try simp only [Int.reduceLE, Int.reduceLT, Int.reduceEq, and_self, not_true_eq_false, not_false_eq_true, and_true, true_and, false_and, and_false, true_or, or_true, false_or, or_false, decide_eq_true_eq, decide_eq_false_iff_not, beq_iff_eq, beq_eq_false_iff_ne, bne_iff_ne, ne_eq, gt_iff_lt, ge_iff_le, Bool.not_eq_true, Bool.not_eq_false, Bool.not_eq_true', Bool.not_eq_false', Bool.not_eq_eq_eq_not, Bool.not_true, Bool.not_false] at hc)) | (with_reducible refine And.intro ?_ ?_)) <;> (try simp only [Sh, Si, Sl, Bu, Bb, Bd, Bc, Bw, Bn, Int.reduceAdd, Int.reduceSub, Int.reduceMul, Int.reduceTDiv, Int.reduceTMod, Int.reduceMod, Int.reduceDiv, Nat.reduceLT, Nat.reduceEqDiff, decide_true, decide_false, Sa, Sb, Sc, Sd, Se, Sf, Sg, true_and, and_true, and_self, eq_self, b_i64, b_i32, b_u64, b_u32, b_u8, Int.reduceLE, Int.reduceLT, Int.reduceToNat, Int.reduceNeg, Int.reduceEq, Nat.reduceLeDiff, Nat.reducePow, Int.reducePow, Nat.min_def, reduceIte, Nat.reduceSub, Nat.reduceAdd, Nat.reduceMul, KP_same, KP_f, condS_t, condS_f, pick_t, pick_f, gS_tt, gS_ff, gS_tf, gS_ft, gS_u, gP_tt, gP_ff, gP_tf, gP_ft, gP_u, ptrV_eq, slcV_eq, cells_agg, cells_int, cells_bool, cells_ptr, cells_slice, oc_int, oc_bool, oc_slice, oc_ptr, rd1_set, rd1_ne, rdn_set, rdn_ne, Heap.set_same, set_ne, Heap.set_set, set_up, set_up2, set_up3, putAt, ceq, List.map_cons, List.map_nil, List.length_cons, List.length_nil, List.length_set, List.cons_append, List.nil_append, List.append_nil, List.replicate, List.size_toArray, List.all_cons, List.all_nil, Bool.and_self, Bool.and_true, List.drop_zero, List.drop_succ_cons, List.take_succ_cons, List.take_zero, List.set_cons_zero, List.set_cons_succ, List.getElem?_cons_zero, List.getElem?_cons_succ, Option.map_some, Option.map_none, ne_eq, not_false_eq_true, not_true_eq_false, gt_iff_lt, ge_iff_le, Int.one_mul, Nat.zero_add, Nat.zero_mul, Bool.not_true, Bool.not_false, Bool.false_eq_true, Bool.and_false, Bool.false_and, Bool.true_and, *]))
  all_goals exact Fin_mk (by (repeat' (first | exact Heap.Le.refl _ | (refine Le_fresh (by simp only [*]) ?_)))) h
abbrev PP (a b : Nat → Int) : Value := .agg #[.int .i32 (a 0), .int .i32 (a 1), .int .i32 (a 2), .int .i32 (a 3), .int .i32 (b 0), .int .i32 (b 1), .int .i32 (b 2), .int .i32 (b 3)]
/- paintboxlaw03 VecTwos -/
def M3 : MC :=
  .seq (.reg [⟨(some 5), .box 26 (.tmp 2), none⟩,
     ⟨(some 6), .mv (.const (.bool false)), none⟩])
  (.seq (.seq (.reg [⟨(some 9), .call 10 [], none⟩,
       ⟨(some 10), .un .not (.tmp 9), none⟩])
    (.cond (.tmp 10)
     (.seq (.reg [⟨(some 6), .mv (.const (.bool false)), none⟩])
      (.ret))
     (.skip)))
   (.seq (.reg [⟨(some 12), .mv (.tmp 0), none⟩,
       ⟨(some 13), .mv (.tmp 1), none⟩,
       ⟨(some 14), .fa 0 (.tmp 5), none⟩,
       ⟨(some 15), .ldn 4 (.tmp 14), none⟩,
       ⟨(some 16), .fa 4 (.tmp 5), none⟩,
       ⟨(some 17), .ldn 4 (.tmp 16), none⟩,
       ⟨(some 18), .call 11 [(.tmp 12), (.tmp 13), (.tmp 15), (.tmp 17)], none⟩,
       ⟨(some 11), .mv (.tmp 18), none⟩,
       ⟨(some 19), .ext 0 (.tmp 11), none⟩,
       ⟨(some 20), .ext 1 (.tmp 11), none⟩,
       ⟨(some 7), .alloc 24 [(.int .i32 0), (.int .i32 0), (.int .i32 0), (.int .i32 0)], none⟩,
       ⟨none, .stn 4 (.tmp 7) (.tmp 19), none⟩,
       ⟨(some 8), .mv (.tmp 20), none⟩])
    (.seq (.seq (.reg [⟨(some 21), .mv (.tmp 0), none⟩,
         ⟨(some 22), .bin .lss (.tmp 21) (.const (.int .i64 0)), none⟩,
         ⟨(some 23), .mv (.tmp 22), none⟩,
         ⟨(some 24), .mv (.tmp 0), (some (23, false))⟩,
         ⟨(some 25), .bin .gtr (.tmp 24) (.const (.int .i64 7)), (some (23, false))⟩,
         ⟨(some 26), .pick (.tmp 23) (.const (.bool true)) (.tmp 25), none⟩,
         ⟨(some 27), .mv (.tmp 26), none⟩,
         ⟨(some 28), .mv (.tmp 1), (some (27, false))⟩,
         ⟨(some 29), .bin .lss (.tmp 28) (.const (.int .i64 1)), (some (27, false))⟩,
         ⟨(some 30), .pick (.tmp 27) (.const (.bool true)) (.tmp 29), none⟩,
         ⟨(some 31), .mv (.tmp 30), none⟩,
         ⟨(some 32), .mv (.tmp 1), (some (31, false))⟩,
         ⟨(some 33), .bin .gtr (.tmp 32) (.const (.int .i64 4)), (some (31, false))⟩,
         ⟨(some 34), .pick (.tmp 31) (.const (.bool true)) (.tmp 33), none⟩])
      (.cond (.tmp 34)
       (.seq (.reg [⟨(some 35), .ldn 4 (.tmp 7), none⟩,
           ⟨(some 36), .build [(.int .i32 0), (.int .i32 0), (.int .i32 0), (.int .i32 0)] [], none⟩,
           ⟨(some 37), .eqa false 4 (.tmp 35) (.tmp 36), none⟩,
           ⟨(some 38), .mv (.tmp 37), none⟩,
           ⟨(some 39), .mv (.tmp 8), (some (38, true))⟩,
           ⟨(some 40), .bin .eql (.tmp 39) (.const (.int .i64 2)), (some (38, true))⟩,
           ⟨(some 41), .pick (.tmp 38) (.tmp 40) (.const (.bool false)), none⟩,
           ⟨(some 6), .mv (.tmp 41), none⟩])
        (.ret))
       (.skip)))
     (.seq (.any [(false, true, ⟨(some 42), .mv (.tmp 8), none⟩),
         (false, true, ⟨(some 43), .bin .eql (.tmp 42) (.const (.int .i64 0)), none⟩),
         (false, true, ⟨(some 44), .mv (.tmp 43), none⟩),
         (true, true, ⟨(some 45), .ldn 4 (.tmp 7), (some (44, true))⟩),
         (true, true, ⟨(some 46), .mv (.tmp 0), (some (44, true))⟩),
         (true, true, ⟨(some 47), .mv (.tmp 1), (some (44, true))⟩),
         (true, true, ⟨(some 48), .fa 0 (.tmp 5), (some (44, true))⟩),
         (true, true, ⟨(some 49), .ldn 4 (.tmp 48), (some (44, true))⟩),
         (false, true, ⟨(some 50), .fa 4 (.tmp 5), (some (44, true))⟩),
         (false, true, ⟨(some 51), .ldn 4 (.tmp 50), (some (44, true))⟩),
         (false, true, ⟨(some 52), .call 12 [(.tmp 46), (.tmp 47), (.tmp 49), (.tmp 51)], (some (44, true))⟩),
         (false, false, ⟨(some 53), .eqa false 4 (.tmp 45) (.tmp 52), (some (44, true))⟩),
         (false, false, ⟨(some 54), .pick (.tmp 44) (.tmp 53) (.const (.bool false)), none⟩),
         (false, false, ⟨(some 6), .mv (.tmp 54), none⟩)])
      (.ret)))))
theorem k3 : fnOk Try.prog 3 = some (M3, [.t 6], 55) := by kernel_rfl

theorem l_VecTwos (op n : Int) (a b : Nat → Int) (ha : ∀ i, I32 (a i)) (hb : ∀ i, I32 (b i)) (h : K (.bool true) H) : HCalls Try.prog w0 3 [.int .i64 op, .int .i64 n, PP a b] H K := by
  refine HL.hc k3 999 ?_; simp only [M3, Sh, Si, Sl, Bu, Bb, Bd, Bc, Bw, Bn, Int.reduceAdd, Int.reduceSub, Int.reduceMul, Int.reduceTDiv, Int.reduceTMod, Int.reduceMod, Int.reduceDiv, Nat.reduceLT, Nat.reduceEqDiff, decide_true, decide_false, Sa, Sb, Sc, Sd, Se, Sf, Sg, true_and, and_true, and_self, eq_self, b_i64, b_i32, b_u64, b_u32, b_u8, Int.reduceLE, Int.reduceLT, Int.reduceToNat, Int.reduceNeg, Int.reduceEq, Nat.reduceLeDiff, Nat.reducePow, Int.reducePow, Nat.min_def, reduceIte, Nat.reduceSub, Nat.reduceAdd, Nat.reduceMul, KP_same, KP_f, condS_t, condS_f, pick_t, pick_f, gS_tt, gS_ff, gS_tf, gS_ft, gS_u, gP_tt, gP_ff, gP_tf, gP_ft, gP_u, ptrV_eq, slcV_eq, cells_agg, cells_int, cells_bool, cells_ptr, cells_slice, oc_int, oc_bool, oc_slice, oc_ptr, rd1_set, rd1_ne, rdn_set, rdn_ne, Heap.set_same, set_ne, Heap.set_set, set_up, set_up2, set_up3, putAt, ceq, List.map_cons, List.map_nil, List.length_cons, List.length_nil, List.length_set, List.cons_append, List.nil_append, List.append_nil, List.replicate, List.size_toArray, List.all_cons, List.all_nil, Bool.and_self, Bool.and_true, List.drop_zero, List.drop_succ_cons, List.take_succ_cons, List.take_zero, List.set_cons_zero, List.set_cons_succ, List.getElem?_cons_zero, List.getElem?_cons_succ, Option.map_some, Option.map_none, ne_eq, not_false_eq_true, not_true_eq_false, gt_iff_lt, ge_iff_le, Int.one_mul, Nat.zero_add, Nat.zero_mul, Bool.not_true, Bool.not_false, Bool.false_eq_true, Bool.and_false, Bool.false_and, Bool.true_and]
  (try simp only [Sh, Si, Sl, Bu, Bb, Bd, Bc, Bw, Bn, Int.reduceAdd, Int.reduceSub, Int.reduceMul, Int.reduceTDiv, Int.reduceTMod, Int.reduceMod, Int.reduceDiv, Nat.reduceLT, Nat.reduceEqDiff, decide_true, decide_false, Sa, Sb, Sc, Sd, Se, Sf, Sg, true_and, and_true, and_self, eq_self, b_i64, b_i32, b_u64, b_u32, b_u8, Int.reduceLE, Int.reduceLT, Int.reduceToNat, Int.reduceNeg, Int.reduceEq, Nat.reduceLeDiff, Nat.reducePow, Int.reducePow, Nat.min_def, reduceIte, Nat.reduceSub, Nat.reduceAdd, Nat.reduceMul, KP_same, KP_f, condS_t, condS_f, pick_t, pick_f, gS_tt, gS_ff, gS_tf, gS_ft, gS_u, gP_tt, gP_ff, gP_tf, gP_ft, gP_u, ptrV_eq, slcV_eq, cells_agg, cells_int, cells_bool, cells_ptr, cells_slice, oc_int, oc_bool, oc_slice, oc_ptr, rd1_set, rd1_ne, rdn_set, rdn_ne, Heap.set_same, set_ne, Heap.set_set, set_up, set_up2, set_up3, putAt, ceq, List.map_cons, List.map_nil, List.length_cons, List.length_nil, List.length_set, List.cons_append, List.nil_append, List.append_nil, List.replicate, List.size_toArray, List.all_cons, List.all_nil, Bool.and_self, Bool.and_true, List.drop_zero, List.drop_succ_cons, List.take_succ_cons, List.take_zero, List.set_cons_zero, List.set_cons_succ, List.getElem?_cons_zero, List.getElem?_cons_succ, Option.map_some, Option.map_none, ne_eq, not_false_eq_true, not_true_eq_false, gt_iff_lt, ge_iff_le, Int.one_mul, Nat.zero_add, Nat.zero_mul, Bool.not_true, Bool.not_false, Bool.false_eq_true, Bool.and_false, Bool.false_and, Bool.true_and, *]); repeat' ((first | refine w_wakes ?_ | (refine c_Two op n a b ha hb  ?_ ?_ <;> (intro hc; try simp only [Int.reduceLE, Int.reduceLT, Int.reduceEq, and_self, not_true_eq_false, not_false_eq_true, and_true, true_and, false_and, and_false, true_or, or_true, false_or, or_false, decide_eq_true_eq, decide_eq_false_iff_not, beq_iff_eq, beq_eq_false_iff_ne, bne_iff_ne, ne_eq, gt_iff_lt, ge_iff_le, Bool.not_eq_true, Bool.not_eq_false, Bool.not_eq_true', Bool.not_eq_false', Bool.not_eq_eq_eq_not, Bool.not_true, Bool.not_false] at hc)) | refine r_Twos op n a b (by omega) (by omega) ha hb ?_ | (refine AllocQ_i ?_; intro bk hb0 hbk; try simp only [set_none'] at hbk) | (refine condS_i ?_ ?_ <;> (intro hc; try simp only [Int.reduceLE, Int.reduceLT, Int.reduceEq, and_self, not_true_eq_false, not_false_eq_true, and_true, true_and, false_and, and_false, true_or, or_true, false_or, or_false, decide_eq_true_eq, decide_eq_false_iff_not, beq_iff_eq, beq_eq_false_iff_ne, bne_iff_ne, ne_eq, gt_iff_lt, ge_iff_le, Bool.not_eq_true, Bool.not_eq_false, Bool.not_eq_true', Bool.not_eq_false', Bool.not_eq_eq_eq_not, Bool.not_true, Bool.not_false] at hc)) | (refine pick_i ?_ ?_ <;> (intro hc; try simp only [Int.reduceLE, Int.reduceLT, Int.reduceEq, and_self, not_true_eq_false, not_false_eq_true, and_true, true_and, false_and, and_false, true_or, or_true, false_or, or_false, decide_eq_true_eq, decide_eq_false_iff_not, beq_iff_eq, beq_eq_false_iff_ne, bne_iff_ne, ne_eq, gt_iff_lt, ge_iff_le, Bool.not_eq_true, Bool.not_eq_false, Bool.not_eq_true', Bool.not_eq_false', Bool.not_eq_eq_eq_not, Bool.not_true, Bool.not_false] at hc)) | (refine gS_it ?_ ?_ <;> (intro hc; try simp only [Int.reduceLE, Int.reduceLT, Int.reduceEq, and_self, not_true_eq_false, not_false_eq_true, and_true, true_and, false_and, and_false, true_or, or_true, false_or, or_false, decide_eq_true_eq, decide_eq_false_iff_not, beq_iff_eq, beq_eq_false_iff_ne, bne_iff_ne, ne_eq, gt_iff_lt, ge_iff_le, Bool.not_eq_true, Bool.not_eq_false, Bool.not_eq_true', Bool.not_eq_false', Bool.not_eq_eq_eq_not, Bool.not_true, Bool.not_false] at hc)) | (refine gS_if ?_ ?_ <;> (intro hc; try simp only [Int.reduceLE, Int.reduceLT, Int.reduceEq, and_self, not_true_eq_false, not_false_eq_true, and_true, true_and, false_and, and_false, true_or, or_true, false_or, or_false, decide_eq_true_eq, decide_eq_false_iff_not, beq_iff_eq, beq_eq_false_iff_ne, bne_iff_ne, ne_eq, gt_iff_lt, ge_iff_le, Bool.not_eq_true, Bool.not_eq_false, Bool.not_eq_true', Bool.not_eq_false', Bool.not_eq_eq_eq_not, Bool.not_true, Bool.not_false] at hc)) | (refine gP_it ?_ ?_ <;> (intro hc; try simp only [Int.reduceLE, Int.reduceLT, Int.reduceEq, and_self, not_true_eq_false, not_false_eq_true, and_true, true_and, false_and, and_false, true_or, or_true, false_or, or_false, decide_eq_true_eq, decide_eq_false_iff_not, beq_iff_eq, beq_eq_false_iff_ne, bne_iff_ne, ne_eq, gt_iff_lt, ge_iff_le, Bool.not_eq_true, Bool.not_eq_false, Bool.not_eq_true', Bool.not_eq_false', Bool.not_eq_eq_eq_not, Bool.not_true, Bool.not_false] at hc)) | (refine gP_if ?_ ?_ <;> (intro hc; try simp only [Int.reduceLE, Int.reduceLT, Int.reduceEq, and_self, not_true_eq_false, not_false_eq_true, and_true, true_and, false_and, and_false, true_or, or_true, false_or, or_false, decide_eq_true_eq, decide_eq_false_iff_not, beq_iff_eq, beq_eq_false_iff_ne, bne_iff_ne, ne_eq, gt_iff_lt, ge_iff_le, Bool.not_eq_true, Bool.not_eq_false, Bool.not_eq_true', Bool.not_eq_false', Bool.not_eq_eq_eq_not, Bool.not_true, Bool.not_false] at hc)) | (with_reducible refine And.intro ?_ ?_)) <;> (try simp only [Sh, Si, Sl, Bu, Bb, Bd, Bc, Bw, Bn, Int.reduceAdd, Int.reduceSub, Int.reduceMul, Int.reduceTDiv, Int.reduceTMod, Int.reduceMod, Int.reduceDiv, Nat.reduceLT, Nat.reduceEqDiff, decide_true, decide_false, Sa, Sb, Sc, Sd, Se, Sf, Sg, true_and, and_true, and_self, eq_self, b_i64, b_i32, b_u64, b_u32, b_u8, Int.reduceLE, Int.reduceLT, Int.reduceToNat, Int.reduceNeg, Int.reduceEq, Nat.reduceLeDiff, Nat.reducePow, Int.reducePow, Nat.min_def, reduceIte, Nat.reduceSub, Nat.reduceAdd, Nat.reduceMul, KP_same, KP_f, condS_t, condS_f, pick_t, pick_f, gS_tt, gS_ff, gS_tf, gS_ft, gS_u, gP_tt, gP_ff, gP_tf, gP_ft, gP_u, ptrV_eq, slcV_eq, cells_agg, cells_int, cells_bool, cells_ptr, cells_slice, oc_int, oc_bool, oc_slice, oc_ptr, rd1_set, rd1_ne, rdn_set, rdn_ne, Heap.set_same, set_ne, Heap.set_set, set_up, set_up2, set_up3, putAt, ceq, List.map_cons, List.map_nil, List.length_cons, List.length_nil, List.length_set, List.cons_append, List.nil_append, List.append_nil, List.replicate, List.size_toArray, List.all_cons, List.all_nil, Bool.and_self, Bool.and_true, List.drop_zero, List.drop_succ_cons, List.take_succ_cons, List.take_zero, List.set_cons_zero, List.set_cons_succ, List.getElem?_cons_zero, List.getElem?_cons_succ, Option.map_some, Option.map_none, ne_eq, not_false_eq_true, not_true_eq_false, gt_iff_lt, ge_iff_le, Int.one_mul, Nat.zero_add, Nat.zero_mul, Bool.not_true, Bool.not_false, Bool.false_eq_true, Bool.and_false, Bool.false_and, Bool.true_and, *]))
  all_goals first | (exfalso; omega) | exact Fin_mk (by (repeat' (first | exact Heap.Le.refl _ | (refine Le_fresh (by simp only [*]) ?_)))) h
end Go.Proofs.Ytdaejnakkingbaa
