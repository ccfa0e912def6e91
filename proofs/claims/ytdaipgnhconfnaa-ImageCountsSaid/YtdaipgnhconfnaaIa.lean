/- How many levels sides have, what a new image is, and the statement on both, as a call (layer 8). -/
import Derived.Test.YtdaipgnhconfnaaWk8
import Derived.Test.YtdaipgnhconfnaaPd
import Derived.Test.YtdaipgnhconfnaaHlz
set_option linter.unusedSimpArgs false
set_option linter.unusedVariables false
set_option maxRecDepth 100000
set_option maxHeartbeats 4000000
namespace Go.Proofs.Ytdaipgnhconfnaa
open Go.HL Go.RowKit Pb
variable {w0 : World} {H : Heap} {K : Value → Heap → Prop}

def lg (s : Int) : Int := if s ≤ 1 then 0 else if s ≤ 3 then 1 else if s ≤ 7 then 2 else if s ≤ 15 then 3 else if s ≤ 31 then 4 else if s ≤ 63 then 5 else 6
theorem lg_half {s : Int} (h : 1 < s ∧ s ≤ 64) : lg (s / 2) = lg s - 1 := by
  unfold lg
  have h2 : 2 * (s / 2) ≤ s ∧ s < 2 * (s / 2) + 2 := by omega
  (repeat' split) <;> omega
theorem lg_le {s : Int} : 0 ≤ lg s ∧ lg s ≤ 6 := by unfold lg; (repeat' split) <;> omega
theorem lg_one {s : Int} (h : 1 < s) : 1 ≤ lg s := by unfold lg; (repeat' split) <;> omega
theorem lg_zero {s : Int} (h : s ≤ 1) : lg s = 0 := by unfold lg; rw [if_pos h]
def cntI (w h : Int) : Int := if 1 ≤ w ∧ w ≤ 64 ∧ 1 ≤ h ∧ h ≤ 64 then 1 + lg (if w < h then h else w) else 0
/- image side -/
def M50 : MC :=
  .seq (.reg [⟨(some 2), .mv (.const (.bool false)), none⟩])
  (.seq (.reg [⟨(some 3), .mv (.tmp 0), none⟩,
      ⟨(some 4), .bin .gtr (.tmp 3) (.const (.int .i64 0)), none⟩,
      ⟨(some 5), .mv (.tmp 4), none⟩,
      ⟨(some 6), .mv (.tmp 0), (some (5, true))⟩,
      ⟨(some 7), .bin .leq (.tmp 6) (.const (.int .i64 64)), (some (5, true))⟩,
      ⟨(some 8), .pick (.tmp 5) (.tmp 7) (.const (.bool false)), none⟩,
      ⟨(some 2), .mv (.tmp 8), none⟩])
   (.ret))
theorem k50 : fnOk Try.prog 50 = some (M50, [.t 2], 9) := by kernel_rfl

theorem c_side (n : Int) (h : K (.bool (decide (1 ≤ n ∧ n ≤ 64))) H) : HCalls Try.prog w0 50 [.int .i64 n] H K := by
  refine HL.hc k50 999 ?_; simp only [M50, Sh, Si, Sl, Bu, Bb, Bd, Bc, Bw, Bn, Int.reduceAdd, Int.reduceSub, Int.reduceMul, Int.reduceTDiv, Int.reduceTMod, Int.reduceMod, Int.reduceDiv, Nat.reduceLT, Nat.reduceEqDiff, decide_true, decide_false, Sa, Sb, Sc, Sd, Se, Sf, Sg, true_and, and_true, and_self, eq_self, b_i64, b_i32, b_u64, b_u32, b_u8, Int.reduceLE, Int.reduceLT, Int.reduceToNat, Int.reduceNeg, Int.reduceEq, Nat.reduceLeDiff, Nat.reducePow, Int.reducePow, Nat.min_def, reduceIte, Nat.reduceSub, Nat.reduceAdd, Nat.reduceMul, KP_same, KP_f, condS_t, condS_f, pick_t, pick_f, gS_tt, gS_ff, gS_tf, gS_ft, gS_u, gP_tt, gP_ff, gP_tf, gP_ft, gP_u, ptrV_eq, slcV_eq, cells_agg, cells_int, cells_bool, cells_ptr, cells_slice, oc_int, oc_bool, oc_slice, oc_ptr, rd1_set, rd1_ne, rdn_set, rdn_ne, Heap.set_same, set_ne, Heap.set_set, set_up, set_up2, set_up3, putAt, ceq, List.map_cons, List.map_nil, List.length_cons, List.length_nil, List.length_set, List.cons_append, List.nil_append, List.append_nil, List.replicate, List.size_toArray, List.all_cons, List.all_nil, Bool.and_self, Bool.and_true, List.drop_zero, List.drop_succ_cons, List.take_succ_cons, List.take_zero, List.set_cons_zero, List.set_cons_succ, List.getElem?_cons_zero, List.getElem?_cons_succ, Option.map_some, Option.map_none, ne_eq, not_false_eq_true, not_true_eq_false, gt_iff_lt, ge_iff_le, Int.one_mul, Nat.zero_add, Nat.zero_mul, Bool.not_true, Bool.not_false, Bool.false_eq_true, Bool.and_false, Bool.false_and, Bool.true_and]
  (try simp only [Sh, Si, Sl, Bu, Bb, Bd, Bc, Bw, Bn, Int.reduceAdd, Int.reduceSub, Int.reduceMul, Int.reduceTDiv, Int.reduceTMod, Int.reduceMod, Int.reduceDiv, Nat.reduceLT, Nat.reduceEqDiff, decide_true, decide_false, Sa, Sb, Sc, Sd, Se, Sf, Sg, true_and, and_true, and_self, eq_self, b_i64, b_i32, b_u64, b_u32, b_u8, Int.reduceLE, Int.reduceLT, Int.reduceToNat, Int.reduceNeg, Int.reduceEq, Nat.reduceLeDiff, Nat.reducePow, Int.reducePow, Nat.min_def, reduceIte, Nat.reduceSub, Nat.reduceAdd, Nat.reduceMul, KP_same, KP_f, condS_t, condS_f, pick_t, pick_f, gS_tt, gS_ff, gS_tf, gS_ft, gS_u, gP_tt, gP_ff, gP_tf, gP_ft, gP_u, ptrV_eq, slcV_eq, cells_agg, cells_int, cells_bool, cells_ptr, cells_slice, oc_int, oc_bool, oc_slice, oc_ptr, rd1_set, rd1_ne, rdn_set, rdn_ne, Heap.set_same, set_ne, Heap.set_set, set_up, set_up2, set_up3, putAt, ceq, List.map_cons, List.map_nil, List.length_cons, List.length_nil, List.length_set, List.cons_append, List.nil_append, List.append_nil, List.replicate, List.size_toArray, List.all_cons, List.all_nil, Bool.and_self, Bool.and_true, List.drop_zero, List.drop_succ_cons, List.take_succ_cons, List.take_zero, List.set_cons_zero, List.set_cons_succ, List.getElem?_cons_zero, List.getElem?_cons_succ, Option.map_some, Option.map_none, ne_eq, not_false_eq_true, not_true_eq_false, gt_iff_lt, ge_iff_le, Int.one_mul, Nat.zero_add, Nat.zero_mul, Bool.not_true, Bool.not_false, Bool.false_eq_true, Bool.and_false, Bool.false_and, Bool.true_and, *]); repeat' ((first | (refine AllocQ_i ?_; intro bk hb0 hbk; try simp only [set_none'] at hbk) | (refine condS_i ?_ ?_ <;> (intro hc; try simp only [Int.reduceLE, Int.reduceLT, Int.reduceEq, and_self, not_true_eq_false, not_false_eq_true, and_true, true_and, false_and, and_false, true_or, or_true, false_or, or_false, decide_eq_true_eq, decide_eq_false_iff_not, beq_iff_eq, beq_eq_false_iff_ne, bne_iff_ne, ne_eq, gt_iff_lt, ge_iff_le, Bool.not_eq_true, Bool.not_eq_false, Bool.not_eq_true', Bool.not_eq_false', Bool.not_eq_eq_eq_not, Bool.not_true, Bool.not_false] at hc)) | (refine pick_i ?_ ?_ <;> (intro hc; try simp only [Int.reduceLE, Int.reduceLT, Int.reduceEq, and_self, not_true_eq_false, not_false_eq_true, and_true, true_and, false_and, and_false, true_or, or_true, false_or, or_false, decide_eq_true_eq, decide_eq_false_iff_not, beq_iff_eq, beq_eq_false_iff_ne, bne_iff_ne, ne_eq, gt_iff_lt, ge_iff_le, Bool.not_eq_true, Bool.not_eq_false, Bool.not_eq_true', Bool.not_eq_false', Bool.not_eq_eq_eq_not, Bool.not_true, Bool.not_false] at hc)) | (refine gS_it ?_ ?_ <;> (intro hc; try simp only [Int.reduceLE, Int.reduceLT, Int.reduceEq, and_self, not_true_eq_false, not_false_eq_true, and_true, true_and, false_and, and_false, true_or, or_true, false_or, or_false, decide_eq_true_eq, decide_eq_false_iff_not, beq_iff_eq, beq_eq_false_iff_ne, bne_iff_ne, ne_eq, gt_iff_lt, ge_iff_le, Bool.not_eq_true, Bool.not_eq_false, Bool.not_eq_true', Bool.not_eq_false', Bool.not_eq_eq_eq_not, Bool.not_true, Bool.not_false] at hc)) | (refine gS_if ?_ ?_ <;> (intro hc; try simp only [Int.reduceLE, Int.reduceLT, Int.reduceEq, and_self, not_true_eq_false, not_false_eq_true, and_true, true_and, false_and, and_false, true_or, or_true, false_or, or_false, decide_eq_true_eq, decide_eq_false_iff_not, beq_iff_eq, beq_eq_false_iff_ne, bne_iff_ne, ne_eq, gt_iff_lt, ge_iff_le, Bool.not_eq_true, Bool.not_eq_false, Bool.not_eq_true', Bool.not_eq_false', Bool.not_eq_eq_eq_not, Bool.not_true, Bool.not_false] at hc)) | (refine gP_it ?_ ?_ <;> (intro hc; try simp only [Int.reduceLE, Int.reduceLT, Int.reduceEq, and_self, not_true_eq_false, not_false_eq_true, and_true, true_and, false_and, and_false, true_or, or_true, false_or, or_false, decide_eq_true_eq, decide_eq_false_iff_not, beq_iff_eq, beq_eq_false_iff_ne, bne_iff_ne, ne_eq, gt_iff_lt, ge_iff_le, Bool.not_eq_true, Bool.not_eq_false, Bool.not_eq_true', Bool.not_eq_false', Bool.not_eq_eq_eq_not, Bool.not_true, Bool.not_false] at hc)) | (refine gP_if ?_ ?_ <;> (intro hc; try simp only [Int.reduceLE, Int.reduceLT, Int.reduceEq, and_self, not_true_eq_false, not_false_eq_true, and_true, true_and, false_and, and_false, true_or, or_true, false_or, or_false, decide_eq_true_eq, decide_eq_false_iff_not, beq_iff_eq, beq_eq_false_iff_ne, bne_iff_ne, ne_eq, gt_iff_lt, ge_iff_le, Bool.not_eq_true, Bool.not_eq_false, Bool.not_eq_true', Bool.not_eq_false', Bool.not_eq_eq_eq_not, Bool.not_true, Bool.not_false] at hc)) | (with_reducible refine And.intro ?_ ?_)) <;> (try simp only [Sh, Si, Sl, Bu, Bb, Bd, Bc, Bw, Bn, Int.reduceAdd, Int.reduceSub, Int.reduceMul, Int.reduceTDiv, Int.reduceTMod, Int.reduceMod, Int.reduceDiv, Nat.reduceLT, Nat.reduceEqDiff, decide_true, decide_false, Sa, Sb, Sc, Sd, Se, Sf, Sg, true_and, and_true, and_self, eq_self, b_i64, b_i32, b_u64, b_u32, b_u8, Int.reduceLE, Int.reduceLT, Int.reduceToNat, Int.reduceNeg, Int.reduceEq, Nat.reduceLeDiff, Nat.reducePow, Int.reducePow, Nat.min_def, reduceIte, Nat.reduceSub, Nat.reduceAdd, Nat.reduceMul, KP_same, KP_f, condS_t, condS_f, pick_t, pick_f, gS_tt, gS_ff, gS_tf, gS_ft, gS_u, gP_tt, gP_ff, gP_tf, gP_ft, gP_u, ptrV_eq, slcV_eq, cells_agg, cells_int, cells_bool, cells_ptr, cells_slice, oc_int, oc_bool, oc_slice, oc_ptr, rd1_set, rd1_ne, rdn_set, rdn_ne, Heap.set_same, set_ne, Heap.set_set, set_up, set_up2, set_up3, putAt, ceq, List.map_cons, List.map_nil, List.length_cons, List.length_nil, List.length_set, List.cons_append, List.nil_append, List.append_nil, List.replicate, List.size_toArray, List.all_cons, List.all_nil, Bool.and_self, Bool.and_true, List.drop_zero, List.drop_succ_cons, List.take_succ_cons, List.take_zero, List.set_cons_zero, List.set_cons_succ, List.getElem?_cons_zero, List.getElem?_cons_succ, Option.map_some, Option.map_none, ne_eq, not_false_eq_true, not_true_eq_false, gt_iff_lt, ge_iff_le, Int.one_mul, Nat.zero_add, Nat.zero_mul, Bool.not_true, Bool.not_false, Bool.false_eq_true, Bool.and_false, Bool.false_and, Bool.true_and, *]))
  all_goals (refine Fin_mk (Heap.Le.refl _) (K_bool h ?_))
  all_goals first | (rw [decide_eq_decide]; omega) | (simp; omega)
/- paintboxref08 side -/
def M53 : MC :=
  .seq (.reg [⟨(some 2), .mv (.const (.bool false)), none⟩])
  (.seq (.reg [⟨(some 3), .mv (.tmp 0), none⟩,
      ⟨(some 4), .bin .geq (.tmp 3) (.const (.int .i64 1)), none⟩,
      ⟨(some 5), .mv (.tmp 4), none⟩,
      ⟨(some 6), .mv (.tmp 0), (some (5, true))⟩,
      ⟨(some 7), .bin .leq (.tmp 6) (.const (.int .i64 64)), (some (5, true))⟩,
      ⟨(some 8), .pick (.tmp 5) (.tmp 7) (.const (.bool false)), none⟩,
      ⟨(some 2), .mv (.tmp 8), none⟩])
   (.ret))
theorem k53 : fnOk Try.prog 53 = some (M53, [.t 2], 9) := by kernel_rfl

theorem r_side (n : Int) (h : K (.bool (decide (1 ≤ n ∧ n ≤ 64))) H) : HCalls Try.prog w0 53 [.int .i64 n] H K := by
  refine HL.hc k53 999 ?_; simp only [M53, Sh, Si, Sl, Bu, Bb, Bd, Bc, Bw, Bn, Int.reduceAdd, Int.reduceSub, Int.reduceMul, Int.reduceTDiv, Int.reduceTMod, Int.reduceMod, Int.reduceDiv, Nat.reduceLT, Nat.reduceEqDiff, decide_true, decide_false, Sa, Sb, Sc, Sd, Se, Sf, Sg, true_and, and_true, and_self, eq_self, b_i64, b_i32, b_u64, b_u32, b_u8, Int.reduceLE, Int.reduceLT, Int.reduceToNat, Int.reduceNeg, Int.reduceEq, Nat.reduceLeDiff, Nat.reducePow, Int.reducePow, Nat.min_def, reduceIte, Nat.reduceSub, Nat.reduceAdd, Nat.reduceMul, KP_same, KP_f, condS_t, condS_f, pick_t, pick_f, gS_tt, gS_ff, gS_tf, gS_ft, gS_u, gP_tt, gP_ff, gP_tf, gP_ft, gP_u, ptrV_eq, slcV_eq, cells_agg, cells_int, cells_bool, cells_ptr, cells_slice, oc_int, oc_bool, oc_slice, oc_ptr, rd1_set, rd1_ne, rdn_set, rdn_ne, Heap.set_same, set_ne, Heap.set_set, set_up, set_up2, set_up3, putAt, ceq, List.map_cons, List.map_nil, List.length_cons, List.length_nil, List.length_set, List.cons_append, List.nil_append, List.append_nil, List.replicate, List.size_toArray, List.all_cons, List.all_nil, Bool.and_self, Bool.and_true, List.drop_zero, List.drop_succ_cons, List.take_succ_cons, List.take_zero, List.set_cons_zero, List.set_cons_succ, List.getElem?_cons_zero, List.getElem?_cons_succ, Option.map_some, Option.map_none, ne_eq, not_false_eq_true, not_true_eq_false, gt_iff_lt, ge_iff_le, Int.one_mul, Nat.zero_add, Nat.zero_mul, Bool.not_true, Bool.not_false, Bool.false_eq_true, Bool.and_false, Bool.false_and, Bool.true_and]
  (try simp only [Sh, Si, Sl, Bu, Bb, Bd, Bc, Bw, Bn, Int.reduceAdd, Int.reduceSub, Int.reduceMul, Int.reduceTDiv, Int.reduceTMod, Int.reduceMod, Int.reduceDiv, Nat.reduceLT, Nat.reduceEqDiff, decide_true, decide_false, Sa, Sb, Sc, Sd, Se, Sf, Sg, true_and, and_true, and_self, eq_self, b_i64, b_i32, b_u64, b_u32, b_u8, Int.reduceLE, Int.reduceLT, Int.reduceToNat, Int.reduceNeg, Int.reduceEq, Nat.reduceLeDiff, Nat.reducePow, Int.reducePow, Nat.min_def, reduceIte, Nat.reduceSub, Nat.reduceAdd, Nat.reduceMul, KP_same, KP_f, condS_t, condS_f, pick_t, pick_f, gS_tt, gS_ff, gS_tf, gS_ft, gS_u, gP_tt, gP_ff, gP_tf, gP_ft, gP_u, ptrV_eq, slcV_eq, cells_agg, cells_int, cells_bool, cells_ptr, cells_slice, oc_int, oc_bool, oc_slice, oc_ptr, rd1_set, rd1_ne, rdn_set, rdn_ne, Heap.set_same, set_ne, Heap.set_set, set_up, set_up2, set_up3, putAt, ceq, List.map_cons, List.map_nil, List.length_cons, List.length_nil, List.length_set, List.cons_append, List.nil_append, List.append_nil, List.replicate, List.size_toArray, List.all_cons, List.all_nil, Bool.and_self, Bool.and_true, List.drop_zero, List.drop_succ_cons, List.take_succ_cons, List.take_zero, List.set_cons_zero, List.set_cons_succ, List.getElem?_cons_zero, List.getElem?_cons_succ, Option.map_some, Option.map_none, ne_eq, not_false_eq_true, not_true_eq_false, gt_iff_lt, ge_iff_le, Int.one_mul, Nat.zero_add, Nat.zero_mul, Bool.not_true, Bool.not_false, Bool.false_eq_true, Bool.and_false, Bool.false_and, Bool.true_and, *]); repeat' ((first | (refine AllocQ_i ?_; intro bk hb0 hbk; try simp only [set_none'] at hbk) | (refine condS_i ?_ ?_ <;> (intro hc; try simp only [Int.reduceLE, Int.reduceLT, Int.reduceEq, and_self, not_true_eq_false, not_false_eq_true, and_true, true_and, false_and, and_false, true_or, or_true, false_or, or_false, decide_eq_true_eq, decide_eq_false_iff_not, beq_iff_eq, beq_eq_false_iff_ne, bne_iff_ne, ne_eq, gt_iff_lt, ge_iff_le, Bool.not_eq_true, Bool.not_eq_false, Bool.not_eq_true', Bool.not_eq_false', Bool.not_eq_eq_eq_not, Bool.not_true, Bool.not_false] at hc)) | (refine pick_i ?_ ?_ <;> (intro hc; try simp only [Int.reduceLE, Int.reduceLT, Int.reduceEq, and_self, not_true_eq_false, not_false_eq_true, and_true, true_and, false_and, and_false, true_or, or_true, false_or, or_false, decide_eq_true_eq, decide_eq_false_iff_not, beq_iff_eq, beq_eq_false_iff_ne, bne_iff_ne, ne_eq, gt_iff_lt, ge_iff_le, Bool.not_eq_true, Bool.not_eq_false, Bool.not_eq_true', Bool.not_eq_false', Bool.not_eq_eq_eq_not, Bool.not_true, Bool.not_false] at hc)) | (refine gS_it ?_ ?_ <;> (intro hc; try simp only [Int.reduceLE, Int.reduceLT, Int.reduceEq, and_self, not_true_eq_false, not_false_eq_true, and_true, true_and, false_and, and_false, true_or, or_true, false_or, or_false, decide_eq_true_eq, decide_eq_false_iff_not, beq_iff_eq, beq_eq_false_iff_ne, bne_iff_ne, ne_eq, gt_iff_lt, ge_iff_le, Bool.not_eq_true, Bool.not_eq_false, Bool.not_eq_true', Bool.not_eq_false', Bool.not_eq_eq_eq_not, Bool.not_true, Bool.not_false] at hc)) | (refine gS_if ?_ ?_ <;> (intro hc; try simp only [Int.reduceLE, Int.reduceLT, Int.reduceEq, and_self, not_true_eq_false, not_false_eq_true, and_true, true_and, false_and, and_false, true_or, or_true, false_or, or_false, decide_eq_true_eq, decide_eq_false_iff_not, beq_iff_eq, beq_eq_false_iff_ne, bne_iff_ne, ne_eq, gt_iff_lt, ge_iff_le, Bool.not_eq_true, Bool.not_eq_false, Bool.not_eq_true', Bool.not_eq_false', Bool.not_eq_eq_eq_not, Bool.not_true, Bool.not_false] at hc)) | (refine gP_it ?_ ?_ <;> (intro hc; try simp only [Int.reduceLE, Int.reduceLT, Int.reduceEq, and_self, not_true_eq_false, not_false_eq_true, and_true, true_and, false_and, and_false, true_or, or_true, false_or, or_false, decide_eq_true_eq, decide_eq_false_iff_not, beq_iff_eq, beq_eq_false_iff_ne, bne_iff_ne, ne_eq, gt_iff_lt, ge_iff_le, Bool.not_eq_true, Bool.not_eq_false, Bool.not_eq_true', Bool.not_eq_false', Bool.not_eq_eq_eq_not, Bool.not_true, Bool.not_false] at hc)) | (refine gP_if ?_ ?_ <;> (intro hc; try simp only [Int.reduceLE, Int.reduceLT, Int.reduceEq, and_self, not_true_eq_false, not_false_eq_true, and_true, true_and, false_and, and_false, true_or, or_true, false_or, or_false, decide_eq_true_eq, decide_eq_false_iff_not, beq_iff_eq, beq_eq_false_iff_ne, bne_iff_ne, ne_eq, gt_iff_lt, ge_iff_le, Bool.not_eq_true, Bool.not_eq_false, Bool.not_eq_true', Bool.not_eq_false', Bool.not_eq_eq_eq_not, Bool.not_true, Bool.not_false] at hc)) | (with_reducible refine And.intro ?_ ?_)) <;> (try simp only [Sh, Si, Sl, Bu, Bb, Bd, Bc, Bw, Bn, Int.reduceAdd, Int.reduceSub, Int.reduceMul, Int.reduceTDiv, Int.reduceTMod, Int.reduceMod, Int.reduceDiv, Nat.reduceLT, Nat.reduceEqDiff, decide_true, decide_false, Sa, Sb, Sc, Sd, Se, Sf, Sg, true_and, and_true, and_self, eq_self, b_i64, b_i32, b_u64, b_u32, b_u8, Int.reduceLE, Int.reduceLT, Int.reduceToNat, Int.reduceNeg, Int.reduceEq, Nat.reduceLeDiff, Nat.reducePow, Int.reducePow, Nat.min_def, reduceIte, Nat.reduceSub, Nat.reduceAdd, Nat.reduceMul, KP_same, KP_f, condS_t, condS_f, pick_t, pick_f, gS_tt, gS_ff, gS_tf, gS_ft, gS_u, gP_tt, gP_ff, gP_tf, gP_ft, gP_u, ptrV_eq, slcV_eq, cells_agg, cells_int, cells_bool, cells_ptr, cells_slice, oc_int, oc_bool, oc_slice, oc_ptr, rd1_set, rd1_ne, rdn_set, rdn_ne, Heap.set_same, set_ne, Heap.set_set, set_up, set_up2, set_up3, putAt, ceq, List.map_cons, List.map_nil, List.length_cons, List.length_nil, List.length_set, List.cons_append, List.nil_append, List.append_nil, List.replicate, List.size_toArray, List.all_cons, List.all_nil, Bool.and_self, Bool.and_true, List.drop_zero, List.drop_succ_cons, List.take_succ_cons, List.take_zero, List.set_cons_zero, List.set_cons_succ, List.getElem?_cons_zero, List.getElem?_cons_succ, Option.map_some, Option.map_none, ne_eq, not_false_eq_true, not_true_eq_false, gt_iff_lt, ge_iff_le, Int.one_mul, Nat.zero_add, Nat.zero_mul, Bool.not_true, Bool.not_false, Bool.false_eq_true, Bool.and_false, Bool.false_and, Bool.true_and, *]))
  all_goals (refine Fin_mk (Heap.Le.refl _) (K_bool h ?_))
  all_goals first | (rw [decide_eq_decide]; omega) | (simp; omega)
/- image Count -/
def M20 : MC :=
  .seq (.reg [⟨(some 4), .mv (.const (.int .i64 0)), none⟩])
  (.seq (.seq (.reg [⟨(some 7), .mv (.tmp 0), none⟩,
       ⟨(some 8), .call 50 [(.tmp 7)], none⟩,
       ⟨(some 9), .un .not (.tmp 8), none⟩,
       ⟨(some 10), .mv (.tmp 9), none⟩,
       ⟨(some 11), .mv (.tmp 1), (some (10, false))⟩,
       ⟨(some 12), .call 50 [(.tmp 11)], (some (10, false))⟩,
       ⟨(some 13), .un .not (.tmp 12), (some (10, false))⟩,
       ⟨(some 14), .pick (.tmp 10) (.const (.bool true)) (.tmp 13), none⟩])
    (.cond (.tmp 14)
     (.seq (.reg [⟨(some 4), .mv (.const (.int .i64 0)), none⟩])
      (.ret))
     (.skip)))
   (.seq (.reg [⟨(some 5), .mv (.const (.int .i64 1)), none⟩])
    (.seq (.seq (.reg [⟨(some 15), .mv (.tmp 0), none⟩,
         ⟨(some 16), .mv (.tmp 1), none⟩,
         ⟨(some 17), .mx (.tmp 15) (.tmp 16), none⟩,
         ⟨(some 6), .mv (.tmp 17), none⟩])
      (.block 0 (.loop (.seq (.seq (.reg [⟨(some 18), .mv (.tmp 6), none⟩,
             ⟨(some 19), .bin .gtr (.tmp 18) (.const (.int .i64 1)), none⟩])
          (.cond (.tmp 19)
           (.skip)
           (.exit 0)))
         (.seq (.block 1 (.reg [⟨(some 22), .mv (.tmp 5), none⟩,
              ⟨(some 23), .bin .add (.tmp 22) (.const (.int .i64 1)), none⟩,
              ⟨(some 5), .mv (.tmp 23), none⟩]))
          (.reg [⟨(some 20), .mv (.tmp 6), none⟩,
             ⟨(some 21), .bin .shr (.tmp 20) (.const (.int .u64 1)), none⟩,
             ⟨(some 6), .mv (.tmp 21), none⟩]))))))
     (.seq (.reg [⟨(some 24), .mv (.tmp 5), none⟩,
         ⟨(some 4), .mv (.tmp 24), none⟩])
      (.ret)))))
theorem k20 : fnOk Try.prog 20 = some (M20, [.t 4], 25) := by kernel_rfl

theorem c_Count (w h : Int) (hK : K (.int .i64 (cntI w h)) H) : HCalls Try.prog w0 20 [.int .i64 w, .int .i64 h] H K := by
  by_cases hb : 1 ≤ w ∧ w ≤ 64 ∧ 1 ≤ h ∧ h ≤ 64
  · have hc : cntI w h = 1 + lg (if w < h then h else w) := by unfold cntI; rw [if_pos hb]
    have d1 : decide (1 ≤ w ∧ w ≤ 64) = true := by rw [decide_eq_true_eq]; omega
    have d2 : decide (1 ≤ h ∧ h ≤ 64) = true := by rw [decide_eq_true_eq]; omega
    have hm : ∃ m : Int, (if w < h then h else w) = m ∧ 1 ≤ m ∧ m ≤ 64 := ⟨_, rfl, by split <;> omega, by split <;> omega⟩
    obtain ⟨m, em, hm1, hm2⟩ := hm
    rw [em] at hc
    rw [hc] at hK
    clear hc hb
    refine HL.hc k20 999 ?_; simp only [M20, Sh, Si, Sl, Bu, Bb, Bd, Bc, Bw, Bn, Int.reduceAdd, Int.reduceSub, Int.reduceMul, Int.reduceTDiv, Int.reduceTMod, Int.reduceMod, Int.reduceDiv, Nat.reduceLT, Nat.reduceEqDiff, decide_true, decide_false, Sa, Sb, Sc, Sd, Se, Sf, Sg, true_and, and_true, and_self, eq_self, b_i64, b_i32, b_u64, b_u32, b_u8, Int.reduceLE, Int.reduceLT, Int.reduceToNat, Int.reduceNeg, Int.reduceEq, Nat.reduceLeDiff, Nat.reducePow, Int.reducePow, Nat.min_def, reduceIte, Nat.reduceSub, Nat.reduceAdd, Nat.reduceMul, KP_same, KP_f, condS_t, condS_f, pick_t, pick_f, gS_tt, gS_ff, gS_tf, gS_ft, gS_u, gP_tt, gP_ff, gP_tf, gP_ft, gP_u, ptrV_eq, slcV_eq, cells_agg, cells_int, cells_bool, cells_ptr, cells_slice, oc_int, oc_bool, oc_slice, oc_ptr, rd1_set, rd1_ne, rdn_set, rdn_ne, Heap.set_same, set_ne, Heap.set_set, set_up, set_up2, set_up3, putAt, ceq, List.map_cons, List.map_nil, List.length_cons, List.length_nil, List.length_set, List.cons_append, List.nil_append, List.append_nil, List.replicate, List.size_toArray, List.all_cons, List.all_nil, Bool.and_self, Bool.and_true, List.drop_zero, List.drop_succ_cons, List.take_succ_cons, List.take_zero, List.set_cons_zero, List.set_cons_succ, List.getElem?_cons_zero, List.getElem?_cons_succ, Option.map_some, Option.map_none, ne_eq, not_false_eq_true, not_true_eq_false, gt_iff_lt, ge_iff_le, Int.one_mul, Nat.zero_add, Nat.zero_mul, Bool.not_true, Bool.not_false, Bool.false_eq_true, Bool.and_false, Bool.false_and, Bool.true_and]
    (try simp only [Sh, Si, Sl, Bu, Bb, Bd, Bc, Bw, Bn, Int.reduceAdd, Int.reduceSub, Int.reduceMul, Int.reduceTDiv, Int.reduceTMod, Int.reduceMod, Int.reduceDiv, Nat.reduceLT, Nat.reduceEqDiff, decide_true, decide_false, Sa, Sb, Sc, Sd, Se, Sf, Sg, true_and, and_true, and_self, eq_self, b_i64, b_i32, b_u64, b_u32, b_u8, Int.reduceLE, Int.reduceLT, Int.reduceToNat, Int.reduceNeg, Int.reduceEq, Nat.reduceLeDiff, Nat.reducePow, Int.reducePow, Nat.min_def, reduceIte, Nat.reduceSub, Nat.reduceAdd, Nat.reduceMul, KP_same, KP_f, condS_t, condS_f, pick_t, pick_f, gS_tt, gS_ff, gS_tf, gS_ft, gS_u, gP_tt, gP_ff, gP_tf, gP_ft, gP_u, ptrV_eq, slcV_eq, cells_agg, cells_int, cells_bool, cells_ptr, cells_slice, oc_int, oc_bool, oc_slice, oc_ptr, rd1_set, rd1_ne, rdn_set, rdn_ne, Heap.set_same, set_ne, Heap.set_set, set_up, set_up2, set_up3, putAt, ceq, List.map_cons, List.map_nil, List.length_cons, List.length_nil, List.length_set, List.cons_append, List.nil_append, List.append_nil, List.replicate, List.size_toArray, List.all_cons, List.all_nil, Bool.and_self, Bool.and_true, List.drop_zero, List.drop_succ_cons, List.take_succ_cons, List.take_zero, List.set_cons_zero, List.set_cons_succ, List.getElem?_cons_zero, List.getElem?_cons_succ, Option.map_some, Option.map_none, ne_eq, not_false_eq_true, not_true_eq_false, gt_iff_lt, ge_iff_le, Int.one_mul, Nat.zero_add, Nat.zero_mul, Bool.not_true, Bool.not_false, Bool.false_eq_true, Bool.and_false, Bool.false_and, Bool.true_and, *]); repeat' ((first | refine c_side _ ?_ | refine c_side _ ?_ | (refine AllocQ_i ?_; intro bk hb0 hbk; try simp only [set_none'] at hbk) | (refine condS_i ?_ ?_ <;> (intro hc; try simp only [Int.reduceLE, Int.reduceLT, Int.reduceEq, and_self, not_true_eq_false, not_false_eq_true, and_true, true_and, false_and, and_false, true_or, or_true, false_or, or_false, decide_eq_true_eq, decide_eq_false_iff_not, beq_iff_eq, beq_eq_false_iff_ne, bne_iff_ne, ne_eq, gt_iff_lt, ge_iff_le, Bool.not_eq_true, Bool.not_eq_false, Bool.not_eq_true', Bool.not_eq_false', Bool.not_eq_eq_eq_not, Bool.not_true, Bool.not_false] at hc)) | (refine pick_i ?_ ?_ <;> (intro hc; try simp only [Int.reduceLE, Int.reduceLT, Int.reduceEq, and_self, not_true_eq_false, not_false_eq_true, and_true, true_and, false_and, and_false, true_or, or_true, false_or, or_false, decide_eq_true_eq, decide_eq_false_iff_not, beq_iff_eq, beq_eq_false_iff_ne, bne_iff_ne, ne_eq, gt_iff_lt, ge_iff_le, Bool.not_eq_true, Bool.not_eq_false, Bool.not_eq_true', Bool.not_eq_false', Bool.not_eq_eq_eq_not, Bool.not_true, Bool.not_false] at hc)) | (refine gS_it ?_ ?_ <;> (intro hc; try simp only [Int.reduceLE, Int.reduceLT, Int.reduceEq, and_self, not_true_eq_false, not_false_eq_true, and_true, true_and, false_and, and_false, true_or, or_true, false_or, or_false, decide_eq_true_eq, decide_eq_false_iff_not, beq_iff_eq, beq_eq_false_iff_ne, bne_iff_ne, ne_eq, gt_iff_lt, ge_iff_le, Bool.not_eq_true, Bool.not_eq_false, Bool.not_eq_true', Bool.not_eq_false', Bool.not_eq_eq_eq_not, Bool.not_true, Bool.not_false] at hc)) | (refine gS_if ?_ ?_ <;> (intro hc; try simp only [Int.reduceLE, Int.reduceLT, Int.reduceEq, and_self, not_true_eq_false, not_false_eq_true, and_true, true_and, false_and, and_false, true_or, or_true, false_or, or_false, decide_eq_true_eq, decide_eq_false_iff_not, beq_iff_eq, beq_eq_false_iff_ne, bne_iff_ne, ne_eq, gt_iff_lt, ge_iff_le, Bool.not_eq_true, Bool.not_eq_false, Bool.not_eq_true', Bool.not_eq_false', Bool.not_eq_eq_eq_not, Bool.not_true, Bool.not_false] at hc)) | (refine gP_it ?_ ?_ <;> (intro hc; try simp only [Int.reduceLE, Int.reduceLT, Int.reduceEq, and_self, not_true_eq_false, not_false_eq_true, and_true, true_and, false_and, and_false, true_or, or_true, false_or, or_false, decide_eq_true_eq, decide_eq_false_iff_not, beq_iff_eq, beq_eq_false_iff_ne, bne_iff_ne, ne_eq, gt_iff_lt, ge_iff_le, Bool.not_eq_true, Bool.not_eq_false, Bool.not_eq_true', Bool.not_eq_false', Bool.not_eq_eq_eq_not, Bool.not_true, Bool.not_false] at hc)) | (refine gP_if ?_ ?_ <;> (intro hc; try simp only [Int.reduceLE, Int.reduceLT, Int.reduceEq, and_self, not_true_eq_false, not_false_eq_true, and_true, true_and, false_and, and_false, true_or, or_true, false_or, or_false, decide_eq_true_eq, decide_eq_false_iff_not, beq_iff_eq, beq_eq_false_iff_ne, bne_iff_ne, ne_eq, gt_iff_lt, ge_iff_le, Bool.not_eq_true, Bool.not_eq_false, Bool.not_eq_true', Bool.not_eq_false', Bool.not_eq_eq_eq_not, Bool.not_true, Bool.not_false] at hc)) | (with_reducible refine And.intro ?_ ?_)) <;> (try simp only [Sh, Si, Sl, Bu, Bb, Bd, Bc, Bw, Bn, Int.reduceAdd, Int.reduceSub, Int.reduceMul, Int.reduceTDiv, Int.reduceTMod, Int.reduceMod, Int.reduceDiv, Nat.reduceLT, Nat.reduceEqDiff, decide_true, decide_false, Sa, Sb, Sc, Sd, Se, Sf, Sg, true_and, and_true, and_self, eq_self, b_i64, b_i32, b_u64, b_u32, b_u8, Int.reduceLE, Int.reduceLT, Int.reduceToNat, Int.reduceNeg, Int.reduceEq, Nat.reduceLeDiff, Nat.reducePow, Int.reducePow, Nat.min_def, reduceIte, Nat.reduceSub, Nat.reduceAdd, Nat.reduceMul, KP_same, KP_f, condS_t, condS_f, pick_t, pick_f, gS_tt, gS_ff, gS_tf, gS_ft, gS_u, gP_tt, gP_ff, gP_tf, gP_ft, gP_u, ptrV_eq, slcV_eq, cells_agg, cells_int, cells_bool, cells_ptr, cells_slice, oc_int, oc_bool, oc_slice, oc_ptr, rd1_set, rd1_ne, rdn_set, rdn_ne, Heap.set_same, set_ne, Heap.set_set, set_up, set_up2, set_up3, putAt, ceq, List.map_cons, List.map_nil, List.length_cons, List.length_nil, List.length_set, List.cons_append, List.nil_append, List.append_nil, List.replicate, List.size_toArray, List.all_cons, List.all_nil, Bool.and_self, Bool.and_true, List.drop_zero, List.drop_succ_cons, List.take_succ_cons, List.take_zero, List.set_cons_zero, List.set_cons_succ, List.getElem?_cons_zero, List.getElem?_cons_succ, Option.map_some, Option.map_none, ne_eq, not_false_eq_true, not_true_eq_false, gt_iff_lt, ge_iff_le, Int.one_mul, Nat.zero_add, Nat.zero_mul, Bool.not_true, Bool.not_false, Bool.false_eq_true, Bool.and_false, Bool.false_and, Bool.true_and, *]))
    refine loop_g 18 (fun s : Int × Int => [(5, .int .i64 s.1), (6, .int .i64 s.2)]) (fun _ => H) (fun s => 1 ≤ s.2 ∧ s.2 ≤ 64 ∧ s.1 + lg s.2 = 1 + lg m ∧ 1 ≤ s.1 ∧ s.1 ≤ 7) (fun s => s.2.toNat) (1, m) ⟨hm1, hm2, rfl, by simp, by simp⟩ (Heap.Le.refl _) rfl ?_
    intro ⟨n, s⟩ f ⟨h0, h1, h2, h3, h4⟩
    simp only at h0 h1 h2 h3 h4
    have g1 := lg_half (s := s)
    have g2 := lg_le (s := m)
    have g3 := lg_one (s := s)
    have g4 := lg_zero (s := s)
    have e1 : IntKind.i64.wrap (n + 1) = n + 1 := Bw.1 _ (by omega) (by omega)
    have e2 : s.fdiv 2 = s / 2 := Int.fdiv_eq_ediv_of_nonneg _ (by omega)
    have e3 : IntKind.i64.wrap (s / 2) = s / 2 := Bw.1 _ (by omega) (by omega)
    clear d1 d2 em
    (try simp only [Sh, Si, Sl, Bu, Bb, Bd, Bc, Bw, Bn, Int.reduceAdd, Int.reduceSub, Int.reduceMul, Int.reduceTDiv, Int.reduceTMod, Int.reduceMod, Int.reduceDiv, Nat.reduceLT, Nat.reduceEqDiff, decide_true, decide_false, Sa, Sb, Sc, Sd, Se, Sf, Sg, true_and, and_true, and_self, eq_self, b_i64, b_i32, b_u64, b_u32, b_u8, Int.reduceLE, Int.reduceLT, Int.reduceToNat, Int.reduceNeg, Int.reduceEq, Nat.reduceLeDiff, Nat.reducePow, Int.reducePow, Nat.min_def, reduceIte, Nat.reduceSub, Nat.reduceAdd, Nat.reduceMul, KP_same, KP_f, condS_t, condS_f, pick_t, pick_f, gS_tt, gS_ff, gS_tf, gS_ft, gS_u, gP_tt, gP_ff, gP_tf, gP_ft, gP_u, ptrV_eq, slcV_eq, cells_agg, cells_int, cells_bool, cells_ptr, cells_slice, oc_int, oc_bool, oc_slice, oc_ptr, rd1_set, rd1_ne, rdn_set, rdn_ne, Heap.set_same, set_ne, Heap.set_set, set_up, set_up2, set_up3, putAt, ceq, List.map_cons, List.map_nil, List.length_cons, List.length_nil, List.length_set, List.cons_append, List.nil_append, List.append_nil, List.replicate, List.size_toArray, List.all_cons, List.all_nil, Bool.and_self, Bool.and_true, List.drop_zero, List.drop_succ_cons, List.take_succ_cons, List.take_zero, List.set_cons_zero, List.set_cons_succ, List.getElem?_cons_zero, List.getElem?_cons_succ, Option.map_some, Option.map_none, ne_eq, not_false_eq_true, not_true_eq_false, gt_iff_lt, ge_iff_le, Int.one_mul, Nat.zero_add, Nat.zero_mul, Bool.not_true, Bool.not_false, Bool.false_eq_true, Bool.and_false, Bool.false_and, Bool.true_and, *]); repeat' ((first | (refine AllocQ_i ?_; intro bk hb0 hbk; try simp only [set_none'] at hbk) | (refine condS_i ?_ ?_ <;> (intro hc; try simp only [Int.reduceLE, Int.reduceLT, Int.reduceEq, and_self, not_true_eq_false, not_false_eq_true, and_true, true_and, false_and, and_false, true_or, or_true, false_or, or_false, decide_eq_true_eq, decide_eq_false_iff_not, beq_iff_eq, beq_eq_false_iff_ne, bne_iff_ne, ne_eq, gt_iff_lt, ge_iff_le, Bool.not_eq_true, Bool.not_eq_false, Bool.not_eq_true', Bool.not_eq_false', Bool.not_eq_eq_eq_not, Bool.not_true, Bool.not_false] at hc)) | (refine pick_i ?_ ?_ <;> (intro hc; try simp only [Int.reduceLE, Int.reduceLT, Int.reduceEq, and_self, not_true_eq_false, not_false_eq_true, and_true, true_and, false_and, and_false, true_or, or_true, false_or, or_false, decide_eq_true_eq, decide_eq_false_iff_not, beq_iff_eq, beq_eq_false_iff_ne, bne_iff_ne, ne_eq, gt_iff_lt, ge_iff_le, Bool.not_eq_true, Bool.not_eq_false, Bool.not_eq_true', Bool.not_eq_false', Bool.not_eq_eq_eq_not, Bool.not_true, Bool.not_false] at hc)) | (refine gS_it ?_ ?_ <;> (intro hc; try simp only [Int.reduceLE, Int.reduceLT, Int.reduceEq, and_self, not_true_eq_false, not_false_eq_true, and_true, true_and, false_and, and_false, true_or, or_true, false_or, or_false, decide_eq_true_eq, decide_eq_false_iff_not, beq_iff_eq, beq_eq_false_iff_ne, bne_iff_ne, ne_eq, gt_iff_lt, ge_iff_le, Bool.not_eq_true, Bool.not_eq_false, Bool.not_eq_true', Bool.not_eq_false', Bool.not_eq_eq_eq_not, Bool.not_true, Bool.not_false] at hc)) | (refine gS_if ?_ ?_ <;> (intro hc; try simp only [Int.reduceLE, Int.reduceLT, Int.reduceEq, and_self, not_true_eq_false, not_false_eq_true, and_true, true_and, false_and, and_false, true_or, or_true, false_or, or_false, decide_eq_true_eq, decide_eq_false_iff_not, beq_iff_eq, beq_eq_false_iff_ne, bne_iff_ne, ne_eq, gt_iff_lt, ge_iff_le, Bool.not_eq_true, Bool.not_eq_false, Bool.not_eq_true', Bool.not_eq_false', Bool.not_eq_eq_eq_not, Bool.not_true, Bool.not_false] at hc)) | (refine gP_it ?_ ?_ <;> (intro hc; try simp only [Int.reduceLE, Int.reduceLT, Int.reduceEq, and_self, not_true_eq_false, not_false_eq_true, and_true, true_and, false_and, and_false, true_or, or_true, false_or, or_false, decide_eq_true_eq, decide_eq_false_iff_not, beq_iff_eq, beq_eq_false_iff_ne, bne_iff_ne, ne_eq, gt_iff_lt, ge_iff_le, Bool.not_eq_true, Bool.not_eq_false, Bool.not_eq_true', Bool.not_eq_false', Bool.not_eq_eq_eq_not, Bool.not_true, Bool.not_false] at hc)) | (refine gP_if ?_ ?_ <;> (intro hc; try simp only [Int.reduceLE, Int.reduceLT, Int.reduceEq, and_self, not_true_eq_false, not_false_eq_true, and_true, true_and, false_and, and_false, true_or, or_true, false_or, or_false, decide_eq_true_eq, decide_eq_false_iff_not, beq_iff_eq, beq_eq_false_iff_ne, bne_iff_ne, ne_eq, gt_iff_lt, ge_iff_le, Bool.not_eq_true, Bool.not_eq_false, Bool.not_eq_true', Bool.not_eq_false', Bool.not_eq_eq_eq_not, Bool.not_true, Bool.not_false] at hc)) | (with_reducible refine And.intro ?_ ?_)) <;> (try simp only [Sh, Si, Sl, Bu, Bb, Bd, Bc, Bw, Bn, Int.reduceAdd, Int.reduceSub, Int.reduceMul, Int.reduceTDiv, Int.reduceTMod, Int.reduceMod, Int.reduceDiv, Nat.reduceLT, Nat.reduceEqDiff, decide_true, decide_false, Sa, Sb, Sc, Sd, Se, Sf, Sg, true_and, and_true, and_self, eq_self, b_i64, b_i32, b_u64, b_u32, b_u8, Int.reduceLE, Int.reduceLT, Int.reduceToNat, Int.reduceNeg, Int.reduceEq, Nat.reduceLeDiff, Nat.reducePow, Int.reducePow, Nat.min_def, reduceIte, Nat.reduceSub, Nat.reduceAdd, Nat.reduceMul, KP_same, KP_f, condS_t, condS_f, pick_t, pick_f, gS_tt, gS_ff, gS_tf, gS_ft, gS_u, gP_tt, gP_ff, gP_tf, gP_ft, gP_u, ptrV_eq, slcV_eq, cells_agg, cells_int, cells_bool, cells_ptr, cells_slice, oc_int, oc_bool, oc_slice, oc_ptr, rd1_set, rd1_ne, rdn_set, rdn_ne, Heap.set_same, set_ne, Heap.set_set, set_up, set_up2, set_up3, putAt, ceq, List.map_cons, List.map_nil, List.length_cons, List.length_nil, List.length_set, List.cons_append, List.nil_append, List.append_nil, List.replicate, List.size_toArray, List.all_cons, List.all_nil, Bool.and_self, Bool.and_true, List.drop_zero, List.drop_succ_cons, List.take_succ_cons, List.take_zero, List.set_cons_zero, List.set_cons_succ, List.getElem?_cons_zero, List.getElem?_cons_succ, Option.map_some, Option.map_none, ne_eq, not_false_eq_true, not_true_eq_false, gt_iff_lt, ge_iff_le, Int.one_mul, Nat.zero_add, Nat.zero_mul, Bool.not_true, Bool.not_false, Bool.false_eq_true, Bool.and_false, Bool.false_and, Bool.true_and, *]))
    · have g1 := g1 ⟨hc, h1⟩
      have g3 := g3 hc
      exact Round_mk (n + 1, s / 2) ⟨by simp only; omega, by simp only; omega, by simp only; omega, by simp only; omega, by simp only; omega⟩ (by simp only; omega) (Heap.Le.refl _) rfl rfl
    · refine Fin_mk (Heap.Le.refl _) (K_int hK ?_)
      have g4 := g4 (by omega)
      omega
  · have hc : cntI w h = 0 := by unfold cntI; rw [if_neg hb]
    rw [hc] at hK
    by_cases hw : 1 ≤ w ∧ w ≤ 64
    · have d1 : decide (1 ≤ w ∧ w ≤ 64) = true := by rw [decide_eq_true_eq]; omega
      have d2 : decide (1 ≤ h ∧ h ≤ 64) = false := by rw [decide_eq_false_iff_not]; omega
      clear hb hw hc
      refine HL.hc k20 999 ?_; simp only [M20, Sh, Si, Sl, Bu, Bb, Bd, Bc, Bw, Bn, Int.reduceAdd, Int.reduceSub, Int.reduceMul, Int.reduceTDiv, Int.reduceTMod, Int.reduceMod, Int.reduceDiv, Nat.reduceLT, Nat.reduceEqDiff, decide_true, decide_false, Sa, Sb, Sc, Sd, Se, Sf, Sg, true_and, and_true, and_self, eq_self, b_i64, b_i32, b_u64, b_u32, b_u8, Int.reduceLE, Int.reduceLT, Int.reduceToNat, Int.reduceNeg, Int.reduceEq, Nat.reduceLeDiff, Nat.reducePow, Int.reducePow, Nat.min_def, reduceIte, Nat.reduceSub, Nat.reduceAdd, Nat.reduceMul, KP_same, KP_f, condS_t, condS_f, pick_t, pick_f, gS_tt, gS_ff, gS_tf, gS_ft, gS_u, gP_tt, gP_ff, gP_tf, gP_ft, gP_u, ptrV_eq, slcV_eq, cells_agg, cells_int, cells_bool, cells_ptr, cells_slice, oc_int, oc_bool, oc_slice, oc_ptr, rd1_set, rd1_ne, rdn_set, rdn_ne, Heap.set_same, set_ne, Heap.set_set, set_up, set_up2, set_up3, putAt, ceq, List.map_cons, List.map_nil, List.length_cons, List.length_nil, List.length_set, List.cons_append, List.nil_append, List.append_nil, List.replicate, List.size_toArray, List.all_cons, List.all_nil, Bool.and_self, Bool.and_true, List.drop_zero, List.drop_succ_cons, List.take_succ_cons, List.take_zero, List.set_cons_zero, List.set_cons_succ, List.getElem?_cons_zero, List.getElem?_cons_succ, Option.map_some, Option.map_none, ne_eq, not_false_eq_true, not_true_eq_false, gt_iff_lt, ge_iff_le, Int.one_mul, Nat.zero_add, Nat.zero_mul, Bool.not_true, Bool.not_false, Bool.false_eq_true, Bool.and_false, Bool.false_and, Bool.true_and]
      (try simp only [Sh, Si, Sl, Bu, Bb, Bd, Bc, Bw, Bn, Int.reduceAdd, Int.reduceSub, Int.reduceMul, Int.reduceTDiv, Int.reduceTMod, Int.reduceMod, Int.reduceDiv, Nat.reduceLT, Nat.reduceEqDiff, decide_true, decide_false, Sa, Sb, Sc, Sd, Se, Sf, Sg, true_and, and_true, and_self, eq_self, b_i64, b_i32, b_u64, b_u32, b_u8, Int.reduceLE, Int.reduceLT, Int.reduceToNat, Int.reduceNeg, Int.reduceEq, Nat.reduceLeDiff, Nat.reducePow, Int.reducePow, Nat.min_def, reduceIte, Nat.reduceSub, Nat.reduceAdd, Nat.reduceMul, KP_same, KP_f, condS_t, condS_f, pick_t, pick_f, gS_tt, gS_ff, gS_tf, gS_ft, gS_u, gP_tt, gP_ff, gP_tf, gP_ft, gP_u, ptrV_eq, slcV_eq, cells_agg, cells_int, cells_bool, cells_ptr, cells_slice, oc_int, oc_bool, oc_slice, oc_ptr, rd1_set, rd1_ne, rdn_set, rdn_ne, Heap.set_same, set_ne, Heap.set_set, set_up, set_up2, set_up3, putAt, ceq, List.map_cons, List.map_nil, List.length_cons, List.length_nil, List.length_set, List.cons_append, List.nil_append, List.append_nil, List.replicate, List.size_toArray, List.all_cons, List.all_nil, Bool.and_self, Bool.and_true, List.drop_zero, List.drop_succ_cons, List.take_succ_cons, List.take_zero, List.set_cons_zero, List.set_cons_succ, List.getElem?_cons_zero, List.getElem?_cons_succ, Option.map_some, Option.map_none, ne_eq, not_false_eq_true, not_true_eq_false, gt_iff_lt, ge_iff_le, Int.one_mul, Nat.zero_add, Nat.zero_mul, Bool.not_true, Bool.not_false, Bool.false_eq_true, Bool.and_false, Bool.false_and, Bool.true_and, *]); repeat' ((first | refine c_side _ ?_ | refine c_side _ ?_ | (refine AllocQ_i ?_; intro bk hb0 hbk; try simp only [set_none'] at hbk) | (refine condS_i ?_ ?_ <;> (intro hc; try simp only [Int.reduceLE, Int.reduceLT, Int.reduceEq, and_self, not_true_eq_false, not_false_eq_true, and_true, true_and, false_and, and_false, true_or, or_true, false_or, or_false, decide_eq_true_eq, decide_eq_false_iff_not, beq_iff_eq, beq_eq_false_iff_ne, bne_iff_ne, ne_eq, gt_iff_lt, ge_iff_le, Bool.not_eq_true, Bool.not_eq_false, Bool.not_eq_true', Bool.not_eq_false', Bool.not_eq_eq_eq_not, Bool.not_true, Bool.not_false] at hc)) | (refine pick_i ?_ ?_ <;> (intro hc; try simp only [Int.reduceLE, Int.reduceLT, Int.reduceEq, and_self, not_true_eq_false, not_false_eq_true, and_true, true_and, false_and, and_false, true_or, or_true, false_or, or_false, decide_eq_true_eq, decide_eq_false_iff_not, beq_iff_eq, beq_eq_false_iff_ne, bne_iff_ne, ne_eq, gt_iff_lt, ge_iff_le, Bool.not_eq_true, Bool.not_eq_false, Bool.not_eq_true', Bool.not_eq_false', Bool.not_eq_eq_eq_not, Bool.not_true, Bool.not_false] at hc)) | (refine gS_it ?_ ?_ <;> (intro hc; try simp only [Int.reduceLE, Int.reduceLT, Int.reduceEq, and_self, not_true_eq_false, not_false_eq_true, and_true, true_and, false_and, and_false, true_or, or_true, false_or, or_false, decide_eq_true_eq, decide_eq_false_iff_not, beq_iff_eq, beq_eq_false_iff_ne, bne_iff_ne, ne_eq, gt_iff_lt, ge_iff_le, Bool.not_eq_true, Bool.not_eq_false, Bool.not_eq_true', Bool.not_eq_false', Bool.not_eq_eq_eq_not, Bool.not_true, Bool.not_false] at hc)) | (refine gS_if ?_ ?_ <;> (intro hc; try simp only [Int.reduceLE, Int.reduceLT, Int.reduceEq, and_self, not_true_eq_false, not_false_eq_true, and_true, true_and, false_and, and_false, true_or, or_true, false_or, or_false, decide_eq_true_eq, decide_eq_false_iff_not, beq_iff_eq, beq_eq_false_iff_ne, bne_iff_ne, ne_eq, gt_iff_lt, ge_iff_le, Bool.not_eq_true, Bool.not_eq_false, Bool.not_eq_true', Bool.not_eq_false', Bool.not_eq_eq_eq_not, Bool.not_true, Bool.not_false] at hc)) | (refine gP_it ?_ ?_ <;> (intro hc; try simp only [Int.reduceLE, Int.reduceLT, Int.reduceEq, and_self, not_true_eq_false, not_false_eq_true, and_true, true_and, false_and, and_false, true_or, or_true, false_or, or_false, decide_eq_true_eq, decide_eq_false_iff_not, beq_iff_eq, beq_eq_false_iff_ne, bne_iff_ne, ne_eq, gt_iff_lt, ge_iff_le, Bool.not_eq_true, Bool.not_eq_false, Bool.not_eq_true', Bool.not_eq_false', Bool.not_eq_eq_eq_not, Bool.not_true, Bool.not_false] at hc)) | (refine gP_if ?_ ?_ <;> (intro hc; try simp only [Int.reduceLE, Int.reduceLT, Int.reduceEq, and_self, not_true_eq_false, not_false_eq_true, and_true, true_and, false_and, and_false, true_or, or_true, false_or, or_false, decide_eq_true_eq, decide_eq_false_iff_not, beq_iff_eq, beq_eq_false_iff_ne, bne_iff_ne, ne_eq, gt_iff_lt, ge_iff_le, Bool.not_eq_true, Bool.not_eq_false, Bool.not_eq_true', Bool.not_eq_false', Bool.not_eq_eq_eq_not, Bool.not_true, Bool.not_false] at hc)) | (with_reducible refine And.intro ?_ ?_)) <;> (try simp only [Sh, Si, Sl, Bu, Bb, Bd, Bc, Bw, Bn, Int.reduceAdd, Int.reduceSub, Int.reduceMul, Int.reduceTDiv, Int.reduceTMod, Int.reduceMod, Int.reduceDiv, Nat.reduceLT, Nat.reduceEqDiff, decide_true, decide_false, Sa, Sb, Sc, Sd, Se, Sf, Sg, true_and, and_true, and_self, eq_self, b_i64, b_i32, b_u64, b_u32, b_u8, Int.reduceLE, Int.reduceLT, Int.reduceToNat, Int.reduceNeg, Int.reduceEq, Nat.reduceLeDiff, Nat.reducePow, Int.reducePow, Nat.min_def, reduceIte, Nat.reduceSub, Nat.reduceAdd, Nat.reduceMul, KP_same, KP_f, condS_t, condS_f, pick_t, pick_f, gS_tt, gS_ff, gS_tf, gS_ft, gS_u, gP_tt, gP_ff, gP_tf, gP_ft, gP_u, ptrV_eq, slcV_eq, cells_agg, cells_int, cells_bool, cells_ptr, cells_slice, oc_int, oc_bool, oc_slice, oc_ptr, rd1_set, rd1_ne, rdn_set, rdn_ne, Heap.set_same, set_ne, Heap.set_set, set_up, set_up2, set_up3, putAt, ceq, List.map_cons, List.map_nil, List.length_cons, List.length_nil, List.length_set, List.cons_append, List.nil_append, List.append_nil, List.replicate, List.size_toArray, List.all_cons, List.all_nil, Bool.and_self, Bool.and_true, List.drop_zero, List.drop_succ_cons, List.take_succ_cons, List.take_zero, List.set_cons_zero, List.set_cons_succ, List.getElem?_cons_zero, List.getElem?_cons_succ, Option.map_some, Option.map_none, ne_eq, not_false_eq_true, not_true_eq_false, gt_iff_lt, ge_iff_le, Int.one_mul, Nat.zero_add, Nat.zero_mul, Bool.not_true, Bool.not_false, Bool.false_eq_true, Bool.and_false, Bool.false_and, Bool.true_and, *]))
      exact Fin_mk (Heap.Le.refl _) hK
    · have d1 : decide (1 ≤ w ∧ w ≤ 64) = false := by rw [decide_eq_false_iff_not]; omega
      clear hb hw hc
      refine HL.hc k20 999 ?_; simp only [M20, Sh, Si, Sl, Bu, Bb, Bd, Bc, Bw, Bn, Int.reduceAdd, Int.reduceSub, Int.reduceMul, Int.reduceTDiv, Int.reduceTMod, Int.reduceMod, Int.reduceDiv, Nat.reduceLT, Nat.reduceEqDiff, decide_true, decide_false, Sa, Sb, Sc, Sd, Se, Sf, Sg, true_and, and_true, and_self, eq_self, b_i64, b_i32, b_u64, b_u32, b_u8, Int.reduceLE, Int.reduceLT, Int.reduceToNat, Int.reduceNeg, Int.reduceEq, Nat.reduceLeDiff, Nat.reducePow, Int.reducePow, Nat.min_def, reduceIte, Nat.reduceSub, Nat.reduceAdd, Nat.reduceMul, KP_same, KP_f, condS_t, condS_f, pick_t, pick_f, gS_tt, gS_ff, gS_tf, gS_ft, gS_u, gP_tt, gP_ff, gP_tf, gP_ft, gP_u, ptrV_eq, slcV_eq, cells_agg, cells_int, cells_bool, cells_ptr, cells_slice, oc_int, oc_bool, oc_slice, oc_ptr, rd1_set, rd1_ne, rdn_set, rdn_ne, Heap.set_same, set_ne, Heap.set_set, set_up, set_up2, set_up3, putAt, ceq, List.map_cons, List.map_nil, List.length_cons, List.length_nil, List.length_set, List.cons_append, List.nil_append, List.append_nil, List.replicate, List.size_toArray, List.all_cons, List.all_nil, Bool.and_self, Bool.and_true, List.drop_zero, List.drop_succ_cons, List.take_succ_cons, List.take_zero, List.set_cons_zero, List.set_cons_succ, List.getElem?_cons_zero, List.getElem?_cons_succ, Option.map_some, Option.map_none, ne_eq, not_false_eq_true, not_true_eq_false, gt_iff_lt, ge_iff_le, Int.one_mul, Nat.zero_add, Nat.zero_mul, Bool.not_true, Bool.not_false, Bool.false_eq_true, Bool.and_false, Bool.false_and, Bool.true_and]
      (try simp only [Sh, Si, Sl, Bu, Bb, Bd, Bc, Bw, Bn, Int.reduceAdd, Int.reduceSub, Int.reduceMul, Int.reduceTDiv, Int.reduceTMod, Int.reduceMod, Int.reduceDiv, Nat.reduceLT, Nat.reduceEqDiff, decide_true, decide_false, Sa, Sb, Sc, Sd, Se, Sf, Sg, true_and, and_true, and_self, eq_self, b_i64, b_i32, b_u64, b_u32, b_u8, Int.reduceLE, Int.reduceLT, Int.reduceToNat, Int.reduceNeg, Int.reduceEq, Nat.reduceLeDiff, Nat.reducePow, Int.reducePow, Nat.min_def, reduceIte, Nat.reduceSub, Nat.reduceAdd, Nat.reduceMul, KP_same, KP_f, condS_t, condS_f, pick_t, pick_f, gS_tt, gS_ff, gS_tf, gS_ft, gS_u, gP_tt, gP_ff, gP_tf, gP_ft, gP_u, ptrV_eq, slcV_eq, cells_agg, cells_int, cells_bool, cells_ptr, cells_slice, oc_int, oc_bool, oc_slice, oc_ptr, rd1_set, rd1_ne, rdn_set, rdn_ne, Heap.set_same, set_ne, Heap.set_set, set_up, set_up2, set_up3, putAt, ceq, List.map_cons, List.map_nil, List.length_cons, List.length_nil, List.length_set, List.cons_append, List.nil_append, List.append_nil, List.replicate, List.size_toArray, List.all_cons, List.all_nil, Bool.and_self, Bool.and_true, List.drop_zero, List.drop_succ_cons, List.take_succ_cons, List.take_zero, List.set_cons_zero, List.set_cons_succ, List.getElem?_cons_zero, List.getElem?_cons_succ, Option.map_some, Option.map_none, ne_eq, not_false_eq_true, not_true_eq_false, gt_iff_lt, ge_iff_le, Int.one_mul, Nat.zero_add, Nat.zero_mul, Bool.not_true, Bool.not_false, Bool.false_eq_true, Bool.and_false, Bool.false_and, Bool.true_and, *]); repeat' ((first | refine c_side _ ?_ | refine c_side _ ?_ | (refine AllocQ_i ?_; intro bk hb0 hbk; try simp only [set_none'] at hbk) | (refine condS_i ?_ ?_ <;> (intro hc; try simp only [Int.reduceLE, Int.reduceLT, Int.reduceEq, and_self, not_true_eq_false, not_false_eq_true, and_true, true_and, false_and, and_false, true_or, or_true, false_or, or_false, decide_eq_true_eq, decide_eq_false_iff_not, beq_iff_eq, beq_eq_false_iff_ne, bne_iff_ne, ne_eq, gt_iff_lt, ge_iff_le, Bool.not_eq_true, Bool.not_eq_false, Bool.not_eq_true', Bool.not_eq_false', Bool.not_eq_eq_eq_not, Bool.not_true, Bool.not_false] at hc)) | (refine pick_i ?_ ?_ <;> (intro hc; try simp only [Int.reduceLE, Int.reduceLT, Int.reduceEq, and_self, not_true_eq_false, not_false_eq_true, and_true, true_and, false_and, and_false, true_or, or_true, false_or, or_false, decide_eq_true_eq, decide_eq_false_iff_not, beq_iff_eq, beq_eq_false_iff_ne, bne_iff_ne, ne_eq, gt_iff_lt, ge_iff_le, Bool.not_eq_true, Bool.not_eq_false, Bool.not_eq_true', Bool.not_eq_false', Bool.not_eq_eq_eq_not, Bool.not_true, Bool.not_false] at hc)) | (refine gS_it ?_ ?_ <;> (intro hc; try simp only [Int.reduceLE, Int.reduceLT, Int.reduceEq, and_self, not_true_eq_false, not_false_eq_true, and_true, true_and, false_and, and_false, true_or, or_true, false_or, or_false, decide_eq_true_eq, decide_eq_false_iff_not, beq_iff_eq, beq_eq_false_iff_ne, bne_iff_ne, ne_eq, gt_iff_lt, ge_iff_le, Bool.not_eq_true, Bool.not_eq_false, Bool.not_eq_true', Bool.not_eq_false', Bool.not_eq_eq_eq_not, Bool.not_true, Bool.not_false] at hc)) | (refine gS_if ?_ ?_ <;> (intro hc; try simp only [Int.reduceLE, Int.reduceLT, Int.reduceEq, and_self, not_true_eq_false, not_false_eq_true, and_true, true_and, false_and, and_false, true_or, or_true, false_or, or_false, decide_eq_true_eq, decide_eq_false_iff_not, beq_iff_eq, beq_eq_false_iff_ne, bne_iff_ne, ne_eq, gt_iff_lt, ge_iff_le, Bool.not_eq_true, Bool.not_eq_false, Bool.not_eq_true', Bool.not_eq_false', Bool.not_eq_eq_eq_not, Bool.not_true, Bool.not_false] at hc)) | (refine gP_it ?_ ?_ <;> (intro hc; try simp only [Int.reduceLE, Int.reduceLT, Int.reduceEq, and_self, not_true_eq_false, not_false_eq_true, and_true, true_and, false_and, and_false, true_or, or_true, false_or, or_false, decide_eq_true_eq, decide_eq_false_iff_not, beq_iff_eq, beq_eq_false_iff_ne, bne_iff_ne, ne_eq, gt_iff_lt, ge_iff_le, Bool.not_eq_true, Bool.not_eq_false, Bool.not_eq_true', Bool.not_eq_false', Bool.not_eq_eq_eq_not, Bool.not_true, Bool.not_false] at hc)) | (refine gP_if ?_ ?_ <;> (intro hc; try simp only [Int.reduceLE, Int.reduceLT, Int.reduceEq, and_self, not_true_eq_false, not_false_eq_true, and_true, true_and, false_and, and_false, true_or, or_true, false_or, or_false, decide_eq_true_eq, decide_eq_false_iff_not, beq_iff_eq, beq_eq_false_iff_ne, bne_iff_ne, ne_eq, gt_iff_lt, ge_iff_le, Bool.not_eq_true, Bool.not_eq_false, Bool.not_eq_true', Bool.not_eq_false', Bool.not_eq_eq_eq_not, Bool.not_true, Bool.not_false] at hc)) | (with_reducible refine And.intro ?_ ?_)) <;> (try simp only [Sh, Si, Sl, Bu, Bb, Bd, Bc, Bw, Bn, Int.reduceAdd, Int.reduceSub, Int.reduceMul, Int.reduceTDiv, Int.reduceTMod, Int.reduceMod, Int.reduceDiv, Nat.reduceLT, Nat.reduceEqDiff, decide_true, decide_false, Sa, Sb, Sc, Sd, Se, Sf, Sg, true_and, and_true, and_self, eq_self, b_i64, b_i32, b_u64, b_u32, b_u8, Int.reduceLE, Int.reduceLT, Int.reduceToNat, Int.reduceNeg, Int.reduceEq, Nat.reduceLeDiff, Nat.reducePow, Int.reducePow, Nat.min_def, reduceIte, Nat.reduceSub, Nat.reduceAdd, Nat.reduceMul, KP_same, KP_f, condS_t, condS_f, pick_t, pick_f, gS_tt, gS_ff, gS_tf, gS_ft, gS_u, gP_tt, gP_ff, gP_tf, gP_ft, gP_u, ptrV_eq, slcV_eq, cells_agg, cells_int, cells_bool, cells_ptr, cells_slice, oc_int, oc_bool, oc_slice, oc_ptr, rd1_set, rd1_ne, rdn_set, rdn_ne, Heap.set_same, set_ne, Heap.set_set, set_up, set_up2, set_up3, putAt, ceq, List.map_cons, List.map_nil, List.length_cons, List.length_nil, List.length_set, List.cons_append, List.nil_append, List.append_nil, List.replicate, List.size_toArray, List.all_cons, List.all_nil, Bool.and_self, Bool.and_true, List.drop_zero, List.drop_succ_cons, List.take_succ_cons, List.take_zero, List.set_cons_zero, List.set_cons_succ, List.getElem?_cons_zero, List.getElem?_cons_succ, Option.map_some, Option.map_none, ne_eq, not_false_eq_true, not_true_eq_false, gt_iff_lt, ge_iff_le, Int.one_mul, Nat.zero_add, Nat.zero_mul, Bool.not_true, Bool.not_false, Bool.false_eq_true, Bool.and_false, Bool.false_and, Bool.true_and, *]))
      exact Fin_mk (Heap.Le.refl _) hK
theorem lg_max {w h : Int} (hw : 1 < w ∨ 1 < h) (h1 : w ≤ 64 ∧ h ≤ 64) : lg (if w / 2 < h / 2 then h / 2 else w / 2) = lg (if w < h then h else w) - 1 := by
  rw [← lg_half (by split <;> omega)]
  congr 1
  (repeat' split) <;> omega
/- paintboxref08 Count -/
def M21 : MC :=
  .seq (.reg [⟨(some 4), .mv (.const (.int .i64 0)), none⟩])
  (.seq (.seq (.reg [⟨(some 6), .mv (.tmp 0), none⟩,
       ⟨(some 7), .call 53 [(.tmp 6)], none⟩,
       ⟨(some 8), .un .not (.tmp 7), none⟩,
       ⟨(some 9), .mv (.tmp 8), none⟩,
       ⟨(some 10), .mv (.tmp 1), (some (9, false))⟩,
       ⟨(some 11), .call 53 [(.tmp 10)], (some (9, false))⟩,
       ⟨(some 12), .un .not (.tmp 11), (some (9, false))⟩,
       ⟨(some 13), .pick (.tmp 9) (.const (.bool true)) (.tmp 12), none⟩])
    (.cond (.tmp 13)
     (.seq (.reg [⟨(some 4), .mv (.const (.int .i64 0)), none⟩])
      (.ret))
     (.skip)))
   (.seq (.reg [⟨(some 5), .mv (.const (.int .i64 1)), none⟩])
    (.seq (.block 0 (.loop (.seq (.seq (.reg [⟨(some 14), .mv (.tmp 0), none⟩,
            ⟨(some 15), .bin .gtr (.tmp 14) (.const (.int .i64 1)), none⟩,
            ⟨(some 16), .mv (.tmp 15), none⟩,
            ⟨(some 17), .mv (.tmp 1), (some (16, false))⟩,
            ⟨(some 18), .bin .gtr (.tmp 17) (.const (.int .i64 1)), (some (16, false))⟩,
            ⟨(some 19), .pick (.tmp 16) (.const (.bool true)) (.tmp 18), none⟩])
         (.cond (.tmp 19)
          (.skip)
          (.exit 0)))
        (.seq (.block 1 (.reg [⟨(some 22), .mv (.tmp 0), none⟩,
             ⟨(some 23), .bin .quo (.tmp 22) (.const (.int .i64 2)), none⟩,
             ⟨(some 24), .mv (.tmp 1), none⟩,
             ⟨(some 25), .bin .quo (.tmp 24) (.const (.int .i64 2)), none⟩,
             ⟨(some 0), .mv (.tmp 23), none⟩,
             ⟨(some 1), .mv (.tmp 25), none⟩]))
         (.reg [⟨(some 20), .mv (.tmp 5), none⟩,
            ⟨(some 21), .bin .add (.tmp 20) (.const (.int .i64 1)), none⟩,
            ⟨(some 5), .mv (.tmp 21), none⟩])))))
     (.seq (.reg [⟨(some 26), .mv (.tmp 5), none⟩,
         ⟨(some 4), .mv (.tmp 26), none⟩])
      (.ret)))))
theorem k21 : fnOk Try.prog 21 = some (M21, [.t 4], 27) := by kernel_rfl

theorem r_Count (w h : Int) (hK : K (.int .i64 (cntI w h)) H) : HCalls Try.prog w0 21 [.int .i64 w, .int .i64 h] H K := by
  by_cases hb : 1 ≤ w ∧ w ≤ 64 ∧ 1 ≤ h ∧ h ≤ 64
  · have hc : cntI w h = 1 + lg (if w < h then h else w) := by unfold cntI; rw [if_pos hb]
    have d1 : decide (1 ≤ w ∧ w ≤ 64) = true := by rw [decide_eq_true_eq]; omega
    have d2 : decide (1 ≤ h ∧ h ≤ 64) = true := by rw [decide_eq_true_eq]; omega
    rw [hc] at hK
    clear hc
    obtain ⟨m, em⟩ : ∃ m : Int, m = lg (if w < h then h else w) := ⟨_, rfl⟩
    rw [← em] at hK
    have hm := lg_le (s := if w < h then h else w)
    rw [← em] at hm
    refine HL.hc k21 999 ?_; simp only [M21, Sh, Si, Sl, Bu, Bb, Bd, Bc, Bw, Bn, Int.reduceAdd, Int.reduceSub, Int.reduceMul, Int.reduceTDiv, Int.reduceTMod, Int.reduceMod, Int.reduceDiv, Nat.reduceLT, Nat.reduceEqDiff, decide_true, decide_false, Sa, Sb, Sc, Sd, Se, Sf, Sg, true_and, and_true, and_self, eq_self, b_i64, b_i32, b_u64, b_u32, b_u8, Int.reduceLE, Int.reduceLT, Int.reduceToNat, Int.reduceNeg, Int.reduceEq, Nat.reduceLeDiff, Nat.reducePow, Int.reducePow, Nat.min_def, reduceIte, Nat.reduceSub, Nat.reduceAdd, Nat.reduceMul, KP_same, KP_f, condS_t, condS_f, pick_t, pick_f, gS_tt, gS_ff, gS_tf, gS_ft, gS_u, gP_tt, gP_ff, gP_tf, gP_ft, gP_u, ptrV_eq, slcV_eq, cells_agg, cells_int, cells_bool, cells_ptr, cells_slice, oc_int, oc_bool, oc_slice, oc_ptr, rd1_set, rd1_ne, rdn_set, rdn_ne, Heap.set_same, set_ne, Heap.set_set, set_up, set_up2, set_up3, putAt, ceq, List.map_cons, List.map_nil, List.length_cons, List.length_nil, List.length_set, List.cons_append, List.nil_append, List.append_nil, List.replicate, List.size_toArray, List.all_cons, List.all_nil, Bool.and_self, Bool.and_true, List.drop_zero, List.drop_succ_cons, List.take_succ_cons, List.take_zero, List.set_cons_zero, List.set_cons_succ, List.getElem?_cons_zero, List.getElem?_cons_succ, Option.map_some, Option.map_none, ne_eq, not_false_eq_true, not_true_eq_false, gt_iff_lt, ge_iff_le, Int.one_mul, Nat.zero_add, Nat.zero_mul, Bool.not_true, Bool.not_false, Bool.false_eq_true, Bool.and_false, Bool.false_and, Bool.true_and]
    (try simp only [Sh, Si, Sl, Bu, Bb, Bd, Bc, Bw, Bn, Int.reduceAdd, Int.reduceSub, Int.reduceMul, Int.reduceTDiv, Int.reduceTMod, Int.reduceMod, Int.reduceDiv, Nat.reduceLT, Nat.reduceEqDiff, decide_true, decide_false, Sa, Sb, Sc, Sd, Se, Sf, Sg, true_and, and_true, and_self, eq_self, b_i64, b_i32, b_u64, b_u32, b_u8, Int.reduceLE, Int.reduceLT, Int.reduceToNat, Int.reduceNeg, Int.reduceEq, Nat.reduceLeDiff, Nat.reducePow, Int.reducePow, Nat.min_def, reduceIte, Nat.reduceSub, Nat.reduceAdd, Nat.reduceMul, KP_same, KP_f, condS_t, condS_f, pick_t, pick_f, gS_tt, gS_ff, gS_tf, gS_ft, gS_u, gP_tt, gP_ff, gP_tf, gP_ft, gP_u, ptrV_eq, slcV_eq, cells_agg, cells_int, cells_bool, cells_ptr, cells_slice, oc_int, oc_bool, oc_slice, oc_ptr, rd1_set, rd1_ne, rdn_set, rdn_ne, Heap.set_same, set_ne, Heap.set_set, set_up, set_up2, set_up3, putAt, ceq, List.map_cons, List.map_nil, List.length_cons, List.length_nil, List.length_set, List.cons_append, List.nil_append, List.append_nil, List.replicate, List.size_toArray, List.all_cons, List.all_nil, Bool.and_self, Bool.and_true, List.drop_zero, List.drop_succ_cons, List.take_succ_cons, List.take_zero, List.set_cons_zero, List.set_cons_succ, List.getElem?_cons_zero, List.getElem?_cons_succ, Option.map_some, Option.map_none, ne_eq, not_false_eq_true, not_true_eq_false, gt_iff_lt, ge_iff_le, Int.one_mul, Nat.zero_add, Nat.zero_mul, Bool.not_true, Bool.not_false, Bool.false_eq_true, Bool.and_false, Bool.false_and, Bool.true_and, *]); repeat' ((first | refine r_side _ ?_ | refine r_side _ ?_ | (refine AllocQ_i ?_; intro bk hb0 hbk; try simp only [set_none'] at hbk) | (refine condS_i ?_ ?_ <;> (intro hc; try simp only [Int.reduceLE, Int.reduceLT, Int.reduceEq, and_self, not_true_eq_false, not_false_eq_true, and_true, true_and, false_and, and_false, true_or, or_true, false_or, or_false, decide_eq_true_eq, decide_eq_false_iff_not, beq_iff_eq, beq_eq_false_iff_ne, bne_iff_ne, ne_eq, gt_iff_lt, ge_iff_le, Bool.not_eq_true, Bool.not_eq_false, Bool.not_eq_true', Bool.not_eq_false', Bool.not_eq_eq_eq_not, Bool.not_true, Bool.not_false] at hc)) | (refine pick_i ?_ ?_ <;> (intro hc; try simp only [Int.reduceLE, Int.reduceLT, Int.reduceEq, and_self, not_true_eq_false, not_false_eq_true, and_true, true_and, false_and, and_false, true_or, or_true, false_or, or_false, decide_eq_true_eq, decide_eq_false_iff_not, beq_iff_eq, beq_eq_false_iff_ne, bne_iff_ne, ne_eq, gt_iff_lt, ge_iff_le, Bool.not_eq_true, Bool.not_eq_false, Bool.not_eq_true', Bool.not_eq_false', Bool.not_eq_eq_eq_not, Bool.not_true, Bool.not_false] at hc)) | (refine gS_it ?_ ?_ <;> (intro hc; try simp only [Int.reduceLE, Int.reduceLT, Int.reduceEq, and_self, not_true_eq_false, not_false_eq_true, and_true, true_and, false_and, and_false, true_or, or_true, false_or, or_false, decide_eq_true_eq, decide_eq_false_iff_not, beq_iff_eq, beq_eq_false_iff_ne, bne_iff_ne, ne_eq, gt_iff_lt, ge_iff_le, Bool.not_eq_true, Bool.not_eq_false, Bool.not_eq_true', Bool.not_eq_false', Bool.not_eq_eq_eq_not, Bool.not_true, Bool.not_false] at hc)) | (refine gS_if ?_ ?_ <;> (intro hc; try simp only [Int.reduceLE, Int.reduceLT, Int.reduceEq, and_self, not_true_eq_false, not_false_eq_true, and_true, true_and, false_and, and_false, true_or, or_true, false_or, or_false, decide_eq_true_eq, decide_eq_false_iff_not, beq_iff_eq, beq_eq_false_iff_ne, bne_iff_ne, ne_eq, gt_iff_lt, ge_iff_le, Bool.not_eq_true, Bool.not_eq_false, Bool.not_eq_true', Bool.not_eq_false', Bool.not_eq_eq_eq_not, Bool.not_true, Bool.not_false] at hc)) | (refine gP_it ?_ ?_ <;> (intro hc; try simp only [Int.reduceLE, Int.reduceLT, Int.reduceEq, and_self, not_true_eq_false, not_false_eq_true, and_true, true_and, false_and, and_false, true_or, or_true, false_or, or_false, decide_eq_true_eq, decide_eq_false_iff_not, beq_iff_eq, beq_eq_false_iff_ne, bne_iff_ne, ne_eq, gt_iff_lt, ge_iff_le, Bool.not_eq_true, Bool.not_eq_false, Bool.not_eq_true', Bool.not_eq_false', Bool.not_eq_eq_eq_not, Bool.not_true, Bool.not_false] at hc)) | (refine gP_if ?_ ?_ <;> (intro hc; try simp only [Int.reduceLE, Int.reduceLT, Int.reduceEq, and_self, not_true_eq_false, not_false_eq_true, and_true, true_and, false_and, and_false, true_or, or_true, false_or, or_false, decide_eq_true_eq, decide_eq_false_iff_not, beq_iff_eq, beq_eq_false_iff_ne, bne_iff_ne, ne_eq, gt_iff_lt, ge_iff_le, Bool.not_eq_true, Bool.not_eq_false, Bool.not_eq_true', Bool.not_eq_false', Bool.not_eq_eq_eq_not, Bool.not_true, Bool.not_false] at hc)) | (with_reducible refine And.intro ?_ ?_)) <;> (try simp only [Sh, Si, Sl, Bu, Bb, Bd, Bc, Bw, Bn, Int.reduceAdd, Int.reduceSub, Int.reduceMul, Int.reduceTDiv, Int.reduceTMod, Int.reduceMod, Int.reduceDiv, Nat.reduceLT, Nat.reduceEqDiff, decide_true, decide_false, Sa, Sb, Sc, Sd, Se, Sf, Sg, true_and, and_true, and_self, eq_self, b_i64, b_i32, b_u64, b_u32, b_u8, Int.reduceLE, Int.reduceLT, Int.reduceToNat, Int.reduceNeg, Int.reduceEq, Nat.reduceLeDiff, Nat.reducePow, Int.reducePow, Nat.min_def, reduceIte, Nat.reduceSub, Nat.reduceAdd, Nat.reduceMul, KP_same, KP_f, condS_t, condS_f, pick_t, pick_f, gS_tt, gS_ff, gS_tf, gS_ft, gS_u, gP_tt, gP_ff, gP_tf, gP_ft, gP_u, ptrV_eq, slcV_eq, cells_agg, cells_int, cells_bool, cells_ptr, cells_slice, oc_int, oc_bool, oc_slice, oc_ptr, rd1_set, rd1_ne, rdn_set, rdn_ne, Heap.set_same, set_ne, Heap.set_set, set_up, set_up2, set_up3, putAt, ceq, List.map_cons, List.map_nil, List.length_cons, List.length_nil, List.length_set, List.cons_append, List.nil_append, List.append_nil, List.replicate, List.size_toArray, List.all_cons, List.all_nil, Bool.and_self, Bool.and_true, List.drop_zero, List.drop_succ_cons, List.take_succ_cons, List.take_zero, List.set_cons_zero, List.set_cons_succ, List.getElem?_cons_zero, List.getElem?_cons_succ, Option.map_some, Option.map_none, ne_eq, not_false_eq_true, not_true_eq_false, gt_iff_lt, ge_iff_le, Int.one_mul, Nat.zero_add, Nat.zero_mul, Bool.not_true, Bool.not_false, Bool.false_eq_true, Bool.and_false, Bool.false_and, Bool.true_and, *]))
    refine loop_g 14 (fun s : Int × Int × Int => [(0, .int .i64 s.2.1), (1, .int .i64 s.2.2), (5, .int .i64 s.1)]) (fun _ => H) (fun s => 0 ≤ s.2.1 ∧ s.2.1 ≤ 64 ∧ 0 ≤ s.2.2 ∧ s.2.2 ≤ 64 ∧ Keep (s.1 + lg (if s.2.1 < s.2.2 then s.2.2 else s.2.1) = 1 + m)) (fun s => (s.2.1 + s.2.2).toNat) (1, w, h) ⟨by simp only; omega, by simp only; omega, by simp only; omega, by simp only; omega, by rw [em]; rfl⟩ (Heap.Le.refl _) rfl ?_
    intro ⟨n, a, b⟩ f ⟨h0, h1, h2, h3, h4⟩
    simp only at h0 h1 h2 h3 h4
    have g2 := lg_le (s := if a < b then b else a)
    have h4' : n + lg (if a < b then b else a) = 1 + m := h4
    have e1 : IntKind.i64.wrap (n + 1) = n + 1 := Bw.1 _ (by omega) (by omega)
    have e2 : IntKind.i64.wrap (a.tdiv 2) = a / 2 := by rw [Int.tdiv_eq_ediv_of_nonneg h0]; exact Bw.1 _ (by omega) (by omega)
    have e3 : IntKind.i64.wrap (b.tdiv 2) = b / 2 := by rw [Int.tdiv_eq_ediv_of_nonneg h2]; exact Bw.1 _ (by omega) (by omega)
    have key1 : 1 < a ∨ 1 < b → Keep (n + 1 + lg (if a / 2 < b / 2 then b / 2 else a / 2) = 1 + m) := fun hx => by
      show n + 1 + lg (if a / 2 < b / 2 then b / 2 else a / 2) = 1 + m
      rw [lg_max hx ⟨h1, h3⟩]; omega
    have key2 : ¬ (1 < a ∨ 1 < b) → n = 1 + m := fun hx => by
      rw [lg_zero (by split <;> omega)] at h4'; omega
    clear d1 d2 em hb hm h4' g2
    (try simp only [Sh, Si, Sl, Bu, Bb, Bd, Bc, Bw, Bn, Int.reduceAdd, Int.reduceSub, Int.reduceMul, Int.reduceTDiv, Int.reduceTMod, Int.reduceMod, Int.reduceDiv, Nat.reduceLT, Nat.reduceEqDiff, decide_true, decide_false, Sa, Sb, Sc, Sd, Se, Sf, Sg, true_and, and_true, and_self, eq_self, b_i64, b_i32, b_u64, b_u32, b_u8, Int.reduceLE, Int.reduceLT, Int.reduceToNat, Int.reduceNeg, Int.reduceEq, Nat.reduceLeDiff, Nat.reducePow, Int.reducePow, Nat.min_def, reduceIte, Nat.reduceSub, Nat.reduceAdd, Nat.reduceMul, KP_same, KP_f, condS_t, condS_f, pick_t, pick_f, gS_tt, gS_ff, gS_tf, gS_ft, gS_u, gP_tt, gP_ff, gP_tf, gP_ft, gP_u, ptrV_eq, slcV_eq, cells_agg, cells_int, cells_bool, cells_ptr, cells_slice, oc_int, oc_bool, oc_slice, oc_ptr, rd1_set, rd1_ne, rdn_set, rdn_ne, Heap.set_same, set_ne, Heap.set_set, set_up, set_up2, set_up3, putAt, ceq, List.map_cons, List.map_nil, List.length_cons, List.length_nil, List.length_set, List.cons_append, List.nil_append, List.append_nil, List.replicate, List.size_toArray, List.all_cons, List.all_nil, Bool.and_self, Bool.and_true, List.drop_zero, List.drop_succ_cons, List.take_succ_cons, List.take_zero, List.set_cons_zero, List.set_cons_succ, List.getElem?_cons_zero, List.getElem?_cons_succ, Option.map_some, Option.map_none, ne_eq, not_false_eq_true, not_true_eq_false, gt_iff_lt, ge_iff_le, Int.one_mul, Nat.zero_add, Nat.zero_mul, Bool.not_true, Bool.not_false, Bool.false_eq_true, Bool.and_false, Bool.false_and, Bool.true_and, *]); repeat' ((first | (refine AllocQ_i ?_; intro bk hb0 hbk; try simp only [set_none'] at hbk) | (refine condS_i ?_ ?_ <;> (intro hc; try simp only [Int.reduceLE, Int.reduceLT, Int.reduceEq, and_self, not_true_eq_false, not_false_eq_true, and_true, true_and, false_and, and_false, true_or, or_true, false_or, or_false, decide_eq_true_eq, decide_eq_false_iff_not, beq_iff_eq, beq_eq_false_iff_ne, bne_iff_ne, ne_eq, gt_iff_lt, ge_iff_le, Bool.not_eq_true, Bool.not_eq_false, Bool.not_eq_true', Bool.not_eq_false', Bool.not_eq_eq_eq_not, Bool.not_true, Bool.not_false] at hc)) | (refine pick_i ?_ ?_ <;> (intro hc; try simp only [Int.reduceLE, Int.reduceLT, Int.reduceEq, and_self, not_true_eq_false, not_false_eq_true, and_true, true_and, false_and, and_false, true_or, or_true, false_or, or_false, decide_eq_true_eq, decide_eq_false_iff_not, beq_iff_eq, beq_eq_false_iff_ne, bne_iff_ne, ne_eq, gt_iff_lt, ge_iff_le, Bool.not_eq_true, Bool.not_eq_false, Bool.not_eq_true', Bool.not_eq_false', Bool.not_eq_eq_eq_not, Bool.not_true, Bool.not_false] at hc)) | (refine gS_it ?_ ?_ <;> (intro hc; try simp only [Int.reduceLE, Int.reduceLT, Int.reduceEq, and_self, not_true_eq_false, not_false_eq_true, and_true, true_and, false_and, and_false, true_or, or_true, false_or, or_false, decide_eq_true_eq, decide_eq_false_iff_not, beq_iff_eq, beq_eq_false_iff_ne, bne_iff_ne, ne_eq, gt_iff_lt, ge_iff_le, Bool.not_eq_true, Bool.not_eq_false, Bool.not_eq_true', Bool.not_eq_false', Bool.not_eq_eq_eq_not, Bool.not_true, Bool.not_false] at hc)) | (refine gS_if ?_ ?_ <;> (intro hc; try simp only [Int.reduceLE, Int.reduceLT, Int.reduceEq, and_self, not_true_eq_false, not_false_eq_true, and_true, true_and, false_and, and_false, true_or, or_true, false_or, or_false, decide_eq_true_eq, decide_eq_false_iff_not, beq_iff_eq, beq_eq_false_iff_ne, bne_iff_ne, ne_eq, gt_iff_lt, ge_iff_le, Bool.not_eq_true, Bool.not_eq_false, Bool.not_eq_true', Bool.not_eq_false', Bool.not_eq_eq_eq_not, Bool.not_true, Bool.not_false] at hc)) | (refine gP_it ?_ ?_ <;> (intro hc; try simp only [Int.reduceLE, Int.reduceLT, Int.reduceEq, and_self, not_true_eq_false, not_false_eq_true, and_true, true_and, false_and, and_false, true_or, or_true, false_or, or_false, decide_eq_true_eq, decide_eq_false_iff_not, beq_iff_eq, beq_eq_false_iff_ne, bne_iff_ne, ne_eq, gt_iff_lt, ge_iff_le, Bool.not_eq_true, Bool.not_eq_false, Bool.not_eq_true', Bool.not_eq_false', Bool.not_eq_eq_eq_not, Bool.not_true, Bool.not_false] at hc)) | (refine gP_if ?_ ?_ <;> (intro hc; try simp only [Int.reduceLE, Int.reduceLT, Int.reduceEq, and_self, not_true_eq_false, not_false_eq_true, and_true, true_and, false_and, and_false, true_or, or_true, false_or, or_false, decide_eq_true_eq, decide_eq_false_iff_not, beq_iff_eq, beq_eq_false_iff_ne, bne_iff_ne, ne_eq, gt_iff_lt, ge_iff_le, Bool.not_eq_true, Bool.not_eq_false, Bool.not_eq_true', Bool.not_eq_false', Bool.not_eq_eq_eq_not, Bool.not_true, Bool.not_false] at hc)) | (with_reducible refine And.intro ?_ ?_)) <;> (try simp only [Sh, Si, Sl, Bu, Bb, Bd, Bc, Bw, Bn, Int.reduceAdd, Int.reduceSub, Int.reduceMul, Int.reduceTDiv, Int.reduceTMod, Int.reduceMod, Int.reduceDiv, Nat.reduceLT, Nat.reduceEqDiff, decide_true, decide_false, Sa, Sb, Sc, Sd, Se, Sf, Sg, true_and, and_true, and_self, eq_self, b_i64, b_i32, b_u64, b_u32, b_u8, Int.reduceLE, Int.reduceLT, Int.reduceToNat, Int.reduceNeg, Int.reduceEq, Nat.reduceLeDiff, Nat.reducePow, Int.reducePow, Nat.min_def, reduceIte, Nat.reduceSub, Nat.reduceAdd, Nat.reduceMul, KP_same, KP_f, condS_t, condS_f, pick_t, pick_f, gS_tt, gS_ff, gS_tf, gS_ft, gS_u, gP_tt, gP_ff, gP_tf, gP_ft, gP_u, ptrV_eq, slcV_eq, cells_agg, cells_int, cells_bool, cells_ptr, cells_slice, oc_int, oc_bool, oc_slice, oc_ptr, rd1_set, rd1_ne, rdn_set, rdn_ne, Heap.set_same, set_ne, Heap.set_set, set_up, set_up2, set_up3, putAt, ceq, List.map_cons, List.map_nil, List.length_cons, List.length_nil, List.length_set, List.cons_append, List.nil_append, List.append_nil, List.replicate, List.size_toArray, List.all_cons, List.all_nil, Bool.and_self, Bool.and_true, List.drop_zero, List.drop_succ_cons, List.take_succ_cons, List.take_zero, List.set_cons_zero, List.set_cons_succ, List.getElem?_cons_zero, List.getElem?_cons_succ, Option.map_some, Option.map_none, ne_eq, not_false_eq_true, not_true_eq_false, gt_iff_lt, ge_iff_le, Int.one_mul, Nat.zero_add, Nat.zero_mul, Bool.not_true, Bool.not_false, Bool.false_eq_true, Bool.and_false, Bool.false_and, Bool.true_and, *]))
    all_goals first
      | exact Round_mk (n + 1, a / 2, b / 2) ⟨by simp only; omega, by simp only; omega, by simp only; omega, by simp only; omega, key1 (by omega)⟩ (by simp only; omega) (Heap.Le.refl _) rfl rfl
      | exact Fin_mk (Heap.Le.refl _) (K_int hK (key2 (by omega)))
  · have hc : cntI w h = 0 := by unfold cntI; rw [if_neg hb]
    rw [hc] at hK
    by_cases hw : 1 ≤ w ∧ w ≤ 64
    · have d1 : decide (1 ≤ w ∧ w ≤ 64) = true := by rw [decide_eq_true_eq]; omega
      have d2 : decide (1 ≤ h ∧ h ≤ 64) = false := by rw [decide_eq_false_iff_not]; omega
      clear hb hw hc
      refine HL.hc k21 999 ?_; simp only [M21, Sh, Si, Sl, Bu, Bb, Bd, Bc, Bw, Bn, Int.reduceAdd, Int.reduceSub, Int.reduceMul, Int.reduceTDiv, Int.reduceTMod, Int.reduceMod, Int.reduceDiv, Nat.reduceLT, Nat.reduceEqDiff, decide_true, decide_false, Sa, Sb, Sc, Sd, Se, Sf, Sg, true_and, and_true, and_self, eq_self, b_i64, b_i32, b_u64, b_u32, b_u8, Int.reduceLE, Int.reduceLT, Int.reduceToNat, Int.reduceNeg, Int.reduceEq, Nat.reduceLeDiff, Nat.reducePow, Int.reducePow, Nat.min_def, reduceIte, Nat.reduceSub, Nat.reduceAdd, Nat.reduceMul, KP_same, KP_f, condS_t, condS_f, pick_t, pick_f, gS_tt, gS_ff, gS_tf, gS_ft, gS_u, gP_tt, gP_ff, gP_tf, gP_ft, gP_u, ptrV_eq, slcV_eq, cells_agg, cells_int, cells_bool, cells_ptr, cells_slice, oc_int, oc_bool, oc_slice, oc_ptr, rd1_set, rd1_ne, rdn_set, rdn_ne, Heap.set_same, set_ne, Heap.set_set, set_up, set_up2, set_up3, putAt, ceq, List.map_cons, List.map_nil, List.length_cons, List.length_nil, List.length_set, List.cons_append, List.nil_append, List.append_nil, List.replicate, List.size_toArray, List.all_cons, List.all_nil, Bool.and_self, Bool.and_true, List.drop_zero, List.drop_succ_cons, List.take_succ_cons, List.take_zero, List.set_cons_zero, List.set_cons_succ, List.getElem?_cons_zero, List.getElem?_cons_succ, Option.map_some, Option.map_none, ne_eq, not_false_eq_true, not_true_eq_false, gt_iff_lt, ge_iff_le, Int.one_mul, Nat.zero_add, Nat.zero_mul, Bool.not_true, Bool.not_false, Bool.false_eq_true, Bool.and_false, Bool.false_and, Bool.true_and]
      (try simp only [Sh, Si, Sl, Bu, Bb, Bd, Bc, Bw, Bn, Int.reduceAdd, Int.reduceSub, Int.reduceMul, Int.reduceTDiv, Int.reduceTMod, Int.reduceMod, Int.reduceDiv, Nat.reduceLT, Nat.reduceEqDiff, decide_true, decide_false, Sa, Sb, Sc, Sd, Se, Sf, Sg, true_and, and_true, and_self, eq_self, b_i64, b_i32, b_u64, b_u32, b_u8, Int.reduceLE, Int.reduceLT, Int.reduceToNat, Int.reduceNeg, Int.reduceEq, Nat.reduceLeDiff, Nat.reducePow, Int.reducePow, Nat.min_def, reduceIte, Nat.reduceSub, Nat.reduceAdd, Nat.reduceMul, KP_same, KP_f, condS_t, condS_f, pick_t, pick_f, gS_tt, gS_ff, gS_tf, gS_ft, gS_u, gP_tt, gP_ff, gP_tf, gP_ft, gP_u, ptrV_eq, slcV_eq, cells_agg, cells_int, cells_bool, cells_ptr, cells_slice, oc_int, oc_bool, oc_slice, oc_ptr, rd1_set, rd1_ne, rdn_set, rdn_ne, Heap.set_same, set_ne, Heap.set_set, set_up, set_up2, set_up3, putAt, ceq, List.map_cons, List.map_nil, List.length_cons, List.length_nil, List.length_set, List.cons_append, List.nil_append, List.append_nil, List.replicate, List.size_toArray, List.all_cons, List.all_nil, Bool.and_self, Bool.and_true, List.drop_zero, List.drop_succ_cons, List.take_succ_cons, List.take_zero, List.set_cons_zero, List.set_cons_succ, List.getElem?_cons_zero, List.getElem?_cons_succ, Option.map_some, Option.map_none, ne_eq, not_false_eq_true, not_true_eq_false, gt_iff_lt, ge_iff_le, Int.one_mul, Nat.zero_add, Nat.zero_mul, Bool.not_true, Bool.not_false, Bool.false_eq_true, Bool.and_false, Bool.false_and, Bool.true_and, *]); repeat' ((first | refine r_side _ ?_ | refine r_side _ ?_ | (refine AllocQ_i ?_; intro bk hb0 hbk; try simp only [set_none'] at hbk) | (refine condS_i ?_ ?_ <;> (intro hc; try simp only [Int.reduceLE, Int.reduceLT, Int.reduceEq, and_self, not_true_eq_false, not_false_eq_true, and_true, true_and, false_and, and_false, true_or, or_true, false_or, or_false, decide_eq_true_eq, decide_eq_false_iff_not, beq_iff_eq, beq_eq_false_iff_ne, bne_iff_ne, ne_eq, gt_iff_lt, ge_iff_le, Bool.not_eq_true, Bool.not_eq_false, Bool.not_eq_true', Bool.not_eq_false', Bool.not_eq_eq_eq_not, Bool.not_true, Bool.not_false] at hc)) | (refine pick_i ?_ ?_ <;> (intro hc; try simp only [Int.reduceLE, Int.reduceLT, Int.reduceEq, and_self, not_true_eq_false, not_false_eq_true, and_true, true_and, false_and, and_false, true_or, or_true, false_or, or_false, decide_eq_true_eq, decide_eq_false_iff_not, beq_iff_eq, beq_eq_false_iff_ne, bne_iff_ne, ne_eq, gt_iff_lt, ge_iff_le, Bool.not_eq_true, Bool.not_eq_false, Bool.not_eq_true', Bool.not_eq_false', Bool.not_eq_eq_eq_not, Bool.not_true, Bool.not_false] at hc)) | (refine gS_it ?_ ?_ <;> (intro hc; try simp only [Int.reduceLE, Int.reduceLT, Int.reduceEq, and_self, not_true_eq_false, not_false_eq_true, and_true, true_and, false_and, and_false, true_or, or_true, false_or, or_false, decide_eq_true_eq, decide_eq_false_iff_not, beq_iff_eq, beq_eq_false_iff_ne, bne_iff_ne, ne_eq, gt_iff_lt, ge_iff_le, Bool.not_eq_true, Bool.not_eq_false, Bool.not_eq_true', Bool.not_eq_false', Bool.not_eq_eq_eq_not, Bool.not_true, Bool.not_false] at hc)) | (refine gS_if ?_ ?_ <;> (intro hc; try simp only [Int.reduceLE, Int.reduceLT, Int.reduceEq, and_self, not_true_eq_false, not_false_eq_true, and_true, true_and, false_and, and_false, true_or, or_true, false_or, or_false, decide_eq_true_eq, decide_eq_false_iff_not, beq_iff_eq, beq_eq_false_iff_ne, bne_iff_ne, ne_eq, gt_iff_lt, ge_iff_le, Bool.not_eq_true, Bool.not_eq_false, Bool.not_eq_true', Bool.not_eq_false', Bool.not_eq_eq_eq_not, Bool.not_true, Bool.not_false] at hc)) | (refine gP_it ?_ ?_ <;> (intro hc; try simp only [Int.reduceLE, Int.reduceLT, Int.reduceEq, and_self, not_true_eq_false, not_false_eq_true, and_true, true_and, false_and, and_false, true_or, or_true, false_or, or_false, decide_eq_true_eq, decide_eq_false_iff_not, beq_iff_eq, beq_eq_false_iff_ne, bne_iff_ne, ne_eq, gt_iff_lt, ge_iff_le, Bool.not_eq_true, Bool.not_eq_false, Bool.not_eq_true', Bool.not_eq_false', Bool.not_eq_eq_eq_not, Bool.not_true, Bool.not_false] at hc)) | (refine gP_if ?_ ?_ <;> (intro hc; try simp only [Int.reduceLE, Int.reduceLT, Int.reduceEq, and_self, not_true_eq_false, not_false_eq_true, and_true, true_and, false_and, and_false, true_or, or_true, false_or, or_false, decide_eq_true_eq, decide_eq_false_iff_not, beq_iff_eq, beq_eq_false_iff_ne, bne_iff_ne, ne_eq, gt_iff_lt, ge_iff_le, Bool.not_eq_true, Bool.not_eq_false, Bool.not_eq_true', Bool.not_eq_false', Bool.not_eq_eq_eq_not, Bool.not_true, Bool.not_false] at hc)) | (with_reducible refine And.intro ?_ ?_)) <;> (try simp only [Sh, Si, Sl, Bu, Bb, Bd, Bc, Bw, Bn, Int.reduceAdd, Int.reduceSub, Int.reduceMul, Int.reduceTDiv, Int.reduceTMod, Int.reduceMod, Int.reduceDiv, Nat.reduceLT, Nat.reduceEqDiff, decide_true, decide_false, Sa, Sb, Sc, Sd, Se, Sf, Sg, true_and, and_true, and_self, eq_self, b_i64, b_i32, b_u64, b_u32, b_u8, Int.reduceLE, Int.reduceLT, Int.reduceToNat, Int.reduceNeg, Int.reduceEq, Nat.reduceLeDiff, Nat.reducePow, Int.reducePow, Nat.min_def, reduceIte, Nat.reduceSub, Nat.reduceAdd, Nat.reduceMul, KP_same, KP_f, condS_t, condS_f, pick_t, pick_f, gS_tt, gS_ff, gS_tf, gS_ft, gS_u, gP_tt, gP_ff, gP_tf, gP_ft, gP_u, ptrV_eq, slcV_eq, cells_agg, cells_int, cells_bool, cells_ptr, cells_slice, oc_int, oc_bool, oc_slice, oc_ptr, rd1_set, rd1_ne, rdn_set, rdn_ne, Heap.set_same, set_ne, Heap.set_set, set_up, set_up2, set_up3, putAt, ceq, List.map_cons, List.map_nil, List.length_cons, List.length_nil, List.length_set, List.cons_append, List.nil_append, List.append_nil, List.replicate, List.size_toArray, List.all_cons, List.all_nil, Bool.and_self, Bool.and_true, List.drop_zero, List.drop_succ_cons, List.take_succ_cons, List.take_zero, List.set_cons_zero, List.set_cons_succ, List.getElem?_cons_zero, List.getElem?_cons_succ, Option.map_some, Option.map_none, ne_eq, not_false_eq_true, not_true_eq_false, gt_iff_lt, ge_iff_le, Int.one_mul, Nat.zero_add, Nat.zero_mul, Bool.not_true, Bool.not_false, Bool.false_eq_true, Bool.and_false, Bool.false_and, Bool.true_and, *]))
      exact Fin_mk (Heap.Le.refl _) hK
    · have d1 : decide (1 ≤ w ∧ w ≤ 64) = false := by rw [decide_eq_false_iff_not]; omega
      clear hb hw hc
      refine HL.hc k21 999 ?_; simp only [M21, Sh, Si, Sl, Bu, Bb, Bd, Bc, Bw, Bn, Int.reduceAdd, Int.reduceSub, Int.reduceMul, Int.reduceTDiv, Int.reduceTMod, Int.reduceMod, Int.reduceDiv, Nat.reduceLT, Nat.reduceEqDiff, decide_true, decide_false, Sa, Sb, Sc, Sd, Se, Sf, Sg, true_and, and_true, and_self, eq_self, b_i64, b_i32, b_u64, b_u32, b_u8, Int.reduceLE, Int.reduceLT, Int.reduceToNat, Int.reduceNeg, Int.reduceEq, Nat.reduceLeDiff, Nat.reducePow, Int.reducePow, Nat.min_def, reduceIte, Nat.reduceSub, Nat.reduceAdd, Nat.reduceMul, KP_same, KP_f, condS_t, condS_f, pick_t, pick_f, gS_tt, gS_ff, gS_tf, gS_ft, gS_u, gP_tt, gP_ff, gP_tf, gP_ft, gP_u, ptrV_eq, slcV_eq, cells_agg, cells_int, cells_bool, cells_ptr, cells_slice, oc_int, oc_bool, oc_slice, oc_ptr, rd1_set, rd1_ne, rdn_set, rdn_ne, Heap.set_same, set_ne, Heap.set_set, set_up, set_up2, set_up3, putAt, ceq, List.map_cons, List.map_nil, List.length_cons, List.length_nil, List.length_set, List.cons_append, List.nil_append, List.append_nil, List.replicate, List.size_toArray, List.all_cons, List.all_nil, Bool.and_self, Bool.and_true, List.drop_zero, List.drop_succ_cons, List.take_succ_cons, List.take_zero, List.set_cons_zero, List.set_cons_succ, List.getElem?_cons_zero, List.getElem?_cons_succ, Option.map_some, Option.map_none, ne_eq, not_false_eq_true, not_true_eq_false, gt_iff_lt, ge_iff_le, Int.one_mul, Nat.zero_add, Nat.zero_mul, Bool.not_true, Bool.not_false, Bool.false_eq_true, Bool.and_false, Bool.false_and, Bool.true_and]
      (try simp only [Sh, Si, Sl, Bu, Bb, Bd, Bc, Bw, Bn, Int.reduceAdd, Int.reduceSub, Int.reduceMul, Int.reduceTDiv, Int.reduceTMod, Int.reduceMod, Int.reduceDiv, Nat.reduceLT, Nat.reduceEqDiff, decide_true, decide_false, Sa, Sb, Sc, Sd, Se, Sf, Sg, true_and, and_true, and_self, eq_self, b_i64, b_i32, b_u64, b_u32, b_u8, Int.reduceLE, Int.reduceLT, Int.reduceToNat, Int.reduceNeg, Int.reduceEq, Nat.reduceLeDiff, Nat.reducePow, Int.reducePow, Nat.min_def, reduceIte, Nat.reduceSub, Nat.reduceAdd, Nat.reduceMul, KP_same, KP_f, condS_t, condS_f, pick_t, pick_f, gS_tt, gS_ff, gS_tf, gS_ft, gS_u, gP_tt, gP_ff, gP_tf, gP_ft, gP_u, ptrV_eq, slcV_eq, cells_agg, cells_int, cells_bool, cells_ptr, cells_slice, oc_int, oc_bool, oc_slice, oc_ptr, rd1_set, rd1_ne, rdn_set, rdn_ne, Heap.set_same, set_ne, Heap.set_set, set_up, set_up2, set_up3, putAt, ceq, List.map_cons, List.map_nil, List.length_cons, List.length_nil, List.length_set, List.cons_append, List.nil_append, List.append_nil, List.replicate, List.size_toArray, List.all_cons, List.all_nil, Bool.and_self, Bool.and_true, List.drop_zero, List.drop_succ_cons, List.take_succ_cons, List.take_zero, List.set_cons_zero, List.set_cons_succ, List.getElem?_cons_zero, List.getElem?_cons_succ, Option.map_some, Option.map_none, ne_eq, not_false_eq_true, not_true_eq_false, gt_iff_lt, ge_iff_le, Int.one_mul, Nat.zero_add, Nat.zero_mul, Bool.not_true, Bool.not_false, Bool.false_eq_true, Bool.and_false, Bool.false_and, Bool.true_and, *]); repeat' ((first | refine r_side _ ?_ | refine r_side _ ?_ | (refine AllocQ_i ?_; intro bk hb0 hbk; try simp only [set_none'] at hbk) | (refine condS_i ?_ ?_ <;> (intro hc; try simp only [Int.reduceLE, Int.reduceLT, Int.reduceEq, and_self, not_true_eq_false, not_false_eq_true, and_true, true_and, false_and, and_false, true_or, or_true, false_or, or_false, decide_eq_true_eq, decide_eq_false_iff_not, beq_iff_eq, beq_eq_false_iff_ne, bne_iff_ne, ne_eq, gt_iff_lt, ge_iff_le, Bool.not_eq_true, Bool.not_eq_false, Bool.not_eq_true', Bool.not_eq_false', Bool.not_eq_eq_eq_not, Bool.not_true, Bool.not_false] at hc)) | (refine pick_i ?_ ?_ <;> (intro hc; try simp only [Int.reduceLE, Int.reduceLT, Int.reduceEq, and_self, not_true_eq_false, not_false_eq_true, and_true, true_and, false_and, and_false, true_or, or_true, false_or, or_false, decide_eq_true_eq, decide_eq_false_iff_not, beq_iff_eq, beq_eq_false_iff_ne, bne_iff_ne, ne_eq, gt_iff_lt, ge_iff_le, Bool.not_eq_true, Bool.not_eq_false, Bool.not_eq_true', Bool.not_eq_false', Bool.not_eq_eq_eq_not, Bool.not_true, Bool.not_false] at hc)) | (refine gS_it ?_ ?_ <;> (intro hc; try simp only [Int.reduceLE, Int.reduceLT, Int.reduceEq, and_self, not_true_eq_false, not_false_eq_true, and_true, true_and, false_and, and_false, true_or, or_true, false_or, or_false, decide_eq_true_eq, decide_eq_false_iff_not, beq_iff_eq, beq_eq_false_iff_ne, bne_iff_ne, ne_eq, gt_iff_lt, ge_iff_le, Bool.not_eq_true, Bool.not_eq_false, Bool.not_eq_true', Bool.not_eq_false', Bool.not_eq_eq_eq_not, Bool.not_true, Bool.not_false] at hc)) | (refine gS_if ?_ ?_ <;> (intro hc; try simp only [Int.reduceLE, Int.reduceLT, Int.reduceEq, and_self, not_true_eq_false, not_false_eq_true, and_true, true_and, false_and, and_false, true_or, or_true, false_or, or_false, decide_eq_true_eq, decide_eq_false_iff_not, beq_iff_eq, beq_eq_false_iff_ne, bne_iff_ne, ne_eq, gt_iff_lt, ge_iff_le, Bool.not_eq_true, Bool.not_eq_false, Bool.not_eq_true', Bool.not_eq_false', Bool.not_eq_eq_eq_not, Bool.not_true, Bool.not_false] at hc)) | (refine gP_it ?_ ?_ <;> (intro hc; try simp only [Int.reduceLE, Int.reduceLT, Int.reduceEq, and_self, not_true_eq_false, not_false_eq_true, and_true, true_and, false_and, and_false, true_or, or_true, false_or, or_false, decide_eq_true_eq, decide_eq_false_iff_not, beq_iff_eq, beq_eq_false_iff_ne, bne_iff_ne, ne_eq, gt_iff_lt, ge_iff_le, Bool.not_eq_true, Bool.not_eq_false, Bool.not_eq_true', Bool.not_eq_false', Bool.not_eq_eq_eq_not, Bool.not_true, Bool.not_false] at hc)) | (refine gP_if ?_ ?_ <;> (intro hc; try simp only [Int.reduceLE, Int.reduceLT, Int.reduceEq, and_self, not_true_eq_false, not_false_eq_true, and_true, true_and, false_and, and_false, true_or, or_true, false_or, or_false, decide_eq_true_eq, decide_eq_false_iff_not, beq_iff_eq, beq_eq_false_iff_ne, bne_iff_ne, ne_eq, gt_iff_lt, ge_iff_le, Bool.not_eq_true, Bool.not_eq_false, Bool.not_eq_true', Bool.not_eq_false', Bool.not_eq_eq_eq_not, Bool.not_true, Bool.not_false] at hc)) | (with_reducible refine And.intro ?_ ?_)) <;> (try simp only [Sh, Si, Sl, Bu, Bb, Bd, Bc, Bw, Bn, Int.reduceAdd, Int.reduceSub, Int.reduceMul, Int.reduceTDiv, Int.reduceTMod, Int.reduceMod, Int.reduceDiv, Nat.reduceLT, Nat.reduceEqDiff, decide_true, decide_false, Sa, Sb, Sc, Sd, Se, Sf, Sg, true_and, and_true, and_self, eq_self, b_i64, b_i32, b_u64, b_u32, b_u8, Int.reduceLE, Int.reduceLT, Int.reduceToNat, Int.reduceNeg, Int.reduceEq, Nat.reduceLeDiff, Nat.reducePow, Int.reducePow, Nat.min_def, reduceIte, Nat.reduceSub, Nat.reduceAdd, Nat.reduceMul, KP_same, KP_f, condS_t, condS_f, pick_t, pick_f, gS_tt, gS_ff, gS_tf, gS_ft, gS_u, gP_tt, gP_ff, gP_tf, gP_ft, gP_u, ptrV_eq, slcV_eq, cells_agg, cells_int, cells_bool, cells_ptr, cells_slice, oc_int, oc_bool, oc_slice, oc_ptr, rd1_set, rd1_ne, rdn_set, rdn_ne, Heap.set_same, set_ne, Heap.set_set, set_up, set_up2, set_up3, putAt, ceq, List.map_cons, List.map_nil, List.length_cons, List.length_nil, List.length_set, List.cons_append, List.nil_append, List.append_nil, List.replicate, List.size_toArray, List.all_cons, List.all_nil, Bool.and_self, Bool.and_true, List.drop_zero, List.drop_succ_cons, List.take_succ_cons, List.take_zero, List.set_cons_zero, List.set_cons_succ, List.getElem?_cons_zero, List.getElem?_cons_succ, Option.map_some, Option.map_none, ne_eq, not_false_eq_true, not_true_eq_false, gt_iff_lt, ge_iff_le, Int.one_mul, Nat.zero_add, Nat.zero_mul, Bool.not_true, Bool.not_false, Bool.false_eq_true, Bool.and_false, Bool.false_and, Bool.true_and, *]))
      exact Fin_mk (Heap.Le.refl _) hK
namespace New
def M18 : MC :=
  .seq (.reg [⟨(some 0), .alloc 24 [(.int .i64 0), (.slice none 0 0), (.int .i64 0), (.int .i64 0), (.int .i64 0), (.int .i64 0)], none⟩])
  (.seq (.reg [⟨(some 1), .build [(.int .i64 0), (.slice none 0 0), (.int .i64 0), (.int .i64 0), (.int .i64 0), (.int .i64 0)] [(2, 1, (.const (.int .i64 1))), (3, 1, (.const (.int .i64 1))), (4, 1, (.const (.int .i64 3))), (5, 1, (.const (.int .i64 2)))], none⟩,
      ⟨none, .stn 6 (.tmp 0) (.tmp 1), none⟩])
   (.ret))
theorem k18 : fnOk Try.prog 18 = some (M18, [.cn 6 0], 2) := by kernel_rfl
def tbl : List (FuncId × (MC × List RV × Nat)) := [(18, (M18, [.cn 6 0], 2))]
theorem tblOk : AllOk Try.prog tbl := ⟨k18, trivial⟩
theorem done : (exec (tblOf tbl) 1000 [.cn 6 0] [.code M18] ([] ++ List.replicate (2 - List.length ([] : List Value)) undef) [] (fun u _ => eqS u (.agg #[.int .i64 0, .slice none 0 0, .int .i64 1, .int .i64 1, .int .i64 3, .int .i64 2]))) = true := by kernel_rfl
end New
theorem x_New {w0 : World} {H : Heap} {K : Value → Heap → Prop} (h : K (.agg #[.int .i64 0, .slice none 0 0, .int .i64 1, .int .i64 1, .int .i64 3, .int .i64 2]) H) : HCalls Try.prog w0 18 [] H K := hc_exec New.k18 (tblOf_ok New.tblOk) [] rfl 1000 rfl New.done h

namespace CheckNew
def M19 : MC :=
  .seq (.reg [⟨(some 1), .box 24 (.tmp 0), none⟩,
     ⟨(some 2), .mv (.const (.int .i64 0)), none⟩])
  (.seq (.reg [⟨(some 6), .fa 0 (.tmp 1), none⟩,
      ⟨(some 7), .ld1 (.tmp 6), none⟩,
      ⟨(some 8), .call 48 [(.tmp 7)], none⟩,
      ⟨(some 3), .alloc 3 [(.int .i64 0)], none⟩,
      ⟨none, .st1 (.tmp 3) (.tmp 8), none⟩])
   (.seq (.reg [⟨(some 9), .fn 49 [(.tmp 3)], none⟩,
       ⟨(some 4), .mv (.tmp 9), none⟩])
    (.seq (.reg [⟨(some 10), .fa 1 (.tmp 1), none⟩,
        ⟨(some 11), .ld1 (.tmp 10), none⟩,
        ⟨(some 12), .len (.tmp 11), none⟩,
        ⟨(some 5), .mv (.tmp 12), none⟩])
     (.seq (.block 0 (.seq (.seq (.reg [⟨(some 14), .mv (.tmp 5), none⟩,
            ⟨(some 15), .bin .gtr (.tmp 14) (.const (.int .i64 7)), none⟩,
            ⟨(some 13), .mv (.tmp 15), none⟩])
         (.cond (.tmp 13)
          (.skip)
          (.seq (.reg [⟨(some 16), .mv (.tmp 5), none⟩,
              ⟨(some 17), .bin .eql (.tmp 16) (.const (.int .i64 0)), none⟩,
              ⟨(some 18), .mv (.tmp 17), none⟩,
              ⟨(some 19), .fa 0 (.tmp 1), (some (18, true))⟩,
              ⟨(some 20), .ld1 (.tmp 19), (some (18, true))⟩,
              ⟨(some 21), .bin .neq (.tmp 20) (.const (.int .i64 0)), (some (18, true))⟩,
              ⟨(some 22), .pick (.tmp 18) (.tmp 21) (.const (.bool false)), none⟩,
              ⟨(some 13), .mv (.tmp 22), none⟩])
           (.cond (.tmp 13)
            (.skip)
            (.seq (.reg [⟨(some 23), .mv (.tmp 5), none⟩,
                ⟨(some 24), .bin .gtr (.tmp 23) (.const (.int .i64 0)), none⟩,
                ⟨(some 25), .mv (.tmp 24), none⟩,
                ⟨(some 26), .ld1 (.tmp 3), (some (25, true))⟩,
                ⟨(some 27), .bin .eql (.tmp 26) (.const (.int .i64 0)), (some (25, true))⟩,
                ⟨(some 28), .mv (.tmp 27), (some (25, true))⟩,
                ⟨(some 29), .fa 1 (.tmp 1), (some (28, false))⟩,
                ⟨(some 30), .ld1 (.tmp 29), (some (28, false))⟩,
                ⟨(some 31), .mv (.tmp 5), (some (28, false))⟩,
                ⟨(some 32), .bin .sub (.tmp 31) (.const (.int .i64 1)), (some (28, false))⟩,
                ⟨(some 33), .is 3 (.tmp 30) (.tmp 32), (some (28, false))⟩,
                ⟨(some 34), .ldn 3 (.tmp 33), (some (28, false))⟩,
                ⟨(some 35), .call 39 [(.tmp 34)], (some (28, false))⟩,
                ⟨(some 36), .pick (.tmp 28) (.const (.bool true)) (.tmp 35), (some (25, true))⟩,
                ⟨(some 37), .pick (.tmp 25) (.tmp 36) (.const (.bool false)), none⟩,
                ⟨(some 13), .mv (.tmp 37), none⟩])
             (.cond (.tmp 13)
              (.skip)
              (.reg [⟨(some 38), .fa 1 (.tmp 1), none⟩,
                 ⟨(some 39), .ld1 (.tmp 38), none⟩,
                 ⟨(some 40), .mv (.tmp 4), none⟩,
                 ⟨(some 41), .call 51 [(.tmp 39), (.tmp 40)], none⟩,
                 ⟨(some 13), .mv (.tmp 41), none⟩])))))))
        (.cond (.tmp 13)
         (.seq (.reg [⟨(some 2), .mv (.const (.int .i64 180)), none⟩])
          (.ret))
         (.seq (.seq (.reg [⟨(some 43), .fa 2 (.tmp 1), none⟩,
              ⟨(some 44), .ld1 (.tmp 43), none⟩,
              ⟨(some 45), .call 52 [(.const (.int .i64 1)), (.tmp 44)], none⟩,
              ⟨(some 46), .un .not (.tmp 45), none⟩,
              ⟨(some 42), .mv (.tmp 46), none⟩])
           (.cond (.tmp 42)
            (.skip)
            (.seq (.reg [⟨(some 47), .fa 3 (.tmp 1), none⟩,
                ⟨(some 48), .ld1 (.tmp 47), none⟩,
                ⟨(some 49), .call 52 [(.const (.int .i64 2)), (.tmp 48)], none⟩,
                ⟨(some 50), .un .not (.tmp 49), none⟩,
                ⟨(some 42), .mv (.tmp 50), none⟩])
             (.cond (.tmp 42)
              (.skip)
              (.seq (.reg [⟨(some 51), .fa 4 (.tmp 1), none⟩,
                  ⟨(some 52), .ld1 (.tmp 51), none⟩,
                  ⟨(some 53), .call 52 [(.const (.int .i64 3)), (.tmp 52)], none⟩,
                  ⟨(some 54), .un .not (.tmp 53), none⟩,
                  ⟨(some 42), .mv (.tmp 54), none⟩])
               (.cond (.tmp 42)
                (.skip)
                (.reg [⟨(some 55), .fa 5 (.tmp 1), none⟩,
                   ⟨(some 56), .ld1 (.tmp 55), none⟩,
                   ⟨(some 57), .call 52 [(.const (.int .i64 4)), (.tmp 56)], none⟩,
                   ⟨(some 58), .un .not (.tmp 57), none⟩,
                   ⟨(some 42), .mv (.tmp 58), none⟩])))))))
          (.cond (.tmp 42)
           (.seq (.reg [⟨(some 2), .mv (.const (.int .i64 180)), none⟩])
            (.ret))
           (.skip))))))
      (.seq (.reg [⟨(some 2), .mv (.const (.int .i64 0)), none⟩])
       (.ret))))))
theorem k19 : fnOk Try.prog 19 = some (M19, [.t 2], 59) := by kernel_rfl
def M52 : MC :=
  .seq (.reg [⟨(some 4), .mv (.const (.bool false)), none⟩])
  (.seq (.reg [⟨(some 5), .mv (.const (.int .i64 0)), none⟩])
   (.seq (.seq (.reg [⟨(some 6), .mv (.tmp 0), none⟩])
     (.block 0 (.seq (.seq (.reg [⟨(some 8), .bin .eql (.tmp 6) (.const (.int .i64 1)), none⟩,
           ⟨(some 7), .mv (.tmp 8), none⟩])
        (.cond (.tmp 7)
         (.skip)
         (.reg [⟨(some 9), .bin .eql (.tmp 6) (.const (.int .i64 2)), none⟩,
            ⟨(some 7), .mv (.tmp 9), none⟩])))
       (.cond (.tmp 7)
        (.reg [⟨(some 5), .mv (.const (.int .i64 3)), none⟩])
        (.seq (.reg [⟨(some 11), .bin .eql (.tmp 6) (.const (.int .i64 3)), none⟩,
            ⟨(some 10), .mv (.tmp 11), none⟩])
         (.cond (.tmp 10)
          (.reg [⟨(some 5), .mv (.const (.int .i64 4)), none⟩])
          (.seq (.reg [⟨(some 13), .bin .eql (.tmp 6) (.const (.int .i64 4)), none⟩,
              ⟨(some 12), .mv (.tmp 13), none⟩])
           (.cond (.tmp 12)
            (.reg [⟨(some 5), .mv (.const (.int .i64 2)), none⟩])
            (.skip)))))))))
    (.seq (.reg [⟨(some 14), .mv (.tmp 1), none⟩,
        ⟨(some 15), .bin .geq (.tmp 14) (.const (.int .i64 1)), none⟩,
        ⟨(some 16), .mv (.tmp 15), none⟩,
        ⟨(some 17), .mv (.tmp 1), (some (16, true))⟩,
        ⟨(some 18), .mv (.tmp 5), (some (16, true))⟩,
        ⟨(some 19), .bin .leq (.tmp 17) (.tmp 18), (some (16, true))⟩,
        ⟨(some 20), .pick (.tmp 16) (.tmp 19) (.const (.bool false)), none⟩,
        ⟨(some 4), .mv (.tmp 20), none⟩])
     (.ret))))
theorem k52 : fnOk Try.prog 52 = some (M52, [.t 4], 21) := by kernel_rfl
def M51 : MC :=
  .seq (.reg [⟨(some 4), .mv (.const (.bool false)), none⟩])
  (.seq (.reg [⟨(some 5), .mv (.tmp 0), none⟩,
      ⟨(some 6), .mv (.tmp 1), none⟩,
      ⟨(some 7), .call 70 [(.tmp 5), (.tmp 6)], none⟩,
      ⟨(some 8), .bin .geq (.tmp 7) (.const (.int .i64 0)), none⟩,
      ⟨(some 4), .mv (.tmp 8), none⟩])
   (.ret))
theorem k51 : fnOk Try.prog 51 = some (M51, [.t 4], 9) := by kernel_rfl
def M70 : MC :=
  .seq (.reg [⟨(some 4), .mv (.const (.int .i64 0)), none⟩])
  (.seq (.seq (.reg [⟨(some 6), .mv (.tmp 0), none⟩,
       ⟨(some 7), .len (.tmp 6), none⟩,
       ⟨(some 8), .mv (.const (.int .i64 0)), none⟩])
    (.block 0 (.loop (.seq (.reg [⟨(some 9), .bin .lss (.tmp 8) (.tmp 7), none⟩])
       (.seq (.cond (.tmp 9)
         (.skip)
         (.exit 0))
        (.seq (.block 1 (.seq (.reg [⟨(some 10), .mv (.tmp 8), none⟩,
              ⟨(some 5), .mv (.tmp 10), none⟩])
           (.seq (.reg [⟨(some 11), .mv (.tmp 1), none⟩,
               ⟨(some 12), .mv (.tmp 0), none⟩,
               ⟨(some 13), .mv (.tmp 5), none⟩,
               ⟨(some 14), .is 3 (.tmp 12) (.tmp 13), none⟩,
               ⟨(some 15), .ldn 3 (.tmp 14), none⟩,
               ⟨(some 16), .callv (.tmp 11) [(.tmp 15)], none⟩])
            (.cond (.tmp 16)
             (.seq (.reg [⟨(some 17), .mv (.tmp 5), none⟩,
                 ⟨(some 4), .mv (.tmp 17), none⟩])
              (.ret))
             (.skip)))))
         (.reg [⟨(some 18), .bin .add (.tmp 8) (.const (.int .i64 1)), none⟩,
            ⟨(some 8), .mv (.tmp 18), none⟩])))))))
   (.seq (.reg [⟨(some 4), .mv (.const (.int .i64 (-1))), none⟩])
    (.ret)))
theorem k70 : fnOk Try.prog 70 = some (M70, [.t 4], 19) := by kernel_rfl
def M39 : MC :=
  .seq (.reg [⟨(some 1), .box 38 (.tmp 0), none⟩,
     ⟨(some 2), .mv (.const (.bool false)), none⟩])
  (.seq (.reg [⟨(some 3), .fa 0 (.tmp 1), none⟩,
      ⟨(some 4), .ld1 (.tmp 3), none⟩,
      ⟨(some 5), .bin .eql (.tmp 4) (.const (.int .i64 0)), none⟩,
      ⟨(some 6), .mv (.tmp 5), none⟩,
      ⟨(some 7), .fa 1 (.tmp 1), (some (6, true))⟩,
      ⟨(some 8), .ld1 (.tmp 7), (some (6, true))⟩,
      ⟨(some 9), .bin .eql (.tmp 8) (.const (.int .i64 0)), (some (6, true))⟩,
      ⟨(some 10), .pick (.tmp 6) (.tmp 9) (.const (.bool false)), none⟩,
      ⟨(some 11), .mv (.tmp 10), none⟩,
      ⟨(some 12), .fa 2 (.tmp 1), (some (11, true))⟩,
      ⟨(some 13), .ld1 (.tmp 12), (some (11, true))⟩,
      ⟨(some 14), .len (.tmp 13), (some (11, true))⟩,
      ⟨(some 15), .bin .eql (.tmp 14) (.const (.int .i64 0)), (some (11, true))⟩,
      ⟨(some 16), .pick (.tmp 11) (.tmp 15) (.const (.bool false)), none⟩,
      ⟨(some 2), .mv (.tmp 16), none⟩])
   (.ret))
theorem k39 : fnOk Try.prog 39 = some (M39, [.t 2], 17) := by kernel_rfl
def M49 : MC :=
  .seq (.reg [⟨(some 2), .box 38 (.tmp 0), none⟩,
     ⟨(some 3), .mv (.const (.bool false)), none⟩])
  (.seq (.reg [⟨(some 4), .ldn 3 (.tmp 2), none⟩,
      ⟨(some 5), .call 39 [(.tmp 4)], none⟩,
      ⟨(some 6), .un .not (.tmp 5), none⟩,
      ⟨(some 7), .mv (.tmp 6), none⟩,
      ⟨(some 8), .fa 0 (.tmp 2), (some (7, true))⟩,
      ⟨(some 9), .ld1 (.tmp 8), (some (7, true))⟩,
      ⟨(some 10), .call 50 [(.tmp 9)], (some (7, true))⟩,
      ⟨(some 11), .un .not (.tmp 10), (some (7, true))⟩,
      ⟨(some 12), .mv (.tmp 11), (some (7, true))⟩,
      ⟨(some 13), .fa 1 (.tmp 2), (some (12, false))⟩,
      ⟨(some 14), .ld1 (.tmp 13), (some (12, false))⟩,
      ⟨(some 15), .call 50 [(.tmp 14)], (some (12, false))⟩,
      ⟨(some 16), .un .not (.tmp 15), (some (12, false))⟩,
      ⟨(some 17), .pick (.tmp 12) (.const (.bool true)) (.tmp 16), (some (7, true))⟩,
      ⟨(some 18), .mv (.tmp 17), (some (7, true))⟩,
      ⟨(some 19), .fa 2 (.tmp 2), (some (18, false))⟩,
      ⟨(some 20), .ld1 (.tmp 19), (some (18, false))⟩,
      ⟨(some 21), .len (.tmp 20), (some (18, false))⟩,
      ⟨(some 22), .fa 0 (.tmp 2), (some (18, false))⟩,
      ⟨(some 23), .ld1 (.tmp 22), (some (18, false))⟩,
      ⟨(some 24), .fa 1 (.tmp 2), (some (18, false))⟩,
      ⟨(some 25), .ld1 (.tmp 24), (some (18, false))⟩,
      ⟨(some 26), .bin .mul (.tmp 23) (.tmp 25), (some (18, false))⟩,
      ⟨(some 27), .ld1 (.tmp 1), (some (18, false))⟩,
      ⟨(some 28), .bin .mul (.tmp 26) (.tmp 27), (some (18, false))⟩,
      ⟨(some 29), .bin .neq (.tmp 21) (.tmp 28), (some (18, false))⟩,
      ⟨(some 30), .pick (.tmp 18) (.const (.bool true)) (.tmp 29), (some (7, true))⟩,
      ⟨(some 31), .pick (.tmp 7) (.tmp 30) (.const (.bool false)), none⟩,
      ⟨(some 3), .mv (.tmp 31), none⟩])
   (.ret))
theorem k49 : fnOk Try.prog 49 = some (M49, [.t 3], 32) := by kernel_rfl
def M50 : MC :=
  .seq (.reg [⟨(some 2), .mv (.const (.bool false)), none⟩])
  (.seq (.reg [⟨(some 3), .mv (.tmp 0), none⟩,
      ⟨(some 4), .bin .gtr (.tmp 3) (.const (.int .i64 0)), none⟩,
      ⟨(some 5), .mv (.tmp 4), none⟩,
      ⟨(some 6), .mv (.tmp 0), (some (5, true))⟩,
      ⟨(some 7), .bin .leq (.tmp 6) (.const (.int .i64 64)), (some (5, true))⟩,
      ⟨(some 8), .pick (.tmp 5) (.tmp 7) (.const (.bool false)), none⟩,
      ⟨(some 2), .mv (.tmp 8), none⟩])
   (.ret))
theorem k50 : fnOk Try.prog 50 = some (M50, [.t 2], 9) := by kernel_rfl
def M48 : MC :=
  .seq (.reg [⟨(some 2), .mv (.const (.int .i64 0)), none⟩])
  (.seq (.reg [⟨(some 6), .mv (.tmp 0), none⟩,
      ⟨(some 7), .call 69 [(.tmp 6)], none⟩,
      ⟨(some 5), .mv (.tmp 7), none⟩,
      ⟨(some 8), .ext 0 (.tmp 5), none⟩,
      ⟨(some 9), .ext 1 (.tmp 5), none⟩,
      ⟨(some 3), .alloc 95 [(.int .i64 0), (.slice none 0 0), (.int .i32 0), (.int .i32 0), (.int .i32 0), (.int .i32 0)], none⟩,
      ⟨none, .stn 6 (.tmp 3) (.tmp 8), none⟩,
      ⟨(some 4), .mv (.tmp 9), none⟩])
   (.seq (.reg [⟨(some 10), .fa 0 (.tmp 3), none⟩,
       ⟨(some 11), .ld1 (.tmp 10), none⟩,
       ⟨(some 2), .mv (.tmp 11), none⟩])
    (.ret)))
theorem k48 : fnOk Try.prog 48 = some (M48, [.t 2], 12) := by kernel_rfl
def M69 : MC :=
  .seq (.reg [⟨(some 2), .alloc 95 [(.int .i64 0), (.slice none 0 0), (.int .i32 0), (.int .i32 0), (.int .i32 0), (.int .i32 0)], none⟩,
     ⟨(some 3), .mv (.const (.bool false)), none⟩])
  (.seq (.reg [⟨(some 5), .call 75 [], none⟩,
      ⟨(some 4), .mv (.tmp 5), none⟩])
   (.seq (.seq (.reg [⟨(some 6), .mv (.tmp 0), none⟩,
        ⟨(some 7), .bin .lss (.tmp 6) (.const (.int .i64 1)), none⟩,
        ⟨(some 8), .mv (.tmp 7), none⟩,
        ⟨(some 9), .mv (.tmp 0), (some (8, false))⟩,
        ⟨(some 10), .mv (.tmp 4), (some (8, false))⟩,
        ⟨(some 11), .len (.tmp 10), (some (8, false))⟩,
        ⟨(some 12), .bin .geq (.tmp 9) (.tmp 11), (some (8, false))⟩,
        ⟨(some 13), .pick (.tmp 8) (.const (.bool true)) (.tmp 12), none⟩])
     (.cond (.tmp 13)
      (.seq (.reg [⟨(some 14), .build [(.int .i64 0), (.slice none 0 0), (.int .i32 0), (.int .i32 0), (.int .i32 0), (.int .i32 0)] [], none⟩,
          ⟨none, .stn 6 (.tmp 2) (.tmp 14), none⟩,
          ⟨(some 3), .mv (.const (.bool false)), none⟩])
       (.ret))
      (.skip)))
    (.seq (.reg [⟨(some 15), .mv (.tmp 4), none⟩,
        ⟨(some 16), .mv (.tmp 0), none⟩,
        ⟨(some 17), .is 6 (.tmp 15) (.tmp 16), none⟩,
        ⟨(some 18), .ldn 6 (.tmp 17), none⟩,
        ⟨none, .stn 6 (.tmp 2) (.tmp 18), none⟩,
        ⟨(some 3), .mv (.const (.bool true)), none⟩])
     (.ret))))
theorem k69 : fnOk Try.prog 69 = some (M69, [.cn 6 2, .t 3], 19) := by kernel_rfl
def M75 : MC :=
  .seq (.reg [⟨(some 0), .mv (.const (.slice none 0 0)), none⟩])
  (.seq (.reg [⟨(some 2), .build [(.int .i32 0), (.int .i32 0), (.int .i32 0), (.int .i32 0)] [(0, 1, (.const (.int .i32 0))), (1, 1, (.const (.int .i32 0))), (2, 1, (.const (.int .i32 0))), (3, 1, (.const (.int .i32 65536)))], none⟩,
      ⟨(some 1), .alloc 93 [(.int .i32 0), (.int .i32 0), (.int .i32 0), (.int .i32 0)], none⟩,
      ⟨none, .stn 4 (.tmp 1) (.tmp 2), none⟩])
   (.seq (.reg [⟨(some 3), .build [(.int .i64 0), (.slice none 0 0), (.int .i32 0), (.int .i32 0), (.int .i32 0), (.int .i32 0)] [], none⟩,
       ⟨(some 4), .build [(.int .i64 0), (.int .i64 0), (.int .i64 0)] [(0, 1, (.const (.int .i64 0))), (1, 1, (.const (.int .i64 8))), (2, 1, (.const (.int .i64 0)))], none⟩,
       ⟨(some 5), .build [(.int .i64 0), (.int .i64 0), (.int .i64 0)] [(0, 1, (.const (.int .i64 1))), (1, 1, (.const (.int .i64 8))), (2, 1, (.const (.int .i64 8)))], none⟩,
       ⟨(some 6), .build [(.int .i64 0), (.int .i64 0), (.int .i64 0)] [(0, 1, (.const (.int .i64 2))), (1, 1, (.const (.int .i64 8))), (2, 1, (.const (.int .i64 16)))], none⟩,
       ⟨(some 7), .build [(.int .i64 0), (.int .i64 0), (.int .i64 0)] [(0, 1, (.const (.int .i64 3))), (1, 1, (.const (.int .i64 8))), (2, 1, (.const (.int .i64 24)))], none⟩,
       ⟨(some 8), .bslice 108 4 [(.int .i64 0), (.int .i64 0), (.int .i64 0), (.int .i64 0), (.int .i64 0), (.int .i64 0), (.int .i64 0), (.int .i64 0), (.int .i64 0), (.int .i64 0), (.int .i64 0), (.int .i64 0)] [(0, 3, (.tmp 4)), (3, 3, (.tmp 5)), (6, 3, (.tmp 6)), (9, 3, (.tmp 7))], none⟩,
       ⟨(some 9), .build [(.int .i32 0), (.int .i32 0), (.int .i32 0), (.int .i32 0)] [], none⟩,
       ⟨(some 10), .build [(.int .i64 0), (.slice none 0 0), (.int .i32 0), (.int .i32 0), (.int .i32 0), (.int .i32 0)] [(0, 1, (.const (.int .i64 4))), (1, 1, (.tmp 8)), (2, 4, (.tmp 9))], none⟩,
       ⟨(some 11), .build [(.int .i64 0), (.int .i64 0), (.int .i64 0)] [(0, 1, (.const (.int .i64 0))), (1, 1, (.const (.int .i64 5))), (2, 1, (.const (.int .i64 11)))], none⟩,
       ⟨(some 12), .build [(.int .i64 0), (.int .i64 0), (.int .i64 0)] [(0, 1, (.const (.int .i64 1))), (1, 1, (.const (.int .i64 6))), (2, 1, (.const (.int .i64 5)))], none⟩,
       ⟨(some 13), .build [(.int .i64 0), (.int .i64 0), (.int .i64 0)] [(0, 1, (.const (.int .i64 2))), (1, 1, (.const (.int .i64 5))), (2, 1, (.const (.int .i64 0)))], none⟩,
       ⟨(some 14), .bslice 108 3 [(.int .i64 0), (.int .i64 0), (.int .i64 0), (.int .i64 0), (.int .i64 0), (.int .i64 0), (.int .i64 0), (.int .i64 0), (.int .i64 0)] [(0, 3, (.tmp 11)), (3, 3, (.tmp 12)), (6, 3, (.tmp 13))], none⟩,
       ⟨(some 15), .ldn 4 (.tmp 1), none⟩,
       ⟨(some 16), .build [(.int .i64 0), (.slice none 0 0), (.int .i32 0), (.int .i32 0), (.int .i32 0), (.int .i32 0)] [(0, 1, (.const (.int .i64 2))), (1, 1, (.tmp 14)), (2, 4, (.tmp 15))], none⟩,
       ⟨(some 17), .build [(.int .i64 0), (.int .i64 0), (.int .i64 0)] [(0, 1, (.const (.int .i64 0))), (1, 1, (.const (.int .i64 4))), (2, 1, (.const (.int .i64 12)))], none⟩,
       ⟨(some 18), .build [(.int .i64 0), (.int .i64 0), (.int .i64 0)] [(0, 1, (.const (.int .i64 1))), (1, 1, (.const (.int .i64 4))), (2, 1, (.const (.int .i64 8)))], none⟩,
       ⟨(some 19), .build [(.int .i64 0), (.int .i64 0), (.int .i64 0)] [(0, 1, (.const (.int .i64 2))), (1, 1, (.const (.int .i64 4))), (2, 1, (.const (.int .i64 4)))], none⟩,
       ⟨(some 20), .build [(.int .i64 0), (.int .i64 0), (.int .i64 0)] [(0, 1, (.const (.int .i64 3))), (1, 1, (.const (.int .i64 4))), (2, 1, (.const (.int .i64 0)))], none⟩,
       ⟨(some 21), .bslice 108 4 [(.int .i64 0), (.int .i64 0), (.int .i64 0), (.int .i64 0), (.int .i64 0), (.int .i64 0), (.int .i64 0), (.int .i64 0), (.int .i64 0), (.int .i64 0), (.int .i64 0), (.int .i64 0)] [(0, 3, (.tmp 17)), (3, 3, (.tmp 18)), (6, 3, (.tmp 19)), (9, 3, (.tmp 20))], none⟩,
       ⟨(some 22), .build [(.int .i32 0), (.int .i32 0), (.int .i32 0), (.int .i32 0)] [], none⟩,
       ⟨(some 23), .build [(.int .i64 0), (.slice none 0 0), (.int .i32 0), (.int .i32 0), (.int .i32 0), (.int .i32 0)] [(0, 1, (.const (.int .i64 2))), (1, 1, (.tmp 21)), (2, 4, (.tmp 22))], none⟩,
       ⟨(some 24), .build [(.int .i64 0), (.int .i64 0), (.int .i64 0)] [(0, 1, (.const (.int .i64 0))), (1, 1, (.const (.int .i64 5))), (2, 1, (.const (.int .i64 11)))], none⟩,
       ⟨(some 25), .build [(.int .i64 0), (.int .i64 0), (.int .i64 0)] [(0, 1, (.const (.int .i64 1))), (1, 1, (.const (.int .i64 5))), (2, 1, (.const (.int .i64 6)))], none⟩,
       ⟨(some 26), .build [(.int .i64 0), (.int .i64 0), (.int .i64 0)] [(0, 1, (.const (.int .i64 2))), (1, 1, (.const (.int .i64 5))), (2, 1, (.const (.int .i64 1)))], none⟩,
       ⟨(some 27), .build [(.int .i64 0), (.int .i64 0), (.int .i64 0)] [(0, 1, (.const (.int .i64 3))), (1, 1, (.const (.int .i64 1))), (2, 1, (.const (.int .i64 0)))], none⟩,
       ⟨(some 28), .bslice 108 4 [(.int .i64 0), (.int .i64 0), (.int .i64 0), (.int .i64 0), (.int .i64 0), (.int .i64 0), (.int .i64 0), (.int .i64 0), (.int .i64 0), (.int .i64 0), (.int .i64 0), (.int .i64 0)] [(0, 3, (.tmp 24)), (3, 3, (.tmp 25)), (6, 3, (.tmp 26)), (9, 3, (.tmp 27))], none⟩,
       ⟨(some 29), .build [(.int .i32 0), (.int .i32 0), (.int .i32 0), (.int .i32 0)] [], none⟩,
       ⟨(some 30), .build [(.int .i64 0), (.slice none 0 0), (.int .i32 0), (.int .i32 0), (.int .i32 0), (.int .i32 0)] [(0, 1, (.const (.int .i64 2))), (1, 1, (.tmp 28)), (2, 4, (.tmp 29))], none⟩,
       ⟨(some 31), .build [(.int .i64 0), (.int .i64 0), (.int .i64 0)] [(0, 1, (.const (.int .i64 0))), (1, 1, (.const (.int .i64 8))), (2, 1, (.const (.int .i64 0)))], none⟩,
       ⟨(some 32), .bslice 108 1 [(.int .i64 0), (.int .i64 0), (.int .i64 0)] [(0, 3, (.tmp 31))], none⟩,
       ⟨(some 33), .ldn 4 (.tmp 1), none⟩,
       ⟨(some 34), .build [(.int .i64 0), (.slice none 0 0), (.int .i32 0), (.int .i32 0), (.int .i32 0), (.int .i32 0)] [(0, 1, (.const (.int .i64 1))), (1, 1, (.tmp 32)), (2, 4, (.tmp 33))], none⟩,
       ⟨(some 35), .build [(.int .i64 0), (.int .i64 0), (.int .i64 0)] [(0, 1, (.const (.int .i64 3))), (1, 1, (.const (.int .i64 8))), (2, 1, (.const (.int .i64 0)))], none⟩,
       ⟨(some 36), .bslice 108 1 [(.int .i64 0), (.int .i64 0), (.int .i64 0)] [(0, 3, (.tmp 35))], none⟩,
       ⟨(some 37), .build [(.int .i32 0), (.int .i32 0), (.int .i32 0), (.int .i32 0)] [], none⟩,
       ⟨(some 38), .build [(.int .i64 0), (.slice none 0 0), (.int .i32 0), (.int .i32 0), (.int .i32 0), (.int .i32 0)] [(0, 1, (.const (.int .i64 1))), (1, 1, (.tmp 36)), (2, 4, (.tmp 37))], none⟩,
       ⟨(some 39), .build [(.int .i64 0), (.int .i64 0), (.int .i64 0)] [(0, 1, (.const (.int .i64 0))), (1, 1, (.const (.int .i64 8))), (2, 1, (.const (.int .i64 0)))], none⟩,
       ⟨(some 40), .build [(.int .i64 0), (.int .i64 0), (.int .i64 0)] [(0, 1, (.const (.int .i64 3))), (1, 1, (.const (.int .i64 8))), (2, 1, (.const (.int .i64 8)))], none⟩,
       ⟨(some 41), .bslice 108 2 [(.int .i64 0), (.int .i64 0), (.int .i64 0), (.int .i64 0), (.int .i64 0), (.int .i64 0)] [(0, 3, (.tmp 39)), (3, 3, (.tmp 40))], none⟩,
       ⟨(some 42), .build [(.int .i32 0), (.int .i32 0), (.int .i32 0), (.int .i32 0)] [], none⟩,
       ⟨(some 43), .build [(.int .i64 0), (.slice none 0 0), (.int .i32 0), (.int .i32 0), (.int .i32 0), (.int .i32 0)] [(0, 1, (.const (.int .i64 2))), (1, 1, (.tmp 41)), (2, 4, (.tmp 42))], none⟩,
       ⟨(some 44), .bslice 95 8 [(.int .i64 0), (.slice none 0 0), (.int .i32 0), (.int .i32 0), (.int .i32 0), (.int .i32 0), (.int .i64 0), (.slice none 0 0), (.int .i32 0), (.int .i32 0), (.int .i32 0), (.int .i32 0), (.int .i64 0), (.slice none 0 0), (.int .i32 0), (.int .i32 0), (.int .i32 0), (.int .i32 0), (.int .i64 0), (.slice none 0 0), (.int .i32 0), (.int .i32 0), (.int .i32 0), (.int .i32 0), (.int .i64 0), (.slice none 0 0), (.int .i32 0), (.int .i32 0), (.int .i32 0), (.int .i32 0), (.int .i64 0), (.slice none 0 0), (.int .i32 0), (.int .i32 0), (.int .i32 0), (.int .i32 0), (.int .i64 0), (.slice none 0 0), (.int .i32 0), (.int .i32 0), (.int .i32 0), (.int .i32 0), (.int .i64 0), (.slice none 0 0), (.int .i32 0), (.int .i32 0), (.int .i32 0), (.int .i32 0)] [(0, 6, (.tmp 3)), (6, 6, (.tmp 10)), (12, 6, (.tmp 16)), (18, 6, (.tmp 23)), (24, 6, (.tmp 30)), (30, 6, (.tmp 34)), (36, 6, (.tmp 38)), (42, 6, (.tmp 43))], none⟩,
       ⟨(some 0), .mv (.tmp 44), none⟩])
    (.ret)))
theorem k75 : fnOk Try.prog 75 = some (M75, [.t 0], 45) := by kernel_rfl
def tbl : List (FuncId × (MC × List RV × Nat)) := [(19, (M19, [.t 2], 59)), (52, (M52, [.t 4], 21)), (51, (M51, [.t 4], 9)), (70, (M70, [.t 4], 19)), (39, (M39, [.t 2], 17)), (49, (M49, [.t 3], 32)), (50, (M50, [.t 2], 9)), (48, (M48, [.t 2], 12)), (69, (M69, [.cn 6 2, .t 3], 19)), (75, (M75, [.t 0], 45))]
theorem tblOk : AllOk Try.prog tbl := ⟨k19, k52, k51, k70, k39, k49, k50, k48, k69, k75, trivial⟩
theorem done : (exec (tblOf tbl) 10000 [.t 2] [.code M19] ([.agg #[.int .i64 0, .slice none 0 0, .int .i64 1, .int .i64 1, .int .i64 3, .int .i64 2]] ++ List.replicate (59 - List.length ([.agg #[.int .i64 0, .slice none 0 0, .int .i64 1, .int .i64 1, .int .i64 3, .int .i64 2]] : List Value)) undef) [] (fun u _ => eqS u (.int .i64 0))) = true := by kernel_rfl
end CheckNew
theorem x_CheckNew {w0 : World} {H : Heap} {K : Value → Heap → Prop} (h : K (.int .i64 0) H) : HCalls Try.prog w0 19 [.agg #[.int .i64 0, .slice none 0 0, .int .i64 1, .int .i64 1, .int .i64 3, .int .i64 2]] H K := hc_exec CheckNew.k19 (tblOf_ok CheckNew.tblOk) [.agg #[.int .i64 0, .slice none 0 0, .int .i64 1, .int .i64 1, .int .i64 3, .int .i64 2]] rfl 10000 rfl CheckNew.done h

/- paintboxlaw08 ImageCounts -/
def M4 : MC :=
  .seq (.reg [⟨(some 4), .mv (.const (.bool false)), none⟩])
  (.seq (.seq (.reg [⟨(some 7), .call 12 [], none⟩,
       ⟨(some 8), .un .not (.tmp 7), none⟩])
    (.cond (.tmp 8)
     (.seq (.reg [⟨(some 4), .mv (.const (.bool false)), none⟩])
      (.ret))
     (.skip)))
   (.seq (.reg [⟨(some 9), .call 18 [], none⟩,
       ⟨(some 5), .alloc 24 [(.int .i64 0), (.slice none 0 0), (.int .i64 0), (.int .i64 0), (.int .i64 0), (.int .i64 0)], none⟩,
       ⟨none, .stn 6 (.tmp 5) (.tmp 9), none⟩])
    (.seq (.reg [⟨(some 10), .fa 0 (.tmp 5), none⟩,
        ⟨(some 11), .ld1 (.tmp 10), none⟩,
        ⟨(some 12), .bin .eql (.tmp 11) (.const (.int .i64 0)), none⟩,
        ⟨(some 13), .mv (.tmp 12), none⟩,
        ⟨(some 14), .fa 1 (.tmp 5), (some (13, true))⟩,
        ⟨(some 15), .ld1 (.tmp 14), (some (13, true))⟩,
        ⟨(some 16), .len (.tmp 15), (some (13, true))⟩,
        ⟨(some 17), .bin .eql (.tmp 16) (.const (.int .i64 0)), (some (13, true))⟩,
        ⟨(some 18), .pick (.tmp 13) (.tmp 17) (.const (.bool false)), none⟩,
        ⟨(some 19), .mv (.tmp 18), none⟩,
        ⟨(some 20), .fa 2 (.tmp 5), (some (19, true))⟩,
        ⟨(some 21), .ld1 (.tmp 20), (some (19, true))⟩,
        ⟨(some 22), .bin .eql (.tmp 21) (.const (.int .i64 1)), (some (19, true))⟩,
        ⟨(some 23), .pick (.tmp 19) (.tmp 22) (.const (.bool false)), none⟩,
        ⟨(some 24), .mv (.tmp 23), none⟩,
        ⟨(some 25), .fa 3 (.tmp 5), (some (24, true))⟩,
        ⟨(some 26), .ld1 (.tmp 25), (some (24, true))⟩,
        ⟨(some 27), .bin .eql (.tmp 26) (.const (.int .i64 1)), (some (24, true))⟩,
        ⟨(some 28), .pick (.tmp 24) (.tmp 27) (.const (.bool false)), none⟩,
        ⟨(some 29), .mv (.tmp 28), none⟩,
        ⟨(some 30), .fa 4 (.tmp 5), (some (29, true))⟩,
        ⟨(some 31), .ld1 (.tmp 30), (some (29, true))⟩,
        ⟨(some 32), .bin .eql (.tmp 31) (.const (.int .i64 3)), (some (29, true))⟩,
        ⟨(some 33), .pick (.tmp 29) (.tmp 32) (.const (.bool false)), none⟩,
        ⟨(some 34), .mv (.tmp 33), none⟩,
        ⟨(some 35), .fa 5 (.tmp 5), (some (34, true))⟩,
        ⟨(some 36), .ld1 (.tmp 35), (some (34, true))⟩,
        ⟨(some 37), .bin .eql (.tmp 36) (.const (.int .i64 2)), (some (34, true))⟩,
        ⟨(some 38), .pick (.tmp 34) (.tmp 37) (.const (.bool false)), none⟩,
        ⟨(some 6), .mv (.tmp 38), none⟩])
     (.seq (.reg [⟨(some 39), .mv (.tmp 6), none⟩,
         ⟨(some 40), .mv (.tmp 39), none⟩,
         ⟨(some 41), .ldn 6 (.tmp 5), (some (40, true))⟩,
         ⟨(some 42), .call 19 [(.tmp 41)], (some (40, true))⟩,
         ⟨(some 43), .bin .eql (.tmp 42) (.const (.int .i64 0)), (some (40, true))⟩,
         ⟨(some 44), .pick (.tmp 40) (.tmp 43) (.const (.bool false)), none⟩,
         ⟨(some 45), .mv (.tmp 44), none⟩,
         ⟨(some 46), .mv (.tmp 0), (some (45, true))⟩,
         ⟨(some 47), .mv (.tmp 1), (some (45, true))⟩,
         ⟨(some 48), .call 20 [(.tmp 46), (.tmp 47)], (some (45, true))⟩,
         ⟨(some 49), .mv (.tmp 0), (some (45, true))⟩,
         ⟨(some 50), .mv (.tmp 1), (some (45, true))⟩,
         ⟨(some 51), .call 21 [(.tmp 49), (.tmp 50)], (some (45, true))⟩,
         ⟨(some 52), .bin .eql (.tmp 48) (.tmp 51), (some (45, true))⟩,
         ⟨(some 53), .pick (.tmp 45) (.tmp 52) (.const (.bool false)), none⟩,
         ⟨(some 4), .mv (.tmp 53), none⟩])
      (.ret)))))
theorem k4 : fnOk Try.prog 4 = some (M4, [.t 4], 54) := by kernel_rfl

theorem l_ImageCounts (w h : Int) (hK : K (.bool true) H) : HCalls Try.prog w0 4 [.int .i64 w, .int .i64 h] H K := by
  refine HL.hc k4 999 ?_; simp only [M4, Sh, Si, Sl, Bu, Bb, Bd, Bc, Bw, Bn, Int.reduceAdd, Int.reduceSub, Int.reduceMul, Int.reduceTDiv, Int.reduceTMod, Int.reduceMod, Int.reduceDiv, Nat.reduceLT, Nat.reduceEqDiff, decide_true, decide_false, Sa, Sb, Sc, Sd, Se, Sf, Sg, true_and, and_true, and_self, eq_self, b_i64, b_i32, b_u64, b_u32, b_u8, Int.reduceLE, Int.reduceLT, Int.reduceToNat, Int.reduceNeg, Int.reduceEq, Nat.reduceLeDiff, Nat.reducePow, Int.reducePow, Nat.min_def, reduceIte, Nat.reduceSub, Nat.reduceAdd, Nat.reduceMul, KP_same, KP_f, condS_t, condS_f, pick_t, pick_f, gS_tt, gS_ff, gS_tf, gS_ft, gS_u, gP_tt, gP_ff, gP_tf, gP_ft, gP_u, ptrV_eq, slcV_eq, cells_agg, cells_int, cells_bool, cells_ptr, cells_slice, oc_int, oc_bool, oc_slice, oc_ptr, rd1_set, rd1_ne, rdn_set, rdn_ne, Heap.set_same, set_ne, Heap.set_set, set_up, set_up2, set_up3, putAt, ceq, List.map_cons, List.map_nil, List.length_cons, List.length_nil, List.length_set, List.cons_append, List.nil_append, List.append_nil, List.replicate, List.size_toArray, List.all_cons, List.all_nil, Bool.and_self, Bool.and_true, List.drop_zero, List.drop_succ_cons, List.take_succ_cons, List.take_zero, List.set_cons_zero, List.set_cons_succ, List.getElem?_cons_zero, List.getElem?_cons_succ, Option.map_some, Option.map_none, ne_eq, not_false_eq_true, not_true_eq_false, gt_iff_lt, ge_iff_le, Int.one_mul, Nat.zero_add, Nat.zero_mul, Bool.not_true, Bool.not_false, Bool.false_eq_true, Bool.and_false, Bool.false_and, Bool.true_and]
  (try simp only [Sh, Si, Sl, Bu, Bb, Bd, Bc, Bw, Bn, Int.reduceAdd, Int.reduceSub, Int.reduceMul, Int.reduceTDiv, Int.reduceTMod, Int.reduceMod, Int.reduceDiv, Nat.reduceLT, Nat.reduceEqDiff, decide_true, decide_false, Sa, Sb, Sc, Sd, Se, Sf, Sg, true_and, and_true, and_self, eq_self, b_i64, b_i32, b_u64, b_u32, b_u8, Int.reduceLE, Int.reduceLT, Int.reduceToNat, Int.reduceNeg, Int.reduceEq, Nat.reduceLeDiff, Nat.reducePow, Int.reducePow, Nat.min_def, reduceIte, Nat.reduceSub, Nat.reduceAdd, Nat.reduceMul, KP_same, KP_f, condS_t, condS_f, pick_t, pick_f, gS_tt, gS_ff, gS_tf, gS_ft, gS_u, gP_tt, gP_ff, gP_tf, gP_ft, gP_u, ptrV_eq, slcV_eq, cells_agg, cells_int, cells_bool, cells_ptr, cells_slice, oc_int, oc_bool, oc_slice, oc_ptr, rd1_set, rd1_ne, rdn_set, rdn_ne, Heap.set_same, set_ne, Heap.set_set, set_up, set_up2, set_up3, putAt, ceq, List.map_cons, List.map_nil, List.length_cons, List.length_nil, List.length_set, List.cons_append, List.nil_append, List.append_nil, List.replicate, List.size_toArray, List.all_cons, List.all_nil, Bool.and_self, Bool.and_true, List.drop_zero, List.drop_succ_cons, List.take_succ_cons, List.take_zero, List.set_cons_zero, List.set_cons_succ, List.getElem?_cons_zero, List.getElem?_cons_succ, Option.map_some, Option.map_none, ne_eq, not_false_eq_true, not_true_eq_false, gt_iff_lt, ge_iff_le, Int.one_mul, Nat.zero_add, Nat.zero_mul, Bool.not_true, Bool.not_false, Bool.false_eq_true, Bool.and_false, Bool.false_and, Bool.true_and, *]); repeat' ((first | refine x_Wakes ?_ | refine x_New ?_ | refine x_CheckNew ?_ | refine c_Count _ _ ?_ | refine r_Count _ _ ?_ | (refine AllocQ_i ?_; intro bk hb0 hbk; try simp only [set_none'] at hbk) | (refine condS_i ?_ ?_ <;> (intro hc; try simp only [Int.reduceLE, Int.reduceLT, Int.reduceEq, and_self, not_true_eq_false, not_false_eq_true, and_true, true_and, false_and, and_false, true_or, or_true, false_or, or_false, decide_eq_true_eq, decide_eq_false_iff_not, beq_iff_eq, beq_eq_false_iff_ne, bne_iff_ne, ne_eq, gt_iff_lt, ge_iff_le, Bool.not_eq_true, Bool.not_eq_false, Bool.not_eq_true', Bool.not_eq_false', Bool.not_eq_eq_eq_not, Bool.not_true, Bool.not_false] at hc)) | (refine pick_i ?_ ?_ <;> (intro hc; try simp only [Int.reduceLE, Int.reduceLT, Int.reduceEq, and_self, not_true_eq_false, not_false_eq_true, and_true, true_and, false_and, and_false, true_or, or_true, false_or, or_false, decide_eq_true_eq, decide_eq_false_iff_not, beq_iff_eq, beq_eq_false_iff_ne, bne_iff_ne, ne_eq, gt_iff_lt, ge_iff_le, Bool.not_eq_true, Bool.not_eq_false, Bool.not_eq_true', Bool.not_eq_false', Bool.not_eq_eq_eq_not, Bool.not_true, Bool.not_false] at hc)) | (refine gS_it ?_ ?_ <;> (intro hc; try simp only [Int.reduceLE, Int.reduceLT, Int.reduceEq, and_self, not_true_eq_false, not_false_eq_true, and_true, true_and, false_and, and_false, true_or, or_true, false_or, or_false, decide_eq_true_eq, decide_eq_false_iff_not, beq_iff_eq, beq_eq_false_iff_ne, bne_iff_ne, ne_eq, gt_iff_lt, ge_iff_le, Bool.not_eq_true, Bool.not_eq_false, Bool.not_eq_true', Bool.not_eq_false', Bool.not_eq_eq_eq_not, Bool.not_true, Bool.not_false] at hc)) | (refine gS_if ?_ ?_ <;> (intro hc; try simp only [Int.reduceLE, Int.reduceLT, Int.reduceEq, and_self, not_true_eq_false, not_false_eq_true, and_true, true_and, false_and, and_false, true_or, or_true, false_or, or_false, decide_eq_true_eq, decide_eq_false_iff_not, beq_iff_eq, beq_eq_false_iff_ne, bne_iff_ne, ne_eq, gt_iff_lt, ge_iff_le, Bool.not_eq_true, Bool.not_eq_false, Bool.not_eq_true', Bool.not_eq_false', Bool.not_eq_eq_eq_not, Bool.not_true, Bool.not_false] at hc)) | (refine gP_it ?_ ?_ <;> (intro hc; try simp only [Int.reduceLE, Int.reduceLT, Int.reduceEq, and_self, not_true_eq_false, not_false_eq_true, and_true, true_and, false_and, and_false, true_or, or_true, false_or, or_false, decide_eq_true_eq, decide_eq_false_iff_not, beq_iff_eq, beq_eq_false_iff_ne, bne_iff_ne, ne_eq, gt_iff_lt, ge_iff_le, Bool.not_eq_true, Bool.not_eq_false, Bool.not_eq_true', Bool.not_eq_false', Bool.not_eq_eq_eq_not, Bool.not_true, Bool.not_false] at hc)) | (refine gP_if ?_ ?_ <;> (intro hc; try simp only [Int.reduceLE, Int.reduceLT, Int.reduceEq, and_self, not_true_eq_false, not_false_eq_true, and_true, true_and, false_and, and_false, true_or, or_true, false_or, or_false, decide_eq_true_eq, decide_eq_false_iff_not, beq_iff_eq, beq_eq_false_iff_ne, bne_iff_ne, ne_eq, gt_iff_lt, ge_iff_le, Bool.not_eq_true, Bool.not_eq_false, Bool.not_eq_true', Bool.not_eq_false', Bool.not_eq_eq_eq_not, Bool.not_true, Bool.not_false] at hc)) | (with_reducible refine And.intro ?_ ?_)) <;> (try simp only [Sh, Si, Sl, Bu, Bb, Bd, Bc, Bw, Bn, Int.reduceAdd, Int.reduceSub, Int.reduceMul, Int.reduceTDiv, Int.reduceTMod, Int.reduceMod, Int.reduceDiv, Nat.reduceLT, Nat.reduceEqDiff, decide_true, decide_false, Sa, Sb, Sc, Sd, Se, Sf, Sg, true_and, and_true, and_self, eq_self, b_i64, b_i32, b_u64, b_u32, b_u8, Int.reduceLE, Int.reduceLT, Int.reduceToNat, Int.reduceNeg, Int.reduceEq, Nat.reduceLeDiff, Nat.reducePow, Int.reducePow, Nat.min_def, reduceIte, Nat.reduceSub, Nat.reduceAdd, Nat.reduceMul, KP_same, KP_f, condS_t, condS_f, pick_t, pick_f, gS_tt, gS_ff, gS_tf, gS_ft, gS_u, gP_tt, gP_ff, gP_tf, gP_ft, gP_u, ptrV_eq, slcV_eq, cells_agg, cells_int, cells_bool, cells_ptr, cells_slice, oc_int, oc_bool, oc_slice, oc_ptr, rd1_set, rd1_ne, rdn_set, rdn_ne, Heap.set_same, set_ne, Heap.set_set, set_up, set_up2, set_up3, putAt, ceq, List.map_cons, List.map_nil, List.length_cons, List.length_nil, List.length_set, List.cons_append, List.nil_append, List.append_nil, List.replicate, List.size_toArray, List.all_cons, List.all_nil, Bool.and_self, Bool.and_true, List.drop_zero, List.drop_succ_cons, List.take_succ_cons, List.take_zero, List.set_cons_zero, List.set_cons_succ, List.getElem?_cons_zero, List.getElem?_cons_succ, Option.map_some, Option.map_none, ne_eq, not_false_eq_true, not_true_eq_false, gt_iff_lt, ge_iff_le, Int.one_mul, Nat.zero_add, Nat.zero_mul, Bool.not_true, Bool.not_false, Bool.false_eq_true, Bool.and_false, Bool.false_and, Bool.true_and, *]))
  all_goals exact Fin_mk (by (repeat' (first | exact Heap.Le.refl _ | (refine Le_fresh (by simp only [*]) ?_)))) hK
end Go.Proofs.Ytdaipgnhconfnaa
