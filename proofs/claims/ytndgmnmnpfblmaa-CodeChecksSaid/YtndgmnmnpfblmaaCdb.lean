/- What an instruction reads and writes, by both (layer 16). -/
import Derived.Test.YtndgmnmnpfblmaaCda
import Derived.Test.YtndgmnmnpfblmaaHlu
import Derived.Test.YtndgmnmnpfblmaaPd
set_option linter.unusedSimpArgs false
set_option linter.unusedVariables false
set_option maxRecDepth 100000
set_option maxHeartbeats 4000000
namespace Go.Proofs.Ytndgmnmnpfblmaa
open Go.HL Go.RowKit Pb
variable {w0 : World} {H : Heap} {K : Value → Heap → Prop}

def below (x n : Int) : Bool := decide (0 ≤ x ∧ x < n)
def sized (n : Int) : Bool := decide (1 ≤ n ∧ n ≤ 4)
def isBase (b : Int) : Bool := decide (1 ≤ b ∧ b ≤ 3)
/- code below -/
def M30 : MC :=
  .seq (.reg [⟨(some 4), .mv (.const (.bool false)), none⟩])
  (.seq (.reg [⟨(some 5), .mv (.tmp 0), none⟩,
      ⟨(some 6), .bin .geq (.tmp 5) (.const (.int .i64 0)), none⟩,
      ⟨(some 7), .mv (.tmp 6), none⟩,
      ⟨(some 8), .mv (.tmp 0), (some (7, true))⟩,
      ⟨(some 9), .mv (.tmp 1), (some (7, true))⟩,
      ⟨(some 10), .bin .lss (.tmp 8) (.tmp 9), (some (7, true))⟩,
      ⟨(some 11), .pick (.tmp 7) (.tmp 10) (.const (.bool false)), none⟩,
      ⟨(some 4), .mv (.tmp 11), none⟩])
   (.ret))
theorem k30 : fnOk Try.prog 30 = some (M30, [.t 4], 12) := by kernel_rfl
/- code sized -/
def M47 : MC :=
  .seq (.reg [⟨(some 2), .mv (.const (.bool false)), none⟩])
  (.seq (.reg [⟨(some 3), .mv (.tmp 0), none⟩,
      ⟨(some 4), .bin .geq (.tmp 3) (.const (.int .i64 1)), none⟩,
      ⟨(some 5), .mv (.tmp 4), none⟩,
      ⟨(some 6), .mv (.tmp 0), (some (5, true))⟩,
      ⟨(some 7), .bin .leq (.tmp 6) (.const (.int .i64 4)), (some (5, true))⟩,
      ⟨(some 8), .pick (.tmp 5) (.tmp 7) (.const (.bool false)), none⟩,
      ⟨(some 2), .mv (.tmp 8), none⟩])
   (.ret))
theorem k47 : fnOk Try.prog 47 = some (M47, [.t 2], 9) := by kernel_rfl
/- code base -/
def M49 : MC :=
  .seq (.reg [⟨(some 2), .mv (.const (.bool false)), none⟩])
  (.seq (.reg [⟨(some 3), .mv (.tmp 0), none⟩,
      ⟨(some 4), .bin .geq (.tmp 3) (.const (.int .i64 1)), none⟩,
      ⟨(some 5), .mv (.tmp 4), none⟩,
      ⟨(some 6), .mv (.tmp 0), (some (5, true))⟩,
      ⟨(some 7), .bin .leq (.tmp 6) (.const (.int .i64 3)), (some (5, true))⟩,
      ⟨(some 8), .pick (.tmp 5) (.tmp 7) (.const (.bool false)), none⟩,
      ⟨(some 2), .mv (.tmp 8), none⟩])
   (.ret))
theorem k49 : fnOk Try.prog 49 = some (M49, [.t 2], 9) := by kernel_rfl
/- paintboxref16 in -/
def M51 : MC :=
  .seq (.reg [⟨(some 4), .mv (.const (.bool false)), none⟩])
  (.seq (.reg [⟨(some 5), .mv (.tmp 0), none⟩,
      ⟨(some 6), .bin .geq (.tmp 5) (.const (.int .i64 0)), none⟩,
      ⟨(some 7), .mv (.tmp 6), none⟩,
      ⟨(some 8), .mv (.tmp 0), (some (7, true))⟩,
      ⟨(some 9), .mv (.tmp 1), (some (7, true))⟩,
      ⟨(some 10), .bin .lss (.tmp 8) (.tmp 9), (some (7, true))⟩,
      ⟨(some 11), .pick (.tmp 7) (.tmp 10) (.const (.bool false)), none⟩,
      ⟨(some 4), .mv (.tmp 11), none⟩])
   (.ret))
theorem k51 : fnOk Try.prog 51 = some (M51, [.t 4], 12) := by kernel_rfl
/- paintboxref16 base -/
def M59 : MC :=
  .seq (.reg [⟨(some 2), .mv (.const (.bool false)), none⟩])
  (.seq (.reg [⟨(some 3), .mv (.tmp 0), none⟩,
      ⟨(some 4), .bin .geq (.tmp 3) (.const (.int .i64 1)), none⟩,
      ⟨(some 5), .mv (.tmp 4), none⟩,
      ⟨(some 6), .mv (.tmp 0), (some (5, true))⟩,
      ⟨(some 7), .bin .leq (.tmp 6) (.const (.int .i64 3)), (some (5, true))⟩,
      ⟨(some 8), .pick (.tmp 5) (.tmp 7) (.const (.bool false)), none⟩,
      ⟨(some 2), .mv (.tmp 8), none⟩])
   (.ret))
theorem k59 : fnOk Try.prog 59 = some (M59, [.t 2], 9) := by kernel_rfl

theorem c_below (x n : Int) (h : K (.bool (below x n)) H) : HCalls Try.prog w0 30 [.int .i64 x, .int .i64 n] H K := by
  refine HL.hc k30 999 ?_; unfold M30
  (all_goals (try simp only [Sh,Si,Sl,Bu,Bb,Bd,Bc,Bw,Bn,Int.reduceAdd,Int.reduceSub,Int.reduceMul,Int.reduceTDiv,Int.reduceTMod,Int.reduceMod,Int.reduceDiv,Nat.reduceLT,Nat.reduceEqDiff,decide_true,decide_false,Sa,Sb,Sc,Sd,Se,Sf,Sg,true_and,and_true,and_self,eq_self,b_i64,b_i32,b_u64,b_u32,b_u8,Int.reduceLE,Int.reduceLT,Int.reduceToNat,Int.reduceNeg,Int.reduceEq,Nat.reduceLeDiff,Nat.reducePow,Int.reducePow,Nat.min_def,reduceIte,Nat.reduceSub,Nat.reduceAdd,Nat.reduceMul,KP_same,KP_f,condS_t,condS_f,pick_t,pick_f,gS_tt,gS_ff,gS_tf,gS_ft,gS_u,gP_tt,gP_ff,gP_tf,gP_ft,gP_u,ptrV_eq,slcV_eq,mapV_eq,cells_agg,cells_int,cells_bool,cells_ptr,cells_slice,oc_int,oc_bool,oc_slice,oc_ptr,rd1_set,rd1_ne,rdn_set,rdn_ne,Heap.set_same,set_ne,Heap.set_set,set_up,set_up2,set_up3,putAt,ceq,List.map_cons,List.map_nil,List.length_cons,List.length_nil,List.length_set,List.cons_append,List.nil_append,List.append_nil,List.replicate,List.size_toArray,List.all_cons,List.all_nil,Bool.and_self,Bool.and_true,List.drop_zero,List.drop_succ_cons,List.take_succ_cons,List.take_zero,List.set_cons_zero,List.set_cons_succ,List.getElem?_cons_zero,List.getElem?_cons_succ,Option.map_some,Option.map_none,ne_eq,not_false_eq_true,not_true_eq_false,gt_iff_lt,ge_iff_le,Int.one_mul,Nat.zero_add,Nat.zero_mul,Bool.not_true,Bool.not_false,Bool.false_eq_true,Bool.and_false,Bool.false_and,Bool.true_and, *])); repeat' ((first | (with_reducible refine fun _ : True => ?_) | (with_reducible refine any_h ?_) | ((first | refine AllocQ_i ?_ | refine AllocO_i ?_); intro bk hb0 hbk; try simp only [set_none'] at hbk) | ((first | refine condS_i ?_ ?_ | refine pick_i ?_ ?_ | refine gS_it ?_ ?_ | refine gS_if ?_ ?_ | refine gP_it ?_ ?_ | refine gP_if ?_ ?_) <;> (intro hc; try simp only [Int.reduceLE,Int.reduceLT,Int.reduceEq,and_self,not_true_eq_false,not_false_eq_true,and_true,true_and,false_and,and_false,true_or,or_true,false_or,or_false,decide_eq_true_eq,decide_eq_false_iff_not,beq_iff_eq,beq_eq_false_iff_ne,bne_iff_ne,ne_eq,gt_iff_lt,ge_iff_le,Bool.not_eq_true,Bool.not_eq_false,Bool.not_eq_true',Bool.not_eq_false',Bool.not_eq_eq_eq_not,Bool.not_true,Bool.not_false] at hc; try (exfalso; omega))) | (refine KP_i (by (repeat' (first | exact Heap.Le.refl _ | (refine Le_fresh (by first | exact (by simp only [*]) | exact (by simp [set_none', *])) ?_) | (refine Heap.Le.trans ?_ (Grow.le (by assumption)))))) ?_) | (with_reducible refine And.intro ?_ ?_)) <;> (try simp only [Sh,Si,Sl,Bu,Bb,Bd,Bc,Bw,Bn,Int.reduceAdd,Int.reduceSub,Int.reduceMul,Int.reduceTDiv,Int.reduceTMod,Int.reduceMod,Int.reduceDiv,Nat.reduceLT,Nat.reduceEqDiff,decide_true,decide_false,Sa,Sb,Sc,Sd,Se,Sf,Sg,true_and,and_true,and_self,eq_self,b_i64,b_i32,b_u64,b_u32,b_u8,Int.reduceLE,Int.reduceLT,Int.reduceToNat,Int.reduceNeg,Int.reduceEq,Nat.reduceLeDiff,Nat.reducePow,Int.reducePow,Nat.min_def,reduceIte,Nat.reduceSub,Nat.reduceAdd,Nat.reduceMul,KP_same,KP_f,condS_t,condS_f,pick_t,pick_f,gS_tt,gS_ff,gS_tf,gS_ft,gS_u,gP_tt,gP_ff,gP_tf,gP_ft,gP_u,ptrV_eq,slcV_eq,mapV_eq,cells_agg,cells_int,cells_bool,cells_ptr,cells_slice,oc_int,oc_bool,oc_slice,oc_ptr,rd1_set,rd1_ne,rdn_set,rdn_ne,Heap.set_same,set_ne,Heap.set_set,set_up,set_up2,set_up3,putAt,ceq,List.map_cons,List.map_nil,List.length_cons,List.length_nil,List.length_set,List.cons_append,List.nil_append,List.append_nil,List.replicate,List.size_toArray,List.all_cons,List.all_nil,Bool.and_self,Bool.and_true,List.drop_zero,List.drop_succ_cons,List.take_succ_cons,List.take_zero,List.set_cons_zero,List.set_cons_succ,List.getElem?_cons_zero,List.getElem?_cons_succ,Option.map_some,Option.map_none,ne_eq,not_false_eq_true,not_true_eq_false,gt_iff_lt,ge_iff_le,Int.one_mul,Nat.zero_add,Nat.zero_mul,Bool.not_true,Bool.not_false,Bool.false_eq_true,Bool.and_false,Bool.false_and,Bool.true_and, *]))
  all_goals refine Fin_mk (Heap.Le.refl _) (K_bool h ?_)
  all_goals (unfold below; simp; try omega)
theorem r_in (x n : Int) (h : K (.bool (below x n)) H) : HCalls Try.prog w0 51 [.int .i64 x, .int .i64 n] H K := by
  refine HL.hc k51 999 ?_; unfold M51
  (all_goals (try simp only [Sh,Si,Sl,Bu,Bb,Bd,Bc,Bw,Bn,Int.reduceAdd,Int.reduceSub,Int.reduceMul,Int.reduceTDiv,Int.reduceTMod,Int.reduceMod,Int.reduceDiv,Nat.reduceLT,Nat.reduceEqDiff,decide_true,decide_false,Sa,Sb,Sc,Sd,Se,Sf,Sg,true_and,and_true,and_self,eq_self,b_i64,b_i32,b_u64,b_u32,b_u8,Int.reduceLE,Int.reduceLT,Int.reduceToNat,Int.reduceNeg,Int.reduceEq,Nat.reduceLeDiff,Nat.reducePow,Int.reducePow,Nat.min_def,reduceIte,Nat.reduceSub,Nat.reduceAdd,Nat.reduceMul,KP_same,KP_f,condS_t,condS_f,pick_t,pick_f,gS_tt,gS_ff,gS_tf,gS_ft,gS_u,gP_tt,gP_ff,gP_tf,gP_ft,gP_u,ptrV_eq,slcV_eq,mapV_eq,cells_agg,cells_int,cells_bool,cells_ptr,cells_slice,oc_int,oc_bool,oc_slice,oc_ptr,rd1_set,rd1_ne,rdn_set,rdn_ne,Heap.set_same,set_ne,Heap.set_set,set_up,set_up2,set_up3,putAt,ceq,List.map_cons,List.map_nil,List.length_cons,List.length_nil,List.length_set,List.cons_append,List.nil_append,List.append_nil,List.replicate,List.size_toArray,List.all_cons,List.all_nil,Bool.and_self,Bool.and_true,List.drop_zero,List.drop_succ_cons,List.take_succ_cons,List.take_zero,List.set_cons_zero,List.set_cons_succ,List.getElem?_cons_zero,List.getElem?_cons_succ,Option.map_some,Option.map_none,ne_eq,not_false_eq_true,not_true_eq_false,gt_iff_lt,ge_iff_le,Int.one_mul,Nat.zero_add,Nat.zero_mul,Bool.not_true,Bool.not_false,Bool.false_eq_true,Bool.and_false,Bool.false_and,Bool.true_and, *])); repeat' ((first | (with_reducible refine fun _ : True => ?_) | (with_reducible refine any_h ?_) | ((first | refine AllocQ_i ?_ | refine AllocO_i ?_); intro bk hb0 hbk; try simp only [set_none'] at hbk) | ((first | refine condS_i ?_ ?_ | refine pick_i ?_ ?_ | refine gS_it ?_ ?_ | refine gS_if ?_ ?_ | refine gP_it ?_ ?_ | refine gP_if ?_ ?_) <;> (intro hc; try simp only [Int.reduceLE,Int.reduceLT,Int.reduceEq,and_self,not_true_eq_false,not_false_eq_true,and_true,true_and,false_and,and_false,true_or,or_true,false_or,or_false,decide_eq_true_eq,decide_eq_false_iff_not,beq_iff_eq,beq_eq_false_iff_ne,bne_iff_ne,ne_eq,gt_iff_lt,ge_iff_le,Bool.not_eq_true,Bool.not_eq_false,Bool.not_eq_true',Bool.not_eq_false',Bool.not_eq_eq_eq_not,Bool.not_true,Bool.not_false] at hc; try (exfalso; omega))) | (refine KP_i (by (repeat' (first | exact Heap.Le.refl _ | (refine Le_fresh (by first | exact (by simp only [*]) | exact (by simp [set_none', *])) ?_) | (refine Heap.Le.trans ?_ (Grow.le (by assumption)))))) ?_) | (with_reducible refine And.intro ?_ ?_)) <;> (try simp only [Sh,Si,Sl,Bu,Bb,Bd,Bc,Bw,Bn,Int.reduceAdd,Int.reduceSub,Int.reduceMul,Int.reduceTDiv,Int.reduceTMod,Int.reduceMod,Int.reduceDiv,Nat.reduceLT,Nat.reduceEqDiff,decide_true,decide_false,Sa,Sb,Sc,Sd,Se,Sf,Sg,true_and,and_true,and_self,eq_self,b_i64,b_i32,b_u64,b_u32,b_u8,Int.reduceLE,Int.reduceLT,Int.reduceToNat,Int.reduceNeg,Int.reduceEq,Nat.reduceLeDiff,Nat.reducePow,Int.reducePow,Nat.min_def,reduceIte,Nat.reduceSub,Nat.reduceAdd,Nat.reduceMul,KP_same,KP_f,condS_t,condS_f,pick_t,pick_f,gS_tt,gS_ff,gS_tf,gS_ft,gS_u,gP_tt,gP_ff,gP_tf,gP_ft,gP_u,ptrV_eq,slcV_eq,mapV_eq,cells_agg,cells_int,cells_bool,cells_ptr,cells_slice,oc_int,oc_bool,oc_slice,oc_ptr,rd1_set,rd1_ne,rdn_set,rdn_ne,Heap.set_same,set_ne,Heap.set_set,set_up,set_up2,set_up3,putAt,ceq,List.map_cons,List.map_nil,List.length_cons,List.length_nil,List.length_set,List.cons_append,List.nil_append,List.append_nil,List.replicate,List.size_toArray,List.all_cons,List.all_nil,Bool.and_self,Bool.and_true,List.drop_zero,List.drop_succ_cons,List.take_succ_cons,List.take_zero,List.set_cons_zero,List.set_cons_succ,List.getElem?_cons_zero,List.getElem?_cons_succ,Option.map_some,Option.map_none,ne_eq,not_false_eq_true,not_true_eq_false,gt_iff_lt,ge_iff_le,Int.one_mul,Nat.zero_add,Nat.zero_mul,Bool.not_true,Bool.not_false,Bool.false_eq_true,Bool.and_false,Bool.false_and,Bool.true_and, *]))
  all_goals refine Fin_mk (Heap.Le.refl _) (K_bool h ?_)
  all_goals (unfold below; simp; try omega)
theorem c_sized (n : Int) (h : K (.bool (sized n)) H) : HCalls Try.prog w0 47 [.int .i64 n] H K := by
  refine HL.hc k47 999 ?_; unfold M47
  (all_goals (try simp only [Sh,Si,Sl,Bu,Bb,Bd,Bc,Bw,Bn,Int.reduceAdd,Int.reduceSub,Int.reduceMul,Int.reduceTDiv,Int.reduceTMod,Int.reduceMod,Int.reduceDiv,Nat.reduceLT,Nat.reduceEqDiff,decide_true,decide_false,Sa,Sb,Sc,Sd,Se,Sf,Sg,true_and,and_true,and_self,eq_self,b_i64,b_i32,b_u64,b_u32,b_u8,Int.reduceLE,Int.reduceLT,Int.reduceToNat,Int.reduceNeg,Int.reduceEq,Nat.reduceLeDiff,Nat.reducePow,Int.reducePow,Nat.min_def,reduceIte,Nat.reduceSub,Nat.reduceAdd,Nat.reduceMul,KP_same,KP_f,condS_t,condS_f,pick_t,pick_f,gS_tt,gS_ff,gS_tf,gS_ft,gS_u,gP_tt,gP_ff,gP_tf,gP_ft,gP_u,ptrV_eq,slcV_eq,mapV_eq,cells_agg,cells_int,cells_bool,cells_ptr,cells_slice,oc_int,oc_bool,oc_slice,oc_ptr,rd1_set,rd1_ne,rdn_set,rdn_ne,Heap.set_same,set_ne,Heap.set_set,set_up,set_up2,set_up3,putAt,ceq,List.map_cons,List.map_nil,List.length_cons,List.length_nil,List.length_set,List.cons_append,List.nil_append,List.append_nil,List.replicate,List.size_toArray,List.all_cons,List.all_nil,Bool.and_self,Bool.and_true,List.drop_zero,List.drop_succ_cons,List.take_succ_cons,List.take_zero,List.set_cons_zero,List.set_cons_succ,List.getElem?_cons_zero,List.getElem?_cons_succ,Option.map_some,Option.map_none,ne_eq,not_false_eq_true,not_true_eq_false,gt_iff_lt,ge_iff_le,Int.one_mul,Nat.zero_add,Nat.zero_mul,Bool.not_true,Bool.not_false,Bool.false_eq_true,Bool.and_false,Bool.false_and,Bool.true_and, *])); repeat' ((first | (with_reducible refine fun _ : True => ?_) | (with_reducible refine any_h ?_) | ((first | refine AllocQ_i ?_ | refine AllocO_i ?_); intro bk hb0 hbk; try simp only [set_none'] at hbk) | ((first | refine condS_i ?_ ?_ | refine pick_i ?_ ?_ | refine gS_it ?_ ?_ | refine gS_if ?_ ?_ | refine gP_it ?_ ?_ | refine gP_if ?_ ?_) <;> (intro hc; try simp only [Int.reduceLE,Int.reduceLT,Int.reduceEq,and_self,not_true_eq_false,not_false_eq_true,and_true,true_and,false_and,and_false,true_or,or_true,false_or,or_false,decide_eq_true_eq,decide_eq_false_iff_not,beq_iff_eq,beq_eq_false_iff_ne,bne_iff_ne,ne_eq,gt_iff_lt,ge_iff_le,Bool.not_eq_true,Bool.not_eq_false,Bool.not_eq_true',Bool.not_eq_false',Bool.not_eq_eq_eq_not,Bool.not_true,Bool.not_false] at hc; try (exfalso; omega))) | (refine KP_i (by (repeat' (first | exact Heap.Le.refl _ | (refine Le_fresh (by first | exact (by simp only [*]) | exact (by simp [set_none', *])) ?_) | (refine Heap.Le.trans ?_ (Grow.le (by assumption)))))) ?_) | (with_reducible refine And.intro ?_ ?_)) <;> (try simp only [Sh,Si,Sl,Bu,Bb,Bd,Bc,Bw,Bn,Int.reduceAdd,Int.reduceSub,Int.reduceMul,Int.reduceTDiv,Int.reduceTMod,Int.reduceMod,Int.reduceDiv,Nat.reduceLT,Nat.reduceEqDiff,decide_true,decide_false,Sa,Sb,Sc,Sd,Se,Sf,Sg,true_and,and_true,and_self,eq_self,b_i64,b_i32,b_u64,b_u32,b_u8,Int.reduceLE,Int.reduceLT,Int.reduceToNat,Int.reduceNeg,Int.reduceEq,Nat.reduceLeDiff,Nat.reducePow,Int.reducePow,Nat.min_def,reduceIte,Nat.reduceSub,Nat.reduceAdd,Nat.reduceMul,KP_same,KP_f,condS_t,condS_f,pick_t,pick_f,gS_tt,gS_ff,gS_tf,gS_ft,gS_u,gP_tt,gP_ff,gP_tf,gP_ft,gP_u,ptrV_eq,slcV_eq,mapV_eq,cells_agg,cells_int,cells_bool,cells_ptr,cells_slice,oc_int,oc_bool,oc_slice,oc_ptr,rd1_set,rd1_ne,rdn_set,rdn_ne,Heap.set_same,set_ne,Heap.set_set,set_up,set_up2,set_up3,putAt,ceq,List.map_cons,List.map_nil,List.length_cons,List.length_nil,List.length_set,List.cons_append,List.nil_append,List.append_nil,List.replicate,List.size_toArray,List.all_cons,List.all_nil,Bool.and_self,Bool.and_true,List.drop_zero,List.drop_succ_cons,List.take_succ_cons,List.take_zero,List.set_cons_zero,List.set_cons_succ,List.getElem?_cons_zero,List.getElem?_cons_succ,Option.map_some,Option.map_none,ne_eq,not_false_eq_true,not_true_eq_false,gt_iff_lt,ge_iff_le,Int.one_mul,Nat.zero_add,Nat.zero_mul,Bool.not_true,Bool.not_false,Bool.false_eq_true,Bool.and_false,Bool.false_and,Bool.true_and, *]))
  all_goals refine Fin_mk (Heap.Le.refl _) (K_bool h ?_)
  all_goals (unfold sized; simp; try omega)
theorem c_base (n : Int) (h : K (.bool (isBase n)) H) : HCalls Try.prog w0 49 [.int .i64 n] H K := by
  refine HL.hc k49 999 ?_; unfold M49
  (all_goals (try simp only [Sh,Si,Sl,Bu,Bb,Bd,Bc,Bw,Bn,Int.reduceAdd,Int.reduceSub,Int.reduceMul,Int.reduceTDiv,Int.reduceTMod,Int.reduceMod,Int.reduceDiv,Nat.reduceLT,Nat.reduceEqDiff,decide_true,decide_false,Sa,Sb,Sc,Sd,Se,Sf,Sg,true_and,and_true,and_self,eq_self,b_i64,b_i32,b_u64,b_u32,b_u8,Int.reduceLE,Int.reduceLT,Int.reduceToNat,Int.reduceNeg,Int.reduceEq,Nat.reduceLeDiff,Nat.reducePow,Int.reducePow,Nat.min_def,reduceIte,Nat.reduceSub,Nat.reduceAdd,Nat.reduceMul,KP_same,KP_f,condS_t,condS_f,pick_t,pick_f,gS_tt,gS_ff,gS_tf,gS_ft,gS_u,gP_tt,gP_ff,gP_tf,gP_ft,gP_u,ptrV_eq,slcV_eq,mapV_eq,cells_agg,cells_int,cells_bool,cells_ptr,cells_slice,oc_int,oc_bool,oc_slice,oc_ptr,rd1_set,rd1_ne,rdn_set,rdn_ne,Heap.set_same,set_ne,Heap.set_set,set_up,set_up2,set_up3,putAt,ceq,List.map_cons,List.map_nil,List.length_cons,List.length_nil,List.length_set,List.cons_append,List.nil_append,List.append_nil,List.replicate,List.size_toArray,List.all_cons,List.all_nil,Bool.and_self,Bool.and_true,List.drop_zero,List.drop_succ_cons,List.take_succ_cons,List.take_zero,List.set_cons_zero,List.set_cons_succ,List.getElem?_cons_zero,List.getElem?_cons_succ,Option.map_some,Option.map_none,ne_eq,not_false_eq_true,not_true_eq_false,gt_iff_lt,ge_iff_le,Int.one_mul,Nat.zero_add,Nat.zero_mul,Bool.not_true,Bool.not_false,Bool.false_eq_true,Bool.and_false,Bool.false_and,Bool.true_and, *])); repeat' ((first | (with_reducible refine fun _ : True => ?_) | (with_reducible refine any_h ?_) | ((first | refine AllocQ_i ?_ | refine AllocO_i ?_); intro bk hb0 hbk; try simp only [set_none'] at hbk) | ((first | refine condS_i ?_ ?_ | refine pick_i ?_ ?_ | refine gS_it ?_ ?_ | refine gS_if ?_ ?_ | refine gP_it ?_ ?_ | refine gP_if ?_ ?_) <;> (intro hc; try simp only [Int.reduceLE,Int.reduceLT,Int.reduceEq,and_self,not_true_eq_false,not_false_eq_true,and_true,true_and,false_and,and_false,true_or,or_true,false_or,or_false,decide_eq_true_eq,decide_eq_false_iff_not,beq_iff_eq,beq_eq_false_iff_ne,bne_iff_ne,ne_eq,gt_iff_lt,ge_iff_le,Bool.not_eq_true,Bool.not_eq_false,Bool.not_eq_true',Bool.not_eq_false',Bool.not_eq_eq_eq_not,Bool.not_true,Bool.not_false] at hc; try (exfalso; omega))) | (refine KP_i (by (repeat' (first | exact Heap.Le.refl _ | (refine Le_fresh (by first | exact (by simp only [*]) | exact (by simp [set_none', *])) ?_) | (refine Heap.Le.trans ?_ (Grow.le (by assumption)))))) ?_) | (with_reducible refine And.intro ?_ ?_)) <;> (try simp only [Sh,Si,Sl,Bu,Bb,Bd,Bc,Bw,Bn,Int.reduceAdd,Int.reduceSub,Int.reduceMul,Int.reduceTDiv,Int.reduceTMod,Int.reduceMod,Int.reduceDiv,Nat.reduceLT,Nat.reduceEqDiff,decide_true,decide_false,Sa,Sb,Sc,Sd,Se,Sf,Sg,true_and,and_true,and_self,eq_self,b_i64,b_i32,b_u64,b_u32,b_u8,Int.reduceLE,Int.reduceLT,Int.reduceToNat,Int.reduceNeg,Int.reduceEq,Nat.reduceLeDiff,Nat.reducePow,Int.reducePow,Nat.min_def,reduceIte,Nat.reduceSub,Nat.reduceAdd,Nat.reduceMul,KP_same,KP_f,condS_t,condS_f,pick_t,pick_f,gS_tt,gS_ff,gS_tf,gS_ft,gS_u,gP_tt,gP_ff,gP_tf,gP_ft,gP_u,ptrV_eq,slcV_eq,mapV_eq,cells_agg,cells_int,cells_bool,cells_ptr,cells_slice,oc_int,oc_bool,oc_slice,oc_ptr,rd1_set,rd1_ne,rdn_set,rdn_ne,Heap.set_same,set_ne,Heap.set_set,set_up,set_up2,set_up3,putAt,ceq,List.map_cons,List.map_nil,List.length_cons,List.length_nil,List.length_set,List.cons_append,List.nil_append,List.append_nil,List.replicate,List.size_toArray,List.all_cons,List.all_nil,Bool.and_self,Bool.and_true,List.drop_zero,List.drop_succ_cons,List.take_succ_cons,List.take_zero,List.set_cons_zero,List.set_cons_succ,List.getElem?_cons_zero,List.getElem?_cons_succ,Option.map_some,Option.map_none,ne_eq,not_false_eq_true,not_true_eq_false,gt_iff_lt,ge_iff_le,Int.one_mul,Nat.zero_add,Nat.zero_mul,Bool.not_true,Bool.not_false,Bool.false_eq_true,Bool.and_false,Bool.false_and,Bool.true_and, *]))
  all_goals refine Fin_mk (Heap.Le.refl _) (K_bool h ?_)
  all_goals (unfold isBase; simp; try omega)
theorem r_base (n : Int) (h : K (.bool (isBase n)) H) : HCalls Try.prog w0 59 [.int .i64 n] H K := by
  refine HL.hc k59 999 ?_; unfold M59
  (all_goals (try simp only [Sh,Si,Sl,Bu,Bb,Bd,Bc,Bw,Bn,Int.reduceAdd,Int.reduceSub,Int.reduceMul,Int.reduceTDiv,Int.reduceTMod,Int.reduceMod,Int.reduceDiv,Nat.reduceLT,Nat.reduceEqDiff,decide_true,decide_false,Sa,Sb,Sc,Sd,Se,Sf,Sg,true_and,and_true,and_self,eq_self,b_i64,b_i32,b_u64,b_u32,b_u8,Int.reduceLE,Int.reduceLT,Int.reduceToNat,Int.reduceNeg,Int.reduceEq,Nat.reduceLeDiff,Nat.reducePow,Int.reducePow,Nat.min_def,reduceIte,Nat.reduceSub,Nat.reduceAdd,Nat.reduceMul,KP_same,KP_f,condS_t,condS_f,pick_t,pick_f,gS_tt,gS_ff,gS_tf,gS_ft,gS_u,gP_tt,gP_ff,gP_tf,gP_ft,gP_u,ptrV_eq,slcV_eq,mapV_eq,cells_agg,cells_int,cells_bool,cells_ptr,cells_slice,oc_int,oc_bool,oc_slice,oc_ptr,rd1_set,rd1_ne,rdn_set,rdn_ne,Heap.set_same,set_ne,Heap.set_set,set_up,set_up2,set_up3,putAt,ceq,List.map_cons,List.map_nil,List.length_cons,List.length_nil,List.length_set,List.cons_append,List.nil_append,List.append_nil,List.replicate,List.size_toArray,List.all_cons,List.all_nil,Bool.and_self,Bool.and_true,List.drop_zero,List.drop_succ_cons,List.take_succ_cons,List.take_zero,List.set_cons_zero,List.set_cons_succ,List.getElem?_cons_zero,List.getElem?_cons_succ,Option.map_some,Option.map_none,ne_eq,not_false_eq_true,not_true_eq_false,gt_iff_lt,ge_iff_le,Int.one_mul,Nat.zero_add,Nat.zero_mul,Bool.not_true,Bool.not_false,Bool.false_eq_true,Bool.and_false,Bool.false_and,Bool.true_and, *])); repeat' ((first | (with_reducible refine fun _ : True => ?_) | (with_reducible refine any_h ?_) | ((first | refine AllocQ_i ?_ | refine AllocO_i ?_); intro bk hb0 hbk; try simp only [set_none'] at hbk) | ((first | refine condS_i ?_ ?_ | refine pick_i ?_ ?_ | refine gS_it ?_ ?_ | refine gS_if ?_ ?_ | refine gP_it ?_ ?_ | refine gP_if ?_ ?_) <;> (intro hc; try simp only [Int.reduceLE,Int.reduceLT,Int.reduceEq,and_self,not_true_eq_false,not_false_eq_true,and_true,true_and,false_and,and_false,true_or,or_true,false_or,or_false,decide_eq_true_eq,decide_eq_false_iff_not,beq_iff_eq,beq_eq_false_iff_ne,bne_iff_ne,ne_eq,gt_iff_lt,ge_iff_le,Bool.not_eq_true,Bool.not_eq_false,Bool.not_eq_true',Bool.not_eq_false',Bool.not_eq_eq_eq_not,Bool.not_true,Bool.not_false] at hc; try (exfalso; omega))) | (refine KP_i (by (repeat' (first | exact Heap.Le.refl _ | (refine Le_fresh (by first | exact (by simp only [*]) | exact (by simp [set_none', *])) ?_) | (refine Heap.Le.trans ?_ (Grow.le (by assumption)))))) ?_) | (with_reducible refine And.intro ?_ ?_)) <;> (try simp only [Sh,Si,Sl,Bu,Bb,Bd,Bc,Bw,Bn,Int.reduceAdd,Int.reduceSub,Int.reduceMul,Int.reduceTDiv,Int.reduceTMod,Int.reduceMod,Int.reduceDiv,Nat.reduceLT,Nat.reduceEqDiff,decide_true,decide_false,Sa,Sb,Sc,Sd,Se,Sf,Sg,true_and,and_true,and_self,eq_self,b_i64,b_i32,b_u64,b_u32,b_u8,Int.reduceLE,Int.reduceLT,Int.reduceToNat,Int.reduceNeg,Int.reduceEq,Nat.reduceLeDiff,Nat.reducePow,Int.reducePow,Nat.min_def,reduceIte,Nat.reduceSub,Nat.reduceAdd,Nat.reduceMul,KP_same,KP_f,condS_t,condS_f,pick_t,pick_f,gS_tt,gS_ff,gS_tf,gS_ft,gS_u,gP_tt,gP_ff,gP_tf,gP_ft,gP_u,ptrV_eq,slcV_eq,mapV_eq,cells_agg,cells_int,cells_bool,cells_ptr,cells_slice,oc_int,oc_bool,oc_slice,oc_ptr,rd1_set,rd1_ne,rdn_set,rdn_ne,Heap.set_same,set_ne,Heap.set_set,set_up,set_up2,set_up3,putAt,ceq,List.map_cons,List.map_nil,List.length_cons,List.length_nil,List.length_set,List.cons_append,List.nil_append,List.append_nil,List.replicate,List.size_toArray,List.all_cons,List.all_nil,Bool.and_self,Bool.and_true,List.drop_zero,List.drop_succ_cons,List.take_succ_cons,List.take_zero,List.set_cons_zero,List.set_cons_succ,List.getElem?_cons_zero,List.getElem?_cons_succ,Option.map_some,Option.map_none,ne_eq,not_false_eq_true,not_true_eq_false,gt_iff_lt,ge_iff_le,Int.one_mul,Nat.zero_add,Nat.zero_mul,Bool.not_true,Bool.not_false,Bool.false_eq_true,Bool.and_false,Bool.false_and,Bool.true_and, *]))
  all_goals refine Fin_mk (Heap.Le.refl _) (K_bool h ?_)
  all_goals (unfold isBase; simp; try omega)

/-- What an instruction reads. -/
def reads (i : Ins) : List Int :=
  if i.op = 2 ∨ i.op = 6 ∨ i.op = 8 then [i.a]
  else if i.op = 4 ∨ i.op = 11 then [i.b]
  else if i.op = 5 then [i.a, i.b, i.c].take (args i.fn i.bs).toNat
  else if i.op = 7 then [i.a, i.dst]
  else if i.op = 9 then [i.a, i.b]
  else []
theorem reads_len (i : Ins) : (reads i).length ≤ 3 := by unfold reads; (repeat' split) <;> simp <;> omega
/-- What an instruction writes. -/
def wrt (i : Ins) : Bool := decide (i.op = 1 ∨ i.op = 2 ∨ i.op = 3 ∨ i.op = 5 ∨ i.op = 6 ∨ i.op = 7 ∨ i.op = 8 ∨ i.op = 9)
def wrtR (i : Ins) : Int := if wrt i then i.dst else 0
/- code Writes -/
def M20 : MC :=
  .seq (.reg [⟨(some 1), .box 30 (.tmp 0), none⟩,
     ⟨(some 2), .mv (.const (.int .i64 0)), none⟩,
     ⟨(some 3), .mv (.const (.bool false)), none⟩])
  (.seq (.seq (.reg [⟨(some 4), .fa 0 (.tmp 1), none⟩,
       ⟨(some 5), .ld1 (.tmp 4), none⟩])
    (.block 0 (.seq (.seq (.reg [⟨(some 7), .bin .eql (.tmp 5) (.const (.int .i64 4)), none⟩,
          ⟨(some 6), .mv (.tmp 7), none⟩])
       (.cond (.tmp 6)
        (.skip)
        (.seq (.reg [⟨(some 8), .bin .eql (.tmp 5) (.const (.int .i64 10)), none⟩,
            ⟨(some 6), .mv (.tmp 8), none⟩])
         (.cond (.tmp 6)
          (.skip)
          (.seq (.reg [⟨(some 9), .bin .eql (.tmp 5) (.const (.int .i64 11)), none⟩,
              ⟨(some 6), .mv (.tmp 9), none⟩])
           (.cond (.tmp 6)
            (.skip)
            (.reg [⟨(some 10), .bin .eql (.tmp 5) (.const (.int .i64 12)), none⟩,
               ⟨(some 6), .mv (.tmp 10), none⟩])))))))
      (.cond (.tmp 6)
       (.seq (.reg [⟨(some 2), .mv (.const (.int .i64 0)), none⟩,
           ⟨(some 3), .mv (.const (.bool false)), none⟩])
        (.ret))
       (.skip)))))
   (.seq (.seq (.reg [⟨(some 11), .fa 0 (.tmp 1), none⟩,
        ⟨(some 12), .ld1 (.tmp 11), none⟩,
        ⟨(some 13), .bin .lss (.tmp 12) (.const (.int .i64 1)), none⟩,
        ⟨(some 14), .mv (.tmp 13), none⟩,
        ⟨(some 15), .fa 0 (.tmp 1), (some (14, false))⟩,
        ⟨(some 16), .ld1 (.tmp 15), (some (14, false))⟩,
        ⟨(some 17), .bin .gtr (.tmp 16) (.const (.int .i64 12)), (some (14, false))⟩,
        ⟨(some 18), .pick (.tmp 14) (.const (.bool true)) (.tmp 17), none⟩])
     (.cond (.tmp 18)
      (.seq (.reg [⟨(some 2), .mv (.const (.int .i64 0)), none⟩,
          ⟨(some 3), .mv (.const (.bool false)), none⟩])
       (.ret))
      (.skip)))
    (.seq (.reg [⟨(some 19), .fa 4 (.tmp 1), none⟩,
        ⟨(some 20), .ld1 (.tmp 19), none⟩,
        ⟨(some 2), .mv (.tmp 20), none⟩,
        ⟨(some 3), .mv (.const (.bool true)), none⟩])
     (.ret))))
theorem k20 : fnOk Try.prog 20 = some (M20, [.t 2, .t 3], 21) := by kernel_rfl
/- paintboxref16 Writes -/
def M27 : MC :=
  .seq (.reg [⟨(some 1), .box 30 (.tmp 0), none⟩,
     ⟨(some 2), .mv (.const (.int .i64 0)), none⟩,
     ⟨(some 3), .mv (.const (.bool false)), none⟩])
  (.seq (.seq (.reg [⟨(some 4), .fa 0 (.tmp 1), none⟩,
       ⟨(some 5), .ld1 (.tmp 4), none⟩])
    (.block 0 (.seq (.seq (.reg [⟨(some 7), .bin .eql (.tmp 5) (.const (.int .i64 1)), none⟩,
          ⟨(some 6), .mv (.tmp 7), none⟩])
       (.cond (.tmp 6)
        (.skip)
        (.seq (.reg [⟨(some 8), .bin .eql (.tmp 5) (.const (.int .i64 2)), none⟩,
            ⟨(some 6), .mv (.tmp 8), none⟩])
         (.cond (.tmp 6)
          (.skip)
          (.seq (.reg [⟨(some 9), .bin .eql (.tmp 5) (.const (.int .i64 3)), none⟩,
              ⟨(some 6), .mv (.tmp 9), none⟩])
           (.cond (.tmp 6)
            (.skip)
            (.seq (.reg [⟨(some 10), .bin .eql (.tmp 5) (.const (.int .i64 5)), none⟩,
                ⟨(some 6), .mv (.tmp 10), none⟩])
             (.cond (.tmp 6)
              (.skip)
              (.seq (.reg [⟨(some 11), .bin .eql (.tmp 5) (.const (.int .i64 6)), none⟩,
                  ⟨(some 6), .mv (.tmp 11), none⟩])
               (.cond (.tmp 6)
                (.skip)
                (.seq (.reg [⟨(some 12), .bin .eql (.tmp 5) (.const (.int .i64 7)), none⟩,
                    ⟨(some 6), .mv (.tmp 12), none⟩])
                 (.cond (.tmp 6)
                  (.skip)
                  (.seq (.reg [⟨(some 13), .bin .eql (.tmp 5) (.const (.int .i64 8)), none⟩,
                      ⟨(some 6), .mv (.tmp 13), none⟩])
                   (.cond (.tmp 6)
                    (.skip)
                    (.reg [⟨(some 14), .bin .eql (.tmp 5) (.const (.int .i64 9)), none⟩,
                       ⟨(some 6), .mv (.tmp 14), none⟩])))))))))))))))
      (.cond (.tmp 6)
       (.seq (.reg [⟨(some 15), .fa 4 (.tmp 1), none⟩,
           ⟨(some 16), .ld1 (.tmp 15), none⟩,
           ⟨(some 2), .mv (.tmp 16), none⟩,
           ⟨(some 3), .mv (.const (.bool true)), none⟩])
        (.ret))
       (.skip)))))
   (.seq (.reg [⟨(some 2), .mv (.const (.int .i64 0)), none⟩,
       ⟨(some 3), .mv (.const (.bool false)), none⟩])
    (.ret)))
theorem k27 : fnOk Try.prog 27 = some (M27, [.t 2, .t 3], 17) := by kernel_rfl

theorem c_Writes (i : Ins) (h : K (.tuple #[.int .i64 (wrtR i), .bool (wrt i)]) H) : HCalls Try.prog w0 20 [i.v] H K := by
  unfold Ins.v Ins.row
  refine HL.hc k20 999 ?_; unfold M20
  (all_goals (try simp only [Sh,Si,Sl,Bu,Bb,Bd,Bc,Bw,Bn,Int.reduceAdd,Int.reduceSub,Int.reduceMul,Int.reduceTDiv,Int.reduceTMod,Int.reduceMod,Int.reduceDiv,Nat.reduceLT,Nat.reduceEqDiff,decide_true,decide_false,Sa,Sb,Sc,Sd,Se,Sf,Sg,true_and,and_true,and_self,eq_self,b_i64,b_i32,b_u64,b_u32,b_u8,Int.reduceLE,Int.reduceLT,Int.reduceToNat,Int.reduceNeg,Int.reduceEq,Nat.reduceLeDiff,Nat.reducePow,Int.reducePow,Nat.min_def,reduceIte,Nat.reduceSub,Nat.reduceAdd,Nat.reduceMul,KP_same,KP_f,condS_t,condS_f,pick_t,pick_f,gS_tt,gS_ff,gS_tf,gS_ft,gS_u,gP_tt,gP_ff,gP_tf,gP_ft,gP_u,ptrV_eq,slcV_eq,mapV_eq,cells_agg,cells_int,cells_bool,cells_ptr,cells_slice,oc_int,oc_bool,oc_slice,oc_ptr,rd1_set,rd1_ne,rdn_set,rdn_ne,Heap.set_same,set_ne,Heap.set_set,set_up,set_up2,set_up3,putAt,ceq,List.map_cons,List.map_nil,List.length_cons,List.length_nil,List.length_set,List.cons_append,List.nil_append,List.append_nil,List.replicate,List.size_toArray,List.all_cons,List.all_nil,Bool.and_self,Bool.and_true,List.drop_zero,List.drop_succ_cons,List.take_succ_cons,List.take_zero,List.set_cons_zero,List.set_cons_succ,List.getElem?_cons_zero,List.getElem?_cons_succ,Option.map_some,Option.map_none,ne_eq,not_false_eq_true,not_true_eq_false,gt_iff_lt,ge_iff_le,Int.one_mul,Nat.zero_add,Nat.zero_mul,Bool.not_true,Bool.not_false,Bool.false_eq_true,Bool.and_false,Bool.false_and,Bool.true_and, *])); repeat' ((first | (with_reducible refine fun _ : True => ?_) | (with_reducible refine any_h ?_) | ((first | refine AllocQ_i ?_ | refine AllocO_i ?_); intro bk hb0 hbk; try simp only [set_none'] at hbk) | ((first | refine condS_i ?_ ?_ | refine pick_i ?_ ?_ | refine gS_it ?_ ?_ | refine gS_if ?_ ?_ | refine gP_it ?_ ?_ | refine gP_if ?_ ?_) <;> (intro hc; try simp only [Int.reduceLE,Int.reduceLT,Int.reduceEq,and_self,not_true_eq_false,not_false_eq_true,and_true,true_and,false_and,and_false,true_or,or_true,false_or,or_false,decide_eq_true_eq,decide_eq_false_iff_not,beq_iff_eq,beq_eq_false_iff_ne,bne_iff_ne,ne_eq,gt_iff_lt,ge_iff_le,Bool.not_eq_true,Bool.not_eq_false,Bool.not_eq_true',Bool.not_eq_false',Bool.not_eq_eq_eq_not,Bool.not_true,Bool.not_false] at hc; try (exfalso; omega))) | (refine KP_i (by (repeat' (first | exact Heap.Le.refl _ | (refine Le_fresh (by first | exact (by simp only [*]) | exact (by simp [set_none', *])) ?_) | (refine Heap.Le.trans ?_ (Grow.le (by assumption)))))) ?_) | (with_reducible refine And.intro ?_ ?_)) <;> (try simp only [Sh,Si,Sl,Bu,Bb,Bd,Bc,Bw,Bn,Int.reduceAdd,Int.reduceSub,Int.reduceMul,Int.reduceTDiv,Int.reduceTMod,Int.reduceMod,Int.reduceDiv,Nat.reduceLT,Nat.reduceEqDiff,decide_true,decide_false,Sa,Sb,Sc,Sd,Se,Sf,Sg,true_and,and_true,and_self,eq_self,b_i64,b_i32,b_u64,b_u32,b_u8,Int.reduceLE,Int.reduceLT,Int.reduceToNat,Int.reduceNeg,Int.reduceEq,Nat.reduceLeDiff,Nat.reducePow,Int.reducePow,Nat.min_def,reduceIte,Nat.reduceSub,Nat.reduceAdd,Nat.reduceMul,KP_same,KP_f,condS_t,condS_f,pick_t,pick_f,gS_tt,gS_ff,gS_tf,gS_ft,gS_u,gP_tt,gP_ff,gP_tf,gP_ft,gP_u,ptrV_eq,slcV_eq,mapV_eq,cells_agg,cells_int,cells_bool,cells_ptr,cells_slice,oc_int,oc_bool,oc_slice,oc_ptr,rd1_set,rd1_ne,rdn_set,rdn_ne,Heap.set_same,set_ne,Heap.set_set,set_up,set_up2,set_up3,putAt,ceq,List.map_cons,List.map_nil,List.length_cons,List.length_nil,List.length_set,List.cons_append,List.nil_append,List.append_nil,List.replicate,List.size_toArray,List.all_cons,List.all_nil,Bool.and_self,Bool.and_true,List.drop_zero,List.drop_succ_cons,List.take_succ_cons,List.take_zero,List.set_cons_zero,List.set_cons_succ,List.getElem?_cons_zero,List.getElem?_cons_succ,Option.map_some,Option.map_none,ne_eq,not_false_eq_true,not_true_eq_false,gt_iff_lt,ge_iff_le,Int.one_mul,Nat.zero_add,Nat.zero_mul,Bool.not_true,Bool.not_false,Bool.false_eq_true,Bool.and_false,Bool.false_and,Bool.true_and, *]))
  all_goals (have e : wrt i = false ∨ wrt i = true := by cases wrt i <;> simp)
  all_goals (rcases e with e | e <;> have e' := e <;> unfold wrt at e' <;> simp at e' <;> first | (exfalso; omega) | (unfold wrtR at h; simp only [e, if_true, if_false, Bool.false_eq_true] at h; exact Fin_mk (by (repeat' (first | exact Heap.Le.refl _ | (refine Le_fresh (by first | exact (by simp only [*]) | exact (by simp [set_none', *])) ?_) | (refine Heap.Le.trans ?_ (Grow.le (by assumption)))))) h))
theorem r_Writes (i : Ins) (h : K (.tuple #[.int .i64 (wrtR i), .bool (wrt i)]) H) : HCalls Try.prog w0 27 [i.v] H K := by
  unfold Ins.v Ins.row
  refine HL.hc k27 999 ?_; unfold M27
  (all_goals (try simp only [Sh,Si,Sl,Bu,Bb,Bd,Bc,Bw,Bn,Int.reduceAdd,Int.reduceSub,Int.reduceMul,Int.reduceTDiv,Int.reduceTMod,Int.reduceMod,Int.reduceDiv,Nat.reduceLT,Nat.reduceEqDiff,decide_true,decide_false,Sa,Sb,Sc,Sd,Se,Sf,Sg,true_and,and_true,and_self,eq_self,b_i64,b_i32,b_u64,b_u32,b_u8,Int.reduceLE,Int.reduceLT,Int.reduceToNat,Int.reduceNeg,Int.reduceEq,Nat.reduceLeDiff,Nat.reducePow,Int.reducePow,Nat.min_def,reduceIte,Nat.reduceSub,Nat.reduceAdd,Nat.reduceMul,KP_same,KP_f,condS_t,condS_f,pick_t,pick_f,gS_tt,gS_ff,gS_tf,gS_ft,gS_u,gP_tt,gP_ff,gP_tf,gP_ft,gP_u,ptrV_eq,slcV_eq,mapV_eq,cells_agg,cells_int,cells_bool,cells_ptr,cells_slice,oc_int,oc_bool,oc_slice,oc_ptr,rd1_set,rd1_ne,rdn_set,rdn_ne,Heap.set_same,set_ne,Heap.set_set,set_up,set_up2,set_up3,putAt,ceq,List.map_cons,List.map_nil,List.length_cons,List.length_nil,List.length_set,List.cons_append,List.nil_append,List.append_nil,List.replicate,List.size_toArray,List.all_cons,List.all_nil,Bool.and_self,Bool.and_true,List.drop_zero,List.drop_succ_cons,List.take_succ_cons,List.take_zero,List.set_cons_zero,List.set_cons_succ,List.getElem?_cons_zero,List.getElem?_cons_succ,Option.map_some,Option.map_none,ne_eq,not_false_eq_true,not_true_eq_false,gt_iff_lt,ge_iff_le,Int.one_mul,Nat.zero_add,Nat.zero_mul,Bool.not_true,Bool.not_false,Bool.false_eq_true,Bool.and_false,Bool.false_and,Bool.true_and, *])); repeat' ((first | (with_reducible refine fun _ : True => ?_) | (with_reducible refine any_h ?_) | ((first | refine AllocQ_i ?_ | refine AllocO_i ?_); intro bk hb0 hbk; try simp only [set_none'] at hbk) | ((first | refine condS_i ?_ ?_ | refine pick_i ?_ ?_ | refine gS_it ?_ ?_ | refine gS_if ?_ ?_ | refine gP_it ?_ ?_ | refine gP_if ?_ ?_) <;> (intro hc; try simp only [Int.reduceLE,Int.reduceLT,Int.reduceEq,and_self,not_true_eq_false,not_false_eq_true,and_true,true_and,false_and,and_false,true_or,or_true,false_or,or_false,decide_eq_true_eq,decide_eq_false_iff_not,beq_iff_eq,beq_eq_false_iff_ne,bne_iff_ne,ne_eq,gt_iff_lt,ge_iff_le,Bool.not_eq_true,Bool.not_eq_false,Bool.not_eq_true',Bool.not_eq_false',Bool.not_eq_eq_eq_not,Bool.not_true,Bool.not_false] at hc; try (exfalso; omega))) | (refine KP_i (by (repeat' (first | exact Heap.Le.refl _ | (refine Le_fresh (by first | exact (by simp only [*]) | exact (by simp [set_none', *])) ?_) | (refine Heap.Le.trans ?_ (Grow.le (by assumption)))))) ?_) | (with_reducible refine And.intro ?_ ?_)) <;> (try simp only [Sh,Si,Sl,Bu,Bb,Bd,Bc,Bw,Bn,Int.reduceAdd,Int.reduceSub,Int.reduceMul,Int.reduceTDiv,Int.reduceTMod,Int.reduceMod,Int.reduceDiv,Nat.reduceLT,Nat.reduceEqDiff,decide_true,decide_false,Sa,Sb,Sc,Sd,Se,Sf,Sg,true_and,and_true,and_self,eq_self,b_i64,b_i32,b_u64,b_u32,b_u8,Int.reduceLE,Int.reduceLT,Int.reduceToNat,Int.reduceNeg,Int.reduceEq,Nat.reduceLeDiff,Nat.reducePow,Int.reducePow,Nat.min_def,reduceIte,Nat.reduceSub,Nat.reduceAdd,Nat.reduceMul,KP_same,KP_f,condS_t,condS_f,pick_t,pick_f,gS_tt,gS_ff,gS_tf,gS_ft,gS_u,gP_tt,gP_ff,gP_tf,gP_ft,gP_u,ptrV_eq,slcV_eq,mapV_eq,cells_agg,cells_int,cells_bool,cells_ptr,cells_slice,oc_int,oc_bool,oc_slice,oc_ptr,rd1_set,rd1_ne,rdn_set,rdn_ne,Heap.set_same,set_ne,Heap.set_set,set_up,set_up2,set_up3,putAt,ceq,List.map_cons,List.map_nil,List.length_cons,List.length_nil,List.length_set,List.cons_append,List.nil_append,List.append_nil,List.replicate,List.size_toArray,List.all_cons,List.all_nil,Bool.and_self,Bool.and_true,List.drop_zero,List.drop_succ_cons,List.take_succ_cons,List.take_zero,List.set_cons_zero,List.set_cons_succ,List.getElem?_cons_zero,List.getElem?_cons_succ,Option.map_some,Option.map_none,ne_eq,not_false_eq_true,not_true_eq_false,gt_iff_lt,ge_iff_le,Int.one_mul,Nat.zero_add,Nat.zero_mul,Bool.not_true,Bool.not_false,Bool.false_eq_true,Bool.and_false,Bool.false_and,Bool.true_and, *]))
  all_goals (have e : wrt i = false ∨ wrt i = true := by cases wrt i <;> simp)
  all_goals (rcases e with e | e <;> have e' := e <;> unfold wrt at e' <;> simp at e' <;> first | (exfalso; omega) | (unfold wrtR at h; simp only [e, if_true, if_false, Bool.false_eq_true] at h; exact Fin_mk (by (repeat' (first | exact Heap.Le.refl _ | (refine Le_fresh (by first | exact (by simp only [*]) | exact (by simp [set_none', *])) ?_) | (refine Heap.Le.trans ?_ (Grow.le (by assumption)))))) h))
/-- A slice of integers that a call has made. -/
abbrev IB (w0 : World) (H G : Heap) (a : Option Addr) (c : Nat) (l : List Int) : Prop := Bld w0 H G a c 1 3 (l.map fun x => .int .i64 x)
theorem IB.mk {b c : Nat} {l : List Int} {z : List Value} {x : Blk} (h1 : w0.heap.size ≤ b) (h2 : H b = none) {G : Heap} (h3 : G b = some x) (e : x = ⟨.t 3, (l.map fun x => .int .i64 x) ++ z⟩) (h4 : l.length + z.length = c) : IB w0 H G (some ⟨b, 0, none⟩) c l :=
  .inl ⟨b, z, rfl, h1, h2, by rw [h3, e], by simpa using h4⟩
theorem ib_of {i : Ins} {l : List Int} (hk : ∀ a c G, IB w0 H G a c (reads i) → Grow w0 H G → K (.slice a (reads i).length c) G) (e : reads i = l) {b m c : Nat} (z : List Value) {x : Blk} (hm : l.length = m) (h1 : w0.heap.size ≤ b) (h2 : H b = none) {G : Heap} (h3 : G b = some x)
    (ex : x = ⟨.t 3, (l.map fun x => .int .i64 x) ++ z⟩) (h4 : l.length + z.length = c) (g : Grow w0 H G) : HL.Fin K (.slice (some ⟨b, 0, none⟩) m c) G := by
  subst e hm
  exact Fin_mk (Heap.Le.refl _) (hk _ _ _ (IB.mk h1 h2 h3 ex h4) g)
theorem ib_nil {i : Ins} (hk : ∀ a c G, IB w0 H G a c (reads i) → Grow w0 H G → K (.slice a (reads i).length c) G) (e : reads i = []) {G : Heap} (g : Grow w0 H G) : HL.Fin K (.slice none 0 0) G := by
  have := hk none 0 G (by rw [e]; exact Bld.none) g
  rw [e] at this
  exact Fin_mk (Heap.Le.refl _) this
/- code Reads -/
def M19 : MC :=
  .seq (.reg [⟨(some 1), .box 30 (.tmp 0), none⟩,
     ⟨(some 2), .mv (.const (.slice none 0 0)), none⟩])
  (.seq (.seq (.reg [⟨(some 4), .fa 0 (.tmp 1), none⟩,
       ⟨(some 5), .ld1 (.tmp 4), none⟩])
    (.block 0 (.seq (.seq (.reg [⟨(some 7), .bin .eql (.tmp 5) (.const (.int .i64 2)), none⟩,
          ⟨(some 6), .mv (.tmp 7), none⟩])
       (.cond (.tmp 6)
        (.skip)
        (.seq (.reg [⟨(some 8), .bin .eql (.tmp 5) (.const (.int .i64 6)), none⟩,
            ⟨(some 6), .mv (.tmp 8), none⟩])
         (.cond (.tmp 6)
          (.skip)
          (.reg [⟨(some 9), .bin .eql (.tmp 5) (.const (.int .i64 8)), none⟩,
             ⟨(some 6), .mv (.tmp 9), none⟩])))))
      (.cond (.tmp 6)
       (.seq (.reg [⟨(some 10), .fa 5 (.tmp 1), none⟩,
           ⟨(some 11), .ld1 (.tmp 10), none⟩,
           ⟨(some 12), .bslice 3 1 [(.int .i64 0)] [(0, 1, (.tmp 11))], none⟩,
           ⟨(some 2), .mv (.tmp 12), none⟩])
        (.ret))
       (.seq (.seq (.reg [⟨(some 14), .bin .eql (.tmp 5) (.const (.int .i64 4)), none⟩,
            ⟨(some 13), .mv (.tmp 14), none⟩])
         (.cond (.tmp 13)
          (.skip)
          (.reg [⟨(some 15), .bin .eql (.tmp 5) (.const (.int .i64 11)), none⟩,
             ⟨(some 13), .mv (.tmp 15), none⟩])))
        (.cond (.tmp 13)
         (.seq (.reg [⟨(some 16), .fa 6 (.tmp 1), none⟩,
             ⟨(some 17), .ld1 (.tmp 16), none⟩,
             ⟨(some 18), .bslice 3 1 [(.int .i64 0)] [(0, 1, (.tmp 17))], none⟩,
             ⟨(some 2), .mv (.tmp 18), none⟩])
          (.ret))
         (.seq (.reg [⟨(some 20), .bin .eql (.tmp 5) (.const (.int .i64 5)), none⟩,
             ⟨(some 19), .mv (.tmp 20), none⟩])
          (.cond (.tmp 19)
           (.seq (.reg [⟨(some 21), .fa 5 (.tmp 1), none⟩,
               ⟨(some 22), .ld1 (.tmp 21), none⟩,
               ⟨(some 23), .fa 6 (.tmp 1), none⟩,
               ⟨(some 24), .ld1 (.tmp 23), none⟩,
               ⟨(some 25), .fa 7 (.tmp 1), none⟩,
               ⟨(some 26), .ld1 (.tmp 25), none⟩,
               ⟨(some 27), .bslice 3 3 [(.int .i64 0), (.int .i64 0), (.int .i64 0)] [(0, 1, (.tmp 22)), (1, 1, (.tmp 24)), (2, 1, (.tmp 26))], none⟩,
               ⟨(some 3), .mv (.tmp 27), none⟩])
            (.seq (.reg [⟨(some 28), .mv (.tmp 3), none⟩,
                ⟨(some 29), .fa 1 (.tmp 1), none⟩,
                ⟨(some 30), .ld1 (.tmp 29), none⟩,
                ⟨(some 31), .fa 2 (.tmp 1), none⟩,
                ⟨(some 32), .ld1 (.tmp 31), none⟩,
                ⟨(some 33), .call 11 [(.tmp 30), (.tmp 32)], none⟩,
                ⟨(some 34), .slc 1 (.tmp 28) none (some (.tmp 33)), none⟩,
                ⟨(some 2), .mv (.tmp 34), none⟩])
             (.ret)))
           (.seq (.reg [⟨(some 36), .bin .eql (.tmp 5) (.const (.int .i64 7)), none⟩,
               ⟨(some 35), .mv (.tmp 36), none⟩])
            (.cond (.tmp 35)
             (.seq (.reg [⟨(some 37), .fa 5 (.tmp 1), none⟩,
                 ⟨(some 38), .ld1 (.tmp 37), none⟩,
                 ⟨(some 39), .fa 4 (.tmp 1), none⟩,
                 ⟨(some 40), .ld1 (.tmp 39), none⟩,
                 ⟨(some 41), .bslice 3 2 [(.int .i64 0), (.int .i64 0)] [(0, 1, (.tmp 38)), (1, 1, (.tmp 40))], none⟩,
                 ⟨(some 2), .mv (.tmp 41), none⟩])
              (.ret))
             (.seq (.reg [⟨(some 43), .bin .eql (.tmp 5) (.const (.int .i64 9)), none⟩,
                 ⟨(some 42), .mv (.tmp 43), none⟩])
              (.cond (.tmp 42)
               (.seq (.reg [⟨(some 44), .fa 5 (.tmp 1), none⟩,
                   ⟨(some 45), .ld1 (.tmp 44), none⟩,
                   ⟨(some 46), .fa 6 (.tmp 1), none⟩,
                   ⟨(some 47), .ld1 (.tmp 46), none⟩,
                   ⟨(some 48), .bslice 3 2 [(.int .i64 0), (.int .i64 0)] [(0, 1, (.tmp 45)), (1, 1, (.tmp 47))], none⟩,
                   ⟨(some 2), .mv (.tmp 48), none⟩])
                (.ret))
               (.skip)))))))))))))
   (.seq (.reg [⟨(some 2), .mv (.const (.slice none 0 0)), none⟩])
    (.ret)))
theorem k19 : fnOk Try.prog 19 = some (M19, [.t 2], 49) := by kernel_rfl
/- paintboxref16 Reads -/
def M28 : MC :=
  .seq (.reg [⟨(some 1), .box 30 (.tmp 0), none⟩,
     ⟨(some 2), .mv (.const (.slice none 0 0)), none⟩])
  (.seq (.seq (.reg [⟨(some 3), .fa 0 (.tmp 1), none⟩,
       ⟨(some 4), .ld1 (.tmp 3), none⟩])
    (.block 0 (.seq (.seq (.reg [⟨(some 6), .bin .eql (.tmp 4) (.const (.int .i64 2)), none⟩,
          ⟨(some 5), .mv (.tmp 6), none⟩])
       (.cond (.tmp 5)
        (.skip)
        (.seq (.reg [⟨(some 7), .bin .eql (.tmp 4) (.const (.int .i64 6)), none⟩,
            ⟨(some 5), .mv (.tmp 7), none⟩])
         (.cond (.tmp 5)
          (.skip)
          (.reg [⟨(some 8), .bin .eql (.tmp 4) (.const (.int .i64 8)), none⟩,
             ⟨(some 5), .mv (.tmp 8), none⟩])))))
      (.cond (.tmp 5)
       (.seq (.reg [⟨(some 9), .fa 5 (.tmp 1), none⟩,
           ⟨(some 10), .ld1 (.tmp 9), none⟩,
           ⟨(some 11), .bslice 3 1 [(.int .i64 0)] [(0, 1, (.tmp 10))], none⟩,
           ⟨(some 2), .mv (.tmp 11), none⟩])
        (.ret))
       (.seq (.seq (.reg [⟨(some 13), .bin .eql (.tmp 4) (.const (.int .i64 4)), none⟩,
            ⟨(some 12), .mv (.tmp 13), none⟩])
         (.cond (.tmp 12)
          (.skip)
          (.reg [⟨(some 14), .bin .eql (.tmp 4) (.const (.int .i64 11)), none⟩,
             ⟨(some 12), .mv (.tmp 14), none⟩])))
        (.cond (.tmp 12)
         (.seq (.reg [⟨(some 15), .fa 6 (.tmp 1), none⟩,
             ⟨(some 16), .ld1 (.tmp 15), none⟩,
             ⟨(some 17), .bslice 3 1 [(.int .i64 0)] [(0, 1, (.tmp 16))], none⟩,
             ⟨(some 2), .mv (.tmp 17), none⟩])
          (.ret))
         (.seq (.reg [⟨(some 19), .bin .eql (.tmp 4) (.const (.int .i64 5)), none⟩,
             ⟨(some 18), .mv (.tmp 19), none⟩])
          (.cond (.tmp 18)
           (.seq (.alts (.one true 0 [] ⟨(some 20), .fa 5 (.tmp 1), none⟩ (.one true 1 [] ⟨(some 21), .ld1 (.tmp 20), none⟩ (.one true 2 [] ⟨(some 22), .fa 6 (.tmp 1), none⟩ (.one true 3 [] ⟨(some 23), .ld1 (.tmp 22), none⟩ (.one true 4 [] ⟨(some 24), .fa 7 (.tmp 1), none⟩ (.one true 5 [] ⟨(some 25), .ld1 (.tmp 24), none⟩ (.one true 7 [] ⟨(some 27), .fa 1 (.tmp 1), none⟩ (.one true 8 [] ⟨(some 28), .ld1 (.tmp 27), none⟩ (.one true 9 [] ⟨(some 29), .fa 2 (.tmp 1), none⟩ (.one true 10 [] ⟨(some 30), .ld1 (.tmp 29), none⟩ (.alt (.one false 6 [7, 8, 9, 10] ⟨(some 26), .bslice 3 3 [(.int .i64 0), (.int .i64 0), (.int .i64 0)] [(0, 1, (.tmp 21)), (1, 1, (.tmp 23)), (2, 1, (.tmp 25))], none⟩ (.one false 11 [] ⟨(some 31), .call 12 [(.tmp 28), (.tmp 30)], none⟩ (.one false 12 [] ⟨(some 32), .slc 1 (.tmp 26) none (some (.tmp 31)), none⟩ (.one false 13 [] ⟨(some 2), .mv (.tmp 32), none⟩ .nil))))
      (.one false 11 [0, 1, 2, 3, 4, 5] ⟨(some 31), .call 12 [(.tmp 28), (.tmp 30)], none⟩ (.one false 6 [] ⟨(some 26), .bslice 3 3 [(.int .i64 0), (.int .i64 0), (.int .i64 0)] [(0, 1, (.tmp 21)), (1, 1, (.tmp 23)), (2, 1, (.tmp 25))], none⟩ (.one false 12 [] ⟨(some 32), .slc 1 (.tmp 26) none (some (.tmp 31)), none⟩ (.one false 13 [] ⟨(some 2), .mv (.tmp 32), none⟩ .nil))))))))))))))))
            (.ret))
           (.seq (.reg [⟨(some 34), .bin .eql (.tmp 4) (.const (.int .i64 7)), none⟩,
               ⟨(some 33), .mv (.tmp 34), none⟩])
            (.cond (.tmp 33)
             (.seq (.reg [⟨(some 35), .fa 5 (.tmp 1), none⟩,
                 ⟨(some 36), .ld1 (.tmp 35), none⟩,
                 ⟨(some 37), .fa 4 (.tmp 1), none⟩,
                 ⟨(some 38), .ld1 (.tmp 37), none⟩,
                 ⟨(some 39), .bslice 3 2 [(.int .i64 0), (.int .i64 0)] [(0, 1, (.tmp 36)), (1, 1, (.tmp 38))], none⟩,
                 ⟨(some 2), .mv (.tmp 39), none⟩])
              (.ret))
             (.seq (.reg [⟨(some 41), .bin .eql (.tmp 4) (.const (.int .i64 9)), none⟩,
                 ⟨(some 40), .mv (.tmp 41), none⟩])
              (.cond (.tmp 40)
               (.seq (.reg [⟨(some 42), .fa 5 (.tmp 1), none⟩,
                   ⟨(some 43), .ld1 (.tmp 42), none⟩,
                   ⟨(some 44), .fa 6 (.tmp 1), none⟩,
                   ⟨(some 45), .ld1 (.tmp 44), none⟩,
                   ⟨(some 46), .bslice 3 2 [(.int .i64 0), (.int .i64 0)] [(0, 1, (.tmp 43)), (1, 1, (.tmp 45))], none⟩,
                   ⟨(some 2), .mv (.tmp 46), none⟩])
                (.ret))
               (.skip)))))))))))))
   (.seq (.reg [⟨(some 2), .mv (.const (.slice none 0 0)), none⟩])
    (.ret)))
theorem k28 : fnOk Try.prog 28 = some (M28, [.t 2], 47) := by kernel_rfl

theorem c_Reads (i : Ins) (h : ∀ a c G, IB w0 H G a c (reads i) → Grow w0 H G → K (.slice a (reads i).length c) G) : HCalls Try.prog w0 19 [i.v] H K := by
  have ha := args_le i.fn i.bs
  have hr := h
  obtain ⟨n, en⟩ : ∃ n, args i.fn i.bs = n := ⟨_, rfl⟩
  rw [en] at ha
  have eR : reads i = (if i.op = 2 ∨ i.op = 6 ∨ i.op = 8 then [i.a]
  else if i.op = 4 ∨ i.op = 11 then [i.b]
  else if i.op = 5 then [i.a, i.b, i.c].take n.toNat
  else if i.op = 7 then [i.a, i.dst]
  else if i.op = 9 then [i.a, i.b]
  else []) := by rw [← en]; rfl
  unfold Ins.v Ins.row
  replace hr : Keep _ := hr
  replace eR : Keep _ := eR
  clear h
  refine HL.hc k19 999 ?_; unfold M19
  (all_goals (try simp only [Sh,Si,Sl,Bu,Bb,Bd,Bc,Bw,Bn,Int.reduceAdd,Int.reduceSub,Int.reduceMul,Int.reduceTDiv,Int.reduceTMod,Int.reduceMod,Int.reduceDiv,Nat.reduceLT,Nat.reduceEqDiff,decide_true,decide_false,Sa,Sb,Sc,Sd,Se,Sf,Sg,true_and,and_true,and_self,eq_self,b_i64,b_i32,b_u64,b_u32,b_u8,Int.reduceLE,Int.reduceLT,Int.reduceToNat,Int.reduceNeg,Int.reduceEq,Nat.reduceLeDiff,Nat.reducePow,Int.reducePow,Nat.min_def,reduceIte,Nat.reduceSub,Nat.reduceAdd,Nat.reduceMul,KP_same,KP_f,condS_t,condS_f,pick_t,pick_f,gS_tt,gS_ff,gS_tf,gS_ft,gS_u,gP_tt,gP_ff,gP_tf,gP_ft,gP_u,ptrV_eq,slcV_eq,mapV_eq,cells_agg,cells_int,cells_bool,cells_ptr,cells_slice,oc_int,oc_bool,oc_slice,oc_ptr,rd1_set,rd1_ne,rdn_set,rdn_ne,Heap.set_same,set_ne,Heap.set_set,set_up,set_up2,set_up3,putAt,ceq,List.map_cons,List.map_nil,List.length_cons,List.length_nil,List.length_set,List.cons_append,List.nil_append,List.append_nil,List.replicate,List.size_toArray,List.all_cons,List.all_nil,Bool.and_self,Bool.and_true,List.drop_zero,List.drop_succ_cons,List.take_succ_cons,List.take_zero,List.set_cons_zero,List.set_cons_succ,List.getElem?_cons_zero,List.getElem?_cons_succ,Option.map_some,Option.map_none,ne_eq,not_false_eq_true,not_true_eq_false,gt_iff_lt,ge_iff_le,Int.one_mul,Nat.zero_add,Nat.zero_mul,Bool.not_true,Bool.not_false,Bool.false_eq_true,Bool.and_false,Bool.false_and,Bool.true_and, *])); repeat' ((first | (with_reducible refine fun _ : True => ?_) | refine c_Args _ _ ?_ | (with_reducible refine any_h ?_) | ((first | refine AllocQ_i ?_ | refine AllocO_i ?_); intro bk hb0 hbk; try simp only [set_none'] at hbk) | ((first | refine condS_i ?_ ?_ | refine pick_i ?_ ?_ | refine gS_it ?_ ?_ | refine gS_if ?_ ?_ | refine gP_it ?_ ?_ | refine gP_if ?_ ?_) <;> (intro hc; try simp only [Int.reduceLE,Int.reduceLT,Int.reduceEq,and_self,not_true_eq_false,not_false_eq_true,and_true,true_and,false_and,and_false,true_or,or_true,false_or,or_false,decide_eq_true_eq,decide_eq_false_iff_not,beq_iff_eq,beq_eq_false_iff_ne,bne_iff_ne,ne_eq,gt_iff_lt,ge_iff_le,Bool.not_eq_true,Bool.not_eq_false,Bool.not_eq_true',Bool.not_eq_false',Bool.not_eq_eq_eq_not,Bool.not_true,Bool.not_false] at hc; try (exfalso; omega))) | (refine KP_i (by (repeat' (first | exact Heap.Le.refl _ | (refine Le_fresh (by first | exact (by simp only [*]) | exact (by simp [set_none', *])) ?_) | (refine Heap.Le.trans ?_ (Grow.le (by assumption)))))) ?_) | (with_reducible refine And.intro ?_ ?_)) <;> (try simp only [Sh,Si,Sl,Bu,Bb,Bd,Bc,Bw,Bn,Int.reduceAdd,Int.reduceSub,Int.reduceMul,Int.reduceTDiv,Int.reduceTMod,Int.reduceMod,Int.reduceDiv,Nat.reduceLT,Nat.reduceEqDiff,decide_true,decide_false,Sa,Sb,Sc,Sd,Se,Sf,Sg,true_and,and_true,and_self,eq_self,b_i64,b_i32,b_u64,b_u32,b_u8,Int.reduceLE,Int.reduceLT,Int.reduceToNat,Int.reduceNeg,Int.reduceEq,Nat.reduceLeDiff,Nat.reducePow,Int.reducePow,Nat.min_def,reduceIte,Nat.reduceSub,Nat.reduceAdd,Nat.reduceMul,KP_same,KP_f,condS_t,condS_f,pick_t,pick_f,gS_tt,gS_ff,gS_tf,gS_ft,gS_u,gP_tt,gP_ff,gP_tf,gP_ft,gP_u,ptrV_eq,slcV_eq,mapV_eq,cells_agg,cells_int,cells_bool,cells_ptr,cells_slice,oc_int,oc_bool,oc_slice,oc_ptr,rd1_set,rd1_ne,rdn_set,rdn_ne,Heap.set_same,set_ne,Heap.set_set,set_up,set_up2,set_up3,putAt,ceq,List.map_cons,List.map_nil,List.length_cons,List.length_nil,List.length_set,List.cons_append,List.nil_append,List.append_nil,List.replicate,List.size_toArray,List.all_cons,List.all_nil,Bool.and_self,Bool.and_true,List.drop_zero,List.drop_succ_cons,List.take_succ_cons,List.take_zero,List.set_cons_zero,List.set_cons_succ,List.getElem?_cons_zero,List.getElem?_cons_succ,Option.map_some,Option.map_none,ne_eq,not_false_eq_true,not_true_eq_false,gt_iff_lt,ge_iff_le,Int.one_mul,Nat.zero_add,Nat.zero_mul,Bool.not_true,Bool.not_false,Bool.false_eq_true,Bool.and_false,Bool.false_and,Bool.true_and, *]))
  all_goals have e0 : ∀ l, (Keep (reads i = _) → reads i = l) → reads i = l := fun l f => f eR
  all_goals first
    | (refine ib_of hr (l := [i.a]) (e0 _ fun e => ?_) [] rfl hb0 hbk.2 (Heap.set_same _ _ _) rfl rfl (by (repeat' (first | exact Grow.refl _ | assumption | (refine Grow.set ?_ (by assumption) (by first | exact (by simp only [*]) | exact (by simp [set_none', *]) | exact Grow.none (by assumption) (by simp [set_none', *]))) | (refine Grow.trans ?_ (by assumption))))); (rw [show reads i = _ from e]; (repeat' split) <;> first | rfl | (exfalso; omega)); done)
    | (refine ib_of hr (l := [i.b]) (e0 _ fun e => ?_) [] rfl hb0 hbk.2 (Heap.set_same _ _ _) rfl rfl (by (repeat' (first | exact Grow.refl _ | assumption | (refine Grow.set ?_ (by assumption) (by first | exact (by simp only [*]) | exact (by simp [set_none', *]) | exact Grow.none (by assumption) (by simp [set_none', *]))) | (refine Grow.trans ?_ (by assumption))))); (rw [show reads i = _ from e]; (repeat' split) <;> first | rfl | (exfalso; omega)); done)
    | (refine ib_of hr (l := [i.a, i.dst]) (e0 _ fun e => ?_) [] rfl hb0 hbk.2 (Heap.set_same _ _ _) rfl rfl (by (repeat' (first | exact Grow.refl _ | assumption | (refine Grow.set ?_ (by assumption) (by first | exact (by simp only [*]) | exact (by simp [set_none', *]) | exact Grow.none (by assumption) (by simp [set_none', *]))) | (refine Grow.trans ?_ (by assumption))))); (rw [show reads i = _ from e]; (repeat' split) <;> first | rfl | (exfalso; omega)); done)
    | (refine ib_of hr (l := [i.a, i.b]) (e0 _ fun e => ?_) [] rfl hb0 hbk.2 (Heap.set_same _ _ _) rfl rfl (by (repeat' (first | exact Grow.refl _ | assumption | (refine Grow.set ?_ (by assumption) (by first | exact (by simp only [*]) | exact (by simp [set_none', *]) | exact Grow.none (by assumption) (by simp [set_none', *]))) | (refine Grow.trans ?_ (by assumption))))); (rw [show reads i = _ from e]; (repeat' split) <;> first | rfl | (exfalso; omega)); done)
    | (have e1 : n = 0 ∨ n = 1 ∨ n = 2 ∨ n = 3 := by omega
       have e5 : reads i = [i.a, i.b, i.c].take n.toNat := e0 _ fun e => by
         rw [show reads i = _ from e]; (repeat' split) <;> first | rfl | (exfalso; omega)
       rcases e1 with rfl | rfl | rfl | rfl
       · exact ib_of hr (l := []) e5 [.int .i64 i.a, .int .i64 i.b, .int .i64 i.c] rfl hb0 hbk.2 (Heap.set_same _ _ _) rfl rfl (by (repeat' (first | exact Grow.refl _ | assumption | (refine Grow.set ?_ (by assumption) (by first | exact (by simp only [*]) | exact (by simp [set_none', *]) | exact Grow.none (by assumption) (by simp [set_none', *]))) | (refine Grow.trans ?_ (by assumption)))))
       · exact ib_of hr (l := [i.a]) e5 [.int .i64 i.b, .int .i64 i.c] rfl hb0 hbk.2 (Heap.set_same _ _ _) rfl rfl (by (repeat' (first | exact Grow.refl _ | assumption | (refine Grow.set ?_ (by assumption) (by first | exact (by simp only [*]) | exact (by simp [set_none', *]) | exact Grow.none (by assumption) (by simp [set_none', *]))) | (refine Grow.trans ?_ (by assumption)))))
       · exact ib_of hr (l := [i.a, i.b]) e5 [.int .i64 i.c] rfl hb0 hbk.2 (Heap.set_same _ _ _) rfl rfl (by (repeat' (first | exact Grow.refl _ | assumption | (refine Grow.set ?_ (by assumption) (by first | exact (by simp only [*]) | exact (by simp [set_none', *]) | exact Grow.none (by assumption) (by simp [set_none', *]))) | (refine Grow.trans ?_ (by assumption)))))
       · exact ib_of hr (l := [i.a, i.b, i.c]) e5 [] rfl hb0 hbk.2 (Heap.set_same _ _ _) rfl rfl (by (repeat' (first | exact Grow.refl _ | assumption | (refine Grow.set ?_ (by assumption) (by first | exact (by simp only [*]) | exact (by simp [set_none', *]) | exact Grow.none (by assumption) (by simp [set_none', *]))) | (refine Grow.trans ?_ (by assumption))))))
    | (have e5 : reads i = [] := e0 _ fun e => by
         rw [show reads i = _ from e]; (repeat' split) <;> first | rfl | (exfalso; omega)
       exact ib_nil hr e5 (by (repeat' (first | exact Grow.refl _ | assumption | (refine Grow.set ?_ (by assumption) (by first | exact (by simp only [*]) | exact (by simp [set_none', *]) | exact Grow.none (by assumption) (by simp [set_none', *]))) | (refine Grow.trans ?_ (by assumption))))))
theorem r_Reads (i : Ins) (h : ∀ a c G, IB w0 H G a c (reads i) → Grow w0 H G → K (.slice a (reads i).length c) G) : HCalls Try.prog w0 28 [i.v] H K := by
  have ha := args_le i.fn i.bs
  have hr := h
  obtain ⟨n, en⟩ : ∃ n, args i.fn i.bs = n := ⟨_, rfl⟩
  rw [en] at ha
  have eR : reads i = (if i.op = 2 ∨ i.op = 6 ∨ i.op = 8 then [i.a]
  else if i.op = 4 ∨ i.op = 11 then [i.b]
  else if i.op = 5 then [i.a, i.b, i.c].take n.toNat
  else if i.op = 7 then [i.a, i.dst]
  else if i.op = 9 then [i.a, i.b]
  else []) := by rw [← en]; rfl
  unfold Ins.v Ins.row
  replace hr : Keep _ := hr
  replace eR : Keep _ := eR
  clear h
  refine HL.hc k28 999 ?_; unfold M28
  (all_goals (try simp only [Sh,Si,Sl,Bu,Bb,Bd,Bc,Bw,Bn,Int.reduceAdd,Int.reduceSub,Int.reduceMul,Int.reduceTDiv,Int.reduceTMod,Int.reduceMod,Int.reduceDiv,Nat.reduceLT,Nat.reduceEqDiff,decide_true,decide_false,Sa,Sb,Sc,Sd,Se,Sf,Sg,true_and,and_true,and_self,eq_self,b_i64,b_i32,b_u64,b_u32,b_u8,Int.reduceLE,Int.reduceLT,Int.reduceToNat,Int.reduceNeg,Int.reduceEq,Nat.reduceLeDiff,Nat.reducePow,Int.reducePow,Nat.min_def,reduceIte,Nat.reduceSub,Nat.reduceAdd,Nat.reduceMul,KP_same,KP_f,condS_t,condS_f,pick_t,pick_f,gS_tt,gS_ff,gS_tf,gS_ft,gS_u,gP_tt,gP_ff,gP_tf,gP_ft,gP_u,ptrV_eq,slcV_eq,mapV_eq,cells_agg,cells_int,cells_bool,cells_ptr,cells_slice,oc_int,oc_bool,oc_slice,oc_ptr,rd1_set,rd1_ne,rdn_set,rdn_ne,Heap.set_same,set_ne,Heap.set_set,set_up,set_up2,set_up3,putAt,ceq,List.map_cons,List.map_nil,List.length_cons,List.length_nil,List.length_set,List.cons_append,List.nil_append,List.append_nil,List.replicate,List.size_toArray,List.all_cons,List.all_nil,Bool.and_self,Bool.and_true,List.drop_zero,List.drop_succ_cons,List.take_succ_cons,List.take_zero,List.set_cons_zero,List.set_cons_succ,List.getElem?_cons_zero,List.getElem?_cons_succ,Option.map_some,Option.map_none,ne_eq,not_false_eq_true,not_true_eq_false,gt_iff_lt,ge_iff_le,Int.one_mul,Nat.zero_add,Nat.zero_mul,Bool.not_true,Bool.not_false,Bool.false_eq_true,Bool.and_false,Bool.false_and,Bool.true_and, *])); repeat' ((first | (with_reducible refine fun _ : True => ?_) | refine r_Args _ _ ?_ | (with_reducible refine any_h ?_) | ((first | refine AllocQ_i ?_ | refine AllocO_i ?_); intro bk hb0 hbk; try simp only [set_none'] at hbk) | ((first | refine condS_i ?_ ?_ | refine pick_i ?_ ?_ | refine gS_it ?_ ?_ | refine gS_if ?_ ?_ | refine gP_it ?_ ?_ | refine gP_if ?_ ?_) <;> (intro hc; try simp only [Int.reduceLE,Int.reduceLT,Int.reduceEq,and_self,not_true_eq_false,not_false_eq_true,and_true,true_and,false_and,and_false,true_or,or_true,false_or,or_false,decide_eq_true_eq,decide_eq_false_iff_not,beq_iff_eq,beq_eq_false_iff_ne,bne_iff_ne,ne_eq,gt_iff_lt,ge_iff_le,Bool.not_eq_true,Bool.not_eq_false,Bool.not_eq_true',Bool.not_eq_false',Bool.not_eq_eq_eq_not,Bool.not_true,Bool.not_false] at hc; try (exfalso; omega))) | (refine KP_i (by (repeat' (first | exact Heap.Le.refl _ | (refine Le_fresh (by first | exact (by simp only [*]) | exact (by simp [set_none', *])) ?_) | (refine Heap.Le.trans ?_ (Grow.le (by assumption)))))) ?_) | (with_reducible refine And.intro ?_ ?_)) <;> (try simp only [Sh,Si,Sl,Bu,Bb,Bd,Bc,Bw,Bn,Int.reduceAdd,Int.reduceSub,Int.reduceMul,Int.reduceTDiv,Int.reduceTMod,Int.reduceMod,Int.reduceDiv,Nat.reduceLT,Nat.reduceEqDiff,decide_true,decide_false,Sa,Sb,Sc,Sd,Se,Sf,Sg,true_and,and_true,and_self,eq_self,b_i64,b_i32,b_u64,b_u32,b_u8,Int.reduceLE,Int.reduceLT,Int.reduceToNat,Int.reduceNeg,Int.reduceEq,Nat.reduceLeDiff,Nat.reducePow,Int.reducePow,Nat.min_def,reduceIte,Nat.reduceSub,Nat.reduceAdd,Nat.reduceMul,KP_same,KP_f,condS_t,condS_f,pick_t,pick_f,gS_tt,gS_ff,gS_tf,gS_ft,gS_u,gP_tt,gP_ff,gP_tf,gP_ft,gP_u,ptrV_eq,slcV_eq,mapV_eq,cells_agg,cells_int,cells_bool,cells_ptr,cells_slice,oc_int,oc_bool,oc_slice,oc_ptr,rd1_set,rd1_ne,rdn_set,rdn_ne,Heap.set_same,set_ne,Heap.set_set,set_up,set_up2,set_up3,putAt,ceq,List.map_cons,List.map_nil,List.length_cons,List.length_nil,List.length_set,List.cons_append,List.nil_append,List.append_nil,List.replicate,List.size_toArray,List.all_cons,List.all_nil,Bool.and_self,Bool.and_true,List.drop_zero,List.drop_succ_cons,List.take_succ_cons,List.take_zero,List.set_cons_zero,List.set_cons_succ,List.getElem?_cons_zero,List.getElem?_cons_succ,Option.map_some,Option.map_none,ne_eq,not_false_eq_true,not_true_eq_false,gt_iff_lt,ge_iff_le,Int.one_mul,Nat.zero_add,Nat.zero_mul,Bool.not_true,Bool.not_false,Bool.false_eq_true,Bool.and_false,Bool.false_and,Bool.true_and, *]))
  all_goals have e0 : ∀ l, (Keep (reads i = _) → reads i = l) → reads i = l := fun l f => f eR
  all_goals first
    | (refine ib_of hr (l := [i.a]) (e0 _ fun e => ?_) [] rfl hb0 hbk.2 (Heap.set_same _ _ _) rfl rfl (by (repeat' (first | exact Grow.refl _ | assumption | (refine Grow.set ?_ (by assumption) (by first | exact (by simp only [*]) | exact (by simp [set_none', *]) | exact Grow.none (by assumption) (by simp [set_none', *]))) | (refine Grow.trans ?_ (by assumption))))); (rw [show reads i = _ from e]; (repeat' split) <;> first | rfl | (exfalso; omega)); done)
    | (refine ib_of hr (l := [i.b]) (e0 _ fun e => ?_) [] rfl hb0 hbk.2 (Heap.set_same _ _ _) rfl rfl (by (repeat' (first | exact Grow.refl _ | assumption | (refine Grow.set ?_ (by assumption) (by first | exact (by simp only [*]) | exact (by simp [set_none', *]) | exact Grow.none (by assumption) (by simp [set_none', *]))) | (refine Grow.trans ?_ (by assumption))))); (rw [show reads i = _ from e]; (repeat' split) <;> first | rfl | (exfalso; omega)); done)
    | (refine ib_of hr (l := [i.a, i.dst]) (e0 _ fun e => ?_) [] rfl hb0 hbk.2 (Heap.set_same _ _ _) rfl rfl (by (repeat' (first | exact Grow.refl _ | assumption | (refine Grow.set ?_ (by assumption) (by first | exact (by simp only [*]) | exact (by simp [set_none', *]) | exact Grow.none (by assumption) (by simp [set_none', *]))) | (refine Grow.trans ?_ (by assumption))))); (rw [show reads i = _ from e]; (repeat' split) <;> first | rfl | (exfalso; omega)); done)
    | (refine ib_of hr (l := [i.a, i.b]) (e0 _ fun e => ?_) [] rfl hb0 hbk.2 (Heap.set_same _ _ _) rfl rfl (by (repeat' (first | exact Grow.refl _ | assumption | (refine Grow.set ?_ (by assumption) (by first | exact (by simp only [*]) | exact (by simp [set_none', *]) | exact Grow.none (by assumption) (by simp [set_none', *]))) | (refine Grow.trans ?_ (by assumption))))); (rw [show reads i = _ from e]; (repeat' split) <;> first | rfl | (exfalso; omega)); done)
    | (have e1 : n = 0 ∨ n = 1 ∨ n = 2 ∨ n = 3 := by omega
       have e5 : reads i = [i.a, i.b, i.c].take n.toNat := e0 _ fun e => by
         rw [show reads i = _ from e]; (repeat' split) <;> first | rfl | (exfalso; omega)
       rcases e1 with rfl | rfl | rfl | rfl
       · exact ib_of hr (l := []) e5 [.int .i64 i.a, .int .i64 i.b, .int .i64 i.c] rfl hb0 hbk.2 (Heap.set_same _ _ _) rfl rfl (by (repeat' (first | exact Grow.refl _ | assumption | (refine Grow.set ?_ (by assumption) (by first | exact (by simp only [*]) | exact (by simp [set_none', *]) | exact Grow.none (by assumption) (by simp [set_none', *]))) | (refine Grow.trans ?_ (by assumption)))))
       · exact ib_of hr (l := [i.a]) e5 [.int .i64 i.b, .int .i64 i.c] rfl hb0 hbk.2 (Heap.set_same _ _ _) rfl rfl (by (repeat' (first | exact Grow.refl _ | assumption | (refine Grow.set ?_ (by assumption) (by first | exact (by simp only [*]) | exact (by simp [set_none', *]) | exact Grow.none (by assumption) (by simp [set_none', *]))) | (refine Grow.trans ?_ (by assumption)))))
       · exact ib_of hr (l := [i.a, i.b]) e5 [.int .i64 i.c] rfl hb0 hbk.2 (Heap.set_same _ _ _) rfl rfl (by (repeat' (first | exact Grow.refl _ | assumption | (refine Grow.set ?_ (by assumption) (by first | exact (by simp only [*]) | exact (by simp [set_none', *]) | exact Grow.none (by assumption) (by simp [set_none', *]))) | (refine Grow.trans ?_ (by assumption)))))
       · exact ib_of hr (l := [i.a, i.b, i.c]) e5 [] rfl hb0 hbk.2 (Heap.set_same _ _ _) rfl rfl (by (repeat' (first | exact Grow.refl _ | assumption | (refine Grow.set ?_ (by assumption) (by first | exact (by simp only [*]) | exact (by simp [set_none', *]) | exact Grow.none (by assumption) (by simp [set_none', *]))) | (refine Grow.trans ?_ (by assumption))))))
    | (have e5 : reads i = [] := e0 _ fun e => by
         rw [show reads i = _ from e]; (repeat' split) <;> first | rfl | (exfalso; omega)
       exact ib_nil hr e5 (by (repeat' (first | exact Grow.refl _ | assumption | (refine Grow.set ?_ (by assumption) (by first | exact (by simp only [*]) | exact (by simp [set_none', *]) | exact Grow.none (by assumption) (by simp [set_none', *]))) | (refine Grow.trans ?_ (by assumption))))))
end Go.Proofs.Ytndgmnmnpfblmaa
