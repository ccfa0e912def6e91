/- What the functions of layer 2 return. -/
import Derived.Test.YtokjajfojjibcaaPa
import Derived.Test.YtokjajfojjibcaaProg
set_option linter.unusedSimpArgs false
set_option linter.unusedVariables false
set_option maxRecDepth 100000
set_option maxHeartbeats 2000000
namespace Go.Proofs.Ytokjajfojjibcaa
open Go.HL Go.RowKit Pb
variable {w0 : World} {H : Heap} {K : Value → Heap → Prop}

/- fix cut[int64] -/
def M43 : MC :=
  .seq (.reg [⟨(some 6), .mv (.const (.int .i64 0)), none⟩])
  (.seq (.reg [⟨(some 7), .mv (.tmp 0), none⟩,
      ⟨(some 8), .mv (.tmp 1), none⟩,
      ⟨(some 9), .mx (.tmp 7) (.tmp 8), none⟩,
      ⟨(some 10), .mv (.tmp 2), none⟩,
      ⟨(some 11), .mn (.tmp 9) (.tmp 10), none⟩,
      ⟨(some 6), .mv (.tmp 11), none⟩])
   (.ret))
theorem k43 : fnOk Try.prog 43 = some (M43, [.t 6], 12) := by kernel_rfl

theorem c_cut (a b c : Int) (h : K (.int .i64 (cut a b c)) H) : HCalls Try.prog w0 43 [.int .i64 a, .int .i64 b, .int .i64 c] H K := by
  refine HL.hc k43 999 ?_; unfold M43
  exact Fin_mk (Heap.Le.refl _) h
/- fix Raw -/
def M36 : MC :=
  .seq (.reg [⟨(some 2), .mv (.const (.int .i32 0)), none⟩])
  (.seq (.reg [⟨(some 3), .mv (.tmp 0), none⟩,
      ⟨(some 4), .call 43 [(.tmp 3), (.const (.int .i64 (-2147483648))), (.const (.int .i64 2147483647))], none⟩,
      ⟨(some 5), .conv .i32 (.tmp 4), none⟩,
      ⟨(some 2), .mv (.tmp 5), none⟩])
   (.ret))
theorem k36 : fnOk Try.prog 36 = some (M36, [.t 2], 6) := by kernel_rfl

theorem c_Raw (n : Int) (h : K (.int .i32 (raw n)) H) : HCalls Try.prog w0 36 [.int .i64 n] H K := by
  refine HL.hc k36 999 ?_; unfold M36
  rw [← w32_cut] at h
  (all_goals (try simp only [Sh,Si,Sl,Bu,Bb,Bd,Bc,Bw,Bn,Int.reduceAdd,Int.reduceSub,Int.reduceMul,Int.reduceTDiv,Int.reduceTMod,Int.reduceMod,Int.reduceDiv,Nat.reduceLT,Nat.reduceEqDiff,decide_true,decide_false,Sa,Sb,Sc,Sd,Se,Sf,Sg,true_and,and_true,and_self,eq_self,b_i64,b_i32,b_u64,b_u32,b_u8,Int.reduceLE,Int.reduceLT,Int.reduceToNat,Int.reduceNeg,Int.reduceEq,Nat.reduceLeDiff,Nat.reducePow,Int.reducePow,Nat.min_def,reduceIte,Nat.reduceSub,Nat.reduceAdd,Nat.reduceMul,KP_same,KP_f,condS_t,condS_f,pick_t,pick_f,gS_tt,gS_ff,gS_tf,gS_ft,gS_u,gP_tt,gP_ff,gP_tf,gP_ft,gP_u,ptrV_eq,slcV_eq,mapV_eq,cells_agg,cells_int,cells_bool,cells_ptr,cells_slice,oc_int,oc_bool,oc_slice,oc_ptr,rd1_set,rd1_ne,rdn_set,rdn_ne,Heap.set_same,set_ne,Heap.set_set,set_up,set_up2,set_up3,putAt,ceq,List.map_cons,List.map_nil,List.length_cons,List.length_nil,List.length_set,List.cons_append,List.nil_append,List.append_nil,List.replicate,List.size_toArray,List.all_cons,List.all_nil,Bool.and_self,Bool.and_true,List.drop_zero,List.drop_succ_cons,List.take_succ_cons,List.take_zero,List.set_cons_zero,List.set_cons_succ,List.getElem?_cons_zero,List.getElem?_cons_succ,Option.map_some,Option.map_none,ne_eq,not_false_eq_true,not_true_eq_false,gt_iff_lt,ge_iff_le,Int.one_mul,Nat.zero_add,Nat.zero_mul,Bool.not_true,Bool.not_false,Bool.false_eq_true,Bool.and_false,Bool.false_and,Bool.true_and, *])); repeat' ((first | (with_reducible refine fun _ : True => ?_) | refine c_cut _ _ _ ?_ | (with_reducible refine any_h ?_) | ((first | refine AllocQ_i ?_ | refine AllocO_i ?_); intro bk hb0 hbk; try simp only [set_none'] at hbk) | ((first | refine condS_i ?_ ?_ | refine pick_i ?_ ?_ | refine gS_it ?_ ?_ | refine gS_if ?_ ?_ | refine gP_it ?_ ?_ | refine gP_if ?_ ?_) <;> (intro hc; try simp only [Int.reduceLE,Int.reduceLT,Int.reduceEq,and_self,not_true_eq_false,not_false_eq_true,and_true,true_and,false_and,and_false,true_or,or_true,false_or,or_false,decide_eq_true_eq,decide_eq_false_iff_not,beq_iff_eq,beq_eq_false_iff_ne,bne_iff_ne,ne_eq,gt_iff_lt,ge_iff_le,Bool.not_eq_true,Bool.not_eq_false,Bool.not_eq_true',Bool.not_eq_false',Bool.not_eq_eq_eq_not,Bool.not_true,Bool.not_false] at hc)) | (refine KP_i (by (repeat' (first | exact Heap.Le.refl _ | (refine Le_fresh (by first | exact (by simp only [*]) | exact (by simp [set_none', *])) ?_) | (refine Heap.Le.trans ?_ (Grow.le (by assumption)))))) ?_) | (with_reducible refine And.intro ?_ ?_)) <;> (try simp only [Sh,Si,Sl,Bu,Bb,Bd,Bc,Bw,Bn,Int.reduceAdd,Int.reduceSub,Int.reduceMul,Int.reduceTDiv,Int.reduceTMod,Int.reduceMod,Int.reduceDiv,Nat.reduceLT,Nat.reduceEqDiff,decide_true,decide_false,Sa,Sb,Sc,Sd,Se,Sf,Sg,true_and,and_true,and_self,eq_self,b_i64,b_i32,b_u64,b_u32,b_u8,Int.reduceLE,Int.reduceLT,Int.reduceToNat,Int.reduceNeg,Int.reduceEq,Nat.reduceLeDiff,Nat.reducePow,Int.reducePow,Nat.min_def,reduceIte,Nat.reduceSub,Nat.reduceAdd,Nat.reduceMul,KP_same,KP_f,condS_t,condS_f,pick_t,pick_f,gS_tt,gS_ff,gS_tf,gS_ft,gS_u,gP_tt,gP_ff,gP_tf,gP_ft,gP_u,ptrV_eq,slcV_eq,mapV_eq,cells_agg,cells_int,cells_bool,cells_ptr,cells_slice,oc_int,oc_bool,oc_slice,oc_ptr,rd1_set,rd1_ne,rdn_set,rdn_ne,Heap.set_same,set_ne,Heap.set_set,set_up,set_up2,set_up3,putAt,ceq,List.map_cons,List.map_nil,List.length_cons,List.length_nil,List.length_set,List.cons_append,List.nil_append,List.append_nil,List.replicate,List.size_toArray,List.all_cons,List.all_nil,Bool.and_self,Bool.and_true,List.drop_zero,List.drop_succ_cons,List.take_succ_cons,List.take_zero,List.set_cons_zero,List.set_cons_succ,List.getElem?_cons_zero,List.getElem?_cons_succ,Option.map_some,Option.map_none,ne_eq,not_false_eq_true,not_true_eq_false,gt_iff_lt,ge_iff_le,Int.one_mul,Nat.zero_add,Nat.zero_mul,Bool.not_true,Bool.not_false,Bool.false_eq_true,Bool.and_false,Bool.false_and,Bool.true_and, *]))
  exact Fin_mk (Heap.Le.refl _) h
/- fix Add -/
def M31 : MC :=
  .seq (.reg [⟨(some 4), .mv (.const (.int .i32 0)), none⟩])
  (.seq (.reg [⟨(some 5), .mv (.tmp 0), none⟩,
      ⟨(some 6), .conv .i64 (.tmp 5), none⟩,
      ⟨(some 7), .mv (.tmp 1), none⟩,
      ⟨(some 8), .conv .i64 (.tmp 7), none⟩,
      ⟨(some 9), .bin .add (.tmp 6) (.tmp 8), none⟩,
      ⟨(some 10), .call 36 [(.tmp 9)], none⟩,
      ⟨(some 4), .mv (.tmp 10), none⟩])
   (.ret))
theorem k31 : fnOk Try.prog 31 = some (M31, [.t 4], 11) := by kernel_rfl

theorem c_Add (a b : Int) (ha : I32 a) (hb : I32 b) (h : K (.int .i32 (fadd a b)) H) : HCalls Try.prog w0 31 [.int .i32 a, .int .i32 b] H K := by
  refine HL.hc k31 999 ?_; unfold M31
  (all_goals (try simp only [Sh,Si,Sl,Bu,Bb,Bd,Bc,Bw,Bn,Int.reduceAdd,Int.reduceSub,Int.reduceMul,Int.reduceTDiv,Int.reduceTMod,Int.reduceMod,Int.reduceDiv,Nat.reduceLT,Nat.reduceEqDiff,decide_true,decide_false,Sa,Sb,Sc,Sd,Se,Sf,Sg,true_and,and_true,and_self,eq_self,b_i64,b_i32,b_u64,b_u32,b_u8,Int.reduceLE,Int.reduceLT,Int.reduceToNat,Int.reduceNeg,Int.reduceEq,Nat.reduceLeDiff,Nat.reducePow,Int.reducePow,Nat.min_def,reduceIte,Nat.reduceSub,Nat.reduceAdd,Nat.reduceMul,KP_same,KP_f,condS_t,condS_f,pick_t,pick_f,gS_tt,gS_ff,gS_tf,gS_ft,gS_u,gP_tt,gP_ff,gP_tf,gP_ft,gP_u,ptrV_eq,slcV_eq,mapV_eq,cells_agg,cells_int,cells_bool,cells_ptr,cells_slice,oc_int,oc_bool,oc_slice,oc_ptr,rd1_set,rd1_ne,rdn_set,rdn_ne,Heap.set_same,set_ne,Heap.set_set,set_up,set_up2,set_up3,putAt,ceq,List.map_cons,List.map_nil,List.length_cons,List.length_nil,List.length_set,List.cons_append,List.nil_append,List.append_nil,List.replicate,List.size_toArray,List.all_cons,List.all_nil,Bool.and_self,Bool.and_true,List.drop_zero,List.drop_succ_cons,List.take_succ_cons,List.take_zero,List.set_cons_zero,List.set_cons_succ,List.getElem?_cons_zero,List.getElem?_cons_succ,Option.map_some,Option.map_none,ne_eq,not_false_eq_true,not_true_eq_false,gt_iff_lt,ge_iff_le,Int.one_mul,Nat.zero_add,Nat.zero_mul,Bool.not_true,Bool.not_false,Bool.false_eq_true,Bool.and_false,Bool.false_and,Bool.true_and, *])); repeat' ((first | (with_reducible refine fun _ : True => ?_) | refine c_Raw _ ?_ | (with_reducible refine any_h ?_) | ((first | refine AllocQ_i ?_ | refine AllocO_i ?_); intro bk hb0 hbk; try simp only [set_none'] at hbk) | ((first | refine condS_i ?_ ?_ | refine pick_i ?_ ?_ | refine gS_it ?_ ?_ | refine gS_if ?_ ?_ | refine gP_it ?_ ?_ | refine gP_if ?_ ?_) <;> (intro hc; try simp only [Int.reduceLE,Int.reduceLT,Int.reduceEq,and_self,not_true_eq_false,not_false_eq_true,and_true,true_and,false_and,and_false,true_or,or_true,false_or,or_false,decide_eq_true_eq,decide_eq_false_iff_not,beq_iff_eq,beq_eq_false_iff_ne,bne_iff_ne,ne_eq,gt_iff_lt,ge_iff_le,Bool.not_eq_true,Bool.not_eq_false,Bool.not_eq_true',Bool.not_eq_false',Bool.not_eq_eq_eq_not,Bool.not_true,Bool.not_false] at hc)) | (refine KP_i (by (repeat' (first | exact Heap.Le.refl _ | (refine Le_fresh (by first | exact (by simp only [*]) | exact (by simp [set_none', *])) ?_) | (refine Heap.Le.trans ?_ (Grow.le (by assumption)))))) ?_) | (with_reducible refine And.intro ?_ ?_)) <;> (try simp only [Sh,Si,Sl,Bu,Bb,Bd,Bc,Bw,Bn,Int.reduceAdd,Int.reduceSub,Int.reduceMul,Int.reduceTDiv,Int.reduceTMod,Int.reduceMod,Int.reduceDiv,Nat.reduceLT,Nat.reduceEqDiff,decide_true,decide_false,Sa,Sb,Sc,Sd,Se,Sf,Sg,true_and,and_true,and_self,eq_self,b_i64,b_i32,b_u64,b_u32,b_u8,Int.reduceLE,Int.reduceLT,Int.reduceToNat,Int.reduceNeg,Int.reduceEq,Nat.reduceLeDiff,Nat.reducePow,Int.reducePow,Nat.min_def,reduceIte,Nat.reduceSub,Nat.reduceAdd,Nat.reduceMul,KP_same,KP_f,condS_t,condS_f,pick_t,pick_f,gS_tt,gS_ff,gS_tf,gS_ft,gS_u,gP_tt,gP_ff,gP_tf,gP_ft,gP_u,ptrV_eq,slcV_eq,mapV_eq,cells_agg,cells_int,cells_bool,cells_ptr,cells_slice,oc_int,oc_bool,oc_slice,oc_ptr,rd1_set,rd1_ne,rdn_set,rdn_ne,Heap.set_same,set_ne,Heap.set_set,set_up,set_up2,set_up3,putAt,ceq,List.map_cons,List.map_nil,List.length_cons,List.length_nil,List.length_set,List.cons_append,List.nil_append,List.append_nil,List.replicate,List.size_toArray,List.all_cons,List.all_nil,Bool.and_self,Bool.and_true,List.drop_zero,List.drop_succ_cons,List.take_succ_cons,List.take_zero,List.set_cons_zero,List.set_cons_succ,List.getElem?_cons_zero,List.getElem?_cons_succ,Option.map_some,Option.map_none,ne_eq,not_false_eq_true,not_true_eq_false,gt_iff_lt,ge_iff_le,Int.one_mul,Nat.zero_add,Nat.zero_mul,Bool.not_true,Bool.not_false,Bool.false_eq_true,Bool.and_false,Bool.false_and,Bool.true_and, *]))
  exact Fin_mk (Heap.Le.refl _) (K_int h (fadd_eq ha hb))
/- fix Div -/
def M24 : MC :=
  .seq (.reg [⟨(some 4), .mv (.const (.int .i32 0)), none⟩])
  (.seq (.reg [⟨(some 7), .mv (.tmp 0), none⟩,
      ⟨(some 8), .conv .i64 (.tmp 7), none⟩,
      ⟨(some 9), .bin .shl (.tmp 8) (.const (.int .u64 16)), none⟩,
      ⟨(some 10), .mv (.tmp 1), none⟩,
      ⟨(some 11), .conv .i64 (.tmp 10), none⟩,
      ⟨(some 5), .mv (.tmp 9), none⟩,
      ⟨(some 6), .mv (.tmp 11), none⟩])
   (.seq (.seq (.reg [⟨(some 12), .mv (.tmp 6), none⟩,
        ⟨(some 13), .bin .lss (.tmp 12) (.const (.int .i64 0)), none⟩])
     (.cond (.tmp 13)
      (.reg [⟨(some 14), .mv (.tmp 5), none⟩,
         ⟨(some 15), .un .neg (.tmp 14), none⟩,
         ⟨(some 16), .mv (.tmp 6), none⟩,
         ⟨(some 17), .un .neg (.tmp 16), none⟩,
         ⟨(some 5), .mv (.tmp 15), none⟩,
         ⟨(some 6), .mv (.tmp 17), none⟩])
      (.skip)))
    (.seq (.block 0 (.seq (.reg [⟨(some 19), .mv (.tmp 6), none⟩,
          ⟨(some 20), .bin .eql (.tmp 19) (.const (.int .i64 0)), none⟩,
          ⟨(some 21), .mv (.tmp 20), none⟩,
          ⟨(some 22), .mv (.tmp 5), (some (21, true))⟩,
          ⟨(some 23), .bin .gtr (.tmp 22) (.const (.int .i64 0)), (some (21, true))⟩,
          ⟨(some 24), .pick (.tmp 21) (.tmp 23) (.const (.bool false)), none⟩,
          ⟨(some 18), .mv (.tmp 24), none⟩])
       (.cond (.tmp 18)
        (.seq (.reg [⟨(some 4), .mv (.const (.int .i32 2147483647)), none⟩])
         (.ret))
        (.seq (.reg [⟨(some 26), .mv (.tmp 6), none⟩,
            ⟨(some 27), .bin .eql (.tmp 26) (.const (.int .i64 0)), none⟩,
            ⟨(some 28), .mv (.tmp 27), none⟩,
            ⟨(some 29), .mv (.tmp 5), (some (28, true))⟩,
            ⟨(some 30), .bin .lss (.tmp 29) (.const (.int .i64 0)), (some (28, true))⟩,
            ⟨(some 31), .pick (.tmp 28) (.tmp 30) (.const (.bool false)), none⟩,
            ⟨(some 25), .mv (.tmp 31), none⟩])
         (.cond (.tmp 25)
          (.seq (.reg [⟨(some 4), .mv (.const (.int .i32 (-2147483648))), none⟩])
           (.ret))
          (.seq (.reg [⟨(some 33), .mv (.tmp 6), none⟩,
              ⟨(some 34), .bin .eql (.tmp 33) (.const (.int .i64 0)), none⟩,
              ⟨(some 32), .mv (.tmp 34), none⟩])
           (.cond (.tmp 32)
            (.seq (.reg [⟨(some 4), .mv (.const (.int .i32 0)), none⟩])
             (.ret))
            (.seq (.reg [⟨(some 36), .mv (.tmp 5), none⟩,
                ⟨(some 37), .bin .lss (.tmp 36) (.const (.int .i64 0)), none⟩,
                ⟨(some 35), .mv (.tmp 37), none⟩])
             (.cond (.tmp 35)
              (.seq (.reg [⟨(some 38), .mv (.tmp 5), none⟩,
                  ⟨(some 39), .bin .mul (.const (.int .i64 (-2))) (.tmp 38), none⟩,
                  ⟨(some 40), .mv (.tmp 6), none⟩,
                  ⟨(some 41), .bin .add (.tmp 39) (.tmp 40), none⟩,
                  ⟨(some 42), .mv (.tmp 6), none⟩,
                  ⟨(some 43), .bin .mul (.const (.int .i64 2)) (.tmp 42), none⟩,
                  ⟨(some 44), .bin .quo (.tmp 41) (.tmp 43), none⟩,
                  ⟨(some 45), .un .neg (.tmp 44), none⟩,
                  ⟨(some 46), .call 36 [(.tmp 45)], none⟩,
                  ⟨(some 4), .mv (.tmp 46), none⟩])
               (.ret))
              (.skip))))))))))
     (.seq (.reg [⟨(some 47), .mv (.tmp 5), none⟩,
         ⟨(some 48), .bin .mul (.const (.int .i64 2)) (.tmp 47), none⟩,
         ⟨(some 49), .mv (.tmp 6), none⟩,
         ⟨(some 50), .bin .add (.tmp 48) (.tmp 49), none⟩,
         ⟨(some 51), .mv (.tmp 6), none⟩,
         ⟨(some 52), .bin .mul (.const (.int .i64 2)) (.tmp 51), none⟩,
         ⟨(some 53), .bin .quo (.tmp 50) (.tmp 52), none⟩,
         ⟨(some 54), .call 36 [(.tmp 53)], none⟩,
         ⟨(some 4), .mv (.tmp 54), none⟩])
      (.ret)))))
theorem k24 : fnOk Try.prog 24 = some (M24, [.t 4], 55) := by kernel_rfl

theorem c_Div (a b : Int) (ha : I32 a) (hb : I32 b) (h : K (.int .i32 (fdiv a b)) H) : HCalls Try.prog w0 24 [.int .i32 a, .int .i32 b] H K := by
  refine HL.hc k24 999 ?_; unfold M24
  unfold I32 at ha hb
  have e1 : IntKind.i64.wrap a = a := w64_in (by omega) (by omega)
  have e2 : IntKind.i64.wrap b = b := w64_in (by omega) (by omega)
  have e3 : IntKind.i64.wrap (a * 65536) = a * 65536 := w64_in (by omega) (by omega)
  have e4 : IntKind.i64.wrap (0 - a * 65536) = -(a * 65536) := by rw [Int.zero_sub]; exact w64_in (by omega) (by omega)
  have e5 : IntKind.i64.wrap (0 - b) = -b := by rw [Int.zero_sub]; exact w64_in (by omega) (by omega)
  (all_goals (try simp only [Sh,Si,Sl,Bu,Bb,Bd,Bc,Bw,Bn,Int.reduceAdd,Int.reduceSub,Int.reduceMul,Int.reduceTDiv,Int.reduceTMod,Int.reduceMod,Int.reduceDiv,Nat.reduceLT,Nat.reduceEqDiff,decide_true,decide_false,Sa,Sb,Sc,Sd,Se,Sf,Sg,true_and,and_true,and_self,eq_self,b_i64,b_i32,b_u64,b_u32,b_u8,Int.reduceLE,Int.reduceLT,Int.reduceToNat,Int.reduceNeg,Int.reduceEq,Nat.reduceLeDiff,Nat.reducePow,Int.reducePow,Nat.min_def,reduceIte,Nat.reduceSub,Nat.reduceAdd,Nat.reduceMul,KP_same,KP_f,condS_t,condS_f,pick_t,pick_f,gS_tt,gS_ff,gS_tf,gS_ft,gS_u,gP_tt,gP_ff,gP_tf,gP_ft,gP_u,ptrV_eq,slcV_eq,mapV_eq,cells_agg,cells_int,cells_bool,cells_ptr,cells_slice,oc_int,oc_bool,oc_slice,oc_ptr,rd1_set,rd1_ne,rdn_set,rdn_ne,Heap.set_same,set_ne,Heap.set_set,set_up,set_up2,set_up3,putAt,ceq,List.map_cons,List.map_nil,List.length_cons,List.length_nil,List.length_set,List.cons_append,List.nil_append,List.append_nil,List.replicate,List.size_toArray,List.all_cons,List.all_nil,Bool.and_self,Bool.and_true,List.drop_zero,List.drop_succ_cons,List.take_succ_cons,List.take_zero,List.set_cons_zero,List.set_cons_succ,List.getElem?_cons_zero,List.getElem?_cons_succ,Option.map_some,Option.map_none,ne_eq,not_false_eq_true,not_true_eq_false,gt_iff_lt,ge_iff_le,Int.one_mul,Nat.zero_add,Nat.zero_mul,Bool.not_true,Bool.not_false,Bool.false_eq_true,Bool.and_false,Bool.false_and,Bool.true_and, *])); repeat' ((first | (with_reducible refine fun _ : True => ?_) | refine c_Raw _ ?_ | (with_reducible refine any_h ?_) | ((first | refine AllocQ_i ?_ | refine AllocO_i ?_); intro bk hb0 hbk; try simp only [set_none'] at hbk) | ((first | refine condS_i ?_ ?_ | refine pick_i ?_ ?_ | refine gS_it ?_ ?_ | refine gS_if ?_ ?_ | refine gP_it ?_ ?_ | refine gP_if ?_ ?_) <;> (intro hc; try simp only [Int.reduceLE,Int.reduceLT,Int.reduceEq,and_self,not_true_eq_false,not_false_eq_true,and_true,true_and,false_and,and_false,true_or,or_true,false_or,or_false,decide_eq_true_eq,decide_eq_false_iff_not,beq_iff_eq,beq_eq_false_iff_ne,bne_iff_ne,ne_eq,gt_iff_lt,ge_iff_le,Bool.not_eq_true,Bool.not_eq_false,Bool.not_eq_true',Bool.not_eq_false',Bool.not_eq_eq_eq_not,Bool.not_true,Bool.not_false] at hc)) | (refine KP_i (by (repeat' (first | exact Heap.Le.refl _ | (refine Le_fresh (by first | exact (by simp only [*]) | exact (by simp [set_none', *])) ?_) | (refine Heap.Le.trans ?_ (Grow.le (by assumption)))))) ?_) | (with_reducible refine And.intro ?_ ?_)) <;> (try simp only [Sh,Si,Sl,Bu,Bb,Bd,Bc,Bw,Bn,Int.reduceAdd,Int.reduceSub,Int.reduceMul,Int.reduceTDiv,Int.reduceTMod,Int.reduceMod,Int.reduceDiv,Nat.reduceLT,Nat.reduceEqDiff,decide_true,decide_false,Sa,Sb,Sc,Sd,Se,Sf,Sg,true_and,and_true,and_self,eq_self,b_i64,b_i32,b_u64,b_u32,b_u8,Int.reduceLE,Int.reduceLT,Int.reduceToNat,Int.reduceNeg,Int.reduceEq,Nat.reduceLeDiff,Nat.reducePow,Int.reducePow,Nat.min_def,reduceIte,Nat.reduceSub,Nat.reduceAdd,Nat.reduceMul,KP_same,KP_f,condS_t,condS_f,pick_t,pick_f,gS_tt,gS_ff,gS_tf,gS_ft,gS_u,gP_tt,gP_ff,gP_tf,gP_ft,gP_u,ptrV_eq,slcV_eq,mapV_eq,cells_agg,cells_int,cells_bool,cells_ptr,cells_slice,oc_int,oc_bool,oc_slice,oc_ptr,rd1_set,rd1_ne,rdn_set,rdn_ne,Heap.set_same,set_ne,Heap.set_set,set_up,set_up2,set_up3,putAt,ceq,List.map_cons,List.map_nil,List.length_cons,List.length_nil,List.length_set,List.cons_append,List.nil_append,List.append_nil,List.replicate,List.size_toArray,List.all_cons,List.all_nil,Bool.and_self,Bool.and_true,List.drop_zero,List.drop_succ_cons,List.take_succ_cons,List.take_zero,List.set_cons_zero,List.set_cons_succ,List.getElem?_cons_zero,List.getElem?_cons_succ,Option.map_some,Option.map_none,ne_eq,not_false_eq_true,not_true_eq_false,gt_iff_lt,ge_iff_le,Int.one_mul,Nat.zero_add,Nat.zero_mul,Bool.not_true,Bool.not_false,Bool.false_eq_true,Bool.and_false,Bool.false_and,Bool.true_and, *]))

  all_goals try simp only [Int.reduceLE,Int.reduceLT,Int.reduceEq,and_self,not_true_eq_false,not_false_eq_true,and_true,true_and,false_and,and_false,true_or,or_true,false_or,or_false,decide_eq_true_eq,decide_eq_false_iff_not,beq_iff_eq,beq_eq_false_iff_ne,bne_iff_ne,ne_eq,gt_iff_lt,ge_iff_le,Bool.not_eq_true,Bool.not_eq_false,Bool.not_eq_true',Bool.not_eq_false',Bool.not_eq_eq_eq_not,Bool.not_true,Bool.not_false] at *
  all_goals try (exfalso; omega)
  all_goals with_reducible first | (refine Fin_mk (Heap.Le.refl _) (K_int h ?_)) | (refine div_ne ?_ ?_ <;> omega)
  all_goals with_reducible first
    | refine (congrArg raw (div_neg ?_ ?_ ?_ ?_)).trans ?_
    | refine (congrArg raw (div_pos ?_ ?_ ?_ ?_)).trans ?_
    | skip
  all_goals try omega
  all_goals unfold fdiv
  all_goals ((try rw [Int.neg_neg]); (repeat' split) <;> first | rfl | (exfalso; omega))
/- paintboxref02 Raw -/
def M42 : MC :=
  .seq (.reg [⟨(some 2), .mv (.const (.int .i32 0)), none⟩])
  (.seq (.seq (.reg [⟨(some 3), .mv (.tmp 0), none⟩,
       ⟨(some 4), .bin .gtr (.tmp 3) (.const (.int .i64 2147483647)), none⟩])
    (.cond (.tmp 4)
     (.seq (.reg [⟨(some 2), .mv (.const (.int .i32 2147483647)), none⟩])
      (.ret))
     (.skip)))
   (.seq (.seq (.reg [⟨(some 5), .mv (.tmp 0), none⟩,
        ⟨(some 6), .bin .lss (.tmp 5) (.const (.int .i64 (-2147483648))), none⟩])
     (.cond (.tmp 6)
      (.seq (.reg [⟨(some 2), .mv (.const (.int .i32 (-2147483648))), none⟩])
       (.ret))
      (.skip)))
    (.seq (.reg [⟨(some 7), .mv (.tmp 0), none⟩,
        ⟨(some 8), .conv .i32 (.tmp 7), none⟩,
        ⟨(some 2), .mv (.tmp 8), none⟩])
     (.ret))))
theorem k42 : fnOk Try.prog 42 = some (M42, [.t 2], 9) := by kernel_rfl

theorem r_Raw (n : Int) (h : K (.int .i32 (raw n)) H) : HCalls Try.prog w0 42 [.int .i64 n] H K := by
  refine HL.hc k42 999 ?_; unfold M42
  (all_goals (try simp only [Sh,Si,Sl,Bu,Bb,Bd,Bc,Bw,Bn,Int.reduceAdd,Int.reduceSub,Int.reduceMul,Int.reduceTDiv,Int.reduceTMod,Int.reduceMod,Int.reduceDiv,Nat.reduceLT,Nat.reduceEqDiff,decide_true,decide_false,Sa,Sb,Sc,Sd,Se,Sf,Sg,true_and,and_true,and_self,eq_self,b_i64,b_i32,b_u64,b_u32,b_u8,Int.reduceLE,Int.reduceLT,Int.reduceToNat,Int.reduceNeg,Int.reduceEq,Nat.reduceLeDiff,Nat.reducePow,Int.reducePow,Nat.min_def,reduceIte,Nat.reduceSub,Nat.reduceAdd,Nat.reduceMul,KP_same,KP_f,condS_t,condS_f,pick_t,pick_f,gS_tt,gS_ff,gS_tf,gS_ft,gS_u,gP_tt,gP_ff,gP_tf,gP_ft,gP_u,ptrV_eq,slcV_eq,mapV_eq,cells_agg,cells_int,cells_bool,cells_ptr,cells_slice,oc_int,oc_bool,oc_slice,oc_ptr,rd1_set,rd1_ne,rdn_set,rdn_ne,Heap.set_same,set_ne,Heap.set_set,set_up,set_up2,set_up3,putAt,ceq,List.map_cons,List.map_nil,List.length_cons,List.length_nil,List.length_set,List.cons_append,List.nil_append,List.append_nil,List.replicate,List.size_toArray,List.all_cons,List.all_nil,Bool.and_self,Bool.and_true,List.drop_zero,List.drop_succ_cons,List.take_succ_cons,List.take_zero,List.set_cons_zero,List.set_cons_succ,List.getElem?_cons_zero,List.getElem?_cons_succ,Option.map_some,Option.map_none,ne_eq,not_false_eq_true,not_true_eq_false,gt_iff_lt,ge_iff_le,Int.one_mul,Nat.zero_add,Nat.zero_mul,Bool.not_true,Bool.not_false,Bool.false_eq_true,Bool.and_false,Bool.false_and,Bool.true_and, *])); repeat' ((first | (with_reducible refine fun _ : True => ?_) | (with_reducible refine any_h ?_) | ((first | refine AllocQ_i ?_ | refine AllocO_i ?_); intro bk hb0 hbk; try simp only [set_none'] at hbk) | ((first | refine condS_i ?_ ?_ | refine pick_i ?_ ?_ | refine gS_it ?_ ?_ | refine gS_if ?_ ?_ | refine gP_it ?_ ?_ | refine gP_if ?_ ?_) <;> (intro hc; try simp only [Int.reduceLE,Int.reduceLT,Int.reduceEq,and_self,not_true_eq_false,not_false_eq_true,and_true,true_and,false_and,and_false,true_or,or_true,false_or,or_false,decide_eq_true_eq,decide_eq_false_iff_not,beq_iff_eq,beq_eq_false_iff_ne,bne_iff_ne,ne_eq,gt_iff_lt,ge_iff_le,Bool.not_eq_true,Bool.not_eq_false,Bool.not_eq_true',Bool.not_eq_false',Bool.not_eq_eq_eq_not,Bool.not_true,Bool.not_false] at hc)) | (refine KP_i (by (repeat' (first | exact Heap.Le.refl _ | (refine Le_fresh (by first | exact (by simp only [*]) | exact (by simp [set_none', *])) ?_) | (refine Heap.Le.trans ?_ (Grow.le (by assumption)))))) ?_) | (with_reducible refine And.intro ?_ ?_)) <;> (try simp only [Sh,Si,Sl,Bu,Bb,Bd,Bc,Bw,Bn,Int.reduceAdd,Int.reduceSub,Int.reduceMul,Int.reduceTDiv,Int.reduceTMod,Int.reduceMod,Int.reduceDiv,Nat.reduceLT,Nat.reduceEqDiff,decide_true,decide_false,Sa,Sb,Sc,Sd,Se,Sf,Sg,true_and,and_true,and_self,eq_self,b_i64,b_i32,b_u64,b_u32,b_u8,Int.reduceLE,Int.reduceLT,Int.reduceToNat,Int.reduceNeg,Int.reduceEq,Nat.reduceLeDiff,Nat.reducePow,Int.reducePow,Nat.min_def,reduceIte,Nat.reduceSub,Nat.reduceAdd,Nat.reduceMul,KP_same,KP_f,condS_t,condS_f,pick_t,pick_f,gS_tt,gS_ff,gS_tf,gS_ft,gS_u,gP_tt,gP_ff,gP_tf,gP_ft,gP_u,ptrV_eq,slcV_eq,mapV_eq,cells_agg,cells_int,cells_bool,cells_ptr,cells_slice,oc_int,oc_bool,oc_slice,oc_ptr,rd1_set,rd1_ne,rdn_set,rdn_ne,Heap.set_same,set_ne,Heap.set_set,set_up,set_up2,set_up3,putAt,ceq,List.map_cons,List.map_nil,List.length_cons,List.length_nil,List.length_set,List.cons_append,List.nil_append,List.append_nil,List.replicate,List.size_toArray,List.all_cons,List.all_nil,Bool.and_self,Bool.and_true,List.drop_zero,List.drop_succ_cons,List.take_succ_cons,List.take_zero,List.set_cons_zero,List.set_cons_succ,List.getElem?_cons_zero,List.getElem?_cons_succ,Option.map_some,Option.map_none,ne_eq,not_false_eq_true,not_true_eq_false,gt_iff_lt,ge_iff_le,Int.one_mul,Nat.zero_add,Nat.zero_mul,Bool.not_true,Bool.not_false,Bool.false_eq_true,Bool.and_false,Bool.false_and,Bool.true_and, *]))
  all_goals try simp only [Int.reduceLE,Int.reduceLT,Int.reduceEq,and_self,not_true_eq_false,not_false_eq_true,and_true,true_and,false_and,and_false,true_or,or_true,false_or,or_false,decide_eq_true_eq,decide_eq_false_iff_not,beq_iff_eq,beq_eq_false_iff_ne,bne_iff_ne,ne_eq,gt_iff_lt,ge_iff_le,Bool.not_eq_true,Bool.not_eq_false,Bool.not_eq_true',Bool.not_eq_false',Bool.not_eq_eq_eq_not,Bool.not_true,Bool.not_false] at *
  all_goals (refine Fin_mk (Heap.Le.refl _) (K_int h ?_))
  all_goals first | (refine (w32_in (by unfold I32; omega)).trans ?_; unfold raw; (repeat' split) <;> omega) | (unfold raw; (repeat' split) <;> omega)
/- paintboxref02 down -/
def M41 : MC :=
  .seq (.reg [⟨(some 4), .mv (.const (.int .i64 0)), none⟩])
  (.seq (.reg [⟨(some 6), .mv (.tmp 0), none⟩,
      ⟨(some 7), .mv (.tmp 1), none⟩,
      ⟨(some 8), .bin .quo (.tmp 6) (.tmp 7), none⟩,
      ⟨(some 5), .mv (.tmp 8), none⟩])
   (.seq (.seq (.reg [⟨(some 9), .mv (.tmp 0), none⟩,
        ⟨(some 10), .mv (.tmp 1), none⟩,
        ⟨(some 11), .bin .rem (.tmp 9) (.tmp 10), none⟩,
        ⟨(some 12), .bin .lss (.tmp 11) (.const (.int .i64 0)), none⟩])
     (.cond (.tmp 12)
      (.reg [⟨(some 13), .mv (.tmp 5), none⟩,
         ⟨(some 14), .bin .sub (.tmp 13) (.const (.int .i64 1)), none⟩,
         ⟨(some 5), .mv (.tmp 14), none⟩])
      (.skip)))
    (.seq (.reg [⟨(some 15), .mv (.tmp 5), none⟩,
        ⟨(some 4), .mv (.tmp 15), none⟩])
     (.ret))))
theorem k41 : fnOk Try.prog 41 = some (M41, [.t 4], 16) := by kernel_rfl

theorem r_down (n d : Int) (hn : -4611686018427500000 ≤ n ∧ n ≤ 4611686018427500000) (hd : 1 ≤ d ∧ d ≤ 4611686018427500000) (h : K (.int .i64 (n / d)) H) : HCalls Try.prog w0 41 [.int .i64 n, .int .i64 d] H K := by
  refine HL.hc k41 999 ?_; unfold M41
  (all_goals (try simp only [Sh,Si,Sl,Bu,Bb,Bd,Bc,Bw,Bn,Int.reduceAdd,Int.reduceSub,Int.reduceMul,Int.reduceTDiv,Int.reduceTMod,Int.reduceMod,Int.reduceDiv,Nat.reduceLT,Nat.reduceEqDiff,decide_true,decide_false,Sa,Sb,Sc,Sd,Se,Sf,Sg,true_and,and_true,and_self,eq_self,b_i64,b_i32,b_u64,b_u32,b_u8,Int.reduceLE,Int.reduceLT,Int.reduceToNat,Int.reduceNeg,Int.reduceEq,Nat.reduceLeDiff,Nat.reducePow,Int.reducePow,Nat.min_def,reduceIte,Nat.reduceSub,Nat.reduceAdd,Nat.reduceMul,KP_same,KP_f,condS_t,condS_f,pick_t,pick_f,gS_tt,gS_ff,gS_tf,gS_ft,gS_u,gP_tt,gP_ff,gP_tf,gP_ft,gP_u,ptrV_eq,slcV_eq,mapV_eq,cells_agg,cells_int,cells_bool,cells_ptr,cells_slice,oc_int,oc_bool,oc_slice,oc_ptr,rd1_set,rd1_ne,rdn_set,rdn_ne,Heap.set_same,set_ne,Heap.set_set,set_up,set_up2,set_up3,putAt,ceq,List.map_cons,List.map_nil,List.length_cons,List.length_nil,List.length_set,List.cons_append,List.nil_append,List.append_nil,List.replicate,List.size_toArray,List.all_cons,List.all_nil,Bool.and_self,Bool.and_true,List.drop_zero,List.drop_succ_cons,List.take_succ_cons,List.take_zero,List.set_cons_zero,List.set_cons_succ,List.getElem?_cons_zero,List.getElem?_cons_succ,Option.map_some,Option.map_none,ne_eq,not_false_eq_true,not_true_eq_false,gt_iff_lt,ge_iff_le,Int.one_mul,Nat.zero_add,Nat.zero_mul,Bool.not_true,Bool.not_false,Bool.false_eq_true,Bool.and_false,Bool.false_and,Bool.true_and, *])); repeat' ((first | (with_reducible refine fun _ : True => ?_) | (with_reducible refine any_h ?_) | ((first | refine AllocQ_i ?_ | refine AllocO_i ?_); intro bk hb0 hbk; try simp only [set_none'] at hbk) | ((first | refine condS_i ?_ ?_ | refine pick_i ?_ ?_ | refine gS_it ?_ ?_ | refine gS_if ?_ ?_ | refine gP_it ?_ ?_ | refine gP_if ?_ ?_) <;> (intro hc; try simp only [Int.reduceLE,Int.reduceLT,Int.reduceEq,and_self,not_true_eq_false,not_false_eq_true,and_true,true_and,false_and,and_false,true_or,or_true,false_or,or_false,decide_eq_true_eq,decide_eq_false_iff_not,beq_iff_eq,beq_eq_false_iff_ne,bne_iff_ne,ne_eq,gt_iff_lt,ge_iff_le,Bool.not_eq_true,Bool.not_eq_false,Bool.not_eq_true',Bool.not_eq_false',Bool.not_eq_eq_eq_not,Bool.not_true,Bool.not_false] at hc)) | (refine KP_i (by (repeat' (first | exact Heap.Le.refl _ | (refine Le_fresh (by first | exact (by simp only [*]) | exact (by simp [set_none', *])) ?_) | (refine Heap.Le.trans ?_ (Grow.le (by assumption)))))) ?_) | (with_reducible refine And.intro ?_ ?_)) <;> (try simp only [Sh,Si,Sl,Bu,Bb,Bd,Bc,Bw,Bn,Int.reduceAdd,Int.reduceSub,Int.reduceMul,Int.reduceTDiv,Int.reduceTMod,Int.reduceMod,Int.reduceDiv,Nat.reduceLT,Nat.reduceEqDiff,decide_true,decide_false,Sa,Sb,Sc,Sd,Se,Sf,Sg,true_and,and_true,and_self,eq_self,b_i64,b_i32,b_u64,b_u32,b_u8,Int.reduceLE,Int.reduceLT,Int.reduceToNat,Int.reduceNeg,Int.reduceEq,Nat.reduceLeDiff,Nat.reducePow,Int.reducePow,Nat.min_def,reduceIte,Nat.reduceSub,Nat.reduceAdd,Nat.reduceMul,KP_same,KP_f,condS_t,condS_f,pick_t,pick_f,gS_tt,gS_ff,gS_tf,gS_ft,gS_u,gP_tt,gP_ff,gP_tf,gP_ft,gP_u,ptrV_eq,slcV_eq,mapV_eq,cells_agg,cells_int,cells_bool,cells_ptr,cells_slice,oc_int,oc_bool,oc_slice,oc_ptr,rd1_set,rd1_ne,rdn_set,rdn_ne,Heap.set_same,set_ne,Heap.set_set,set_up,set_up2,set_up3,putAt,ceq,List.map_cons,List.map_nil,List.length_cons,List.length_nil,List.length_set,List.cons_append,List.nil_append,List.append_nil,List.replicate,List.size_toArray,List.all_cons,List.all_nil,Bool.and_self,Bool.and_true,List.drop_zero,List.drop_succ_cons,List.take_succ_cons,List.take_zero,List.set_cons_zero,List.set_cons_succ,List.getElem?_cons_zero,List.getElem?_cons_succ,Option.map_some,Option.map_none,ne_eq,not_false_eq_true,not_true_eq_false,gt_iff_lt,ge_iff_le,Int.one_mul,Nat.zero_add,Nat.zero_mul,Bool.not_true,Bool.not_false,Bool.false_eq_true,Bool.and_false,Bool.false_and,Bool.true_and, *]))
  all_goals try simp only [Int.reduceLE,Int.reduceLT,Int.reduceEq,and_self,not_true_eq_false,not_false_eq_true,and_true,true_and,false_and,and_false,true_or,or_true,false_or,or_false,decide_eq_true_eq,decide_eq_false_iff_not,beq_iff_eq,beq_eq_false_iff_ne,bne_iff_ne,ne_eq,gt_iff_lt,ge_iff_le,Bool.not_eq_true,Bool.not_eq_false,Bool.not_eq_true',Bool.not_eq_false',Bool.not_eq_eq_eq_not,Bool.not_true,Bool.not_false] at *
  all_goals try omega
  all_goals (refine Fin_mk (Heap.Le.refl _) (K_int h ?_))
  · exact down_neg hn hd (by assumption)
  · exact down_pos hn hd (by assumption)
/- paintboxref02 Add -/
def M34 : MC :=
  .seq (.reg [⟨(some 4), .mv (.const (.int .i32 0)), none⟩])
  (.seq (.reg [⟨(some 5), .mv (.tmp 0), none⟩,
      ⟨(some 6), .conv .i64 (.tmp 5), none⟩,
      ⟨(some 7), .mv (.tmp 1), none⟩,
      ⟨(some 8), .conv .i64 (.tmp 7), none⟩,
      ⟨(some 9), .bin .add (.tmp 6) (.tmp 8), none⟩,
      ⟨(some 10), .call 42 [(.tmp 9)], none⟩,
      ⟨(some 4), .mv (.tmp 10), none⟩])
   (.ret))
theorem k34 : fnOk Try.prog 34 = some (M34, [.t 4], 11) := by kernel_rfl

theorem r_Add (a b : Int) (ha : I32 a) (hb : I32 b) (h : K (.int .i32 (fadd a b)) H) : HCalls Try.prog w0 34 [.int .i32 a, .int .i32 b] H K := by
  refine HL.hc k34 999 ?_; unfold M34
  (all_goals (try simp only [Sh,Si,Sl,Bu,Bb,Bd,Bc,Bw,Bn,Int.reduceAdd,Int.reduceSub,Int.reduceMul,Int.reduceTDiv,Int.reduceTMod,Int.reduceMod,Int.reduceDiv,Nat.reduceLT,Nat.reduceEqDiff,decide_true,decide_false,Sa,Sb,Sc,Sd,Se,Sf,Sg,true_and,and_true,and_self,eq_self,b_i64,b_i32,b_u64,b_u32,b_u8,Int.reduceLE,Int.reduceLT,Int.reduceToNat,Int.reduceNeg,Int.reduceEq,Nat.reduceLeDiff,Nat.reducePow,Int.reducePow,Nat.min_def,reduceIte,Nat.reduceSub,Nat.reduceAdd,Nat.reduceMul,KP_same,KP_f,condS_t,condS_f,pick_t,pick_f,gS_tt,gS_ff,gS_tf,gS_ft,gS_u,gP_tt,gP_ff,gP_tf,gP_ft,gP_u,ptrV_eq,slcV_eq,mapV_eq,cells_agg,cells_int,cells_bool,cells_ptr,cells_slice,oc_int,oc_bool,oc_slice,oc_ptr,rd1_set,rd1_ne,rdn_set,rdn_ne,Heap.set_same,set_ne,Heap.set_set,set_up,set_up2,set_up3,putAt,ceq,List.map_cons,List.map_nil,List.length_cons,List.length_nil,List.length_set,List.cons_append,List.nil_append,List.append_nil,List.replicate,List.size_toArray,List.all_cons,List.all_nil,Bool.and_self,Bool.and_true,List.drop_zero,List.drop_succ_cons,List.take_succ_cons,List.take_zero,List.set_cons_zero,List.set_cons_succ,List.getElem?_cons_zero,List.getElem?_cons_succ,Option.map_some,Option.map_none,ne_eq,not_false_eq_true,not_true_eq_false,gt_iff_lt,ge_iff_le,Int.one_mul,Nat.zero_add,Nat.zero_mul,Bool.not_true,Bool.not_false,Bool.false_eq_true,Bool.and_false,Bool.false_and,Bool.true_and, *])); repeat' ((first | (with_reducible refine fun _ : True => ?_) | refine r_Raw _ ?_ | (with_reducible refine any_h ?_) | ((first | refine AllocQ_i ?_ | refine AllocO_i ?_); intro bk hb0 hbk; try simp only [set_none'] at hbk) | ((first | refine condS_i ?_ ?_ | refine pick_i ?_ ?_ | refine gS_it ?_ ?_ | refine gS_if ?_ ?_ | refine gP_it ?_ ?_ | refine gP_if ?_ ?_) <;> (intro hc; try simp only [Int.reduceLE,Int.reduceLT,Int.reduceEq,and_self,not_true_eq_false,not_false_eq_true,and_true,true_and,false_and,and_false,true_or,or_true,false_or,or_false,decide_eq_true_eq,decide_eq_false_iff_not,beq_iff_eq,beq_eq_false_iff_ne,bne_iff_ne,ne_eq,gt_iff_lt,ge_iff_le,Bool.not_eq_true,Bool.not_eq_false,Bool.not_eq_true',Bool.not_eq_false',Bool.not_eq_eq_eq_not,Bool.not_true,Bool.not_false] at hc)) | (refine KP_i (by (repeat' (first | exact Heap.Le.refl _ | (refine Le_fresh (by first | exact (by simp only [*]) | exact (by simp [set_none', *])) ?_) | (refine Heap.Le.trans ?_ (Grow.le (by assumption)))))) ?_) | (with_reducible refine And.intro ?_ ?_)) <;> (try simp only [Sh,Si,Sl,Bu,Bb,Bd,Bc,Bw,Bn,Int.reduceAdd,Int.reduceSub,Int.reduceMul,Int.reduceTDiv,Int.reduceTMod,Int.reduceMod,Int.reduceDiv,Nat.reduceLT,Nat.reduceEqDiff,decide_true,decide_false,Sa,Sb,Sc,Sd,Se,Sf,Sg,true_and,and_true,and_self,eq_self,b_i64,b_i32,b_u64,b_u32,b_u8,Int.reduceLE,Int.reduceLT,Int.reduceToNat,Int.reduceNeg,Int.reduceEq,Nat.reduceLeDiff,Nat.reducePow,Int.reducePow,Nat.min_def,reduceIte,Nat.reduceSub,Nat.reduceAdd,Nat.reduceMul,KP_same,KP_f,condS_t,condS_f,pick_t,pick_f,gS_tt,gS_ff,gS_tf,gS_ft,gS_u,gP_tt,gP_ff,gP_tf,gP_ft,gP_u,ptrV_eq,slcV_eq,mapV_eq,cells_agg,cells_int,cells_bool,cells_ptr,cells_slice,oc_int,oc_bool,oc_slice,oc_ptr,rd1_set,rd1_ne,rdn_set,rdn_ne,Heap.set_same,set_ne,Heap.set_set,set_up,set_up2,set_up3,putAt,ceq,List.map_cons,List.map_nil,List.length_cons,List.length_nil,List.length_set,List.cons_append,List.nil_append,List.append_nil,List.replicate,List.size_toArray,List.all_cons,List.all_nil,Bool.and_self,Bool.and_true,List.drop_zero,List.drop_succ_cons,List.take_succ_cons,List.take_zero,List.set_cons_zero,List.set_cons_succ,List.getElem?_cons_zero,List.getElem?_cons_succ,Option.map_some,Option.map_none,ne_eq,not_false_eq_true,not_true_eq_false,gt_iff_lt,ge_iff_le,Int.one_mul,Nat.zero_add,Nat.zero_mul,Bool.not_true,Bool.not_false,Bool.false_eq_true,Bool.and_false,Bool.false_and,Bool.true_and, *]))
  exact Fin_mk (Heap.Le.refl _) (K_int h (fadd_eq ha hb))
/- paintboxref02 Div -/
def M35 : MC :=
  .seq (.reg [⟨(some 4), .mv (.const (.int .i32 0)), none⟩])
  (.seq (.seq (.reg [⟨(some 9), .mv (.tmp 1), none⟩,
       ⟨(some 10), .bin .eql (.tmp 9) (.const (.int .i32 0)), none⟩])
    (.cond (.tmp 10)
     (.seq (.block 0 (.seq (.reg [⟨(some 12), .mv (.tmp 0), none⟩,
           ⟨(some 13), .bin .gtr (.tmp 12) (.const (.int .i32 0)), none⟩,
           ⟨(some 11), .mv (.tmp 13), none⟩])
        (.cond (.tmp 11)
         (.seq (.reg [⟨(some 4), .mv (.const (.int .i32 2147483647)), none⟩])
          (.ret))
         (.seq (.reg [⟨(some 15), .mv (.tmp 0), none⟩,
             ⟨(some 16), .bin .lss (.tmp 15) (.const (.int .i32 0)), none⟩,
             ⟨(some 14), .mv (.tmp 16), none⟩])
          (.cond (.tmp 14)
           (.seq (.reg [⟨(some 4), .mv (.const (.int .i32 (-2147483648))), none⟩])
            (.ret))
           (.skip))))))
      (.seq (.reg [⟨(some 4), .mv (.const (.int .i32 0)), none⟩])
       (.ret)))
     (.skip)))
   (.seq (.reg [⟨(some 17), .mv (.tmp 0), none⟩,
       ⟨(some 18), .conv .i64 (.tmp 17), none⟩,
       ⟨(some 19), .bin .mul (.tmp 18) (.const (.int .i64 65536)), none⟩,
       ⟨(some 20), .mv (.tmp 1), none⟩,
       ⟨(some 21), .conv .i64 (.tmp 20), none⟩,
       ⟨(some 5), .mv (.tmp 19), none⟩,
       ⟨(some 6), .mv (.tmp 21), none⟩])
    (.seq (.reg [⟨(some 22), .mv (.tmp 5), none⟩,
        ⟨(some 23), .bin .lss (.tmp 22) (.const (.int .i64 0)), none⟩,
        ⟨(some 24), .mv (.tmp 6), none⟩,
        ⟨(some 25), .bin .lss (.tmp 24) (.const (.int .i64 0)), none⟩,
        ⟨(some 26), .eqb true (.tmp 23) (.tmp 25), none⟩,
        ⟨(some 7), .mv (.tmp 26), none⟩])
     (.seq (.seq (.reg [⟨(some 27), .mv (.tmp 5), none⟩,
          ⟨(some 28), .bin .lss (.tmp 27) (.const (.int .i64 0)), none⟩])
       (.cond (.tmp 28)
        (.reg [⟨(some 29), .mv (.tmp 5), none⟩,
           ⟨(some 30), .un .neg (.tmp 29), none⟩,
           ⟨(some 5), .mv (.tmp 30), none⟩])
        (.skip)))
      (.seq (.seq (.reg [⟨(some 31), .mv (.tmp 6), none⟩,
           ⟨(some 32), .bin .lss (.tmp 31) (.const (.int .i64 0)), none⟩])
        (.cond (.tmp 32)
         (.reg [⟨(some 33), .mv (.tmp 6), none⟩,
            ⟨(some 34), .un .neg (.tmp 33), none⟩,
            ⟨(some 6), .mv (.tmp 34), none⟩])
         (.skip)))
       (.seq (.reg [⟨(some 35), .mv (.tmp 5), none⟩,
           ⟨(some 36), .mv (.tmp 6), none⟩,
           ⟨(some 37), .bin .quo (.tmp 35) (.tmp 36), none⟩,
           ⟨(some 8), .mv (.tmp 37), none⟩])
        (.seq (.seq (.reg [⟨(some 38), .mv (.tmp 5), none⟩,
             ⟨(some 39), .mv (.tmp 6), none⟩,
             ⟨(some 40), .bin .rem (.tmp 38) (.tmp 39), none⟩,
             ⟨(some 41), .bin .mul (.const (.int .i64 2)) (.tmp 40), none⟩,
             ⟨(some 42), .mv (.tmp 6), none⟩,
             ⟨(some 43), .bin .geq (.tmp 41) (.tmp 42), none⟩])
          (.cond (.tmp 43)
           (.reg [⟨(some 44), .mv (.tmp 8), none⟩,
              ⟨(some 45), .bin .add (.tmp 44) (.const (.int .i64 1)), none⟩,
              ⟨(some 8), .mv (.tmp 45), none⟩])
           (.skip)))
         (.seq (.seq (.reg [⟨(some 46), .mv (.tmp 7), none⟩])
           (.cond (.tmp 46)
            (.reg [⟨(some 47), .mv (.tmp 8), none⟩,
               ⟨(some 48), .un .neg (.tmp 47), none⟩,
               ⟨(some 8), .mv (.tmp 48), none⟩])
            (.skip)))
          (.seq (.reg [⟨(some 49), .mv (.tmp 8), none⟩,
              ⟨(some 50), .call 42 [(.tmp 49)], none⟩,
              ⟨(some 4), .mv (.tmp 50), none⟩])
           (.ret))))))))))
theorem k35 : fnOk Try.prog 35 = some (M35, [.t 4], 51) := by kernel_rfl

theorem r_Div (a b : Int) (ha : I32 a) (hb : I32 b) (h : K (.int .i32 (fdiv a b)) H) : HCalls Try.prog w0 35 [.int .i32 a, .int .i32 b] H K := by
  refine HL.hc k35 999 ?_; unfold M35
  unfold I32 at ha hb
  have e1 : IntKind.i64.wrap a = a := w64_in (by omega) (by omega)
  have e2 : IntKind.i64.wrap b = b := w64_in (by omega) (by omega)
  have e3 : IntKind.i64.wrap (a * 65536) = a * 65536 := w64_in (by omega) (by omega)
  have e4 : IntKind.i64.wrap (0 - a * 65536) = -(a * 65536) := by rw [Int.zero_sub]; exact w64_in (by omega) (by omega)
  have e5 : IntKind.i64.wrap (0 - b) = -b := by rw [Int.zero_sub]; exact w64_in (by omega) (by omega)
  (all_goals (try simp only [Sh,Si,Sl,Bu,Bb,Bd,Bc,Bw,Bn,Int.reduceAdd,Int.reduceSub,Int.reduceMul,Int.reduceTDiv,Int.reduceTMod,Int.reduceMod,Int.reduceDiv,Nat.reduceLT,Nat.reduceEqDiff,decide_true,decide_false,Sa,Sb,Sc,Sd,Se,Sf,Sg,true_and,and_true,and_self,eq_self,b_i64,b_i32,b_u64,b_u32,b_u8,Int.reduceLE,Int.reduceLT,Int.reduceToNat,Int.reduceNeg,Int.reduceEq,Nat.reduceLeDiff,Nat.reducePow,Int.reducePow,Nat.min_def,reduceIte,Nat.reduceSub,Nat.reduceAdd,Nat.reduceMul,KP_same,KP_f,condS_t,condS_f,pick_t,pick_f,gS_tt,gS_ff,gS_tf,gS_ft,gS_u,gP_tt,gP_ff,gP_tf,gP_ft,gP_u,ptrV_eq,slcV_eq,mapV_eq,cells_agg,cells_int,cells_bool,cells_ptr,cells_slice,oc_int,oc_bool,oc_slice,oc_ptr,rd1_set,rd1_ne,rdn_set,rdn_ne,Heap.set_same,set_ne,Heap.set_set,set_up,set_up2,set_up3,putAt,ceq,List.map_cons,List.map_nil,List.length_cons,List.length_nil,List.length_set,List.cons_append,List.nil_append,List.append_nil,List.replicate,List.size_toArray,List.all_cons,List.all_nil,Bool.and_self,Bool.and_true,List.drop_zero,List.drop_succ_cons,List.take_succ_cons,List.take_zero,List.set_cons_zero,List.set_cons_succ,List.getElem?_cons_zero,List.getElem?_cons_succ,Option.map_some,Option.map_none,ne_eq,not_false_eq_true,not_true_eq_false,gt_iff_lt,ge_iff_le,Int.one_mul,Nat.zero_add,Nat.zero_mul,Bool.not_true,Bool.not_false,Bool.false_eq_true,Bool.and_false,Bool.false_and,Bool.true_and, *])); repeat' ((first | (with_reducible refine fun _ : True => ?_) | refine r_Raw _ ?_ | (with_reducible refine any_h ?_) | ((first | refine AllocQ_i ?_ | refine AllocO_i ?_); intro bk hb0 hbk; try simp only [set_none'] at hbk) | ((first | refine condS_i ?_ ?_ | refine pick_i ?_ ?_ | refine gS_it ?_ ?_ | refine gS_if ?_ ?_ | refine gP_it ?_ ?_ | refine gP_if ?_ ?_) <;> (intro hc; try simp only [Int.reduceLE,Int.reduceLT,Int.reduceEq,and_self,not_true_eq_false,not_false_eq_true,and_true,true_and,false_and,and_false,true_or,or_true,false_or,or_false,decide_eq_true_eq,decide_eq_false_iff_not,beq_iff_eq,beq_eq_false_iff_ne,bne_iff_ne,ne_eq,gt_iff_lt,ge_iff_le,Bool.not_eq_true,Bool.not_eq_false,Bool.not_eq_true',Bool.not_eq_false',Bool.not_eq_eq_eq_not,Bool.not_true,Bool.not_false] at hc)) | (refine KP_i (by (repeat' (first | exact Heap.Le.refl _ | (refine Le_fresh (by first | exact (by simp only [*]) | exact (by simp [set_none', *])) ?_) | (refine Heap.Le.trans ?_ (Grow.le (by assumption)))))) ?_) | (with_reducible refine And.intro ?_ ?_)) <;> (try simp only [Sh,Si,Sl,Bu,Bb,Bd,Bc,Bw,Bn,Int.reduceAdd,Int.reduceSub,Int.reduceMul,Int.reduceTDiv,Int.reduceTMod,Int.reduceMod,Int.reduceDiv,Nat.reduceLT,Nat.reduceEqDiff,decide_true,decide_false,Sa,Sb,Sc,Sd,Se,Sf,Sg,true_and,and_true,and_self,eq_self,b_i64,b_i32,b_u64,b_u32,b_u8,Int.reduceLE,Int.reduceLT,Int.reduceToNat,Int.reduceNeg,Int.reduceEq,Nat.reduceLeDiff,Nat.reducePow,Int.reducePow,Nat.min_def,reduceIte,Nat.reduceSub,Nat.reduceAdd,Nat.reduceMul,KP_same,KP_f,condS_t,condS_f,pick_t,pick_f,gS_tt,gS_ff,gS_tf,gS_ft,gS_u,gP_tt,gP_ff,gP_tf,gP_ft,gP_u,ptrV_eq,slcV_eq,mapV_eq,cells_agg,cells_int,cells_bool,cells_ptr,cells_slice,oc_int,oc_bool,oc_slice,oc_ptr,rd1_set,rd1_ne,rdn_set,rdn_ne,Heap.set_same,set_ne,Heap.set_set,set_up,set_up2,set_up3,putAt,ceq,List.map_cons,List.map_nil,List.length_cons,List.length_nil,List.length_set,List.cons_append,List.nil_append,List.append_nil,List.replicate,List.size_toArray,List.all_cons,List.all_nil,Bool.and_self,Bool.and_true,List.drop_zero,List.drop_succ_cons,List.take_succ_cons,List.take_zero,List.set_cons_zero,List.set_cons_succ,List.getElem?_cons_zero,List.getElem?_cons_succ,Option.map_some,Option.map_none,ne_eq,not_false_eq_true,not_true_eq_false,gt_iff_lt,ge_iff_le,Int.one_mul,Nat.zero_add,Nat.zero_mul,Bool.not_true,Bool.not_false,Bool.false_eq_true,Bool.and_false,Bool.false_and,Bool.true_and, *]))
  all_goals try simp only [Int.reduceLE,Int.reduceLT,Int.reduceEq,and_self,not_true_eq_false,not_false_eq_true,and_true,true_and,false_and,and_false,true_or,or_true,false_or,or_false,decide_eq_true_eq,decide_eq_false_iff_not,beq_iff_eq,beq_eq_false_iff_ne,bne_iff_ne,ne_eq,gt_iff_lt,ge_iff_le,Bool.not_eq_true,Bool.not_eq_false,Bool.not_eq_true',Bool.not_eq_false',Bool.not_eq_eq_eq_not,Bool.not_true,Bool.not_false] at *
  all_goals try (exfalso; omega)
  all_goals try (with_reducible refine Fin_mk (Heap.Le.refl _) (K_int h ?_))
  all_goals with_reducible first
    | refine (congrArg raw (rnd_upN ?_ ?_ ?_ ?_ (by assumption))).trans ?_
    | refine (congrArg raw (rnd_loN ?_ ?_ ?_ ?_ (by assumption))).trans ?_
    | refine (congrArg raw (rnd_up ?_ ?_ ?_ ?_ (by assumption))).trans ?_
    | refine (congrArg raw (rnd_lo ?_ ?_ ?_ ?_ (by assumption))).trans ?_
    | skip
  all_goals try omega
  all_goals unfold fdiv
  all_goals ((repeat' split) <;> first | rfl | (exfalso; omega) | (rw [show a = 0 by omega]; simp [rnd]; rw [Int.ediv_eq_zero_of_lt (by omega) (by omega)]; rfl))
end Go.Proofs.Ytokjajfojjibcaa
