/- Colours of pixels: Unpack, by the program and by the document (layer 5). -/
import Derived.Test.YtfokghepfcfbjaaImu
set_option linter.unusedSimpArgs false
set_option linter.unusedVariables false
set_option maxRecDepth 100000
set_option maxHeartbeats 8000000
namespace Go.Proofs.Ytfokghepfcfbjaa
open Go.HL Go.RowKit Pb
variable {w0 : World} {H : Heap} {K : Value → Heap → Prop}

/- pixel grey -/
def M61 : MC :=
  .seq (.reg [⟨(some 2), .mv (.const (.bool false)), none⟩])
  (.seq (.reg [⟨(some 3), .mv (.tmp 0), none⟩,
      ⟨(some 4), .bin .eql (.tmp 3) (.const (.int .i64 5)), none⟩,
      ⟨(some 5), .mv (.tmp 4), none⟩,
      ⟨(some 6), .mv (.tmp 0), (some (5, false))⟩,
      ⟨(some 7), .bin .eql (.tmp 6) (.const (.int .i64 7)), (some (5, false))⟩,
      ⟨(some 8), .pick (.tmp 5) (.const (.bool true)) (.tmp 7), none⟩,
      ⟨(some 2), .mv (.tmp 8), none⟩])
   (.ret))
theorem k61 : fnOk Try.prog 61 = some (M61, [.t 2], 9) := by kernel_rfl

theorem c_grey (n : Int) (h : K (.bool (decide (n = 5 ∨ n = 7))) H) : HCalls Try.prog w0 61 [.int .i64 n] H K := by
  refine HL.hc k61 999 ?_; unfold M61
  (all_goals (try simp only [Sh,Si,Sl,Bu,Bb,Bd,Bc,Bw,Bn,Int.reduceAdd,Int.reduceSub,Int.reduceMul,Int.reduceTDiv,Int.reduceTMod,Int.reduceMod,Int.reduceDiv,Nat.reduceLT,Nat.reduceEqDiff,decide_true,decide_false,Sa,Sb,Sc,Sd,Se,Sf,Sg,true_and,and_true,and_self,eq_self,b_i64,b_i32,b_u64,b_u32,b_u8,Int.reduceLE,Int.reduceLT,Int.reduceToNat,Int.reduceNeg,Int.reduceEq,Nat.reduceLeDiff,Nat.reducePow,Int.reducePow,Nat.min_def,reduceIte,Nat.reduceSub,Nat.reduceAdd,Nat.reduceMul,KP_same,KP_f,condS_t,condS_f,pick_t,pick_f,gS_tt,gS_ff,gS_tf,gS_ft,gS_u,gP_tt,gP_ff,gP_tf,gP_ft,gP_u,ptrV_eq,slcV_eq,mapV_eq,cells_agg,cells_int,cells_bool,cells_ptr,cells_slice,oc_int,oc_bool,oc_slice,oc_ptr,rd1_set,rd1_ne,rdn_set,rdn_ne,Heap.set_same,set_ne,Heap.set_set,set_up,set_up2,set_up3,putAt,ceq,List.map_cons,List.map_nil,List.length_cons,List.length_nil,List.length_set,List.cons_append,List.nil_append,List.append_nil,List.replicate,List.size_toArray,List.all_cons,List.all_nil,Bool.and_self,Bool.and_true,List.drop_zero,List.drop_succ_cons,List.take_succ_cons,List.take_zero,List.set_cons_zero,List.set_cons_succ,List.getElem?_cons_zero,List.getElem?_cons_succ,Option.map_some,Option.map_none,ne_eq,not_false_eq_true,not_true_eq_false,gt_iff_lt,ge_iff_le,Int.one_mul,Nat.zero_add,Nat.zero_mul,Bool.not_true,Bool.not_false,Bool.false_eq_true,Bool.and_false,Bool.false_and,Bool.true_and, *])); repeat' ((first | (with_reducible refine fun _ : True => ?_) | (with_reducible refine any_h ?_) | ((first | refine AllocQ_i ?_ | refine AllocO_i ?_); intro bk hb0 hbk; try simp only [set_none'] at hbk) | ((first | refine condS_i ?_ ?_ | refine pick_i ?_ ?_ | refine gS_it ?_ ?_ | refine gS_if ?_ ?_ | refine gP_it ?_ ?_ | refine gP_if ?_ ?_) <;> (intro hc; try simp only [Int.reduceLE,Int.reduceLT,Int.reduceEq,and_self,not_true_eq_false,not_false_eq_true,and_true,true_and,false_and,and_false,true_or,or_true,false_or,or_false,decide_eq_true_eq,decide_eq_false_iff_not,beq_iff_eq,beq_eq_false_iff_ne,bne_iff_ne,ne_eq,gt_iff_lt,ge_iff_le,Bool.not_eq_true,Bool.not_eq_false,Bool.not_eq_true',Bool.not_eq_false',Bool.not_eq_eq_eq_not,Bool.not_true,Bool.not_false] at hc)) | (refine KP_i (by (repeat' (first | exact Heap.Le.refl _ | (refine Le_fresh (by first | exact (by simp only [*]) | exact (by simp [set_none', *])) ?_) | (refine Heap.Le.trans ?_ (Grow.le (by assumption)))))) ?_) | (with_reducible refine And.intro ?_ ?_)) <;> (try simp only [Sh,Si,Sl,Bu,Bb,Bd,Bc,Bw,Bn,Int.reduceAdd,Int.reduceSub,Int.reduceMul,Int.reduceTDiv,Int.reduceTMod,Int.reduceMod,Int.reduceDiv,Nat.reduceLT,Nat.reduceEqDiff,decide_true,decide_false,Sa,Sb,Sc,Sd,Se,Sf,Sg,true_and,and_true,and_self,eq_self,b_i64,b_i32,b_u64,b_u32,b_u8,Int.reduceLE,Int.reduceLT,Int.reduceToNat,Int.reduceNeg,Int.reduceEq,Nat.reduceLeDiff,Nat.reducePow,Int.reducePow,Nat.min_def,reduceIte,Nat.reduceSub,Nat.reduceAdd,Nat.reduceMul,KP_same,KP_f,condS_t,condS_f,pick_t,pick_f,gS_tt,gS_ff,gS_tf,gS_ft,gS_u,gP_tt,gP_ff,gP_tf,gP_ft,gP_u,ptrV_eq,slcV_eq,mapV_eq,cells_agg,cells_int,cells_bool,cells_ptr,cells_slice,oc_int,oc_bool,oc_slice,oc_ptr,rd1_set,rd1_ne,rdn_set,rdn_ne,Heap.set_same,set_ne,Heap.set_set,set_up,set_up2,set_up3,putAt,ceq,List.map_cons,List.map_nil,List.length_cons,List.length_nil,List.length_set,List.cons_append,List.nil_append,List.append_nil,List.replicate,List.size_toArray,List.all_cons,List.all_nil,Bool.and_self,Bool.and_true,List.drop_zero,List.drop_succ_cons,List.take_succ_cons,List.take_zero,List.set_cons_zero,List.set_cons_succ,List.getElem?_cons_zero,List.getElem?_cons_succ,Option.map_some,Option.map_none,ne_eq,not_false_eq_true,not_true_eq_false,gt_iff_lt,ge_iff_le,Int.one_mul,Nat.zero_add,Nat.zero_mul,Bool.not_true,Bool.not_false,Bool.false_eq_true,Bool.and_false,Bool.false_and,Bool.true_and, *]))
  all_goals (refine Fin_mk (Heap.Le.refl _) (K_dec h ?_); simp [*])
/- pixel Unpack -/
def M53 : MC :=
  .seq (.reg [⟨(some 4), .alloc 34 [(.int .i32 0), (.int .i32 0), (.int .i32 0), (.int .i32 0)], none⟩,
     ⟨(some 5), .mv (.const (.int .i64 0)), none⟩])
  (.seq (.reg [⟨(some 15), .mv (.tmp 0), none⟩,
      ⟨(some 16), .call 58 [(.tmp 15)], none⟩,
      ⟨(some 14), .mv (.tmp 16), none⟩,
      ⟨(some 17), .ext 0 (.tmp 14), none⟩,
      ⟨(some 18), .ext 1 (.tmp 14), none⟩,
      ⟨(some 6), .alloc 78 [(.int .i64 0), (.slice none 0 0), (.int .i32 0), (.int .i32 0), (.int .i32 0), (.int .i32 0)], none⟩,
      ⟨none, .stn 6 (.tmp 6) (.tmp 17), none⟩,
      ⟨(some 7), .mv (.tmp 18), none⟩])
   (.seq (.block 0 (.seq (.reg [⟨(some 20), .mv (.tmp 7), none⟩,
         ⟨(some 21), .un .not (.tmp 20), none⟩,
         ⟨(some 19), .mv (.tmp 21), none⟩])
      (.cond (.tmp 19)
       (.seq (.reg [⟨(some 22), .build [(.int .i32 0), (.int .i32 0), (.int .i32 0), (.int .i32 0)] [], none⟩,
           ⟨none, .stn 4 (.tmp 4) (.tmp 22), none⟩,
           ⟨(some 5), .mv (.const (.int .i64 2)), none⟩])
        (.ret))
       (.seq (.reg [⟨(some 24), .mv (.tmp 1), none⟩,
           ⟨(some 25), .len (.tmp 24), none⟩,
           ⟨(some 26), .fa 0 (.tmp 6), none⟩,
           ⟨(some 27), .ld1 (.tmp 26), none⟩,
           ⟨(some 28), .bin .neq (.tmp 25) (.tmp 27), none⟩,
           ⟨(some 23), .mv (.tmp 28), none⟩])
        (.cond (.tmp 23)
         (.seq (.reg [⟨(some 29), .build [(.int .i32 0), (.int .i32 0), (.int .i32 0), (.int .i32 0)] [], none⟩,
             ⟨none, .stn 4 (.tmp 4) (.tmp 29), none⟩,
             ⟨(some 5), .mv (.const (.int .i64 7)), none⟩])
          (.ret))
         (.skip))))))
    (.seq (.reg [⟨(some 8), .mv (.const (.int .u32 0)), none⟩])
     (.seq (.seq (.reg [⟨(some 30), .mv (.tmp 1), none⟩,
          ⟨(some 31), .len (.tmp 30), none⟩,
          ⟨(some 32), .mv (.const (.int .i64 0)), none⟩])
       (.block 1 (.loop (.seq (.reg [⟨(some 33), .bin .lss (.tmp 32) (.tmp 31), none⟩])
          (.seq (.cond (.tmp 33)
            (.skip)
            (.exit 1))
           (.seq (.block 2 (.seq (.reg [⟨(some 34), .mv (.tmp 32), none⟩,
                 ⟨(some 35), .is 1 (.tmp 30) (.tmp 32), none⟩,
                 ⟨(some 36), .ld1 (.tmp 35), none⟩,
                 ⟨(some 9), .mv (.tmp 34), none⟩,
                 ⟨(some 10), .mv (.tmp 36), none⟩])
              (.reg [⟨(some 37), .mv (.tmp 8), none⟩,
                 ⟨(some 38), .mv (.tmp 10), none⟩,
                 ⟨(some 39), .conv .u32 (.tmp 38), none⟩,
                 ⟨(some 40), .mv (.tmp 9), none⟩,
                 ⟨(some 41), .bin .mul (.const (.int .i64 8)) (.tmp 40), none⟩,
                 ⟨(some 42), .bin .shl (.tmp 39) (.tmp 41), none⟩,
                 ⟨(some 43), .bin .or (.tmp 37) (.tmp 42), none⟩,
                 ⟨(some 8), .mv (.tmp 43), none⟩])))
            (.reg [⟨(some 44), .bin .add (.tmp 32) (.const (.int .i64 1)), none⟩,
               ⟨(some 32), .mv (.tmp 44), none⟩])))))))
      (.seq (.reg [⟨(some 45), .fa 2 (.tmp 6), none⟩,
          ⟨(some 46), .ldn 4 (.tmp 45), none⟩,
          ⟨(some 11), .alloc 34 [(.int .i32 0), (.int .i32 0), (.int .i32 0), (.int .i32 0)], none⟩,
          ⟨none, .stn 4 (.tmp 11) (.tmp 46), none⟩])
       (.seq (.seq (.reg [⟨(some 47), .fa 1 (.tmp 6), none⟩,
            ⟨(some 48), .ld1 (.tmp 47), none⟩,
            ⟨(some 49), .len (.tmp 48), none⟩,
            ⟨(some 50), .mv (.const (.int .i64 0)), none⟩])
         (.block 3 (.loop (.seq (.reg [⟨(some 51), .bin .lss (.tmp 50) (.tmp 49), none⟩])
            (.seq (.cond (.tmp 51)
              (.skip)
              (.exit 3))
             (.seq (.block 4 (.seq (.reg [⟨(some 52), .is 3 (.tmp 48) (.tmp 50), none⟩,
                   ⟨(some 53), .ldn 3 (.tmp 52), none⟩,
                   ⟨(some 13), .alloc 83 [(.int .i64 0), (.int .i64 0), (.int .i64 0)], none⟩,
                   ⟨none, .stn 3 (.tmp 13) (.tmp 53), none⟩])
                (.any [(true, 0, [], ⟨(some 54), .fa 0 (.tmp 13), none⟩),
                   (true, 1, [], ⟨(some 55), .ld1 (.tmp 54), none⟩),
                   (true, 2, [], ⟨(some 56), .mv (.tmp 8), none⟩),
                   (true, 3, [], ⟨(some 57), .fa 2 (.tmp 13), none⟩),
                   (true, 4, [], ⟨(some 58), .ld1 (.tmp 57), none⟩),
                   (true, 5, [], ⟨(some 59), .bin .shr (.tmp 56) (.tmp 58), none⟩),
                   (true, 6, [], ⟨(some 60), .fa 1 (.tmp 13), none⟩),
                   (true, 7, [], ⟨(some 61), .ld1 (.tmp 60), none⟩),
                   (true, 8, [], ⟨(some 62), .bin .shl (.const (.int .u32 1)) (.tmp 61), none⟩),
                   (true, 9, [], ⟨(some 63), .bin .sub (.tmp 62) (.const (.int .u32 1)), none⟩),
                   (true, 10, [], ⟨(some 64), .bin .and (.tmp 59) (.tmp 63), none⟩),
                   (false, 11, [0, 1, 2, 3, 4, 5, 6, 7, 8, 9, 10], ⟨(some 65), .fa 1 (.tmp 13), none⟩),
                   (false, 12, [0, 1, 2, 3, 4, 5, 6, 7, 8, 9, 10], ⟨(some 66), .ld1 (.tmp 65), none⟩),
                   (false, 13, [0, 1], ⟨(some 67), .call 60 [(.tmp 64), (.tmp 66)], none⟩),
                   (false, 14, [], ⟨(some 68), .ia 4 1 (.tmp 11) (.tmp 55), none⟩),
                   (false, 15, [], ⟨none, .st1 (.tmp 68) (.tmp 67), none⟩)])))
              (.reg [⟨(some 69), .bin .add (.tmp 50) (.const (.int .i64 1)), none⟩,
                 ⟨(some 50), .mv (.tmp 69), none⟩])))))))
        (.seq (.seq (.reg [⟨(some 70), .mv (.tmp 0), none⟩,
             ⟨(some 71), .call 61 [(.tmp 70)], none⟩])
          (.cond (.tmp 71)
           (.reg [⟨(some 72), .ia 4 1 (.tmp 11) (.const (.int .i64 0)), none⟩,
              ⟨(some 73), .ld1 (.tmp 72), none⟩,
              ⟨(some 74), .ia 4 1 (.tmp 11) (.const (.int .i64 0)), none⟩,
              ⟨(some 75), .ld1 (.tmp 74), none⟩,
              ⟨(some 76), .ia 4 1 (.tmp 11) (.const (.int .i64 1)), none⟩,
              ⟨none, .st1 (.tmp 76) (.tmp 73), none⟩,
              ⟨(some 77), .ia 4 1 (.tmp 11) (.const (.int .i64 2)), none⟩,
              ⟨none, .st1 (.tmp 77) (.tmp 75), none⟩])
           (.skip)))
         (.seq (.reg [⟨(some 78), .ldn 4 (.tmp 11), none⟩,
             ⟨none, .stn 4 (.tmp 4) (.tmp 78), none⟩,
             ⟨(some 5), .mv (.const (.int .i64 0)), none⟩])
          (.ret)))))))))
theorem k53 : fnOk Try.prog 53 = some (M53, [.cn 4 4, .t 5], 79) := by kernel_rfl
/- paintboxref05 Unpack -/
def M42 : MC :=
  .seq (.reg [⟨(some 4), .alloc 34 [(.int .i32 0), (.int .i32 0), (.int .i32 0), (.int .i32 0)], none⟩])
  (.seq (.seq (.reg [⟨(some 11), .mv (.tmp 0), none⟩,
       ⟨(some 12), .bin .eql (.tmp 11) (.const (.int .i64 1)), none⟩])
    (.cond (.tmp 12)
     (.seq (.any [(true, 0, [], ⟨(some 13), .mv (.tmp 1), none⟩),
         (true, 1, [], ⟨(some 14), .is 1 (.tmp 13) (.const (.int .i64 0)), none⟩),
         (true, 2, [], ⟨(some 15), .ld1 (.tmp 14), none⟩),
         (true, 3, [], ⟨(some 16), .conv .u32 (.tmp 15), none⟩),
         (true, 5, [], ⟨(some 18), .mv (.tmp 1), none⟩),
         (true, 6, [], ⟨(some 19), .is 1 (.tmp 18) (.const (.int .i64 1)), none⟩),
         (true, 7, [], ⟨(some 20), .ld1 (.tmp 19), none⟩),
         (true, 8, [], ⟨(some 21), .conv .u32 (.tmp 20), none⟩),
         (true, 10, [], ⟨(some 23), .mv (.tmp 1), none⟩),
         (true, 11, [], ⟨(some 24), .is 1 (.tmp 23) (.const (.int .i64 2)), none⟩),
         (true, 12, [], ⟨(some 25), .ld1 (.tmp 24), none⟩),
         (true, 13, [], ⟨(some 26), .conv .u32 (.tmp 25), none⟩),
         (true, 15, [], ⟨(some 28), .mv (.tmp 1), none⟩),
         (true, 16, [], ⟨(some 29), .is 1 (.tmp 28) (.const (.int .i64 3)), none⟩),
         (true, 17, [], ⟨(some 30), .ld1 (.tmp 29), none⟩),
         (true, 18, [], ⟨(some 31), .conv .u32 (.tmp 30), none⟩),
         (false, 4, [5, 6, 7, 8, 10, 11, 12, 13, 15, 16, 17, 18], ⟨(some 17), .call 54 [(.tmp 16), (.const (.int .i64 8))], none⟩),
         (false, 9, [10, 11, 12, 13, 15, 16, 17, 18], ⟨(some 22), .call 54 [(.tmp 21), (.const (.int .i64 8))], none⟩),
         (false, 14, [15, 16, 17, 18], ⟨(some 27), .call 54 [(.tmp 26), (.const (.int .i64 8))], none⟩),
         (false, 19, [], ⟨(some 32), .call 54 [(.tmp 31), (.const (.int .i64 8))], none⟩),
         (false, 20, [], ⟨(some 33), .build [(.int .i32 0), (.int .i32 0), (.int .i32 0), (.int .i32 0)] [(0, 1, (.tmp 17)), (1, 1, (.tmp 22)), (2, 1, (.tmp 27)), (3, 1, (.tmp 32))], none⟩),
         (false, 21, [], ⟨none, .stn 4 (.tmp 4) (.tmp 33), none⟩)])
      (.ret))
     (.skip)))
   (.seq (.seq (.reg [⟨(some 34), .mv (.tmp 0), none⟩,
        ⟨(some 35), .bin .eql (.tmp 34) (.const (.int .i64 5)), none⟩])
     (.cond (.tmp 35)
      (.seq (.reg [⟨(some 36), .mv (.tmp 1), none⟩,
          ⟨(some 37), .is 1 (.tmp 36) (.const (.int .i64 0)), none⟩,
          ⟨(some 38), .ld1 (.tmp 37), none⟩,
          ⟨(some 39), .conv .u32 (.tmp 38), none⟩,
          ⟨(some 40), .call 54 [(.tmp 39), (.const (.int .i64 8))], none⟩,
          ⟨(some 5), .mv (.tmp 40), none⟩])
       (.seq (.reg [⟨(some 41), .mv (.tmp 5), none⟩,
           ⟨(some 42), .mv (.tmp 5), none⟩,
           ⟨(some 43), .mv (.tmp 5), none⟩,
           ⟨(some 44), .build [(.int .i32 0), (.int .i32 0), (.int .i32 0), (.int .i32 0)] [(0, 1, (.tmp 41)), (1, 1, (.tmp 42)), (2, 1, (.tmp 43)), (3, 1, (.const (.int .i32 65536)))], none⟩,
           ⟨none, .stn 4 (.tmp 4) (.tmp 44), none⟩])
        (.ret)))
      (.skip)))
    (.seq (.seq (.reg [⟨(some 45), .mv (.tmp 0), none⟩,
         ⟨(some 46), .bin .eql (.tmp 45) (.const (.int .i64 6)), none⟩])
      (.cond (.tmp 46)
       (.seq (.reg [⟨(some 47), .mv (.tmp 1), none⟩,
           ⟨(some 48), .is 1 (.tmp 47) (.const (.int .i64 0)), none⟩,
           ⟨(some 49), .ld1 (.tmp 48), none⟩,
           ⟨(some 50), .conv .u32 (.tmp 49), none⟩,
           ⟨(some 51), .call 54 [(.tmp 50), (.const (.int .i64 8))], none⟩,
           ⟨(some 52), .build [(.int .i32 0), (.int .i32 0), (.int .i32 0), (.int .i32 0)] [(0, 1, (.const (.int .i32 0))), (1, 1, (.const (.int .i32 0))), (2, 1, (.const (.int .i32 0))), (3, 1, (.tmp 51))], none⟩,
           ⟨none, .stn 4 (.tmp 4) (.tmp 52), none⟩])
        (.ret))
       (.skip)))
     (.seq (.seq (.reg [⟨(some 53), .mv (.tmp 0), none⟩,
          ⟨(some 54), .bin .eql (.tmp 53) (.const (.int .i64 7)), none⟩])
       (.cond (.tmp 54)
        (.seq (.reg [⟨(some 55), .mv (.tmp 1), none⟩,
            ⟨(some 56), .is 1 (.tmp 55) (.const (.int .i64 0)), none⟩,
            ⟨(some 57), .ld1 (.tmp 56), none⟩,
            ⟨(some 58), .conv .u32 (.tmp 57), none⟩,
            ⟨(some 59), .call 54 [(.tmp 58), (.const (.int .i64 8))], none⟩,
            ⟨(some 6), .mv (.tmp 59), none⟩])
         (.seq (.reg [⟨(some 60), .mv (.tmp 6), none⟩,
             ⟨(some 61), .mv (.tmp 6), none⟩,
             ⟨(some 62), .mv (.tmp 6), none⟩,
             ⟨(some 63), .mv (.tmp 1), none⟩,
             ⟨(some 64), .is 1 (.tmp 63) (.const (.int .i64 1)), none⟩,
             ⟨(some 65), .ld1 (.tmp 64), none⟩,
             ⟨(some 66), .conv .u32 (.tmp 65), none⟩,
             ⟨(some 67), .call 54 [(.tmp 66), (.const (.int .i64 8))], none⟩,
             ⟨(some 68), .build [(.int .i32 0), (.int .i32 0), (.int .i32 0), (.int .i32 0)] [(0, 1, (.tmp 60)), (1, 1, (.tmp 61)), (2, 1, (.tmp 62)), (3, 1, (.tmp 67))], none⟩,
             ⟨none, .stn 4 (.tmp 4) (.tmp 68), none⟩])
          (.ret)))
        (.skip)))
      (.seq (.reg [⟨(some 69), .mv (.tmp 1), none⟩,
          ⟨(some 70), .call 55 [(.tmp 69)], none⟩,
          ⟨(some 71), .conv .i64 (.tmp 70), none⟩,
          ⟨(some 7), .mv (.tmp 71), none⟩])
       (.seq (.reg [⟨(some 72), .mv (.tmp 0), none⟩,
           ⟨(some 73), .call 56 [(.tmp 72)], none⟩,
           ⟨(some 8), .alloc 73 [(.int .i64 0), (.int .i64 0), (.int .i64 0), (.int .i64 0)], none⟩,
           ⟨none, .stn 4 (.tmp 8) (.tmp 73), none⟩])
        (.seq (.reg [⟨(some 74), .build [(.int .i32 0), (.int .i32 0), (.int .i32 0), (.int .i32 0)] [(0, 1, (.const (.int .i32 0))), (1, 1, (.const (.int .i32 0))), (2, 1, (.const (.int .i32 0))), (3, 1, (.const (.int .i32 65536)))], none⟩,
            ⟨(some 9), .alloc 34 [(.int .i32 0), (.int .i32 0), (.int .i32 0), (.int .i32 0)], none⟩,
            ⟨none, .stn 4 (.tmp 9) (.tmp 74), none⟩])
         (.seq (.seq (.reg [⟨(some 10), .mv (.const (.int .i64 3)), none⟩])
           (.block 0 (.loop (.seq (.seq (.reg [⟨(some 75), .mv (.tmp 10), none⟩,
                  ⟨(some 76), .bin .geq (.tmp 75) (.const (.int .i64 0)), none⟩])
               (.cond (.tmp 76)
                (.skip)
                (.exit 0)))
              (.seq (.block 1 (.seq (.reg [⟨(some 79), .mv (.tmp 10), none⟩,
                    ⟨(some 80), .ia 4 1 (.tmp 8) (.tmp 79), none⟩,
                    ⟨(some 81), .ld1 (.tmp 80), none⟩,
                    ⟨(some 82), .bin .gtr (.tmp 81) (.const (.int .i64 0)), none⟩])
                 (.cond (.tmp 82)
                  (.seq (.any [(true, 0, [], ⟨(some 83), .mv (.tmp 10), none⟩),
                      (true, 1, [], ⟨(some 84), .mv (.tmp 7), none⟩),
                      (true, 2, [], ⟨(some 85), .mv (.tmp 10), none⟩),
                      (true, 3, [], ⟨(some 86), .ia 4 1 (.tmp 8) (.tmp 85), none⟩),
                      (true, 4, [], ⟨(some 87), .ld1 (.tmp 86), none⟩),
                      (true, 8, [], ⟨(some 91), .mv (.tmp 10), none⟩),
                      (true, 9, [], ⟨(some 92), .ia 4 1 (.tmp 8) (.tmp 91), none⟩),
                      (true, 10, [], ⟨(some 93), .ld1 (.tmp 92), none⟩),
                      (false, 5, [0, 1, 8, 9, 10], ⟨(some 88), .call 57 [(.tmp 87)], none⟩),
                      (false, 6, [0, 8, 9, 10], ⟨(some 89), .bin .rem (.tmp 84) (.tmp 88), none⟩),
                      (false, 7, [0, 8, 9, 10], ⟨(some 90), .conv .u32 (.tmp 89), none⟩),
                      (false, 11, [0], ⟨(some 94), .call 54 [(.tmp 90), (.tmp 93)], none⟩),
                      (false, 12, [], ⟨(some 95), .ia 4 1 (.tmp 9) (.tmp 83), none⟩),
                      (false, 13, [], ⟨none, .st1 (.tmp 95) (.tmp 94), none⟩)])
                   (.reg [⟨(some 96), .mv (.tmp 7), none⟩,
                      ⟨(some 97), .mv (.tmp 10), none⟩,
                      ⟨(some 98), .ia 4 1 (.tmp 8) (.tmp 97), none⟩,
                      ⟨(some 99), .ld1 (.tmp 98), none⟩,
                      ⟨(some 100), .call 57 [(.tmp 99)], none⟩,
                      ⟨(some 101), .bin .quo (.tmp 96) (.tmp 100), none⟩,
                      ⟨(some 7), .mv (.tmp 101), none⟩]))
                  (.skip))))
               (.reg [⟨(some 77), .mv (.tmp 10), none⟩,
                  ⟨(some 78), .bin .sub (.tmp 77) (.const (.int .i64 1)), none⟩,
                  ⟨(some 10), .mv (.tmp 78), none⟩]))))))
          (.seq (.reg [⟨(some 102), .ldn 4 (.tmp 9), none⟩,
              ⟨none, .stn 4 (.tmp 4) (.tmp 102), none⟩])
           (.ret))))))))))
theorem k42 : fnOk Try.prog 42 = some (M42, [.cn 4 4], 103) := by kernel_rfl
/- paintboxref05 widths -/
def M56 : MC :=
  .seq (.reg [⟨(some 2), .alloc 73 [(.int .i64 0), (.int .i64 0), (.int .i64 0), (.int .i64 0)], none⟩])
  (.seq (.seq (.reg [⟨(some 3), .mv (.tmp 0), none⟩,
       ⟨(some 4), .bin .eql (.tmp 3) (.const (.int .i64 2)), none⟩])
    (.cond (.tmp 4)
     (.seq (.reg [⟨(some 5), .build [(.int .i64 0), (.int .i64 0), (.int .i64 0), (.int .i64 0)] [(0, 1, (.const (.int .i64 5))), (1, 1, (.const (.int .i64 6))), (2, 1, (.const (.int .i64 5))), (3, 1, (.const (.int .i64 0)))], none⟩,
         ⟨none, .stn 4 (.tmp 2) (.tmp 5), none⟩])
      (.ret))
     (.skip)))
   (.seq (.seq (.reg [⟨(some 6), .mv (.tmp 0), none⟩,
        ⟨(some 7), .bin .eql (.tmp 6) (.const (.int .i64 3)), none⟩])
     (.cond (.tmp 7)
      (.seq (.reg [⟨(some 8), .build [(.int .i64 0), (.int .i64 0), (.int .i64 0), (.int .i64 0)] [(0, 1, (.const (.int .i64 4))), (1, 1, (.const (.int .i64 4))), (2, 1, (.const (.int .i64 4))), (3, 1, (.const (.int .i64 4)))], none⟩,
          ⟨none, .stn 4 (.tmp 2) (.tmp 8), none⟩])
       (.ret))
      (.skip)))
    (.seq (.reg [⟨(some 9), .build [(.int .i64 0), (.int .i64 0), (.int .i64 0), (.int .i64 0)] [(0, 1, (.const (.int .i64 5))), (1, 1, (.const (.int .i64 5))), (2, 1, (.const (.int .i64 5))), (3, 1, (.const (.int .i64 1)))], none⟩,
        ⟨none, .stn 4 (.tmp 2) (.tmp 9), none⟩])
     (.ret))))
theorem k56 : fnOk Try.prog 56 = some (M56, [.cn 4 2], 10) := by kernel_rfl
/- paintboxref01 Number -/
def M55 : MC :=
  .seq (.reg [⟨(some 2), .mv (.const (.int .u64 0)), none⟩])
  (.seq (.reg [⟨(some 3), .mv (.const (.int .u64 0)), none⟩])
   (.seq (.seq (.reg [⟨(some 5), .mv (.tmp 0), none⟩,
        ⟨(some 6), .len (.tmp 5), none⟩,
        ⟨(some 7), .bin .sub (.tmp 6) (.const (.int .i64 1)), none⟩,
        ⟨(some 4), .mv (.tmp 7), none⟩])
     (.block 0 (.loop (.seq (.seq (.reg [⟨(some 8), .mv (.tmp 4), none⟩,
            ⟨(some 9), .bin .geq (.tmp 8) (.const (.int .i64 0)), none⟩])
         (.cond (.tmp 9)
          (.skip)
          (.exit 0)))
        (.seq (.block 1 (.reg [⟨(some 12), .mv (.tmp 3), none⟩,
             ⟨(some 13), .bin .mul (.tmp 12) (.const (.int .u64 256)), none⟩,
             ⟨(some 14), .mv (.tmp 0), none⟩,
             ⟨(some 15), .mv (.tmp 4), none⟩,
             ⟨(some 16), .is 1 (.tmp 14) (.tmp 15), none⟩,
             ⟨(some 17), .ld1 (.tmp 16), none⟩,
             ⟨(some 18), .conv .u64 (.tmp 17), none⟩,
             ⟨(some 19), .bin .add (.tmp 13) (.tmp 18), none⟩,
             ⟨(some 3), .mv (.tmp 19), none⟩]))
         (.reg [⟨(some 10), .mv (.tmp 4), none⟩,
            ⟨(some 11), .bin .sub (.tmp 10) (.const (.int .i64 1)), none⟩,
            ⟨(some 4), .mv (.tmp 11), none⟩]))))))
    (.seq (.reg [⟨(some 20), .mv (.tmp 3), none⟩,
        ⟨(some 2), .mv (.tmp 20), none⟩])
     (.ret))))
theorem k55 : fnOk Try.prog 55 = some (M55, [.t 2], 21) := by kernel_rfl

theorem c_Unpack1 (a : Option Addr) (c : Nat) (b0 b1 b2 b3 X : Int) (hX : X = b0 + b1 * 256 + b2 * 65536 + b3 * 16777216) (hb0 : 0 ≤ b0 ∧ b0 ≤ 255) (hb1 : 0 ≤ b1 ∧ b1 ≤ 255) (hb2 : 0 ≤ b2 ∧ b2 ≤ 255) (hb3 : 0 ≤ b3 ∧ b3 ≤ 255) (hA : IntsAt w0 H .u8 a [b0, b1, b2, b3]) (h : K (.tuple #[V4 (unp 1 X), .int .i64 0]) H) : HCalls Try.prog w0 53 [.int .i64 1, .slice a 4 c] H K := by
  have key : ∀ v, v = .tuple #[V4 (unp 1 X), .int .i64 0] → K v H := fun v e => by subst e; exact h
  clear h
  obtain ⟨b, o, rfl, hr, hf⟩ := hA (by simp)
  have r0 := hr 0 (by simp)
  have r1 := hr 1 (by simp)
  have r2 := hr 2 (by simp)
  have r3 := hr 3 (by simp)
  simp only [Nat.add_zero, List.getD, List.getElem?_cons_zero, List.getElem?_cons_succ, Option.getD_some] at r0 r1 r2 r3
  clear hr hA
  have z0 : bitsI .or .u32 0 b0 = b0 := by have := or_shift 0 b0 0 (by omega) (by omega) (by omega) (by omega); simp at this; rw [this]
  have z1 : bitsI .or .u32 (b0) (b1 * 256) = b0 + b1 * 256 := by have := or_shift (b0) b1 8 (by omega) (by omega) (by omega) (by omega); simp at this; rw [this]
  have z2 : bitsI .or .u32 (b0 + b1 * 256) (b2 * 65536) = b0 + b1 * 256 + b2 * 65536 := by have := or_shift (b0 + b1 * 256) b2 16 (by omega) (by omega) (by omega) (by omega); simp at this; rw [this]
  have z3 : bitsI .or .u32 (b0 + b1 * 256 + b2 * 65536) (b3 * 16777216) = X := by have := or_shift (b0 + b1 * 256 + b2 * 65536) b3 24 (by omega) (by omega) (by omega) (by omega); simp at this; rw [this]; omega
  have u0 : IntKind.u32.wrap b0 = b0 := Bu.2.1 _ (by omega) (by omega)
  have v0 : IntKind.u32.wrap (b0 * 1) = b0 := by rw [Int.mul_one]; exact u0
  have u1 : IntKind.u32.wrap b1 = b1 := Bu.2.1 _ (by omega) (by omega)
  have v1 : IntKind.u32.wrap (b1 * 256) = b1 * 256 := Bu.2.1 _ (by omega) (by omega)
  have u2 : IntKind.u32.wrap b2 = b2 := Bu.2.1 _ (by omega) (by omega)
  have v2 : IntKind.u32.wrap (b2 * 65536) = b2 * 65536 := Bu.2.1 _ (by omega) (by omega)
  have u3 : IntKind.u32.wrap b3 = b3 := Bu.2.1 _ (by omega) (by omega)
  have v3 : IntKind.u32.wrap (b3 * 16777216) = b3 * 16777216 := Bu.2.1 _ (by omega) (by omega)
  have f0 : X.fdiv 1 = X / 1 := Int.fdiv_eq_ediv_of_nonneg _ (by omega)
  have m0 : bitsI .and .u32 (X / 1) 255 = X / 1 % 256 := by have := and_mask (X / 1) 8 (by omega) (by omega) (by omega); simpa using this
  have f8 : X.fdiv 256 = X / 256 := Int.fdiv_eq_ediv_of_nonneg _ (by omega)
  have m8 : bitsI .and .u32 (X / 256) 255 = X / 256 % 256 := by have := and_mask (X / 256) 8 (by omega) (by omega) (by omega); simpa using this
  have f16 : X.fdiv 65536 = X / 65536 := Int.fdiv_eq_ediv_of_nonneg _ (by omega)
  have m16 : bitsI .and .u32 (X / 65536) 255 = X / 65536 % 256 := by have := and_mask (X / 65536) 8 (by omega) (by omega) (by omega); simpa using this
  have f24 : X.fdiv 16777216 = X / 16777216 := Int.fdiv_eq_ediv_of_nonneg _ (by omega)
  have m24 : bitsI .and .u32 (X / 16777216) 255 = X / 16777216 % 256 := by have := and_mask (X / 16777216) 8 (by omega) (by omega) (by omega); simpa using this
  have hXb : 0 ≤ X ∧ X < 4294967296 := by omega
  clear hX
  refine HL.hc k53 999 ?_; unfold M53
  (all_goals (try simp only [Sh,Si,Sl,Bu,Bb,Bd,Bc,Bw,Bn,Int.reduceAdd,Int.reduceSub,Int.reduceMul,Int.reduceTDiv,Int.reduceTMod,Int.reduceMod,Int.reduceDiv,Nat.reduceLT,Nat.reduceEqDiff,decide_true,decide_false,Sa,Sb,Sc,Sd,Se,Sf,Sg,true_and,and_true,and_self,eq_self,b_i64,b_i32,b_u64,b_u32,b_u8,Int.reduceLE,Int.reduceLT,Int.reduceToNat,Int.reduceNeg,Int.reduceEq,Nat.reduceLeDiff,Nat.reducePow,Int.reducePow,Nat.min_def,reduceIte,Nat.reduceSub,Nat.reduceAdd,Nat.reduceMul,KP_same,KP_f,condS_t,condS_f,pick_t,pick_f,gS_tt,gS_ff,gS_tf,gS_ft,gS_u,gP_tt,gP_ff,gP_tf,gP_ft,gP_u,ptrV_eq,slcV_eq,mapV_eq,cells_agg,cells_int,cells_bool,cells_ptr,cells_slice,oc_int,oc_bool,oc_slice,oc_ptr,rd1_set,rd1_ne,rdn_set,rdn_ne,Heap.set_same,set_ne,Heap.set_set,set_up,set_up2,set_up3,putAt,ceq,List.map_cons,List.map_nil,List.length_cons,List.length_nil,List.length_set,List.cons_append,List.nil_append,List.append_nil,List.replicate,List.size_toArray,List.all_cons,List.all_nil,Bool.and_self,Bool.and_true,List.drop_zero,List.drop_succ_cons,List.take_succ_cons,List.take_zero,List.set_cons_zero,List.set_cons_succ,List.getElem?_cons_zero,List.getElem?_cons_succ,Option.map_some,Option.map_none,ne_eq,not_false_eq_true,not_true_eq_false,gt_iff_lt,ge_iff_le,Int.one_mul,Nat.zero_add,Nat.zero_mul,Bool.not_true,Bool.not_false,Bool.false_eq_true,Bool.and_false,Bool.false_and,Bool.true_and, *])); repeat' ((first | (with_reducible refine fun _ : True => ?_) | (with_reducible refine any_h ?_) | ((first | refine AllocQ_i ?_ | refine AllocO_i ?_); intro bk hb0 hbk; try simp only [set_none'] at hbk) | ((first | refine condS_i ?_ ?_ | refine pick_i ?_ ?_ | refine gS_it ?_ ?_ | refine gS_if ?_ ?_ | refine gP_it ?_ ?_ | refine gP_if ?_ ?_) <;> (intro hc; try simp only [Int.reduceLE,Int.reduceLT,Int.reduceEq,and_self,not_true_eq_false,not_false_eq_true,and_true,true_and,false_and,and_false,true_or,or_true,false_or,or_false,decide_eq_true_eq,decide_eq_false_iff_not,beq_iff_eq,beq_eq_false_iff_ne,bne_iff_ne,ne_eq,gt_iff_lt,ge_iff_le,Bool.not_eq_true,Bool.not_eq_false,Bool.not_eq_true',Bool.not_eq_false',Bool.not_eq_eq_eq_not,Bool.not_true,Bool.not_false] at hc)) | (refine KP_i (by (repeat' (first | exact Heap.Le.refl _ | (refine Le_fresh (by first | exact (by simp only [*]) | exact (by simp [set_none', *])) ?_) | (refine Heap.Le.trans ?_ (Grow.le (by assumption)))))) ?_) | (with_reducible refine And.intro ?_ ?_)) <;> (try simp only [Sh,Si,Sl,Bu,Bb,Bd,Bc,Bw,Bn,Int.reduceAdd,Int.reduceSub,Int.reduceMul,Int.reduceTDiv,Int.reduceTMod,Int.reduceMod,Int.reduceDiv,Nat.reduceLT,Nat.reduceEqDiff,decide_true,decide_false,Sa,Sb,Sc,Sd,Se,Sf,Sg,true_and,and_true,and_self,eq_self,b_i64,b_i32,b_u64,b_u32,b_u8,Int.reduceLE,Int.reduceLT,Int.reduceToNat,Int.reduceNeg,Int.reduceEq,Nat.reduceLeDiff,Nat.reducePow,Int.reducePow,Nat.min_def,reduceIte,Nat.reduceSub,Nat.reduceAdd,Nat.reduceMul,KP_same,KP_f,condS_t,condS_f,pick_t,pick_f,gS_tt,gS_ff,gS_tf,gS_ft,gS_u,gP_tt,gP_ff,gP_tf,gP_ft,gP_u,ptrV_eq,slcV_eq,mapV_eq,cells_agg,cells_int,cells_bool,cells_ptr,cells_slice,oc_int,oc_bool,oc_slice,oc_ptr,rd1_set,rd1_ne,rdn_set,rdn_ne,Heap.set_same,set_ne,Heap.set_set,set_up,set_up2,set_up3,putAt,ceq,List.map_cons,List.map_nil,List.length_cons,List.length_nil,List.length_set,List.cons_append,List.nil_append,List.append_nil,List.replicate,List.size_toArray,List.all_cons,List.all_nil,Bool.and_self,Bool.and_true,List.drop_zero,List.drop_succ_cons,List.take_succ_cons,List.take_zero,List.set_cons_zero,List.set_cons_succ,List.getElem?_cons_zero,List.getElem?_cons_succ,Option.map_some,Option.map_none,ne_eq,not_false_eq_true,not_true_eq_false,gt_iff_lt,ge_iff_le,Int.one_mul,Nat.zero_add,Nat.zero_mul,Bool.not_true,Bool.not_false,Bool.false_eq_true,Bool.and_false,Bool.false_and,Bool.true_and, *]))
  refine c_find1 (fun bc H' g nc kc => ?_)
  have kb := g.some (b := bk) (by simp only [Heap.set_same, set_ne, ne_eq, not_false_eq_true, *] <;> rfl)
  have hbc : bk ≠ bc := fun e => by rw [e, kc] at kb; cases kb
  have hcb := hbc.symm
  have g1 : Grow w0 H H' := Grow.trans (by (repeat' (first | exact Grow.refl _ | assumption | (refine Grow.set ?_ (by assumption) (by first | exact (by simp only [*]) | exact (by simp [set_none', *]) | exact Grow.none (by assumption) (by simp [set_none', *]))) | (refine Grow.trans ?_ (by assumption))))) g
  have hf1 : bk ≠ b := hf _ hb0 hbk
  have nc2 := (Heap.set_none.1 nc).2
  have hf2 : bc ≠ b := by
    rcases Classical.em (w0.heap.size ≤ bc) with hs | hs
    · exact hf _ hs nc2
    · intro e
      rcases g1 bc with e1 | ⟨e1, e2⟩
      · rw [nc2, kc] at e1; cases e1
      · exact hs e2
  have hf3 : ∀ c, w0.heap.size ≤ c → H' c = none → c ≠ b := fun c h1 h2 => hf c h1 (g1.none h2)
  have q0 := g1.rd1 r0
  have q1 := g1.rd1 r1
  have q2 := g1.rd1 r2
  have q3 := g1.rd1 r3
  clear r0 r1 r2 r3
  rw [root2 hbc kb kc]
  (all_goals (try simp only [Sh,Si,Sl,Bu,Bb,Bd,Bc,Bw,Bn,Int.reduceAdd,Int.reduceSub,Int.reduceMul,Int.reduceTDiv,Int.reduceTMod,Int.reduceMod,Int.reduceDiv,Nat.reduceLT,Nat.reduceEqDiff,decide_true,decide_false,Sa,Sb,Sc,Sd,Se,Sf,Sg,true_and,and_true,and_self,eq_self,b_i64,b_i32,b_u64,b_u32,b_u8,Int.reduceLE,Int.reduceLT,Int.reduceToNat,Int.reduceNeg,Int.reduceEq,Nat.reduceLeDiff,Nat.reducePow,Int.reducePow,Nat.min_def,reduceIte,Nat.reduceSub,Nat.reduceAdd,Nat.reduceMul,KP_same,KP_f,condS_t,condS_f,pick_t,pick_f,gS_tt,gS_ff,gS_tf,gS_ft,gS_u,gP_tt,gP_ff,gP_tf,gP_ft,gP_u,ptrV_eq,slcV_eq,mapV_eq,cells_agg,cells_int,cells_bool,cells_ptr,cells_slice,oc_int,oc_bool,oc_slice,oc_ptr,rd1_set,rd1_ne,rdn_set,rdn_ne,Heap.set_same,set_ne,Heap.set_set,set_up,set_up2,set_up3,putAt,ceq,List.map_cons,List.map_nil,List.length_cons,List.length_nil,List.length_set,List.cons_append,List.nil_append,List.append_nil,List.replicate,List.size_toArray,List.all_cons,List.all_nil,Bool.and_self,Bool.and_true,List.drop_zero,List.drop_succ_cons,List.take_succ_cons,List.take_zero,List.set_cons_zero,List.set_cons_succ,List.getElem?_cons_zero,List.getElem?_cons_succ,Option.map_some,Option.map_none,ne_eq,not_false_eq_true,not_true_eq_false,gt_iff_lt,ge_iff_le,Int.one_mul,Nat.zero_add,Nat.zero_mul,Bool.not_true,Bool.not_false,Bool.false_eq_true,Bool.and_false,Bool.false_and,Bool.true_and, *])); repeat' ((first | (with_reducible refine fun _ : True => ?_) | refine c_number (X / 1 % 256) 8 (by simp) (by omega) (by omega) ?_ | refine c_number (X / 256 % 256) 8 (by simp) (by omega) (by omega) ?_ | refine c_number (X / 65536 % 256) 8 (by simp) (by omega) (by omega) ?_ | refine c_number (X / 16777216 % 256) 8 (by simp) (by omega) (by omega) ?_ | refine c_grey _ ?_ | (with_reducible refine any_h ?_) | ((first | refine AllocQ_i ?_ | refine AllocO_i ?_); intro bk hb0 hbk; try simp only [set_none'] at hbk) | ((first | refine condS_i ?_ ?_ | refine pick_i ?_ ?_ | refine gS_it ?_ ?_ | refine gS_if ?_ ?_ | refine gP_it ?_ ?_ | refine gP_if ?_ ?_) <;> (intro hc; try simp only [Int.reduceLE,Int.reduceLT,Int.reduceEq,and_self,not_true_eq_false,not_false_eq_true,and_true,true_and,false_and,and_false,true_or,or_true,false_or,or_false,decide_eq_true_eq,decide_eq_false_iff_not,beq_iff_eq,beq_eq_false_iff_ne,bne_iff_ne,ne_eq,gt_iff_lt,ge_iff_le,Bool.not_eq_true,Bool.not_eq_false,Bool.not_eq_true',Bool.not_eq_false',Bool.not_eq_eq_eq_not,Bool.not_true,Bool.not_false] at hc)) | (refine KP_i (by (repeat' (first | exact Heap.Le.refl _ | (refine Le_fresh (by first | exact (by simp only [*]) | exact (by simp [set_none', *])) ?_) | (refine Heap.Le.trans ?_ (Grow.le (by assumption)))))) ?_) | (with_reducible refine loop_u ?_) | (with_reducible refine And.intro ?_ ?_)) <;> (try simp only [Sh,Si,Sl,Bu,Bb,Bd,Bc,Bw,Bn,Int.reduceAdd,Int.reduceSub,Int.reduceMul,Int.reduceTDiv,Int.reduceTMod,Int.reduceMod,Int.reduceDiv,Nat.reduceLT,Nat.reduceEqDiff,decide_true,decide_false,Sa,Sb,Sc,Sd,Se,Sf,Sg,true_and,and_true,and_self,eq_self,b_i64,b_i32,b_u64,b_u32,b_u8,Int.reduceLE,Int.reduceLT,Int.reduceToNat,Int.reduceNeg,Int.reduceEq,Nat.reduceLeDiff,Nat.reducePow,Int.reducePow,Nat.min_def,reduceIte,Nat.reduceSub,Nat.reduceAdd,Nat.reduceMul,KP_same,KP_f,condS_t,condS_f,pick_t,pick_f,gS_tt,gS_ff,gS_tf,gS_ft,gS_u,gP_tt,gP_ff,gP_tf,gP_ft,gP_u,ptrV_eq,slcV_eq,mapV_eq,cells_agg,cells_int,cells_bool,cells_ptr,cells_slice,oc_int,oc_bool,oc_slice,oc_ptr,rd1_set,rd1_ne,rdn_set,rdn_ne,Heap.set_same,set_ne,Heap.set_set,set_up,set_up2,set_up3,putAt,ceq,List.map_cons,List.map_nil,List.length_cons,List.length_nil,List.length_set,List.cons_append,List.nil_append,List.append_nil,List.replicate,List.size_toArray,List.all_cons,List.all_nil,Bool.and_self,Bool.and_true,List.drop_zero,List.drop_succ_cons,List.take_succ_cons,List.take_zero,List.set_cons_zero,List.set_cons_succ,List.getElem?_cons_zero,List.getElem?_cons_succ,Option.map_some,Option.map_none,ne_eq,not_false_eq_true,not_true_eq_false,gt_iff_lt,ge_iff_le,Int.one_mul,Nat.zero_add,Nat.zero_mul,Bool.not_true,Bool.not_false,Bool.false_eq_true,Bool.and_false,Bool.false_and,Bool.true_and, *]))
  refine Fin_mk (by (repeat' (first | exact g1.le | (refine Le_fresh (by first | exact nc2 | exact (by simp only [*]) | exact Grow.none g1 (by simp only [*])) ?_)))) (key _ ?_)
  simp [V4, unp, chan]
theorem r_Unpack1 (a : Option Addr) (c : Nat) (b0 b1 b2 b3 X : Int) (hX : X = b0 + b1 * 256 + b2 * 65536 + b3 * 16777216) (hb0 : 0 ≤ b0 ∧ b0 ≤ 255) (hb1 : 0 ≤ b1 ∧ b1 ≤ 255) (hb2 : 0 ≤ b2 ∧ b2 ≤ 255) (hb3 : 0 ≤ b3 ∧ b3 ≤ 255) (hA : IntsAt w0 H .u8 a [b0, b1, b2, b3]) (h : K (V4 (unp 1 X)) H) : HCalls Try.prog w0 42 [.int .i64 1, .slice a 4 c] H K := by
  have key : ∀ v, v = V4 (unp 1 X) → K v H := fun v e => by subst e; exact h
  clear h
  obtain ⟨b, o, rfl, hr, hf⟩ := hA (by simp)
  have r0 := hr 0 (by simp)
  have r1 := hr 1 (by simp)
  have r2 := hr 2 (by simp)
  have r3 := hr 3 (by simp)
  simp only [Nat.add_zero, List.getD, List.getElem?_cons_zero, List.getElem?_cons_succ, Option.getD_some] at r0 r1 r2 r3
  clear hr hA
  have u0 : IntKind.u32.wrap b0 = b0 := Bu.2.1 _ (by omega) (by omega)
  have y0 : IntKind.u64.wrap b0 = b0 := Bu.1 _ (by omega) (by omega)
  have u1 : IntKind.u32.wrap b1 = b1 := Bu.2.1 _ (by omega) (by omega)
  have y1 : IntKind.u64.wrap b1 = b1 := Bu.1 _ (by omega) (by omega)
  have u2 : IntKind.u32.wrap b2 = b2 := Bu.2.1 _ (by omega) (by omega)
  have y2 : IntKind.u64.wrap b2 = b2 := Bu.1 _ (by omega) (by omega)
  have u3 : IntKind.u32.wrap b3 = b3 := Bu.2.1 _ (by omega) (by omega)
  have y3 : IntKind.u64.wrap b3 = b3 := Bu.1 _ (by omega) (by omega)
  have hXX := hX
  clear hX
  refine HL.hc k42 999 ?_; unfold M42
  (all_goals (try simp only [Sh,Si,Sl,Bu,Bb,Bd,Bc,Bw,Bn,Int.reduceAdd,Int.reduceSub,Int.reduceMul,Int.reduceTDiv,Int.reduceTMod,Int.reduceMod,Int.reduceDiv,Nat.reduceLT,Nat.reduceEqDiff,decide_true,decide_false,Sa,Sb,Sc,Sd,Se,Sf,Sg,true_and,and_true,and_self,eq_self,b_i64,b_i32,b_u64,b_u32,b_u8,Int.reduceLE,Int.reduceLT,Int.reduceToNat,Int.reduceNeg,Int.reduceEq,Nat.reduceLeDiff,Nat.reducePow,Int.reducePow,Nat.min_def,reduceIte,Nat.reduceSub,Nat.reduceAdd,Nat.reduceMul,KP_same,KP_f,condS_t,condS_f,pick_t,pick_f,gS_tt,gS_ff,gS_tf,gS_ft,gS_u,gP_tt,gP_ff,gP_tf,gP_ft,gP_u,ptrV_eq,slcV_eq,mapV_eq,cells_agg,cells_int,cells_bool,cells_ptr,cells_slice,oc_int,oc_bool,oc_slice,oc_ptr,rd1_set,rd1_ne,rdn_set,rdn_ne,Heap.set_same,set_ne,Heap.set_set,set_up,set_up2,set_up3,putAt,ceq,List.map_cons,List.map_nil,List.length_cons,List.length_nil,List.length_set,List.cons_append,List.nil_append,List.append_nil,List.replicate,List.size_toArray,List.all_cons,List.all_nil,Bool.and_self,Bool.and_true,List.drop_zero,List.drop_succ_cons,List.take_succ_cons,List.take_zero,List.set_cons_zero,List.set_cons_succ,List.getElem?_cons_zero,List.getElem?_cons_succ,Option.map_some,Option.map_none,ne_eq,not_false_eq_true,not_true_eq_false,gt_iff_lt,ge_iff_le,Int.one_mul,Nat.zero_add,Nat.zero_mul,Bool.not_true,Bool.not_false,Bool.false_eq_true,Bool.and_false,Bool.false_and,Bool.true_and, *])); repeat' ((first | (with_reducible refine fun _ : True => ?_) | refine r_number b0 8 (by simp) (by omega) (by omega) ?_ | refine r_number b1 8 (by simp) (by omega) (by omega) ?_ | refine r_number b2 8 (by simp) (by omega) (by omega) ?_ | refine r_number b3 8 (by simp) (by omega) (by omega) ?_ | (with_reducible refine any_h ?_) | ((first | refine AllocQ_i ?_ | refine AllocO_i ?_); intro bk hb0 hbk; try simp only [set_none'] at hbk) | ((first | refine condS_i ?_ ?_ | refine pick_i ?_ ?_ | refine gS_it ?_ ?_ | refine gS_if ?_ ?_ | refine gP_it ?_ ?_ | refine gP_if ?_ ?_) <;> (intro hc; try simp only [Int.reduceLE,Int.reduceLT,Int.reduceEq,and_self,not_true_eq_false,not_false_eq_true,and_true,true_and,false_and,and_false,true_or,or_true,false_or,or_false,decide_eq_true_eq,decide_eq_false_iff_not,beq_iff_eq,beq_eq_false_iff_ne,bne_iff_ne,ne_eq,gt_iff_lt,ge_iff_le,Bool.not_eq_true,Bool.not_eq_false,Bool.not_eq_true',Bool.not_eq_false',Bool.not_eq_eq_eq_not,Bool.not_true,Bool.not_false] at hc)) | (refine KP_i (by (repeat' (first | exact Heap.Le.refl _ | (refine Le_fresh (by first | exact (by simp only [*]) | exact (by simp [set_none', *])) ?_) | (refine Heap.Le.trans ?_ (Grow.le (by assumption)))))) ?_) | (with_reducible refine And.intro ?_ ?_)) <;> (try simp only [Sh,Si,Sl,Bu,Bb,Bd,Bc,Bw,Bn,Int.reduceAdd,Int.reduceSub,Int.reduceMul,Int.reduceTDiv,Int.reduceTMod,Int.reduceMod,Int.reduceDiv,Nat.reduceLT,Nat.reduceEqDiff,decide_true,decide_false,Sa,Sb,Sc,Sd,Se,Sf,Sg,true_and,and_true,and_self,eq_self,b_i64,b_i32,b_u64,b_u32,b_u8,Int.reduceLE,Int.reduceLT,Int.reduceToNat,Int.reduceNeg,Int.reduceEq,Nat.reduceLeDiff,Nat.reducePow,Int.reducePow,Nat.min_def,reduceIte,Nat.reduceSub,Nat.reduceAdd,Nat.reduceMul,KP_same,KP_f,condS_t,condS_f,pick_t,pick_f,gS_tt,gS_ff,gS_tf,gS_ft,gS_u,gP_tt,gP_ff,gP_tf,gP_ft,gP_u,ptrV_eq,slcV_eq,mapV_eq,cells_agg,cells_int,cells_bool,cells_ptr,cells_slice,oc_int,oc_bool,oc_slice,oc_ptr,rd1_set,rd1_ne,rdn_set,rdn_ne,Heap.set_same,set_ne,Heap.set_set,set_up,set_up2,set_up3,putAt,ceq,List.map_cons,List.map_nil,List.length_cons,List.length_nil,List.length_set,List.cons_append,List.nil_append,List.append_nil,List.replicate,List.size_toArray,List.all_cons,List.all_nil,Bool.and_self,Bool.and_true,List.drop_zero,List.drop_succ_cons,List.take_succ_cons,List.take_zero,List.set_cons_zero,List.set_cons_succ,List.getElem?_cons_zero,List.getElem?_cons_succ,Option.map_some,Option.map_none,ne_eq,not_false_eq_true,not_true_eq_false,gt_iff_lt,ge_iff_le,Int.one_mul,Nat.zero_add,Nat.zero_mul,Bool.not_true,Bool.not_false,Bool.false_eq_true,Bool.and_false,Bool.false_and,Bool.true_and, *]))
  refine Fin_mk (by (repeat' (first | exact Heap.Le.refl _ | (refine Le_fresh (by first | exact (by simp only [*]) | exact (by simp [set_none', *])) ?_) | (refine Heap.Le.trans ?_ (Grow.le (by assumption)))))) (key _ ?_)
  have hX := hXX
  have x1 : X / 256 % 256 = b1 := by omega
  have x2 : X / 65536 % 256 = b2 := by omega
  have x3 : X / 16777216 % 256 = b3 := by omega
  have x9 : X % 256 = b0 := by omega
  clear hX hXX
  simp [V4, unp, chan, x9, x1, x2, x3]
theorem c_Unpack2 (a : Option Addr) (c : Nat) (b0 b1 X : Int) (hX : X = b0 + b1 * 256) (hb0 : 0 ≤ b0 ∧ b0 ≤ 255) (hb1 : 0 ≤ b1 ∧ b1 ≤ 255) (hA : IntsAt w0 H .u8 a [b0, b1]) (h : K (.tuple #[V4 (unp 2 X), .int .i64 0]) H) : HCalls Try.prog w0 53 [.int .i64 2, .slice a 2 c] H K := by
  have key : ∀ v, v = .tuple #[V4 (unp 2 X), .int .i64 0] → K v H := fun v e => by subst e; exact h
  clear h
  obtain ⟨b, o, rfl, hr, hf⟩ := hA (by simp)
  have r0 := hr 0 (by simp)
  have r1 := hr 1 (by simp)
  simp only [Nat.add_zero, List.getD, List.getElem?_cons_zero, List.getElem?_cons_succ, Option.getD_some] at r0 r1
  clear hr hA
  have z0 : bitsI .or .u32 0 b0 = b0 := by have := or_shift 0 b0 0 (by omega) (by omega) (by omega) (by omega); simp at this; rw [this]
  have z1 : bitsI .or .u32 (b0) (b1 * 256) = X := by have := or_shift (b0) b1 8 (by omega) (by omega) (by omega) (by omega); simp at this; rw [this]; omega
  have u0 : IntKind.u32.wrap b0 = b0 := Bu.2.1 _ (by omega) (by omega)
  have v0 : IntKind.u32.wrap (b0 * 1) = b0 := by rw [Int.mul_one]; exact u0
  have u1 : IntKind.u32.wrap b1 = b1 := Bu.2.1 _ (by omega) (by omega)
  have v1 : IntKind.u32.wrap (b1 * 256) = b1 * 256 := Bu.2.1 _ (by omega) (by omega)
  have f11 : X.fdiv 2048 = X / 2048 := Int.fdiv_eq_ediv_of_nonneg _ (by omega)
  have m11 : bitsI .and .u32 (X / 2048) 31 = X / 2048 % 32 := by have := and_mask (X / 2048) 5 (by omega) (by omega) (by omega); simpa using this
  have f5 : X.fdiv 32 = X / 32 := Int.fdiv_eq_ediv_of_nonneg _ (by omega)
  have m5 : bitsI .and .u32 (X / 32) 63 = X / 32 % 64 := by have := and_mask (X / 32) 6 (by omega) (by omega) (by omega); simpa using this
  have f0 : X.fdiv 1 = X / 1 := Int.fdiv_eq_ediv_of_nonneg _ (by omega)
  have m0 : bitsI .and .u32 (X / 1) 31 = X / 1 % 32 := by have := and_mask (X / 1) 5 (by omega) (by omega) (by omega); simpa using this
  have hXb : 0 ≤ X ∧ X < 4294967296 := by omega
  clear hX
  refine HL.hc k53 999 ?_; unfold M53
  (all_goals (try simp only [Sh,Si,Sl,Bu,Bb,Bd,Bc,Bw,Bn,Int.reduceAdd,Int.reduceSub,Int.reduceMul,Int.reduceTDiv,Int.reduceTMod,Int.reduceMod,Int.reduceDiv,Nat.reduceLT,Nat.reduceEqDiff,decide_true,decide_false,Sa,Sb,Sc,Sd,Se,Sf,Sg,true_and,and_true,and_self,eq_self,b_i64,b_i32,b_u64,b_u32,b_u8,Int.reduceLE,Int.reduceLT,Int.reduceToNat,Int.reduceNeg,Int.reduceEq,Nat.reduceLeDiff,Nat.reducePow,Int.reducePow,Nat.min_def,reduceIte,Nat.reduceSub,Nat.reduceAdd,Nat.reduceMul,KP_same,KP_f,condS_t,condS_f,pick_t,pick_f,gS_tt,gS_ff,gS_tf,gS_ft,gS_u,gP_tt,gP_ff,gP_tf,gP_ft,gP_u,ptrV_eq,slcV_eq,mapV_eq,cells_agg,cells_int,cells_bool,cells_ptr,cells_slice,oc_int,oc_bool,oc_slice,oc_ptr,rd1_set,rd1_ne,rdn_set,rdn_ne,Heap.set_same,set_ne,Heap.set_set,set_up,set_up2,set_up3,putAt,ceq,List.map_cons,List.map_nil,List.length_cons,List.length_nil,List.length_set,List.cons_append,List.nil_append,List.append_nil,List.replicate,List.size_toArray,List.all_cons,List.all_nil,Bool.and_self,Bool.and_true,List.drop_zero,List.drop_succ_cons,List.take_succ_cons,List.take_zero,List.set_cons_zero,List.set_cons_succ,List.getElem?_cons_zero,List.getElem?_cons_succ,Option.map_some,Option.map_none,ne_eq,not_false_eq_true,not_true_eq_false,gt_iff_lt,ge_iff_le,Int.one_mul,Nat.zero_add,Nat.zero_mul,Bool.not_true,Bool.not_false,Bool.false_eq_true,Bool.and_false,Bool.false_and,Bool.true_and, *])); repeat' ((first | (with_reducible refine fun _ : True => ?_) | (with_reducible refine any_h ?_) | ((first | refine AllocQ_i ?_ | refine AllocO_i ?_); intro bk hb0 hbk; try simp only [set_none'] at hbk) | ((first | refine condS_i ?_ ?_ | refine pick_i ?_ ?_ | refine gS_it ?_ ?_ | refine gS_if ?_ ?_ | refine gP_it ?_ ?_ | refine gP_if ?_ ?_) <;> (intro hc; try simp only [Int.reduceLE,Int.reduceLT,Int.reduceEq,and_self,not_true_eq_false,not_false_eq_true,and_true,true_and,false_and,and_false,true_or,or_true,false_or,or_false,decide_eq_true_eq,decide_eq_false_iff_not,beq_iff_eq,beq_eq_false_iff_ne,bne_iff_ne,ne_eq,gt_iff_lt,ge_iff_le,Bool.not_eq_true,Bool.not_eq_false,Bool.not_eq_true',Bool.not_eq_false',Bool.not_eq_eq_eq_not,Bool.not_true,Bool.not_false] at hc)) | (refine KP_i (by (repeat' (first | exact Heap.Le.refl _ | (refine Le_fresh (by first | exact (by simp only [*]) | exact (by simp [set_none', *])) ?_) | (refine Heap.Le.trans ?_ (Grow.le (by assumption)))))) ?_) | (with_reducible refine And.intro ?_ ?_)) <;> (try simp only [Sh,Si,Sl,Bu,Bb,Bd,Bc,Bw,Bn,Int.reduceAdd,Int.reduceSub,Int.reduceMul,Int.reduceTDiv,Int.reduceTMod,Int.reduceMod,Int.reduceDiv,Nat.reduceLT,Nat.reduceEqDiff,decide_true,decide_false,Sa,Sb,Sc,Sd,Se,Sf,Sg,true_and,and_true,and_self,eq_self,b_i64,b_i32,b_u64,b_u32,b_u8,Int.reduceLE,Int.reduceLT,Int.reduceToNat,Int.reduceNeg,Int.reduceEq,Nat.reduceLeDiff,Nat.reducePow,Int.reducePow,Nat.min_def,reduceIte,Nat.reduceSub,Nat.reduceAdd,Nat.reduceMul,KP_same,KP_f,condS_t,condS_f,pick_t,pick_f,gS_tt,gS_ff,gS_tf,gS_ft,gS_u,gP_tt,gP_ff,gP_tf,gP_ft,gP_u,ptrV_eq,slcV_eq,mapV_eq,cells_agg,cells_int,cells_bool,cells_ptr,cells_slice,oc_int,oc_bool,oc_slice,oc_ptr,rd1_set,rd1_ne,rdn_set,rdn_ne,Heap.set_same,set_ne,Heap.set_set,set_up,set_up2,set_up3,putAt,ceq,List.map_cons,List.map_nil,List.length_cons,List.length_nil,List.length_set,List.cons_append,List.nil_append,List.append_nil,List.replicate,List.size_toArray,List.all_cons,List.all_nil,Bool.and_self,Bool.and_true,List.drop_zero,List.drop_succ_cons,List.take_succ_cons,List.take_zero,List.set_cons_zero,List.set_cons_succ,List.getElem?_cons_zero,List.getElem?_cons_succ,Option.map_some,Option.map_none,ne_eq,not_false_eq_true,not_true_eq_false,gt_iff_lt,ge_iff_le,Int.one_mul,Nat.zero_add,Nat.zero_mul,Bool.not_true,Bool.not_false,Bool.false_eq_true,Bool.and_false,Bool.false_and,Bool.true_and, *]))
  refine c_find2 (fun bc H' g nc kc => ?_)
  have kb := g.some (b := bk) (by simp only [Heap.set_same, set_ne, ne_eq, not_false_eq_true, *] <;> rfl)
  have hbc : bk ≠ bc := fun e => by rw [e, kc] at kb; cases kb
  have hcb := hbc.symm
  have g1 : Grow w0 H H' := Grow.trans (by (repeat' (first | exact Grow.refl _ | assumption | (refine Grow.set ?_ (by assumption) (by first | exact (by simp only [*]) | exact (by simp [set_none', *]) | exact Grow.none (by assumption) (by simp [set_none', *]))) | (refine Grow.trans ?_ (by assumption))))) g
  have hf1 : bk ≠ b := hf _ hb0 hbk
  have nc2 := (Heap.set_none.1 nc).2
  have hf2 : bc ≠ b := by
    rcases Classical.em (w0.heap.size ≤ bc) with hs | hs
    · exact hf _ hs nc2
    · intro e
      rcases g1 bc with e1 | ⟨e1, e2⟩
      · rw [nc2, kc] at e1; cases e1
      · exact hs e2
  have hf3 : ∀ c, w0.heap.size ≤ c → H' c = none → c ≠ b := fun c h1 h2 => hf c h1 (g1.none h2)
  have q0 := g1.rd1 r0
  have q1 := g1.rd1 r1
  clear r0 r1
  rw [root2 hbc kb kc]
  (all_goals (try simp only [Sh,Si,Sl,Bu,Bb,Bd,Bc,Bw,Bn,Int.reduceAdd,Int.reduceSub,Int.reduceMul,Int.reduceTDiv,Int.reduceTMod,Int.reduceMod,Int.reduceDiv,Nat.reduceLT,Nat.reduceEqDiff,decide_true,decide_false,Sa,Sb,Sc,Sd,Se,Sf,Sg,true_and,and_true,and_self,eq_self,b_i64,b_i32,b_u64,b_u32,b_u8,Int.reduceLE,Int.reduceLT,Int.reduceToNat,Int.reduceNeg,Int.reduceEq,Nat.reduceLeDiff,Nat.reducePow,Int.reducePow,Nat.min_def,reduceIte,Nat.reduceSub,Nat.reduceAdd,Nat.reduceMul,KP_same,KP_f,condS_t,condS_f,pick_t,pick_f,gS_tt,gS_ff,gS_tf,gS_ft,gS_u,gP_tt,gP_ff,gP_tf,gP_ft,gP_u,ptrV_eq,slcV_eq,mapV_eq,cells_agg,cells_int,cells_bool,cells_ptr,cells_slice,oc_int,oc_bool,oc_slice,oc_ptr,rd1_set,rd1_ne,rdn_set,rdn_ne,Heap.set_same,set_ne,Heap.set_set,set_up,set_up2,set_up3,putAt,ceq,List.map_cons,List.map_nil,List.length_cons,List.length_nil,List.length_set,List.cons_append,List.nil_append,List.append_nil,List.replicate,List.size_toArray,List.all_cons,List.all_nil,Bool.and_self,Bool.and_true,List.drop_zero,List.drop_succ_cons,List.take_succ_cons,List.take_zero,List.set_cons_zero,List.set_cons_succ,List.getElem?_cons_zero,List.getElem?_cons_succ,Option.map_some,Option.map_none,ne_eq,not_false_eq_true,not_true_eq_false,gt_iff_lt,ge_iff_le,Int.one_mul,Nat.zero_add,Nat.zero_mul,Bool.not_true,Bool.not_false,Bool.false_eq_true,Bool.and_false,Bool.false_and,Bool.true_and, *])); repeat' ((first | (with_reducible refine fun _ : True => ?_) | refine c_number (X / 2048 % 32) 5 (by simp) (by omega) (by omega) ?_ | refine c_number (X / 32 % 64) 6 (by simp) (by omega) (by omega) ?_ | refine c_number (X / 1 % 32) 5 (by simp) (by omega) (by omega) ?_ | refine c_grey _ ?_ | (with_reducible refine any_h ?_) | ((first | refine AllocQ_i ?_ | refine AllocO_i ?_); intro bk hb0 hbk; try simp only [set_none'] at hbk) | ((first | refine condS_i ?_ ?_ | refine pick_i ?_ ?_ | refine gS_it ?_ ?_ | refine gS_if ?_ ?_ | refine gP_it ?_ ?_ | refine gP_if ?_ ?_) <;> (intro hc; try simp only [Int.reduceLE,Int.reduceLT,Int.reduceEq,and_self,not_true_eq_false,not_false_eq_true,and_true,true_and,false_and,and_false,true_or,or_true,false_or,or_false,decide_eq_true_eq,decide_eq_false_iff_not,beq_iff_eq,beq_eq_false_iff_ne,bne_iff_ne,ne_eq,gt_iff_lt,ge_iff_le,Bool.not_eq_true,Bool.not_eq_false,Bool.not_eq_true',Bool.not_eq_false',Bool.not_eq_eq_eq_not,Bool.not_true,Bool.not_false] at hc)) | (refine KP_i (by (repeat' (first | exact Heap.Le.refl _ | (refine Le_fresh (by first | exact (by simp only [*]) | exact (by simp [set_none', *])) ?_) | (refine Heap.Le.trans ?_ (Grow.le (by assumption)))))) ?_) | (with_reducible refine loop_u ?_) | (with_reducible refine And.intro ?_ ?_)) <;> (try simp only [Sh,Si,Sl,Bu,Bb,Bd,Bc,Bw,Bn,Int.reduceAdd,Int.reduceSub,Int.reduceMul,Int.reduceTDiv,Int.reduceTMod,Int.reduceMod,Int.reduceDiv,Nat.reduceLT,Nat.reduceEqDiff,decide_true,decide_false,Sa,Sb,Sc,Sd,Se,Sf,Sg,true_and,and_true,and_self,eq_self,b_i64,b_i32,b_u64,b_u32,b_u8,Int.reduceLE,Int.reduceLT,Int.reduceToNat,Int.reduceNeg,Int.reduceEq,Nat.reduceLeDiff,Nat.reducePow,Int.reducePow,Nat.min_def,reduceIte,Nat.reduceSub,Nat.reduceAdd,Nat.reduceMul,KP_same,KP_f,condS_t,condS_f,pick_t,pick_f,gS_tt,gS_ff,gS_tf,gS_ft,gS_u,gP_tt,gP_ff,gP_tf,gP_ft,gP_u,ptrV_eq,slcV_eq,mapV_eq,cells_agg,cells_int,cells_bool,cells_ptr,cells_slice,oc_int,oc_bool,oc_slice,oc_ptr,rd1_set,rd1_ne,rdn_set,rdn_ne,Heap.set_same,set_ne,Heap.set_set,set_up,set_up2,set_up3,putAt,ceq,List.map_cons,List.map_nil,List.length_cons,List.length_nil,List.length_set,List.cons_append,List.nil_append,List.append_nil,List.replicate,List.size_toArray,List.all_cons,List.all_nil,Bool.and_self,Bool.and_true,List.drop_zero,List.drop_succ_cons,List.take_succ_cons,List.take_zero,List.set_cons_zero,List.set_cons_succ,List.getElem?_cons_zero,List.getElem?_cons_succ,Option.map_some,Option.map_none,ne_eq,not_false_eq_true,not_true_eq_false,gt_iff_lt,ge_iff_le,Int.one_mul,Nat.zero_add,Nat.zero_mul,Bool.not_true,Bool.not_false,Bool.false_eq_true,Bool.and_false,Bool.false_and,Bool.true_and, *]))
  refine Fin_mk (by (repeat' (first | exact g1.le | (refine Le_fresh (by first | exact nc2 | exact (by simp only [*]) | exact Grow.none g1 (by simp only [*])) ?_)))) (key _ ?_)
  simp [V4, unp, chan]
theorem r_Unpack2 (a : Option Addr) (c : Nat) (b0 b1 X : Int) (hX : X = b0 + b1 * 256) (hb0 : 0 ≤ b0 ∧ b0 ≤ 255) (hb1 : 0 ≤ b1 ∧ b1 ≤ 255) (hA : IntsAt w0 H .u8 a [b0, b1]) (h : K (V4 (unp 2 X)) H) : HCalls Try.prog w0 42 [.int .i64 2, .slice a 2 c] H K := by
  have key : ∀ v, v = V4 (unp 2 X) → K v H := fun v e => by subst e; exact h
  clear h
  obtain ⟨b, o, rfl, hr, hf⟩ := hA (by simp)
  have r0 := hr 0 (by simp)
  have r1 := hr 1 (by simp)
  simp only [Nat.add_zero, List.getD, List.getElem?_cons_zero, List.getElem?_cons_succ, Option.getD_some] at r0 r1
  clear hr hA
  have u0 : IntKind.u32.wrap b0 = b0 := Bu.2.1 _ (by omega) (by omega)
  have y0 : IntKind.u64.wrap b0 = b0 := Bu.1 _ (by omega) (by omega)
  have u1 : IntKind.u32.wrap b1 = b1 := Bu.2.1 _ (by omega) (by omega)
  have y1 : IntKind.u64.wrap b1 = b1 := Bu.1 _ (by omega) (by omega)
  have y2 : IntKind.u64.wrap (b1 * 256) = b1 * 256 := Bu.1 _ (by omega) (by omega)
  have y3 : IntKind.u64.wrap (b1 * 256 + b0) = X := by rw [Bu.1 _ (by omega) (by omega)]; omega
  have y4 : IntKind.i64.wrap X = X := Bw.1 _ (by omega) (by omega)
  have y5 : IntKind.u64.wrap (0 + b1) = b1 := by rw [Int.zero_add]; exact y1
  have p2 : (X).tmod 32 = X % 32 := Int.tmod_eq_emod_of_nonneg (by omega)
  have s2 : IntKind.u32.wrap (X % 32) = X % 32 := Bu.2.1 _ (by omega) (by omega)
  have d2 : IntKind.i64.wrap ((X).tdiv 32) = X / 32 := by rw [Int.tdiv_eq_ediv_of_nonneg (by omega), Bw.1 _ (by omega) (by omega)]; try omega
  have p1 : ((X / 32)).tmod 64 = (X / 32) % 64 := Int.tmod_eq_emod_of_nonneg (by omega)
  have s1 : IntKind.u32.wrap ((X / 32) % 64) = (X / 32) % 64 := Bu.2.1 _ (by omega) (by omega)
  have d1 : IntKind.i64.wrap (((X / 32)).tdiv 64) = X / 2048 := by rw [Int.tdiv_eq_ediv_of_nonneg (by omega), Bw.1 _ (by omega) (by omega)]; try omega
  have p0 : ((X / 2048)).tmod 32 = (X / 2048) % 32 := Int.tmod_eq_emod_of_nonneg (by omega)
  have s0 : IntKind.u32.wrap ((X / 2048) % 32) = (X / 2048) % 32 := Bu.2.1 _ (by omega) (by omega)
  have d0 : IntKind.i64.wrap (((X / 2048)).tdiv 32) = X / 65536 := by rw [Int.tdiv_eq_ediv_of_nonneg (by omega), Bw.1 _ (by omega) (by omega)]; try omega
  have hXb : 0 ≤ X ∧ X < 4294967296 := by omega
  clear hX
  have hw : ∀ (H : Heap) (K : Value → Heap → Prop), K (.agg #[.int .i64 5, .int .i64 6, .int .i64 5, .int .i64 0]) H → HCalls Try.prog w0 56 [.int .i64 2] H K := fun H K h => by
    refine HL.hc k56 999 ?_; unfold M56
    (all_goals (try simp only [Sh,Si,Sl,Bu,Bb,Bd,Bc,Bw,Bn,Int.reduceAdd,Int.reduceSub,Int.reduceMul,Int.reduceTDiv,Int.reduceTMod,Int.reduceMod,Int.reduceDiv,Nat.reduceLT,Nat.reduceEqDiff,decide_true,decide_false,Sa,Sb,Sc,Sd,Se,Sf,Sg,true_and,and_true,and_self,eq_self,b_i64,b_i32,b_u64,b_u32,b_u8,Int.reduceLE,Int.reduceLT,Int.reduceToNat,Int.reduceNeg,Int.reduceEq,Nat.reduceLeDiff,Nat.reducePow,Int.reducePow,Nat.min_def,reduceIte,Nat.reduceSub,Nat.reduceAdd,Nat.reduceMul,KP_same,KP_f,condS_t,condS_f,pick_t,pick_f,gS_tt,gS_ff,gS_tf,gS_ft,gS_u,gP_tt,gP_ff,gP_tf,gP_ft,gP_u,ptrV_eq,slcV_eq,mapV_eq,cells_agg,cells_int,cells_bool,cells_ptr,cells_slice,oc_int,oc_bool,oc_slice,oc_ptr,rd1_set,rd1_ne,rdn_set,rdn_ne,Heap.set_same,set_ne,Heap.set_set,set_up,set_up2,set_up3,putAt,ceq,List.map_cons,List.map_nil,List.length_cons,List.length_nil,List.length_set,List.cons_append,List.nil_append,List.append_nil,List.replicate,List.size_toArray,List.all_cons,List.all_nil,Bool.and_self,Bool.and_true,List.drop_zero,List.drop_succ_cons,List.take_succ_cons,List.take_zero,List.set_cons_zero,List.set_cons_succ,List.getElem?_cons_zero,List.getElem?_cons_succ,Option.map_some,Option.map_none,ne_eq,not_false_eq_true,not_true_eq_false,gt_iff_lt,ge_iff_le,Int.one_mul,Nat.zero_add,Nat.zero_mul,Bool.not_true,Bool.not_false,Bool.false_eq_true,Bool.and_false,Bool.false_and,Bool.true_and, *])); repeat' ((first | (with_reducible refine fun _ : True => ?_) | (with_reducible refine any_h ?_) | ((first | refine AllocQ_i ?_ | refine AllocO_i ?_); intro bk hb0 hbk; try simp only [set_none'] at hbk) | ((first | refine condS_i ?_ ?_ | refine pick_i ?_ ?_ | refine gS_it ?_ ?_ | refine gS_if ?_ ?_ | refine gP_it ?_ ?_ | refine gP_if ?_ ?_) <;> (intro hc; try simp only [Int.reduceLE,Int.reduceLT,Int.reduceEq,and_self,not_true_eq_false,not_false_eq_true,and_true,true_and,false_and,and_false,true_or,or_true,false_or,or_false,decide_eq_true_eq,decide_eq_false_iff_not,beq_iff_eq,beq_eq_false_iff_ne,bne_iff_ne,ne_eq,gt_iff_lt,ge_iff_le,Bool.not_eq_true,Bool.not_eq_false,Bool.not_eq_true',Bool.not_eq_false',Bool.not_eq_eq_eq_not,Bool.not_true,Bool.not_false] at hc)) | (refine KP_i (by (repeat' (first | exact Heap.Le.refl _ | (refine Le_fresh (by first | exact (by simp only [*]) | exact (by simp [set_none', *])) ?_) | (refine Heap.Le.trans ?_ (Grow.le (by assumption)))))) ?_) | (with_reducible refine And.intro ?_ ?_)) <;> (try simp only [Sh,Si,Sl,Bu,Bb,Bd,Bc,Bw,Bn,Int.reduceAdd,Int.reduceSub,Int.reduceMul,Int.reduceTDiv,Int.reduceTMod,Int.reduceMod,Int.reduceDiv,Nat.reduceLT,Nat.reduceEqDiff,decide_true,decide_false,Sa,Sb,Sc,Sd,Se,Sf,Sg,true_and,and_true,and_self,eq_self,b_i64,b_i32,b_u64,b_u32,b_u8,Int.reduceLE,Int.reduceLT,Int.reduceToNat,Int.reduceNeg,Int.reduceEq,Nat.reduceLeDiff,Nat.reducePow,Int.reducePow,Nat.min_def,reduceIte,Nat.reduceSub,Nat.reduceAdd,Nat.reduceMul,KP_same,KP_f,condS_t,condS_f,pick_t,pick_f,gS_tt,gS_ff,gS_tf,gS_ft,gS_u,gP_tt,gP_ff,gP_tf,gP_ft,gP_u,ptrV_eq,slcV_eq,mapV_eq,cells_agg,cells_int,cells_bool,cells_ptr,cells_slice,oc_int,oc_bool,oc_slice,oc_ptr,rd1_set,rd1_ne,rdn_set,rdn_ne,Heap.set_same,set_ne,Heap.set_set,set_up,set_up2,set_up3,putAt,ceq,List.map_cons,List.map_nil,List.length_cons,List.length_nil,List.length_set,List.cons_append,List.nil_append,List.append_nil,List.replicate,List.size_toArray,List.all_cons,List.all_nil,Bool.and_self,Bool.and_true,List.drop_zero,List.drop_succ_cons,List.take_succ_cons,List.take_zero,List.set_cons_zero,List.set_cons_succ,List.getElem?_cons_zero,List.getElem?_cons_succ,Option.map_some,Option.map_none,ne_eq,not_false_eq_true,not_true_eq_false,gt_iff_lt,ge_iff_le,Int.one_mul,Nat.zero_add,Nat.zero_mul,Bool.not_true,Bool.not_false,Bool.false_eq_true,Bool.and_false,Bool.false_and,Bool.true_and, *]))
    exact Fin_mk (by (repeat' (first | exact Heap.Le.refl _ | (refine Le_fresh (by first | exact (by simp only [*]) | exact (by simp [set_none', *])) ?_) | (refine Heap.Le.trans ?_ (Grow.le (by assumption)))))) h
  have hn : ∀ (H : Heap) (K : Value → Heap → Prop), rd1 w0 H b o = some (.int .u8 b0) → rd1 w0 H b (o + 1) = some (.int .u8 b1) → K (.int .u64 X) H → HCalls Try.prog w0 55 [.slice (some ⟨b, o, none⟩) 2 c] H K := fun H K r0 r1 h => by
    refine HL.hc k55 999 ?_; unfold M55
    (all_goals (try simp only [Sh,Si,Sl,Bu,Bb,Bd,Bc,Bw,Bn,Int.reduceAdd,Int.reduceSub,Int.reduceMul,Int.reduceTDiv,Int.reduceTMod,Int.reduceMod,Int.reduceDiv,Nat.reduceLT,Nat.reduceEqDiff,decide_true,decide_false,Sa,Sb,Sc,Sd,Se,Sf,Sg,true_and,and_true,and_self,eq_self,b_i64,b_i32,b_u64,b_u32,b_u8,Int.reduceLE,Int.reduceLT,Int.reduceToNat,Int.reduceNeg,Int.reduceEq,Nat.reduceLeDiff,Nat.reducePow,Int.reducePow,Nat.min_def,reduceIte,Nat.reduceSub,Nat.reduceAdd,Nat.reduceMul,KP_same,KP_f,condS_t,condS_f,pick_t,pick_f,gS_tt,gS_ff,gS_tf,gS_ft,gS_u,gP_tt,gP_ff,gP_tf,gP_ft,gP_u,ptrV_eq,slcV_eq,mapV_eq,cells_agg,cells_int,cells_bool,cells_ptr,cells_slice,oc_int,oc_bool,oc_slice,oc_ptr,rd1_set,rd1_ne,rdn_set,rdn_ne,Heap.set_same,set_ne,Heap.set_set,set_up,set_up2,set_up3,putAt,ceq,List.map_cons,List.map_nil,List.length_cons,List.length_nil,List.length_set,List.cons_append,List.nil_append,List.append_nil,List.replicate,List.size_toArray,List.all_cons,List.all_nil,Bool.and_self,Bool.and_true,List.drop_zero,List.drop_succ_cons,List.take_succ_cons,List.take_zero,List.set_cons_zero,List.set_cons_succ,List.getElem?_cons_zero,List.getElem?_cons_succ,Option.map_some,Option.map_none,ne_eq,not_false_eq_true,not_true_eq_false,gt_iff_lt,ge_iff_le,Int.one_mul,Nat.zero_add,Nat.zero_mul,Bool.not_true,Bool.not_false,Bool.false_eq_true,Bool.and_false,Bool.false_and,Bool.true_and, *])); repeat' ((first | (with_reducible refine fun _ : True => ?_) | (with_reducible refine any_h ?_) | ((first | refine AllocQ_i ?_ | refine AllocO_i ?_); intro bk hb0 hbk; try simp only [set_none'] at hbk) | ((first | refine condS_i ?_ ?_ | refine pick_i ?_ ?_ | refine gS_it ?_ ?_ | refine gS_if ?_ ?_ | refine gP_it ?_ ?_ | refine gP_if ?_ ?_) <;> (intro hc; try simp only [Int.reduceLE,Int.reduceLT,Int.reduceEq,and_self,not_true_eq_false,not_false_eq_true,and_true,true_and,false_and,and_false,true_or,or_true,false_or,or_false,decide_eq_true_eq,decide_eq_false_iff_not,beq_iff_eq,beq_eq_false_iff_ne,bne_iff_ne,ne_eq,gt_iff_lt,ge_iff_le,Bool.not_eq_true,Bool.not_eq_false,Bool.not_eq_true',Bool.not_eq_false',Bool.not_eq_eq_eq_not,Bool.not_true,Bool.not_false] at hc)) | (refine KP_i (by (repeat' (first | exact Heap.Le.refl _ | (refine Le_fresh (by first | exact (by simp only [*]) | exact (by simp [set_none', *])) ?_) | (refine Heap.Le.trans ?_ (Grow.le (by assumption)))))) ?_) | (with_reducible refine loop_u ?_) | (with_reducible refine And.intro ?_ ?_)) <;> (try simp only [Sh,Si,Sl,Bu,Bb,Bd,Bc,Bw,Bn,Int.reduceAdd,Int.reduceSub,Int.reduceMul,Int.reduceTDiv,Int.reduceTMod,Int.reduceMod,Int.reduceDiv,Nat.reduceLT,Nat.reduceEqDiff,decide_true,decide_false,Sa,Sb,Sc,Sd,Se,Sf,Sg,true_and,and_true,and_self,eq_self,b_i64,b_i32,b_u64,b_u32,b_u8,Int.reduceLE,Int.reduceLT,Int.reduceToNat,Int.reduceNeg,Int.reduceEq,Nat.reduceLeDiff,Nat.reducePow,Int.reducePow,Nat.min_def,reduceIte,Nat.reduceSub,Nat.reduceAdd,Nat.reduceMul,KP_same,KP_f,condS_t,condS_f,pick_t,pick_f,gS_tt,gS_ff,gS_tf,gS_ft,gS_u,gP_tt,gP_ff,gP_tf,gP_ft,gP_u,ptrV_eq,slcV_eq,mapV_eq,cells_agg,cells_int,cells_bool,cells_ptr,cells_slice,oc_int,oc_bool,oc_slice,oc_ptr,rd1_set,rd1_ne,rdn_set,rdn_ne,Heap.set_same,set_ne,Heap.set_set,set_up,set_up2,set_up3,putAt,ceq,List.map_cons,List.map_nil,List.length_cons,List.length_nil,List.length_set,List.cons_append,List.nil_append,List.append_nil,List.replicate,List.size_toArray,List.all_cons,List.all_nil,Bool.and_self,Bool.and_true,List.drop_zero,List.drop_succ_cons,List.take_succ_cons,List.take_zero,List.set_cons_zero,List.set_cons_succ,List.getElem?_cons_zero,List.getElem?_cons_succ,Option.map_some,Option.map_none,ne_eq,not_false_eq_true,not_true_eq_false,gt_iff_lt,ge_iff_le,Int.one_mul,Nat.zero_add,Nat.zero_mul,Bool.not_true,Bool.not_false,Bool.false_eq_true,Bool.and_false,Bool.false_and,Bool.true_and, *]))
    exact Fin_mk (by (repeat' (first | exact Heap.Le.refl _ | (refine Le_fresh (by first | exact (by simp only [*]) | exact (by simp [set_none', *])) ?_) | (refine Heap.Le.trans ?_ (Grow.le (by assumption)))))) h
  have hR : ∀ (x y : Nat), x = y → x = y := fun _ _ h => h
  refine HL.hc k42 999 ?_; unfold M42
  (all_goals (try simp only [Sh,Si,Sl,Bu,Bb,Bd,Bc,Bw,Bn,Int.reduceAdd,Int.reduceSub,Int.reduceMul,Int.reduceTDiv,Int.reduceTMod,Int.reduceMod,Int.reduceDiv,Nat.reduceLT,Nat.reduceEqDiff,decide_true,decide_false,Sa,Sb,Sc,Sd,Se,Sf,Sg,true_and,and_true,and_self,eq_self,b_i64,b_i32,b_u64,b_u32,b_u8,Int.reduceLE,Int.reduceLT,Int.reduceToNat,Int.reduceNeg,Int.reduceEq,Nat.reduceLeDiff,Nat.reducePow,Int.reducePow,Nat.min_def,reduceIte,Nat.reduceSub,Nat.reduceAdd,Nat.reduceMul,KP_same,KP_f,condS_t,condS_f,pick_t,pick_f,gS_tt,gS_ff,gS_tf,gS_ft,gS_u,gP_tt,gP_ff,gP_tf,gP_ft,gP_u,ptrV_eq,slcV_eq,mapV_eq,cells_agg,cells_int,cells_bool,cells_ptr,cells_slice,oc_int,oc_bool,oc_slice,oc_ptr,rd1_set,rd1_ne,rdn_set,rdn_ne,Heap.set_same,set_ne,Heap.set_set,set_up,set_up2,set_up3,putAt,ceq,List.map_cons,List.map_nil,List.length_cons,List.length_nil,List.length_set,List.cons_append,List.nil_append,List.append_nil,List.replicate,List.size_toArray,List.all_cons,List.all_nil,Bool.and_self,Bool.and_true,List.drop_zero,List.drop_succ_cons,List.take_succ_cons,List.take_zero,List.set_cons_zero,List.set_cons_succ,List.getElem?_cons_zero,List.getElem?_cons_succ,Option.map_some,Option.map_none,ne_eq,not_false_eq_true,not_true_eq_false,gt_iff_lt,ge_iff_le,Int.one_mul,Nat.zero_add,Nat.zero_mul,Bool.not_true,Bool.not_false,Bool.false_eq_true,Bool.and_false,Bool.false_and,Bool.true_and, *])); repeat' ((first | (with_reducible refine fun _ : True => ?_) | refine hw _ _ ?_ | refine hn _ _ (by simp only [rd1_ne, set_ne, ne_eq, not_false_eq_true, *]) (by simp only [rd1_ne, set_ne, ne_eq, not_false_eq_true, *]) ?_ | refine x_P5 ?_ | refine x_P6 ?_ | refine r_number (X % 32) 5 (by simp) (by omega) (by omega) ?_ | refine r_number ((X / 32) % 64) 6 (by simp) (by omega) (by omega) ?_ | refine r_number ((X / 2048) % 32) 5 (by simp) (by omega) (by omega) ?_ | (with_reducible refine any_h ?_) | ((first | refine AllocQ_i ?_ | refine AllocO_i ?_); intro bk hb0 hbk; try simp only [set_none'] at hbk) | ((first | refine condS_i ?_ ?_ | refine pick_i ?_ ?_ | refine gS_it ?_ ?_ | refine gS_if ?_ ?_ | refine gP_it ?_ ?_ | refine gP_if ?_ ?_) <;> (intro hc; try simp only [Int.reduceLE,Int.reduceLT,Int.reduceEq,and_self,not_true_eq_false,not_false_eq_true,and_true,true_and,false_and,and_false,true_or,or_true,false_or,or_false,decide_eq_true_eq,decide_eq_false_iff_not,beq_iff_eq,beq_eq_false_iff_ne,bne_iff_ne,ne_eq,gt_iff_lt,ge_iff_le,Bool.not_eq_true,Bool.not_eq_false,Bool.not_eq_true',Bool.not_eq_false',Bool.not_eq_eq_eq_not,Bool.not_true,Bool.not_false] at hc)) | (refine KP_i (by (repeat' (first | exact Heap.Le.refl _ | (refine Le_fresh (by first | exact (by simp only [*]) | exact (by simp [set_none', *])) ?_) | (refine Heap.Le.trans ?_ (Grow.le (by assumption)))))) ?_) | (with_reducible refine loop_u ?_) | (with_reducible refine And.intro ?_ ?_)) <;> (try simp only [Sh,Si,Sl,Bu,Bb,Bd,Bc,Bw,Bn,Int.reduceAdd,Int.reduceSub,Int.reduceMul,Int.reduceTDiv,Int.reduceTMod,Int.reduceMod,Int.reduceDiv,Nat.reduceLT,Nat.reduceEqDiff,decide_true,decide_false,Sa,Sb,Sc,Sd,Se,Sf,Sg,true_and,and_true,and_self,eq_self,b_i64,b_i32,b_u64,b_u32,b_u8,Int.reduceLE,Int.reduceLT,Int.reduceToNat,Int.reduceNeg,Int.reduceEq,Nat.reduceLeDiff,Nat.reducePow,Int.reducePow,Nat.min_def,reduceIte,Nat.reduceSub,Nat.reduceAdd,Nat.reduceMul,KP_same,KP_f,condS_t,condS_f,pick_t,pick_f,gS_tt,gS_ff,gS_tf,gS_ft,gS_u,gP_tt,gP_ff,gP_tf,gP_ft,gP_u,ptrV_eq,slcV_eq,mapV_eq,cells_agg,cells_int,cells_bool,cells_ptr,cells_slice,oc_int,oc_bool,oc_slice,oc_ptr,rd1_set,rd1_ne,rdn_set,rdn_ne,Heap.set_same,set_ne,Heap.set_set,set_up,set_up2,set_up3,putAt,ceq,List.map_cons,List.map_nil,List.length_cons,List.length_nil,List.length_set,List.cons_append,List.nil_append,List.append_nil,List.replicate,List.size_toArray,List.all_cons,List.all_nil,Bool.and_self,Bool.and_true,List.drop_zero,List.drop_succ_cons,List.take_succ_cons,List.take_zero,List.set_cons_zero,List.set_cons_succ,List.getElem?_cons_zero,List.getElem?_cons_succ,Option.map_some,Option.map_none,ne_eq,not_false_eq_true,not_true_eq_false,gt_iff_lt,ge_iff_le,Int.one_mul,Nat.zero_add,Nat.zero_mul,Bool.not_true,Bool.not_false,Bool.false_eq_true,Bool.and_false,Bool.false_and,Bool.true_and, *]))
  refine Fin_mk (by (repeat' (first | exact Heap.Le.refl _ | (refine Le_fresh (by first | exact (by simp only [*]) | exact (by simp [set_none', *])) ?_) | (refine Heap.Le.trans ?_ (Grow.le (by assumption)))))) (key _ ?_)
  simp [V4, unp, chan]
theorem c_Unpack3 (a : Option Addr) (c : Nat) (b0 b1 X : Int) (hX : X = b0 + b1 * 256) (hb0 : 0 ≤ b0 ∧ b0 ≤ 255) (hb1 : 0 ≤ b1 ∧ b1 ≤ 255) (hA : IntsAt w0 H .u8 a [b0, b1]) (h : K (.tuple #[V4 (unp 3 X), .int .i64 0]) H) : HCalls Try.prog w0 53 [.int .i64 3, .slice a 2 c] H K := by
  have key : ∀ v, v = .tuple #[V4 (unp 3 X), .int .i64 0] → K v H := fun v e => by subst e; exact h
  clear h
  obtain ⟨b, o, rfl, hr, hf⟩ := hA (by simp)
  have r0 := hr 0 (by simp)
  have r1 := hr 1 (by simp)
  simp only [Nat.add_zero, List.getD, List.getElem?_cons_zero, List.getElem?_cons_succ, Option.getD_some] at r0 r1
  clear hr hA
  have z0 : bitsI .or .u32 0 b0 = b0 := by have := or_shift 0 b0 0 (by omega) (by omega) (by omega) (by omega); simp at this; rw [this]
  have z1 : bitsI .or .u32 (b0) (b1 * 256) = X := by have := or_shift (b0) b1 8 (by omega) (by omega) (by omega) (by omega); simp at this; rw [this]; omega
  have u0 : IntKind.u32.wrap b0 = b0 := Bu.2.1 _ (by omega) (by omega)
  have v0 : IntKind.u32.wrap (b0 * 1) = b0 := by rw [Int.mul_one]; exact u0
  have u1 : IntKind.u32.wrap b1 = b1 := Bu.2.1 _ (by omega) (by omega)
  have v1 : IntKind.u32.wrap (b1 * 256) = b1 * 256 := Bu.2.1 _ (by omega) (by omega)
  have f12 : X.fdiv 4096 = X / 4096 := Int.fdiv_eq_ediv_of_nonneg _ (by omega)
  have m12 : bitsI .and .u32 (X / 4096) 15 = X / 4096 % 16 := by have := and_mask (X / 4096) 4 (by omega) (by omega) (by omega); simpa using this
  have f8 : X.fdiv 256 = X / 256 := Int.fdiv_eq_ediv_of_nonneg _ (by omega)
  have m8 : bitsI .and .u32 (X / 256) 15 = X / 256 % 16 := by have := and_mask (X / 256) 4 (by omega) (by omega) (by omega); simpa using this
  have f4 : X.fdiv 16 = X / 16 := Int.fdiv_eq_ediv_of_nonneg _ (by omega)
  have m4 : bitsI .and .u32 (X / 16) 15 = X / 16 % 16 := by have := and_mask (X / 16) 4 (by omega) (by omega) (by omega); simpa using this
  have f0 : X.fdiv 1 = X / 1 := Int.fdiv_eq_ediv_of_nonneg _ (by omega)
  have m0 : bitsI .and .u32 (X / 1) 15 = X / 1 % 16 := by have := and_mask (X / 1) 4 (by omega) (by omega) (by omega); simpa using this
  have hXb : 0 ≤ X ∧ X < 4294967296 := by omega
  clear hX
  refine HL.hc k53 999 ?_; unfold M53
  (all_goals (try simp only [Sh,Si,Sl,Bu,Bb,Bd,Bc,Bw,Bn,Int.reduceAdd,Int.reduceSub,Int.reduceMul,Int.reduceTDiv,Int.reduceTMod,Int.reduceMod,Int.reduceDiv,Nat.reduceLT,Nat.reduceEqDiff,decide_true,decide_false,Sa,Sb,Sc,Sd,Se,Sf,Sg,true_and,and_true,and_self,eq_self,b_i64,b_i32,b_u64,b_u32,b_u8,Int.reduceLE,Int.reduceLT,Int.reduceToNat,Int.reduceNeg,Int.reduceEq,Nat.reduceLeDiff,Nat.reducePow,Int.reducePow,Nat.min_def,reduceIte,Nat.reduceSub,Nat.reduceAdd,Nat.reduceMul,KP_same,KP_f,condS_t,condS_f,pick_t,pick_f,gS_tt,gS_ff,gS_tf,gS_ft,gS_u,gP_tt,gP_ff,gP_tf,gP_ft,gP_u,ptrV_eq,slcV_eq,mapV_eq,cells_agg,cells_int,cells_bool,cells_ptr,cells_slice,oc_int,oc_bool,oc_slice,oc_ptr,rd1_set,rd1_ne,rdn_set,rdn_ne,Heap.set_same,set_ne,Heap.set_set,set_up,set_up2,set_up3,putAt,ceq,List.map_cons,List.map_nil,List.length_cons,List.length_nil,List.length_set,List.cons_append,List.nil_append,List.append_nil,List.replicate,List.size_toArray,List.all_cons,List.all_nil,Bool.and_self,Bool.and_true,List.drop_zero,List.drop_succ_cons,List.take_succ_cons,List.take_zero,List.set_cons_zero,List.set_cons_succ,List.getElem?_cons_zero,List.getElem?_cons_succ,Option.map_some,Option.map_none,ne_eq,not_false_eq_true,not_true_eq_false,gt_iff_lt,ge_iff_le,Int.one_mul,Nat.zero_add,Nat.zero_mul,Bool.not_true,Bool.not_false,Bool.false_eq_true,Bool.and_false,Bool.false_and,Bool.true_and, *])); repeat' ((first | (with_reducible refine fun _ : True => ?_) | (with_reducible refine any_h ?_) | ((first | refine AllocQ_i ?_ | refine AllocO_i ?_); intro bk hb0 hbk; try simp only [set_none'] at hbk) | ((first | refine condS_i ?_ ?_ | refine pick_i ?_ ?_ | refine gS_it ?_ ?_ | refine gS_if ?_ ?_ | refine gP_it ?_ ?_ | refine gP_if ?_ ?_) <;> (intro hc; try simp only [Int.reduceLE,Int.reduceLT,Int.reduceEq,and_self,not_true_eq_false,not_false_eq_true,and_true,true_and,false_and,and_false,true_or,or_true,false_or,or_false,decide_eq_true_eq,decide_eq_false_iff_not,beq_iff_eq,beq_eq_false_iff_ne,bne_iff_ne,ne_eq,gt_iff_lt,ge_iff_le,Bool.not_eq_true,Bool.not_eq_false,Bool.not_eq_true',Bool.not_eq_false',Bool.not_eq_eq_eq_not,Bool.not_true,Bool.not_false] at hc)) | (refine KP_i (by (repeat' (first | exact Heap.Le.refl _ | (refine Le_fresh (by first | exact (by simp only [*]) | exact (by simp [set_none', *])) ?_) | (refine Heap.Le.trans ?_ (Grow.le (by assumption)))))) ?_) | (with_reducible refine And.intro ?_ ?_)) <;> (try simp only [Sh,Si,Sl,Bu,Bb,Bd,Bc,Bw,Bn,Int.reduceAdd,Int.reduceSub,Int.reduceMul,Int.reduceTDiv,Int.reduceTMod,Int.reduceMod,Int.reduceDiv,Nat.reduceLT,Nat.reduceEqDiff,decide_true,decide_false,Sa,Sb,Sc,Sd,Se,Sf,Sg,true_and,and_true,and_self,eq_self,b_i64,b_i32,b_u64,b_u32,b_u8,Int.reduceLE,Int.reduceLT,Int.reduceToNat,Int.reduceNeg,Int.reduceEq,Nat.reduceLeDiff,Nat.reducePow,Int.reducePow,Nat.min_def,reduceIte,Nat.reduceSub,Nat.reduceAdd,Nat.reduceMul,KP_same,KP_f,condS_t,condS_f,pick_t,pick_f,gS_tt,gS_ff,gS_tf,gS_ft,gS_u,gP_tt,gP_ff,gP_tf,gP_ft,gP_u,ptrV_eq,slcV_eq,mapV_eq,cells_agg,cells_int,cells_bool,cells_ptr,cells_slice,oc_int,oc_bool,oc_slice,oc_ptr,rd1_set,rd1_ne,rdn_set,rdn_ne,Heap.set_same,set_ne,Heap.set_set,set_up,set_up2,set_up3,putAt,ceq,List.map_cons,List.map_nil,List.length_cons,List.length_nil,List.length_set,List.cons_append,List.nil_append,List.append_nil,List.replicate,List.size_toArray,List.all_cons,List.all_nil,Bool.and_self,Bool.and_true,List.drop_zero,List.drop_succ_cons,List.take_succ_cons,List.take_zero,List.set_cons_zero,List.set_cons_succ,List.getElem?_cons_zero,List.getElem?_cons_succ,Option.map_some,Option.map_none,ne_eq,not_false_eq_true,not_true_eq_false,gt_iff_lt,ge_iff_le,Int.one_mul,Nat.zero_add,Nat.zero_mul,Bool.not_true,Bool.not_false,Bool.false_eq_true,Bool.and_false,Bool.false_and,Bool.true_and, *]))
  refine c_find3 (fun bc H' g nc kc => ?_)
  have kb := g.some (b := bk) (by simp only [Heap.set_same, set_ne, ne_eq, not_false_eq_true, *] <;> rfl)
  have hbc : bk ≠ bc := fun e => by rw [e, kc] at kb; cases kb
  have hcb := hbc.symm
  have g1 : Grow w0 H H' := Grow.trans (by (repeat' (first | exact Grow.refl _ | assumption | (refine Grow.set ?_ (by assumption) (by first | exact (by simp only [*]) | exact (by simp [set_none', *]) | exact Grow.none (by assumption) (by simp [set_none', *]))) | (refine Grow.trans ?_ (by assumption))))) g
  have hf1 : bk ≠ b := hf _ hb0 hbk
  have nc2 := (Heap.set_none.1 nc).2
  have hf2 : bc ≠ b := by
    rcases Classical.em (w0.heap.size ≤ bc) with hs | hs
    · exact hf _ hs nc2
    · intro e
      rcases g1 bc with e1 | ⟨e1, e2⟩
      · rw [nc2, kc] at e1; cases e1
      · exact hs e2
  have hf3 : ∀ c, w0.heap.size ≤ c → H' c = none → c ≠ b := fun c h1 h2 => hf c h1 (g1.none h2)
  have q0 := g1.rd1 r0
  have q1 := g1.rd1 r1
  clear r0 r1
  rw [root2 hbc kb kc]
  (all_goals (try simp only [Sh,Si,Sl,Bu,Bb,Bd,Bc,Bw,Bn,Int.reduceAdd,Int.reduceSub,Int.reduceMul,Int.reduceTDiv,Int.reduceTMod,Int.reduceMod,Int.reduceDiv,Nat.reduceLT,Nat.reduceEqDiff,decide_true,decide_false,Sa,Sb,Sc,Sd,Se,Sf,Sg,true_and,and_true,and_self,eq_self,b_i64,b_i32,b_u64,b_u32,b_u8,Int.reduceLE,Int.reduceLT,Int.reduceToNat,Int.reduceNeg,Int.reduceEq,Nat.reduceLeDiff,Nat.reducePow,Int.reducePow,Nat.min_def,reduceIte,Nat.reduceSub,Nat.reduceAdd,Nat.reduceMul,KP_same,KP_f,condS_t,condS_f,pick_t,pick_f,gS_tt,gS_ff,gS_tf,gS_ft,gS_u,gP_tt,gP_ff,gP_tf,gP_ft,gP_u,ptrV_eq,slcV_eq,mapV_eq,cells_agg,cells_int,cells_bool,cells_ptr,cells_slice,oc_int,oc_bool,oc_slice,oc_ptr,rd1_set,rd1_ne,rdn_set,rdn_ne,Heap.set_same,set_ne,Heap.set_set,set_up,set_up2,set_up3,putAt,ceq,List.map_cons,List.map_nil,List.length_cons,List.length_nil,List.length_set,List.cons_append,List.nil_append,List.append_nil,List.replicate,List.size_toArray,List.all_cons,List.all_nil,Bool.and_self,Bool.and_true,List.drop_zero,List.drop_succ_cons,List.take_succ_cons,List.take_zero,List.set_cons_zero,List.set_cons_succ,List.getElem?_cons_zero,List.getElem?_cons_succ,Option.map_some,Option.map_none,ne_eq,not_false_eq_true,not_true_eq_false,gt_iff_lt,ge_iff_le,Int.one_mul,Nat.zero_add,Nat.zero_mul,Bool.not_true,Bool.not_false,Bool.false_eq_true,Bool.and_false,Bool.false_and,Bool.true_and, *])); repeat' ((first | (with_reducible refine fun _ : True => ?_) | refine c_number (X / 4096 % 16) 4 (by simp) (by omega) (by omega) ?_ | refine c_number (X / 256 % 16) 4 (by simp) (by omega) (by omega) ?_ | refine c_number (X / 16 % 16) 4 (by simp) (by omega) (by omega) ?_ | refine c_number (X / 1 % 16) 4 (by simp) (by omega) (by omega) ?_ | refine c_grey _ ?_ | (with_reducible refine any_h ?_) | ((first | refine AllocQ_i ?_ | refine AllocO_i ?_); intro bk hb0 hbk; try simp only [set_none'] at hbk) | ((first | refine condS_i ?_ ?_ | refine pick_i ?_ ?_ | refine gS_it ?_ ?_ | refine gS_if ?_ ?_ | refine gP_it ?_ ?_ | refine gP_if ?_ ?_) <;> (intro hc; try simp only [Int.reduceLE,Int.reduceLT,Int.reduceEq,and_self,not_true_eq_false,not_false_eq_true,and_true,true_and,false_and,and_false,true_or,or_true,false_or,or_false,decide_eq_true_eq,decide_eq_false_iff_not,beq_iff_eq,beq_eq_false_iff_ne,bne_iff_ne,ne_eq,gt_iff_lt,ge_iff_le,Bool.not_eq_true,Bool.not_eq_false,Bool.not_eq_true',Bool.not_eq_false',Bool.not_eq_eq_eq_not,Bool.not_true,Bool.not_false] at hc)) | (refine KP_i (by (repeat' (first | exact Heap.Le.refl _ | (refine Le_fresh (by first | exact (by simp only [*]) | exact (by simp [set_none', *])) ?_) | (refine Heap.Le.trans ?_ (Grow.le (by assumption)))))) ?_) | (with_reducible refine loop_u ?_) | (with_reducible refine And.intro ?_ ?_)) <;> (try simp only [Sh,Si,Sl,Bu,Bb,Bd,Bc,Bw,Bn,Int.reduceAdd,Int.reduceSub,Int.reduceMul,Int.reduceTDiv,Int.reduceTMod,Int.reduceMod,Int.reduceDiv,Nat.reduceLT,Nat.reduceEqDiff,decide_true,decide_false,Sa,Sb,Sc,Sd,Se,Sf,Sg,true_and,and_true,and_self,eq_self,b_i64,b_i32,b_u64,b_u32,b_u8,Int.reduceLE,Int.reduceLT,Int.reduceToNat,Int.reduceNeg,Int.reduceEq,Nat.reduceLeDiff,Nat.reducePow,Int.reducePow,Nat.min_def,reduceIte,Nat.reduceSub,Nat.reduceAdd,Nat.reduceMul,KP_same,KP_f,condS_t,condS_f,pick_t,pick_f,gS_tt,gS_ff,gS_tf,gS_ft,gS_u,gP_tt,gP_ff,gP_tf,gP_ft,gP_u,ptrV_eq,slcV_eq,mapV_eq,cells_agg,cells_int,cells_bool,cells_ptr,cells_slice,oc_int,oc_bool,oc_slice,oc_ptr,rd1_set,rd1_ne,rdn_set,rdn_ne,Heap.set_same,set_ne,Heap.set_set,set_up,set_up2,set_up3,putAt,ceq,List.map_cons,List.map_nil,List.length_cons,List.length_nil,List.length_set,List.cons_append,List.nil_append,List.append_nil,List.replicate,List.size_toArray,List.all_cons,List.all_nil,Bool.and_self,Bool.and_true,List.drop_zero,List.drop_succ_cons,List.take_succ_cons,List.take_zero,List.set_cons_zero,List.set_cons_succ,List.getElem?_cons_zero,List.getElem?_cons_succ,Option.map_some,Option.map_none,ne_eq,not_false_eq_true,not_true_eq_false,gt_iff_lt,ge_iff_le,Int.one_mul,Nat.zero_add,Nat.zero_mul,Bool.not_true,Bool.not_false,Bool.false_eq_true,Bool.and_false,Bool.false_and,Bool.true_and, *]))
  refine Fin_mk (by (repeat' (first | exact g1.le | (refine Le_fresh (by first | exact nc2 | exact (by simp only [*]) | exact Grow.none g1 (by simp only [*])) ?_)))) (key _ ?_)
  simp [V4, unp, chan]
theorem r_Unpack3 (a : Option Addr) (c : Nat) (b0 b1 X : Int) (hX : X = b0 + b1 * 256) (hb0 : 0 ≤ b0 ∧ b0 ≤ 255) (hb1 : 0 ≤ b1 ∧ b1 ≤ 255) (hA : IntsAt w0 H .u8 a [b0, b1]) (h : K (V4 (unp 3 X)) H) : HCalls Try.prog w0 42 [.int .i64 3, .slice a 2 c] H K := by
  have key : ∀ v, v = V4 (unp 3 X) → K v H := fun v e => by subst e; exact h
  clear h
  obtain ⟨b, o, rfl, hr, hf⟩ := hA (by simp)
  have r0 := hr 0 (by simp)
  have r1 := hr 1 (by simp)
  simp only [Nat.add_zero, List.getD, List.getElem?_cons_zero, List.getElem?_cons_succ, Option.getD_some] at r0 r1
  clear hr hA
  have u0 : IntKind.u32.wrap b0 = b0 := Bu.2.1 _ (by omega) (by omega)
  have y0 : IntKind.u64.wrap b0 = b0 := Bu.1 _ (by omega) (by omega)
  have u1 : IntKind.u32.wrap b1 = b1 := Bu.2.1 _ (by omega) (by omega)
  have y1 : IntKind.u64.wrap b1 = b1 := Bu.1 _ (by omega) (by omega)
  have y2 : IntKind.u64.wrap (b1 * 256) = b1 * 256 := Bu.1 _ (by omega) (by omega)
  have y3 : IntKind.u64.wrap (b1 * 256 + b0) = X := by rw [Bu.1 _ (by omega) (by omega)]; omega
  have y4 : IntKind.i64.wrap X = X := Bw.1 _ (by omega) (by omega)
  have y5 : IntKind.u64.wrap (0 + b1) = b1 := by rw [Int.zero_add]; exact y1
  have p3 : (X).tmod 16 = X % 16 := Int.tmod_eq_emod_of_nonneg (by omega)
  have s3 : IntKind.u32.wrap (X % 16) = X % 16 := Bu.2.1 _ (by omega) (by omega)
  have d3 : IntKind.i64.wrap ((X).tdiv 16) = X / 16 := by rw [Int.tdiv_eq_ediv_of_nonneg (by omega), Bw.1 _ (by omega) (by omega)]; try omega
  have p2 : ((X / 16)).tmod 16 = (X / 16) % 16 := Int.tmod_eq_emod_of_nonneg (by omega)
  have s2 : IntKind.u32.wrap ((X / 16) % 16) = (X / 16) % 16 := Bu.2.1 _ (by omega) (by omega)
  have d2 : IntKind.i64.wrap (((X / 16)).tdiv 16) = X / 256 := by rw [Int.tdiv_eq_ediv_of_nonneg (by omega), Bw.1 _ (by omega) (by omega)]; try omega
  have p1 : ((X / 256)).tmod 16 = (X / 256) % 16 := Int.tmod_eq_emod_of_nonneg (by omega)
  have s1 : IntKind.u32.wrap ((X / 256) % 16) = (X / 256) % 16 := Bu.2.1 _ (by omega) (by omega)
  have d1 : IntKind.i64.wrap (((X / 256)).tdiv 16) = X / 4096 := by rw [Int.tdiv_eq_ediv_of_nonneg (by omega), Bw.1 _ (by omega) (by omega)]; try omega
  have p0 : ((X / 4096)).tmod 16 = (X / 4096) % 16 := Int.tmod_eq_emod_of_nonneg (by omega)
  have s0 : IntKind.u32.wrap ((X / 4096) % 16) = (X / 4096) % 16 := Bu.2.1 _ (by omega) (by omega)
  have d0 : IntKind.i64.wrap (((X / 4096)).tdiv 16) = X / 65536 := by rw [Int.tdiv_eq_ediv_of_nonneg (by omega), Bw.1 _ (by omega) (by omega)]; try omega
  have hXb : 0 ≤ X ∧ X < 4294967296 := by omega
  clear hX
  have hw : ∀ (H : Heap) (K : Value → Heap → Prop), K (.agg #[.int .i64 4, .int .i64 4, .int .i64 4, .int .i64 4]) H → HCalls Try.prog w0 56 [.int .i64 3] H K := fun H K h => by
    refine HL.hc k56 999 ?_; unfold M56
    (all_goals (try simp only [Sh,Si,Sl,Bu,Bb,Bd,Bc,Bw,Bn,Int.reduceAdd,Int.reduceSub,Int.reduceMul,Int.reduceTDiv,Int.reduceTMod,Int.reduceMod,Int.reduceDiv,Nat.reduceLT,Nat.reduceEqDiff,decide_true,decide_false,Sa,Sb,Sc,Sd,Se,Sf,Sg,true_and,and_true,and_self,eq_self,b_i64,b_i32,b_u64,b_u32,b_u8,Int.reduceLE,Int.reduceLT,Int.reduceToNat,Int.reduceNeg,Int.reduceEq,Nat.reduceLeDiff,Nat.reducePow,Int.reducePow,Nat.min_def,reduceIte,Nat.reduceSub,Nat.reduceAdd,Nat.reduceMul,KP_same,KP_f,condS_t,condS_f,pick_t,pick_f,gS_tt,gS_ff,gS_tf,gS_ft,gS_u,gP_tt,gP_ff,gP_tf,gP_ft,gP_u,ptrV_eq,slcV_eq,mapV_eq,cells_agg,cells_int,cells_bool,cells_ptr,cells_slice,oc_int,oc_bool,oc_slice,oc_ptr,rd1_set,rd1_ne,rdn_set,rdn_ne,Heap.set_same,set_ne,Heap.set_set,set_up,set_up2,set_up3,putAt,ceq,List.map_cons,List.map_nil,List.length_cons,List.length_nil,List.length_set,List.cons_append,List.nil_append,List.append_nil,List.replicate,List.size_toArray,List.all_cons,List.all_nil,Bool.and_self,Bool.and_true,List.drop_zero,List.drop_succ_cons,List.take_succ_cons,List.take_zero,List.set_cons_zero,List.set_cons_succ,List.getElem?_cons_zero,List.getElem?_cons_succ,Option.map_some,Option.map_none,ne_eq,not_false_eq_true,not_true_eq_false,gt_iff_lt,ge_iff_le,Int.one_mul,Nat.zero_add,Nat.zero_mul,Bool.not_true,Bool.not_false,Bool.false_eq_true,Bool.and_false,Bool.false_and,Bool.true_and, *])); repeat' ((first | (with_reducible refine fun _ : True => ?_) | (with_reducible refine any_h ?_) | ((first | refine AllocQ_i ?_ | refine AllocO_i ?_); intro bk hb0 hbk; try simp only [set_none'] at hbk) | ((first | refine condS_i ?_ ?_ | refine pick_i ?_ ?_ | refine gS_it ?_ ?_ | refine gS_if ?_ ?_ | refine gP_it ?_ ?_ | refine gP_if ?_ ?_) <;> (intro hc; try simp only [Int.reduceLE,Int.reduceLT,Int.reduceEq,and_self,not_true_eq_false,not_false_eq_true,and_true,true_and,false_and,and_false,true_or,or_true,false_or,or_false,decide_eq_true_eq,decide_eq_false_iff_not,beq_iff_eq,beq_eq_false_iff_ne,bne_iff_ne,ne_eq,gt_iff_lt,ge_iff_le,Bool.not_eq_true,Bool.not_eq_false,Bool.not_eq_true',Bool.not_eq_false',Bool.not_eq_eq_eq_not,Bool.not_true,Bool.not_false] at hc)) | (refine KP_i (by (repeat' (first | exact Heap.Le.refl _ | (refine Le_fresh (by first | exact (by simp only [*]) | exact (by simp [set_none', *])) ?_) | (refine Heap.Le.trans ?_ (Grow.le (by assumption)))))) ?_) | (with_reducible refine And.intro ?_ ?_)) <;> (try simp only [Sh,Si,Sl,Bu,Bb,Bd,Bc,Bw,Bn,Int.reduceAdd,Int.reduceSub,Int.reduceMul,Int.reduceTDiv,Int.reduceTMod,Int.reduceMod,Int.reduceDiv,Nat.reduceLT,Nat.reduceEqDiff,decide_true,decide_false,Sa,Sb,Sc,Sd,Se,Sf,Sg,true_and,and_true,and_self,eq_self,b_i64,b_i32,b_u64,b_u32,b_u8,Int.reduceLE,Int.reduceLT,Int.reduceToNat,Int.reduceNeg,Int.reduceEq,Nat.reduceLeDiff,Nat.reducePow,Int.reducePow,Nat.min_def,reduceIte,Nat.reduceSub,Nat.reduceAdd,Nat.reduceMul,KP_same,KP_f,condS_t,condS_f,pick_t,pick_f,gS_tt,gS_ff,gS_tf,gS_ft,gS_u,gP_tt,gP_ff,gP_tf,gP_ft,gP_u,ptrV_eq,slcV_eq,mapV_eq,cells_agg,cells_int,cells_bool,cells_ptr,cells_slice,oc_int,oc_bool,oc_slice,oc_ptr,rd1_set,rd1_ne,rdn_set,rdn_ne,Heap.set_same,set_ne,Heap.set_set,set_up,set_up2,set_up3,putAt,ceq,List.map_cons,List.map_nil,List.length_cons,List.length_nil,List.length_set,List.cons_append,List.nil_append,List.append_nil,List.replicate,List.size_toArray,List.all_cons,List.all_nil,Bool.and_self,Bool.and_true,List.drop_zero,List.drop_succ_cons,List.take_succ_cons,List.take_zero,List.set_cons_zero,List.set_cons_succ,List.getElem?_cons_zero,List.getElem?_cons_succ,Option.map_some,Option.map_none,ne_eq,not_false_eq_true,not_true_eq_false,gt_iff_lt,ge_iff_le,Int.one_mul,Nat.zero_add,Nat.zero_mul,Bool.not_true,Bool.not_false,Bool.false_eq_true,Bool.and_false,Bool.false_and,Bool.true_and, *]))
    exact Fin_mk (by (repeat' (first | exact Heap.Le.refl _ | (refine Le_fresh (by first | exact (by simp only [*]) | exact (by simp [set_none', *])) ?_) | (refine Heap.Le.trans ?_ (Grow.le (by assumption)))))) h
  have hn : ∀ (H : Heap) (K : Value → Heap → Prop), rd1 w0 H b o = some (.int .u8 b0) → rd1 w0 H b (o + 1) = some (.int .u8 b1) → K (.int .u64 X) H → HCalls Try.prog w0 55 [.slice (some ⟨b, o, none⟩) 2 c] H K := fun H K r0 r1 h => by
    refine HL.hc k55 999 ?_; unfold M55
    (all_goals (try simp only [Sh,Si,Sl,Bu,Bb,Bd,Bc,Bw,Bn,Int.reduceAdd,Int.reduceSub,Int.reduceMul,Int.reduceTDiv,Int.reduceTMod,Int.reduceMod,Int.reduceDiv,Nat.reduceLT,Nat.reduceEqDiff,decide_true,decide_false,Sa,Sb,Sc,Sd,Se,Sf,Sg,true_and,and_true,and_self,eq_self,b_i64,b_i32,b_u64,b_u32,b_u8,Int.reduceLE,Int.reduceLT,Int.reduceToNat,Int.reduceNeg,Int.reduceEq,Nat.reduceLeDiff,Nat.reducePow,Int.reducePow,Nat.min_def,reduceIte,Nat.reduceSub,Nat.reduceAdd,Nat.reduceMul,KP_same,KP_f,condS_t,condS_f,pick_t,pick_f,gS_tt,gS_ff,gS_tf,gS_ft,gS_u,gP_tt,gP_ff,gP_tf,gP_ft,gP_u,ptrV_eq,slcV_eq,mapV_eq,cells_agg,cells_int,cells_bool,cells_ptr,cells_slice,oc_int,oc_bool,oc_slice,oc_ptr,rd1_set,rd1_ne,rdn_set,rdn_ne,Heap.set_same,set_ne,Heap.set_set,set_up,set_up2,set_up3,putAt,ceq,List.map_cons,List.map_nil,List.length_cons,List.length_nil,List.length_set,List.cons_append,List.nil_append,List.append_nil,List.replicate,List.size_toArray,List.all_cons,List.all_nil,Bool.and_self,Bool.and_true,List.drop_zero,List.drop_succ_cons,List.take_succ_cons,List.take_zero,List.set_cons_zero,List.set_cons_succ,List.getElem?_cons_zero,List.getElem?_cons_succ,Option.map_some,Option.map_none,ne_eq,not_false_eq_true,not_true_eq_false,gt_iff_lt,ge_iff_le,Int.one_mul,Nat.zero_add,Nat.zero_mul,Bool.not_true,Bool.not_false,Bool.false_eq_true,Bool.and_false,Bool.false_and,Bool.true_and, *])); repeat' ((first | (with_reducible refine fun _ : True => ?_) | (with_reducible refine any_h ?_) | ((first | refine AllocQ_i ?_ | refine AllocO_i ?_); intro bk hb0 hbk; try simp only [set_none'] at hbk) | ((first | refine condS_i ?_ ?_ | refine pick_i ?_ ?_ | refine gS_it ?_ ?_ | refine gS_if ?_ ?_ | refine gP_it ?_ ?_ | refine gP_if ?_ ?_) <;> (intro hc; try simp only [Int.reduceLE,Int.reduceLT,Int.reduceEq,and_self,not_true_eq_false,not_false_eq_true,and_true,true_and,false_and,and_false,true_or,or_true,false_or,or_false,decide_eq_true_eq,decide_eq_false_iff_not,beq_iff_eq,beq_eq_false_iff_ne,bne_iff_ne,ne_eq,gt_iff_lt,ge_iff_le,Bool.not_eq_true,Bool.not_eq_false,Bool.not_eq_true',Bool.not_eq_false',Bool.not_eq_eq_eq_not,Bool.not_true,Bool.not_false] at hc)) | (refine KP_i (by (repeat' (first | exact Heap.Le.refl _ | (refine Le_fresh (by first | exact (by simp only [*]) | exact (by simp [set_none', *])) ?_) | (refine Heap.Le.trans ?_ (Grow.le (by assumption)))))) ?_) | (with_reducible refine loop_u ?_) | (with_reducible refine And.intro ?_ ?_)) <;> (try simp only [Sh,Si,Sl,Bu,Bb,Bd,Bc,Bw,Bn,Int.reduceAdd,Int.reduceSub,Int.reduceMul,Int.reduceTDiv,Int.reduceTMod,Int.reduceMod,Int.reduceDiv,Nat.reduceLT,Nat.reduceEqDiff,decide_true,decide_false,Sa,Sb,Sc,Sd,Se,Sf,Sg,true_and,and_true,and_self,eq_self,b_i64,b_i32,b_u64,b_u32,b_u8,Int.reduceLE,Int.reduceLT,Int.reduceToNat,Int.reduceNeg,Int.reduceEq,Nat.reduceLeDiff,Nat.reducePow,Int.reducePow,Nat.min_def,reduceIte,Nat.reduceSub,Nat.reduceAdd,Nat.reduceMul,KP_same,KP_f,condS_t,condS_f,pick_t,pick_f,gS_tt,gS_ff,gS_tf,gS_ft,gS_u,gP_tt,gP_ff,gP_tf,gP_ft,gP_u,ptrV_eq,slcV_eq,mapV_eq,cells_agg,cells_int,cells_bool,cells_ptr,cells_slice,oc_int,oc_bool,oc_slice,oc_ptr,rd1_set,rd1_ne,rdn_set,rdn_ne,Heap.set_same,set_ne,Heap.set_set,set_up,set_up2,set_up3,putAt,ceq,List.map_cons,List.map_nil,List.length_cons,List.length_nil,List.length_set,List.cons_append,List.nil_append,List.append_nil,List.replicate,List.size_toArray,List.all_cons,List.all_nil,Bool.and_self,Bool.and_true,List.drop_zero,List.drop_succ_cons,List.take_succ_cons,List.take_zero,List.set_cons_zero,List.set_cons_succ,List.getElem?_cons_zero,List.getElem?_cons_succ,Option.map_some,Option.map_none,ne_eq,not_false_eq_true,not_true_eq_false,gt_iff_lt,ge_iff_le,Int.one_mul,Nat.zero_add,Nat.zero_mul,Bool.not_true,Bool.not_false,Bool.false_eq_true,Bool.and_false,Bool.false_and,Bool.true_and, *]))
    exact Fin_mk (by (repeat' (first | exact Heap.Le.refl _ | (refine Le_fresh (by first | exact (by simp only [*]) | exact (by simp [set_none', *])) ?_) | (refine Heap.Le.trans ?_ (Grow.le (by assumption)))))) h
  have hR : ∀ (x y : Nat), x = y → x = y := fun _ _ h => h
  refine HL.hc k42 999 ?_; unfold M42
  (all_goals (try simp only [Sh,Si,Sl,Bu,Bb,Bd,Bc,Bw,Bn,Int.reduceAdd,Int.reduceSub,Int.reduceMul,Int.reduceTDiv,Int.reduceTMod,Int.reduceMod,Int.reduceDiv,Nat.reduceLT,Nat.reduceEqDiff,decide_true,decide_false,Sa,Sb,Sc,Sd,Se,Sf,Sg,true_and,and_true,and_self,eq_self,b_i64,b_i32,b_u64,b_u32,b_u8,Int.reduceLE,Int.reduceLT,Int.reduceToNat,Int.reduceNeg,Int.reduceEq,Nat.reduceLeDiff,Nat.reducePow,Int.reducePow,Nat.min_def,reduceIte,Nat.reduceSub,Nat.reduceAdd,Nat.reduceMul,KP_same,KP_f,condS_t,condS_f,pick_t,pick_f,gS_tt,gS_ff,gS_tf,gS_ft,gS_u,gP_tt,gP_ff,gP_tf,gP_ft,gP_u,ptrV_eq,slcV_eq,mapV_eq,cells_agg,cells_int,cells_bool,cells_ptr,cells_slice,oc_int,oc_bool,oc_slice,oc_ptr,rd1_set,rd1_ne,rdn_set,rdn_ne,Heap.set_same,set_ne,Heap.set_set,set_up,set_up2,set_up3,putAt,ceq,List.map_cons,List.map_nil,List.length_cons,List.length_nil,List.length_set,List.cons_append,List.nil_append,List.append_nil,List.replicate,List.size_toArray,List.all_cons,List.all_nil,Bool.and_self,Bool.and_true,List.drop_zero,List.drop_succ_cons,List.take_succ_cons,List.take_zero,List.set_cons_zero,List.set_cons_succ,List.getElem?_cons_zero,List.getElem?_cons_succ,Option.map_some,Option.map_none,ne_eq,not_false_eq_true,not_true_eq_false,gt_iff_lt,ge_iff_le,Int.one_mul,Nat.zero_add,Nat.zero_mul,Bool.not_true,Bool.not_false,Bool.false_eq_true,Bool.and_false,Bool.false_and,Bool.true_and, *])); repeat' ((first | (with_reducible refine fun _ : True => ?_) | refine hw _ _ ?_ | refine hn _ _ (by simp only [rd1_ne, set_ne, ne_eq, not_false_eq_true, *]) (by simp only [rd1_ne, set_ne, ne_eq, not_false_eq_true, *]) ?_ | refine x_P4 ?_ | refine r_number (X % 16) 4 (by simp) (by omega) (by omega) ?_ | refine r_number ((X / 16) % 16) 4 (by simp) (by omega) (by omega) ?_ | refine r_number ((X / 256) % 16) 4 (by simp) (by omega) (by omega) ?_ | refine r_number ((X / 4096) % 16) 4 (by simp) (by omega) (by omega) ?_ | (with_reducible refine any_h ?_) | ((first | refine AllocQ_i ?_ | refine AllocO_i ?_); intro bk hb0 hbk; try simp only [set_none'] at hbk) | ((first | refine condS_i ?_ ?_ | refine pick_i ?_ ?_ | refine gS_it ?_ ?_ | refine gS_if ?_ ?_ | refine gP_it ?_ ?_ | refine gP_if ?_ ?_) <;> (intro hc; try simp only [Int.reduceLE,Int.reduceLT,Int.reduceEq,and_self,not_true_eq_false,not_false_eq_true,and_true,true_and,false_and,and_false,true_or,or_true,false_or,or_false,decide_eq_true_eq,decide_eq_false_iff_not,beq_iff_eq,beq_eq_false_iff_ne,bne_iff_ne,ne_eq,gt_iff_lt,ge_iff_le,Bool.not_eq_true,Bool.not_eq_false,Bool.not_eq_true',Bool.not_eq_false',Bool.not_eq_eq_eq_not,Bool.not_true,Bool.not_false] at hc)) | (refine KP_i (by (repeat' (first | exact Heap.Le.refl _ | (refine Le_fresh (by first | exact (by simp only [*]) | exact (by simp [set_none', *])) ?_) | (refine Heap.Le.trans ?_ (Grow.le (by assumption)))))) ?_) | (with_reducible refine loop_u ?_) | (with_reducible refine And.intro ?_ ?_)) <;> (try simp only [Sh,Si,Sl,Bu,Bb,Bd,Bc,Bw,Bn,Int.reduceAdd,Int.reduceSub,Int.reduceMul,Int.reduceTDiv,Int.reduceTMod,Int.reduceMod,Int.reduceDiv,Nat.reduceLT,Nat.reduceEqDiff,decide_true,decide_false,Sa,Sb,Sc,Sd,Se,Sf,Sg,true_and,and_true,and_self,eq_self,b_i64,b_i32,b_u64,b_u32,b_u8,Int.reduceLE,Int.reduceLT,Int.reduceToNat,Int.reduceNeg,Int.reduceEq,Nat.reduceLeDiff,Nat.reducePow,Int.reducePow,Nat.min_def,reduceIte,Nat.reduceSub,Nat.reduceAdd,Nat.reduceMul,KP_same,KP_f,condS_t,condS_f,pick_t,pick_f,gS_tt,gS_ff,gS_tf,gS_ft,gS_u,gP_tt,gP_ff,gP_tf,gP_ft,gP_u,ptrV_eq,slcV_eq,mapV_eq,cells_agg,cells_int,cells_bool,cells_ptr,cells_slice,oc_int,oc_bool,oc_slice,oc_ptr,rd1_set,rd1_ne,rdn_set,rdn_ne,Heap.set_same,set_ne,Heap.set_set,set_up,set_up2,set_up3,putAt,ceq,List.map_cons,List.map_nil,List.length_cons,List.length_nil,List.length_set,List.cons_append,List.nil_append,List.append_nil,List.replicate,List.size_toArray,List.all_cons,List.all_nil,Bool.and_self,Bool.and_true,List.drop_zero,List.drop_succ_cons,List.take_succ_cons,List.take_zero,List.set_cons_zero,List.set_cons_succ,List.getElem?_cons_zero,List.getElem?_cons_succ,Option.map_some,Option.map_none,ne_eq,not_false_eq_true,not_true_eq_false,gt_iff_lt,ge_iff_le,Int.one_mul,Nat.zero_add,Nat.zero_mul,Bool.not_true,Bool.not_false,Bool.false_eq_true,Bool.and_false,Bool.false_and,Bool.true_and, *]))
  refine Fin_mk (by (repeat' (first | exact Heap.Le.refl _ | (refine Le_fresh (by first | exact (by simp only [*]) | exact (by simp [set_none', *])) ?_) | (refine Heap.Le.trans ?_ (Grow.le (by assumption)))))) (key _ ?_)
  simp [V4, unp, chan]
theorem c_Unpack4 (a : Option Addr) (c : Nat) (b0 b1 X : Int) (hX : X = b0 + b1 * 256) (hb0 : 0 ≤ b0 ∧ b0 ≤ 255) (hb1 : 0 ≤ b1 ∧ b1 ≤ 255) (hA : IntsAt w0 H .u8 a [b0, b1]) (h : K (.tuple #[V4 (unp 4 X), .int .i64 0]) H) : HCalls Try.prog w0 53 [.int .i64 4, .slice a 2 c] H K := by
  have key : ∀ v, v = .tuple #[V4 (unp 4 X), .int .i64 0] → K v H := fun v e => by subst e; exact h
  clear h
  obtain ⟨b, o, rfl, hr, hf⟩ := hA (by simp)
  have r0 := hr 0 (by simp)
  have r1 := hr 1 (by simp)
  simp only [Nat.add_zero, List.getD, List.getElem?_cons_zero, List.getElem?_cons_succ, Option.getD_some] at r0 r1
  clear hr hA
  have z0 : bitsI .or .u32 0 b0 = b0 := by have := or_shift 0 b0 0 (by omega) (by omega) (by omega) (by omega); simp at this; rw [this]
  have z1 : bitsI .or .u32 (b0) (b1 * 256) = X := by have := or_shift (b0) b1 8 (by omega) (by omega) (by omega) (by omega); simp at this; rw [this]; omega
  have u0 : IntKind.u32.wrap b0 = b0 := Bu.2.1 _ (by omega) (by omega)
  have v0 : IntKind.u32.wrap (b0 * 1) = b0 := by rw [Int.mul_one]; exact u0
  have u1 : IntKind.u32.wrap b1 = b1 := Bu.2.1 _ (by omega) (by omega)
  have v1 : IntKind.u32.wrap (b1 * 256) = b1 * 256 := Bu.2.1 _ (by omega) (by omega)
  have f11 : X.fdiv 2048 = X / 2048 := Int.fdiv_eq_ediv_of_nonneg _ (by omega)
  have m11 : bitsI .and .u32 (X / 2048) 31 = X / 2048 % 32 := by have := and_mask (X / 2048) 5 (by omega) (by omega) (by omega); simpa using this
  have f6 : X.fdiv 64 = X / 64 := Int.fdiv_eq_ediv_of_nonneg _ (by omega)
  have m6 : bitsI .and .u32 (X / 64) 31 = X / 64 % 32 := by have := and_mask (X / 64) 5 (by omega) (by omega) (by omega); simpa using this
  have f1 : X.fdiv 2 = X / 2 := Int.fdiv_eq_ediv_of_nonneg _ (by omega)
  have m1 : bitsI .and .u32 (X / 2) 31 = X / 2 % 32 := by have := and_mask (X / 2) 5 (by omega) (by omega) (by omega); simpa using this
  have f0 : X.fdiv 1 = X / 1 := Int.fdiv_eq_ediv_of_nonneg _ (by omega)
  have m0 : bitsI .and .u32 (X / 1) 1 = X / 1 % 2 := by have := and_mask (X / 1) 1 (by omega) (by omega) (by omega); simpa using this
  have hXb : 0 ≤ X ∧ X < 4294967296 := by omega
  clear hX
  refine HL.hc k53 999 ?_; unfold M53
  (all_goals (try simp only [Sh,Si,Sl,Bu,Bb,Bd,Bc,Bw,Bn,Int.reduceAdd,Int.reduceSub,Int.reduceMul,Int.reduceTDiv,Int.reduceTMod,Int.reduceMod,Int.reduceDiv,Nat.reduceLT,Nat.reduceEqDiff,decide_true,decide_false,Sa,Sb,Sc,Sd,Se,Sf,Sg,true_and,and_true,and_self,eq_self,b_i64,b_i32,b_u64,b_u32,b_u8,Int.reduceLE,Int.reduceLT,Int.reduceToNat,Int.reduceNeg,Int.reduceEq,Nat.reduceLeDiff,Nat.reducePow,Int.reducePow,Nat.min_def,reduceIte,Nat.reduceSub,Nat.reduceAdd,Nat.reduceMul,KP_same,KP_f,condS_t,condS_f,pick_t,pick_f,gS_tt,gS_ff,gS_tf,gS_ft,gS_u,gP_tt,gP_ff,gP_tf,gP_ft,gP_u,ptrV_eq,slcV_eq,mapV_eq,cells_agg,cells_int,cells_bool,cells_ptr,cells_slice,oc_int,oc_bool,oc_slice,oc_ptr,rd1_set,rd1_ne,rdn_set,rdn_ne,Heap.set_same,set_ne,Heap.set_set,set_up,set_up2,set_up3,putAt,ceq,List.map_cons,List.map_nil,List.length_cons,List.length_nil,List.length_set,List.cons_append,List.nil_append,List.append_nil,List.replicate,List.size_toArray,List.all_cons,List.all_nil,Bool.and_self,Bool.and_true,List.drop_zero,List.drop_succ_cons,List.take_succ_cons,List.take_zero,List.set_cons_zero,List.set_cons_succ,List.getElem?_cons_zero,List.getElem?_cons_succ,Option.map_some,Option.map_none,ne_eq,not_false_eq_true,not_true_eq_false,gt_iff_lt,ge_iff_le,Int.one_mul,Nat.zero_add,Nat.zero_mul,Bool.not_true,Bool.not_false,Bool.false_eq_true,Bool.and_false,Bool.false_and,Bool.true_and, *])); repeat' ((first | (with_reducible refine fun _ : True => ?_) | (with_reducible refine any_h ?_) | ((first | refine AllocQ_i ?_ | refine AllocO_i ?_); intro bk hb0 hbk; try simp only [set_none'] at hbk) | ((first | refine condS_i ?_ ?_ | refine pick_i ?_ ?_ | refine gS_it ?_ ?_ | refine gS_if ?_ ?_ | refine gP_it ?_ ?_ | refine gP_if ?_ ?_) <;> (intro hc; try simp only [Int.reduceLE,Int.reduceLT,Int.reduceEq,and_self,not_true_eq_false,not_false_eq_true,and_true,true_and,false_and,and_false,true_or,or_true,false_or,or_false,decide_eq_true_eq,decide_eq_false_iff_not,beq_iff_eq,beq_eq_false_iff_ne,bne_iff_ne,ne_eq,gt_iff_lt,ge_iff_le,Bool.not_eq_true,Bool.not_eq_false,Bool.not_eq_true',Bool.not_eq_false',Bool.not_eq_eq_eq_not,Bool.not_true,Bool.not_false] at hc)) | (refine KP_i (by (repeat' (first | exact Heap.Le.refl _ | (refine Le_fresh (by first | exact (by simp only [*]) | exact (by simp [set_none', *])) ?_) | (refine Heap.Le.trans ?_ (Grow.le (by assumption)))))) ?_) | (with_reducible refine And.intro ?_ ?_)) <;> (try simp only [Sh,Si,Sl,Bu,Bb,Bd,Bc,Bw,Bn,Int.reduceAdd,Int.reduceSub,Int.reduceMul,Int.reduceTDiv,Int.reduceTMod,Int.reduceMod,Int.reduceDiv,Nat.reduceLT,Nat.reduceEqDiff,decide_true,decide_false,Sa,Sb,Sc,Sd,Se,Sf,Sg,true_and,and_true,and_self,eq_self,b_i64,b_i32,b_u64,b_u32,b_u8,Int.reduceLE,Int.reduceLT,Int.reduceToNat,Int.reduceNeg,Int.reduceEq,Nat.reduceLeDiff,Nat.reducePow,Int.reducePow,Nat.min_def,reduceIte,Nat.reduceSub,Nat.reduceAdd,Nat.reduceMul,KP_same,KP_f,condS_t,condS_f,pick_t,pick_f,gS_tt,gS_ff,gS_tf,gS_ft,gS_u,gP_tt,gP_ff,gP_tf,gP_ft,gP_u,ptrV_eq,slcV_eq,mapV_eq,cells_agg,cells_int,cells_bool,cells_ptr,cells_slice,oc_int,oc_bool,oc_slice,oc_ptr,rd1_set,rd1_ne,rdn_set,rdn_ne,Heap.set_same,set_ne,Heap.set_set,set_up,set_up2,set_up3,putAt,ceq,List.map_cons,List.map_nil,List.length_cons,List.length_nil,List.length_set,List.cons_append,List.nil_append,List.append_nil,List.replicate,List.size_toArray,List.all_cons,List.all_nil,Bool.and_self,Bool.and_true,List.drop_zero,List.drop_succ_cons,List.take_succ_cons,List.take_zero,List.set_cons_zero,List.set_cons_succ,List.getElem?_cons_zero,List.getElem?_cons_succ,Option.map_some,Option.map_none,ne_eq,not_false_eq_true,not_true_eq_false,gt_iff_lt,ge_iff_le,Int.one_mul,Nat.zero_add,Nat.zero_mul,Bool.not_true,Bool.not_false,Bool.false_eq_true,Bool.and_false,Bool.false_and,Bool.true_and, *]))
  refine c_find4 (fun bc H' g nc kc => ?_)
  have kb := g.some (b := bk) (by simp only [Heap.set_same, set_ne, ne_eq, not_false_eq_true, *] <;> rfl)
  have hbc : bk ≠ bc := fun e => by rw [e, kc] at kb; cases kb
  have hcb := hbc.symm
  have g1 : Grow w0 H H' := Grow.trans (by (repeat' (first | exact Grow.refl _ | assumption | (refine Grow.set ?_ (by assumption) (by first | exact (by simp only [*]) | exact (by simp [set_none', *]) | exact Grow.none (by assumption) (by simp [set_none', *]))) | (refine Grow.trans ?_ (by assumption))))) g
  have hf1 : bk ≠ b := hf _ hb0 hbk
  have nc2 := (Heap.set_none.1 nc).2
  have hf2 : bc ≠ b := by
    rcases Classical.em (w0.heap.size ≤ bc) with hs | hs
    · exact hf _ hs nc2
    · intro e
      rcases g1 bc with e1 | ⟨e1, e2⟩
      · rw [nc2, kc] at e1; cases e1
      · exact hs e2
  have hf3 : ∀ c, w0.heap.size ≤ c → H' c = none → c ≠ b := fun c h1 h2 => hf c h1 (g1.none h2)
  have q0 := g1.rd1 r0
  have q1 := g1.rd1 r1
  clear r0 r1
  rw [root2 hbc kb kc]
  (all_goals (try simp only [Sh,Si,Sl,Bu,Bb,Bd,Bc,Bw,Bn,Int.reduceAdd,Int.reduceSub,Int.reduceMul,Int.reduceTDiv,Int.reduceTMod,Int.reduceMod,Int.reduceDiv,Nat.reduceLT,Nat.reduceEqDiff,decide_true,decide_false,Sa,Sb,Sc,Sd,Se,Sf,Sg,true_and,and_true,and_self,eq_self,b_i64,b_i32,b_u64,b_u32,b_u8,Int.reduceLE,Int.reduceLT,Int.reduceToNat,Int.reduceNeg,Int.reduceEq,Nat.reduceLeDiff,Nat.reducePow,Int.reducePow,Nat.min_def,reduceIte,Nat.reduceSub,Nat.reduceAdd,Nat.reduceMul,KP_same,KP_f,condS_t,condS_f,pick_t,pick_f,gS_tt,gS_ff,gS_tf,gS_ft,gS_u,gP_tt,gP_ff,gP_tf,gP_ft,gP_u,ptrV_eq,slcV_eq,mapV_eq,cells_agg,cells_int,cells_bool,cells_ptr,cells_slice,oc_int,oc_bool,oc_slice,oc_ptr,rd1_set,rd1_ne,rdn_set,rdn_ne,Heap.set_same,set_ne,Heap.set_set,set_up,set_up2,set_up3,putAt,ceq,List.map_cons,List.map_nil,List.length_cons,List.length_nil,List.length_set,List.cons_append,List.nil_append,List.append_nil,List.replicate,List.size_toArray,List.all_cons,List.all_nil,Bool.and_self,Bool.and_true,List.drop_zero,List.drop_succ_cons,List.take_succ_cons,List.take_zero,List.set_cons_zero,List.set_cons_succ,List.getElem?_cons_zero,List.getElem?_cons_succ,Option.map_some,Option.map_none,ne_eq,not_false_eq_true,not_true_eq_false,gt_iff_lt,ge_iff_le,Int.one_mul,Nat.zero_add,Nat.zero_mul,Bool.not_true,Bool.not_false,Bool.false_eq_true,Bool.and_false,Bool.false_and,Bool.true_and, *])); repeat' ((first | (with_reducible refine fun _ : True => ?_) | refine c_number (X / 2048 % 32) 5 (by simp) (by omega) (by omega) ?_ | refine c_number (X / 64 % 32) 5 (by simp) (by omega) (by omega) ?_ | refine c_number (X / 2 % 32) 5 (by simp) (by omega) (by omega) ?_ | refine c_number (X / 1 % 2) 1 (by simp) (by omega) (by omega) ?_ | refine c_grey _ ?_ | (with_reducible refine any_h ?_) | ((first | refine AllocQ_i ?_ | refine AllocO_i ?_); intro bk hb0 hbk; try simp only [set_none'] at hbk) | ((first | refine condS_i ?_ ?_ | refine pick_i ?_ ?_ | refine gS_it ?_ ?_ | refine gS_if ?_ ?_ | refine gP_it ?_ ?_ | refine gP_if ?_ ?_) <;> (intro hc; try simp only [Int.reduceLE,Int.reduceLT,Int.reduceEq,and_self,not_true_eq_false,not_false_eq_true,and_true,true_and,false_and,and_false,true_or,or_true,false_or,or_false,decide_eq_true_eq,decide_eq_false_iff_not,beq_iff_eq,beq_eq_false_iff_ne,bne_iff_ne,ne_eq,gt_iff_lt,ge_iff_le,Bool.not_eq_true,Bool.not_eq_false,Bool.not_eq_true',Bool.not_eq_false',Bool.not_eq_eq_eq_not,Bool.not_true,Bool.not_false] at hc)) | (refine KP_i (by (repeat' (first | exact Heap.Le.refl _ | (refine Le_fresh (by first | exact (by simp only [*]) | exact (by simp [set_none', *])) ?_) | (refine Heap.Le.trans ?_ (Grow.le (by assumption)))))) ?_) | (with_reducible refine loop_u ?_) | (with_reducible refine And.intro ?_ ?_)) <;> (try simp only [Sh,Si,Sl,Bu,Bb,Bd,Bc,Bw,Bn,Int.reduceAdd,Int.reduceSub,Int.reduceMul,Int.reduceTDiv,Int.reduceTMod,Int.reduceMod,Int.reduceDiv,Nat.reduceLT,Nat.reduceEqDiff,decide_true,decide_false,Sa,Sb,Sc,Sd,Se,Sf,Sg,true_and,and_true,and_self,eq_self,b_i64,b_i32,b_u64,b_u32,b_u8,Int.reduceLE,Int.reduceLT,Int.reduceToNat,Int.reduceNeg,Int.reduceEq,Nat.reduceLeDiff,Nat.reducePow,Int.reducePow,Nat.min_def,reduceIte,Nat.reduceSub,Nat.reduceAdd,Nat.reduceMul,KP_same,KP_f,condS_t,condS_f,pick_t,pick_f,gS_tt,gS_ff,gS_tf,gS_ft,gS_u,gP_tt,gP_ff,gP_tf,gP_ft,gP_u,ptrV_eq,slcV_eq,mapV_eq,cells_agg,cells_int,cells_bool,cells_ptr,cells_slice,oc_int,oc_bool,oc_slice,oc_ptr,rd1_set,rd1_ne,rdn_set,rdn_ne,Heap.set_same,set_ne,Heap.set_set,set_up,set_up2,set_up3,putAt,ceq,List.map_cons,List.map_nil,List.length_cons,List.length_nil,List.length_set,List.cons_append,List.nil_append,List.append_nil,List.replicate,List.size_toArray,List.all_cons,List.all_nil,Bool.and_self,Bool.and_true,List.drop_zero,List.drop_succ_cons,List.take_succ_cons,List.take_zero,List.set_cons_zero,List.set_cons_succ,List.getElem?_cons_zero,List.getElem?_cons_succ,Option.map_some,Option.map_none,ne_eq,not_false_eq_true,not_true_eq_false,gt_iff_lt,ge_iff_le,Int.one_mul,Nat.zero_add,Nat.zero_mul,Bool.not_true,Bool.not_false,Bool.false_eq_true,Bool.and_false,Bool.false_and,Bool.true_and, *]))
  refine Fin_mk (by (repeat' (first | exact g1.le | (refine Le_fresh (by first | exact nc2 | exact (by simp only [*]) | exact Grow.none g1 (by simp only [*])) ?_)))) (key _ ?_)
  simp [V4, unp, chan]
theorem r_Unpack4 (a : Option Addr) (c : Nat) (b0 b1 X : Int) (hX : X = b0 + b1 * 256) (hb0 : 0 ≤ b0 ∧ b0 ≤ 255) (hb1 : 0 ≤ b1 ∧ b1 ≤ 255) (hA : IntsAt w0 H .u8 a [b0, b1]) (h : K (V4 (unp 4 X)) H) : HCalls Try.prog w0 42 [.int .i64 4, .slice a 2 c] H K := by
  have key : ∀ v, v = V4 (unp 4 X) → K v H := fun v e => by subst e; exact h
  clear h
  obtain ⟨b, o, rfl, hr, hf⟩ := hA (by simp)
  have r0 := hr 0 (by simp)
  have r1 := hr 1 (by simp)
  simp only [Nat.add_zero, List.getD, List.getElem?_cons_zero, List.getElem?_cons_succ, Option.getD_some] at r0 r1
  clear hr hA
  have u0 : IntKind.u32.wrap b0 = b0 := Bu.2.1 _ (by omega) (by omega)
  have y0 : IntKind.u64.wrap b0 = b0 := Bu.1 _ (by omega) (by omega)
  have u1 : IntKind.u32.wrap b1 = b1 := Bu.2.1 _ (by omega) (by omega)
  have y1 : IntKind.u64.wrap b1 = b1 := Bu.1 _ (by omega) (by omega)
  have y2 : IntKind.u64.wrap (b1 * 256) = b1 * 256 := Bu.1 _ (by omega) (by omega)
  have y3 : IntKind.u64.wrap (b1 * 256 + b0) = X := by rw [Bu.1 _ (by omega) (by omega)]; omega
  have y4 : IntKind.i64.wrap X = X := Bw.1 _ (by omega) (by omega)
  have y5 : IntKind.u64.wrap (0 + b1) = b1 := by rw [Int.zero_add]; exact y1
  have p3 : (X).tmod 2 = X % 2 := Int.tmod_eq_emod_of_nonneg (by omega)
  have s3 : IntKind.u32.wrap (X % 2) = X % 2 := Bu.2.1 _ (by omega) (by omega)
  have d3 : IntKind.i64.wrap ((X).tdiv 2) = X / 2 := by rw [Int.tdiv_eq_ediv_of_nonneg (by omega), Bw.1 _ (by omega) (by omega)]; try omega
  have p2 : ((X / 2)).tmod 32 = (X / 2) % 32 := Int.tmod_eq_emod_of_nonneg (by omega)
  have s2 : IntKind.u32.wrap ((X / 2) % 32) = (X / 2) % 32 := Bu.2.1 _ (by omega) (by omega)
  have d2 : IntKind.i64.wrap (((X / 2)).tdiv 32) = X / 64 := by rw [Int.tdiv_eq_ediv_of_nonneg (by omega), Bw.1 _ (by omega) (by omega)]; try omega
  have p1 : ((X / 64)).tmod 32 = (X / 64) % 32 := Int.tmod_eq_emod_of_nonneg (by omega)
  have s1 : IntKind.u32.wrap ((X / 64) % 32) = (X / 64) % 32 := Bu.2.1 _ (by omega) (by omega)
  have d1 : IntKind.i64.wrap (((X / 64)).tdiv 32) = X / 2048 := by rw [Int.tdiv_eq_ediv_of_nonneg (by omega), Bw.1 _ (by omega) (by omega)]; try omega
  have p0 : ((X / 2048)).tmod 32 = (X / 2048) % 32 := Int.tmod_eq_emod_of_nonneg (by omega)
  have s0 : IntKind.u32.wrap ((X / 2048) % 32) = (X / 2048) % 32 := Bu.2.1 _ (by omega) (by omega)
  have d0 : IntKind.i64.wrap (((X / 2048)).tdiv 32) = X / 65536 := by rw [Int.tdiv_eq_ediv_of_nonneg (by omega), Bw.1 _ (by omega) (by omega)]; try omega
  have hXb : 0 ≤ X ∧ X < 4294967296 := by omega
  clear hX
  have hw : ∀ (H : Heap) (K : Value → Heap → Prop), K (.agg #[.int .i64 5, .int .i64 5, .int .i64 5, .int .i64 1]) H → HCalls Try.prog w0 56 [.int .i64 4] H K := fun H K h => by
    refine HL.hc k56 999 ?_; unfold M56
    (all_goals (try simp only [Sh,Si,Sl,Bu,Bb,Bd,Bc,Bw,Bn,Int.reduceAdd,Int.reduceSub,Int.reduceMul,Int.reduceTDiv,Int.reduceTMod,Int.reduceMod,Int.reduceDiv,Nat.reduceLT,Nat.reduceEqDiff,decide_true,decide_false,Sa,Sb,Sc,Sd,Se,Sf,Sg,true_and,and_true,and_self,eq_self,b_i64,b_i32,b_u64,b_u32,b_u8,Int.reduceLE,Int.reduceLT,Int.reduceToNat,Int.reduceNeg,Int.reduceEq,Nat.reduceLeDiff,Nat.reducePow,Int.reducePow,Nat.min_def,reduceIte,Nat.reduceSub,Nat.reduceAdd,Nat.reduceMul,KP_same,KP_f,condS_t,condS_f,pick_t,pick_f,gS_tt,gS_ff,gS_tf,gS_ft,gS_u,gP_tt,gP_ff,gP_tf,gP_ft,gP_u,ptrV_eq,slcV_eq,mapV_eq,cells_agg,cells_int,cells_bool,cells_ptr,cells_slice,oc_int,oc_bool,oc_slice,oc_ptr,rd1_set,rd1_ne,rdn_set,rdn_ne,Heap.set_same,set_ne,Heap.set_set,set_up,set_up2,set_up3,putAt,ceq,List.map_cons,List.map_nil,List.length_cons,List.length_nil,List.length_set,List.cons_append,List.nil_append,List.append_nil,List.replicate,List.size_toArray,List.all_cons,List.all_nil,Bool.and_self,Bool.and_true,List.drop_zero,List.drop_succ_cons,List.take_succ_cons,List.take_zero,List.set_cons_zero,List.set_cons_succ,List.getElem?_cons_zero,List.getElem?_cons_succ,Option.map_some,Option.map_none,ne_eq,not_false_eq_true,not_true_eq_false,gt_iff_lt,ge_iff_le,Int.one_mul,Nat.zero_add,Nat.zero_mul,Bool.not_true,Bool.not_false,Bool.false_eq_true,Bool.and_false,Bool.false_and,Bool.true_and, *])); repeat' ((first | (with_reducible refine fun _ : True => ?_) | (with_reducible refine any_h ?_) | ((first | refine AllocQ_i ?_ | refine AllocO_i ?_); intro bk hb0 hbk; try simp only [set_none'] at hbk) | ((first | refine condS_i ?_ ?_ | refine pick_i ?_ ?_ | refine gS_it ?_ ?_ | refine gS_if ?_ ?_ | refine gP_it ?_ ?_ | refine gP_if ?_ ?_) <;> (intro hc; try simp only [Int.reduceLE,Int.reduceLT,Int.reduceEq,and_self,not_true_eq_false,not_false_eq_true,and_true,true_and,false_and,and_false,true_or,or_true,false_or,or_false,decide_eq_true_eq,decide_eq_false_iff_not,beq_iff_eq,beq_eq_false_iff_ne,bne_iff_ne,ne_eq,gt_iff_lt,ge_iff_le,Bool.not_eq_true,Bool.not_eq_false,Bool.not_eq_true',Bool.not_eq_false',Bool.not_eq_eq_eq_not,Bool.not_true,Bool.not_false] at hc)) | (refine KP_i (by (repeat' (first | exact Heap.Le.refl _ | (refine Le_fresh (by first | exact (by simp only [*]) | exact (by simp [set_none', *])) ?_) | (refine Heap.Le.trans ?_ (Grow.le (by assumption)))))) ?_) | (with_reducible refine And.intro ?_ ?_)) <;> (try simp only [Sh,Si,Sl,Bu,Bb,Bd,Bc,Bw,Bn,Int.reduceAdd,Int.reduceSub,Int.reduceMul,Int.reduceTDiv,Int.reduceTMod,Int.reduceMod,Int.reduceDiv,Nat.reduceLT,Nat.reduceEqDiff,decide_true,decide_false,Sa,Sb,Sc,Sd,Se,Sf,Sg,true_and,and_true,and_self,eq_self,b_i64,b_i32,b_u64,b_u32,b_u8,Int.reduceLE,Int.reduceLT,Int.reduceToNat,Int.reduceNeg,Int.reduceEq,Nat.reduceLeDiff,Nat.reducePow,Int.reducePow,Nat.min_def,reduceIte,Nat.reduceSub,Nat.reduceAdd,Nat.reduceMul,KP_same,KP_f,condS_t,condS_f,pick_t,pick_f,gS_tt,gS_ff,gS_tf,gS_ft,gS_u,gP_tt,gP_ff,gP_tf,gP_ft,gP_u,ptrV_eq,slcV_eq,mapV_eq,cells_agg,cells_int,cells_bool,cells_ptr,cells_slice,oc_int,oc_bool,oc_slice,oc_ptr,rd1_set,rd1_ne,rdn_set,rdn_ne,Heap.set_same,set_ne,Heap.set_set,set_up,set_up2,set_up3,putAt,ceq,List.map_cons,List.map_nil,List.length_cons,List.length_nil,List.length_set,List.cons_append,List.nil_append,List.append_nil,List.replicate,List.size_toArray,List.all_cons,List.all_nil,Bool.and_self,Bool.and_true,List.drop_zero,List.drop_succ_cons,List.take_succ_cons,List.take_zero,List.set_cons_zero,List.set_cons_succ,List.getElem?_cons_zero,List.getElem?_cons_succ,Option.map_some,Option.map_none,ne_eq,not_false_eq_true,not_true_eq_false,gt_iff_lt,ge_iff_le,Int.one_mul,Nat.zero_add,Nat.zero_mul,Bool.not_true,Bool.not_false,Bool.false_eq_true,Bool.and_false,Bool.false_and,Bool.true_and, *]))
    exact Fin_mk (by (repeat' (first | exact Heap.Le.refl _ | (refine Le_fresh (by first | exact (by simp only [*]) | exact (by simp [set_none', *])) ?_) | (refine Heap.Le.trans ?_ (Grow.le (by assumption)))))) h
  have hn : ∀ (H : Heap) (K : Value → Heap → Prop), rd1 w0 H b o = some (.int .u8 b0) → rd1 w0 H b (o + 1) = some (.int .u8 b1) → K (.int .u64 X) H → HCalls Try.prog w0 55 [.slice (some ⟨b, o, none⟩) 2 c] H K := fun H K r0 r1 h => by
    refine HL.hc k55 999 ?_; unfold M55
    (all_goals (try simp only [Sh,Si,Sl,Bu,Bb,Bd,Bc,Bw,Bn,Int.reduceAdd,Int.reduceSub,Int.reduceMul,Int.reduceTDiv,Int.reduceTMod,Int.reduceMod,Int.reduceDiv,Nat.reduceLT,Nat.reduceEqDiff,decide_true,decide_false,Sa,Sb,Sc,Sd,Se,Sf,Sg,true_and,and_true,and_self,eq_self,b_i64,b_i32,b_u64,b_u32,b_u8,Int.reduceLE,Int.reduceLT,Int.reduceToNat,Int.reduceNeg,Int.reduceEq,Nat.reduceLeDiff,Nat.reducePow,Int.reducePow,Nat.min_def,reduceIte,Nat.reduceSub,Nat.reduceAdd,Nat.reduceMul,KP_same,KP_f,condS_t,condS_f,pick_t,pick_f,gS_tt,gS_ff,gS_tf,gS_ft,gS_u,gP_tt,gP_ff,gP_tf,gP_ft,gP_u,ptrV_eq,slcV_eq,mapV_eq,cells_agg,cells_int,cells_bool,cells_ptr,cells_slice,oc_int,oc_bool,oc_slice,oc_ptr,rd1_set,rd1_ne,rdn_set,rdn_ne,Heap.set_same,set_ne,Heap.set_set,set_up,set_up2,set_up3,putAt,ceq,List.map_cons,List.map_nil,List.length_cons,List.length_nil,List.length_set,List.cons_append,List.nil_append,List.append_nil,List.replicate,List.size_toArray,List.all_cons,List.all_nil,Bool.and_self,Bool.and_true,List.drop_zero,List.drop_succ_cons,List.take_succ_cons,List.take_zero,List.set_cons_zero,List.set_cons_succ,List.getElem?_cons_zero,List.getElem?_cons_succ,Option.map_some,Option.map_none,ne_eq,not_false_eq_true,not_true_eq_false,gt_iff_lt,ge_iff_le,Int.one_mul,Nat.zero_add,Nat.zero_mul,Bool.not_true,Bool.not_false,Bool.false_eq_true,Bool.and_false,Bool.false_and,Bool.true_and, *])); repeat' ((first | (with_reducible refine fun _ : True => ?_) | (with_reducible refine any_h ?_) | ((first | refine AllocQ_i ?_ | refine AllocO_i ?_); intro bk hb0 hbk; try simp only [set_none'] at hbk) | ((first | refine condS_i ?_ ?_ | refine pick_i ?_ ?_ | refine gS_it ?_ ?_ | refine gS_if ?_ ?_ | refine gP_it ?_ ?_ | refine gP_if ?_ ?_) <;> (intro hc; try simp only [Int.reduceLE,Int.reduceLT,Int.reduceEq,and_self,not_true_eq_false,not_false_eq_true,and_true,true_and,false_and,and_false,true_or,or_true,false_or,or_false,decide_eq_true_eq,decide_eq_false_iff_not,beq_iff_eq,beq_eq_false_iff_ne,bne_iff_ne,ne_eq,gt_iff_lt,ge_iff_le,Bool.not_eq_true,Bool.not_eq_false,Bool.not_eq_true',Bool.not_eq_false',Bool.not_eq_eq_eq_not,Bool.not_true,Bool.not_false] at hc)) | (refine KP_i (by (repeat' (first | exact Heap.Le.refl _ | (refine Le_fresh (by first | exact (by simp only [*]) | exact (by simp [set_none', *])) ?_) | (refine Heap.Le.trans ?_ (Grow.le (by assumption)))))) ?_) | (with_reducible refine loop_u ?_) | (with_reducible refine And.intro ?_ ?_)) <;> (try simp only [Sh,Si,Sl,Bu,Bb,Bd,Bc,Bw,Bn,Int.reduceAdd,Int.reduceSub,Int.reduceMul,Int.reduceTDiv,Int.reduceTMod,Int.reduceMod,Int.reduceDiv,Nat.reduceLT,Nat.reduceEqDiff,decide_true,decide_false,Sa,Sb,Sc,Sd,Se,Sf,Sg,true_and,and_true,and_self,eq_self,b_i64,b_i32,b_u64,b_u32,b_u8,Int.reduceLE,Int.reduceLT,Int.reduceToNat,Int.reduceNeg,Int.reduceEq,Nat.reduceLeDiff,Nat.reducePow,Int.reducePow,Nat.min_def,reduceIte,Nat.reduceSub,Nat.reduceAdd,Nat.reduceMul,KP_same,KP_f,condS_t,condS_f,pick_t,pick_f,gS_tt,gS_ff,gS_tf,gS_ft,gS_u,gP_tt,gP_ff,gP_tf,gP_ft,gP_u,ptrV_eq,slcV_eq,mapV_eq,cells_agg,cells_int,cells_bool,cells_ptr,cells_slice,oc_int,oc_bool,oc_slice,oc_ptr,rd1_set,rd1_ne,rdn_set,rdn_ne,Heap.set_same,set_ne,Heap.set_set,set_up,set_up2,set_up3,putAt,ceq,List.map_cons,List.map_nil,List.length_cons,List.length_nil,List.length_set,List.cons_append,List.nil_append,List.append_nil,List.replicate,List.size_toArray,List.all_cons,List.all_nil,Bool.and_self,Bool.and_true,List.drop_zero,List.drop_succ_cons,List.take_succ_cons,List.take_zero,List.set_cons_zero,List.set_cons_succ,List.getElem?_cons_zero,List.getElem?_cons_succ,Option.map_some,Option.map_none,ne_eq,not_false_eq_true,not_true_eq_false,gt_iff_lt,ge_iff_le,Int.one_mul,Nat.zero_add,Nat.zero_mul,Bool.not_true,Bool.not_false,Bool.false_eq_true,Bool.and_false,Bool.false_and,Bool.true_and, *]))
    exact Fin_mk (by (repeat' (first | exact Heap.Le.refl _ | (refine Le_fresh (by first | exact (by simp only [*]) | exact (by simp [set_none', *])) ?_) | (refine Heap.Le.trans ?_ (Grow.le (by assumption)))))) h
  have hR : ∀ (x y : Nat), x = y → x = y := fun _ _ h => h
  refine HL.hc k42 999 ?_; unfold M42
  (all_goals (try simp only [Sh,Si,Sl,Bu,Bb,Bd,Bc,Bw,Bn,Int.reduceAdd,Int.reduceSub,Int.reduceMul,Int.reduceTDiv,Int.reduceTMod,Int.reduceMod,Int.reduceDiv,Nat.reduceLT,Nat.reduceEqDiff,decide_true,decide_false,Sa,Sb,Sc,Sd,Se,Sf,Sg,true_and,and_true,and_self,eq_self,b_i64,b_i32,b_u64,b_u32,b_u8,Int.reduceLE,Int.reduceLT,Int.reduceToNat,Int.reduceNeg,Int.reduceEq,Nat.reduceLeDiff,Nat.reducePow,Int.reducePow,Nat.min_def,reduceIte,Nat.reduceSub,Nat.reduceAdd,Nat.reduceMul,KP_same,KP_f,condS_t,condS_f,pick_t,pick_f,gS_tt,gS_ff,gS_tf,gS_ft,gS_u,gP_tt,gP_ff,gP_tf,gP_ft,gP_u,ptrV_eq,slcV_eq,mapV_eq,cells_agg,cells_int,cells_bool,cells_ptr,cells_slice,oc_int,oc_bool,oc_slice,oc_ptr,rd1_set,rd1_ne,rdn_set,rdn_ne,Heap.set_same,set_ne,Heap.set_set,set_up,set_up2,set_up3,putAt,ceq,List.map_cons,List.map_nil,List.length_cons,List.length_nil,List.length_set,List.cons_append,List.nil_append,List.append_nil,List.replicate,List.size_toArray,List.all_cons,List.all_nil,Bool.and_self,Bool.and_true,List.drop_zero,List.drop_succ_cons,List.take_succ_cons,List.take_zero,List.set_cons_zero,List.set_cons_succ,List.getElem?_cons_zero,List.getElem?_cons_succ,Option.map_some,Option.map_none,ne_eq,not_false_eq_true,not_true_eq_false,gt_iff_lt,ge_iff_le,Int.one_mul,Nat.zero_add,Nat.zero_mul,Bool.not_true,Bool.not_false,Bool.false_eq_true,Bool.and_false,Bool.false_and,Bool.true_and, *])); repeat' ((first | (with_reducible refine fun _ : True => ?_) | refine hw _ _ ?_ | refine hn _ _ (by simp only [rd1_ne, set_ne, ne_eq, not_false_eq_true, *]) (by simp only [rd1_ne, set_ne, ne_eq, not_false_eq_true, *]) ?_ | refine x_P1 ?_ | refine x_P5 ?_ | refine r_number (X % 2) 1 (by simp) (by omega) (by omega) ?_ | refine r_number ((X / 2) % 32) 5 (by simp) (by omega) (by omega) ?_ | refine r_number ((X / 64) % 32) 5 (by simp) (by omega) (by omega) ?_ | refine r_number ((X / 2048) % 32) 5 (by simp) (by omega) (by omega) ?_ | (with_reducible refine any_h ?_) | ((first | refine AllocQ_i ?_ | refine AllocO_i ?_); intro bk hb0 hbk; try simp only [set_none'] at hbk) | ((first | refine condS_i ?_ ?_ | refine pick_i ?_ ?_ | refine gS_it ?_ ?_ | refine gS_if ?_ ?_ | refine gP_it ?_ ?_ | refine gP_if ?_ ?_) <;> (intro hc; try simp only [Int.reduceLE,Int.reduceLT,Int.reduceEq,and_self,not_true_eq_false,not_false_eq_true,and_true,true_and,false_and,and_false,true_or,or_true,false_or,or_false,decide_eq_true_eq,decide_eq_false_iff_not,beq_iff_eq,beq_eq_false_iff_ne,bne_iff_ne,ne_eq,gt_iff_lt,ge_iff_le,Bool.not_eq_true,Bool.not_eq_false,Bool.not_eq_true',Bool.not_eq_false',Bool.not_eq_eq_eq_not,Bool.not_true,Bool.not_false] at hc)) | (refine KP_i (by (repeat' (first | exact Heap.Le.refl _ | (refine Le_fresh (by first | exact (by simp only [*]) | exact (by simp [set_none', *])) ?_) | (refine Heap.Le.trans ?_ (Grow.le (by assumption)))))) ?_) | (with_reducible refine loop_u ?_) | (with_reducible refine And.intro ?_ ?_)) <;> (try simp only [Sh,Si,Sl,Bu,Bb,Bd,Bc,Bw,Bn,Int.reduceAdd,Int.reduceSub,Int.reduceMul,Int.reduceTDiv,Int.reduceTMod,Int.reduceMod,Int.reduceDiv,Nat.reduceLT,Nat.reduceEqDiff,decide_true,decide_false,Sa,Sb,Sc,Sd,Se,Sf,Sg,true_and,and_true,and_self,eq_self,b_i64,b_i32,b_u64,b_u32,b_u8,Int.reduceLE,Int.reduceLT,Int.reduceToNat,Int.reduceNeg,Int.reduceEq,Nat.reduceLeDiff,Nat.reducePow,Int.reducePow,Nat.min_def,reduceIte,Nat.reduceSub,Nat.reduceAdd,Nat.reduceMul,KP_same,KP_f,condS_t,condS_f,pick_t,pick_f,gS_tt,gS_ff,gS_tf,gS_ft,gS_u,gP_tt,gP_ff,gP_tf,gP_ft,gP_u,ptrV_eq,slcV_eq,mapV_eq,cells_agg,cells_int,cells_bool,cells_ptr,cells_slice,oc_int,oc_bool,oc_slice,oc_ptr,rd1_set,rd1_ne,rdn_set,rdn_ne,Heap.set_same,set_ne,Heap.set_set,set_up,set_up2,set_up3,putAt,ceq,List.map_cons,List.map_nil,List.length_cons,List.length_nil,List.length_set,List.cons_append,List.nil_append,List.append_nil,List.replicate,List.size_toArray,List.all_cons,List.all_nil,Bool.and_self,Bool.and_true,List.drop_zero,List.drop_succ_cons,List.take_succ_cons,List.take_zero,List.set_cons_zero,List.set_cons_succ,List.getElem?_cons_zero,List.getElem?_cons_succ,Option.map_some,Option.map_none,ne_eq,not_false_eq_true,not_true_eq_false,gt_iff_lt,ge_iff_le,Int.one_mul,Nat.zero_add,Nat.zero_mul,Bool.not_true,Bool.not_false,Bool.false_eq_true,Bool.and_false,Bool.false_and,Bool.true_and, *]))
  refine Fin_mk (by (repeat' (first | exact Heap.Le.refl _ | (refine Le_fresh (by first | exact (by simp only [*]) | exact (by simp [set_none', *])) ?_) | (refine Heap.Le.trans ?_ (Grow.le (by assumption)))))) (key _ ?_)
  simp [V4, unp, chan]
theorem c_Unpack5 (a : Option Addr) (c : Nat) (b0 X : Int) (hX : X = b0) (hb0 : 0 ≤ b0 ∧ b0 ≤ 255) (hA : IntsAt w0 H .u8 a [b0]) (h : K (.tuple #[V4 (unp 5 X), .int .i64 0]) H) : HCalls Try.prog w0 53 [.int .i64 5, .slice a 1 c] H K := by
  have key : ∀ v, v = .tuple #[V4 (unp 5 X), .int .i64 0] → K v H := fun v e => by subst e; exact h
  clear h
  obtain ⟨b, o, rfl, hr, hf⟩ := hA (by simp)
  have r0 := hr 0 (by simp)
  simp only [Nat.add_zero, List.getD, List.getElem?_cons_zero, List.getElem?_cons_succ, Option.getD_some] at r0
  clear hr hA
  have z0 : bitsI .or .u32 0 b0 = X := by have := or_shift 0 b0 0 (by omega) (by omega) (by omega) (by omega); simp at this; rw [this]; omega
  have u0 : IntKind.u32.wrap b0 = b0 := Bu.2.1 _ (by omega) (by omega)
  have v0 : IntKind.u32.wrap (b0 * 1) = b0 := by rw [Int.mul_one]; exact u0
  have f0 : X.fdiv 1 = X / 1 := Int.fdiv_eq_ediv_of_nonneg _ (by omega)
  have m0 : bitsI .and .u32 (X / 1) 255 = X / 1 % 256 := by have := and_mask (X / 1) 8 (by omega) (by omega) (by omega); simpa using this
  have hXb : 0 ≤ X ∧ X < 4294967296 := by omega
  clear hX
  refine HL.hc k53 999 ?_; unfold M53
  (all_goals (try simp only [Sh,Si,Sl,Bu,Bb,Bd,Bc,Bw,Bn,Int.reduceAdd,Int.reduceSub,Int.reduceMul,Int.reduceTDiv,Int.reduceTMod,Int.reduceMod,Int.reduceDiv,Nat.reduceLT,Nat.reduceEqDiff,decide_true,decide_false,Sa,Sb,Sc,Sd,Se,Sf,Sg,true_and,and_true,and_self,eq_self,b_i64,b_i32,b_u64,b_u32,b_u8,Int.reduceLE,Int.reduceLT,Int.reduceToNat,Int.reduceNeg,Int.reduceEq,Nat.reduceLeDiff,Nat.reducePow,Int.reducePow,Nat.min_def,reduceIte,Nat.reduceSub,Nat.reduceAdd,Nat.reduceMul,KP_same,KP_f,condS_t,condS_f,pick_t,pick_f,gS_tt,gS_ff,gS_tf,gS_ft,gS_u,gP_tt,gP_ff,gP_tf,gP_ft,gP_u,ptrV_eq,slcV_eq,mapV_eq,cells_agg,cells_int,cells_bool,cells_ptr,cells_slice,oc_int,oc_bool,oc_slice,oc_ptr,rd1_set,rd1_ne,rdn_set,rdn_ne,Heap.set_same,set_ne,Heap.set_set,set_up,set_up2,set_up3,putAt,ceq,List.map_cons,List.map_nil,List.length_cons,List.length_nil,List.length_set,List.cons_append,List.nil_append,List.append_nil,List.replicate,List.size_toArray,List.all_cons,List.all_nil,Bool.and_self,Bool.and_true,List.drop_zero,List.drop_succ_cons,List.take_succ_cons,List.take_zero,List.set_cons_zero,List.set_cons_succ,List.getElem?_cons_zero,List.getElem?_cons_succ,Option.map_some,Option.map_none,ne_eq,not_false_eq_true,not_true_eq_false,gt_iff_lt,ge_iff_le,Int.one_mul,Nat.zero_add,Nat.zero_mul,Bool.not_true,Bool.not_false,Bool.false_eq_true,Bool.and_false,Bool.false_and,Bool.true_and, *])); repeat' ((first | (with_reducible refine fun _ : True => ?_) | (with_reducible refine any_h ?_) | ((first | refine AllocQ_i ?_ | refine AllocO_i ?_); intro bk hb0 hbk; try simp only [set_none'] at hbk) | ((first | refine condS_i ?_ ?_ | refine pick_i ?_ ?_ | refine gS_it ?_ ?_ | refine gS_if ?_ ?_ | refine gP_it ?_ ?_ | refine gP_if ?_ ?_) <;> (intro hc; try simp only [Int.reduceLE,Int.reduceLT,Int.reduceEq,and_self,not_true_eq_false,not_false_eq_true,and_true,true_and,false_and,and_false,true_or,or_true,false_or,or_false,decide_eq_true_eq,decide_eq_false_iff_not,beq_iff_eq,beq_eq_false_iff_ne,bne_iff_ne,ne_eq,gt_iff_lt,ge_iff_le,Bool.not_eq_true,Bool.not_eq_false,Bool.not_eq_true',Bool.not_eq_false',Bool.not_eq_eq_eq_not,Bool.not_true,Bool.not_false] at hc)) | (refine KP_i (by (repeat' (first | exact Heap.Le.refl _ | (refine Le_fresh (by first | exact (by simp only [*]) | exact (by simp [set_none', *])) ?_) | (refine Heap.Le.trans ?_ (Grow.le (by assumption)))))) ?_) | (with_reducible refine And.intro ?_ ?_)) <;> (try simp only [Sh,Si,Sl,Bu,Bb,Bd,Bc,Bw,Bn,Int.reduceAdd,Int.reduceSub,Int.reduceMul,Int.reduceTDiv,Int.reduceTMod,Int.reduceMod,Int.reduceDiv,Nat.reduceLT,Nat.reduceEqDiff,decide_true,decide_false,Sa,Sb,Sc,Sd,Se,Sf,Sg,true_and,and_true,and_self,eq_self,b_i64,b_i32,b_u64,b_u32,b_u8,Int.reduceLE,Int.reduceLT,Int.reduceToNat,Int.reduceNeg,Int.reduceEq,Nat.reduceLeDiff,Nat.reducePow,Int.reducePow,Nat.min_def,reduceIte,Nat.reduceSub,Nat.reduceAdd,Nat.reduceMul,KP_same,KP_f,condS_t,condS_f,pick_t,pick_f,gS_tt,gS_ff,gS_tf,gS_ft,gS_u,gP_tt,gP_ff,gP_tf,gP_ft,gP_u,ptrV_eq,slcV_eq,mapV_eq,cells_agg,cells_int,cells_bool,cells_ptr,cells_slice,oc_int,oc_bool,oc_slice,oc_ptr,rd1_set,rd1_ne,rdn_set,rdn_ne,Heap.set_same,set_ne,Heap.set_set,set_up,set_up2,set_up3,putAt,ceq,List.map_cons,List.map_nil,List.length_cons,List.length_nil,List.length_set,List.cons_append,List.nil_append,List.append_nil,List.replicate,List.size_toArray,List.all_cons,List.all_nil,Bool.and_self,Bool.and_true,List.drop_zero,List.drop_succ_cons,List.take_succ_cons,List.take_zero,List.set_cons_zero,List.set_cons_succ,List.getElem?_cons_zero,List.getElem?_cons_succ,Option.map_some,Option.map_none,ne_eq,not_false_eq_true,not_true_eq_false,gt_iff_lt,ge_iff_le,Int.one_mul,Nat.zero_add,Nat.zero_mul,Bool.not_true,Bool.not_false,Bool.false_eq_true,Bool.and_false,Bool.false_and,Bool.true_and, *]))
  refine c_find5 (fun bc H' g nc kc => ?_)
  have kb := g.some (b := bk) (by simp only [Heap.set_same, set_ne, ne_eq, not_false_eq_true, *] <;> rfl)
  have hbc : bk ≠ bc := fun e => by rw [e, kc] at kb; cases kb
  have hcb := hbc.symm
  have g1 : Grow w0 H H' := Grow.trans (by (repeat' (first | exact Grow.refl _ | assumption | (refine Grow.set ?_ (by assumption) (by first | exact (by simp only [*]) | exact (by simp [set_none', *]) | exact Grow.none (by assumption) (by simp [set_none', *]))) | (refine Grow.trans ?_ (by assumption))))) g
  have hf1 : bk ≠ b := hf _ hb0 hbk
  have nc2 := (Heap.set_none.1 nc).2
  have hf2 : bc ≠ b := by
    rcases Classical.em (w0.heap.size ≤ bc) with hs | hs
    · exact hf _ hs nc2
    · intro e
      rcases g1 bc with e1 | ⟨e1, e2⟩
      · rw [nc2, kc] at e1; cases e1
      · exact hs e2
  have hf3 : ∀ c, w0.heap.size ≤ c → H' c = none → c ≠ b := fun c h1 h2 => hf c h1 (g1.none h2)
  have q0 := g1.rd1 r0
  clear r0
  rw [root2 hbc kb kc]
  (all_goals (try simp only [Sh,Si,Sl,Bu,Bb,Bd,Bc,Bw,Bn,Int.reduceAdd,Int.reduceSub,Int.reduceMul,Int.reduceTDiv,Int.reduceTMod,Int.reduceMod,Int.reduceDiv,Nat.reduceLT,Nat.reduceEqDiff,decide_true,decide_false,Sa,Sb,Sc,Sd,Se,Sf,Sg,true_and,and_true,and_self,eq_self,b_i64,b_i32,b_u64,b_u32,b_u8,Int.reduceLE,Int.reduceLT,Int.reduceToNat,Int.reduceNeg,Int.reduceEq,Nat.reduceLeDiff,Nat.reducePow,Int.reducePow,Nat.min_def,reduceIte,Nat.reduceSub,Nat.reduceAdd,Nat.reduceMul,KP_same,KP_f,condS_t,condS_f,pick_t,pick_f,gS_tt,gS_ff,gS_tf,gS_ft,gS_u,gP_tt,gP_ff,gP_tf,gP_ft,gP_u,ptrV_eq,slcV_eq,mapV_eq,cells_agg,cells_int,cells_bool,cells_ptr,cells_slice,oc_int,oc_bool,oc_slice,oc_ptr,rd1_set,rd1_ne,rdn_set,rdn_ne,Heap.set_same,set_ne,Heap.set_set,set_up,set_up2,set_up3,putAt,ceq,List.map_cons,List.map_nil,List.length_cons,List.length_nil,List.length_set,List.cons_append,List.nil_append,List.append_nil,List.replicate,List.size_toArray,List.all_cons,List.all_nil,Bool.and_self,Bool.and_true,List.drop_zero,List.drop_succ_cons,List.take_succ_cons,List.take_zero,List.set_cons_zero,List.set_cons_succ,List.getElem?_cons_zero,List.getElem?_cons_succ,Option.map_some,Option.map_none,ne_eq,not_false_eq_true,not_true_eq_false,gt_iff_lt,ge_iff_le,Int.one_mul,Nat.zero_add,Nat.zero_mul,Bool.not_true,Bool.not_false,Bool.false_eq_true,Bool.and_false,Bool.false_and,Bool.true_and, *])); repeat' ((first | (with_reducible refine fun _ : True => ?_) | refine c_number (X / 1 % 256) 8 (by simp) (by omega) (by omega) ?_ | refine c_grey _ ?_ | (with_reducible refine any_h ?_) | ((first | refine AllocQ_i ?_ | refine AllocO_i ?_); intro bk hb0 hbk; try simp only [set_none'] at hbk) | ((first | refine condS_i ?_ ?_ | refine pick_i ?_ ?_ | refine gS_it ?_ ?_ | refine gS_if ?_ ?_ | refine gP_it ?_ ?_ | refine gP_if ?_ ?_) <;> (intro hc; try simp only [Int.reduceLE,Int.reduceLT,Int.reduceEq,and_self,not_true_eq_false,not_false_eq_true,and_true,true_and,false_and,and_false,true_or,or_true,false_or,or_false,decide_eq_true_eq,decide_eq_false_iff_not,beq_iff_eq,beq_eq_false_iff_ne,bne_iff_ne,ne_eq,gt_iff_lt,ge_iff_le,Bool.not_eq_true,Bool.not_eq_false,Bool.not_eq_true',Bool.not_eq_false',Bool.not_eq_eq_eq_not,Bool.not_true,Bool.not_false] at hc)) | (refine KP_i (by (repeat' (first | exact Heap.Le.refl _ | (refine Le_fresh (by first | exact (by simp only [*]) | exact (by simp [set_none', *])) ?_) | (refine Heap.Le.trans ?_ (Grow.le (by assumption)))))) ?_) | (with_reducible refine loop_u ?_) | (with_reducible refine And.intro ?_ ?_)) <;> (try simp only [Sh,Si,Sl,Bu,Bb,Bd,Bc,Bw,Bn,Int.reduceAdd,Int.reduceSub,Int.reduceMul,Int.reduceTDiv,Int.reduceTMod,Int.reduceMod,Int.reduceDiv,Nat.reduceLT,Nat.reduceEqDiff,decide_true,decide_false,Sa,Sb,Sc,Sd,Se,Sf,Sg,true_and,and_true,and_self,eq_self,b_i64,b_i32,b_u64,b_u32,b_u8,Int.reduceLE,Int.reduceLT,Int.reduceToNat,Int.reduceNeg,Int.reduceEq,Nat.reduceLeDiff,Nat.reducePow,Int.reducePow,Nat.min_def,reduceIte,Nat.reduceSub,Nat.reduceAdd,Nat.reduceMul,KP_same,KP_f,condS_t,condS_f,pick_t,pick_f,gS_tt,gS_ff,gS_tf,gS_ft,gS_u,gP_tt,gP_ff,gP_tf,gP_ft,gP_u,ptrV_eq,slcV_eq,mapV_eq,cells_agg,cells_int,cells_bool,cells_ptr,cells_slice,oc_int,oc_bool,oc_slice,oc_ptr,rd1_set,rd1_ne,rdn_set,rdn_ne,Heap.set_same,set_ne,Heap.set_set,set_up,set_up2,set_up3,putAt,ceq,List.map_cons,List.map_nil,List.length_cons,List.length_nil,List.length_set,List.cons_append,List.nil_append,List.append_nil,List.replicate,List.size_toArray,List.all_cons,List.all_nil,Bool.and_self,Bool.and_true,List.drop_zero,List.drop_succ_cons,List.take_succ_cons,List.take_zero,List.set_cons_zero,List.set_cons_succ,List.getElem?_cons_zero,List.getElem?_cons_succ,Option.map_some,Option.map_none,ne_eq,not_false_eq_true,not_true_eq_false,gt_iff_lt,ge_iff_le,Int.one_mul,Nat.zero_add,Nat.zero_mul,Bool.not_true,Bool.not_false,Bool.false_eq_true,Bool.and_false,Bool.false_and,Bool.true_and, *]))
  refine Fin_mk (by (repeat' (first | exact g1.le | (refine Le_fresh (by first | exact nc2 | exact (by simp only [*]) | exact Grow.none g1 (by simp only [*])) ?_)))) (key _ ?_)
  simp [V4, unp, chan]
theorem r_Unpack5 (a : Option Addr) (c : Nat) (b0 X : Int) (hX : X = b0) (hb0 : 0 ≤ b0 ∧ b0 ≤ 255) (hA : IntsAt w0 H .u8 a [b0]) (h : K (V4 (unp 5 X)) H) : HCalls Try.prog w0 42 [.int .i64 5, .slice a 1 c] H K := by
  have key : ∀ v, v = V4 (unp 5 X) → K v H := fun v e => by subst e; exact h
  clear h
  obtain ⟨b, o, rfl, hr, hf⟩ := hA (by simp)
  have r0 := hr 0 (by simp)
  simp only [Nat.add_zero, List.getD, List.getElem?_cons_zero, List.getElem?_cons_succ, Option.getD_some] at r0
  clear hr hA
  have u0 : IntKind.u32.wrap b0 = b0 := Bu.2.1 _ (by omega) (by omega)
  have y0 : IntKind.u64.wrap b0 = b0 := Bu.1 _ (by omega) (by omega)
  have hXX := hX
  clear hX
  refine HL.hc k42 999 ?_; unfold M42
  (all_goals (try simp only [Sh,Si,Sl,Bu,Bb,Bd,Bc,Bw,Bn,Int.reduceAdd,Int.reduceSub,Int.reduceMul,Int.reduceTDiv,Int.reduceTMod,Int.reduceMod,Int.reduceDiv,Nat.reduceLT,Nat.reduceEqDiff,decide_true,decide_false,Sa,Sb,Sc,Sd,Se,Sf,Sg,true_and,and_true,and_self,eq_self,b_i64,b_i32,b_u64,b_u32,b_u8,Int.reduceLE,Int.reduceLT,Int.reduceToNat,Int.reduceNeg,Int.reduceEq,Nat.reduceLeDiff,Nat.reducePow,Int.reducePow,Nat.min_def,reduceIte,Nat.reduceSub,Nat.reduceAdd,Nat.reduceMul,KP_same,KP_f,condS_t,condS_f,pick_t,pick_f,gS_tt,gS_ff,gS_tf,gS_ft,gS_u,gP_tt,gP_ff,gP_tf,gP_ft,gP_u,ptrV_eq,slcV_eq,mapV_eq,cells_agg,cells_int,cells_bool,cells_ptr,cells_slice,oc_int,oc_bool,oc_slice,oc_ptr,rd1_set,rd1_ne,rdn_set,rdn_ne,Heap.set_same,set_ne,Heap.set_set,set_up,set_up2,set_up3,putAt,ceq,List.map_cons,List.map_nil,List.length_cons,List.length_nil,List.length_set,List.cons_append,List.nil_append,List.append_nil,List.replicate,List.size_toArray,List.all_cons,List.all_nil,Bool.and_self,Bool.and_true,List.drop_zero,List.drop_succ_cons,List.take_succ_cons,List.take_zero,List.set_cons_zero,List.set_cons_succ,List.getElem?_cons_zero,List.getElem?_cons_succ,Option.map_some,Option.map_none,ne_eq,not_false_eq_true,not_true_eq_false,gt_iff_lt,ge_iff_le,Int.one_mul,Nat.zero_add,Nat.zero_mul,Bool.not_true,Bool.not_false,Bool.false_eq_true,Bool.and_false,Bool.false_and,Bool.true_and, *])); repeat' ((first | (with_reducible refine fun _ : True => ?_) | refine r_number b0 8 (by simp) (by omega) (by omega) ?_ | (with_reducible refine any_h ?_) | ((first | refine AllocQ_i ?_ | refine AllocO_i ?_); intro bk hb0 hbk; try simp only [set_none'] at hbk) | ((first | refine condS_i ?_ ?_ | refine pick_i ?_ ?_ | refine gS_it ?_ ?_ | refine gS_if ?_ ?_ | refine gP_it ?_ ?_ | refine gP_if ?_ ?_) <;> (intro hc; try simp only [Int.reduceLE,Int.reduceLT,Int.reduceEq,and_self,not_true_eq_false,not_false_eq_true,and_true,true_and,false_and,and_false,true_or,or_true,false_or,or_false,decide_eq_true_eq,decide_eq_false_iff_not,beq_iff_eq,beq_eq_false_iff_ne,bne_iff_ne,ne_eq,gt_iff_lt,ge_iff_le,Bool.not_eq_true,Bool.not_eq_false,Bool.not_eq_true',Bool.not_eq_false',Bool.not_eq_eq_eq_not,Bool.not_true,Bool.not_false] at hc)) | (refine KP_i (by (repeat' (first | exact Heap.Le.refl _ | (refine Le_fresh (by first | exact (by simp only [*]) | exact (by simp [set_none', *])) ?_) | (refine Heap.Le.trans ?_ (Grow.le (by assumption)))))) ?_) | (with_reducible refine And.intro ?_ ?_)) <;> (try simp only [Sh,Si,Sl,Bu,Bb,Bd,Bc,Bw,Bn,Int.reduceAdd,Int.reduceSub,Int.reduceMul,Int.reduceTDiv,Int.reduceTMod,Int.reduceMod,Int.reduceDiv,Nat.reduceLT,Nat.reduceEqDiff,decide_true,decide_false,Sa,Sb,Sc,Sd,Se,Sf,Sg,true_and,and_true,and_self,eq_self,b_i64,b_i32,b_u64,b_u32,b_u8,Int.reduceLE,Int.reduceLT,Int.reduceToNat,Int.reduceNeg,Int.reduceEq,Nat.reduceLeDiff,Nat.reducePow,Int.reducePow,Nat.min_def,reduceIte,Nat.reduceSub,Nat.reduceAdd,Nat.reduceMul,KP_same,KP_f,condS_t,condS_f,pick_t,pick_f,gS_tt,gS_ff,gS_tf,gS_ft,gS_u,gP_tt,gP_ff,gP_tf,gP_ft,gP_u,ptrV_eq,slcV_eq,mapV_eq,cells_agg,cells_int,cells_bool,cells_ptr,cells_slice,oc_int,oc_bool,oc_slice,oc_ptr,rd1_set,rd1_ne,rdn_set,rdn_ne,Heap.set_same,set_ne,Heap.set_set,set_up,set_up2,set_up3,putAt,ceq,List.map_cons,List.map_nil,List.length_cons,List.length_nil,List.length_set,List.cons_append,List.nil_append,List.append_nil,List.replicate,List.size_toArray,List.all_cons,List.all_nil,Bool.and_self,Bool.and_true,List.drop_zero,List.drop_succ_cons,List.take_succ_cons,List.take_zero,List.set_cons_zero,List.set_cons_succ,List.getElem?_cons_zero,List.getElem?_cons_succ,Option.map_some,Option.map_none,ne_eq,not_false_eq_true,not_true_eq_false,gt_iff_lt,ge_iff_le,Int.one_mul,Nat.zero_add,Nat.zero_mul,Bool.not_true,Bool.not_false,Bool.false_eq_true,Bool.and_false,Bool.false_and,Bool.true_and, *]))
  refine Fin_mk (by (repeat' (first | exact Heap.Le.refl _ | (refine Le_fresh (by first | exact (by simp only [*]) | exact (by simp [set_none', *])) ?_) | (refine Heap.Le.trans ?_ (Grow.le (by assumption)))))) (key _ ?_)
  have hX := hXX
  have x9 : X % 256 = b0 := by omega
  clear hX hXX
  simp [V4, unp, chan, x9]
theorem c_Unpack6 (a : Option Addr) (c : Nat) (b0 X : Int) (hX : X = b0) (hb0 : 0 ≤ b0 ∧ b0 ≤ 255) (hA : IntsAt w0 H .u8 a [b0]) (h : K (.tuple #[V4 (unp 6 X), .int .i64 0]) H) : HCalls Try.prog w0 53 [.int .i64 6, .slice a 1 c] H K := by
  have key : ∀ v, v = .tuple #[V4 (unp 6 X), .int .i64 0] → K v H := fun v e => by subst e; exact h
  clear h
  obtain ⟨b, o, rfl, hr, hf⟩ := hA (by simp)
  have r0 := hr 0 (by simp)
  simp only [Nat.add_zero, List.getD, List.getElem?_cons_zero, List.getElem?_cons_succ, Option.getD_some] at r0
  clear hr hA
  have z0 : bitsI .or .u32 0 b0 = X := by have := or_shift 0 b0 0 (by omega) (by omega) (by omega) (by omega); simp at this; rw [this]; omega
  have u0 : IntKind.u32.wrap b0 = b0 := Bu.2.1 _ (by omega) (by omega)
  have v0 : IntKind.u32.wrap (b0 * 1) = b0 := by rw [Int.mul_one]; exact u0
  have f0 : X.fdiv 1 = X / 1 := Int.fdiv_eq_ediv_of_nonneg _ (by omega)
  have m0 : bitsI .and .u32 (X / 1) 255 = X / 1 % 256 := by have := and_mask (X / 1) 8 (by omega) (by omega) (by omega); simpa using this
  have hXb : 0 ≤ X ∧ X < 4294967296 := by omega
  clear hX
  refine HL.hc k53 999 ?_; unfold M53
  (all_goals (try simp only [Sh,Si,Sl,Bu,Bb,Bd,Bc,Bw,Bn,Int.reduceAdd,Int.reduceSub,Int.reduceMul,Int.reduceTDiv,Int.reduceTMod,Int.reduceMod,Int.reduceDiv,Nat.reduceLT,Nat.reduceEqDiff,decide_true,decide_false,Sa,Sb,Sc,Sd,Se,Sf,Sg,true_and,and_true,and_self,eq_self,b_i64,b_i32,b_u64,b_u32,b_u8,Int.reduceLE,Int.reduceLT,Int.reduceToNat,Int.reduceNeg,Int.reduceEq,Nat.reduceLeDiff,Nat.reducePow,Int.reducePow,Nat.min_def,reduceIte,Nat.reduceSub,Nat.reduceAdd,Nat.reduceMul,KP_same,KP_f,condS_t,condS_f,pick_t,pick_f,gS_tt,gS_ff,gS_tf,gS_ft,gS_u,gP_tt,gP_ff,gP_tf,gP_ft,gP_u,ptrV_eq,slcV_eq,mapV_eq,cells_agg,cells_int,cells_bool,cells_ptr,cells_slice,oc_int,oc_bool,oc_slice,oc_ptr,rd1_set,rd1_ne,rdn_set,rdn_ne,Heap.set_same,set_ne,Heap.set_set,set_up,set_up2,set_up3,putAt,ceq,List.map_cons,List.map_nil,List.length_cons,List.length_nil,List.length_set,List.cons_append,List.nil_append,List.append_nil,List.replicate,List.size_toArray,List.all_cons,List.all_nil,Bool.and_self,Bool.and_true,List.drop_zero,List.drop_succ_cons,List.take_succ_cons,List.take_zero,List.set_cons_zero,List.set_cons_succ,List.getElem?_cons_zero,List.getElem?_cons_succ,Option.map_some,Option.map_none,ne_eq,not_false_eq_true,not_true_eq_false,gt_iff_lt,ge_iff_le,Int.one_mul,Nat.zero_add,Nat.zero_mul,Bool.not_true,Bool.not_false,Bool.false_eq_true,Bool.and_false,Bool.false_and,Bool.true_and, *])); repeat' ((first | (with_reducible refine fun _ : True => ?_) | (with_reducible refine any_h ?_) | ((first | refine AllocQ_i ?_ | refine AllocO_i ?_); intro bk hb0 hbk; try simp only [set_none'] at hbk) | ((first | refine condS_i ?_ ?_ | refine pick_i ?_ ?_ | refine gS_it ?_ ?_ | refine gS_if ?_ ?_ | refine gP_it ?_ ?_ | refine gP_if ?_ ?_) <;> (intro hc; try simp only [Int.reduceLE,Int.reduceLT,Int.reduceEq,and_self,not_true_eq_false,not_false_eq_true,and_true,true_and,false_and,and_false,true_or,or_true,false_or,or_false,decide_eq_true_eq,decide_eq_false_iff_not,beq_iff_eq,beq_eq_false_iff_ne,bne_iff_ne,ne_eq,gt_iff_lt,ge_iff_le,Bool.not_eq_true,Bool.not_eq_false,Bool.not_eq_true',Bool.not_eq_false',Bool.not_eq_eq_eq_not,Bool.not_true,Bool.not_false] at hc)) | (refine KP_i (by (repeat' (first | exact Heap.Le.refl _ | (refine Le_fresh (by first | exact (by simp only [*]) | exact (by simp [set_none', *])) ?_) | (refine Heap.Le.trans ?_ (Grow.le (by assumption)))))) ?_) | (with_reducible refine And.intro ?_ ?_)) <;> (try simp only [Sh,Si,Sl,Bu,Bb,Bd,Bc,Bw,Bn,Int.reduceAdd,Int.reduceSub,Int.reduceMul,Int.reduceTDiv,Int.reduceTMod,Int.reduceMod,Int.reduceDiv,Nat.reduceLT,Nat.reduceEqDiff,decide_true,decide_false,Sa,Sb,Sc,Sd,Se,Sf,Sg,true_and,and_true,and_self,eq_self,b_i64,b_i32,b_u64,b_u32,b_u8,Int.reduceLE,Int.reduceLT,Int.reduceToNat,Int.reduceNeg,Int.reduceEq,Nat.reduceLeDiff,Nat.reducePow,Int.reducePow,Nat.min_def,reduceIte,Nat.reduceSub,Nat.reduceAdd,Nat.reduceMul,KP_same,KP_f,condS_t,condS_f,pick_t,pick_f,gS_tt,gS_ff,gS_tf,gS_ft,gS_u,gP_tt,gP_ff,gP_tf,gP_ft,gP_u,ptrV_eq,slcV_eq,mapV_eq,cells_agg,cells_int,cells_bool,cells_ptr,cells_slice,oc_int,oc_bool,oc_slice,oc_ptr,rd1_set,rd1_ne,rdn_set,rdn_ne,Heap.set_same,set_ne,Heap.set_set,set_up,set_up2,set_up3,putAt,ceq,List.map_cons,List.map_nil,List.length_cons,List.length_nil,List.length_set,List.cons_append,List.nil_append,List.append_nil,List.replicate,List.size_toArray,List.all_cons,List.all_nil,Bool.and_self,Bool.and_true,List.drop_zero,List.drop_succ_cons,List.take_succ_cons,List.take_zero,List.set_cons_zero,List.set_cons_succ,List.getElem?_cons_zero,List.getElem?_cons_succ,Option.map_some,Option.map_none,ne_eq,not_false_eq_true,not_true_eq_false,gt_iff_lt,ge_iff_le,Int.one_mul,Nat.zero_add,Nat.zero_mul,Bool.not_true,Bool.not_false,Bool.false_eq_true,Bool.and_false,Bool.false_and,Bool.true_and, *]))
  refine c_find6 (fun bc H' g nc kc => ?_)
  have kb := g.some (b := bk) (by simp only [Heap.set_same, set_ne, ne_eq, not_false_eq_true, *] <;> rfl)
  have hbc : bk ≠ bc := fun e => by rw [e, kc] at kb; cases kb
  have hcb := hbc.symm
  have g1 : Grow w0 H H' := Grow.trans (by (repeat' (first | exact Grow.refl _ | assumption | (refine Grow.set ?_ (by assumption) (by first | exact (by simp only [*]) | exact (by simp [set_none', *]) | exact Grow.none (by assumption) (by simp [set_none', *]))) | (refine Grow.trans ?_ (by assumption))))) g
  have hf1 : bk ≠ b := hf _ hb0 hbk
  have nc2 := (Heap.set_none.1 nc).2
  have hf2 : bc ≠ b := by
    rcases Classical.em (w0.heap.size ≤ bc) with hs | hs
    · exact hf _ hs nc2
    · intro e
      rcases g1 bc with e1 | ⟨e1, e2⟩
      · rw [nc2, kc] at e1; cases e1
      · exact hs e2
  have hf3 : ∀ c, w0.heap.size ≤ c → H' c = none → c ≠ b := fun c h1 h2 => hf c h1 (g1.none h2)
  have q0 := g1.rd1 r0
  clear r0
  rw [root2 hbc kb kc]
  (all_goals (try simp only [Sh,Si,Sl,Bu,Bb,Bd,Bc,Bw,Bn,Int.reduceAdd,Int.reduceSub,Int.reduceMul,Int.reduceTDiv,Int.reduceTMod,Int.reduceMod,Int.reduceDiv,Nat.reduceLT,Nat.reduceEqDiff,decide_true,decide_false,Sa,Sb,Sc,Sd,Se,Sf,Sg,true_and,and_true,and_self,eq_self,b_i64,b_i32,b_u64,b_u32,b_u8,Int.reduceLE,Int.reduceLT,Int.reduceToNat,Int.reduceNeg,Int.reduceEq,Nat.reduceLeDiff,Nat.reducePow,Int.reducePow,Nat.min_def,reduceIte,Nat.reduceSub,Nat.reduceAdd,Nat.reduceMul,KP_same,KP_f,condS_t,condS_f,pick_t,pick_f,gS_tt,gS_ff,gS_tf,gS_ft,gS_u,gP_tt,gP_ff,gP_tf,gP_ft,gP_u,ptrV_eq,slcV_eq,mapV_eq,cells_agg,cells_int,cells_bool,cells_ptr,cells_slice,oc_int,oc_bool,oc_slice,oc_ptr,rd1_set,rd1_ne,rdn_set,rdn_ne,Heap.set_same,set_ne,Heap.set_set,set_up,set_up2,set_up3,putAt,ceq,List.map_cons,List.map_nil,List.length_cons,List.length_nil,List.length_set,List.cons_append,List.nil_append,List.append_nil,List.replicate,List.size_toArray,List.all_cons,List.all_nil,Bool.and_self,Bool.and_true,List.drop_zero,List.drop_succ_cons,List.take_succ_cons,List.take_zero,List.set_cons_zero,List.set_cons_succ,List.getElem?_cons_zero,List.getElem?_cons_succ,Option.map_some,Option.map_none,ne_eq,not_false_eq_true,not_true_eq_false,gt_iff_lt,ge_iff_le,Int.one_mul,Nat.zero_add,Nat.zero_mul,Bool.not_true,Bool.not_false,Bool.false_eq_true,Bool.and_false,Bool.false_and,Bool.true_and, *])); repeat' ((first | (with_reducible refine fun _ : True => ?_) | refine c_number (X / 1 % 256) 8 (by simp) (by omega) (by omega) ?_ | refine c_grey _ ?_ | (with_reducible refine any_h ?_) | ((first | refine AllocQ_i ?_ | refine AllocO_i ?_); intro bk hb0 hbk; try simp only [set_none'] at hbk) | ((first | refine condS_i ?_ ?_ | refine pick_i ?_ ?_ | refine gS_it ?_ ?_ | refine gS_if ?_ ?_ | refine gP_it ?_ ?_ | refine gP_if ?_ ?_) <;> (intro hc; try simp only [Int.reduceLE,Int.reduceLT,Int.reduceEq,and_self,not_true_eq_false,not_false_eq_true,and_true,true_and,false_and,and_false,true_or,or_true,false_or,or_false,decide_eq_true_eq,decide_eq_false_iff_not,beq_iff_eq,beq_eq_false_iff_ne,bne_iff_ne,ne_eq,gt_iff_lt,ge_iff_le,Bool.not_eq_true,Bool.not_eq_false,Bool.not_eq_true',Bool.not_eq_false',Bool.not_eq_eq_eq_not,Bool.not_true,Bool.not_false] at hc)) | (refine KP_i (by (repeat' (first | exact Heap.Le.refl _ | (refine Le_fresh (by first | exact (by simp only [*]) | exact (by simp [set_none', *])) ?_) | (refine Heap.Le.trans ?_ (Grow.le (by assumption)))))) ?_) | (with_reducible refine loop_u ?_) | (with_reducible refine And.intro ?_ ?_)) <;> (try simp only [Sh,Si,Sl,Bu,Bb,Bd,Bc,Bw,Bn,Int.reduceAdd,Int.reduceSub,Int.reduceMul,Int.reduceTDiv,Int.reduceTMod,Int.reduceMod,Int.reduceDiv,Nat.reduceLT,Nat.reduceEqDiff,decide_true,decide_false,Sa,Sb,Sc,Sd,Se,Sf,Sg,true_and,and_true,and_self,eq_self,b_i64,b_i32,b_u64,b_u32,b_u8,Int.reduceLE,Int.reduceLT,Int.reduceToNat,Int.reduceNeg,Int.reduceEq,Nat.reduceLeDiff,Nat.reducePow,Int.reducePow,Nat.min_def,reduceIte,Nat.reduceSub,Nat.reduceAdd,Nat.reduceMul,KP_same,KP_f,condS_t,condS_f,pick_t,pick_f,gS_tt,gS_ff,gS_tf,gS_ft,gS_u,gP_tt,gP_ff,gP_tf,gP_ft,gP_u,ptrV_eq,slcV_eq,mapV_eq,cells_agg,cells_int,cells_bool,cells_ptr,cells_slice,oc_int,oc_bool,oc_slice,oc_ptr,rd1_set,rd1_ne,rdn_set,rdn_ne,Heap.set_same,set_ne,Heap.set_set,set_up,set_up2,set_up3,putAt,ceq,List.map_cons,List.map_nil,List.length_cons,List.length_nil,List.length_set,List.cons_append,List.nil_append,List.append_nil,List.replicate,List.size_toArray,List.all_cons,List.all_nil,Bool.and_self,Bool.and_true,List.drop_zero,List.drop_succ_cons,List.take_succ_cons,List.take_zero,List.set_cons_zero,List.set_cons_succ,List.getElem?_cons_zero,List.getElem?_cons_succ,Option.map_some,Option.map_none,ne_eq,not_false_eq_true,not_true_eq_false,gt_iff_lt,ge_iff_le,Int.one_mul,Nat.zero_add,Nat.zero_mul,Bool.not_true,Bool.not_false,Bool.false_eq_true,Bool.and_false,Bool.false_and,Bool.true_and, *]))
  refine Fin_mk (by (repeat' (first | exact g1.le | (refine Le_fresh (by first | exact nc2 | exact (by simp only [*]) | exact Grow.none g1 (by simp only [*])) ?_)))) (key _ ?_)
  simp [V4, unp, chan]
theorem r_Unpack6 (a : Option Addr) (c : Nat) (b0 X : Int) (hX : X = b0) (hb0 : 0 ≤ b0 ∧ b0 ≤ 255) (hA : IntsAt w0 H .u8 a [b0]) (h : K (V4 (unp 6 X)) H) : HCalls Try.prog w0 42 [.int .i64 6, .slice a 1 c] H K := by
  have key : ∀ v, v = V4 (unp 6 X) → K v H := fun v e => by subst e; exact h
  clear h
  obtain ⟨b, o, rfl, hr, hf⟩ := hA (by simp)
  have r0 := hr 0 (by simp)
  simp only [Nat.add_zero, List.getD, List.getElem?_cons_zero, List.getElem?_cons_succ, Option.getD_some] at r0
  clear hr hA
  have u0 : IntKind.u32.wrap b0 = b0 := Bu.2.1 _ (by omega) (by omega)
  have y0 : IntKind.u64.wrap b0 = b0 := Bu.1 _ (by omega) (by omega)
  have hXX := hX
  clear hX
  refine HL.hc k42 999 ?_; unfold M42
  (all_goals (try simp only [Sh,Si,Sl,Bu,Bb,Bd,Bc,Bw,Bn,Int.reduceAdd,Int.reduceSub,Int.reduceMul,Int.reduceTDiv,Int.reduceTMod,Int.reduceMod,Int.reduceDiv,Nat.reduceLT,Nat.reduceEqDiff,decide_true,decide_false,Sa,Sb,Sc,Sd,Se,Sf,Sg,true_and,and_true,and_self,eq_self,b_i64,b_i32,b_u64,b_u32,b_u8,Int.reduceLE,Int.reduceLT,Int.reduceToNat,Int.reduceNeg,Int.reduceEq,Nat.reduceLeDiff,Nat.reducePow,Int.reducePow,Nat.min_def,reduceIte,Nat.reduceSub,Nat.reduceAdd,Nat.reduceMul,KP_same,KP_f,condS_t,condS_f,pick_t,pick_f,gS_tt,gS_ff,gS_tf,gS_ft,gS_u,gP_tt,gP_ff,gP_tf,gP_ft,gP_u,ptrV_eq,slcV_eq,mapV_eq,cells_agg,cells_int,cells_bool,cells_ptr,cells_slice,oc_int,oc_bool,oc_slice,oc_ptr,rd1_set,rd1_ne,rdn_set,rdn_ne,Heap.set_same,set_ne,Heap.set_set,set_up,set_up2,set_up3,putAt,ceq,List.map_cons,List.map_nil,List.length_cons,List.length_nil,List.length_set,List.cons_append,List.nil_append,List.append_nil,List.replicate,List.size_toArray,List.all_cons,List.all_nil,Bool.and_self,Bool.and_true,List.drop_zero,List.drop_succ_cons,List.take_succ_cons,List.take_zero,List.set_cons_zero,List.set_cons_succ,List.getElem?_cons_zero,List.getElem?_cons_succ,Option.map_some,Option.map_none,ne_eq,not_false_eq_true,not_true_eq_false,gt_iff_lt,ge_iff_le,Int.one_mul,Nat.zero_add,Nat.zero_mul,Bool.not_true,Bool.not_false,Bool.false_eq_true,Bool.and_false,Bool.false_and,Bool.true_and, *])); repeat' ((first | (with_reducible refine fun _ : True => ?_) | refine r_number b0 8 (by simp) (by omega) (by omega) ?_ | (with_reducible refine any_h ?_) | ((first | refine AllocQ_i ?_ | refine AllocO_i ?_); intro bk hb0 hbk; try simp only [set_none'] at hbk) | ((first | refine condS_i ?_ ?_ | refine pick_i ?_ ?_ | refine gS_it ?_ ?_ | refine gS_if ?_ ?_ | refine gP_it ?_ ?_ | refine gP_if ?_ ?_) <;> (intro hc; try simp only [Int.reduceLE,Int.reduceLT,Int.reduceEq,and_self,not_true_eq_false,not_false_eq_true,and_true,true_and,false_and,and_false,true_or,or_true,false_or,or_false,decide_eq_true_eq,decide_eq_false_iff_not,beq_iff_eq,beq_eq_false_iff_ne,bne_iff_ne,ne_eq,gt_iff_lt,ge_iff_le,Bool.not_eq_true,Bool.not_eq_false,Bool.not_eq_true',Bool.not_eq_false',Bool.not_eq_eq_eq_not,Bool.not_true,Bool.not_false] at hc)) | (refine KP_i (by (repeat' (first | exact Heap.Le.refl _ | (refine Le_fresh (by first | exact (by simp only [*]) | exact (by simp [set_none', *])) ?_) | (refine Heap.Le.trans ?_ (Grow.le (by assumption)))))) ?_) | (with_reducible refine And.intro ?_ ?_)) <;> (try simp only [Sh,Si,Sl,Bu,Bb,Bd,Bc,Bw,Bn,Int.reduceAdd,Int.reduceSub,Int.reduceMul,Int.reduceTDiv,Int.reduceTMod,Int.reduceMod,Int.reduceDiv,Nat.reduceLT,Nat.reduceEqDiff,decide_true,decide_false,Sa,Sb,Sc,Sd,Se,Sf,Sg,true_and,and_true,and_self,eq_self,b_i64,b_i32,b_u64,b_u32,b_u8,Int.reduceLE,Int.reduceLT,Int.reduceToNat,Int.reduceNeg,Int.reduceEq,Nat.reduceLeDiff,Nat.reducePow,Int.reducePow,Nat.min_def,reduceIte,Nat.reduceSub,Nat.reduceAdd,Nat.reduceMul,KP_same,KP_f,condS_t,condS_f,pick_t,pick_f,gS_tt,gS_ff,gS_tf,gS_ft,gS_u,gP_tt,gP_ff,gP_tf,gP_ft,gP_u,ptrV_eq,slcV_eq,mapV_eq,cells_agg,cells_int,cells_bool,cells_ptr,cells_slice,oc_int,oc_bool,oc_slice,oc_ptr,rd1_set,rd1_ne,rdn_set,rdn_ne,Heap.set_same,set_ne,Heap.set_set,set_up,set_up2,set_up3,putAt,ceq,List.map_cons,List.map_nil,List.length_cons,List.length_nil,List.length_set,List.cons_append,List.nil_append,List.append_nil,List.replicate,List.size_toArray,List.all_cons,List.all_nil,Bool.and_self,Bool.and_true,List.drop_zero,List.drop_succ_cons,List.take_succ_cons,List.take_zero,List.set_cons_zero,List.set_cons_succ,List.getElem?_cons_zero,List.getElem?_cons_succ,Option.map_some,Option.map_none,ne_eq,not_false_eq_true,not_true_eq_false,gt_iff_lt,ge_iff_le,Int.one_mul,Nat.zero_add,Nat.zero_mul,Bool.not_true,Bool.not_false,Bool.false_eq_true,Bool.and_false,Bool.false_and,Bool.true_and, *]))
  refine Fin_mk (by (repeat' (first | exact Heap.Le.refl _ | (refine Le_fresh (by first | exact (by simp only [*]) | exact (by simp [set_none', *])) ?_) | (refine Heap.Le.trans ?_ (Grow.le (by assumption)))))) (key _ ?_)
  have hX := hXX
  have x9 : X % 256 = b0 := by omega
  clear hX hXX
  simp [V4, unp, chan, x9]
theorem c_Unpack7 (a : Option Addr) (c : Nat) (b0 b1 X : Int) (hX : X = b0 + b1 * 256) (hb0 : 0 ≤ b0 ∧ b0 ≤ 255) (hb1 : 0 ≤ b1 ∧ b1 ≤ 255) (hA : IntsAt w0 H .u8 a [b0, b1]) (h : K (.tuple #[V4 (unp 7 X), .int .i64 0]) H) : HCalls Try.prog w0 53 [.int .i64 7, .slice a 2 c] H K := by
  have key : ∀ v, v = .tuple #[V4 (unp 7 X), .int .i64 0] → K v H := fun v e => by subst e; exact h
  clear h
  obtain ⟨b, o, rfl, hr, hf⟩ := hA (by simp)
  have r0 := hr 0 (by simp)
  have r1 := hr 1 (by simp)
  simp only [Nat.add_zero, List.getD, List.getElem?_cons_zero, List.getElem?_cons_succ, Option.getD_some] at r0 r1
  clear hr hA
  have z0 : bitsI .or .u32 0 b0 = b0 := by have := or_shift 0 b0 0 (by omega) (by omega) (by omega) (by omega); simp at this; rw [this]
  have z1 : bitsI .or .u32 (b0) (b1 * 256) = X := by have := or_shift (b0) b1 8 (by omega) (by omega) (by omega) (by omega); simp at this; rw [this]; omega
  have u0 : IntKind.u32.wrap b0 = b0 := Bu.2.1 _ (by omega) (by omega)
  have v0 : IntKind.u32.wrap (b0 * 1) = b0 := by rw [Int.mul_one]; exact u0
  have u1 : IntKind.u32.wrap b1 = b1 := Bu.2.1 _ (by omega) (by omega)
  have v1 : IntKind.u32.wrap (b1 * 256) = b1 * 256 := Bu.2.1 _ (by omega) (by omega)
  have f0 : X.fdiv 1 = X / 1 := Int.fdiv_eq_ediv_of_nonneg _ (by omega)
  have m0 : bitsI .and .u32 (X / 1) 255 = X / 1 % 256 := by have := and_mask (X / 1) 8 (by omega) (by omega) (by omega); simpa using this
  have f8 : X.fdiv 256 = X / 256 := Int.fdiv_eq_ediv_of_nonneg _ (by omega)
  have m8 : bitsI .and .u32 (X / 256) 255 = X / 256 % 256 := by have := and_mask (X / 256) 8 (by omega) (by omega) (by omega); simpa using this
  have hXb : 0 ≤ X ∧ X < 4294967296 := by omega
  clear hX
  refine HL.hc k53 999 ?_; unfold M53
  (all_goals (try simp only [Sh,Si,Sl,Bu,Bb,Bd,Bc,Bw,Bn,Int.reduceAdd,Int.reduceSub,Int.reduceMul,Int.reduceTDiv,Int.reduceTMod,Int.reduceMod,Int.reduceDiv,Nat.reduceLT,Nat.reduceEqDiff,decide_true,decide_false,Sa,Sb,Sc,Sd,Se,Sf,Sg,true_and,and_true,and_self,eq_self,b_i64,b_i32,b_u64,b_u32,b_u8,Int.reduceLE,Int.reduceLT,Int.reduceToNat,Int.reduceNeg,Int.reduceEq,Nat.reduceLeDiff,Nat.reducePow,Int.reducePow,Nat.min_def,reduceIte,Nat.reduceSub,Nat.reduceAdd,Nat.reduceMul,KP_same,KP_f,condS_t,condS_f,pick_t,pick_f,gS_tt,gS_ff,gS_tf,gS_ft,gS_u,gP_tt,gP_ff,gP_tf,gP_ft,gP_u,ptrV_eq,slcV_eq,mapV_eq,cells_agg,cells_int,cells_bool,cells_ptr,cells_slice,oc_int,oc_bool,oc_slice,oc_ptr,rd1_set,rd1_ne,rdn_set,rdn_ne,Heap.set_same,set_ne,Heap.set_set,set_up,set_up2,set_up3,putAt,ceq,List.map_cons,List.map_nil,List.length_cons,List.length_nil,List.length_set,List.cons_append,List.nil_append,List.append_nil,List.replicate,List.size_toArray,List.all_cons,List.all_nil,Bool.and_self,Bool.and_true,List.drop_zero,List.drop_succ_cons,List.take_succ_cons,List.take_zero,List.set_cons_zero,List.set_cons_succ,List.getElem?_cons_zero,List.getElem?_cons_succ,Option.map_some,Option.map_none,ne_eq,not_false_eq_true,not_true_eq_false,gt_iff_lt,ge_iff_le,Int.one_mul,Nat.zero_add,Nat.zero_mul,Bool.not_true,Bool.not_false,Bool.false_eq_true,Bool.and_false,Bool.false_and,Bool.true_and, *])); repeat' ((first | (with_reducible refine fun _ : True => ?_) | (with_reducible refine any_h ?_) | ((first | refine AllocQ_i ?_ | refine AllocO_i ?_); intro bk hb0 hbk; try simp only [set_none'] at hbk) | ((first | refine condS_i ?_ ?_ | refine pick_i ?_ ?_ | refine gS_it ?_ ?_ | refine gS_if ?_ ?_ | refine gP_it ?_ ?_ | refine gP_if ?_ ?_) <;> (intro hc; try simp only [Int.reduceLE,Int.reduceLT,Int.reduceEq,and_self,not_true_eq_false,not_false_eq_true,and_true,true_and,false_and,and_false,true_or,or_true,false_or,or_false,decide_eq_true_eq,decide_eq_false_iff_not,beq_iff_eq,beq_eq_false_iff_ne,bne_iff_ne,ne_eq,gt_iff_lt,ge_iff_le,Bool.not_eq_true,Bool.not_eq_false,Bool.not_eq_true',Bool.not_eq_false',Bool.not_eq_eq_eq_not,Bool.not_true,Bool.not_false] at hc)) | (refine KP_i (by (repeat' (first | exact Heap.Le.refl _ | (refine Le_fresh (by first | exact (by simp only [*]) | exact (by simp [set_none', *])) ?_) | (refine Heap.Le.trans ?_ (Grow.le (by assumption)))))) ?_) | (with_reducible refine And.intro ?_ ?_)) <;> (try simp only [Sh,Si,Sl,Bu,Bb,Bd,Bc,Bw,Bn,Int.reduceAdd,Int.reduceSub,Int.reduceMul,Int.reduceTDiv,Int.reduceTMod,Int.reduceMod,Int.reduceDiv,Nat.reduceLT,Nat.reduceEqDiff,decide_true,decide_false,Sa,Sb,Sc,Sd,Se,Sf,Sg,true_and,and_true,and_self,eq_self,b_i64,b_i32,b_u64,b_u32,b_u8,Int.reduceLE,Int.reduceLT,Int.reduceToNat,Int.reduceNeg,Int.reduceEq,Nat.reduceLeDiff,Nat.reducePow,Int.reducePow,Nat.min_def,reduceIte,Nat.reduceSub,Nat.reduceAdd,Nat.reduceMul,KP_same,KP_f,condS_t,condS_f,pick_t,pick_f,gS_tt,gS_ff,gS_tf,gS_ft,gS_u,gP_tt,gP_ff,gP_tf,gP_ft,gP_u,ptrV_eq,slcV_eq,mapV_eq,cells_agg,cells_int,cells_bool,cells_ptr,cells_slice,oc_int,oc_bool,oc_slice,oc_ptr,rd1_set,rd1_ne,rdn_set,rdn_ne,Heap.set_same,set_ne,Heap.set_set,set_up,set_up2,set_up3,putAt,ceq,List.map_cons,List.map_nil,List.length_cons,List.length_nil,List.length_set,List.cons_append,List.nil_append,List.append_nil,List.replicate,List.size_toArray,List.all_cons,List.all_nil,Bool.and_self,Bool.and_true,List.drop_zero,List.drop_succ_cons,List.take_succ_cons,List.take_zero,List.set_cons_zero,List.set_cons_succ,List.getElem?_cons_zero,List.getElem?_cons_succ,Option.map_some,Option.map_none,ne_eq,not_false_eq_true,not_true_eq_false,gt_iff_lt,ge_iff_le,Int.one_mul,Nat.zero_add,Nat.zero_mul,Bool.not_true,Bool.not_false,Bool.false_eq_true,Bool.and_false,Bool.false_and,Bool.true_and, *]))
  refine c_find7 (fun bc H' g nc kc => ?_)
  have kb := g.some (b := bk) (by simp only [Heap.set_same, set_ne, ne_eq, not_false_eq_true, *] <;> rfl)
  have hbc : bk ≠ bc := fun e => by rw [e, kc] at kb; cases kb
  have hcb := hbc.symm
  have g1 : Grow w0 H H' := Grow.trans (by (repeat' (first | exact Grow.refl _ | assumption | (refine Grow.set ?_ (by assumption) (by first | exact (by simp only [*]) | exact (by simp [set_none', *]) | exact Grow.none (by assumption) (by simp [set_none', *]))) | (refine Grow.trans ?_ (by assumption))))) g
  have hf1 : bk ≠ b := hf _ hb0 hbk
  have nc2 := (Heap.set_none.1 nc).2
  have hf2 : bc ≠ b := by
    rcases Classical.em (w0.heap.size ≤ bc) with hs | hs
    · exact hf _ hs nc2
    · intro e
      rcases g1 bc with e1 | ⟨e1, e2⟩
      · rw [nc2, kc] at e1; cases e1
      · exact hs e2
  have hf3 : ∀ c, w0.heap.size ≤ c → H' c = none → c ≠ b := fun c h1 h2 => hf c h1 (g1.none h2)
  have q0 := g1.rd1 r0
  have q1 := g1.rd1 r1
  clear r0 r1
  rw [root2 hbc kb kc]
  (all_goals (try simp only [Sh,Si,Sl,Bu,Bb,Bd,Bc,Bw,Bn,Int.reduceAdd,Int.reduceSub,Int.reduceMul,Int.reduceTDiv,Int.reduceTMod,Int.reduceMod,Int.reduceDiv,Nat.reduceLT,Nat.reduceEqDiff,decide_true,decide_false,Sa,Sb,Sc,Sd,Se,Sf,Sg,true_and,and_true,and_self,eq_self,b_i64,b_i32,b_u64,b_u32,b_u8,Int.reduceLE,Int.reduceLT,Int.reduceToNat,Int.reduceNeg,Int.reduceEq,Nat.reduceLeDiff,Nat.reducePow,Int.reducePow,Nat.min_def,reduceIte,Nat.reduceSub,Nat.reduceAdd,Nat.reduceMul,KP_same,KP_f,condS_t,condS_f,pick_t,pick_f,gS_tt,gS_ff,gS_tf,gS_ft,gS_u,gP_tt,gP_ff,gP_tf,gP_ft,gP_u,ptrV_eq,slcV_eq,mapV_eq,cells_agg,cells_int,cells_bool,cells_ptr,cells_slice,oc_int,oc_bool,oc_slice,oc_ptr,rd1_set,rd1_ne,rdn_set,rdn_ne,Heap.set_same,set_ne,Heap.set_set,set_up,set_up2,set_up3,putAt,ceq,List.map_cons,List.map_nil,List.length_cons,List.length_nil,List.length_set,List.cons_append,List.nil_append,List.append_nil,List.replicate,List.size_toArray,List.all_cons,List.all_nil,Bool.and_self,Bool.and_true,List.drop_zero,List.drop_succ_cons,List.take_succ_cons,List.take_zero,List.set_cons_zero,List.set_cons_succ,List.getElem?_cons_zero,List.getElem?_cons_succ,Option.map_some,Option.map_none,ne_eq,not_false_eq_true,not_true_eq_false,gt_iff_lt,ge_iff_le,Int.one_mul,Nat.zero_add,Nat.zero_mul,Bool.not_true,Bool.not_false,Bool.false_eq_true,Bool.and_false,Bool.false_and,Bool.true_and, *])); repeat' ((first | (with_reducible refine fun _ : True => ?_) | refine c_number (X / 1 % 256) 8 (by simp) (by omega) (by omega) ?_ | refine c_number (X / 256 % 256) 8 (by simp) (by omega) (by omega) ?_ | refine c_grey _ ?_ | (with_reducible refine any_h ?_) | ((first | refine AllocQ_i ?_ | refine AllocO_i ?_); intro bk hb0 hbk; try simp only [set_none'] at hbk) | ((first | refine condS_i ?_ ?_ | refine pick_i ?_ ?_ | refine gS_it ?_ ?_ | refine gS_if ?_ ?_ | refine gP_it ?_ ?_ | refine gP_if ?_ ?_) <;> (intro hc; try simp only [Int.reduceLE,Int.reduceLT,Int.reduceEq,and_self,not_true_eq_false,not_false_eq_true,and_true,true_and,false_and,and_false,true_or,or_true,false_or,or_false,decide_eq_true_eq,decide_eq_false_iff_not,beq_iff_eq,beq_eq_false_iff_ne,bne_iff_ne,ne_eq,gt_iff_lt,ge_iff_le,Bool.not_eq_true,Bool.not_eq_false,Bool.not_eq_true',Bool.not_eq_false',Bool.not_eq_eq_eq_not,Bool.not_true,Bool.not_false] at hc)) | (refine KP_i (by (repeat' (first | exact Heap.Le.refl _ | (refine Le_fresh (by first | exact (by simp only [*]) | exact (by simp [set_none', *])) ?_) | (refine Heap.Le.trans ?_ (Grow.le (by assumption)))))) ?_) | (with_reducible refine loop_u ?_) | (with_reducible refine And.intro ?_ ?_)) <;> (try simp only [Sh,Si,Sl,Bu,Bb,Bd,Bc,Bw,Bn,Int.reduceAdd,Int.reduceSub,Int.reduceMul,Int.reduceTDiv,Int.reduceTMod,Int.reduceMod,Int.reduceDiv,Nat.reduceLT,Nat.reduceEqDiff,decide_true,decide_false,Sa,Sb,Sc,Sd,Se,Sf,Sg,true_and,and_true,and_self,eq_self,b_i64,b_i32,b_u64,b_u32,b_u8,Int.reduceLE,Int.reduceLT,Int.reduceToNat,Int.reduceNeg,Int.reduceEq,Nat.reduceLeDiff,Nat.reducePow,Int.reducePow,Nat.min_def,reduceIte,Nat.reduceSub,Nat.reduceAdd,Nat.reduceMul,KP_same,KP_f,condS_t,condS_f,pick_t,pick_f,gS_tt,gS_ff,gS_tf,gS_ft,gS_u,gP_tt,gP_ff,gP_tf,gP_ft,gP_u,ptrV_eq,slcV_eq,mapV_eq,cells_agg,cells_int,cells_bool,cells_ptr,cells_slice,oc_int,oc_bool,oc_slice,oc_ptr,rd1_set,rd1_ne,rdn_set,rdn_ne,Heap.set_same,set_ne,Heap.set_set,set_up,set_up2,set_up3,putAt,ceq,List.map_cons,List.map_nil,List.length_cons,List.length_nil,List.length_set,List.cons_append,List.nil_append,List.append_nil,List.replicate,List.size_toArray,List.all_cons,List.all_nil,Bool.and_self,Bool.and_true,List.drop_zero,List.drop_succ_cons,List.take_succ_cons,List.take_zero,List.set_cons_zero,List.set_cons_succ,List.getElem?_cons_zero,List.getElem?_cons_succ,Option.map_some,Option.map_none,ne_eq,not_false_eq_true,not_true_eq_false,gt_iff_lt,ge_iff_le,Int.one_mul,Nat.zero_add,Nat.zero_mul,Bool.not_true,Bool.not_false,Bool.false_eq_true,Bool.and_false,Bool.false_and,Bool.true_and, *]))
  refine Fin_mk (by (repeat' (first | exact g1.le | (refine Le_fresh (by first | exact nc2 | exact (by simp only [*]) | exact Grow.none g1 (by simp only [*])) ?_)))) (key _ ?_)
  simp [V4, unp, chan]
theorem r_Unpack7 (a : Option Addr) (c : Nat) (b0 b1 X : Int) (hX : X = b0 + b1 * 256) (hb0 : 0 ≤ b0 ∧ b0 ≤ 255) (hb1 : 0 ≤ b1 ∧ b1 ≤ 255) (hA : IntsAt w0 H .u8 a [b0, b1]) (h : K (V4 (unp 7 X)) H) : HCalls Try.prog w0 42 [.int .i64 7, .slice a 2 c] H K := by
  have key : ∀ v, v = V4 (unp 7 X) → K v H := fun v e => by subst e; exact h
  clear h
  obtain ⟨b, o, rfl, hr, hf⟩ := hA (by simp)
  have r0 := hr 0 (by simp)
  have r1 := hr 1 (by simp)
  simp only [Nat.add_zero, List.getD, List.getElem?_cons_zero, List.getElem?_cons_succ, Option.getD_some] at r0 r1
  clear hr hA
  have u0 : IntKind.u32.wrap b0 = b0 := Bu.2.1 _ (by omega) (by omega)
  have y0 : IntKind.u64.wrap b0 = b0 := Bu.1 _ (by omega) (by omega)
  have u1 : IntKind.u32.wrap b1 = b1 := Bu.2.1 _ (by omega) (by omega)
  have y1 : IntKind.u64.wrap b1 = b1 := Bu.1 _ (by omega) (by omega)
  have hXX := hX
  clear hX
  refine HL.hc k42 999 ?_; unfold M42
  (all_goals (try simp only [Sh,Si,Sl,Bu,Bb,Bd,Bc,Bw,Bn,Int.reduceAdd,Int.reduceSub,Int.reduceMul,Int.reduceTDiv,Int.reduceTMod,Int.reduceMod,Int.reduceDiv,Nat.reduceLT,Nat.reduceEqDiff,decide_true,decide_false,Sa,Sb,Sc,Sd,Se,Sf,Sg,true_and,and_true,and_self,eq_self,b_i64,b_i32,b_u64,b_u32,b_u8,Int.reduceLE,Int.reduceLT,Int.reduceToNat,Int.reduceNeg,Int.reduceEq,Nat.reduceLeDiff,Nat.reducePow,Int.reducePow,Nat.min_def,reduceIte,Nat.reduceSub,Nat.reduceAdd,Nat.reduceMul,KP_same,KP_f,condS_t,condS_f,pick_t,pick_f,gS_tt,gS_ff,gS_tf,gS_ft,gS_u,gP_tt,gP_ff,gP_tf,gP_ft,gP_u,ptrV_eq,slcV_eq,mapV_eq,cells_agg,cells_int,cells_bool,cells_ptr,cells_slice,oc_int,oc_bool,oc_slice,oc_ptr,rd1_set,rd1_ne,rdn_set,rdn_ne,Heap.set_same,set_ne,Heap.set_set,set_up,set_up2,set_up3,putAt,ceq,List.map_cons,List.map_nil,List.length_cons,List.length_nil,List.length_set,List.cons_append,List.nil_append,List.append_nil,List.replicate,List.size_toArray,List.all_cons,List.all_nil,Bool.and_self,Bool.and_true,List.drop_zero,List.drop_succ_cons,List.take_succ_cons,List.take_zero,List.set_cons_zero,List.set_cons_succ,List.getElem?_cons_zero,List.getElem?_cons_succ,Option.map_some,Option.map_none,ne_eq,not_false_eq_true,not_true_eq_false,gt_iff_lt,ge_iff_le,Int.one_mul,Nat.zero_add,Nat.zero_mul,Bool.not_true,Bool.not_false,Bool.false_eq_true,Bool.and_false,Bool.false_and,Bool.true_and, *])); repeat' ((first | (with_reducible refine fun _ : True => ?_) | refine r_number b0 8 (by simp) (by omega) (by omega) ?_ | refine r_number b1 8 (by simp) (by omega) (by omega) ?_ | (with_reducible refine any_h ?_) | ((first | refine AllocQ_i ?_ | refine AllocO_i ?_); intro bk hb0 hbk; try simp only [set_none'] at hbk) | ((first | refine condS_i ?_ ?_ | refine pick_i ?_ ?_ | refine gS_it ?_ ?_ | refine gS_if ?_ ?_ | refine gP_it ?_ ?_ | refine gP_if ?_ ?_) <;> (intro hc; try simp only [Int.reduceLE,Int.reduceLT,Int.reduceEq,and_self,not_true_eq_false,not_false_eq_true,and_true,true_and,false_and,and_false,true_or,or_true,false_or,or_false,decide_eq_true_eq,decide_eq_false_iff_not,beq_iff_eq,beq_eq_false_iff_ne,bne_iff_ne,ne_eq,gt_iff_lt,ge_iff_le,Bool.not_eq_true,Bool.not_eq_false,Bool.not_eq_true',Bool.not_eq_false',Bool.not_eq_eq_eq_not,Bool.not_true,Bool.not_false] at hc)) | (refine KP_i (by (repeat' (first | exact Heap.Le.refl _ | (refine Le_fresh (by first | exact (by simp only [*]) | exact (by simp [set_none', *])) ?_) | (refine Heap.Le.trans ?_ (Grow.le (by assumption)))))) ?_) | (with_reducible refine And.intro ?_ ?_)) <;> (try simp only [Sh,Si,Sl,Bu,Bb,Bd,Bc,Bw,Bn,Int.reduceAdd,Int.reduceSub,Int.reduceMul,Int.reduceTDiv,Int.reduceTMod,Int.reduceMod,Int.reduceDiv,Nat.reduceLT,Nat.reduceEqDiff,decide_true,decide_false,Sa,Sb,Sc,Sd,Se,Sf,Sg,true_and,and_true,and_self,eq_self,b_i64,b_i32,b_u64,b_u32,b_u8,Int.reduceLE,Int.reduceLT,Int.reduceToNat,Int.reduceNeg,Int.reduceEq,Nat.reduceLeDiff,Nat.reducePow,Int.reducePow,Nat.min_def,reduceIte,Nat.reduceSub,Nat.reduceAdd,Nat.reduceMul,KP_same,KP_f,condS_t,condS_f,pick_t,pick_f,gS_tt,gS_ff,gS_tf,gS_ft,gS_u,gP_tt,gP_ff,gP_tf,gP_ft,gP_u,ptrV_eq,slcV_eq,mapV_eq,cells_agg,cells_int,cells_bool,cells_ptr,cells_slice,oc_int,oc_bool,oc_slice,oc_ptr,rd1_set,rd1_ne,rdn_set,rdn_ne,Heap.set_same,set_ne,Heap.set_set,set_up,set_up2,set_up3,putAt,ceq,List.map_cons,List.map_nil,List.length_cons,List.length_nil,List.length_set,List.cons_append,List.nil_append,List.append_nil,List.replicate,List.size_toArray,List.all_cons,List.all_nil,Bool.and_self,Bool.and_true,List.drop_zero,List.drop_succ_cons,List.take_succ_cons,List.take_zero,List.set_cons_zero,List.set_cons_succ,List.getElem?_cons_zero,List.getElem?_cons_succ,Option.map_some,Option.map_none,ne_eq,not_false_eq_true,not_true_eq_false,gt_iff_lt,ge_iff_le,Int.one_mul,Nat.zero_add,Nat.zero_mul,Bool.not_true,Bool.not_false,Bool.false_eq_true,Bool.and_false,Bool.false_and,Bool.true_and, *]))
  refine Fin_mk (by (repeat' (first | exact Heap.Le.refl _ | (refine Le_fresh (by first | exact (by simp only [*]) | exact (by simp [set_none', *])) ?_) | (refine Heap.Le.trans ?_ (Grow.le (by assumption)))))) (key _ ?_)
  have hX := hXX
  have x1 : X / 256 % 256 = b1 := by omega
  have x9 : X % 256 = b0 := by omega
  clear hX hXX
  simp [V4, unp, chan, x9, x1]
end Go.Proofs.Ytfokghepfcfbjaa
