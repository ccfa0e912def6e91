/- Instructions and codes as values; what the small functions of layer 16 and of its document return. -/
import Derived.Test.YtndgmnmnpfblmaaPa
import Derived.Test.YtndgmnmnpfblmaaProg
set_option linter.unusedSimpArgs false
set_option linter.unusedVariables false
set_option maxRecDepth 100000
set_option maxHeartbeats 4000000
namespace Go.Proofs.Ytndgmnmnpfblmaa
open Go.HL Go.RowKit Pb
variable {w0 : World} {H : Heap} {K : Value → Heap → Prop}

/-- An instruction. -/
structure Ins where
  op : Int
  fn : Int
  bs : Int
  n : Int
  dst : Int
  a : Int
  b : Int
  c : Int
  m0 : Int
  m1 : Int
  m2 : Int
  m3 : Int
  p0 : Int
  p1 : Int
  p2 : Int
  p3 : Int
  deriving DecidableEq
def Ins.row (i : Ins) : List Value := [.int .i64 i.op, .int .i64 i.fn, .int .i64 i.bs, .int .i64 i.n, .int .i64 i.dst, .int .i64 i.a, .int .i64 i.b, .int .i64 i.c,
  .int .i32 i.m0, .int .i32 i.m1, .int .i32 i.m2, .int .i32 i.m3, .int .i64 i.p0, .int .i64 i.p1, .int .i64 i.p2, .int .i64 i.p3]
def Ins.v (i : Ins) : Value := .agg i.row.toArray
def Ins.zero : Ins := ⟨0, 0, 0, 0, 0, 0, 0, 0, 0, 0, 0, 0, 0, 0, 0, 0⟩

/-- How many arguments a function takes of a base. -/
def args (fn bs : Int) : Int :=
  if 1 ≤ fn ∧ fn ≤ 11 ∨ fn = 20 then (if bs = 1 then 1 else 0)
  else if 12 ≤ fn ∧ fn ≤ 16 ∨ fn = 19 ∨ fn = 21 then (if bs = 1 then 2 else 0)
  else if fn = 17 ∨ fn = 18 then (if bs = 1 then 3 else 0)
  else if fn = 28 then (if bs = 1 ∨ bs = 2 then 1 else 0)
  else if 24 ≤ fn ∧ fn ≤ 27 ∨ 29 ≤ fn ∧ fn ≤ 32 then (if bs = 1 ∨ bs = 2 then 2 else 0)
  else if fn = 33 ∨ fn = 34 then (if 1 ≤ bs ∧ bs ≤ 3 then 2 else 0)
  else if fn = 35 then (if bs = 3 then 1 else 0)
  else 0
theorem args_le (fn bs : Int) : 0 ≤ args fn bs ∧ args fn bs ≤ 3 := by unfold args; (repeat' split) <;> omega
/- code Args -/
def M11 : MC :=
  .seq (.reg [⟨(some 4), .mv (.const (.int .i64 0)), none⟩])
  (.seq (.reg [⟨(some 5), .mv (.const (.int .i64 0)), none⟩,
      ⟨(some 6), .mv (.const (.int .i64 1)), none⟩])
   (.seq (.block 0 (.seq (.seq (.reg [⟨(some 8), .mv (.tmp 0), none⟩,
          ⟨(some 9), .bin .geq (.tmp 8) (.const (.int .i64 1)), none⟩,
          ⟨(some 10), .mv (.tmp 9), none⟩,
          ⟨(some 11), .mv (.tmp 0), (some (10, true))⟩,
          ⟨(some 12), .bin .leq (.tmp 11) (.const (.int .i64 11)), (some (10, true))⟩,
          ⟨(some 13), .pick (.tmp 10) (.tmp 12) (.const (.bool false)), none⟩,
          ⟨(some 7), .mv (.tmp 13), none⟩])
       (.cond (.tmp 7)
        (.skip)
        (.reg [⟨(some 14), .mv (.tmp 0), none⟩,
           ⟨(some 15), .bin .eql (.tmp 14) (.const (.int .i64 20)), none⟩,
           ⟨(some 7), .mv (.tmp 15), none⟩])))
      (.cond (.tmp 7)
       (.reg [⟨(some 5), .mv (.const (.int .i64 1)), none⟩])
       (.seq (.seq (.reg [⟨(some 17), .mv (.tmp 0), none⟩,
            ⟨(some 18), .bin .geq (.tmp 17) (.const (.int .i64 12)), none⟩,
            ⟨(some 19), .mv (.tmp 18), none⟩,
            ⟨(some 20), .mv (.tmp 0), (some (19, true))⟩,
            ⟨(some 21), .bin .leq (.tmp 20) (.const (.int .i64 16)), (some (19, true))⟩,
            ⟨(some 22), .pick (.tmp 19) (.tmp 21) (.const (.bool false)), none⟩,
            ⟨(some 16), .mv (.tmp 22), none⟩])
         (.cond (.tmp 16)
          (.skip)
          (.seq (.reg [⟨(some 23), .mv (.tmp 0), none⟩,
              ⟨(some 24), .bin .eql (.tmp 23) (.const (.int .i64 19)), none⟩,
              ⟨(some 16), .mv (.tmp 24), none⟩])
           (.cond (.tmp 16)
            (.skip)
            (.reg [⟨(some 25), .mv (.tmp 0), none⟩,
               ⟨(some 26), .bin .eql (.tmp 25) (.const (.int .i64 21)), none⟩,
               ⟨(some 16), .mv (.tmp 26), none⟩])))))
        (.cond (.tmp 16)
         (.reg [⟨(some 5), .mv (.const (.int .i64 2)), none⟩])
         (.seq (.seq (.reg [⟨(some 28), .mv (.tmp 0), none⟩,
              ⟨(some 29), .bin .eql (.tmp 28) (.const (.int .i64 17)), none⟩,
              ⟨(some 27), .mv (.tmp 29), none⟩])
           (.cond (.tmp 27)
            (.skip)
            (.reg [⟨(some 30), .mv (.tmp 0), none⟩,
               ⟨(some 31), .bin .eql (.tmp 30) (.const (.int .i64 18)), none⟩,
               ⟨(some 27), .mv (.tmp 31), none⟩])))
          (.cond (.tmp 27)
           (.reg [⟨(some 5), .mv (.const (.int .i64 3)), none⟩])
           (.seq (.reg [⟨(some 33), .mv (.tmp 0), none⟩,
               ⟨(some 34), .bin .eql (.tmp 33) (.const (.int .i64 28)), none⟩,
               ⟨(some 32), .mv (.tmp 34), none⟩])
            (.cond (.tmp 32)
             (.reg [⟨(some 5), .mv (.const (.int .i64 1)), none⟩,
                ⟨(some 6), .mv (.const (.int .i64 2)), none⟩])
             (.seq (.seq (.reg [⟨(some 36), .mv (.tmp 0), none⟩,
                  ⟨(some 37), .bin .geq (.tmp 36) (.const (.int .i64 24)), none⟩,
                  ⟨(some 38), .mv (.tmp 37), none⟩,
                  ⟨(some 39), .mv (.tmp 0), (some (38, true))⟩,
                  ⟨(some 40), .bin .leq (.tmp 39) (.const (.int .i64 27)), (some (38, true))⟩,
                  ⟨(some 41), .pick (.tmp 38) (.tmp 40) (.const (.bool false)), none⟩,
                  ⟨(some 35), .mv (.tmp 41), none⟩])
               (.cond (.tmp 35)
                (.skip)
                (.reg [⟨(some 42), .mv (.tmp 0), none⟩,
                   ⟨(some 43), .bin .geq (.tmp 42) (.const (.int .i64 29)), none⟩,
                   ⟨(some 44), .mv (.tmp 43), none⟩,
                   ⟨(some 45), .mv (.tmp 0), (some (44, true))⟩,
                   ⟨(some 46), .bin .leq (.tmp 45) (.const (.int .i64 32)), (some (44, true))⟩,
                   ⟨(some 47), .pick (.tmp 44) (.tmp 46) (.const (.bool false)), none⟩,
                   ⟨(some 35), .mv (.tmp 47), none⟩])))
              (.cond (.tmp 35)
               (.reg [⟨(some 5), .mv (.const (.int .i64 2)), none⟩,
                  ⟨(some 6), .mv (.const (.int .i64 2)), none⟩])
               (.seq (.seq (.reg [⟨(some 49), .mv (.tmp 0), none⟩,
                    ⟨(some 50), .bin .eql (.tmp 49) (.const (.int .i64 33)), none⟩,
                    ⟨(some 48), .mv (.tmp 50), none⟩])
                 (.cond (.tmp 48)
                  (.skip)
                  (.reg [⟨(some 51), .mv (.tmp 0), none⟩,
                     ⟨(some 52), .bin .eql (.tmp 51) (.const (.int .i64 34)), none⟩,
                     ⟨(some 48), .mv (.tmp 52), none⟩])))
                (.cond (.tmp 48)
                 (.reg [⟨(some 5), .mv (.const (.int .i64 2)), none⟩,
                    ⟨(some 6), .mv (.const (.int .i64 3)), none⟩])
                 (.seq (.reg [⟨(some 54), .mv (.tmp 0), none⟩,
                     ⟨(some 55), .bin .eql (.tmp 54) (.const (.int .i64 35)), none⟩,
                     ⟨(some 56), .mv (.tmp 55), none⟩,
                     ⟨(some 57), .mv (.tmp 1), (some (56, true))⟩,
                     ⟨(some 58), .bin .eql (.tmp 57) (.const (.int .i64 3)), (some (56, true))⟩,
                     ⟨(some 59), .pick (.tmp 56) (.tmp 58) (.const (.bool false)), none⟩,
                     ⟨(some 53), .mv (.tmp 59), none⟩])
                  (.cond (.tmp 53)
                   (.seq (.reg [⟨(some 4), .mv (.const (.int .i64 1)), none⟩])
                    (.ret))
                   (.skip))))))))))))))))
    (.seq (.seq (.reg [⟨(some 60), .mv (.tmp 1), none⟩,
         ⟨(some 61), .bin .lss (.tmp 60) (.const (.int .i64 1)), none⟩,
         ⟨(some 62), .mv (.tmp 61), none⟩,
         ⟨(some 63), .mv (.tmp 1), (some (62, false))⟩,
         ⟨(some 64), .mv (.tmp 6), (some (62, false))⟩,
         ⟨(some 65), .bin .gtr (.tmp 63) (.tmp 64), (some (62, false))⟩,
         ⟨(some 66), .pick (.tmp 62) (.const (.bool true)) (.tmp 65), none⟩])
      (.cond (.tmp 66)
       (.seq (.reg [⟨(some 4), .mv (.const (.int .i64 0)), none⟩])
        (.ret))
       (.skip)))
     (.seq (.reg [⟨(some 67), .mv (.tmp 5), none⟩,
         ⟨(some 4), .mv (.tmp 67), none⟩])
      (.ret)))))
theorem k11 : fnOk Try.prog 11 = some (M11, [.t 4], 68) := by kernel_rfl
/- paintboxref16 Args -/
def M12 : MC :=
  .seq (.reg [⟨(some 4), .mv (.const (.int .i64 0)), none⟩])
  (.seq (.reg [⟨(some 8), .mv (.tmp 1), none⟩,
      ⟨(some 9), .bin .eql (.tmp 8) (.const (.int .i64 1)), none⟩,
      ⟨(some 10), .mv (.tmp 1), none⟩,
      ⟨(some 11), .bin .eql (.tmp 10) (.const (.int .i64 2)), none⟩,
      ⟨(some 12), .mv (.tmp 1), none⟩,
      ⟨(some 13), .bin .eql (.tmp 12) (.const (.int .i64 3)), none⟩,
      ⟨(some 5), .mv (.tmp 9), none⟩,
      ⟨(some 6), .mv (.tmp 11), none⟩,
      ⟨(some 7), .mv (.tmp 13), none⟩])
   (.seq (.block 0 (.seq (.seq (.reg [⟨(some 15), .mv (.tmp 0), none⟩,
          ⟨(some 16), .bin .geq (.tmp 15) (.const (.int .i64 1)), none⟩,
          ⟨(some 17), .mv (.tmp 16), none⟩,
          ⟨(some 18), .mv (.tmp 0), (some (17, true))⟩,
          ⟨(some 19), .bin .leq (.tmp 18) (.const (.int .i64 11)), (some (17, true))⟩,
          ⟨(some 20), .pick (.tmp 17) (.tmp 19) (.const (.bool false)), none⟩,
          ⟨(some 21), .mv (.tmp 20), none⟩,
          ⟨(some 22), .mv (.tmp 0), (some (21, false))⟩,
          ⟨(some 23), .bin .eql (.tmp 22) (.const (.int .i64 20)), (some (21, false))⟩,
          ⟨(some 24), .pick (.tmp 21) (.const (.bool true)) (.tmp 23), none⟩,
          ⟨(some 25), .mv (.tmp 24), none⟩,
          ⟨(some 26), .mv (.tmp 5), (some (25, true))⟩,
          ⟨(some 27), .pick (.tmp 25) (.tmp 26) (.const (.bool false)), none⟩,
          ⟨(some 14), .mv (.tmp 27), none⟩])
       (.cond (.tmp 14)
        (.skip)
        (.seq (.reg [⟨(some 28), .mv (.tmp 0), none⟩,
            ⟨(some 29), .bin .eql (.tmp 28) (.const (.int .i64 28)), none⟩,
            ⟨(some 30), .mv (.tmp 29), none⟩,
            ⟨(some 31), .mv (.tmp 5), (some (30, true))⟩,
            ⟨(some 32), .mv (.tmp 31), (some (30, true))⟩,
            ⟨(some 33), .mv (.tmp 6), (some (32, false))⟩,
            ⟨(some 34), .pick (.tmp 32) (.const (.bool true)) (.tmp 33), (some (30, true))⟩,
            ⟨(some 35), .pick (.tmp 30) (.tmp 34) (.const (.bool false)), none⟩,
            ⟨(some 14), .mv (.tmp 35), none⟩])
         (.cond (.tmp 14)
          (.skip)
          (.reg [⟨(some 36), .mv (.tmp 0), none⟩,
             ⟨(some 37), .bin .eql (.tmp 36) (.const (.int .i64 35)), none⟩,
             ⟨(some 38), .mv (.tmp 37), none⟩,
             ⟨(some 39), .mv (.tmp 7), (some (38, true))⟩,
             ⟨(some 40), .pick (.tmp 38) (.tmp 39) (.const (.bool false)), none⟩,
             ⟨(some 14), .mv (.tmp 40), none⟩])))))
      (.cond (.tmp 14)
       (.seq (.reg [⟨(some 4), .mv (.const (.int .i64 1)), none⟩])
        (.ret))
       (.seq (.seq (.reg [⟨(some 42), .mv (.tmp 0), none⟩,
            ⟨(some 43), .bin .geq (.tmp 42) (.const (.int .i64 12)), none⟩,
            ⟨(some 44), .mv (.tmp 43), none⟩,
            ⟨(some 45), .mv (.tmp 0), (some (44, true))⟩,
            ⟨(some 46), .bin .leq (.tmp 45) (.const (.int .i64 16)), (some (44, true))⟩,
            ⟨(some 47), .pick (.tmp 44) (.tmp 46) (.const (.bool false)), none⟩,
            ⟨(some 48), .mv (.tmp 47), none⟩,
            ⟨(some 49), .mv (.tmp 0), (some (48, false))⟩,
            ⟨(some 50), .bin .eql (.tmp 49) (.const (.int .i64 19)), (some (48, false))⟩,
            ⟨(some 51), .pick (.tmp 48) (.const (.bool true)) (.tmp 50), none⟩,
            ⟨(some 52), .mv (.tmp 51), none⟩,
            ⟨(some 53), .mv (.tmp 0), (some (52, false))⟩,
            ⟨(some 54), .bin .eql (.tmp 53) (.const (.int .i64 21)), (some (52, false))⟩,
            ⟨(some 55), .pick (.tmp 52) (.const (.bool true)) (.tmp 54), none⟩,
            ⟨(some 56), .mv (.tmp 55), none⟩,
            ⟨(some 57), .mv (.tmp 5), (some (56, true))⟩,
            ⟨(some 58), .pick (.tmp 56) (.tmp 57) (.const (.bool false)), none⟩,
            ⟨(some 41), .mv (.tmp 58), none⟩])
         (.cond (.tmp 41)
          (.skip)
          (.seq (.reg [⟨(some 59), .mv (.tmp 0), none⟩,
              ⟨(some 60), .bin .geq (.tmp 59) (.const (.int .i64 24)), none⟩,
              ⟨(some 61), .mv (.tmp 60), none⟩,
              ⟨(some 62), .mv (.tmp 0), (some (61, true))⟩,
              ⟨(some 63), .bin .leq (.tmp 62) (.const (.int .i64 27)), (some (61, true))⟩,
              ⟨(some 64), .pick (.tmp 61) (.tmp 63) (.const (.bool false)), none⟩,
              ⟨(some 65), .mv (.tmp 64), none⟩,
              ⟨(some 66), .mv (.tmp 0), (some (65, false))⟩,
              ⟨(some 67), .bin .geq (.tmp 66) (.const (.int .i64 29)), (some (65, false))⟩,
              ⟨(some 68), .mv (.tmp 67), (some (65, false))⟩,
              ⟨(some 69), .mv (.tmp 0), (some (68, true))⟩,
              ⟨(some 70), .bin .leq (.tmp 69) (.const (.int .i64 32)), (some (68, true))⟩,
              ⟨(some 71), .pick (.tmp 68) (.tmp 70) (.const (.bool false)), (some (65, false))⟩,
              ⟨(some 72), .pick (.tmp 65) (.const (.bool true)) (.tmp 71), none⟩,
              ⟨(some 73), .mv (.tmp 72), none⟩,
              ⟨(some 74), .mv (.tmp 5), (some (73, true))⟩,
              ⟨(some 75), .mv (.tmp 74), (some (73, true))⟩,
              ⟨(some 76), .mv (.tmp 6), (some (75, false))⟩,
              ⟨(some 77), .pick (.tmp 75) (.const (.bool true)) (.tmp 76), (some (73, true))⟩,
              ⟨(some 78), .pick (.tmp 73) (.tmp 77) (.const (.bool false)), none⟩,
              ⟨(some 41), .mv (.tmp 78), none⟩])
           (.cond (.tmp 41)
            (.skip)
            (.reg [⟨(some 79), .mv (.tmp 0), none⟩,
               ⟨(some 80), .bin .eql (.tmp 79) (.const (.int .i64 33)), none⟩,
               ⟨(some 81), .mv (.tmp 80), none⟩,
               ⟨(some 82), .mv (.tmp 0), (some (81, false))⟩,
               ⟨(some 83), .bin .eql (.tmp 82) (.const (.int .i64 34)), (some (81, false))⟩,
               ⟨(some 84), .pick (.tmp 81) (.const (.bool true)) (.tmp 83), none⟩,
               ⟨(some 85), .mv (.tmp 84), none⟩,
               ⟨(some 86), .mv (.tmp 5), (some (85, true))⟩,
               ⟨(some 87), .mv (.tmp 86), (some (85, true))⟩,
               ⟨(some 88), .mv (.tmp 6), (some (87, false))⟩,
               ⟨(some 89), .pick (.tmp 87) (.const (.bool true)) (.tmp 88), (some (85, true))⟩,
               ⟨(some 90), .mv (.tmp 89), (some (85, true))⟩,
               ⟨(some 91), .mv (.tmp 7), (some (90, false))⟩,
               ⟨(some 92), .pick (.tmp 90) (.const (.bool true)) (.tmp 91), (some (85, true))⟩,
               ⟨(some 93), .pick (.tmp 85) (.tmp 92) (.const (.bool false)), none⟩,
               ⟨(some 41), .mv (.tmp 93), none⟩])))))
        (.cond (.tmp 41)
         (.seq (.reg [⟨(some 4), .mv (.const (.int .i64 2)), none⟩])
          (.ret))
         (.seq (.reg [⟨(some 95), .mv (.tmp 0), none⟩,
             ⟨(some 96), .bin .eql (.tmp 95) (.const (.int .i64 17)), none⟩,
             ⟨(some 97), .mv (.tmp 96), none⟩,
             ⟨(some 98), .mv (.tmp 0), (some (97, false))⟩,
             ⟨(some 99), .bin .eql (.tmp 98) (.const (.int .i64 18)), (some (97, false))⟩,
             ⟨(some 100), .pick (.tmp 97) (.const (.bool true)) (.tmp 99), none⟩,
             ⟨(some 101), .mv (.tmp 100), none⟩,
             ⟨(some 102), .mv (.tmp 5), (some (101, true))⟩,
             ⟨(some 103), .pick (.tmp 101) (.tmp 102) (.const (.bool false)), none⟩,
             ⟨(some 94), .mv (.tmp 103), none⟩])
          (.cond (.tmp 94)
           (.seq (.reg [⟨(some 4), .mv (.const (.int .i64 3)), none⟩])
            (.ret))
           (.skip))))))))
    (.seq (.reg [⟨(some 4), .mv (.const (.int .i64 0)), none⟩])
     (.ret))))
theorem k12 : fnOk Try.prog 12 = some (M12, [.t 4], 104) := by kernel_rfl

theorem c_Args (fn bs : Int) (h : K (.int .i64 (args fn bs)) H) : HCalls Try.prog w0 11 [.int .i64 fn, .int .i64 bs] H K := by
  refine HL.hc k11 999 ?_; unfold M11
  (all_goals (try simp only [Sh,Si,Sl,Bu,Bb,Bd,Bc,Bw,Bn,Int.reduceAdd,Int.reduceSub,Int.reduceMul,Int.reduceTDiv,Int.reduceTMod,Int.reduceMod,Int.reduceDiv,Nat.reduceLT,Nat.reduceEqDiff,decide_true,decide_false,Sa,Sb,Sc,Sd,Se,Sf,Sg,true_and,and_true,and_self,eq_self,b_i64,b_i32,b_u64,b_u32,b_u8,Int.reduceLE,Int.reduceLT,Int.reduceToNat,Int.reduceNeg,Int.reduceEq,Nat.reduceLeDiff,Nat.reducePow,Int.reducePow,Nat.min_def,reduceIte,Nat.reduceSub,Nat.reduceAdd,Nat.reduceMul,KP_same,KP_f,condS_t,condS_f,pick_t,pick_f,gS_tt,gS_ff,gS_tf,gS_ft,gS_u,gP_tt,gP_ff,gP_tf,gP_ft,gP_u,ptrV_eq,slcV_eq,mapV_eq,cells_agg,cells_int,cells_bool,cells_ptr,cells_slice,oc_int,oc_bool,oc_slice,oc_ptr,rd1_set,rd1_ne,rdn_set,rdn_ne,Heap.set_same,set_ne,Heap.set_set,set_up,set_up2,set_up3,putAt,ceq,List.map_cons,List.map_nil,List.length_cons,List.length_nil,List.length_set,List.cons_append,List.nil_append,List.append_nil,List.replicate,List.size_toArray,List.all_cons,List.all_nil,Bool.and_self,Bool.and_true,List.drop_zero,List.drop_succ_cons,List.take_succ_cons,List.take_zero,List.set_cons_zero,List.set_cons_succ,List.getElem?_cons_zero,List.getElem?_cons_succ,Option.map_some,Option.map_none,ne_eq,not_false_eq_true,not_true_eq_false,gt_iff_lt,ge_iff_le,Int.one_mul,Nat.zero_add,Nat.zero_mul,Bool.not_true,Bool.not_false,Bool.false_eq_true,Bool.and_false,Bool.false_and,Bool.true_and, *])); repeat' ((first | (with_reducible refine fun _ : True => ?_) | (with_reducible refine any_h ?_) | ((first | refine AllocQ_i ?_ | refine AllocO_i ?_); intro bk hb0 hbk; try simp only [set_none'] at hbk) | ((first | refine condS_i ?_ ?_ | refine pick_i ?_ ?_ | refine gS_it ?_ ?_ | refine gS_if ?_ ?_ | refine gP_it ?_ ?_ | refine gP_if ?_ ?_) <;> (intro hc; try simp only [Int.reduceLE,Int.reduceLT,Int.reduceEq,and_self,not_true_eq_false,not_false_eq_true,and_true,true_and,false_and,and_false,true_or,or_true,false_or,or_false,decide_eq_true_eq,decide_eq_false_iff_not,beq_iff_eq,beq_eq_false_iff_ne,bne_iff_ne,ne_eq,gt_iff_lt,ge_iff_le,Bool.not_eq_true,Bool.not_eq_false,Bool.not_eq_true',Bool.not_eq_false',Bool.not_eq_eq_eq_not,Bool.not_true,Bool.not_false] at hc; try (exfalso; omega))) | (refine KP_i (by (repeat' (first | exact Heap.Le.refl _ | (refine Le_fresh (by first | exact (by simp only [*]) | exact (by simp [set_none', *])) ?_) | (refine Heap.Le.trans ?_ (Grow.le (by assumption)))))) ?_) | (with_reducible refine And.intro ?_ ?_)) <;> (try simp only [Sh,Si,Sl,Bu,Bb,Bd,Bc,Bw,Bn,Int.reduceAdd,Int.reduceSub,Int.reduceMul,Int.reduceTDiv,Int.reduceTMod,Int.reduceMod,Int.reduceDiv,Nat.reduceLT,Nat.reduceEqDiff,decide_true,decide_false,Sa,Sb,Sc,Sd,Se,Sf,Sg,true_and,and_true,and_self,eq_self,b_i64,b_i32,b_u64,b_u32,b_u8,Int.reduceLE,Int.reduceLT,Int.reduceToNat,Int.reduceNeg,Int.reduceEq,Nat.reduceLeDiff,Nat.reducePow,Int.reducePow,Nat.min_def,reduceIte,Nat.reduceSub,Nat.reduceAdd,Nat.reduceMul,KP_same,KP_f,condS_t,condS_f,pick_t,pick_f,gS_tt,gS_ff,gS_tf,gS_ft,gS_u,gP_tt,gP_ff,gP_tf,gP_ft,gP_u,ptrV_eq,slcV_eq,mapV_eq,cells_agg,cells_int,cells_bool,cells_ptr,cells_slice,oc_int,oc_bool,oc_slice,oc_ptr,rd1_set,rd1_ne,rdn_set,rdn_ne,Heap.set_same,set_ne,Heap.set_set,set_up,set_up2,set_up3,putAt,ceq,List.map_cons,List.map_nil,List.length_cons,List.length_nil,List.length_set,List.cons_append,List.nil_append,List.append_nil,List.replicate,List.size_toArray,List.all_cons,List.all_nil,Bool.and_self,Bool.and_true,List.drop_zero,List.drop_succ_cons,List.take_succ_cons,List.take_zero,List.set_cons_zero,List.set_cons_succ,List.getElem?_cons_zero,List.getElem?_cons_succ,Option.map_some,Option.map_none,ne_eq,not_false_eq_true,not_true_eq_false,gt_iff_lt,ge_iff_le,Int.one_mul,Nat.zero_add,Nat.zero_mul,Bool.not_true,Bool.not_false,Bool.false_eq_true,Bool.and_false,Bool.false_and,Bool.true_and, *]))
  all_goals refine Fin_mk (Heap.Le.refl _) (K_int h ?_)
  all_goals (unfold args; (repeat' split) <;> omega)
theorem r_Args (fn bs : Int) (h : K (.int .i64 (args fn bs)) H) : HCalls Try.prog w0 12 [.int .i64 fn, .int .i64 bs] H K := by
  refine HL.hc k12 999 ?_; unfold M12
  (all_goals (try simp only [Sh,Si,Sl,Bu,Bb,Bd,Bc,Bw,Bn,Int.reduceAdd,Int.reduceSub,Int.reduceMul,Int.reduceTDiv,Int.reduceTMod,Int.reduceMod,Int.reduceDiv,Nat.reduceLT,Nat.reduceEqDiff,decide_true,decide_false,Sa,Sb,Sc,Sd,Se,Sf,Sg,true_and,and_true,and_self,eq_self,b_i64,b_i32,b_u64,b_u32,b_u8,Int.reduceLE,Int.reduceLT,Int.reduceToNat,Int.reduceNeg,Int.reduceEq,Nat.reduceLeDiff,Nat.reducePow,Int.reducePow,Nat.min_def,reduceIte,Nat.reduceSub,Nat.reduceAdd,Nat.reduceMul,KP_same,KP_f,condS_t,condS_f,pick_t,pick_f,gS_tt,gS_ff,gS_tf,gS_ft,gS_u,gP_tt,gP_ff,gP_tf,gP_ft,gP_u,ptrV_eq,slcV_eq,mapV_eq,cells_agg,cells_int,cells_bool,cells_ptr,cells_slice,oc_int,oc_bool,oc_slice,oc_ptr,rd1_set,rd1_ne,rdn_set,rdn_ne,Heap.set_same,set_ne,Heap.set_set,set_up,set_up2,set_up3,putAt,ceq,List.map_cons,List.map_nil,List.length_cons,List.length_nil,List.length_set,List.cons_append,List.nil_append,List.append_nil,List.replicate,List.size_toArray,List.all_cons,List.all_nil,Bool.and_self,Bool.and_true,List.drop_zero,List.drop_succ_cons,List.take_succ_cons,List.take_zero,List.set_cons_zero,List.set_cons_succ,List.getElem?_cons_zero,List.getElem?_cons_succ,Option.map_some,Option.map_none,ne_eq,not_false_eq_true,not_true_eq_false,gt_iff_lt,ge_iff_le,Int.one_mul,Nat.zero_add,Nat.zero_mul,Bool.not_true,Bool.not_false,Bool.false_eq_true,Bool.and_false,Bool.false_and,Bool.true_and, *])); repeat' ((first | (with_reducible refine fun _ : True => ?_) | (with_reducible refine any_h ?_) | ((first | refine AllocQ_i ?_ | refine AllocO_i ?_); intro bk hb0 hbk; try simp only [set_none'] at hbk) | ((first | refine condS_i ?_ ?_ | refine pick_i ?_ ?_ | refine gS_it ?_ ?_ | refine gS_if ?_ ?_ | refine gP_it ?_ ?_ | refine gP_if ?_ ?_) <;> (intro hc; try simp only [Int.reduceLE,Int.reduceLT,Int.reduceEq,and_self,not_true_eq_false,not_false_eq_true,and_true,true_and,false_and,and_false,true_or,or_true,false_or,or_false,decide_eq_true_eq,decide_eq_false_iff_not,beq_iff_eq,beq_eq_false_iff_ne,bne_iff_ne,ne_eq,gt_iff_lt,ge_iff_le,Bool.not_eq_true,Bool.not_eq_false,Bool.not_eq_true',Bool.not_eq_false',Bool.not_eq_eq_eq_not,Bool.not_true,Bool.not_false] at hc; try (exfalso; omega))) | (refine KP_i (by (repeat' (first | exact Heap.Le.refl _ | (refine Le_fresh (by first | exact (by simp only [*]) | exact (by simp [set_none', *])) ?_) | (refine Heap.Le.trans ?_ (Grow.le (by assumption)))))) ?_) | (with_reducible refine And.intro ?_ ?_)) <;> (try simp only [Sh,Si,Sl,Bu,Bb,Bd,Bc,Bw,Bn,Int.reduceAdd,Int.reduceSub,Int.reduceMul,Int.reduceTDiv,Int.reduceTMod,Int.reduceMod,Int.reduceDiv,Nat.reduceLT,Nat.reduceEqDiff,decide_true,decide_false,Sa,Sb,Sc,Sd,Se,Sf,Sg,true_and,and_true,and_self,eq_self,b_i64,b_i32,b_u64,b_u32,b_u8,Int.reduceLE,Int.reduceLT,Int.reduceToNat,Int.reduceNeg,Int.reduceEq,Nat.reduceLeDiff,Nat.reducePow,Int.reducePow,Nat.min_def,reduceIte,Nat.reduceSub,Nat.reduceAdd,Nat.reduceMul,KP_same,KP_f,condS_t,condS_f,pick_t,pick_f,gS_tt,gS_ff,gS_tf,gS_ft,gS_u,gP_tt,gP_ff,gP_tf,gP_ft,gP_u,ptrV_eq,slcV_eq,mapV_eq,cells_agg,cells_int,cells_bool,cells_ptr,cells_slice,oc_int,oc_bool,oc_slice,oc_ptr,rd1_set,rd1_ne,rdn_set,rdn_ne,Heap.set_same,set_ne,Heap.set_set,set_up,set_up2,set_up3,putAt,ceq,List.map_cons,List.map_nil,List.length_cons,List.length_nil,List.length_set,List.cons_append,List.nil_append,List.append_nil,List.replicate,List.size_toArray,List.all_cons,List.all_nil,Bool.and_self,Bool.and_true,List.drop_zero,List.drop_succ_cons,List.take_succ_cons,List.take_zero,List.set_cons_zero,List.set_cons_succ,List.getElem?_cons_zero,List.getElem?_cons_succ,Option.map_some,Option.map_none,ne_eq,not_false_eq_true,not_true_eq_false,gt_iff_lt,ge_iff_le,Int.one_mul,Nat.zero_add,Nat.zero_mul,Bool.not_true,Bool.not_false,Bool.false_eq_true,Bool.and_false,Bool.false_and,Bool.true_and, *]))
  all_goals refine Fin_mk (Heap.Le.refl _) (K_int h ?_)
  all_goals (unfold args; (repeat' split) <;> omega)
end Go.Proofs.Ytndgmnmnpfblmaa
