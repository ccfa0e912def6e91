/- What an instruction keeps, by the program (layer 16). -/
import Derived.Test.YtndgmnmnpfblmaaCdb
set_option linter.unusedSimpArgs false
set_option linter.unusedVariables false
set_option maxRecDepth 100000
set_option maxHeartbeats 4000000
namespace Go.Proofs.Ytndgmnmnpfblmaa
open Go.HL Go.RowKit Pb
variable {w0 : World} {H : Heap} {K : Value → Heap → Prop}

/-- An instruction with just the fields that its op uses. -/
def keepI (i : Ins) : Ins :=
  if i.op = 1 then ⟨i.op, 0, 0, 0, i.dst, 0, 0, 0, i.m0, i.m1, i.m2, i.m3, 0, 0, 0, 0⟩
  else if i.op = 2 then ⟨i.op, 0, 0, 0, i.dst, i.a, 0, 0, 0, 0, 0, 0, 0, 0, 0, 0⟩
  else if i.op = 10 then ⟨i.op, 0, 0, 0, 0, i.a, 0, 0, 0, 0, 0, 0, 0, 0, 0, 0⟩
  else if i.op = 3 then ⟨i.op, i.fn, 0, 0, i.dst, i.a, 0, 0, 0, 0, 0, 0, 0, 0, 0, 0⟩
  else if i.op = 4 then ⟨i.op, i.fn, 0, 0, 0, i.a, i.b, 0, 0, 0, 0, 0, 0, 0, 0, 0⟩
  else if i.op = 5 then ⟨i.op, i.fn, i.bs, i.n, i.dst, if 1 ≤ args i.fn i.bs then i.a else 0, if 2 ≤ args i.fn i.bs then i.b else 0, if 3 ≤ args i.fn i.bs then i.c else 0, 0, 0, 0, 0, 0, 0, 0, 0⟩
  else if i.op = 6 ∨ i.op = 7 then ⟨i.op, 0, 0, i.n, i.dst, i.a, 0, 0, 0, 0, 0, 0, i.p0, i.p1, i.p2, i.p3⟩
  else if i.op = 8 then ⟨i.op, i.fn, i.bs, i.n, i.dst, i.a, 0, 0, 0, 0, 0, 0, 0, 0, 0, 0⟩
  else if i.op = 9 then ⟨i.op, 0, 0, 0, i.dst, i.a, i.b, 0, 0, 0, 0, 0, 0, 0, 0, 0⟩
  else if i.op = 11 then ⟨i.op, 0, 0, 0, 0, i.a, i.b, 0, 0, 0, 0, 0, 0, 0, 0, 0⟩
  else ⟨i.op, 0, 0, 0, 0, 0, 0, 0, 0, 0, 0, 0, 0, 0, 0, 0⟩
/- code keep -/
def M32 : MC :=
  .seq (.reg [⟨(some 1), .box 30 (.tmp 0), none⟩,
     ⟨(some 2), .alloc 30 [(.int .i64 0), (.int .i64 0), (.int .i64 0), (.int .i64 0), (.int .i64 0), (.int .i64 0), (.int .i64 0), (.int .i64 0), (.int .i32 0), (.int .i32 0), (.int .i32 0), (.int .i32 0), (.int .i64 0), (.int .i64 0), (.int .i64 0), (.int .i64 0)], none⟩])
  (.seq (.reg [⟨(some 6), .fa 0 (.tmp 1), none⟩,
      ⟨(some 7), .ld1 (.tmp 6), none⟩,
      ⟨(some 8), .build [(.int .i64 0), (.int .i64 0), (.int .i64 0), (.int .i64 0), (.int .i64 0), (.int .i64 0), (.int .i64 0), (.int .i64 0), (.int .i32 0), (.int .i32 0), (.int .i32 0), (.int .i32 0), (.int .i64 0), (.int .i64 0), (.int .i64 0), (.int .i64 0)] [(0, 1, (.tmp 7))], none⟩,
      ⟨(some 3), .alloc 30 [(.int .i64 0), (.int .i64 0), (.int .i64 0), (.int .i64 0), (.int .i64 0), (.int .i64 0), (.int .i64 0), (.int .i64 0), (.int .i32 0), (.int .i32 0), (.int .i32 0), (.int .i32 0), (.int .i64 0), (.int .i64 0), (.int .i64 0), (.int .i64 0)], none⟩,
      ⟨none, .stn 16 (.tmp 3) (.tmp 8), none⟩])
   (.seq (.reg [⟨(some 10), .ldn 16 (.tmp 1), none⟩,
       ⟨(some 11), .call 20 [(.tmp 10)], none⟩,
       ⟨(some 9), .mv (.tmp 11), none⟩,
       ⟨(some 12), .ext 0 (.tmp 9), none⟩,
       ⟨(some 13), .ext 1 (.tmp 9), none⟩,
       ⟨(some 14), .fa 4 (.tmp 3), none⟩,
       ⟨none, .st1 (.tmp 14) (.tmp 12), none⟩])
    (.seq (.seq (.reg [⟨(some 15), .fa 0 (.tmp 1), none⟩,
         ⟨(some 16), .ld1 (.tmp 15), none⟩])
      (.block 0 (.seq (.reg [⟨(some 18), .bin .eql (.tmp 16) (.const (.int .i64 1)), none⟩,
           ⟨(some 17), .mv (.tmp 18), none⟩])
        (.cond (.tmp 17)
         (.reg [⟨(some 19), .fa 8 (.tmp 1), none⟩,
            ⟨(some 20), .ldn 4 (.tmp 19), none⟩,
            ⟨(some 21), .fa 8 (.tmp 3), none⟩,
            ⟨none, .stn 4 (.tmp 21) (.tmp 20), none⟩])
         (.seq (.seq (.reg [⟨(some 23), .bin .eql (.tmp 16) (.const (.int .i64 2)), none⟩,
              ⟨(some 22), .mv (.tmp 23), none⟩])
           (.cond (.tmp 22)
            (.skip)
            (.reg [⟨(some 24), .bin .eql (.tmp 16) (.const (.int .i64 10)), none⟩,
               ⟨(some 22), .mv (.tmp 24), none⟩])))
          (.cond (.tmp 22)
           (.reg [⟨(some 25), .fa 5 (.tmp 1), none⟩,
              ⟨(some 26), .ld1 (.tmp 25), none⟩,
              ⟨(some 27), .fa 5 (.tmp 3), none⟩,
              ⟨none, .st1 (.tmp 27) (.tmp 26), none⟩])
           (.seq (.reg [⟨(some 29), .bin .eql (.tmp 16) (.const (.int .i64 3)), none⟩,
               ⟨(some 28), .mv (.tmp 29), none⟩])
            (.cond (.tmp 28)
             (.any [(true, 0, [], ⟨(some 30), .fa 1 (.tmp 1), none⟩),
                (true, 1, [], ⟨(some 31), .ld1 (.tmp 30), none⟩),
                (true, 2, [], ⟨(some 32), .fa 5 (.tmp 1), none⟩),
                (true, 3, [], ⟨(some 33), .ld1 (.tmp 32), none⟩),
                (false, 4, [2, 3], ⟨(some 34), .fa 1 (.tmp 3), none⟩),
                (false, 5, [2, 3], ⟨none, .st1 (.tmp 34) (.tmp 31), none⟩),
                (false, 6, [], ⟨(some 35), .fa 5 (.tmp 3), none⟩),
                (false, 7, [], ⟨none, .st1 (.tmp 35) (.tmp 33), none⟩)])
             (.seq (.reg [⟨(some 37), .bin .eql (.tmp 16) (.const (.int .i64 4)), none⟩,
                 ⟨(some 36), .mv (.tmp 37), none⟩])
              (.cond (.tmp 36)
               (.any [(true, 0, [], ⟨(some 38), .fa 1 (.tmp 1), none⟩),
                  (true, 1, [], ⟨(some 39), .ld1 (.tmp 38), none⟩),
                  (true, 2, [], ⟨(some 40), .fa 5 (.tmp 1), none⟩),
                  (true, 3, [], ⟨(some 41), .ld1 (.tmp 40), none⟩),
                  (true, 4, [], ⟨(some 42), .fa 6 (.tmp 1), none⟩),
                  (true, 5, [], ⟨(some 43), .ld1 (.tmp 42), none⟩),
                  (false, 6, [2, 3, 4, 5], ⟨(some 44), .fa 1 (.tmp 3), none⟩),
                  (false, 7, [2, 3, 4, 5], ⟨none, .st1 (.tmp 44) (.tmp 39), none⟩),
                  (false, 8, [4, 5], ⟨(some 45), .fa 5 (.tmp 3), none⟩),
                  (false, 9, [4, 5], ⟨none, .st1 (.tmp 45) (.tmp 41), none⟩),
                  (false, 10, [], ⟨(some 46), .fa 6 (.tmp 3), none⟩),
                  (false, 11, [], ⟨none, .st1 (.tmp 46) (.tmp 43), none⟩)])
               (.seq (.reg [⟨(some 48), .bin .eql (.tmp 16) (.const (.int .i64 5)), none⟩,
                   ⟨(some 47), .mv (.tmp 48), none⟩])
                (.cond (.tmp 47)
                 (.seq (.any [(true, 0, [], ⟨(some 49), .fa 1 (.tmp 1), none⟩),
                     (true, 1, [], ⟨(some 50), .ld1 (.tmp 49), none⟩),
                     (true, 2, [], ⟨(some 51), .fa 2 (.tmp 1), none⟩),
                     (true, 3, [], ⟨(some 52), .ld1 (.tmp 51), none⟩),
                     (true, 4, [], ⟨(some 53), .fa 3 (.tmp 1), none⟩),
                     (true, 5, [], ⟨(some 54), .ld1 (.tmp 53), none⟩),
                     (false, 6, [2, 3, 4, 5], ⟨(some 55), .fa 1 (.tmp 3), none⟩),
                     (false, 7, [2, 3, 4, 5], ⟨none, .st1 (.tmp 55) (.tmp 50), none⟩),
                     (false, 8, [4, 5], ⟨(some 56), .fa 2 (.tmp 3), none⟩),
                     (false, 9, [4, 5], ⟨none, .st1 (.tmp 56) (.tmp 52), none⟩),
                     (false, 10, [], ⟨(some 57), .fa 3 (.tmp 3), none⟩),
                     (false, 11, [], ⟨none, .st1 (.tmp 57) (.tmp 54), none⟩)])
                  (.seq (.reg [⟨(some 58), .ldn 16 (.tmp 1), none⟩,
                      ⟨(some 59), .call 19 [(.tmp 58)], none⟩,
                      ⟨(some 60), .len (.tmp 59), none⟩,
                      ⟨(some 61), .mv (.const (.int .i64 0)), none⟩])
                   (.block 1 (.loop (.seq (.reg [⟨(some 62), .bin .lss (.tmp 61) (.tmp 60), none⟩])
                      (.seq (.cond (.tmp 62)
                        (.skip)
                        (.exit 1))
                       (.seq (.block 2 (.seq (.reg [⟨(some 63), .mv (.tmp 61), none⟩,
                             ⟨(some 64), .is 1 (.tmp 59) (.tmp 61), none⟩,
                             ⟨(some 65), .ld1 (.tmp 64), none⟩,
                             ⟨(some 4), .mv (.tmp 63), none⟩,
                             ⟨(some 5), .mv (.tmp 65), none⟩])
                          (.reg [⟨(some 66), .fa 5 (.tmp 3), none⟩,
                             ⟨(some 67), .fa 6 (.tmp 3), none⟩,
                             ⟨(some 68), .fa 7 (.tmp 3), none⟩,
                             ⟨(some 69), .bslice 76 3 [(.pointer none), (.pointer none), (.pointer none)] [(0, 1, (.tmp 66)), (1, 1, (.tmp 67)), (2, 1, (.tmp 68))], none⟩,
                             ⟨(some 70), .mv (.tmp 4), none⟩,
                             ⟨(some 71), .is 1 (.tmp 69) (.tmp 70), none⟩,
                             ⟨(some 72), .ld1 (.tmp 71), none⟩,
                             ⟨(some 73), .mv (.tmp 5), none⟩,
                             ⟨(some 74), .nilc (.tmp 72), none⟩,
                             ⟨none, .st1 (.tmp 74) (.tmp 73), none⟩])))
                        (.reg [⟨(some 75), .bin .add (.tmp 61) (.const (.int .i64 1)), none⟩,
                           ⟨(some 61), .mv (.tmp 75), none⟩]))))))))
                 (.seq (.seq (.reg [⟨(some 77), .bin .eql (.tmp 16) (.const (.int .i64 6)), none⟩,
                      ⟨(some 76), .mv (.tmp 77), none⟩])
                   (.cond (.tmp 76)
                    (.skip)
                    (.reg [⟨(some 78), .bin .eql (.tmp 16) (.const (.int .i64 7)), none⟩,
                       ⟨(some 76), .mv (.tmp 78), none⟩])))
                  (.cond (.tmp 76)
                   (.any [(true, 0, [], ⟨(some 79), .fa 5 (.tmp 1), none⟩),
                      (true, 1, [], ⟨(some 80), .ld1 (.tmp 79), none⟩),
                      (true, 2, [], ⟨(some 81), .fa 3 (.tmp 1), none⟩),
                      (true, 3, [], ⟨(some 82), .ld1 (.tmp 81), none⟩),
                      (true, 4, [], ⟨(some 83), .fa 12 (.tmp 1), none⟩),
                      (true, 5, [], ⟨(some 84), .ldn 4 (.tmp 83), none⟩),
                      (false, 6, [2, 3, 4, 5], ⟨(some 85), .fa 5 (.tmp 3), none⟩),
                      (false, 7, [2, 3, 4, 5], ⟨none, .st1 (.tmp 85) (.tmp 80), none⟩),
                      (false, 8, [4, 5], ⟨(some 86), .fa 3 (.tmp 3), none⟩),
                      (false, 9, [4, 5], ⟨none, .st1 (.tmp 86) (.tmp 82), none⟩),
                      (false, 10, [], ⟨(some 87), .fa 12 (.tmp 3), none⟩),
                      (false, 11, [], ⟨none, .stn 4 (.tmp 87) (.tmp 84), none⟩)])
                   (.seq (.reg [⟨(some 89), .bin .eql (.tmp 16) (.const (.int .i64 8)), none⟩,
                       ⟨(some 88), .mv (.tmp 89), none⟩])
                    (.cond (.tmp 88)
                     (.any [(true, 0, [], ⟨(some 90), .fa 5 (.tmp 1), none⟩),
                        (true, 1, [], ⟨(some 91), .ld1 (.tmp 90), none⟩),
                        (true, 2, [], ⟨(some 92), .fa 3 (.tmp 1), none⟩),
                        (true, 3, [], ⟨(some 93), .ld1 (.tmp 92), none⟩),
                        (true, 4, [], ⟨(some 94), .fa 2 (.tmp 1), none⟩),
                        (true, 5, [], ⟨(some 95), .ld1 (.tmp 94), none⟩),
                        (true, 6, [], ⟨(some 96), .fa 1 (.tmp 1), none⟩),
                        (true, 7, [], ⟨(some 97), .ld1 (.tmp 96), none⟩),
                        (false, 8, [2, 3, 4, 5, 6, 7], ⟨(some 98), .fa 5 (.tmp 3), none⟩),
                        (false, 9, [2, 3, 4, 5, 6, 7], ⟨none, .st1 (.tmp 98) (.tmp 91), none⟩),
                        (false, 10, [4, 5, 6, 7], ⟨(some 99), .fa 3 (.tmp 3), none⟩),
                        (false, 11, [4, 5, 6, 7], ⟨none, .st1 (.tmp 99) (.tmp 93), none⟩),
                        (false, 12, [6, 7], ⟨(some 100), .fa 2 (.tmp 3), none⟩),
                        (false, 13, [6, 7], ⟨none, .st1 (.tmp 100) (.tmp 95), none⟩),
                        (false, 14, [], ⟨(some 101), .fa 1 (.tmp 3), none⟩),
                        (false, 15, [], ⟨none, .st1 (.tmp 101) (.tmp 97), none⟩)])
                     (.seq (.seq (.reg [⟨(some 103), .bin .eql (.tmp 16) (.const (.int .i64 9)), none⟩,
                          ⟨(some 102), .mv (.tmp 103), none⟩])
                       (.cond (.tmp 102)
                        (.skip)
                        (.reg [⟨(some 104), .bin .eql (.tmp 16) (.const (.int .i64 11)), none⟩,
                           ⟨(some 102), .mv (.tmp 104), none⟩])))
                      (.cond (.tmp 102)
                       (.any [(true, 0, [], ⟨(some 105), .fa 5 (.tmp 1), none⟩),
                          (true, 1, [], ⟨(some 106), .ld1 (.tmp 105), none⟩),
                          (true, 2, [], ⟨(some 107), .fa 6 (.tmp 1), none⟩),
                          (true, 3, [], ⟨(some 108), .ld1 (.tmp 107), none⟩),
                          (false, 4, [2, 3], ⟨(some 109), .fa 5 (.tmp 3), none⟩),
                          (false, 5, [2, 3], ⟨none, .st1 (.tmp 109) (.tmp 106), none⟩),
                          (false, 6, [], ⟨(some 110), .fa 6 (.tmp 3), none⟩),
                          (false, 7, [], ⟨none, .st1 (.tmp 110) (.tmp 108), none⟩)])
                       (.skip)))))))))))))))))))
     (.seq (.reg [⟨(some 111), .ldn 16 (.tmp 3), none⟩,
         ⟨none, .stn 16 (.tmp 2) (.tmp 111), none⟩])
      (.ret)))))
theorem k32 : fnOk Try.prog 32 = some (M32, [.cn 16 2], 112) := by kernel_rfl

theorem blk_ne {G : Heap} {b : Nat} {x : Blk} (h : G b = some x) : ∀ c, G c = none → c ≠ b ∧ b ≠ c := fun c hc => ⟨fun e => (by subst e; rw [h] at hc; cases hc), fun e => (by subst e; rw [h] at hc; cases hc)⟩
theorem any_blk {rec : List It → List Value → Heap → Prop} {H : Heap} {k : List It} {T : List Value} {f : (Nat → Heap) → It} {b : Nat} {x : Blk} (e : H b = some x) (h : rec (f (fun _ => noneH.set b x) :: k) T H) : AnyQ rec f k T H := ⟨_, fun _ => Le_put Le_none e, h⟩
section
variable {op fn bs n dst a b c m0 m1 m2 m3 p0 p1 p2 p3 : Int}
theorem keep_a (h : K (keepI ⟨op, fn, bs, n, dst, a, b, c, m0, m1, m2, m3, p0, p1, p2, p3⟩).v H) (ho : op = 1 ∨ op = 2 ∨ op = 10 ∨ op = 3 ∨ op = 4 ∨ op = 6 ∨ op = 7 ∨ op = 8 ∨ op = 9 ∨ op = 11 ∨ (op < 1 ∨ 11 < op)) :
    HCalls Try.prog w0 32 [(⟨op, fn, bs, n, dst, a, b, c, m0, m1, m2, m3, p0, p1, p2, p3⟩ : Ins).v] H K := by
  have hw := fun (G : Heap) (K : Value → Heap → Prop) => c_Writes (w0 := w0) (H := G) (K := K) ⟨op, fn, bs, n, dst, a, b, c, m0, m1, m2, m3, p0, p1, p2, p3⟩
  unfold Ins.v Ins.row keepI at h
  unfold Ins.v Ins.row at hw ⊢
  unfold wrtR wrt at hw
  simp only at h hw
  rcases ho with rfl | rfl | rfl | rfl | rfl | rfl | rfl | rfl | rfl | rfl | ho
  all_goals try (simp only [Int.reduceEq, or_true, true_or, or_false, false_or, or_self, decide_true, decide_false, if_true, if_false, Bool.false_eq_true] at h hw)
  all_goals try
    have o1 : ¬ op = 1 := by omega
    have o2 : ¬ op = 2 := by omega
    have o3 : ¬ op = 3 := by omega
    have o4 : ¬ op = 4 := by omega
    have o5 : ¬ op = 5 := by omega
    have o6 : ¬ op = 6 := by omega
    have o7 : ¬ op = 7 := by omega
    have o8 : ¬ op = 8 := by omega
    have o9 : ¬ op = 9 := by omega
    have o10 : ¬ op = 10 := by omega
    have o11 : ¬ op = 11 := by omega
    simp only [o1, o2, o3, o4, o5, o6, o7, o8, o9, o10, o11, or_self, decide_false, if_false, Bool.false_eq_true] at h hw
    clear ho
  all_goals replace hw : Keep _ := hw
  all_goals refine HL.hc k32 999 ?_; unfold M32
  all_goals simp only [Sh,Si,Sl,Bu,Bb,Bd,Bc,Bw,Bn,Int.reduceAdd,Int.reduceSub,Int.reduceMul,Int.reduceTDiv,Int.reduceTMod,Int.reduceMod,Int.reduceDiv,Nat.reduceLT,Nat.reduceEqDiff,decide_true,decide_false,Sa,Sb,Sc,Sd,Se,Sf,Sg,true_and,and_true,and_self,eq_self,b_i64,b_i32,b_u64,b_u32,b_u8,Int.reduceLE,Int.reduceLT,Int.reduceToNat,Int.reduceNeg,Int.reduceEq,Nat.reduceLeDiff,Nat.reducePow,Int.reducePow,Nat.min_def,reduceIte,Nat.reduceSub,Nat.reduceAdd,Nat.reduceMul,KP_same,KP_f,condS_t,condS_f,pick_t,pick_f,gS_tt,gS_ff,gS_tf,gS_ft,gS_u,gP_tt,gP_ff,gP_tf,gP_ft,gP_u,ptrV_eq,slcV_eq,mapV_eq,cells_agg,cells_int,cells_bool,cells_ptr,cells_slice,oc_int,oc_bool,oc_slice,oc_ptr,rd1_set,rd1_ne,rdn_set,rdn_ne,Heap.set_same,set_ne,Heap.set_set,set_up,set_up2,set_up3,putAt,ceq,List.map_cons,List.map_nil,List.length_cons,List.length_nil,List.length_set,List.cons_append,List.nil_append,List.append_nil,List.replicate,List.size_toArray,List.all_cons,List.all_nil,Bool.and_self,Bool.and_true,List.drop_zero,List.drop_succ_cons,List.take_succ_cons,List.take_zero,List.set_cons_zero,List.set_cons_succ,List.getElem?_cons_zero,List.getElem?_cons_succ,Option.map_some,Option.map_none,ne_eq,not_false_eq_true,not_true_eq_false,gt_iff_lt,ge_iff_le,Int.one_mul,Nat.zero_add,Nat.zero_mul,Bool.not_true,Bool.not_false,Bool.false_eq_true,Bool.and_false,Bool.false_and,Bool.true_and, *]
  all_goals (refine AllocQ_i ?_; intro b1 hb1 hn1)
  all_goals (all_goals (try simp only [Sh,Si,Sl,Bu,Bb,Bd,Bc,Bw,Bn,Int.reduceAdd,Int.reduceSub,Int.reduceMul,Int.reduceTDiv,Int.reduceTMod,Int.reduceMod,Int.reduceDiv,Nat.reduceLT,Nat.reduceEqDiff,decide_true,decide_false,Sa,Sb,Sc,Sd,Se,Sf,Sg,true_and,and_true,and_self,eq_self,b_i64,b_i32,b_u64,b_u32,b_u8,Int.reduceLE,Int.reduceLT,Int.reduceToNat,Int.reduceNeg,Int.reduceEq,Nat.reduceLeDiff,Nat.reducePow,Int.reducePow,Nat.min_def,reduceIte,Nat.reduceSub,Nat.reduceAdd,Nat.reduceMul,KP_same,KP_f,condS_t,condS_f,pick_t,pick_f,gS_tt,gS_ff,gS_tf,gS_ft,gS_u,gP_tt,gP_ff,gP_tf,gP_ft,gP_u,ptrV_eq,slcV_eq,mapV_eq,cells_agg,cells_int,cells_bool,cells_ptr,cells_slice,oc_int,oc_bool,oc_slice,oc_ptr,rd1_set,rd1_ne,rdn_set,rdn_ne,Heap.set_same,set_ne,Heap.set_set,set_up,set_up2,set_up3,putAt,ceq,List.map_cons,List.map_nil,List.length_cons,List.length_nil,List.length_set,List.cons_append,List.nil_append,List.append_nil,List.replicate,List.size_toArray,List.all_cons,List.all_nil,Bool.and_self,Bool.and_true,List.drop_zero,List.drop_succ_cons,List.take_succ_cons,List.take_zero,List.set_cons_zero,List.set_cons_succ,List.getElem?_cons_zero,List.getElem?_cons_succ,Option.map_some,Option.map_none,ne_eq,not_false_eq_true,not_true_eq_false,gt_iff_lt,ge_iff_le,Int.one_mul,Nat.zero_add,Nat.zero_mul,Bool.not_true,Bool.not_false,Bool.false_eq_true,Bool.and_false,Bool.false_and,Bool.true_and, *])); repeat' ((first | (with_reducible refine fun _ : True => ?_) | refine hw _ _ ?_ | ((first | refine AllocQ_i ?_ | refine AllocO_i ?_); intro bk hb0 hbk; (try simp only [set_none'] at hbk); (try (first | have hbn := Grow.none (by assumption) hbk | have hbn := Grow.none (by assumption) hbk.2 | have hbn := Grow.none (by assumption) hbk.2.2 | have hbn := Grow.none (by assumption) hbk.2.2.2 | have hbn := Grow.none (by assumption) hbk.2.2.2.2 | have hbn := Grow.none (by assumption) hbk.2.2.2.2.2)); (try simp only [set_none'] at hbn); (try (first | have hbm := Grow.none (by assumption) hbn | have hbm := Grow.none (by assumption) hbn.2 | have hbm := Grow.none (by assumption) hbn.2.2 | have hbm := Grow.none (by assumption) hbn.2.2.2 | have hbm := Grow.none (by assumption) hbn.2.2.2.2 | have hbm := Grow.none (by assumption) hbn.2.2.2.2.2)); (try simp only [set_none'] at hbm)) | ((first | refine condS_i ?_ ?_ | refine pick_i ?_ ?_ | refine gS_it ?_ ?_ | refine gS_if ?_ ?_ | refine gP_it ?_ ?_ | refine gP_if ?_ ?_) <;> (intro hc; try simp only [Int.reduceLE,Int.reduceLT,Int.reduceEq,and_self,not_true_eq_false,not_false_eq_true,and_true,true_and,false_and,and_false,true_or,or_true,false_or,or_false,decide_eq_true_eq,decide_eq_false_iff_not,beq_iff_eq,beq_eq_false_iff_ne,bne_iff_ne,ne_eq,gt_iff_lt,ge_iff_le,Bool.not_eq_true,Bool.not_eq_false,Bool.not_eq_true',Bool.not_eq_false',Bool.not_eq_eq_eq_not,Bool.not_true,Bool.not_false] at hc)) | (refine KP_i (by (repeat' (first | exact Heap.Le.refl _ | (with_reducible refine Le_set2 ?_) | (refine Le_known (by first | (simp only [Heap.set_same, set_ne, ne_eq, not_false_eq_true, *] <;> rfl) | fail) ?_) | (refine Le_fresh (by first | (simp only [*] <;> done) | (simp [set_none', Heap.set_same, set_ne, noneH, *] <;> done) | fail) ?_) | (refine Heap.Le.trans ?_ (Grow.le (by assumption))) | exact Le_none | (refine Le_put ?_ (by first | (simp only [Heap.set_same, set_ne, ne_eq, not_false_eq_true, *] <;> rfl) | fail)) | fail))) ?_) | (with_reducible refine And.intro ?_ ?_)) <;> (try simp only [Sh,Si,Sl,Bu,Bb,Bd,Bc,Bw,Bn,Int.reduceAdd,Int.reduceSub,Int.reduceMul,Int.reduceTDiv,Int.reduceTMod,Int.reduceMod,Int.reduceDiv,Nat.reduceLT,Nat.reduceEqDiff,decide_true,decide_false,Sa,Sb,Sc,Sd,Se,Sf,Sg,true_and,and_true,and_self,eq_self,b_i64,b_i32,b_u64,b_u32,b_u8,Int.reduceLE,Int.reduceLT,Int.reduceToNat,Int.reduceNeg,Int.reduceEq,Nat.reduceLeDiff,Nat.reducePow,Int.reducePow,Nat.min_def,reduceIte,Nat.reduceSub,Nat.reduceAdd,Nat.reduceMul,KP_same,KP_f,condS_t,condS_f,pick_t,pick_f,gS_tt,gS_ff,gS_tf,gS_ft,gS_u,gP_tt,gP_ff,gP_tf,gP_ft,gP_u,ptrV_eq,slcV_eq,mapV_eq,cells_agg,cells_int,cells_bool,cells_ptr,cells_slice,oc_int,oc_bool,oc_slice,oc_ptr,rd1_set,rd1_ne,rdn_set,rdn_ne,Heap.set_same,set_ne,Heap.set_set,set_up,set_up2,set_up3,putAt,ceq,List.map_cons,List.map_nil,List.length_cons,List.length_nil,List.length_set,List.cons_append,List.nil_append,List.append_nil,List.replicate,List.size_toArray,List.all_cons,List.all_nil,Bool.and_self,Bool.and_true,List.drop_zero,List.drop_succ_cons,List.take_succ_cons,List.take_zero,List.set_cons_zero,List.set_cons_succ,List.getElem?_cons_zero,List.getElem?_cons_succ,Option.map_some,Option.map_none,ne_eq,not_false_eq_true,not_true_eq_false,gt_iff_lt,ge_iff_le,Int.one_mul,Nat.zero_add,Nat.zero_mul,Bool.not_true,Bool.not_false,Bool.false_eq_true,Bool.and_false,Bool.false_and,Bool.true_and, *]))
  all_goals try (apply any_blk (b := b1); focus (simp only [Heap.set_same, set_ne, ne_eq, not_false_eq_true, *] <;> rfl))
  all_goals (all_goals (try simp only [Sh,Si,Sl,Bu,Bb,Bd,Bc,Bw,Bn,Int.reduceAdd,Int.reduceSub,Int.reduceMul,Int.reduceTDiv,Int.reduceTMod,Int.reduceMod,Int.reduceDiv,Nat.reduceLT,Nat.reduceEqDiff,decide_true,decide_false,Sa,Sb,Sc,Sd,Se,Sf,Sg,true_and,and_true,and_self,eq_self,b_i64,b_i32,b_u64,b_u32,b_u8,Int.reduceLE,Int.reduceLT,Int.reduceToNat,Int.reduceNeg,Int.reduceEq,Nat.reduceLeDiff,Nat.reducePow,Int.reducePow,Nat.min_def,reduceIte,Nat.reduceSub,Nat.reduceAdd,Nat.reduceMul,KP_same,KP_f,condS_t,condS_f,pick_t,pick_f,gS_tt,gS_ff,gS_tf,gS_ft,gS_u,gP_tt,gP_ff,gP_tf,gP_ft,gP_u,ptrV_eq,slcV_eq,mapV_eq,cells_agg,cells_int,cells_bool,cells_ptr,cells_slice,oc_int,oc_bool,oc_slice,oc_ptr,rd1_set,rd1_ne,rdn_set,rdn_ne,Heap.set_same,set_ne,Heap.set_set,set_up,set_up2,set_up3,putAt,ceq,List.map_cons,List.map_nil,List.length_cons,List.length_nil,List.length_set,List.cons_append,List.nil_append,List.append_nil,List.replicate,List.size_toArray,List.all_cons,List.all_nil,Bool.and_self,Bool.and_true,List.drop_zero,List.drop_succ_cons,List.take_succ_cons,List.take_zero,List.set_cons_zero,List.set_cons_succ,List.getElem?_cons_zero,List.getElem?_cons_succ,Option.map_some,Option.map_none,ne_eq,not_false_eq_true,not_true_eq_false,gt_iff_lt,ge_iff_le,Int.one_mul,Nat.zero_add,Nat.zero_mul,Bool.not_true,Bool.not_false,Bool.false_eq_true,Bool.and_false,Bool.false_and,Bool.true_and, *])); repeat' ((first | (with_reducible refine fun _ : True => ?_) | (with_reducible refine any_h ?_) | ((first | refine AllocQ_i ?_ | refine AllocO_i ?_); intro bk hb0 hbk; (try simp only [set_none'] at hbk); (try (first | have hbn := Grow.none (by assumption) hbk | have hbn := Grow.none (by assumption) hbk.2 | have hbn := Grow.none (by assumption) hbk.2.2 | have hbn := Grow.none (by assumption) hbk.2.2.2 | have hbn := Grow.none (by assumption) hbk.2.2.2.2 | have hbn := Grow.none (by assumption) hbk.2.2.2.2.2)); (try simp only [set_none'] at hbn); (try (first | have hbm := Grow.none (by assumption) hbn | have hbm := Grow.none (by assumption) hbn.2 | have hbm := Grow.none (by assumption) hbn.2.2 | have hbm := Grow.none (by assumption) hbn.2.2.2 | have hbm := Grow.none (by assumption) hbn.2.2.2.2 | have hbm := Grow.none (by assumption) hbn.2.2.2.2.2)); (try simp only [set_none'] at hbm)) | ((first | refine condS_i ?_ ?_ | refine pick_i ?_ ?_ | refine gS_it ?_ ?_ | refine gS_if ?_ ?_ | refine gP_it ?_ ?_ | refine gP_if ?_ ?_) <;> (intro hc; try simp only [Int.reduceLE,Int.reduceLT,Int.reduceEq,and_self,not_true_eq_false,not_false_eq_true,and_true,true_and,false_and,and_false,true_or,or_true,false_or,or_false,decide_eq_true_eq,decide_eq_false_iff_not,beq_iff_eq,beq_eq_false_iff_ne,bne_iff_ne,ne_eq,gt_iff_lt,ge_iff_le,Bool.not_eq_true,Bool.not_eq_false,Bool.not_eq_true',Bool.not_eq_false',Bool.not_eq_eq_eq_not,Bool.not_true,Bool.not_false] at hc)) | (refine KP_i (by (repeat' (first | exact Heap.Le.refl _ | (with_reducible refine Le_set2 ?_) | (refine Le_known (by first | (simp only [Heap.set_same, set_ne, ne_eq, not_false_eq_true, *] <;> rfl) | fail) ?_) | (refine Le_fresh (by first | (simp only [*] <;> done) | (simp [set_none', Heap.set_same, set_ne, noneH, *] <;> done) | fail) ?_) | (refine Heap.Le.trans ?_ (Grow.le (by assumption))) | exact Le_none | (refine Le_put ?_ (by first | (simp only [Heap.set_same, set_ne, ne_eq, not_false_eq_true, *] <;> rfl) | fail)) | fail))) ?_) | (with_reducible refine And.intro ?_ ?_)) <;> (try simp only [Sh,Si,Sl,Bu,Bb,Bd,Bc,Bw,Bn,Int.reduceAdd,Int.reduceSub,Int.reduceMul,Int.reduceTDiv,Int.reduceTMod,Int.reduceMod,Int.reduceDiv,Nat.reduceLT,Nat.reduceEqDiff,decide_true,decide_false,Sa,Sb,Sc,Sd,Se,Sf,Sg,true_and,and_true,and_self,eq_self,b_i64,b_i32,b_u64,b_u32,b_u8,Int.reduceLE,Int.reduceLT,Int.reduceToNat,Int.reduceNeg,Int.reduceEq,Nat.reduceLeDiff,Nat.reducePow,Int.reducePow,Nat.min_def,reduceIte,Nat.reduceSub,Nat.reduceAdd,Nat.reduceMul,KP_same,KP_f,condS_t,condS_f,pick_t,pick_f,gS_tt,gS_ff,gS_tf,gS_ft,gS_u,gP_tt,gP_ff,gP_tf,gP_ft,gP_u,ptrV_eq,slcV_eq,mapV_eq,cells_agg,cells_int,cells_bool,cells_ptr,cells_slice,oc_int,oc_bool,oc_slice,oc_ptr,rd1_set,rd1_ne,rdn_set,rdn_ne,Heap.set_same,set_ne,Heap.set_set,set_up,set_up2,set_up3,putAt,ceq,List.map_cons,List.map_nil,List.length_cons,List.length_nil,List.length_set,List.cons_append,List.nil_append,List.append_nil,List.replicate,List.size_toArray,List.all_cons,List.all_nil,Bool.and_self,Bool.and_true,List.drop_zero,List.drop_succ_cons,List.take_succ_cons,List.take_zero,List.set_cons_zero,List.set_cons_succ,List.getElem?_cons_zero,List.getElem?_cons_succ,Option.map_some,Option.map_none,ne_eq,not_false_eq_true,not_true_eq_false,gt_iff_lt,ge_iff_le,Int.one_mul,Nat.zero_add,Nat.zero_mul,Bool.not_true,Bool.not_false,Bool.false_eq_true,Bool.and_false,Bool.false_and,Bool.true_and, *]))
  all_goals exact Fin_mk (by (repeat' (first | exact Heap.Le.refl _ | (with_reducible refine Le_set2 ?_) | (refine Le_known (by first | (simp only [Heap.set_same, set_ne, ne_eq, not_false_eq_true, *] <;> rfl) | fail) ?_) | (refine Le_fresh (by first | (simp only [*] <;> done) | (simp [set_none', Heap.set_same, set_ne, noneH, *] <;> done) | fail) ?_) | (refine Heap.Le.trans ?_ (Grow.le (by assumption))) | exact Le_none | (refine Le_put ?_ (by first | (simp only [Heap.set_same, set_ne, ne_eq, not_false_eq_true, *] <;> rfl) | fail)) | fail))) h
theorem keep_do (h : K (keepI ⟨5, fn, bs, n, dst, a, b, c, m0, m1, m2, m3, p0, p1, p2, p3⟩).v H) :
    HCalls Try.prog w0 32 [(⟨5, fn, bs, n, dst, a, b, c, m0, m1, m2, m3, p0, p1, p2, p3⟩ : Ins).v] H K := by
  have hw := fun (G : Heap) (K : Value → Heap → Prop) => c_Writes (w0 := w0) (H := G) (K := K) ⟨5, fn, bs, n, dst, a, b, c, m0, m1, m2, m3, p0, p1, p2, p3⟩
  have hr := fun (G : Heap) (K : Value → Heap → Prop) => c_Reads (w0 := w0) (H := G) (K := K) ⟨5, fn, bs, n, dst, a, b, c, m0, m1, m2, m3, p0, p1, p2, p3⟩
  obtain ⟨m, em⟩ : ∃ m, args fn bs = m := ⟨_, rfl⟩
  have hm := args_le fn bs
  rw [em] at hm
  have er : reads ⟨5, fn, bs, n, dst, a, b, c, m0, m1, m2, m3, p0, p1, p2, p3⟩ = [a, b, c].take m.toNat := by rw [← em]; rfl
  rw [er] at hr
  unfold Ins.v Ins.row keepI at h
  unfold Ins.v Ins.row at hw hr ⊢
  unfold wrtR wrt at hw
  simp only [em] at h hw hr
  have hm' : m = 0 ∨ m = 1 ∨ m = 2 ∨ m = 3 := by omega
  clear hm er em
  rcases hm' with rfl | rfl | rfl | rfl
  all_goals try (simp only [Int.reduceEq, Int.reduceLE, or_true, true_or, or_false, false_or, or_self, decide_true, decide_false, if_true, if_false, Bool.false_eq_true, Int.reduceToNat, List.take_zero, List.take_succ_cons, List.map_cons, List.map_nil, List.length_cons, List.length_nil, Nat.reduceAdd] at h hw hr)
  all_goals replace hw : Keep _ := hw
  all_goals replace hr : Keep _ := hr
  all_goals refine HL.hc k32 999 ?_; unfold M32
  all_goals simp only [Sh,Si,Sl,Bu,Bb,Bd,Bc,Bw,Bn,Int.reduceAdd,Int.reduceSub,Int.reduceMul,Int.reduceTDiv,Int.reduceTMod,Int.reduceMod,Int.reduceDiv,Nat.reduceLT,Nat.reduceEqDiff,decide_true,decide_false,Sa,Sb,Sc,Sd,Se,Sf,Sg,true_and,and_true,and_self,eq_self,b_i64,b_i32,b_u64,b_u32,b_u8,Int.reduceLE,Int.reduceLT,Int.reduceToNat,Int.reduceNeg,Int.reduceEq,Nat.reduceLeDiff,Nat.reducePow,Int.reducePow,Nat.min_def,reduceIte,Nat.reduceSub,Nat.reduceAdd,Nat.reduceMul,KP_same,KP_f,condS_t,condS_f,pick_t,pick_f,gS_tt,gS_ff,gS_tf,gS_ft,gS_u,gP_tt,gP_ff,gP_tf,gP_ft,gP_u,ptrV_eq,slcV_eq,mapV_eq,cells_agg,cells_int,cells_bool,cells_ptr,cells_slice,oc_int,oc_bool,oc_slice,oc_ptr,rd1_set,rd1_ne,rdn_set,rdn_ne,Heap.set_same,set_ne,Heap.set_set,set_up,set_up2,set_up3,putAt,ceq,List.map_cons,List.map_nil,List.length_cons,List.length_nil,List.length_set,List.cons_append,List.nil_append,List.append_nil,List.replicate,List.size_toArray,List.all_cons,List.all_nil,Bool.and_self,Bool.and_true,List.drop_zero,List.drop_succ_cons,List.take_succ_cons,List.take_zero,List.set_cons_zero,List.set_cons_succ,List.getElem?_cons_zero,List.getElem?_cons_succ,Option.map_some,Option.map_none,ne_eq,not_false_eq_true,not_true_eq_false,gt_iff_lt,ge_iff_le,Int.one_mul,Nat.zero_add,Nat.zero_mul,Bool.not_true,Bool.not_false,Bool.false_eq_true,Bool.and_false,Bool.false_and,Bool.true_and, *]
  all_goals (refine AllocQ_i ?_; intro b1 hb1 hn1)
  all_goals (all_goals (try simp only [Sh,Si,Sl,Bu,Bb,Bd,Bc,Bw,Bn,Int.reduceAdd,Int.reduceSub,Int.reduceMul,Int.reduceTDiv,Int.reduceTMod,Int.reduceMod,Int.reduceDiv,Nat.reduceLT,Nat.reduceEqDiff,decide_true,decide_false,Sa,Sb,Sc,Sd,Se,Sf,Sg,true_and,and_true,and_self,eq_self,b_i64,b_i32,b_u64,b_u32,b_u8,Int.reduceLE,Int.reduceLT,Int.reduceToNat,Int.reduceNeg,Int.reduceEq,Nat.reduceLeDiff,Nat.reducePow,Int.reducePow,Nat.min_def,reduceIte,Nat.reduceSub,Nat.reduceAdd,Nat.reduceMul,KP_same,KP_f,condS_t,condS_f,pick_t,pick_f,gS_tt,gS_ff,gS_tf,gS_ft,gS_u,gP_tt,gP_ff,gP_tf,gP_ft,gP_u,ptrV_eq,slcV_eq,mapV_eq,cells_agg,cells_int,cells_bool,cells_ptr,cells_slice,oc_int,oc_bool,oc_slice,oc_ptr,rd1_set,rd1_ne,rdn_set,rdn_ne,Heap.set_same,set_ne,Heap.set_set,set_up,set_up2,set_up3,putAt,ceq,List.map_cons,List.map_nil,List.length_cons,List.length_nil,List.length_set,List.cons_append,List.nil_append,List.append_nil,List.replicate,List.size_toArray,List.all_cons,List.all_nil,Bool.and_self,Bool.and_true,List.drop_zero,List.drop_succ_cons,List.take_succ_cons,List.take_zero,List.set_cons_zero,List.set_cons_succ,List.getElem?_cons_zero,List.getElem?_cons_succ,Option.map_some,Option.map_none,ne_eq,not_false_eq_true,not_true_eq_false,gt_iff_lt,ge_iff_le,Int.one_mul,Nat.zero_add,Nat.zero_mul,Bool.not_true,Bool.not_false,Bool.false_eq_true,Bool.and_false,Bool.false_and,Bool.true_and, *])); repeat' ((first | (with_reducible refine fun _ : True => ?_) | refine hw _ _ ?_ | ((first | refine AllocQ_i ?_ | refine AllocO_i ?_); intro bk hb0 hbk; (try simp only [set_none'] at hbk); (try (first | have hbn := Grow.none (by assumption) hbk | have hbn := Grow.none (by assumption) hbk.2 | have hbn := Grow.none (by assumption) hbk.2.2 | have hbn := Grow.none (by assumption) hbk.2.2.2 | have hbn := Grow.none (by assumption) hbk.2.2.2.2 | have hbn := Grow.none (by assumption) hbk.2.2.2.2.2)); (try simp only [set_none'] at hbn); (try (first | have hbm := Grow.none (by assumption) hbn | have hbm := Grow.none (by assumption) hbn.2 | have hbm := Grow.none (by assumption) hbn.2.2 | have hbm := Grow.none (by assumption) hbn.2.2.2 | have hbm := Grow.none (by assumption) hbn.2.2.2.2 | have hbm := Grow.none (by assumption) hbn.2.2.2.2.2)); (try simp only [set_none'] at hbm)) | ((first | refine condS_i ?_ ?_ | refine pick_i ?_ ?_ | refine gS_it ?_ ?_ | refine gS_if ?_ ?_ | refine gP_it ?_ ?_ | refine gP_if ?_ ?_) <;> (intro hc; try simp only [Int.reduceLE,Int.reduceLT,Int.reduceEq,and_self,not_true_eq_false,not_false_eq_true,and_true,true_and,false_and,and_false,true_or,or_true,false_or,or_false,decide_eq_true_eq,decide_eq_false_iff_not,beq_iff_eq,beq_eq_false_iff_ne,bne_iff_ne,ne_eq,gt_iff_lt,ge_iff_le,Bool.not_eq_true,Bool.not_eq_false,Bool.not_eq_true',Bool.not_eq_false',Bool.not_eq_eq_eq_not,Bool.not_true,Bool.not_false] at hc)) | (refine KP_i (by (repeat' (first | exact Heap.Le.refl _ | (with_reducible refine Le_set2 ?_) | (refine Le_known (by first | (simp only [Heap.set_same, set_ne, ne_eq, not_false_eq_true, *] <;> rfl) | fail) ?_) | (refine Le_fresh (by first | (simp only [*] <;> done) | (simp [set_none', Heap.set_same, set_ne, noneH, *] <;> done) | fail) ?_) | (refine Heap.Le.trans ?_ (Grow.le (by assumption))) | exact Le_none | (refine Le_put ?_ (by first | (simp only [Heap.set_same, set_ne, ne_eq, not_false_eq_true, *] <;> rfl) | fail)) | fail))) ?_) | (with_reducible refine And.intro ?_ ?_)) <;> (try simp only [Sh,Si,Sl,Bu,Bb,Bd,Bc,Bw,Bn,Int.reduceAdd,Int.reduceSub,Int.reduceMul,Int.reduceTDiv,Int.reduceTMod,Int.reduceMod,Int.reduceDiv,Nat.reduceLT,Nat.reduceEqDiff,decide_true,decide_false,Sa,Sb,Sc,Sd,Se,Sf,Sg,true_and,and_true,and_self,eq_self,b_i64,b_i32,b_u64,b_u32,b_u8,Int.reduceLE,Int.reduceLT,Int.reduceToNat,Int.reduceNeg,Int.reduceEq,Nat.reduceLeDiff,Nat.reducePow,Int.reducePow,Nat.min_def,reduceIte,Nat.reduceSub,Nat.reduceAdd,Nat.reduceMul,KP_same,KP_f,condS_t,condS_f,pick_t,pick_f,gS_tt,gS_ff,gS_tf,gS_ft,gS_u,gP_tt,gP_ff,gP_tf,gP_ft,gP_u,ptrV_eq,slcV_eq,mapV_eq,cells_agg,cells_int,cells_bool,cells_ptr,cells_slice,oc_int,oc_bool,oc_slice,oc_ptr,rd1_set,rd1_ne,rdn_set,rdn_ne,Heap.set_same,set_ne,Heap.set_set,set_up,set_up2,set_up3,putAt,ceq,List.map_cons,List.map_nil,List.length_cons,List.length_nil,List.length_set,List.cons_append,List.nil_append,List.append_nil,List.replicate,List.size_toArray,List.all_cons,List.all_nil,Bool.and_self,Bool.and_true,List.drop_zero,List.drop_succ_cons,List.take_succ_cons,List.take_zero,List.set_cons_zero,List.set_cons_succ,List.getElem?_cons_zero,List.getElem?_cons_succ,Option.map_some,Option.map_none,ne_eq,not_false_eq_true,not_true_eq_false,gt_iff_lt,ge_iff_le,Int.one_mul,Nat.zero_add,Nat.zero_mul,Bool.not_true,Bool.not_false,Bool.false_eq_true,Bool.and_false,Bool.false_and,Bool.true_and, *]))
  all_goals try (apply any_blk (b := b1); focus (simp only [Heap.set_same, set_ne, ne_eq, not_false_eq_true, *] <;> rfl))
  all_goals (all_goals (try simp only [Sh,Si,Sl,Bu,Bb,Bd,Bc,Bw,Bn,Int.reduceAdd,Int.reduceSub,Int.reduceMul,Int.reduceTDiv,Int.reduceTMod,Int.reduceMod,Int.reduceDiv,Nat.reduceLT,Nat.reduceEqDiff,decide_true,decide_false,Sa,Sb,Sc,Sd,Se,Sf,Sg,true_and,and_true,and_self,eq_self,b_i64,b_i32,b_u64,b_u32,b_u8,Int.reduceLE,Int.reduceLT,Int.reduceToNat,Int.reduceNeg,Int.reduceEq,Nat.reduceLeDiff,Nat.reducePow,Int.reducePow,Nat.min_def,reduceIte,Nat.reduceSub,Nat.reduceAdd,Nat.reduceMul,KP_same,KP_f,condS_t,condS_f,pick_t,pick_f,gS_tt,gS_ff,gS_tf,gS_ft,gS_u,gP_tt,gP_ff,gP_tf,gP_ft,gP_u,ptrV_eq,slcV_eq,mapV_eq,cells_agg,cells_int,cells_bool,cells_ptr,cells_slice,oc_int,oc_bool,oc_slice,oc_ptr,rd1_set,rd1_ne,rdn_set,rdn_ne,Heap.set_same,set_ne,Heap.set_set,set_up,set_up2,set_up3,putAt,ceq,List.map_cons,List.map_nil,List.length_cons,List.length_nil,List.length_set,List.cons_append,List.nil_append,List.append_nil,List.replicate,List.size_toArray,List.all_cons,List.all_nil,Bool.and_self,Bool.and_true,List.drop_zero,List.drop_succ_cons,List.take_succ_cons,List.take_zero,List.set_cons_zero,List.set_cons_succ,List.getElem?_cons_zero,List.getElem?_cons_succ,Option.map_some,Option.map_none,ne_eq,not_false_eq_true,not_true_eq_false,gt_iff_lt,ge_iff_le,Int.one_mul,Nat.zero_add,Nat.zero_mul,Bool.not_true,Bool.not_false,Bool.false_eq_true,Bool.and_false,Bool.false_and,Bool.true_and, *])); repeat' ((first | (with_reducible refine fun _ : True => ?_) | refine hr _ _ (fun ra rc G hB hg => ?_)  | (with_reducible refine any_h ?_) | ((first | refine AllocQ_i ?_ | refine AllocO_i ?_); intro bk hb0 hbk; (try simp only [set_none'] at hbk); (try (first | have hbn := Grow.none (by assumption) hbk | have hbn := Grow.none (by assumption) hbk.2 | have hbn := Grow.none (by assumption) hbk.2.2 | have hbn := Grow.none (by assumption) hbk.2.2.2 | have hbn := Grow.none (by assumption) hbk.2.2.2.2 | have hbn := Grow.none (by assumption) hbk.2.2.2.2.2)); (try simp only [set_none'] at hbn); (try (first | have hbm := Grow.none (by assumption) hbn | have hbm := Grow.none (by assumption) hbn.2 | have hbm := Grow.none (by assumption) hbn.2.2 | have hbm := Grow.none (by assumption) hbn.2.2.2 | have hbm := Grow.none (by assumption) hbn.2.2.2.2 | have hbm := Grow.none (by assumption) hbn.2.2.2.2.2)); (try simp only [set_none'] at hbm)) | ((first | refine condS_i ?_ ?_ | refine pick_i ?_ ?_ | refine gS_it ?_ ?_ | refine gS_if ?_ ?_ | refine gP_it ?_ ?_ | refine gP_if ?_ ?_) <;> (intro hc; try simp only [Int.reduceLE,Int.reduceLT,Int.reduceEq,and_self,not_true_eq_false,not_false_eq_true,and_true,true_and,false_and,and_false,true_or,or_true,false_or,or_false,decide_eq_true_eq,decide_eq_false_iff_not,beq_iff_eq,beq_eq_false_iff_ne,bne_iff_ne,ne_eq,gt_iff_lt,ge_iff_le,Bool.not_eq_true,Bool.not_eq_false,Bool.not_eq_true',Bool.not_eq_false',Bool.not_eq_eq_eq_not,Bool.not_true,Bool.not_false] at hc)) | (refine KP_i (by (repeat' (first | exact Heap.Le.refl _ | (with_reducible refine Le_set2 ?_) | (refine Le_known (by first | (simp only [Heap.set_same, set_ne, ne_eq, not_false_eq_true, *] <;> rfl) | fail) ?_) | (refine Le_fresh (by first | (simp only [*] <;> done) | (simp [set_none', Heap.set_same, set_ne, noneH, *] <;> done) | fail) ?_) | (refine Heap.Le.trans ?_ (Grow.le (by assumption))) | exact Le_none | (refine Le_put ?_ (by first | (simp only [Heap.set_same, set_ne, ne_eq, not_false_eq_true, *] <;> rfl) | fail)) | fail))) ?_) | (with_reducible refine And.intro ?_ ?_)) <;> (try simp only [Sh,Si,Sl,Bu,Bb,Bd,Bc,Bw,Bn,Int.reduceAdd,Int.reduceSub,Int.reduceMul,Int.reduceTDiv,Int.reduceTMod,Int.reduceMod,Int.reduceDiv,Nat.reduceLT,Nat.reduceEqDiff,decide_true,decide_false,Sa,Sb,Sc,Sd,Se,Sf,Sg,true_and,and_true,and_self,eq_self,b_i64,b_i32,b_u64,b_u32,b_u8,Int.reduceLE,Int.reduceLT,Int.reduceToNat,Int.reduceNeg,Int.reduceEq,Nat.reduceLeDiff,Nat.reducePow,Int.reducePow,Nat.min_def,reduceIte,Nat.reduceSub,Nat.reduceAdd,Nat.reduceMul,KP_same,KP_f,condS_t,condS_f,pick_t,pick_f,gS_tt,gS_ff,gS_tf,gS_ft,gS_u,gP_tt,gP_ff,gP_tf,gP_ft,gP_u,ptrV_eq,slcV_eq,mapV_eq,cells_agg,cells_int,cells_bool,cells_ptr,cells_slice,oc_int,oc_bool,oc_slice,oc_ptr,rd1_set,rd1_ne,rdn_set,rdn_ne,Heap.set_same,set_ne,Heap.set_set,set_up,set_up2,set_up3,putAt,ceq,List.map_cons,List.map_nil,List.length_cons,List.length_nil,List.length_set,List.cons_append,List.nil_append,List.append_nil,List.replicate,List.size_toArray,List.all_cons,List.all_nil,Bool.and_self,Bool.and_true,List.drop_zero,List.drop_succ_cons,List.take_succ_cons,List.take_zero,List.set_cons_zero,List.set_cons_succ,List.getElem?_cons_zero,List.getElem?_cons_succ,Option.map_some,Option.map_none,ne_eq,not_false_eq_true,not_true_eq_false,gt_iff_lt,ge_iff_le,Int.one_mul,Nat.zero_add,Nat.zero_mul,Bool.not_true,Bool.not_false,Bool.false_eq_true,Bool.and_false,Bool.false_and,Bool.true_and, *]))
  · rw [up3 hg (by simp only [Heap.set_same, set_ne, ne_eq, not_false_eq_true, *] <;> rfl) (by simp only [Heap.set_same, set_ne, ne_eq, not_false_eq_true, *] <;> rfl)]
    clear hB
    (all_goals (try simp only [Sh,Si,Sl,Bu,Bb,Bd,Bc,Bw,Bn,Int.reduceAdd,Int.reduceSub,Int.reduceMul,Int.reduceTDiv,Int.reduceTMod,Int.reduceMod,Int.reduceDiv,Nat.reduceLT,Nat.reduceEqDiff,decide_true,decide_false,Sa,Sb,Sc,Sd,Se,Sf,Sg,true_and,and_true,and_self,eq_self,b_i64,b_i32,b_u64,b_u32,b_u8,Int.reduceLE,Int.reduceLT,Int.reduceToNat,Int.reduceNeg,Int.reduceEq,Nat.reduceLeDiff,Nat.reducePow,Int.reducePow,Nat.min_def,reduceIte,Nat.reduceSub,Nat.reduceAdd,Nat.reduceMul,KP_same,KP_f,condS_t,condS_f,pick_t,pick_f,gS_tt,gS_ff,gS_tf,gS_ft,gS_u,gP_tt,gP_ff,gP_tf,gP_ft,gP_u,ptrV_eq,slcV_eq,mapV_eq,cells_agg,cells_int,cells_bool,cells_ptr,cells_slice,oc_int,oc_bool,oc_slice,oc_ptr,rd1_set,rd1_ne,rdn_set,rdn_ne,Heap.set_same,set_ne,Heap.set_set,set_up,set_up2,set_up3,putAt,ceq,List.map_cons,List.map_nil,List.length_cons,List.length_nil,List.length_set,List.cons_append,List.nil_append,List.append_nil,List.replicate,List.size_toArray,List.all_cons,List.all_nil,Bool.and_self,Bool.and_true,List.drop_zero,List.drop_succ_cons,List.take_succ_cons,List.take_zero,List.set_cons_zero,List.set_cons_succ,List.getElem?_cons_zero,List.getElem?_cons_succ,Option.map_some,Option.map_none,ne_eq,not_false_eq_true,not_true_eq_false,gt_iff_lt,ge_iff_le,Int.one_mul,Nat.zero_add,Nat.zero_mul,Bool.not_true,Bool.not_false,Bool.false_eq_true,Bool.and_false,Bool.false_and,Bool.true_and, *])); repeat' ((first | (with_reducible refine fun _ : True => ?_) | (with_reducible refine any_h ?_) | ((first | refine AllocQ_i ?_ | refine AllocO_i ?_); intro bk hb0 hbk; (try simp only [set_none'] at hbk); (try (first | have hbn := Grow.none (by assumption) hbk | have hbn := Grow.none (by assumption) hbk.2 | have hbn := Grow.none (by assumption) hbk.2.2 | have hbn := Grow.none (by assumption) hbk.2.2.2 | have hbn := Grow.none (by assumption) hbk.2.2.2.2 | have hbn := Grow.none (by assumption) hbk.2.2.2.2.2)); (try simp only [set_none'] at hbn); (try (first | have hbm := Grow.none (by assumption) hbn | have hbm := Grow.none (by assumption) hbn.2 | have hbm := Grow.none (by assumption) hbn.2.2 | have hbm := Grow.none (by assumption) hbn.2.2.2 | have hbm := Grow.none (by assumption) hbn.2.2.2.2 | have hbm := Grow.none (by assumption) hbn.2.2.2.2.2)); (try simp only [set_none'] at hbm)) | ((first | refine condS_i ?_ ?_ | refine pick_i ?_ ?_ | refine gS_it ?_ ?_ | refine gS_if ?_ ?_ | refine gP_it ?_ ?_ | refine gP_if ?_ ?_) <;> (intro hc; try simp only [Int.reduceLE,Int.reduceLT,Int.reduceEq,and_self,not_true_eq_false,not_false_eq_true,and_true,true_and,false_and,and_false,true_or,or_true,false_or,or_false,decide_eq_true_eq,decide_eq_false_iff_not,beq_iff_eq,beq_eq_false_iff_ne,bne_iff_ne,ne_eq,gt_iff_lt,ge_iff_le,Bool.not_eq_true,Bool.not_eq_false,Bool.not_eq_true',Bool.not_eq_false',Bool.not_eq_eq_eq_not,Bool.not_true,Bool.not_false] at hc)) | (refine KP_i (by (repeat' (first | exact Heap.Le.refl _ | (with_reducible refine Le_set2 ?_) | (refine Le_known (by first | (simp only [Heap.set_same, set_ne, ne_eq, not_false_eq_true, *] <;> rfl) | fail) ?_) | (refine Le_fresh (by first | (simp only [*] <;> done) | (simp [set_none', Heap.set_same, set_ne, noneH, *] <;> done) | fail) ?_) | (refine Heap.Le.trans ?_ (Grow.le (by assumption))) | exact Le_none | (refine Le_put ?_ (by first | (simp only [Heap.set_same, set_ne, ne_eq, not_false_eq_true, *] <;> rfl) | fail)) | fail))) ?_) | (with_reducible refine loop_u ?_) | (with_reducible refine And.intro ?_ ?_)) <;> (try simp only [Sh,Si,Sl,Bu,Bb,Bd,Bc,Bw,Bn,Int.reduceAdd,Int.reduceSub,Int.reduceMul,Int.reduceTDiv,Int.reduceTMod,Int.reduceMod,Int.reduceDiv,Nat.reduceLT,Nat.reduceEqDiff,decide_true,decide_false,Sa,Sb,Sc,Sd,Se,Sf,Sg,true_and,and_true,and_self,eq_self,b_i64,b_i32,b_u64,b_u32,b_u8,Int.reduceLE,Int.reduceLT,Int.reduceToNat,Int.reduceNeg,Int.reduceEq,Nat.reduceLeDiff,Nat.reducePow,Int.reducePow,Nat.min_def,reduceIte,Nat.reduceSub,Nat.reduceAdd,Nat.reduceMul,KP_same,KP_f,condS_t,condS_f,pick_t,pick_f,gS_tt,gS_ff,gS_tf,gS_ft,gS_u,gP_tt,gP_ff,gP_tf,gP_ft,gP_u,ptrV_eq,slcV_eq,mapV_eq,cells_agg,cells_int,cells_bool,cells_ptr,cells_slice,oc_int,oc_bool,oc_slice,oc_ptr,rd1_set,rd1_ne,rdn_set,rdn_ne,Heap.set_same,set_ne,Heap.set_set,set_up,set_up2,set_up3,putAt,ceq,List.map_cons,List.map_nil,List.length_cons,List.length_nil,List.length_set,List.cons_append,List.nil_append,List.append_nil,List.replicate,List.size_toArray,List.all_cons,List.all_nil,Bool.and_self,Bool.and_true,List.drop_zero,List.drop_succ_cons,List.take_succ_cons,List.take_zero,List.set_cons_zero,List.set_cons_succ,List.getElem?_cons_zero,List.getElem?_cons_succ,Option.map_some,Option.map_none,ne_eq,not_false_eq_true,not_true_eq_false,gt_iff_lt,ge_iff_le,Int.one_mul,Nat.zero_add,Nat.zero_mul,Bool.not_true,Bool.not_false,Bool.false_eq_true,Bool.and_false,Bool.false_and,Bool.true_and, *]))
    exact Fin_mk (by (repeat' (first | exact Heap.Le.refl _ | (with_reducible refine Le_set2 ?_) | (refine Le_known (by first | (simp only [Heap.set_same, set_ne, ne_eq, not_false_eq_true, *] <;> rfl) | fail) ?_) | (refine Le_fresh (by first | (simp only [*] <;> done) | (simp [set_none', Heap.set_same, set_ne, noneH, *] <;> done) | fail) ?_) | (refine Heap.Le.trans ?_ (Grow.le (by assumption))) | exact Le_none | (refine Le_put ?_ (by first | (simp only [Heap.set_same, set_ne, ne_eq, not_false_eq_true, *] <;> rfl) | fail)) | fail))) h
  all_goals
    rcases hB with ⟨rb, rz, rfl, r1, r2, r3, r4⟩ | ⟨rfl, re⟩
    rotate_left
    · simp at re
    simp only [set_none'] at r2
    rw [up3 hg (by simp only [Heap.set_same, set_ne, ne_eq, not_false_eq_true, *] <;> rfl) (by simp only [Heap.set_same, set_ne, ne_eq, not_false_eq_true, *] <;> rfl)]
    have g0 : Grow w0 H G := Grow.trans (by (repeat' (first | exact Grow.refl _ | assumption | (refine Grow.set ?_ (by assumption) (by first | exact (by simp only [*]) | exact (by simp [set_none', *]) | exact Grow.none (by assumption) (by simp [set_none', *]))) | (refine Grow.trans ?_ (by assumption))))) hg
    clear hg
    simp only [List.map_cons, List.map_nil, List.cons_append, List.nil_append] at r3
    have ff : ∀ k, rd1 w0 G rb k = _ := fun k => by unfold rd1; rw [r3]
    have hne := blk_ne r3
    (all_goals (try simp only [Sh,Si,Sl,Bu,Bb,Bd,Bc,Bw,Bn,Int.reduceAdd,Int.reduceSub,Int.reduceMul,Int.reduceTDiv,Int.reduceTMod,Int.reduceMod,Int.reduceDiv,Nat.reduceLT,Nat.reduceEqDiff,decide_true,decide_false,Sa,Sb,Sc,Sd,Se,Sf,Sg,true_and,and_true,and_self,eq_self,b_i64,b_i32,b_u64,b_u32,b_u8,Int.reduceLE,Int.reduceLT,Int.reduceToNat,Int.reduceNeg,Int.reduceEq,Nat.reduceLeDiff,Nat.reducePow,Int.reducePow,Nat.min_def,reduceIte,Nat.reduceSub,Nat.reduceAdd,Nat.reduceMul,KP_same,KP_f,condS_t,condS_f,pick_t,pick_f,gS_tt,gS_ff,gS_tf,gS_ft,gS_u,gP_tt,gP_ff,gP_tf,gP_ft,gP_u,ptrV_eq,slcV_eq,mapV_eq,cells_agg,cells_int,cells_bool,cells_ptr,cells_slice,oc_int,oc_bool,oc_slice,oc_ptr,rd1_set,rd1_ne,rdn_set,rdn_ne,Heap.set_same,set_ne,Heap.set_set,set_up,set_up2,set_up3,putAt,ceq,List.map_cons,List.map_nil,List.length_cons,List.length_nil,List.length_set,List.cons_append,List.nil_append,List.append_nil,List.replicate,List.size_toArray,List.all_cons,List.all_nil,Bool.and_self,Bool.and_true,List.drop_zero,List.drop_succ_cons,List.take_succ_cons,List.take_zero,List.set_cons_zero,List.set_cons_succ,List.getElem?_cons_zero,List.getElem?_cons_succ,Option.map_some,Option.map_none,ne_eq,not_false_eq_true,not_true_eq_false,gt_iff_lt,ge_iff_le,Int.one_mul,Nat.zero_add,Nat.zero_mul,Bool.not_true,Bool.not_false,Bool.false_eq_true,Bool.and_false,Bool.false_and,Bool.true_and, *])); repeat' ((first | (with_reducible refine fun _ : True => ?_) | (with_reducible refine any_h ?_) | ((first | refine AllocQ_i ?_ | refine AllocO_i ?_); intro bk hb0 hbk; (try simp only [set_none'] at hbk); (try (first | have hbn := Grow.none (by assumption) hbk | have hbn := Grow.none (by assumption) hbk.2 | have hbn := Grow.none (by assumption) hbk.2.2 | have hbn := Grow.none (by assumption) hbk.2.2.2 | have hbn := Grow.none (by assumption) hbk.2.2.2.2 | have hbn := Grow.none (by assumption) hbk.2.2.2.2.2)); (try simp only [set_none'] at hbn); (try (first | have hbm := Grow.none (by assumption) hbn | have hbm := Grow.none (by assumption) hbn.2 | have hbm := Grow.none (by assumption) hbn.2.2 | have hbm := Grow.none (by assumption) hbn.2.2.2 | have hbm := Grow.none (by assumption) hbn.2.2.2.2 | have hbm := Grow.none (by assumption) hbn.2.2.2.2.2)); (try simp only [set_none'] at hbm)) | ((first | refine condS_i ?_ ?_ | refine pick_i ?_ ?_ | refine gS_it ?_ ?_ | refine gS_if ?_ ?_ | refine gP_it ?_ ?_ | refine gP_if ?_ ?_) <;> (intro hc; try simp only [Int.reduceLE,Int.reduceLT,Int.reduceEq,and_self,not_true_eq_false,not_false_eq_true,and_true,true_and,false_and,and_false,true_or,or_true,false_or,or_false,decide_eq_true_eq,decide_eq_false_iff_not,beq_iff_eq,beq_eq_false_iff_ne,bne_iff_ne,ne_eq,gt_iff_lt,ge_iff_le,Bool.not_eq_true,Bool.not_eq_false,Bool.not_eq_true',Bool.not_eq_false',Bool.not_eq_eq_eq_not,Bool.not_true,Bool.not_false] at hc)) | (refine KP_i (by (repeat' (first | exact Heap.Le.refl _ | (with_reducible refine Le_set2 ?_) | (refine Le_known (by first | (simp only [Heap.set_same, set_ne, ne_eq, not_false_eq_true, *] <;> rfl) | fail) ?_) | (refine Le_fresh (by first | (simp only [*] <;> done) | (simp [set_none', Heap.set_same, set_ne, noneH, *] <;> done) | fail) ?_) | (refine Heap.Le.trans ?_ (Grow.le (by assumption))) | exact Le_none | (refine Le_put ?_ (by first | (simp only [Heap.set_same, set_ne, ne_eq, not_false_eq_true, *] <;> rfl) | fail)) | fail))) ?_) | (with_reducible refine loop_u ?_) | (with_reducible refine And.intro ?_ ?_)) <;> (try simp only [Sh,Si,Sl,Bu,Bb,Bd,Bc,Bw,Bn,Int.reduceAdd,Int.reduceSub,Int.reduceMul,Int.reduceTDiv,Int.reduceTMod,Int.reduceMod,Int.reduceDiv,Nat.reduceLT,Nat.reduceEqDiff,decide_true,decide_false,Sa,Sb,Sc,Sd,Se,Sf,Sg,true_and,and_true,and_self,eq_self,b_i64,b_i32,b_u64,b_u32,b_u8,Int.reduceLE,Int.reduceLT,Int.reduceToNat,Int.reduceNeg,Int.reduceEq,Nat.reduceLeDiff,Nat.reducePow,Int.reducePow,Nat.min_def,reduceIte,Nat.reduceSub,Nat.reduceAdd,Nat.reduceMul,KP_same,KP_f,condS_t,condS_f,pick_t,pick_f,gS_tt,gS_ff,gS_tf,gS_ft,gS_u,gP_tt,gP_ff,gP_tf,gP_ft,gP_u,ptrV_eq,slcV_eq,mapV_eq,cells_agg,cells_int,cells_bool,cells_ptr,cells_slice,oc_int,oc_bool,oc_slice,oc_ptr,rd1_set,rd1_ne,rdn_set,rdn_ne,Heap.set_same,set_ne,Heap.set_set,set_up,set_up2,set_up3,putAt,ceq,List.map_cons,List.map_nil,List.length_cons,List.length_nil,List.length_set,List.cons_append,List.nil_append,List.append_nil,List.replicate,List.size_toArray,List.all_cons,List.all_nil,Bool.and_self,Bool.and_true,List.drop_zero,List.drop_succ_cons,List.take_succ_cons,List.take_zero,List.set_cons_zero,List.set_cons_succ,List.getElem?_cons_zero,List.getElem?_cons_succ,Option.map_some,Option.map_none,ne_eq,not_false_eq_true,not_true_eq_false,gt_iff_lt,ge_iff_le,Int.one_mul,Nat.zero_add,Nat.zero_mul,Bool.not_true,Bool.not_false,Bool.false_eq_true,Bool.and_false,Bool.false_and,Bool.true_and, *]))
    exact Fin_mk (by (repeat' (first | exact Heap.Le.refl _ | (with_reducible refine Le_set2 ?_) | (refine Le_known (by first | (simp only [Heap.set_same, set_ne, ne_eq, not_false_eq_true, *] <;> rfl) | fail) ?_) | (refine Le_fresh (by first | (simp only [*] <;> done) | (simp [set_none', Heap.set_same, set_ne, noneH, *] <;> done) | fail) ?_) | (refine Heap.Le.trans ?_ (Grow.le (by assumption))) | exact Le_none | (refine Le_put ?_ (by first | (simp only [Heap.set_same, set_ne, ne_eq, not_false_eq_true, *] <;> rfl) | fail)) | fail))) h
end
theorem c_keep (i : Ins) (h : K (keepI i).v H) : HCalls Try.prog w0 32 [i.v] H K := by
  obtain ⟨op, fn, bs, n, dst, a, b, c, m0, m1, m2, m3, p0, p1, p2, p3⟩ := i
  by_cases ho : op = 5
  · subst ho
    exact keep_do h
  · exact keep_a h (by omega)
end Go.Proofs.Ytndgmnmnpfblmaa
