/- Distances and windows, by the program and by the document (layer 21). -/
import Derived.Test.YtofgiimfempcjaaCla
import Derived.Test.YtofgiimfempcjaaClp
import Derived.Test.YtofgiimfempcjaaFc
set_option linter.unusedSimpArgs false
set_option linter.unusedVariables false
set_option maxRecDepth 100000
set_option maxHeartbeats 4000000
namespace Go.Proofs.Ytofgiimfempcjaa
open Go Go.HL Go.RowKit Pb
variable {w0 : World} {H : Heap} {K : Value → Heap → Prop}

/- clip distance -/
def M34 : MC :=
  .seq (.reg [⟨(some 2), .box 29 (.tmp 0), none⟩,
     ⟨(some 4), .mv (.const (.int .i32 0)), none⟩])
  (.seq (.any [(true, true, ⟨(some 9), .fa 0 (.tmp 2), none⟩),
      (true, true, ⟨(some 10), .ia 4 1 (.tmp 9) (.const (.int .i64 0)), none⟩),
      (true, true, ⟨(some 11), .ld1 (.tmp 10), none⟩),
      (true, true, ⟨(some 12), .fa 0 (.tmp 2), none⟩),
      (true, true, ⟨(some 13), .ia 4 1 (.tmp 12) (.const (.int .i64 1)), none⟩),
      (true, true, ⟨(some 14), .ld1 (.tmp 13), none⟩),
      (true, true, ⟨(some 15), .fa 0 (.tmp 2), none⟩),
      (true, true, ⟨(some 16), .ia 4 1 (.tmp 15) (.const (.int .i64 2)), none⟩),
      (true, true, ⟨(some 17), .ld1 (.tmp 16), none⟩),
      (true, true, ⟨(some 18), .fa 0 (.tmp 2), none⟩),
      (true, true, ⟨(some 19), .ia 4 1 (.tmp 18) (.const (.int .i64 3)), none⟩),
      (true, true, ⟨(some 20), .ld1 (.tmp 19), none⟩),
      (false, true, ⟨(some 5), .mv (.tmp 11), none⟩),
      (false, true, ⟨(some 6), .mv (.tmp 14), none⟩),
      (false, true, ⟨(some 7), .mv (.tmp 17), none⟩),
      (false, false, ⟨(some 8), .mv (.tmp 20), none⟩)])
   (.seq (.seq (.reg [⟨(some 21), .mv (.tmp 1), none⟩])
     (.block 0 (.seq (.reg [⟨(some 23), .bin .eql (.tmp 21) (.const (.int .i64 0)), none⟩,
          ⟨(some 22), .mv (.tmp 23), none⟩])
       (.cond (.tmp 22)
        (.seq (.reg [⟨(some 24), .mv (.tmp 8), none⟩,
            ⟨(some 25), .call 45 [(.tmp 24), (.const (.int .i32 1))], none⟩,
            ⟨(some 4), .mv (.tmp 25), none⟩])
         (.ret))
        (.seq (.reg [⟨(some 27), .bin .eql (.tmp 21) (.const (.int .i64 1)), none⟩,
            ⟨(some 26), .mv (.tmp 27), none⟩])
         (.cond (.tmp 26)
          (.seq (.reg [⟨(some 28), .mv (.tmp 8), none⟩,
              ⟨(some 29), .mv (.tmp 5), none⟩,
              ⟨(some 30), .call 46 [(.tmp 28), (.tmp 29)], none⟩,
              ⟨(some 4), .mv (.tmp 30), none⟩])
           (.ret))
          (.seq (.reg [⟨(some 32), .bin .eql (.tmp 21) (.const (.int .i64 2)), none⟩,
              ⟨(some 31), .mv (.tmp 32), none⟩])
           (.cond (.tmp 31)
            (.seq (.reg [⟨(some 33), .mv (.tmp 8), none⟩,
                ⟨(some 34), .mv (.tmp 5), none⟩,
                ⟨(some 35), .call 45 [(.tmp 33), (.tmp 34)], none⟩,
                ⟨(some 4), .mv (.tmp 35), none⟩])
             (.ret))
            (.seq (.reg [⟨(some 37), .bin .eql (.tmp 21) (.const (.int .i64 3)), none⟩,
                ⟨(some 36), .mv (.tmp 37), none⟩])
             (.cond (.tmp 36)
              (.seq (.reg [⟨(some 38), .mv (.tmp 8), none⟩,
                  ⟨(some 39), .mv (.tmp 6), none⟩,
                  ⟨(some 40), .call 46 [(.tmp 38), (.tmp 39)], none⟩,
                  ⟨(some 4), .mv (.tmp 40), none⟩])
               (.ret))
              (.seq (.reg [⟨(some 42), .bin .eql (.tmp 21) (.const (.int .i64 4)), none⟩,
                  ⟨(some 41), .mv (.tmp 42), none⟩])
               (.cond (.tmp 41)
                (.seq (.reg [⟨(some 43), .mv (.tmp 8), none⟩,
                    ⟨(some 44), .mv (.tmp 6), none⟩,
                    ⟨(some 45), .call 45 [(.tmp 43), (.tmp 44)], none⟩,
                    ⟨(some 4), .mv (.tmp 45), none⟩])
                 (.ret))
                (.seq (.reg [⟨(some 47), .bin .eql (.tmp 21) (.const (.int .i64 5)), none⟩,
                    ⟨(some 46), .mv (.tmp 47), none⟩])
                 (.cond (.tmp 46)
                  (.seq (.reg [⟨(some 48), .mv (.tmp 8), none⟩,
                      ⟨(some 49), .mv (.tmp 7), none⟩,
                      ⟨(some 50), .call 46 [(.tmp 48), (.tmp 49)], none⟩,
                      ⟨(some 4), .mv (.tmp 50), none⟩])
                   (.ret))
                  (.skip)))))))))))))))
    (.seq (.reg [⟨(some 51), .mv (.tmp 8), none⟩,
        ⟨(some 52), .mv (.tmp 7), none⟩,
        ⟨(some 53), .call 45 [(.tmp 51), (.tmp 52)], none⟩,
        ⟨(some 4), .mv (.tmp 53), none⟩])
     (.ret))))
theorem k34 : fnOk Try.prog 34 = some (M34, [.t 4], 54) := by kernel_rfl

theorem c_distance (x : VtR) (n : Int) (hx : V32 x.p) (h : K (.int .i32 (dist x.p n)) H) : HCalls Try.prog w0 34 [x.v, .int .i64 n] H K := by
  have key : ∀ G y, Heap.Le H G → y = dist x.p n → HL.Fin K (.int .i32 y) G := fun G y g e => by subst e; exact Fin_mk g h
  have o1 : I32 1 := i32_of rfl
  clear h
  unfold VtR.v
  refine HL.hc k34 999 ?_; unfold M34
  (all_goals (refine (fun f : True → _ => f trivial) ?_)); repeat' ((first | (with_reducible refine fun _ : True => ?_) | refine c_Sub _ _ (hx 3) o1 ?_ | refine c_Add _ _ (hx 3) (hx _) ?_ | refine c_Sub _ _ (hx 3) (hx _) ?_ | (refine AllocQ_i ?_; intro bk hb0 hbk; try simp only [set_none'] at hbk) | ((first | refine condS_i ?_ ?_ | refine pick_i ?_ ?_ | refine gS_it ?_ ?_ | refine gS_if ?_ ?_ | refine gP_it ?_ ?_ | refine gP_if ?_ ?_) <;> (intro hc; try simp only [Int.reduceLE,Int.reduceLT,Int.reduceEq,and_self,not_true_eq_false,not_false_eq_true,and_true,true_and,false_and,and_false,true_or,or_true,false_or,or_false,decide_eq_true_eq,decide_eq_false_iff_not,beq_iff_eq,beq_eq_false_iff_ne,bne_iff_ne,ne_eq,gt_iff_lt,ge_iff_le,Bool.not_eq_true,Bool.not_eq_false,Bool.not_eq_true',Bool.not_eq_false',Bool.not_eq_eq_eq_not,Bool.not_true,Bool.not_false] at hc)) | (refine KP_i (by (repeat' (first | exact Heap.Le.refl _ | (refine Le_fresh (by first | exact (by simp only [*]) | exact (by simp [set_none', *])) ?_) | (refine Heap.Le.trans ?_ (Grow.le (by assumption)))))) ?_) | (with_reducible refine And.intro ?_ ?_)) <;> (try simp only [Sh,Si,Sl,Bu,Bb,Bd,Bc,Bw,Bn,Int.reduceAdd,Int.reduceSub,Int.reduceMul,Int.reduceTDiv,Int.reduceTMod,Int.reduceMod,Int.reduceDiv,Nat.reduceLT,Nat.reduceEqDiff,decide_true,decide_false,Sa,Sb,Sc,Sd,Se,Sf,Sg,true_and,and_true,and_self,eq_self,b_i64,b_i32,b_u64,b_u32,b_u8,Int.reduceLE,Int.reduceLT,Int.reduceToNat,Int.reduceNeg,Int.reduceEq,Nat.reduceLeDiff,Nat.reducePow,Int.reducePow,Nat.min_def,reduceIte,Nat.reduceSub,Nat.reduceAdd,Nat.reduceMul,KP_same,KP_f,condS_t,condS_f,pick_t,pick_f,gS_tt,gS_ff,gS_tf,gS_ft,gS_u,gP_tt,gP_ff,gP_tf,gP_ft,gP_u,ptrV_eq,slcV_eq,cells_agg,cells_int,cells_bool,cells_ptr,cells_slice,oc_int,oc_bool,oc_slice,oc_ptr,rd1_set,rd1_ne,rdn_set,rdn_ne,Heap.set_same,set_ne,Heap.set_set,set_up,set_up2,set_up3,putAt,ceq,List.map_cons,List.map_nil,List.length_cons,List.length_nil,List.length_set,List.cons_append,List.nil_append,List.append_nil,List.replicate,List.size_toArray,List.all_cons,List.all_nil,Bool.and_self,Bool.and_true,List.drop_zero,List.drop_succ_cons,List.take_succ_cons,List.take_zero,List.set_cons_zero,List.set_cons_succ,List.getElem?_cons_zero,List.getElem?_cons_succ,Option.map_some,Option.map_none,ne_eq,not_false_eq_true,not_true_eq_false,gt_iff_lt,ge_iff_le,Int.one_mul,Nat.zero_add,Nat.zero_mul,Bool.not_true,Bool.not_false,Bool.false_eq_true,Bool.and_false,Bool.false_and,Bool.true_and, *]))
  all_goals (refine key _ _ (by (repeat' (first | exact Heap.Le.refl _ | (refine Le_known (by first | (simp only [Heap.set_same, set_ne, ne_eq, not_false_eq_true, *] <;> rfl) | fail) ?_) | (refine Le_fresh (by first | (simp only [*] <;> done) | (simp [set_none', Heap.set_same, set_ne, *] <;> done) | fail) ?_) | (refine Heap.Le.trans ?_ (Grow.le (by assumption)))))) ?_; unfold dist; (repeat' split) <;> first | rfl | (exfalso; omega))
/- clip Distance -/
def M18 : MC :=
  .seq (.reg [⟨(some 2), .box 29 (.tmp 0), none⟩,
     ⟨(some 4), .mv (.const (.int .i32 0)), none⟩,
     ⟨(some 5), .mv (.const (.int .i64 0)), none⟩])
  (.seq (.seq (.reg [⟨(some 6), .mv (.tmp 1), none⟩,
       ⟨(some 7), .bin .lss (.tmp 6) (.const (.int .i64 0)), none⟩,
       ⟨(some 8), .mv (.tmp 7), none⟩,
       ⟨(some 9), .mv (.tmp 1), (some (8, false))⟩,
       ⟨(some 10), .bin .geq (.tmp 9) (.const (.int .i64 7)), (some (8, false))⟩,
       ⟨(some 11), .pick (.tmp 8) (.const (.bool true)) (.tmp 10), none⟩])
    (.cond (.tmp 11)
     (.seq (.reg [⟨(some 4), .mv (.const (.int .i32 0)), none⟩,
         ⟨(some 5), .mv (.const (.int .i64 2)), none⟩])
      (.ret))
     (.skip)))
   (.seq (.reg [⟨(some 12), .ldn 6 (.tmp 2), none⟩,
       ⟨(some 13), .mv (.tmp 1), none⟩,
       ⟨(some 14), .call 34 [(.tmp 12), (.tmp 13)], none⟩,
       ⟨(some 4), .mv (.tmp 14), none⟩,
       ⟨(some 5), .mv (.const (.int .i64 0)), none⟩])
    (.ret)))
theorem k18 : fnOk Try.prog 18 = some (M18, [.t 4, .t 5], 15) := by kernel_rfl

theorem c_Distance (x : VtR) (n : Int) (hx : V32 x.p) (h : K (.tuple #[.int .i32 (if n < 0 ∨ 7 ≤ n then 0 else dist x.p n), .int .i64 (if n < 0 ∨ 7 ≤ n then 2 else 0)]) H) : HCalls Try.prog w0 18 [x.v, .int .i64 n] H K := by
  have key : ∀ G y z, Heap.Le H G → y = (if n < 0 ∨ 7 ≤ n then 0 else dist x.p n) → z = (if n < 0 ∨ 7 ≤ n then 2 else 0) → HL.Fin K (.tuple #[.int .i32 y, .int .i64 z]) G := fun G y z g e e' => by subst e e'; exact Fin_mk g h
  clear h
  refine HL.hc k18 999 ?_; unfold M18
  (all_goals (refine (fun f : True → _ => f trivial) ?_)); repeat' ((first | (with_reducible refine fun _ : True => ?_) | refine c_distance x _ hx ?_ | (refine AllocQ_i ?_; intro bk hb0 hbk; try simp only [set_none'] at hbk) | ((first | refine condS_i ?_ ?_ | refine pick_i ?_ ?_ | refine gS_it ?_ ?_ | refine gS_if ?_ ?_ | refine gP_it ?_ ?_ | refine gP_if ?_ ?_) <;> (intro hc; try simp only [Int.reduceLE,Int.reduceLT,Int.reduceEq,and_self,not_true_eq_false,not_false_eq_true,and_true,true_and,false_and,and_false,true_or,or_true,false_or,or_false,decide_eq_true_eq,decide_eq_false_iff_not,beq_iff_eq,beq_eq_false_iff_ne,bne_iff_ne,ne_eq,gt_iff_lt,ge_iff_le,Bool.not_eq_true,Bool.not_eq_false,Bool.not_eq_true',Bool.not_eq_false',Bool.not_eq_eq_eq_not,Bool.not_true,Bool.not_false] at hc)) | (refine KP_i (by (repeat' (first | exact Heap.Le.refl _ | (refine Le_fresh (by first | exact (by simp only [*]) | exact (by simp [set_none', *])) ?_) | (refine Heap.Le.trans ?_ (Grow.le (by assumption)))))) ?_) | (with_reducible refine And.intro ?_ ?_)) <;> (try simp only [Sh,Si,Sl,Bu,Bb,Bd,Bc,Bw,Bn,Int.reduceAdd,Int.reduceSub,Int.reduceMul,Int.reduceTDiv,Int.reduceTMod,Int.reduceMod,Int.reduceDiv,Nat.reduceLT,Nat.reduceEqDiff,decide_true,decide_false,Sa,Sb,Sc,Sd,Se,Sf,Sg,true_and,and_true,and_self,eq_self,b_i64,b_i32,b_u64,b_u32,b_u8,Int.reduceLE,Int.reduceLT,Int.reduceToNat,Int.reduceNeg,Int.reduceEq,Nat.reduceLeDiff,Nat.reducePow,Int.reducePow,Nat.min_def,reduceIte,Nat.reduceSub,Nat.reduceAdd,Nat.reduceMul,KP_same,KP_f,condS_t,condS_f,pick_t,pick_f,gS_tt,gS_ff,gS_tf,gS_ft,gS_u,gP_tt,gP_ff,gP_tf,gP_ft,gP_u,ptrV_eq,slcV_eq,cells_agg,cells_int,cells_bool,cells_ptr,cells_slice,oc_int,oc_bool,oc_slice,oc_ptr,rd1_set,rd1_ne,rdn_set,rdn_ne,Heap.set_same,set_ne,Heap.set_set,set_up,set_up2,set_up3,putAt,ceq,List.map_cons,List.map_nil,List.length_cons,List.length_nil,List.length_set,List.cons_append,List.nil_append,List.append_nil,List.replicate,List.size_toArray,List.all_cons,List.all_nil,Bool.and_self,Bool.and_true,List.drop_zero,List.drop_succ_cons,List.take_succ_cons,List.take_zero,List.set_cons_zero,List.set_cons_succ,List.getElem?_cons_zero,List.getElem?_cons_succ,Option.map_some,Option.map_none,ne_eq,not_false_eq_true,not_true_eq_false,gt_iff_lt,ge_iff_le,Int.one_mul,Nat.zero_add,Nat.zero_mul,Bool.not_true,Bool.not_false,Bool.false_eq_true,Bool.and_false,Bool.false_and,Bool.true_and, *]))
  all_goals (refine key _ _ _ (by (repeat' (first | exact Heap.Le.refl _ | (refine Le_known (by first | (simp only [Heap.set_same, set_ne, ne_eq, not_false_eq_true, *] <;> rfl) | fail) ?_) | (refine Le_fresh (by first | (simp only [*] <;> done) | (simp [set_none', Heap.set_same, set_ne, *] <;> done) | fail) ?_) | (refine Heap.Le.trans ?_ (Grow.le (by assumption)))))) ?_ ?_ <;> (split <;> first | rfl | (exfalso; omega)))
/- paintboxref21 Distance -/
def M20 : MC :=
  .seq (.reg [⟨(some 2), .box 29 (.tmp 0), none⟩,
     ⟨(some 4), .mv (.const (.int .i32 0)), none⟩])
  (.seq (.reg [⟨(some 7), .fa 0 (.tmp 2), none⟩,
      ⟨(some 8), .ia 4 1 (.tmp 7) (.const (.int .i64 3)), none⟩,
      ⟨(some 9), .ld1 (.tmp 8), none⟩,
      ⟨(some 5), .mv (.tmp 9), none⟩])
   (.seq (.seq (.reg [⟨(some 10), .mv (.tmp 1), none⟩,
        ⟨(some 11), .bin .eql (.tmp 10) (.const (.int .i64 0)), none⟩])
     (.cond (.tmp 11)
      (.seq (.reg [⟨(some 12), .mv (.tmp 5), none⟩,
          ⟨(some 13), .call 37 [(.tmp 12), (.const (.int .i32 1))], none⟩,
          ⟨(some 4), .mv (.tmp 13), none⟩])
       (.ret))
      (.skip)))
    (.seq (.reg [⟨(some 14), .mv (.tmp 1), none⟩,
        ⟨(some 15), .bin .sub (.tmp 14) (.const (.int .i64 1)), none⟩,
        ⟨(some 16), .bin .quo (.tmp 15) (.const (.int .i64 2)), none⟩,
        ⟨(some 17), .fa 0 (.tmp 2), none⟩,
        ⟨(some 18), .ia 4 1 (.tmp 17) (.tmp 16), none⟩,
        ⟨(some 19), .ld1 (.tmp 18), none⟩,
        ⟨(some 6), .mv (.tmp 19), none⟩])
     (.seq (.seq (.reg [⟨(some 20), .mv (.tmp 1), none⟩,
          ⟨(some 21), .bin .rem (.tmp 20) (.const (.int .i64 2)), none⟩,
          ⟨(some 22), .bin .eql (.tmp 21) (.const (.int .i64 1)), none⟩])
       (.cond (.tmp 22)
        (.seq (.reg [⟨(some 23), .mv (.tmp 5), none⟩,
            ⟨(some 24), .mv (.tmp 6), none⟩,
            ⟨(some 25), .call 38 [(.tmp 23), (.tmp 24)], none⟩,
            ⟨(some 4), .mv (.tmp 25), none⟩])
         (.ret))
        (.skip)))
      (.seq (.reg [⟨(some 26), .mv (.tmp 5), none⟩,
          ⟨(some 27), .mv (.tmp 6), none⟩,
          ⟨(some 28), .call 37 [(.tmp 26), (.tmp 27)], none⟩,
          ⟨(some 4), .mv (.tmp 28), none⟩])
       (.ret))))))
theorem k20 : fnOk Try.prog 20 = some (M20, [.t 4], 29) := by kernel_rfl

theorem r_Distance (x : VtR) (n : Int) (hn : 0 ≤ n ∧ n ≤ 6) (hx : V32 x.p) (h : K (.int .i32 (dist x.p n)) H) : HCalls Try.prog w0 20 [x.v, .int .i64 n] H K := by
  have o1 : I32 1 := i32_of rfl
  rcases (by omega : n = 0 ∨ n = 1 ∨ n = 2 ∨ n = 3 ∨ n = 4 ∨ n = 5 ∨ n = 6) with rfl | rfl | rfl | rfl | rfl | rfl | rfl
  all_goals simp [dist] at h
  all_goals unfold VtR.v
  all_goals (refine HL.hc k20 999 ?_; unfold M20)
  all_goals ((all_goals (refine (fun f : True → _ => f trivial) ?_)); repeat' ((first | (with_reducible refine fun _ : True => ?_) | refine r_Sub _ _ (hx 3) o1 ?_ | refine r_Add _ _ (hx 3) (hx _) ?_ | refine r_Sub _ _ (hx 3) (hx _) ?_ | (refine AllocQ_i ?_; intro bk hb0 hbk; try simp only [set_none'] at hbk) | ((first | refine condS_i ?_ ?_ | refine pick_i ?_ ?_ | refine gS_it ?_ ?_ | refine gS_if ?_ ?_ | refine gP_it ?_ ?_ | refine gP_if ?_ ?_) <;> (intro hc; try simp only [Int.reduceLE,Int.reduceLT,Int.reduceEq,and_self,not_true_eq_false,not_false_eq_true,and_true,true_and,false_and,and_false,true_or,or_true,false_or,or_false,decide_eq_true_eq,decide_eq_false_iff_not,beq_iff_eq,beq_eq_false_iff_ne,bne_iff_ne,ne_eq,gt_iff_lt,ge_iff_le,Bool.not_eq_true,Bool.not_eq_false,Bool.not_eq_true',Bool.not_eq_false',Bool.not_eq_eq_eq_not,Bool.not_true,Bool.not_false] at hc)) | (refine KP_i (by (repeat' (first | exact Heap.Le.refl _ | (refine Le_fresh (by first | exact (by simp only [*]) | exact (by simp [set_none', *])) ?_) | (refine Heap.Le.trans ?_ (Grow.le (by assumption)))))) ?_) | (with_reducible refine And.intro ?_ ?_)) <;> (try simp only [Sh,Si,Sl,Bu,Bb,Bd,Bc,Bw,Bn,Int.reduceAdd,Int.reduceSub,Int.reduceMul,Int.reduceTDiv,Int.reduceTMod,Int.reduceMod,Int.reduceDiv,Nat.reduceLT,Nat.reduceEqDiff,decide_true,decide_false,Sa,Sb,Sc,Sd,Se,Sf,Sg,true_and,and_true,and_self,eq_self,b_i64,b_i32,b_u64,b_u32,b_u8,Int.reduceLE,Int.reduceLT,Int.reduceToNat,Int.reduceNeg,Int.reduceEq,Nat.reduceLeDiff,Nat.reducePow,Int.reducePow,Nat.min_def,reduceIte,Nat.reduceSub,Nat.reduceAdd,Nat.reduceMul,KP_same,KP_f,condS_t,condS_f,pick_t,pick_f,gS_tt,gS_ff,gS_tf,gS_ft,gS_u,gP_tt,gP_ff,gP_tf,gP_ft,gP_u,ptrV_eq,slcV_eq,cells_agg,cells_int,cells_bool,cells_ptr,cells_slice,oc_int,oc_bool,oc_slice,oc_ptr,rd1_set,rd1_ne,rdn_set,rdn_ne,Heap.set_same,set_ne,Heap.set_set,set_up,set_up2,set_up3,putAt,ceq,List.map_cons,List.map_nil,List.length_cons,List.length_nil,List.length_set,List.cons_append,List.nil_append,List.append_nil,List.replicate,List.size_toArray,List.all_cons,List.all_nil,Bool.and_self,Bool.and_true,List.drop_zero,List.drop_succ_cons,List.take_succ_cons,List.take_zero,List.set_cons_zero,List.set_cons_succ,List.getElem?_cons_zero,List.getElem?_cons_succ,Option.map_some,Option.map_none,ne_eq,not_false_eq_true,not_true_eq_false,gt_iff_lt,ge_iff_le,Int.one_mul,Nat.zero_add,Nat.zero_mul,Bool.not_true,Bool.not_false,Bool.false_eq_true,Bool.and_false,Bool.false_and,Bool.true_and, *])))
  all_goals exact Fin_mk (by (repeat' (first | exact Heap.Le.refl _ | (refine Le_known (by first | (simp only [Heap.set_same, set_ne, ne_eq, not_false_eq_true, *] <;> rfl) | fail) ?_) | (refine Le_fresh (by first | (simp only [*] <;> done) | (simp [set_none', Heap.set_same, set_ne, *] <;> done) | fail) ?_) | (refine Heap.Le.trans ?_ (Grow.le (by assumption)))))) h
/- clip Right -/
def M19 : MC :=
  .seq (.reg [⟨(some 1), .box 24 (.tmp 0), none⟩,
     ⟨(some 2), .mv (.const (.bool false)), none⟩])
  (.seq (.seq (.reg [⟨(some 3), .fa 0 (.tmp 1), none⟩,
       ⟨(some 4), .ld1 (.tmp 3), none⟩,
       ⟨(some 5), .bin .lss (.tmp 4) (.const (.int .i64 0)), none⟩,
       ⟨(some 6), .mv (.tmp 5), none⟩,
       ⟨(some 7), .fa 1 (.tmp 1), (some (6, false))⟩,
       ⟨(some 8), .ld1 (.tmp 7), (some (6, false))⟩,
       ⟨(some 9), .bin .lss (.tmp 8) (.const (.int .i64 0)), (some (6, false))⟩,
       ⟨(some 10), .pick (.tmp 6) (.const (.bool true)) (.tmp 9), none⟩,
       ⟨(some 11), .mv (.tmp 10), none⟩,
       ⟨(some 12), .fa 2 (.tmp 1), (some (11, false))⟩,
       ⟨(some 13), .ld1 (.tmp 12), (some (11, false))⟩,
       ⟨(some 14), .bin .lss (.tmp 13) (.const (.int .i64 0)), (some (11, false))⟩,
       ⟨(some 15), .pick (.tmp 11) (.const (.bool true)) (.tmp 14), none⟩,
       ⟨(some 16), .mv (.tmp 15), none⟩,
       ⟨(some 17), .fa 3 (.tmp 1), (some (16, false))⟩,
       ⟨(some 18), .ld1 (.tmp 17), (some (16, false))⟩,
       ⟨(some 19), .bin .lss (.tmp 18) (.const (.int .i64 0)), (some (16, false))⟩,
       ⟨(some 20), .pick (.tmp 16) (.const (.bool true)) (.tmp 19), none⟩,
       ⟨(some 21), .mv (.tmp 20), none⟩,
       ⟨(some 22), .fa 0 (.tmp 1), (some (21, false))⟩,
       ⟨(some 23), .ld1 (.tmp 22), (some (21, false))⟩,
       ⟨(some 24), .bin .gtr (.tmp 23) (.const (.int .i64 64)), (some (21, false))⟩,
       ⟨(some 25), .pick (.tmp 21) (.const (.bool true)) (.tmp 24), none⟩,
       ⟨(some 26), .mv (.tmp 25), none⟩,
       ⟨(some 27), .fa 1 (.tmp 1), (some (26, false))⟩,
       ⟨(some 28), .ld1 (.tmp 27), (some (26, false))⟩,
       ⟨(some 29), .bin .gtr (.tmp 28) (.const (.int .i64 64)), (some (26, false))⟩,
       ⟨(some 30), .pick (.tmp 26) (.const (.bool true)) (.tmp 29), none⟩,
       ⟨(some 31), .mv (.tmp 30), none⟩,
       ⟨(some 32), .fa 2 (.tmp 1), (some (31, false))⟩,
       ⟨(some 33), .ld1 (.tmp 32), (some (31, false))⟩,
       ⟨(some 34), .bin .gtr (.tmp 33) (.const (.int .i64 64)), (some (31, false))⟩,
       ⟨(some 35), .pick (.tmp 31) (.const (.bool true)) (.tmp 34), none⟩,
       ⟨(some 36), .mv (.tmp 35), none⟩,
       ⟨(some 37), .fa 3 (.tmp 1), (some (36, false))⟩,
       ⟨(some 38), .ld1 (.tmp 37), (some (36, false))⟩,
       ⟨(some 39), .bin .gtr (.tmp 38) (.const (.int .i64 64)), (some (36, false))⟩,
       ⟨(some 40), .pick (.tmp 36) (.const (.bool true)) (.tmp 39), none⟩])
    (.cond (.tmp 40)
     (.seq (.reg [⟨(some 2), .mv (.const (.bool false)), none⟩])
      (.ret))
     (.skip)))
   (.seq (.reg [⟨(some 41), .fa 0 (.tmp 1), none⟩,
       ⟨(some 42), .ld1 (.tmp 41), none⟩,
       ⟨(some 43), .fa 2 (.tmp 1), none⟩,
       ⟨(some 44), .ld1 (.tmp 43), none⟩,
       ⟨(some 45), .bin .add (.tmp 42) (.tmp 44), none⟩,
       ⟨(some 46), .bin .leq (.tmp 45) (.const (.int .i64 64)), none⟩,
       ⟨(some 47), .mv (.tmp 46), none⟩,
       ⟨(some 48), .fa 1 (.tmp 1), (some (47, true))⟩,
       ⟨(some 49), .ld1 (.tmp 48), (some (47, true))⟩,
       ⟨(some 50), .fa 3 (.tmp 1), (some (47, true))⟩,
       ⟨(some 51), .ld1 (.tmp 50), (some (47, true))⟩,
       ⟨(some 52), .bin .add (.tmp 49) (.tmp 51), (some (47, true))⟩,
       ⟨(some 53), .bin .leq (.tmp 52) (.const (.int .i64 64)), (some (47, true))⟩,
       ⟨(some 54), .pick (.tmp 47) (.tmp 53) (.const (.bool false)), none⟩,
       ⟨(some 55), .mv (.tmp 54), none⟩,
       ⟨(some 56), .fa 4 (.tmp 1), (some (55, true))⟩,
       ⟨(some 57), .ld1 (.tmp 56), (some (55, true))⟩,
       ⟨(some 58), .bin .geq (.tmp 57) (.const (.int .i32 0)), (some (55, true))⟩,
       ⟨(some 59), .pick (.tmp 55) (.tmp 58) (.const (.bool false)), none⟩,
       ⟨(some 60), .mv (.tmp 59), none⟩,
       ⟨(some 61), .fa 4 (.tmp 1), (some (60, true))⟩,
       ⟨(some 62), .ld1 (.tmp 61), (some (60, true))⟩,
       ⟨(some 63), .bin .leq (.tmp 62) (.const (.int .i32 65536)), (some (60, true))⟩,
       ⟨(some 64), .pick (.tmp 60) (.tmp 63) (.const (.bool false)), none⟩,
       ⟨(some 65), .mv (.tmp 64), none⟩,
       ⟨(some 66), .fa 5 (.tmp 1), (some (65, true))⟩,
       ⟨(some 67), .ld1 (.tmp 66), (some (65, true))⟩,
       ⟨(some 68), .bin .geq (.tmp 67) (.const (.int .i32 0)), (some (65, true))⟩,
       ⟨(some 69), .pick (.tmp 65) (.tmp 68) (.const (.bool false)), none⟩,
       ⟨(some 70), .mv (.tmp 69), none⟩,
       ⟨(some 71), .fa 5 (.tmp 1), (some (70, true))⟩,
       ⟨(some 72), .ld1 (.tmp 71), (some (70, true))⟩,
       ⟨(some 73), .bin .leq (.tmp 72) (.const (.int .i32 65536)), (some (70, true))⟩,
       ⟨(some 74), .pick (.tmp 70) (.tmp 73) (.const (.bool false)), none⟩,
       ⟨(some 2), .mv (.tmp 74), none⟩])
    (.ret)))
theorem k19 : fnOk Try.prog 19 = some (M19, [.t 2], 75) := by kernel_rfl

theorem c_Right (v : Vw) (hx : I64 v.x) (hy : I64 v.y) (hw : I64 v.w) (hh : I64 v.h) (h : K (.bool (decide v.right)) H) : HCalls Try.prog w0 19 [v.v] H K := by
  have key : ∀ (G : Heap) (b : Bool), Heap.Le H G → (b = true ↔ v.right) → HL.Fin K (.bool b) G := fun G b g e => Fin_mk g (K_bool h (by apply Bool.eq_iff_iff.2; simpa using e))
  clear h
  unfold I64 at hx hy hw hh
  unfold Vw.right at key
  unfold Vw.v
  obtain ⟨x, y, w, hi, n, f⟩ := v
  simp only at *
  have tw : 0 ≤ x → x ≤ 64 → 0 ≤ w → w ≤ 64 → IntKind.i64.wrap (x + w) = x + w := fun _ _ _ _ => Bw.1 _ (by omega) (by omega)
  have th : 0 ≤ y → y ≤ 64 → 0 ≤ hi → hi ≤ 64 → IntKind.i64.wrap (y + hi) = y + hi := fun _ _ _ _ => Bw.1 _ (by omega) (by omega)
  refine HL.hc k19 999 ?_; unfold M19
  (all_goals (refine (fun f : True → _ => f trivial) ?_)); repeat' ((first | (with_reducible refine fun _ : True => ?_) | (refine AllocQ_i ?_; intro bk hb0 hbk; try simp only [set_none'] at hbk) | ((first | refine condS_i ?_ ?_ | refine pick_i ?_ ?_ | refine gS_it ?_ ?_ | refine gS_if ?_ ?_ | refine gP_it ?_ ?_ | refine gP_if ?_ ?_) <;> (intro hc; try simp only [Int.reduceLE,Int.reduceLT,Int.reduceEq,and_self,not_true_eq_false,not_false_eq_true,and_true,true_and,false_and,and_false,true_or,or_true,false_or,or_false,decide_eq_true_eq,decide_eq_false_iff_not,beq_iff_eq,beq_eq_false_iff_ne,bne_iff_ne,ne_eq,gt_iff_lt,ge_iff_le,Bool.not_eq_true,Bool.not_eq_false,Bool.not_eq_true',Bool.not_eq_false',Bool.not_eq_eq_eq_not,Bool.not_true,Bool.not_false] at hc)) | (refine KP_i (by (repeat' (first | exact Heap.Le.refl _ | (refine Le_fresh (by first | exact (by simp only [*]) | exact (by simp [set_none', *])) ?_) | (refine Heap.Le.trans ?_ (Grow.le (by assumption)))))) ?_) | (with_reducible refine And.intro ?_ ?_)) <;> (try simp only [Sh,Si,Sl,Bu,Bb,Bd,Bc,Bw,Bn,Int.reduceAdd,Int.reduceSub,Int.reduceMul,Int.reduceTDiv,Int.reduceTMod,Int.reduceMod,Int.reduceDiv,Nat.reduceLT,Nat.reduceEqDiff,decide_true,decide_false,Sa,Sb,Sc,Sd,Se,Sf,Sg,true_and,and_true,and_self,eq_self,b_i64,b_i32,b_u64,b_u32,b_u8,Int.reduceLE,Int.reduceLT,Int.reduceToNat,Int.reduceNeg,Int.reduceEq,Nat.reduceLeDiff,Nat.reducePow,Int.reducePow,Nat.min_def,reduceIte,Nat.reduceSub,Nat.reduceAdd,Nat.reduceMul,KP_same,KP_f,condS_t,condS_f,pick_t,pick_f,gS_tt,gS_ff,gS_tf,gS_ft,gS_u,gP_tt,gP_ff,gP_tf,gP_ft,gP_u,ptrV_eq,slcV_eq,cells_agg,cells_int,cells_bool,cells_ptr,cells_slice,oc_int,oc_bool,oc_slice,oc_ptr,rd1_set,rd1_ne,rdn_set,rdn_ne,Heap.set_same,set_ne,Heap.set_set,set_up,set_up2,set_up3,putAt,ceq,List.map_cons,List.map_nil,List.length_cons,List.length_nil,List.length_set,List.cons_append,List.nil_append,List.append_nil,List.replicate,List.size_toArray,List.all_cons,List.all_nil,Bool.and_self,Bool.and_true,List.drop_zero,List.drop_succ_cons,List.take_succ_cons,List.take_zero,List.set_cons_zero,List.set_cons_succ,List.getElem?_cons_zero,List.getElem?_cons_succ,Option.map_some,Option.map_none,ne_eq,not_false_eq_true,not_true_eq_false,gt_iff_lt,ge_iff_le,Int.one_mul,Nat.zero_add,Nat.zero_mul,Bool.not_true,Bool.not_false,Bool.false_eq_true,Bool.and_false,Bool.false_and,Bool.true_and, *]))
  all_goals try simp only [Int.reduceLE,Int.reduceLT,Int.reduceEq,and_self,not_true_eq_false,not_false_eq_true,and_true,true_and,false_and,and_false,true_or,or_true,false_or,or_false,decide_eq_true_eq,decide_eq_false_iff_not,beq_iff_eq,beq_eq_false_iff_ne,bne_iff_ne,ne_eq,gt_iff_lt,ge_iff_le,Bool.not_eq_true,Bool.not_eq_false,Bool.not_eq_true',Bool.not_eq_false',Bool.not_eq_eq_eq_not,Bool.not_true,Bool.not_false] at *
  all_goals refine key _ _ (by (repeat' (first | exact Heap.Le.refl _ | (refine Le_known (by first | (simp only [Heap.set_same, set_ne, ne_eq, not_false_eq_true, *] <;> rfl) | fail) ?_) | (refine Le_fresh (by first | (simp only [*] <;> done) | (simp [set_none', Heap.set_same, set_ne, *] <;> done) | fail) ?_) | (refine Heap.Le.trans ?_ (Grow.le (by assumption)))))) ?_
  all_goals (try rw [tw (by omega) (by omega) (by omega) (by omega)] at *)
  all_goals (try rw [th (by omega) (by omega) (by omega) (by omega)] at *)
  all_goals (simp only [decide_eq_true_eq, Bool.false_eq_true, false_iff, true_iff, iff_true]; omega)
end Go.Proofs.Ytofgiimfempcjaa
