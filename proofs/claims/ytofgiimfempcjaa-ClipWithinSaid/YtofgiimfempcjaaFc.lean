/- What the document's functions of layer 3 return. -/
import Derived.Test.YtofgiimfempcjaaFb
set_option linter.unusedSimpArgs false
set_option linter.unusedVariables false
set_option maxRecDepth 100000
set_option maxHeartbeats 2000000
namespace Go.Proofs.Ytofgiimfempcjaa
open Go.HL Go.RowKit Pb
variable {w0 : World} {t1 t2 t3 : TypeId} {H : Heap} {K : Value → Heap → Prop}

theorem fst_eq {n : Int} {g g' : Nat → Int} (h : ∀ i : Nat, (i : Int) < n → g i = g' i) : fst n g = fst n g' := by
  funext i; unfold fst; split
  · exact h i (by assumption)
  · rfl
theorem fst_at {n : Int} {g : Nat → Int} {i : Nat} (h : (i : Int) < n) : fst n g i = g i := if_pos h
/- paintboxref03 Two -/
def M59 : MC :=
  .seq (.reg [⟨(some 6), .mv (.const (.int .i32 0)), none⟩])
  (.seq (.seq (.reg [⟨(some 7), .mv (.tmp 0), none⟩,
       ⟨(some 8), .bin .eql (.tmp 7) (.const (.int .i64 0)), none⟩])
    (.cond (.tmp 8)
     (.seq (.reg [⟨(some 9), .mv (.tmp 1), none⟩,
         ⟨(some 10), .mv (.tmp 2), none⟩,
         ⟨(some 11), .call 38 [(.tmp 9), (.tmp 10)], none⟩,
         ⟨(some 6), .mv (.tmp 11), none⟩])
      (.ret))
     (.skip)))
   (.seq (.seq (.reg [⟨(some 12), .mv (.tmp 0), none⟩,
        ⟨(some 13), .bin .eql (.tmp 12) (.const (.int .i64 1)), none⟩])
     (.cond (.tmp 13)
      (.seq (.reg [⟨(some 14), .mv (.tmp 1), none⟩,
          ⟨(some 15), .mv (.tmp 2), none⟩,
          ⟨(some 16), .call 37 [(.tmp 14), (.tmp 15)], none⟩,
          ⟨(some 6), .mv (.tmp 16), none⟩])
       (.ret))
      (.skip)))
    (.seq (.seq (.reg [⟨(some 17), .mv (.tmp 0), none⟩,
         ⟨(some 18), .bin .eql (.tmp 17) (.const (.int .i64 2)), none⟩])
      (.cond (.tmp 18)
       (.seq (.reg [⟨(some 19), .mv (.tmp 1), none⟩,
           ⟨(some 20), .mv (.tmp 2), none⟩,
           ⟨(some 21), .call 41 [(.tmp 19), (.tmp 20)], none⟩,
           ⟨(some 6), .mv (.tmp 21), none⟩])
        (.ret))
       (.skip)))
     (.seq (.seq (.reg [⟨(some 22), .mv (.tmp 0), none⟩,
          ⟨(some 23), .bin .eql (.tmp 22) (.const (.int .i64 3)), none⟩])
       (.cond (.tmp 23)
        (.seq (.reg [⟨(some 24), .mv (.tmp 1), none⟩,
            ⟨(some 25), .mv (.tmp 2), none⟩,
            ⟨(some 26), .call 51 [(.tmp 24), (.tmp 25)], none⟩,
            ⟨(some 6), .mv (.tmp 26), none⟩])
         (.ret))
        (.skip)))
      (.seq (.seq (.reg [⟨(some 27), .mv (.tmp 0), none⟩,
           ⟨(some 28), .bin .eql (.tmp 27) (.const (.int .i64 4)), none⟩,
           ⟨(some 29), .mv (.tmp 28), none⟩,
           ⟨(some 30), .mv (.tmp 1), (some (29, true))⟩,
           ⟨(some 31), .mv (.tmp 2), (some (29, true))⟩,
           ⟨(some 32), .bin .lss (.tmp 30) (.tmp 31), (some (29, true))⟩,
           ⟨(some 33), .pick (.tmp 29) (.tmp 32) (.const (.bool false)), none⟩,
           ⟨(some 34), .mv (.tmp 33), none⟩,
           ⟨(some 35), .mv (.tmp 0), (some (34, false))⟩,
           ⟨(some 36), .bin .eql (.tmp 35) (.const (.int .i64 5)), (some (34, false))⟩,
           ⟨(some 37), .mv (.tmp 36), (some (34, false))⟩,
           ⟨(some 38), .mv (.tmp 1), (some (37, true))⟩,
           ⟨(some 39), .mv (.tmp 2), (some (37, true))⟩,
           ⟨(some 40), .bin .gtr (.tmp 38) (.tmp 39), (some (37, true))⟩,
           ⟨(some 41), .pick (.tmp 37) (.tmp 40) (.const (.bool false)), (some (34, false))⟩,
           ⟨(some 42), .pick (.tmp 34) (.const (.bool true)) (.tmp 41), none⟩])
        (.cond (.tmp 42)
         (.seq (.reg [⟨(some 43), .mv (.tmp 1), none⟩,
             ⟨(some 6), .mv (.tmp 43), none⟩])
          (.ret))
         (.skip)))
       (.seq (.seq (.reg [⟨(some 44), .mv (.tmp 0), none⟩,
            ⟨(some 45), .bin .eql (.tmp 44) (.const (.int .i64 4)), none⟩,
            ⟨(some 46), .mv (.tmp 45), none⟩,
            ⟨(some 47), .mv (.tmp 0), (some (46, false))⟩,
            ⟨(some 48), .bin .eql (.tmp 47) (.const (.int .i64 5)), (some (46, false))⟩,
            ⟨(some 49), .pick (.tmp 46) (.const (.bool true)) (.tmp 48), none⟩])
         (.cond (.tmp 49)
          (.seq (.reg [⟨(some 50), .mv (.tmp 2), none⟩,
              ⟨(some 6), .mv (.tmp 50), none⟩])
           (.ret))
          (.skip)))
        (.seq (.seq (.reg [⟨(some 51), .mv (.tmp 0), none⟩,
             ⟨(some 52), .bin .eql (.tmp 51) (.const (.int .i64 6)), none⟩])
          (.cond (.tmp 52)
           (.seq (.reg [⟨(some 53), .mv (.tmp 1), none⟩,
               ⟨(some 54), .mv (.tmp 2), none⟩,
               ⟨(some 55), .mv (.tmp 1), none⟩,
               ⟨(some 56), .mv (.tmp 2), none⟩,
               ⟨(some 57), .call 51 [(.tmp 55), (.tmp 56)], none⟩,
               ⟨(some 58), .call 63 [(.tmp 57)], none⟩,
               ⟨(some 59), .call 41 [(.tmp 54), (.tmp 58)], none⟩,
               ⟨(some 60), .call 37 [(.tmp 53), (.tmp 59)], none⟩,
               ⟨(some 6), .mv (.tmp 60), none⟩])
            (.ret))
           (.skip)))
         (.seq (.seq (.reg [⟨(some 61), .mv (.tmp 2), none⟩,
              ⟨(some 62), .mv (.tmp 1), none⟩,
              ⟨(some 63), .bin .lss (.tmp 61) (.tmp 62), none⟩])
           (.cond (.tmp 63)
            (.seq (.reg [⟨(some 6), .mv (.const (.int .i32 0)), none⟩])
             (.ret))
            (.skip)))
          (.seq (.reg [⟨(some 6), .mv (.const (.int .i32 65536)), none⟩])
           (.ret))))))))))
theorem k59 : fnOk Try.prog 59 = some (M59, [.t 6], 64) := by kernel_rfl

theorem r_Two (op a b : Int) (ho : 0 ≤ op ∧ op ≤ 7) (ha : I32 a) (hb : I32 b) (h : K (.int .i32 (vtwo op a b)) H) : HCalls Try.prog w0 59 [.int .i64 op, .int .i32 a, .int .i32 b] H K := by
  have key : ∀ x, x = vtwo op a b → HL.Fin K (.int .i32 x) H := fun x hx => by subst hx; exact Fin_mk (Heap.Le.refl _) h
  refine HL.hc k59 999 ?_; unfold M59
  (all_goals (refine (fun f : True → _ => f trivial) ?_)); repeat' ((first | (with_reducible refine fun _ : True => ?_) | refine r_Add _ _ ha hb ?_ | refine r_Sub _ _ ha hb ?_ | refine r_Mul _ _ ha hb ?_ | refine r_Div _ _ ha hb ?_ | refine r_Floor _ fdiv_I32 ?_ | refine r_Mul _ _ hb (ffloor_I32 fdiv_I32) ?_ | refine r_Sub _ _ ha (raw_I32 _) ?_ | (refine AllocQ_i ?_; intro bk hb0 hbk; try simp only [set_none'] at hbk) | ((first | refine condS_i ?_ ?_ | refine pick_i ?_ ?_ | refine gS_it ?_ ?_ | refine gS_if ?_ ?_ | refine gP_it ?_ ?_ | refine gP_if ?_ ?_) <;> (intro hc; try simp only [Int.reduceLE,Int.reduceLT,Int.reduceEq,and_self,not_true_eq_false,not_false_eq_true,and_true,true_and,false_and,and_false,true_or,or_true,false_or,or_false,decide_eq_true_eq,decide_eq_false_iff_not,beq_iff_eq,beq_eq_false_iff_ne,bne_iff_ne,ne_eq,gt_iff_lt,ge_iff_le,Bool.not_eq_true,Bool.not_eq_false,Bool.not_eq_true',Bool.not_eq_false',Bool.not_eq_eq_eq_not,Bool.not_true,Bool.not_false] at hc)) | (refine KP_i (by (repeat' (first | exact Heap.Le.refl _ | (refine Le_fresh (by first | exact (by simp only [*]) | exact (by simp [set_none', *])) ?_) | (refine Heap.Le.trans ?_ (Grow.le (by assumption)))))) ?_) | (with_reducible refine And.intro ?_ ?_)) <;> (try simp only [Sh,Si,Sl,Bu,Bb,Bd,Bc,Bw,Bn,Int.reduceAdd,Int.reduceSub,Int.reduceMul,Int.reduceTDiv,Int.reduceTMod,Int.reduceMod,Int.reduceDiv,Nat.reduceLT,Nat.reduceEqDiff,decide_true,decide_false,Sa,Sb,Sc,Sd,Se,Sf,Sg,true_and,and_true,and_self,eq_self,b_i64,b_i32,b_u64,b_u32,b_u8,Int.reduceLE,Int.reduceLT,Int.reduceToNat,Int.reduceNeg,Int.reduceEq,Nat.reduceLeDiff,Nat.reducePow,Int.reducePow,Nat.min_def,reduceIte,Nat.reduceSub,Nat.reduceAdd,Nat.reduceMul,KP_same,KP_f,condS_t,condS_f,pick_t,pick_f,gS_tt,gS_ff,gS_tf,gS_ft,gS_u,gP_tt,gP_ff,gP_tf,gP_ft,gP_u,ptrV_eq,slcV_eq,cells_agg,cells_int,cells_bool,cells_ptr,cells_slice,oc_int,oc_bool,oc_slice,oc_ptr,rd1_set,rd1_ne,rdn_set,rdn_ne,Heap.set_same,set_ne,Heap.set_set,set_up,set_up2,set_up3,putAt,ceq,List.map_cons,List.map_nil,List.length_cons,List.length_nil,List.length_set,List.cons_append,List.nil_append,List.append_nil,List.replicate,List.size_toArray,List.all_cons,List.all_nil,Bool.and_self,Bool.and_true,List.drop_zero,List.drop_succ_cons,List.take_succ_cons,List.take_zero,List.set_cons_zero,List.set_cons_succ,List.getElem?_cons_zero,List.getElem?_cons_succ,Option.map_some,Option.map_none,ne_eq,not_false_eq_true,not_true_eq_false,gt_iff_lt,ge_iff_le,Int.one_mul,Nat.zero_add,Nat.zero_mul,Bool.not_true,Bool.not_false,Bool.false_eq_true,Bool.and_false,Bool.false_and,Bool.true_and, *]))
  all_goals (refine key _ ?_)
  all_goals (unfold vtwo fmin fmax; (repeat' split) <;> first | rfl | (exfalso; omega) | omega)
/- paintboxref03 Twos -/
def M56 : MC :=
  .seq (.reg [⟨(some 6), .box 26 (.tmp 2), none⟩,
     ⟨(some 7), .box 26 (.tmp 3), none⟩,
     ⟨(some 8), .alloc 26 [(.int .i32 0), (.int .i32 0), (.int .i32 0), (.int .i32 0)], none⟩])
  (.seq (.reg [⟨(some 9), .alloc 26 [(.int .i32 0), (.int .i32 0), (.int .i32 0), (.int .i32 0)], none⟩])
   (.seq (.seq (.reg [⟨(some 10), .mv (.const (.int .i64 0)), none⟩])
     (.block 0 (.loop (.seq (.seq (.reg [⟨(some 11), .mv (.tmp 10), none⟩,
            ⟨(some 12), .mv (.tmp 1), none⟩,
            ⟨(some 13), .bin .lss (.tmp 11) (.tmp 12), none⟩])
         (.cond (.tmp 13)
          (.skip)
          (.exit 0)))
        (.seq (.block 1 (.any [(true, true, ⟨(some 16), .mv (.tmp 10), none⟩),
             (true, true, ⟨(some 17), .mv (.tmp 0), none⟩),
             (true, true, ⟨(some 18), .mv (.tmp 10), none⟩),
             (true, true, ⟨(some 19), .ia 4 1 (.tmp 6) (.tmp 18), none⟩),
             (true, true, ⟨(some 20), .ld1 (.tmp 19), none⟩),
             (false, true, ⟨(some 21), .mv (.tmp 10), none⟩),
             (false, true, ⟨(some 22), .ia 4 1 (.tmp 7) (.tmp 21), none⟩),
             (false, true, ⟨(some 23), .ld1 (.tmp 22), none⟩),
             (false, true, ⟨(some 24), .call 59 [(.tmp 17), (.tmp 20), (.tmp 23)], none⟩),
             (false, false, ⟨(some 25), .ia 4 1 (.tmp 9) (.tmp 16), none⟩),
             (false, false, ⟨none, .st1 (.tmp 25) (.tmp 24), none⟩)]))
         (.reg [⟨(some 14), .mv (.tmp 10), none⟩,
            ⟨(some 15), .bin .add (.tmp 14) (.const (.int .i64 1)), none⟩,
            ⟨(some 10), .mv (.tmp 15), none⟩]))))))
    (.seq (.reg [⟨(some 26), .ldn 4 (.tmp 9), none⟩,
        ⟨none, .stn 4 (.tmp 8) (.tmp 26), none⟩])
     (.ret))))
theorem k56 : fnOk Try.prog 56 = some (M56, [.cn 4 8], 27) := by kernel_rfl

theorem r_Twos (op n : Int) (a b : Nat → Int) (ho : 0 ≤ op ∧ op ≤ 7) (hn : 1 ≤ n ∧ n ≤ 4) (ha : ∀ i, I32 (a i)) (hb : ∀ i, I32 (b i)) (h : K (VV (fst n fun i => vtwo op (a i) (b i))) H) :
    HCalls Try.prog w0 56 [.int .i64 op, .int .i64 n, VV a, VV b] H K := by
  have hn' : n = 1 ∨ n = 2 ∨ n = 3 ∨ n = 4 := by omega
  rcases hn' with rfl | rfl | rfl | rfl
  all_goals (refine HL.hc k56 999 ?_; unfold M56)
  all_goals ((all_goals (refine (fun f : True → _ => f trivial) ?_)); repeat' ((first | (with_reducible refine fun _ : True => ?_) | refine r_Two _ _ _ ho (ha _) (hb _) ?_ | (refine AllocQ_i ?_; intro bk hb0 hbk; try simp only [set_none'] at hbk) | ((first | refine condS_i ?_ ?_ | refine pick_i ?_ ?_ | refine gS_it ?_ ?_ | refine gS_if ?_ ?_ | refine gP_it ?_ ?_ | refine gP_if ?_ ?_) <;> (intro hc; try simp only [Int.reduceLE,Int.reduceLT,Int.reduceEq,and_self,not_true_eq_false,not_false_eq_true,and_true,true_and,false_and,and_false,true_or,or_true,false_or,or_false,decide_eq_true_eq,decide_eq_false_iff_not,beq_iff_eq,beq_eq_false_iff_ne,bne_iff_ne,ne_eq,gt_iff_lt,ge_iff_le,Bool.not_eq_true,Bool.not_eq_false,Bool.not_eq_true',Bool.not_eq_false',Bool.not_eq_eq_eq_not,Bool.not_true,Bool.not_false] at hc)) | (refine KP_i (by (repeat' (first | exact Heap.Le.refl _ | (refine Le_fresh (by first | exact (by simp only [*]) | exact (by simp [set_none', *])) ?_) | (refine Heap.Le.trans ?_ (Grow.le (by assumption)))))) ?_) | (with_reducible refine loop_u ?_) | (with_reducible refine And.intro ?_ ?_)) <;> (try simp only [Sh,Si,Sl,Bu,Bb,Bd,Bc,Bw,Bn,Int.reduceAdd,Int.reduceSub,Int.reduceMul,Int.reduceTDiv,Int.reduceTMod,Int.reduceMod,Int.reduceDiv,Nat.reduceLT,Nat.reduceEqDiff,decide_true,decide_false,Sa,Sb,Sc,Sd,Se,Sf,Sg,true_and,and_true,and_self,eq_self,b_i64,b_i32,b_u64,b_u32,b_u8,Int.reduceLE,Int.reduceLT,Int.reduceToNat,Int.reduceNeg,Int.reduceEq,Nat.reduceLeDiff,Nat.reducePow,Int.reducePow,Nat.min_def,reduceIte,Nat.reduceSub,Nat.reduceAdd,Nat.reduceMul,KP_same,KP_f,condS_t,condS_f,pick_t,pick_f,gS_tt,gS_ff,gS_tf,gS_ft,gS_u,gP_tt,gP_ff,gP_tf,gP_ft,gP_u,ptrV_eq,slcV_eq,cells_agg,cells_int,cells_bool,cells_ptr,cells_slice,oc_int,oc_bool,oc_slice,oc_ptr,rd1_set,rd1_ne,rdn_set,rdn_ne,Heap.set_same,set_ne,Heap.set_set,set_up,set_up2,set_up3,putAt,ceq,List.map_cons,List.map_nil,List.length_cons,List.length_nil,List.length_set,List.cons_append,List.nil_append,List.append_nil,List.replicate,List.size_toArray,List.all_cons,List.all_nil,Bool.and_self,Bool.and_true,List.drop_zero,List.drop_succ_cons,List.take_succ_cons,List.take_zero,List.set_cons_zero,List.set_cons_succ,List.getElem?_cons_zero,List.getElem?_cons_succ,Option.map_some,Option.map_none,ne_eq,not_false_eq_true,not_true_eq_false,gt_iff_lt,ge_iff_le,Int.one_mul,Nat.zero_add,Nat.zero_mul,Bool.not_true,Bool.not_false,Bool.false_eq_true,Bool.and_false,Bool.false_and,Bool.true_and, *])))
  all_goals exact Fin_mk (by (repeat' (first | exact Heap.Le.refl _ | (refine Le_fresh (by first | exact (by simp only [*]) | exact (by simp [set_none', *])) ?_) | (refine Heap.Le.trans ?_ (Grow.le (by assumption)))))) h
/- paintboxref03 Mix -/
def M53 : MC :=
  .seq (.reg [⟨(some 5), .box 26 (.tmp 1), none⟩,
     ⟨(some 6), .box 26 (.tmp 2), none⟩,
     ⟨(some 7), .box 26 (.tmp 3), none⟩,
     ⟨(some 8), .alloc 26 [(.int .i32 0), (.int .i32 0), (.int .i32 0), (.int .i32 0)], none⟩])
  (.seq (.any [(true, true, ⟨(some 9), .mv (.tmp 0), none⟩),
      (true, true, ⟨(some 10), .ldn 4 (.tmp 5), none⟩),
      (true, true, ⟨(some 11), .mv (.tmp 0), none⟩),
      (true, true, ⟨(some 12), .mv (.tmp 0), none⟩),
      (true, true, ⟨(some 13), .ldn 4 (.tmp 6), none⟩),
      (true, true, ⟨(some 14), .ldn 4 (.tmp 5), none⟩),
      (true, true, ⟨(some 16), .ldn 4 (.tmp 7), none⟩),
      (false, true, ⟨(some 15), .call 56 [(.const (.int .i64 1)), (.tmp 12), (.tmp 13), (.tmp 14)], none⟩),
      (false, true, ⟨(some 17), .call 56 [(.const (.int .i64 2)), (.tmp 11), (.tmp 15), (.tmp 16)], none⟩),
      (false, false, ⟨(some 18), .call 56 [(.const (.int .i64 0)), (.tmp 9), (.tmp 10), (.tmp 17)], none⟩),
      (false, false, ⟨none, .stn 4 (.tmp 8) (.tmp 18), none⟩)])
   (.ret))
theorem k53 : fnOk Try.prog 53 = some (M53, [.cn 4 8], 19) := by kernel_rfl

theorem r_Mix (n : Int) (a b t : Nat → Int) (hn : 1 ≤ n ∧ n ≤ 4) (ha : ∀ i, I32 (a i)) (hb : ∀ i, I32 (b i)) (ht : ∀ i, I32 (t i)) (h : K (VV (fst n (vmix a b t))) H) :
    HCalls Try.prog w0 53 [.int .i64 n, VV a, VV b, VV t] H K := by
  have h1 : ∀ i, I32 (fst n (fun i => vtwo 1 (b i) (a i)) i) := fst_I32 fun i => vtwo_I32 (hb i) (ha i)
  have h2 : ∀ i, I32 (fst n (fun i => vtwo 2 (fst n (fun i => vtwo 1 (b i) (a i)) i) (t i)) i) := fst_I32 fun i => vtwo_I32 (h1 i) (ht i)
  have e : fst n (vmix a b t) = fst n (fun i => vtwo 0 (a i) (fst n (fun i => vtwo 2 (fst n (fun i => vtwo 1 (b i) (a i)) i) (t i)) i)) := fst_eq fun i hi => by
    simp only [fst_at hi]; rfl
  rw [e] at h
  refine HL.hc k53 999 ?_; unfold M53
  (all_goals (refine (fun f : True → _ => f trivial) ?_)); repeat' ((first | (with_reducible refine fun _ : True => ?_) | refine r_Twos 1 n b a (by decide) hn hb ha ?_ | refine r_Twos 2 n (fst n fun i => vtwo 1 (b i) (a i)) t (by decide) hn h1 ht ?_ | refine r_Twos 0 n a (fst n fun i => vtwo 2 (fst n (fun i => vtwo 1 (b i) (a i)) i) (t i)) (by decide) hn ha h2 ?_ | (refine AllocQ_i ?_; intro bk hb0 hbk; try simp only [set_none'] at hbk) | ((first | refine condS_i ?_ ?_ | refine pick_i ?_ ?_ | refine gS_it ?_ ?_ | refine gS_if ?_ ?_ | refine gP_it ?_ ?_ | refine gP_if ?_ ?_) <;> (intro hc; try simp only [Int.reduceLE,Int.reduceLT,Int.reduceEq,and_self,not_true_eq_false,not_false_eq_true,and_true,true_and,false_and,and_false,true_or,or_true,false_or,or_false,decide_eq_true_eq,decide_eq_false_iff_not,beq_iff_eq,beq_eq_false_iff_ne,bne_iff_ne,ne_eq,gt_iff_lt,ge_iff_le,Bool.not_eq_true,Bool.not_eq_false,Bool.not_eq_true',Bool.not_eq_false',Bool.not_eq_eq_eq_not,Bool.not_true,Bool.not_false] at hc)) | (refine KP_i (by (repeat' (first | exact Heap.Le.refl _ | (refine Le_fresh (by first | exact (by simp only [*]) | exact (by simp [set_none', *])) ?_) | (refine Heap.Le.trans ?_ (Grow.le (by assumption)))))) ?_) | (with_reducible refine And.intro ?_ ?_)) <;> (try simp only [Sh,Si,Sl,Bu,Bb,Bd,Bc,Bw,Bn,Int.reduceAdd,Int.reduceSub,Int.reduceMul,Int.reduceTDiv,Int.reduceTMod,Int.reduceMod,Int.reduceDiv,Nat.reduceLT,Nat.reduceEqDiff,decide_true,decide_false,Sa,Sb,Sc,Sd,Se,Sf,Sg,true_and,and_true,and_self,eq_self,b_i64,b_i32,b_u64,b_u32,b_u8,Int.reduceLE,Int.reduceLT,Int.reduceToNat,Int.reduceNeg,Int.reduceEq,Nat.reduceLeDiff,Nat.reducePow,Int.reducePow,Nat.min_def,reduceIte,Nat.reduceSub,Nat.reduceAdd,Nat.reduceMul,KP_same,KP_f,condS_t,condS_f,pick_t,pick_f,gS_tt,gS_ff,gS_tf,gS_ft,gS_u,gP_tt,gP_ff,gP_tf,gP_ft,gP_u,ptrV_eq,slcV_eq,cells_agg,cells_int,cells_bool,cells_ptr,cells_slice,oc_int,oc_bool,oc_slice,oc_ptr,rd1_set,rd1_ne,rdn_set,rdn_ne,Heap.set_same,set_ne,Heap.set_set,set_up,set_up2,set_up3,putAt,ceq,List.map_cons,List.map_nil,List.length_cons,List.length_nil,List.length_set,List.cons_append,List.nil_append,List.append_nil,List.replicate,List.size_toArray,List.all_cons,List.all_nil,Bool.and_self,Bool.and_true,List.drop_zero,List.drop_succ_cons,List.take_succ_cons,List.take_zero,List.set_cons_zero,List.set_cons_succ,List.getElem?_cons_zero,List.getElem?_cons_succ,Option.map_some,Option.map_none,ne_eq,not_false_eq_true,not_true_eq_false,gt_iff_lt,ge_iff_le,Int.one_mul,Nat.zero_add,Nat.zero_mul,Bool.not_true,Bool.not_false,Bool.false_eq_true,Bool.and_false,Bool.false_and,Bool.true_and, *]))
  all_goals exact Fin_mk (by (repeat' (first | exact Heap.Le.refl _ | (refine Le_fresh (by first | exact (by simp only [*]) | exact (by simp [set_none', *])) ?_) | (refine Heap.Le.trans ?_ (Grow.le (by assumption)))))) h
end Go.Proofs.Ytofgiimfempcjaa
