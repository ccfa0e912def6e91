/- What wrapping into places returns, and the statement on it, as a call (layer 9). -/
import Derived.Test.YtfokghepfcfbjaaWk9
import Derived.Test.YtfokghepfcfbjaaPa
import Derived.Test.YtfokghepfcfbjaaIma
import Derived.Test.YtfokghepfcfbjaaHlz
set_option linter.unusedSimpArgs false
set_option linter.unusedVariables false
set_option maxRecDepth 100000
set_option maxHeartbeats 4000000
namespace Go.Proofs.Ytfokghepfcfbjaa
open Go.HL Go.RowKit Pb
variable {w0 : World} {H : Heap} {K : Value → Heap → Prop}

theorem tmod_mod (i n : Int) (hn : 0 < n) : -n < i.tmod n ∧ i.tmod n < n ∧ (i.tmod n + n).tmod n = i % n := by
  have h1 : (i.tmod n).natAbs < n.natAbs := by rw [Int.natAbs_tmod]; exact Nat.mod_lt _ (by omega)
  have h2 := Int.mul_tdiv_add_tmod i n
  refine ⟨by omega, by omega, ?_⟩
  rw [Int.tmod_eq_emod_of_nonneg (by omega), Int.add_emod_right]
  have h3 : i % n = (n * i.tdiv n + i.tmod n) % n := by rw [h2]
  rw [h3, Int.mul_add_emod_self_left]
def fwrap (mode i n : Int) : Int :=
  if n < 1 ∨ 64 < n then 0 else if mode = 1 then i % n else if mode = 2 then (if i < 0 then 0 else if n ≤ i then n - 1 else i) else if mode = 3 then (if i % (2 * n) < n then i % (2 * n) else 2 * n - 1 - i % (2 * n)) else 0
/- sample mod -/
def M26 : MC :=
  .seq (.reg [⟨(some 4), .mv (.const (.int .i64 0)), none⟩])
  (.seq (.reg [⟨(some 5), .mv (.tmp 0), none⟩,
      ⟨(some 6), .mv (.tmp 1), none⟩,
      ⟨(some 7), .bin .rem (.tmp 5) (.tmp 6), none⟩,
      ⟨(some 8), .mv (.tmp 1), none⟩,
      ⟨(some 9), .bin .add (.tmp 7) (.tmp 8), none⟩,
      ⟨(some 10), .mv (.tmp 1), none⟩,
      ⟨(some 11), .bin .rem (.tmp 9) (.tmp 10), none⟩,
      ⟨(some 4), .mv (.tmp 11), none⟩])
   (.ret))
theorem k26 : fnOk Try.prog 26 = some (M26, [.t 4], 12) := by kernel_rfl

theorem c_mod (i n : Int) (hi : I64 i) (hn : 1 ≤ n ∧ n ≤ 128) (h : K (.int .i64 (i % n)) H) : HCalls Try.prog w0 26 [.int .i64 i, .int .i64 n] H K := by
  obtain ⟨t1, t2, t3⟩ := tmod_mod i n (by omega)
  have e1 : IntKind.i64.wrap (i.tmod n + n) = i.tmod n + n := Bw.1 _ (by omega) (by omega)
  have e2 : ¬ n = 0 := by omega
  refine HL.hc k26 999 ?_; unfold M26
  (all_goals (try simp only [Sh,Si,Sl,Bu,Bb,Bd,Bc,Bw,Bn,Int.reduceAdd,Int.reduceSub,Int.reduceMul,Int.reduceTDiv,Int.reduceTMod,Int.reduceMod,Int.reduceDiv,Nat.reduceLT,Nat.reduceEqDiff,decide_true,decide_false,Sa,Sb,Sc,Sd,Se,Sf,Sg,true_and,and_true,and_self,eq_self,b_i64,b_i32,b_u64,b_u32,b_u8,Int.reduceLE,Int.reduceLT,Int.reduceToNat,Int.reduceNeg,Int.reduceEq,Nat.reduceLeDiff,Nat.reducePow,Int.reducePow,Nat.min_def,reduceIte,Nat.reduceSub,Nat.reduceAdd,Nat.reduceMul,KP_same,KP_f,condS_t,condS_f,pick_t,pick_f,gS_tt,gS_ff,gS_tf,gS_ft,gS_u,gP_tt,gP_ff,gP_tf,gP_ft,gP_u,ptrV_eq,slcV_eq,mapV_eq,cells_agg,cells_int,cells_bool,cells_ptr,cells_slice,oc_int,oc_bool,oc_slice,oc_ptr,rd1_set,rd1_ne,rdn_set,rdn_ne,Heap.set_same,set_ne,Heap.set_set,set_up,set_up2,set_up3,putAt,ceq,List.map_cons,List.map_nil,List.length_cons,List.length_nil,List.length_set,List.cons_append,List.nil_append,List.append_nil,List.replicate,List.size_toArray,List.all_cons,List.all_nil,Bool.and_self,Bool.and_true,List.drop_zero,List.drop_succ_cons,List.take_succ_cons,List.take_zero,List.set_cons_zero,List.set_cons_succ,List.getElem?_cons_zero,List.getElem?_cons_succ,Option.map_some,Option.map_none,ne_eq,not_false_eq_true,not_true_eq_false,gt_iff_lt,ge_iff_le,Int.one_mul,Nat.zero_add,Nat.zero_mul,Bool.not_true,Bool.not_false,Bool.false_eq_true,Bool.and_false,Bool.false_and,Bool.true_and, *])); repeat' ((first | (with_reducible refine fun _ : True => ?_) | (with_reducible refine any_h ?_) | ((first | refine AllocQ_i ?_ | refine AllocO_i ?_); intro bk hb0 hbk; try simp only [set_none'] at hbk) | ((first | refine condS_i ?_ ?_ | refine pick_i ?_ ?_ | refine gS_it ?_ ?_ | refine gS_if ?_ ?_ | refine gP_it ?_ ?_ | refine gP_if ?_ ?_) <;> (intro hc; try simp only [Int.reduceLE,Int.reduceLT,Int.reduceEq,and_self,not_true_eq_false,not_false_eq_true,and_true,true_and,false_and,and_false,true_or,or_true,false_or,or_false,decide_eq_true_eq,decide_eq_false_iff_not,beq_iff_eq,beq_eq_false_iff_ne,bne_iff_ne,ne_eq,gt_iff_lt,ge_iff_le,Bool.not_eq_true,Bool.not_eq_false,Bool.not_eq_true',Bool.not_eq_false',Bool.not_eq_eq_eq_not,Bool.not_true,Bool.not_false] at hc)) | (refine KP_i (by (repeat' (first | exact Heap.Le.refl _ | (refine Le_fresh (by first | exact (by simp only [*]) | exact (by simp [set_none', *])) ?_) | (refine Heap.Le.trans ?_ (Grow.le (by assumption)))))) ?_) | (with_reducible refine And.intro ?_ ?_)) <;> (try simp only [Sh,Si,Sl,Bu,Bb,Bd,Bc,Bw,Bn,Int.reduceAdd,Int.reduceSub,Int.reduceMul,Int.reduceTDiv,Int.reduceTMod,Int.reduceMod,Int.reduceDiv,Nat.reduceLT,Nat.reduceEqDiff,decide_true,decide_false,Sa,Sb,Sc,Sd,Se,Sf,Sg,true_and,and_true,and_self,eq_self,b_i64,b_i32,b_u64,b_u32,b_u8,Int.reduceLE,Int.reduceLT,Int.reduceToNat,Int.reduceNeg,Int.reduceEq,Nat.reduceLeDiff,Nat.reducePow,Int.reducePow,Nat.min_def,reduceIte,Nat.reduceSub,Nat.reduceAdd,Nat.reduceMul,KP_same,KP_f,condS_t,condS_f,pick_t,pick_f,gS_tt,gS_ff,gS_tf,gS_ft,gS_u,gP_tt,gP_ff,gP_tf,gP_ft,gP_u,ptrV_eq,slcV_eq,mapV_eq,cells_agg,cells_int,cells_bool,cells_ptr,cells_slice,oc_int,oc_bool,oc_slice,oc_ptr,rd1_set,rd1_ne,rdn_set,rdn_ne,Heap.set_same,set_ne,Heap.set_set,set_up,set_up2,set_up3,putAt,ceq,List.map_cons,List.map_nil,List.length_cons,List.length_nil,List.length_set,List.cons_append,List.nil_append,List.append_nil,List.replicate,List.size_toArray,List.all_cons,List.all_nil,Bool.and_self,Bool.and_true,List.drop_zero,List.drop_succ_cons,List.take_succ_cons,List.take_zero,List.set_cons_zero,List.set_cons_succ,List.getElem?_cons_zero,List.getElem?_cons_succ,Option.map_some,Option.map_none,ne_eq,not_false_eq_true,not_true_eq_false,gt_iff_lt,ge_iff_le,Int.one_mul,Nat.zero_add,Nat.zero_mul,Bool.not_true,Bool.not_false,Bool.false_eq_true,Bool.and_false,Bool.false_and,Bool.true_and, *]))
  exact Fin_mk (Heap.Le.refl _) h
/- sample Wrap -/
def M11 : MC :=
  .seq (.reg [⟨(some 6), .mv (.const (.int .i64 0)), none⟩])
  (.seq (.seq (.reg [⟨(some 8), .mv (.tmp 2), none⟩,
       ⟨(some 9), .bin .lss (.tmp 8) (.const (.int .i64 1)), none⟩,
       ⟨(some 10), .mv (.tmp 9), none⟩,
       ⟨(some 11), .mv (.tmp 2), (some (10, false))⟩,
       ⟨(some 12), .bin .gtr (.tmp 11) (.const (.int .i64 64)), (some (10, false))⟩,
       ⟨(some 13), .pick (.tmp 10) (.const (.bool true)) (.tmp 12), none⟩])
    (.cond (.tmp 13)
     (.seq (.reg [⟨(some 6), .mv (.const (.int .i64 0)), none⟩])
      (.ret))
     (.skip)))
   (.seq (.seq (.reg [⟨(some 14), .mv (.tmp 0), none⟩])
     (.block 0 (.seq (.reg [⟨(some 16), .bin .eql (.tmp 14) (.const (.int .i64 1)), none⟩,
          ⟨(some 15), .mv (.tmp 16), none⟩])
       (.cond (.tmp 15)
        (.seq (.reg [⟨(some 17), .mv (.tmp 1), none⟩,
            ⟨(some 18), .mv (.tmp 2), none⟩,
            ⟨(some 19), .call 26 [(.tmp 17), (.tmp 18)], none⟩,
            ⟨(some 6), .mv (.tmp 19), none⟩])
         (.ret))
        (.seq (.reg [⟨(some 21), .bin .eql (.tmp 14) (.const (.int .i64 2)), none⟩,
            ⟨(some 20), .mv (.tmp 21), none⟩])
         (.cond (.tmp 20)
          (.seq (.reg [⟨(some 22), .mv (.tmp 1), none⟩,
              ⟨(some 23), .mx (.tmp 22) (.const (.int .i64 0)), none⟩,
              ⟨(some 24), .mv (.tmp 2), none⟩,
              ⟨(some 25), .bin .sub (.tmp 24) (.const (.int .i64 1)), none⟩,
              ⟨(some 26), .mn (.tmp 23) (.tmp 25), none⟩,
              ⟨(some 6), .mv (.tmp 26), none⟩])
           (.ret))
          (.seq (.reg [⟨(some 28), .bin .eql (.tmp 14) (.const (.int .i64 3)), none⟩,
              ⟨(some 27), .mv (.tmp 28), none⟩])
           (.cond (.tmp 27)
            (.seq (.reg [⟨(some 29), .mv (.tmp 1), none⟩,
                ⟨(some 30), .mv (.tmp 2), none⟩,
                ⟨(some 31), .bin .mul (.const (.int .i64 2)) (.tmp 30), none⟩,
                ⟨(some 32), .call 26 [(.tmp 29), (.tmp 31)], none⟩,
                ⟨(some 7), .mv (.tmp 32), none⟩])
             (.seq (.reg [⟨(some 33), .mv (.tmp 7), none⟩,
                 ⟨(some 34), .mv (.tmp 2), none⟩,
                 ⟨(some 35), .bin .lss (.tmp 33) (.tmp 34), none⟩])
              (.cond (.tmp 35)
               (.seq (.reg [⟨(some 36), .mv (.tmp 7), none⟩,
                   ⟨(some 6), .mv (.tmp 36), none⟩])
                (.ret))
               (.seq (.reg [⟨(some 37), .mv (.tmp 2), none⟩,
                   ⟨(some 38), .bin .mul (.const (.int .i64 2)) (.tmp 37), none⟩,
                   ⟨(some 39), .bin .sub (.tmp 38) (.const (.int .i64 1)), none⟩,
                   ⟨(some 40), .mv (.tmp 7), none⟩,
                   ⟨(some 41), .bin .sub (.tmp 39) (.tmp 40), none⟩,
                   ⟨(some 6), .mv (.tmp 41), none⟩])
                (.ret)))))
            (.skip)))))))))
    (.seq (.reg [⟨(some 6), .mv (.const (.int .i64 0)), none⟩])
     (.ret))))
theorem k11 : fnOk Try.prog 11 = some (M11, [.t 6], 42) := by kernel_rfl

theorem c_Wrap (mode i n : Int) (hi : I64 i) (h : K (.int .i64 (fwrap mode i n)) H) : HCalls Try.prog w0 11 [.int .i64 mode, .int .i64 i, .int .i64 n] H K := by
  have hi' := hi
  unfold I64 at hi'
  by_cases hn : n < 1 ∨ 64 < n
  · have : fwrap mode i n = 0 := by unfold fwrap; rw [if_pos hn]
    rw [this] at h
    rcases hn with hn | hn
    · refine HL.hc k11 999 ?_; unfold M11
      (all_goals (try simp only [Sh,Si,Sl,Bu,Bb,Bd,Bc,Bw,Bn,Int.reduceAdd,Int.reduceSub,Int.reduceMul,Int.reduceTDiv,Int.reduceTMod,Int.reduceMod,Int.reduceDiv,Nat.reduceLT,Nat.reduceEqDiff,decide_true,decide_false,Sa,Sb,Sc,Sd,Se,Sf,Sg,true_and,and_true,and_self,eq_self,b_i64,b_i32,b_u64,b_u32,b_u8,Int.reduceLE,Int.reduceLT,Int.reduceToNat,Int.reduceNeg,Int.reduceEq,Nat.reduceLeDiff,Nat.reducePow,Int.reducePow,Nat.min_def,reduceIte,Nat.reduceSub,Nat.reduceAdd,Nat.reduceMul,KP_same,KP_f,condS_t,condS_f,pick_t,pick_f,gS_tt,gS_ff,gS_tf,gS_ft,gS_u,gP_tt,gP_ff,gP_tf,gP_ft,gP_u,ptrV_eq,slcV_eq,mapV_eq,cells_agg,cells_int,cells_bool,cells_ptr,cells_slice,oc_int,oc_bool,oc_slice,oc_ptr,rd1_set,rd1_ne,rdn_set,rdn_ne,Heap.set_same,set_ne,Heap.set_set,set_up,set_up2,set_up3,putAt,ceq,List.map_cons,List.map_nil,List.length_cons,List.length_nil,List.length_set,List.cons_append,List.nil_append,List.append_nil,List.replicate,List.size_toArray,List.all_cons,List.all_nil,Bool.and_self,Bool.and_true,List.drop_zero,List.drop_succ_cons,List.take_succ_cons,List.take_zero,List.set_cons_zero,List.set_cons_succ,List.getElem?_cons_zero,List.getElem?_cons_succ,Option.map_some,Option.map_none,ne_eq,not_false_eq_true,not_true_eq_false,gt_iff_lt,ge_iff_le,Int.one_mul,Nat.zero_add,Nat.zero_mul,Bool.not_true,Bool.not_false,Bool.false_eq_true,Bool.and_false,Bool.false_and,Bool.true_and, *])); repeat' ((first | (with_reducible refine fun _ : True => ?_) | (with_reducible refine any_h ?_) | ((first | refine AllocQ_i ?_ | refine AllocO_i ?_); intro bk hb0 hbk; try simp only [set_none'] at hbk) | ((first | refine condS_i ?_ ?_ | refine pick_i ?_ ?_ | refine gS_it ?_ ?_ | refine gS_if ?_ ?_ | refine gP_it ?_ ?_ | refine gP_if ?_ ?_) <;> (intro hc; try simp only [Int.reduceLE,Int.reduceLT,Int.reduceEq,and_self,not_true_eq_false,not_false_eq_true,and_true,true_and,false_and,and_false,true_or,or_true,false_or,or_false,decide_eq_true_eq,decide_eq_false_iff_not,beq_iff_eq,beq_eq_false_iff_ne,bne_iff_ne,ne_eq,gt_iff_lt,ge_iff_le,Bool.not_eq_true,Bool.not_eq_false,Bool.not_eq_true',Bool.not_eq_false',Bool.not_eq_eq_eq_not,Bool.not_true,Bool.not_false] at hc)) | (refine KP_i (by (repeat' (first | exact Heap.Le.refl _ | (refine Le_fresh (by first | exact (by simp only [*]) | exact (by simp [set_none', *])) ?_) | (refine Heap.Le.trans ?_ (Grow.le (by assumption)))))) ?_) | (with_reducible refine And.intro ?_ ?_)) <;> (try simp only [Sh,Si,Sl,Bu,Bb,Bd,Bc,Bw,Bn,Int.reduceAdd,Int.reduceSub,Int.reduceMul,Int.reduceTDiv,Int.reduceTMod,Int.reduceMod,Int.reduceDiv,Nat.reduceLT,Nat.reduceEqDiff,decide_true,decide_false,Sa,Sb,Sc,Sd,Se,Sf,Sg,true_and,and_true,and_self,eq_self,b_i64,b_i32,b_u64,b_u32,b_u8,Int.reduceLE,Int.reduceLT,Int.reduceToNat,Int.reduceNeg,Int.reduceEq,Nat.reduceLeDiff,Nat.reducePow,Int.reducePow,Nat.min_def,reduceIte,Nat.reduceSub,Nat.reduceAdd,Nat.reduceMul,KP_same,KP_f,condS_t,condS_f,pick_t,pick_f,gS_tt,gS_ff,gS_tf,gS_ft,gS_u,gP_tt,gP_ff,gP_tf,gP_ft,gP_u,ptrV_eq,slcV_eq,mapV_eq,cells_agg,cells_int,cells_bool,cells_ptr,cells_slice,oc_int,oc_bool,oc_slice,oc_ptr,rd1_set,rd1_ne,rdn_set,rdn_ne,Heap.set_same,set_ne,Heap.set_set,set_up,set_up2,set_up3,putAt,ceq,List.map_cons,List.map_nil,List.length_cons,List.length_nil,List.length_set,List.cons_append,List.nil_append,List.append_nil,List.replicate,List.size_toArray,List.all_cons,List.all_nil,Bool.and_self,Bool.and_true,List.drop_zero,List.drop_succ_cons,List.take_succ_cons,List.take_zero,List.set_cons_zero,List.set_cons_succ,List.getElem?_cons_zero,List.getElem?_cons_succ,Option.map_some,Option.map_none,ne_eq,not_false_eq_true,not_true_eq_false,gt_iff_lt,ge_iff_le,Int.one_mul,Nat.zero_add,Nat.zero_mul,Bool.not_true,Bool.not_false,Bool.false_eq_true,Bool.and_false,Bool.false_and,Bool.true_and, *]))
      exact Fin_mk (Heap.Le.refl _) h
    · have hn2 : ¬ n < 1 := by omega
      refine HL.hc k11 999 ?_; unfold M11
      (all_goals (try simp only [Sh,Si,Sl,Bu,Bb,Bd,Bc,Bw,Bn,Int.reduceAdd,Int.reduceSub,Int.reduceMul,Int.reduceTDiv,Int.reduceTMod,Int.reduceMod,Int.reduceDiv,Nat.reduceLT,Nat.reduceEqDiff,decide_true,decide_false,Sa,Sb,Sc,Sd,Se,Sf,Sg,true_and,and_true,and_self,eq_self,b_i64,b_i32,b_u64,b_u32,b_u8,Int.reduceLE,Int.reduceLT,Int.reduceToNat,Int.reduceNeg,Int.reduceEq,Nat.reduceLeDiff,Nat.reducePow,Int.reducePow,Nat.min_def,reduceIte,Nat.reduceSub,Nat.reduceAdd,Nat.reduceMul,KP_same,KP_f,condS_t,condS_f,pick_t,pick_f,gS_tt,gS_ff,gS_tf,gS_ft,gS_u,gP_tt,gP_ff,gP_tf,gP_ft,gP_u,ptrV_eq,slcV_eq,mapV_eq,cells_agg,cells_int,cells_bool,cells_ptr,cells_slice,oc_int,oc_bool,oc_slice,oc_ptr,rd1_set,rd1_ne,rdn_set,rdn_ne,Heap.set_same,set_ne,Heap.set_set,set_up,set_up2,set_up3,putAt,ceq,List.map_cons,List.map_nil,List.length_cons,List.length_nil,List.length_set,List.cons_append,List.nil_append,List.append_nil,List.replicate,List.size_toArray,List.all_cons,List.all_nil,Bool.and_self,Bool.and_true,List.drop_zero,List.drop_succ_cons,List.take_succ_cons,List.take_zero,List.set_cons_zero,List.set_cons_succ,List.getElem?_cons_zero,List.getElem?_cons_succ,Option.map_some,Option.map_none,ne_eq,not_false_eq_true,not_true_eq_false,gt_iff_lt,ge_iff_le,Int.one_mul,Nat.zero_add,Nat.zero_mul,Bool.not_true,Bool.not_false,Bool.false_eq_true,Bool.and_false,Bool.false_and,Bool.true_and, *])); repeat' ((first | (with_reducible refine fun _ : True => ?_) | (with_reducible refine any_h ?_) | ((first | refine AllocQ_i ?_ | refine AllocO_i ?_); intro bk hb0 hbk; try simp only [set_none'] at hbk) | ((first | refine condS_i ?_ ?_ | refine pick_i ?_ ?_ | refine gS_it ?_ ?_ | refine gS_if ?_ ?_ | refine gP_it ?_ ?_ | refine gP_if ?_ ?_) <;> (intro hc; try simp only [Int.reduceLE,Int.reduceLT,Int.reduceEq,and_self,not_true_eq_false,not_false_eq_true,and_true,true_and,false_and,and_false,true_or,or_true,false_or,or_false,decide_eq_true_eq,decide_eq_false_iff_not,beq_iff_eq,beq_eq_false_iff_ne,bne_iff_ne,ne_eq,gt_iff_lt,ge_iff_le,Bool.not_eq_true,Bool.not_eq_false,Bool.not_eq_true',Bool.not_eq_false',Bool.not_eq_eq_eq_not,Bool.not_true,Bool.not_false] at hc)) | (refine KP_i (by (repeat' (first | exact Heap.Le.refl _ | (refine Le_fresh (by first | exact (by simp only [*]) | exact (by simp [set_none', *])) ?_) | (refine Heap.Le.trans ?_ (Grow.le (by assumption)))))) ?_) | (with_reducible refine And.intro ?_ ?_)) <;> (try simp only [Sh,Si,Sl,Bu,Bb,Bd,Bc,Bw,Bn,Int.reduceAdd,Int.reduceSub,Int.reduceMul,Int.reduceTDiv,Int.reduceTMod,Int.reduceMod,Int.reduceDiv,Nat.reduceLT,Nat.reduceEqDiff,decide_true,decide_false,Sa,Sb,Sc,Sd,Se,Sf,Sg,true_and,and_true,and_self,eq_self,b_i64,b_i32,b_u64,b_u32,b_u8,Int.reduceLE,Int.reduceLT,Int.reduceToNat,Int.reduceNeg,Int.reduceEq,Nat.reduceLeDiff,Nat.reducePow,Int.reducePow,Nat.min_def,reduceIte,Nat.reduceSub,Nat.reduceAdd,Nat.reduceMul,KP_same,KP_f,condS_t,condS_f,pick_t,pick_f,gS_tt,gS_ff,gS_tf,gS_ft,gS_u,gP_tt,gP_ff,gP_tf,gP_ft,gP_u,ptrV_eq,slcV_eq,mapV_eq,cells_agg,cells_int,cells_bool,cells_ptr,cells_slice,oc_int,oc_bool,oc_slice,oc_ptr,rd1_set,rd1_ne,rdn_set,rdn_ne,Heap.set_same,set_ne,Heap.set_set,set_up,set_up2,set_up3,putAt,ceq,List.map_cons,List.map_nil,List.length_cons,List.length_nil,List.length_set,List.cons_append,List.nil_append,List.append_nil,List.replicate,List.size_toArray,List.all_cons,List.all_nil,Bool.and_self,Bool.and_true,List.drop_zero,List.drop_succ_cons,List.take_succ_cons,List.take_zero,List.set_cons_zero,List.set_cons_succ,List.getElem?_cons_zero,List.getElem?_cons_succ,Option.map_some,Option.map_none,ne_eq,not_false_eq_true,not_true_eq_false,gt_iff_lt,ge_iff_le,Int.one_mul,Nat.zero_add,Nat.zero_mul,Bool.not_true,Bool.not_false,Bool.false_eq_true,Bool.and_false,Bool.false_and,Bool.true_and, *]))
      exact Fin_mk (Heap.Le.refl _) h
  have n1 : ¬ n < 1 := by omega
  have n2 : ¬ 64 < n := by omega
  have e1 : IntKind.i64.wrap (n - 1) = n - 1 := Bw.1 _ (by omega) (by omega)
  have e2 : IntKind.i64.wrap (2 * n) = 2 * n := Bw.1 _ (by omega) (by omega)
  have e3 : IntKind.i64.wrap (2 * n - 1) = 2 * n - 1 := Bw.1 _ (by omega) (by omega)
  have m1 := Int.emod_nonneg i (b := 2 * n) (by omega)
  have m2 := Int.emod_lt_of_pos i (b := 2 * n) (by omega)
  have e4 : IntKind.i64.wrap (2 * n - 1 - i % (2 * n)) = 2 * n - 1 - i % (2 * n) := Bw.1 _ (by omega) (by omega)
  have key : ∀ x, x = fwrap mode i n → HL.Fin K (.int .i64 x) H := fun x hx => by subst hx; exact Fin_mk (Heap.Le.refl _) h
  unfold fwrap at key
  rw [if_neg hn] at key
  clear hn m1 m2 h
  refine HL.hc k11 999 ?_; unfold M11
  (all_goals (try simp only [Sh,Si,Sl,Bu,Bb,Bd,Bc,Bw,Bn,Int.reduceAdd,Int.reduceSub,Int.reduceMul,Int.reduceTDiv,Int.reduceTMod,Int.reduceMod,Int.reduceDiv,Nat.reduceLT,Nat.reduceEqDiff,decide_true,decide_false,Sa,Sb,Sc,Sd,Se,Sf,Sg,true_and,and_true,and_self,eq_self,b_i64,b_i32,b_u64,b_u32,b_u8,Int.reduceLE,Int.reduceLT,Int.reduceToNat,Int.reduceNeg,Int.reduceEq,Nat.reduceLeDiff,Nat.reducePow,Int.reducePow,Nat.min_def,reduceIte,Nat.reduceSub,Nat.reduceAdd,Nat.reduceMul,KP_same,KP_f,condS_t,condS_f,pick_t,pick_f,gS_tt,gS_ff,gS_tf,gS_ft,gS_u,gP_tt,gP_ff,gP_tf,gP_ft,gP_u,ptrV_eq,slcV_eq,mapV_eq,cells_agg,cells_int,cells_bool,cells_ptr,cells_slice,oc_int,oc_bool,oc_slice,oc_ptr,rd1_set,rd1_ne,rdn_set,rdn_ne,Heap.set_same,set_ne,Heap.set_set,set_up,set_up2,set_up3,putAt,ceq,List.map_cons,List.map_nil,List.length_cons,List.length_nil,List.length_set,List.cons_append,List.nil_append,List.append_nil,List.replicate,List.size_toArray,List.all_cons,List.all_nil,Bool.and_self,Bool.and_true,List.drop_zero,List.drop_succ_cons,List.take_succ_cons,List.take_zero,List.set_cons_zero,List.set_cons_succ,List.getElem?_cons_zero,List.getElem?_cons_succ,Option.map_some,Option.map_none,ne_eq,not_false_eq_true,not_true_eq_false,gt_iff_lt,ge_iff_le,Int.one_mul,Nat.zero_add,Nat.zero_mul,Bool.not_true,Bool.not_false,Bool.false_eq_true,Bool.and_false,Bool.false_and,Bool.true_and, *])); repeat' ((first | (with_reducible refine fun _ : True => ?_) | refine c_mod _ _ hi (by omega) ?_ | (with_reducible refine any_h ?_) | ((first | refine AllocQ_i ?_ | refine AllocO_i ?_); intro bk hb0 hbk; try simp only [set_none'] at hbk) | ((first | refine condS_i ?_ ?_ | refine pick_i ?_ ?_ | refine gS_it ?_ ?_ | refine gS_if ?_ ?_ | refine gP_it ?_ ?_ | refine gP_if ?_ ?_) <;> (intro hc; try simp only [Int.reduceLE,Int.reduceLT,Int.reduceEq,and_self,not_true_eq_false,not_false_eq_true,and_true,true_and,false_and,and_false,true_or,or_true,false_or,or_false,decide_eq_true_eq,decide_eq_false_iff_not,beq_iff_eq,beq_eq_false_iff_ne,bne_iff_ne,ne_eq,gt_iff_lt,ge_iff_le,Bool.not_eq_true,Bool.not_eq_false,Bool.not_eq_true',Bool.not_eq_false',Bool.not_eq_eq_eq_not,Bool.not_true,Bool.not_false] at hc)) | (refine KP_i (by (repeat' (first | exact Heap.Le.refl _ | (refine Le_fresh (by first | exact (by simp only [*]) | exact (by simp [set_none', *])) ?_) | (refine Heap.Le.trans ?_ (Grow.le (by assumption)))))) ?_) | (with_reducible refine And.intro ?_ ?_)) <;> (try simp only [Sh,Si,Sl,Bu,Bb,Bd,Bc,Bw,Bn,Int.reduceAdd,Int.reduceSub,Int.reduceMul,Int.reduceTDiv,Int.reduceTMod,Int.reduceMod,Int.reduceDiv,Nat.reduceLT,Nat.reduceEqDiff,decide_true,decide_false,Sa,Sb,Sc,Sd,Se,Sf,Sg,true_and,and_true,and_self,eq_self,b_i64,b_i32,b_u64,b_u32,b_u8,Int.reduceLE,Int.reduceLT,Int.reduceToNat,Int.reduceNeg,Int.reduceEq,Nat.reduceLeDiff,Nat.reducePow,Int.reducePow,Nat.min_def,reduceIte,Nat.reduceSub,Nat.reduceAdd,Nat.reduceMul,KP_same,KP_f,condS_t,condS_f,pick_t,pick_f,gS_tt,gS_ff,gS_tf,gS_ft,gS_u,gP_tt,gP_ff,gP_tf,gP_ft,gP_u,ptrV_eq,slcV_eq,mapV_eq,cells_agg,cells_int,cells_bool,cells_ptr,cells_slice,oc_int,oc_bool,oc_slice,oc_ptr,rd1_set,rd1_ne,rdn_set,rdn_ne,Heap.set_same,set_ne,Heap.set_set,set_up,set_up2,set_up3,putAt,ceq,List.map_cons,List.map_nil,List.length_cons,List.length_nil,List.length_set,List.cons_append,List.nil_append,List.append_nil,List.replicate,List.size_toArray,List.all_cons,List.all_nil,Bool.and_self,Bool.and_true,List.drop_zero,List.drop_succ_cons,List.take_succ_cons,List.take_zero,List.set_cons_zero,List.set_cons_succ,List.getElem?_cons_zero,List.getElem?_cons_succ,Option.map_some,Option.map_none,ne_eq,not_false_eq_true,not_true_eq_false,gt_iff_lt,ge_iff_le,Int.one_mul,Nat.zero_add,Nat.zero_mul,Bool.not_true,Bool.not_false,Bool.false_eq_true,Bool.and_false,Bool.false_and,Bool.true_and, *]))
  all_goals (refine key _ ?_)
  all_goals ((repeat' split) <;> first | rfl | omega)
/- paintboxref09 down -/
def M27 : MC :=
  .seq (.reg [⟨(some 4), .mv (.const (.int .i64 0)), none⟩])
  (.seq (.reg [⟨(some 6), .mv (.tmp 0), none⟩,
      ⟨(some 7), .mv (.tmp 1), none⟩,
      ⟨(some 8), .bin .quo (.tmp 6) (.tmp 7), none⟩,
      ⟨(some 5), .mv (.tmp 8), none⟩])
   (.seq (.seq (.reg [⟨(some 9), .mv (.tmp 5), none⟩,
        ⟨(some 10), .mv (.tmp 1), none⟩,
        ⟨(some 11), .bin .mul (.tmp 9) (.tmp 10), none⟩,
        ⟨(some 12), .mv (.tmp 0), none⟩,
        ⟨(some 13), .bin .gtr (.tmp 11) (.tmp 12), none⟩])
     (.cond (.tmp 13)
      (.reg [⟨(some 14), .mv (.tmp 5), none⟩,
         ⟨(some 15), .bin .sub (.tmp 14) (.const (.int .i64 1)), none⟩,
         ⟨(some 5), .mv (.tmp 15), none⟩])
      (.skip)))
    (.seq (.reg [⟨(some 16), .mv (.tmp 5), none⟩,
        ⟨(some 4), .mv (.tmp 16), none⟩])
     (.ret))))
theorem k27 : fnOk Try.prog 27 = some (M27, [.t 4], 17) := by kernel_rfl

theorem r_down9 (p q : Int) (hp : -1152921504606846976 ≤ p ∧ p ≤ 1152921504606846976) (hq : 1 ≤ q ∧ q ≤ 128) (h : K (.int .i64 (p / q)) H) : HCalls Try.prog w0 27 [.int .i64 p, .int .i64 q] H K := by
  have h0 := Int.mul_tdiv_add_tmod p q
  have h1 : (p.tmod q).natAbs < q.natAbs := by rw [Int.natAbs_tmod]; exact Nat.mod_lt _ (by omega)
  have h2 : (p.tdiv q).natAbs ≤ p.natAbs := by rw [Int.natAbs_tdiv]; exact Nat.div_le_self _ _
  have e1 : IntKind.i64.wrap (p.tdiv q) = p.tdiv q := Bw.1 _ (by omega) (by omega)
  have e0 : p.tdiv q * q = q * p.tdiv q := Int.mul_comm _ _
  have e2 : IntKind.i64.wrap (p.tdiv q * q) = p.tdiv q * q := Bw.1 _ (by omega) (by omega)
  have e3 : IntKind.i64.wrap (p.tdiv q - 1) = p.tdiv q - 1 := Bw.1 _ (by omega) (by omega)
  have e4 : ¬ q = 0 := by omega
  have key : ∀ x, x = p / q → HL.Fin K (.int .i64 x) H := fun x hx => by subst hx; exact Fin_mk (Heap.Le.refl _) h
  have e5 : p.tdiv q * q + q = (p.tdiv q + 1) * q := by rw [Int.add_mul, Int.one_mul]
  have e6 : p.tdiv q * q - q = (p.tdiv q - 1) * q := by rw [Int.sub_mul, Int.one_mul]
  have f1 : p < p.tdiv q * q → p.tdiv q - 1 = p / q := fun hc => by
    symm; rw [Int.ediv_eq_iff_of_pos (by omega)]; omega
  have f2 : ¬ p < p.tdiv q * q → p.tdiv q = p / q := fun hc => by
    symm; rw [Int.ediv_eq_iff_of_pos (by omega)]; omega
  by_cases hc : p < p.tdiv q * q
  · have f := key _ (f1 hc)
    clear f1 f2 h0 h1 h2 e0 h e5 e6 key
    refine HL.hc k27 999 ?_; unfold M27
    (all_goals (try simp only [Sh,Si,Sl,Bu,Bb,Bd,Bc,Bw,Bn,Int.reduceAdd,Int.reduceSub,Int.reduceMul,Int.reduceTDiv,Int.reduceTMod,Int.reduceMod,Int.reduceDiv,Nat.reduceLT,Nat.reduceEqDiff,decide_true,decide_false,Sa,Sb,Sc,Sd,Se,Sf,Sg,true_and,and_true,and_self,eq_self,b_i64,b_i32,b_u64,b_u32,b_u8,Int.reduceLE,Int.reduceLT,Int.reduceToNat,Int.reduceNeg,Int.reduceEq,Nat.reduceLeDiff,Nat.reducePow,Int.reducePow,Nat.min_def,reduceIte,Nat.reduceSub,Nat.reduceAdd,Nat.reduceMul,KP_same,KP_f,condS_t,condS_f,pick_t,pick_f,gS_tt,gS_ff,gS_tf,gS_ft,gS_u,gP_tt,gP_ff,gP_tf,gP_ft,gP_u,ptrV_eq,slcV_eq,mapV_eq,cells_agg,cells_int,cells_bool,cells_ptr,cells_slice,oc_int,oc_bool,oc_slice,oc_ptr,rd1_set,rd1_ne,rdn_set,rdn_ne,Heap.set_same,set_ne,Heap.set_set,set_up,set_up2,set_up3,putAt,ceq,List.map_cons,List.map_nil,List.length_cons,List.length_nil,List.length_set,List.cons_append,List.nil_append,List.append_nil,List.replicate,List.size_toArray,List.all_cons,List.all_nil,Bool.and_self,Bool.and_true,List.drop_zero,List.drop_succ_cons,List.take_succ_cons,List.take_zero,List.set_cons_zero,List.set_cons_succ,List.getElem?_cons_zero,List.getElem?_cons_succ,Option.map_some,Option.map_none,ne_eq,not_false_eq_true,not_true_eq_false,gt_iff_lt,ge_iff_le,Int.one_mul,Nat.zero_add,Nat.zero_mul,Bool.not_true,Bool.not_false,Bool.false_eq_true,Bool.and_false,Bool.false_and,Bool.true_and, *])); repeat' ((first | (with_reducible refine fun _ : True => ?_) | (with_reducible refine any_h ?_) | ((first | refine AllocQ_i ?_ | refine AllocO_i ?_); intro bk hb0 hbk; try simp only [set_none'] at hbk) | ((first | refine condS_i ?_ ?_ | refine pick_i ?_ ?_ | refine gS_it ?_ ?_ | refine gS_if ?_ ?_ | refine gP_it ?_ ?_ | refine gP_if ?_ ?_) <;> (intro hc; try simp only [Int.reduceLE,Int.reduceLT,Int.reduceEq,and_self,not_true_eq_false,not_false_eq_true,and_true,true_and,false_and,and_false,true_or,or_true,false_or,or_false,decide_eq_true_eq,decide_eq_false_iff_not,beq_iff_eq,beq_eq_false_iff_ne,bne_iff_ne,ne_eq,gt_iff_lt,ge_iff_le,Bool.not_eq_true,Bool.not_eq_false,Bool.not_eq_true',Bool.not_eq_false',Bool.not_eq_eq_eq_not,Bool.not_true,Bool.not_false] at hc)) | (refine KP_i (by (repeat' (first | exact Heap.Le.refl _ | (refine Le_fresh (by first | exact (by simp only [*]) | exact (by simp [set_none', *])) ?_) | (refine Heap.Le.trans ?_ (Grow.le (by assumption)))))) ?_) | (with_reducible refine And.intro ?_ ?_)) <;> (try simp only [Sh,Si,Sl,Bu,Bb,Bd,Bc,Bw,Bn,Int.reduceAdd,Int.reduceSub,Int.reduceMul,Int.reduceTDiv,Int.reduceTMod,Int.reduceMod,Int.reduceDiv,Nat.reduceLT,Nat.reduceEqDiff,decide_true,decide_false,Sa,Sb,Sc,Sd,Se,Sf,Sg,true_and,and_true,and_self,eq_self,b_i64,b_i32,b_u64,b_u32,b_u8,Int.reduceLE,Int.reduceLT,Int.reduceToNat,Int.reduceNeg,Int.reduceEq,Nat.reduceLeDiff,Nat.reducePow,Int.reducePow,Nat.min_def,reduceIte,Nat.reduceSub,Nat.reduceAdd,Nat.reduceMul,KP_same,KP_f,condS_t,condS_f,pick_t,pick_f,gS_tt,gS_ff,gS_tf,gS_ft,gS_u,gP_tt,gP_ff,gP_tf,gP_ft,gP_u,ptrV_eq,slcV_eq,mapV_eq,cells_agg,cells_int,cells_bool,cells_ptr,cells_slice,oc_int,oc_bool,oc_slice,oc_ptr,rd1_set,rd1_ne,rdn_set,rdn_ne,Heap.set_same,set_ne,Heap.set_set,set_up,set_up2,set_up3,putAt,ceq,List.map_cons,List.map_nil,List.length_cons,List.length_nil,List.length_set,List.cons_append,List.nil_append,List.append_nil,List.replicate,List.size_toArray,List.all_cons,List.all_nil,Bool.and_self,Bool.and_true,List.drop_zero,List.drop_succ_cons,List.take_succ_cons,List.take_zero,List.set_cons_zero,List.set_cons_succ,List.getElem?_cons_zero,List.getElem?_cons_succ,Option.map_some,Option.map_none,ne_eq,not_false_eq_true,not_true_eq_false,gt_iff_lt,ge_iff_le,Int.one_mul,Nat.zero_add,Nat.zero_mul,Bool.not_true,Bool.not_false,Bool.false_eq_true,Bool.and_false,Bool.false_and,Bool.true_and, *]))
  · have f := key _ (f2 hc)
    clear f1 f2 h0 h1 h2 e0 h e5 e6 key
    refine HL.hc k27 999 ?_; unfold M27
    (all_goals (try simp only [Sh,Si,Sl,Bu,Bb,Bd,Bc,Bw,Bn,Int.reduceAdd,Int.reduceSub,Int.reduceMul,Int.reduceTDiv,Int.reduceTMod,Int.reduceMod,Int.reduceDiv,Nat.reduceLT,Nat.reduceEqDiff,decide_true,decide_false,Sa,Sb,Sc,Sd,Se,Sf,Sg,true_and,and_true,and_self,eq_self,b_i64,b_i32,b_u64,b_u32,b_u8,Int.reduceLE,Int.reduceLT,Int.reduceToNat,Int.reduceNeg,Int.reduceEq,Nat.reduceLeDiff,Nat.reducePow,Int.reducePow,Nat.min_def,reduceIte,Nat.reduceSub,Nat.reduceAdd,Nat.reduceMul,KP_same,KP_f,condS_t,condS_f,pick_t,pick_f,gS_tt,gS_ff,gS_tf,gS_ft,gS_u,gP_tt,gP_ff,gP_tf,gP_ft,gP_u,ptrV_eq,slcV_eq,mapV_eq,cells_agg,cells_int,cells_bool,cells_ptr,cells_slice,oc_int,oc_bool,oc_slice,oc_ptr,rd1_set,rd1_ne,rdn_set,rdn_ne,Heap.set_same,set_ne,Heap.set_set,set_up,set_up2,set_up3,putAt,ceq,List.map_cons,List.map_nil,List.length_cons,List.length_nil,List.length_set,List.cons_append,List.nil_append,List.append_nil,List.replicate,List.size_toArray,List.all_cons,List.all_nil,Bool.and_self,Bool.and_true,List.drop_zero,List.drop_succ_cons,List.take_succ_cons,List.take_zero,List.set_cons_zero,List.set_cons_succ,List.getElem?_cons_zero,List.getElem?_cons_succ,Option.map_some,Option.map_none,ne_eq,not_false_eq_true,not_true_eq_false,gt_iff_lt,ge_iff_le,Int.one_mul,Nat.zero_add,Nat.zero_mul,Bool.not_true,Bool.not_false,Bool.false_eq_true,Bool.and_false,Bool.false_and,Bool.true_and, *])); repeat' ((first | (with_reducible refine fun _ : True => ?_) | (with_reducible refine any_h ?_) | ((first | refine AllocQ_i ?_ | refine AllocO_i ?_); intro bk hb0 hbk; try simp only [set_none'] at hbk) | ((first | refine condS_i ?_ ?_ | refine pick_i ?_ ?_ | refine gS_it ?_ ?_ | refine gS_if ?_ ?_ | refine gP_it ?_ ?_ | refine gP_if ?_ ?_) <;> (intro hc; try simp only [Int.reduceLE,Int.reduceLT,Int.reduceEq,and_self,not_true_eq_false,not_false_eq_true,and_true,true_and,false_and,and_false,true_or,or_true,false_or,or_false,decide_eq_true_eq,decide_eq_false_iff_not,beq_iff_eq,beq_eq_false_iff_ne,bne_iff_ne,ne_eq,gt_iff_lt,ge_iff_le,Bool.not_eq_true,Bool.not_eq_false,Bool.not_eq_true',Bool.not_eq_false',Bool.not_eq_eq_eq_not,Bool.not_true,Bool.not_false] at hc)) | (refine KP_i (by (repeat' (first | exact Heap.Le.refl _ | (refine Le_fresh (by first | exact (by simp only [*]) | exact (by simp [set_none', *])) ?_) | (refine Heap.Le.trans ?_ (Grow.le (by assumption)))))) ?_) | (with_reducible refine And.intro ?_ ?_)) <;> (try simp only [Sh,Si,Sl,Bu,Bb,Bd,Bc,Bw,Bn,Int.reduceAdd,Int.reduceSub,Int.reduceMul,Int.reduceTDiv,Int.reduceTMod,Int.reduceMod,Int.reduceDiv,Nat.reduceLT,Nat.reduceEqDiff,decide_true,decide_false,Sa,Sb,Sc,Sd,Se,Sf,Sg,true_and,and_true,and_self,eq_self,b_i64,b_i32,b_u64,b_u32,b_u8,Int.reduceLE,Int.reduceLT,Int.reduceToNat,Int.reduceNeg,Int.reduceEq,Nat.reduceLeDiff,Nat.reducePow,Int.reducePow,Nat.min_def,reduceIte,Nat.reduceSub,Nat.reduceAdd,Nat.reduceMul,KP_same,KP_f,condS_t,condS_f,pick_t,pick_f,gS_tt,gS_ff,gS_tf,gS_ft,gS_u,gP_tt,gP_ff,gP_tf,gP_ft,gP_u,ptrV_eq,slcV_eq,mapV_eq,cells_agg,cells_int,cells_bool,cells_ptr,cells_slice,oc_int,oc_bool,oc_slice,oc_ptr,rd1_set,rd1_ne,rdn_set,rdn_ne,Heap.set_same,set_ne,Heap.set_set,set_up,set_up2,set_up3,putAt,ceq,List.map_cons,List.map_nil,List.length_cons,List.length_nil,List.length_set,List.cons_append,List.nil_append,List.append_nil,List.replicate,List.size_toArray,List.all_cons,List.all_nil,Bool.and_self,Bool.and_true,List.drop_zero,List.drop_succ_cons,List.take_succ_cons,List.take_zero,List.set_cons_zero,List.set_cons_succ,List.getElem?_cons_zero,List.getElem?_cons_succ,Option.map_some,Option.map_none,ne_eq,not_false_eq_true,not_true_eq_false,gt_iff_lt,ge_iff_le,Int.one_mul,Nat.zero_add,Nat.zero_mul,Bool.not_true,Bool.not_false,Bool.false_eq_true,Bool.and_false,Bool.false_and,Bool.true_and, *]))
/- paintboxref09 Wrap -/
def M13 : MC :=
  .seq (.reg [⟨(some 6), .mv (.const (.int .i64 0)), none⟩])
  (.seq (.seq (.reg [⟨(some 8), .mv (.tmp 0), none⟩,
       ⟨(some 9), .bin .eql (.tmp 8) (.const (.int .i64 2)), none⟩])
    (.cond (.tmp 9)
     (.seq (.seq (.reg [⟨(some 10), .mv (.tmp 1), none⟩,
          ⟨(some 11), .bin .lss (.tmp 10) (.const (.int .i64 0)), none⟩])
       (.cond (.tmp 11)
        (.seq (.reg [⟨(some 6), .mv (.const (.int .i64 0)), none⟩])
         (.ret))
        (.skip)))
      (.seq (.seq (.reg [⟨(some 12), .mv (.tmp 1), none⟩,
           ⟨(some 13), .mv (.tmp 2), none⟩,
           ⟨(some 14), .bin .geq (.tmp 12) (.tmp 13), none⟩])
        (.cond (.tmp 14)
         (.seq (.reg [⟨(some 15), .mv (.tmp 2), none⟩,
             ⟨(some 16), .bin .sub (.tmp 15) (.const (.int .i64 1)), none⟩,
             ⟨(some 6), .mv (.tmp 16), none⟩])
          (.ret))
         (.skip)))
       (.seq (.reg [⟨(some 17), .mv (.tmp 1), none⟩,
           ⟨(some 6), .mv (.tmp 17), none⟩])
        (.ret))))
     (.skip)))
   (.seq (.seq (.reg [⟨(some 18), .mv (.tmp 0), none⟩,
        ⟨(some 19), .bin .eql (.tmp 18) (.const (.int .i64 1)), none⟩])
     (.cond (.tmp 19)
      (.seq (.reg [⟨(some 20), .mv (.tmp 1), none⟩,
          ⟨(some 21), .mv (.tmp 1), none⟩,
          ⟨(some 22), .mv (.tmp 2), none⟩,
          ⟨(some 23), .call 27 [(.tmp 21), (.tmp 22)], none⟩,
          ⟨(some 24), .mv (.tmp 2), none⟩,
          ⟨(some 25), .bin .mul (.tmp 23) (.tmp 24), none⟩,
          ⟨(some 26), .bin .sub (.tmp 20) (.tmp 25), none⟩,
          ⟨(some 6), .mv (.tmp 26), none⟩])
       (.ret))
      (.skip)))
    (.seq (.reg [⟨(some 27), .mv (.tmp 1), none⟩,
        ⟨(some 28), .mv (.tmp 1), none⟩,
        ⟨(some 29), .mv (.tmp 2), none⟩,
        ⟨(some 30), .bin .mul (.const (.int .i64 2)) (.tmp 29), none⟩,
        ⟨(some 31), .call 27 [(.tmp 28), (.tmp 30)], none⟩,
        ⟨(some 32), .bin .mul (.tmp 31) (.const (.int .i64 2)), none⟩,
        ⟨(some 33), .mv (.tmp 2), none⟩,
        ⟨(some 34), .bin .mul (.tmp 32) (.tmp 33), none⟩,
        ⟨(some 35), .bin .sub (.tmp 27) (.tmp 34), none⟩,
        ⟨(some 7), .mv (.tmp 35), none⟩])
     (.seq (.seq (.reg [⟨(some 36), .mv (.tmp 7), none⟩,
          ⟨(some 37), .mv (.tmp 2), none⟩,
          ⟨(some 38), .bin .lss (.tmp 36) (.tmp 37), none⟩])
       (.cond (.tmp 38)
        (.seq (.reg [⟨(some 39), .mv (.tmp 7), none⟩,
            ⟨(some 6), .mv (.tmp 39), none⟩])
         (.ret))
        (.skip)))
      (.seq (.reg [⟨(some 40), .mv (.tmp 2), none⟩,
          ⟨(some 41), .bin .mul (.const (.int .i64 2)) (.tmp 40), none⟩,
          ⟨(some 42), .bin .sub (.tmp 41) (.const (.int .i64 1)), none⟩,
          ⟨(some 43), .mv (.tmp 7), none⟩,
          ⟨(some 44), .bin .sub (.tmp 42) (.tmp 43), none⟩,
          ⟨(some 6), .mv (.tmp 44), none⟩])
       (.ret))))))
theorem k13 : fnOk Try.prog 13 = some (M13, [.t 6], 45) := by kernel_rfl

theorem r_Wrap9 (mode i n : Int) (hi : -1152921504606846976 < i ∧ i < 1152921504606846976) (hn : 1 ≤ n ∧ n ≤ 64) (hm : 1 ≤ mode ∧ mode ≤ 3) (h : K (.int .i64 (fwrap mode i n)) H) : HCalls Try.prog w0 13 [.int .i64 mode, .int .i64 i, .int .i64 n] H K := by
  have key : ∀ x, x = fwrap mode i n → HL.Fin K (.int .i64 x) H := fun x hx => by subst hx; exact Fin_mk (Heap.Le.refl _) h
  unfold fwrap at key
  rw [if_neg (by omega)] at key
  have d1 := Int.mul_ediv_add_emod i n
  have d2 := Int.mul_ediv_add_emod i (2 * n)
  have m1 := Int.emod_nonneg i (b := 2 * n) (by omega)
  have m2 := Int.emod_lt_of_pos i (b := 2 * n) (by omega)
  have m3 := Int.emod_nonneg i (b := n) (by omega)
  have m4 := Int.emod_lt_of_pos i (b := n) (by omega)
  have c1 : i / n * n = n * (i / n) := Int.mul_comm _ _
  have c2 : i / (2 * n) * 2 * n = 2 * n * (i / (2 * n)) := by rw [Int.mul_assoc, Int.mul_comm]
  have c3 : (i / (2 * n)) = i / (2 * n) := rfl
  have b1 : -1152921504606846977 ≤ i / (2 * n) ∧ i / (2 * n) ≤ 1152921504606846977 := by
    constructor
    · exact (Int.le_ediv_iff_mul_le (by omega)).2 (by omega)
    · exact Int.le_of_lt (Int.ediv_lt_of_lt_mul (by omega) (by omega))
  have e1 : IntKind.i64.wrap (i / n * n) = i / n * n := Bw.1 _ (by omega) (by omega)
  have e2 : IntKind.i64.wrap (i - i / n * n) = i % n := by rw [show i - i / n * n = i % n by omega]; exact Bw.1 _ (by omega) (by omega)
  have e3 : IntKind.i64.wrap (2 * n) = 2 * n := Bw.1 _ (by omega) (by omega)
  have e4 : IntKind.i64.wrap (i / (2 * n) * 2) = i / (2 * n) * 2 := Bw.1 _ (by omega) (by omega)
  have e5 : IntKind.i64.wrap (i / (2 * n) * 2 * n) = i / (2 * n) * 2 * n := Bw.1 _ (by omega) (by omega)
  have e6 : IntKind.i64.wrap (i - i / (2 * n) * 2 * n) = i % (2 * n) := by rw [show i - i / (2 * n) * 2 * n = i % (2 * n) by omega]; exact Bw.1 _ (by omega) (by omega)
  have e7 : IntKind.i64.wrap (2 * n - 1) = 2 * n - 1 := Bw.1 _ (by omega) (by omega)
  have e8 : IntKind.i64.wrap (2 * n - 1 - i % (2 * n)) = 2 * n - 1 - i % (2 * n) := Bw.1 _ (by omega) (by omega)
  have e9 : IntKind.i64.wrap (n - 1) = n - 1 := Bw.1 _ (by omega) (by omega)
  clear d1 d2 m1 m2 m3 m4 c1 c2 c3 b1 h
  refine HL.hc k13 999 ?_; unfold M13
  (all_goals (try simp only [Sh,Si,Sl,Bu,Bb,Bd,Bc,Bw,Bn,Int.reduceAdd,Int.reduceSub,Int.reduceMul,Int.reduceTDiv,Int.reduceTMod,Int.reduceMod,Int.reduceDiv,Nat.reduceLT,Nat.reduceEqDiff,decide_true,decide_false,Sa,Sb,Sc,Sd,Se,Sf,Sg,true_and,and_true,and_self,eq_self,b_i64,b_i32,b_u64,b_u32,b_u8,Int.reduceLE,Int.reduceLT,Int.reduceToNat,Int.reduceNeg,Int.reduceEq,Nat.reduceLeDiff,Nat.reducePow,Int.reducePow,Nat.min_def,reduceIte,Nat.reduceSub,Nat.reduceAdd,Nat.reduceMul,KP_same,KP_f,condS_t,condS_f,pick_t,pick_f,gS_tt,gS_ff,gS_tf,gS_ft,gS_u,gP_tt,gP_ff,gP_tf,gP_ft,gP_u,ptrV_eq,slcV_eq,mapV_eq,cells_agg,cells_int,cells_bool,cells_ptr,cells_slice,oc_int,oc_bool,oc_slice,oc_ptr,rd1_set,rd1_ne,rdn_set,rdn_ne,Heap.set_same,set_ne,Heap.set_set,set_up,set_up2,set_up3,putAt,ceq,List.map_cons,List.map_nil,List.length_cons,List.length_nil,List.length_set,List.cons_append,List.nil_append,List.append_nil,List.replicate,List.size_toArray,List.all_cons,List.all_nil,Bool.and_self,Bool.and_true,List.drop_zero,List.drop_succ_cons,List.take_succ_cons,List.take_zero,List.set_cons_zero,List.set_cons_succ,List.getElem?_cons_zero,List.getElem?_cons_succ,Option.map_some,Option.map_none,ne_eq,not_false_eq_true,not_true_eq_false,gt_iff_lt,ge_iff_le,Int.one_mul,Nat.zero_add,Nat.zero_mul,Bool.not_true,Bool.not_false,Bool.false_eq_true,Bool.and_false,Bool.false_and,Bool.true_and, *])); repeat' ((first | (with_reducible refine fun _ : True => ?_) | refine r_down9 _ _ (by omega) (by omega) ?_ | (with_reducible refine any_h ?_) | ((first | refine AllocQ_i ?_ | refine AllocO_i ?_); intro bk hb0 hbk; try simp only [set_none'] at hbk) | ((first | refine condS_i ?_ ?_ | refine pick_i ?_ ?_ | refine gS_it ?_ ?_ | refine gS_if ?_ ?_ | refine gP_it ?_ ?_ | refine gP_if ?_ ?_) <;> (intro hc; try simp only [Int.reduceLE,Int.reduceLT,Int.reduceEq,and_self,not_true_eq_false,not_false_eq_true,and_true,true_and,false_and,and_false,true_or,or_true,false_or,or_false,decide_eq_true_eq,decide_eq_false_iff_not,beq_iff_eq,beq_eq_false_iff_ne,bne_iff_ne,ne_eq,gt_iff_lt,ge_iff_le,Bool.not_eq_true,Bool.not_eq_false,Bool.not_eq_true',Bool.not_eq_false',Bool.not_eq_eq_eq_not,Bool.not_true,Bool.not_false] at hc)) | (refine KP_i (by (repeat' (first | exact Heap.Le.refl _ | (refine Le_fresh (by first | exact (by simp only [*]) | exact (by simp [set_none', *])) ?_) | (refine Heap.Le.trans ?_ (Grow.le (by assumption)))))) ?_) | (with_reducible refine And.intro ?_ ?_)) <;> (try simp only [Sh,Si,Sl,Bu,Bb,Bd,Bc,Bw,Bn,Int.reduceAdd,Int.reduceSub,Int.reduceMul,Int.reduceTDiv,Int.reduceTMod,Int.reduceMod,Int.reduceDiv,Nat.reduceLT,Nat.reduceEqDiff,decide_true,decide_false,Sa,Sb,Sc,Sd,Se,Sf,Sg,true_and,and_true,and_self,eq_self,b_i64,b_i32,b_u64,b_u32,b_u8,Int.reduceLE,Int.reduceLT,Int.reduceToNat,Int.reduceNeg,Int.reduceEq,Nat.reduceLeDiff,Nat.reducePow,Int.reducePow,Nat.min_def,reduceIte,Nat.reduceSub,Nat.reduceAdd,Nat.reduceMul,KP_same,KP_f,condS_t,condS_f,pick_t,pick_f,gS_tt,gS_ff,gS_tf,gS_ft,gS_u,gP_tt,gP_ff,gP_tf,gP_ft,gP_u,ptrV_eq,slcV_eq,mapV_eq,cells_agg,cells_int,cells_bool,cells_ptr,cells_slice,oc_int,oc_bool,oc_slice,oc_ptr,rd1_set,rd1_ne,rdn_set,rdn_ne,Heap.set_same,set_ne,Heap.set_set,set_up,set_up2,set_up3,putAt,ceq,List.map_cons,List.map_nil,List.length_cons,List.length_nil,List.length_set,List.cons_append,List.nil_append,List.append_nil,List.replicate,List.size_toArray,List.all_cons,List.all_nil,Bool.and_self,Bool.and_true,List.drop_zero,List.drop_succ_cons,List.take_succ_cons,List.take_zero,List.set_cons_zero,List.set_cons_succ,List.getElem?_cons_zero,List.getElem?_cons_succ,Option.map_some,Option.map_none,ne_eq,not_false_eq_true,not_true_eq_false,gt_iff_lt,ge_iff_le,Int.one_mul,Nat.zero_add,Nat.zero_mul,Bool.not_true,Bool.not_false,Bool.false_eq_true,Bool.and_false,Bool.false_and,Bool.true_and, *]))
  all_goals (refine key _ ?_)
  all_goals ((repeat' split) <;> first | rfl | omega)
/- paintboxlaw09 near -/
def M12 : MC :=
  .seq (.reg [⟨(some 2), .mv (.const (.bool false)), none⟩])
  (.seq (.reg [⟨(some 3), .mv (.tmp 0), none⟩,
      ⟨(some 4), .bin .gtr (.tmp 3) (.const (.int .i64 (-1152921504606846976))), none⟩,
      ⟨(some 5), .mv (.tmp 4), none⟩,
      ⟨(some 6), .mv (.tmp 0), (some (5, true))⟩,
      ⟨(some 7), .bin .lss (.tmp 6) (.const (.int .i64 1152921504606846976)), (some (5, true))⟩,
      ⟨(some 8), .pick (.tmp 5) (.tmp 7) (.const (.bool false)), none⟩,
      ⟨(some 2), .mv (.tmp 8), none⟩])
   (.ret))
theorem k12 : fnOk Try.prog 12 = some (M12, [.t 2], 9) := by kernel_rfl

theorem l_near (i : Int) (h : K (.bool (decide (-1152921504606846976 < i ∧ i < 1152921504606846976))) H) : HCalls Try.prog w0 12 [.int .i64 i] H K := by
  refine HL.hc k12 999 ?_; unfold M12
  (all_goals (try simp only [Sh,Si,Sl,Bu,Bb,Bd,Bc,Bw,Bn,Int.reduceAdd,Int.reduceSub,Int.reduceMul,Int.reduceTDiv,Int.reduceTMod,Int.reduceMod,Int.reduceDiv,Nat.reduceLT,Nat.reduceEqDiff,decide_true,decide_false,Sa,Sb,Sc,Sd,Se,Sf,Sg,true_and,and_true,and_self,eq_self,b_i64,b_i32,b_u64,b_u32,b_u8,Int.reduceLE,Int.reduceLT,Int.reduceToNat,Int.reduceNeg,Int.reduceEq,Nat.reduceLeDiff,Nat.reducePow,Int.reducePow,Nat.min_def,reduceIte,Nat.reduceSub,Nat.reduceAdd,Nat.reduceMul,KP_same,KP_f,condS_t,condS_f,pick_t,pick_f,gS_tt,gS_ff,gS_tf,gS_ft,gS_u,gP_tt,gP_ff,gP_tf,gP_ft,gP_u,ptrV_eq,slcV_eq,mapV_eq,cells_agg,cells_int,cells_bool,cells_ptr,cells_slice,oc_int,oc_bool,oc_slice,oc_ptr,rd1_set,rd1_ne,rdn_set,rdn_ne,Heap.set_same,set_ne,Heap.set_set,set_up,set_up2,set_up3,putAt,ceq,List.map_cons,List.map_nil,List.length_cons,List.length_nil,List.length_set,List.cons_append,List.nil_append,List.append_nil,List.replicate,List.size_toArray,List.all_cons,List.all_nil,Bool.and_self,Bool.and_true,List.drop_zero,List.drop_succ_cons,List.take_succ_cons,List.take_zero,List.set_cons_zero,List.set_cons_succ,List.getElem?_cons_zero,List.getElem?_cons_succ,Option.map_some,Option.map_none,ne_eq,not_false_eq_true,not_true_eq_false,gt_iff_lt,ge_iff_le,Int.one_mul,Nat.zero_add,Nat.zero_mul,Bool.not_true,Bool.not_false,Bool.false_eq_true,Bool.and_false,Bool.false_and,Bool.true_and, *])); repeat' ((first | (with_reducible refine fun _ : True => ?_) | (with_reducible refine any_h ?_) | ((first | refine AllocQ_i ?_ | refine AllocO_i ?_); intro bk hb0 hbk; try simp only [set_none'] at hbk) | ((first | refine condS_i ?_ ?_ | refine pick_i ?_ ?_ | refine gS_it ?_ ?_ | refine gS_if ?_ ?_ | refine gP_it ?_ ?_ | refine gP_if ?_ ?_) <;> (intro hc; try simp only [Int.reduceLE,Int.reduceLT,Int.reduceEq,and_self,not_true_eq_false,not_false_eq_true,and_true,true_and,false_and,and_false,true_or,or_true,false_or,or_false,decide_eq_true_eq,decide_eq_false_iff_not,beq_iff_eq,beq_eq_false_iff_ne,bne_iff_ne,ne_eq,gt_iff_lt,ge_iff_le,Bool.not_eq_true,Bool.not_eq_false,Bool.not_eq_true',Bool.not_eq_false',Bool.not_eq_eq_eq_not,Bool.not_true,Bool.not_false] at hc)) | (refine KP_i (by (repeat' (first | exact Heap.Le.refl _ | (refine Le_fresh (by first | exact (by simp only [*]) | exact (by simp [set_none', *])) ?_) | (refine Heap.Le.trans ?_ (Grow.le (by assumption)))))) ?_) | (with_reducible refine And.intro ?_ ?_)) <;> (try simp only [Sh,Si,Sl,Bu,Bb,Bd,Bc,Bw,Bn,Int.reduceAdd,Int.reduceSub,Int.reduceMul,Int.reduceTDiv,Int.reduceTMod,Int.reduceMod,Int.reduceDiv,Nat.reduceLT,Nat.reduceEqDiff,decide_true,decide_false,Sa,Sb,Sc,Sd,Se,Sf,Sg,true_and,and_true,and_self,eq_self,b_i64,b_i32,b_u64,b_u32,b_u8,Int.reduceLE,Int.reduceLT,Int.reduceToNat,Int.reduceNeg,Int.reduceEq,Nat.reduceLeDiff,Nat.reducePow,Int.reducePow,Nat.min_def,reduceIte,Nat.reduceSub,Nat.reduceAdd,Nat.reduceMul,KP_same,KP_f,condS_t,condS_f,pick_t,pick_f,gS_tt,gS_ff,gS_tf,gS_ft,gS_u,gP_tt,gP_ff,gP_tf,gP_ft,gP_u,ptrV_eq,slcV_eq,mapV_eq,cells_agg,cells_int,cells_bool,cells_ptr,cells_slice,oc_int,oc_bool,oc_slice,oc_ptr,rd1_set,rd1_ne,rdn_set,rdn_ne,Heap.set_same,set_ne,Heap.set_set,set_up,set_up2,set_up3,putAt,ceq,List.map_cons,List.map_nil,List.length_cons,List.length_nil,List.length_set,List.cons_append,List.nil_append,List.append_nil,List.replicate,List.size_toArray,List.all_cons,List.all_nil,Bool.and_self,Bool.and_true,List.drop_zero,List.drop_succ_cons,List.take_succ_cons,List.take_zero,List.set_cons_zero,List.set_cons_succ,List.getElem?_cons_zero,List.getElem?_cons_succ,Option.map_some,Option.map_none,ne_eq,not_false_eq_true,not_true_eq_false,gt_iff_lt,ge_iff_le,Int.one_mul,Nat.zero_add,Nat.zero_mul,Bool.not_true,Bool.not_false,Bool.false_eq_true,Bool.and_false,Bool.false_and,Bool.true_and, *]))
  all_goals (refine Fin_mk (Heap.Le.refl _) (K_bool h ?_))
  · rw [decide_eq_decide]; omega
  · simp; omega
/- paintboxlaw09 SampleWraps -/
def M3 : MC :=
  .seq (.reg [⟨(some 6), .mv (.const (.bool false)), none⟩])
  (.seq (.seq (.reg [⟨(some 8), .call 10 [], none⟩,
       ⟨(some 9), .un .not (.tmp 8), none⟩])
    (.cond (.tmp 9)
     (.seq (.reg [⟨(some 6), .mv (.const (.bool false)), none⟩])
      (.ret))
     (.skip)))
   (.seq (.reg [⟨(some 10), .mv (.tmp 0), none⟩,
       ⟨(some 11), .mv (.tmp 1), none⟩,
       ⟨(some 12), .mv (.tmp 2), none⟩,
       ⟨(some 13), .call 11 [(.tmp 10), (.tmp 11), (.tmp 12)], none⟩,
       ⟨(some 7), .mv (.tmp 13), none⟩])
    (.seq (.seq (.reg [⟨(some 14), .mv (.tmp 2), none⟩,
         ⟨(some 15), .bin .lss (.tmp 14) (.const (.int .i64 1)), none⟩,
         ⟨(some 16), .mv (.tmp 15), none⟩,
         ⟨(some 17), .mv (.tmp 2), (some (16, false))⟩,
         ⟨(some 18), .bin .gtr (.tmp 17) (.const (.int .i64 64)), (some (16, false))⟩,
         ⟨(some 19), .pick (.tmp 16) (.const (.bool true)) (.tmp 18), none⟩,
         ⟨(some 20), .mv (.tmp 19), none⟩,
         ⟨(some 21), .mv (.tmp 0), (some (20, false))⟩,
         ⟨(some 22), .bin .lss (.tmp 21) (.const (.int .i64 1)), (some (20, false))⟩,
         ⟨(some 23), .pick (.tmp 20) (.const (.bool true)) (.tmp 22), none⟩,
         ⟨(some 24), .mv (.tmp 23), none⟩,
         ⟨(some 25), .mv (.tmp 0), (some (24, false))⟩,
         ⟨(some 26), .bin .gtr (.tmp 25) (.const (.int .i64 3)), (some (24, false))⟩,
         ⟨(some 27), .pick (.tmp 24) (.const (.bool true)) (.tmp 26), none⟩])
      (.cond (.tmp 27)
       (.seq (.reg [⟨(some 28), .mv (.tmp 7), none⟩,
           ⟨(some 29), .bin .eql (.tmp 28) (.const (.int .i64 0)), none⟩,
           ⟨(some 6), .mv (.tmp 29), none⟩])
        (.ret))
       (.skip)))
     (.seq (.reg [⟨(some 30), .mv (.tmp 1), none⟩,
         ⟨(some 31), .call 12 [(.tmp 30)], none⟩,
         ⟨(some 32), .un .not (.tmp 31), none⟩,
         ⟨(some 33), .mv (.tmp 32), none⟩,
         ⟨(some 34), .mv (.tmp 7), (some (33, false))⟩,
         ⟨(some 35), .mv (.tmp 0), (some (33, false))⟩,
         ⟨(some 36), .mv (.tmp 1), (some (33, false))⟩,
         ⟨(some 37), .mv (.tmp 2), (some (33, false))⟩,
         ⟨(some 38), .call 13 [(.tmp 35), (.tmp 36), (.tmp 37)], (some (33, false))⟩,
         ⟨(some 39), .bin .eql (.tmp 34) (.tmp 38), (some (33, false))⟩,
         ⟨(some 40), .pick (.tmp 33) (.const (.bool true)) (.tmp 39), none⟩,
         ⟨(some 6), .mv (.tmp 40), none⟩])
      (.ret)))))
theorem k3 : fnOk Try.prog 3 = some (M3, [.t 6], 41) := by kernel_rfl

theorem l_SampleWraps (mode i n : Int) (hi : I64 i) (h : K (.bool true) H) : HCalls Try.prog w0 3 [.int .i64 mode, .int .i64 i, .int .i64 n] H K := by
  have hbad : (n < 1 ∨ 64 < n ∨ mode < 1 ∨ 3 < mode) → fwrap mode i n = 0 := fun hb => by
    unfold fwrap; (repeat' split) <;> omega
  have key : ∀ x, x = true → HL.Fin K (.bool x) H := fun x hx => by subst hx; exact Fin_mk (Heap.Le.refl _) h
  clear h
  refine HL.hc k3 999 ?_; unfold M3
  (all_goals (try simp only [Sh,Si,Sl,Bu,Bb,Bd,Bc,Bw,Bn,Int.reduceAdd,Int.reduceSub,Int.reduceMul,Int.reduceTDiv,Int.reduceTMod,Int.reduceMod,Int.reduceDiv,Nat.reduceLT,Nat.reduceEqDiff,decide_true,decide_false,Sa,Sb,Sc,Sd,Se,Sf,Sg,true_and,and_true,and_self,eq_self,b_i64,b_i32,b_u64,b_u32,b_u8,Int.reduceLE,Int.reduceLT,Int.reduceToNat,Int.reduceNeg,Int.reduceEq,Nat.reduceLeDiff,Nat.reducePow,Int.reducePow,Nat.min_def,reduceIte,Nat.reduceSub,Nat.reduceAdd,Nat.reduceMul,KP_same,KP_f,condS_t,condS_f,pick_t,pick_f,gS_tt,gS_ff,gS_tf,gS_ft,gS_u,gP_tt,gP_ff,gP_tf,gP_ft,gP_u,ptrV_eq,slcV_eq,mapV_eq,cells_agg,cells_int,cells_bool,cells_ptr,cells_slice,oc_int,oc_bool,oc_slice,oc_ptr,rd1_set,rd1_ne,rdn_set,rdn_ne,Heap.set_same,set_ne,Heap.set_set,set_up,set_up2,set_up3,putAt,ceq,List.map_cons,List.map_nil,List.length_cons,List.length_nil,List.length_set,List.cons_append,List.nil_append,List.append_nil,List.replicate,List.size_toArray,List.all_cons,List.all_nil,Bool.and_self,Bool.and_true,List.drop_zero,List.drop_succ_cons,List.take_succ_cons,List.take_zero,List.set_cons_zero,List.set_cons_succ,List.getElem?_cons_zero,List.getElem?_cons_succ,Option.map_some,Option.map_none,ne_eq,not_false_eq_true,not_true_eq_false,gt_iff_lt,ge_iff_le,Int.one_mul,Nat.zero_add,Nat.zero_mul,Bool.not_true,Bool.not_false,Bool.false_eq_true,Bool.and_false,Bool.false_and,Bool.true_and, *])); repeat' ((first | (with_reducible refine fun _ : True => ?_) | refine x_Wakes ?_ | refine c_Wrap _ _ _ hi ?_ | refine l_near _ ?_ | refine r_Wrap9 _ _ _ (by omega) (by omega) (by omega) ?_ | (with_reducible refine any_h ?_) | ((first | refine AllocQ_i ?_ | refine AllocO_i ?_); intro bk hb0 hbk; try simp only [set_none'] at hbk) | ((first | refine condS_i ?_ ?_ | refine pick_i ?_ ?_ | refine gS_it ?_ ?_ | refine gS_if ?_ ?_ | refine gP_it ?_ ?_ | refine gP_if ?_ ?_) <;> (intro hc; try simp only [Int.reduceLE,Int.reduceLT,Int.reduceEq,and_self,not_true_eq_false,not_false_eq_true,and_true,true_and,false_and,and_false,true_or,or_true,false_or,or_false,decide_eq_true_eq,decide_eq_false_iff_not,beq_iff_eq,beq_eq_false_iff_ne,bne_iff_ne,ne_eq,gt_iff_lt,ge_iff_le,Bool.not_eq_true,Bool.not_eq_false,Bool.not_eq_true',Bool.not_eq_false',Bool.not_eq_eq_eq_not,Bool.not_true,Bool.not_false] at hc; try (exfalso; omega))) | (refine KP_i (by (repeat' (first | exact Heap.Le.refl _ | (refine Le_fresh (by first | exact (by simp only [*]) | exact (by simp [set_none', *])) ?_) | (refine Heap.Le.trans ?_ (Grow.le (by assumption)))))) ?_) | (with_reducible refine And.intro ?_ ?_)) <;> (try simp only [Sh,Si,Sl,Bu,Bb,Bd,Bc,Bw,Bn,Int.reduceAdd,Int.reduceSub,Int.reduceMul,Int.reduceTDiv,Int.reduceTMod,Int.reduceMod,Int.reduceDiv,Nat.reduceLT,Nat.reduceEqDiff,decide_true,decide_false,Sa,Sb,Sc,Sd,Se,Sf,Sg,true_and,and_true,and_self,eq_self,b_i64,b_i32,b_u64,b_u32,b_u8,Int.reduceLE,Int.reduceLT,Int.reduceToNat,Int.reduceNeg,Int.reduceEq,Nat.reduceLeDiff,Nat.reducePow,Int.reducePow,Nat.min_def,reduceIte,Nat.reduceSub,Nat.reduceAdd,Nat.reduceMul,KP_same,KP_f,condS_t,condS_f,pick_t,pick_f,gS_tt,gS_ff,gS_tf,gS_ft,gS_u,gP_tt,gP_ff,gP_tf,gP_ft,gP_u,ptrV_eq,slcV_eq,mapV_eq,cells_agg,cells_int,cells_bool,cells_ptr,cells_slice,oc_int,oc_bool,oc_slice,oc_ptr,rd1_set,rd1_ne,rdn_set,rdn_ne,Heap.set_same,set_ne,Heap.set_set,set_up,set_up2,set_up3,putAt,ceq,List.map_cons,List.map_nil,List.length_cons,List.length_nil,List.length_set,List.cons_append,List.nil_append,List.append_nil,List.replicate,List.size_toArray,List.all_cons,List.all_nil,Bool.and_self,Bool.and_true,List.drop_zero,List.drop_succ_cons,List.take_succ_cons,List.take_zero,List.set_cons_zero,List.set_cons_succ,List.getElem?_cons_zero,List.getElem?_cons_succ,Option.map_some,Option.map_none,ne_eq,not_false_eq_true,not_true_eq_false,gt_iff_lt,ge_iff_le,Int.one_mul,Nat.zero_add,Nat.zero_mul,Bool.not_true,Bool.not_false,Bool.false_eq_true,Bool.and_false,Bool.false_and,Bool.true_and, *]))
  all_goals exact key _ (by rw [hbad (by omega)]; rfl)
end Go.Proofs.Ytfokghepfcfbjaa
