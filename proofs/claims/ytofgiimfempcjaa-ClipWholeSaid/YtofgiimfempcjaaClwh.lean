/- The statement on what lies within, as a call (layer 21). -/
import Derived.Test.YtofgiimfempcjaaClv
set_option linter.unusedSimpArgs false
set_option linter.unusedVariables false
set_option maxRecDepth 100000
set_option maxHeartbeats 8000000
namespace Go.Proofs.Ytofgiimfempcjaa
open Go Go.HL Go.RowKit Pb
variable {w0 : World} {H : Heap} {K : Value → Heap → Prop}

/- paintboxlaw21 within -/
def M23 : MC :=
  .seq (.reg [⟨(some 1), .box 29 (.tmp 0), none⟩,
     ⟨(some 2), .mv (.const (.bool false)), none⟩])
  (.seq (.seq (.reg [⟨(some 6), .mv (.const (.int .i64 0)), none⟩])
    (.block 0 (.loop (.seq (.reg [⟨(some 7), .bin .lss (.tmp 6) (.const (.int .i64 7)), none⟩])
       (.seq (.cond (.tmp 7)
         (.skip)
         (.exit 0))
        (.seq (.block 1 (.seq (.reg [⟨(some 8), .mv (.tmp 6), none⟩,
              ⟨(some 3), .mv (.tmp 8), none⟩])
           (.seq (.reg [⟨(some 10), .ldn 6 (.tmp 1), none⟩,
               ⟨(some 11), .mv (.tmp 3), none⟩,
               ⟨(some 12), .call 18 [(.tmp 10), (.tmp 11)], none⟩,
               ⟨(some 9), .mv (.tmp 12), none⟩,
               ⟨(some 13), .ext 0 (.tmp 9), none⟩,
               ⟨(some 14), .ext 1 (.tmp 9), none⟩,
               ⟨(some 4), .mv (.tmp 13), none⟩,
               ⟨(some 5), .mv (.tmp 14), none⟩])
            (.seq (.reg [⟨(some 15), .mv (.tmp 5), none⟩,
                ⟨(some 16), .bin .neq (.tmp 15) (.const (.int .i64 0)), none⟩,
                ⟨(some 17), .mv (.tmp 16), none⟩,
                ⟨(some 18), .mv (.tmp 4), (some (17, false))⟩,
                ⟨(some 19), .bin .lss (.tmp 18) (.const (.int .i32 0)), (some (17, false))⟩,
                ⟨(some 20), .pick (.tmp 17) (.const (.bool true)) (.tmp 19), none⟩])
             (.cond (.tmp 20)
              (.seq (.reg [⟨(some 2), .mv (.const (.bool false)), none⟩])
               (.ret))
              (.skip))))))
         (.reg [⟨(some 21), .bin .add (.tmp 6) (.const (.int .i64 1)), none⟩,
            ⟨(some 6), .mv (.tmp 21), none⟩])))))))
   (.seq (.reg [⟨(some 2), .mv (.const (.bool true)), none⟩])
    (.ret)))
theorem k23 : fnOk Try.prog 23 = some (M23, [.t 2], 22) := by kernel_rfl

theorem l_within (A : VtR) (hA : V32 A.p) (h1 : Wth A.toVt → K (.bool true) H) (h2 : ¬ Wth A.toVt → K (.bool false) H) : HCalls Try.prog w0 23 [A.v] H K := by
  have d1 : ∀ (n : Int) (hn : 0 ≤ n ∧ n ≤ 6) (G : Heap) (K : Value → Heap → Prop), K (.tuple #[.int .i32 (dist A.p n), .int .i64 0]) G → HCalls Try.prog w0 18 [A.v, .int .i64 n] G K := fun n hn G K hk => c_Distance A n hA (by rw [if_neg (by omega), if_neg (by omega)]; exact hk)
  unfold VtR.v at *
  refine HL.hc k23 999 ?_; unfold M23
  (all_goals (refine (fun f : True → _ => f trivial) ?_)); repeat' ((first | (with_reducible refine fun _ : True => ?_) | (refine AllocQ_i ?_; intro bk hb0 hbk; (try simp only [set_none'] at hbk); (try (first | have hbn := Grow.none (by assumption) hbk | have hbn := Grow.none (by assumption) hbk.2 | have hbn := Grow.none (by assumption) hbk.2.2 | have hbn := Grow.none (by assumption) hbk.2.2.2 | have hbn := Grow.none (by assumption) hbk.2.2.2.2 | have hbn := Grow.none (by assumption) hbk.2.2.2.2.2)); (try simp only [set_none'] at hbn); (try (first | have hbm := Grow.none (by assumption) hbn | have hbm := Grow.none (by assumption) hbn.2 | have hbm := Grow.none (by assumption) hbn.2.2 | have hbm := Grow.none (by assumption) hbn.2.2.2 | have hbm := Grow.none (by assumption) hbn.2.2.2.2 | have hbm := Grow.none (by assumption) hbn.2.2.2.2.2)); (try simp only [set_none'] at hbm)) | ((first | refine condS_i ?_ ?_ | refine pick_i ?_ ?_ | refine gS_it ?_ ?_ | refine gS_if ?_ ?_ | refine gP_it ?_ ?_ | refine gP_if ?_ ?_) <;> (intro hc; try simp only [Int.reduceLE,Int.reduceLT,Int.reduceEq,and_self,not_true_eq_false,not_false_eq_true,and_true,true_and,false_and,and_false,true_or,or_true,false_or,or_false,decide_eq_true_eq,decide_eq_false_iff_not,beq_iff_eq,beq_eq_false_iff_ne,bne_iff_ne,ne_eq,gt_iff_lt,ge_iff_le,Bool.not_eq_true,Bool.not_eq_false,Bool.not_eq_true',Bool.not_eq_false',Bool.not_eq_eq_eq_not,Bool.not_true,Bool.not_false] at hc)) | (refine KP_i (by (repeat' (first | exact Heap.Le.refl _ | (refine Le_known (by first | (simp only [Heap.set_same, set_ne, ne_eq, not_false_eq_true, *] <;> rfl) | fail) ?_) | (refine Le_fresh (by first | (simp only [*] <;> done) | (simp [set_none', Heap.set_same, set_ne, *] <;> done) | fail) ?_) | (refine Heap.Le.trans ?_ (Grow.le (by assumption)))))) ?_) | (with_reducible refine And.intro ?_ ?_)) <;> (try simp only [Sh,Si,Sl,Bu,Bb,Bd,Bc,Bw,Bn,Int.reduceAdd,Int.reduceSub,Int.reduceMul,Int.reduceTDiv,Int.reduceTMod,Int.reduceMod,Int.reduceDiv,Nat.reduceLT,Nat.reduceEqDiff,decide_true,decide_false,Sa,Sb,Sc,Sd,Se,Sf,Sg,true_and,and_true,and_self,eq_self,b_i64,b_i32,b_u64,b_u32,b_u8,Int.reduceLE,Int.reduceLT,Int.reduceToNat,Int.reduceNeg,Int.reduceEq,Nat.reduceLeDiff,Nat.reducePow,Int.reducePow,Nat.min_def,reduceIte,Nat.reduceSub,Nat.reduceAdd,Nat.reduceMul,KP_same,KP_f,condS_t,condS_f,pick_t,pick_f,gS_tt,gS_ff,gS_tf,gS_ft,gS_u,gP_tt,gP_ff,gP_tf,gP_ft,gP_u,ptrV_eq,slcV_eq,cells_agg,cells_int,cells_bool,cells_ptr,cells_slice,oc_int,oc_bool,oc_slice,oc_ptr,rd1_set,rd1_ne,rdn_set,rdn_ne,Heap.set_same,set_ne,Heap.set_set,set_up,set_up2,set_up3,putAt,ceq,List.map_cons,List.map_nil,List.length_cons,List.length_nil,List.length_set,List.cons_append,List.nil_append,List.append_nil,List.replicate,List.size_toArray,List.all_cons,List.all_nil,Bool.and_self,Bool.and_true,List.drop_zero,List.drop_succ_cons,List.take_succ_cons,List.take_zero,List.set_cons_zero,List.set_cons_succ,List.getElem?_cons_zero,List.getElem?_cons_succ,Option.map_some,Option.map_none,ne_eq,not_false_eq_true,not_true_eq_false,gt_iff_lt,ge_iff_le,Int.one_mul,Nat.zero_add,Nat.zero_mul,Bool.not_true,Bool.not_false,Bool.false_eq_true,Bool.and_false,Bool.false_and,Bool.true_and, *]))
  refine loop_g 7 (fun s : Nat × Value × Value × Value => [(3, s.2.1), (4, s.2.2.1), (5, s.2.2.2), (6, .int .i64 (s.1 : Nat))]) (fun _ => H.set bk ⟨29, A.row⟩) (fun s => s.1 ≤ 7 ∧ ∀ n : Nat, n < s.1 → 0 ≤ dist A.p n) (fun s => 7 - s.1) (0, undef, undef, undef) ⟨Nat.zero_le _, fun n hn => by simp at hn⟩ (Heap.Le.refl _) rfl ?_
  rintro ⟨k, u1, u2, u3⟩ f ⟨hk, hin⟩
  simp only at hk hin
  unfold VtR.row
  rcases Nat.lt_or_ge k 7 with hlt | hge
  · have t0 : (k : Int) < 7 := by omega
    have t6 : IntKind.i64.wrap ((k : Int) + 1) = (k : Int) + 1 := Bw.1 _ (by omega) (by omega)
    have hno : dist A.p (k : Nat) < 0 → ¬ Wth A.toVt := fun hd hh => by
      have := hh k hlt
      omega
    have h2 := fun hd => h2 (hno hd)
    clear hno
    (all_goals (refine (fun f : True → _ => f trivial) ?_)); repeat' ((first | (with_reducible refine fun _ : True => ?_) | refine d1 _ (by omega) _ _ ?_ | (refine AllocQ_i ?_; intro bk hb0 hbk; (try simp only [set_none'] at hbk); (try (first | have hbn := Grow.none (by assumption) hbk | have hbn := Grow.none (by assumption) hbk.2 | have hbn := Grow.none (by assumption) hbk.2.2 | have hbn := Grow.none (by assumption) hbk.2.2.2 | have hbn := Grow.none (by assumption) hbk.2.2.2.2 | have hbn := Grow.none (by assumption) hbk.2.2.2.2.2)); (try simp only [set_none'] at hbn); (try (first | have hbm := Grow.none (by assumption) hbn | have hbm := Grow.none (by assumption) hbn.2 | have hbm := Grow.none (by assumption) hbn.2.2 | have hbm := Grow.none (by assumption) hbn.2.2.2 | have hbm := Grow.none (by assumption) hbn.2.2.2.2 | have hbm := Grow.none (by assumption) hbn.2.2.2.2.2)); (try simp only [set_none'] at hbm)) | ((first | refine condS_i ?_ ?_ | refine pick_i ?_ ?_ | refine gS_it ?_ ?_ | refine gS_if ?_ ?_ | refine gP_it ?_ ?_ | refine gP_if ?_ ?_) <;> (intro hc; try simp only [Int.reduceLE,Int.reduceLT,Int.reduceEq,and_self,not_true_eq_false,not_false_eq_true,and_true,true_and,false_and,and_false,true_or,or_true,false_or,or_false,decide_eq_true_eq,decide_eq_false_iff_not,beq_iff_eq,beq_eq_false_iff_ne,bne_iff_ne,ne_eq,gt_iff_lt,ge_iff_le,Bool.not_eq_true,Bool.not_eq_false,Bool.not_eq_true',Bool.not_eq_false',Bool.not_eq_eq_eq_not,Bool.not_true,Bool.not_false] at hc)) | (refine KP_i (by (repeat' (first | exact Heap.Le.refl _ | (refine Le_known (by first | (simp only [Heap.set_same, set_ne, ne_eq, not_false_eq_true, *] <;> rfl) | fail) ?_) | (refine Le_fresh (by first | (simp only [*] <;> done) | (simp [set_none', Heap.set_same, set_ne, *] <;> done) | fail) ?_) | (refine Heap.Le.trans ?_ (Grow.le (by assumption)))))) ?_) | (with_reducible refine And.intro ?_ ?_)) <;> (try simp only [Sh,Si,Sl,Bu,Bb,Bd,Bc,Bw,Bn,Int.reduceAdd,Int.reduceSub,Int.reduceMul,Int.reduceTDiv,Int.reduceTMod,Int.reduceMod,Int.reduceDiv,Nat.reduceLT,Nat.reduceEqDiff,decide_true,decide_false,Sa,Sb,Sc,Sd,Se,Sf,Sg,true_and,and_true,and_self,eq_self,b_i64,b_i32,b_u64,b_u32,b_u8,Int.reduceLE,Int.reduceLT,Int.reduceToNat,Int.reduceNeg,Int.reduceEq,Nat.reduceLeDiff,Nat.reducePow,Int.reducePow,Nat.min_def,reduceIte,Nat.reduceSub,Nat.reduceAdd,Nat.reduceMul,KP_same,KP_f,condS_t,condS_f,pick_t,pick_f,gS_tt,gS_ff,gS_tf,gS_ft,gS_u,gP_tt,gP_ff,gP_tf,gP_ft,gP_u,ptrV_eq,slcV_eq,cells_agg,cells_int,cells_bool,cells_ptr,cells_slice,oc_int,oc_bool,oc_slice,oc_ptr,rd1_set,rd1_ne,rdn_set,rdn_ne,Heap.set_same,set_ne,Heap.set_set,set_up,set_up2,set_up3,putAt,ceq,List.map_cons,List.map_nil,List.length_cons,List.length_nil,List.length_set,List.cons_append,List.nil_append,List.append_nil,List.replicate,List.size_toArray,List.all_cons,List.all_nil,Bool.and_self,Bool.and_true,List.drop_zero,List.drop_succ_cons,List.take_succ_cons,List.take_zero,List.set_cons_zero,List.set_cons_succ,List.getElem?_cons_zero,List.getElem?_cons_succ,Option.map_some,Option.map_none,ne_eq,not_false_eq_true,not_true_eq_false,gt_iff_lt,ge_iff_le,Int.one_mul,Nat.zero_add,Nat.zero_mul,Bool.not_true,Bool.not_false,Bool.false_eq_true,Bool.and_false,Bool.false_and,Bool.true_and, *]))
    · exact Fin_mk (by (repeat' (first | exact Heap.Le.refl _ | (refine Le_known (by first | (simp only [Heap.set_same, set_ne, ne_eq, not_false_eq_true, *] <;> rfl) | fail) ?_) | (refine Le_fresh (by first | (simp only [*] <;> done) | (simp [set_none', Heap.set_same, set_ne, *] <;> done) | fail) ?_) | (refine Heap.Le.trans ?_ (Grow.le (by assumption)))))) (h2 hc)
    · exact Round_mk (k + 1, _, _, _) ⟨hlt, fun n hn => (Nat.lt_or_ge n k).elim (hin n) (fun h => by rw [show n = k from by simp only at hn; omega]; omega)⟩ (by simp only; omega) (by (repeat' (first | exact Heap.Le.refl _ | (refine Le_known (by first | (simp only [Heap.set_same, set_ne, ne_eq, not_false_eq_true, *] <;> rfl) | fail) ?_) | (refine Le_fresh (by first | (simp only [*] <;> done) | (simp [set_none', Heap.set_same, set_ne, *] <;> done) | fail) ?_) | (refine Heap.Le.trans ?_ (Grow.le (by assumption)))))) rfl rfl
  · obtain rfl : k = 7 := by omega
    have h1 := h1 hin
    clear h2
    (all_goals (refine (fun f : True → _ => f trivial) ?_)); repeat' ((first | (with_reducible refine fun _ : True => ?_) | (refine AllocQ_i ?_; intro bk hb0 hbk; (try simp only [set_none'] at hbk); (try (first | have hbn := Grow.none (by assumption) hbk | have hbn := Grow.none (by assumption) hbk.2 | have hbn := Grow.none (by assumption) hbk.2.2 | have hbn := Grow.none (by assumption) hbk.2.2.2 | have hbn := Grow.none (by assumption) hbk.2.2.2.2 | have hbn := Grow.none (by assumption) hbk.2.2.2.2.2)); (try simp only [set_none'] at hbn); (try (first | have hbm := Grow.none (by assumption) hbn | have hbm := Grow.none (by assumption) hbn.2 | have hbm := Grow.none (by assumption) hbn.2.2 | have hbm := Grow.none (by assumption) hbn.2.2.2 | have hbm := Grow.none (by assumption) hbn.2.2.2.2 | have hbm := Grow.none (by assumption) hbn.2.2.2.2.2)); (try simp only [set_none'] at hbm)) | ((first | refine condS_i ?_ ?_ | refine pick_i ?_ ?_ | refine gS_it ?_ ?_ | refine gS_if ?_ ?_ | refine gP_it ?_ ?_ | refine gP_if ?_ ?_) <;> (intro hc; try simp only [Int.reduceLE,Int.reduceLT,Int.reduceEq,and_self,not_true_eq_false,not_false_eq_true,and_true,true_and,false_and,and_false,true_or,or_true,false_or,or_false,decide_eq_true_eq,decide_eq_false_iff_not,beq_iff_eq,beq_eq_false_iff_ne,bne_iff_ne,ne_eq,gt_iff_lt,ge_iff_le,Bool.not_eq_true,Bool.not_eq_false,Bool.not_eq_true',Bool.not_eq_false',Bool.not_eq_eq_eq_not,Bool.not_true,Bool.not_false] at hc)) | (refine KP_i (by (repeat' (first | exact Heap.Le.refl _ | (refine Le_known (by first | (simp only [Heap.set_same, set_ne, ne_eq, not_false_eq_true, *] <;> rfl) | fail) ?_) | (refine Le_fresh (by first | (simp only [*] <;> done) | (simp [set_none', Heap.set_same, set_ne, *] <;> done) | fail) ?_) | (refine Heap.Le.trans ?_ (Grow.le (by assumption)))))) ?_) | (with_reducible refine And.intro ?_ ?_)) <;> (try simp only [Sh,Si,Sl,Bu,Bb,Bd,Bc,Bw,Bn,Int.reduceAdd,Int.reduceSub,Int.reduceMul,Int.reduceTDiv,Int.reduceTMod,Int.reduceMod,Int.reduceDiv,Nat.reduceLT,Nat.reduceEqDiff,decide_true,decide_false,Sa,Sb,Sc,Sd,Se,Sf,Sg,true_and,and_true,and_self,eq_self,b_i64,b_i32,b_u64,b_u32,b_u8,Int.reduceLE,Int.reduceLT,Int.reduceToNat,Int.reduceNeg,Int.reduceEq,Nat.reduceLeDiff,Nat.reducePow,Int.reducePow,Nat.min_def,reduceIte,Nat.reduceSub,Nat.reduceAdd,Nat.reduceMul,KP_same,KP_f,condS_t,condS_f,pick_t,pick_f,gS_tt,gS_ff,gS_tf,gS_ft,gS_u,gP_tt,gP_ff,gP_tf,gP_ft,gP_u,ptrV_eq,slcV_eq,cells_agg,cells_int,cells_bool,cells_ptr,cells_slice,oc_int,oc_bool,oc_slice,oc_ptr,rd1_set,rd1_ne,rdn_set,rdn_ne,Heap.set_same,set_ne,Heap.set_set,set_up,set_up2,set_up3,putAt,ceq,List.map_cons,List.map_nil,List.length_cons,List.length_nil,List.length_set,List.cons_append,List.nil_append,List.append_nil,List.replicate,List.size_toArray,List.all_cons,List.all_nil,Bool.and_self,Bool.and_true,List.drop_zero,List.drop_succ_cons,List.take_succ_cons,List.take_zero,List.set_cons_zero,List.set_cons_succ,List.getElem?_cons_zero,List.getElem?_cons_succ,Option.map_some,Option.map_none,ne_eq,not_false_eq_true,not_true_eq_false,gt_iff_lt,ge_iff_le,Int.one_mul,Nat.zero_add,Nat.zero_mul,Bool.not_true,Bool.not_false,Bool.false_eq_true,Bool.and_false,Bool.false_and,Bool.true_and, *]))
    exact Fin_mk (by (repeat' (first | exact Heap.Le.refl _ | (refine Le_known (by first | (simp only [Heap.set_same, set_ne, ne_eq, not_false_eq_true, *] <;> rfl) | fail) ?_) | (refine Le_fresh (by first | (simp only [*] <;> done) | (simp [set_none', Heap.set_same, set_ne, *] <;> done) | fail) ?_) | (refine Heap.Le.trans ?_ (Grow.le (by assumption)))))) h1
theorem wth_win {v : Vw} {p : Vt} (h : Wth p) : 1 ≤ p.p 3 := w_pos (h 0 (by omega))
/- paintboxlaw21 ClipWhole -/
def M6 : MC :=
  .seq (.reg [⟨(some 2), .box 24 (.tmp 0), none⟩,
     ⟨(some 3), .box 31 (.tmp 1), none⟩,
     ⟨(some 4), .mv (.const (.bool false)), none⟩])
  (.seq (.seq (.reg [⟨(some 11), .call 10 [], none⟩,
       ⟨(some 12), .un .not (.tmp 11), none⟩])
    (.cond (.tmp 12)
     (.seq (.reg [⟨(some 4), .mv (.const (.bool false)), none⟩])
      (.ret))
     (.skip)))
   (.seq (.reg [⟨(some 14), .ldn 6 (.tmp 2), none⟩,
       ⟨(some 15), .fa 0 (.tmp 3), none⟩,
       ⟨(some 16), .ldn 6 (.tmp 15), none⟩,
       ⟨(some 17), .fa 6 (.tmp 3), none⟩,
       ⟨(some 18), .ldn 6 (.tmp 17), none⟩,
       ⟨(some 19), .fa 12 (.tmp 3), none⟩,
       ⟨(some 20), .ldn 6 (.tmp 19), none⟩,
       ⟨(some 21), .call 11 [(.tmp 14), (.tmp 16), (.tmp 18), (.tmp 20)], none⟩,
       ⟨(some 13), .mv (.tmp 21), none⟩,
       ⟨(some 22), .ext 0 (.tmp 13), none⟩,
       ⟨(some 23), .ext 1 (.tmp 13), none⟩,
       ⟨(some 5), .mv (.tmp 22), none⟩,
       ⟨(some 6), .mv (.tmp 23), none⟩])
    (.seq (.seq (.reg [⟨(some 24), .mv (.tmp 6), none⟩,
         ⟨(some 25), .bin .neq (.tmp 24) (.const (.int .i64 0)), none⟩,
         ⟨(some 26), .mv (.tmp 25), none⟩,
         ⟨(some 27), .fa 0 (.tmp 3), (some (26, false))⟩,
         ⟨(some 28), .ldn 6 (.tmp 27), (some (26, false))⟩,
         ⟨(some 29), .call 23 [(.tmp 28)], (some (26, false))⟩,
         ⟨(some 30), .un .not (.tmp 29), (some (26, false))⟩,
         ⟨(some 31), .pick (.tmp 26) (.const (.bool true)) (.tmp 30), none⟩,
         ⟨(some 32), .mv (.tmp 31), none⟩,
         ⟨(some 33), .fa 6 (.tmp 3), (some (32, false))⟩,
         ⟨(some 34), .ldn 6 (.tmp 33), (some (32, false))⟩,
         ⟨(some 35), .call 23 [(.tmp 34)], (some (32, false))⟩,
         ⟨(some 36), .un .not (.tmp 35), (some (32, false))⟩,
         ⟨(some 37), .pick (.tmp 32) (.const (.bool true)) (.tmp 36), none⟩,
         ⟨(some 38), .mv (.tmp 37), none⟩,
         ⟨(some 39), .fa 12 (.tmp 3), (some (38, false))⟩,
         ⟨(some 40), .ldn 6 (.tmp 39), (some (38, false))⟩,
         ⟨(some 41), .call 23 [(.tmp 40)], (some (38, false))⟩,
         ⟨(some 42), .un .not (.tmp 41), (some (38, false))⟩,
         ⟨(some 43), .pick (.tmp 38) (.const (.bool true)) (.tmp 42), none⟩])
      (.cond (.tmp 43)
       (.seq (.reg [⟨(some 44), .mv (.tmp 6), none⟩,
           ⟨(some 45), .bin .eql (.tmp 44) (.const (.int .i64 0)), none⟩,
           ⟨(some 46), .mv (.tmp 45), none⟩,
           ⟨(some 47), .mv (.tmp 5), (some (46, false))⟩,
           ⟨(some 48), .len (.tmp 47), (some (46, false))⟩,
           ⟨(some 49), .bin .eql (.tmp 48) (.const (.int .i64 0)), (some (46, false))⟩,
           ⟨(some 50), .pick (.tmp 46) (.const (.bool true)) (.tmp 49), none⟩,
           ⟨(some 4), .mv (.tmp 50), none⟩])
        (.ret))
       (.skip)))
     (.seq (.seq (.reg [⟨(some 51), .mv (.tmp 5), none⟩,
          ⟨(some 52), .len (.tmp 51), none⟩,
          ⟨(some 53), .bin .neq (.tmp 52) (.const (.int .i64 1)), none⟩])
       (.cond (.tmp 53)
        (.seq (.reg [⟨(some 4), .mv (.const (.bool false)), none⟩])
         (.ret))
        (.skip)))
      (.seq (.seq (.reg [⟨(some 54), .fa 0 (.tmp 3), none⟩,
           ⟨(some 55), .ldn 6 (.tmp 54), none⟩,
           ⟨(some 56), .fa 6 (.tmp 3), none⟩,
           ⟨(some 57), .ldn 6 (.tmp 56), none⟩,
           ⟨(some 58), .fa 12 (.tmp 3), none⟩,
           ⟨(some 59), .ldn 6 (.tmp 58), none⟩,
           ⟨(some 60), .bslice 29 3 [(.int .i32 0), (.int .i32 0), (.int .i32 0), (.int .i32 0), (.int .i32 0), (.slice none 0 0), (.int .i32 0), (.int .i32 0), (.int .i32 0), (.int .i32 0), (.int .i32 0), (.slice none 0 0), (.int .i32 0), (.int .i32 0), (.int .i32 0), (.int .i32 0), (.int .i32 0), (.slice none 0 0)] [(0, 6, (.tmp 55)), (6, 6, (.tmp 57)), (12, 6, (.tmp 59))], none⟩,
           ⟨(some 61), .len (.tmp 60), none⟩,
           ⟨(some 62), .mv (.const (.int .i64 0)), none⟩])
        (.block 0 (.loop (.seq (.reg [⟨(some 63), .bin .lss (.tmp 62) (.tmp 61), none⟩])
           (.seq (.cond (.tmp 63)
             (.skip)
             (.exit 0))
            (.seq (.block 1 (.seq (.reg [⟨(some 64), .mv (.tmp 62), none⟩,
                  ⟨(some 65), .is 6 (.tmp 60) (.tmp 62), none⟩,
                  ⟨(some 66), .ldn 6 (.tmp 65), none⟩,
                  ⟨(some 8), .alloc 29 [(.int .i32 0), (.int .i32 0), (.int .i32 0), (.int .i32 0), (.int .i32 0), (.slice none 0 0)], none⟩,
                  ⟨(some 7), .mv (.tmp 64), none⟩,
                  ⟨none, .stn 6 (.tmp 8) (.tmp 66), none⟩])
               (.seq (.reg [⟨(some 68), .ldn 6 (.tmp 2), none⟩,
                   ⟨(some 69), .ldn 6 (.tmp 8), none⟩,
                   ⟨(some 70), .call 17 [(.tmp 68), (.tmp 69)], none⟩,
                   ⟨(some 67), .mv (.tmp 70), none⟩,
                   ⟨(some 71), .ext 0 (.tmp 67), none⟩,
                   ⟨(some 72), .ext 1 (.tmp 67), none⟩,
                   ⟨(some 9), .alloc 44 [(.int .i64 0), (.int .i64 0), (.int .i32 0), (.int .i32 0), (.int .i32 0), (.slice none 0 0)], none⟩,
                   ⟨none, .stn 6 (.tmp 9) (.tmp 71), none⟩,
                   ⟨(some 10), .mv (.tmp 72), none⟩])
                (.seq (.any [(false, true, ⟨(some 73), .mv (.tmp 10), none⟩),
                    (false, true, ⟨(some 74), .bin .neq (.tmp 73) (.const (.int .i64 0)), none⟩),
                    (false, true, ⟨(some 75), .mv (.tmp 74), none⟩),
                    (true, true, ⟨(some 76), .fa 0 (.tmp 9), (some (75, false))⟩),
                    (true, true, ⟨(some 77), .ld1 (.tmp 76), (some (75, false))⟩),
                    (true, true, ⟨(some 78), .mv (.tmp 5), (some (75, false))⟩),
                    (true, true, ⟨(some 79), .mv (.tmp 7), (some (75, false))⟩),
                    (false, true, ⟨(some 80), .is 18 (.tmp 78) (.const (.int .i64 0)), (some (75, false))⟩),
                    (false, true, ⟨(some 81), .ia 3 6 (.tmp 80) (.tmp 79), (some (75, false))⟩),
                    (false, true, ⟨(some 82), .fa 0 (.tmp 81), (some (75, false))⟩),
                    (false, true, ⟨(some 83), .ld1 (.tmp 82), (some (75, false))⟩),
                    (false, true, ⟨(some 84), .bin .neq (.tmp 77) (.tmp 83), (some (75, false))⟩),
                    (false, true, ⟨(some 85), .pick (.tmp 75) (.const (.bool true)) (.tmp 84), none⟩),
                    (false, true, ⟨(some 86), .mv (.tmp 85), none⟩),
                    (true, true, ⟨(some 87), .fa 1 (.tmp 9), (some (86, false))⟩),
                    (true, true, ⟨(some 88), .ld1 (.tmp 87), (some (86, false))⟩),
                    (true, true, ⟨(some 89), .mv (.tmp 5), (some (86, false))⟩),
                    (true, true, ⟨(some 90), .mv (.tmp 7), (some (86, false))⟩),
                    (false, true, ⟨(some 91), .is 18 (.tmp 89) (.const (.int .i64 0)), (some (86, false))⟩),
                    (false, true, ⟨(some 92), .ia 3 6 (.tmp 91) (.tmp 90), (some (86, false))⟩),
                    (false, true, ⟨(some 93), .fa 1 (.tmp 92), (some (86, false))⟩),
                    (false, true, ⟨(some 94), .ld1 (.tmp 93), (some (86, false))⟩),
                    (false, true, ⟨(some 95), .bin .neq (.tmp 88) (.tmp 94), (some (86, false))⟩),
                    (false, true, ⟨(some 96), .pick (.tmp 86) (.const (.bool true)) (.tmp 95), none⟩),
                    (false, true, ⟨(some 97), .mv (.tmp 96), none⟩),
                    (true, true, ⟨(some 98), .fa 2 (.tmp 9), (some (97, false))⟩),
                    (true, true, ⟨(some 99), .ld1 (.tmp 98), (some (97, false))⟩),
                    (true, true, ⟨(some 100), .mv (.tmp 5), (some (97, false))⟩),
                    (true, true, ⟨(some 101), .mv (.tmp 7), (some (97, false))⟩),
                    (false, true, ⟨(some 102), .is 18 (.tmp 100) (.const (.int .i64 0)), (some (97, false))⟩),
                    (false, true, ⟨(some 103), .ia 3 6 (.tmp 102) (.tmp 101), (some (97, false))⟩),
                    (false, true, ⟨(some 104), .fa 2 (.tmp 103), (some (97, false))⟩),
                    (false, true, ⟨(some 105), .ld1 (.tmp 104), (some (97, false))⟩),
                    (false, true, ⟨(some 106), .bin .neq (.tmp 99) (.tmp 105), (some (97, false))⟩),
                    (false, true, ⟨(some 107), .pick (.tmp 97) (.const (.bool true)) (.tmp 106), none⟩),
                    (false, true, ⟨(some 108), .mv (.tmp 107), none⟩),
                    (true, true, ⟨(some 109), .fa 3 (.tmp 9), (some (108, false))⟩),
                    (true, true, ⟨(some 110), .ld1 (.tmp 109), (some (108, false))⟩),
                    (false, true, ⟨(some 111), .fa 0 (.tmp 8), (some (108, false))⟩),
                    (false, true, ⟨(some 112), .ia 4 1 (.tmp 111) (.const (.int .i64 3)), (some (108, false))⟩),
                    (false, true, ⟨(some 113), .ld1 (.tmp 112), (some (108, false))⟩),
                    (false, true, ⟨(some 114), .bin .neq (.tmp 110) (.tmp 113), (some (108, false))⟩),
                    (false, true, ⟨(some 115), .pick (.tmp 108) (.const (.bool true)) (.tmp 114), none⟩),
                    (false, true, ⟨(some 116), .mv (.tmp 115), none⟩),
                    (true, true, ⟨(some 117), .fa 5 (.tmp 9), (some (116, false))⟩),
                    (true, true, ⟨(some 118), .ld1 (.tmp 117), (some (116, false))⟩),
                    (true, true, ⟨(some 119), .len (.tmp 118), (some (116, false))⟩),
                    (false, true, ⟨(some 120), .fa 5 (.tmp 8), (some (116, false))⟩),
                    (false, true, ⟨(some 121), .ld1 (.tmp 120), (some (116, false))⟩),
                    (false, true, ⟨(some 122), .len (.tmp 121), (some (116, false))⟩),
                    (false, false, ⟨(some 123), .bin .neq (.tmp 119) (.tmp 122), (some (116, false))⟩),
                    (false, false, ⟨(some 124), .pick (.tmp 116) (.const (.bool true)) (.tmp 123), none⟩)])
                 (.cond (.tmp 124)
                  (.seq (.reg [⟨(some 4), .mv (.const (.bool false)), none⟩])
                   (.ret))
                  (.skip))))))
             (.reg [⟨(some 125), .bin .add (.tmp 62) (.const (.int .i64 1)), none⟩,
                ⟨(some 62), .mv (.tmp 125), none⟩])))))))
       (.seq (.reg [⟨(some 4), .mv (.const (.bool true)), none⟩])
        (.ret)))))))
theorem k6 : fnOk Try.prog 6 = some (M6, [.t 4], 126) := by kernel_rfl

theorem l_ClipWhole_a (v : Vw) (A B C : VtR) (hvi : I64 v.x ∧ I64 v.y ∧ I64 v.w ∧ I64 v.h) (hA : VtOk w0 H A) (hB : VtOk w0 H B) (hC : VtOk w0 H C) (hg : v.right ∧ Al [A.toVt, B.toVt, C.toVt]) (hw : Wth A.toVt ∧ Wth B.toVt ∧ Wth C.toVt) (h : K (.bool true) H) : HCalls Try.prog w0 6 [v.v, threeV A B C] H K := by
  have cA : ∀ (G : Heap) (K : Value → Heap → Prop), K (.bool true) G → HCalls Try.prog w0 10 [] G K := fun G K hk => l_wakes hk
  obtain ⟨w1, w2, w3⟩ := hw
  have wA : ∀ (G : Heap) (K : Value → Heap → Prop), K (.bool true) G → HCalls Try.prog w0 23 [A.v] G K := fun G K hk => l_within A hA.p (fun _ => hk) (fun hh => (hh w1).elim)
  have wB : ∀ (G : Heap) (K : Value → Heap → Prop), K (.bool true) G → HCalls Try.prog w0 23 [B.v] G K := fun G K hk => l_within B hB.p (fun _ => hk) (fun hh => (hh w2).elim)
  have wC : ∀ (G : Heap) (K : Value → Heap → Prop), K (.bool true) G → HCalls Try.prog w0 23 [C.v] G K := fun G K hk => l_within C hC.p (fun _ => hk) (fun hh => (hh w3).elim)
  have cT : ∀ (G : Heap) (K : Value → Heap → Prop), Grow w0 H G → (∀ a' cap' (t : WnR × WnR × WnR) H', triC t = (winA v A.toVt, winA v B.toVt, winA v C.toVt) → RO triT w0 H' a' cap' [t] → Grow w0 G H' → K (.tuple #[.slice a' 1 cap', .int .i64 0]) H') → HCalls Try.prog w0 11 [v.v, A.v, B.v, C.v] G K := fun G K g hk => c_Triangle v A B C hvi (hA.grow g) (hB.grow g) (hC.grow g) (fun _ a' cap' ts H' e hR hgr => by
    rw [triA_whole v w1 w2 w3] at e
    obtain ⟨t, rfl⟩ : ∃ t, ts = [t] := by
      cases ts with
      | nil => simp at e
      | cons t r => cases r with
        | nil => exact ⟨t, rfl⟩
        | cons u r => simp at e
    exact hk a' cap' t H' (by simpa using e) hR hgr) (fun hh => (hh hg).elim)
  have cW : ∀ (X : VtR), (Wth X.toVt ∧ X.l.length ≤ 4 ∧ VtOk w0 H X) → ∀ (G : Heap) (K : Value → Heap → Prop), Grow w0 H G → (∀ a' cap' H', Grow w0 G H' → K (.tuple #[(WnR.mk (winA v X.toVt) a' cap').v, .int .i64 0]) H') → HCalls Try.prog w0 17 [v.v, X.v] G K := fun X hX G K g hk => c_Window v X hvi (hX.2.2.grow g) (fun _ a' cap' H' _ hgr => hk a' cap' H' hgr) (fun hh => (hh ⟨hg.1, wth_win (v := v) hX.1, hX.2.1⟩).elim)
  have cWA := cW A ⟨w1, (hg.2 A.toVt (by simp) A.toVt (by simp)).2, hA⟩
  have cWB := cW B ⟨w2, (hg.2 B.toVt (by simp) A.toVt (by simp)).2, hB⟩
  have cWC := cW C ⟨w3, (hg.2 C.toVt (by simp) A.toVt (by simp)).2, hC⟩
  clear cW hA hB hC hg w1 w2 w3
  unfold VtR.v at wA wB wC
  unfold WnR.v at cWA cWB cWC
  unfold threeV VtR.v Vw.v at *
  replace cA : Keep _ := cA
  replace wA : Keep _ := wA
  replace wB : Keep _ := wB
  replace wC : Keep _ := wC
  replace cWA : Keep _ := cWA
  replace cWB : Keep _ := cWB
  replace cWC : Keep _ := cWC
  replace cT : Keep _ := cT
  refine HL.hc k6 2000 ?_; unfold M6
  (all_goals (refine (fun f : True → _ => f trivial) ?_)); repeat' ((first | (with_reducible refine fun _ : True => ?_) | refine cA _ _ ?_ | refine wA _ _ ?_ | refine wB _ _ ?_ | refine wC _ _ ?_ | refine cT _ _ (by (repeat' (first | exact Grow.refl _ | assumption | (refine Grow_known (by first | (simp only [Heap.set_same, set_ne, ne_eq, not_false_eq_true, *] <;> rfl) | fail) ?_) | (refine Grow.set ?_ (by assumption) (by first | (simp only [*] <;> done) | (simp [set_none', Heap.set_same, set_ne, *] <;> done) | fail)) | (refine Grow.trans ?_ (by assumption))))) (fun a2 c2 t G2 ht hR hg => ?_)  | (refine AllocQ_i ?_; intro bk hb0 hbk; (try simp only [set_none'] at hbk); (try (first | have hbn := Grow.none (by assumption) hbk | have hbn := Grow.none (by assumption) hbk.2 | have hbn := Grow.none (by assumption) hbk.2.2 | have hbn := Grow.none (by assumption) hbk.2.2.2 | have hbn := Grow.none (by assumption) hbk.2.2.2.2 | have hbn := Grow.none (by assumption) hbk.2.2.2.2.2)); (try simp only [set_none'] at hbn); (try (first | have hbm := Grow.none (by assumption) hbn | have hbm := Grow.none (by assumption) hbn.2 | have hbm := Grow.none (by assumption) hbn.2.2 | have hbm := Grow.none (by assumption) hbn.2.2.2 | have hbm := Grow.none (by assumption) hbn.2.2.2.2 | have hbm := Grow.none (by assumption) hbn.2.2.2.2.2)); (try simp only [set_none'] at hbm)) | ((first | refine condS_i ?_ ?_ | refine pick_i ?_ ?_ | refine gS_it ?_ ?_ | refine gS_if ?_ ?_ | refine gP_it ?_ ?_ | refine gP_if ?_ ?_) <;> (intro hc; try simp only [Int.reduceLE,Int.reduceLT,Int.reduceEq,and_self,not_true_eq_false,not_false_eq_true,and_true,true_and,false_and,and_false,true_or,or_true,false_or,or_false,decide_eq_true_eq,decide_eq_false_iff_not,beq_iff_eq,beq_eq_false_iff_ne,bne_iff_ne,ne_eq,gt_iff_lt,ge_iff_le,Bool.not_eq_true,Bool.not_eq_false,Bool.not_eq_true',Bool.not_eq_false',Bool.not_eq_eq_eq_not,Bool.not_true,Bool.not_false] at hc)) | (refine KP_i (by (repeat' (first | exact Heap.Le.refl _ | (refine Le_known (by first | (simp only [Heap.set_same, set_ne, ne_eq, not_false_eq_true, *] <;> rfl) | fail) ?_) | (refine Le_fresh (by first | (simp only [*] <;> done) | (simp [set_none', Heap.set_same, set_ne, *] <;> done) | fail) ?_) | (refine Heap.Le.trans ?_ (Grow.le (by assumption)))))) ?_) | (with_reducible refine And.intro ?_ ?_)) <;> (try simp only [Sh,Si,Sl,Bu,Bb,Bd,Bc,Bw,Bn,Int.reduceAdd,Int.reduceSub,Int.reduceMul,Int.reduceTDiv,Int.reduceTMod,Int.reduceMod,Int.reduceDiv,Nat.reduceLT,Nat.reduceEqDiff,decide_true,decide_false,Sa,Sb,Sc,Sd,Se,Sf,Sg,true_and,and_true,and_self,eq_self,b_i64,b_i32,b_u64,b_u32,b_u8,Int.reduceLE,Int.reduceLT,Int.reduceToNat,Int.reduceNeg,Int.reduceEq,Nat.reduceLeDiff,Nat.reducePow,Int.reducePow,Nat.min_def,reduceIte,Nat.reduceSub,Nat.reduceAdd,Nat.reduceMul,KP_same,KP_f,condS_t,condS_f,pick_t,pick_f,gS_tt,gS_ff,gS_tf,gS_ft,gS_u,gP_tt,gP_ff,gP_tf,gP_ft,gP_u,ptrV_eq,slcV_eq,cells_agg,cells_int,cells_bool,cells_ptr,cells_slice,oc_int,oc_bool,oc_slice,oc_ptr,rd1_set,rd1_ne,rdn_set,rdn_ne,Heap.set_same,set_ne,Heap.set_set,set_up,set_up2,set_up3,putAt,ceq,List.map_cons,List.map_nil,List.length_cons,List.length_nil,List.length_set,List.cons_append,List.nil_append,List.append_nil,List.replicate,List.size_toArray,List.all_cons,List.all_nil,Bool.and_self,Bool.and_true,List.drop_zero,List.drop_succ_cons,List.take_succ_cons,List.take_zero,List.set_cons_zero,List.set_cons_succ,List.getElem?_cons_zero,List.getElem?_cons_succ,Option.map_some,Option.map_none,ne_eq,not_false_eq_true,not_true_eq_false,gt_iff_lt,ge_iff_le,Int.one_mul,Nat.zero_add,Nat.zero_mul,Bool.not_true,Bool.not_false,Bool.false_eq_true,Bool.and_false,Bool.false_and,Bool.true_and, *]))
  rename_i b2 p2 q2
  obtain ⟨b3, rfl⟩ : ∃ q, q = bk := ⟨bk, rfl⟩
  have q3 := hbk
  have m2 := hg.some (b := b2) (by simp only [Heap.set_same, set_ne, ne_eq, not_false_eq_true, *] <;> rfl)
  have m3 := hg.some (b := b3) (by simp only [Heap.set_same, set_ne, ne_eq, not_false_eq_true, *] <;> rfl)
  have gH : Grow w0 H G2 := Grow.trans (by (repeat' (first | exact Grow.refl _ | assumption | (refine Grow_known (by first | (simp only [Heap.set_same, set_ne, ne_eq, not_false_eq_true, *] <;> rfl) | fail) ?_) | (refine Grow.set ?_ (by assumption) (by first | (simp only [*] <;> done) | (simp [set_none', Heap.set_same, set_ne, *] <;> done) | fail)) | (refine Grow.trans ?_ (by assumption))))) hg
  obtain ⟨x, y, z⟩ := t
  obtain ⟨b, o, rfl, r1, -⟩ := hR.row (k := 0) (y := (x, y, z)) rfl
  replace r1 : rdn w0 G2 b o 18 = some (x.row ++ y.row ++ z.row) := by simpa using r1
  unfold triC at ht
  simp only [Prod.mk.injEq] at ht
  obtain ⟨ex, ey, ez⟩ := ht
  clear cT hg cA hR
  rw [root2 q3.1.2 m2 m3]
  (all_goals (refine (fun f : True → _ => f trivial) ?_)); repeat' ((first | (with_reducible refine fun _ : True => ?_) | refine wA _ _ ?_ | refine wB _ _ ?_ | refine wC _ _ ?_ | (refine AllocQ_i ?_; intro bk hb0 hbk; (try simp only [set_none'] at hbk); (try (first | have hbn := Grow.none (by assumption) hbk | have hbn := Grow.none (by assumption) hbk.2 | have hbn := Grow.none (by assumption) hbk.2.2 | have hbn := Grow.none (by assumption) hbk.2.2.2 | have hbn := Grow.none (by assumption) hbk.2.2.2.2 | have hbn := Grow.none (by assumption) hbk.2.2.2.2.2)); (try simp only [set_none'] at hbn); (try (first | have hbm := Grow.none (by assumption) hbn | have hbm := Grow.none (by assumption) hbn.2 | have hbm := Grow.none (by assumption) hbn.2.2 | have hbm := Grow.none (by assumption) hbn.2.2.2 | have hbm := Grow.none (by assumption) hbn.2.2.2.2 | have hbm := Grow.none (by assumption) hbn.2.2.2.2.2)); (try simp only [set_none'] at hbm)) | ((first | refine condS_i ?_ ?_ | refine pick_i ?_ ?_ | refine gS_it ?_ ?_ | refine gS_if ?_ ?_ | refine gP_it ?_ ?_ | refine gP_if ?_ ?_) <;> (intro hc; try simp only [Int.reduceLE,Int.reduceLT,Int.reduceEq,and_self,not_true_eq_false,not_false_eq_true,and_true,true_and,false_and,and_false,true_or,or_true,false_or,or_false,decide_eq_true_eq,decide_eq_false_iff_not,beq_iff_eq,beq_eq_false_iff_ne,bne_iff_ne,ne_eq,gt_iff_lt,ge_iff_le,Bool.not_eq_true,Bool.not_eq_false,Bool.not_eq_true',Bool.not_eq_false',Bool.not_eq_eq_eq_not,Bool.not_true,Bool.not_false] at hc)) | (refine KP_i (by (repeat' (first | exact Heap.Le.refl _ | (refine Le_known (by first | (simp only [Heap.set_same, set_ne, ne_eq, not_false_eq_true, *] <;> rfl) | fail) ?_) | (refine Le_fresh (by first | (simp only [*] <;> done) | (simp [set_none', Heap.set_same, set_ne, *] <;> done) | fail) ?_) | (refine Heap.Le.trans ?_ (Grow.le (by assumption)))))) ?_) | (with_reducible refine And.intro ?_ ?_)) <;> (try simp only [Sh,Si,Sl,Bu,Bb,Bd,Bc,Bw,Bn,Int.reduceAdd,Int.reduceSub,Int.reduceMul,Int.reduceTDiv,Int.reduceTMod,Int.reduceMod,Int.reduceDiv,Nat.reduceLT,Nat.reduceEqDiff,decide_true,decide_false,Sa,Sb,Sc,Sd,Se,Sf,Sg,true_and,and_true,and_self,eq_self,b_i64,b_i32,b_u64,b_u32,b_u8,Int.reduceLE,Int.reduceLT,Int.reduceToNat,Int.reduceNeg,Int.reduceEq,Nat.reduceLeDiff,Nat.reducePow,Int.reducePow,Nat.min_def,reduceIte,Nat.reduceSub,Nat.reduceAdd,Nat.reduceMul,KP_same,KP_f,condS_t,condS_f,pick_t,pick_f,gS_tt,gS_ff,gS_tf,gS_ft,gS_u,gP_tt,gP_ff,gP_tf,gP_ft,gP_u,ptrV_eq,slcV_eq,cells_agg,cells_int,cells_bool,cells_ptr,cells_slice,oc_int,oc_bool,oc_slice,oc_ptr,rd1_set,rd1_ne,rdn_set,rdn_ne,Heap.set_same,set_ne,Heap.set_set,set_up,set_up2,set_up3,putAt,ceq,List.map_cons,List.map_nil,List.length_cons,List.length_nil,List.length_set,List.cons_append,List.nil_append,List.append_nil,List.replicate,List.size_toArray,List.all_cons,List.all_nil,Bool.and_self,Bool.and_true,List.drop_zero,List.drop_succ_cons,List.take_succ_cons,List.take_zero,List.set_cons_zero,List.set_cons_succ,List.getElem?_cons_zero,List.getElem?_cons_succ,Option.map_some,Option.map_none,ne_eq,not_false_eq_true,not_true_eq_false,gt_iff_lt,ge_iff_le,Int.one_mul,Nat.zero_add,Nat.zero_mul,Bool.not_true,Bool.not_false,Bool.false_eq_true,Bool.and_false,Bool.false_and,Bool.true_and, *]))
  obtain ⟨bq, rfl⟩ : ∃ q, q = bk := ⟨bk, rfl⟩
  have qq := hbk
  unfold WnR.row at r1
  have wA1 : (winA v A.toVt).w = A.p 3 := rfl
  have wA2 : (winA v A.toVt).l.length = A.l.length := rfl
  have wB1 : (winA v B.toVt).w = B.p 3 := rfl
  have wB2 : (winA v B.toVt).l.length = B.l.length := rfl
  have wC1 : (winA v C.toVt).w = C.p 3 := rfl
  have wC2 : (winA v C.toVt).l.length = C.l.length := rfl
  (all_goals (refine (fun f : True → _ => f trivial) ?_)); repeat' ((first | (with_reducible refine fun _ : True => ?_) | refine cWA _ _ (Grow.trans gH (by (repeat' (first | exact Grow.refl _ | assumption | (refine Grow_known (by first | (simp only [Heap.set_same, set_ne, ne_eq, not_false_eq_true, *] <;> rfl) | fail) ?_) | (refine Grow.set ?_ (by assumption) (by first | (simp only [*] <;> done) | (simp [set_none', Heap.set_same, set_ne, *] <;> done) | fail)) | (refine Grow.trans ?_ (by assumption)))))) (fun a0 c0 G3 hg => ?_)  | (refine AllocQ_i ?_; intro bk hb0 hbk; (try simp only [set_none'] at hbk); (try (first | have hbn := Grow.none (by assumption) hbk | have hbn := Grow.none (by assumption) hbk.2 | have hbn := Grow.none (by assumption) hbk.2.2 | have hbn := Grow.none (by assumption) hbk.2.2.2 | have hbn := Grow.none (by assumption) hbk.2.2.2.2 | have hbn := Grow.none (by assumption) hbk.2.2.2.2.2)); (try simp only [set_none'] at hbn); (try (first | have hbm := Grow.none (by assumption) hbn | have hbm := Grow.none (by assumption) hbn.2 | have hbm := Grow.none (by assumption) hbn.2.2 | have hbm := Grow.none (by assumption) hbn.2.2.2 | have hbm := Grow.none (by assumption) hbn.2.2.2.2 | have hbm := Grow.none (by assumption) hbn.2.2.2.2.2)); (try simp only [set_none'] at hbm)) | ((first | refine condS_i ?_ ?_ | refine pick_i ?_ ?_ | refine gS_it ?_ ?_ | refine gS_if ?_ ?_ | refine gP_it ?_ ?_ | refine gP_if ?_ ?_) <;> (intro hc; try simp only [Int.reduceLE,Int.reduceLT,Int.reduceEq,and_self,not_true_eq_false,not_false_eq_true,and_true,true_and,false_and,and_false,true_or,or_true,false_or,or_false,decide_eq_true_eq,decide_eq_false_iff_not,beq_iff_eq,beq_eq_false_iff_ne,bne_iff_ne,ne_eq,gt_iff_lt,ge_iff_le,Bool.not_eq_true,Bool.not_eq_false,Bool.not_eq_true',Bool.not_eq_false',Bool.not_eq_eq_eq_not,Bool.not_true,Bool.not_false] at hc)) | (refine KP_i (by (repeat' (first | exact Heap.Le.refl _ | (refine Le_known (by first | (simp only [Heap.set_same, set_ne, ne_eq, not_false_eq_true, *] <;> rfl) | fail) ?_) | (refine Le_fresh (by first | (simp only [*] <;> done) | (simp [set_none', Heap.set_same, set_ne, *] <;> done) | fail) ?_) | (refine Heap.Le.trans ?_ (Grow.le (by assumption)))))) ?_) | (with_reducible refine loop_u ?_) | (with_reducible refine And.intro ?_ ?_)) <;> (try simp only [Sh,Si,Sl,Bu,Bb,Bd,Bc,Bw,Bn,Int.reduceAdd,Int.reduceSub,Int.reduceMul,Int.reduceTDiv,Int.reduceTMod,Int.reduceMod,Int.reduceDiv,Nat.reduceLT,Nat.reduceEqDiff,decide_true,decide_false,Sa,Sb,Sc,Sd,Se,Sf,Sg,true_and,and_true,and_self,eq_self,b_i64,b_i32,b_u64,b_u32,b_u8,Int.reduceLE,Int.reduceLT,Int.reduceToNat,Int.reduceNeg,Int.reduceEq,Nat.reduceLeDiff,Nat.reducePow,Int.reducePow,Nat.min_def,reduceIte,Nat.reduceSub,Nat.reduceAdd,Nat.reduceMul,KP_same,KP_f,condS_t,condS_f,pick_t,pick_f,gS_tt,gS_ff,gS_tf,gS_ft,gS_u,gP_tt,gP_ff,gP_tf,gP_ft,gP_u,ptrV_eq,slcV_eq,cells_agg,cells_int,cells_bool,cells_ptr,cells_slice,oc_int,oc_bool,oc_slice,oc_ptr,rd1_set,rd1_ne,rdn_set,rdn_ne,Heap.set_same,set_ne,Heap.set_set,set_up,set_up2,set_up3,putAt,ceq,List.map_cons,List.map_nil,List.length_cons,List.length_nil,List.length_set,List.cons_append,List.nil_append,List.append_nil,List.replicate,List.size_toArray,List.all_cons,List.all_nil,Bool.and_self,Bool.and_true,List.drop_zero,List.drop_succ_cons,List.take_succ_cons,List.take_zero,List.set_cons_zero,List.set_cons_succ,List.getElem?_cons_zero,List.getElem?_cons_succ,Option.map_some,Option.map_none,ne_eq,not_false_eq_true,not_true_eq_false,gt_iff_lt,ge_iff_le,Int.one_mul,Nat.zero_add,Nat.zero_mul,Bool.not_true,Bool.not_false,Bool.false_eq_true,Bool.and_false,Bool.false_and,Bool.true_and, *]))
  rename_i b8 p8 q8 q8n
  have m2 := hg.some (b := b2) (by simp only [Heap.set_same, set_ne, ne_eq, not_false_eq_true, *] <;> rfl)
  have mq := hg.some (b := bq) (by simp only [Heap.set_same, set_ne, ne_eq, not_false_eq_true, *] <;> rfl)
  have m8 := hg.some (b := b8) (by simp only [Heap.set_same, set_ne, ne_eq, not_false_eq_true, *] <;> rfl)
  have gg := Grow.trans (H := G2) (by (repeat' (first | exact Grow.refl _ | assumption | (refine Grow_known (by first | (simp only [Heap.set_same, set_ne, ne_eq, not_false_eq_true, *] <;> rfl) | fail) ?_) | (refine Grow.set ?_ (by assumption) (by first | (simp only [*] <;> done) | (simp [set_none', Heap.set_same, set_ne, *] <;> done) | fail)) | (refine Grow.trans ?_ (by assumption))))) hg
  replace gH := gH.trans gg
  replace r1 := gg.rdn r1 (by decide)
  have hfb : ∀ c, w0.heap.size ≤ c → G3 c = none → c ≠ b := fun c e1 e2 => rdn_fresh r1 (by decide) e1 e2
  have s0 := (rd1_of_rdn r1 (i := 0) (by omega)).1
  have s1 := (rd1_of_rdn r1 (i := 1) (by omega)).1
  have s2 := (rd1_of_rdn r1 (i := 2) (by omega)).1
  simp at s0 s1 s2
  have s1' : rd1 w0 G3 b (o + 0 + 1) = _ := s1
  have s2' : rd1 w0 G3 b (o + 0 + 2) = _ := s2
  clear hg gg
  have f2 : rdn w0 G3 b2 0 6 = some [.int .i64 v.x, .int .i64 v.y, .int .i64 v.w, .int .i64 v.h, .int .i32 v.n, .int .i32 v.f] := by unfold rdn; rw [m2]; rfl
  have fq1 : rdn w0 G3 bq 6 6 = some B.row := by unfold rdn; rw [mq]; rfl
  have fq2 : rdn w0 G3 bq 12 6 = some C.row := by unfold rdn; rw [mq]; rfl
  have f8a : rd1 w0 G3 b8 3 = some (.int .i32 (A.p 3)) := by unfold rd1; rw [m8]; rfl
  have f8b : rd1 w0 G3 b8 5 = some (.slice A.a A.l.length A.cap) := by unfold rd1; rw [m8]; rfl
  have h2 : ∀ c, G3 c = none → c ≠ b2 := fun c e1 e2 => by subst e2; rw [m2] at e1; cases e1
  have hq : ∀ c, G3 c = none → c ≠ bq := fun c e1 e2 => by subst e2; rw [mq] at e1; cases e1
  have h8 : ∀ c, G3 c = none → c ≠ b8 := fun c e1 e2 => by subst e2; rw [m8] at e1; cases e1
  unfold VtR.row at fq1 fq2
  (all_goals (refine (fun f : True → _ => f trivial) ?_)); repeat' ((first | (with_reducible refine fun _ : True => ?_) | refine cWB _ _ (Grow.trans gH (by (repeat' (first | exact Grow.refl _ | assumption | (refine Grow_known (by first | (simp only [Heap.set_same, set_ne, ne_eq, not_false_eq_true, *] <;> rfl) | fail) ?_) | (refine Grow.set ?_ (by assumption) (by first | (simp only [*] <;> done) | (simp [set_none', Heap.set_same, set_ne, *] <;> done) | fail)) | (refine Grow.trans ?_ (by assumption)))))) (fun a1 c1 G4 hg => ?_)  | (refine AllocQ_i ?_; intro bk hb0 hbk; (try simp only [set_none'] at hbk); (try (first | have hbn := Grow.none (by assumption) hbk | have hbn := Grow.none (by assumption) hbk.2 | have hbn := Grow.none (by assumption) hbk.2.2 | have hbn := Grow.none (by assumption) hbk.2.2.2 | have hbn := Grow.none (by assumption) hbk.2.2.2.2 | have hbn := Grow.none (by assumption) hbk.2.2.2.2.2)); (try simp only [set_none'] at hbn); (try (first | have hbm := Grow.none (by assumption) hbn | have hbm := Grow.none (by assumption) hbn.2 | have hbm := Grow.none (by assumption) hbn.2.2 | have hbm := Grow.none (by assumption) hbn.2.2.2 | have hbm := Grow.none (by assumption) hbn.2.2.2.2 | have hbm := Grow.none (by assumption) hbn.2.2.2.2.2)); (try simp only [set_none'] at hbm)) | ((first | refine condS_i ?_ ?_ | refine pick_i ?_ ?_ | refine gS_it ?_ ?_ | refine gS_if ?_ ?_ | refine gP_it ?_ ?_ | refine gP_if ?_ ?_) <;> (intro hc; try simp only [Int.reduceLE,Int.reduceLT,Int.reduceEq,and_self,not_true_eq_false,not_false_eq_true,and_true,true_and,false_and,and_false,true_or,or_true,false_or,or_false,decide_eq_true_eq,decide_eq_false_iff_not,beq_iff_eq,beq_eq_false_iff_ne,bne_iff_ne,ne_eq,gt_iff_lt,ge_iff_le,Bool.not_eq_true,Bool.not_eq_false,Bool.not_eq_true',Bool.not_eq_false',Bool.not_eq_eq_eq_not,Bool.not_true,Bool.not_false] at hc)) | (refine KP_i (by (repeat' (first | exact Heap.Le.refl _ | (refine Le_known (by first | (simp only [Heap.set_same, set_ne, ne_eq, not_false_eq_true, *] <;> rfl) | fail) ?_) | (refine Le_fresh (by first | (simp only [*] <;> done) | (simp [set_none', Heap.set_same, set_ne, *] <;> done) | fail) ?_) | (refine Heap.Le.trans ?_ (Grow.le (by assumption)))))) ?_) | (with_reducible refine loop_u ?_) | (with_reducible refine And.intro ?_ ?_)) <;> (try simp only [Sh,Si,Sl,Bu,Bb,Bd,Bc,Bw,Bn,Int.reduceAdd,Int.reduceSub,Int.reduceMul,Int.reduceTDiv,Int.reduceTMod,Int.reduceMod,Int.reduceDiv,Nat.reduceLT,Nat.reduceEqDiff,decide_true,decide_false,Sa,Sb,Sc,Sd,Se,Sf,Sg,true_and,and_true,and_self,eq_self,b_i64,b_i32,b_u64,b_u32,b_u8,Int.reduceLE,Int.reduceLT,Int.reduceToNat,Int.reduceNeg,Int.reduceEq,Nat.reduceLeDiff,Nat.reducePow,Int.reducePow,Nat.min_def,reduceIte,Nat.reduceSub,Nat.reduceAdd,Nat.reduceMul,KP_same,KP_f,condS_t,condS_f,pick_t,pick_f,gS_tt,gS_ff,gS_tf,gS_ft,gS_u,gP_tt,gP_ff,gP_tf,gP_ft,gP_u,ptrV_eq,slcV_eq,cells_agg,cells_int,cells_bool,cells_ptr,cells_slice,oc_int,oc_bool,oc_slice,oc_ptr,rd1_set,rd1_ne,rdn_set,rdn_ne,Heap.set_same,set_ne,Heap.set_set,set_up,set_up2,set_up3,putAt,ceq,List.map_cons,List.map_nil,List.length_cons,List.length_nil,List.length_set,List.cons_append,List.nil_append,List.append_nil,List.replicate,List.size_toArray,List.all_cons,List.all_nil,Bool.and_self,Bool.and_true,List.drop_zero,List.drop_succ_cons,List.take_succ_cons,List.take_zero,List.set_cons_zero,List.set_cons_succ,List.getElem?_cons_zero,List.getElem?_cons_succ,Option.map_some,Option.map_none,ne_eq,not_false_eq_true,not_true_eq_false,gt_iff_lt,ge_iff_le,Int.one_mul,Nat.zero_add,Nat.zero_mul,Bool.not_true,Bool.not_false,Bool.false_eq_true,Bool.and_false,Bool.false_and,Bool.true_and, *]))
  rename_i b8 p8 q8 q8n
  have m2 := hg.some (b := b2) (by simp only [Heap.set_same, set_ne, ne_eq, not_false_eq_true, *] <;> rfl)
  have mq := hg.some (b := bq) (by simp only [Heap.set_same, set_ne, ne_eq, not_false_eq_true, *] <;> rfl)
  have m8 := hg.some (b := b8) (by simp only [Heap.set_same, set_ne, ne_eq, not_false_eq_true, *] <;> rfl)
  have gg := Grow.trans (H := G3) (by (repeat' (first | exact Grow.refl _ | assumption | (refine Grow_known (by first | (simp only [Heap.set_same, set_ne, ne_eq, not_false_eq_true, *] <;> rfl) | fail) ?_) | (refine Grow.set ?_ (by assumption) (by first | (simp only [*] <;> done) | (simp [set_none', Heap.set_same, set_ne, *] <;> done) | fail)) | (refine Grow.trans ?_ (by assumption))))) hg
  replace gH := gH.trans gg
  replace r1 := gg.rdn r1 (by decide)
  have hfb : ∀ c, w0.heap.size ≤ c → G4 c = none → c ≠ b := fun c e1 e2 => rdn_fresh r1 (by decide) e1 e2
  have s0 := (rd1_of_rdn r1 (i := 6) (by omega)).1
  have s1 := (rd1_of_rdn r1 (i := 7) (by omega)).1
  have s2 := (rd1_of_rdn r1 (i := 8) (by omega)).1
  simp at s0 s1 s2
  have s1' : rd1 w0 G4 b (o + 6 + 1) = _ := s1
  have s2' : rd1 w0 G4 b (o + 6 + 2) = _ := s2
  clear hg gg
  have f2 : rdn w0 G4 b2 0 6 = some [.int .i64 v.x, .int .i64 v.y, .int .i64 v.w, .int .i64 v.h, .int .i32 v.n, .int .i32 v.f] := by unfold rdn; rw [m2]; rfl
  have fq1 : rdn w0 G4 bq 6 6 = some B.row := by unfold rdn; rw [mq]; rfl
  have fq2 : rdn w0 G4 bq 12 6 = some C.row := by unfold rdn; rw [mq]; rfl
  have f8a : rd1 w0 G4 b8 3 = some (.int .i32 (B.p 3)) := by unfold rd1; rw [m8]; rfl
  have f8b : rd1 w0 G4 b8 5 = some (.slice B.a B.l.length B.cap) := by unfold rd1; rw [m8]; rfl
  have h2 : ∀ c, G4 c = none → c ≠ b2 := fun c e1 e2 => by subst e2; rw [m2] at e1; cases e1
  have hq : ∀ c, G4 c = none → c ≠ bq := fun c e1 e2 => by subst e2; rw [mq] at e1; cases e1
  have h8 : ∀ c, G4 c = none → c ≠ b8 := fun c e1 e2 => by subst e2; rw [m8] at e1; cases e1
  unfold VtR.row at fq1 fq2
  (all_goals (refine (fun f : True → _ => f trivial) ?_)); repeat' ((first | (with_reducible refine fun _ : True => ?_) | refine cWC _ _ (Grow.trans gH (by (repeat' (first | exact Grow.refl _ | assumption | (refine Grow_known (by first | (simp only [Heap.set_same, set_ne, ne_eq, not_false_eq_true, *] <;> rfl) | fail) ?_) | (refine Grow.set ?_ (by assumption) (by first | (simp only [*] <;> done) | (simp [set_none', Heap.set_same, set_ne, *] <;> done) | fail)) | (refine Grow.trans ?_ (by assumption)))))) (fun a2 c2 G5 hg => ?_)  | (refine AllocQ_i ?_; intro bk hb0 hbk; (try simp only [set_none'] at hbk); (try (first | have hbn := Grow.none (by assumption) hbk | have hbn := Grow.none (by assumption) hbk.2 | have hbn := Grow.none (by assumption) hbk.2.2 | have hbn := Grow.none (by assumption) hbk.2.2.2 | have hbn := Grow.none (by assumption) hbk.2.2.2.2 | have hbn := Grow.none (by assumption) hbk.2.2.2.2.2)); (try simp only [set_none'] at hbn); (try (first | have hbm := Grow.none (by assumption) hbn | have hbm := Grow.none (by assumption) hbn.2 | have hbm := Grow.none (by assumption) hbn.2.2 | have hbm := Grow.none (by assumption) hbn.2.2.2 | have hbm := Grow.none (by assumption) hbn.2.2.2.2 | have hbm := Grow.none (by assumption) hbn.2.2.2.2.2)); (try simp only [set_none'] at hbm)) | ((first | refine condS_i ?_ ?_ | refine pick_i ?_ ?_ | refine gS_it ?_ ?_ | refine gS_if ?_ ?_ | refine gP_it ?_ ?_ | refine gP_if ?_ ?_) <;> (intro hc; try simp only [Int.reduceLE,Int.reduceLT,Int.reduceEq,and_self,not_true_eq_false,not_false_eq_true,and_true,true_and,false_and,and_false,true_or,or_true,false_or,or_false,decide_eq_true_eq,decide_eq_false_iff_not,beq_iff_eq,beq_eq_false_iff_ne,bne_iff_ne,ne_eq,gt_iff_lt,ge_iff_le,Bool.not_eq_true,Bool.not_eq_false,Bool.not_eq_true',Bool.not_eq_false',Bool.not_eq_eq_eq_not,Bool.not_true,Bool.not_false] at hc)) | (refine KP_i (by (repeat' (first | exact Heap.Le.refl _ | (refine Le_known (by first | (simp only [Heap.set_same, set_ne, ne_eq, not_false_eq_true, *] <;> rfl) | fail) ?_) | (refine Le_fresh (by first | (simp only [*] <;> done) | (simp [set_none', Heap.set_same, set_ne, *] <;> done) | fail) ?_) | (refine Heap.Le.trans ?_ (Grow.le (by assumption)))))) ?_) | (with_reducible refine loop_u ?_) | (with_reducible refine And.intro ?_ ?_)) <;> (try simp only [Sh,Si,Sl,Bu,Bb,Bd,Bc,Bw,Bn,Int.reduceAdd,Int.reduceSub,Int.reduceMul,Int.reduceTDiv,Int.reduceTMod,Int.reduceMod,Int.reduceDiv,Nat.reduceLT,Nat.reduceEqDiff,decide_true,decide_false,Sa,Sb,Sc,Sd,Se,Sf,Sg,true_and,and_true,and_self,eq_self,b_i64,b_i32,b_u64,b_u32,b_u8,Int.reduceLE,Int.reduceLT,Int.reduceToNat,Int.reduceNeg,Int.reduceEq,Nat.reduceLeDiff,Nat.reducePow,Int.reducePow,Nat.min_def,reduceIte,Nat.reduceSub,Nat.reduceAdd,Nat.reduceMul,KP_same,KP_f,condS_t,condS_f,pick_t,pick_f,gS_tt,gS_ff,gS_tf,gS_ft,gS_u,gP_tt,gP_ff,gP_tf,gP_ft,gP_u,ptrV_eq,slcV_eq,cells_agg,cells_int,cells_bool,cells_ptr,cells_slice,oc_int,oc_bool,oc_slice,oc_ptr,rd1_set,rd1_ne,rdn_set,rdn_ne,Heap.set_same,set_ne,Heap.set_set,set_up,set_up2,set_up3,putAt,ceq,List.map_cons,List.map_nil,List.length_cons,List.length_nil,List.length_set,List.cons_append,List.nil_append,List.append_nil,List.replicate,List.size_toArray,List.all_cons,List.all_nil,Bool.and_self,Bool.and_true,List.drop_zero,List.drop_succ_cons,List.take_succ_cons,List.take_zero,List.set_cons_zero,List.set_cons_succ,List.getElem?_cons_zero,List.getElem?_cons_succ,Option.map_some,Option.map_none,ne_eq,not_false_eq_true,not_true_eq_false,gt_iff_lt,ge_iff_le,Int.one_mul,Nat.zero_add,Nat.zero_mul,Bool.not_true,Bool.not_false,Bool.false_eq_true,Bool.and_false,Bool.false_and,Bool.true_and, *]))
  rename_i b8 p8 q8 q8n
  have m2 := hg.some (b := b2) (by simp only [Heap.set_same, set_ne, ne_eq, not_false_eq_true, *] <;> rfl)
  have mq := hg.some (b := bq) (by simp only [Heap.set_same, set_ne, ne_eq, not_false_eq_true, *] <;> rfl)
  have m8 := hg.some (b := b8) (by simp only [Heap.set_same, set_ne, ne_eq, not_false_eq_true, *] <;> rfl)
  have gg := Grow.trans (H := G4) (by (repeat' (first | exact Grow.refl _ | assumption | (refine Grow_known (by first | (simp only [Heap.set_same, set_ne, ne_eq, not_false_eq_true, *] <;> rfl) | fail) ?_) | (refine Grow.set ?_ (by assumption) (by first | (simp only [*] <;> done) | (simp [set_none', Heap.set_same, set_ne, *] <;> done) | fail)) | (refine Grow.trans ?_ (by assumption))))) hg
  replace gH := gH.trans gg
  replace r1 := gg.rdn r1 (by decide)
  have hfb : ∀ c, w0.heap.size ≤ c → G5 c = none → c ≠ b := fun c e1 e2 => rdn_fresh r1 (by decide) e1 e2
  have s0 := (rd1_of_rdn r1 (i := 12) (by omega)).1
  have s1 := (rd1_of_rdn r1 (i := 13) (by omega)).1
  have s2 := (rd1_of_rdn r1 (i := 14) (by omega)).1
  simp at s0 s1 s2
  have s1' : rd1 w0 G5 b (o + 12 + 1) = _ := s1
  have s2' : rd1 w0 G5 b (o + 12 + 2) = _ := s2
  clear hg gg
  have f2 : rdn w0 G5 b2 0 6 = some [.int .i64 v.x, .int .i64 v.y, .int .i64 v.w, .int .i64 v.h, .int .i32 v.n, .int .i32 v.f] := by unfold rdn; rw [m2]; rfl
  have fq1 : rdn w0 G5 bq 6 6 = some B.row := by unfold rdn; rw [mq]; rfl
  have fq2 : rdn w0 G5 bq 12 6 = some C.row := by unfold rdn; rw [mq]; rfl
  have f8a : rd1 w0 G5 b8 3 = some (.int .i32 (C.p 3)) := by unfold rd1; rw [m8]; rfl
  have f8b : rd1 w0 G5 b8 5 = some (.slice C.a C.l.length C.cap) := by unfold rd1; rw [m8]; rfl
  have h2 : ∀ c, G5 c = none → c ≠ b2 := fun c e1 e2 => by subst e2; rw [m2] at e1; cases e1
  have hq : ∀ c, G5 c = none → c ≠ bq := fun c e1 e2 => by subst e2; rw [mq] at e1; cases e1
  have h8 : ∀ c, G5 c = none → c ≠ b8 := fun c e1 e2 => by subst e2; rw [m8] at e1; cases e1
  unfold VtR.row at fq1 fq2
  (all_goals (refine (fun f : True → _ => f trivial) ?_)); repeat' ((first | (with_reducible refine fun _ : True => ?_) | (refine AllocQ_i ?_; intro bk hb0 hbk; (try simp only [set_none'] at hbk); (try (first | have hbn := Grow.none (by assumption) hbk | have hbn := Grow.none (by assumption) hbk.2 | have hbn := Grow.none (by assumption) hbk.2.2 | have hbn := Grow.none (by assumption) hbk.2.2.2 | have hbn := Grow.none (by assumption) hbk.2.2.2.2 | have hbn := Grow.none (by assumption) hbk.2.2.2.2.2)); (try simp only [set_none'] at hbn); (try (first | have hbm := Grow.none (by assumption) hbn | have hbm := Grow.none (by assumption) hbn.2 | have hbm := Grow.none (by assumption) hbn.2.2 | have hbm := Grow.none (by assumption) hbn.2.2.2 | have hbm := Grow.none (by assumption) hbn.2.2.2.2 | have hbm := Grow.none (by assumption) hbn.2.2.2.2.2)); (try simp only [set_none'] at hbm)) | ((first | refine condS_i ?_ ?_ | refine pick_i ?_ ?_ | refine gS_it ?_ ?_ | refine gS_if ?_ ?_ | refine gP_it ?_ ?_ | refine gP_if ?_ ?_) <;> (intro hc; try simp only [Int.reduceLE,Int.reduceLT,Int.reduceEq,and_self,not_true_eq_false,not_false_eq_true,and_true,true_and,false_and,and_false,true_or,or_true,false_or,or_false,decide_eq_true_eq,decide_eq_false_iff_not,beq_iff_eq,beq_eq_false_iff_ne,bne_iff_ne,ne_eq,gt_iff_lt,ge_iff_le,Bool.not_eq_true,Bool.not_eq_false,Bool.not_eq_true',Bool.not_eq_false',Bool.not_eq_eq_eq_not,Bool.not_true,Bool.not_false] at hc)) | (refine KP_i (by (repeat' (first | exact Heap.Le.refl _ | (refine Le_known (by first | (simp only [Heap.set_same, set_ne, ne_eq, not_false_eq_true, *] <;> rfl) | fail) ?_) | (refine Le_fresh (by first | (simp only [*] <;> done) | (simp [set_none', Heap.set_same, set_ne, *] <;> done) | fail) ?_) | (refine Heap.Le.trans ?_ (Grow.le (by assumption)))))) ?_) | (with_reducible refine loop_u ?_) | (with_reducible refine And.intro ?_ ?_)) <;> (try simp only [Sh,Si,Sl,Bu,Bb,Bd,Bc,Bw,Bn,Int.reduceAdd,Int.reduceSub,Int.reduceMul,Int.reduceTDiv,Int.reduceTMod,Int.reduceMod,Int.reduceDiv,Nat.reduceLT,Nat.reduceEqDiff,decide_true,decide_false,Sa,Sb,Sc,Sd,Se,Sf,Sg,true_and,and_true,and_self,eq_self,b_i64,b_i32,b_u64,b_u32,b_u8,Int.reduceLE,Int.reduceLT,Int.reduceToNat,Int.reduceNeg,Int.reduceEq,Nat.reduceLeDiff,Nat.reducePow,Int.reducePow,Nat.min_def,reduceIte,Nat.reduceSub,Nat.reduceAdd,Nat.reduceMul,KP_same,KP_f,condS_t,condS_f,pick_t,pick_f,gS_tt,gS_ff,gS_tf,gS_ft,gS_u,gP_tt,gP_ff,gP_tf,gP_ft,gP_u,ptrV_eq,slcV_eq,cells_agg,cells_int,cells_bool,cells_ptr,cells_slice,oc_int,oc_bool,oc_slice,oc_ptr,rd1_set,rd1_ne,rdn_set,rdn_ne,Heap.set_same,set_ne,Heap.set_set,set_up,set_up2,set_up3,putAt,ceq,List.map_cons,List.map_nil,List.length_cons,List.length_nil,List.length_set,List.cons_append,List.nil_append,List.append_nil,List.replicate,List.size_toArray,List.all_cons,List.all_nil,Bool.and_self,Bool.and_true,List.drop_zero,List.drop_succ_cons,List.take_succ_cons,List.take_zero,List.set_cons_zero,List.set_cons_succ,List.getElem?_cons_zero,List.getElem?_cons_succ,Option.map_some,Option.map_none,ne_eq,not_false_eq_true,not_true_eq_false,gt_iff_lt,ge_iff_le,Int.one_mul,Nat.zero_add,Nat.zero_mul,Bool.not_true,Bool.not_false,Bool.false_eq_true,Bool.and_false,Bool.false_and,Bool.true_and, *]))
  exact Fin_mk (by (repeat' (first | exact Heap.Le.refl _ | (refine Le_known (by first | (simp only [Heap.set_same, set_ne, ne_eq, not_false_eq_true, *] <;> rfl) | fail) ?_) | (refine Le_fresh (by first | (simp only [*] <;> done) | (simp [set_none', Heap.set_same, set_ne, *] <;> done) | fail) ?_) | (refine Heap.Le.trans ?_ (Grow.le (by assumption)))))) h
theorem l_ClipWhole_b (v : Vw) (A B C : VtR) (hvi : I64 v.x ∧ I64 v.y ∧ I64 v.w ∧ I64 v.h) (hA : VtOk w0 H A) (hB : VtOk w0 H B) (hC : VtOk w0 H C) (hg : v.right ∧ Al [A.toVt, B.toVt, C.toVt]) (hw : ¬ (Wth A.toVt ∧ Wth B.toVt ∧ Wth C.toVt)) (h : K (.bool true) H) : HCalls Try.prog w0 6 [v.v, threeV A B C] H K := by
  have cA : ∀ (G : Heap) (K : Value → Heap → Prop), K (.bool true) G → HCalls Try.prog w0 10 [] G K := fun G K hk => l_wakes hk
  have wA : ∀ (G : Heap) (K : Value → Heap → Prop), (Wth A.toVt → K (.bool true) G) → (¬ Wth A.toVt → K (.bool false) G) → HCalls Try.prog w0 23 [A.v] G K := fun G K h1 h2 => l_within A hA.p h1 h2
  have wB : ∀ (G : Heap) (K : Value → Heap → Prop), (Wth B.toVt → K (.bool true) G) → (¬ Wth B.toVt → K (.bool false) G) → HCalls Try.prog w0 23 [B.v] G K := fun G K h1 h2 => l_within B hB.p h1 h2
  have wC : Wth A.toVt → Wth B.toVt → ∀ (G : Heap) (K : Value → Heap → Prop), K (.bool false) G → HCalls Try.prog w0 23 [C.v] G K := fun h1 h2 G K hk => l_within C hC.p (fun h3 => (hw ⟨h1, h2, h3⟩).elim) (fun _ => hk)
  have cT : ∀ (G : Heap) (K : Value → Heap → Prop), Grow w0 H G → (∀ a' cap' n H', Grow w0 G H' → K (.tuple #[.slice a' n cap', .int .i64 0]) H') → HCalls Try.prog w0 11 [v.v, A.v, B.v, C.v] G K := fun G K g hk => c_Triangle v A B C hvi (hA.grow g) (hB.grow g) (hC.grow g) (fun _ a' cap' ts H' e hR hgr => hk a' cap' ts.length H' hgr) (fun hh => (hh hg).elim)
  clear hA hB hC hg hw
  unfold VtR.v at wA wB wC
  unfold threeV VtR.v Vw.v at *
  refine HL.hc k6 2000 ?_; unfold M6
  (all_goals (refine (fun f : True → _ => f trivial) ?_)); repeat' ((first | (with_reducible refine fun _ : True => ?_) | refine cA _ _ ?_ | refine cT _ _ (by (repeat' (first | exact Grow.refl _ | assumption | (refine Grow_known (by first | (simp only [Heap.set_same, set_ne, ne_eq, not_false_eq_true, *] <;> rfl) | fail) ?_) | (refine Grow.set ?_ (by assumption) (by first | (simp only [*] <;> done) | (simp [set_none', Heap.set_same, set_ne, *] <;> done) | fail)) | (refine Grow.trans ?_ (by assumption))))) (fun a2 c2 n2 G2 hg => ?_)  | (refine AllocQ_i ?_; intro bk hb0 hbk; (try simp only [set_none'] at hbk); (try (first | have hbn := Grow.none (by assumption) hbk | have hbn := Grow.none (by assumption) hbk.2 | have hbn := Grow.none (by assumption) hbk.2.2 | have hbn := Grow.none (by assumption) hbk.2.2.2 | have hbn := Grow.none (by assumption) hbk.2.2.2.2 | have hbn := Grow.none (by assumption) hbk.2.2.2.2.2)); (try simp only [set_none'] at hbn); (try (first | have hbm := Grow.none (by assumption) hbn | have hbm := Grow.none (by assumption) hbn.2 | have hbm := Grow.none (by assumption) hbn.2.2 | have hbm := Grow.none (by assumption) hbn.2.2.2 | have hbm := Grow.none (by assumption) hbn.2.2.2.2 | have hbm := Grow.none (by assumption) hbn.2.2.2.2.2)); (try simp only [set_none'] at hbm)) | ((first | refine condS_i ?_ ?_ | refine pick_i ?_ ?_ | refine gS_it ?_ ?_ | refine gS_if ?_ ?_ | refine gP_it ?_ ?_ | refine gP_if ?_ ?_) <;> (intro hc; try simp only [Int.reduceLE,Int.reduceLT,Int.reduceEq,and_self,not_true_eq_false,not_false_eq_true,and_true,true_and,false_and,and_false,true_or,or_true,false_or,or_false,decide_eq_true_eq,decide_eq_false_iff_not,beq_iff_eq,beq_eq_false_iff_ne,bne_iff_ne,ne_eq,gt_iff_lt,ge_iff_le,Bool.not_eq_true,Bool.not_eq_false,Bool.not_eq_true',Bool.not_eq_false',Bool.not_eq_eq_eq_not,Bool.not_true,Bool.not_false] at hc)) | (refine KP_i (by (repeat' (first | exact Heap.Le.refl _ | (refine Le_known (by first | (simp only [Heap.set_same, set_ne, ne_eq, not_false_eq_true, *] <;> rfl) | fail) ?_) | (refine Le_fresh (by first | (simp only [*] <;> done) | (simp [set_none', Heap.set_same, set_ne, *] <;> done) | fail) ?_) | (refine Heap.Le.trans ?_ (Grow.le (by assumption)))))) ?_) | (with_reducible refine And.intro ?_ ?_)) <;> (try simp only [Sh,Si,Sl,Bu,Bb,Bd,Bc,Bw,Bn,Int.reduceAdd,Int.reduceSub,Int.reduceMul,Int.reduceTDiv,Int.reduceTMod,Int.reduceMod,Int.reduceDiv,Nat.reduceLT,Nat.reduceEqDiff,decide_true,decide_false,Sa,Sb,Sc,Sd,Se,Sf,Sg,true_and,and_true,and_self,eq_self,b_i64,b_i32,b_u64,b_u32,b_u8,Int.reduceLE,Int.reduceLT,Int.reduceToNat,Int.reduceNeg,Int.reduceEq,Nat.reduceLeDiff,Nat.reducePow,Int.reducePow,Nat.min_def,reduceIte,Nat.reduceSub,Nat.reduceAdd,Nat.reduceMul,KP_same,KP_f,condS_t,condS_f,pick_t,pick_f,gS_tt,gS_ff,gS_tf,gS_ft,gS_u,gP_tt,gP_ff,gP_tf,gP_ft,gP_u,ptrV_eq,slcV_eq,cells_agg,cells_int,cells_bool,cells_ptr,cells_slice,oc_int,oc_bool,oc_slice,oc_ptr,rd1_set,rd1_ne,rdn_set,rdn_ne,Heap.set_same,set_ne,Heap.set_set,set_up,set_up2,set_up3,putAt,ceq,List.map_cons,List.map_nil,List.length_cons,List.length_nil,List.length_set,List.cons_append,List.nil_append,List.append_nil,List.replicate,List.size_toArray,List.all_cons,List.all_nil,Bool.and_self,Bool.and_true,List.drop_zero,List.drop_succ_cons,List.take_succ_cons,List.take_zero,List.set_cons_zero,List.set_cons_succ,List.getElem?_cons_zero,List.getElem?_cons_succ,Option.map_some,Option.map_none,ne_eq,not_false_eq_true,not_true_eq_false,gt_iff_lt,ge_iff_le,Int.one_mul,Nat.zero_add,Nat.zero_mul,Bool.not_true,Bool.not_false,Bool.false_eq_true,Bool.and_false,Bool.false_and,Bool.true_and, *]))
  rename_i b2 p2 q2
  obtain ⟨b3, rfl⟩ : ∃ q, q = bk := ⟨bk, rfl⟩
  have q3 := hbk
  have m2 := hg.some (b := b2) (by simp only [Heap.set_same, set_ne, ne_eq, not_false_eq_true, *] <;> rfl)
  have m3 := hg.some (b := b3) (by simp only [Heap.set_same, set_ne, ne_eq, not_false_eq_true, *] <;> rfl)
  have gH : Grow w0 H G2 := Grow.trans (by (repeat' (first | exact Grow.refl _ | assumption | (refine Grow_known (by first | (simp only [Heap.set_same, set_ne, ne_eq, not_false_eq_true, *] <;> rfl) | fail) ?_) | (refine Grow.set ?_ (by assumption) (by first | (simp only [*] <;> done) | (simp [set_none', Heap.set_same, set_ne, *] <;> done) | fail)) | (refine Grow.trans ?_ (by assumption))))) hg
  clear cT hg cA
  rw [root2 q3.1.2 m2 m3]
  (all_goals (refine (fun f : True → _ => f trivial) ?_)); repeat' ((first | (with_reducible refine fun _ : True => ?_) | (refine wA _ _  ?_ ?_ <;> (intro hc; try simp only [Int.reduceLE,Int.reduceLT,Int.reduceEq,and_self,not_true_eq_false,not_false_eq_true,and_true,true_and,false_and,and_false,true_or,or_true,false_or,or_false,decide_eq_true_eq,decide_eq_false_iff_not,beq_iff_eq,beq_eq_false_iff_ne,bne_iff_ne,ne_eq,gt_iff_lt,ge_iff_le,Bool.not_eq_true,Bool.not_eq_false,Bool.not_eq_true',Bool.not_eq_false',Bool.not_eq_eq_eq_not,Bool.not_true,Bool.not_false] at hc)) | (refine AllocQ_i ?_; intro bk hb0 hbk; (try simp only [set_none'] at hbk); (try (first | have hbn := Grow.none (by assumption) hbk | have hbn := Grow.none (by assumption) hbk.2 | have hbn := Grow.none (by assumption) hbk.2.2 | have hbn := Grow.none (by assumption) hbk.2.2.2 | have hbn := Grow.none (by assumption) hbk.2.2.2.2 | have hbn := Grow.none (by assumption) hbk.2.2.2.2.2)); (try simp only [set_none'] at hbn); (try (first | have hbm := Grow.none (by assumption) hbn | have hbm := Grow.none (by assumption) hbn.2 | have hbm := Grow.none (by assumption) hbn.2.2 | have hbm := Grow.none (by assumption) hbn.2.2.2 | have hbm := Grow.none (by assumption) hbn.2.2.2.2 | have hbm := Grow.none (by assumption) hbn.2.2.2.2.2)); (try simp only [set_none'] at hbm)) | ((first | refine condS_i ?_ ?_ | refine pick_i ?_ ?_ | refine gS_it ?_ ?_ | refine gS_if ?_ ?_ | refine gP_it ?_ ?_ | refine gP_if ?_ ?_) <;> (intro hc; try simp only [Int.reduceLE,Int.reduceLT,Int.reduceEq,and_self,not_true_eq_false,not_false_eq_true,and_true,true_and,false_and,and_false,true_or,or_true,false_or,or_false,decide_eq_true_eq,decide_eq_false_iff_not,beq_iff_eq,beq_eq_false_iff_ne,bne_iff_ne,ne_eq,gt_iff_lt,ge_iff_le,Bool.not_eq_true,Bool.not_eq_false,Bool.not_eq_true',Bool.not_eq_false',Bool.not_eq_eq_eq_not,Bool.not_true,Bool.not_false] at hc)) | (refine KP_i (by (repeat' (first | exact Heap.Le.refl _ | (refine Le_known (by first | (simp only [Heap.set_same, set_ne, ne_eq, not_false_eq_true, *] <;> rfl) | fail) ?_) | (refine Le_fresh (by first | (simp only [*] <;> done) | (simp [set_none', Heap.set_same, set_ne, *] <;> done) | fail) ?_) | (refine Heap.Le.trans ?_ (Grow.le (by assumption)))))) ?_) | (with_reducible refine And.intro ?_ ?_)) <;> (try simp only [Sh,Si,Sl,Bu,Bb,Bd,Bc,Bw,Bn,Int.reduceAdd,Int.reduceSub,Int.reduceMul,Int.reduceTDiv,Int.reduceTMod,Int.reduceMod,Int.reduceDiv,Nat.reduceLT,Nat.reduceEqDiff,decide_true,decide_false,Sa,Sb,Sc,Sd,Se,Sf,Sg,true_and,and_true,and_self,eq_self,b_i64,b_i32,b_u64,b_u32,b_u8,Int.reduceLE,Int.reduceLT,Int.reduceToNat,Int.reduceNeg,Int.reduceEq,Nat.reduceLeDiff,Nat.reducePow,Int.reducePow,Nat.min_def,reduceIte,Nat.reduceSub,Nat.reduceAdd,Nat.reduceMul,KP_same,KP_f,condS_t,condS_f,pick_t,pick_f,gS_tt,gS_ff,gS_tf,gS_ft,gS_u,gP_tt,gP_ff,gP_tf,gP_ft,gP_u,ptrV_eq,slcV_eq,cells_agg,cells_int,cells_bool,cells_ptr,cells_slice,oc_int,oc_bool,oc_slice,oc_ptr,rd1_set,rd1_ne,rdn_set,rdn_ne,Heap.set_same,set_ne,Heap.set_set,set_up,set_up2,set_up3,putAt,ceq,List.map_cons,List.map_nil,List.length_cons,List.length_nil,List.length_set,List.cons_append,List.nil_append,List.append_nil,List.replicate,List.size_toArray,List.all_cons,List.all_nil,Bool.and_self,Bool.and_true,List.drop_zero,List.drop_succ_cons,List.take_succ_cons,List.take_zero,List.set_cons_zero,List.set_cons_succ,List.getElem?_cons_zero,List.getElem?_cons_succ,Option.map_some,Option.map_none,ne_eq,not_false_eq_true,not_true_eq_false,gt_iff_lt,ge_iff_le,Int.one_mul,Nat.zero_add,Nat.zero_mul,Bool.not_true,Bool.not_false,Bool.false_eq_true,Bool.and_false,Bool.false_and,Bool.true_and, *]))
  all_goals clear wA
  all_goals (try ((all_goals (refine (fun f : True → _ => f trivial) ?_)); repeat' ((first | (with_reducible refine fun _ : True => ?_) | (refine wB _ _  ?_ ?_ <;> (intro hc; try simp only [Int.reduceLE,Int.reduceLT,Int.reduceEq,and_self,not_true_eq_false,not_false_eq_true,and_true,true_and,false_and,and_false,true_or,or_true,false_or,or_false,decide_eq_true_eq,decide_eq_false_iff_not,beq_iff_eq,beq_eq_false_iff_ne,bne_iff_ne,ne_eq,gt_iff_lt,ge_iff_le,Bool.not_eq_true,Bool.not_eq_false,Bool.not_eq_true',Bool.not_eq_false',Bool.not_eq_eq_eq_not,Bool.not_true,Bool.not_false] at hc)) | (refine AllocQ_i ?_; intro bk hb0 hbk; (try simp only [set_none'] at hbk); (try (first | have hbn := Grow.none (by assumption) hbk | have hbn := Grow.none (by assumption) hbk.2 | have hbn := Grow.none (by assumption) hbk.2.2 | have hbn := Grow.none (by assumption) hbk.2.2.2 | have hbn := Grow.none (by assumption) hbk.2.2.2.2 | have hbn := Grow.none (by assumption) hbk.2.2.2.2.2)); (try simp only [set_none'] at hbn); (try (first | have hbm := Grow.none (by assumption) hbn | have hbm := Grow.none (by assumption) hbn.2 | have hbm := Grow.none (by assumption) hbn.2.2 | have hbm := Grow.none (by assumption) hbn.2.2.2 | have hbm := Grow.none (by assumption) hbn.2.2.2.2 | have hbm := Grow.none (by assumption) hbn.2.2.2.2.2)); (try simp only [set_none'] at hbm)) | ((first | refine condS_i ?_ ?_ | refine pick_i ?_ ?_ | refine gS_it ?_ ?_ | refine gS_if ?_ ?_ | refine gP_it ?_ ?_ | refine gP_if ?_ ?_) <;> (intro hc; try simp only [Int.reduceLE,Int.reduceLT,Int.reduceEq,and_self,not_true_eq_false,not_false_eq_true,and_true,true_and,false_and,and_false,true_or,or_true,false_or,or_false,decide_eq_true_eq,decide_eq_false_iff_not,beq_iff_eq,beq_eq_false_iff_ne,bne_iff_ne,ne_eq,gt_iff_lt,ge_iff_le,Bool.not_eq_true,Bool.not_eq_false,Bool.not_eq_true',Bool.not_eq_false',Bool.not_eq_eq_eq_not,Bool.not_true,Bool.not_false] at hc)) | (refine KP_i (by (repeat' (first | exact Heap.Le.refl _ | (refine Le_known (by first | (simp only [Heap.set_same, set_ne, ne_eq, not_false_eq_true, *] <;> rfl) | fail) ?_) | (refine Le_fresh (by first | (simp only [*] <;> done) | (simp [set_none', Heap.set_same, set_ne, *] <;> done) | fail) ?_) | (refine Heap.Le.trans ?_ (Grow.le (by assumption)))))) ?_) | (with_reducible refine And.intro ?_ ?_)) <;> (try simp only [Sh,Si,Sl,Bu,Bb,Bd,Bc,Bw,Bn,Int.reduceAdd,Int.reduceSub,Int.reduceMul,Int.reduceTDiv,Int.reduceTMod,Int.reduceMod,Int.reduceDiv,Nat.reduceLT,Nat.reduceEqDiff,decide_true,decide_false,Sa,Sb,Sc,Sd,Se,Sf,Sg,true_and,and_true,and_self,eq_self,b_i64,b_i32,b_u64,b_u32,b_u8,Int.reduceLE,Int.reduceLT,Int.reduceToNat,Int.reduceNeg,Int.reduceEq,Nat.reduceLeDiff,Nat.reducePow,Int.reducePow,Nat.min_def,reduceIte,Nat.reduceSub,Nat.reduceAdd,Nat.reduceMul,KP_same,KP_f,condS_t,condS_f,pick_t,pick_f,gS_tt,gS_ff,gS_tf,gS_ft,gS_u,gP_tt,gP_ff,gP_tf,gP_ft,gP_u,ptrV_eq,slcV_eq,cells_agg,cells_int,cells_bool,cells_ptr,cells_slice,oc_int,oc_bool,oc_slice,oc_ptr,rd1_set,rd1_ne,rdn_set,rdn_ne,Heap.set_same,set_ne,Heap.set_set,set_up,set_up2,set_up3,putAt,ceq,List.map_cons,List.map_nil,List.length_cons,List.length_nil,List.length_set,List.cons_append,List.nil_append,List.append_nil,List.replicate,List.size_toArray,List.all_cons,List.all_nil,Bool.and_self,Bool.and_true,List.drop_zero,List.drop_succ_cons,List.take_succ_cons,List.take_zero,List.set_cons_zero,List.set_cons_succ,List.getElem?_cons_zero,List.getElem?_cons_succ,Option.map_some,Option.map_none,ne_eq,not_false_eq_true,not_true_eq_false,gt_iff_lt,ge_iff_le,Int.one_mul,Nat.zero_add,Nat.zero_mul,Bool.not_true,Bool.not_false,Bool.false_eq_true,Bool.and_false,Bool.false_and,Bool.true_and, *]))))
  all_goals clear wB
  all_goals (try (have wC := wC (by assumption) (by assumption)))
  · refine wC _ _ ?_
    simp only [Sh,Si,Sl,Bu,Bb,Bd,Bc,Bw,Bn,Int.reduceAdd,Int.reduceSub,Int.reduceMul,Int.reduceTDiv,Int.reduceTMod,Int.reduceMod,Int.reduceDiv,Nat.reduceLT,Nat.reduceEqDiff,decide_true,decide_false,Sa,Sb,Sc,Sd,Se,Sf,Sg,true_and,and_true,and_self,eq_self,b_i64,b_i32,b_u64,b_u32,b_u8,Int.reduceLE,Int.reduceLT,Int.reduceToNat,Int.reduceNeg,Int.reduceEq,Nat.reduceLeDiff,Nat.reducePow,Int.reducePow,Nat.min_def,reduceIte,Nat.reduceSub,Nat.reduceAdd,Nat.reduceMul,KP_same,KP_f,condS_t,condS_f,pick_t,pick_f,gS_tt,gS_ff,gS_tf,gS_ft,gS_u,gP_tt,gP_ff,gP_tf,gP_ft,gP_u,ptrV_eq,slcV_eq,cells_agg,cells_int,cells_bool,cells_ptr,cells_slice,oc_int,oc_bool,oc_slice,oc_ptr,rd1_set,rd1_ne,rdn_set,rdn_ne,Heap.set_same,set_ne,Heap.set_set,set_up,set_up2,set_up3,putAt,ceq,List.map_cons,List.map_nil,List.length_cons,List.length_nil,List.length_set,List.cons_append,List.nil_append,List.append_nil,List.replicate,List.size_toArray,List.all_cons,List.all_nil,Bool.and_self,Bool.and_true,List.drop_zero,List.drop_succ_cons,List.take_succ_cons,List.take_zero,List.set_cons_zero,List.set_cons_succ,List.getElem?_cons_zero,List.getElem?_cons_succ,Option.map_some,Option.map_none,ne_eq,not_false_eq_true,not_true_eq_false,gt_iff_lt,ge_iff_le,Int.one_mul,Nat.zero_add,Nat.zero_mul,Bool.not_true,Bool.not_false,Bool.false_eq_true,Bool.and_false,Bool.false_and,Bool.true_and, *]
    rw [← root2 q3.1.2 m2 m3]
    exact Fin_mk gH.le h
  all_goals (rw [← root2 q3.1.2 m2 m3]; exact Fin_mk gH.le h)
theorem l_ClipWhole_c (v : Vw) (A B C : VtR) (hvi : I64 v.x ∧ I64 v.y ∧ I64 v.w ∧ I64 v.h) (hA : VtOk w0 H A) (hB : VtOk w0 H B) (hC : VtOk w0 H C) (hg : ¬ (v.right ∧ Al [A.toVt, B.toVt, C.toVt])) (h : K (.bool true) H) : HCalls Try.prog w0 6 [v.v, threeV A B C] H K := by
  have cA : ∀ (G : Heap) (K : Value → Heap → Prop), K (.bool true) G → HCalls Try.prog w0 10 [] G K := fun G K hk => l_wakes hk
  have cT : ∀ (G : Heap) (K : Value → Heap → Prop), Grow w0 H G → K (.tuple #[.slice none 0 0, .int .i64 2]) G → HCalls Try.prog w0 11 [v.v, A.v, B.v, C.v] G K := fun G K g hk => c_Triangle v A B C hvi (hA.grow g) (hB.grow g) (hC.grow g) (fun hh => (hg hh).elim) (fun _ => hk)
  clear hA hB hC hg
  unfold threeV VtR.v Vw.v at *
  refine HL.hc k6 2000 ?_; unfold M6
  (all_goals (refine (fun f : True → _ => f trivial) ?_)); repeat' ((first | (with_reducible refine fun _ : True => ?_) | refine cA _ _ ?_ | refine cT _ _ (by (repeat' (first | exact Grow.refl _ | assumption | (refine Grow_known (by first | (simp only [Heap.set_same, set_ne, ne_eq, not_false_eq_true, *] <;> rfl) | fail) ?_) | (refine Grow.set ?_ (by assumption) (by first | (simp only [*] <;> done) | (simp [set_none', Heap.set_same, set_ne, *] <;> done) | fail)) | (refine Grow.trans ?_ (by assumption))))) ?_ | (refine AllocQ_i ?_; intro bk hb0 hbk; (try simp only [set_none'] at hbk); (try (first | have hbn := Grow.none (by assumption) hbk | have hbn := Grow.none (by assumption) hbk.2 | have hbn := Grow.none (by assumption) hbk.2.2 | have hbn := Grow.none (by assumption) hbk.2.2.2 | have hbn := Grow.none (by assumption) hbk.2.2.2.2 | have hbn := Grow.none (by assumption) hbk.2.2.2.2.2)); (try simp only [set_none'] at hbn); (try (first | have hbm := Grow.none (by assumption) hbn | have hbm := Grow.none (by assumption) hbn.2 | have hbm := Grow.none (by assumption) hbn.2.2 | have hbm := Grow.none (by assumption) hbn.2.2.2 | have hbm := Grow.none (by assumption) hbn.2.2.2.2 | have hbm := Grow.none (by assumption) hbn.2.2.2.2.2)); (try simp only [set_none'] at hbm)) | ((first | refine condS_i ?_ ?_ | refine pick_i ?_ ?_ | refine gS_it ?_ ?_ | refine gS_if ?_ ?_ | refine gP_it ?_ ?_ | refine gP_if ?_ ?_) <;> (intro hc; try simp only [Int.reduceLE,Int.reduceLT,Int.reduceEq,and_self,not_true_eq_false,not_false_eq_true,and_true,true_and,false_and,and_false,true_or,or_true,false_or,or_false,decide_eq_true_eq,decide_eq_false_iff_not,beq_iff_eq,beq_eq_false_iff_ne,bne_iff_ne,ne_eq,gt_iff_lt,ge_iff_le,Bool.not_eq_true,Bool.not_eq_false,Bool.not_eq_true',Bool.not_eq_false',Bool.not_eq_eq_eq_not,Bool.not_true,Bool.not_false] at hc)) | (refine KP_i (by (repeat' (first | exact Heap.Le.refl _ | (refine Le_known (by first | (simp only [Heap.set_same, set_ne, ne_eq, not_false_eq_true, *] <;> rfl) | fail) ?_) | (refine Le_fresh (by first | (simp only [*] <;> done) | (simp [set_none', Heap.set_same, set_ne, *] <;> done) | fail) ?_) | (refine Heap.Le.trans ?_ (Grow.le (by assumption)))))) ?_) | (with_reducible refine And.intro ?_ ?_)) <;> (try simp only [Sh,Si,Sl,Bu,Bb,Bd,Bc,Bw,Bn,Int.reduceAdd,Int.reduceSub,Int.reduceMul,Int.reduceTDiv,Int.reduceTMod,Int.reduceMod,Int.reduceDiv,Nat.reduceLT,Nat.reduceEqDiff,decide_true,decide_false,Sa,Sb,Sc,Sd,Se,Sf,Sg,true_and,and_true,and_self,eq_self,b_i64,b_i32,b_u64,b_u32,b_u8,Int.reduceLE,Int.reduceLT,Int.reduceToNat,Int.reduceNeg,Int.reduceEq,Nat.reduceLeDiff,Nat.reducePow,Int.reducePow,Nat.min_def,reduceIte,Nat.reduceSub,Nat.reduceAdd,Nat.reduceMul,KP_same,KP_f,condS_t,condS_f,pick_t,pick_f,gS_tt,gS_ff,gS_tf,gS_ft,gS_u,gP_tt,gP_ff,gP_tf,gP_ft,gP_u,ptrV_eq,slcV_eq,cells_agg,cells_int,cells_bool,cells_ptr,cells_slice,oc_int,oc_bool,oc_slice,oc_ptr,rd1_set,rd1_ne,rdn_set,rdn_ne,Heap.set_same,set_ne,Heap.set_set,set_up,set_up2,set_up3,putAt,ceq,List.map_cons,List.map_nil,List.length_cons,List.length_nil,List.length_set,List.cons_append,List.nil_append,List.append_nil,List.replicate,List.size_toArray,List.all_cons,List.all_nil,Bool.and_self,Bool.and_true,List.drop_zero,List.drop_succ_cons,List.take_succ_cons,List.take_zero,List.set_cons_zero,List.set_cons_succ,List.getElem?_cons_zero,List.getElem?_cons_succ,Option.map_some,Option.map_none,ne_eq,not_false_eq_true,not_true_eq_false,gt_iff_lt,ge_iff_le,Int.one_mul,Nat.zero_add,Nat.zero_mul,Bool.not_true,Bool.not_false,Bool.false_eq_true,Bool.and_false,Bool.false_and,Bool.true_and, *]))
  exact Fin_mk (by (repeat' (first | exact Heap.Le.refl _ | (refine Le_known (by first | (simp only [Heap.set_same, set_ne, ne_eq, not_false_eq_true, *] <;> rfl) | fail) ?_) | (refine Le_fresh (by first | (simp only [*] <;> done) | (simp [set_none', Heap.set_same, set_ne, *] <;> done) | fail) ?_) | (refine Heap.Le.trans ?_ (Grow.le (by assumption)))))) h
theorem l_ClipWhole (v : Vw) (A B C : VtR) (hvi : I64 v.x ∧ I64 v.y ∧ I64 v.w ∧ I64 v.h) (hA : VtOk w0 H A) (hB : VtOk w0 H B) (hC : VtOk w0 H C) (h : K (.bool true) H) : HCalls Try.prog w0 6 [v.v, threeV A B C] H K := by
  by_cases hg : v.right ∧ Al [A.toVt, B.toVt, C.toVt]
  · by_cases hw : Wth A.toVt ∧ Wth B.toVt ∧ Wth C.toVt
    · exact l_ClipWhole_a v A B C hvi hA hB hC hg hw h
    · exact l_ClipWhole_b v A B C hvi hA hB hC hg hw h
  · exact l_ClipWhole_c v A B C hvi hA hB hC hg h
end Go.Proofs.Ytofgiimfempcjaa
