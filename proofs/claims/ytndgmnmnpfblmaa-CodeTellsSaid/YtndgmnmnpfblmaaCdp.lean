/- What is told of an instruction (layer 16). -/
import Derived.Test.YtndgmnmnpfblmaaCdg
set_option linter.unusedSimpArgs false
set_option linter.unusedVariables false
set_option maxRecDepth 100000
set_option maxHeartbeats 4000000
namespace Go.Proofs.Ytndgmnmnpfblmaa
open Go.HL Go.RowKit Pb
variable {w0 : World} {H : Heap} {K : Value → Heap → Prop}

theorem le_new {G F E : Heap} {b : Nat} {x : Blk} (h : Heap.Le G F) (hb : F b = none) (h2 : Heap.Le F E) : Heap.Le G (E.set b x) := fun c y hc => by
  have h3 := h c y hc
  rw [Heap.set_other _ _ (fun e => by subst e; rw [hb] at h3; cases h3)]
  exact h2 c y h3
theorem nl1 (l : Nat) : 0 < l + 1 := by omega
theorem nl2 (l : Nat) : 0 < l + 1 + 1 := by omega
theorem nl3 (l : Nat) : 1 < l + 1 + 1 := by omega
theorem nl4 (l : Nat) : 0 < l + 1 + 1 + 1 := by omega
theorem nl5 (l : Nat) : 1 < l + 1 + 1 + 1 := by omega
theorem nl6 (l : Nat) : 2 < l + 1 + 1 + 1 := by omega
/- paintboxlaw16 tells -/
def M13 : MC :=
  .seq (.reg [⟨(some 1), .box 30 (.tmp 0), none⟩,
     ⟨(some 2), .mv (.const (.bool false)), none⟩])
  (.seq (.reg [⟨(some 12), .ldn 16 (.tmp 1), none⟩,
      ⟨(some 13), .call 20 [(.tmp 12)], none⟩,
      ⟨(some 11), .mv (.tmp 13), none⟩,
      ⟨(some 14), .ext 0 (.tmp 11), none⟩,
      ⟨(some 15), .ext 1 (.tmp 11), none⟩,
      ⟨(some 3), .mv (.tmp 14), none⟩,
      ⟨(some 4), .mv (.tmp 15), none⟩])
   (.seq (.reg [⟨(some 17), .ldn 16 (.tmp 1), none⟩,
       ⟨(some 18), .call 27 [(.tmp 17)], none⟩,
       ⟨(some 16), .mv (.tmp 18), none⟩,
       ⟨(some 19), .ext 0 (.tmp 16), none⟩,
       ⟨(some 20), .ext 1 (.tmp 16), none⟩,
       ⟨(some 5), .mv (.tmp 19), none⟩,
       ⟨(some 6), .mv (.tmp 20), none⟩])
    (.seq (.seq (.reg [⟨(some 21), .mv (.tmp 3), none⟩,
         ⟨(some 22), .mv (.tmp 5), none⟩,
         ⟨(some 23), .bin .neq (.tmp 21) (.tmp 22), none⟩,
         ⟨(some 24), .mv (.tmp 23), none⟩,
         ⟨(some 25), .mv (.tmp 4), (some (24, false))⟩,
         ⟨(some 26), .mv (.tmp 6), (some (24, false))⟩,
         ⟨(some 27), .eqb true (.tmp 25) (.tmp 26), (some (24, false))⟩,
         ⟨(some 28), .pick (.tmp 24) (.const (.bool true)) (.tmp 27), none⟩])
      (.cond (.tmp 28)
       (.seq (.reg [⟨(some 2), .mv (.const (.bool false)), none⟩])
        (.ret))
       (.skip)))
     (.seq (.reg [⟨(some 29), .ldn 16 (.tmp 1), none⟩,
         ⟨(some 30), .call 28 [(.tmp 29)], none⟩,
         ⟨(some 7), .mv (.tmp 30), none⟩])
      (.seq (.seq (.reg [⟨(some 8), .mv (.const (.int .i64 0)), none⟩])
        (.block 0 (.loop (.seq (.seq (.reg [⟨(some 31), .mv (.tmp 8), none⟩,
               ⟨(some 32), .bin .lss (.tmp 31) (.const (.int .i64 2)), none⟩])
            (.cond (.tmp 32)
             (.skip)
             (.exit 0)))
           (.seq (.block 1 (.seq (.reg [⟨(some 35), .ldn 16 (.tmp 1), none⟩,
                 ⟨(some 36), .call 19 [(.tmp 35)], none⟩,
                 ⟨(some 9), .mv (.tmp 36), none⟩])
              (.seq (.seq (.reg [⟨(some 37), .mv (.tmp 9), none⟩,
                   ⟨(some 38), .len (.tmp 37), none⟩,
                   ⟨(some 39), .mv (.tmp 7), none⟩,
                   ⟨(some 40), .len (.tmp 39), none⟩,
                   ⟨(some 41), .bin .neq (.tmp 38) (.tmp 40), none⟩])
                (.cond (.tmp 41)
                 (.seq (.reg [⟨(some 2), .mv (.const (.bool false)), none⟩])
                  (.ret))
                 (.skip)))
               (.seq (.reg [⟨(some 42), .mv (.tmp 9), none⟩,
                   ⟨(some 43), .len (.tmp 42), none⟩,
                   ⟨(some 44), .mv (.const (.int .i64 0)), none⟩])
                (.block 2 (.loop (.seq (.reg [⟨(some 45), .bin .lss (.tmp 44) (.tmp 43), none⟩])
                   (.seq (.cond (.tmp 45)
                     (.skip)
                     (.exit 2))
                    (.seq (.block 3 (.seq (.reg [⟨(some 46), .mv (.tmp 44), none⟩,
                          ⟨(some 10), .mv (.tmp 46), none⟩])
                       (.seq (.seq (.any [(true, 0, [], ⟨(some 47), .mv (.tmp 9), none⟩),
                            (true, 1, [], ⟨(some 48), .mv (.tmp 10), none⟩),
                            (true, 2, [], ⟨(some 49), .is 1 (.tmp 47) (.tmp 48), none⟩),
                            (true, 3, [], ⟨(some 50), .ld1 (.tmp 49), none⟩),
                            (true, 4, [], ⟨(some 51), .mv (.tmp 7), none⟩),
                            (false, 5, [0, 1, 2, 3, 4], ⟨(some 52), .mv (.tmp 10), none⟩),
                            (false, 6, [0, 1, 2, 3], ⟨(some 53), .is 1 (.tmp 51) (.tmp 52), none⟩),
                            (false, 7, [0, 1, 2, 3], ⟨(some 54), .ld1 (.tmp 53), none⟩),
                            (false, 8, [], ⟨(some 55), .bin .neq (.tmp 50) (.tmp 54), none⟩)])
                         (.cond (.tmp 55)
                          (.seq (.reg [⟨(some 2), .mv (.const (.bool false)), none⟩])
                           (.ret))
                          (.skip)))
                        (.reg [⟨(some 56), .mv (.tmp 9), none⟩,
                           ⟨(some 57), .mv (.tmp 10), none⟩,
                           ⟨(some 58), .is 1 (.tmp 56) (.tmp 57), none⟩,
                           ⟨none, .st1 (.tmp 58) (.const (.int .i64 (-9))), none⟩]))))
                     (.reg [⟨(some 59), .bin .add (.tmp 44) (.const (.int .i64 1)), none⟩,
                        ⟨(some 44), .mv (.tmp 59), none⟩]))))))))))
            (.reg [⟨(some 33), .mv (.tmp 8), none⟩,
               ⟨(some 34), .bin .add (.tmp 33) (.const (.int .i64 1)), none⟩,
               ⟨(some 8), .mv (.tmp 34), none⟩]))))))
       (.seq (.reg [⟨(some 2), .mv (.const (.bool true)), none⟩])
        (.ret)))))))
theorem k13 : fnOk Try.prog 13 = some (M13, [.t 2], 60) := by kernel_rfl

theorem c_tells (i : Ins) (h : K (.bool true) H) : HCalls Try.prog w0 13 [i.v] H K := by
  have hw := fun (G : Heap) (K : Value → Heap → Prop) => c_Writes (w0 := w0) (H := G) (K := K) i
  have hw2 := fun (G : Heap) (K : Value → Heap → Prop) => r_Writes (w0 := w0) (H := G) (K := K) i
  have hr := fun (G : Heap) (K : Value → Heap → Prop) => c_Reads (w0 := w0) (H := G) (K := K) i
  have hr2 := fun (G : Heap) (K : Value → Heap → Prop) => r_Reads (w0 := w0) (H := G) (K := K) i
  have hl := reads_len i
  obtain ⟨w, ew⟩ : ∃ w, wrt i = w := ⟨_, rfl⟩
  obtain ⟨x, ex⟩ : ∃ x, wrtR i = x := ⟨_, rfl⟩
  obtain ⟨rl, er⟩ : ∃ l, reads i = l := ⟨_, rfl⟩
  simp only [ew, ex, er] at hw hw2 hr hr2 hl
  clear ew ex er
  unfold Ins.v Ins.row at hw hw2 hr hr2 ⊢
  replace hw : Keep _ := hw
  replace hw2 : Keep _ := hw2
  replace hr : Keep _ := hr
  replace hr2 : Keep _ := hr2
  replace h : Keep _ := h
  have hcase : rl = [] ∨ (∃ x, rl = [x]) ∨ (∃ x y, rl = [x, y]) ∨ (∃ x y z, rl = [x, y, z]) := by
    rcases rl with _ | ⟨x, _ | ⟨y, _ | ⟨z, _ | ⟨u, rl⟩⟩⟩⟩
    · exact .inl rfl
    · exact .inr (.inl ⟨x, rfl⟩)
    · exact .inr (.inr (.inl ⟨x, y, rfl⟩))
    · exact .inr (.inr (.inr ⟨x, y, z, rfl⟩))
    · simp at hl
  clear hl
  cases w
  all_goals refine HL.hc k13 999 ?_; unfold M13
  all_goals simp only [Sh,Si,Sl,Bu,Bb,Bd,Bc,Bw,Bn,Int.reduceAdd,Int.reduceSub,Int.reduceMul,Int.reduceTDiv,Int.reduceTMod,Int.reduceMod,Int.reduceDiv,Nat.reduceLT,Nat.reduceEqDiff,decide_true,decide_false,Sa,Sb,Sc,Sd,Se,Sf,Sg,true_and,and_true,and_self,eq_self,b_i64,b_i32,b_u64,b_u32,b_u8,Int.reduceLE,Int.reduceLT,Int.reduceToNat,Int.reduceNeg,Int.reduceEq,Nat.reduceLeDiff,Nat.reducePow,Int.reducePow,Nat.min_def,reduceIte,Nat.reduceSub,Nat.reduceAdd,Nat.reduceMul,KP_same,KP_f,condS_t,condS_f,pick_t,pick_f,gS_tt,gS_ff,gS_tf,gS_ft,gS_u,gP_tt,gP_ff,gP_tf,gP_ft,gP_u,ptrV_eq,slcV_eq,mapV_eq,cells_agg,cells_int,cells_bool,cells_ptr,cells_slice,oc_int,oc_bool,oc_slice,oc_ptr,rd1_set,rd1_ne,rdn_set,rdn_ne,Heap.set_same,set_ne,Heap.set_set,set_up,set_up2,set_up3,putAt,ceq,List.map_cons,List.map_nil,List.length_cons,List.length_nil,List.length_set,List.cons_append,List.nil_append,List.append_nil,List.replicate,List.size_toArray,List.all_cons,List.all_nil,Bool.and_self,Bool.and_true,List.drop_zero,List.drop_succ_cons,List.take_succ_cons,List.take_zero,List.set_cons_zero,List.set_cons_succ,List.getElem?_cons_zero,List.getElem?_cons_succ,Option.map_some,Option.map_none,ne_eq,not_false_eq_true,not_true_eq_false,gt_iff_lt,ge_iff_le,Int.one_mul,Nat.zero_add,Nat.zero_mul,Bool.not_true,Bool.not_false,Bool.false_eq_true,Bool.and_false,Bool.false_and,Bool.true_and, *]
  all_goals (refine AllocQ_i ?_; intro b1 hb1 hn1)
  all_goals (all_goals (try simp only [Sh,Si,Sl,Bu,Bb,Bd,Bc,Bw,Bn,Int.reduceAdd,Int.reduceSub,Int.reduceMul,Int.reduceTDiv,Int.reduceTMod,Int.reduceMod,Int.reduceDiv,Nat.reduceLT,Nat.reduceEqDiff,decide_true,decide_false,Sa,Sb,Sc,Sd,Se,Sf,Sg,true_and,and_true,and_self,eq_self,b_i64,b_i32,b_u64,b_u32,b_u8,Int.reduceLE,Int.reduceLT,Int.reduceToNat,Int.reduceNeg,Int.reduceEq,Nat.reduceLeDiff,Nat.reducePow,Int.reducePow,Nat.min_def,reduceIte,Nat.reduceSub,Nat.reduceAdd,Nat.reduceMul,KP_same,KP_f,condS_t,condS_f,pick_t,pick_f,gS_tt,gS_ff,gS_tf,gS_ft,gS_u,gP_tt,gP_ff,gP_tf,gP_ft,gP_u,ptrV_eq,slcV_eq,mapV_eq,cells_agg,cells_int,cells_bool,cells_ptr,cells_slice,oc_int,oc_bool,oc_slice,oc_ptr,rd1_set,rd1_ne,rdn_set,rdn_ne,Heap.set_same,set_ne,Heap.set_set,set_up,set_up2,set_up3,putAt,ceq,List.map_cons,List.map_nil,List.length_cons,List.length_nil,List.length_set,List.cons_append,List.nil_append,List.append_nil,List.replicate,List.size_toArray,List.all_cons,List.all_nil,Bool.and_self,Bool.and_true,List.drop_zero,List.drop_succ_cons,List.take_succ_cons,List.take_zero,List.set_cons_zero,List.set_cons_succ,List.getElem?_cons_zero,List.getElem?_cons_succ,Option.map_some,Option.map_none,ne_eq,not_false_eq_true,not_true_eq_false,gt_iff_lt,ge_iff_le,Int.one_mul,Nat.zero_add,Nat.zero_mul,Bool.not_true,Bool.not_false,Bool.false_eq_true,Bool.and_false,Bool.false_and,Bool.true_and, *])); repeat' ((first | (with_reducible refine fun _ : True => ?_) | refine hw _ _ ?_ | refine hw2 _ _ ?_ | refine hr2 _ _ (fun ra rc G hB hg => ?_)  | (with_reducible refine any_h ?_) | ((first | refine AllocQ_i ?_ | refine AllocO_i ?_); intro bk hb0 hbk; (try simp only [set_none'] at hbk); (try (first | have hbn := Grow.none (by assumption) hbk | have hbn := Grow.none (by assumption) hbk.2 | have hbn := Grow.none (by assumption) hbk.2.2 | have hbn := Grow.none (by assumption) hbk.2.2.2 | have hbn := Grow.none (by assumption) hbk.2.2.2.2 | have hbn := Grow.none (by assumption) hbk.2.2.2.2.2)); (try simp only [set_none'] at hbn); (try (first | have hbm := Grow.none (by assumption) hbn | have hbm := Grow.none (by assumption) hbn.2 | have hbm := Grow.none (by assumption) hbn.2.2 | have hbm := Grow.none (by assumption) hbn.2.2.2 | have hbm := Grow.none (by assumption) hbn.2.2.2.2 | have hbm := Grow.none (by assumption) hbn.2.2.2.2.2)); (try simp only [set_none'] at hbm)) | ((first | refine condS_i ?_ ?_ | refine pick_i ?_ ?_ | refine gS_it ?_ ?_ | refine gS_if ?_ ?_ | refine gP_it ?_ ?_ | refine gP_if ?_ ?_) <;> (intro hc; try simp only [Int.reduceLE,Int.reduceLT,Int.reduceEq,and_self,not_true_eq_false,not_false_eq_true,and_true,true_and,false_and,and_false,true_or,or_true,false_or,or_false,decide_eq_true_eq,decide_eq_false_iff_not,beq_iff_eq,beq_eq_false_iff_ne,bne_iff_ne,ne_eq,gt_iff_lt,ge_iff_le,Bool.not_eq_true,Bool.not_eq_false,Bool.not_eq_true',Bool.not_eq_false',Bool.not_eq_eq_eq_not,Bool.not_true,Bool.not_false] at hc)) | (refine KP_i (by (repeat' (first | exact Heap.Le.refl _ | (with_reducible refine Le_set2 ?_) | (refine Le_known (by first | (simp only [Heap.set_same, set_ne, ne_eq, not_false_eq_true, *] <;> rfl) | fail) ?_) | (refine Le_fresh (by first | (simp only [*] <;> done) | (simp [set_none', Heap.set_same, set_ne, noneH, *] <;> done) | fail) ?_) | (refine Heap.Le.trans ?_ (Grow.le (by assumption))) | exact Le_none | (refine Le_put ?_ (by first | (simp only [Heap.set_same, set_ne, ne_eq, not_false_eq_true, *] <;> rfl) | fail)) | fail))) ?_) | (with_reducible refine And.intro ?_ ?_)) <;> (try simp only [Sh,Si,Sl,Bu,Bb,Bd,Bc,Bw,Bn,Int.reduceAdd,Int.reduceSub,Int.reduceMul,Int.reduceTDiv,Int.reduceTMod,Int.reduceMod,Int.reduceDiv,Nat.reduceLT,Nat.reduceEqDiff,decide_true,decide_false,Sa,Sb,Sc,Sd,Se,Sf,Sg,true_and,and_true,and_self,eq_self,b_i64,b_i32,b_u64,b_u32,b_u8,Int.reduceLE,Int.reduceLT,Int.reduceToNat,Int.reduceNeg,Int.reduceEq,Nat.reduceLeDiff,Nat.reducePow,Int.reducePow,Nat.min_def,reduceIte,Nat.reduceSub,Nat.reduceAdd,Nat.reduceMul,KP_same,KP_f,condS_t,condS_f,pick_t,pick_f,gS_tt,gS_ff,gS_tf,gS_ft,gS_u,gP_tt,gP_ff,gP_tf,gP_ft,gP_u,ptrV_eq,slcV_eq,mapV_eq,cells_agg,cells_int,cells_bool,cells_ptr,cells_slice,oc_int,oc_bool,oc_slice,oc_ptr,rd1_set,rd1_ne,rdn_set,rdn_ne,Heap.set_same,set_ne,Heap.set_set,set_up,set_up2,set_up3,putAt,ceq,List.map_cons,List.map_nil,List.length_cons,List.length_nil,List.length_set,List.cons_append,List.nil_append,List.append_nil,List.replicate,List.size_toArray,List.all_cons,List.all_nil,Bool.and_self,Bool.and_true,List.drop_zero,List.drop_succ_cons,List.take_succ_cons,List.take_zero,List.set_cons_zero,List.set_cons_succ,List.getElem?_cons_zero,List.getElem?_cons_succ,Option.map_some,Option.map_none,ne_eq,not_false_eq_true,not_true_eq_false,gt_iff_lt,ge_iff_le,Int.one_mul,Nat.zero_add,Nat.zero_mul,Bool.not_true,Bool.not_false,Bool.false_eq_true,Bool.and_false,Bool.false_and,Bool.true_and, *]))
  all_goals
    have k1 := hg.some (Heap.set_same _ _ _)
    have hlG : Heap.Le H G := (Grow.le (Grow.trans (by (repeat' (first | exact Grow.refl _ | assumption | (refine Grow.set ?_ (by assumption) (by first | exact (by simp only [*]) | exact (by simp [set_none', *]) | exact Grow.none (by assumption) (by simp [set_none', *]))) | (refine Grow.trans ?_ (by assumption))))) hg) : Heap.Le H G)
    clear hw hw2 hr2
    have hB0 : (∃ bw z, ra = some ⟨bw, 0, none⟩ ∧ G bw = some ⟨.t 3, (rl.map fun x => .int .i64 x) ++ z⟩) ∨ rl = [] := by
      rcases hB with ⟨bw, z, e, -, -, h3, -⟩ | ⟨-, e⟩
      · exact .inl ⟨bw, z, e, h3⟩
      · exact .inr (List.map_eq_nil_iff.1 e)
    clear hB
    refine loop_g 31 (fun s : Nat × (Value × Value) × Heap => [(8, .int .i64 (s.1 : Nat)), (9, s.2.1.1), (10, s.2.1.2)]) (fun s => s.2.2) (fun s => s.1 ≤ 2 ∧ Heap.Le G s.2.2) (fun s => 2 - s.1) (0, (undef, undef), G) ⟨Nat.zero_le _, Heap.Le.refl _⟩ (Heap.Le.refl _) rfl ?_
    intro ⟨r, ⟨v9, v10⟩, F⟩ g ⟨hr2, hF⟩
    simp only at hr2 hF
    have f1 := rdn_blk (w0 := w0) (n := 16) (hF _ _ k1) rfl (by omega)
    by_cases hlt : r < 2
    · have t0 : (r : Int) < 2 := by omega
      have t6 : IntKind.i64.wrap ((r : Int) + 1) = (r : Int) + 1 := Bw.1 _ (by omega) (by omega)
      rcases hcase with rfl | ⟨x1, rfl⟩ | ⟨x1, x2, rfl⟩ | ⟨x1, x2, x3, rfl⟩
      · clear k1 hB0
        (all_goals (try simp only [Sh,Si,Sl,Bu,Bb,Bd,Bc,Bw,Bn,Int.reduceAdd,Int.reduceSub,Int.reduceMul,Int.reduceTDiv,Int.reduceTMod,Int.reduceMod,Int.reduceDiv,Nat.reduceLT,Nat.reduceEqDiff,decide_true,decide_false,Sa,Sb,Sc,Sd,Se,Sf,Sg,true_and,and_true,and_self,eq_self,b_i64,b_i32,b_u64,b_u32,b_u8,Int.reduceLE,Int.reduceLT,Int.reduceToNat,Int.reduceNeg,Int.reduceEq,Nat.reduceLeDiff,Nat.reducePow,Int.reducePow,Nat.min_def,reduceIte,Nat.reduceSub,Nat.reduceAdd,Nat.reduceMul,KP_same,KP_f,condS_t,condS_f,pick_t,pick_f,gS_tt,gS_ff,gS_tf,gS_ft,gS_u,gP_tt,gP_ff,gP_tf,gP_ft,gP_u,ptrV_eq,slcV_eq,mapV_eq,cells_agg,cells_int,cells_bool,cells_ptr,cells_slice,oc_int,oc_bool,oc_slice,oc_ptr,rd1_set,rd1_ne,rdn_set,rdn_ne,Heap.set_same,set_ne,Heap.set_set,set_up,set_up2,set_up3,putAt,ceq,List.map_cons,List.map_nil,List.length_cons,List.length_nil,List.length_set,List.cons_append,List.nil_append,List.append_nil,List.replicate,List.size_toArray,List.all_cons,List.all_nil,Bool.and_self,Bool.and_true,List.drop_zero,List.drop_succ_cons,List.take_succ_cons,List.take_zero,List.set_cons_zero,List.set_cons_succ,List.getElem?_cons_zero,List.getElem?_cons_succ,Option.map_some,Option.map_none,ne_eq,not_false_eq_true,not_true_eq_false,gt_iff_lt,ge_iff_le,Int.one_mul,Nat.zero_add,Nat.zero_mul,Bool.not_true,Bool.not_false,Bool.false_eq_true,Bool.and_false,Bool.false_and,Bool.true_and, *])); repeat' ((first | (with_reducible refine fun _ : True => ?_) | refine hr _ _ (fun ra2 rc2 G2 hB2 hg2 => ?_)  | (with_reducible refine any_h ?_) | ((first | refine AllocQ_i ?_ | refine AllocO_i ?_); intro bk hb0 hbk; (try simp only [set_none'] at hbk); (try (first | have hbn := Grow.none (by assumption) hbk | have hbn := Grow.none (by assumption) hbk.2 | have hbn := Grow.none (by assumption) hbk.2.2 | have hbn := Grow.none (by assumption) hbk.2.2.2 | have hbn := Grow.none (by assumption) hbk.2.2.2.2 | have hbn := Grow.none (by assumption) hbk.2.2.2.2.2)); (try simp only [set_none'] at hbn); (try (first | have hbm := Grow.none (by assumption) hbn | have hbm := Grow.none (by assumption) hbn.2 | have hbm := Grow.none (by assumption) hbn.2.2 | have hbm := Grow.none (by assumption) hbn.2.2.2 | have hbm := Grow.none (by assumption) hbn.2.2.2.2 | have hbm := Grow.none (by assumption) hbn.2.2.2.2.2)); (try simp only [set_none'] at hbm)) | ((first | refine condS_i ?_ ?_ | refine pick_i ?_ ?_ | refine gS_it ?_ ?_ | refine gS_if ?_ ?_ | refine gP_it ?_ ?_ | refine gP_if ?_ ?_) <;> (intro hc; try simp only [Int.reduceLE,Int.reduceLT,Int.reduceEq,and_self,not_true_eq_false,not_false_eq_true,and_true,true_and,false_and,and_false,true_or,or_true,false_or,or_false,decide_eq_true_eq,decide_eq_false_iff_not,beq_iff_eq,beq_eq_false_iff_ne,bne_iff_ne,ne_eq,gt_iff_lt,ge_iff_le,Bool.not_eq_true,Bool.not_eq_false,Bool.not_eq_true',Bool.not_eq_false',Bool.not_eq_eq_eq_not,Bool.not_true,Bool.not_false] at hc)) | (refine KP_i (by (repeat' (first | exact Heap.Le.refl _ | (with_reducible refine Le_set2 ?_) | (refine Le_known (by first | (simp only [Heap.set_same, set_ne, ne_eq, not_false_eq_true, *] <;> rfl) | fail) ?_) | (refine Le_fresh (by first | (simp only [*] <;> done) | (simp [set_none', Heap.set_same, set_ne, noneH, *] <;> done) | fail) ?_) | (refine Heap.Le.trans ?_ (Grow.le (by assumption))) | exact Le_none | (refine Le_put ?_ (by first | (simp only [Heap.set_same, set_ne, ne_eq, not_false_eq_true, *] <;> rfl) | fail)) | fail))) ?_) | (with_reducible refine loop_u ?_) | (with_reducible refine And.intro ?_ ?_)) <;> (try simp only [Sh,Si,Sl,Bu,Bb,Bd,Bc,Bw,Bn,Int.reduceAdd,Int.reduceSub,Int.reduceMul,Int.reduceTDiv,Int.reduceTMod,Int.reduceMod,Int.reduceDiv,Nat.reduceLT,Nat.reduceEqDiff,decide_true,decide_false,Sa,Sb,Sc,Sd,Se,Sf,Sg,true_and,and_true,and_self,eq_self,b_i64,b_i32,b_u64,b_u32,b_u8,Int.reduceLE,Int.reduceLT,Int.reduceToNat,Int.reduceNeg,Int.reduceEq,Nat.reduceLeDiff,Nat.reducePow,Int.reducePow,Nat.min_def,reduceIte,Nat.reduceSub,Nat.reduceAdd,Nat.reduceMul,KP_same,KP_f,condS_t,condS_f,pick_t,pick_f,gS_tt,gS_ff,gS_tf,gS_ft,gS_u,gP_tt,gP_ff,gP_tf,gP_ft,gP_u,ptrV_eq,slcV_eq,mapV_eq,cells_agg,cells_int,cells_bool,cells_ptr,cells_slice,oc_int,oc_bool,oc_slice,oc_ptr,rd1_set,rd1_ne,rdn_set,rdn_ne,Heap.set_same,set_ne,Heap.set_set,set_up,set_up2,set_up3,putAt,ceq,List.map_cons,List.map_nil,List.length_cons,List.length_nil,List.length_set,List.cons_append,List.nil_append,List.append_nil,List.replicate,List.size_toArray,List.all_cons,List.all_nil,Bool.and_self,Bool.and_true,List.drop_zero,List.drop_succ_cons,List.take_succ_cons,List.take_zero,List.set_cons_zero,List.set_cons_succ,List.getElem?_cons_zero,List.getElem?_cons_succ,Option.map_some,Option.map_none,ne_eq,not_false_eq_true,not_true_eq_false,gt_iff_lt,ge_iff_le,Int.one_mul,Nat.zero_add,Nat.zero_mul,Bool.not_true,Bool.not_false,Bool.false_eq_true,Bool.and_false,Bool.false_and,Bool.true_and, *]))
        exact Round_mk (r + 1, (_, _), G2) ⟨hlt, hF.trans hg2.le⟩ (by simp only; omega) (Heap.Le.refl _) rfl rfl
      all_goals
        rcases hB0 with ⟨bw, z, rfl, kw⟩ | e
        rotate_left
        · cases e
        have kwF := hF _ _ kw
        clear k1 kw
        (all_goals (try simp only [Sh,Si,Sl,Bu,Bb,Bd,Bc,Bw,Bn,Int.reduceAdd,Int.reduceSub,Int.reduceMul,Int.reduceTDiv,Int.reduceTMod,Int.reduceMod,Int.reduceDiv,Nat.reduceLT,Nat.reduceEqDiff,decide_true,decide_false,Sa,Sb,Sc,Sd,Se,Sf,Sg,true_and,and_true,and_self,eq_self,b_i64,b_i32,b_u64,b_u32,b_u8,Int.reduceLE,Int.reduceLT,Int.reduceToNat,Int.reduceNeg,Int.reduceEq,Nat.reduceLeDiff,Nat.reducePow,Int.reducePow,Nat.min_def,reduceIte,Nat.reduceSub,Nat.reduceAdd,Nat.reduceMul,KP_same,KP_f,condS_t,condS_f,pick_t,pick_f,gS_tt,gS_ff,gS_tf,gS_ft,gS_u,gP_tt,gP_ff,gP_tf,gP_ft,gP_u,ptrV_eq,slcV_eq,mapV_eq,cells_agg,cells_int,cells_bool,cells_ptr,cells_slice,oc_int,oc_bool,oc_slice,oc_ptr,rd1_set,rd1_ne,rdn_set,rdn_ne,Heap.set_same,set_ne,Heap.set_set,set_up,set_up2,set_up3,putAt,ceq,List.map_cons,List.map_nil,List.length_cons,List.length_nil,List.length_set,List.cons_append,List.nil_append,List.append_nil,List.replicate,List.size_toArray,List.all_cons,List.all_nil,Bool.and_self,Bool.and_true,List.drop_zero,List.drop_succ_cons,List.take_succ_cons,List.take_zero,List.set_cons_zero,List.set_cons_succ,List.getElem?_cons_zero,List.getElem?_cons_succ,Option.map_some,Option.map_none,ne_eq,not_false_eq_true,not_true_eq_false,gt_iff_lt,ge_iff_le,Int.one_mul,Nat.zero_add,Nat.zero_mul,Bool.not_true,Bool.not_false,Bool.false_eq_true,Bool.and_false,Bool.false_and,Bool.true_and, *])); repeat' ((first | (with_reducible refine fun _ : True => ?_) | refine hr _ _ (fun ra2 rc2 G2 hB2 hg2 => ?_)  | (with_reducible refine any_h ?_) | ((first | refine AllocQ_i ?_ | refine AllocO_i ?_); intro bk hb0 hbk; (try simp only [set_none'] at hbk); (try (first | have hbn := Grow.none (by assumption) hbk | have hbn := Grow.none (by assumption) hbk.2 | have hbn := Grow.none (by assumption) hbk.2.2 | have hbn := Grow.none (by assumption) hbk.2.2.2 | have hbn := Grow.none (by assumption) hbk.2.2.2.2 | have hbn := Grow.none (by assumption) hbk.2.2.2.2.2)); (try simp only [set_none'] at hbn); (try (first | have hbm := Grow.none (by assumption) hbn | have hbm := Grow.none (by assumption) hbn.2 | have hbm := Grow.none (by assumption) hbn.2.2 | have hbm := Grow.none (by assumption) hbn.2.2.2 | have hbm := Grow.none (by assumption) hbn.2.2.2.2 | have hbm := Grow.none (by assumption) hbn.2.2.2.2.2)); (try simp only [set_none'] at hbm)) | ((first | refine condS_i ?_ ?_ | refine pick_i ?_ ?_ | refine gS_it ?_ ?_ | refine gS_if ?_ ?_ | refine gP_it ?_ ?_ | refine gP_if ?_ ?_) <;> (intro hc; try simp only [Int.reduceLE,Int.reduceLT,Int.reduceEq,and_self,not_true_eq_false,not_false_eq_true,and_true,true_and,false_and,and_false,true_or,or_true,false_or,or_false,decide_eq_true_eq,decide_eq_false_iff_not,beq_iff_eq,beq_eq_false_iff_ne,bne_iff_ne,ne_eq,gt_iff_lt,ge_iff_le,Bool.not_eq_true,Bool.not_eq_false,Bool.not_eq_true',Bool.not_eq_false',Bool.not_eq_eq_eq_not,Bool.not_true,Bool.not_false] at hc)) | (refine KP_i (by (repeat' (first | exact Heap.Le.refl _ | (with_reducible refine Le_set2 ?_) | (refine Le_known (by first | (simp only [Heap.set_same, set_ne, ne_eq, not_false_eq_true, *] <;> rfl) | fail) ?_) | (refine Le_fresh (by first | (simp only [*] <;> done) | (simp [set_none', Heap.set_same, set_ne, noneH, *] <;> done) | fail) ?_) | (refine Heap.Le.trans ?_ (Grow.le (by assumption))) | exact Le_none | (refine Le_put ?_ (by first | (simp only [Heap.set_same, set_ne, ne_eq, not_false_eq_true, *] <;> rfl) | fail)) | fail))) ?_) | (with_reducible refine And.intro ?_ ?_)) <;> (try simp only [Sh,Si,Sl,Bu,Bb,Bd,Bc,Bw,Bn,Int.reduceAdd,Int.reduceSub,Int.reduceMul,Int.reduceTDiv,Int.reduceTMod,Int.reduceMod,Int.reduceDiv,Nat.reduceLT,Nat.reduceEqDiff,decide_true,decide_false,Sa,Sb,Sc,Sd,Se,Sf,Sg,true_and,and_true,and_self,eq_self,b_i64,b_i32,b_u64,b_u32,b_u8,Int.reduceLE,Int.reduceLT,Int.reduceToNat,Int.reduceNeg,Int.reduceEq,Nat.reduceLeDiff,Nat.reducePow,Int.reducePow,Nat.min_def,reduceIte,Nat.reduceSub,Nat.reduceAdd,Nat.reduceMul,KP_same,KP_f,condS_t,condS_f,pick_t,pick_f,gS_tt,gS_ff,gS_tf,gS_ft,gS_u,gP_tt,gP_ff,gP_tf,gP_ft,gP_u,ptrV_eq,slcV_eq,mapV_eq,cells_agg,cells_int,cells_bool,cells_ptr,cells_slice,oc_int,oc_bool,oc_slice,oc_ptr,rd1_set,rd1_ne,rdn_set,rdn_ne,Heap.set_same,set_ne,Heap.set_set,set_up,set_up2,set_up3,putAt,ceq,List.map_cons,List.map_nil,List.length_cons,List.length_nil,List.length_set,List.cons_append,List.nil_append,List.append_nil,List.replicate,List.size_toArray,List.all_cons,List.all_nil,Bool.and_self,Bool.and_true,List.drop_zero,List.drop_succ_cons,List.take_succ_cons,List.take_zero,List.set_cons_zero,List.set_cons_succ,List.getElem?_cons_zero,List.getElem?_cons_succ,Option.map_some,Option.map_none,ne_eq,not_false_eq_true,not_true_eq_false,gt_iff_lt,ge_iff_le,Int.one_mul,Nat.zero_add,Nat.zero_mul,Bool.not_true,Bool.not_false,Bool.false_eq_true,Bool.and_false,Bool.false_and,Bool.true_and, *]))
        rcases hB2 with ⟨b2, z2, rfl, r1, r2, r3, -⟩ | ⟨-, e⟩
        rotate_left
        · simp at e
        have kw2 := hg2.some kwF
        have hne := blk_ne kwF b2 r2
        have ffw : ∀ k, rd1 w0 G2 bw k = _ := fun k => by unfold rd1; rw [kw2]
        simp only [List.map_cons, List.map_nil, List.cons_append, List.nil_append] at r3 ffw
        have hgl := hg2.le
        rw [root1 r3]
        clear r3 kw2 kwF hg2 hr h
        (all_goals (try simp only [Sh,Si,Sl,Bu,Bb,Bd,Bc,Bw,Bn,Int.reduceAdd,Int.reduceSub,Int.reduceMul,Int.reduceTDiv,Int.reduceTMod,Int.reduceMod,Int.reduceDiv,Nat.reduceLT,Nat.reduceEqDiff,decide_true,decide_false,Sa,Sb,Sc,Sd,Se,Sf,Sg,true_and,and_true,and_self,eq_self,b_i64,b_i32,b_u64,b_u32,b_u8,Int.reduceLE,Int.reduceLT,Int.reduceToNat,Int.reduceNeg,Int.reduceEq,Nat.reduceLeDiff,Nat.reducePow,Int.reducePow,Nat.min_def,reduceIte,Nat.reduceSub,Nat.reduceAdd,Nat.reduceMul,KP_same,KP_f,condS_t,condS_f,pick_t,pick_f,gS_tt,gS_ff,gS_tf,gS_ft,gS_u,gP_tt,gP_ff,gP_tf,gP_ft,gP_u,ptrV_eq,slcV_eq,mapV_eq,cells_agg,cells_int,cells_bool,cells_ptr,cells_slice,oc_int,oc_bool,oc_slice,oc_ptr,rd1_set,rd1_ne,rdn_set,rdn_ne,Heap.set_same,set_ne,Heap.set_set,set_up,set_up2,set_up3,putAt,ceq,List.map_cons,List.map_nil,List.length_cons,List.length_nil,List.length_set,List.cons_append,List.nil_append,List.append_nil,List.replicate,List.size_toArray,List.all_cons,List.all_nil,Bool.and_self,Bool.and_true,List.drop_zero,List.drop_succ_cons,List.take_succ_cons,List.take_zero,List.set_cons_zero,List.set_cons_succ,List.getElem?_cons_zero,List.getElem?_cons_succ,Option.map_some,Option.map_none,ne_eq,not_false_eq_true,not_true_eq_false,gt_iff_lt,ge_iff_le,Int.one_mul,Nat.zero_add,Nat.zero_mul,Bool.not_true,Bool.not_false,Bool.false_eq_true,Bool.and_false,Bool.false_and,Bool.true_and, *])); repeat' ((first | (with_reducible refine fun _ : True => ?_) | (with_reducible refine any_h ?_) | ((first | refine AllocQ_i ?_ | refine AllocO_i ?_); intro bk hb0 hbk; (try simp only [set_none'] at hbk); (try (first | have hbn := Grow.none (by assumption) hbk | have hbn := Grow.none (by assumption) hbk.2 | have hbn := Grow.none (by assumption) hbk.2.2 | have hbn := Grow.none (by assumption) hbk.2.2.2 | have hbn := Grow.none (by assumption) hbk.2.2.2.2 | have hbn := Grow.none (by assumption) hbk.2.2.2.2.2)); (try simp only [set_none'] at hbn); (try (first | have hbm := Grow.none (by assumption) hbn | have hbm := Grow.none (by assumption) hbn.2 | have hbm := Grow.none (by assumption) hbn.2.2 | have hbm := Grow.none (by assumption) hbn.2.2.2 | have hbm := Grow.none (by assumption) hbn.2.2.2.2 | have hbm := Grow.none (by assumption) hbn.2.2.2.2.2)); (try simp only [set_none'] at hbm)) | ((first | refine condS_i ?_ ?_ | refine pick_i ?_ ?_ | refine gS_it ?_ ?_ | refine gS_if ?_ ?_ | refine gP_it ?_ ?_ | refine gP_if ?_ ?_) <;> (intro hc; try simp only [Int.reduceLE,Int.reduceLT,Int.reduceEq,and_self,not_true_eq_false,not_false_eq_true,and_true,true_and,false_and,and_false,true_or,or_true,false_or,or_false,decide_eq_true_eq,decide_eq_false_iff_not,beq_iff_eq,beq_eq_false_iff_ne,bne_iff_ne,ne_eq,gt_iff_lt,ge_iff_le,Bool.not_eq_true,Bool.not_eq_false,Bool.not_eq_true',Bool.not_eq_false',Bool.not_eq_eq_eq_not,Bool.not_true,Bool.not_false] at hc)) | (refine KP_i (by (repeat' (first | exact Heap.Le.refl _ | (with_reducible refine Le_set2 ?_) | (refine Le_known (by first | (simp only [Heap.set_same, set_ne, ne_eq, not_false_eq_true, *] <;> rfl) | fail) ?_) | (refine Le_fresh (by first | (simp only [*] <;> done) | (simp [set_none', Heap.set_same, set_ne, noneH, *] <;> done) | fail) ?_) | (refine Heap.Le.trans ?_ (Grow.le (by assumption))) | exact Le_none | (refine Le_put ?_ (by first | (simp only [Heap.set_same, set_ne, ne_eq, not_false_eq_true, *] <;> rfl) | fail)) | fail))) ?_) | (with_reducible refine loop_u ?_) | (with_reducible refine And.intro ?_ ?_)) <;> (try simp only [Sh,Si,Sl,Bu,Bb,Bd,Bc,Bw,Bn,Int.reduceAdd,Int.reduceSub,Int.reduceMul,Int.reduceTDiv,Int.reduceTMod,Int.reduceMod,Int.reduceDiv,Nat.reduceLT,Nat.reduceEqDiff,decide_true,decide_false,Sa,Sb,Sc,Sd,Se,Sf,Sg,true_and,and_true,and_self,eq_self,b_i64,b_i32,b_u64,b_u32,b_u8,Int.reduceLE,Int.reduceLT,Int.reduceToNat,Int.reduceNeg,Int.reduceEq,Nat.reduceLeDiff,Nat.reducePow,Int.reducePow,Nat.min_def,reduceIte,Nat.reduceSub,Nat.reduceAdd,Nat.reduceMul,KP_same,KP_f,condS_t,condS_f,pick_t,pick_f,gS_tt,gS_ff,gS_tf,gS_ft,gS_u,gP_tt,gP_ff,gP_tf,gP_ft,gP_u,ptrV_eq,slcV_eq,mapV_eq,cells_agg,cells_int,cells_bool,cells_ptr,cells_slice,oc_int,oc_bool,oc_slice,oc_ptr,rd1_set,rd1_ne,rdn_set,rdn_ne,Heap.set_same,set_ne,Heap.set_set,set_up,set_up2,set_up3,putAt,ceq,List.map_cons,List.map_nil,List.length_cons,List.length_nil,List.length_set,List.cons_append,List.nil_append,List.append_nil,List.replicate,List.size_toArray,List.all_cons,List.all_nil,Bool.and_self,Bool.and_true,List.drop_zero,List.drop_succ_cons,List.take_succ_cons,List.take_zero,List.set_cons_zero,List.set_cons_succ,List.getElem?_cons_zero,List.getElem?_cons_succ,Option.map_some,Option.map_none,ne_eq,not_false_eq_true,not_true_eq_false,gt_iff_lt,ge_iff_le,Int.one_mul,Nat.zero_add,Nat.zero_mul,Bool.not_true,Bool.not_false,Bool.false_eq_true,Bool.and_false,Bool.false_and,Bool.true_and, *]))
        any_goals first
          | with_reducible exact nl1 _
          | with_reducible exact nl2 _
          | with_reducible exact nl3 _
          | with_reducible exact nl4 _
          | with_reducible exact nl5 _
          | with_reducible exact nl6 _
        first
          | (have q3 := x3; exact Round_mk (r + 1, (_, _), G2.set b2 ⟨.t 3, .int .i64 (-9) :: .int .i64 (-9) :: .int .i64 (-9) :: z2⟩) ⟨hlt, le_new hF r2 hgl⟩ (Nat.sub_succ_lt_self 2 r hlt) (Heap.Le.refl _) rfl rfl)
          | (have q2 := x2; exact Round_mk (r + 1, (_, _), G2.set b2 ⟨.t 3, .int .i64 (-9) :: .int .i64 (-9) :: z2⟩) ⟨hlt, le_new hF r2 hgl⟩ (Nat.sub_succ_lt_self 2 r hlt) (Heap.Le.refl _) rfl rfl)
          | exact Round_mk (r + 1, (_, _), G2.set b2 ⟨.t 3, .int .i64 (-9) :: z2⟩) ⟨hlt, le_new hF r2 hgl⟩ (Nat.sub_succ_lt_self 2 r hlt) (Heap.Le.refl _) rfl rfl
    · obtain rfl : r = 2 := by omega
      have t0 : ¬ ((2 : Nat) : Int) < 2 := by omega
      clear hr hcase
      (all_goals (try simp only [Sh,Si,Sl,Bu,Bb,Bd,Bc,Bw,Bn,Int.reduceAdd,Int.reduceSub,Int.reduceMul,Int.reduceTDiv,Int.reduceTMod,Int.reduceMod,Int.reduceDiv,Nat.reduceLT,Nat.reduceEqDiff,decide_true,decide_false,Sa,Sb,Sc,Sd,Se,Sf,Sg,true_and,and_true,and_self,eq_self,b_i64,b_i32,b_u64,b_u32,b_u8,Int.reduceLE,Int.reduceLT,Int.reduceToNat,Int.reduceNeg,Int.reduceEq,Nat.reduceLeDiff,Nat.reducePow,Int.reducePow,Nat.min_def,reduceIte,Nat.reduceSub,Nat.reduceAdd,Nat.reduceMul,KP_same,KP_f,condS_t,condS_f,pick_t,pick_f,gS_tt,gS_ff,gS_tf,gS_ft,gS_u,gP_tt,gP_ff,gP_tf,gP_ft,gP_u,ptrV_eq,slcV_eq,mapV_eq,cells_agg,cells_int,cells_bool,cells_ptr,cells_slice,oc_int,oc_bool,oc_slice,oc_ptr,rd1_set,rd1_ne,rdn_set,rdn_ne,Heap.set_same,set_ne,Heap.set_set,set_up,set_up2,set_up3,putAt,ceq,List.map_cons,List.map_nil,List.length_cons,List.length_nil,List.length_set,List.cons_append,List.nil_append,List.append_nil,List.replicate,List.size_toArray,List.all_cons,List.all_nil,Bool.and_self,Bool.and_true,List.drop_zero,List.drop_succ_cons,List.take_succ_cons,List.take_zero,List.set_cons_zero,List.set_cons_succ,List.getElem?_cons_zero,List.getElem?_cons_succ,Option.map_some,Option.map_none,ne_eq,not_false_eq_true,not_true_eq_false,gt_iff_lt,ge_iff_le,Int.one_mul,Nat.zero_add,Nat.zero_mul,Bool.not_true,Bool.not_false,Bool.false_eq_true,Bool.and_false,Bool.false_and,Bool.true_and, *])); repeat' ((first | (with_reducible refine fun _ : True => ?_) | (with_reducible refine any_h ?_) | ((first | refine AllocQ_i ?_ | refine AllocO_i ?_); intro bk hb0 hbk; (try simp only [set_none'] at hbk); (try (first | have hbn := Grow.none (by assumption) hbk | have hbn := Grow.none (by assumption) hbk.2 | have hbn := Grow.none (by assumption) hbk.2.2 | have hbn := Grow.none (by assumption) hbk.2.2.2 | have hbn := Grow.none (by assumption) hbk.2.2.2.2 | have hbn := Grow.none (by assumption) hbk.2.2.2.2.2)); (try simp only [set_none'] at hbn); (try (first | have hbm := Grow.none (by assumption) hbn | have hbm := Grow.none (by assumption) hbn.2 | have hbm := Grow.none (by assumption) hbn.2.2 | have hbm := Grow.none (by assumption) hbn.2.2.2 | have hbm := Grow.none (by assumption) hbn.2.2.2.2 | have hbm := Grow.none (by assumption) hbn.2.2.2.2.2)); (try simp only [set_none'] at hbm)) | ((first | refine condS_i ?_ ?_ | refine pick_i ?_ ?_ | refine gS_it ?_ ?_ | refine gS_if ?_ ?_ | refine gP_it ?_ ?_ | refine gP_if ?_ ?_) <;> (intro hc; try simp only [Int.reduceLE,Int.reduceLT,Int.reduceEq,and_self,not_true_eq_false,not_false_eq_true,and_true,true_and,false_and,and_false,true_or,or_true,false_or,or_false,decide_eq_true_eq,decide_eq_false_iff_not,beq_iff_eq,beq_eq_false_iff_ne,bne_iff_ne,ne_eq,gt_iff_lt,ge_iff_le,Bool.not_eq_true,Bool.not_eq_false,Bool.not_eq_true',Bool.not_eq_false',Bool.not_eq_eq_eq_not,Bool.not_true,Bool.not_false] at hc)) | (refine KP_i (by (repeat' (first | exact Heap.Le.refl _ | (with_reducible refine Le_set2 ?_) | (refine Le_known (by first | (simp only [Heap.set_same, set_ne, ne_eq, not_false_eq_true, *] <;> rfl) | fail) ?_) | (refine Le_fresh (by first | (simp only [*] <;> done) | (simp [set_none', Heap.set_same, set_ne, noneH, *] <;> done) | fail) ?_) | (refine Heap.Le.trans ?_ (Grow.le (by assumption))) | exact Le_none | (refine Le_put ?_ (by first | (simp only [Heap.set_same, set_ne, ne_eq, not_false_eq_true, *] <;> rfl) | fail)) | fail))) ?_) | (with_reducible refine And.intro ?_ ?_)) <;> (try simp only [Sh,Si,Sl,Bu,Bb,Bd,Bc,Bw,Bn,Int.reduceAdd,Int.reduceSub,Int.reduceMul,Int.reduceTDiv,Int.reduceTMod,Int.reduceMod,Int.reduceDiv,Nat.reduceLT,Nat.reduceEqDiff,decide_true,decide_false,Sa,Sb,Sc,Sd,Se,Sf,Sg,true_and,and_true,and_self,eq_self,b_i64,b_i32,b_u64,b_u32,b_u8,Int.reduceLE,Int.reduceLT,Int.reduceToNat,Int.reduceNeg,Int.reduceEq,Nat.reduceLeDiff,Nat.reducePow,Int.reducePow,Nat.min_def,reduceIte,Nat.reduceSub,Nat.reduceAdd,Nat.reduceMul,KP_same,KP_f,condS_t,condS_f,pick_t,pick_f,gS_tt,gS_ff,gS_tf,gS_ft,gS_u,gP_tt,gP_ff,gP_tf,gP_ft,gP_u,ptrV_eq,slcV_eq,mapV_eq,cells_agg,cells_int,cells_bool,cells_ptr,cells_slice,oc_int,oc_bool,oc_slice,oc_ptr,rd1_set,rd1_ne,rdn_set,rdn_ne,Heap.set_same,set_ne,Heap.set_set,set_up,set_up2,set_up3,putAt,ceq,List.map_cons,List.map_nil,List.length_cons,List.length_nil,List.length_set,List.cons_append,List.nil_append,List.append_nil,List.replicate,List.size_toArray,List.all_cons,List.all_nil,Bool.and_self,Bool.and_true,List.drop_zero,List.drop_succ_cons,List.take_succ_cons,List.take_zero,List.set_cons_zero,List.set_cons_succ,List.getElem?_cons_zero,List.getElem?_cons_succ,Option.map_some,Option.map_none,ne_eq,not_false_eq_true,not_true_eq_false,gt_iff_lt,ge_iff_le,Int.one_mul,Nat.zero_add,Nat.zero_mul,Bool.not_true,Bool.not_false,Bool.false_eq_true,Bool.and_false,Bool.false_and,Bool.true_and, *]))
      exact Fin_mk (hlG.trans hF) h
end Go.Proofs.Ytndgmnmnpfblmaa
