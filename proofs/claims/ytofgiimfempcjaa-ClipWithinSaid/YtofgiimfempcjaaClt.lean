/- The statement on triangles, as a call (layer 21). -/
import Derived.Test.YtofgiimfempcjaaClw
import Derived.Test.YtofgiimfempcjaaClk
import Derived.Test.YtofgiimfempcjaaClx
set_option linter.unusedSimpArgs false
set_option linter.unusedVariables false
set_option maxRecDepth 100000
set_option maxHeartbeats 8000000
namespace Go.Proofs.Ytofgiimfempcjaa
open Go Go.HL Go.RowKit Pb
variable {w0 : World} {H : Heap} {K : Value → Heap → Prop}

theorem slat_of {b o n : Nat} {cs : List Value} (h : rdn w0 H b o n = some cs) : SlAt w0 H (some ⟨b, o, none⟩) cs := fun hc => ⟨b, o, rfl, fun i hi => by
  have hl : cs.length = n := by
    have hp : 0 < cs.length := List.length_pos_iff.2 hc
    rcases Nat.eq_zero_or_pos n with e | e
    · subst e
      unfold rdn at h
      split at h
      · split at h <;> simp at h; exact (hc h).elim
      · split at h <;> simp [ron] at h; exact (hc h).elim
    · exact (rd1_of_rdn h e).2
  exact (rd1_of_rdn h (by omega)).1⟩
theorem wins3 {b o : Nat} {x : WnR × WnR × WnR} (h : rdn w0 H b o 18 = some (triT.row x)) (hok : ∀ v ∈ triT.vs x, VsOk w0 H v.1 v.2.1 v.2.2) : RO winT w0 H (some ⟨b, o, none⟩) 3 [x.1, x.2.1, x.2.2] :=
  ⟨by have := slat_of h; simpa using this, by simp, fun z hz v hv => by
    simp only [List.mem_cons, List.not_mem_nil, or_false] at hz
    rcases hz with rfl | rfl | rfl <;> (simp only [List.mem_cons, List.not_mem_nil, or_false] at hv; subst hv; exact hok _ (by simp))⟩
theorem triA_len (v : Vw) {l : List Vt} (hl : l.length ≤ 3) : (triA v l).length ≤ 384 := by
  have := cutN_le3 hl (Nat.le_refl 7) rfl
  unfold triA
  split
  · rw [fanK_len]; omega
  · simp
/- paintboxlaw21 ClipTriangles -/
def M3 : MC :=
  .seq (.reg [⟨(some 2), .box 24 (.tmp 0), none⟩,
     ⟨(some 3), .box 31 (.tmp 1), none⟩,
     ⟨(some 4), .mv (.const (.bool false)), none⟩])
  (.seq (.seq (.reg [⟨(some 9), .call 10 [], none⟩,
       ⟨(some 10), .un .not (.tmp 9), none⟩])
    (.cond (.tmp 10)
     (.seq (.reg [⟨(some 4), .mv (.const (.bool false)), none⟩])
      (.ret))
     (.skip)))
   (.seq (.reg [⟨(some 12), .ldn 6 (.tmp 2), none⟩,
       ⟨(some 13), .fa 0 (.tmp 3), none⟩,
       ⟨(some 14), .ldn 6 (.tmp 13), none⟩,
       ⟨(some 15), .fa 6 (.tmp 3), none⟩,
       ⟨(some 16), .ldn 6 (.tmp 15), none⟩,
       ⟨(some 17), .fa 12 (.tmp 3), none⟩,
       ⟨(some 18), .ldn 6 (.tmp 17), none⟩,
       ⟨(some 19), .call 11 [(.tmp 12), (.tmp 14), (.tmp 16), (.tmp 18)], none⟩,
       ⟨(some 11), .mv (.tmp 19), none⟩,
       ⟨(some 20), .ext 0 (.tmp 11), none⟩,
       ⟨(some 21), .ext 1 (.tmp 11), none⟩,
       ⟨(some 5), .mv (.tmp 20), none⟩,
       ⟨(some 6), .mv (.tmp 21), none⟩])
    (.seq (.seq (.reg [⟨(some 22), .ldn 6 (.tmp 2), none⟩,
         ⟨(some 23), .call 12 [(.tmp 22)], none⟩,
         ⟨(some 24), .un .not (.tmp 23), none⟩,
         ⟨(some 25), .mv (.tmp 24), none⟩,
         ⟨(some 26), .fa 0 (.tmp 3), (some (25, false))⟩,
         ⟨(some 27), .ldn 6 (.tmp 26), (some (25, false))⟩,
         ⟨(some 28), .fa 6 (.tmp 3), (some (25, false))⟩,
         ⟨(some 29), .ldn 6 (.tmp 28), (some (25, false))⟩,
         ⟨(some 30), .fa 12 (.tmp 3), (some (25, false))⟩,
         ⟨(some 31), .ldn 6 (.tmp 30), (some (25, false))⟩,
         ⟨(some 32), .bslice 29 3 [(.int .i32 0), (.int .i32 0), (.int .i32 0), (.int .i32 0), (.int .i32 0), (.slice none 0 0), (.int .i32 0), (.int .i32 0), (.int .i32 0), (.int .i32 0), (.int .i32 0), (.slice none 0 0), (.int .i32 0), (.int .i32 0), (.int .i32 0), (.int .i32 0), (.int .i32 0), (.slice none 0 0)] [(0, 6, (.tmp 27)), (6, 6, (.tmp 29)), (12, 6, (.tmp 31))], (some (25, false))⟩,
         ⟨(some 33), .call 13 [(.tmp 32)], (some (25, false))⟩,
         ⟨(some 34), .un .not (.tmp 33), (some (25, false))⟩,
         ⟨(some 35), .pick (.tmp 25) (.const (.bool true)) (.tmp 34), none⟩])
      (.cond (.tmp 35)
       (.seq (.reg [⟨(some 36), .mv (.tmp 5), none⟩,
           ⟨(some 37), .len (.tmp 36), none⟩,
           ⟨(some 38), .bin .eql (.tmp 37) (.const (.int .i64 0)), none⟩,
           ⟨(some 39), .mv (.tmp 38), none⟩,
           ⟨(some 40), .mv (.tmp 6), (some (39, true))⟩,
           ⟨(some 41), .bin .eql (.tmp 40) (.const (.int .i64 2)), (some (39, true))⟩,
           ⟨(some 42), .pick (.tmp 39) (.tmp 41) (.const (.bool false)), none⟩,
           ⟨(some 4), .mv (.tmp 42), none⟩])
        (.ret))
       (.skip)))
     (.seq (.reg [⟨(some 43), .ldn 6 (.tmp 2), none⟩,
         ⟨(some 44), .fa 0 (.tmp 3), none⟩,
         ⟨(some 45), .ldn 6 (.tmp 44), none⟩,
         ⟨(some 46), .fa 6 (.tmp 3), none⟩,
         ⟨(some 47), .ldn 6 (.tmp 46), none⟩,
         ⟨(some 48), .fa 12 (.tmp 3), none⟩,
         ⟨(some 49), .ldn 6 (.tmp 48), none⟩,
         ⟨(some 50), .bslice 29 3 [(.int .i32 0), (.int .i32 0), (.int .i32 0), (.int .i32 0), (.int .i32 0), (.slice none 0 0), (.int .i32 0), (.int .i32 0), (.int .i32 0), (.int .i32 0), (.int .i32 0), (.slice none 0 0), (.int .i32 0), (.int .i32 0), (.int .i32 0), (.int .i32 0), (.int .i32 0), (.slice none 0 0)] [(0, 6, (.tmp 45)), (6, 6, (.tmp 47)), (12, 6, (.tmp 49))], none⟩,
         ⟨(some 51), .call 14 [(.tmp 43), (.tmp 50)], none⟩,
         ⟨(some 7), .mv (.tmp 51), none⟩])
      (.seq (.seq (.reg [⟨(some 52), .mv (.tmp 6), none⟩,
           ⟨(some 53), .bin .neq (.tmp 52) (.const (.int .i64 0)), none⟩,
           ⟨(some 54), .mv (.tmp 53), none⟩,
           ⟨(some 55), .mv (.tmp 5), (some (54, false))⟩,
           ⟨(some 56), .len (.tmp 55), (some (54, false))⟩,
           ⟨(some 57), .mv (.tmp 7), (some (54, false))⟩,
           ⟨(some 58), .len (.tmp 57), (some (54, false))⟩,
           ⟨(some 59), .bin .neq (.tmp 56) (.tmp 58), (some (54, false))⟩,
           ⟨(some 60), .pick (.tmp 54) (.const (.bool true)) (.tmp 59), none⟩])
        (.cond (.tmp 60)
         (.seq (.reg [⟨(some 4), .mv (.const (.bool false)), none⟩])
          (.ret))
         (.skip)))
       (.seq (.seq (.reg [⟨(some 61), .mv (.tmp 5), none⟩,
            ⟨(some 62), .len (.tmp 61), none⟩,
            ⟨(some 63), .mv (.const (.int .i64 0)), none⟩])
         (.block 0 (.loop (.seq (.reg [⟨(some 64), .bin .lss (.tmp 63) (.tmp 62), none⟩])
            (.seq (.cond (.tmp 64)
              (.skip)
              (.exit 0))
             (.seq (.block 1 (.seq (.reg [⟨(some 65), .mv (.tmp 63), none⟩,
                   ⟨(some 8), .mv (.tmp 65), none⟩])
                (.seq (.any [(true, true, ⟨(some 66), .mv (.tmp 5), none⟩),
                    (true, true, ⟨(some 67), .mv (.tmp 8), none⟩),
                    (true, true, ⟨(some 68), .is 18 (.tmp 66) (.tmp 67), none⟩),
                    (true, true, ⟨(some 69), .sla 3 6 (.tmp 68) none none, none⟩),
                    (true, true, ⟨(some 70), .mv (.tmp 7), none⟩),
                    (false, true, ⟨(some 71), .mv (.tmp 8), none⟩),
                    (false, true, ⟨(some 72), .is 18 (.tmp 70) (.tmp 71), none⟩),
                    (false, true, ⟨(some 73), .sla 3 6 (.tmp 72) none none, none⟩),
                    (false, false, ⟨(some 74), .call 15 [(.tmp 69), (.tmp 73)], none⟩),
                    (false, false, ⟨(some 75), .un .not (.tmp 74), none⟩)])
                 (.cond (.tmp 75)
                  (.seq (.reg [⟨(some 4), .mv (.const (.bool false)), none⟩])
                   (.ret))
                  (.skip)))))
              (.reg [⟨(some 76), .bin .add (.tmp 63) (.const (.int .i64 1)), none⟩,
                 ⟨(some 63), .mv (.tmp 76), none⟩])))))))
        (.seq (.reg [⟨(some 4), .mv (.const (.bool true)), none⟩])
         (.ret))))))))
theorem k3 : fnOk Try.prog 3 = some (M3, [.t 4], 77) := by kernel_rfl

theorem l_ClipTriangles (v : Vw) (A B C : VtR) (hvi : I64 v.x ∧ I64 v.y ∧ I64 v.w ∧ I64 v.h) (hA : VtOk w0 H A) (hB : VtOk w0 H B) (hC : VtOk w0 H C) (h : K (.bool true) H) : HCalls Try.prog w0 3 [v.v, threeV A B C] H K := by
  have cA : ∀ (G : Heap) (K : Value → Heap → Prop), K (.bool true) G → HCalls Try.prog w0 10 [] G K := fun G K hk => l_wakes hk
  have rR : ∀ (G : Heap) (K : Value → Heap → Prop), K (.bool (decide v.right)) G → HCalls Try.prog w0 12 [v.v] G K := fun G K hk => r_Right v hvi hk
  have hall : ∀ (G : Heap) (b : Nat) (t : TypeId), Grow w0 H G → G b = some ⟨t, A.row ++ B.row ++ C.row⟩ → RowsOk w0 G (some ⟨b, 0, none⟩) 3 [A, B, C] := fun G b t g e => ⟨.blk (z := []) (by rw [List.append_nil]; simpa using e), by simp, by simp [maxLen], fun y hy => by
    simp only [List.mem_cons, List.not_mem_nil, or_false] at hy
    rcases hy with rfl | rfl | rfl
    · exact hA.grow g
    · exact hB.grow g
    · exact hC.grow g⟩
  by_cases hg : v.right ∧ Al [A.toVt, B.toVt, C.toVt]
  · have cT : ∀ (G : Heap) (K : Value → Heap → Prop), Grow w0 H G → (∀ a' cap' (ts : List (WnR × WnR × WnR)) H', ts.map triC = triA v [A.toVt, B.toVt, C.toVt] → RO triT w0 H' a' cap' ts → Grow w0 G H' → K (.tuple #[.slice a' ts.length cap', .int .i64 0]) H') → HCalls Try.prog w0 11 [v.v, A.v, B.v, C.v] G K := fun G K g hk => c_Triangle v A B C hvi (hA.grow g) (hB.grow g) (hC.grow g) (fun _ => hk) (fun hh => (hh hg).elim)
    obtain ⟨g1, g2⟩ := hg
    obtain ⟨mv, hmv⟩ := al_ali g2
    have rA : ∀ (b : Nat) (t : TypeId) (G : Heap) (K : Value → Heap → Prop), Grow w0 H G → G b = some ⟨t, A.row ++ B.row ++ C.row⟩ → K (.bool true) G → HCalls Try.prog w0 13 [.slice (some ⟨b, 0, none⟩) 3 3] G K := fun b t G K g e hk => r_Alike (some ⟨b, 0, none⟩) 3 [A, B, C] (hall G b t g e) (fun _ => hk) (fun hh => (hh g2).elim)
    have rT : ∀ (b : Nat) (t : TypeId) (G : Heap) (K : Value → Heap → Prop), Grow w0 H G → G b = some ⟨t, A.row ++ B.row ++ C.row⟩ → (∀ a' cap' (ts : List (WnR × WnR × WnR)) H', ts.map triC = triA v [A.toVt, B.toVt, C.toVt] → RO triT w0 H' a' cap' ts → Grow w0 G H' → K (.slice a' ts.length cap') H') → HCalls Try.prog w0 14 [v.v, .slice (some ⟨b, 0, none⟩) 3 3] G K := fun b t G K g e hk => r_Triangle v (some ⟨b, 0, none⟩) 3 [A, B, C] g1 (hall G b t g e) hmv (by simp) hk
    have htl := triA_len v (l := [A.toVt, B.toVt, C.toVt]) (by simp)
    clear hall hA hB hC
    unfold VtR.row at rA rT
    unfold threeV VtR.v Vw.v at *
    refine HL.hc k3 2000 ?_; unfold M3
    (all_goals (refine (fun f : True → _ => f trivial) ?_)); repeat' ((first | (with_reducible refine fun _ : True => ?_) | refine cA _ _ ?_ | refine cT _ _ (by (repeat' (first | exact Grow.refl _ | assumption | (refine Grow_known (by first | (simp only [Heap.set_same, set_ne, ne_eq, not_false_eq_true, *] <;> rfl) | fail) ?_) | (refine Grow.set ?_ (by assumption) (by first | (simp only [*] <;> done) | (simp [set_none', Heap.set_same, set_ne, *] <;> done) | fail)) | (refine Grow.trans ?_ (by assumption))))) (fun a2 c2 ts G2 ht2 hR2 hg2 => ?_)  | refine rR _ _ ?_ | (refine AllocQ_i ?_; intro bk hb0 hbk; (try simp only [set_none'] at hbk); (try (first | have hbn := Grow.none (by assumption) hbk | have hbn := Grow.none (by assumption) hbk.2 | have hbn := Grow.none (by assumption) hbk.2.2 | have hbn := Grow.none (by assumption) hbk.2.2.2 | have hbn := Grow.none (by assumption) hbk.2.2.2.2 | have hbn := Grow.none (by assumption) hbk.2.2.2.2.2)); (try simp only [set_none'] at hbn); (try (first | have hbm := Grow.none (by assumption) hbn | have hbm := Grow.none (by assumption) hbn.2 | have hbm := Grow.none (by assumption) hbn.2.2 | have hbm := Grow.none (by assumption) hbn.2.2.2 | have hbm := Grow.none (by assumption) hbn.2.2.2.2 | have hbm := Grow.none (by assumption) hbn.2.2.2.2.2)); (try simp only [set_none'] at hbm)) | ((first | refine condS_i ?_ ?_ | refine pick_i ?_ ?_ | refine gS_it ?_ ?_ | refine gS_if ?_ ?_ | refine gP_it ?_ ?_ | refine gP_if ?_ ?_) <;> (intro hc; try simp only [Int.reduceLE,Int.reduceLT,Int.reduceEq,and_self,not_true_eq_false,not_false_eq_true,and_true,true_and,false_and,and_false,true_or,or_true,false_or,or_false,decide_eq_true_eq,decide_eq_false_iff_not,beq_iff_eq,beq_eq_false_iff_ne,bne_iff_ne,ne_eq,gt_iff_lt,ge_iff_le,Bool.not_eq_true,Bool.not_eq_false,Bool.not_eq_true',Bool.not_eq_false',Bool.not_eq_eq_eq_not,Bool.not_true,Bool.not_false] at hc)) | (refine KP_i (by (repeat' (first | exact Heap.Le.refl _ | (refine Le_known (by first | (simp only [Heap.set_same, set_ne, ne_eq, not_false_eq_true, *] <;> rfl) | fail) ?_) | (refine Le_fresh (by first | (simp only [*] <;> done) | (simp [set_none', Heap.set_same, set_ne, *] <;> done) | fail) ?_) | (refine Heap.Le.trans ?_ (Grow.le (by assumption)))))) ?_) | (with_reducible refine And.intro ?_ ?_)) <;> (try simp only [Sh,Si,Sl,Bu,Bb,Bd,Bc,Bw,Bn,Int.reduceAdd,Int.reduceSub,Int.reduceMul,Int.reduceTDiv,Int.reduceTMod,Int.reduceMod,Int.reduceDiv,Nat.reduceLT,Nat.reduceEqDiff,decide_true,decide_false,Sa,Sb,Sc,Sd,Se,Sf,Sg,true_and,and_true,and_self,eq_self,b_i64,b_i32,b_u64,b_u32,b_u8,Int.reduceLE,Int.reduceLT,Int.reduceToNat,Int.reduceNeg,Int.reduceEq,Nat.reduceLeDiff,Nat.reducePow,Int.reducePow,Nat.min_def,reduceIte,Nat.reduceSub,Nat.reduceAdd,Nat.reduceMul,KP_same,KP_f,condS_t,condS_f,pick_t,pick_f,gS_tt,gS_ff,gS_tf,gS_ft,gS_u,gP_tt,gP_ff,gP_tf,gP_ft,gP_u,ptrV_eq,slcV_eq,cells_agg,cells_int,cells_bool,cells_ptr,cells_slice,oc_int,oc_bool,oc_slice,oc_ptr,rd1_set,rd1_ne,rdn_set,rdn_ne,Heap.set_same,set_ne,Heap.set_set,set_up,set_up2,set_up3,putAt,ceq,List.map_cons,List.map_nil,List.length_cons,List.length_nil,List.length_set,List.cons_append,List.nil_append,List.append_nil,List.replicate,List.size_toArray,List.all_cons,List.all_nil,Bool.and_self,Bool.and_true,List.drop_zero,List.drop_succ_cons,List.take_succ_cons,List.take_zero,List.set_cons_zero,List.set_cons_succ,List.getElem?_cons_zero,List.getElem?_cons_succ,Option.map_some,Option.map_none,ne_eq,not_false_eq_true,not_true_eq_false,gt_iff_lt,ge_iff_le,Int.one_mul,Nat.zero_add,Nat.zero_mul,Bool.not_true,Bool.not_false,Bool.false_eq_true,Bool.and_false,Bool.false_and,Bool.true_and, *]))
    rename_i b2 p2 q2
    obtain ⟨b3, rfl⟩ : ∃ q, q = bk := ⟨bk, rfl⟩
    have q3 := hbk
    have m2 := hg2.some (b := b2) (by simp only [Heap.set_same, set_ne, ne_eq, not_false_eq_true, *] <;> rfl)
    have m3 := hg2.some (b := b3) (by simp only [Heap.set_same, set_ne, ne_eq, not_false_eq_true, *] <;> rfl)
    have gH : Grow w0 H G2 := Grow.trans (by (repeat' (first | exact Grow.refl _ | assumption | (refine Grow_known (by first | (simp only [Heap.set_same, set_ne, ne_eq, not_false_eq_true, *] <;> rfl) | fail) ?_) | (refine Grow.set ?_ (by assumption) (by first | (simp only [*] <;> done) | (simp [set_none', Heap.set_same, set_ne, *] <;> done) | fail)) | (refine Grow.trans ?_ (by assumption))))) hg2
    clear cT hg2 cA
    have hlt : Keep (ts.length ≤ 384) := by unfold Keep; rw [← List.length_map (f := triC), ht2]; exact htl
    rw [root2 q3.1.2 m2 m3]
    (all_goals (refine (fun f : True → _ => f trivial) ?_)); repeat' ((first | (with_reducible refine fun _ : True => ?_) | refine rR _ _ ?_ | refine rA _ _ _ _ (by (repeat' (first | exact Grow.refl _ | assumption | (refine Grow_known (by first | (simp only [Heap.set_same, set_ne, ne_eq, not_false_eq_true, *] <;> rfl) | fail) ?_) | (refine Grow.set ?_ (by assumption) (by first | (simp only [*] <;> done) | (simp [set_none', Heap.set_same, set_ne, *] <;> done) | fail)) | (refine Grow.trans ?_ (by assumption))))) (by simp only [Heap.set_same, set_ne, ne_eq, not_false_eq_true, *] <;> rfl) ?_ | refine rT _ _ _ _ (by (repeat' (first | exact Grow.refl _ | assumption | (refine Grow_known (by first | (simp only [Heap.set_same, set_ne, ne_eq, not_false_eq_true, *] <;> rfl) | fail) ?_) | (refine Grow.set ?_ (by assumption) (by first | (simp only [*] <;> done) | (simp [set_none', Heap.set_same, set_ne, *] <;> done) | fail)) | (refine Grow.trans ?_ (by assumption))))) (by simp only [Heap.set_same, set_ne, ne_eq, not_false_eq_true, *] <;> rfl) (fun a3 c3 ts3 G3 ht3 hR3 hg3 => ?_)  | (refine AllocQ_i ?_; intro bk hb0 hbk; (try simp only [set_none'] at hbk); (try (first | have hbn := Grow.none (by assumption) hbk | have hbn := Grow.none (by assumption) hbk.2 | have hbn := Grow.none (by assumption) hbk.2.2 | have hbn := Grow.none (by assumption) hbk.2.2.2 | have hbn := Grow.none (by assumption) hbk.2.2.2.2 | have hbn := Grow.none (by assumption) hbk.2.2.2.2.2)); (try simp only [set_none'] at hbn); (try (first | have hbm := Grow.none (by assumption) hbn | have hbm := Grow.none (by assumption) hbn.2 | have hbm := Grow.none (by assumption) hbn.2.2 | have hbm := Grow.none (by assumption) hbn.2.2.2 | have hbm := Grow.none (by assumption) hbn.2.2.2.2 | have hbm := Grow.none (by assumption) hbn.2.2.2.2.2)); (try simp only [set_none'] at hbm)) | ((first | refine condS_i ?_ ?_ | refine pick_i ?_ ?_ | refine gS_it ?_ ?_ | refine gS_if ?_ ?_ | refine gP_it ?_ ?_ | refine gP_if ?_ ?_) <;> (intro hc; try simp only [Int.reduceLE,Int.reduceLT,Int.reduceEq,and_self,not_true_eq_false,not_false_eq_true,and_true,true_and,false_and,and_false,true_or,or_true,false_or,or_false,decide_eq_true_eq,decide_eq_false_iff_not,beq_iff_eq,beq_eq_false_iff_ne,bne_iff_ne,ne_eq,gt_iff_lt,ge_iff_le,Bool.not_eq_true,Bool.not_eq_false,Bool.not_eq_true',Bool.not_eq_false',Bool.not_eq_eq_eq_not,Bool.not_true,Bool.not_false] at hc)) | (refine KP_i (by (repeat' (first | exact Heap.Le.refl _ | (refine Le_known (by first | (simp only [Heap.set_same, set_ne, ne_eq, not_false_eq_true, *] <;> rfl) | fail) ?_) | (refine Le_fresh (by first | (simp only [*] <;> done) | (simp [set_none', Heap.set_same, set_ne, *] <;> done) | fail) ?_) | (refine Heap.Le.trans ?_ (Grow.le (by assumption)))))) ?_) | (with_reducible refine And.intro ?_ ?_)) <;> (try simp only [Sh,Si,Sl,Bu,Bb,Bd,Bc,Bw,Bn,Int.reduceAdd,Int.reduceSub,Int.reduceMul,Int.reduceTDiv,Int.reduceTMod,Int.reduceMod,Int.reduceDiv,Nat.reduceLT,Nat.reduceEqDiff,decide_true,decide_false,Sa,Sb,Sc,Sd,Se,Sf,Sg,true_and,and_true,and_self,eq_self,b_i64,b_i32,b_u64,b_u32,b_u8,Int.reduceLE,Int.reduceLT,Int.reduceToNat,Int.reduceNeg,Int.reduceEq,Nat.reduceLeDiff,Nat.reducePow,Int.reducePow,Nat.min_def,reduceIte,Nat.reduceSub,Nat.reduceAdd,Nat.reduceMul,KP_same,KP_f,condS_t,condS_f,pick_t,pick_f,gS_tt,gS_ff,gS_tf,gS_ft,gS_u,gP_tt,gP_ff,gP_tf,gP_ft,gP_u,ptrV_eq,slcV_eq,cells_agg,cells_int,cells_bool,cells_ptr,cells_slice,oc_int,oc_bool,oc_slice,oc_ptr,rd1_set,rd1_ne,rdn_set,rdn_ne,Heap.set_same,set_ne,Heap.set_set,set_up,set_up2,set_up3,putAt,ceq,List.map_cons,List.map_nil,List.length_cons,List.length_nil,List.length_set,List.cons_append,List.nil_append,List.append_nil,List.replicate,List.size_toArray,List.all_cons,List.all_nil,Bool.and_self,Bool.and_true,List.drop_zero,List.drop_succ_cons,List.take_succ_cons,List.take_zero,List.set_cons_zero,List.set_cons_succ,List.getElem?_cons_zero,List.getElem?_cons_succ,Option.map_some,Option.map_none,ne_eq,not_false_eq_true,not_true_eq_false,gt_iff_lt,ge_iff_le,Int.one_mul,Nat.zero_add,Nat.zero_mul,Bool.not_true,Bool.not_false,Bool.false_eq_true,Bool.and_false,Bool.false_and,Bool.true_and, *]))
    · have hle : ts3.length = ts.length := by rw [← List.length_map (f := triC), ht3, ← ht2, List.length_map]
      exact (hc (by rw [hle])).elim
    · have hle : ts3.length = ts.length := by rw [← List.length_map (f := triC), ht3, ← ht2, List.length_map]
      rw [← root2 q3.1.2 m2 m3] at hg3
      have gG := Grow.trans (H := G2) (by (repeat' (first | exact Grow.refl _ | assumption | (refine Grow_known (by first | (simp only [Heap.set_same, set_ne, ne_eq, not_false_eq_true, *] <;> rfl) | fail) ?_) | (refine Grow.set ?_ (by assumption) (by first | (simp only [*] <;> done) | (simp [set_none', Heap.set_same, set_ne, *] <;> done) | fail)) | (refine Grow.trans ?_ (by assumption))))) hg3
      have hRg := hR2.grow gG
      have gF := gH.trans gG
      clear gG
      have htt : ts.map triC = ts3.map triC := ht2.trans ht3.symm
      clear hc rA rT hmv ht2 ht3 m2 m3 hR2 hg3 htl
      obtain ⟨n, en⟩ : ∃ n, ts.length = n := ⟨_, rfl⟩
      have hlt : n ≤ 384 := by unfold Keep at hlt; omega
      simp only [hle, en]
      refine loop_g 64 (fun s : Nat × Value => [(8, s.2), (63, .int .i64 (s.1 : Nat))]) (fun _ => G3) (fun s => s.1 ≤ n) (fun s => n - s.1) (0, undef) (Nat.zero_le _) (Heap.Le.refl _) rfl ?_
      rintro ⟨k, u⟩ f hk
      simp only at hk
      rcases Nat.lt_or_ge k n with hlt | hge
      · obtain ⟨x, ex⟩ : ∃ v, ts[k]? = some v := ⟨_, List.getElem?_eq_getElem (by omega)⟩
        obtain ⟨y, ey⟩ : ∃ v, ts3[k]? = some v := ⟨_, List.getElem?_eq_getElem (by omega)⟩
        obtain ⟨b, o, rfl, r1, -⟩ := hRg.row ex
        obtain ⟨b', o', rfl, r2, -⟩ := hR3.row ey
        have ox := hRg.ok x (List.mem_of_getElem? ex)
        have oy := hR3.ok y (List.mem_of_getElem? ey)
        have exy : triC x = triC y := by
          have := congrArg (fun l : List (Wn × Wn × Wn) => l[k]?) htt
          simpa only [List.getElem?_map, ex, ey, Option.map_some, Option.some.injEq] using this
        have hs : ∀ (K : Value → Heap → Prop), K (.bool true) G3 → HCalls Try.prog w0 15 [.slice (some ⟨b, o + k * 18, none⟩) 3 3, .slice (some ⟨b', o' + k * 18, none⟩) 3 3] G3 K := fun K hk =>
          l_sameWins (some ⟨b, o + k * 18, none⟩) (some ⟨b', o' + k * 18, none⟩) 3 3 [x.1, x.2.1, x.2.2] [y.1, y.2.1, y.2.2] (wins3 r1 ox) (wins3 r2 oy) (by simp) (by
            unfold triC at exy
            simp only [Prod.mk.injEq] at exy
            simp only [List.map_cons, List.map_nil, exy.1, exy.2.1, exy.2.2]) hk
        have t0 : (k : Int) < (n : Int) := by omega
        have t6 : IntKind.i64.wrap ((k : Int) + 1) = (k : Int) + 1 := Bw.1 _ (by omega) (by omega)
        clear hRg hR3 ex ey ox oy exy htt en hle r1 r2
        (all_goals (refine (fun f : True → _ => f trivial) ?_)); repeat' ((first | (with_reducible refine fun _ : True => ?_) | refine hs _ ?_ | (refine AllocQ_i ?_; intro bk hb0 hbk; (try simp only [set_none'] at hbk); (try (first | have hbn := Grow.none (by assumption) hbk | have hbn := Grow.none (by assumption) hbk.2 | have hbn := Grow.none (by assumption) hbk.2.2 | have hbn := Grow.none (by assumption) hbk.2.2.2 | have hbn := Grow.none (by assumption) hbk.2.2.2.2 | have hbn := Grow.none (by assumption) hbk.2.2.2.2.2)); (try simp only [set_none'] at hbn); (try (first | have hbm := Grow.none (by assumption) hbn | have hbm := Grow.none (by assumption) hbn.2 | have hbm := Grow.none (by assumption) hbn.2.2 | have hbm := Grow.none (by assumption) hbn.2.2.2 | have hbm := Grow.none (by assumption) hbn.2.2.2.2 | have hbm := Grow.none (by assumption) hbn.2.2.2.2.2)); (try simp only [set_none'] at hbm)) | ((first | refine condS_i ?_ ?_ | refine pick_i ?_ ?_ | refine gS_it ?_ ?_ | refine gS_if ?_ ?_ | refine gP_it ?_ ?_ | refine gP_if ?_ ?_) <;> (intro hc; try simp only [Int.reduceLE,Int.reduceLT,Int.reduceEq,and_self,not_true_eq_false,not_false_eq_true,and_true,true_and,false_and,and_false,true_or,or_true,false_or,or_false,decide_eq_true_eq,decide_eq_false_iff_not,beq_iff_eq,beq_eq_false_iff_ne,bne_iff_ne,ne_eq,gt_iff_lt,ge_iff_le,Bool.not_eq_true,Bool.not_eq_false,Bool.not_eq_true',Bool.not_eq_false',Bool.not_eq_eq_eq_not,Bool.not_true,Bool.not_false] at hc)) | (refine KP_i (by (repeat' (first | exact Heap.Le.refl _ | (refine Le_known (by first | (simp only [Heap.set_same, set_ne, ne_eq, not_false_eq_true, *] <;> rfl) | fail) ?_) | (refine Le_fresh (by first | (simp only [*] <;> done) | (simp [set_none', Heap.set_same, set_ne, *] <;> done) | fail) ?_) | (refine Heap.Le.trans ?_ (Grow.le (by assumption)))))) ?_) | (with_reducible refine And.intro ?_ ?_)) <;> (try simp only [Sh,Si,Sl,Bu,Bb,Bd,Bc,Bw,Bn,Int.reduceAdd,Int.reduceSub,Int.reduceMul,Int.reduceTDiv,Int.reduceTMod,Int.reduceMod,Int.reduceDiv,Nat.reduceLT,Nat.reduceEqDiff,decide_true,decide_false,Sa,Sb,Sc,Sd,Se,Sf,Sg,true_and,and_true,and_self,eq_self,b_i64,b_i32,b_u64,b_u32,b_u8,Int.reduceLE,Int.reduceLT,Int.reduceToNat,Int.reduceNeg,Int.reduceEq,Nat.reduceLeDiff,Nat.reducePow,Int.reducePow,Nat.min_def,reduceIte,Nat.reduceSub,Nat.reduceAdd,Nat.reduceMul,KP_same,KP_f,condS_t,condS_f,pick_t,pick_f,gS_tt,gS_ff,gS_tf,gS_ft,gS_u,gP_tt,gP_ff,gP_tf,gP_ft,gP_u,ptrV_eq,slcV_eq,cells_agg,cells_int,cells_bool,cells_ptr,cells_slice,oc_int,oc_bool,oc_slice,oc_ptr,rd1_set,rd1_ne,rdn_set,rdn_ne,Heap.set_same,set_ne,Heap.set_set,set_up,set_up2,set_up3,putAt,ceq,List.map_cons,List.map_nil,List.length_cons,List.length_nil,List.length_set,List.cons_append,List.nil_append,List.append_nil,List.replicate,List.size_toArray,List.all_cons,List.all_nil,Bool.and_self,Bool.and_true,List.drop_zero,List.drop_succ_cons,List.take_succ_cons,List.take_zero,List.set_cons_zero,List.set_cons_succ,List.getElem?_cons_zero,List.getElem?_cons_succ,Option.map_some,Option.map_none,ne_eq,not_false_eq_true,not_true_eq_false,gt_iff_lt,ge_iff_le,Int.one_mul,Nat.zero_add,Nat.zero_mul,Bool.not_true,Bool.not_false,Bool.false_eq_true,Bool.and_false,Bool.false_and,Bool.true_and, *]))
        exact Round_mk (k + 1, _) hlt (by simp only; omega) (by (repeat' (first | exact Heap.Le.refl _ | (refine Le_known (by first | (simp only [Heap.set_same, set_ne, ne_eq, not_false_eq_true, *] <;> rfl) | fail) ?_) | (refine Le_fresh (by first | (simp only [*] <;> done) | (simp [set_none', Heap.set_same, set_ne, *] <;> done) | fail) ?_) | (refine Heap.Le.trans ?_ (Grow.le (by assumption)))))) rfl rfl
      · obtain rfl : n = k := by omega
        have t0 : ¬ ((n : Nat) : Int) < ((n : Nat) : Int) := by omega
        clear hRg hR3 htt hle en
        (all_goals (refine (fun f : True → _ => f trivial) ?_)); repeat' ((first | (with_reducible refine fun _ : True => ?_) | (refine AllocQ_i ?_; intro bk hb0 hbk; (try simp only [set_none'] at hbk); (try (first | have hbn := Grow.none (by assumption) hbk | have hbn := Grow.none (by assumption) hbk.2 | have hbn := Grow.none (by assumption) hbk.2.2 | have hbn := Grow.none (by assumption) hbk.2.2.2 | have hbn := Grow.none (by assumption) hbk.2.2.2.2 | have hbn := Grow.none (by assumption) hbk.2.2.2.2.2)); (try simp only [set_none'] at hbn); (try (first | have hbm := Grow.none (by assumption) hbn | have hbm := Grow.none (by assumption) hbn.2 | have hbm := Grow.none (by assumption) hbn.2.2 | have hbm := Grow.none (by assumption) hbn.2.2.2 | have hbm := Grow.none (by assumption) hbn.2.2.2.2 | have hbm := Grow.none (by assumption) hbn.2.2.2.2.2)); (try simp only [set_none'] at hbm)) | ((first | refine condS_i ?_ ?_ | refine pick_i ?_ ?_ | refine gS_it ?_ ?_ | refine gS_if ?_ ?_ | refine gP_it ?_ ?_ | refine gP_if ?_ ?_) <;> (intro hc; try simp only [Int.reduceLE,Int.reduceLT,Int.reduceEq,and_self,not_true_eq_false,not_false_eq_true,and_true,true_and,false_and,and_false,true_or,or_true,false_or,or_false,decide_eq_true_eq,decide_eq_false_iff_not,beq_iff_eq,beq_eq_false_iff_ne,bne_iff_ne,ne_eq,gt_iff_lt,ge_iff_le,Bool.not_eq_true,Bool.not_eq_false,Bool.not_eq_true',Bool.not_eq_false',Bool.not_eq_eq_eq_not,Bool.not_true,Bool.not_false] at hc)) | (refine KP_i (by (repeat' (first | exact Heap.Le.refl _ | (refine Le_known (by first | (simp only [Heap.set_same, set_ne, ne_eq, not_false_eq_true, *] <;> rfl) | fail) ?_) | (refine Le_fresh (by first | (simp only [*] <;> done) | (simp [set_none', Heap.set_same, set_ne, *] <;> done) | fail) ?_) | (refine Heap.Le.trans ?_ (Grow.le (by assumption)))))) ?_) | (with_reducible refine And.intro ?_ ?_)) <;> (try simp only [Sh,Si,Sl,Bu,Bb,Bd,Bc,Bw,Bn,Int.reduceAdd,Int.reduceSub,Int.reduceMul,Int.reduceTDiv,Int.reduceTMod,Int.reduceMod,Int.reduceDiv,Nat.reduceLT,Nat.reduceEqDiff,decide_true,decide_false,Sa,Sb,Sc,Sd,Se,Sf,Sg,true_and,and_true,and_self,eq_self,b_i64,b_i32,b_u64,b_u32,b_u8,Int.reduceLE,Int.reduceLT,Int.reduceToNat,Int.reduceNeg,Int.reduceEq,Nat.reduceLeDiff,Nat.reducePow,Int.reducePow,Nat.min_def,reduceIte,Nat.reduceSub,Nat.reduceAdd,Nat.reduceMul,KP_same,KP_f,condS_t,condS_f,pick_t,pick_f,gS_tt,gS_ff,gS_tf,gS_ft,gS_u,gP_tt,gP_ff,gP_tf,gP_ft,gP_u,ptrV_eq,slcV_eq,cells_agg,cells_int,cells_bool,cells_ptr,cells_slice,oc_int,oc_bool,oc_slice,oc_ptr,rd1_set,rd1_ne,rdn_set,rdn_ne,Heap.set_same,set_ne,Heap.set_set,set_up,set_up2,set_up3,putAt,ceq,List.map_cons,List.map_nil,List.length_cons,List.length_nil,List.length_set,List.cons_append,List.nil_append,List.append_nil,List.replicate,List.size_toArray,List.all_cons,List.all_nil,Bool.and_self,Bool.and_true,List.drop_zero,List.drop_succ_cons,List.take_succ_cons,List.take_zero,List.set_cons_zero,List.set_cons_succ,List.getElem?_cons_zero,List.getElem?_cons_succ,Option.map_some,Option.map_none,ne_eq,not_false_eq_true,not_true_eq_false,gt_iff_lt,ge_iff_le,Int.one_mul,Nat.zero_add,Nat.zero_mul,Bool.not_true,Bool.not_false,Bool.false_eq_true,Bool.and_false,Bool.false_and,Bool.true_and, *]))
        exact Fin_mk gF.le h
  · have cT : ∀ (G : Heap) (K : Value → Heap → Prop), Grow w0 H G → K (.tuple #[.slice none 0 0, .int .i64 2]) G → HCalls Try.prog w0 11 [v.v, A.v, B.v, C.v] G K := fun G K g hk => c_Triangle v A B C hvi (hA.grow g) (hB.grow g) (hC.grow g) (fun hh => (hg hh).elim) (fun _ => hk)
    by_cases g1 : v.right
    · have g2 : ¬ Al [A.toVt, B.toVt, C.toVt] := fun hh => hg ⟨g1, hh⟩
      have rA : ∀ (b : Nat) (t : TypeId) (G : Heap) (K : Value → Heap → Prop), Grow w0 H G → G b = some ⟨t, A.row ++ B.row ++ C.row⟩ → K (.bool false) G → HCalls Try.prog w0 13 [.slice (some ⟨b, 0, none⟩) 3 3] G K := fun b t G K g e hk => r_Alike (some ⟨b, 0, none⟩) 3 [A, B, C] (hall G b t g e) (fun hh => (g2 hh).elim) (fun _ => hk)
      clear hall hA hB hC hg
      unfold VtR.row at rA
      unfold threeV VtR.v Vw.v at *
      refine HL.hc k3 2000 ?_; unfold M3
      (all_goals (refine (fun f : True → _ => f trivial) ?_)); repeat' ((first | (with_reducible refine fun _ : True => ?_) | refine cA _ _ ?_ | refine cT _ _ (by (repeat' (first | exact Grow.refl _ | assumption | (refine Grow_known (by first | (simp only [Heap.set_same, set_ne, ne_eq, not_false_eq_true, *] <;> rfl) | fail) ?_) | (refine Grow.set ?_ (by assumption) (by first | (simp only [*] <;> done) | (simp [set_none', Heap.set_same, set_ne, *] <;> done) | fail)) | (refine Grow.trans ?_ (by assumption))))) ?_ | refine rR _ _ ?_ | refine rA _ _ _ _ (by (repeat' (first | exact Grow.refl _ | assumption | (refine Grow_known (by first | (simp only [Heap.set_same, set_ne, ne_eq, not_false_eq_true, *] <;> rfl) | fail) ?_) | (refine Grow.set ?_ (by assumption) (by first | (simp only [*] <;> done) | (simp [set_none', Heap.set_same, set_ne, *] <;> done) | fail)) | (refine Grow.trans ?_ (by assumption))))) (by simp only [Heap.set_same, set_ne, ne_eq, not_false_eq_true, *] <;> rfl) ?_ | (refine AllocQ_i ?_; intro bk hb0 hbk; (try simp only [set_none'] at hbk); (try (first | have hbn := Grow.none (by assumption) hbk | have hbn := Grow.none (by assumption) hbk.2 | have hbn := Grow.none (by assumption) hbk.2.2 | have hbn := Grow.none (by assumption) hbk.2.2.2 | have hbn := Grow.none (by assumption) hbk.2.2.2.2 | have hbn := Grow.none (by assumption) hbk.2.2.2.2.2)); (try simp only [set_none'] at hbn); (try (first | have hbm := Grow.none (by assumption) hbn | have hbm := Grow.none (by assumption) hbn.2 | have hbm := Grow.none (by assumption) hbn.2.2 | have hbm := Grow.none (by assumption) hbn.2.2.2 | have hbm := Grow.none (by assumption) hbn.2.2.2.2 | have hbm := Grow.none (by assumption) hbn.2.2.2.2.2)); (try simp only [set_none'] at hbm)) | ((first | refine condS_i ?_ ?_ | refine pick_i ?_ ?_ | refine gS_it ?_ ?_ | refine gS_if ?_ ?_ | refine gP_it ?_ ?_ | refine gP_if ?_ ?_) <;> (intro hc; try simp only [Int.reduceLE,Int.reduceLT,Int.reduceEq,and_self,not_true_eq_false,not_false_eq_true,and_true,true_and,false_and,and_false,true_or,or_true,false_or,or_false,decide_eq_true_eq,decide_eq_false_iff_not,beq_iff_eq,beq_eq_false_iff_ne,bne_iff_ne,ne_eq,gt_iff_lt,ge_iff_le,Bool.not_eq_true,Bool.not_eq_false,Bool.not_eq_true',Bool.not_eq_false',Bool.not_eq_eq_eq_not,Bool.not_true,Bool.not_false] at hc)) | (refine KP_i (by (repeat' (first | exact Heap.Le.refl _ | (refine Le_known (by first | (simp only [Heap.set_same, set_ne, ne_eq, not_false_eq_true, *] <;> rfl) | fail) ?_) | (refine Le_fresh (by first | (simp only [*] <;> done) | (simp [set_none', Heap.set_same, set_ne, *] <;> done) | fail) ?_) | (refine Heap.Le.trans ?_ (Grow.le (by assumption)))))) ?_) | (with_reducible refine And.intro ?_ ?_)) <;> (try simp only [Sh,Si,Sl,Bu,Bb,Bd,Bc,Bw,Bn,Int.reduceAdd,Int.reduceSub,Int.reduceMul,Int.reduceTDiv,Int.reduceTMod,Int.reduceMod,Int.reduceDiv,Nat.reduceLT,Nat.reduceEqDiff,decide_true,decide_false,Sa,Sb,Sc,Sd,Se,Sf,Sg,true_and,and_true,and_self,eq_self,b_i64,b_i32,b_u64,b_u32,b_u8,Int.reduceLE,Int.reduceLT,Int.reduceToNat,Int.reduceNeg,Int.reduceEq,Nat.reduceLeDiff,Nat.reducePow,Int.reducePow,Nat.min_def,reduceIte,Nat.reduceSub,Nat.reduceAdd,Nat.reduceMul,KP_same,KP_f,condS_t,condS_f,pick_t,pick_f,gS_tt,gS_ff,gS_tf,gS_ft,gS_u,gP_tt,gP_ff,gP_tf,gP_ft,gP_u,ptrV_eq,slcV_eq,cells_agg,cells_int,cells_bool,cells_ptr,cells_slice,oc_int,oc_bool,oc_slice,oc_ptr,rd1_set,rd1_ne,rdn_set,rdn_ne,Heap.set_same,set_ne,Heap.set_set,set_up,set_up2,set_up3,putAt,ceq,List.map_cons,List.map_nil,List.length_cons,List.length_nil,List.length_set,List.cons_append,List.nil_append,List.append_nil,List.replicate,List.size_toArray,List.all_cons,List.all_nil,Bool.and_self,Bool.and_true,List.drop_zero,List.drop_succ_cons,List.take_succ_cons,List.take_zero,List.set_cons_zero,List.set_cons_succ,List.getElem?_cons_zero,List.getElem?_cons_succ,Option.map_some,Option.map_none,ne_eq,not_false_eq_true,not_true_eq_false,gt_iff_lt,ge_iff_le,Int.one_mul,Nat.zero_add,Nat.zero_mul,Bool.not_true,Bool.not_false,Bool.false_eq_true,Bool.and_false,Bool.false_and,Bool.true_and, *]))
      exact Fin_mk (by (repeat' (first | exact Heap.Le.refl _ | (refine Le_known (by first | (simp only [Heap.set_same, set_ne, ne_eq, not_false_eq_true, *] <;> rfl) | fail) ?_) | (refine Le_fresh (by first | (simp only [*] <;> done) | (simp [set_none', Heap.set_same, set_ne, *] <;> done) | fail) ?_) | (refine Heap.Le.trans ?_ (Grow.le (by assumption)))))) h
    · clear hall hA hB hC hg
      unfold threeV VtR.v Vw.v at *
      refine HL.hc k3 2000 ?_; unfold M3
      (all_goals (refine (fun f : True → _ => f trivial) ?_)); repeat' ((first | (with_reducible refine fun _ : True => ?_) | refine cA _ _ ?_ | refine cT _ _ (by (repeat' (first | exact Grow.refl _ | assumption | (refine Grow_known (by first | (simp only [Heap.set_same, set_ne, ne_eq, not_false_eq_true, *] <;> rfl) | fail) ?_) | (refine Grow.set ?_ (by assumption) (by first | (simp only [*] <;> done) | (simp [set_none', Heap.set_same, set_ne, *] <;> done) | fail)) | (refine Grow.trans ?_ (by assumption))))) ?_ | refine rR _ _ ?_ | (refine AllocQ_i ?_; intro bk hb0 hbk; (try simp only [set_none'] at hbk); (try (first | have hbn := Grow.none (by assumption) hbk | have hbn := Grow.none (by assumption) hbk.2 | have hbn := Grow.none (by assumption) hbk.2.2 | have hbn := Grow.none (by assumption) hbk.2.2.2 | have hbn := Grow.none (by assumption) hbk.2.2.2.2 | have hbn := Grow.none (by assumption) hbk.2.2.2.2.2)); (try simp only [set_none'] at hbn); (try (first | have hbm := Grow.none (by assumption) hbn | have hbm := Grow.none (by assumption) hbn.2 | have hbm := Grow.none (by assumption) hbn.2.2 | have hbm := Grow.none (by assumption) hbn.2.2.2 | have hbm := Grow.none (by assumption) hbn.2.2.2.2 | have hbm := Grow.none (by assumption) hbn.2.2.2.2.2)); (try simp only [set_none'] at hbm)) | ((first | refine condS_i ?_ ?_ | refine pick_i ?_ ?_ | refine gS_it ?_ ?_ | refine gS_if ?_ ?_ | refine gP_it ?_ ?_ | refine gP_if ?_ ?_) <;> (intro hc; try simp only [Int.reduceLE,Int.reduceLT,Int.reduceEq,and_self,not_true_eq_false,not_false_eq_true,and_true,true_and,false_and,and_false,true_or,or_true,false_or,or_false,decide_eq_true_eq,decide_eq_false_iff_not,beq_iff_eq,beq_eq_false_iff_ne,bne_iff_ne,ne_eq,gt_iff_lt,ge_iff_le,Bool.not_eq_true,Bool.not_eq_false,Bool.not_eq_true',Bool.not_eq_false',Bool.not_eq_eq_eq_not,Bool.not_true,Bool.not_false] at hc)) | (refine KP_i (by (repeat' (first | exact Heap.Le.refl _ | (refine Le_known (by first | (simp only [Heap.set_same, set_ne, ne_eq, not_false_eq_true, *] <;> rfl) | fail) ?_) | (refine Le_fresh (by first | (simp only [*] <;> done) | (simp [set_none', Heap.set_same, set_ne, *] <;> done) | fail) ?_) | (refine Heap.Le.trans ?_ (Grow.le (by assumption)))))) ?_) | (with_reducible refine And.intro ?_ ?_)) <;> (try simp only [Sh,Si,Sl,Bu,Bb,Bd,Bc,Bw,Bn,Int.reduceAdd,Int.reduceSub,Int.reduceMul,Int.reduceTDiv,Int.reduceTMod,Int.reduceMod,Int.reduceDiv,Nat.reduceLT,Nat.reduceEqDiff,decide_true,decide_false,Sa,Sb,Sc,Sd,Se,Sf,Sg,true_and,and_true,and_self,eq_self,b_i64,b_i32,b_u64,b_u32,b_u8,Int.reduceLE,Int.reduceLT,Int.reduceToNat,Int.reduceNeg,Int.reduceEq,Nat.reduceLeDiff,Nat.reducePow,Int.reducePow,Nat.min_def,reduceIte,Nat.reduceSub,Nat.reduceAdd,Nat.reduceMul,KP_same,KP_f,condS_t,condS_f,pick_t,pick_f,gS_tt,gS_ff,gS_tf,gS_ft,gS_u,gP_tt,gP_ff,gP_tf,gP_ft,gP_u,ptrV_eq,slcV_eq,cells_agg,cells_int,cells_bool,cells_ptr,cells_slice,oc_int,oc_bool,oc_slice,oc_ptr,rd1_set,rd1_ne,rdn_set,rdn_ne,Heap.set_same,set_ne,Heap.set_set,set_up,set_up2,set_up3,putAt,ceq,List.map_cons,List.map_nil,List.length_cons,List.length_nil,List.length_set,List.cons_append,List.nil_append,List.append_nil,List.replicate,List.size_toArray,List.all_cons,List.all_nil,Bool.and_self,Bool.and_true,List.drop_zero,List.drop_succ_cons,List.take_succ_cons,List.take_zero,List.set_cons_zero,List.set_cons_succ,List.getElem?_cons_zero,List.getElem?_cons_succ,Option.map_some,Option.map_none,ne_eq,not_false_eq_true,not_true_eq_false,gt_iff_lt,ge_iff_le,Int.one_mul,Nat.zero_add,Nat.zero_mul,Bool.not_true,Bool.not_false,Bool.false_eq_true,Bool.and_false,Bool.false_and,Bool.true_and, *]))
      exact Fin_mk (by (repeat' (first | exact Heap.Le.refl _ | (refine Le_known (by first | (simp only [Heap.set_same, set_ne, ne_eq, not_false_eq_true, *] <;> rfl) | fail) ?_) | (refine Le_fresh (by first | (simp only [*] <;> done) | (simp [set_none', Heap.set_same, set_ne, *] <;> done) | fail) ?_) | (refine Heap.Le.trans ?_ (Grow.le (by assumption)))))) h
end Go.Proofs.Ytofgiimfempcjaa
