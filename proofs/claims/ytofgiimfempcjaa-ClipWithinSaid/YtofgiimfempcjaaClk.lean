/- The document's triangles (layer 21). -/
import Derived.Test.YtofgiimfempcjaaClj
set_option linter.unusedSimpArgs false
set_option linter.unusedVariables false
set_option maxRecDepth 100000
set_option maxHeartbeats 16000000
namespace Go.Proofs.Ytofgiimfempcjaa
open Go Go.HL Go.RowKit Pb
variable {w0 : World} {H : Heap} {K : Value → Heap → Prop}

/- paintboxref21 Triangle -/
def M14 : MC :=
  .seq (.reg [⟨(some 2), .box 24 (.tmp 0), none⟩,
     ⟨(some 4), .mv (.const (.slice none 0 0)), none⟩])
  (.seq (.seq (.reg [⟨(some 5), .mv (.const (.int .i64 0)), none⟩])
    (.block 0 (.loop (.seq (.seq (.reg [⟨(some 9), .mv (.tmp 5), none⟩,
           ⟨(some 10), .bin .lss (.tmp 9) (.const (.int .i64 7)), none⟩])
        (.cond (.tmp 10)
         (.skip)
         (.exit 0)))
       (.seq (.block 1 (.reg [⟨(some 13), .mv (.tmp 1), none⟩,
            ⟨(some 14), .mv (.tmp 5), none⟩,
            ⟨(some 15), .call 25 [(.tmp 13), (.tmp 14)], none⟩,
            ⟨(some 1), .mv (.tmp 15), none⟩]))
        (.reg [⟨(some 11), .mv (.tmp 5), none⟩,
           ⟨(some 12), .bin .add (.tmp 11) (.const (.int .i64 1)), none⟩,
           ⟨(some 5), .mv (.tmp 12), none⟩]))))))
   (.seq (.seq (.reg [⟨(some 6), .mv (.const (.int .i64 0)), none⟩])
     (.block 2 (.loop (.seq (.seq (.reg [⟨(some 16), .mv (.tmp 6), none⟩,
            ⟨(some 17), .mv (.tmp 1), none⟩,
            ⟨(some 18), .len (.tmp 17), none⟩,
            ⟨(some 19), .bin .lss (.tmp 16) (.tmp 18), none⟩])
         (.cond (.tmp 19)
          (.skip)
          (.exit 2)))
        (.seq (.block 3 (.seq (.reg [⟨(some 22), .mv (.tmp 1), none⟩,
              ⟨(some 23), .mv (.tmp 6), none⟩,
              ⟨(some 24), .is 6 (.tmp 22) (.tmp 23), none⟩,
              ⟨(some 25), .ldn 6 (.tmp 24), none⟩,
              ⟨(some 26), .call 20 [(.tmp 25), (.const (.int .i64 0))], none⟩,
              ⟨(some 27), .bin .lss (.tmp 26) (.const (.int .i32 0)), none⟩])
           (.cond (.tmp 27)
            (.seq (.reg [⟨(some 4), .mv (.const (.slice none 0 0)), none⟩])
             (.ret))
            (.skip))))
         (.reg [⟨(some 20), .mv (.tmp 6), none⟩,
            ⟨(some 21), .bin .add (.tmp 20) (.const (.int .i64 1)), none⟩,
            ⟨(some 6), .mv (.tmp 21), none⟩]))))))
    (.seq (.reg [⟨(some 7), .mv (.const (.slice none 0 0)), none⟩])
     (.seq (.seq (.reg [⟨(some 8), .mv (.const (.int .i64 2)), none⟩])
       (.block 4 (.loop (.seq (.seq (.reg [⟨(some 28), .mv (.tmp 8), none⟩,
              ⟨(some 29), .mv (.tmp 1), none⟩,
              ⟨(some 30), .len (.tmp 29), none⟩,
              ⟨(some 31), .bin .lss (.tmp 28) (.tmp 30), none⟩])
           (.cond (.tmp 31)
            (.skip)
            (.exit 4)))
          (.seq (.block 5 (.any [(true, true, ⟨(some 34), .mv (.tmp 7), none⟩),
               (true, true, ⟨(some 35), .ldn 6 (.tmp 2), none⟩),
               (true, true, ⟨(some 36), .mv (.tmp 1), none⟩),
               (true, true, ⟨(some 37), .is 6 (.tmp 36) (.const (.int .i64 0)), none⟩),
               (true, true, ⟨(some 38), .ldn 6 (.tmp 37), none⟩),
               (true, true, ⟨(some 40), .ldn 6 (.tmp 2), none⟩),
               (true, true, ⟨(some 41), .mv (.tmp 1), none⟩),
               (true, true, ⟨(some 42), .mv (.tmp 8), none⟩),
               (true, true, ⟨(some 43), .bin .sub (.tmp 42) (.const (.int .i64 1)), none⟩),
               (true, true, ⟨(some 44), .is 6 (.tmp 41) (.tmp 43), none⟩),
               (true, true, ⟨(some 45), .ldn 6 (.tmp 44), none⟩),
               (true, true, ⟨(some 47), .ldn 6 (.tmp 2), none⟩),
               (true, true, ⟨(some 48), .mv (.tmp 1), none⟩),
               (true, true, ⟨(some 49), .mv (.tmp 8), none⟩),
               (true, true, ⟨(some 50), .is 6 (.tmp 48) (.tmp 49), none⟩),
               (true, true, ⟨(some 51), .ldn 6 (.tmp 50), none⟩),
               (false, true, ⟨(some 39), .call 22 [(.tmp 35), (.tmp 38)], none⟩),
               (false, true, ⟨(some 46), .call 22 [(.tmp 40), (.tmp 45)], none⟩),
               (false, true, ⟨(some 52), .call 22 [(.tmp 47), (.tmp 51)], none⟩),
               (false, true, ⟨(some 53), .build [(.int .i64 0), (.int .i64 0), (.int .i32 0), (.int .i32 0), (.int .i32 0), (.slice none 0 0), (.int .i64 0), (.int .i64 0), (.int .i32 0), (.int .i32 0), (.int .i32 0), (.slice none 0 0), (.int .i64 0), (.int .i64 0), (.int .i32 0), (.int .i32 0), (.int .i32 0), (.slice none 0 0)] [(0, 6, (.tmp 39)), (6, 6, (.tmp 46)), (12, 6, (.tmp 52))], none⟩),
               (false, true, ⟨(some 54), .bslice 45 1 [(.int .i64 0), (.int .i64 0), (.int .i32 0), (.int .i32 0), (.int .i32 0), (.slice none 0 0), (.int .i64 0), (.int .i64 0), (.int .i32 0), (.int .i32 0), (.int .i32 0), (.slice none 0 0), (.int .i64 0), (.int .i64 0), (.int .i32 0), (.int .i32 0), (.int .i32 0), (.slice none 0 0)] [(0, 18, (.tmp 53))], none⟩),
               (false, false, ⟨(some 55), .app 45 18 168 [(.int .i64 0), (.int .i64 0), (.int .i32 0), (.int .i32 0), (.int .i32 0), (.slice none 0 0), (.int .i64 0), (.int .i64 0), (.int .i32 0), (.int .i32 0), (.int .i32 0), (.slice none 0 0), (.int .i64 0), (.int .i64 0), (.int .i32 0), (.int .i32 0), (.int .i32 0), (.slice none 0 0)] (.tmp 34) (.tmp 54), none⟩),
               (false, false, ⟨(some 7), .mv (.tmp 55), none⟩)]))
           (.reg [⟨(some 32), .mv (.tmp 8), none⟩,
              ⟨(some 33), .bin .add (.tmp 32) (.const (.int .i64 1)), none⟩,
              ⟨(some 8), .mv (.tmp 33), none⟩]))))))
      (.seq (.reg [⟨(some 56), .mv (.tmp 7), none⟩,
          ⟨(some 4), .mv (.tmp 56), none⟩])
       (.ret))))))
theorem k14 : fnOk Try.prog 14 = some (M14, [.t 4], 57) := by kernel_rfl

theorem r_Triangle (v : Vw) (a0 : Option Addr) (cap0 : Nat) (ls : List VtR) {mv : Nat} (hv : v.right) (hA : RowsOk w0 H a0 cap0 ls) (hmv : Ali mv (ls.map VtR.toVt)) (hls : ls.length ≤ 3)
    (h1 : ∀ a' cap' (ts : List (WnR × WnR × WnR)) H', ts.map triC = triA v (ls.map VtR.toVt) → RO triT w0 H' a' cap' ts → Grow w0 H H' → K (.slice a' ts.length cap') H') : HCalls Try.prog w0 14 [v.v, .slice a0 ls.length cap0] H K := by
  have hls' : (ls.map VtR.toVt).length ≤ 3 := by rw [List.length_map]; exact hls
  unfold Vw.v at *
  refine HL.hc k14 2000 ?_; unfold M14
  (all_goals (refine (fun f : True → _ => f trivial) ?_)); repeat' ((first | (with_reducible refine fun _ : True => ?_) | (refine AllocQ_i ?_; intro bk hb0 hbk; (try simp only [set_none'] at hbk); (try (first | have hbn := Grow.none (by assumption) hbk | have hbn := Grow.none (by assumption) hbk.2 | have hbn := Grow.none (by assumption) hbk.2.2 | have hbn := Grow.none (by assumption) hbk.2.2.2 | have hbn := Grow.none (by assumption) hbk.2.2.2.2 | have hbn := Grow.none (by assumption) hbk.2.2.2.2.2)); (try simp only [set_none'] at hbn); (try (first | have hbm := Grow.none (by assumption) hbn | have hbm := Grow.none (by assumption) hbn.2 | have hbm := Grow.none (by assumption) hbn.2.2 | have hbm := Grow.none (by assumption) hbn.2.2.2 | have hbm := Grow.none (by assumption) hbn.2.2.2.2 | have hbm := Grow.none (by assumption) hbn.2.2.2.2.2)); (try simp only [set_none'] at hbm)) | ((first | refine condS_i ?_ ?_ | refine pick_i ?_ ?_ | refine gS_it ?_ ?_ | refine gS_if ?_ ?_ | refine gP_it ?_ ?_ | refine gP_if ?_ ?_) <;> (intro hc; try simp only [Int.reduceLE,Int.reduceLT,Int.reduceEq,and_self,not_true_eq_false,not_false_eq_true,and_true,true_and,false_and,and_false,true_or,or_true,false_or,or_false,decide_eq_true_eq,decide_eq_false_iff_not,beq_iff_eq,beq_eq_false_iff_ne,bne_iff_ne,ne_eq,gt_iff_lt,ge_iff_le,Bool.not_eq_true,Bool.not_eq_false,Bool.not_eq_true',Bool.not_eq_false',Bool.not_eq_eq_eq_not,Bool.not_true,Bool.not_false] at hc)) | (refine KP_i (by (repeat' (first | exact Heap.Le.refl _ | (refine Le_known (by first | (simp only [Heap.set_same, set_ne, ne_eq, not_false_eq_true, *] <;> rfl) | fail) ?_) | (refine Le_fresh (by first | (simp only [*] <;> done) | (simp [set_none', Heap.set_same, set_ne, *] <;> done) | fail) ?_) | (refine Heap.Le.trans ?_ (Grow.le (by assumption)))))) ?_) | (with_reducible refine And.intro ?_ ?_)) <;> (try simp only [Sh,Si,Sl,Bu,Bb,Bd,Bc,Bw,Bn,Int.reduceAdd,Int.reduceSub,Int.reduceMul,Int.reduceTDiv,Int.reduceTMod,Int.reduceMod,Int.reduceDiv,Nat.reduceLT,Nat.reduceEqDiff,decide_true,decide_false,Sa,Sb,Sc,Sd,Se,Sf,Sg,true_and,and_true,and_self,eq_self,b_i64,b_i32,b_u64,b_u32,b_u8,Int.reduceLE,Int.reduceLT,Int.reduceToNat,Int.reduceNeg,Int.reduceEq,Nat.reduceLeDiff,Nat.reducePow,Int.reducePow,Nat.min_def,reduceIte,Nat.reduceSub,Nat.reduceAdd,Nat.reduceMul,KP_same,KP_f,condS_t,condS_f,pick_t,pick_f,gS_tt,gS_ff,gS_tf,gS_ft,gS_u,gP_tt,gP_ff,gP_tf,gP_ft,gP_u,ptrV_eq,slcV_eq,cells_agg,cells_int,cells_bool,cells_ptr,cells_slice,oc_int,oc_bool,oc_slice,oc_ptr,rd1_set,rd1_ne,rdn_set,rdn_ne,Heap.set_same,set_ne,Heap.set_set,set_up,set_up2,set_up3,putAt,ceq,List.map_cons,List.map_nil,List.length_cons,List.length_nil,List.length_set,List.cons_append,List.nil_append,List.append_nil,List.replicate,List.size_toArray,List.all_cons,List.all_nil,Bool.and_self,Bool.and_true,List.drop_zero,List.drop_succ_cons,List.take_succ_cons,List.take_zero,List.set_cons_zero,List.set_cons_succ,List.getElem?_cons_zero,List.getElem?_cons_succ,Option.map_some,Option.map_none,ne_eq,not_false_eq_true,not_true_eq_false,gt_iff_lt,ge_iff_le,Int.one_mul,Nat.zero_add,Nat.zero_mul,Bool.not_true,Bool.not_false,Bool.false_eq_true,Bool.and_false,Bool.false_and,Bool.true_and, *]))
  refine loopq_heap (fun G1 eG => ?_)
  obtain ⟨b4, rfl⟩ : ∃ q, q = bk := ⟨bk, rfl⟩
  have k4 := at_of eG (b := b4) (by simp only [Heap.set_same, set_ne, ne_eq, not_false_eq_true, *] <;> rfl)
  have g1 : Grow w0 H G1 := by rw [eG]; exact (by (repeat' (first | exact Grow.refl _ | assumption | (refine Grow_known (by first | (simp only [Heap.set_same, set_ne, ne_eq, not_false_eq_true, *] <;> rfl) | fail) ?_) | (refine Grow.set ?_ (by assumption) (by first | (simp only [*] <;> done) | (simp [set_none', Heap.set_same, set_ne, *] <;> done) | fail)) | (refine Grow.trans ?_ (by assumption)))))
  have hR := hA.grow g1
  clear eG
  refine loop_g 6 (fun s : (Nat × Option Addr × Nat × List VtR) × Heap => [(1, .slice s.1.2.1 s.1.2.2.2.length s.1.2.2.1), (5, .int .i64 (s.1.1 : Nat))]) (fun s => s.2)
    (fun s => s.1.1 ≤ 7 ∧ Grow w0 G1 s.2 ∧ RowsOk w0 s.2 s.1.2.1 s.1.2.2.1 s.1.2.2.2 ∧ s.1.2.2.2.map VtR.toVt = cutN s.1.1 (ls.map VtR.toVt)) (fun s => 7 - s.1.1)
    ((0, a0, cap0, ls), G1) ⟨Nat.zero_le _, Grow.refl _, hR, rfl⟩ (Heap.Le.refl _) rfl ?_
  clear hR
  rintro ⟨⟨k, a, cap, os⟩, G⟩ f ⟨hk, hG, hR, hos⟩
  simp only at hk hG hR hos
  show run _ _ _ _ _ _ G
  have hm := cutN_le3 hls' hk rfl
  have hol : os.length ≤ 384 := by rw [← List.length_map (f := VtR.toVt), hos]; exact hm
  rcases Nat.lt_or_ge k 7 with hlt | hge
  · have t0 : (k : Int) < 7 := by omega
    have t6 : IntKind.i64.wrap ((k : Int) + 1) = (k : Int) + 1 := Bw.1 _ (by omega) (by omega)
    have cc := fun (K : Value → Heap → Prop) => r_Cut (K := K) (H := G) a cap os (k : Nat) (by omega) hR (mv := mv) (by rw [hos]; exact cutN_ali hmv k) (by omega)
    have hnx : ∀ os2 : List VtR, os2.map VtR.toVt = cutA (os.map VtR.toVt) (k : Nat) → os2.map VtR.toVt = cutN (k + 1) (ls.map VtR.toVt) := fun os2 e => by rw [e, hos]; rfl
    clear hR hos h1 hA
    (all_goals (refine (fun f : True → _ => f trivial) ?_)); repeat' ((first | (with_reducible refine fun _ : True => ?_) | refine cc _ (fun a2 c2 os2 G2 ho2 hB2 hg2 => ?_)  | (refine AllocQ_i ?_; intro bk hb0 hbk; (try simp only [set_none'] at hbk); (try (first | have hbn := Grow.none (by assumption) hbk | have hbn := Grow.none (by assumption) hbk.2 | have hbn := Grow.none (by assumption) hbk.2.2 | have hbn := Grow.none (by assumption) hbk.2.2.2 | have hbn := Grow.none (by assumption) hbk.2.2.2.2 | have hbn := Grow.none (by assumption) hbk.2.2.2.2.2)); (try simp only [set_none'] at hbn); (try (first | have hbm := Grow.none (by assumption) hbn | have hbm := Grow.none (by assumption) hbn.2 | have hbm := Grow.none (by assumption) hbn.2.2 | have hbm := Grow.none (by assumption) hbn.2.2.2 | have hbm := Grow.none (by assumption) hbn.2.2.2.2 | have hbm := Grow.none (by assumption) hbn.2.2.2.2.2)); (try simp only [set_none'] at hbm)) | ((first | refine condS_i ?_ ?_ | refine pick_i ?_ ?_ | refine gS_it ?_ ?_ | refine gS_if ?_ ?_ | refine gP_it ?_ ?_ | refine gP_if ?_ ?_) <;> (intro hc; try simp only [Int.reduceLE,Int.reduceLT,Int.reduceEq,and_self,not_true_eq_false,not_false_eq_true,and_true,true_and,false_and,and_false,true_or,or_true,false_or,or_false,decide_eq_true_eq,decide_eq_false_iff_not,beq_iff_eq,beq_eq_false_iff_ne,bne_iff_ne,ne_eq,gt_iff_lt,ge_iff_le,Bool.not_eq_true,Bool.not_eq_false,Bool.not_eq_true',Bool.not_eq_false',Bool.not_eq_eq_eq_not,Bool.not_true,Bool.not_false] at hc)) | (refine KP_i (by (repeat' (first | exact Heap.Le.refl _ | (refine Le_known (by first | (simp only [Heap.set_same, set_ne, ne_eq, not_false_eq_true, *] <;> rfl) | fail) ?_) | (refine Le_fresh (by first | (simp only [*] <;> done) | (simp [set_none', Heap.set_same, set_ne, *] <;> done) | fail) ?_) | (refine Heap.Le.trans ?_ (Grow.le (by assumption)))))) ?_) | (with_reducible refine And.intro ?_ ?_)) <;> (try simp only [Sh,Si,Sl,Bu,Bb,Bd,Bc,Bw,Bn,Int.reduceAdd,Int.reduceSub,Int.reduceMul,Int.reduceTDiv,Int.reduceTMod,Int.reduceMod,Int.reduceDiv,Nat.reduceLT,Nat.reduceEqDiff,decide_true,decide_false,Sa,Sb,Sc,Sd,Se,Sf,Sg,true_and,and_true,and_self,eq_self,b_i64,b_i32,b_u64,b_u32,b_u8,Int.reduceLE,Int.reduceLT,Int.reduceToNat,Int.reduceNeg,Int.reduceEq,Nat.reduceLeDiff,Nat.reducePow,Int.reducePow,Nat.min_def,reduceIte,Nat.reduceSub,Nat.reduceAdd,Nat.reduceMul,KP_same,KP_f,condS_t,condS_f,pick_t,pick_f,gS_tt,gS_ff,gS_tf,gS_ft,gS_u,gP_tt,gP_ff,gP_tf,gP_ft,gP_u,ptrV_eq,slcV_eq,cells_agg,cells_int,cells_bool,cells_ptr,cells_slice,oc_int,oc_bool,oc_slice,oc_ptr,rd1_set,rd1_ne,rdn_set,rdn_ne,Heap.set_same,set_ne,Heap.set_set,set_up,set_up2,set_up3,putAt,ceq,List.map_cons,List.map_nil,List.length_cons,List.length_nil,List.length_set,List.cons_append,List.nil_append,List.append_nil,List.replicate,List.size_toArray,List.all_cons,List.all_nil,Bool.and_self,Bool.and_true,List.drop_zero,List.drop_succ_cons,List.take_succ_cons,List.take_zero,List.set_cons_zero,List.set_cons_succ,List.getElem?_cons_zero,List.getElem?_cons_succ,Option.map_some,Option.map_none,ne_eq,not_false_eq_true,not_true_eq_false,gt_iff_lt,ge_iff_le,Int.one_mul,Nat.zero_add,Nat.zero_mul,Bool.not_true,Bool.not_false,Bool.false_eq_true,Bool.and_false,Bool.false_and,Bool.true_and, *]))
    have ho3 := hnx os2 ho2
    have hl3 : os2.length ≤ 384 := by rw [← List.length_map (f := VtR.toVt), ho3]; exact cutN_le3 hls' (show k + 1 ≤ 7 by omega) rfl
    exact Round_p (k + 1, a2, c2, os2) ⟨hlt, hG.trans hg2, hB2.rows hg2 (by unfold maxLen; omega), ho3⟩ (by simp only; omega) rfl rfl
  · obtain rfl : k = 7 := by omega
    replace k4 := hG.some k4
    have gHG := g1.trans hG
    clear hk hge hm hG g1 hA
    obtain ⟨m, em⟩ : ∃ m, os.length = m := ⟨_, rfl⟩
    rw [em] at hol ⊢
    have htri : triA v (ls.map VtR.toVt) = if ∀ y ∈ os.map VtR.toVt, 0 ≤ dist y.p 0 then fanK ((os.map VtR.toVt).map (winA v)) (m - 2) else [] := by
      unfold triA; rw [← hos, List.length_map, em]
    rw [htri] at h1
    clear htri hos hmv hls hls'
    (all_goals (refine (fun f : True → _ => f trivial) ?_)); repeat' ((first | (with_reducible refine fun _ : True => ?_) | (refine AllocQ_i ?_; intro bk hb0 hbk; (try simp only [set_none'] at hbk); (try (first | have hbn := Grow.none (by assumption) hbk | have hbn := Grow.none (by assumption) hbk.2 | have hbn := Grow.none (by assumption) hbk.2.2 | have hbn := Grow.none (by assumption) hbk.2.2.2 | have hbn := Grow.none (by assumption) hbk.2.2.2.2 | have hbn := Grow.none (by assumption) hbk.2.2.2.2.2)); (try simp only [set_none'] at hbn); (try (first | have hbm := Grow.none (by assumption) hbn | have hbm := Grow.none (by assumption) hbn.2 | have hbm := Grow.none (by assumption) hbn.2.2 | have hbm := Grow.none (by assumption) hbn.2.2.2 | have hbm := Grow.none (by assumption) hbn.2.2.2.2 | have hbm := Grow.none (by assumption) hbn.2.2.2.2.2)); (try simp only [set_none'] at hbm)) | ((first | refine condS_i ?_ ?_ | refine pick_i ?_ ?_ | refine gS_it ?_ ?_ | refine gS_if ?_ ?_ | refine gP_it ?_ ?_ | refine gP_if ?_ ?_) <;> (intro hc; try simp only [Int.reduceLE,Int.reduceLT,Int.reduceEq,and_self,not_true_eq_false,not_false_eq_true,and_true,true_and,false_and,and_false,true_or,or_true,false_or,or_false,decide_eq_true_eq,decide_eq_false_iff_not,beq_iff_eq,beq_eq_false_iff_ne,bne_iff_ne,ne_eq,gt_iff_lt,ge_iff_le,Bool.not_eq_true,Bool.not_eq_false,Bool.not_eq_true',Bool.not_eq_false',Bool.not_eq_eq_eq_not,Bool.not_true,Bool.not_false] at hc)) | (refine KP_i (by (repeat' (first | exact Heap.Le.refl _ | (refine Le_known (by first | (simp only [Heap.set_same, set_ne, ne_eq, not_false_eq_true, *] <;> rfl) | fail) ?_) | (refine Le_fresh (by first | (simp only [*] <;> done) | (simp [set_none', Heap.set_same, set_ne, *] <;> done) | fail) ?_) | (refine Heap.Le.trans ?_ (Grow.le (by assumption)))))) ?_) | (with_reducible refine And.intro ?_ ?_)) <;> (try simp only [Sh,Si,Sl,Bu,Bb,Bd,Bc,Bw,Bn,Int.reduceAdd,Int.reduceSub,Int.reduceMul,Int.reduceTDiv,Int.reduceTMod,Int.reduceMod,Int.reduceDiv,Nat.reduceLT,Nat.reduceEqDiff,decide_true,decide_false,Sa,Sb,Sc,Sd,Se,Sf,Sg,true_and,and_true,and_self,eq_self,b_i64,b_i32,b_u64,b_u32,b_u8,Int.reduceLE,Int.reduceLT,Int.reduceToNat,Int.reduceNeg,Int.reduceEq,Nat.reduceLeDiff,Nat.reducePow,Int.reducePow,Nat.min_def,reduceIte,Nat.reduceSub,Nat.reduceAdd,Nat.reduceMul,KP_same,KP_f,condS_t,condS_f,pick_t,pick_f,gS_tt,gS_ff,gS_tf,gS_ft,gS_u,gP_tt,gP_ff,gP_tf,gP_ft,gP_u,ptrV_eq,slcV_eq,cells_agg,cells_int,cells_bool,cells_ptr,cells_slice,oc_int,oc_bool,oc_slice,oc_ptr,rd1_set,rd1_ne,rdn_set,rdn_ne,Heap.set_same,set_ne,Heap.set_set,set_up,set_up2,set_up3,putAt,ceq,List.map_cons,List.map_nil,List.length_cons,List.length_nil,List.length_set,List.cons_append,List.nil_append,List.append_nil,List.replicate,List.size_toArray,List.all_cons,List.all_nil,Bool.and_self,Bool.and_true,List.drop_zero,List.drop_succ_cons,List.take_succ_cons,List.take_zero,List.set_cons_zero,List.set_cons_succ,List.getElem?_cons_zero,List.getElem?_cons_succ,Option.map_some,Option.map_none,ne_eq,not_false_eq_true,not_true_eq_false,gt_iff_lt,ge_iff_le,Int.one_mul,Nat.zero_add,Nat.zero_mul,Bool.not_true,Bool.not_false,Bool.false_eq_true,Bool.and_false,Bool.false_and,Bool.true_and, *]))
    refine loop_g 7 (fun s : Nat => [(6, .int .i64 (s : Nat))]) (fun _ => G) (fun s => s ≤ m ∧ ∀ y ∈ (os.map VtR.toVt).take s, 0 ≤ dist y.p 0) (fun s => m - s) 0 ⟨Nat.zero_le _, by simp⟩ (Heap.Le.refl _) rfl ?_
    rintro k f2 ⟨hk, hin⟩
    rcases Nat.lt_or_ge k m with hlt | hge
    · have t0 : (k : Int) < (m : Int) := by omega
      have t6 : IntKind.i64.wrap ((k : Int) + 1) = (k : Int) + 1 := Bw.1 _ (by omega) (by omega)
      obtain ⟨y, ey⟩ : ∃ v, os[k]? = some v := ⟨_, List.getElem?_eq_getElem (by omega)⟩
      obtain ⟨b, o, rfl, r1, hf⟩ := rows_vt hR ey
      have hy := hR.ok y (List.mem_of_getElem? ey)
      have hyp := hy.p
      have et : (os.map VtR.toVt)[k]? = some y.toVt := by rw [List.getElem?_map, ey]; rfl
      have eT : (os.map VtR.toVt).take (k + 1) = (os.map VtR.toVt).take k ++ [y.toVt] := by rw [List.take_add_one, et]; rfl
      have cD : ∀ (F' : Heap) (K : Value → Heap → Prop), K (.int .i32 (dist y.p 0)) F' → HCalls Try.prog w0 20 [y.v, .int .i64 0] F' K := fun F' K hk => r_Distance y 0 (by omega) hyp hk
      have hno : dist y.p 0 < 0 → ¬ ∀ y ∈ os.map VtR.toVt, 0 ≤ dist y.p 0 := fun hd hh => by
        have := hh y.toVt (List.mem_of_getElem? et)
        omega
      unfold VtR.v at cD
      unfold VtR.row at r1
      clear hR hf em ey et hy
      (all_goals (refine (fun f : True → _ => f trivial) ?_)); repeat' ((first | (with_reducible refine fun _ : True => ?_) | refine cD _ _ ?_ | (refine AllocQ_i ?_; intro bk hb0 hbk; (try simp only [set_none'] at hbk); (try (first | have hbn := Grow.none (by assumption) hbk | have hbn := Grow.none (by assumption) hbk.2 | have hbn := Grow.none (by assumption) hbk.2.2 | have hbn := Grow.none (by assumption) hbk.2.2.2 | have hbn := Grow.none (by assumption) hbk.2.2.2.2 | have hbn := Grow.none (by assumption) hbk.2.2.2.2.2)); (try simp only [set_none'] at hbn); (try (first | have hbm := Grow.none (by assumption) hbn | have hbm := Grow.none (by assumption) hbn.2 | have hbm := Grow.none (by assumption) hbn.2.2 | have hbm := Grow.none (by assumption) hbn.2.2.2 | have hbm := Grow.none (by assumption) hbn.2.2.2.2 | have hbm := Grow.none (by assumption) hbn.2.2.2.2.2)); (try simp only [set_none'] at hbm)) | ((first | refine condS_i ?_ ?_ | refine pick_i ?_ ?_ | refine gS_it ?_ ?_ | refine gS_if ?_ ?_ | refine gP_it ?_ ?_ | refine gP_if ?_ ?_) <;> (intro hc; try simp only [Int.reduceLE,Int.reduceLT,Int.reduceEq,and_self,not_true_eq_false,not_false_eq_true,and_true,true_and,false_and,and_false,true_or,or_true,false_or,or_false,decide_eq_true_eq,decide_eq_false_iff_not,beq_iff_eq,beq_eq_false_iff_ne,bne_iff_ne,ne_eq,gt_iff_lt,ge_iff_le,Bool.not_eq_true,Bool.not_eq_false,Bool.not_eq_true',Bool.not_eq_false',Bool.not_eq_eq_eq_not,Bool.not_true,Bool.not_false] at hc)) | (refine KP_i (by (repeat' (first | exact Heap.Le.refl _ | (refine Le_known (by first | (simp only [Heap.set_same, set_ne, ne_eq, not_false_eq_true, *] <;> rfl) | fail) ?_) | (refine Le_fresh (by first | (simp only [*] <;> done) | (simp [set_none', Heap.set_same, set_ne, *] <;> done) | fail) ?_) | (refine Heap.Le.trans ?_ (Grow.le (by assumption)))))) ?_) | (with_reducible refine And.intro ?_ ?_)) <;> (try simp only [Sh,Si,Sl,Bu,Bb,Bd,Bc,Bw,Bn,Int.reduceAdd,Int.reduceSub,Int.reduceMul,Int.reduceTDiv,Int.reduceTMod,Int.reduceMod,Int.reduceDiv,Nat.reduceLT,Nat.reduceEqDiff,decide_true,decide_false,Sa,Sb,Sc,Sd,Se,Sf,Sg,true_and,and_true,and_self,eq_self,b_i64,b_i32,b_u64,b_u32,b_u8,Int.reduceLE,Int.reduceLT,Int.reduceToNat,Int.reduceNeg,Int.reduceEq,Nat.reduceLeDiff,Nat.reducePow,Int.reducePow,Nat.min_def,reduceIte,Nat.reduceSub,Nat.reduceAdd,Nat.reduceMul,KP_same,KP_f,condS_t,condS_f,pick_t,pick_f,gS_tt,gS_ff,gS_tf,gS_ft,gS_u,gP_tt,gP_ff,gP_tf,gP_ft,gP_u,ptrV_eq,slcV_eq,cells_agg,cells_int,cells_bool,cells_ptr,cells_slice,oc_int,oc_bool,oc_slice,oc_ptr,rd1_set,rd1_ne,rdn_set,rdn_ne,Heap.set_same,set_ne,Heap.set_set,set_up,set_up2,set_up3,putAt,ceq,List.map_cons,List.map_nil,List.length_cons,List.length_nil,List.length_set,List.cons_append,List.nil_append,List.append_nil,List.replicate,List.size_toArray,List.all_cons,List.all_nil,Bool.and_self,Bool.and_true,List.drop_zero,List.drop_succ_cons,List.take_succ_cons,List.take_zero,List.set_cons_zero,List.set_cons_succ,List.getElem?_cons_zero,List.getElem?_cons_succ,Option.map_some,Option.map_none,ne_eq,not_false_eq_true,not_true_eq_false,gt_iff_lt,ge_iff_le,Int.one_mul,Nat.zero_add,Nat.zero_mul,Bool.not_true,Bool.not_false,Bool.false_eq_true,Bool.and_false,Bool.false_and,Bool.true_and, *]))
      · exact Fin_mk (Heap.Le.refl _) (h1 none 0 [] _ (by rw [if_neg (hno hc)]; rfl) RO.nil gHG)
      · refine Round_mk (k + 1) ⟨hlt, fun z hz => ?_⟩ (by omega) (Heap.Le.refl _) rfl rfl
        rw [eT] at hz
        rcases List.mem_append.1 hz with h' | h'
        · exact hin z h'
        · rw [List.mem_singleton.1 h']; show 0 ≤ dist y.p 0; omega
    · obtain rfl : m = k := by omega
      have t0 : ¬ ((m : Nat) : Int) < ((m : Nat) : Int) := by omega
      have hfull : (os.map VtR.toVt).take m = os.map VtR.toVt := List.take_of_length_le (by rw [List.length_map]; omega)
      rw [hfull] at hin
      rw [if_pos hin] at h1
      clear hin hfull
      (all_goals (refine (fun f : True → _ => f trivial) ?_)); repeat' ((first | (with_reducible refine fun _ : True => ?_) | (refine AllocQ_i ?_; intro bk hb0 hbk; (try simp only [set_none'] at hbk); (try (first | have hbn := Grow.none (by assumption) hbk | have hbn := Grow.none (by assumption) hbk.2 | have hbn := Grow.none (by assumption) hbk.2.2 | have hbn := Grow.none (by assumption) hbk.2.2.2 | have hbn := Grow.none (by assumption) hbk.2.2.2.2 | have hbn := Grow.none (by assumption) hbk.2.2.2.2.2)); (try simp only [set_none'] at hbn); (try (first | have hbm := Grow.none (by assumption) hbn | have hbm := Grow.none (by assumption) hbn.2 | have hbm := Grow.none (by assumption) hbn.2.2 | have hbm := Grow.none (by assumption) hbn.2.2.2 | have hbm := Grow.none (by assumption) hbn.2.2.2.2 | have hbm := Grow.none (by assumption) hbn.2.2.2.2.2)); (try simp only [set_none'] at hbm)) | ((first | refine condS_i ?_ ?_ | refine pick_i ?_ ?_ | refine gS_it ?_ ?_ | refine gS_if ?_ ?_ | refine gP_it ?_ ?_ | refine gP_if ?_ ?_) <;> (intro hc; try simp only [Int.reduceLE,Int.reduceLT,Int.reduceEq,and_self,not_true_eq_false,not_false_eq_true,and_true,true_and,false_and,and_false,true_or,or_true,false_or,or_false,decide_eq_true_eq,decide_eq_false_iff_not,beq_iff_eq,beq_eq_false_iff_ne,bne_iff_ne,ne_eq,gt_iff_lt,ge_iff_le,Bool.not_eq_true,Bool.not_eq_false,Bool.not_eq_true',Bool.not_eq_false',Bool.not_eq_eq_eq_not,Bool.not_true,Bool.not_false] at hc)) | (refine KP_i (by (repeat' (first | exact Heap.Le.refl _ | (refine Le_known (by first | (simp only [Heap.set_same, set_ne, ne_eq, not_false_eq_true, *] <;> rfl) | fail) ?_) | (refine Le_fresh (by first | (simp only [*] <;> done) | (simp [set_none', Heap.set_same, set_ne, *] <;> done) | fail) ?_) | (refine Heap.Le.trans ?_ (Grow.le (by assumption)))))) ?_) | (with_reducible refine And.intro ?_ ?_)) <;> (try simp only [Sh,Si,Sl,Bu,Bb,Bd,Bc,Bw,Bn,Int.reduceAdd,Int.reduceSub,Int.reduceMul,Int.reduceTDiv,Int.reduceTMod,Int.reduceMod,Int.reduceDiv,Nat.reduceLT,Nat.reduceEqDiff,decide_true,decide_false,Sa,Sb,Sc,Sd,Se,Sf,Sg,true_and,and_true,and_self,eq_self,b_i64,b_i32,b_u64,b_u32,b_u8,Int.reduceLE,Int.reduceLT,Int.reduceToNat,Int.reduceNeg,Int.reduceEq,Nat.reduceLeDiff,Nat.reducePow,Int.reducePow,Nat.min_def,reduceIte,Nat.reduceSub,Nat.reduceAdd,Nat.reduceMul,KP_same,KP_f,condS_t,condS_f,pick_t,pick_f,gS_tt,gS_ff,gS_tf,gS_ft,gS_u,gP_tt,gP_ff,gP_tf,gP_ft,gP_u,ptrV_eq,slcV_eq,cells_agg,cells_int,cells_bool,cells_ptr,cells_slice,oc_int,oc_bool,oc_slice,oc_ptr,rd1_set,rd1_ne,rdn_set,rdn_ne,Heap.set_same,set_ne,Heap.set_set,set_up,set_up2,set_up3,putAt,ceq,List.map_cons,List.map_nil,List.length_cons,List.length_nil,List.length_set,List.cons_append,List.nil_append,List.append_nil,List.replicate,List.size_toArray,List.all_cons,List.all_nil,Bool.and_self,Bool.and_true,List.drop_zero,List.drop_succ_cons,List.take_succ_cons,List.take_zero,List.set_cons_zero,List.set_cons_succ,List.getElem?_cons_zero,List.getElem?_cons_succ,Option.map_some,Option.map_none,ne_eq,not_false_eq_true,not_true_eq_false,gt_iff_lt,ge_iff_le,Int.one_mul,Nat.zero_add,Nat.zero_mul,Bool.not_true,Bool.not_false,Bool.false_eq_true,Bool.and_false,Bool.false_and,Bool.true_and, *]))
      refine loop_g 9 (fun s : (Nat × Option Addr × Nat × List (WnR × WnR × WnR)) × Heap => [(7, .slice s.1.2.1 s.1.2.2.2.length s.1.2.2.1), (8, .int .i64 ((s.1.1 + 2 : Nat) : Int))]) (fun s => s.2)
        (fun s => s.1.1 ≤ m - 2 ∧ Grow w0 G s.2 ∧ RB triT w0 G s.2 s.1.2.1 s.1.2.2.1 s.1.2.2.2 ∧ s.1.2.2.2.map triC = fanK ((os.map VtR.toVt).map (winA v)) s.1.1) (fun s => m - 2 - s.1.1)
        ((0, none, 0, []), G) ⟨Nat.zero_le _, Grow.refl _, RB.nil, rfl⟩ (Heap.Le.refl _) rfl ?_
      rintro ⟨⟨k, at_, ct, ts⟩, E⟩ f3 ⟨hk, hE, hT, hts⟩
      simp only at hk hE hT hts
      show run _ _ _ _ _ _ E
      have htl : ts.length ≤ 384 := by
        have := congrArg List.length hts
        rw [List.length_map, fanK_len] at this
        omega
      have t6 : IntKind.i64.wrap (((k + 2 : Nat) : Int) + 1) = ((k + 1 + 2 : Nat) : Int) := by rw [Bw.1 _ (by omega) (by omega)]; omega
      have t7 : IntKind.i64.wrap (((k + 2 : Nat) : Int) - 1) = ((k + 1 : Nat) : Int) := by rw [Bw.1 _ (by omega) (by omega)]; omega
      rcases Nat.lt_or_ge (k + 2) m with hlt | hge
      · have t0 : ((k + 2 : Nat) : Int) < (m : Int) := by omega
        have t1 : ((k + 1 : Nat) : Int) < (m : Int) := by omega
        have t2 : (0 : Int) < (m : Int) := by omega
        obtain ⟨x, ex⟩ : ∃ v, os[0]? = some v := ⟨_, List.getElem?_eq_getElem (by omega)⟩
        obtain ⟨y, ey⟩ : ∃ v, os[k + 1]? = some v := ⟨_, List.getElem?_eq_getElem (by omega)⟩
        obtain ⟨z, ez⟩ : ∃ v, os[k + 2]? = some v := ⟨_, List.getElem?_eq_getElem (by omega)⟩
        obtain ⟨b, o, rfl, r1, hf⟩ := rows_vt hR ex
        obtain ⟨b', o', e', r2, -⟩ := rows_vt hR ey
        cases e'
        obtain ⟨b', o', e', r3, -⟩ := rows_vt hR ez
        cases e'
        have r1 : rdn w0 E b o 6 = some x.row := by have := hE.rdn r1 (by decide); simpa using this
        have r2 : rdn w0 E b (o + (k + 1) * 6) 6 = some y.row := hE.rdn r2 (by decide)
        have r3 : rdn w0 E b (o + (k + 2) * 6) 6 = some z.row := hE.rdn r3 (by decide)
        have ox := hR.ok x (List.mem_of_getElem? ex)
        have oy := hR.ok y (List.mem_of_getElem? ey)
        have oz := hR.ok z (List.mem_of_getElem? ez)
        have cX : ∀ (F' : Heap) (K : Value → Heap → Prop), Grow w0 E F' → K (WnR.mk (winA v x.toVt) x.a x.cap).v F' → HCalls Try.prog w0 22 [v.v, x.v] F' K := fun F' K g hk => r_Window v x hv ((ox.grow hE).grow g) hk
        have cY : ∀ (F' : Heap) (K : Value → Heap → Prop), Grow w0 E F' → K (WnR.mk (winA v y.toVt) y.a y.cap).v F' → HCalls Try.prog w0 22 [v.v, y.v] F' K := fun F' K g hk => r_Window v y hv ((oy.grow hE).grow g) hk
        have cZ : ∀ (F' : Heap) (K : Value → Heap → Prop), Grow w0 E F' → K (WnR.mk (winA v z.toVt) z.a z.cap).v F' → HCalls Try.prog w0 22 [v.v, z.v] F' K := fun F' K g hk => r_Window v z hv ((oz.grow hE).grow g) hk
        have hnew : fanK ((os.map VtR.toVt).map (winA v)) (k + 1) = fanK ((os.map VtR.toVt).map (winA v)) k ++ [(winA v x.toVt, winA v y.toVt, winA v z.toVt)] := by
          rw [fanK_succ]
          simp only [List.getD_eq_getElem?_getD, List.getElem?_map, ex, ey, ez, Option.map_some, Option.getD_some]
        have hfE : ∀ c, w0.heap.size ≤ c → E c = none → c ≠ b := fun c e1 e2 => hf c e1 (hE.none e2)
        have k4 := hE.some k4
        have r4 : rdn w0 E b4 0 6 = some [.int .i64 v.x, .int .i64 v.y, .int .i64 v.w, .int .i64 v.h, .int .i32 v.n, .int .i32 v.f] := by unfold rdn; rw [k4]; rfl
        have hf4 : ∀ c, E c = none → c ≠ b4 := fun c e1 e2 => by subst e2; rw [k4] at e1; cases e1
        have vx : VsAt w0 G E x.a x.cap x.l := ox.vs.old
        have vy : VsAt w0 G E y.a y.cap y.l := oy.vs.old
        have vz : VsAt w0 G E z.a z.cap z.l := oz.vs.old
        unfold VtR.v Vw.v WnR.v at cX cY cZ
        unfold VtR.row at r1 r2 r3
        clear h1 hf ex ey ez em hR k4
        (all_goals (refine (fun f : True → _ => f trivial) ?_)); repeat' ((first | (with_reducible refine fun _ : True => ?_) | refine cX _ _ (by (repeat' (first | exact Grow.refl _ | assumption | (refine Grow_known (by first | (simp only [Heap.set_same, set_ne, ne_eq, not_false_eq_true, *] <;> rfl) | fail) ?_) | (refine Grow.set ?_ (by assumption) (by first | (simp only [*] <;> done) | (simp [set_none', Heap.set_same, set_ne, *] <;> done) | fail)) | (refine Grow.trans ?_ (by assumption))))) ?_ | refine cY _ _ (by (repeat' (first | exact Grow.refl _ | assumption | (refine Grow_known (by first | (simp only [Heap.set_same, set_ne, ne_eq, not_false_eq_true, *] <;> rfl) | fail) ?_) | (refine Grow.set ?_ (by assumption) (by first | (simp only [*] <;> done) | (simp [set_none', Heap.set_same, set_ne, *] <;> done) | fail)) | (refine Grow.trans ?_ (by assumption))))) ?_ | refine cZ _ _ (by (repeat' (first | exact Grow.refl _ | assumption | (refine Grow_known (by first | (simp only [Heap.set_same, set_ne, ne_eq, not_false_eq_true, *] <;> rfl) | fail) ?_) | (refine Grow.set ?_ (by assumption) (by first | (simp only [*] <;> done) | (simp [set_none', Heap.set_same, set_ne, *] <;> done) | fail)) | (refine Grow.trans ?_ (by assumption))))) ?_ | (refine AllocQ_i ?_; intro bk hb0 hbk; (try simp only [set_none'] at hbk); (try (first | have hbn := Grow.none (by assumption) hbk | have hbn := Grow.none (by assumption) hbk.2 | have hbn := Grow.none (by assumption) hbk.2.2 | have hbn := Grow.none (by assumption) hbk.2.2.2 | have hbn := Grow.none (by assumption) hbk.2.2.2.2 | have hbn := Grow.none (by assumption) hbk.2.2.2.2.2)); (try simp only [set_none'] at hbn); (try (first | have hbm := Grow.none (by assumption) hbn | have hbm := Grow.none (by assumption) hbn.2 | have hbm := Grow.none (by assumption) hbn.2.2 | have hbm := Grow.none (by assumption) hbn.2.2.2 | have hbm := Grow.none (by assumption) hbn.2.2.2.2 | have hbm := Grow.none (by assumption) hbn.2.2.2.2.2)); (try simp only [set_none'] at hbm)) | ((first | refine condS_i ?_ ?_ | refine pick_i ?_ ?_ | refine gS_it ?_ ?_ | refine gS_if ?_ ?_ | refine gP_it ?_ ?_ | refine gP_if ?_ ?_) <;> (intro hc; try simp only [Int.reduceLE,Int.reduceLT,Int.reduceEq,and_self,not_true_eq_false,not_false_eq_true,and_true,true_and,false_and,and_false,true_or,or_true,false_or,or_false,decide_eq_true_eq,decide_eq_false_iff_not,beq_iff_eq,beq_eq_false_iff_ne,bne_iff_ne,ne_eq,gt_iff_lt,ge_iff_le,Bool.not_eq_true,Bool.not_eq_false,Bool.not_eq_true',Bool.not_eq_false',Bool.not_eq_eq_eq_not,Bool.not_true,Bool.not_false] at hc)) | (refine KP_i (by (repeat' (first | exact Heap.Le.refl _ | (refine Le_known (by first | (simp only [Heap.set_same, set_ne, ne_eq, not_false_eq_true, *] <;> rfl) | fail) ?_) | (refine Le_fresh (by first | (simp only [*] <;> done) | (simp [set_none', Heap.set_same, set_ne, *] <;> done) | fail) ?_) | (refine Heap.Le.trans ?_ (Grow.le (by assumption)))))) ?_) | (with_reducible refine And.intro ?_ ?_)) <;> (try simp only [Sh,Si,Sl,Bu,Bb,Bd,Bc,Bw,Bn,Int.reduceAdd,Int.reduceSub,Int.reduceMul,Int.reduceTDiv,Int.reduceTMod,Int.reduceMod,Int.reduceDiv,Nat.reduceLT,Nat.reduceEqDiff,decide_true,decide_false,Sa,Sb,Sc,Sd,Se,Sf,Sg,true_and,and_true,and_self,eq_self,b_i64,b_i32,b_u64,b_u32,b_u8,Int.reduceLE,Int.reduceLT,Int.reduceToNat,Int.reduceNeg,Int.reduceEq,Nat.reduceLeDiff,Nat.reducePow,Int.reducePow,Nat.min_def,reduceIte,Nat.reduceSub,Nat.reduceAdd,Nat.reduceMul,KP_same,KP_f,condS_t,condS_f,pick_t,pick_f,gS_tt,gS_ff,gS_tf,gS_ft,gS_u,gP_tt,gP_ff,gP_tf,gP_ft,gP_u,ptrV_eq,slcV_eq,cells_agg,cells_int,cells_bool,cells_ptr,cells_slice,oc_int,oc_bool,oc_slice,oc_ptr,rd1_set,rd1_ne,rdn_set,rdn_ne,Heap.set_same,set_ne,Heap.set_set,set_up,set_up2,set_up3,putAt,ceq,List.map_cons,List.map_nil,List.length_cons,List.length_nil,List.length_set,List.cons_append,List.nil_append,List.append_nil,List.replicate,List.size_toArray,List.all_cons,List.all_nil,Bool.and_self,Bool.and_true,List.drop_zero,List.drop_succ_cons,List.take_succ_cons,List.take_zero,List.set_cons_zero,List.set_cons_succ,List.getElem?_cons_zero,List.getElem?_cons_succ,Option.map_some,Option.map_none,ne_eq,not_false_eq_true,not_true_eq_false,gt_iff_lt,ge_iff_le,Int.one_mul,Nat.zero_add,Nat.zero_mul,Bool.not_true,Bool.not_false,Bool.false_eq_true,Bool.and_false,Bool.false_and,Bool.true_and, *]))
        have gb := (Grow.refl (w0 := w0) E).set (x := ⟨triT.ty, (WnR.mk (winA v x.toVt) x.a x.cap).row ++ (WnR.mk (winA v y.toVt) y.a y.cap).row ++ (WnR.mk (winA v z.toVt) z.a z.cap).row⟩) hb0 hbk
        refine app_rb (R := triT) (os := ts) (ns := [(WnR.mk (winA v x.toVt) x.a x.cap, WnR.mk (winA v y.toVt) y.a y.cap, WnR.mk (winA v z.toVt) z.a z.cap)]) (hT.grow gb) rfl (srd_blk at1 rfl) (fun q hq v' hv' => ?_) (hE.trans gb) (by simp; omega) (by decide) (fun a6 c6 ts6 G6 e6 hB6 hG6 => ?_)
        · rw [List.mem_singleton.1 hq] at hv'
          simp only [List.mem_cons, List.not_mem_nil, or_false] at hv'
          rcases hv' with rfl | rfl | rfl
          · exact vx.grow gb
          · exact vy.grow gb
          · exact vz.grow gb
        · have hts6 : ts6.map triC = fanK ((os.map VtR.toVt).map (winA v)) (k + 1) := by rw [e6, List.map_append, hts, hnew]; rfl
          clear hT hts hnew e6 vx vy vz
          (all_goals (refine (fun f : True → _ => f trivial) ?_)); repeat' ((first | (with_reducible refine fun _ : True => ?_) | (refine AllocQ_i ?_; intro bk hb0 hbk; (try simp only [set_none'] at hbk); (try (first | have hbn := Grow.none (by assumption) hbk | have hbn := Grow.none (by assumption) hbk.2 | have hbn := Grow.none (by assumption) hbk.2.2 | have hbn := Grow.none (by assumption) hbk.2.2.2 | have hbn := Grow.none (by assumption) hbk.2.2.2.2 | have hbn := Grow.none (by assumption) hbk.2.2.2.2.2)); (try simp only [set_none'] at hbn); (try (first | have hbm := Grow.none (by assumption) hbn | have hbm := Grow.none (by assumption) hbn.2 | have hbm := Grow.none (by assumption) hbn.2.2 | have hbm := Grow.none (by assumption) hbn.2.2.2 | have hbm := Grow.none (by assumption) hbn.2.2.2.2 | have hbm := Grow.none (by assumption) hbn.2.2.2.2.2)); (try simp only [set_none'] at hbm)) | ((first | refine condS_i ?_ ?_ | refine pick_i ?_ ?_ | refine gS_it ?_ ?_ | refine gS_if ?_ ?_ | refine gP_it ?_ ?_ | refine gP_if ?_ ?_) <;> (intro hc; try simp only [Int.reduceLE,Int.reduceLT,Int.reduceEq,and_self,not_true_eq_false,not_false_eq_true,and_true,true_and,false_and,and_false,true_or,or_true,false_or,or_false,decide_eq_true_eq,decide_eq_false_iff_not,beq_iff_eq,beq_eq_false_iff_ne,bne_iff_ne,ne_eq,gt_iff_lt,ge_iff_le,Bool.not_eq_true,Bool.not_eq_false,Bool.not_eq_true',Bool.not_eq_false',Bool.not_eq_eq_eq_not,Bool.not_true,Bool.not_false] at hc)) | (refine KP_i (by (repeat' (first | exact Heap.Le.refl _ | (refine Le_known (by first | (simp only [Heap.set_same, set_ne, ne_eq, not_false_eq_true, *] <;> rfl) | fail) ?_) | (refine Le_fresh (by first | (simp only [*] <;> done) | (simp [set_none', Heap.set_same, set_ne, *] <;> done) | fail) ?_) | (refine Heap.Le.trans ?_ (Grow.le (by assumption)))))) ?_) | (with_reducible refine And.intro ?_ ?_)) <;> (try simp only [Sh,Si,Sl,Bu,Bb,Bd,Bc,Bw,Bn,Int.reduceAdd,Int.reduceSub,Int.reduceMul,Int.reduceTDiv,Int.reduceTMod,Int.reduceMod,Int.reduceDiv,Nat.reduceLT,Nat.reduceEqDiff,decide_true,decide_false,Sa,Sb,Sc,Sd,Se,Sf,Sg,true_and,and_true,and_self,eq_self,b_i64,b_i32,b_u64,b_u32,b_u8,Int.reduceLE,Int.reduceLT,Int.reduceToNat,Int.reduceNeg,Int.reduceEq,Nat.reduceLeDiff,Nat.reducePow,Int.reducePow,Nat.min_def,reduceIte,Nat.reduceSub,Nat.reduceAdd,Nat.reduceMul,KP_same,KP_f,condS_t,condS_f,pick_t,pick_f,gS_tt,gS_ff,gS_tf,gS_ft,gS_u,gP_tt,gP_ff,gP_tf,gP_ft,gP_u,ptrV_eq,slcV_eq,cells_agg,cells_int,cells_bool,cells_ptr,cells_slice,oc_int,oc_bool,oc_slice,oc_ptr,rd1_set,rd1_ne,rdn_set,rdn_ne,Heap.set_same,set_ne,Heap.set_set,set_up,set_up2,set_up3,putAt,ceq,List.map_cons,List.map_nil,List.length_cons,List.length_nil,List.length_set,List.cons_append,List.nil_append,List.append_nil,List.replicate,List.size_toArray,List.all_cons,List.all_nil,Bool.and_self,Bool.and_true,List.drop_zero,List.drop_succ_cons,List.take_succ_cons,List.take_zero,List.set_cons_zero,List.set_cons_succ,List.getElem?_cons_zero,List.getElem?_cons_succ,Option.map_some,Option.map_none,ne_eq,not_false_eq_true,not_true_eq_false,gt_iff_lt,ge_iff_le,Int.one_mul,Nat.zero_add,Nat.zero_mul,Bool.not_true,Bool.not_false,Bool.false_eq_true,Bool.and_false,Bool.false_and,Bool.true_and, *]))
          exact Round_p (k + 1, a6, c6, ts6) ⟨by simp only; omega, hG6, hB6, hts6⟩ (by simp only; omega) rfl rfl
      · have t0 : ¬ ((k + 2 : Nat) : Int) < (m : Int) := by omega
        have hkm : k = m - 2 := by omega
        have hfin := h1 at_ ct ts E (by rw [hts, hkm]) (hT.ro hE) (gHG.trans hE)
        clear h1 hT hts hkm
        (all_goals (refine (fun f : True → _ => f trivial) ?_)); repeat' ((first | (with_reducible refine fun _ : True => ?_) | (refine AllocQ_i ?_; intro bk hb0 hbk; (try simp only [set_none'] at hbk); (try (first | have hbn := Grow.none (by assumption) hbk | have hbn := Grow.none (by assumption) hbk.2 | have hbn := Grow.none (by assumption) hbk.2.2 | have hbn := Grow.none (by assumption) hbk.2.2.2 | have hbn := Grow.none (by assumption) hbk.2.2.2.2 | have hbn := Grow.none (by assumption) hbk.2.2.2.2.2)); (try simp only [set_none'] at hbn); (try (first | have hbm := Grow.none (by assumption) hbn | have hbm := Grow.none (by assumption) hbn.2 | have hbm := Grow.none (by assumption) hbn.2.2 | have hbm := Grow.none (by assumption) hbn.2.2.2 | have hbm := Grow.none (by assumption) hbn.2.2.2.2 | have hbm := Grow.none (by assumption) hbn.2.2.2.2.2)); (try simp only [set_none'] at hbm)) | ((first | refine condS_i ?_ ?_ | refine pick_i ?_ ?_ | refine gS_it ?_ ?_ | refine gS_if ?_ ?_ | refine gP_it ?_ ?_ | refine gP_if ?_ ?_) <;> (intro hc; try simp only [Int.reduceLE,Int.reduceLT,Int.reduceEq,and_self,not_true_eq_false,not_false_eq_true,and_true,true_and,false_and,and_false,true_or,or_true,false_or,or_false,decide_eq_true_eq,decide_eq_false_iff_not,beq_iff_eq,beq_eq_false_iff_ne,bne_iff_ne,ne_eq,gt_iff_lt,ge_iff_le,Bool.not_eq_true,Bool.not_eq_false,Bool.not_eq_true',Bool.not_eq_false',Bool.not_eq_eq_eq_not,Bool.not_true,Bool.not_false] at hc)) | (refine KP_i (by (repeat' (first | exact Heap.Le.refl _ | (refine Le_known (by first | (simp only [Heap.set_same, set_ne, ne_eq, not_false_eq_true, *] <;> rfl) | fail) ?_) | (refine Le_fresh (by first | (simp only [*] <;> done) | (simp [set_none', Heap.set_same, set_ne, *] <;> done) | fail) ?_) | (refine Heap.Le.trans ?_ (Grow.le (by assumption)))))) ?_) | (with_reducible refine And.intro ?_ ?_)) <;> (try simp only [Sh,Si,Sl,Bu,Bb,Bd,Bc,Bw,Bn,Int.reduceAdd,Int.reduceSub,Int.reduceMul,Int.reduceTDiv,Int.reduceTMod,Int.reduceMod,Int.reduceDiv,Nat.reduceLT,Nat.reduceEqDiff,decide_true,decide_false,Sa,Sb,Sc,Sd,Se,Sf,Sg,true_and,and_true,and_self,eq_self,b_i64,b_i32,b_u64,b_u32,b_u8,Int.reduceLE,Int.reduceLT,Int.reduceToNat,Int.reduceNeg,Int.reduceEq,Nat.reduceLeDiff,Nat.reducePow,Int.reducePow,Nat.min_def,reduceIte,Nat.reduceSub,Nat.reduceAdd,Nat.reduceMul,KP_same,KP_f,condS_t,condS_f,pick_t,pick_f,gS_tt,gS_ff,gS_tf,gS_ft,gS_u,gP_tt,gP_ff,gP_tf,gP_ft,gP_u,ptrV_eq,slcV_eq,cells_agg,cells_int,cells_bool,cells_ptr,cells_slice,oc_int,oc_bool,oc_slice,oc_ptr,rd1_set,rd1_ne,rdn_set,rdn_ne,Heap.set_same,set_ne,Heap.set_set,set_up,set_up2,set_up3,putAt,ceq,List.map_cons,List.map_nil,List.length_cons,List.length_nil,List.length_set,List.cons_append,List.nil_append,List.append_nil,List.replicate,List.size_toArray,List.all_cons,List.all_nil,Bool.and_self,Bool.and_true,List.drop_zero,List.drop_succ_cons,List.take_succ_cons,List.take_zero,List.set_cons_zero,List.set_cons_succ,List.getElem?_cons_zero,List.getElem?_cons_succ,Option.map_some,Option.map_none,ne_eq,not_false_eq_true,not_true_eq_false,gt_iff_lt,ge_iff_le,Int.one_mul,Nat.zero_add,Nat.zero_mul,Bool.not_true,Bool.not_false,Bool.false_eq_true,Bool.and_false,Bool.false_and,Bool.true_and, *]))
        exact Fin_mk (Heap.Le.refl _) hfin
end Go.Proofs.Ytofgiimfempcjaa
