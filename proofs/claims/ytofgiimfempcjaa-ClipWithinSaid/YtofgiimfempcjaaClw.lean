/- The statement on windows, as a call (layer 21). -/
import Derived.Test.YtofgiimfempcjaaCln
set_option linter.unusedSimpArgs false
set_option linter.unusedVariables false
set_option maxRecDepth 100000
set_option maxHeartbeats 8000000
namespace Go.Proofs.Ytofgiimfempcjaa
open Go Go.HL Go.RowKit Pb
variable {w0 : World} {H : Heap} {K : Value → Heap → Prop}

/- paintboxref21 Right -/
def M12 : MC :=
  .seq (.reg [⟨(some 1), .box 24 (.tmp 0), none⟩,
     ⟨(some 2), .mv (.const (.bool false)), none⟩])
  (.seq (.seq (.reg [⟨(some 5), .fa 0 (.tmp 1), none⟩,
       ⟨(some 6), .ld1 (.tmp 5), none⟩,
       ⟨(some 7), .fa 1 (.tmp 1), none⟩,
       ⟨(some 8), .ld1 (.tmp 7), none⟩,
       ⟨(some 9), .fa 2 (.tmp 1), none⟩,
       ⟨(some 10), .ld1 (.tmp 9), none⟩,
       ⟨(some 11), .fa 3 (.tmp 1), none⟩,
       ⟨(some 12), .ld1 (.tmp 11), none⟩,
       ⟨(some 13), .bslice 3 4 [(.int .i64 0), (.int .i64 0), (.int .i64 0), (.int .i64 0)] [(0, 1, (.tmp 6)), (1, 1, (.tmp 8)), (2, 1, (.tmp 10)), (3, 1, (.tmp 12))], none⟩,
       ⟨(some 14), .len (.tmp 13), none⟩,
       ⟨(some 15), .mv (.const (.int .i64 0)), none⟩])
    (.block 0 (.loop (.seq (.reg [⟨(some 16), .bin .lss (.tmp 15) (.tmp 14), none⟩])
       (.seq (.cond (.tmp 16)
         (.skip)
         (.exit 0))
        (.seq (.block 1 (.seq (.reg [⟨(some 17), .is 1 (.tmp 13) (.tmp 15), none⟩,
              ⟨(some 18), .ld1 (.tmp 17), none⟩,
              ⟨(some 4), .mv (.tmp 18), none⟩])
           (.seq (.reg [⟨(some 19), .mv (.tmp 4), none⟩,
               ⟨(some 20), .bin .lss (.tmp 19) (.const (.int .i64 0)), none⟩,
               ⟨(some 21), .mv (.tmp 20), none⟩,
               ⟨(some 22), .mv (.tmp 4), (some (21, false))⟩,
               ⟨(some 23), .bin .gtr (.tmp 22) (.const (.int .i64 64)), (some (21, false))⟩,
               ⟨(some 24), .pick (.tmp 21) (.const (.bool true)) (.tmp 23), none⟩])
            (.cond (.tmp 24)
             (.seq (.reg [⟨(some 2), .mv (.const (.bool false)), none⟩])
              (.ret))
             (.skip)))))
         (.reg [⟨(some 25), .bin .add (.tmp 15) (.const (.int .i64 1)), none⟩,
            ⟨(some 15), .mv (.tmp 25), none⟩])))))))
   (.seq (.reg [⟨(some 26), .fa 0 (.tmp 1), none⟩,
       ⟨(some 27), .ld1 (.tmp 26), none⟩,
       ⟨(some 28), .fa 2 (.tmp 1), none⟩,
       ⟨(some 29), .ld1 (.tmp 28), none⟩,
       ⟨(some 30), .bin .add (.tmp 27) (.tmp 29), none⟩,
       ⟨(some 31), .bin .leq (.tmp 30) (.const (.int .i64 64)), none⟩,
       ⟨(some 32), .mv (.tmp 31), none⟩,
       ⟨(some 33), .fa 1 (.tmp 1), (some (32, true))⟩,
       ⟨(some 34), .ld1 (.tmp 33), (some (32, true))⟩,
       ⟨(some 35), .fa 3 (.tmp 1), (some (32, true))⟩,
       ⟨(some 36), .ld1 (.tmp 35), (some (32, true))⟩,
       ⟨(some 37), .bin .add (.tmp 34) (.tmp 36), (some (32, true))⟩,
       ⟨(some 38), .bin .leq (.tmp 37) (.const (.int .i64 64)), (some (32, true))⟩,
       ⟨(some 39), .pick (.tmp 32) (.tmp 38) (.const (.bool false)), none⟩,
       ⟨(some 40), .mv (.tmp 39), none⟩,
       ⟨(some 41), .fa 4 (.tmp 1), (some (40, true))⟩,
       ⟨(some 42), .ld1 (.tmp 41), (some (40, true))⟩,
       ⟨(some 43), .bin .geq (.tmp 42) (.const (.int .i32 0)), (some (40, true))⟩,
       ⟨(some 44), .pick (.tmp 40) (.tmp 43) (.const (.bool false)), none⟩,
       ⟨(some 45), .mv (.tmp 44), none⟩,
       ⟨(some 46), .fa 4 (.tmp 1), (some (45, true))⟩,
       ⟨(some 47), .ld1 (.tmp 46), (some (45, true))⟩,
       ⟨(some 48), .bin .leq (.tmp 47) (.const (.int .i32 65536)), (some (45, true))⟩,
       ⟨(some 49), .pick (.tmp 45) (.tmp 48) (.const (.bool false)), none⟩,
       ⟨(some 50), .mv (.tmp 49), none⟩,
       ⟨(some 51), .fa 5 (.tmp 1), (some (50, true))⟩,
       ⟨(some 52), .ld1 (.tmp 51), (some (50, true))⟩,
       ⟨(some 53), .bin .geq (.tmp 52) (.const (.int .i32 0)), (some (50, true))⟩,
       ⟨(some 54), .pick (.tmp 50) (.tmp 53) (.const (.bool false)), none⟩,
       ⟨(some 55), .mv (.tmp 54), none⟩,
       ⟨(some 56), .fa 5 (.tmp 1), (some (55, true))⟩,
       ⟨(some 57), .ld1 (.tmp 56), (some (55, true))⟩,
       ⟨(some 58), .bin .leq (.tmp 57) (.const (.int .i32 65536)), (some (55, true))⟩,
       ⟨(some 59), .pick (.tmp 55) (.tmp 58) (.const (.bool false)), none⟩,
       ⟨(some 2), .mv (.tmp 59), none⟩])
    (.ret)))
theorem k12 : fnOk Try.prog 12 = some (M12, [.t 2], 60) := by kernel_rfl

theorem r_Right (v : Vw) (hvi : I64 v.x ∧ I64 v.y ∧ I64 v.w ∧ I64 v.h) (h : K (.bool (decide v.right)) H) : HCalls Try.prog w0 12 [v.v] H K := by
  have key : ∀ (G : Heap) (b : Bool), Heap.Le H G → (b = true ↔ v.right) → HL.Fin K (.bool b) G := fun G b g e => Fin_mk g (K_bool h (by apply Bool.eq_iff_iff.2; simpa using e))
  clear h
  obtain ⟨hx, hy, hw, hh⟩ := hvi
  unfold I64 at hx hy hw hh
  unfold Vw.right at key
  unfold Vw.v
  obtain ⟨x, y, w, hi, n, f⟩ := v
  simp only at *
  have tw : 0 ≤ x → x ≤ 64 → 0 ≤ w → w ≤ 64 → IntKind.i64.wrap (x + w) = x + w := fun _ _ _ _ => Bw.1 _ (by omega) (by omega)
  have th : 0 ≤ y → y ≤ 64 → 0 ≤ hi → hi ≤ 64 → IntKind.i64.wrap (y + hi) = y + hi := fun _ _ _ _ => Bw.1 _ (by omega) (by omega)
  refine HL.hc k12 999 ?_; unfold M12
  (all_goals (refine (fun f : True → _ => f trivial) ?_)); repeat' ((first | (with_reducible refine fun _ : True => ?_) | (refine AllocQ_i ?_; intro bk hb0 hbk; try simp only [set_none'] at hbk) | ((first | refine condS_i ?_ ?_ | refine pick_i ?_ ?_ | refine gS_it ?_ ?_ | refine gS_if ?_ ?_ | refine gP_it ?_ ?_ | refine gP_if ?_ ?_) <;> (intro hc; try simp only [Int.reduceLE,Int.reduceLT,Int.reduceEq,and_self,not_true_eq_false,not_false_eq_true,and_true,true_and,false_and,and_false,true_or,or_true,false_or,or_false,decide_eq_true_eq,decide_eq_false_iff_not,beq_iff_eq,beq_eq_false_iff_ne,bne_iff_ne,ne_eq,gt_iff_lt,ge_iff_le,Bool.not_eq_true,Bool.not_eq_false,Bool.not_eq_true',Bool.not_eq_false',Bool.not_eq_eq_eq_not,Bool.not_true,Bool.not_false] at hc)) | (refine KP_i (by (repeat' (first | exact Heap.Le.refl _ | (refine Le_fresh (by first | exact (by simp only [*]) | exact (by simp [set_none', *])) ?_) | (refine Heap.Le.trans ?_ (Grow.le (by assumption)))))) ?_) | (with_reducible refine loop_u ?_) | (with_reducible refine And.intro ?_ ?_)) <;> (try simp only [Sh,Si,Sl,Bu,Bb,Bd,Bc,Bw,Bn,Int.reduceAdd,Int.reduceSub,Int.reduceMul,Int.reduceTDiv,Int.reduceTMod,Int.reduceMod,Int.reduceDiv,Nat.reduceLT,Nat.reduceEqDiff,decide_true,decide_false,Sa,Sb,Sc,Sd,Se,Sf,Sg,true_and,and_true,and_self,eq_self,b_i64,b_i32,b_u64,b_u32,b_u8,Int.reduceLE,Int.reduceLT,Int.reduceToNat,Int.reduceNeg,Int.reduceEq,Nat.reduceLeDiff,Nat.reducePow,Int.reducePow,Nat.min_def,reduceIte,Nat.reduceSub,Nat.reduceAdd,Nat.reduceMul,KP_same,KP_f,condS_t,condS_f,pick_t,pick_f,gS_tt,gS_ff,gS_tf,gS_ft,gS_u,gP_tt,gP_ff,gP_tf,gP_ft,gP_u,ptrV_eq,slcV_eq,cells_agg,cells_int,cells_bool,cells_ptr,cells_slice,oc_int,oc_bool,oc_slice,oc_ptr,rd1_set,rd1_ne,rdn_set,rdn_ne,Heap.set_same,set_ne,Heap.set_set,set_up,set_up2,set_up3,putAt,ceq,List.map_cons,List.map_nil,List.length_cons,List.length_nil,List.length_set,List.cons_append,List.nil_append,List.append_nil,List.replicate,List.size_toArray,List.all_cons,List.all_nil,Bool.and_self,Bool.and_true,List.drop_zero,List.drop_succ_cons,List.take_succ_cons,List.take_zero,List.set_cons_zero,List.set_cons_succ,List.getElem?_cons_zero,List.getElem?_cons_succ,Option.map_some,Option.map_none,ne_eq,not_false_eq_true,not_true_eq_false,gt_iff_lt,ge_iff_le,Int.one_mul,Nat.zero_add,Nat.zero_mul,Bool.not_true,Bool.not_false,Bool.false_eq_true,Bool.and_false,Bool.false_and,Bool.true_and, *]))
  all_goals try simp only [Int.reduceLE,Int.reduceLT,Int.reduceEq,and_self,not_true_eq_false,not_false_eq_true,and_true,true_and,false_and,and_false,true_or,or_true,false_or,or_false,decide_eq_true_eq,decide_eq_false_iff_not,beq_iff_eq,beq_eq_false_iff_ne,bne_iff_ne,ne_eq,gt_iff_lt,ge_iff_le,Bool.not_eq_true,Bool.not_eq_false,Bool.not_eq_true',Bool.not_eq_false',Bool.not_eq_eq_eq_not,Bool.not_true,Bool.not_false] at *
  all_goals refine key _ _ (by (repeat' (first | exact Heap.Le.refl _ | (refine Le_known (by first | (simp only [Heap.set_same, set_ne, ne_eq, not_false_eq_true, *] <;> rfl) | fail) ?_) | (refine Le_fresh (by first | (simp only [*] <;> done) | (simp [set_none', Heap.set_same, set_ne, *] <;> done) | fail) ?_) | (refine Heap.Le.trans ?_ (Grow.le (by assumption)))))) ?_
  all_goals (try rw [tw (by omega) (by omega) (by omega) (by omega)] at *)
  all_goals (try rw [th (by omega) (by omega) (by omega) (by omega)] at *)
  all_goals (simp only [decide_eq_true_eq, Bool.false_eq_true, false_iff, true_iff, iff_true]; omega)
/- paintboxlaw21 ClipWindows -/
def M5 : MC :=
  .seq (.reg [⟨(some 3), .box 24 (.tmp 0), none⟩,
     ⟨(some 4), .box 29 (.tmp 1), none⟩,
     ⟨(some 6), .mv (.const (.bool false)), none⟩])
  (.seq (.seq (.reg [⟨(some 11), .call 10 [], none⟩,
       ⟨(some 12), .un .not (.tmp 11), none⟩])
    (.cond (.tmp 12)
     (.seq (.reg [⟨(some 6), .mv (.const (.bool false)), none⟩])
      (.ret))
     (.skip)))
   (.seq (.reg [⟨(some 14), .ldn 6 (.tmp 3), none⟩,
       ⟨(some 15), .ldn 6 (.tmp 4), none⟩,
       ⟨(some 16), .call 17 [(.tmp 14), (.tmp 15)], none⟩,
       ⟨(some 13), .mv (.tmp 16), none⟩,
       ⟨(some 17), .ext 0 (.tmp 13), none⟩,
       ⟨(some 18), .ext 1 (.tmp 13), none⟩,
       ⟨(some 7), .alloc 44 [(.int .i64 0), (.int .i64 0), (.int .i32 0), (.int .i32 0), (.int .i32 0), (.slice none 0 0)], none⟩,
       ⟨none, .stn 6 (.tmp 7) (.tmp 17), none⟩,
       ⟨(some 8), .mv (.tmp 18), none⟩])
    (.seq (.reg [⟨(some 20), .ldn 6 (.tmp 4), none⟩,
        ⟨(some 21), .mv (.tmp 2), none⟩,
        ⟨(some 22), .call 18 [(.tmp 20), (.tmp 21)], none⟩,
        ⟨(some 19), .mv (.tmp 22), none⟩,
        ⟨(some 23), .ext 0 (.tmp 19), none⟩,
        ⟨(some 24), .ext 1 (.tmp 19), none⟩,
        ⟨(some 9), .mv (.tmp 23), none⟩,
        ⟨(some 10), .mv (.tmp 24), none⟩])
     (.seq (.seq (.any [(true, true, ⟨(some 25), .ldn 6 (.tmp 3), none⟩),
          (true, true, ⟨(some 27), .ldn 6 (.tmp 3), none⟩),
          (false, true, ⟨(some 26), .call 19 [(.tmp 25)], none⟩),
          (false, false, ⟨(some 28), .call 12 [(.tmp 27)], none⟩),
          (false, false, ⟨(some 29), .eqb true (.tmp 26) (.tmp 28), none⟩)])
       (.cond (.tmp 29)
        (.seq (.reg [⟨(some 6), .mv (.const (.bool false)), none⟩])
         (.ret))
        (.skip)))
      (.seq (.seq (.reg [⟨(some 30), .mv (.tmp 2), none⟩,
           ⟨(some 31), .bin .lss (.tmp 30) (.const (.int .i64 0)), none⟩,
           ⟨(some 32), .mv (.tmp 31), none⟩,
           ⟨(some 33), .mv (.tmp 2), (some (32, false))⟩,
           ⟨(some 34), .bin .gtr (.tmp 33) (.const (.int .i64 6)), (some (32, false))⟩,
           ⟨(some 35), .pick (.tmp 32) (.const (.bool true)) (.tmp 34), none⟩])
        (.cond (.tmp 35)
         (.seq (.reg [⟨(some 36), .mv (.tmp 9), none⟩,
             ⟨(some 37), .bin .neq (.tmp 36) (.const (.int .i32 0)), none⟩,
             ⟨(some 38), .mv (.tmp 37), none⟩,
             ⟨(some 39), .mv (.tmp 10), (some (38, false))⟩,
             ⟨(some 40), .bin .neq (.tmp 39) (.const (.int .i64 2)), (some (38, false))⟩,
             ⟨(some 41), .pick (.tmp 38) (.const (.bool true)) (.tmp 40), none⟩])
          (.cond (.tmp 41)
           (.seq (.reg [⟨(some 6), .mv (.const (.bool false)), none⟩])
            (.ret))
           (.skip)))
         (.seq (.reg [⟨(some 42), .mv (.tmp 10), none⟩,
             ⟨(some 43), .bin .neq (.tmp 42) (.const (.int .i64 0)), none⟩,
             ⟨(some 44), .mv (.tmp 43), none⟩,
             ⟨(some 45), .mv (.tmp 9), (some (44, false))⟩,
             ⟨(some 46), .ldn 6 (.tmp 4), (some (44, false))⟩,
             ⟨(some 47), .mv (.tmp 2), (some (44, false))⟩,
             ⟨(some 48), .call 20 [(.tmp 46), (.tmp 47)], (some (44, false))⟩,
             ⟨(some 49), .bin .neq (.tmp 45) (.tmp 48), (some (44, false))⟩,
             ⟨(some 50), .pick (.tmp 44) (.const (.bool true)) (.tmp 49), none⟩])
          (.cond (.tmp 50)
           (.seq (.reg [⟨(some 6), .mv (.const (.bool false)), none⟩])
            (.ret))
           (.skip)))))
       (.seq (.seq (.reg [⟨(some 51), .ldn 6 (.tmp 3), none⟩,
            ⟨(some 52), .call 12 [(.tmp 51)], none⟩,
            ⟨(some 53), .un .not (.tmp 52), none⟩,
            ⟨(some 54), .mv (.tmp 53), none⟩,
            ⟨(some 55), .fa 0 (.tmp 4), (some (54, false))⟩,
            ⟨(some 56), .ia 4 1 (.tmp 55) (.const (.int .i64 3)), (some (54, false))⟩,
            ⟨(some 57), .ld1 (.tmp 56), (some (54, false))⟩,
            ⟨(some 58), .bin .lss (.tmp 57) (.const (.int .i32 1)), (some (54, false))⟩,
            ⟨(some 59), .pick (.tmp 54) (.const (.bool true)) (.tmp 58), none⟩,
            ⟨(some 60), .mv (.tmp 59), none⟩,
            ⟨(some 61), .fa 5 (.tmp 4), (some (60, false))⟩,
            ⟨(some 62), .ld1 (.tmp 61), (some (60, false))⟩,
            ⟨(some 63), .len (.tmp 62), (some (60, false))⟩,
            ⟨(some 64), .bin .gtr (.tmp 63) (.const (.int .i64 4)), (some (60, false))⟩,
            ⟨(some 65), .pick (.tmp 60) (.const (.bool true)) (.tmp 64), none⟩])
         (.cond (.tmp 65)
          (.seq (.reg [⟨(some 66), .ldn 6 (.tmp 7), none⟩,
              ⟨(some 67), .build [(.int .i64 0), (.int .i64 0), (.int .i32 0), (.int .i32 0), (.int .i32 0), (.slice none 0 0)] [], none⟩,
              ⟨(some 68), .call 21 [(.tmp 66), (.tmp 67)], none⟩,
              ⟨(some 69), .mv (.tmp 68), none⟩,
              ⟨(some 70), .mv (.tmp 8), (some (69, true))⟩,
              ⟨(some 71), .bin .eql (.tmp 70) (.const (.int .i64 2)), (some (69, true))⟩,
              ⟨(some 72), .pick (.tmp 69) (.tmp 71) (.const (.bool false)), none⟩,
              ⟨(some 6), .mv (.tmp 72), none⟩])
           (.ret))
          (.skip)))
        (.seq (.any [(false, true, ⟨(some 73), .mv (.tmp 8), none⟩),
            (false, true, ⟨(some 74), .bin .eql (.tmp 73) (.const (.int .i64 0)), none⟩),
            (false, true, ⟨(some 75), .mv (.tmp 74), none⟩),
            (true, true, ⟨(some 76), .ldn 6 (.tmp 7), (some (75, true))⟩),
            (true, true, ⟨(some 77), .ldn 6 (.tmp 3), (some (75, true))⟩),
            (false, true, ⟨(some 78), .ldn 6 (.tmp 4), (some (75, true))⟩),
            (false, true, ⟨(some 79), .call 22 [(.tmp 77), (.tmp 78)], (some (75, true))⟩),
            (false, false, ⟨(some 80), .call 21 [(.tmp 76), (.tmp 79)], (some (75, true))⟩),
            (false, false, ⟨(some 81), .pick (.tmp 75) (.tmp 80) (.const (.bool false)), none⟩),
            (false, false, ⟨(some 6), .mv (.tmp 81), none⟩)])
         (.ret))))))))
theorem k5 : fnOk Try.prog 5 = some (M5, [.t 6], 82) := by kernel_rfl

theorem l_ClipWindows (v : Vw) (x : VtR) (n : Int) (hvi : I64 v.x ∧ I64 v.y ∧ I64 v.w ∧ I64 v.h) (hx : VtOk w0 H x) (h : K (.bool true) H) : HCalls Try.prog w0 5 [v.v, x.v, .int .i64 n] H K := by
  have cA : ∀ (G : Heap) (K : Value → Heap → Prop), K (.bool true) G → HCalls Try.prog w0 10 [] G K := fun G K hk => l_wakes hk
  have cR : ∀ (G : Heap) (K : Value → Heap → Prop), K (.bool (decide v.right)) G → HCalls Try.prog w0 19 [v.v] G K := fun G K hk => c_Right v hvi.1 hvi.2.1 hvi.2.2.1 hvi.2.2.2 hk
  have rR : ∀ (G : Heap) (K : Value → Heap → Prop), K (.bool (decide v.right)) G → HCalls Try.prog w0 12 [v.v] G K := fun G K hk => r_Right v hvi hk
  have cD : ∀ (G : Heap) (K : Value → Heap → Prop), K (.tuple #[.int .i32 (if n < 0 ∨ 7 ≤ n then 0 else dist x.p n), .int .i64 (if n < 0 ∨ 7 ≤ n then 2 else 0)]) G → HCalls Try.prog w0 18 [x.v, .int .i64 n] G K := fun G K hk => c_Distance x n hx.p hk
  have rD : 0 ≤ n ∧ n ≤ 6 → ∀ (G : Heap) (K : Value → Heap → Prop), K (.int .i32 (dist x.p n)) G → HCalls Try.prog w0 20 [x.v, .int .i64 n] G K := fun hn G K hk => r_Distance x n hn hx.p hk
  have hxl := vs_len0 hx.vs
  by_cases hg : v.right ∧ 1 ≤ x.p 3 ∧ x.l.length ≤ 4
  · have cW : ∀ (G : Heap) (K : Value → Heap → Prop), Grow w0 H G → (∀ a' cap' H', VsNew w0 G H' a' cap' x.l → Grow w0 G H' → K (.tuple #[(WnR.mk (winA v x.toVt) a' cap').v, .int .i64 0]) H') → HCalls Try.prog w0 17 [v.v, x.v] G K := fun G K g hk => c_Window v x hvi (hx.grow g) (fun _ => hk) (fun hh => (hh hg).elim)
    have rW : ∀ (G : Heap) (K : Value → Heap → Prop), Grow w0 H G → K (WnR.mk (winA v x.toVt) x.a x.cap).v G → HCalls Try.prog w0 22 [v.v, x.v] G K := fun G K g hk => r_Window v x hg.1 (hx.grow g) hk
    have rS : ∀ (a : Option Addr) (c : Nat) (G : Heap) (K : Value → Heap → Prop), VsOk w0 G a c x.l → Grow w0 H G → K (.bool true) G → HCalls Try.prog w0 21 [(WnR.mk (winA v x.toVt) a c).v, (WnR.mk (winA v x.toVt) x.a x.cap).v] G K := fun a c G K ok g hk => r_SameWin (WnR.mk (winA v x.toVt) a c) (WnR.mk (winA v x.toVt) x.a x.cap) ok (hx.vs.grow g) rfl hk
    obtain ⟨g1, g2, g3⟩ := hg
    have hvs := hx.vs
    clear hx
    have t1 : ¬ x.p 3 < 1 := by omega
    have t2 : ¬ (4 : Int) < (x.l.length : Int) := by omega
    by_cases hn : 0 ≤ n ∧ n ≤ 6
    · have n1 : ¬ (n < 0 ∨ 7 ≤ n) := by omega
      have n2 : ¬ n < 0 := by omega
      have n3 : ¬ 6 < n := by omega
      have rD := rD hn
      rw [if_neg n1, if_neg n1] at cD
      unfold VtR.v at cD rD
      unfold Vw.v at cR rR
      unfold WnR.v at rS
      unfold VtR.v Vw.v WnR.v at *
      refine HL.hc k5 999 ?_; unfold M5
      (all_goals (refine (fun f : True → _ => f trivial) ?_)); repeat' ((first | (with_reducible refine fun _ : True => ?_) | refine cA _ _ ?_ | refine cW _ _ (by (repeat' (first | exact Grow.refl _ | assumption | (refine Grow_known (by first | (simp only [Heap.set_same, set_ne, ne_eq, not_false_eq_true, *] <;> rfl) | fail) ?_) | (refine Grow.set ?_ (by assumption) (by first | (simp only [*] <;> done) | (simp [set_none', Heap.set_same, set_ne, *] <;> done) | fail)) | (refine Grow.trans ?_ (by assumption))))) (fun a2 c2 G2 hn2 hg2 => ?_)  | (refine AllocQ_i ?_; intro bk hb0 hbk; (try simp only [set_none'] at hbk); (try (first | have hbn := Grow.none (by assumption) hbk | have hbn := Grow.none (by assumption) hbk.2 | have hbn := Grow.none (by assumption) hbk.2.2 | have hbn := Grow.none (by assumption) hbk.2.2.2 | have hbn := Grow.none (by assumption) hbk.2.2.2.2 | have hbn := Grow.none (by assumption) hbk.2.2.2.2.2)); (try simp only [set_none'] at hbn); (try (first | have hbm := Grow.none (by assumption) hbn | have hbm := Grow.none (by assumption) hbn.2 | have hbm := Grow.none (by assumption) hbn.2.2 | have hbm := Grow.none (by assumption) hbn.2.2.2 | have hbm := Grow.none (by assumption) hbn.2.2.2.2 | have hbm := Grow.none (by assumption) hbn.2.2.2.2.2)); (try simp only [set_none'] at hbm)) | ((first | refine condS_i ?_ ?_ | refine pick_i ?_ ?_ | refine gS_it ?_ ?_ | refine gS_if ?_ ?_ | refine gP_it ?_ ?_ | refine gP_if ?_ ?_) <;> (intro hc; try simp only [Int.reduceLE,Int.reduceLT,Int.reduceEq,and_self,not_true_eq_false,not_false_eq_true,and_true,true_and,false_and,and_false,true_or,or_true,false_or,or_false,decide_eq_true_eq,decide_eq_false_iff_not,beq_iff_eq,beq_eq_false_iff_ne,bne_iff_ne,ne_eq,gt_iff_lt,ge_iff_le,Bool.not_eq_true,Bool.not_eq_false,Bool.not_eq_true',Bool.not_eq_false',Bool.not_eq_eq_eq_not,Bool.not_true,Bool.not_false] at hc)) | (refine KP_i (by (repeat' (first | exact Heap.Le.refl _ | (refine Le_known (by first | (simp only [Heap.set_same, set_ne, ne_eq, not_false_eq_true, *] <;> rfl) | fail) ?_) | (refine Le_fresh (by first | (simp only [*] <;> done) | (simp [set_none', Heap.set_same, set_ne, *] <;> done) | fail) ?_) | (refine Heap.Le.trans ?_ (Grow.le (by assumption)))))) ?_) | (with_reducible refine And.intro ?_ ?_)) <;> (try simp only [Sh,Si,Sl,Bu,Bb,Bd,Bc,Bw,Bn,Int.reduceAdd,Int.reduceSub,Int.reduceMul,Int.reduceTDiv,Int.reduceTMod,Int.reduceMod,Int.reduceDiv,Nat.reduceLT,Nat.reduceEqDiff,decide_true,decide_false,Sa,Sb,Sc,Sd,Se,Sf,Sg,true_and,and_true,and_self,eq_self,b_i64,b_i32,b_u64,b_u32,b_u8,Int.reduceLE,Int.reduceLT,Int.reduceToNat,Int.reduceNeg,Int.reduceEq,Nat.reduceLeDiff,Nat.reducePow,Int.reducePow,Nat.min_def,reduceIte,Nat.reduceSub,Nat.reduceAdd,Nat.reduceMul,KP_same,KP_f,condS_t,condS_f,pick_t,pick_f,gS_tt,gS_ff,gS_tf,gS_ft,gS_u,gP_tt,gP_ff,gP_tf,gP_ft,gP_u,ptrV_eq,slcV_eq,cells_agg,cells_int,cells_bool,cells_ptr,cells_slice,oc_int,oc_bool,oc_slice,oc_ptr,rd1_set,rd1_ne,rdn_set,rdn_ne,Heap.set_same,set_ne,Heap.set_set,set_up,set_up2,set_up3,putAt,ceq,List.map_cons,List.map_nil,List.length_cons,List.length_nil,List.length_set,List.cons_append,List.nil_append,List.append_nil,List.replicate,List.size_toArray,List.all_cons,List.all_nil,Bool.and_self,Bool.and_true,List.drop_zero,List.drop_succ_cons,List.take_succ_cons,List.take_zero,List.set_cons_zero,List.set_cons_succ,List.getElem?_cons_zero,List.getElem?_cons_succ,Option.map_some,Option.map_none,ne_eq,not_false_eq_true,not_true_eq_false,gt_iff_lt,ge_iff_le,Int.one_mul,Nat.zero_add,Nat.zero_mul,Bool.not_true,Bool.not_false,Bool.false_eq_true,Bool.and_false,Bool.false_and,Bool.true_and, *]))
      rename_i b3 p3 q3 b4 p4 q4
      obtain ⟨b7, rfl⟩ : ∃ q, q = bk := ⟨bk, rfl⟩
      have m3 := hg2.some (b := b3) (by simp only [Heap.set_same, set_ne, ne_eq, not_false_eq_true, *] <;> rfl)
      have m4 := hg2.some (b := b4) (by simp only [Heap.set_same, set_ne, ne_eq, not_false_eq_true, *] <;> rfl)
      have ok2 := hn2.ok
      have gH : Grow w0 H G2 := Grow.trans (by (repeat' (first | exact Grow.refl _ | assumption | (refine Grow_known (by first | (simp only [Heap.set_same, set_ne, ne_eq, not_false_eq_true, *] <;> rfl) | fail) ?_) | (refine Grow.set ?_ (by assumption) (by first | (simp only [*] <;> done) | (simp [set_none', Heap.set_same, set_ne, *] <;> done) | fail)) | (refine Grow.trans ?_ (by assumption))))) hg2
      clear cW hn2 hg2
      rw [root2 q4.1.2 m3 m4]
      (all_goals (refine (fun f : True → _ => f trivial) ?_)); repeat' ((first | (with_reducible refine fun _ : True => ?_) | refine cD _ _ ?_ | refine cR _ _ ?_ | refine rR _ _ ?_ | refine rD _ _ ?_ | refine rW _ _ (by (repeat' (first | exact Grow.refl _ | assumption | (refine Grow_known (by first | (simp only [Heap.set_same, set_ne, ne_eq, not_false_eq_true, *] <;> rfl) | fail) ?_) | (refine Grow.set ?_ (by assumption) (by first | (simp only [*] <;> done) | (simp [set_none', Heap.set_same, set_ne, *] <;> done) | fail)) | (refine Grow.trans ?_ (by assumption))))) ?_ | refine rS _ _ _ _ (ok2.grow (by (repeat' (first | exact Grow.refl _ | assumption | (refine Grow_known (by first | (simp only [Heap.set_same, set_ne, ne_eq, not_false_eq_true, *] <;> rfl) | fail) ?_) | (refine Grow.set ?_ (by assumption) (by first | (simp only [*] <;> done) | (simp [set_none', Heap.set_same, set_ne, *] <;> done) | fail)) | (refine Grow.trans ?_ (by assumption)))))) (by (repeat' (first | exact Grow.refl _ | assumption | (refine Grow_known (by first | (simp only [Heap.set_same, set_ne, ne_eq, not_false_eq_true, *] <;> rfl) | fail) ?_) | (refine Grow.set ?_ (by assumption) (by first | (simp only [*] <;> done) | (simp [set_none', Heap.set_same, set_ne, *] <;> done) | fail)) | (refine Grow.trans ?_ (by assumption))))) ?_ | (refine AllocQ_i ?_; intro bk hb0 hbk; (try simp only [set_none'] at hbk); (try (first | have hbn := Grow.none (by assumption) hbk | have hbn := Grow.none (by assumption) hbk.2 | have hbn := Grow.none (by assumption) hbk.2.2 | have hbn := Grow.none (by assumption) hbk.2.2.2 | have hbn := Grow.none (by assumption) hbk.2.2.2.2 | have hbn := Grow.none (by assumption) hbk.2.2.2.2.2)); (try simp only [set_none'] at hbn); (try (first | have hbm := Grow.none (by assumption) hbn | have hbm := Grow.none (by assumption) hbn.2 | have hbm := Grow.none (by assumption) hbn.2.2 | have hbm := Grow.none (by assumption) hbn.2.2.2 | have hbm := Grow.none (by assumption) hbn.2.2.2.2 | have hbm := Grow.none (by assumption) hbn.2.2.2.2.2)); (try simp only [set_none'] at hbm)) | ((first | refine condS_i ?_ ?_ | refine pick_i ?_ ?_ | refine gS_it ?_ ?_ | refine gS_if ?_ ?_ | refine gP_it ?_ ?_ | refine gP_if ?_ ?_) <;> (intro hc; try simp only [Int.reduceLE,Int.reduceLT,Int.reduceEq,and_self,not_true_eq_false,not_false_eq_true,and_true,true_and,false_and,and_false,true_or,or_true,false_or,or_false,decide_eq_true_eq,decide_eq_false_iff_not,beq_iff_eq,beq_eq_false_iff_ne,bne_iff_ne,ne_eq,gt_iff_lt,ge_iff_le,Bool.not_eq_true,Bool.not_eq_false,Bool.not_eq_true',Bool.not_eq_false',Bool.not_eq_eq_eq_not,Bool.not_true,Bool.not_false] at hc)) | (refine KP_i (by (repeat' (first | exact Heap.Le.refl _ | (refine Le_known (by first | (simp only [Heap.set_same, set_ne, ne_eq, not_false_eq_true, *] <;> rfl) | fail) ?_) | (refine Le_fresh (by first | (simp only [*] <;> done) | (simp [set_none', Heap.set_same, set_ne, *] <;> done) | fail) ?_) | (refine Heap.Le.trans ?_ (Grow.le (by assumption)))))) ?_) | (with_reducible refine And.intro ?_ ?_)) <;> (try simp only [Sh,Si,Sl,Bu,Bb,Bd,Bc,Bw,Bn,Int.reduceAdd,Int.reduceSub,Int.reduceMul,Int.reduceTDiv,Int.reduceTMod,Int.reduceMod,Int.reduceDiv,Nat.reduceLT,Nat.reduceEqDiff,decide_true,decide_false,Sa,Sb,Sc,Sd,Se,Sf,Sg,true_and,and_true,and_self,eq_self,b_i64,b_i32,b_u64,b_u32,b_u8,Int.reduceLE,Int.reduceLT,Int.reduceToNat,Int.reduceNeg,Int.reduceEq,Nat.reduceLeDiff,Nat.reducePow,Int.reducePow,Nat.min_def,reduceIte,Nat.reduceSub,Nat.reduceAdd,Nat.reduceMul,KP_same,KP_f,condS_t,condS_f,pick_t,pick_f,gS_tt,gS_ff,gS_tf,gS_ft,gS_u,gP_tt,gP_ff,gP_tf,gP_ft,gP_u,ptrV_eq,slcV_eq,cells_agg,cells_int,cells_bool,cells_ptr,cells_slice,oc_int,oc_bool,oc_slice,oc_ptr,rd1_set,rd1_ne,rdn_set,rdn_ne,Heap.set_same,set_ne,Heap.set_set,set_up,set_up2,set_up3,putAt,ceq,List.map_cons,List.map_nil,List.length_cons,List.length_nil,List.length_set,List.cons_append,List.nil_append,List.append_nil,List.replicate,List.size_toArray,List.all_cons,List.all_nil,Bool.and_self,Bool.and_true,List.drop_zero,List.drop_succ_cons,List.take_succ_cons,List.take_zero,List.set_cons_zero,List.set_cons_succ,List.getElem?_cons_zero,List.getElem?_cons_succ,Option.map_some,Option.map_none,ne_eq,not_false_eq_true,not_true_eq_false,gt_iff_lt,ge_iff_le,Int.one_mul,Nat.zero_add,Nat.zero_mul,Bool.not_true,Bool.not_false,Bool.false_eq_true,Bool.and_false,Bool.false_and,Bool.true_and, *]))
      all_goals first
        | exact Fin_mk (by (repeat' (first | exact Heap.Le.refl _ | (refine Le_known (by first | (simp only [Heap.set_same, set_ne, ne_eq, not_false_eq_true, *] <;> rfl) | fail) ?_) | (refine Le_fresh (by first | (simp only [*] <;> done) | (simp [set_none', Heap.set_same, set_ne, *] <;> done) | fail) ?_) | (refine Heap.Le.trans ?_ (Grow.le (by assumption)))))) h
        | (exfalso; omega)
    · have n1 : n < 0 ∨ 7 ≤ n := by omega
      rw [if_pos n1, if_pos n1] at cD
      unfold VtR.v at cD
      unfold Vw.v at cR rR
      unfold WnR.v at rS
      unfold VtR.v Vw.v WnR.v at *
      refine HL.hc k5 999 ?_; unfold M5
      (all_goals (refine (fun f : True → _ => f trivial) ?_)); repeat' ((first | (with_reducible refine fun _ : True => ?_) | refine cA _ _ ?_ | refine cW _ _ (by (repeat' (first | exact Grow.refl _ | assumption | (refine Grow_known (by first | (simp only [Heap.set_same, set_ne, ne_eq, not_false_eq_true, *] <;> rfl) | fail) ?_) | (refine Grow.set ?_ (by assumption) (by first | (simp only [*] <;> done) | (simp [set_none', Heap.set_same, set_ne, *] <;> done) | fail)) | (refine Grow.trans ?_ (by assumption))))) (fun a2 c2 G2 hn2 hg2 => ?_)  | (refine AllocQ_i ?_; intro bk hb0 hbk; (try simp only [set_none'] at hbk); (try (first | have hbn := Grow.none (by assumption) hbk | have hbn := Grow.none (by assumption) hbk.2 | have hbn := Grow.none (by assumption) hbk.2.2 | have hbn := Grow.none (by assumption) hbk.2.2.2 | have hbn := Grow.none (by assumption) hbk.2.2.2.2 | have hbn := Grow.none (by assumption) hbk.2.2.2.2.2)); (try simp only [set_none'] at hbn); (try (first | have hbm := Grow.none (by assumption) hbn | have hbm := Grow.none (by assumption) hbn.2 | have hbm := Grow.none (by assumption) hbn.2.2 | have hbm := Grow.none (by assumption) hbn.2.2.2 | have hbm := Grow.none (by assumption) hbn.2.2.2.2 | have hbm := Grow.none (by assumption) hbn.2.2.2.2.2)); (try simp only [set_none'] at hbm)) | ((first | refine condS_i ?_ ?_ | refine pick_i ?_ ?_ | refine gS_it ?_ ?_ | refine gS_if ?_ ?_ | refine gP_it ?_ ?_ | refine gP_if ?_ ?_) <;> (intro hc; try simp only [Int.reduceLE,Int.reduceLT,Int.reduceEq,and_self,not_true_eq_false,not_false_eq_true,and_true,true_and,false_and,and_false,true_or,or_true,false_or,or_false,decide_eq_true_eq,decide_eq_false_iff_not,beq_iff_eq,beq_eq_false_iff_ne,bne_iff_ne,ne_eq,gt_iff_lt,ge_iff_le,Bool.not_eq_true,Bool.not_eq_false,Bool.not_eq_true',Bool.not_eq_false',Bool.not_eq_eq_eq_not,Bool.not_true,Bool.not_false] at hc)) | (refine KP_i (by (repeat' (first | exact Heap.Le.refl _ | (refine Le_known (by first | (simp only [Heap.set_same, set_ne, ne_eq, not_false_eq_true, *] <;> rfl) | fail) ?_) | (refine Le_fresh (by first | (simp only [*] <;> done) | (simp [set_none', Heap.set_same, set_ne, *] <;> done) | fail) ?_) | (refine Heap.Le.trans ?_ (Grow.le (by assumption)))))) ?_) | (with_reducible refine And.intro ?_ ?_)) <;> (try simp only [Sh,Si,Sl,Bu,Bb,Bd,Bc,Bw,Bn,Int.reduceAdd,Int.reduceSub,Int.reduceMul,Int.reduceTDiv,Int.reduceTMod,Int.reduceMod,Int.reduceDiv,Nat.reduceLT,Nat.reduceEqDiff,decide_true,decide_false,Sa,Sb,Sc,Sd,Se,Sf,Sg,true_and,and_true,and_self,eq_self,b_i64,b_i32,b_u64,b_u32,b_u8,Int.reduceLE,Int.reduceLT,Int.reduceToNat,Int.reduceNeg,Int.reduceEq,Nat.reduceLeDiff,Nat.reducePow,Int.reducePow,Nat.min_def,reduceIte,Nat.reduceSub,Nat.reduceAdd,Nat.reduceMul,KP_same,KP_f,condS_t,condS_f,pick_t,pick_f,gS_tt,gS_ff,gS_tf,gS_ft,gS_u,gP_tt,gP_ff,gP_tf,gP_ft,gP_u,ptrV_eq,slcV_eq,cells_agg,cells_int,cells_bool,cells_ptr,cells_slice,oc_int,oc_bool,oc_slice,oc_ptr,rd1_set,rd1_ne,rdn_set,rdn_ne,Heap.set_same,set_ne,Heap.set_set,set_up,set_up2,set_up3,putAt,ceq,List.map_cons,List.map_nil,List.length_cons,List.length_nil,List.length_set,List.cons_append,List.nil_append,List.append_nil,List.replicate,List.size_toArray,List.all_cons,List.all_nil,Bool.and_self,Bool.and_true,List.drop_zero,List.drop_succ_cons,List.take_succ_cons,List.take_zero,List.set_cons_zero,List.set_cons_succ,List.getElem?_cons_zero,List.getElem?_cons_succ,Option.map_some,Option.map_none,ne_eq,not_false_eq_true,not_true_eq_false,gt_iff_lt,ge_iff_le,Int.one_mul,Nat.zero_add,Nat.zero_mul,Bool.not_true,Bool.not_false,Bool.false_eq_true,Bool.and_false,Bool.false_and,Bool.true_and, *]))
      rename_i b3 p3 q3 b4 p4 q4
      obtain ⟨b7, rfl⟩ : ∃ q, q = bk := ⟨bk, rfl⟩
      have m3 := hg2.some (b := b3) (by simp only [Heap.set_same, set_ne, ne_eq, not_false_eq_true, *] <;> rfl)
      have m4 := hg2.some (b := b4) (by simp only [Heap.set_same, set_ne, ne_eq, not_false_eq_true, *] <;> rfl)
      have ok2 := hn2.ok
      have gH : Grow w0 H G2 := Grow.trans (by (repeat' (first | exact Grow.refl _ | assumption | (refine Grow_known (by first | (simp only [Heap.set_same, set_ne, ne_eq, not_false_eq_true, *] <;> rfl) | fail) ?_) | (refine Grow.set ?_ (by assumption) (by first | (simp only [*] <;> done) | (simp [set_none', Heap.set_same, set_ne, *] <;> done) | fail)) | (refine Grow.trans ?_ (by assumption))))) hg2
      clear cW hn2 hg2
      rw [root2 q4.1.2 m3 m4]
      (all_goals (refine (fun f : True → _ => f trivial) ?_)); repeat' ((first | (with_reducible refine fun _ : True => ?_) | refine cD _ _ ?_ | refine cR _ _ ?_ | refine rR _ _ ?_ | refine rW _ _ (by (repeat' (first | exact Grow.refl _ | assumption | (refine Grow_known (by first | (simp only [Heap.set_same, set_ne, ne_eq, not_false_eq_true, *] <;> rfl) | fail) ?_) | (refine Grow.set ?_ (by assumption) (by first | (simp only [*] <;> done) | (simp [set_none', Heap.set_same, set_ne, *] <;> done) | fail)) | (refine Grow.trans ?_ (by assumption))))) ?_ | refine rS _ _ _ _ (ok2.grow (by (repeat' (first | exact Grow.refl _ | assumption | (refine Grow_known (by first | (simp only [Heap.set_same, set_ne, ne_eq, not_false_eq_true, *] <;> rfl) | fail) ?_) | (refine Grow.set ?_ (by assumption) (by first | (simp only [*] <;> done) | (simp [set_none', Heap.set_same, set_ne, *] <;> done) | fail)) | (refine Grow.trans ?_ (by assumption)))))) (by (repeat' (first | exact Grow.refl _ | assumption | (refine Grow_known (by first | (simp only [Heap.set_same, set_ne, ne_eq, not_false_eq_true, *] <;> rfl) | fail) ?_) | (refine Grow.set ?_ (by assumption) (by first | (simp only [*] <;> done) | (simp [set_none', Heap.set_same, set_ne, *] <;> done) | fail)) | (refine Grow.trans ?_ (by assumption))))) ?_ | (refine AllocQ_i ?_; intro bk hb0 hbk; (try simp only [set_none'] at hbk); (try (first | have hbn := Grow.none (by assumption) hbk | have hbn := Grow.none (by assumption) hbk.2 | have hbn := Grow.none (by assumption) hbk.2.2 | have hbn := Grow.none (by assumption) hbk.2.2.2 | have hbn := Grow.none (by assumption) hbk.2.2.2.2 | have hbn := Grow.none (by assumption) hbk.2.2.2.2.2)); (try simp only [set_none'] at hbn); (try (first | have hbm := Grow.none (by assumption) hbn | have hbm := Grow.none (by assumption) hbn.2 | have hbm := Grow.none (by assumption) hbn.2.2 | have hbm := Grow.none (by assumption) hbn.2.2.2 | have hbm := Grow.none (by assumption) hbn.2.2.2.2 | have hbm := Grow.none (by assumption) hbn.2.2.2.2.2)); (try simp only [set_none'] at hbm)) | ((first | refine condS_i ?_ ?_ | refine pick_i ?_ ?_ | refine gS_it ?_ ?_ | refine gS_if ?_ ?_ | refine gP_it ?_ ?_ | refine gP_if ?_ ?_) <;> (intro hc; try simp only [Int.reduceLE,Int.reduceLT,Int.reduceEq,and_self,not_true_eq_false,not_false_eq_true,and_true,true_and,false_and,and_false,true_or,or_true,false_or,or_false,decide_eq_true_eq,decide_eq_false_iff_not,beq_iff_eq,beq_eq_false_iff_ne,bne_iff_ne,ne_eq,gt_iff_lt,ge_iff_le,Bool.not_eq_true,Bool.not_eq_false,Bool.not_eq_true',Bool.not_eq_false',Bool.not_eq_eq_eq_not,Bool.not_true,Bool.not_false] at hc)) | (refine KP_i (by (repeat' (first | exact Heap.Le.refl _ | (refine Le_known (by first | (simp only [Heap.set_same, set_ne, ne_eq, not_false_eq_true, *] <;> rfl) | fail) ?_) | (refine Le_fresh (by first | (simp only [*] <;> done) | (simp [set_none', Heap.set_same, set_ne, *] <;> done) | fail) ?_) | (refine Heap.Le.trans ?_ (Grow.le (by assumption)))))) ?_) | (with_reducible refine And.intro ?_ ?_)) <;> (try simp only [Sh,Si,Sl,Bu,Bb,Bd,Bc,Bw,Bn,Int.reduceAdd,Int.reduceSub,Int.reduceMul,Int.reduceTDiv,Int.reduceTMod,Int.reduceMod,Int.reduceDiv,Nat.reduceLT,Nat.reduceEqDiff,decide_true,decide_false,Sa,Sb,Sc,Sd,Se,Sf,Sg,true_and,and_true,and_self,eq_self,b_i64,b_i32,b_u64,b_u32,b_u8,Int.reduceLE,Int.reduceLT,Int.reduceToNat,Int.reduceNeg,Int.reduceEq,Nat.reduceLeDiff,Nat.reducePow,Int.reducePow,Nat.min_def,reduceIte,Nat.reduceSub,Nat.reduceAdd,Nat.reduceMul,KP_same,KP_f,condS_t,condS_f,pick_t,pick_f,gS_tt,gS_ff,gS_tf,gS_ft,gS_u,gP_tt,gP_ff,gP_tf,gP_ft,gP_u,ptrV_eq,slcV_eq,cells_agg,cells_int,cells_bool,cells_ptr,cells_slice,oc_int,oc_bool,oc_slice,oc_ptr,rd1_set,rd1_ne,rdn_set,rdn_ne,Heap.set_same,set_ne,Heap.set_set,set_up,set_up2,set_up3,putAt,ceq,List.map_cons,List.map_nil,List.length_cons,List.length_nil,List.length_set,List.cons_append,List.nil_append,List.append_nil,List.replicate,List.size_toArray,List.all_cons,List.all_nil,Bool.and_self,Bool.and_true,List.drop_zero,List.drop_succ_cons,List.take_succ_cons,List.take_zero,List.set_cons_zero,List.set_cons_succ,List.getElem?_cons_zero,List.getElem?_cons_succ,Option.map_some,Option.map_none,ne_eq,not_false_eq_true,not_true_eq_false,gt_iff_lt,ge_iff_le,Int.one_mul,Nat.zero_add,Nat.zero_mul,Bool.not_true,Bool.not_false,Bool.false_eq_true,Bool.and_false,Bool.false_and,Bool.true_and, *]))
      all_goals first
        | exact Fin_mk (by (repeat' (first | exact Heap.Le.refl _ | (refine Le_known (by first | (simp only [Heap.set_same, set_ne, ne_eq, not_false_eq_true, *] <;> rfl) | fail) ?_) | (refine Le_fresh (by first | (simp only [*] <;> done) | (simp [set_none', Heap.set_same, set_ne, *] <;> done) | fail) ?_) | (refine Heap.Le.trans ?_ (Grow.le (by assumption)))))) h
        | (exfalso; omega)
  · have cW : ∀ (G : Heap) (K : Value → Heap → Prop), Grow w0 H G → K (.tuple #[Wn0.v, .int .i64 2]) G → HCalls Try.prog w0 17 [v.v, x.v] G K := fun G K g hk => c_Window v x hvi (hx.grow g) (fun hh => (hg hh).elim) (fun _ => hk)
    have rS : ∀ (G : Heap) (K : Value → Heap → Prop), K (.bool true) G → HCalls Try.prog w0 21 [Wn0.v, Wn0.v] G K := fun G K hk => r_SameWin Wn0 Wn0 ⟨SlAt.nil, Nat.le_refl _, Nat.zero_le _, Nat.zero_le _, by simp [Wn0]⟩ ⟨SlAt.nil, Nat.le_refl _, Nat.zero_le _, Nat.zero_le _, by simp [Wn0]⟩ rfl hk
    clear hx
    by_cases hn : 0 ≤ n ∧ n ≤ 6
    · have n1 : ¬ (n < 0 ∨ 7 ≤ n) := by omega
      have n2 : ¬ n < 0 := by omega
      have n3 : ¬ 6 < n := by omega
      have rD := rD hn
      rw [if_neg n1, if_neg n1] at cD
      unfold VtR.v at cD rD
      unfold Vw.v at cR rR
      unfold WnR.v Wn0 at rS
      unfold VtR.v Vw.v WnR.v Wn0 at *
      by_cases g1 : v.right
      · have hg2 : ¬ (1 ≤ x.p 3 ∧ x.l.length ≤ 4) := fun hh => hg ⟨g1, hh⟩
        refine HL.hc k5 999 ?_; unfold M5
        (all_goals (refine (fun f : True → _ => f trivial) ?_)); repeat' ((first | (with_reducible refine fun _ : True => ?_) | refine cA _ _ ?_ | refine cW _ _ (by (repeat' (first | exact Grow.refl _ | assumption | (refine Grow_known (by first | (simp only [Heap.set_same, set_ne, ne_eq, not_false_eq_true, *] <;> rfl) | fail) ?_) | (refine Grow.set ?_ (by assumption) (by first | (simp only [*] <;> done) | (simp [set_none', Heap.set_same, set_ne, *] <;> done) | fail)) | (refine Grow.trans ?_ (by assumption))))) ?_ | refine cD _ _ ?_ | refine cR _ _ ?_ | refine rR _ _ ?_ | refine rD _ _ ?_ | refine rS _ _ ?_ | (refine AllocQ_i ?_; intro bk hb0 hbk; (try simp only [set_none'] at hbk); (try (first | have hbn := Grow.none (by assumption) hbk | have hbn := Grow.none (by assumption) hbk.2 | have hbn := Grow.none (by assumption) hbk.2.2 | have hbn := Grow.none (by assumption) hbk.2.2.2 | have hbn := Grow.none (by assumption) hbk.2.2.2.2 | have hbn := Grow.none (by assumption) hbk.2.2.2.2.2)); (try simp only [set_none'] at hbn); (try (first | have hbm := Grow.none (by assumption) hbn | have hbm := Grow.none (by assumption) hbn.2 | have hbm := Grow.none (by assumption) hbn.2.2 | have hbm := Grow.none (by assumption) hbn.2.2.2 | have hbm := Grow.none (by assumption) hbn.2.2.2.2 | have hbm := Grow.none (by assumption) hbn.2.2.2.2.2)); (try simp only [set_none'] at hbm)) | ((first | refine condS_i ?_ ?_ | refine pick_i ?_ ?_ | refine gS_it ?_ ?_ | refine gS_if ?_ ?_ | refine gP_it ?_ ?_ | refine gP_if ?_ ?_) <;> (intro hc; try simp only [Int.reduceLE,Int.reduceLT,Int.reduceEq,and_self,not_true_eq_false,not_false_eq_true,and_true,true_and,false_and,and_false,true_or,or_true,false_or,or_false,decide_eq_true_eq,decide_eq_false_iff_not,beq_iff_eq,beq_eq_false_iff_ne,bne_iff_ne,ne_eq,gt_iff_lt,ge_iff_le,Bool.not_eq_true,Bool.not_eq_false,Bool.not_eq_true',Bool.not_eq_false',Bool.not_eq_eq_eq_not,Bool.not_true,Bool.not_false] at hc)) | (refine KP_i (by (repeat' (first | exact Heap.Le.refl _ | (refine Le_known (by first | (simp only [Heap.set_same, set_ne, ne_eq, not_false_eq_true, *] <;> rfl) | fail) ?_) | (refine Le_fresh (by first | (simp only [*] <;> done) | (simp [set_none', Heap.set_same, set_ne, *] <;> done) | fail) ?_) | (refine Heap.Le.trans ?_ (Grow.le (by assumption)))))) ?_) | (with_reducible refine And.intro ?_ ?_)) <;> (try simp only [Sh,Si,Sl,Bu,Bb,Bd,Bc,Bw,Bn,Int.reduceAdd,Int.reduceSub,Int.reduceMul,Int.reduceTDiv,Int.reduceTMod,Int.reduceMod,Int.reduceDiv,Nat.reduceLT,Nat.reduceEqDiff,decide_true,decide_false,Sa,Sb,Sc,Sd,Se,Sf,Sg,true_and,and_true,and_self,eq_self,b_i64,b_i32,b_u64,b_u32,b_u8,Int.reduceLE,Int.reduceLT,Int.reduceToNat,Int.reduceNeg,Int.reduceEq,Nat.reduceLeDiff,Nat.reducePow,Int.reducePow,Nat.min_def,reduceIte,Nat.reduceSub,Nat.reduceAdd,Nat.reduceMul,KP_same,KP_f,condS_t,condS_f,pick_t,pick_f,gS_tt,gS_ff,gS_tf,gS_ft,gS_u,gP_tt,gP_ff,gP_tf,gP_ft,gP_u,ptrV_eq,slcV_eq,cells_agg,cells_int,cells_bool,cells_ptr,cells_slice,oc_int,oc_bool,oc_slice,oc_ptr,rd1_set,rd1_ne,rdn_set,rdn_ne,Heap.set_same,set_ne,Heap.set_set,set_up,set_up2,set_up3,putAt,ceq,List.map_cons,List.map_nil,List.length_cons,List.length_nil,List.length_set,List.cons_append,List.nil_append,List.append_nil,List.replicate,List.size_toArray,List.all_cons,List.all_nil,Bool.and_self,Bool.and_true,List.drop_zero,List.drop_succ_cons,List.take_succ_cons,List.take_zero,List.set_cons_zero,List.set_cons_succ,List.getElem?_cons_zero,List.getElem?_cons_succ,Option.map_some,Option.map_none,ne_eq,not_false_eq_true,not_true_eq_false,gt_iff_lt,ge_iff_le,Int.one_mul,Nat.zero_add,Nat.zero_mul,Bool.not_true,Bool.not_false,Bool.false_eq_true,Bool.and_false,Bool.false_and,Bool.true_and, *]))
        all_goals first
          | exact Fin_mk (by (repeat' (first | exact Heap.Le.refl _ | (refine Le_known (by first | (simp only [Heap.set_same, set_ne, ne_eq, not_false_eq_true, *] <;> rfl) | fail) ?_) | (refine Le_fresh (by first | (simp only [*] <;> done) | (simp [set_none', Heap.set_same, set_ne, *] <;> done) | fail) ?_) | (refine Heap.Le.trans ?_ (Grow.le (by assumption)))))) h
          | (exfalso; omega)
      · refine HL.hc k5 999 ?_; unfold M5
        (all_goals (refine (fun f : True → _ => f trivial) ?_)); repeat' ((first | (with_reducible refine fun _ : True => ?_) | refine cA _ _ ?_ | refine cW _ _ (by (repeat' (first | exact Grow.refl _ | assumption | (refine Grow_known (by first | (simp only [Heap.set_same, set_ne, ne_eq, not_false_eq_true, *] <;> rfl) | fail) ?_) | (refine Grow.set ?_ (by assumption) (by first | (simp only [*] <;> done) | (simp [set_none', Heap.set_same, set_ne, *] <;> done) | fail)) | (refine Grow.trans ?_ (by assumption))))) ?_ | refine cD _ _ ?_ | refine cR _ _ ?_ | refine rR _ _ ?_ | refine rD _ _ ?_ | refine rS _ _ ?_ | (refine AllocQ_i ?_; intro bk hb0 hbk; (try simp only [set_none'] at hbk); (try (first | have hbn := Grow.none (by assumption) hbk | have hbn := Grow.none (by assumption) hbk.2 | have hbn := Grow.none (by assumption) hbk.2.2 | have hbn := Grow.none (by assumption) hbk.2.2.2 | have hbn := Grow.none (by assumption) hbk.2.2.2.2 | have hbn := Grow.none (by assumption) hbk.2.2.2.2.2)); (try simp only [set_none'] at hbn); (try (first | have hbm := Grow.none (by assumption) hbn | have hbm := Grow.none (by assumption) hbn.2 | have hbm := Grow.none (by assumption) hbn.2.2 | have hbm := Grow.none (by assumption) hbn.2.2.2 | have hbm := Grow.none (by assumption) hbn.2.2.2.2 | have hbm := Grow.none (by assumption) hbn.2.2.2.2.2)); (try simp only [set_none'] at hbm)) | ((first | refine condS_i ?_ ?_ | refine pick_i ?_ ?_ | refine gS_it ?_ ?_ | refine gS_if ?_ ?_ | refine gP_it ?_ ?_ | refine gP_if ?_ ?_) <;> (intro hc; try simp only [Int.reduceLE,Int.reduceLT,Int.reduceEq,and_self,not_true_eq_false,not_false_eq_true,and_true,true_and,false_and,and_false,true_or,or_true,false_or,or_false,decide_eq_true_eq,decide_eq_false_iff_not,beq_iff_eq,beq_eq_false_iff_ne,bne_iff_ne,ne_eq,gt_iff_lt,ge_iff_le,Bool.not_eq_true,Bool.not_eq_false,Bool.not_eq_true',Bool.not_eq_false',Bool.not_eq_eq_eq_not,Bool.not_true,Bool.not_false] at hc)) | (refine KP_i (by (repeat' (first | exact Heap.Le.refl _ | (refine Le_known (by first | (simp only [Heap.set_same, set_ne, ne_eq, not_false_eq_true, *] <;> rfl) | fail) ?_) | (refine Le_fresh (by first | (simp only [*] <;> done) | (simp [set_none', Heap.set_same, set_ne, *] <;> done) | fail) ?_) | (refine Heap.Le.trans ?_ (Grow.le (by assumption)))))) ?_) | (with_reducible refine And.intro ?_ ?_)) <;> (try simp only [Sh,Si,Sl,Bu,Bb,Bd,Bc,Bw,Bn,Int.reduceAdd,Int.reduceSub,Int.reduceMul,Int.reduceTDiv,Int.reduceTMod,Int.reduceMod,Int.reduceDiv,Nat.reduceLT,Nat.reduceEqDiff,decide_true,decide_false,Sa,Sb,Sc,Sd,Se,Sf,Sg,true_and,and_true,and_self,eq_self,b_i64,b_i32,b_u64,b_u32,b_u8,Int.reduceLE,Int.reduceLT,Int.reduceToNat,Int.reduceNeg,Int.reduceEq,Nat.reduceLeDiff,Nat.reducePow,Int.reducePow,Nat.min_def,reduceIte,Nat.reduceSub,Nat.reduceAdd,Nat.reduceMul,KP_same,KP_f,condS_t,condS_f,pick_t,pick_f,gS_tt,gS_ff,gS_tf,gS_ft,gS_u,gP_tt,gP_ff,gP_tf,gP_ft,gP_u,ptrV_eq,slcV_eq,cells_agg,cells_int,cells_bool,cells_ptr,cells_slice,oc_int,oc_bool,oc_slice,oc_ptr,rd1_set,rd1_ne,rdn_set,rdn_ne,Heap.set_same,set_ne,Heap.set_set,set_up,set_up2,set_up3,putAt,ceq,List.map_cons,List.map_nil,List.length_cons,List.length_nil,List.length_set,List.cons_append,List.nil_append,List.append_nil,List.replicate,List.size_toArray,List.all_cons,List.all_nil,Bool.and_self,Bool.and_true,List.drop_zero,List.drop_succ_cons,List.take_succ_cons,List.take_zero,List.set_cons_zero,List.set_cons_succ,List.getElem?_cons_zero,List.getElem?_cons_succ,Option.map_some,Option.map_none,ne_eq,not_false_eq_true,not_true_eq_false,gt_iff_lt,ge_iff_le,Int.one_mul,Nat.zero_add,Nat.zero_mul,Bool.not_true,Bool.not_false,Bool.false_eq_true,Bool.and_false,Bool.false_and,Bool.true_and, *]))
        all_goals exact Fin_mk (by (repeat' (first | exact Heap.Le.refl _ | (refine Le_known (by first | (simp only [Heap.set_same, set_ne, ne_eq, not_false_eq_true, *] <;> rfl) | fail) ?_) | (refine Le_fresh (by first | (simp only [*] <;> done) | (simp [set_none', Heap.set_same, set_ne, *] <;> done) | fail) ?_) | (refine Heap.Le.trans ?_ (Grow.le (by assumption)))))) h
    · have n1 : n < 0 ∨ 7 ≤ n := by omega
      rw [if_pos n1, if_pos n1] at cD
      unfold VtR.v at cD
      unfold Vw.v at cR rR
      unfold WnR.v Wn0 at rS
      unfold VtR.v Vw.v WnR.v Wn0 at *
      by_cases g1 : v.right
      · have hg2 : ¬ (1 ≤ x.p 3 ∧ x.l.length ≤ 4) := fun hh => hg ⟨g1, hh⟩
        refine HL.hc k5 999 ?_; unfold M5
        (all_goals (refine (fun f : True → _ => f trivial) ?_)); repeat' ((first | (with_reducible refine fun _ : True => ?_) | refine cA _ _ ?_ | refine cW _ _ (by (repeat' (first | exact Grow.refl _ | assumption | (refine Grow_known (by first | (simp only [Heap.set_same, set_ne, ne_eq, not_false_eq_true, *] <;> rfl) | fail) ?_) | (refine Grow.set ?_ (by assumption) (by first | (simp only [*] <;> done) | (simp [set_none', Heap.set_same, set_ne, *] <;> done) | fail)) | (refine Grow.trans ?_ (by assumption))))) ?_ | refine cD _ _ ?_ | refine cR _ _ ?_ | refine rR _ _ ?_ | refine rS _ _ ?_ | (refine AllocQ_i ?_; intro bk hb0 hbk; (try simp only [set_none'] at hbk); (try (first | have hbn := Grow.none (by assumption) hbk | have hbn := Grow.none (by assumption) hbk.2 | have hbn := Grow.none (by assumption) hbk.2.2 | have hbn := Grow.none (by assumption) hbk.2.2.2 | have hbn := Grow.none (by assumption) hbk.2.2.2.2 | have hbn := Grow.none (by assumption) hbk.2.2.2.2.2)); (try simp only [set_none'] at hbn); (try (first | have hbm := Grow.none (by assumption) hbn | have hbm := Grow.none (by assumption) hbn.2 | have hbm := Grow.none (by assumption) hbn.2.2 | have hbm := Grow.none (by assumption) hbn.2.2.2 | have hbm := Grow.none (by assumption) hbn.2.2.2.2 | have hbm := Grow.none (by assumption) hbn.2.2.2.2.2)); (try simp only [set_none'] at hbm)) | ((first | refine condS_i ?_ ?_ | refine pick_i ?_ ?_ | refine gS_it ?_ ?_ | refine gS_if ?_ ?_ | refine gP_it ?_ ?_ | refine gP_if ?_ ?_) <;> (intro hc; try simp only [Int.reduceLE,Int.reduceLT,Int.reduceEq,and_self,not_true_eq_false,not_false_eq_true,and_true,true_and,false_and,and_false,true_or,or_true,false_or,or_false,decide_eq_true_eq,decide_eq_false_iff_not,beq_iff_eq,beq_eq_false_iff_ne,bne_iff_ne,ne_eq,gt_iff_lt,ge_iff_le,Bool.not_eq_true,Bool.not_eq_false,Bool.not_eq_true',Bool.not_eq_false',Bool.not_eq_eq_eq_not,Bool.not_true,Bool.not_false] at hc)) | (refine KP_i (by (repeat' (first | exact Heap.Le.refl _ | (refine Le_known (by first | (simp only [Heap.set_same, set_ne, ne_eq, not_false_eq_true, *] <;> rfl) | fail) ?_) | (refine Le_fresh (by first | (simp only [*] <;> done) | (simp [set_none', Heap.set_same, set_ne, *] <;> done) | fail) ?_) | (refine Heap.Le.trans ?_ (Grow.le (by assumption)))))) ?_) | (with_reducible refine And.intro ?_ ?_)) <;> (try simp only [Sh,Si,Sl,Bu,Bb,Bd,Bc,Bw,Bn,Int.reduceAdd,Int.reduceSub,Int.reduceMul,Int.reduceTDiv,Int.reduceTMod,Int.reduceMod,Int.reduceDiv,Nat.reduceLT,Nat.reduceEqDiff,decide_true,decide_false,Sa,Sb,Sc,Sd,Se,Sf,Sg,true_and,and_true,and_self,eq_self,b_i64,b_i32,b_u64,b_u32,b_u8,Int.reduceLE,Int.reduceLT,Int.reduceToNat,Int.reduceNeg,Int.reduceEq,Nat.reduceLeDiff,Nat.reducePow,Int.reducePow,Nat.min_def,reduceIte,Nat.reduceSub,Nat.reduceAdd,Nat.reduceMul,KP_same,KP_f,condS_t,condS_f,pick_t,pick_f,gS_tt,gS_ff,gS_tf,gS_ft,gS_u,gP_tt,gP_ff,gP_tf,gP_ft,gP_u,ptrV_eq,slcV_eq,cells_agg,cells_int,cells_bool,cells_ptr,cells_slice,oc_int,oc_bool,oc_slice,oc_ptr,rd1_set,rd1_ne,rdn_set,rdn_ne,Heap.set_same,set_ne,Heap.set_set,set_up,set_up2,set_up3,putAt,ceq,List.map_cons,List.map_nil,List.length_cons,List.length_nil,List.length_set,List.cons_append,List.nil_append,List.append_nil,List.replicate,List.size_toArray,List.all_cons,List.all_nil,Bool.and_self,Bool.and_true,List.drop_zero,List.drop_succ_cons,List.take_succ_cons,List.take_zero,List.set_cons_zero,List.set_cons_succ,List.getElem?_cons_zero,List.getElem?_cons_succ,Option.map_some,Option.map_none,ne_eq,not_false_eq_true,not_true_eq_false,gt_iff_lt,ge_iff_le,Int.one_mul,Nat.zero_add,Nat.zero_mul,Bool.not_true,Bool.not_false,Bool.false_eq_true,Bool.and_false,Bool.false_and,Bool.true_and, *]))
        all_goals first
          | exact Fin_mk (by (repeat' (first | exact Heap.Le.refl _ | (refine Le_known (by first | (simp only [Heap.set_same, set_ne, ne_eq, not_false_eq_true, *] <;> rfl) | fail) ?_) | (refine Le_fresh (by first | (simp only [*] <;> done) | (simp [set_none', Heap.set_same, set_ne, *] <;> done) | fail) ?_) | (refine Heap.Le.trans ?_ (Grow.le (by assumption)))))) h
          | (exfalso; omega)
      · refine HL.hc k5 999 ?_; unfold M5
        (all_goals (refine (fun f : True → _ => f trivial) ?_)); repeat' ((first | (with_reducible refine fun _ : True => ?_) | refine cA _ _ ?_ | refine cW _ _ (by (repeat' (first | exact Grow.refl _ | assumption | (refine Grow_known (by first | (simp only [Heap.set_same, set_ne, ne_eq, not_false_eq_true, *] <;> rfl) | fail) ?_) | (refine Grow.set ?_ (by assumption) (by first | (simp only [*] <;> done) | (simp [set_none', Heap.set_same, set_ne, *] <;> done) | fail)) | (refine Grow.trans ?_ (by assumption))))) ?_ | refine cD _ _ ?_ | refine cR _ _ ?_ | refine rR _ _ ?_ | refine rS _ _ ?_ | (refine AllocQ_i ?_; intro bk hb0 hbk; (try simp only [set_none'] at hbk); (try (first | have hbn := Grow.none (by assumption) hbk | have hbn := Grow.none (by assumption) hbk.2 | have hbn := Grow.none (by assumption) hbk.2.2 | have hbn := Grow.none (by assumption) hbk.2.2.2 | have hbn := Grow.none (by assumption) hbk.2.2.2.2 | have hbn := Grow.none (by assumption) hbk.2.2.2.2.2)); (try simp only [set_none'] at hbn); (try (first | have hbm := Grow.none (by assumption) hbn | have hbm := Grow.none (by assumption) hbn.2 | have hbm := Grow.none (by assumption) hbn.2.2 | have hbm := Grow.none (by assumption) hbn.2.2.2 | have hbm := Grow.none (by assumption) hbn.2.2.2.2 | have hbm := Grow.none (by assumption) hbn.2.2.2.2.2)); (try simp only [set_none'] at hbm)) | ((first | refine condS_i ?_ ?_ | refine pick_i ?_ ?_ | refine gS_it ?_ ?_ | refine gS_if ?_ ?_ | refine gP_it ?_ ?_ | refine gP_if ?_ ?_) <;> (intro hc; try simp only [Int.reduceLE,Int.reduceLT,Int.reduceEq,and_self,not_true_eq_false,not_false_eq_true,and_true,true_and,false_and,and_false,true_or,or_true,false_or,or_false,decide_eq_true_eq,decide_eq_false_iff_not,beq_iff_eq,beq_eq_false_iff_ne,bne_iff_ne,ne_eq,gt_iff_lt,ge_iff_le,Bool.not_eq_true,Bool.not_eq_false,Bool.not_eq_true',Bool.not_eq_false',Bool.not_eq_eq_eq_not,Bool.not_true,Bool.not_false] at hc)) | (refine KP_i (by (repeat' (first | exact Heap.Le.refl _ | (refine Le_known (by first | (simp only [Heap.set_same, set_ne, ne_eq, not_false_eq_true, *] <;> rfl) | fail) ?_) | (refine Le_fresh (by first | (simp only [*] <;> done) | (simp [set_none', Heap.set_same, set_ne, *] <;> done) | fail) ?_) | (refine Heap.Le.trans ?_ (Grow.le (by assumption)))))) ?_) | (with_reducible refine And.intro ?_ ?_)) <;> (try simp only [Sh,Si,Sl,Bu,Bb,Bd,Bc,Bw,Bn,Int.reduceAdd,Int.reduceSub,Int.reduceMul,Int.reduceTDiv,Int.reduceTMod,Int.reduceMod,Int.reduceDiv,Nat.reduceLT,Nat.reduceEqDiff,decide_true,decide_false,Sa,Sb,Sc,Sd,Se,Sf,Sg,true_and,and_true,and_self,eq_self,b_i64,b_i32,b_u64,b_u32,b_u8,Int.reduceLE,Int.reduceLT,Int.reduceToNat,Int.reduceNeg,Int.reduceEq,Nat.reduceLeDiff,Nat.reducePow,Int.reducePow,Nat.min_def,reduceIte,Nat.reduceSub,Nat.reduceAdd,Nat.reduceMul,KP_same,KP_f,condS_t,condS_f,pick_t,pick_f,gS_tt,gS_ff,gS_tf,gS_ft,gS_u,gP_tt,gP_ff,gP_tf,gP_ft,gP_u,ptrV_eq,slcV_eq,cells_agg,cells_int,cells_bool,cells_ptr,cells_slice,oc_int,oc_bool,oc_slice,oc_ptr,rd1_set,rd1_ne,rdn_set,rdn_ne,Heap.set_same,set_ne,Heap.set_set,set_up,set_up2,set_up3,putAt,ceq,List.map_cons,List.map_nil,List.length_cons,List.length_nil,List.length_set,List.cons_append,List.nil_append,List.append_nil,List.replicate,List.size_toArray,List.all_cons,List.all_nil,Bool.and_self,Bool.and_true,List.drop_zero,List.drop_succ_cons,List.take_succ_cons,List.take_zero,List.set_cons_zero,List.set_cons_succ,List.getElem?_cons_zero,List.getElem?_cons_succ,Option.map_some,Option.map_none,ne_eq,not_false_eq_true,not_true_eq_false,gt_iff_lt,ge_iff_le,Int.one_mul,Nat.zero_add,Nat.zero_mul,Bool.not_true,Bool.not_false,Bool.false_eq_true,Bool.and_false,Bool.false_and,Bool.true_and, *]))
        all_goals first
          | exact Fin_mk (by (repeat' (first | exact Heap.Le.refl _ | (refine Le_known (by first | (simp only [Heap.set_same, set_ne, ne_eq, not_false_eq_true, *] <;> rfl) | fail) ?_) | (refine Le_fresh (by first | (simp only [*] <;> done) | (simp [set_none', Heap.set_same, set_ne, *] <;> done) | fail) ?_) | (refine Heap.Le.trans ?_ (Grow.le (by assumption)))))) h
          | (exfalso; omega)
end Go.Proofs.Ytofgiimfempcjaa
