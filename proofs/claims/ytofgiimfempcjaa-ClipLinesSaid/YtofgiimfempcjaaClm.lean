/- Lines and points, by the document; points by the program (layer 21). -/
import Derived.Test.YtofgiimfempcjaaCll
set_option linter.unusedSimpArgs false
set_option linter.unusedVariables false
set_option maxRecDepth 100000
set_option maxHeartbeats 16000000
namespace Go.Proofs.Ytofgiimfempcjaa
open Go Go.HL Go.RowKit Pb
variable {w0 : World} {H : Heap} {K : Value → Heap → Prop}

/- paintboxref21 Line -/
def M30 : MC :=
  .seq (.reg [⟨(some 3), .box 24 (.tmp 0), none⟩,
     ⟨(some 4), .box 29 (.tmp 1), none⟩,
     ⟨(some 5), .box 29 (.tmp 2), none⟩,
     ⟨(some 6), .mv (.const (.slice none 0 0)), none⟩])
  (.seq (.seq (.reg [⟨(some 7), .mv (.const (.int .i64 0)), none⟩])
    (.block 0 (.loop (.seq (.seq (.reg [⟨(some 10), .mv (.tmp 7), none⟩,
           ⟨(some 11), .bin .lss (.tmp 10) (.const (.int .i64 7)), none⟩])
        (.cond (.tmp 11)
         (.skip)
         (.exit 0)))
       (.seq (.block 1 (.seq (.any [(true, true, ⟨(some 14), .ldn 6 (.tmp 4), none⟩),
             (true, true, ⟨(some 15), .mv (.tmp 7), none⟩),
             (true, true, ⟨(some 18), .ldn 6 (.tmp 5), none⟩),
             (true, true, ⟨(some 19), .mv (.tmp 7), none⟩),
             (false, true, ⟨(some 16), .call 20 [(.tmp 14), (.tmp 15)], none⟩),
             (true, true, ⟨(some 17), .bin .geq (.tmp 16) (.const (.int .i32 0)), none⟩),
             (false, true, ⟨(some 20), .call 20 [(.tmp 18), (.tmp 19)], none⟩),
             (true, true, ⟨(some 21), .bin .geq (.tmp 20) (.const (.int .i32 0)), none⟩),
             (false, true, ⟨(some 8), .mv (.tmp 17), none⟩),
             (false, false, ⟨(some 9), .mv (.tmp 21), none⟩)])
          (.seq (.seq (.reg [⟨(some 22), .mv (.tmp 8), none⟩,
               ⟨(some 23), .un .not (.tmp 22), none⟩,
               ⟨(some 24), .mv (.tmp 23), none⟩,
               ⟨(some 25), .mv (.tmp 9), (some (24, true))⟩,
               ⟨(some 26), .un .not (.tmp 25), (some (24, true))⟩,
               ⟨(some 27), .pick (.tmp 24) (.tmp 26) (.const (.bool false)), none⟩])
            (.cond (.tmp 27)
             (.seq (.reg [⟨(some 6), .mv (.const (.slice none 0 0)), none⟩])
              (.ret))
             (.skip)))
           (.seq (.seq (.reg [⟨(some 28), .mv (.tmp 8), none⟩,
                ⟨(some 29), .mv (.tmp 28), none⟩,
                ⟨(some 30), .mv (.tmp 9), (some (29, true))⟩,
                ⟨(some 31), .un .not (.tmp 30), (some (29, true))⟩,
                ⟨(some 32), .pick (.tmp 29) (.tmp 31) (.const (.bool false)), none⟩])
             (.cond (.tmp 32)
              (.reg [⟨(some 33), .ldn 6 (.tmp 4), none⟩,
                 ⟨(some 34), .ldn 6 (.tmp 5), none⟩,
                 ⟨(some 35), .mv (.tmp 7), none⟩,
                 ⟨(some 36), .call 42 [(.tmp 33), (.tmp 34), (.tmp 35)], none⟩,
                 ⟨none, .stn 6 (.tmp 5) (.tmp 36), none⟩])
              (.skip)))
            (.seq (.reg [⟨(some 37), .mv (.tmp 9), none⟩,
                ⟨(some 38), .mv (.tmp 37), none⟩,
                ⟨(some 39), .mv (.tmp 8), (some (38, true))⟩,
                ⟨(some 40), .un .not (.tmp 39), (some (38, true))⟩,
                ⟨(some 41), .pick (.tmp 38) (.tmp 40) (.const (.bool false)), none⟩])
             (.cond (.tmp 41)
              (.reg [⟨(some 42), .ldn 6 (.tmp 5), none⟩,
                 ⟨(some 43), .ldn 6 (.tmp 4), none⟩,
                 ⟨(some 44), .mv (.tmp 7), none⟩,
                 ⟨(some 45), .call 42 [(.tmp 42), (.tmp 43), (.tmp 44)], none⟩,
                 ⟨none, .stn 6 (.tmp 4) (.tmp 45), none⟩])
              (.skip)))))))
        (.reg [⟨(some 12), .mv (.tmp 7), none⟩,
           ⟨(some 13), .bin .add (.tmp 12) (.const (.int .i64 1)), none⟩,
           ⟨(some 7), .mv (.tmp 13), none⟩]))))))
   (.seq (.seq (.reg [⟨(some 46), .ldn 6 (.tmp 4), none⟩,
        ⟨(some 47), .call 20 [(.tmp 46), (.const (.int .i64 0))], none⟩,
        ⟨(some 48), .bin .lss (.tmp 47) (.const (.int .i32 0)), none⟩,
        ⟨(some 49), .mv (.tmp 48), none⟩,
        ⟨(some 50), .ldn 6 (.tmp 5), (some (49, false))⟩,
        ⟨(some 51), .call 20 [(.tmp 50), (.const (.int .i64 0))], (some (49, false))⟩,
        ⟨(some 52), .bin .lss (.tmp 51) (.const (.int .i32 0)), (some (49, false))⟩,
        ⟨(some 53), .pick (.tmp 49) (.const (.bool true)) (.tmp 52), none⟩])
     (.cond (.tmp 53)
      (.seq (.reg [⟨(some 6), .mv (.const (.slice none 0 0)), none⟩])
       (.ret))
      (.skip)))
    (.seq (.any [(true, true, ⟨(some 54), .ldn 6 (.tmp 3), none⟩),
        (true, true, ⟨(some 55), .ldn 6 (.tmp 4), none⟩),
        (true, true, ⟨(some 57), .ldn 6 (.tmp 3), none⟩),
        (true, true, ⟨(some 58), .ldn 6 (.tmp 5), none⟩),
        (false, true, ⟨(some 56), .call 22 [(.tmp 54), (.tmp 55)], none⟩),
        (false, false, ⟨(some 59), .call 22 [(.tmp 57), (.tmp 58)], none⟩),
        (false, false, ⟨(some 60), .bslice 44 2 [(.int .i64 0), (.int .i64 0), (.int .i32 0), (.int .i32 0), (.int .i32 0), (.slice none 0 0), (.int .i64 0), (.int .i64 0), (.int .i32 0), (.int .i32 0), (.int .i32 0), (.slice none 0 0)] [(0, 6, (.tmp 56)), (6, 6, (.tmp 59))], none⟩),
        (false, false, ⟨(some 6), .mv (.tmp 60), none⟩)])
     (.ret))))
theorem k30 : fnOk Try.prog 30 = some (M30, [.t 6], 61) := by kernel_rfl

theorem r_Line (v : Vw) (A B : VtR) (hv : v.right) (hAl : Al [A.toVt, B.toVt]) (hA : VtOk w0 H A) (hB : VtOk w0 H B)
    (h1 : ∀ a' cap' (ws : List WnR) H', ws.map WnR.toWn = lineA v A.toVt B.toVt → RO winT w0 H' a' cap' ws → Grow w0 H H' → K (.slice a' ws.length cap') H') : HCalls Try.prog w0 30 [v.v, A.v, B.v] H K := by
  have hm4 : A.l.length ≤ 4 := (hAl A.toVt (by simp) A.toVt (by simp)).2
  have hBl : B.l.length = A.l.length := (hAl B.toVt (by simp) A.toVt (by simp)).1
  replace hBl : Keep (B.l.length = A.l.length) := hBl
  unfold VtR.v Vw.v at *
  refine HL.hc k30 2000 ?_; unfold M30
  (all_goals (refine (fun f : True → _ => f trivial) ?_)); repeat' ((first | (with_reducible refine fun _ : True => ?_) | (refine AllocQ_i ?_; intro bk hb0 hbk; (try simp only [set_none'] at hbk); (try (first | have hbn := Grow.none (by assumption) hbk | have hbn := Grow.none (by assumption) hbk.2 | have hbn := Grow.none (by assumption) hbk.2.2 | have hbn := Grow.none (by assumption) hbk.2.2.2 | have hbn := Grow.none (by assumption) hbk.2.2.2.2 | have hbn := Grow.none (by assumption) hbk.2.2.2.2.2)); (try simp only [set_none'] at hbn); (try (first | have hbm := Grow.none (by assumption) hbn | have hbm := Grow.none (by assumption) hbn.2 | have hbm := Grow.none (by assumption) hbn.2.2 | have hbm := Grow.none (by assumption) hbn.2.2.2 | have hbm := Grow.none (by assumption) hbn.2.2.2.2 | have hbm := Grow.none (by assumption) hbn.2.2.2.2.2)); (try simp only [set_none'] at hbm)) | ((first | refine condS_i ?_ ?_ | refine pick_i ?_ ?_ | refine gS_it ?_ ?_ | refine gS_if ?_ ?_ | refine gP_it ?_ ?_ | refine gP_if ?_ ?_) <;> (intro hc; try simp only [Int.reduceLE,Int.reduceLT,Int.reduceEq,and_self,not_true_eq_false,not_false_eq_true,and_true,true_and,false_and,and_false,true_or,or_true,false_or,or_false,decide_eq_true_eq,decide_eq_false_iff_not,beq_iff_eq,beq_eq_false_iff_ne,bne_iff_ne,ne_eq,gt_iff_lt,ge_iff_le,Bool.not_eq_true,Bool.not_eq_false,Bool.not_eq_true',Bool.not_eq_false',Bool.not_eq_eq_eq_not,Bool.not_true,Bool.not_false] at hc)) | (refine KP_i (by (repeat' (first | exact Heap.Le.refl _ | (refine Le_known (by first | (simp only [Heap.set_same, set_ne, ne_eq, not_false_eq_true, *] <;> rfl) | fail) ?_) | (refine Le_fresh (by first | (simp only [*] <;> done) | (simp [set_none', Heap.set_same, set_ne, *] <;> done) | fail) ?_) | (refine Heap.Le.trans ?_ (Grow.le (by assumption)))))) ?_) | (with_reducible refine And.intro ?_ ?_)) <;> (try simp only [Sh,Si,Sl,Bu,Bb,Bd,Bc,Bw,Bn,Int.reduceAdd,Int.reduceSub,Int.reduceMul,Int.reduceTDiv,Int.reduceTMod,Int.reduceMod,Int.reduceDiv,Nat.reduceLT,Nat.reduceEqDiff,decide_true,decide_false,Sa,Sb,Sc,Sd,Se,Sf,Sg,true_and,and_true,and_self,eq_self,b_i64,b_i32,b_u64,b_u32,b_u8,Int.reduceLE,Int.reduceLT,Int.reduceToNat,Int.reduceNeg,Int.reduceEq,Nat.reduceLeDiff,Nat.reducePow,Int.reducePow,Nat.min_def,reduceIte,Nat.reduceSub,Nat.reduceAdd,Nat.reduceMul,KP_same,KP_f,condS_t,condS_f,pick_t,pick_f,gS_tt,gS_ff,gS_tf,gS_ft,gS_u,gP_tt,gP_ff,gP_tf,gP_ft,gP_u,ptrV_eq,slcV_eq,cells_agg,cells_int,cells_bool,cells_ptr,cells_slice,oc_int,oc_bool,oc_slice,oc_ptr,rd1_set,rd1_ne,rdn_set,rdn_ne,Heap.set_same,set_ne,Heap.set_set,set_up,set_up2,set_up3,putAt,ceq,List.map_cons,List.map_nil,List.length_cons,List.length_nil,List.length_set,List.cons_append,List.nil_append,List.append_nil,List.replicate,List.size_toArray,List.all_cons,List.all_nil,Bool.and_self,Bool.and_true,List.drop_zero,List.drop_succ_cons,List.take_succ_cons,List.take_zero,List.set_cons_zero,List.set_cons_succ,List.getElem?_cons_zero,List.getElem?_cons_succ,Option.map_some,Option.map_none,ne_eq,not_false_eq_true,not_true_eq_false,gt_iff_lt,ge_iff_le,Int.one_mul,Nat.zero_add,Nat.zero_mul,Bool.not_true,Bool.not_false,Bool.false_eq_true,Bool.and_false,Bool.false_and,Bool.true_and, *]))
  rename_i b3 p3 q3 b4 p4 q4
  obtain ⟨b5, rfl⟩ : ∃ q, q = bk := ⟨bk, rfl⟩
  obtain ⟨p5, q5⟩ : w0.heap.size ≤ b5 ∧ _ := ⟨hb0, hbk⟩
  refine loopq_heap (fun G1 eG => ?_)
  have k3 := at_of eG (b := b3) (by simp only [Heap.set_same, set_ne, ne_eq, not_false_eq_true, *] <;> rfl)
  have k4 := at_of eG (b := b4) (by simp only [Heap.set_same, set_ne, ne_eq, not_false_eq_true, *] <;> rfl)
  have k5 := at_of eG (b := b5) (by simp only [Heap.set_same, set_ne, ne_eq, not_false_eq_true, *] <;> rfl)
  have g1 : Grow w0 H G1 := by rw [eG]; exact (by (repeat' (first | exact Grow.refl _ | assumption | (refine Grow_known (by first | (simp only [Heap.set_same, set_ne, ne_eq, not_false_eq_true, *] <;> rfl) | fail) ?_) | (refine Grow.set ?_ (by assumption) (by first | (simp only [*] <;> done) | (simp [set_none', Heap.set_same, set_ne, *] <;> done) | fail)) | (refine Grow.trans ?_ (by assumption)))))
  clear eG hbk hb0
  refine loop_g 10 (fun s : (Nat × Value × Value × VtR × VtR) × Heap => [(8, s.1.2.1), (9, s.1.2.2.1), (7, .int .i64 (s.1.1 : Nat))]) (fun s => s.2)
    (fun s => s.1.1 ≤ 7 ∧ Grow w0 H s.2 ∧ s.2 b3 = some ⟨24, [.int .i64 v.x, .int .i64 v.y, .int .i64 v.w, .int .i64 v.h, .int .i32 v.n, .int .i32 v.f]⟩ ∧ s.2 b4 = some ⟨29, s.1.2.2.2.1.row⟩ ∧ s.2 b5 = some ⟨29, s.1.2.2.2.2.row⟩ ∧ VtAt w0 H s.2 s.1.2.2.2.1 ∧ VtAt w0 H s.2 s.1.2.2.2.2 ∧ s.1.2.2.2.1.l.length = A.l.length ∧ s.1.2.2.2.2.l.length = A.l.length
      ∧ lineN s.1.1 A.toVt B.toVt = some (s.1.2.2.2.1.toVt, s.1.2.2.2.2.toVt)) (fun s => 7 - s.1.1)
    ((0, undef, undef, A, B), G1) ⟨Nat.zero_le _, g1, k3, k4, k5, hA.old, hB.old, rfl, hBl, rfl⟩ (Heap.Le.refl _) rfl ?_
  clear k3 k4 k5 g1
  rintro ⟨⟨k, u8, u9, x, y⟩, G⟩ f ⟨hk, hG, k3, k4, k5, hxA, hyA, hxl, hyl, hln⟩
  simp only at hk hG k3 k4 k5 hxA hyA hxl hyl hln
  have hx := hxA.ok hG
  have hy := hyA.ok hG
  show run _ _ _ _ _ _ G
  replace hxl : Keep (x.l.length = A.l.length) := hxl
  replace hyl : Keep (y.l.length = A.l.length) := hyl
  rcases Nat.lt_or_ge k 7 with hlt | hge
  · have t0 : (k : Int) < 7 := by omega
    have t6 : IntKind.i64.wrap ((k : Int) + 1) = (k : Int) + 1 := Bw.1 _ (by omega) (by omega)
    have hl1 : lineN (k + 1) A.toVt B.toVt = lineC k x.toVt y.toVt := by simp only [lineN, hln]
    have d1 : ∀ (G : Heap) (K : Value → Heap → Prop), K (.int .i32 (dist x.p (k : Nat))) G → HCalls Try.prog w0 20 [x.v, .int .i64 (k : Nat)] G K := fun G K hk => r_Distance x _ (by omega) hx.p hk
    have d2 : ∀ (G : Heap) (K : Value → Heap → Prop), K (.int .i32 (dist y.p (k : Nat))) G → HCalls Try.prog w0 20 [y.v, .int .i64 (k : Nat)] G K := fun G K hk => r_Distance y _ (by omega) hy.p hk
    have bt1 : ∀ (F : Heap) (K : Value → Heap → Prop), Grow w0 G F → (∀ a' cap' H', VsNew w0 F H' a' cap' (betw x.toVt y.toVt (k : Nat)).l → Grow w0 F H' → K (VtR.mk (betw x.toVt y.toVt (k : Nat)) a' cap').v H') → HCalls Try.prog w0 42 [x.v, y.v, .int .i64 (k : Nat)] F K := fun F K g hk =>
      r_Between x y _ (by omega) (hx.grow g) (hy.grow g) (Eq.trans hyl (Eq.symm hxl)) (by rw [show x.l.length = A.l.length from hxl]; exact hm4) fun a' cap' H' hn hg => by
        have := hk a' cap' H' hn hg
        unfold VtR.v at this
        rw [betw_len (m := x.l.length) rfl (Eq.trans hyl (Eq.symm hxl))] at this
        exact this
    have bt2 : ∀ (F : Heap) (K : Value → Heap → Prop), Grow w0 G F → (∀ a' cap' H', VsNew w0 F H' a' cap' (betw y.toVt x.toVt (k : Nat)).l → Grow w0 F H' → K (VtR.mk (betw y.toVt x.toVt (k : Nat)) a' cap').v H') → HCalls Try.prog w0 42 [y.v, x.v, .int .i64 (k : Nat)] F K := fun F K g hk =>
      r_Between y x _ (by omega) (hy.grow g) (hx.grow g) (Eq.trans hxl (Eq.symm hyl)) (by rw [show y.l.length = A.l.length from hyl]; exact hm4) fun a' cap' H' hn hg => by
        have := hk a' cap' H' hn hg
        unfold VtR.v at this
        rw [betw_len (m := y.l.length) rfl (Eq.trans hxl (Eq.symm hyl))] at this
        exact this
    unfold VtR.v at d1 d2 bt1 bt2
    unfold VtR.row at k4 k5
    rw [root3 k3 k4 k5]
    (all_goals (refine (fun f : True → _ => f trivial) ?_)); repeat' ((first | (with_reducible refine fun _ : True => ?_) | refine d1 _ _ ?_ | refine d2 _ _ ?_ | refine bt1 _ _ (by (repeat' (first | exact Grow.refl _ | assumption | (refine Grow_known (by first | (simp only [Heap.set_same, set_ne, ne_eq, not_false_eq_true, *] <;> rfl) | fail) ?_) | (refine Grow.set ?_ (by assumption) (by first | (simp only [*] <;> done) | (simp [set_none', Heap.set_same, set_ne, *] <;> done) | fail)) | (refine Grow.trans ?_ (by assumption))))) (fun a2 c2 G2 hn2 hg2 => ?_)  | refine bt2 _ _ (by (repeat' (first | exact Grow.refl _ | assumption | (refine Grow_known (by first | (simp only [Heap.set_same, set_ne, ne_eq, not_false_eq_true, *] <;> rfl) | fail) ?_) | (refine Grow.set ?_ (by assumption) (by first | (simp only [*] <;> done) | (simp [set_none', Heap.set_same, set_ne, *] <;> done) | fail)) | (refine Grow.trans ?_ (by assumption))))) (fun a2 c2 G2 hn2 hg2 => ?_)  | (refine AllocQ_i ?_; intro bk hb0 hbk; (try simp only [set_none'] at hbk); (try (first | have hbn := Grow.none (by assumption) hbk | have hbn := Grow.none (by assumption) hbk.2 | have hbn := Grow.none (by assumption) hbk.2.2 | have hbn := Grow.none (by assumption) hbk.2.2.2 | have hbn := Grow.none (by assumption) hbk.2.2.2.2 | have hbn := Grow.none (by assumption) hbk.2.2.2.2.2)); (try simp only [set_none'] at hbn); (try (first | have hbm := Grow.none (by assumption) hbn | have hbm := Grow.none (by assumption) hbn.2 | have hbm := Grow.none (by assumption) hbn.2.2 | have hbm := Grow.none (by assumption) hbn.2.2.2 | have hbm := Grow.none (by assumption) hbn.2.2.2.2 | have hbm := Grow.none (by assumption) hbn.2.2.2.2.2)); (try simp only [set_none'] at hbm)) | ((first | refine condS_i ?_ ?_ | refine pick_i ?_ ?_ | refine gS_it ?_ ?_ | refine gS_if ?_ ?_ | refine gP_it ?_ ?_ | refine gP_if ?_ ?_) <;> (intro hc; try simp only [Int.reduceLE,Int.reduceLT,Int.reduceEq,and_self,not_true_eq_false,not_false_eq_true,and_true,true_and,false_and,and_false,true_or,or_true,false_or,or_false,decide_eq_true_eq,decide_eq_false_iff_not,beq_iff_eq,beq_eq_false_iff_ne,bne_iff_ne,ne_eq,gt_iff_lt,ge_iff_le,Bool.not_eq_true,Bool.not_eq_false,Bool.not_eq_true',Bool.not_eq_false',Bool.not_eq_eq_eq_not,Bool.not_true,Bool.not_false] at hc)) | (refine KP_i (by (repeat' (first | exact Heap.Le.refl _ | (refine Le_known (by first | (simp only [Heap.set_same, set_ne, ne_eq, not_false_eq_true, *] <;> rfl) | fail) ?_) | (refine Le_fresh (by first | (simp only [*] <;> done) | (simp [set_none', Heap.set_same, set_ne, *] <;> done) | fail) ?_) | (refine Heap.Le.trans ?_ (Grow.le (by assumption)))))) ?_) | (with_reducible refine And.intro ?_ ?_)) <;> (try simp only [Sh,Si,Sl,Bu,Bb,Bd,Bc,Bw,Bn,Int.reduceAdd,Int.reduceSub,Int.reduceMul,Int.reduceTDiv,Int.reduceTMod,Int.reduceMod,Int.reduceDiv,Nat.reduceLT,Nat.reduceEqDiff,decide_true,decide_false,Sa,Sb,Sc,Sd,Se,Sf,Sg,true_and,and_true,and_self,eq_self,b_i64,b_i32,b_u64,b_u32,b_u8,Int.reduceLE,Int.reduceLT,Int.reduceToNat,Int.reduceNeg,Int.reduceEq,Nat.reduceLeDiff,Nat.reducePow,Int.reducePow,Nat.min_def,reduceIte,Nat.reduceSub,Nat.reduceAdd,Nat.reduceMul,KP_same,KP_f,condS_t,condS_f,pick_t,pick_f,gS_tt,gS_ff,gS_tf,gS_ft,gS_u,gP_tt,gP_ff,gP_tf,gP_ft,gP_u,ptrV_eq,slcV_eq,cells_agg,cells_int,cells_bool,cells_ptr,cells_slice,oc_int,oc_bool,oc_slice,oc_ptr,rd1_set,rd1_ne,rdn_set,rdn_ne,Heap.set_same,set_ne,Heap.set_set,set_up,set_up2,set_up3,putAt,ceq,List.map_cons,List.map_nil,List.length_cons,List.length_nil,List.length_set,List.cons_append,List.nil_append,List.append_nil,List.replicate,List.size_toArray,List.all_cons,List.all_nil,Bool.and_self,Bool.and_true,List.drop_zero,List.drop_succ_cons,List.take_succ_cons,List.take_zero,List.set_cons_zero,List.set_cons_succ,List.getElem?_cons_zero,List.getElem?_cons_succ,Option.map_some,Option.map_none,ne_eq,not_false_eq_true,not_true_eq_false,gt_iff_lt,ge_iff_le,Int.one_mul,Nat.zero_add,Nat.zero_mul,Bool.not_true,Bool.not_false,Bool.false_eq_true,Bool.and_false,Bool.false_and,Bool.true_and, *]))
    · rename_i hc1
      rw [← root3 k3 k4 k5]
      exact Fin_mk (Heap.Le.refl _) (h1 none 0 [] G (by rw [lineA_none (k := k + 1) (by omega) (by rw [hl1]; simp [lineC, hc1, hc])]; rfl) RO.nil hG)
    · rename_i hc1
      have m3 := hg2.some (b := b3) (by simp only [Heap.set_same, set_ne, ne_eq, not_false_eq_true, *] <;> rfl)
      have m4 := hg2.some (b := b4) (by simp only [Heap.set_same, set_ne, ne_eq, not_false_eq_true, *] <;> rfl)
      have m5 := hg2.some (b := b5) (by simp only [Heap.set_same, set_ne, ne_eq, not_false_eq_true, *] <;> rfl)
      rw [← root3 k3 k4 k5] at hn2 hg2
      have gF := hG.trans hg2
      have hl2 : lineN (k + 1) A.toVt B.toVt = some (betw y.toVt x.toVt (k : Nat), y.toVt) := by rw [hl1]; simp [lineC, hc1, hc]
      have hlen : Keep ((betw y.toVt x.toVt (k : Nat)).l.length = A.l.length) := betw_len (m := A.l.length) hyl hxl
      clear bt1 bt2 d1 d2 hl1
      rw [root3 m3 m4 m5]
      (all_goals (refine (fun f : True → _ => f trivial) ?_)); repeat' ((first | (with_reducible refine fun _ : True => ?_) | (refine AllocQ_i ?_; intro bk hb0 hbk; (try simp only [set_none'] at hbk); (try (first | have hbn := Grow.none (by assumption) hbk | have hbn := Grow.none (by assumption) hbk.2 | have hbn := Grow.none (by assumption) hbk.2.2 | have hbn := Grow.none (by assumption) hbk.2.2.2 | have hbn := Grow.none (by assumption) hbk.2.2.2.2 | have hbn := Grow.none (by assumption) hbk.2.2.2.2.2)); (try simp only [set_none'] at hbn); (try (first | have hbm := Grow.none (by assumption) hbn | have hbm := Grow.none (by assumption) hbn.2 | have hbm := Grow.none (by assumption) hbn.2.2 | have hbm := Grow.none (by assumption) hbn.2.2.2 | have hbm := Grow.none (by assumption) hbn.2.2.2.2 | have hbm := Grow.none (by assumption) hbn.2.2.2.2.2)); (try simp only [set_none'] at hbm)) | ((first | refine condS_i ?_ ?_ | refine pick_i ?_ ?_ | refine gS_it ?_ ?_ | refine gS_if ?_ ?_ | refine gP_it ?_ ?_ | refine gP_if ?_ ?_) <;> (intro hc; try simp only [Int.reduceLE,Int.reduceLT,Int.reduceEq,and_self,not_true_eq_false,not_false_eq_true,and_true,true_and,false_and,and_false,true_or,or_true,false_or,or_false,decide_eq_true_eq,decide_eq_false_iff_not,beq_iff_eq,beq_eq_false_iff_ne,bne_iff_ne,ne_eq,gt_iff_lt,ge_iff_le,Bool.not_eq_true,Bool.not_eq_false,Bool.not_eq_true',Bool.not_eq_false',Bool.not_eq_eq_eq_not,Bool.not_true,Bool.not_false] at hc)) | (refine KP_i (by (repeat' (first | exact Heap.Le.refl _ | (refine Le_known (by first | (simp only [Heap.set_same, set_ne, ne_eq, not_false_eq_true, *] <;> rfl) | fail) ?_) | (refine Le_fresh (by first | (simp only [*] <;> done) | (simp [set_none', Heap.set_same, set_ne, *] <;> done) | fail) ?_) | (refine Heap.Le.trans ?_ (Grow.le (by assumption)))))) ?_) | (with_reducible refine And.intro ?_ ?_)) <;> (try simp only [Sh,Si,Sl,Bu,Bb,Bd,Bc,Bw,Bn,Int.reduceAdd,Int.reduceSub,Int.reduceMul,Int.reduceTDiv,Int.reduceTMod,Int.reduceMod,Int.reduceDiv,Nat.reduceLT,Nat.reduceEqDiff,decide_true,decide_false,Sa,Sb,Sc,Sd,Se,Sf,Sg,true_and,and_true,and_self,eq_self,b_i64,b_i32,b_u64,b_u32,b_u8,Int.reduceLE,Int.reduceLT,Int.reduceToNat,Int.reduceNeg,Int.reduceEq,Nat.reduceLeDiff,Nat.reducePow,Int.reducePow,Nat.min_def,reduceIte,Nat.reduceSub,Nat.reduceAdd,Nat.reduceMul,KP_same,KP_f,condS_t,condS_f,pick_t,pick_f,gS_tt,gS_ff,gS_tf,gS_ft,gS_u,gP_tt,gP_ff,gP_tf,gP_ft,gP_u,ptrV_eq,slcV_eq,cells_agg,cells_int,cells_bool,cells_ptr,cells_slice,oc_int,oc_bool,oc_slice,oc_ptr,rd1_set,rd1_ne,rdn_set,rdn_ne,Heap.set_same,set_ne,Heap.set_set,set_up,set_up2,set_up3,putAt,ceq,List.map_cons,List.map_nil,List.length_cons,List.length_nil,List.length_set,List.cons_append,List.nil_append,List.append_nil,List.replicate,List.size_toArray,List.all_cons,List.all_nil,Bool.and_self,Bool.and_true,List.drop_zero,List.drop_succ_cons,List.take_succ_cons,List.take_zero,List.set_cons_zero,List.set_cons_succ,List.getElem?_cons_zero,List.getElem?_cons_succ,Option.map_some,Option.map_none,ne_eq,not_false_eq_true,not_true_eq_false,gt_iff_lt,ge_iff_le,Int.one_mul,Nat.zero_add,Nat.zero_mul,Bool.not_true,Bool.not_false,Bool.false_eq_true,Bool.and_false,Bool.false_and,Bool.true_and, *]))
      exact Round_p (k + 1, _, _, VtR.mk (betw y.toVt x.toVt (k : Nat)) a2 c2, y) ⟨hlt, ((gF.set p3 q3).set p4 q4.2).set p5 q5.2.2, (by simp only [Heap.set_same, set_ne, ne_eq, not_false_eq_true, *] <;> rfl), (Heap.set_other _ _ q5.1.2).trans at1, at1, betw_at hn2 hG (by (repeat' (first | exact KeepT.refl | assumption | (refine KeepT.known (by first | (simp only [Heap.set_same, set_ne, ne_eq, not_false_eq_true, *] <;> rfl) | fail) ?_) | (refine KeepT.set ?_ (by simp only [Heap.set_same, set_ne, ne_eq, not_false_eq_true, *] <;> rfl) (Nat.ne_of_beq_eq_false rfl)) | (refine KeepT.fresh ?_ (by first | (simp only [*] <;> done) | (simp [set_none', Heap.set_same, set_ne, *] <;> done) | fail)) | (refine KeepT.trans ?_ (by assumption)) | (refine KeepT.of (w0 := w0) ?_; first | exact Grow.refl _ | assumption)))), hyA.keep ((KeepT.of hg2).trans (by (repeat' (first | exact KeepT.refl | assumption | (refine KeepT.known (by first | (simp only [Heap.set_same, set_ne, ne_eq, not_false_eq_true, *] <;> rfl) | fail) ?_) | (refine KeepT.set ?_ (by simp only [Heap.set_same, set_ne, ne_eq, not_false_eq_true, *] <;> rfl) (Nat.ne_of_beq_eq_false rfl)) | (refine KeepT.fresh ?_ (by first | (simp only [*] <;> done) | (simp [set_none', Heap.set_same, set_ne, *] <;> done) | fail)) | (refine KeepT.trans ?_ (by assumption)) | (refine KeepT.of (w0 := w0) ?_; first | exact Grow.refl _ | assumption))))), hlen, hyl, hl2⟩ (by simp only; omega) rfl rfl
    · rename_i hc1
      have m3 := hg2.some (b := b3) (by simp only [Heap.set_same, set_ne, ne_eq, not_false_eq_true, *] <;> rfl)
      have m4 := hg2.some (b := b4) (by simp only [Heap.set_same, set_ne, ne_eq, not_false_eq_true, *] <;> rfl)
      have m5 := hg2.some (b := b5) (by simp only [Heap.set_same, set_ne, ne_eq, not_false_eq_true, *] <;> rfl)
      rw [← root3 k3 k4 k5] at hn2 hg2
      have gF := hG.trans hg2
      have hl2 : lineN (k + 1) A.toVt B.toVt = some (x.toVt, betw x.toVt y.toVt (k : Nat)) := by rw [hl1]; simp [lineC, hc1, hc]
      have hlen : Keep ((betw x.toVt y.toVt (k : Nat)).l.length = A.l.length) := betw_len (m := A.l.length) hxl hyl
      clear bt1 bt2 d1 d2 hl1
      rw [root3 m3 m4 m5]
      (all_goals (refine (fun f : True → _ => f trivial) ?_)); repeat' ((first | (with_reducible refine fun _ : True => ?_) | (refine AllocQ_i ?_; intro bk hb0 hbk; (try simp only [set_none'] at hbk); (try (first | have hbn := Grow.none (by assumption) hbk | have hbn := Grow.none (by assumption) hbk.2 | have hbn := Grow.none (by assumption) hbk.2.2 | have hbn := Grow.none (by assumption) hbk.2.2.2 | have hbn := Grow.none (by assumption) hbk.2.2.2.2 | have hbn := Grow.none (by assumption) hbk.2.2.2.2.2)); (try simp only [set_none'] at hbn); (try (first | have hbm := Grow.none (by assumption) hbn | have hbm := Grow.none (by assumption) hbn.2 | have hbm := Grow.none (by assumption) hbn.2.2 | have hbm := Grow.none (by assumption) hbn.2.2.2 | have hbm := Grow.none (by assumption) hbn.2.2.2.2 | have hbm := Grow.none (by assumption) hbn.2.2.2.2.2)); (try simp only [set_none'] at hbm)) | ((first | refine condS_i ?_ ?_ | refine pick_i ?_ ?_ | refine gS_it ?_ ?_ | refine gS_if ?_ ?_ | refine gP_it ?_ ?_ | refine gP_if ?_ ?_) <;> (intro hc; try simp only [Int.reduceLE,Int.reduceLT,Int.reduceEq,and_self,not_true_eq_false,not_false_eq_true,and_true,true_and,false_and,and_false,true_or,or_true,false_or,or_false,decide_eq_true_eq,decide_eq_false_iff_not,beq_iff_eq,beq_eq_false_iff_ne,bne_iff_ne,ne_eq,gt_iff_lt,ge_iff_le,Bool.not_eq_true,Bool.not_eq_false,Bool.not_eq_true',Bool.not_eq_false',Bool.not_eq_eq_eq_not,Bool.not_true,Bool.not_false] at hc)) | (refine KP_i (by (repeat' (first | exact Heap.Le.refl _ | (refine Le_known (by first | (simp only [Heap.set_same, set_ne, ne_eq, not_false_eq_true, *] <;> rfl) | fail) ?_) | (refine Le_fresh (by first | (simp only [*] <;> done) | (simp [set_none', Heap.set_same, set_ne, *] <;> done) | fail) ?_) | (refine Heap.Le.trans ?_ (Grow.le (by assumption)))))) ?_) | (with_reducible refine And.intro ?_ ?_)) <;> (try simp only [Sh,Si,Sl,Bu,Bb,Bd,Bc,Bw,Bn,Int.reduceAdd,Int.reduceSub,Int.reduceMul,Int.reduceTDiv,Int.reduceTMod,Int.reduceMod,Int.reduceDiv,Nat.reduceLT,Nat.reduceEqDiff,decide_true,decide_false,Sa,Sb,Sc,Sd,Se,Sf,Sg,true_and,and_true,and_self,eq_self,b_i64,b_i32,b_u64,b_u32,b_u8,Int.reduceLE,Int.reduceLT,Int.reduceToNat,Int.reduceNeg,Int.reduceEq,Nat.reduceLeDiff,Nat.reducePow,Int.reducePow,Nat.min_def,reduceIte,Nat.reduceSub,Nat.reduceAdd,Nat.reduceMul,KP_same,KP_f,condS_t,condS_f,pick_t,pick_f,gS_tt,gS_ff,gS_tf,gS_ft,gS_u,gP_tt,gP_ff,gP_tf,gP_ft,gP_u,ptrV_eq,slcV_eq,cells_agg,cells_int,cells_bool,cells_ptr,cells_slice,oc_int,oc_bool,oc_slice,oc_ptr,rd1_set,rd1_ne,rdn_set,rdn_ne,Heap.set_same,set_ne,Heap.set_set,set_up,set_up2,set_up3,putAt,ceq,List.map_cons,List.map_nil,List.length_cons,List.length_nil,List.length_set,List.cons_append,List.nil_append,List.append_nil,List.replicate,List.size_toArray,List.all_cons,List.all_nil,Bool.and_self,Bool.and_true,List.drop_zero,List.drop_succ_cons,List.take_succ_cons,List.take_zero,List.set_cons_zero,List.set_cons_succ,List.getElem?_cons_zero,List.getElem?_cons_succ,Option.map_some,Option.map_none,ne_eq,not_false_eq_true,not_true_eq_false,gt_iff_lt,ge_iff_le,Int.one_mul,Nat.zero_add,Nat.zero_mul,Bool.not_true,Bool.not_false,Bool.false_eq_true,Bool.and_false,Bool.false_and,Bool.true_and, *]))
      exact Round_p (k + 1, _, _, x, VtR.mk (betw x.toVt y.toVt (k : Nat)) a2 c2) ⟨hlt, ((gF.set p3 q3).set p4 q4.2).set p5 q5.2.2, (by simp only [Heap.set_same, set_ne, ne_eq, not_false_eq_true, *] <;> rfl), (Heap.set_other _ _ q5.1.2).trans at1, at1, hxA.keep ((KeepT.of hg2).trans (by (repeat' (first | exact KeepT.refl | assumption | (refine KeepT.known (by first | (simp only [Heap.set_same, set_ne, ne_eq, not_false_eq_true, *] <;> rfl) | fail) ?_) | (refine KeepT.set ?_ (by simp only [Heap.set_same, set_ne, ne_eq, not_false_eq_true, *] <;> rfl) (Nat.ne_of_beq_eq_false rfl)) | (refine KeepT.fresh ?_ (by first | (simp only [*] <;> done) | (simp [set_none', Heap.set_same, set_ne, *] <;> done) | fail)) | (refine KeepT.trans ?_ (by assumption)) | (refine KeepT.of (w0 := w0) ?_; first | exact Grow.refl _ | assumption))))), betw_at hn2 hG (by (repeat' (first | exact KeepT.refl | assumption | (refine KeepT.known (by first | (simp only [Heap.set_same, set_ne, ne_eq, not_false_eq_true, *] <;> rfl) | fail) ?_) | (refine KeepT.set ?_ (by simp only [Heap.set_same, set_ne, ne_eq, not_false_eq_true, *] <;> rfl) (Nat.ne_of_beq_eq_false rfl)) | (refine KeepT.fresh ?_ (by first | (simp only [*] <;> done) | (simp [set_none', Heap.set_same, set_ne, *] <;> done) | fail)) | (refine KeepT.trans ?_ (by assumption)) | (refine KeepT.of (w0 := w0) ?_; first | exact Grow.refl _ | assumption)))), hxl, hlen, hl2⟩ (by simp only; omega) rfl rfl
    · rename_i hc1
      have hl2 : lineN (k + 1) A.toVt B.toVt = some (x.toVt, y.toVt) := by rw [hl1]; simp [lineC, hc1, hc]
      rw [← root3 k3 k4 k5]
      exact Round_p (k + 1, _, _, x, y) ⟨hlt, hG, k3, k4, k5, hxA, hyA, hxl, hyl, hl2⟩ (by simp only; omega) rfl rfl
  · obtain rfl : k = 7 := by omega
    have d1 : ∀ (G : Heap) (K : Value → Heap → Prop), K (.int .i32 (dist x.p 0)) G → HCalls Try.prog w0 20 [x.v, .int .i64 0] G K := fun G K hk => r_Distance x _ (by omega) hx.p hk
    have d2 : ∀ (G : Heap) (K : Value → Heap → Prop), K (.int .i32 (dist y.p 0)) G → HCalls Try.prog w0 20 [y.v, .int .i64 0] G K := fun G K hk => r_Distance y _ (by omega) hy.p hk
    have cW1 : ∀ (F : Heap) (K : Value → Heap → Prop), Grow w0 G F → K (WnR.mk (winA v x.toVt) x.a x.cap).v F → HCalls Try.prog w0 22 [v.v, x.v] F K := fun F K g hk => r_Window v x hv (hx.grow g) hk
    have cW2 : ∀ (F : Heap) (K : Value → Heap → Prop), Grow w0 G F → K (WnR.mk (winA v y.toVt) y.a y.cap).v F → HCalls Try.prog w0 22 [v.v, y.v] F K := fun F K g hk => r_Window v y hv (hy.grow g) hk
    have kk : ∀ (b : Nat) (z : Blk), w0.heap.size ≤ b → G b = none → VsOk w0 (G.set b z) x.a x.cap x.l ∧ VsOk w0 (G.set b z) y.a y.cap y.l := fun b z h1 h2 => ⟨(hx.vs).grow ((Grow.refl _).set h1 h2), (hy.vs).grow ((Grow.refl _).set h1 h2)⟩
    have hla : lineA v A.toVt B.toVt = if dist x.p 0 < 0 ∨ dist y.p 0 < 0 then [] else [winA v x.toVt, winA v y.toVt] := by unfold lineA; rw [hln]
    rw [hla] at h1
    unfold VtR.v at d1 d2
    unfold VtR.v Vw.v WnR.v at cW1 cW2
    unfold VtR.row at k4 k5
    clear hln hla hyl hxl
    rw [root3 k3 k4 k5]
    (all_goals (refine (fun f : True → _ => f trivial) ?_)); repeat' ((first | (with_reducible refine fun _ : True => ?_) | refine d1 _ _ ?_ | refine d2 _ _ ?_ | refine cW1 _ _ (by (repeat' (first | exact Grow.refl _ | assumption | (refine Grow_known (by first | (simp only [Heap.set_same, set_ne, ne_eq, not_false_eq_true, *] <;> rfl) | fail) ?_) | (refine Grow.set ?_ (by assumption) (by first | (simp only [*] <;> done) | (simp [set_none', Heap.set_same, set_ne, *] <;> done) | fail)) | (refine Grow.trans ?_ (by assumption))))) ?_ | refine cW2 _ _ (by (repeat' (first | exact Grow.refl _ | assumption | (refine Grow_known (by first | (simp only [Heap.set_same, set_ne, ne_eq, not_false_eq_true, *] <;> rfl) | fail) ?_) | (refine Grow.set ?_ (by assumption) (by first | (simp only [*] <;> done) | (simp [set_none', Heap.set_same, set_ne, *] <;> done) | fail)) | (refine Grow.trans ?_ (by assumption))))) ?_ | (refine AllocQ_i ?_; intro bk hb0 hbk; (try simp only [set_none'] at hbk); (try (first | have hbn := Grow.none (by assumption) hbk | have hbn := Grow.none (by assumption) hbk.2 | have hbn := Grow.none (by assumption) hbk.2.2 | have hbn := Grow.none (by assumption) hbk.2.2.2 | have hbn := Grow.none (by assumption) hbk.2.2.2.2 | have hbn := Grow.none (by assumption) hbk.2.2.2.2.2)); (try simp only [set_none'] at hbn); (try (first | have hbm := Grow.none (by assumption) hbn | have hbm := Grow.none (by assumption) hbn.2 | have hbm := Grow.none (by assumption) hbn.2.2 | have hbm := Grow.none (by assumption) hbn.2.2.2 | have hbm := Grow.none (by assumption) hbn.2.2.2.2 | have hbm := Grow.none (by assumption) hbn.2.2.2.2.2)); (try simp only [set_none'] at hbm)) | ((first | refine condS_i ?_ ?_ | refine pick_i ?_ ?_ | refine gS_it ?_ ?_ | refine gS_if ?_ ?_ | refine gP_it ?_ ?_ | refine gP_if ?_ ?_) <;> (intro hc; try simp only [Int.reduceLE,Int.reduceLT,Int.reduceEq,and_self,not_true_eq_false,not_false_eq_true,and_true,true_and,false_and,and_false,true_or,or_true,false_or,or_false,decide_eq_true_eq,decide_eq_false_iff_not,beq_iff_eq,beq_eq_false_iff_ne,bne_iff_ne,ne_eq,gt_iff_lt,ge_iff_le,Bool.not_eq_true,Bool.not_eq_false,Bool.not_eq_true',Bool.not_eq_false',Bool.not_eq_eq_eq_not,Bool.not_true,Bool.not_false] at hc)) | (refine KP_i (by (repeat' (first | exact Heap.Le.refl _ | (refine Le_known (by first | (simp only [Heap.set_same, set_ne, ne_eq, not_false_eq_true, *] <;> rfl) | fail) ?_) | (refine Le_fresh (by first | (simp only [*] <;> done) | (simp [set_none', Heap.set_same, set_ne, *] <;> done) | fail) ?_) | (refine Heap.Le.trans ?_ (Grow.le (by assumption)))))) ?_) | (with_reducible refine And.intro ?_ ?_)) <;> (try simp only [Sh,Si,Sl,Bu,Bb,Bd,Bc,Bw,Bn,Int.reduceAdd,Int.reduceSub,Int.reduceMul,Int.reduceTDiv,Int.reduceTMod,Int.reduceMod,Int.reduceDiv,Nat.reduceLT,Nat.reduceEqDiff,decide_true,decide_false,Sa,Sb,Sc,Sd,Se,Sf,Sg,true_and,and_true,and_self,eq_self,b_i64,b_i32,b_u64,b_u32,b_u8,Int.reduceLE,Int.reduceLT,Int.reduceToNat,Int.reduceNeg,Int.reduceEq,Nat.reduceLeDiff,Nat.reducePow,Int.reducePow,Nat.min_def,reduceIte,Nat.reduceSub,Nat.reduceAdd,Nat.reduceMul,KP_same,KP_f,condS_t,condS_f,pick_t,pick_f,gS_tt,gS_ff,gS_tf,gS_ft,gS_u,gP_tt,gP_ff,gP_tf,gP_ft,gP_u,ptrV_eq,slcV_eq,cells_agg,cells_int,cells_bool,cells_ptr,cells_slice,oc_int,oc_bool,oc_slice,oc_ptr,rd1_set,rd1_ne,rdn_set,rdn_ne,Heap.set_same,set_ne,Heap.set_set,set_up,set_up2,set_up3,putAt,ceq,List.map_cons,List.map_nil,List.length_cons,List.length_nil,List.length_set,List.cons_append,List.nil_append,List.append_nil,List.replicate,List.size_toArray,List.all_cons,List.all_nil,Bool.and_self,Bool.and_true,List.drop_zero,List.drop_succ_cons,List.take_succ_cons,List.take_zero,List.set_cons_zero,List.set_cons_succ,List.getElem?_cons_zero,List.getElem?_cons_succ,Option.map_some,Option.map_none,ne_eq,not_false_eq_true,not_true_eq_false,gt_iff_lt,ge_iff_le,Int.one_mul,Nat.zero_add,Nat.zero_mul,Bool.not_true,Bool.not_false,Bool.false_eq_true,Bool.and_false,Bool.false_and,Bool.true_and, *]))
    · rename_i hc1
      rw [← root3 k3 k4 k5]
      exact Fin_mk (Heap.Le.refl _) (h1 none 0 [] G (by rw [if_pos (.inr hc)]; rfl) RO.nil hG)
    · rename_i hc1
      have nh : ¬ (dist x.p 0 < 0 ∨ dist y.p 0 < 0) := fun hh => hh.elim hc1 hc
      rw [← root3 k3 k4 k5]
      have hbn := hbk.2.2.2
      obtain ⟨o1, o2⟩ := kk bk ⟨winT.ty, (WnR.mk (winA v x.toVt) x.a x.cap).row ++ (WnR.mk (winA v y.toVt) y.a y.cap).row⟩ hb0 hbn
      exact Fin_mk (Heap.Le.refl _) (h1 (some ⟨bk, 0, none⟩) 2 [WnR.mk (winA v x.toVt) x.a x.cap, WnR.mk (winA v y.toVt) y.a y.cap] _ (by rw [if_neg nh]; rfl) (wins2 at1 o1 o2) (hG.set hb0 (hG.none hbn)))
    · rw [← root3 k3 k4 k5]
      exact Fin_mk (Heap.Le.refl _) (h1 none 0 [] G (by rw [if_pos (.inl hc)]; rfl) RO.nil hG)
theorem pointA_no {v : Vw} {p : Vt} {k : Nat} (hk : k < 7) (h : dist p.p k < 0) : pointA v p = [] := by
  unfold pointA
  rw [if_neg fun hh => by have := hh k hk; omega]
/- paintboxref21 Point -/
def M29 : MC :=
  .seq (.reg [⟨(some 2), .box 24 (.tmp 0), none⟩,
     ⟨(some 3), .box 29 (.tmp 1), none⟩,
     ⟨(some 4), .mv (.const (.slice none 0 0)), none⟩])
  (.seq (.seq (.reg [⟨(some 5), .mv (.const (.int .i64 0)), none⟩])
    (.block 0 (.loop (.seq (.seq (.reg [⟨(some 6), .mv (.tmp 5), none⟩,
           ⟨(some 7), .bin .lss (.tmp 6) (.const (.int .i64 7)), none⟩])
        (.cond (.tmp 7)
         (.skip)
         (.exit 0)))
       (.seq (.block 1 (.seq (.reg [⟨(some 10), .ldn 6 (.tmp 3), none⟩,
             ⟨(some 11), .mv (.tmp 5), none⟩,
             ⟨(some 12), .call 20 [(.tmp 10), (.tmp 11)], none⟩,
             ⟨(some 13), .bin .lss (.tmp 12) (.const (.int .i32 0)), none⟩])
          (.cond (.tmp 13)
           (.seq (.reg [⟨(some 4), .mv (.const (.slice none 0 0)), none⟩])
            (.ret))
           (.skip))))
        (.reg [⟨(some 8), .mv (.tmp 5), none⟩,
           ⟨(some 9), .bin .add (.tmp 8) (.const (.int .i64 1)), none⟩,
           ⟨(some 5), .mv (.tmp 9), none⟩]))))))
   (.seq (.reg [⟨(some 14), .ldn 6 (.tmp 2), none⟩,
       ⟨(some 15), .ldn 6 (.tmp 3), none⟩,
       ⟨(some 16), .call 22 [(.tmp 14), (.tmp 15)], none⟩,
       ⟨(some 17), .bslice 44 1 [(.int .i64 0), (.int .i64 0), (.int .i32 0), (.int .i32 0), (.int .i32 0), (.slice none 0 0)] [(0, 6, (.tmp 16))], none⟩,
       ⟨(some 4), .mv (.tmp 17), none⟩])
    (.ret)))
theorem k29 : fnOk Try.prog 29 = some (M29, [.t 4], 18) := by kernel_rfl

theorem r_Point (v : Vw) (A : VtR) (hv : v.right) (hA : VtOk w0 H A)
    (h1 : ∀ a' cap' (ws : List WnR) H', ws.map WnR.toWn = pointA v A.toVt → RO winT w0 H' a' cap' ws → Grow w0 H H' → K (.slice a' ws.length cap') H') : HCalls Try.prog w0 29 [v.v, A.v] H K := by
  have d1 : ∀ (n : Int) (hn : 0 ≤ n ∧ n ≤ 6) (G : Heap) (K : Value → Heap → Prop), K (.int .i32 (dist A.p n)) G → HCalls Try.prog w0 20 [A.v, .int .i64 n] G K := fun n hn G K hk => r_Distance A n hn hA.p hk
  have cW1 : ∀ (F : Heap) (K : Value → Heap → Prop), Grow w0 H F → K (WnR.mk (winA v A.toVt) A.a A.cap).v F → HCalls Try.prog w0 22 [v.v, A.v] F K := fun F K g hk => r_Window v A hv (hA.grow g) hk
  unfold VtR.v at d1
  unfold VtR.v Vw.v WnR.v at *
  refine HL.hc k29 2000 ?_; unfold M29
  (all_goals (refine (fun f : True → _ => f trivial) ?_)); repeat' ((first | (with_reducible refine fun _ : True => ?_) | (refine AllocQ_i ?_; intro bk hb0 hbk; (try simp only [set_none'] at hbk); (try (first | have hbn := Grow.none (by assumption) hbk | have hbn := Grow.none (by assumption) hbk.2 | have hbn := Grow.none (by assumption) hbk.2.2 | have hbn := Grow.none (by assumption) hbk.2.2.2 | have hbn := Grow.none (by assumption) hbk.2.2.2.2 | have hbn := Grow.none (by assumption) hbk.2.2.2.2.2)); (try simp only [set_none'] at hbn); (try (first | have hbm := Grow.none (by assumption) hbn | have hbm := Grow.none (by assumption) hbn.2 | have hbm := Grow.none (by assumption) hbn.2.2 | have hbm := Grow.none (by assumption) hbn.2.2.2 | have hbm := Grow.none (by assumption) hbn.2.2.2.2 | have hbm := Grow.none (by assumption) hbn.2.2.2.2.2)); (try simp only [set_none'] at hbm)) | ((first | refine condS_i ?_ ?_ | refine pick_i ?_ ?_ | refine gS_it ?_ ?_ | refine gS_if ?_ ?_ | refine gP_it ?_ ?_ | refine gP_if ?_ ?_) <;> (intro hc; try simp only [Int.reduceLE,Int.reduceLT,Int.reduceEq,and_self,not_true_eq_false,not_false_eq_true,and_true,true_and,false_and,and_false,true_or,or_true,false_or,or_false,decide_eq_true_eq,decide_eq_false_iff_not,beq_iff_eq,beq_eq_false_iff_ne,bne_iff_ne,ne_eq,gt_iff_lt,ge_iff_le,Bool.not_eq_true,Bool.not_eq_false,Bool.not_eq_true',Bool.not_eq_false',Bool.not_eq_eq_eq_not,Bool.not_true,Bool.not_false] at hc)) | (refine KP_i (by (repeat' (first | exact Heap.Le.refl _ | (refine Le_known (by first | (simp only [Heap.set_same, set_ne, ne_eq, not_false_eq_true, *] <;> rfl) | fail) ?_) | (refine Le_fresh (by first | (simp only [*] <;> done) | (simp [set_none', Heap.set_same, set_ne, *] <;> done) | fail) ?_) | (refine Heap.Le.trans ?_ (Grow.le (by assumption)))))) ?_) | (with_reducible refine And.intro ?_ ?_)) <;> (try simp only [Sh,Si,Sl,Bu,Bb,Bd,Bc,Bw,Bn,Int.reduceAdd,Int.reduceSub,Int.reduceMul,Int.reduceTDiv,Int.reduceTMod,Int.reduceMod,Int.reduceDiv,Nat.reduceLT,Nat.reduceEqDiff,decide_true,decide_false,Sa,Sb,Sc,Sd,Se,Sf,Sg,true_and,and_true,and_self,eq_self,b_i64,b_i32,b_u64,b_u32,b_u8,Int.reduceLE,Int.reduceLT,Int.reduceToNat,Int.reduceNeg,Int.reduceEq,Nat.reduceLeDiff,Nat.reducePow,Int.reducePow,Nat.min_def,reduceIte,Nat.reduceSub,Nat.reduceAdd,Nat.reduceMul,KP_same,KP_f,condS_t,condS_f,pick_t,pick_f,gS_tt,gS_ff,gS_tf,gS_ft,gS_u,gP_tt,gP_ff,gP_tf,gP_ft,gP_u,ptrV_eq,slcV_eq,cells_agg,cells_int,cells_bool,cells_ptr,cells_slice,oc_int,oc_bool,oc_slice,oc_ptr,rd1_set,rd1_ne,rdn_set,rdn_ne,Heap.set_same,set_ne,Heap.set_set,set_up,set_up2,set_up3,putAt,ceq,List.map_cons,List.map_nil,List.length_cons,List.length_nil,List.length_set,List.cons_append,List.nil_append,List.append_nil,List.replicate,List.size_toArray,List.all_cons,List.all_nil,Bool.and_self,Bool.and_true,List.drop_zero,List.drop_succ_cons,List.take_succ_cons,List.take_zero,List.set_cons_zero,List.set_cons_succ,List.getElem?_cons_zero,List.getElem?_cons_succ,Option.map_some,Option.map_none,ne_eq,not_false_eq_true,not_true_eq_false,gt_iff_lt,ge_iff_le,Int.one_mul,Nat.zero_add,Nat.zero_mul,Bool.not_true,Bool.not_false,Bool.false_eq_true,Bool.and_false,Bool.false_and,Bool.true_and, *]))
  rename_i b2 p2 q2
  refine loopq_heap (fun G1 eG => ?_)
  obtain ⟨b3, rfl⟩ : ∃ q, q = bk := ⟨bk, rfl⟩
  have q3 := hbk
  have k2 := at_of eG (b := b2) (by simp only [Heap.set_same, set_ne, ne_eq, not_false_eq_true, *] <;> rfl)
  have k3 := at_of eG (b := b3) (by simp only [Heap.set_same, set_ne, ne_eq, not_false_eq_true, *] <;> rfl)
  have g1 : Grow w0 H G1 := by rw [eG]; exact (by (repeat' (first | exact Grow.refl _ | assumption | (refine Grow_known (by first | (simp only [Heap.set_same, set_ne, ne_eq, not_false_eq_true, *] <;> rfl) | fail) ?_) | (refine Grow.set ?_ (by assumption) (by first | (simp only [*] <;> done) | (simp [set_none', Heap.set_same, set_ne, *] <;> done) | fail)) | (refine Grow.trans ?_ (by assumption)))))
  clear eG
  refine loop_g 6 (fun s : Nat => [(5, .int .i64 (s : Nat))]) (fun _ => G1) (fun s => s ≤ 7 ∧ ∀ n : Nat, n < s → 0 ≤ dist A.p n) (fun s => 7 - s) 0 ⟨Nat.zero_le _, fun n hn => by omega⟩ (Heap.Le.refl _) rfl ?_
  rintro k f ⟨hk, hin⟩
  rcases Nat.lt_or_ge k 7 with hlt | hge
  · have t0 : (k : Int) < 7 := by omega
    have t6 : IntKind.i64.wrap ((k : Int) + 1) = (k : Int) + 1 := Bw.1 _ (by omega) (by omega)
    have hno := pointA_no (v := v) (p := A.toVt) hlt
    rw [root2 q3.1.2 k2 k3]
    (all_goals (refine (fun f : True → _ => f trivial) ?_)); repeat' ((first | (with_reducible refine fun _ : True => ?_) | refine d1 _ (by omega) _ _ ?_ | (refine AllocQ_i ?_; intro bk hb0 hbk; (try simp only [set_none'] at hbk); (try (first | have hbn := Grow.none (by assumption) hbk | have hbn := Grow.none (by assumption) hbk.2 | have hbn := Grow.none (by assumption) hbk.2.2 | have hbn := Grow.none (by assumption) hbk.2.2.2 | have hbn := Grow.none (by assumption) hbk.2.2.2.2 | have hbn := Grow.none (by assumption) hbk.2.2.2.2.2)); (try simp only [set_none'] at hbn); (try (first | have hbm := Grow.none (by assumption) hbn | have hbm := Grow.none (by assumption) hbn.2 | have hbm := Grow.none (by assumption) hbn.2.2 | have hbm := Grow.none (by assumption) hbn.2.2.2 | have hbm := Grow.none (by assumption) hbn.2.2.2.2 | have hbm := Grow.none (by assumption) hbn.2.2.2.2.2)); (try simp only [set_none'] at hbm)) | ((first | refine condS_i ?_ ?_ | refine pick_i ?_ ?_ | refine gS_it ?_ ?_ | refine gS_if ?_ ?_ | refine gP_it ?_ ?_ | refine gP_if ?_ ?_) <;> (intro hc; try simp only [Int.reduceLE,Int.reduceLT,Int.reduceEq,and_self,not_true_eq_false,not_false_eq_true,and_true,true_and,false_and,and_false,true_or,or_true,false_or,or_false,decide_eq_true_eq,decide_eq_false_iff_not,beq_iff_eq,beq_eq_false_iff_ne,bne_iff_ne,ne_eq,gt_iff_lt,ge_iff_le,Bool.not_eq_true,Bool.not_eq_false,Bool.not_eq_true',Bool.not_eq_false',Bool.not_eq_eq_eq_not,Bool.not_true,Bool.not_false] at hc)) | (refine KP_i (by (repeat' (first | exact Heap.Le.refl _ | (refine Le_known (by first | (simp only [Heap.set_same, set_ne, ne_eq, not_false_eq_true, *] <;> rfl) | fail) ?_) | (refine Le_fresh (by first | (simp only [*] <;> done) | (simp [set_none', Heap.set_same, set_ne, *] <;> done) | fail) ?_) | (refine Heap.Le.trans ?_ (Grow.le (by assumption)))))) ?_) | (with_reducible refine And.intro ?_ ?_)) <;> (try simp only [Sh,Si,Sl,Bu,Bb,Bd,Bc,Bw,Bn,Int.reduceAdd,Int.reduceSub,Int.reduceMul,Int.reduceTDiv,Int.reduceTMod,Int.reduceMod,Int.reduceDiv,Nat.reduceLT,Nat.reduceEqDiff,decide_true,decide_false,Sa,Sb,Sc,Sd,Se,Sf,Sg,true_and,and_true,and_self,eq_self,b_i64,b_i32,b_u64,b_u32,b_u8,Int.reduceLE,Int.reduceLT,Int.reduceToNat,Int.reduceNeg,Int.reduceEq,Nat.reduceLeDiff,Nat.reducePow,Int.reducePow,Nat.min_def,reduceIte,Nat.reduceSub,Nat.reduceAdd,Nat.reduceMul,KP_same,KP_f,condS_t,condS_f,pick_t,pick_f,gS_tt,gS_ff,gS_tf,gS_ft,gS_u,gP_tt,gP_ff,gP_tf,gP_ft,gP_u,ptrV_eq,slcV_eq,cells_agg,cells_int,cells_bool,cells_ptr,cells_slice,oc_int,oc_bool,oc_slice,oc_ptr,rd1_set,rd1_ne,rdn_set,rdn_ne,Heap.set_same,set_ne,Heap.set_set,set_up,set_up2,set_up3,putAt,ceq,List.map_cons,List.map_nil,List.length_cons,List.length_nil,List.length_set,List.cons_append,List.nil_append,List.append_nil,List.replicate,List.size_toArray,List.all_cons,List.all_nil,Bool.and_self,Bool.and_true,List.drop_zero,List.drop_succ_cons,List.take_succ_cons,List.take_zero,List.set_cons_zero,List.set_cons_succ,List.getElem?_cons_zero,List.getElem?_cons_succ,Option.map_some,Option.map_none,ne_eq,not_false_eq_true,not_true_eq_false,gt_iff_lt,ge_iff_le,Int.one_mul,Nat.zero_add,Nat.zero_mul,Bool.not_true,Bool.not_false,Bool.false_eq_true,Bool.and_false,Bool.false_and,Bool.true_and, *]))
    · rw [← root2 q3.1.2 k2 k3]
      exact Fin_mk (Heap.Le.refl _) (h1 none 0 [] G1 (by rw [hno hc]; rfl) RO.nil g1)
    · rw [← root2 q3.1.2 k2 k3]
      exact Round_mk (k + 1) ⟨hlt, fun n hn => (Nat.lt_or_ge n k).elim (hin n) (fun h => by rw [show n = k by omega]; omega)⟩ (by omega) (Heap.Le.refl _) rfl rfl
  · obtain rfl : k = 7 := by omega
    have hp : pointA v A.toVt = [winA v A.toVt] := by unfold pointA; exact if_pos hin
    have hA1 := hA.grow g1
    rw [root2 q3.1.2 k2 k3]
    (all_goals (refine (fun f : True → _ => f trivial) ?_)); repeat' ((first | (with_reducible refine fun _ : True => ?_) | refine cW1 _ _ (by (repeat' (first | exact Grow.refl _ | assumption | (refine Grow_known (by first | (simp only [Heap.set_same, set_ne, ne_eq, not_false_eq_true, *] <;> rfl) | fail) ?_) | (refine Grow.set ?_ (by assumption) (by first | (simp only [*] <;> done) | (simp [set_none', Heap.set_same, set_ne, *] <;> done) | fail)) | (refine Grow.trans ?_ (by assumption))))) ?_ | (refine AllocQ_i ?_; intro bk hb0 hbk; (try simp only [set_none'] at hbk); (try (first | have hbn := Grow.none (by assumption) hbk | have hbn := Grow.none (by assumption) hbk.2 | have hbn := Grow.none (by assumption) hbk.2.2 | have hbn := Grow.none (by assumption) hbk.2.2.2 | have hbn := Grow.none (by assumption) hbk.2.2.2.2 | have hbn := Grow.none (by assumption) hbk.2.2.2.2.2)); (try simp only [set_none'] at hbn); (try (first | have hbm := Grow.none (by assumption) hbn | have hbm := Grow.none (by assumption) hbn.2 | have hbm := Grow.none (by assumption) hbn.2.2 | have hbm := Grow.none (by assumption) hbn.2.2.2 | have hbm := Grow.none (by assumption) hbn.2.2.2.2 | have hbm := Grow.none (by assumption) hbn.2.2.2.2.2)); (try simp only [set_none'] at hbm)) | ((first | refine condS_i ?_ ?_ | refine pick_i ?_ ?_ | refine gS_it ?_ ?_ | refine gS_if ?_ ?_ | refine gP_it ?_ ?_ | refine gP_if ?_ ?_) <;> (intro hc; try simp only [Int.reduceLE,Int.reduceLT,Int.reduceEq,and_self,not_true_eq_false,not_false_eq_true,and_true,true_and,false_and,and_false,true_or,or_true,false_or,or_false,decide_eq_true_eq,decide_eq_false_iff_not,beq_iff_eq,beq_eq_false_iff_ne,bne_iff_ne,ne_eq,gt_iff_lt,ge_iff_le,Bool.not_eq_true,Bool.not_eq_false,Bool.not_eq_true',Bool.not_eq_false',Bool.not_eq_eq_eq_not,Bool.not_true,Bool.not_false] at hc)) | (refine KP_i (by (repeat' (first | exact Heap.Le.refl _ | (refine Le_known (by first | (simp only [Heap.set_same, set_ne, ne_eq, not_false_eq_true, *] <;> rfl) | fail) ?_) | (refine Le_fresh (by first | (simp only [*] <;> done) | (simp [set_none', Heap.set_same, set_ne, *] <;> done) | fail) ?_) | (refine Heap.Le.trans ?_ (Grow.le (by assumption)))))) ?_) | (with_reducible refine And.intro ?_ ?_)) <;> (try simp only [Sh,Si,Sl,Bu,Bb,Bd,Bc,Bw,Bn,Int.reduceAdd,Int.reduceSub,Int.reduceMul,Int.reduceTDiv,Int.reduceTMod,Int.reduceMod,Int.reduceDiv,Nat.reduceLT,Nat.reduceEqDiff,decide_true,decide_false,Sa,Sb,Sc,Sd,Se,Sf,Sg,true_and,and_true,and_self,eq_self,b_i64,b_i32,b_u64,b_u32,b_u8,Int.reduceLE,Int.reduceLT,Int.reduceToNat,Int.reduceNeg,Int.reduceEq,Nat.reduceLeDiff,Nat.reducePow,Int.reducePow,Nat.min_def,reduceIte,Nat.reduceSub,Nat.reduceAdd,Nat.reduceMul,KP_same,KP_f,condS_t,condS_f,pick_t,pick_f,gS_tt,gS_ff,gS_tf,gS_ft,gS_u,gP_tt,gP_ff,gP_tf,gP_ft,gP_u,ptrV_eq,slcV_eq,cells_agg,cells_int,cells_bool,cells_ptr,cells_slice,oc_int,oc_bool,oc_slice,oc_ptr,rd1_set,rd1_ne,rdn_set,rdn_ne,Heap.set_same,set_ne,Heap.set_set,set_up,set_up2,set_up3,putAt,ceq,List.map_cons,List.map_nil,List.length_cons,List.length_nil,List.length_set,List.cons_append,List.nil_append,List.append_nil,List.replicate,List.size_toArray,List.all_cons,List.all_nil,Bool.and_self,Bool.and_true,List.drop_zero,List.drop_succ_cons,List.take_succ_cons,List.take_zero,List.set_cons_zero,List.set_cons_succ,List.getElem?_cons_zero,List.getElem?_cons_succ,Option.map_some,Option.map_none,ne_eq,not_false_eq_true,not_true_eq_false,gt_iff_lt,ge_iff_le,Int.one_mul,Nat.zero_add,Nat.zero_mul,Bool.not_true,Bool.not_false,Bool.false_eq_true,Bool.and_false,Bool.false_and,Bool.true_and, *]))
    rw [← root2 q3.1.2 k2 k3]
    have gb := (Grow.refl (w0 := w0) G1).set (x := ⟨winT.ty, (WnR.mk (winA v A.toVt) A.a A.cap).row⟩) hb0 hbk.2.2
    exact Fin_mk (Heap.Le.refl _) (h1 (some ⟨_, 0, none⟩) 1 [WnR.mk (winA v A.toVt) A.a A.cap] _ (by rw [hp]; rfl) (wins1 at1 (hA1.vs.grow gb)) (g1.trans gb))
/- clip Point -/
def M28 : MC :=
  .seq (.reg [⟨(some 2), .box 24 (.tmp 0), none⟩,
     ⟨(some 3), .box 29 (.tmp 1), none⟩,
     ⟨(some 4), .mv (.const (.slice none 0 0)), none⟩,
     ⟨(some 5), .mv (.const (.int .i64 0)), none⟩])
  (.seq (.seq (.reg [⟨(some 7), .ldn 6 (.tmp 2), none⟩,
       ⟨(some 8), .call 19 [(.tmp 7)], none⟩,
       ⟨(some 9), .un .not (.tmp 8), none⟩,
       ⟨(some 10), .mv (.tmp 9), none⟩,
       ⟨(some 11), .ldn 6 (.tmp 3), (some (10, false))⟩,
       ⟨(some 12), .bslice 29 1 [(.int .i32 0), (.int .i32 0), (.int .i32 0), (.int .i32 0), (.int .i32 0), (.slice none 0 0)] [(0, 6, (.tmp 11))], (some (10, false))⟩,
       ⟨(some 13), .call 32 [(.tmp 12)], (some (10, false))⟩,
       ⟨(some 14), .un .not (.tmp 13), (some (10, false))⟩,
       ⟨(some 15), .pick (.tmp 10) (.const (.bool true)) (.tmp 14), none⟩])
    (.cond (.tmp 15)
     (.seq (.reg [⟨(some 4), .mv (.const (.slice none 0 0)), none⟩,
         ⟨(some 5), .mv (.const (.int .i64 2)), none⟩])
      (.ret))
     (.skip)))
   (.seq (.seq (.reg [⟨(some 16), .mv (.const (.int .i64 0)), none⟩])
     (.block 0 (.loop (.seq (.reg [⟨(some 17), .bin .lss (.tmp 16) (.const (.int .i64 7)), none⟩])
        (.seq (.cond (.tmp 17)
          (.skip)
          (.exit 0))
         (.seq (.block 1 (.seq (.reg [⟨(some 18), .mv (.tmp 16), none⟩,
               ⟨(some 6), .mv (.tmp 18), none⟩])
            (.seq (.reg [⟨(some 19), .ldn 6 (.tmp 3), none⟩,
                ⟨(some 20), .mv (.tmp 6), none⟩,
                ⟨(some 21), .call 34 [(.tmp 19), (.tmp 20)], none⟩,
                ⟨(some 22), .bin .lss (.tmp 21) (.const (.int .i32 0)), none⟩])
             (.cond (.tmp 22)
              (.seq (.reg [⟨(some 4), .mv (.const (.slice none 0 0)), none⟩,
                  ⟨(some 5), .mv (.const (.int .i64 0)), none⟩])
               (.ret))
              (.skip)))))
          (.reg [⟨(some 23), .bin .add (.tmp 16) (.const (.int .i64 1)), none⟩,
             ⟨(some 16), .mv (.tmp 23), none⟩])))))))
    (.seq (.reg [⟨(some 24), .ldn 6 (.tmp 2), none⟩,
        ⟨(some 25), .ldn 6 (.tmp 3), none⟩,
        ⟨(some 26), .call 35 [(.tmp 24), (.tmp 25)], none⟩,
        ⟨(some 27), .bslice 44 1 [(.int .i64 0), (.int .i64 0), (.int .i32 0), (.int .i32 0), (.int .i32 0), (.slice none 0 0)] [(0, 6, (.tmp 26))], none⟩,
        ⟨(some 4), .mv (.tmp 27), none⟩,
        ⟨(some 5), .mv (.const (.int .i64 0)), none⟩])
     (.ret))))
theorem k28 : fnOk Try.prog 28 = some (M28, [.t 4, .t 5], 28) := by kernel_rfl

theorem c_Point (v : Vw) (A : VtR) (hvi : I64 v.x ∧ I64 v.y ∧ I64 v.w ∧ I64 v.h) (hA : VtOk w0 H A)
    (h1 : v.right ∧ Al [A.toVt] → ∀ a' cap' (ws : List WnR) H', ws.map WnR.toWn = pointA v A.toVt → RO winT w0 H' a' cap' ws → Grow w0 H H' → K (.tuple #[.slice a' ws.length cap', .int .i64 0]) H')
    (h2 : ¬ (v.right ∧ Al [A.toVt]) → K (.tuple #[.slice none 0 0, .int .i64 2]) H) : HCalls Try.prog w0 28 [v.v, A.v] H K := by
  have cR : ∀ (G : Heap) (K : Value → Heap → Prop), K (.bool (decide v.right)) G → HCalls Try.prog w0 19 [v.v] G K := fun G K hk => c_Right v hvi.1 hvi.2.1 hvi.2.2.1 hvi.2.2.2 hk
  have hall : ∀ (G : Heap) (b : Nat) (t : TypeId), Grow w0 H G → G b = some ⟨t, A.row⟩ → RowsOk w0 G (some ⟨b, 0, none⟩) 1 [A] := fun G b t g e => ⟨.blk (z := []) (by rw [List.append_nil]; simpa using e), by simp, by simp [maxLen], fun y hy => by
    simp only [List.mem_cons, List.not_mem_nil, or_false] at hy
    subst hy
    exact hA.grow g⟩
  by_cases hv : v.right
  · by_cases hAl : Al [A.toVt]
    · have h1 := h1 ⟨hv, hAl⟩
      clear h2
      have ca : ∀ (b : Nat) (t : TypeId) (G : Heap) (K : Value → Heap → Prop), Grow w0 H G → G b = some ⟨t, A.row⟩ → K (.bool true) G → HCalls Try.prog w0 32 [.slice (some ⟨b, 0, none⟩) 1 1] G K := fun b t G K g e hk => c_alike (some ⟨b, 0, none⟩) 1 [A] (hall G b t g e) (fun _ => hk) (fun hh => (hh hAl).elim)
      have d1 : ∀ (n : Int) (G : Heap) (K : Value → Heap → Prop), K (.int .i32 (dist A.p n)) G → HCalls Try.prog w0 34 [A.v, .int .i64 n] G K := fun n G K hk => c_distance A n hA.p hk
      have cW1 : ∀ (F : Heap) (K : Value → Heap → Prop), Grow w0 H F → (∀ a' cap' H', VsNew w0 F H' a' cap' A.l → Grow w0 F H' → K (WnR.mk (winA v A.toVt) a' cap').v H') → HCalls Try.prog w0 35 [v.v, A.v] F K := fun F K g hk => c_window v A hv (hA.grow g) hk
      unfold VtR.v at d1
      unfold VtR.v Vw.v WnR.v at *
      unfold VtR.row at ca
      refine HL.hc k28 2000 ?_; unfold M28
      (all_goals (refine (fun f : True → _ => f trivial) ?_)); repeat' ((first | (with_reducible refine fun _ : True => ?_) | refine cR _ _ ?_ | refine ca _ _ _ _ (by (repeat' (first | exact Grow.refl _ | assumption | (refine Grow_known (by first | (simp only [Heap.set_same, set_ne, ne_eq, not_false_eq_true, *] <;> rfl) | fail) ?_) | (refine Grow.set ?_ (by assumption) (by first | (simp only [*] <;> done) | (simp [set_none', Heap.set_same, set_ne, *] <;> done) | fail)) | (refine Grow.trans ?_ (by assumption))))) (by simp only [Heap.set_same, set_ne, ne_eq, not_false_eq_true, *] <;> rfl) ?_ | (refine AllocQ_i ?_; intro bk hb0 hbk; (try simp only [set_none'] at hbk); (try (first | have hbn := Grow.none (by assumption) hbk | have hbn := Grow.none (by assumption) hbk.2 | have hbn := Grow.none (by assumption) hbk.2.2 | have hbn := Grow.none (by assumption) hbk.2.2.2 | have hbn := Grow.none (by assumption) hbk.2.2.2.2 | have hbn := Grow.none (by assumption) hbk.2.2.2.2.2)); (try simp only [set_none'] at hbn); (try (first | have hbm := Grow.none (by assumption) hbn | have hbm := Grow.none (by assumption) hbn.2 | have hbm := Grow.none (by assumption) hbn.2.2 | have hbm := Grow.none (by assumption) hbn.2.2.2 | have hbm := Grow.none (by assumption) hbn.2.2.2.2 | have hbm := Grow.none (by assumption) hbn.2.2.2.2.2)); (try simp only [set_none'] at hbm)) | ((first | refine condS_i ?_ ?_ | refine pick_i ?_ ?_ | refine gS_it ?_ ?_ | refine gS_if ?_ ?_ | refine gP_it ?_ ?_ | refine gP_if ?_ ?_) <;> (intro hc; try simp only [Int.reduceLE,Int.reduceLT,Int.reduceEq,and_self,not_true_eq_false,not_false_eq_true,and_true,true_and,false_and,and_false,true_or,or_true,false_or,or_false,decide_eq_true_eq,decide_eq_false_iff_not,beq_iff_eq,beq_eq_false_iff_ne,bne_iff_ne,ne_eq,gt_iff_lt,ge_iff_le,Bool.not_eq_true,Bool.not_eq_false,Bool.not_eq_true',Bool.not_eq_false',Bool.not_eq_eq_eq_not,Bool.not_true,Bool.not_false] at hc)) | (refine KP_i (by (repeat' (first | exact Heap.Le.refl _ | (refine Le_known (by first | (simp only [Heap.set_same, set_ne, ne_eq, not_false_eq_true, *] <;> rfl) | fail) ?_) | (refine Le_fresh (by first | (simp only [*] <;> done) | (simp [set_none', Heap.set_same, set_ne, *] <;> done) | fail) ?_) | (refine Heap.Le.trans ?_ (Grow.le (by assumption)))))) ?_) | (with_reducible refine And.intro ?_ ?_)) <;> (try simp only [Sh,Si,Sl,Bu,Bb,Bd,Bc,Bw,Bn,Int.reduceAdd,Int.reduceSub,Int.reduceMul,Int.reduceTDiv,Int.reduceTMod,Int.reduceMod,Int.reduceDiv,Nat.reduceLT,Nat.reduceEqDiff,decide_true,decide_false,Sa,Sb,Sc,Sd,Se,Sf,Sg,true_and,and_true,and_self,eq_self,b_i64,b_i32,b_u64,b_u32,b_u8,Int.reduceLE,Int.reduceLT,Int.reduceToNat,Int.reduceNeg,Int.reduceEq,Nat.reduceLeDiff,Nat.reducePow,Int.reducePow,Nat.min_def,reduceIte,Nat.reduceSub,Nat.reduceAdd,Nat.reduceMul,KP_same,KP_f,condS_t,condS_f,pick_t,pick_f,gS_tt,gS_ff,gS_tf,gS_ft,gS_u,gP_tt,gP_ff,gP_tf,gP_ft,gP_u,ptrV_eq,slcV_eq,cells_agg,cells_int,cells_bool,cells_ptr,cells_slice,oc_int,oc_bool,oc_slice,oc_ptr,rd1_set,rd1_ne,rdn_set,rdn_ne,Heap.set_same,set_ne,Heap.set_set,set_up,set_up2,set_up3,putAt,ceq,List.map_cons,List.map_nil,List.length_cons,List.length_nil,List.length_set,List.cons_append,List.nil_append,List.append_nil,List.replicate,List.size_toArray,List.all_cons,List.all_nil,Bool.and_self,Bool.and_true,List.drop_zero,List.drop_succ_cons,List.take_succ_cons,List.take_zero,List.set_cons_zero,List.set_cons_succ,List.getElem?_cons_zero,List.getElem?_cons_succ,Option.map_some,Option.map_none,ne_eq,not_false_eq_true,not_true_eq_false,gt_iff_lt,ge_iff_le,Int.one_mul,Nat.zero_add,Nat.zero_mul,Bool.not_true,Bool.not_false,Bool.false_eq_true,Bool.and_false,Bool.false_and,Bool.true_and, *]))
      rename_i b2 p2 q2 b3 p3 q3
      refine loopq_heap (fun G1 eG => ?_)
      have k2 := at_of eG (b := b2) (by simp only [Heap.set_same, set_ne, ne_eq, not_false_eq_true, *] <;> rfl)
      have k3 := at_of eG (b := b3) (by simp only [Heap.set_same, set_ne, ne_eq, not_false_eq_true, *] <;> rfl)
      have g1 : Grow w0 H G1 := by rw [eG]; exact (by (repeat' (first | exact Grow.refl _ | assumption | (refine Grow_known (by first | (simp only [Heap.set_same, set_ne, ne_eq, not_false_eq_true, *] <;> rfl) | fail) ?_) | (refine Grow.set ?_ (by assumption) (by first | (simp only [*] <;> done) | (simp [set_none', Heap.set_same, set_ne, *] <;> done) | fail)) | (refine Grow.trans ?_ (by assumption)))))
      clear eG ca cR hall
      refine loop_g 17 (fun s : Nat × Value => [(6, s.2), (16, .int .i64 (s.1 : Nat))]) (fun _ => G1) (fun s => s.1 ≤ 7 ∧ ∀ n : Nat, n < s.1 → 0 ≤ dist A.p n) (fun s => 7 - s.1) (0, undef) ⟨Nat.zero_le _, fun n hn => by simp at hn⟩ (Heap.Le.refl _) rfl ?_
      rintro ⟨k, u⟩ f ⟨hk, hin⟩
      simp only at hk hin
      rcases Nat.lt_or_ge k 7 with hlt | hge
      · have t0 : (k : Int) < 7 := by omega
        have t6 : IntKind.i64.wrap ((k : Int) + 1) = (k : Int) + 1 := Bw.1 _ (by omega) (by omega)
        have hno := pointA_no (v := v) (p := A.toVt) hlt
        rw [root2 q3.1.2 k2 k3]
        (all_goals (refine (fun f : True → _ => f trivial) ?_)); repeat' ((first | (with_reducible refine fun _ : True => ?_) | refine d1 _ _ _ ?_ | (refine AllocQ_i ?_; intro bk hb0 hbk; (try simp only [set_none'] at hbk); (try (first | have hbn := Grow.none (by assumption) hbk | have hbn := Grow.none (by assumption) hbk.2 | have hbn := Grow.none (by assumption) hbk.2.2 | have hbn := Grow.none (by assumption) hbk.2.2.2 | have hbn := Grow.none (by assumption) hbk.2.2.2.2 | have hbn := Grow.none (by assumption) hbk.2.2.2.2.2)); (try simp only [set_none'] at hbn); (try (first | have hbm := Grow.none (by assumption) hbn | have hbm := Grow.none (by assumption) hbn.2 | have hbm := Grow.none (by assumption) hbn.2.2 | have hbm := Grow.none (by assumption) hbn.2.2.2 | have hbm := Grow.none (by assumption) hbn.2.2.2.2 | have hbm := Grow.none (by assumption) hbn.2.2.2.2.2)); (try simp only [set_none'] at hbm)) | ((first | refine condS_i ?_ ?_ | refine pick_i ?_ ?_ | refine gS_it ?_ ?_ | refine gS_if ?_ ?_ | refine gP_it ?_ ?_ | refine gP_if ?_ ?_) <;> (intro hc; try simp only [Int.reduceLE,Int.reduceLT,Int.reduceEq,and_self,not_true_eq_false,not_false_eq_true,and_true,true_and,false_and,and_false,true_or,or_true,false_or,or_false,decide_eq_true_eq,decide_eq_false_iff_not,beq_iff_eq,beq_eq_false_iff_ne,bne_iff_ne,ne_eq,gt_iff_lt,ge_iff_le,Bool.not_eq_true,Bool.not_eq_false,Bool.not_eq_true',Bool.not_eq_false',Bool.not_eq_eq_eq_not,Bool.not_true,Bool.not_false] at hc)) | (refine KP_i (by (repeat' (first | exact Heap.Le.refl _ | (refine Le_known (by first | (simp only [Heap.set_same, set_ne, ne_eq, not_false_eq_true, *] <;> rfl) | fail) ?_) | (refine Le_fresh (by first | (simp only [*] <;> done) | (simp [set_none', Heap.set_same, set_ne, *] <;> done) | fail) ?_) | (refine Heap.Le.trans ?_ (Grow.le (by assumption)))))) ?_) | (with_reducible refine And.intro ?_ ?_)) <;> (try simp only [Sh,Si,Sl,Bu,Bb,Bd,Bc,Bw,Bn,Int.reduceAdd,Int.reduceSub,Int.reduceMul,Int.reduceTDiv,Int.reduceTMod,Int.reduceMod,Int.reduceDiv,Nat.reduceLT,Nat.reduceEqDiff,decide_true,decide_false,Sa,Sb,Sc,Sd,Se,Sf,Sg,true_and,and_true,and_self,eq_self,b_i64,b_i32,b_u64,b_u32,b_u8,Int.reduceLE,Int.reduceLT,Int.reduceToNat,Int.reduceNeg,Int.reduceEq,Nat.reduceLeDiff,Nat.reducePow,Int.reducePow,Nat.min_def,reduceIte,Nat.reduceSub,Nat.reduceAdd,Nat.reduceMul,KP_same,KP_f,condS_t,condS_f,pick_t,pick_f,gS_tt,gS_ff,gS_tf,gS_ft,gS_u,gP_tt,gP_ff,gP_tf,gP_ft,gP_u,ptrV_eq,slcV_eq,cells_agg,cells_int,cells_bool,cells_ptr,cells_slice,oc_int,oc_bool,oc_slice,oc_ptr,rd1_set,rd1_ne,rdn_set,rdn_ne,Heap.set_same,set_ne,Heap.set_set,set_up,set_up2,set_up3,putAt,ceq,List.map_cons,List.map_nil,List.length_cons,List.length_nil,List.length_set,List.cons_append,List.nil_append,List.append_nil,List.replicate,List.size_toArray,List.all_cons,List.all_nil,Bool.and_self,Bool.and_true,List.drop_zero,List.drop_succ_cons,List.take_succ_cons,List.take_zero,List.set_cons_zero,List.set_cons_succ,List.getElem?_cons_zero,List.getElem?_cons_succ,Option.map_some,Option.map_none,ne_eq,not_false_eq_true,not_true_eq_false,gt_iff_lt,ge_iff_le,Int.one_mul,Nat.zero_add,Nat.zero_mul,Bool.not_true,Bool.not_false,Bool.false_eq_true,Bool.and_false,Bool.false_and,Bool.true_and, *]))
        · rw [← root2 q3.1.2 k2 k3]
          exact Fin_mk (Heap.Le.refl _) (h1 none 0 [] G1 (by rw [hno hc]; rfl) RO.nil g1)
        · rw [← root2 q3.1.2 k2 k3]
          exact Round_mk (k + 1, _) ⟨hlt, fun n hn => (Nat.lt_or_ge n k).elim (hin n) (fun h => by rw [show n = k from by simp only at hn; omega]; omega)⟩ (by simp only; omega) (Heap.Le.refl _) rfl rfl
      · obtain rfl : k = 7 := by omega
        have hp : pointA v A.toVt = [winA v A.toVt] := by unfold pointA; exact if_pos hin
        rw [root2 q3.1.2 k2 k3]
        (all_goals (refine (fun f : True → _ => f trivial) ?_)); repeat' ((first | (with_reducible refine fun _ : True => ?_) | refine cW1 _ _ (Grow.trans g1 (by (repeat' (first | exact Grow.refl _ | assumption | (refine Grow_known (by first | (simp only [Heap.set_same, set_ne, ne_eq, not_false_eq_true, *] <;> rfl) | fail) ?_) | (refine Grow.set ?_ (by assumption) (by first | (simp only [*] <;> done) | (simp [set_none', Heap.set_same, set_ne, *] <;> done) | fail)) | (refine Grow.trans ?_ (by assumption)))))) (fun a2 c2 G2 hn2 hg2 => ?_)  | (refine AllocQ_i ?_; intro bk hb0 hbk; (try simp only [set_none'] at hbk); (try (first | have hbn := Grow.none (by assumption) hbk | have hbn := Grow.none (by assumption) hbk.2 | have hbn := Grow.none (by assumption) hbk.2.2 | have hbn := Grow.none (by assumption) hbk.2.2.2 | have hbn := Grow.none (by assumption) hbk.2.2.2.2 | have hbn := Grow.none (by assumption) hbk.2.2.2.2.2)); (try simp only [set_none'] at hbn); (try (first | have hbm := Grow.none (by assumption) hbn | have hbm := Grow.none (by assumption) hbn.2 | have hbm := Grow.none (by assumption) hbn.2.2 | have hbm := Grow.none (by assumption) hbn.2.2.2 | have hbm := Grow.none (by assumption) hbn.2.2.2.2 | have hbm := Grow.none (by assumption) hbn.2.2.2.2.2)); (try simp only [set_none'] at hbm)) | ((first | refine condS_i ?_ ?_ | refine pick_i ?_ ?_ | refine gS_it ?_ ?_ | refine gS_if ?_ ?_ | refine gP_it ?_ ?_ | refine gP_if ?_ ?_) <;> (intro hc; try simp only [Int.reduceLE,Int.reduceLT,Int.reduceEq,and_self,not_true_eq_false,not_false_eq_true,and_true,true_and,false_and,and_false,true_or,or_true,false_or,or_false,decide_eq_true_eq,decide_eq_false_iff_not,beq_iff_eq,beq_eq_false_iff_ne,bne_iff_ne,ne_eq,gt_iff_lt,ge_iff_le,Bool.not_eq_true,Bool.not_eq_false,Bool.not_eq_true',Bool.not_eq_false',Bool.not_eq_eq_eq_not,Bool.not_true,Bool.not_false] at hc)) | (refine KP_i (by (repeat' (first | exact Heap.Le.refl _ | (refine Le_known (by first | (simp only [Heap.set_same, set_ne, ne_eq, not_false_eq_true, *] <;> rfl) | fail) ?_) | (refine Le_fresh (by first | (simp only [*] <;> done) | (simp [set_none', Heap.set_same, set_ne, *] <;> done) | fail) ?_) | (refine Heap.Le.trans ?_ (Grow.le (by assumption)))))) ?_) | (with_reducible refine And.intro ?_ ?_)) <;> (try simp only [Sh,Si,Sl,Bu,Bb,Bd,Bc,Bw,Bn,Int.reduceAdd,Int.reduceSub,Int.reduceMul,Int.reduceTDiv,Int.reduceTMod,Int.reduceMod,Int.reduceDiv,Nat.reduceLT,Nat.reduceEqDiff,decide_true,decide_false,Sa,Sb,Sc,Sd,Se,Sf,Sg,true_and,and_true,and_self,eq_self,b_i64,b_i32,b_u64,b_u32,b_u8,Int.reduceLE,Int.reduceLT,Int.reduceToNat,Int.reduceNeg,Int.reduceEq,Nat.reduceLeDiff,Nat.reducePow,Int.reducePow,Nat.min_def,reduceIte,Nat.reduceSub,Nat.reduceAdd,Nat.reduceMul,KP_same,KP_f,condS_t,condS_f,pick_t,pick_f,gS_tt,gS_ff,gS_tf,gS_ft,gS_u,gP_tt,gP_ff,gP_tf,gP_ft,gP_u,ptrV_eq,slcV_eq,cells_agg,cells_int,cells_bool,cells_ptr,cells_slice,oc_int,oc_bool,oc_slice,oc_ptr,rd1_set,rd1_ne,rdn_set,rdn_ne,Heap.set_same,set_ne,Heap.set_set,set_up,set_up2,set_up3,putAt,ceq,List.map_cons,List.map_nil,List.length_cons,List.length_nil,List.length_set,List.cons_append,List.nil_append,List.append_nil,List.replicate,List.size_toArray,List.all_cons,List.all_nil,Bool.and_self,Bool.and_true,List.drop_zero,List.drop_succ_cons,List.take_succ_cons,List.take_zero,List.set_cons_zero,List.set_cons_succ,List.getElem?_cons_zero,List.getElem?_cons_succ,Option.map_some,Option.map_none,ne_eq,not_false_eq_true,not_true_eq_false,gt_iff_lt,ge_iff_le,Int.one_mul,Nat.zero_add,Nat.zero_mul,Bool.not_true,Bool.not_false,Bool.false_eq_true,Bool.and_false,Bool.false_and,Bool.true_and, *]))
        rw [← root2 q3.1.2 k2 k3] at hn2 hg2
        have gb := (Grow.refl (w0 := w0) G2).set (x := ⟨winT.ty, (WnR.mk (winA v A.toVt) a2 c2).row⟩) hb0 (by assumption)
        exact Fin_mk (Heap.Le.refl _) (h1 (some ⟨_, 0, none⟩) 1 [WnR.mk (winA v A.toVt) a2 c2] _ (by rw [hp]; rfl) (wins1 at1 (hn2.ok.grow gb)) (g1.trans (hg2.trans gb)))
    · have h2 := h2 fun h' => hAl h'.2
      clear h1
      have ca : ∀ (b : Nat) (t : TypeId) (G : Heap) (K : Value → Heap → Prop), Grow w0 H G → G b = some ⟨t, A.row⟩ → K (.bool false) G → HCalls Try.prog w0 32 [.slice (some ⟨b, 0, none⟩) 1 1] G K := fun b t G K g e hk => c_alike (some ⟨b, 0, none⟩) 1 [A] (hall G b t g e) (fun hh => (hAl hh).elim) (fun _ => hk)
      unfold VtR.v Vw.v at *
      unfold VtR.row at ca
      refine HL.hc k28 2000 ?_; unfold M28
      (all_goals (refine (fun f : True → _ => f trivial) ?_)); repeat' ((first | (with_reducible refine fun _ : True => ?_) | refine cR _ _ ?_ | refine ca _ _ _ _ (by (repeat' (first | exact Grow.refl _ | assumption | (refine Grow_known (by first | (simp only [Heap.set_same, set_ne, ne_eq, not_false_eq_true, *] <;> rfl) | fail) ?_) | (refine Grow.set ?_ (by assumption) (by first | (simp only [*] <;> done) | (simp [set_none', Heap.set_same, set_ne, *] <;> done) | fail)) | (refine Grow.trans ?_ (by assumption))))) (by simp only [Heap.set_same, set_ne, ne_eq, not_false_eq_true, *] <;> rfl) ?_ | (refine AllocQ_i ?_; intro bk hb0 hbk; (try simp only [set_none'] at hbk); (try (first | have hbn := Grow.none (by assumption) hbk | have hbn := Grow.none (by assumption) hbk.2 | have hbn := Grow.none (by assumption) hbk.2.2 | have hbn := Grow.none (by assumption) hbk.2.2.2 | have hbn := Grow.none (by assumption) hbk.2.2.2.2 | have hbn := Grow.none (by assumption) hbk.2.2.2.2.2)); (try simp only [set_none'] at hbn); (try (first | have hbm := Grow.none (by assumption) hbn | have hbm := Grow.none (by assumption) hbn.2 | have hbm := Grow.none (by assumption) hbn.2.2 | have hbm := Grow.none (by assumption) hbn.2.2.2 | have hbm := Grow.none (by assumption) hbn.2.2.2.2 | have hbm := Grow.none (by assumption) hbn.2.2.2.2.2)); (try simp only [set_none'] at hbm)) | ((first | refine condS_i ?_ ?_ | refine pick_i ?_ ?_ | refine gS_it ?_ ?_ | refine gS_if ?_ ?_ | refine gP_it ?_ ?_ | refine gP_if ?_ ?_) <;> (intro hc; try simp only [Int.reduceLE,Int.reduceLT,Int.reduceEq,and_self,not_true_eq_false,not_false_eq_true,and_true,true_and,false_and,and_false,true_or,or_true,false_or,or_false,decide_eq_true_eq,decide_eq_false_iff_not,beq_iff_eq,beq_eq_false_iff_ne,bne_iff_ne,ne_eq,gt_iff_lt,ge_iff_le,Bool.not_eq_true,Bool.not_eq_false,Bool.not_eq_true',Bool.not_eq_false',Bool.not_eq_eq_eq_not,Bool.not_true,Bool.not_false] at hc)) | (refine KP_i (by (repeat' (first | exact Heap.Le.refl _ | (refine Le_known (by first | (simp only [Heap.set_same, set_ne, ne_eq, not_false_eq_true, *] <;> rfl) | fail) ?_) | (refine Le_fresh (by first | (simp only [*] <;> done) | (simp [set_none', Heap.set_same, set_ne, *] <;> done) | fail) ?_) | (refine Heap.Le.trans ?_ (Grow.le (by assumption)))))) ?_) | (with_reducible refine And.intro ?_ ?_)) <;> (try simp only [Sh,Si,Sl,Bu,Bb,Bd,Bc,Bw,Bn,Int.reduceAdd,Int.reduceSub,Int.reduceMul,Int.reduceTDiv,Int.reduceTMod,Int.reduceMod,Int.reduceDiv,Nat.reduceLT,Nat.reduceEqDiff,decide_true,decide_false,Sa,Sb,Sc,Sd,Se,Sf,Sg,true_and,and_true,and_self,eq_self,b_i64,b_i32,b_u64,b_u32,b_u8,Int.reduceLE,Int.reduceLT,Int.reduceToNat,Int.reduceNeg,Int.reduceEq,Nat.reduceLeDiff,Nat.reducePow,Int.reducePow,Nat.min_def,reduceIte,Nat.reduceSub,Nat.reduceAdd,Nat.reduceMul,KP_same,KP_f,condS_t,condS_f,pick_t,pick_f,gS_tt,gS_ff,gS_tf,gS_ft,gS_u,gP_tt,gP_ff,gP_tf,gP_ft,gP_u,ptrV_eq,slcV_eq,cells_agg,cells_int,cells_bool,cells_ptr,cells_slice,oc_int,oc_bool,oc_slice,oc_ptr,rd1_set,rd1_ne,rdn_set,rdn_ne,Heap.set_same,set_ne,Heap.set_set,set_up,set_up2,set_up3,putAt,ceq,List.map_cons,List.map_nil,List.length_cons,List.length_nil,List.length_set,List.cons_append,List.nil_append,List.append_nil,List.replicate,List.size_toArray,List.all_cons,List.all_nil,Bool.and_self,Bool.and_true,List.drop_zero,List.drop_succ_cons,List.take_succ_cons,List.take_zero,List.set_cons_zero,List.set_cons_succ,List.getElem?_cons_zero,List.getElem?_cons_succ,Option.map_some,Option.map_none,ne_eq,not_false_eq_true,not_true_eq_false,gt_iff_lt,ge_iff_le,Int.one_mul,Nat.zero_add,Nat.zero_mul,Bool.not_true,Bool.not_false,Bool.false_eq_true,Bool.and_false,Bool.false_and,Bool.true_and, *]))
      exact Fin_mk (by (repeat' (first | exact Heap.Le.refl _ | (refine Le_known (by first | (simp only [Heap.set_same, set_ne, ne_eq, not_false_eq_true, *] <;> rfl) | fail) ?_) | (refine Le_fresh (by first | (simp only [*] <;> done) | (simp [set_none', Heap.set_same, set_ne, *] <;> done) | fail) ?_) | (refine Heap.Le.trans ?_ (Grow.le (by assumption)))))) h2
  · have h2 := h2 fun h' => hv h'.1
    unfold VtR.v Vw.v at *
    clear h1
    refine HL.hc k28 2000 ?_; unfold M28
    (all_goals (refine (fun f : True → _ => f trivial) ?_)); repeat' ((first | (with_reducible refine fun _ : True => ?_) | refine cR _ _ ?_ | (refine AllocQ_i ?_; intro bk hb0 hbk; (try simp only [set_none'] at hbk); (try (first | have hbn := Grow.none (by assumption) hbk | have hbn := Grow.none (by assumption) hbk.2 | have hbn := Grow.none (by assumption) hbk.2.2 | have hbn := Grow.none (by assumption) hbk.2.2.2 | have hbn := Grow.none (by assumption) hbk.2.2.2.2 | have hbn := Grow.none (by assumption) hbk.2.2.2.2.2)); (try simp only [set_none'] at hbn); (try (first | have hbm := Grow.none (by assumption) hbn | have hbm := Grow.none (by assumption) hbn.2 | have hbm := Grow.none (by assumption) hbn.2.2 | have hbm := Grow.none (by assumption) hbn.2.2.2 | have hbm := Grow.none (by assumption) hbn.2.2.2.2 | have hbm := Grow.none (by assumption) hbn.2.2.2.2.2)); (try simp only [set_none'] at hbm)) | ((first | refine condS_i ?_ ?_ | refine pick_i ?_ ?_ | refine gS_it ?_ ?_ | refine gS_if ?_ ?_ | refine gP_it ?_ ?_ | refine gP_if ?_ ?_) <;> (intro hc; try simp only [Int.reduceLE,Int.reduceLT,Int.reduceEq,and_self,not_true_eq_false,not_false_eq_true,and_true,true_and,false_and,and_false,true_or,or_true,false_or,or_false,decide_eq_true_eq,decide_eq_false_iff_not,beq_iff_eq,beq_eq_false_iff_ne,bne_iff_ne,ne_eq,gt_iff_lt,ge_iff_le,Bool.not_eq_true,Bool.not_eq_false,Bool.not_eq_true',Bool.not_eq_false',Bool.not_eq_eq_eq_not,Bool.not_true,Bool.not_false] at hc)) | (refine KP_i (by (repeat' (first | exact Heap.Le.refl _ | (refine Le_known (by first | (simp only [Heap.set_same, set_ne, ne_eq, not_false_eq_true, *] <;> rfl) | fail) ?_) | (refine Le_fresh (by first | (simp only [*] <;> done) | (simp [set_none', Heap.set_same, set_ne, *] <;> done) | fail) ?_) | (refine Heap.Le.trans ?_ (Grow.le (by assumption)))))) ?_) | (with_reducible refine And.intro ?_ ?_)) <;> (try simp only [Sh,Si,Sl,Bu,Bb,Bd,Bc,Bw,Bn,Int.reduceAdd,Int.reduceSub,Int.reduceMul,Int.reduceTDiv,Int.reduceTMod,Int.reduceMod,Int.reduceDiv,Nat.reduceLT,Nat.reduceEqDiff,decide_true,decide_false,Sa,Sb,Sc,Sd,Se,Sf,Sg,true_and,and_true,and_self,eq_self,b_i64,b_i32,b_u64,b_u32,b_u8,Int.reduceLE,Int.reduceLT,Int.reduceToNat,Int.reduceNeg,Int.reduceEq,Nat.reduceLeDiff,Nat.reducePow,Int.reducePow,Nat.min_def,reduceIte,Nat.reduceSub,Nat.reduceAdd,Nat.reduceMul,KP_same,KP_f,condS_t,condS_f,pick_t,pick_f,gS_tt,gS_ff,gS_tf,gS_ft,gS_u,gP_tt,gP_ff,gP_tf,gP_ft,gP_u,ptrV_eq,slcV_eq,cells_agg,cells_int,cells_bool,cells_ptr,cells_slice,oc_int,oc_bool,oc_slice,oc_ptr,rd1_set,rd1_ne,rdn_set,rdn_ne,Heap.set_same,set_ne,Heap.set_set,set_up,set_up2,set_up3,putAt,ceq,List.map_cons,List.map_nil,List.length_cons,List.length_nil,List.length_set,List.cons_append,List.nil_append,List.append_nil,List.replicate,List.size_toArray,List.all_cons,List.all_nil,Bool.and_self,Bool.and_true,List.drop_zero,List.drop_succ_cons,List.take_succ_cons,List.take_zero,List.set_cons_zero,List.set_cons_succ,List.getElem?_cons_zero,List.getElem?_cons_succ,Option.map_some,Option.map_none,ne_eq,not_false_eq_true,not_true_eq_false,gt_iff_lt,ge_iff_le,Int.one_mul,Nat.zero_add,Nat.zero_mul,Bool.not_true,Bool.not_false,Bool.false_eq_true,Bool.and_false,Bool.false_and,Bool.true_and, *]))
    exact Fin_mk (by (repeat' (first | exact Heap.Le.refl _ | (refine Le_known (by first | (simp only [Heap.set_same, set_ne, ne_eq, not_false_eq_true, *] <;> rfl) | fail) ?_) | (refine Le_fresh (by first | (simp only [*] <;> done) | (simp [set_none', Heap.set_same, set_ne, *] <;> done) | fail) ?_) | (refine Heap.Le.trans ?_ (Grow.le (by assumption)))))) h2
end Go.Proofs.Ytofgiimfempcjaa
