/- The statement on cuts, where they are refused (layer 21). -/
import Derived.Test.YtofgiimfempcjaaCln
set_option linter.unusedSimpArgs false
set_option linter.unusedVariables false
set_option maxRecDepth 100000
set_option maxHeartbeats 8000000
namespace Go.Proofs.Ytofgiimfempcjaa
open Go Go.HL Go.RowKit Go.ChangeShapes Go.WideShapes Pb
variable {w0 : World} {H : Heap} {K : Value → Heap → Prop}

theorem open_verts {W : World} {r : Reach} {b : Nat} {v : Value} (hv : Value.okWide Try.prog W r b 39 v) (h : Arg Try.prog W 8 39 v.cells.toList) :
    ∃ x : Option Addr × Nat × List VtR, v = .slice x.1 x.2.2.length x.2.1 ∧ RowsOk W (fun _ => none) x.1 x.2.1 x.2.2 ∧ x.2.2.length * 48 ≤ 140737488355328 := by
  rw [slice_cells (by kernel_rfl : Try.prog.underlying 39 = some (.slice 29)) hv] at h
  obtain ⟨a, cap, rows, e, lc, lm, lb, -, lr, ls⟩ := open_rows (e := 29) (sz := 6) (by kernel_rfl) (by kernel_rfl) (by decide) h
  obtain ⟨l, rfl, hl⟩ := map_of (f := VtR.row) (q := fun x => VtOk W (fun _ => none) x) rows fun y hy => open_row (D := 3) (lr y hy).2
  rw [List.length_map] at lc lm lb e
  rw [show Try.prog.bytesOf 29 = 48 by kernel_rfl] at lb
  exact ⟨(a, cap, l), by simpa using e, ⟨ls, lc, lm, hl⟩, Nat.le_trans lb (by decide)⟩
/- paintboxlaw21 ClipCuts -/
def M7 : MC :=
  .seq (.reg [⟨(some 4), .mv (.const (.bool false)), none⟩])
  (.seq (.seq (.reg [⟨(some 13), .call 10 [], none⟩,
       ⟨(some 14), .un .not (.tmp 13), none⟩])
    (.cond (.tmp 14)
     (.seq (.reg [⟨(some 4), .mv (.const (.bool false)), none⟩])
      (.ret))
     (.skip)))
   (.seq (.reg [⟨(some 16), .bslice 29 0 [] [], none⟩,
       ⟨(some 17), .mv (.tmp 0), none⟩,
       ⟨(some 18), .app 29 6 48 [(.int .i32 0), (.int .i32 0), (.int .i32 0), (.int .i32 0), (.int .i32 0), (.slice none 0 0)] (.tmp 16) (.tmp 17), none⟩,
       ⟨(some 19), .mv (.tmp 1), none⟩,
       ⟨(some 20), .call 24 [(.tmp 18), (.tmp 19)], none⟩,
       ⟨(some 15), .mv (.tmp 20), none⟩,
       ⟨(some 21), .ext 0 (.tmp 15), none⟩,
       ⟨(some 22), .ext 1 (.tmp 15), none⟩,
       ⟨(some 5), .mv (.tmp 21), none⟩,
       ⟨(some 6), .mv (.tmp 22), none⟩])
    (.seq (.seq (.reg [⟨(some 23), .mv (.tmp 1), none⟩,
         ⟨(some 24), .bin .lss (.tmp 23) (.const (.int .i64 0)), none⟩,
         ⟨(some 25), .mv (.tmp 24), none⟩,
         ⟨(some 26), .mv (.tmp 1), (some (25, false))⟩,
         ⟨(some 27), .bin .gtr (.tmp 26) (.const (.int .i64 6)), (some (25, false))⟩,
         ⟨(some 28), .pick (.tmp 25) (.const (.bool true)) (.tmp 27), none⟩,
         ⟨(some 29), .mv (.tmp 28), none⟩,
         ⟨(some 30), .mv (.tmp 0), (some (29, false))⟩,
         ⟨(some 31), .len (.tmp 30), (some (29, false))⟩,
         ⟨(some 32), .bin .gtr (.tmp 31) (.const (.int .i64 16)), (some (29, false))⟩,
         ⟨(some 33), .pick (.tmp 29) (.const (.bool true)) (.tmp 32), none⟩,
         ⟨(some 34), .mv (.tmp 33), none⟩,
         ⟨(some 35), .mv (.tmp 0), (some (34, false))⟩,
         ⟨(some 36), .call 13 [(.tmp 35)], (some (34, false))⟩,
         ⟨(some 37), .un .not (.tmp 36), (some (34, false))⟩,
         ⟨(some 38), .pick (.tmp 34) (.const (.bool true)) (.tmp 37), none⟩])
      (.cond (.tmp 38)
       (.seq (.reg [⟨(some 39), .mv (.tmp 5), none⟩,
           ⟨(some 40), .len (.tmp 39), none⟩,
           ⟨(some 41), .bin .eql (.tmp 40) (.const (.int .i64 0)), none⟩,
           ⟨(some 42), .mv (.tmp 41), none⟩,
           ⟨(some 43), .mv (.tmp 6), (some (42, true))⟩,
           ⟨(some 44), .bin .eql (.tmp 43) (.const (.int .i64 2)), (some (42, true))⟩,
           ⟨(some 45), .pick (.tmp 42) (.tmp 44) (.const (.bool false)), none⟩,
           ⟨(some 4), .mv (.tmp 45), none⟩])
        (.ret))
       (.skip)))
     (.seq (.reg [⟨(some 46), .mv (.tmp 0), none⟩,
         ⟨(some 47), .mv (.tmp 1), none⟩,
         ⟨(some 48), .call 25 [(.tmp 46), (.tmp 47)], none⟩,
         ⟨(some 7), .mv (.tmp 48), none⟩])
      (.seq (.seq (.reg [⟨(some 49), .mv (.tmp 6), none⟩,
           ⟨(some 50), .bin .neq (.tmp 49) (.const (.int .i64 0)), none⟩,
           ⟨(some 51), .mv (.tmp 50), none⟩,
           ⟨(some 52), .mv (.tmp 5), (some (51, false))⟩,
           ⟨(some 53), .len (.tmp 52), (some (51, false))⟩,
           ⟨(some 54), .mv (.tmp 7), (some (51, false))⟩,
           ⟨(some 55), .len (.tmp 54), (some (51, false))⟩,
           ⟨(some 56), .bin .neq (.tmp 53) (.tmp 55), (some (51, false))⟩,
           ⟨(some 57), .pick (.tmp 51) (.const (.bool true)) (.tmp 56), none⟩])
        (.cond (.tmp 57)
         (.seq (.reg [⟨(some 4), .mv (.const (.bool false)), none⟩])
          (.ret))
         (.skip)))
       (.seq (.seq (.reg [⟨(some 58), .mv (.tmp 5), none⟩,
            ⟨(some 59), .len (.tmp 58), none⟩,
            ⟨(some 60), .mv (.const (.int .i64 0)), none⟩])
         (.block 0 (.loop (.seq (.reg [⟨(some 61), .bin .lss (.tmp 60) (.tmp 59), none⟩])
            (.seq (.cond (.tmp 61)
              (.skip)
              (.exit 0))
             (.seq (.block 1 (.seq (.reg [⟨(some 62), .mv (.tmp 60), none⟩,
                   ⟨(some 8), .mv (.tmp 62), none⟩])
                (.seq (.any [(true, true, ⟨(some 63), .mv (.tmp 5), none⟩),
                    (true, true, ⟨(some 64), .mv (.tmp 8), none⟩),
                    (true, true, ⟨(some 65), .is 6 (.tmp 63) (.tmp 64), none⟩),
                    (true, true, ⟨(some 66), .ldn 6 (.tmp 65), none⟩),
                    (true, true, ⟨(some 67), .mv (.tmp 7), none⟩),
                    (false, true, ⟨(some 68), .mv (.tmp 8), none⟩),
                    (false, true, ⟨(some 69), .is 6 (.tmp 67) (.tmp 68), none⟩),
                    (false, true, ⟨(some 70), .ldn 6 (.tmp 69), none⟩),
                    (false, false, ⟨(some 71), .call 26 [(.tmp 66), (.tmp 70)], none⟩),
                    (false, false, ⟨(some 72), .un .not (.tmp 71), none⟩)])
                 (.cond (.tmp 72)
                  (.seq (.reg [⟨(some 4), .mv (.const (.bool false)), none⟩])
                   (.ret))
                  (.skip)))))
              (.reg [⟨(some 73), .bin .add (.tmp 60) (.const (.int .i64 1)), none⟩,
                 ⟨(some 60), .mv (.tmp 73), none⟩])))))))
        (.seq (.seq (.reg [⟨(some 74), .mv (.tmp 0), none⟩,
             ⟨(some 75), .len (.tmp 74), none⟩,
             ⟨(some 76), .mv (.const (.int .i64 0)), none⟩])
          (.block 2 (.loop (.seq (.reg [⟨(some 77), .bin .lss (.tmp 76) (.tmp 75), none⟩])
             (.seq (.cond (.tmp 77)
               (.skip)
               (.exit 2))
              (.seq (.block 3 (.seq (.reg [⟨(some 78), .is 6 (.tmp 74) (.tmp 76), none⟩,
                    ⟨(some 79), .ldn 6 (.tmp 78), none⟩,
                    ⟨(some 10), .alloc 29 [(.int .i32 0), (.int .i32 0), (.int .i32 0), (.int .i32 0), (.int .i32 0), (.slice none 0 0)], none⟩,
                    ⟨none, .stn 6 (.tmp 10) (.tmp 79), none⟩])
                 (.seq (.reg [⟨(some 81), .ldn 6 (.tmp 10), none⟩,
                     ⟨(some 82), .mv (.tmp 1), none⟩,
                     ⟨(some 83), .call 18 [(.tmp 81), (.tmp 82)], none⟩,
                     ⟨(some 80), .mv (.tmp 83), none⟩,
                     ⟨(some 84), .ext 0 (.tmp 80), none⟩,
                     ⟨(some 85), .ext 1 (.tmp 80), none⟩,
                     ⟨(some 11), .mv (.tmp 84), none⟩,
                     ⟨(some 12), .mv (.tmp 85), none⟩])
                  (.seq (.reg [⟨(some 86), .mv (.tmp 12), none⟩,
                      ⟨(some 87), .bin .neq (.tmp 86) (.const (.int .i64 0)), none⟩,
                      ⟨(some 88), .mv (.tmp 87), none⟩,
                      ⟨(some 89), .mv (.tmp 11), (some (88, false))⟩,
                      ⟨(some 90), .ldn 6 (.tmp 10), (some (88, false))⟩,
                      ⟨(some 91), .mv (.tmp 1), (some (88, false))⟩,
                      ⟨(some 92), .call 20 [(.tmp 90), (.tmp 91)], (some (88, false))⟩,
                      ⟨(some 93), .bin .neq (.tmp 89) (.tmp 92), (some (88, false))⟩,
                      ⟨(some 94), .pick (.tmp 88) (.const (.bool true)) (.tmp 93), none⟩])
                   (.cond (.tmp 94)
                    (.seq (.reg [⟨(some 4), .mv (.const (.bool false)), none⟩])
                     (.ret))
                    (.skip))))))
               (.reg [⟨(some 95), .bin .add (.tmp 76) (.const (.int .i64 1)), none⟩,
                  ⟨(some 76), .mv (.tmp 95), none⟩])))))))
         (.seq (.reg [⟨(some 4), .mv (.const (.bool true)), none⟩])
          (.ret)))))))))
theorem k7 : fnOk Try.prog 7 = some (M7, [.t 4], 96) := by kernel_rfl

theorem l_ClipCuts_bad (a : Option Addr) (cap : Nat) (ls : List VtR) (n : Int) (hA : RowsOk w0 H a cap ls) (hlr : ls.length * 48 ≤ 140737488355328) (hg : ¬ ((0 ≤ n ∧ n ≤ 6) ∧ ls.length ≤ 16 ∧ Al (ls.map VtR.toVt))) (h : K (.bool true) H) : HCalls Try.prog w0 7 [.slice a ls.length cap, .int .i64 n] H K := by
  have cA : ∀ (G : Heap) (K : Value → Heap → Prop), K (.bool true) G → HCalls Try.prog w0 10 [] G K := fun G K hk => l_wakes hk
  have hlm := hA.lm
  have hsrd : ∀ (G : Heap), Grow w0 H G → srd w0 G a (ls.length * 6) = some (ls.map VtR.row).flatten := fun G g => by have := (hA.at_.grow g).srd; rw [rows_flat] at this; exact this
  have hcp : ∀ (G G' : Heap) (a' : Option Addr) (cap' : Nat), Grow w0 H G' → Bld w0 G G' a' cap' 6 29 (ls.map VtR.row).flatten → ls.length ≤ cap' → RowsOk w0 G' a' cap' ls := fun G G' a' cap' g hB hc => ⟨hB.slAt, hc, hA.lm, fun y hy => (hA.ok y hy).grow g⟩
  have rA : Al (ls.map VtR.toVt) → ∀ (G : Heap) (K : Value → Heap → Prop), Grow w0 H G → K (.bool true) G → HCalls Try.prog w0 13 [.slice a ls.length cap] G K := fun g3 G K g hk => r_Alike a cap ls (hA.grow g) (fun _ => hk) (fun hh => (hh g3).elim)
  have rA' : ¬ Al (ls.map VtR.toVt) → ∀ (G : Heap) (K : Value → Heap → Prop), Grow w0 H G → K (.bool false) G → HCalls Try.prog w0 13 [.slice a ls.length cap] G K := fun g3 G K g hk => r_Alike a cap ls (hA.grow g) (fun hh => (g3 hh).elim) (fun _ => hk)
  obtain ⟨m, em⟩ : ∃ m, ls.length = m := ⟨_, rfl⟩
  rw [em] at hlr hlm hsrd hcp hg rA rA' ⊢
  refine HL.hc k7 2000 ?_; unfold M7
  (all_goals (refine (fun f : True → _ => f trivial) ?_)); repeat' ((first | (with_reducible refine fun _ : True => ?_) | refine cA _ _ ?_ | (refine AllocQ_i ?_; intro bk hb0 hbk; (try simp only [set_none'] at hbk); (try (first | have hbn := Grow.none (by assumption) hbk | have hbn := Grow.none (by assumption) hbk.2 | have hbn := Grow.none (by assumption) hbk.2.2 | have hbn := Grow.none (by assumption) hbk.2.2.2 | have hbn := Grow.none (by assumption) hbk.2.2.2.2 | have hbn := Grow.none (by assumption) hbk.2.2.2.2.2)); (try simp only [set_none'] at hbn); (try (first | have hbm := Grow.none (by assumption) hbn | have hbm := Grow.none (by assumption) hbn.2 | have hbm := Grow.none (by assumption) hbn.2.2 | have hbm := Grow.none (by assumption) hbn.2.2.2 | have hbm := Grow.none (by assumption) hbn.2.2.2.2 | have hbm := Grow.none (by assumption) hbn.2.2.2.2.2)); (try simp only [set_none'] at hbm)) | ((first | refine condS_i ?_ ?_ | refine pick_i ?_ ?_ | refine gS_it ?_ ?_ | refine gS_if ?_ ?_ | refine gP_it ?_ ?_ | refine gP_if ?_ ?_) <;> (intro hc; try simp only [Int.reduceLE,Int.reduceLT,Int.reduceEq,and_self,not_true_eq_false,not_false_eq_true,and_true,true_and,false_and,and_false,true_or,or_true,false_or,or_false,decide_eq_true_eq,decide_eq_false_iff_not,beq_iff_eq,beq_eq_false_iff_ne,bne_iff_ne,ne_eq,gt_iff_lt,ge_iff_le,Bool.not_eq_true,Bool.not_eq_false,Bool.not_eq_true',Bool.not_eq_false',Bool.not_eq_eq_eq_not,Bool.not_true,Bool.not_false] at hc)) | (refine KP_i (by (repeat' (first | exact Heap.Le.refl _ | (refine Le_known (by first | (simp only [Heap.set_same, set_ne, ne_eq, not_false_eq_true, *] <;> rfl) | fail) ?_) | (refine Le_fresh (by first | (simp only [*] <;> done) | (simp [set_none', Heap.set_same, set_ne, *] <;> done) | fail) ?_) | (refine Heap.Le.trans ?_ (Grow.le (by assumption)))))) ?_) | (with_reducible refine And.intro ?_ ?_)) <;> (try simp only [Sh,Si,Sl,Bu,Bb,Bd,Bc,Bw,Bn,Int.reduceAdd,Int.reduceSub,Int.reduceMul,Int.reduceTDiv,Int.reduceTMod,Int.reduceMod,Int.reduceDiv,Nat.reduceLT,Nat.reduceEqDiff,decide_true,decide_false,Sa,Sb,Sc,Sd,Se,Sf,Sg,true_and,and_true,and_self,eq_self,b_i64,b_i32,b_u64,b_u32,b_u8,Int.reduceLE,Int.reduceLT,Int.reduceToNat,Int.reduceNeg,Int.reduceEq,Nat.reduceLeDiff,Nat.reducePow,Int.reducePow,Nat.min_def,reduceIte,Nat.reduceSub,Nat.reduceAdd,Nat.reduceMul,KP_same,KP_f,condS_t,condS_f,pick_t,pick_f,gS_tt,gS_ff,gS_tf,gS_ft,gS_u,gP_tt,gP_ff,gP_tf,gP_ft,gP_u,ptrV_eq,slcV_eq,cells_agg,cells_int,cells_bool,cells_ptr,cells_slice,oc_int,oc_bool,oc_slice,oc_ptr,rd1_set,rd1_ne,rdn_set,rdn_ne,Heap.set_same,set_ne,Heap.set_set,set_up,set_up2,set_up3,putAt,ceq,List.map_cons,List.map_nil,List.length_cons,List.length_nil,List.length_set,List.cons_append,List.nil_append,List.append_nil,List.replicate,List.size_toArray,List.all_cons,List.all_nil,Bool.and_self,Bool.and_true,List.drop_zero,List.drop_succ_cons,List.take_succ_cons,List.take_zero,List.set_cons_zero,List.set_cons_succ,List.getElem?_cons_zero,List.getElem?_cons_succ,Option.map_some,Option.map_none,ne_eq,not_false_eq_true,not_true_eq_false,gt_iff_lt,ge_iff_le,Int.one_mul,Nat.zero_add,Nat.zero_mul,Bool.not_true,Bool.not_false,Bool.false_eq_true,Bool.and_false,Bool.false_and,Bool.true_and, *]))
  have g0 : Grow w0 H (H.set bk ⟨29, []⟩) := (by (repeat' (first | exact Grow.refl _ | assumption | (refine Grow_known (by first | (simp only [Heap.set_same, set_ne, ne_eq, not_false_eq_true, *] <;> rfl) | fail) ?_) | (refine Grow.set ?_ (by assumption) (by first | (simp only [*] <;> done) | (simp [set_none', Heap.set_same, set_ne, *] <;> done) | fail)) | (refine Grow.trans ?_ (by assumption)))))
  refine app_bld (H := H.set bk ⟨29, []⟩) (n := 0) (m := m) (cs := []) (ns := (ls.map VtR.row).flatten) Bld.none rfl rfl (hsrd _ g0) (by rw [rows_flat, em]) (Grow.refl _) ⟨by omega, by unfold maxLen at hlm; omega⟩ (rows_one ls) (fun a' cap' G' hB hg' hk' hc' => ?_)
  rw [Nat.zero_add] at hc' ⊢
  have gF : Grow w0 H G' := g0.trans hg'
  have hL := hcp _ G' a' cap' gF (by simpa using hB) hc'
  have cC := fun (K : Value → Heap → Prop) => c_Cut (K := K) (H := G') a' cap' ls n hL
  rw [em] at cC
  have cC2 : ∀ (K : Value → Heap → Prop), K (.tuple #[.slice none 0 0, .int .i64 2]) G' → HCalls Try.prog w0 24 [.slice a' m cap', .int .i64 n] G' K := fun K hk => cC K (fun hh => (hg hh).elim) (fun _ => hk)
  clear cC hL hB hk' hg' g0 hcp hsrd hA
  refine (Classical.em (Al (ls.map VtR.toVt))).elim (fun g3 => ?_) (fun g3 => ?_)
  · have rA := rA g3
    have hg : ¬ ((0 ≤ n ∧ n ≤ 6) ∧ m ≤ 16) := fun hh => hg ⟨hh.1, hh.2, g3⟩
    clear rA' g3
    (all_goals (refine (fun f : True → _ => f trivial) ?_)); repeat' ((first | (with_reducible refine fun _ : True => ?_) | refine cC2 _ ?_ | refine rA _ _ gF ?_ | (refine AllocQ_i ?_; intro bk hb0 hbk; (try simp only [set_none'] at hbk); (try (first | have hbn := Grow.none (by assumption) hbk | have hbn := Grow.none (by assumption) hbk.2 | have hbn := Grow.none (by assumption) hbk.2.2 | have hbn := Grow.none (by assumption) hbk.2.2.2 | have hbn := Grow.none (by assumption) hbk.2.2.2.2 | have hbn := Grow.none (by assumption) hbk.2.2.2.2.2)); (try simp only [set_none'] at hbn); (try (first | have hbm := Grow.none (by assumption) hbn | have hbm := Grow.none (by assumption) hbn.2 | have hbm := Grow.none (by assumption) hbn.2.2 | have hbm := Grow.none (by assumption) hbn.2.2.2 | have hbm := Grow.none (by assumption) hbn.2.2.2.2 | have hbm := Grow.none (by assumption) hbn.2.2.2.2.2)); (try simp only [set_none'] at hbm)) | ((first | refine condS_i ?_ ?_ | refine pick_i ?_ ?_ | refine gS_it ?_ ?_ | refine gS_if ?_ ?_ | refine gP_it ?_ ?_ | refine gP_if ?_ ?_) <;> (intro hc; try simp only [Int.reduceLE,Int.reduceLT,Int.reduceEq,and_self,not_true_eq_false,not_false_eq_true,and_true,true_and,false_and,and_false,true_or,or_true,false_or,or_false,decide_eq_true_eq,decide_eq_false_iff_not,beq_iff_eq,beq_eq_false_iff_ne,bne_iff_ne,ne_eq,gt_iff_lt,ge_iff_le,Bool.not_eq_true,Bool.not_eq_false,Bool.not_eq_true',Bool.not_eq_false',Bool.not_eq_eq_eq_not,Bool.not_true,Bool.not_false] at hc)) | (refine KP_i (by (repeat' (first | exact Heap.Le.refl _ | (refine Le_known (by first | (simp only [Heap.set_same, set_ne, ne_eq, not_false_eq_true, *] <;> rfl) | fail) ?_) | (refine Le_fresh (by first | (simp only [*] <;> done) | (simp [set_none', Heap.set_same, set_ne, *] <;> done) | fail) ?_) | (refine Heap.Le.trans ?_ (Grow.le (by assumption)))))) ?_) | (with_reducible refine And.intro ?_ ?_)) <;> (try simp only [Sh,Si,Sl,Bu,Bb,Bd,Bc,Bw,Bn,Int.reduceAdd,Int.reduceSub,Int.reduceMul,Int.reduceTDiv,Int.reduceTMod,Int.reduceMod,Int.reduceDiv,Nat.reduceLT,Nat.reduceEqDiff,decide_true,decide_false,Sa,Sb,Sc,Sd,Se,Sf,Sg,true_and,and_true,and_self,eq_self,b_i64,b_i32,b_u64,b_u32,b_u8,Int.reduceLE,Int.reduceLT,Int.reduceToNat,Int.reduceNeg,Int.reduceEq,Nat.reduceLeDiff,Nat.reducePow,Int.reducePow,Nat.min_def,reduceIte,Nat.reduceSub,Nat.reduceAdd,Nat.reduceMul,KP_same,KP_f,condS_t,condS_f,pick_t,pick_f,gS_tt,gS_ff,gS_tf,gS_ft,gS_u,gP_tt,gP_ff,gP_tf,gP_ft,gP_u,ptrV_eq,slcV_eq,cells_agg,cells_int,cells_bool,cells_ptr,cells_slice,oc_int,oc_bool,oc_slice,oc_ptr,rd1_set,rd1_ne,rdn_set,rdn_ne,Heap.set_same,set_ne,Heap.set_set,set_up,set_up2,set_up3,putAt,ceq,List.map_cons,List.map_nil,List.length_cons,List.length_nil,List.length_set,List.cons_append,List.nil_append,List.append_nil,List.replicate,List.size_toArray,List.all_cons,List.all_nil,Bool.and_self,Bool.and_true,List.drop_zero,List.drop_succ_cons,List.take_succ_cons,List.take_zero,List.set_cons_zero,List.set_cons_succ,List.getElem?_cons_zero,List.getElem?_cons_succ,Option.map_some,Option.map_none,ne_eq,not_false_eq_true,not_true_eq_false,gt_iff_lt,ge_iff_le,Int.one_mul,Nat.zero_add,Nat.zero_mul,Bool.not_true,Bool.not_false,Bool.false_eq_true,Bool.and_false,Bool.false_and,Bool.true_and, *]))
    all_goals first
      | exact Fin_mk gF.le h
      | (exfalso; omega)
  · have rA := rA' g3
    clear rA' g3
    (all_goals (refine (fun f : True → _ => f trivial) ?_)); repeat' ((first | (with_reducible refine fun _ : True => ?_) | refine cC2 _ ?_ | refine rA _ _ gF ?_ | (refine AllocQ_i ?_; intro bk hb0 hbk; (try simp only [set_none'] at hbk); (try (first | have hbn := Grow.none (by assumption) hbk | have hbn := Grow.none (by assumption) hbk.2 | have hbn := Grow.none (by assumption) hbk.2.2 | have hbn := Grow.none (by assumption) hbk.2.2.2 | have hbn := Grow.none (by assumption) hbk.2.2.2.2 | have hbn := Grow.none (by assumption) hbk.2.2.2.2.2)); (try simp only [set_none'] at hbn); (try (first | have hbm := Grow.none (by assumption) hbn | have hbm := Grow.none (by assumption) hbn.2 | have hbm := Grow.none (by assumption) hbn.2.2 | have hbm := Grow.none (by assumption) hbn.2.2.2 | have hbm := Grow.none (by assumption) hbn.2.2.2.2 | have hbm := Grow.none (by assumption) hbn.2.2.2.2.2)); (try simp only [set_none'] at hbm)) | ((first | refine condS_i ?_ ?_ | refine pick_i ?_ ?_ | refine gS_it ?_ ?_ | refine gS_if ?_ ?_ | refine gP_it ?_ ?_ | refine gP_if ?_ ?_) <;> (intro hc; try simp only [Int.reduceLE,Int.reduceLT,Int.reduceEq,and_self,not_true_eq_false,not_false_eq_true,and_true,true_and,false_and,and_false,true_or,or_true,false_or,or_false,decide_eq_true_eq,decide_eq_false_iff_not,beq_iff_eq,beq_eq_false_iff_ne,bne_iff_ne,ne_eq,gt_iff_lt,ge_iff_le,Bool.not_eq_true,Bool.not_eq_false,Bool.not_eq_true',Bool.not_eq_false',Bool.not_eq_eq_eq_not,Bool.not_true,Bool.not_false] at hc)) | (refine KP_i (by (repeat' (first | exact Heap.Le.refl _ | (refine Le_known (by first | (simp only [Heap.set_same, set_ne, ne_eq, not_false_eq_true, *] <;> rfl) | fail) ?_) | (refine Le_fresh (by first | (simp only [*] <;> done) | (simp [set_none', Heap.set_same, set_ne, *] <;> done) | fail) ?_) | (refine Heap.Le.trans ?_ (Grow.le (by assumption)))))) ?_) | (with_reducible refine And.intro ?_ ?_)) <;> (try simp only [Sh,Si,Sl,Bu,Bb,Bd,Bc,Bw,Bn,Int.reduceAdd,Int.reduceSub,Int.reduceMul,Int.reduceTDiv,Int.reduceTMod,Int.reduceMod,Int.reduceDiv,Nat.reduceLT,Nat.reduceEqDiff,decide_true,decide_false,Sa,Sb,Sc,Sd,Se,Sf,Sg,true_and,and_true,and_self,eq_self,b_i64,b_i32,b_u64,b_u32,b_u8,Int.reduceLE,Int.reduceLT,Int.reduceToNat,Int.reduceNeg,Int.reduceEq,Nat.reduceLeDiff,Nat.reducePow,Int.reducePow,Nat.min_def,reduceIte,Nat.reduceSub,Nat.reduceAdd,Nat.reduceMul,KP_same,KP_f,condS_t,condS_f,pick_t,pick_f,gS_tt,gS_ff,gS_tf,gS_ft,gS_u,gP_tt,gP_ff,gP_tf,gP_ft,gP_u,ptrV_eq,slcV_eq,cells_agg,cells_int,cells_bool,cells_ptr,cells_slice,oc_int,oc_bool,oc_slice,oc_ptr,rd1_set,rd1_ne,rdn_set,rdn_ne,Heap.set_same,set_ne,Heap.set_set,set_up,set_up2,set_up3,putAt,ceq,List.map_cons,List.map_nil,List.length_cons,List.length_nil,List.length_set,List.cons_append,List.nil_append,List.append_nil,List.replicate,List.size_toArray,List.all_cons,List.all_nil,Bool.and_self,Bool.and_true,List.drop_zero,List.drop_succ_cons,List.take_succ_cons,List.take_zero,List.set_cons_zero,List.set_cons_succ,List.getElem?_cons_zero,List.getElem?_cons_succ,Option.map_some,Option.map_none,ne_eq,not_false_eq_true,not_true_eq_false,gt_iff_lt,ge_iff_le,Int.one_mul,Nat.zero_add,Nat.zero_mul,Bool.not_true,Bool.not_false,Bool.false_eq_true,Bool.and_false,Bool.false_and,Bool.true_and, *]))
    all_goals first
      | exact Fin_mk gF.le h
      | (exfalso; omega)
end Go.Proofs.Ytofgiimfempcjaa
