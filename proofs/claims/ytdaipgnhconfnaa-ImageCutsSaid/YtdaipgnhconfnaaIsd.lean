/- A piece is put, by the reference: where it may not be; the plain ends (layer 8). -/
import Derived.Test.YtdaipgnhconfnaaIsc
import Derived.Test.YtdaipgnhconfnaaIrf
set_option linter.unusedSimpArgs false
set_option linter.unusedVariables false
set_option maxRecDepth 100000
set_option maxHeartbeats 4000000
namespace Go.Proofs.Ytdaipgnhconfnaa
open Go Go.HL Go.RowKit Pb
variable {w0 : World} {H G : Heap} {K : Value → Heap → Prop}

theorem putSeg_nil (l : List Int) (a : Nat) : putSeg l a [] = l := by unfold putSeg; simp
theorem putSeg_more {l s t : List Int} {A : Nat} (h : A + s.length + t.length ≤ l.length) : putSeg (putSeg l A s) (A + s.length) t = putSeg l A (s ++ t) := by
  unfold putSeg
  have e1 : (l.take A ++ s).length = A + s.length := by rw [List.length_append, List.length_take]; omega
  have e2 : (l.take A ++ s ++ l.drop (A + s.length)).take (A + s.length) = l.take A ++ s := by
    rw [List.take_append_of_le_length (by omega), List.take_of_length_le (by omega)]
  have e3 : (l.take A ++ s ++ l.drop (A + s.length)).drop (A + s.length + t.length) = l.drop (A + s.length + t.length) := by
    rw [List.drop_append, List.drop_of_length_le (by omega), List.nil_append, List.drop_drop, e1]
    congr 1
    omega
  rw [e2, e3, List.length_append]
  simp [Nat.add_assoc]
theorem cpy_seg2 {tb A o' n m c c' : Nat} {l sg : List Int} {zz : List Value} {xa : Option Addr} (hb : G tb = some ⟨.t 5, l.map (.int .u8) ++ zz⟩) (hs : srd w0 G xa n = some (sg.map (.int .u8))) (hl : sg.length = n) (hm : n ≤ m) (hA : A + n ≤ l.length) (ho : o' = A) (hn : 0 < n)
    (h : K (.int .i64 (n : Nat)) (G.set tb ⟨.t 5, (putSeg l A sg).map (.int .u8) ++ zz⟩)) : cpyQ w0 G K 1 (.slice (some ⟨tb, o', none⟩) m c) (.slice xa n c') := by
  unfold cpyQ
  simp only
  rw [show Nat.min n m = n from Nat.min_eq_left hm, Nat.mul_one, hs]
  simp only [optQ]
  unfold layQ
  have es : ¬ sg.map (Value.int .u8) = [] := fun q => by have := congrArg List.length q; simp only [List.length_map, List.length_nil] at this; omega
  rw [if_neg es]
  simp only [hb, optQ]
  subst ho
  refine ⟨one_map _, by simp only [List.length_append, List.length_map]; omega, ?_⟩
  rw [Nat.add_zero, putAt_mid (by simp only [List.length_map]; omega)]
  have : List.take o' (l.map (Value.int .u8)) ++ sg.map (Value.int .u8) ++ List.drop (o' + (sg.map (Value.int .u8)).length) (l.map (Value.int .u8)) = (putSeg l o' sg).map (Value.int .u8) := by
    unfold putSeg
    rw [List.map_append, List.map_append, List.map_take, List.map_drop, List.length_map]
  rw [this]
  exact h
/- paintboxref08 Sub -/
def M35 : MC :=
  .seq (.reg [⟨(some 4), .box 24 (.tmp 0), none⟩,
 ⟨(some 6), .box 49 (.tmp 2), none⟩,
 ⟨(some 8), .alloc 24 [(.int .i64 0), (.slice none 0 0), (.int .i64 0), (.int .i64 0), (.int .i64 0), (.int .i64 0)], none⟩,
 ⟨(some 9), .mv (.const (.int .i64 0)), none⟩])
 (.seq (.seq (.reg [⟨(some 17), .ldn 6 (.tmp 4), none⟩,
 ⟨(some 18), .mv (.tmp 1), none⟩,
 ⟨(some 19), .ldn 4 (.tmp 6), none⟩,
 ⟨(some 20), .call 37 [(.tmp 17), (.tmp 18), (.tmp 19)], none⟩,
 ⟨(some 16), .mv (.tmp 20), none⟩,
 ⟨(some 21), .ext 0 (.tmp 16), none⟩,
 ⟨(some 22), .ext 1 (.tmp 16), none⟩,
 ⟨(some 10), .mv (.tmp 21), none⟩,
 ⟨(some 11), .mv (.tmp 22), none⟩])
 (.seq (.reg [⟨(some 23), .mv (.tmp 11), none⟩,
 ⟨(some 24), .bin .neq (.tmp 23) (.const (.int .i64 0)), none⟩])
 (.cond (.tmp 24)
 (.seq (.reg [⟨(some 25), .build [(.int .i64 0), (.slice none 0 0), (.int .i64 0), (.int .i64 0), (.int .i64 0), (.int .i64 0)] [], none⟩,
 ⟨(some 26), .mv (.tmp 11), none⟩,
 ⟨none, .stn 6 (.tmp 8) (.tmp 25), none⟩,
 ⟨(some 9), .mv (.tmp 26), none⟩])
 (.ret))
 (.skip))))
 (.seq (.reg [⟨(some 27), .fa 0 (.tmp 4), none⟩,
 ⟨(some 28), .ld1 (.tmp 27), none⟩,
 ⟨(some 29), .call 45 [(.tmp 28)], none⟩,
 ⟨(some 12), .mv (.tmp 29), none⟩])
 (.seq (.seq (.reg [⟨(some 30), .mv (.tmp 3), none⟩,
 ⟨(some 31), .len (.tmp 30), none⟩,
 ⟨(some 32), .fa 2 (.tmp 6), none⟩,
 ⟨(some 33), .ld1 (.tmp 32), none⟩,
 ⟨(some 34), .fa 3 (.tmp 6), none⟩,
 ⟨(some 35), .ld1 (.tmp 34), none⟩,
 ⟨(some 36), .bin .mul (.tmp 33) (.tmp 35), none⟩,
 ⟨(some 37), .mv (.tmp 12), none⟩,
 ⟨(some 38), .bin .mul (.tmp 36) (.tmp 37), none⟩,
 ⟨(some 39), .bin .neq (.tmp 31) (.tmp 38), none⟩])
 (.cond (.tmp 39)
 (.seq (.reg [⟨(some 40), .build [(.int .i64 0), (.slice none 0 0), (.int .i64 0), (.int .i64 0), (.int .i64 0), (.int .i64 0)] [], none⟩,
 ⟨none, .stn 6 (.tmp 8) (.tmp 40), none⟩,
 ⟨(some 9), .mv (.const (.int .i64 7)), none⟩])
 (.ret))
 (.skip)))
 (.seq (.reg [⟨(some 41), .ldn 6 (.tmp 4), none⟩,
 ⟨(some 42), .call 14 [(.tmp 41)], none⟩,
 ⟨none, .stn 6 (.tmp 4) (.tmp 42), none⟩])
 (.seq (.reg [⟨(some 43), .fa 1 (.tmp 4), none⟩,
 ⟨(some 44), .ld1 (.tmp 43), none⟩,
 ⟨(some 45), .mv (.tmp 1), none⟩,
 ⟨(some 46), .is 3 (.tmp 44) (.tmp 45), none⟩,
 ⟨(some 47), .ldn 3 (.tmp 46), none⟩,
 ⟨(some 13), .alloc 38 [(.int .i64 0), (.int .i64 0), (.slice none 0 0)], none⟩,
 ⟨none, .stn 3 (.tmp 13) (.tmp 47), none⟩])
 (.seq (.seq (.reg [⟨(some 48), .fa 3 (.tmp 6), none⟩,
 ⟨(some 49), .ld1 (.tmp 48), none⟩,
 ⟨(some 50), .mv (.const (.int .i64 0)), none⟩])
 (.block 0 (.loop (.seq (.reg [⟨(some 51), .bin .lss (.tmp 50) (.tmp 49), none⟩])
 (.seq (.cond (.tmp 51)
 (.skip)
 (.exit 0))
 (.seq (.block 1 (.seq (.reg [⟨(some 52), .mv (.tmp 50), none⟩,
 ⟨(some 14), .mv (.tmp 52), none⟩])
 (.seq (.reg [⟨(some 53), .fa 2 (.tmp 6), none⟩,
 ⟨(some 54), .ld1 (.tmp 53), none⟩,
 ⟨(some 55), .mv (.const (.int .i64 0)), none⟩])
 (.block 2 (.loop (.seq (.reg [⟨(some 56), .bin .lss (.tmp 55) (.tmp 54), none⟩])
 (.seq (.cond (.tmp 56)
 (.skip)
 (.exit 2))
 (.seq (.block 3 (.seq (.reg [⟨(some 57), .mv (.tmp 55), none⟩,
 ⟨(some 15), .mv (.tmp 57), none⟩])
 (.any [(true, 0, [], ⟨(some 58), .fa 2 (.tmp 13), none⟩),
 (true, 1, [], ⟨(some 59), .ld1 (.tmp 58), none⟩),
 (true, 2, [], ⟨(some 60), .fa 1 (.tmp 6), none⟩),
 (true, 3, [], ⟨(some 61), .ld1 (.tmp 60), none⟩),
 (true, 4, [], ⟨(some 62), .mv (.tmp 14), none⟩),
 (true, 5, [], ⟨(some 63), .bin .add (.tmp 61) (.tmp 62), none⟩),
 (true, 6, [], ⟨(some 64), .fa 0 (.tmp 13), none⟩),
 (true, 7, [], ⟨(some 65), .ld1 (.tmp 64), none⟩),
 (true, 8, [], ⟨(some 66), .bin .mul (.tmp 63) (.tmp 65), none⟩),
 (true, 9, [], ⟨(some 67), .fa 0 (.tmp 6), none⟩),
 (true, 10, [], ⟨(some 68), .ld1 (.tmp 67), none⟩),
 (true, 11, [], ⟨(some 69), .bin .add (.tmp 66) (.tmp 68), none⟩),
 (true, 12, [], ⟨(some 70), .mv (.tmp 15), none⟩),
 (true, 13, [], ⟨(some 71), .bin .add (.tmp 69) (.tmp 70), none⟩),
 (true, 14, [], ⟨(some 72), .mv (.tmp 12), none⟩),
 (true, 15, [], ⟨(some 73), .bin .mul (.tmp 71) (.tmp 72), none⟩),
 (true, 16, [], ⟨(some 74), .slc 1 (.tmp 59) (some (.tmp 73)) none, none⟩),
 (true, 17, [], ⟨(some 75), .mv (.tmp 3), none⟩),
 (true, 18, [], ⟨(some 76), .mv (.tmp 14), none⟩),
 (true, 19, [], ⟨(some 77), .fa 2 (.tmp 6), none⟩),
 (true, 20, [], ⟨(some 78), .ld1 (.tmp 77), none⟩),
 (true, 21, [], ⟨(some 79), .bin .mul (.tmp 76) (.tmp 78), none⟩),
 (true, 22, [], ⟨(some 80), .mv (.tmp 15), none⟩),
 (true, 23, [], ⟨(some 81), .bin .add (.tmp 79) (.tmp 80), none⟩),
 (true, 24, [], ⟨(some 82), .mv (.tmp 12), none⟩),
 (true, 25, [], ⟨(some 83), .bin .mul (.tmp 81) (.tmp 82), none⟩),
 (true, 26, [], ⟨(some 84), .mv (.tmp 14), none⟩),
 (true, 27, [], ⟨(some 85), .fa 2 (.tmp 6), none⟩),
 (true, 28, [], ⟨(some 86), .ld1 (.tmp 85), none⟩),
 (true, 29, [], ⟨(some 87), .bin .mul (.tmp 84) (.tmp 86), none⟩),
 (true, 30, [], ⟨(some 88), .mv (.tmp 15), none⟩),
 (true, 31, [], ⟨(some 89), .bin .add (.tmp 87) (.tmp 88), none⟩),
 (true, 32, [], ⟨(some 90), .bin .add (.tmp 89) (.const (.int .i64 1)), none⟩),
 (false, 33, [0, 1, 2, 3, 4, 5, 6, 7, 8, 9, 10, 11, 12, 13, 14, 15, 16, 17, 18, 19, 20, 21, 22, 23, 24, 25, 26, 27, 28, 29, 30, 31, 32], ⟨(some 91), .mv (.tmp 12), none⟩),
 (false, 34, [0, 1, 2, 3, 4, 5, 6, 7, 8, 9, 10, 11, 12, 13, 14, 15, 16, 17, 18, 19, 20, 21, 22, 23, 24, 25], ⟨(some 92), .bin .mul (.tmp 90) (.tmp 91), none⟩),
 (false, 35, [0, 1, 2, 3, 4, 5, 6, 7, 8, 9, 10, 11, 12, 13, 14, 15, 16], ⟨(some 93), .slc 1 (.tmp 75) (some (.tmp 83)) (some (.tmp 92)), none⟩),
 (false, 36, [], ⟨(some 94), .cpy 1 (.tmp 74) (.tmp 93), none⟩)])))
 (.reg [⟨(some 95), .bin .add (.tmp 55) (.const (.int .i64 1)), none⟩,
 ⟨(some 55), .mv (.tmp 95), none⟩])))))))))
 (.reg [⟨(some 96), .bin .add (.tmp 50) (.const (.int .i64 1)), none⟩,
 ⟨(some 50), .mv (.tmp 96), none⟩])))))))
 (.seq (.reg [⟨(some 97), .ldn 6 (.tmp 4), none⟩,
 ⟨none, .stn 6 (.tmp 8) (.tmp 97), none⟩,
 ⟨(some 9), .mv (.const (.int .i64 0)), none⟩])
 (.ret))))))))
theorem k35 : fnOk Try.prog 35 = some (M35, [.cn 6 8, .t 9], 98) := by kernel_rfl

theorem r_Sub_err (x : Im) (hx : ImOk w0 H x) (lv : Int) (p : Pc) (a : Option Addr) (n c : Nat) (e : Int) (he : FindE x lv p e) (h : K (.tuple #[zIs, .int .i64 e]) H) : HCalls Try.prog w0 35 [x.v, .int .i64 lv, p.v, .slice a n c] H K := by
  have cG : ∀ (G : Heap) (K : Value → Heap → Prop), Grow w0 H G → K (.tuple #[.slice none 0 0, .int .i64 e]) G → HCalls Try.prog w0 37 [x.v, .int .i64 lv, p.v] G K := fun G K g hk => r_Get_err x (hx.grow g) lv p e he hk
  have hne : ¬ e = 0 := by cases he <;> decide
  clear he hx
  unfold Im.v Pc.v at *
  refine HL.hc k35 999 ?_; unfold M35
  (all_goals (try simp only [Sq,Sr,Sh,Si,Sl,Bu,Bb,Bd,Bc,Bw,Bn,Int.reduceAdd,Int.reduceSub,Int.reduceMul,Int.reduceTDiv,Int.reduceTMod,Int.reduceMod,Int.reduceDiv,Nat.reduceLT,Nat.reduceEqDiff,Sa,Sb,Sc,Sd,Se,Sf,Sg,Int.reduceLE,Int.reduceLT,Int.reduceToNat,Int.reduceNeg,Int.reduceEq,Nat.reduceLeDiff,Nat.reducePow,Int.reducePow,reduceIte,Nat.reduceSub,Nat.reduceAdd,Nat.reduceMul,putAt,ceq,List.replicate, *])); repeat' ((first | (with_reducible refine fun _ : True => ?_) | refine cG _ _ (by (repeat' (first | exact Grow.refl _ | assumption | (refine Grow_known (by first | (simp only [Heap.set_same, set_ne, ne_eq, not_false_eq_true, *] <;> rfl) | fail) ?_) | (refine Grow.set ?_ (by assumption) (by first | (simp only [*] <;> done) | (simp [set_none', Heap.set_same, set_ne, noneH, *] <;> done) | fail)) | (refine Grow.trans ?_ (by assumption))))) ?_ | (with_reducible refine any_h ?_) | ((first | refine AllocQ_i ?_ | refine AllocO_i ?_); intro bk hb0 hbk; (try simp only [set_none'] at hbk); (try (first | have hbn := Grow.none (by assumption) hbk | have hbn := Grow.none (by assumption) hbk.2 | have hbn := Grow.none (by assumption) hbk.2.2 | have hbn := Grow.none (by assumption) hbk.2.2.2 | have hbn := Grow.none (by assumption) hbk.2.2.2.2 | have hbn := Grow.none (by assumption) hbk.2.2.2.2.2)); (try simp only [set_none'] at hbn); (try (first | have hbm := Grow.none (by assumption) hbn | have hbm := Grow.none (by assumption) hbn.2 | have hbm := Grow.none (by assumption) hbn.2.2 | have hbm := Grow.none (by assumption) hbn.2.2.2 | have hbm := Grow.none (by assumption) hbn.2.2.2.2 | have hbm := Grow.none (by assumption) hbn.2.2.2.2.2)); (try simp only [set_none'] at hbm)) | ((first | refine condS_i ?_ ?_ | refine pick_i ?_ ?_ | refine gS_it ?_ ?_ | refine gS_if ?_ ?_ | refine gP_it ?_ ?_ | refine gP_if ?_ ?_) <;> (intro hc; try simp only [Int.reduceLE,Int.reduceLT,Int.reduceEq,Sn] at hc)) | (with_reducible refine KP_i ?_ ?_; · (repeat' (first | exact Heap.Le.refl _ | (with_reducible refine Le_set2 ?_) | (refine Le_known (by first | (simp only [Heap.set_same, set_ne, ne_eq, not_false_eq_true, *] <;> rfl) | fail) ?_) | (refine Le_fresh (by first | (simp only [*] <;> done) | (simp [set_none', Heap.set_same, set_ne, noneH, *] <;> done) | fail) ?_) | (refine Heap.Le.trans ?_ (Grow.le (by assumption))) | exact Le_none | (refine Le_put ?_ (by first | (simp only [Heap.set_same, set_ne, ne_eq, not_false_eq_true, *] <;> rfl) | fail)) | fail))) | (with_reducible refine And.intro ?_ ?_)) <;> (try simp only [Sq,Sr,Sh,Si,Sl,Bu,Bb,Bd,Bc,Bw,Bn,Int.reduceAdd,Int.reduceSub,Int.reduceMul,Int.reduceTDiv,Int.reduceTMod,Int.reduceMod,Int.reduceDiv,Nat.reduceLT,Nat.reduceEqDiff,Sa,Sb,Sc,Sd,Se,Sf,Sg,Int.reduceLE,Int.reduceLT,Int.reduceToNat,Int.reduceNeg,Int.reduceEq,Nat.reduceLeDiff,Nat.reducePow,Int.reducePow,reduceIte,Nat.reduceSub,Nat.reduceAdd,Nat.reduceMul,putAt,ceq,List.replicate, *]))
  all_goals exact Fin_mk (by (repeat' (first | exact Heap.Le.refl _ | (with_reducible refine Le_set2 ?_) | (refine Le_known (by first | (simp only [Heap.set_same, set_ne, ne_eq, not_false_eq_true, *] <;> rfl) | fail) ?_) | (refine Le_fresh (by first | (simp only [*] <;> done) | (simp [set_none', Heap.set_same, set_ne, noneH, *] <;> done) | fail) ?_) | (refine Heap.Le.trans ?_ (Grow.le (by assumption))) | exact Le_none | (refine Le_put ?_ (by first | (simp only [Heap.set_same, set_ne, ne_eq, not_false_eq_true, *] <;> rfl) | fail)) | fail))) h
theorem r_Sub_short (x : Im) (hx : ImOk w0 H x) (lv : Int) (p : Pc) (k : Nat) (z : LvR) (f : FindOk x lv p k z) {S W V X Y P Q : Nat} (g : PG z x.f p S W V X Y P Q) (a : Option Addr) (n c : Nat) (hn : n ≠ P * Q * S) (h : ∀ G, Grow w0 H G → K (.tuple #[zIs, .int .i64 7]) G) :
    HCalls Try.prog w0 35 [x.v, .int .i64 lv, p.v, .slice a n c] H K := by
  have cG : ∀ (G : Heap) (K : Value → Heap → Prop), Grow w0 H G → (∀ a c G', Bld w0 G G' a c 1 5 ((pieceB z.l S W X Y P Q).map (.int .u8)) → Grow w0 G G' → K (.tuple #[.slice a (pieceB z.l S W X Y P Q).length c, .int .i64 0]) G') → HCalls Try.prog w0 37 [x.v, .int .i64 lv, p.v] G K := fun G K gg hk => r_Get_ok x (hx.grow gg) lv p k z f g hk
  have cS := fun (G : Heap) (K : Value → Heap → Prop) => r_Size8 (w0 := w0) (H := G) (K := K) x.f
  rw [g.s] at cS
  obtain ⟨t1, t2, -⟩ := pg_area g
  have t3 : ¬ (n : Int) = ((P * Q * S : Nat) : Int) := by omega
  have h' : Keep _ := h
  clear hx f g hn h
  unfold Im.v Pc.v at *
  refine HL.hc k35 999 ?_; unfold M35
  (all_goals (try simp only [Sq,Sr,Sh,Si,Sl,Bu,Bb,Bd,Bc,Bw,Bn,Int.reduceAdd,Int.reduceSub,Int.reduceMul,Int.reduceTDiv,Int.reduceTMod,Int.reduceMod,Int.reduceDiv,Nat.reduceLT,Nat.reduceEqDiff,Sa,Sb,Sc,Sd,Se,Sf,Sg,Int.reduceLE,Int.reduceLT,Int.reduceToNat,Int.reduceNeg,Int.reduceEq,Nat.reduceLeDiff,Nat.reducePow,Int.reducePow,reduceIte,Nat.reduceSub,Nat.reduceAdd,Nat.reduceMul,putAt,ceq,List.replicate, *])); repeat' ((first | (with_reducible refine fun _ : True => ?_) | refine cG _ _ (by (repeat' (first | exact Grow.refl _ | assumption | (refine Grow_known (by first | (simp only [Heap.set_same, set_ne, ne_eq, not_false_eq_true, *] <;> rfl) | fail) ?_) | (refine Grow.set ?_ (by assumption) (by first | (simp only [*] <;> done) | (simp [set_none', Heap.set_same, set_ne, noneH, *] <;> done) | fail)) | (refine Grow.trans ?_ (by assumption))))) (fun aa cc G' hB hg => ?_)  | (with_reducible refine any_h ?_) | ((first | refine AllocQ_i ?_ | refine AllocO_i ?_); intro bk hb0 hbk; (try simp only [set_none'] at hbk); (try (first | have hbn := Grow.none (by assumption) hbk | have hbn := Grow.none (by assumption) hbk.2 | have hbn := Grow.none (by assumption) hbk.2.2 | have hbn := Grow.none (by assumption) hbk.2.2.2 | have hbn := Grow.none (by assumption) hbk.2.2.2.2 | have hbn := Grow.none (by assumption) hbk.2.2.2.2.2)); (try simp only [set_none'] at hbn); (try (first | have hbm := Grow.none (by assumption) hbn | have hbm := Grow.none (by assumption) hbn.2 | have hbm := Grow.none (by assumption) hbn.2.2 | have hbm := Grow.none (by assumption) hbn.2.2.2 | have hbm := Grow.none (by assumption) hbn.2.2.2.2 | have hbm := Grow.none (by assumption) hbn.2.2.2.2.2)); (try simp only [set_none'] at hbm)) | ((first | refine condS_i ?_ ?_ | refine pick_i ?_ ?_ | refine gS_it ?_ ?_ | refine gS_if ?_ ?_ | refine gP_it ?_ ?_ | refine gP_if ?_ ?_) <;> (intro hc; try simp only [Int.reduceLE,Int.reduceLT,Int.reduceEq,Sn] at hc)) | (with_reducible refine KP_i ?_ ?_; · (repeat' (first | exact Heap.Le.refl _ | (with_reducible refine Le_set2 ?_) | (refine Le_known (by first | (simp only [Heap.set_same, set_ne, ne_eq, not_false_eq_true, *] <;> rfl) | fail) ?_) | (refine Le_fresh (by first | (simp only [*] <;> done) | (simp [set_none', Heap.set_same, set_ne, noneH, *] <;> done) | fail) ?_) | (refine Heap.Le.trans ?_ (Grow.le (by assumption))) | exact Le_none | (refine Le_put ?_ (by first | (simp only [Heap.set_same, set_ne, ne_eq, not_false_eq_true, *] <;> rfl) | fail)) | fail))) | (with_reducible refine And.intro ?_ ?_)) <;> (try simp only [Sq,Sr,Sh,Si,Sl,Bu,Bb,Bd,Bc,Bw,Bn,Int.reduceAdd,Int.reduceSub,Int.reduceMul,Int.reduceTDiv,Int.reduceTMod,Int.reduceMod,Int.reduceDiv,Nat.reduceLT,Nat.reduceEqDiff,Sa,Sb,Sc,Sd,Se,Sf,Sg,Int.reduceLE,Int.reduceLT,Int.reduceToNat,Int.reduceNeg,Int.reduceEq,Nat.reduceLeDiff,Nat.reducePow,Int.reducePow,reduceIte,Nat.reduceSub,Nat.reduceAdd,Nat.reduceMul,putAt,ceq,List.replicate, *]))
  rw [up3 hg (by simp only [Heap.set_same, set_ne, ne_eq, not_false_eq_true, *] <;> rfl) (by simp only [Heap.set_same, set_ne, ne_eq, not_false_eq_true, *] <;> rfl)]
  have gg : Grow w0 H G' := Grow.trans (by (repeat' (first | exact Grow.refl _ | assumption | (refine Grow_known (by first | (simp only [Heap.set_same, set_ne, ne_eq, not_false_eq_true, *] <;> rfl) | fail) ?_) | (refine Grow.set ?_ (by assumption) (by first | (simp only [*] <;> done) | (simp [set_none', Heap.set_same, set_ne, noneH, *] <;> done) | fail)) | (refine Grow.trans ?_ (by assumption))))) hg
  clear cG hB
  (all_goals (try simp only [Sq,Sr,Sh,Si,Sl,Bu,Bb,Bd,Bc,Bw,Bn,Int.reduceAdd,Int.reduceSub,Int.reduceMul,Int.reduceTDiv,Int.reduceTMod,Int.reduceMod,Int.reduceDiv,Nat.reduceLT,Nat.reduceEqDiff,Sa,Sb,Sc,Sd,Se,Sf,Sg,Int.reduceLE,Int.reduceLT,Int.reduceToNat,Int.reduceNeg,Int.reduceEq,Nat.reduceLeDiff,Nat.reducePow,Int.reducePow,reduceIte,Nat.reduceSub,Nat.reduceAdd,Nat.reduceMul,putAt,ceq,List.replicate, *])); repeat' ((first | (with_reducible refine fun _ : True => ?_) | refine cS _ _ ?_ | (with_reducible refine any_h ?_) | ((first | refine AllocQ_i ?_ | refine AllocO_i ?_); intro bk hb0 hbk; (try simp only [set_none'] at hbk); (try (first | have hbn := Grow.none (by assumption) hbk | have hbn := Grow.none (by assumption) hbk.2 | have hbn := Grow.none (by assumption) hbk.2.2 | have hbn := Grow.none (by assumption) hbk.2.2.2 | have hbn := Grow.none (by assumption) hbk.2.2.2.2 | have hbn := Grow.none (by assumption) hbk.2.2.2.2.2)); (try simp only [set_none'] at hbn); (try (first | have hbm := Grow.none (by assumption) hbn | have hbm := Grow.none (by assumption) hbn.2 | have hbm := Grow.none (by assumption) hbn.2.2 | have hbm := Grow.none (by assumption) hbn.2.2.2 | have hbm := Grow.none (by assumption) hbn.2.2.2.2 | have hbm := Grow.none (by assumption) hbn.2.2.2.2.2)); (try simp only [set_none'] at hbm)) | ((first | refine condS_i ?_ ?_ | refine pick_i ?_ ?_ | refine gS_it ?_ ?_ | refine gS_if ?_ ?_ | refine gP_it ?_ ?_ | refine gP_if ?_ ?_) <;> (intro hc; try simp only [Int.reduceLE,Int.reduceLT,Int.reduceEq,Sn] at hc)) | (with_reducible refine KP_i ?_ ?_; · (repeat' (first | exact Heap.Le.refl _ | (with_reducible refine Le_set2 ?_) | (refine Le_known (by first | (simp only [Heap.set_same, set_ne, ne_eq, not_false_eq_true, *] <;> rfl) | fail) ?_) | (refine Le_fresh (by first | (simp only [*] <;> done) | (simp [set_none', Heap.set_same, set_ne, noneH, *] <;> done) | fail) ?_) | (refine Heap.Le.trans ?_ (Grow.le (by assumption))) | exact Le_none | (refine Le_put ?_ (by first | (simp only [Heap.set_same, set_ne, ne_eq, not_false_eq_true, *] <;> rfl) | fail)) | fail))) | (with_reducible refine And.intro ?_ ?_)) <;> (try simp only [Sq,Sr,Sh,Si,Sl,Bu,Bb,Bd,Bc,Bw,Bn,Int.reduceAdd,Int.reduceSub,Int.reduceMul,Int.reduceTDiv,Int.reduceTMod,Int.reduceMod,Int.reduceDiv,Nat.reduceLT,Nat.reduceEqDiff,Sa,Sb,Sc,Sd,Se,Sf,Sg,Int.reduceLE,Int.reduceLT,Int.reduceToNat,Int.reduceNeg,Int.reduceEq,Nat.reduceLeDiff,Nat.reducePow,Int.reducePow,reduceIte,Nat.reduceSub,Nat.reduceAdd,Nat.reduceMul,putAt,ceq,List.replicate, *]))
  all_goals exact Fin_mk (Heap.Le.refl _) ((show ∀ G, _ → _ from h') _ (by (repeat' (first | exact Grow.refl _ | assumption | (refine Grow_known (by first | (simp only [Heap.set_same, set_ne, ne_eq, not_false_eq_true, *] <;> rfl) | fail) ?_) | (refine Grow.set ?_ (by assumption) (by first | (simp only [*] <;> done) | (simp [set_none', Heap.set_same, set_ne, noneH, *] <;> done) | fail)) | (refine Grow.trans ?_ (by assumption))))))
end Go.Proofs.Ytdaipgnhconfnaa
